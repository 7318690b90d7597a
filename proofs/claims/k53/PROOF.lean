import PyProof.Rows.All
import Wide.All
import OpenK.AllK
import Wide.FinOn
import HandS.ForMost
import HandS.ForExc
import HandS.More
import HandS.SortInts
import HandS.Conv
import HandS.Defaults
import HandS.IsInst
import HandS.ExcValue
import HandS.ExcIs
import HandS.Flow
import HandS.Codes
import HandS.TupLen
import HandS.StrMore
import HandS.SetFor
import HandS.Style
import HandS.DictTup
import HandS.ListItems
import HandS.TupAny
import HandS.Finally
import HandS.Wide
import HandS.Replace
import HandS.Zip
import HandS.Walk
import HandS.DeepEq
import HandS.Head0
import HandS.Head1
import HandS.Head2
import HandS.HeadEnd
import HandS.HeadHook1
import HandS.HeadHook2
import HandS.HeadHook3
import HandS.HeadHook4
import HandS.EndBits
import HandS.HotCalls
import HandS.ExcCtx
import HandS.Small
import HandS.Strs
import HandS.Sort
import PyProof.LongRange
import PySem.Challenge.RW_ownroom_k53_pipes_first_in_first_out
set_option Elab.async false
set_option linter.all false
set_option maxRecDepth 100000
set_option pp.mvars false
set_option pp.deepTerms false
set_option pp.deepTerms.threshold 10
set_option pp.maxSteps 1500
set_option maxHeartbeats 4000000
namespace Ow
open PySem PySem.Spec PyProof.Rows L2
def excB (K : PySem.W.Frag) (D : Addr) : Bool := [PySem.W.findIn K (.ref D) "__getattribute__" == some (some (.builtin "BaseException.__getattribute__")), PySem.W.findIn K (.ref D) "__getattr__" == some none, PySem.W.subIn K (.ref D) (.type "BaseException") == some true, PySem.W.hasDictIn K D,
  PySem.W.findIn K (.ref D) "__class__" == some (some (.builtin "object.__class__")), PySem.W.specialIn K (.builtin "object.__class__") "__get__" == some (some (.builtin "getset_descriptor.__get__")), PySem.W.takesIn K (.builtin "object.__class__") == some true, PySem.W.mroIn K D (.type "object") == some true].all id
def clsOk (K : PySem.W.Frag) (C : Addr) : Bool := (PySem.W.clsIn K C).isSome && PySem.W.typeIn K (.ref C) == some (.type "type")
def mroB (K : PySem.W.Frag) (D : Addr) (cs : List Value) (bs : List Bool) : Bool := match PySem.W.clsIn K D with
  | some cd => !cd.mro.isEmpty && (cd.mro.contains (.ref D) && (cs.map fun c => cd.mro.contains c) == bs)
  | none => false
def top (i : Nat) : Stmt := PySem.Challenge.pw_ownroom_k53_pipes_first_in_first_out.main.body.getD i (.Pass ⟨0, 0, 0, 0⟩)
abbrev s_BadRow___init__ : Stmt := inClass (top 28) 0
abbrev s_Pipe___init__ : Stmt := inClass (top 31) 0
abbrev s_Pipe_draw : Stmt := inClass (top 31) 1
abbrev s_Pipe_pour : Stmt := inClass (top 31) 2
abbrev s_Pipe_shut : Stmt := inClass (top 31) 3
abbrev s_Thing___init__ : Stmt := inClass (top 35) 0
abbrev s_Opens___init__ : Stmt := inClass (top 36) 0
abbrev s_Opens_new_thing : Stmt := inClass (top 36) 1
abbrev s_Opens_thing : Stmt := inClass (top 36) 2
abbrev s_Opens_thing_for : Stmt := inClass (top 36) 3
abbrev s_Opens_open_node : Stmt := inClass (top 36) 4
abbrev s_Opens_open_pipe : Stmt := inClass (top 36) 5
abbrev s_Opens_more : Stmt := inClass (top 36) 6
abbrev s_Opens_less : Stmt := inClass (top 36) 7
abbrev s_Opens_read : Stmt := inClass (top 36) 8
abbrev s_Opens_write : Stmt := inClass (top 36) 9
abbrev s_Opens_seek : Stmt := inClass (top 36) 10
abbrev s_Opens_count : Stmt := inClass (top 36) 11
abbrev s_Opens_numbers : Stmt := inClass (top 36) 12
abbrev s_PlainDir___init__ : Stmt := inClass (top 47) 0
abbrev s_PlainFiles___init__ : Stmt := inClass (top 58) 0
abbrev s_PlainFiles_read_at : Stmt := inClass (top 58) 10
abbrev s_PlainFiles_write_at : Stmt := inClass (top 58) 11
abbrev s_PlainFiles_loose : Stmt := inClass (top 58) 14
abbrev s__law_begin : Stmt := top 60
abbrev s__law_draw : Stmt := top 61
abbrev s__law_word : Stmt := top 62
abbrev s__law_done : Stmt := top 63
abbrev s__law_told : Stmt := top 64
abbrev s__law_world : Stmt := top 65
abbrev s__law_new : Stmt := top 66
abbrev s__law_opened : Stmt := top 67
abbrev s__law_read : Stmt := top 68
abbrev s__law_write : Stmt := top 69
abbrev s__law_counted : Stmt := top 70
abbrev s__law_due : Stmt := top 71
abbrev s__law_same : Stmt := top 72
abbrev s__law_right : Stmt := top 73
abbrev s__law_cells : Stmt := top 74
abbrev s_law : Stmt := top 75
def fns0 : List He.DefD := [⟨("BadRow", some "__init__"), "__init__", "BadRow.__init__", defArgs (inClass (top 28) 0), defBody (inClass (top 28) 0), defScope (inClass (top 28) 0), [], []⟩, ⟨("Pipe", some "__init__"), "__init__", "Pipe.__init__", defArgs (inClass (top 31) 0), defBody (inClass (top 31) 0), defScope (inClass (top 31) 0), [], []⟩, ⟨("Pipe", some "draw"), "draw", "Pipe.draw", defArgs (inClass (top 31) 1), defBody (inClass (top 31) 1), defScope (inClass (top 31) 1), [], []⟩, ⟨("Pipe", some "pour"), "pour", "Pipe.pour", defArgs (inClass (top 31) 2), defBody (inClass (top 31) 2), defScope (inClass (top 31) 2), [], []⟩, ⟨("Pipe", some "shut"), "shut", "Pipe.shut", defArgs (inClass (top 31) 3), defBody (inClass (top 31) 3), defScope (inClass (top 31) 3), [], []⟩, ⟨("Thing", some "__init__"), "__init__", "Thing.__init__", defArgs (inClass (top 35) 0), defBody (inClass (top 35) 0), defScope (inClass (top 35) 0), [], []⟩, ⟨("Opens", some "__init__"), "__init__", "Opens.__init__", defArgs (inClass (top 36) 0), defBody (inClass (top 36) 0), defScope (inClass (top 36) 0), [], []⟩, ⟨("Opens", some "new_thing"), "new_thing", "Opens.new_thing", defArgs (inClass (top 36) 1), defBody (inClass (top 36) 1), defScope (inClass (top 36) 1), [], []⟩, ⟨("Opens", some "thing"), "thing", "Opens.thing", defArgs (inClass (top 36) 2), defBody (inClass (top 36) 2), defScope (inClass (top 36) 2), [], []⟩, ⟨("Opens", some "thing_for"), "thing_for", "Opens.thing_for", defArgs (inClass (top 36) 3), defBody (inClass (top 36) 3), defScope (inClass (top 36) 3), [], []⟩, ⟨("Opens", some "open_node"), "open_node", "Opens.open_node", defArgs (inClass (top 36) 4), defBody (inClass (top 36) 4), defScope (inClass (top 36) 4), [], []⟩, ⟨("Opens", some "open_pipe"), "open_pipe", "Opens.open_pipe", defArgs (inClass (top 36) 5), defBody (inClass (top 36) 5), defScope (inClass (top 36) 5), [], []⟩, ⟨("Opens", some "more"), "more", "Opens.more", defArgs (inClass (top 36) 6), defBody (inClass (top 36) 6), defScope (inClass (top 36) 6), [], []⟩, ⟨("Opens", some "less"), "less", "Opens.less", defArgs (inClass (top 36) 7), defBody (inClass (top 36) 7), defScope (inClass (top 36) 7), [], []⟩, ⟨("Opens", some "read"), "read", "Opens.read", defArgs (inClass (top 36) 8), defBody (inClass (top 36) 8), defScope (inClass (top 36) 8), [], []⟩, ⟨("Opens", some "write"), "write", "Opens.write", defArgs (inClass (top 36) 9), defBody (inClass (top 36) 9), defScope (inClass (top 36) 9), [], []⟩, ⟨("Opens", some "seek"), "seek", "Opens.seek", defArgs (inClass (top 36) 10), defBody (inClass (top 36) 10), defScope (inClass (top 36) 10), [], []⟩, ⟨("Opens", some "count"), "count", "Opens.count", defArgs (inClass (top 36) 11), defBody (inClass (top 36) 11), defScope (inClass (top 36) 11), [], []⟩, ⟨("Opens", some "numbers"), "numbers", "Opens.numbers", defArgs (inClass (top 36) 12), defBody (inClass (top 36) 12), defScope (inClass (top 36) 12), [], []⟩, ⟨("PlainDir", some "__init__"), "__init__", "PlainDir.__init__", defArgs (inClass (top 47) 0), defBody (inClass (top 47) 0), defScope (inClass (top 47) 0), [], []⟩, ⟨("PlainFiles", some "__init__"), "__init__", "PlainFiles.__init__", defArgs (inClass (top 58) 0), defBody (inClass (top 58) 0), defScope (inClass (top 58) 0), [], []⟩, ⟨("PlainFiles", some "read_at"), "read_at", "PlainFiles.read_at", defArgs (inClass (top 58) 10), defBody (inClass (top 58) 10), defScope (inClass (top 58) 10), [], []⟩, ⟨("PlainFiles", some "write_at"), "write_at", "PlainFiles.write_at", defArgs (inClass (top 58) 11), defBody (inClass (top 58) 11), defScope (inClass (top 58) 11), [], []⟩, ⟨("PlainFiles", some "loose"), "loose", "PlainFiles.loose", defArgs (inClass (top 58) 14), defBody (inClass (top 58) 14), defScope (inClass (top 58) 14), [], []⟩]
def fns1 : List He.DefD := [⟨("_law_begin", none), "_law_begin", "_law_begin", defArgs (top 60), defBody (top 60), defScope (top 60), [], []⟩, ⟨("_law_draw", none), "_law_draw", "_law_draw", defArgs (top 61), defBody (top 61), defScope (top 61), [], []⟩, ⟨("_law_word", none), "_law_word", "_law_word", defArgs (top 62), defBody (top 62), defScope (top 62), [], []⟩, ⟨("_law_done", none), "_law_done", "_law_done", defArgs (top 63), defBody (top 63), defScope (top 63), [], []⟩, ⟨("_law_told", none), "_law_told", "_law_told", defArgs (top 64), defBody (top 64), defScope (top 64), [], []⟩, ⟨("_law_world", none), "_law_world", "_law_world", defArgs (top 65), defBody (top 65), defScope (top 65), [], []⟩, ⟨("_law_new", none), "_law_new", "_law_new", defArgs (top 66), defBody (top 66), defScope (top 66), [], []⟩, ⟨("_law_opened", none), "_law_opened", "_law_opened", defArgs (top 67), defBody (top 67), defScope (top 67), [], []⟩, ⟨("_law_read", none), "_law_read", "_law_read", defArgs (top 68), defBody (top 68), defScope (top 68), [], []⟩, ⟨("_law_write", none), "_law_write", "_law_write", defArgs (top 69), defBody (top 69), defScope (top 69), [], []⟩, ⟨("_law_counted", none), "_law_counted", "_law_counted", defArgs (top 70), defBody (top 70), defScope (top 70), [], []⟩, ⟨("_law_due", none), "_law_due", "_law_due", defArgs (top 71), defBody (top 71), defScope (top 71), [], []⟩, ⟨("_law_same", none), "_law_same", "_law_same", defArgs (top 72), defBody (top 72), defScope (top 72), [], []⟩, ⟨("_law_right", none), "_law_right", "_law_right", defArgs (top 73), defBody (top 73), defScope (top 73), [], []⟩, ⟨("_law_cells", none), "_law_cells", "_law_cells", defArgs (top 74), defBody (top 74), defScope (top 74), [], []⟩, ⟨("law", none), "law", "law", defArgs (top 75), defBody (top 75), defScope (top 75), [], []⟩]
def fns : List He.DefD := fns0 ++ fns1
def fa0 : List He.Fa := [.glo "KernelError", .glo "NoOwner", .glo "NoTask", .glo "NoPage", .glo "NoRoom", .glo "Taken", .glo "NoBlock", .glo "Fallen", .glo "BadName", .glo "NoName", .glo "NotDir", .glo "IsDir", .glo "NotEmpty", .glo "Inside", .glo "NoNode", .glo "NoSpace", .glo "TooMany", .glo "TooBig", .glo "NotHeld", .glo "NotAllowed", .glo "NoHandle", .glo "BadMode", .glo "Again", .glo "Broken"]
def fa1 : List He.Fa := [.glo "NoChild", .glo "BadCall", .glo "BadRow", .int "PIPE_ROOM" 16, .glo "Pipe", .int "LONGEST_opens" 320, .glo "Thing", .glo "Opens", .glo "PlainDir", .glo "PlainFiles", .glo "_law_begin", .glo "_law_draw", .glo "_law_word", .glo "_law_done", .glo "_law_told", .glo "_law_world", .glo "_law_new", .glo "_law_opened", .glo "_law_read", .glo "_law_write", .glo "_law_counted", .glo "_law_due", .glo "_law_same", .glo "_law_right"]
def fa2 : List He.Fa := [.glo "_law_cells", .glo "law", .free "ValueError", .free "isinstance", .free "int", .free "list", .free "range", .free "len", .free "sorted", .free "tuple", .free "all", .free "min", .free "abs", .free "bool", .free "zip", .exc "TooBig", .exc "NoHandle", .exc "BadMode", .exc "Again", .exc "Broken", .cls "Pipe", .mkr "Pipe", .meth "Pipe" "draw", .meth "Pipe" "pour"]
def fa3 : List He.Fa := [.meth "Pipe" "shut", .noat "Pipe" "waiting", .noat "Pipe" "reader", .noat "Pipe" "writer", .cls "Thing", .mkr "Thing", .noat "Thing" "mode", .noat "Thing" "node", .noat "Thing" "pipe", .noat "Thing" "at", .noat "Thing" "owners", .cls "Opens", .mkr "Opens", .meth "Opens" "new_thing", .meth "Opens" "thing", .meth "Opens" "thing_for", .meth "Opens" "open_node", .meth "Opens" "open_pipe", .meth "Opens" "more", .meth "Opens" "less", .meth "Opens" "read", .meth "Opens" "write", .meth "Opens" "seek", .meth "Opens" "count"]
def fa4 : List He.Fa := [.meth "Opens" "numbers", .noat "Opens" "files", .noat "Opens" "things", .noat "Opens" "last", .cls "PlainDir", .mkr "PlainDir", .noat "PlainDir" "slots", .cls "PlainFiles", .mkr "PlainFiles", .meth "PlainFiles" "read_at", .meth "PlainFiles" "write_at", .meth "PlainFiles" "loose", .noat "PlainFiles" "blocks", .noat "PlainFiles" "nodes"]
def fas : List He.Fa := fa0 ++ fa1 ++ fa2 ++ fa3 ++ fa4
def exL0 (K : PySem.W.Frag) : List Bool := [He.tupB K "MODES" [.str "r", .str "w", .str "rw"], excB K (He.ga K "Again"), clsOk K (He.ga K "NoOwner"), clsOk K (He.ga K "NoTask"), clsOk K (He.ga K "NoPage"), clsOk K (He.ga K "NoRoom"), clsOk K (He.ga K "Taken"), clsOk K (He.ga K "NoBlock"), clsOk K (He.ga K "Fallen"), clsOk K (He.ga K "BadName"), clsOk K (He.ga K "NoName"), clsOk K (He.ga K "NotDir")]
def exL1 (K : PySem.W.Frag) : List Bool := [clsOk K (He.ga K "NoHandle"), clsOk K (He.ga K "BadMode"), clsOk K (He.ga K "TooBig"), clsOk K (He.ga K "NotEmpty"), clsOk K (He.ga K "Inside"), clsOk K (He.ga K "TooMany"), clsOk K (He.ga K "NotHeld"), clsOk K (He.ga K "NotAllowed"), clsOk K (He.ga K "NoChild"), clsOk K (He.ga K "BadCall"), clsOk K (He.ga K "BadRow"), clsOk K (He.ga K "Again")]
def exL2 (K : PySem.W.Frag) : List Bool := [clsOk K (He.ga K "Broken"), clsOk K (He.ga K "NoNode"), clsOk K (He.ga K "IsDir"), clsOk K (He.ga K "NoSpace"), mroB K (He.ga K "Again") [(.ref (He.ga K "NoOwner")), (.ref (He.ga K "NoTask")), (.ref (He.ga K "NoPage")), (.ref (He.ga K "NoRoom")), (.ref (He.ga K "Taken")), (.ref (He.ga K "NoBlock")), (.ref (He.ga K "Fallen")), (.ref (He.ga K "BadName")), (.ref (He.ga K "NoName")), (.ref (He.ga K "NotDir")), (.ref (He.ga K "NoHandle")), (.ref (He.ga K "BadMode")), (.ref (He.ga K "TooBig")), (.ref (He.ga K "NotEmpty")), (.ref (He.ga K "Inside")), (.ref (He.ga K "TooMany")), (.ref (He.ga K "NotHeld")), (.ref (He.ga K "NotAllowed")), (.ref (He.ga K "NoChild")), (.ref (He.ga K "BadCall")), (.ref (He.ga K "BadRow")), (.ref (He.ga K "Again")), (.ref (He.ga K "Broken")), (.ref (He.ga K "NoNode")), (.ref (He.ga K "IsDir")), (.ref (He.ga K "NoSpace")), (.type "ValueError")] [false, false, false, false, false, false, false, false, false, false, false, false, false, false, false, false, false, false, false, false, false, true, false, false, false, false, true], (PySem.W.exmOne K (.ref (He.ga K "Again")) (.ref (He.ga K "KernelError")) == some true), excB K (He.ga K "TooBig"), mroB K (He.ga K "TooBig") [(.ref (He.ga K "NoOwner")), (.ref (He.ga K "NoTask")), (.ref (He.ga K "NoPage")), (.ref (He.ga K "NoRoom")), (.ref (He.ga K "Taken")), (.ref (He.ga K "NoBlock")), (.ref (He.ga K "Fallen")), (.ref (He.ga K "BadName")), (.ref (He.ga K "NoName")), (.ref (He.ga K "NotDir")), (.ref (He.ga K "NoHandle")), (.ref (He.ga K "BadMode")), (.ref (He.ga K "TooBig")), (.ref (He.ga K "NotEmpty")), (.ref (He.ga K "Inside")), (.ref (He.ga K "TooMany")), (.ref (He.ga K "NotHeld")), (.ref (He.ga K "NotAllowed")), (.ref (He.ga K "NoChild")), (.ref (He.ga K "BadCall")), (.ref (He.ga K "BadRow")), (.ref (He.ga K "Again")), (.ref (He.ga K "Broken")), (.ref (He.ga K "NoNode")), (.ref (He.ga K "IsDir")), (.ref (He.ga K "NoSpace")), (.type "ValueError")] [false, false, false, false, false, false, false, false, false, false, false, false, true, false, false, false, false, false, false, false, false, false, false, false, false, false, true], (PySem.W.exmOne K (.ref (He.ga K "TooBig")) (.ref (He.ga K "KernelError")) == some true), excB K (He.ga K "Broken"), mroB K (He.ga K "Broken") [(.ref (He.ga K "NoOwner")), (.ref (He.ga K "NoTask")), (.ref (He.ga K "NoPage")), (.ref (He.ga K "NoRoom")), (.ref (He.ga K "Taken")), (.ref (He.ga K "NoBlock")), (.ref (He.ga K "Fallen")), (.ref (He.ga K "BadName")), (.ref (He.ga K "NoName")), (.ref (He.ga K "NotDir")), (.ref (He.ga K "NoHandle")), (.ref (He.ga K "BadMode")), (.ref (He.ga K "TooBig")), (.ref (He.ga K "NotEmpty")), (.ref (He.ga K "Inside")), (.ref (He.ga K "TooMany")), (.ref (He.ga K "NotHeld")), (.ref (He.ga K "NotAllowed")), (.ref (He.ga K "NoChild")), (.ref (He.ga K "BadCall")), (.ref (He.ga K "BadRow")), (.ref (He.ga K "Again")), (.ref (He.ga K "Broken")), (.ref (He.ga K "NoNode")), (.ref (He.ga K "IsDir")), (.ref (He.ga K "NoSpace")), (.type "ValueError")] [false, false, false, false, false, false, false, false, false, false, false, false, false, false, false, false, false, false, false, false, false, false, true, false, false, false, true], (PySem.W.exmOne K (.ref (He.ga K "Broken")) (.ref (He.ga K "KernelError")) == some true)]
def exL3 (K : PySem.W.Frag) : List Bool := [excB K (He.ga K "NoHandle"), mroB K (He.ga K "NoHandle") [(.ref (He.ga K "NoOwner")), (.ref (He.ga K "NoTask")), (.ref (He.ga K "NoPage")), (.ref (He.ga K "NoRoom")), (.ref (He.ga K "Taken")), (.ref (He.ga K "NoBlock")), (.ref (He.ga K "Fallen")), (.ref (He.ga K "BadName")), (.ref (He.ga K "NoName")), (.ref (He.ga K "NotDir")), (.ref (He.ga K "NoHandle")), (.ref (He.ga K "BadMode")), (.ref (He.ga K "TooBig")), (.ref (He.ga K "NotEmpty")), (.ref (He.ga K "Inside")), (.ref (He.ga K "TooMany")), (.ref (He.ga K "NotHeld")), (.ref (He.ga K "NotAllowed")), (.ref (He.ga K "NoChild")), (.ref (He.ga K "BadCall")), (.ref (He.ga K "BadRow")), (.ref (He.ga K "Again")), (.ref (He.ga K "Broken")), (.ref (He.ga K "NoNode")), (.ref (He.ga K "IsDir")), (.ref (He.ga K "NoSpace")), (.type "ValueError")] [false, false, false, false, false, false, false, false, false, false, true, false, false, false, false, false, false, false, false, false, false, false, false, false, false, false, true], (PySem.W.exmOne K (.ref (He.ga K "NoHandle")) (.ref (He.ga K "KernelError")) == some true), excB K (He.ga K "BadMode"), mroB K (He.ga K "BadMode") [(.ref (He.ga K "NoOwner")), (.ref (He.ga K "NoTask")), (.ref (He.ga K "NoPage")), (.ref (He.ga K "NoRoom")), (.ref (He.ga K "Taken")), (.ref (He.ga K "NoBlock")), (.ref (He.ga K "Fallen")), (.ref (He.ga K "BadName")), (.ref (He.ga K "NoName")), (.ref (He.ga K "NotDir")), (.ref (He.ga K "NoHandle")), (.ref (He.ga K "BadMode")), (.ref (He.ga K "TooBig")), (.ref (He.ga K "NotEmpty")), (.ref (He.ga K "Inside")), (.ref (He.ga K "TooMany")), (.ref (He.ga K "NotHeld")), (.ref (He.ga K "NotAllowed")), (.ref (He.ga K "NoChild")), (.ref (He.ga K "BadCall")), (.ref (He.ga K "BadRow")), (.ref (He.ga K "Again")), (.ref (He.ga K "Broken")), (.ref (He.ga K "NoNode")), (.ref (He.ga K "IsDir")), (.ref (He.ga K "NoSpace")), (.type "ValueError")] [false, false, false, false, false, false, false, false, false, false, false, true, false, false, false, false, false, false, false, false, false, false, false, false, false, false, true], (PySem.W.exmOne K (.ref (He.ga K "BadMode")) (.ref (He.ga K "KernelError")) == some true)]
def exL (K : PySem.W.Frag) : List Bool := [(exL0 K).all id, (exL1 K).all id, (exL2 K).all id, (exL3 K).all id]
def exB (K : PySem.W.Frag) : Bool := (exL K).all id
abbrev hk : PySem.W.Hook := He.hookX 4 fas fns [] [] exB
def ob (s : PySem.W.SharedT) : He.AlX := He.obsX 4 fas fns [] [] exB (HandSHeadRun.getT s)
theorem ob_eq (s : PySem.W.SharedT) : ob s = hk.obs s.abs := He.obsX_eq (HandSHeadRun.getT_eq s)
def loose0 : List PySem.Str := ["_wall", "KernelError", "NoOwner", "NoTask", "NoPage", "NoRoom", "Taken", "NoBlock", "Fallen", "BadName", "NoName", "NotDir", "IsDir", "NotEmpty", "Inside", "NoNode", "NoSpace", "TooMany", "TooBig", "NotHeld", "NotAllowed", "NoHandle", "BadMode", "Again"]
def loose1 : List PySem.Str := ["Broken", "NoChild", "BadCall", "BadRow", "PIPE_ROOM", "Pipe", "MODES", "LONGEST_opens", "Thing", "Opens", "SMALL", "LONGEST_paths", "is_name", "names_of", "SLOT_CELLS", "BLOCK_CELLS", "PLAIN_CELLS", "blocks_for", "PlainDir", "node_known", "file_known", "walked", "blocks_free", "look_size"]
def loose2 : List PySem.Str := ["MOST_NODES", "MOST_CELLS", "clear_lost", "PlainFiles", "_law_begin", "_law_draw", "_law_word", "_law_done", "_law_told", "_law_world", "_law_new", "_law_opened", "_law_read", "_law_write", "_law_counted", "_law_due", "_law_same", "_law_right", "_law_cells"]
def loose : List PySem.Str := loose0 ++ loose1 ++ loose2
abbrev R : PySem.W.OpenRow := PySem.W.OpenLaw.row PySem.Challenge.rw_ownroom_k53_pipes_first_in_first_out
theorem run (w : World) : HandSHeadRun.RunEq R (PySem.W.view R.prog [75]) hk ob 60000 loose w := by
  intro os
  kernel_rfl
end Ow
namespace Ow
open PySem PySem.Spec PyProof.Rows L2
theorem passLN {X : Cx} : Passes (L2N.CX X.prog X.w) X E0 := fun pins σ H s e s' I h => by
  obtain ⟨a, B, H', cls, d, e1, e2, e3, e4, e5, e6, e7, z⟩ := h
  exact z.elim
theorem takes0N {X : Cx} : L2N.Takes X (fun cls d σ H => False) := fun u s' h => by
  obtain ⟨a, B, sI, pins, σ, H, cls, d, e1, e2, e3, e4, e5, e6, e7, e8, z⟩ := h
  exact z.elim
end Ow
namespace Ow
open PySem PySem.Spec PyProof.Rows L2
/-! ## My own layer: what a def owns (cells), a def that may be called, readings that stop at calls and loops -/
/-! ### cells -/
abbrev Cells := List (Addr × HO)
def adr (cs : Cells) : List Addr := cs.map Prod.fst
/-- from H0, of which the addresses A are ours, we have come to H; the cells cs stand there, each once; the rest of H0 is as it was, new cells were free in H0, tuples stay -/
structure Own (H0 H : Hp) (A : List Addr) (cs : Cells) : Prop where
  at_ : ∀ a o, (a, o) ∈ cs → H a = some o
  nd : (adr cs).Nodup
  fr : ∀ b o, H0 b = some o → b ∉ A → H b = some o
  nw : ∀ b, b ∈ adr cs → b ∈ A ∨ H0 b = none
  tp : ∀ b xs, H0 b = some (.tup xs) → H b = some (.tup xs)
theorem adr_cons {c : Addr × HO} {r : Cells} : adr (c :: r) = c.1 :: adr r := rfl
theorem adr_app {s r : Cells} : adr (s ++ r) = adr s ++ adr r := List.map_append
theorem Own.start {H : Hp} (h : ∀ b xs, H b = some (.tup xs) → H b = some (.tup xs) := fun _ _ h => h) : Own H H [] [] :=
  ⟨fun _ _ m => (nomatch m), List.nodup_nil, fun _ _ h _ => h, fun _ m => (nomatch m), h⟩
/-- where the cell of an address stands, and the row with another thing there -/
inductive At : Cells → Addr → HO → HO → Cells → Prop
  | here {a o o' r} : At ((a, o) :: r) a o o' ((a, o') :: r)
  | there {c r a o o' r'} : At r a o o' r' → At (c :: r) a o o' (c :: r')
  | app {s r a o o' r'} : At r a o o' r' → At (s ++ r) a o o' (s ++ r')
  | appl {s r a o o' s'} : At s a o o' s' → At (s ++ r) a o o' (s' ++ r)
theorem At.mem {cs cs' : Cells} {a : Addr} {o o' : HO} (h : At cs a o o' cs') : (a, o) ∈ cs := by
  induction h with
  | here => exact List.mem_cons_self
  | there _ ih => exact List.mem_cons_of_mem _ ih
  | app _ ih => exact List.mem_append_right _ ih
  | appl _ ih => exact List.mem_append_left _ ih
theorem At.adr {cs cs' : Cells} {a : Addr} {o o' : HO} (h : At cs a o o' cs') : adr cs' = adr cs := by
  induction h with
  | here => rfl
  | there _ ih => rw [adr_cons, adr_cons, ih]
  | app _ ih => rw [adr_app, adr_app, ih]
  | appl _ ih => rw [adr_app, adr_app, ih]
theorem At.of {cs cs' : Cells} {a : Addr} {o o' : HO} (h : At cs a o o' cs') (nd : (Ow.adr cs).Nodup) : ∀ b u, (b, u) ∈ cs' → (b = a ∧ u = o') ∨ (b ≠ a ∧ (b, u) ∈ cs) := by
  induction h with
  | here =>
    intro b u m
    rcases List.mem_cons.mp m with e | m2
    · cases e; exact .inl ⟨rfl, rfl⟩
    · refine .inr ⟨fun e => ?_, List.mem_cons_of_mem _ m2⟩
      subst e
      exact (List.nodup_cons.mp nd).1 (List.mem_map.mpr ⟨_, m2, rfl⟩)
  | @there c r a o o' r' h ih =>
    intro b u m
    obtain ⟨n1, n2⟩ := List.nodup_cons.mp nd
    rcases List.mem_cons.mp m with e | m
    · subst e
      refine .inr ⟨fun e => ?_, List.mem_cons_self⟩
      exact n1 (List.mem_map.mpr ⟨_, h.mem, e.symm⟩)
    · rcases ih n2 b u m with z | ⟨z1, z2⟩
      · exact .inl z
      · exact .inr ⟨z1, List.mem_cons_of_mem _ z2⟩
  | @app s r a o o' r' h ih =>
    intro b u m
    rw [adr_app] at nd
    obtain ⟨n1, n2, n3⟩ := List.nodup_append.mp nd
    rcases List.mem_append.mp m with m | m
    · refine .inr ⟨fun e => ?_, List.mem_append_left _ m⟩
      subst e
      exact n3 _ (List.mem_map.mpr ⟨_, m, rfl⟩) _ (List.mem_map.mpr ⟨_, h.mem, rfl⟩) rfl
    · rcases ih n2 b u m with z | ⟨z1, z2⟩
      · exact .inl z
      · exact .inr ⟨z1, List.mem_append_right _ z2⟩
  | @appl s r a o o' s' h ih =>
    intro b u m
    rw [adr_app] at nd
    obtain ⟨n1, n2, n3⟩ := List.nodup_append.mp nd
    rcases List.mem_append.mp m with m | m
    · rcases ih n1 b u m with z | ⟨z1, z2⟩
      · exact .inl z
      · exact .inr ⟨z1, List.mem_append_left _ z2⟩
    · refine .inr ⟨fun e => ?_, List.mem_append_right _ m⟩
      subst e
      exact n3 _ (List.mem_map.mpr ⟨_, h.mem, rfl⟩) _ (List.mem_map.mpr ⟨_, m, rfl⟩) rfl
def isTup : HO → Bool
  | .tup _ => true
  | _ => false
/-- a block of cells within, and the row with another block in its place -/
inductive Sub : Cells → Cells → Cells → Cells → Prop
  | all {s s'} : Sub s s s' s'
  | here {s s' r} : Sub (s ++ r) s s' (s' ++ r)
  | one {c s' r} : Sub (c :: r) [c] s' (s' ++ r)
  | two {c d s' r} : Sub (c :: d :: r) [c, d] s' (s' ++ r)
  | nil {r s'} : Sub r [] s' (s' ++ r)
  | there {c r s s' r'} : Sub r s s' r' → Sub (c :: r) s s' (c :: r')
  | app {t r s s' r'} : Sub r s s' r' → Sub (t ++ r) s s' (t ++ r')
  | appl {t r s s' t'} : Sub t s s' t' → Sub (t ++ r) s s' (t' ++ r)
theorem Sub.split {cs s s' cs' : Cells} (h : Sub cs s s' cs') : ∃ l r, cs = l ++ (s ++ r) ∧ cs' = l ++ (s' ++ r) := by
  induction h with
  | all => exact ⟨[], [], by simp, by simp⟩
  | here => exact ⟨[], _, rfl, rfl⟩
  | one => exact ⟨[], _, rfl, rfl⟩
  | two => exact ⟨[], _, rfl, rfl⟩
  | nil => exact ⟨[], _, rfl, rfl⟩
  | @there c r s s' r' _ ih =>
    obtain ⟨l, t, e1, e2⟩ := ih
    exact ⟨c :: l, t, by rw [e1]; rfl, by rw [e2]; rfl⟩
  | @app t r s s' r' _ ih =>
    obtain ⟨l, q, e1, e2⟩ := ih
    exact ⟨t ++ l, q, by rw [e1, List.append_assoc], by rw [e2, List.append_assoc]⟩
  | @appl t r s s' t' _ ih =>
    obtain ⟨l, q, e1, e2⟩ := ih
    exact ⟨l, q ++ r, by rw [e1]; simp only [List.append_assoc], by rw [e2]; simp only [List.append_assoc]⟩
section
variable {H0 H H' : Hp} {A : List Addr} {cs cs' s s' : Cells} {a p : Addr} {o o' : HO}
theorem Own.get (O : Own H0 H A cs) (m : (a, o) ∈ cs) : H a = some o := O.at_ a o m
theorem Own.tup {t : Addr} {xs : List V} (O : Own H0 H A cs) (h : H0 t = some (.tup xs)) : H t = some (.tup xs) := O.tp t xs h
/-- a cell is written -/
theorem Own.wr (O : Own H0 H A cs) (h : At cs a o o' cs') (n : isTup o = false := by rfl) : Own H0 (upd H a o') A cs' := by
  have ha := O.at_ a o h.mem
  refine ⟨fun b u m => ?_, by rw [h.adr]; exact O.nd, fun b u e hb => ?_, fun b m => O.nw b (by rw [← h.adr]; exact m), fun b xs e => ?_⟩
  · rcases h.of O.nd b u m with ⟨rfl, rfl⟩ | ⟨e, m⟩
    · exact upd_same
    · rw [upd_ne e]; exact O.at_ b u m
  · rw [upd_ne]
    · exact O.fr b u e hb
    · rintro rfl
      rcases O.nw b (List.mem_map.mpr ⟨_, h.mem, rfl⟩) with z | z
      · exact hb z
      · rw [z] at e; cases e
  · have e1 := O.tp b xs e
    rw [upd_ne]
    · exact e1
    · rintro rfl
      rw [e1] at ha
      cases ha
      cases n
/-- a new cell -/
theorem Own.new (O : Own H0 H A cs) (h : H p = none) : Own H0 (upd H p o) A ((p, o) :: cs) := by
  have hn : p ∉ adr cs := fun m => by
    obtain ⟨c, hc, e⟩ := List.mem_map.mp m
    have := O.at_ c.1 c.2 hc
    rw [e, h] at this
    cases this
  have ne : ∀ b u, H b = some u → b ≠ p := fun b u e z => by rw [z, h] at e; cases e
  by_cases hA : p ∈ A
  · refine ⟨fun b u m => ?_, List.nodup_cons.mpr ⟨hn, O.nd⟩, fun b u e hb => ?_, fun b m => ?_, fun b xs e => ?_⟩
    · rcases List.mem_cons.mp m with z | z
      · cases z; exact upd_same
      · rw [upd_ne (ne b u (O.at_ b u z))]; exact O.at_ b u z
    · rw [upd_ne (ne b u (O.fr b u e hb))]; exact O.fr b u e hb
    · rcases List.mem_cons.mp m with z | z
      · exact .inl (by rw [z]; exact hA)
      · exact O.nw b z
    · rw [upd_ne (ne b _ (O.tp b xs e))]; exact O.tp b xs e
  · have h0 : H0 p = none := by
      cases q : H0 p with
      | none => rfl
      | some u =>
        rw [O.fr p u q hA] at h
        cases h
    refine ⟨fun b u m => ?_, List.nodup_cons.mpr ⟨hn, O.nd⟩, fun b u e hb => ?_, fun b m => ?_, fun b xs e => ?_⟩
    · rcases List.mem_cons.mp m with z | z
      · cases z; exact upd_same
      · rw [upd_ne (ne b u (O.at_ b u z))]; exact O.at_ b u z
    · rw [upd_ne (ne b u (O.fr b u e hb))]; exact O.fr b u e hb
    · rcases List.mem_cons.mp m with z | z
      · exact .inr (by rw [z]; exact h0)
      · exact O.nw b z
    · rw [upd_ne (ne b _ (O.tp b xs e))]; exact O.tp b xs e
/-- a new tuple: it needs no owner -/
theorem Own.newT (O : Own H0 H A cs) (h : H p = none) : Own H0 (upd H p o) A cs :=
  have O' := O.new (o := o) h
  ⟨fun b u m => O'.at_ b u (List.mem_cons_of_mem _ m), O.nd, O'.fr, O.nw, O'.tp⟩
/-- fewer cells -/
theorem Own.drop (O : Own H0 H A cs) (h : List.Sublist cs' cs) : Own H0 H A cs' :=
  ⟨fun b u m => O.at_ b u (h.subset m), O.nd.sublist (h.map _), O.fr, fun b m => O.nw b ((h.map _).subset m), O.tp⟩
theorem Own.perm (O : Own H0 H A cs) (h : cs.Perm cs') : Own H0 H A cs' :=
  ⟨fun b u m => O.at_ b u (h.mem_iff.mpr m), (h.map _).nodup_iff.mp O.nd, O.fr, fun b m => O.nw b ((h.map _).mem_iff.mpr m), O.tp⟩
/-- a block of it, as what a callee is handed -/
theorem Own.blk (O : Own H0 H A cs) (h : Sub cs s s' cs') : Own H H (adr s) s := by
  obtain ⟨l, r, rfl, _⟩ := h.split
  have nd := O.nd
  rw [adr_app, adr_app] at nd
  exact ⟨fun b u m => O.at_ b u (List.mem_append_right _ (List.mem_append_left _ m)), (List.nodup_append.mp (List.nodup_append.mp nd).2.1).1, fun _ _ e _ => e, fun _ m => .inl m, fun _ _ e => e⟩
/-- behind the call -/
theorem Own.call (O : Own H0 H A cs) (h : Sub cs s s' cs') (C : Own H H' (adr s) s') : Own H0 H' A cs' := by
  obtain ⟨l, r, rfl, rfl⟩ := h.split
  have nd := O.nd
  simp only [adr_app] at nd
  obtain ⟨n1, n2, n3⟩ := List.nodup_append.mp nd
  obtain ⟨n4, n5, n6⟩ := List.nodup_append.mp n2
  have out : ∀ b u, ((b, u) ∈ l ∨ (b, u) ∈ r) → H' b = some u := fun b u m => by
    have hb : b ∉ adr s := fun z => by
      rcases m with m | m
      · exact n3 b (List.mem_map.mpr ⟨_, m, rfl⟩) b (List.mem_append_left _ z) rfl
      · exact n6 b z b (List.mem_map.mpr ⟨_, m, rfl⟩) rfl
    refine C.fr b u (O.at_ b u ?_) hb
    rcases m with m | m
    · exact List.mem_append_left _ m
    · exact List.mem_append_right _ (List.mem_append_right _ m)
  have sep : ∀ b, b ∈ adr s' → (b ∈ adr l ∨ b ∈ adr r) → False := fun b m z => by
    obtain ⟨u, hu⟩ : ∃ u, ((b, u) ∈ l ∨ (b, u) ∈ r) := by
      rcases z with z | z
      · obtain ⟨c, hc, e⟩ := List.mem_map.mp z
        exact ⟨c.2, .inl (by rw [← e]; exact hc)⟩
      · obtain ⟨c, hc, e⟩ := List.mem_map.mp z
        exact ⟨c.2, .inr (by rw [← e]; exact hc)⟩
    rcases C.nw b m with q | q
    · rcases z with z | z
      · exact n3 b z b (List.mem_append_left _ q) rfl
      · exact n6 b q b z rfl
    · have e : H b = some u := O.at_ b u (by
        rcases hu with m | m
        · exact List.mem_append_left _ m
        · exact List.mem_append_right _ (List.mem_append_right _ m))
      rw [q] at e
      cases e
  refine ⟨fun b u m => ?_, ?_, fun b u e hb => ?_, fun b m => ?_, fun b xs e => C.tp b xs (O.tp b xs e)⟩
  · rcases List.mem_append.mp m with m | m
    · exact out b u (.inl m)
    · rcases List.mem_append.mp m with m | m
      · exact C.at_ b u m
      · exact out b u (.inr m)
  · simp only [adr_app]
    refine List.nodup_append.mpr ⟨n1, List.nodup_append.mpr ⟨C.nd, n5, fun x hx y hy e => ?_⟩, fun x hx y hy e => ?_⟩
    · subst e
      exact sep x hx (.inr hy)
    · subst e
      rcases List.mem_append.mp hy with z | z
      · exact sep x z (.inl hx)
      · exact n3 x hx x (List.mem_append_right _ z) rfl
  · refine C.fr b u (O.fr b u e hb) fun z => ?_
    rcases O.nw b (by simp only [adr_app]; exact List.mem_append_right _ (List.mem_append_left _ z)) with q | q
    · exact hb q
    · rw [q] at e
      cases e
  · simp only [adr_app] at m
    rcases List.mem_append.mp m with m | m
    · exact O.nw b (by simp only [adr_app]; exact List.mem_append_left _ m)
    · rcases List.mem_append.mp m with m | m
      · rcases C.nw b m with z | z
        · exact O.nw b (by simp only [adr_app]; exact List.mem_append_right _ (List.mem_append_left _ z))
        · by_cases hA : b ∈ A
          · exact .inl hA
          · refine .inr ?_
            cases q : H0 b with
            | none => rfl
            | some u =>
              rw [O.fr b u q hA] at z
              cases z
      · exact O.nw b (by simp only [adr_app]; exact List.mem_append_right _ (List.mem_append_right _ m))
end
end Ow
namespace Ow
open PySem PySem.Spec PyProof.Rows L2
/-! ### where a walk stops -/
structure Box (p : Prop) : Prop where
  out : p
theorem PE.box {X : Cx} {e : Expr} {t : TE} (h : PE X e t) : PE X e (fun σ H Q => t σ H fun v H1 => Box (Q v H1)) :=
  ⟨fun pins s σ H Q I q => thn (h.run pins s σ H _ I q) fun _ _ ⟨x, H1, I1, r1, q1⟩ => ⟨x, H1, I1, r1, q1.out⟩⟩
theorem PA.box {X : Cx} {es : List Expr} {t : TA} (h : PA X es t) : PA X es (fun σ H Q => t σ H fun v H1 => Box (Q v H1)) :=
  ⟨fun pos pins s σ H Q I q => thn (h.run pos pins s σ H _ I q) fun _ _ ⟨x, H1, I1, r1, q1⟩ => ⟨x, H1, I1, r1, q1.out⟩⟩
theorem PI.box {X : Cx} {tg e : Expr} {w : TI} (h : PI X tg e w) : PI X tg e (fun σ H R => w σ H fun J H1 => Box (R J H1)) :=
  ⟨fun pins s σ H R I q => thn (h.run pins s σ H _ I q) fun _ _ h1 => thn h1 fun _ _ ⟨it, fp, tn, J, H', e, I', T, t0, f, r⟩ => ⟨it, fp, tn, J, H', e, I', T, t0, f, r.out⟩⟩
/-- a reading as it stands, not reckoned out -/
def tW (t : TS) : TS := t
theorem PS.box {X : Cx} {st : Stmt} {t : TS} (h : PS X st t) : PS X st (fun D σ H => Box (tW t D σ H)) :=
  ⟨fun pins s σ H D I q => h.run pins s σ H D I q.out⟩
theorem PE.alt {X : Cx} {e : Expr} {t u : TE} (h : PE X e t) (h' : PE X e u) : PE X e (fun σ H Q => t σ H Q ∨ u σ H Q) :=
  ⟨fun pins s σ H Q I q => q.elim (h.run pins s σ H Q I) (h'.run pins s σ H Q I)⟩
/-- a promise that a walk stops at -/
def bx (sp : Sp) : Sp := fun vs H Q E => Box (sp vs H Q E)
/-- of a def that nobody calls: nothing may be asked -/
def spWall : Sp := fun _ _ _ _ => False
/-- a def that may be called: it keeps its promise -/
structure Cee (P : Program) (w : World) (K : PySem.W.Frag) (mg : Str → Option Value) (base : Heap) (k : Nat) (f : Addr) (ps : List Str) (sp : Sp) : Prop where
  kp : PySem.W.keepIn K (.ref f) = true
  fn : ∃ fd, FnOk P w K mg base (L2N.CX P w) k f fd ps (bx sp) ∧ Binds K fd ps []
section
variable {P : Program} {w : World} {K : PySem.W.Frag} {mg : Str → Option Value} {base : Heap}
theorem cee_of {x qual : Str} {params : Arguments} {body : List Stmt} {scope : Scope} {f : Addr} {N ps : List Str} {k : Nat} {sp : Sp} (F : ∃ fd, FunD K x qual params body scope [] [] f fd) (S : FnScope N ps scope)
    (hb : ∀ (kV doc pm : Value) (an : Option Addr) (cdv ct : Value) (us : List Value), us.length = ps.length → bindArgs (PySem.W.fnOf x qual params body scope .none kV doc pm an cdv ct) ⟨us, []⟩ = pure (ps.zip us))
    (len : ∀ vs H Q E, sp vs H Q E → vs.length = ps.length)
    (hbody : ∀ (cdv : Value) (A : Around) (outer : List Env) (s : Shared) (H : Hp) (vs : List V) (Q : VK) (E : XK), Room k (A.deeper (envOfC qual scope s.heap.objs.size f cdv)) → sp vs H Q E →
      ∃ t, PSs (cxOf (L2N.CX P w) P w K mg base N qual scope f cdv A outer s H E) body t ∧ t { nx := fun _ H' => Q .non H', rt := Q } (start N vs) H) : Cee P w K mg base (k + 1) f ps sp := by
  obtain ⟨fd, F⟩ := F
  exact ⟨F.kp, fd, FunD.ok F S (fun vs H Q E h => len vs H Q E h.out) (fun cdv A outer s H vs Q E hr h => hbody cdv A outer s H vs Q E hr h.out), F.bindsN hb⟩
end
section
variable {X : Cx} {k : Nat} {f C : Addr} {ps : List Str} {sp : Sp} {W : WX} {x m : Str} {p pos apos : Pos} {e o : Expr} {es : List Expr} {ta : TE} {t : TA}
theorem pe_f (c : Cee X.prog X.w X.K X.mg X.base k f ps sp) (hr : Room k X.A) (tk : L2N.Takes X W) (hg : Gl X x) (hm : X.mg x = some (.ref f)) (ha : PA X (e :: es) t) (hdb : (x == ("__debug__" : Str)) = false := by decide)
    (he : starEach (e :: es) X.env = (false, eval e X.env) :: starEach es X.env := by rfl) (hpl : (backTo pos (starEach es X.env)).any (·.1) = false := by rfl) :
    PE X (.Call (.Name x p) (e :: es) [] pos) (tCallS (bx sp) (WE W) t) := by
  obtain ⟨fd, F, b⟩ := c.fn
  exact pe_callS F hr hg hm c.kp b (fun σ => L2N.passAt tk σ) ha hdb he hpl
theorem pe_f0 (c : Cee X.prog X.w X.K X.mg X.base k f ps sp) (hr : Room k X.A) (tk : L2N.Takes X W) (hg : Gl X x) (hm : X.mg x = some (.ref f)) (hdb : (x == ("__debug__" : Str)) = false := by decide) :
    PE X (.Call (.Name x p) [] [] pos) (fun σ H Q => bx sp [] H Q (WE W σ)) := by
  obtain ⟨fd, F, b⟩ := c.fn
  refine ⟨fun pins s σ H Q I h => ?_⟩
  refine wpAny_Call_Name_kw (ld_glob I hg hm ?_ hdb)
  exact PySem.W.callWith_K0 I.kIn c.kp (run_fnS (us := []) (E := WE W) F hr b (L2N.passAt tk σ) I .nil h)
/-- o.m(e, ..) -/
def tM (C : Addr) (m : Str) (sp : Sp) (W : WX) (ta : TE) (t : TA) : TE := fun σ H Q => ta σ H fun x H1 => ∃ a dx fs, x = .ref a ∧ H1 a = some (.ins C dx fs) ∧ fs.lookup m = none ∧ t σ H1 fun vs H2 => bx sp (x :: vs) H2 Q (WE W σ)
theorem pe_m {pl : Sem Bool} (ho : PE X o ta) (cl : Cls X.K C) (hm : Meth X.K C m f) (c : Cee X.prog X.w X.K X.mg X.base k f ps sp) (hr : Room k X.A) (tk : L2N.Takes X W) (ha : PA X (e :: es) t)
    (hst : starEach (e :: es) X.env = (false, eval e X.env) :: starEach es X.env := by rfl) (hpl : (backTo pos (starEach es X.env)).any (·.1) = false := by rfl)
    (ht : eval (.Call (.Attribute o m apos) (e :: es) [] pos) X.env = (do
      let ov ← eval o X.env
      standAt apos.atName
      let (f, first) ← holding [ov] (getMethod ov m pl)
      callWith pos f first (backTo pos (starEach (e :: es) X.env)) (backToKw pos (keywordEach [] X.env))) := by rfl) :
    PE X (.Call (.Attribute o m apos) (e :: es) [] pos) (tM C m sp W ta t) := by
  obtain ⟨fd, F, b⟩ := c.fn
  refine ⟨fun pins s σ H Q I h => ?_⟩
  refine PySem.W.methodCall_KW (pl := pl) (thn (ho.run pins s σ H _ I h) fun u s1 ⟨y, H1, I1, ry, a, dx, fs, ey, ea, l, q⟩ => ?_) ht
  subst ey
  obtain rfl : u = Value.ref a := ry
  refine getmeth_ok I1 ea cl hm l ?_
  refine PySem.W.callWith_K (first := [.ref a]) (h₀ := X.base) I.ok.mod.kin hm.kp (thn (ha.run pos pins s1 σ H1 _ I1 q) fun us s2 ⟨vs, H2, I2, rv, q2⟩ => ⟨I2.kIn, ?_⟩) hst hpl
  exact run_fnS (us := .ref a :: us) (vs := .ref a :: vs) (E := WE W) F hr b (L2N.passAt tk σ) I2 (.cons rfl rv) q2
def tM0 (C : Addr) (m : Str) (sp : Sp) (W : WX) (ta : TE) : TE := fun σ H Q => ta σ H fun x H1 => ∃ a dx fs, x = .ref a ∧ H1 a = some (.ins C dx fs) ∧ fs.lookup m = none ∧ bx sp [x] H1 Q (WE W σ)
theorem pe_m0 {pl : Sem Bool} (ho : PE X o ta) (cl : Cls X.K C) (hm : Meth X.K C m f) (c : Cee X.prog X.w X.K X.mg X.base k f ps sp) (hr : Room k X.A) (tk : L2N.Takes X W)
    (ht : eval (.Call (.Attribute o m apos) [] [] pos) X.env = (do
      let ov ← eval o X.env
      standAt apos.atName
      let (f, first) ← holding [ov] (getMethod ov m pl)
      callWith pos f first (backTo pos (starEach [] X.env)) (backToKw pos (keywordEach [] X.env))) := by rfl) :
    PE X (.Call (.Attribute o m apos) [] [] pos) (tM0 C m sp W ta) := by
  obtain ⟨fd, F, b⟩ := c.fn
  refine ⟨fun pins s σ H Q I h => ?_⟩
  refine PySem.W.methodCall_KW (pl := pl) (thn (ho.run pins s σ H _ I h) fun u s1 ⟨y, H1, I1, ry, a, dx, fs, ey, ea, l, q⟩ => ?_) ht
  subst ey
  obtain rfl : u = Value.ref a := ry
  refine getmeth_ok I1 ea cl hm l ?_
  exact PySem.W.callWith_K0 (first := [.ref a]) I1.kIn hm.kp (run_fnS (us := [.ref a]) (vs := [.ref a]) (E := WE W) F hr b (L2N.passAt tk σ) I1 (.cons rfl .nil) q)
/-- C(e, ..): its __init__ lets nothing out -/
theorem pe_n (M : Mk X.K C f) (c : Cee X.prog X.w X.K X.mg X.base k f ps sp) (hr : Room (k + 1) X.A) (hg : Gl X x) (hm : X.mg x = some (.ref C)) (ha : PA X (e :: es) t) (hdb : (x == ("__debug__" : Str)) = false := by decide)
    (he : starEach (e :: es) X.env = (false, eval e X.env) :: starEach es X.env := by rfl) (hpl : (backTo pos (starEach es X.env)).any (·.1) = false := by rfl) :
    PE X (.Call (.Name x p) (e :: es) [] pos) (tMake C (bx sp) [] E0 t) := by
  obtain ⟨fd, F, b⟩ := c.fn
  exact pe_make M F hr hg hm b .nil passLN ha hdb he hpl
theorem pe_n0 (M : Mk X.K C f) (c : Cee X.prog X.w X.K X.mg X.base k f ps sp) (hr : Room (k + 1) X.A) (hg : Gl X x) (hm : X.mg x = some (.ref C)) (hdb : (x == ("__debug__" : Str)) = false := by decide) :
    PE X (.Call (.Name x p) [] [] pos) (tMake C (bx sp) [] E0 tNil) := by
  obtain ⟨fd, F, b⟩ := c.fn
  exact pe_make0 M F hr hg hm b .nil passLN hdb
end
/-! ### what a closer knows -/
theorem sl_of {σ : List (Option V)} {i : Nat} {v : V} (h : σ[i]? = some (some v)) : σ[i]? = some (some v) := h
theorem veq_of {x y : V} (h : x = y) : x = y := h
theorem lsq_of {x y : List V} (h : x = y) : x = y := h
theorem sc_of {x y : V} (h : scal x y = true) : scal x y = true := h
theorem lk_of {fs : List (Str × V)} {f : Str} {v : V} (h : fs.lookup f = some v) : fs.lookup f = some v := h
theorem lkn_of {fs : List (Str × V)} {f : Str} (h : fs.lookup f = none) : fs.lookup f = none := h
theorem lt_of {fs : List (Str × V)} (h : fs.length < 1000) : fs.length < 1000 := h
theorem hp_of {H : Hp} {a : Addr} {o : HO} (h : H a = some o) : H a = some o := h
theorem cd_of {i j : Int} (h : 0 < j ∧ j < 1073741824) : CDiv i j := h
theorem cm_l {i j : Int} (h : -(2 ^ 64) < i ∧ i < 2 ^ 64) : CMul i j := .inl h
theorem cm_r {i j : Int} (h : -(2 ^ 64) < j ∧ j < 2 ^ 64) : CMul i j := .inr h
theorem sz_le {n : Nat} (h : n ≤ 100000) : n ≤ sizeLine := Nat.le_trans h (by decide)
theorem sz_lt {n : Nat} (h : n < 100000) : n < sizeLine := Nat.lt_of_lt_of_le h (by decide)
/-! ### tests -/
theorem if_d {p A B : Prop} [Decidable p] (h1 : p → A) (h2 : ¬ p → B) : if decide p = true then A else B := by
  by_cases h : p
  · rw [if_pos (decide_eq_true h)]; exact h1 h
  · rw [if_neg (by rw [decide_eq_false h]; exact Bool.false_ne_true)]; exact h2 h
theorem if_nd {p A B : Prop} [Decidable p] (h1 : ¬ p → A) (h2 : p → B) : if (!decide p) = true then A else B := by
  by_cases h : p
  · rw [decide_eq_true h, if_neg (by decide)]; exact h2 h
  · rw [decide_eq_false h, if_pos (by decide)]; exact h1 h
theorem if_ii {a b : Int} {A B : Prop} (h1 : a = b → A) (h2 : ¬ a = b → B) : if decide (V.int a = V.int b) = true then A else B :=
  if_d (fun h => h1 (V.int.inj h)) fun h => h2 fun e => h (by rw [e])
theorem if_nii {a b : Int} {A B : Prop} (h1 : ¬ a = b → A) (h2 : a = b → B) : if (!decide (V.int a = V.int b)) = true then A else B :=
  if_nd (fun h => h1 fun e => h (by rw [e])) fun h => h2 (V.int.inj h)
theorem if_ss {a b : Str} {A B : Prop} (h1 : a = b → A) (h2 : ¬ a = b → B) : if decide (V.str a = V.str b) = true then A else B :=
  if_d (fun h => h1 (V.str.inj h)) fun h => h2 fun e => h (by rw [e])
theorem if_nss {a b : Str} {A B : Prop} (h1 : ¬ a = b → A) (h2 : a = b → B) : if (!decide (V.str a = V.str b)) = true then A else B :=
  if_nd (fun h => h1 fun e => h (by rw [e])) fun h => h2 (V.str.inj h)
theorem if_b {b : Bool} {A B : Prop} (h1 : b = true → A) (h2 : b = false → B) : if b = true then A else B := by
  cases b with
  | true => exact h1 rfl
  | false => exact h2 rfl
theorem if_nb {b : Bool} {A B : Prop} (h1 : b = false → A) (h2 : b = true → B) : if (!b) = true then A else B := by
  cases b with
  | true => exact h2 rfl
  | false => exact h1 rfl
theorem kt_int_int {K : PySem.W.Frag} : PySem.W.kitOne K (.type "int") (.type "int") = some true := kit_ty (by decide +kernel)
theorem kt_int_bool {K : PySem.W.Frag} : PySem.W.kitOne K (.type "int") (.type "bool") = some false := kit_ty (by decide +kernel)
theorem kt_int_str {K : PySem.W.Frag} : PySem.W.kitOne K (.type "int") (.type "str") = some false := kit_ty (by decide +kernel)
theorem kt_int_list {K : PySem.W.Frag} : PySem.W.kitOne K (.type "int") (.type "list") = some false := kit_ty (by decide +kernel)
theorem kt_int_tuple {K : PySem.W.Frag} : PySem.W.kitOne K (.type "int") (.type "tuple") = some false := kit_ty (by decide +kernel)
theorem kt_int_dict {K : PySem.W.Frag} : PySem.W.kitOne K (.type "int") (.type "dict") = some false := kit_ty (by decide +kernel)
theorem kt_bool_int {K : PySem.W.Frag} : PySem.W.kitOne K (.type "bool") (.type "int") = some true := kit_ty (by decide +kernel)
theorem kt_bool_bool {K : PySem.W.Frag} : PySem.W.kitOne K (.type "bool") (.type "bool") = some true := kit_ty (by decide +kernel)
theorem kt_bool_str {K : PySem.W.Frag} : PySem.W.kitOne K (.type "bool") (.type "str") = some false := kit_ty (by decide +kernel)
theorem kt_bool_list {K : PySem.W.Frag} : PySem.W.kitOne K (.type "bool") (.type "list") = some false := kit_ty (by decide +kernel)
theorem kt_bool_tuple {K : PySem.W.Frag} : PySem.W.kitOne K (.type "bool") (.type "tuple") = some false := kit_ty (by decide +kernel)
theorem kt_bool_dict {K : PySem.W.Frag} : PySem.W.kitOne K (.type "bool") (.type "dict") = some false := kit_ty (by decide +kernel)
theorem kt_str_int {K : PySem.W.Frag} : PySem.W.kitOne K (.type "str") (.type "int") = some false := kit_ty (by decide +kernel)
theorem kt_str_bool {K : PySem.W.Frag} : PySem.W.kitOne K (.type "str") (.type "bool") = some false := kit_ty (by decide +kernel)
theorem kt_str_str {K : PySem.W.Frag} : PySem.W.kitOne K (.type "str") (.type "str") = some true := kit_ty (by decide +kernel)
theorem kt_str_list {K : PySem.W.Frag} : PySem.W.kitOne K (.type "str") (.type "list") = some false := kit_ty (by decide +kernel)
theorem kt_str_tuple {K : PySem.W.Frag} : PySem.W.kitOne K (.type "str") (.type "tuple") = some false := kit_ty (by decide +kernel)
theorem kt_str_dict {K : PySem.W.Frag} : PySem.W.kitOne K (.type "str") (.type "dict") = some false := kit_ty (by decide +kernel)
theorem kt_list_int {K : PySem.W.Frag} : PySem.W.kitOne K (.type "list") (.type "int") = some false := kit_ty (by decide +kernel)
theorem kt_list_bool {K : PySem.W.Frag} : PySem.W.kitOne K (.type "list") (.type "bool") = some false := kit_ty (by decide +kernel)
theorem kt_list_str {K : PySem.W.Frag} : PySem.W.kitOne K (.type "list") (.type "str") = some false := kit_ty (by decide +kernel)
theorem kt_list_list {K : PySem.W.Frag} : PySem.W.kitOne K (.type "list") (.type "list") = some true := kit_ty (by decide +kernel)
theorem kt_list_tuple {K : PySem.W.Frag} : PySem.W.kitOne K (.type "list") (.type "tuple") = some false := kit_ty (by decide +kernel)
theorem kt_list_dict {K : PySem.W.Frag} : PySem.W.kitOne K (.type "list") (.type "dict") = some false := kit_ty (by decide +kernel)
theorem kt_tuple_int {K : PySem.W.Frag} : PySem.W.kitOne K (.type "tuple") (.type "int") = some false := kit_ty (by decide +kernel)
theorem kt_tuple_bool {K : PySem.W.Frag} : PySem.W.kitOne K (.type "tuple") (.type "bool") = some false := kit_ty (by decide +kernel)
theorem kt_tuple_str {K : PySem.W.Frag} : PySem.W.kitOne K (.type "tuple") (.type "str") = some false := kit_ty (by decide +kernel)
theorem kt_tuple_list {K : PySem.W.Frag} : PySem.W.kitOne K (.type "tuple") (.type "list") = some false := kit_ty (by decide +kernel)
theorem kt_tuple_tuple {K : PySem.W.Frag} : PySem.W.kitOne K (.type "tuple") (.type "tuple") = some true := kit_ty (by decide +kernel)
theorem kt_tuple_dict {K : PySem.W.Frag} : PySem.W.kitOne K (.type "tuple") (.type "dict") = some false := kit_ty (by decide +kernel)
theorem kt_dict_int {K : PySem.W.Frag} : PySem.W.kitOne K (.type "dict") (.type "int") = some false := kit_ty (by decide +kernel)
theorem kt_dict_bool {K : PySem.W.Frag} : PySem.W.kitOne K (.type "dict") (.type "bool") = some false := kit_ty (by decide +kernel)
theorem kt_dict_str {K : PySem.W.Frag} : PySem.W.kitOne K (.type "dict") (.type "str") = some false := kit_ty (by decide +kernel)
theorem kt_dict_list {K : PySem.W.Frag} : PySem.W.kitOne K (.type "dict") (.type "list") = some false := kit_ty (by decide +kernel)
theorem kt_dict_tuple {K : PySem.W.Frag} : PySem.W.kitOne K (.type "dict") (.type "tuple") = some false := kit_ty (by decide +kernel)
theorem kt_dict_dict {K : PySem.W.Frag} : PySem.W.kitOne K (.type "dict") (.type "dict") = some true := kit_ty (by decide +kernel)
theorem kt_NoneType_int {K : PySem.W.Frag} : PySem.W.kitOne K (.type "NoneType") (.type "int") = some false := kit_ty (by decide +kernel)
theorem kt_NoneType_bool {K : PySem.W.Frag} : PySem.W.kitOne K (.type "NoneType") (.type "bool") = some false := kit_ty (by decide +kernel)
theorem kt_NoneType_str {K : PySem.W.Frag} : PySem.W.kitOne K (.type "NoneType") (.type "str") = some false := kit_ty (by decide +kernel)
theorem kt_NoneType_list {K : PySem.W.Frag} : PySem.W.kitOne K (.type "NoneType") (.type "list") = some false := kit_ty (by decide +kernel)
theorem kt_NoneType_tuple {K : PySem.W.Frag} : PySem.W.kitOne K (.type "NoneType") (.type "tuple") = some false := kit_ty (by decide +kernel)
theorem kt_NoneType_dict {K : PySem.W.Frag} : PySem.W.kitOne K (.type "NoneType") (.type "dict") = some false := kit_ty (by decide +kernel)
end Ow
namespace Ow
open PySem PySem.Spec PyProof.Rows L2
def XcIn (K : PySem.W.Frag) (C : Addr) : Prop := PySem.W.excIn K C He.veBase "ValueError.__new__" = true ∧ PySem.W.keepIn K (.ref C) = true ∧ PySem.W.subIn K (.ref C) (.type "BaseException") = some true ∧ PySem.W.typeIn K (.ref C) = some (.type "type")
theorem gI {mg : Str → Option Value} {x : Str} {i : Int} (h : ∃ t, mg x = some (.int i t)) : ∃ u, mg x = some u ∧ RelV (.int i) u := let ⟨t, e⟩ := h; ⟨_, e, t, rfl⟩
theorem gS {mg : Str → Option Value} {x z : Str} (h : ∃ t, mg x = some (.str z t)) : ∃ u, mg x = some u ∧ RelV (.str z) u := let ⟨t, e⟩ := h; ⟨_, e, t, rfl⟩
/-! ### promises by the number of arguments -/
def sp0 (f : Hp → VK → XK → Prop) : Sp := fun vs H Q E => vs = [] ∧ f H Q E
def sp1 (f : V → Hp → VK → XK → Prop) : Sp := fun vs H Q E => ∃ a, vs = [a] ∧ f a H Q E
def sp2 (f : V → V → Hp → VK → XK → Prop) : Sp := fun vs H Q E => ∃ a b, vs = [a, b] ∧ f a b H Q E
def sp3 (f : V → V → V → Hp → VK → XK → Prop) : Sp := fun vs H Q E => ∃ a b c, vs = [a, b, c] ∧ f a b c H Q E
def sp4 (f : V → V → V → V → Hp → VK → XK → Prop) : Sp := fun vs H Q E => ∃ a b c d, vs = [a, b, c, d] ∧ f a b c d H Q E
def sp5 (f : V → V → V → V → V → Hp → VK → XK → Prop) : Sp := fun vs H Q E => ∃ a b c d e, vs = [a, b, c, d, e] ∧ f a b c d e H Q E
section
variable {vs : List V} {H : Hp} {Q : VK} {E : XK} {a b c d e : V}
theorem sp0_len {f} (h : sp0 f vs H Q E) : vs.length = 0 := by obtain ⟨rfl, _⟩ := h; rfl
theorem sp1_len {f} (h : sp1 f vs H Q E) : vs.length = 1 := by obtain ⟨_, rfl, _⟩ := h; rfl
theorem sp2_len {f} (h : sp2 f vs H Q E) : vs.length = 2 := by obtain ⟨_, _, rfl, _⟩ := h; rfl
theorem sp3_len {f} (h : sp3 f vs H Q E) : vs.length = 3 := by obtain ⟨_, _, _, rfl, _⟩ := h; rfl
theorem sp4_len {f} (h : sp4 f vs H Q E) : vs.length = 4 := by obtain ⟨_, _, _, _, rfl, _⟩ := h; rfl
theorem sp5_len {f} (h : sp5 f vs H Q E) : vs.length = 5 := by obtain ⟨_, _, _, _, _, rfl, _⟩ := h; rfl
theorem ask0 {f} (h : f H Q E) : Box (sp0 f [] H Q E) := ⟨rfl, h⟩
theorem ask1 {f} (h : f a H Q E) : Box (sp1 f [a] H Q E) := ⟨_, rfl, h⟩
theorem ask2 {f} (h : f a b H Q E) : Box (sp2 f [a, b] H Q E) := ⟨_, _, rfl, h⟩
theorem ask3 {f} (h : f a b c H Q E) : Box (sp3 f [a, b, c] H Q E) := ⟨_, _, _, rfl, h⟩
theorem ask4 {f} (h : f a b c d H Q E) : Box (sp4 f [a, b, c, d] H Q E) := ⟨_, _, _, _, rfl, h⟩
theorem ask5 {f} (h : f a b c d e H Q E) : Box (sp5 f [a, b, c, d, e] H Q E) := ⟨_, _, _, _, _, rfl, h⟩
end
end Ow
namespace Ow
open PySem PySem.Spec PyProof.Rows L2
theorem pe_gc {X : Cx} {x : Str} {pos : Pos} {v : V} (hg : Gl X x) (hm : ∃ u, X.mg x = some u ∧ RelV v u) (hd : (x == ("__debug__" : Str)) = false := by decide) : PE X (.Name x pos) (tC v) :=
  let ⟨_, e, r⟩ := hm
  pe_glob hg e r hd
end Ow
namespace Ow
open PySem PySem.Spec PyProof.Rows L2
section
variable {H0 H : Hp} {A : List Addr} {cs : Cells} {x dx C : Addr}
/-- a new instance -/
theorem Own.inst (O : Own H0 H A cs) (h1 : H x = none) (h2 : H dx = none) (ne : dx ≠ x) : Own H0 (upd (upd H dx (.own x)) x (.ins C dx [])) A ((x, .ins C dx []) :: cs) :=
  ((O.new (o := .own x) h2).new (o := .ins C dx []) (p := x) (by rw [upd_ne ne.symm]; exact h1)).drop (List.Sublist.cons₂ _ (List.Sublist.cons _ (List.Sublist.refl _)))
theorem Own.last {c : Addr × HO} (O : Own H0 H A (c :: cs)) : Own H0 H A (cs ++ [c]) := O.perm (List.perm_append_singleton c cs).symm
theorem Own.eq {cs' : Cells} (O : Own H0 H A cs) (e : cs = cs') : Own H0 H A cs' := e ▸ O
theorem Own.adr {A' : List Addr} (O : Own H0 H A cs) (e : A = A') : Own H0 H A' cs := e ▸ O
end
/-! ### loops -/
section
variable {K : PySem.W.Frag} {a : Addr} {xs : List V} {g : TG} {tb : TS} {D : Ends} {σ : L2.St} {H : Hp}
theorem forL (Pv : Nat → L2.St → Hp → Prop) (h0 : Pv 0 σ H) (hl : ∀ i σ H, i ≤ xs.length → Pv i σ H → SqL K H a xs)
    (hs : ∀ i x σ H, xs[i]? = some x → Pv i σ H → g x σ H fun σ2 H2 => tb { D with nx := fun σ H => Box (Pv (i + 1) σ H), ct := fun σ H => Box (Pv (i + 1) σ H), bk := D.nx } σ2 H2) (hd : ∀ σ H, Pv xs.length σ H → D.nx σ H) :
    Box (∃ W : Nat → Nat → L2.St → Hp → Prop, (∃ m, W 0 m σ H) ∧ ∀ i m σ H, W i m σ H →
      ((Itl K a).stop i H ∧ D.nx σ H) ∨ ((Itl K a).go i H ∧ ∃ N : L2.St → Hp → Prop, (∀ σ' H', N σ' H' → ∃ m', m' < m ∧ W (i + 1) m' σ' H') ∧ ∀ x H', (Itl K a).yld i H x H' → g x σ H' fun σ2 H2 => tb { D with nx := N, ct := N, bk := D.nx } σ2 H2)) :=
  ⟨for_list (fun i σ H => Box (Pv i σ H)) ⟨h0⟩ (fun i σ H hi p => hl i σ H hi p.out) (fun i x σ H hx p => hs i x σ H hx p.out) (fun σ H p => hd σ H p.out)⟩
theorem forT (Pv : Nat → L2.St → Hp → Prop) (h0 : Pv 0 σ H) (hl : ∀ i σ H, i ≤ xs.length → Pv i σ H → SqT K H a xs)
    (hs : ∀ i x σ H, xs[i]? = some x → Pv i σ H → g x σ H fun σ2 H2 => tb { D with nx := fun σ H => Box (Pv (i + 1) σ H), ct := fun σ H => Box (Pv (i + 1) σ H), bk := D.nx } σ2 H2) (hd : ∀ σ H, Pv xs.length σ H → D.nx σ H) :
    Box (∃ W : Nat → Nat → L2.St → Hp → Prop, (∃ m, W 0 m σ H) ∧ ∀ i m σ H, W i m σ H →
      ((Itt K a).stop i H ∧ D.nx σ H) ∨ ((Itt K a).go i H ∧ ∃ N : L2.St → Hp → Prop, (∀ σ' H', N σ' H' → ∃ m', m' < m ∧ W (i + 1) m' σ' H') ∧ ∀ x H', (Itt K a).yld i H x H' → g x σ H' fun σ2 H2 => tb { D with nx := N, ct := N, bk := D.nx } σ2 H2)) :=
  ⟨for_tup (fun i σ H => Box (Pv i σ H)) ⟨h0⟩ (fun i σ H hi p => hl i σ H hi p.out) (fun i x σ H hx p => hs i x σ H hx p.out) (fun σ H p => hd σ H p.out)⟩
theorem forR {lo : Int} {n : Nat} (Pv : Nat → L2.St → Hp → Prop) (h0 : Pv 0 σ H)
    (hs : ∀ i σ H, i < n → Pv i σ H → g (.int (lo + i)) σ H fun σ2 H2 => tb { D with nx := fun σ H => Box (Pv (i + 1) σ H), ct := fun σ H => Box (Pv (i + 1) σ H), bk := D.nx } σ2 H2) (hd : ∀ σ H, Pv n σ H → D.nx σ H) :
    Box (∃ W : Nat → Nat → L2.St → Hp → Prop, (∃ m, W 0 m σ H) ∧ ∀ i m σ H, W i m σ H →
      ((Itr lo n).stop i H ∧ D.nx σ H) ∨ ((Itr lo n).go i H ∧ ∃ N : L2.St → Hp → Prop, (∀ σ' H', N σ' H' → ∃ m', m' < m ∧ W (i + 1) m' σ' H') ∧ ∀ x H', (Itr lo n).yld i H x H' → g x σ H' fun σ2 H2 => tb { D with nx := N, ct := N, bk := D.nx } σ2 H2)) :=
  ⟨for_range (fun i σ H => Box (Pv i σ H)) ⟨h0⟩ (fun i σ H hi p => hs i σ H hi p.out) (fun σ H p => hd σ H p.out)⟩
theorem forC {lo c : Int} {n : Nat} (Pv : Nat → L2.St → Hp → Prop) (h0 : Pv 0 σ H)
    (hs : ∀ i σ H, i < n → Pv i σ H → g (.int (lo + (i : Nat) * c)) σ H fun σ2 H2 => tb { D with nx := fun σ H => Box (Pv (i + 1) σ H), ct := fun σ H => Box (Pv (i + 1) σ H), bk := D.nx } σ2 H2) (hd : ∀ σ H, Pv n σ H → D.nx σ H) :
    Box (∃ W : Nat → Nat → L2.St → Hp → Prop, (∃ m, W 0 m σ H) ∧ ∀ i m σ H, W i m σ H →
      ((Itc lo c n).stop i H ∧ D.nx σ H) ∨ ((Itc lo c n).go i H ∧ ∃ N : L2.St → Hp → Prop, (∀ σ' H', N σ' H' → ∃ m', m' < m ∧ W (i + 1) m' σ' H') ∧ ∀ x H', (Itc lo c n).yld i H x H' → g x σ H' fun σ2 H2 => tb { D with nx := N, ct := N, bk := D.nx } σ2 H2)) :=
  ⟨for_rangeC (fun i σ H => Box (Pv i σ H)) ⟨h0⟩ (fun i σ H hi p => hs i σ H hi p.out) (fun σ H p => hd σ H p.out)⟩
/-- a while, by a word with its measure -/
theorem whI {c : TT} (W : Nat → L2.St → Hp → Prop) (m0 : Nat) (h0 : W m0 σ H) (hs : ∀ m σ H, W m σ H → c σ H fun b H1 => if b = true then ∃ N : L2.St → Hp → Prop, (∀ σ' H', N σ' H' → ∃ m', m' < m ∧ W m' σ' H') ∧ tb { D with nx := N, ct := N, bk := D.nx } σ H1 else D.nx σ H1) :
    Box (tWhile c tb D σ H) := ⟨W, ⟨m0, h0⟩, hs⟩
theorem whN {W : Nat → L2.St → Hp → Prop} {m : Nat} (h : tb { D with nx := fun σ' H' => Box (∃ m', m' < m ∧ W m' σ' H'), ct := fun σ' H' => Box (∃ m', m' < m ∧ W m' σ' H'), bk := D.nx } σ H) :
    ∃ N : L2.St → Hp → Prop, (∀ σ' H', N σ' H' → ∃ m', m' < m ∧ W m' σ' H') ∧ tb { D with nx := N, ct := N, bk := D.nx } σ H := ⟨_, fun _ _ h => h.out, h⟩
end
end Ow
namespace Ow
open PySem PySem.Spec PyProof.Rows L2
theorem if_t {b : Bool} {A B : Prop} (h : b = true) (k : A) : if b = true then A else B := by rw [if_pos h]; exact k
theorem if_f {b : Bool} {A B : Prop} (h : b = false) (k : B) : if b = true then A else B := by rw [if_neg (by rw [h]; exact Bool.false_ne_true)]; exact k
end Ow
namespace Ow
open PySem PySem.Spec PyProof.Rows L2
theorem dget_v {H : Hp} {a : Addr} {kvs : List (Key × V)} {k : Key} {v : V} (h : H a = some (.dK kvs)) (e : valV kvs k = some v) : DGet H a (kV k) (some v) := e ▸ DGet.k h
end Ow
namespace Ow
open PySem PySem.Spec PyProof.Rows L2
theorem kl {i : Int} : V.int i = kV (Sum.inl i) := rfl
theorem kr {z : Str} : V.str z = kV (Sum.inr z) := rfl
end Ow
namespace Ow
open PySem PySem.Spec PyProof.Rows L2
/-! ### lists of whole numbers, compared -/
section
variable {K : PySem.W.Frag} {H : Hp} {a b : Addr}
theorem dpa_ints : ∀ ns : List Int, DpAll K H (ns.map V.int) (ns.map PyData.int)
  | [] => .nil
  | n :: r => .cons (.int n) (dpa_ints r)
theorem dp_ints {ns : List Int} (h : H a = some (.lst (ns.map V.int))) : Dp K H (.ref a) (.list (ns.map PyData.int)) := .lst (SqL.of h) (dpa_ints ns)
theorem depth_ints : ∀ ns : List Int, PyData.depthAll (ns.map PyData.int) ≤ 1
  | [] => by simp [PyData.depthAll]
  | n :: r => by
    have := depth_ints r
    simp only [List.map_cons, PyData.depthAll, PyData.depth]
    omega
theorem lay_ints : ∀ ns : List Int, PyData.canLayAll0 (ns.map PyData.int) = true
  | [] => by simp [PyData.canLayAll0]
  | n :: r => by simp [PyData.canLayAll0, PyData.canLay0, lay_ints r]
theorem sh_ints (ns : List Int) : SeqAt.shaped (.list (ns.map PyData.int)) = true := by
  have h1 := depth_ints ns
  have h2 : PyData.depth (.list (ns.map PyData.int)) ≤ 64 := by
    simp only [PyData.depth]
    omega
  show (PyData.canLay0 (.list (ns.map PyData.int)) && decide (PyData.depth (.list (ns.map PyData.int)) ≤ 64)) = true
  rw [Bool.and_eq_true]
  exact ⟨by simp only [PyData.canLay0]; exact lay_ints ns, decide_eq_true h2⟩
theorem dist_ints : ∀ ns ms : List Int, PyData.eqvAll (ns.map PyData.int) (ms.map PyData.int) = decide (ns = ms)
  | [], [] => rfl
  | [], _ :: _ => rfl
  | _ :: _, [] => rfl
  | n :: r, m :: q => by
    rw [List.map_cons, List.map_cons, PyData.eqvAll, dist_ints r q]
    show ((n == m) && _) = _
    by_cases h : n = m
    · subst h; simp
    · rw [decide_eq_false (fun e => h (List.cons.inj e).1)]; simp [h]
theorem eqv_ints (ns ms : List Int) : PyData.eqv (.list (ns.map PyData.int)) (.list (ms.map PyData.int)) = decide (ns = ms) := dist_ints ns ms
/-- two rows of whole numbers, compared -/
theorem eq_ints {ns ms : List Int} {Q : VK} (ha : H a = some (.lst (ns.map V.int))) (hb : H b = some (.lst (ms.map V.int))) (k : Q (.bl (decide (ns = ms))) H) : rEqD K (.ref a) (.ref b) H Q :=
  ⟨_, _, dp_ints ha, dp_ints hb, sh_ints ns, sh_ints ms, by rw [eqv_ints]; exact k⟩
theorem ne_ints {ns ms : List Int} {Q : VK} (ha : H a = some (.lst (ns.map V.int))) (hb : H b = some (.lst (ms.map V.int))) (k : Q (.bl (!decide (ns = ms))) H) : rNeD K (.ref a) (.ref b) H Q :=
  ⟨_, _, dp_ints ha, dp_ints hb, sh_ints ns, sh_ints ms, by rw [eqv_ints]; exact k⟩
end
end Ow
namespace Ow
open PySem PySem.Spec PyProof.Rows L2
/-! ### the closers' own lemmas: head first -/
section
variable {K : PySem.W.Frag} {H0 H : Hp} {A : List Addr} {cs cs' : Cells} {a p : Addr} {o o' : HO} {xs : List V}
theorem Own.wr2 (O : Own H0 H A cs) (h : At cs a o o' cs') (n : isTup o = false) : Own H0 (upd H a o') A cs' := O.wr h n
theorem col_ex (h : H a = some (.lst xs)) : ∃ xs, SqL K H a xs := ⟨_, SqL.of h⟩
theorem col_ol {p : Prop} (h : H a = some (.lst xs)) : SqL K H a xs ∨ p := .inl (SqL.of h)
theorem col_or {p : Prop} (h : H a = some (.tup xs)) : p ∨ SqT K H a xs := .inr (SqT.of h)
theorem dget_ii {kvs : List (Key × V)} {i : Int} {v : V} (h : H a = some (.dK kvs)) (e : valV kvs (Sum.inl i) = some v) : DGet H a (.int i) (some v) := dget_v (k := Sum.inl i) h e
theorem dget_is {kvs : List (Key × V)} {i : Str} {v : V} (h : H a = some (.dK kvs)) (e : valV kvs (Sum.inr i) = some v) : DGet H a (.str i) (some v) := dget_v (k := Sum.inr i) h e
theorem dget_i {kvs : List (Key × V)} {i : Int} (h : H a = some (.dK kvs)) : DGet H a (.int i) (valV kvs (Sum.inl i)) := DGet.k (k := Sum.inl i) h
theorem dget_s {kvs : List (Key × V)} {i : Str} (h : H a = some (.dK kvs)) : DGet H a (.str i) (valV kvs (Sum.inr i)) := DGet.k (k := Sum.inr i) h
theorem dput_i {kvs : List (Key × V)} {i : Int} {v : V} (h : H a = some (.dK kvs)) (hl : kvs.length < 100000) : DPut H a (.int i) v (upd H a (.dK (putK kvs (Sum.inl i) v))) := DPut.k (k := Sum.inl i) h (sz_lt hl)
theorem dput_s {kvs : List (Key × V)} {i : Str} {v : V} (h : H a = some (.dK kvs)) (hl : kvs.length < 100000) : DPut H a (.str i) v (upd H a (.dK (putK kvs (Sum.inr i) v))) := DPut.k (k := Sum.inr i) h (sz_lt hl)
theorem isd_k {kvs : List (Key × V)} (h : H a = some (.dK kvs)) : IsD H a := Or.inl ⟨_, Or.inl h⟩
theorem wp_of {x y : List (Option V)} (h : x = y) : x = y := h
theorem ln_of {x y : Nat} (h : x = y) : x = y := h
theorem pos_of {m : Int} (h : 0 < m) : 0 < m := h
end
end Ow
namespace Ow
open PySem PySem.Spec PyProof.Rows L2
/-! ### items -/
theorem at_int {α : Type} {xs : List α} {n : Int} (h0 : 0 ≤ n) (h1 : n < (xs.length : Int)) : ∃ y, xs[n.toNat]? = some y ∧ atI xs n = some y := by
  have hj : n.toNat < xs.length := by omega
  refine ⟨xs[n.toNat], List.getElem?_eq_getElem hj, ?_⟩
  have := atI_nat (List.getElem?_eq_getElem hj)
  rwa [Int.toNat_of_nonneg h0] at this
theorem map_get {l : List Int} {i : Nat} {x : V} (h : (l.map V.int)[i]? = some x) : ∃ y, l[i]? = some y ∧ x = V.int y := by
  rw [List.getElem?_map] at h
  cases e : l[i]? with
  | none => rw [e] at h; cases h
  | some y => rw [e] at h; exact ⟨y, rfl, (Option.some.inj h).symm⟩
theorem at_ints {ns : List Int} {n : Int} (h0 : 0 ≤ n) (h1 : n < ((ns.map V.int).length : Int)) : ∃ y, ns[n.toNat]? = some y ∧ atI (ns.map V.int) n = some (V.int y) := by
  obtain ⟨y, h2, h3⟩ := at_int h0 h1
  obtain ⟨z, h4, rfl⟩ := map_get h2
  exact ⟨z, h4, h3⟩
end Ow
namespace Ow
open PySem PySem.Spec PyProof.Rows L2
theorem Own.fr0 {H0 H : Hp} {cs : Cells} {b : Addr} {o : HO} (O : Own H0 H [] cs) (h : H0 b = some o) : H b = some o := O.fr b o h (by simp)
/-! ### comprehensions -/
section
variable {K : PySem.W.Frag} {a : Addr} {xs : List V} {g : TG} {tt : TT} {te : TE} {vs : List Nat} {σ : L2.St} {H1 : Hp} {Q : Addr → Hp → Prop} {lo : Int} {n : Nat}
theorem lcR (Pv : Addr → Nat → Hp → Prop) (h0 : ∀ D, H1 D = none → Pv D 0 (upd H1 D (.lst [])))
    (hs : ∀ D i H, i < n → Pv D i H → g (.int (lo + i)) (wipe σ vs) H fun σ2 H2 => wipe σ2 vs = wipe σ vs ∧ tt σ2 H2 fun b H3 =>
      if b = true then te σ2 H3 fun y H4 => ∃ acc, H4 D = some (.lst acc) ∧ acc.length < sizeLine ∧ Box (Pv D (i + 1) (upd H4 D (.lst (acc ++ [y])))) else Box (Pv D (i + 1) H3)) (hd : ∀ D H, Pv D n H → Q D H) :
    Box (∀ D, H1 D = none → ∃ W : Nat → Nat → Hp → Prop, (∃ m, W 0 m (upd H1 D (.lst []))) ∧ ∀ i m H, W i m H →
      ((Itr lo n).stop i H ∧ Q D H) ∨ ((Itr lo n).go i H ∧ ∃ Nx : Hp → Prop, (∀ H', Nx H' → ∃ m', m' < m ∧ W (i + 1) m' H') ∧ ∀ x H', (Itr lo n).yld i H x H' → g x (wipe σ vs) H' fun σ2 H2 => wipe σ2 vs = wipe σ vs ∧ tt σ2 H2 fun b H3 =>
        if b = true then te σ2 H3 fun y H4 => ∃ acc, H4 D = some (.lst acc) ∧ acc.length < sizeLine ∧ Nx (upd H4 D (.lst (acc ++ [y]))) else Nx H3)) :=
  ⟨fun D hD => lc_range (fun i H => Box (Pv D i H)) ⟨h0 D hD⟩ (fun i H hi p => hs D i H hi p.out) (fun H p => hd D H p.out)⟩
theorem lcL (Pv : Addr → Nat → Hp → Prop) (h0 : ∀ D, H1 D = none → Pv D 0 (upd H1 D (.lst []))) (hl : ∀ D i H, i ≤ xs.length → Pv D i H → SqL K H a xs)
    (hs : ∀ D i x H, xs[i]? = some x → Pv D i H → g x (wipe σ vs) H fun σ2 H2 => wipe σ2 vs = wipe σ vs ∧ tt σ2 H2 fun b H3 =>
      if b = true then te σ2 H3 fun y H4 => ∃ acc, H4 D = some (.lst acc) ∧ acc.length < sizeLine ∧ Box (Pv D (i + 1) (upd H4 D (.lst (acc ++ [y])))) else Box (Pv D (i + 1) H3)) (hd : ∀ D H, Pv D xs.length H → Q D H) :
    Box (∀ D, H1 D = none → ∃ W : Nat → Nat → Hp → Prop, (∃ m, W 0 m (upd H1 D (.lst []))) ∧ ∀ i m H, W i m H →
      ((Itl K a).stop i H ∧ Q D H) ∨ ((Itl K a).go i H ∧ ∃ Nx : Hp → Prop, (∀ H', Nx H' → ∃ m', m' < m ∧ W (i + 1) m' H') ∧ ∀ x H', (Itl K a).yld i H x H' → g x (wipe σ vs) H' fun σ2 H2 => wipe σ2 vs = wipe σ vs ∧ tt σ2 H2 fun b H3 =>
        if b = true then te σ2 H3 fun y H4 => ∃ acc, H4 D = some (.lst acc) ∧ acc.length < sizeLine ∧ Nx (upd H4 D (.lst (acc ++ [y]))) else Nx H3)) :=
  ⟨fun D hD => lc_list (fun i H => Box (Pv D i H)) ⟨h0 D hD⟩ (fun i H hi p => hl D i H hi p.out) (fun i x H hx p => hs D i x H hx p.out) (fun H p => hd D H p.out)⟩
theorem lcT (Pv : Addr → Nat → Hp → Prop) (h0 : ∀ D, H1 D = none → Pv D 0 (upd H1 D (.lst []))) (hl : ∀ D i H, i ≤ xs.length → Pv D i H → SqT K H a xs)
    (hs : ∀ D i x H, xs[i]? = some x → Pv D i H → g x (wipe σ vs) H fun σ2 H2 => wipe σ2 vs = wipe σ vs ∧ tt σ2 H2 fun b H3 =>
      if b = true then te σ2 H3 fun y H4 => ∃ acc, H4 D = some (.lst acc) ∧ acc.length < sizeLine ∧ Box (Pv D (i + 1) (upd H4 D (.lst (acc ++ [y])))) else Box (Pv D (i + 1) H3)) (hd : ∀ D H, Pv D xs.length H → Q D H) :
    Box (∀ D, H1 D = none → ∃ W : Nat → Nat → Hp → Prop, (∃ m, W 0 m (upd H1 D (.lst []))) ∧ ∀ i m H, W i m H →
      ((Itt K a).stop i H ∧ Q D H) ∨ ((Itt K a).go i H ∧ ∃ Nx : Hp → Prop, (∀ H', Nx H' → ∃ m', m' < m ∧ W (i + 1) m' H') ∧ ∀ x H', (Itt K a).yld i H x H' → g x (wipe σ vs) H' fun σ2 H2 => wipe σ2 vs = wipe σ vs ∧ tt σ2 H2 fun b H3 =>
        if b = true then te σ2 H3 fun y H4 => ∃ acc, H4 D = some (.lst acc) ∧ acc.length < sizeLine ∧ Nx (upd H4 D (.lst (acc ++ [y]))) else Nx H3)) :=
  ⟨fun D hD => lc_tup (fun i H => Box (Pv D i H)) ⟨h0 D hD⟩ (fun i H hi p => hl D i H hi p.out) (fun i x H hx p => hs D i x H hx p.out) (fun H p => hd D H p.out)⟩
end
end Ow
namespace Ow
open PySem PySem.Spec PyProof.Rows L2
theorem cutV_sub (xs : List V) (lo hi : Option Int) {x : V} (h : x ∈ cutV xs lo hi) : x ∈ xs := List.mem_of_mem_drop (List.mem_of_mem_take h)
theorem cut_ints {xs : List Int} {lo hi : Option Int} {i : Nat} {x : V} (h : (cutV (xs.map V.int) lo hi)[i]? = some x) : ∃ y, x = V.int y := by
  obtain ⟨y, _, e⟩ := List.mem_map.mp (cutV_sub _ _ _ (List.mem_of_getElem? h))
  exact ⟨y, e.symm⟩
theorem cutV_take (xs : List V) (n : Nat) : (cutV xs none (some (n : Int))).length ≤ n := by
  unfold cutV
  rw [List.length_take]
  have : HT.sIx xs.length xs.length (some (n : Int)) ≤ n := by
    rw [HT.sIx_nat]
    omega
  omega
end Ow
namespace Ow
open PySem PySem.Spec PyProof.Rows L2
/-! ### where two ways meet -/
theorem cutT {c : TT} {σ : L2.St} {H : Hp} {post : Bool → Hp → Prop} (R : Bool → Hp → Prop) (h : ∀ post' : Bool → Hp → Prop, (∀ b H', R b H' → post' b H') → c σ H post') (k : ∀ b H', R b H' → post b H') : c σ H post := h post k
theorem cutI {c : TT} {a b : TS} {D : Ends} {σ : L2.St} {H : Hp} (R : Bool → Hp → Prop) (h : ∀ post' : Bool → Hp → Prop, (∀ b H', R b H' → post' b H') → c σ H post') (k : ∀ bb H', R bb H' → if bb = true then a D σ H' else b D σ H') : tIfS c a b D σ H := h _ k
theorem cutS {t : TS} {D : Ends} {σ : L2.St} {H : Hp} (R : L2.St → Hp → Prop) (h : ∀ nx' : L2.St → Hp → Prop, (∀ σ' H', R σ' H' → nx' σ' H') → t { D with nx := nx' } σ H) (k : ∀ σ' H', R σ' H' → D.nx σ' H') : Box (t D σ H) := ⟨h D.nx k⟩
end Ow
namespace Ow
open L2 in
theorem rg_mk {lo hi c : Int} (n : Nat) (h : (c ≠ 0 ∧ c.natAbs < 1073741824 ∧ PySem.Builtin.Range.small lo hi c = true ∧ PySem.Builtin.Range.rangeSize lo hi c = n) := by decide +kernel) : RgC lo hi c n := h
open L2 in
theorem Own.self {H0 H : Hp} {A : List PySem.Addr} {cs : Cells} (O : Own H0 H A cs) : Own H H (Ow.adr cs) cs := O.blk (s' := []) (cs' := []) .all
end Ow
namespace Ow
open L2 in
/-- behind a call that was handed nothing -/
theorem Own.callN {H0 H H' : Hp} {A : List PySem.Addr} {cs s' : Cells} (O : Own H0 H A cs) (C : Own H H' [] s') : Own H0 H' A (s' ++ cs) := O.call (s := []) .nil C
end Ow
namespace Ow
open PySem PySem.Spec PyProof.Rows L2
/-! ### what stands outside: the script -/
section
variable {K : PySem.W.Frag} {H0 H : Hp} {A : List Addr} {cs : Cells} {a : Addr} {xs : List V}
theorem Own.sq (O : Own H0 H [] cs) (h : SqL K H0 a xs) : SqL K H a xs := by
  rcases h with (h | ⟨o, h⟩) | h
  · exact .inl (.inl (O.fr0 h))
  · exact .inl (.inr ⟨o, O.fr0 h⟩)
  · exact .inr h
theorem Own.sqT (O : Own H0 H A cs) (h : SqT K H0 a xs) (hf : ∀ o, H0 a = some (.frz o (.tup xs)) → a ∉ A) : SqT K H a xs := by
  rcases h with (h | ⟨o, h⟩) | h
  · exact .inl (.inl (O.tup h))
  · exact .inl (.inr ⟨o, O.fr _ _ h (hf o h)⟩)
  · exact .inr h
theorem col_ex2 (h : SqL K H a xs) : ∃ xs, SqL K H a xs := ⟨_, h⟩
theorem col_ol2 {p : Prop} (h : SqL K H a xs) : SqL K H a xs ∨ p := .inl h
theorem col_or2 {p : Prop} (h : SqT K H a xs) : p ∨ SqT K H a xs := .inr h
end
end Ow
namespace Ow
open PySem PySem.Spec PyProof.Rows L2
/-! ### the end -/
theorem cx_no {P : Program} {w : World} {H : Hp} {s : Shared} {e : Value} {s' : Shared} (h : L2N.CX P w [] H s (fun _ _ _ => False) e s') : False := by
  obtain ⟨_, _, _, _, _, _, _, _, _, _, _, _, h⟩ := h
  exact h
theorem walk_end {l : PySem.W.OpenLaw} {n k : Nat} {q : Program} {loose : List Str} {XP : (Str → Option Value) → Heap → Prop} {YP : World → Heap → Prop} {d : DefRec} {x : Str}
    (hn : l.most = some n) (hn2 : n ≤ sizeLine) (hdf : d.params.defaults = []) (hr : Room k callerA)
    (F : ∀ (w : World) (mg : Str → Option Value) (fa : Addr) (h : Heap), YP w h → h.Ns mainGlobals mg → mg d.name = some (.ref fa) →
      ∃ (K : PySem.W.Frag) (fd : FuncData) (sp : Sp), K.In h ∧ (∀ (s : Shared) (u : Value), BindsTo s fd ⟨[u], []⟩ [(x, u)]) ∧
        (∀ (H : Hp) (a : Addr) (ns : List Int), ns.length ≤ n → (∀ z ∈ ns, Builtin.Int.intBits z ≤ 1048576) → SqL K H a (ns.map V.int) → sp [.ref a] H (fun v _ => v = .bl true) fun _ _ _ => False) ∧
        ∀ base : Heap, K.In base → base.Ns mainGlobals mg → FnOk l.prog w K mg base (L2N.CX l.prog w) k fa fd [x] sp) :
    PySem.W.WalkO q loose XP YP l.row.toRowW d [] (fun f vs => PySem.call f vs) := by
  refine Att.attach_callB hn hdf fun w s₀ s₁ mg mb fa o pm cd doc a vs ns G Y ho hd hcd hmg hobj hints hlen hbits hg => ?_
  obtain ⟨K, fd, sp, KX, hb, hsp, hF⟩ := F w mg fa _ Y G.T.g hmg
  exact law_call KX G.T.g G.T.b G.T.builtins G.T.nolimit hg hobj hints (Nat.le_trans hlen hn2) hr hF hb (fun H _ hS => hsp H a ns hlen hbits hS) fun _ _ _ h => cx_no h
theorem fn_of {P : Program} {w : World} {K : PySem.W.Frag} {mg : Str → Option Value} {base : Heap} {x qual : Str} {params : Arguments} {body : List Stmt} {scope : Scope} {f : Addr} {fd : FuncData} {N ps : List Str} {k : Nat} {sp : Sp} (F : FunD K x qual params body scope [] [] f fd) (S : FnScope N ps scope)
    (len : ∀ vs H Q E, sp vs H Q E → vs.length = ps.length)
    (hbody : ∀ (cdv : Value) (A : Around) (outer : List Env) (s : Shared) (H : Hp) (vs : List V) (Q : VK) (E : XK), Room k (A.deeper (envOfC qual scope s.heap.objs.size f cdv)) → sp vs H Q E →
      ∃ t, PSs (cxOf (L2N.CX P w) P w K mg base N qual scope f cdv A outer s H E) body t ∧ t { nx := fun _ H' => Q .non H', rt := Q } (start N vs) H) : FnOk P w K mg base (L2N.CX P w) (k + 1) f fd ps (bx sp) :=
  FunD.ok F S (fun vs H Q E h => len vs H Q E h.out) (fun cdv A outer s H vs Q E hr h => hbody cdv A outer s H vs Q E hr h.out)
end Ow
namespace Ow
open PySem PySem.Spec PyProof.Rows L2
/-! ### an exception that is held: known, in the suite and beyond it -/
theorem zc_of {cls : Value} {d : Option Addr} {o : Obj} (h : L2N.Zn cls d o) : o.cls = cls ∧ o.dict = d := ⟨h.1, by first | exact h.2 | exact h.2.1⟩
/-- an exception object at a, of the class cls, its dict d -/
def CxO (cls : Value) (d : Option Addr) (a : Addr) : HO := .ext fun h => ∃ (o : Obj) (vs : Array Value), h.get? a = some o ∧ L2N.Zn cls d o ∧ o.data = .fields vs
section
variable {X : Cx} {pins : List (Addr × Obj)} {σ : L2.St} {H : Hp} {s : Shared} {a : Addr} {cls : Value} {d : Option Addr} {o : Obj} {vs : Array Value}
theorem hold_ok (I : Inv X pins σ H s) (e : s.heap.get? a = some o) (z : L2N.Zn cls d o) (dt : o.data = .fields vs) (na : H a = none) (n0 : X.s_0.heap.get? a = none) (nL : a ≠ X.env.locals) (np : ∀ p ∈ X.pn ++ pins, p.1 ≠ a) :
    Inv X pins σ (upd H a (CxO cls d a)) s := by
  have sk : ∀ {b : Addr} {u : HO}, H b = some u → upd H a (CxO cls d a) b = some u := fun {b u} q => by
    rw [upd_ne (fun w => by rw [w, na] at q; cases q)]
    exact q
  have nk : ∀ {b : Addr}, b ≠ a → H b = none → upd H a (CxO cls d a) b = none := fun {b} q r => by
    rw [upd_ne q]
    exact r
  refine ⟨I.ok, I.os, I.bare, ⟨I.base.keep, I.base.slot, fun b u q1 q2 q3 => nk (fun w => by rw [w, n0] at q1; cases q1) (I.base.free b u q1 q2 q3), I.base.there, fun b xs q => sk (I.base.tups b xs q), fun b o' u q => sk (I.base.frzs b o' u q), fun b ps q => ?_⟩, I.loc, I.cell, nk (Ne.symm nL) I.free, fun x c q => nk (fun w => ?_) (I.freeC x c q), fun p hp => ?_, HOk.laidN I.hok (fun _ _ w => w) na ⟨⟨o, vs, e, z, dt⟩, ⟨o, e⟩, fun _ _ ⟨o2, v2, q, r⟩ k => ⟨o2, v2, k o2 q, r⟩⟩, I.len⟩
  · obtain ⟨m, r⟩ := I.base.tbls b ps q
    exact ⟨m, sk r⟩
  · subst w
    obtain ⟨v, oc, ho, hd⟩ := I.cell x c q
    rw [e] at ho
    cases ho
    rw [dt] at hd
    cases hd
  · obtain ⟨p1, p2, p3, p4, p5⟩ := I.pin p hp
    exact ⟨p1, nk (np p hp) p2, p3, p4, p5⟩
theorem suite_in {b : Addr} (I : Inv X pins σ H s) : Inv (X.suite b (X.pn ++ pins)) [] σ H s :=
  ⟨I.ok.suite _ _, I.os, I.bare, I.base, I.loc, I.cell, I.free, I.freeC, fun p hp => I.pin p ((List.append_nil (X.pn ++ pins)) ▸ hp), I.hok, I.len⟩
theorem suite_out {b : Addr} (I : Inv (X.suite b (X.pn ++ pins)) [] σ H s) (ok : X.Ok) : Inv X pins σ H s :=
  ⟨ok, I.os, I.bare, I.base, I.loc, I.cell, I.free, I.freeC, fun p hp => I.pin p ((List.append_nil (X.pn ++ pins)).symm ▸ hp), I.hok, I.len⟩
end
/-- the wish of a try whose suite may keep the exception -/
def wHold (K : PySem.W.Frag) (c : Value) (i : Nat) (ts : Addr → TS) (Wout : WX) (D : Ends) : WX := fun cls d σ H =>
  ∃ b, PySem.W.exmOne K cls c = some b ∧ (b = true → ∀ a, H a = none → ts a { nx := fun τ G => D.nx (τ.set i none) G, rt := D.rt, bk := fun τ G => D.bk (τ.set i none) G, ct := fun τ G => D.ct (τ.set i none) G } (σ.set i (some (.ref a))) (upd H a (CxO cls d a))) ∧ (b = false → Wout cls d σ H)
section
variable {X : Cx} {x n : Str} {c : Value} {i : Nat} {body suite : List Stmt} {b₀ : Stmt} {np pos pos' : Pos} {tb : WX → TS} {ts : Addr → TS} {Wout : WX}
theorem ps_tryX (hs : X.stack = X.env :: X.outer) (hf : X.env.frame = some X.env.locals) (hx : X.ex = []) (hN : X.N.Nodup) (hi : X.N[i]? = some n) (hln : X.env.kindOf n = some .local) (hc : Names X x c) (tk : L2N.Takes X Wout)
    (hb : ∀ (W : WX) (pn : List (Addr × Obj)) (xe : Value → Shared → Prop), L2N.Takes (X.tr pn xe) W → PassesOwn (model X.prog X.w) X.A X.env xe → PSs (X.tr pn xe) body (tb W))
    (hsu : ∀ (a : Addr) (pn : List (Addr × Obj)), PSs (X.suite a pn) (b₀ :: suite) (ts a)) :
    PS X (.Try body [.ExceptHandler (some (.Name x np)) (some n) (b₀ :: suite) pos'] [] [] pos) (fun D σ H => tb (wHold X.K c i ts Wout D) D σ H) := by
  refine ⟨fun pins s σ H D I hyp => ?_⟩
  have okX := I.ok
  have frames : X.A.frames = some (X.env :: X.outer) := by rw [okX.frames, hs]
  refine wpAny_Try_except ?_
  refine wpAny_mono ((hb (wHold X.K c i ts Wout D) (X.pn ++ pins) (fun ev sA => wpAny (model X.prog X.w) X.A (noteFrame ev X.env) (fun _ sB => wpAny (model X.prog X.w) X.A (setFlight ev none) (fun _ sC =>
    wpAny (model X.prog X.w) X.A (handleBy ev X.env [.ExceptHandler (some (.Name x np)) (some n) (b₀ :: suite) pos']) (SP X pins D) X.xe sC) X.xe sB) X.xe sA) (fun u sE flies => ?_) PassesOwn.looking).run [] s σ H D (I.toTry _) hyp) (fun fl sN ends => ?_) (fun ev sA left => left)
  · obtain ⟨a, B, sI, pins1, τ, G, cls, d, rfl, JT, nb, upS, skyS, na, os, ag, b, hm, yes, no⟩ := flies
    have JX : Inv X pins τ G sI := JT.ofTry okX
    have skyX : Sky B (X.env :: X.outer) a (L2N.Zn cls d) X.env.locals sE.heap := by rw [← hs]; exact skyS
    have nB : B.get? a = none := by
      rcases skyS with w | w | w
      · exact w.2.1
      · exact w.2.1
      · exact w.2.1
    show wpAny (model X.prog X.w) X.A (noteFrame (.ref a) X.env) _ _ _
    refine L2N.Sky.land L2N.Zn.steady frames hf skyX fun g3 fl3 up3 => ?_
    have J3 : Inv X pins τ G { sE with heap := g3 } := JX.landed nb fl3.1 (upS.trans up3) os ag
    obtain ⟨q3, w3, at3, z3, dt3⟩ := fl3.there
    have outside : a ∉ frs (X.env :: X.outer) := fun hm => by
      obtain ⟨_, o', e', hnf⟩ := fl3.2.2.1.mem hm
      rw [at3] at e'
      cases e'
      exact hnf _ dt3
    have nL : a ≠ X.env.locals := fun z => outside (List.mem_filterMap.mpr ⟨X.env, .head _, by rw [hf, z]⟩)
    have nF : a ∉ X.fs := fun hm => by
      obtain ⟨ev, he, q⟩ := List.mem_filterMap.mp hm
      exact outside (List.mem_filterMap.mpr ⟨ev, .tail _ he, q⟩)
    have below : ∀ {u : Addr} {ob : Obj}, sI.heap.get? u = some ob → u ∉ frs (X.env :: X.outer) → u ≠ a := fun {u ob} q r w => by
      have k := nb u ob q (by rw [hs]; exact r)
      rw [w, nB] at k
      cases k
    have new0 : X.s_0.heap.get? a = none := by
      cases q : X.s_0.heap.get? a with
      | none => rfl
      | some ob =>
        obtain ⟨ob2, r⟩ := JX.base.there a ob q (by rw [hx]; exact fun w => nomatch w)
        exact absurd rfl (below r outside)
    have unpinned : ∀ p ∈ X.pn ++ pins, p.1 ≠ a := fun p hp => by
      obtain ⟨p1, _, p3, p4, _⟩ := JX.pin p hp
      refine below p1 fun hm => ?_
      obtain ⟨ev, he, q⟩ := List.mem_filterMap.mp hm
      rcases List.mem_cons.mp he with w | w
      · rw [w, hf] at q
        exact p3 (Option.some.inj q).symm
      · exact p4 (List.mem_filterMap.mpr ⟨ev, w, q⟩)
    have S3 := J3.suite at3 dt3 na nL nF
    refine wpAny_handleBy_cons (codeAny_handlers_test ?_) (by intro w; cases w)
    have kind : PySem.W.Looks (model X.prog X.w) g3 (typeOf (.ref a)) cls := fun A Q E t k w => wpAny_typeOf_ref (k _ _ at3) (by rw [z3.1]; exact w)
    have match_ := PySem.W.exm_one (M := model X.prog X.w) (J3.kIn) kind hm
    have named : ∀ {Q E : Value → Shared → Prop}, Q c { sE with heap := g3 } → wpAny (model X.prog X.w) (X.A.mark (some (.ref a))) (eval (.Name x np) X.env) Q E { sE with heap := g3 } := fun {Q E} w => by
      obtain ⟨hg, hdbg, m1 | ⟨m1, m2, m3⟩⟩ := hc
      · exact ld_glob (X := X.suite a ((a, q3) :: (X.pn ++ pins))) S3 hg m1 w hdbg
      · exact ld_blt (X := X.suite a ((a, q3) :: (X.pn ++ pins))) S3 hg m1 m2 w m3 hdbg
    refine named (match_.here ?_)
    cases b with
    | true =>
      refine codeAny_handlers_suite_as ?_
      refine HandSPX.lands_againZ fl3 fun g4 fl4 up4 => ?_
      have J4 : Inv X pins τ G { sE with heap := g4 } := JX.landed nb fl4.1 ((upS.trans up3).trans up4) os ag
      obtain ⟨q4, w4, at4, z4, dt4⟩ := fl4.there
      have S4 := suite_in (b := a) (hold_ok J4 at4 z4 dt4 na new0 nL unpinned)
      refine store_ok (X := X.suite a (X.pn ++ pins)) (v := .ref a) S4 hN hi (.inl hln) rfl (fun s5 S5 => ?_) (.inr hln)
      refine wpAny_mono ((hsu a (X.pn ++ pins)).run [] s5 _ _ _ S5 (yes rfl a na)) (fun fl s6 ends => ?_) (fun _ _ w => False.elim w)
      have off : ∀ {τ6 : L2.St} {G6 : Hp} {Q : Shared → Prop}, Inv (X.suite a (X.pn ++ pins)) [] τ6 G6 s6 → (∀ s7, Inv X pins (τ6.set i none) G6 s7 → Q s7) →
          wpAny (model X.prog X.w) X.A (do bindName X.env n .none; unbindBehindTheSuite X.env n pos') (fun _ s7 => Q s7) X.xe s6 := fun {τ6 G6 Q} S6 w => gone_ok (suite_out S6 okX) hN hi hln w
      cases fl with
      | next =>
        obtain ⟨_, _, S6, r⟩ := ends
        exact off S6 fun _ J7 => ⟨_, _, J7, r⟩
      | brk =>
        obtain ⟨_, _, S6, r⟩ := ends
        exact off S6 fun _ J7 => ⟨_, _, J7, r⟩
      | cont =>
        obtain ⟨_, _, S6, r⟩ := ends
        exact off S6 fun _ J7 => ⟨_, _, J7, r⟩
      | ret u =>
        obtain ⟨_, _, _, S6, r1, r2⟩ := ends
        exact off S6 fun _ J7 => ⟨_, _, _, J7, r1, r2⟩
    | false =>
      show wpAny _ X.A (handleBy (.ref a) X.env []) _ _ _
      refine wpAny_handleBy_nil ?_
      obtain ⟨_, _, _, ob, ws, T, oT, tr, hob, hzb, hdb, hfb, hrb⟩ := id fl3
      unfold PySem.passOn
      refine wpAny_bind (wpAny_field hob hdb hfb ?_)
      rw [if_neg (show ¬ ((Value.ref T == Value.none) = true) by simp)]
      have out : wpAny (model X.prog X.w) X.A (setFlight (.ref a) X.env.frame) (fun _ t4 => wpAny (model X.prog X.w) X.A (throw (.ref a) : Sem Flow) (SP X pins D) X.xe t4) X.xe { sE with heap := g3 } := by
        rw [hf]
        refine HandSPX.setFlight_upZ fl3 fun g4 in4 up4 => wpAny_throw (tk _ _ ?_)
        exact ⟨a, B, sI, pins, τ, G, cls, d, rfl, JX, nb, (upS.trans up3).trans up4, .inr (.inr (by rw [hs]; exact in4)), na, os, ag, no rfl⟩
      first
        | exact wpAny_bind (wpAny_pure (wpAny_bind out))
        | exact wpAny_bind out
  · cases fl with
    | next =>
      obtain ⟨τ, G, JT, r⟩ := ends
      exact wpAny_execs_nil ⟨τ, G, JT.ofTry okX, r⟩
    | brk =>
      obtain ⟨τ, G, JT, r⟩ := ends
      exact ⟨τ, G, JT.ofTry okX, r⟩
    | cont =>
      obtain ⟨τ, G, JT, r⟩ := ends
      exact ⟨τ, G, JT.ofTry okX, r⟩
    | ret u =>
      obtain ⟨v, τ, G, JT, r1, r2⟩ := ends
      exact ⟨v, τ, G, JT.ofTry okX, r1, r2⟩
/-- isinstance(e, c), e a held exception -/
def rIsX (K : PySem.W.Frag) : List V → Hp → VK → Prop := fun xs H Q => ∃ (a D : Addr) (c : V) (cv : Value) (b : Bool), xs = [.ref a, c] ∧ H a = some (CxO (.ref D) none a) ∧ ExcC K D ∧ ClsV c cv ∧ PySem.W.kitOne K (.ref D) cv = some b ∧ Q (.bl b) H
theorem call_isX : CallR X (.builtin "isinstance") (rIsX X.K) := by
  intro pins s σ H xs us Q I r h
  obtain ⟨a, D, cl, cv, b, rfl, ha, C, only, says, q⟩ := h
  cases r with
  | cons rx rr =>
    cases rr with
    | cons rt rr =>
      cases rr
      cases rx
      have ec := only.eq rt
      subst ec
      obtain ⟨⟨ob, vs, at_, z, dt⟩, _, _⟩ := I.hok a _ ha
      have J : PySem.W.InstAt s.heap a ob D none := by
        obtain ⟨oc, od, oda, osl⟩ := ob
        obtain ⟨h1, h2⟩ := zc_of z
        dsimp only at h1 h2 dt
        subst h1 h2 dt
        exact ⟨at_, rfl, rfl, trivial⟩
      refine PySem.W.kia_one (PySem.W.handS_kitx_exc C.hg C.hk C.hs C.hd C.ha C.hn C.ht C.hm) I.kIn J says (fun w => nomatch w) fun tk => ?_
      exact ⟨.bl b, H, I.kept (t' := tk) fun _ _ w => w, rfl, q⟩
end
end Ow
namespace Ow
open PySem PySem.Spec PyProof.Rows L2
/-- xs[i], where it is read to be put anew -/
theorem get_list {X : Cx} : PGet X (rIxL X.K) := by
  intro pins s σ H o i ov iv Q I ro ri h
  obtain ⟨p, xs, k, z, rfl, rfl, hq, he, q⟩ := h
  cases ro
  obtain ⟨t, rfl⟩ := ri
  obtain ⟨its, r, pl, hz⟩ := I.list hq
  obtain ⟨j, h1, h2, h3, h4, h5⟩ := atI_get he
  obtain ⟨w, ew, rw'⟩ := r.get h2
  have lenX := r.length
  have wide := line63
  have done : EP X pins σ Q w s := ⟨z, H, I, rw', q⟩
  by_cases h0 : 0 ≤ k
  · have hk : k.toNat = j := by
      rw [seqIndex_of h0 h5] at h1
      exact Option.some.inj h1
    exact wpAny_getItem_list pl.isList h0 (by omega) (by rw [hk]; simpa using ew) done
  · have hk : (k + (its.toArray.size : Int)).toNat = j := by
      rw [seqIndex_neg (by omega) h4] at h1
      rw [List.size_toArray, ← lenX]
      exact Option.some.inj h1
    exact wpAny_getItem_list_neg pl.isList (by omega) (by rw [List.size_toArray] <;> omega) (by omega) (by rw [hk]; simpa using ew) done
end Ow
namespace Ow
open PySem PySem.Spec PyProof.Rows L2
/-! ### facts of exceptions, by one look -/
theorem all_at {l : List Bool} (h : l.all id = true) (k : Nat) {b : Bool} (e : l[k]? = some b) : b = true := List.all_eq_true.mp h b (List.mem_of_getElem? e)
theorem excB_ok {K : PySem.W.Frag} {D : Addr} (h : excB K D = true) : ExcC K D :=
  ⟨eq_of_beq (all_at h 0 rfl), eq_of_beq (all_at h 1 rfl), eq_of_beq (all_at h 2 rfl), all_at h 3 rfl, eq_of_beq (all_at h 4 rfl), eq_of_beq (all_at h 5 rfl), eq_of_beq (all_at h 6 rfl), eq_of_beq (all_at h 7 rfl)⟩
end Ow
namespace Ow
open PySem PySem.Spec PyProof.Rows L2
/-! ### rows of flat things -/
theorem fl_of {v : V} (h : flatV v = true) : flatV v = true := h
theorem all_flat (ns : List Int) : (ns.map V.int).all flatV = true := List.all_eq_true.mpr fun x hx => by
  obtain ⟨y, _, rfl⟩ := List.mem_map.mp hx
  rfl
theorem all_flatS (ns : List Str) : (ns.map V.str).all flatV = true := List.all_eq_true.mpr fun x hx => by
  obtain ⟨y, _, rfl⟩ := List.mem_map.mp hx
  rfl
theorem eqV_int (i j : Int) : eqV (.int i) (.int j) = decide (i = j) := by
  show (i == j) = _
  by_cases h : i = j
  · rw [decide_eq_true h, h]; simp
  · rw [decide_eq_false h]; simp [h]
theorem inV_ints (i : Int) (ns : List Int) : inV (.int i) (ns.map V.int) = decide (i ∈ ns) := by
  unfold inV
  rw [List.any_map]
  by_cases h : i ∈ ns
  · rw [decide_eq_true h]
    exact List.any_eq_true.mpr ⟨i, h, by show eqV (.int i) (.int i) = true; rw [eqV_int]; simp⟩
  · rw [decide_eq_false h]
    refine List.any_eq_false.mpr fun x hx => ?_
    show ¬ eqV (.int x) (.int i) = true
    rw [eqV_int]
    intro z
    exact h (of_decide_eq_true z ▸ hx)
theorem rep_flat (n : Nat) (v : V) : (List.replicate ((n : Nat) : Int).toNat [v]).flatten = List.replicate n v := by
  rw [Int.toNat_natCast]
  induction n with
  | zero => rfl
  | succ n ih => rw [List.replicate_succ, List.flatten_cons, ih]; rfl
theorem rep_map {α : Type} (f : α → V) (n : Nat) (a : α) : List.replicate n (f a) = (List.replicate n a).map f := (List.map_replicate).symm
end Ow
namespace Ow
open PySem PySem.Spec PyProof.Rows L2
theorem set_split {α : Type} {cs : List α} {i : Nat} {x y : α} (h : cs[i]? = some x) : cs.set i y = cs.take i ++ y :: cs.drop (i + 1) := by
  have h1 := (List.getElem?_eq_some_iff.mp h).1
  rw [List.set_eq_take_append_cons_drop, if_pos h1]
theorem at_split {α : Type} {cs : List α} {i : Nat} {x : α} (h : cs[i]? = some x) : cs = cs.take i ++ x :: cs.drop (i + 1) := by
  obtain ⟨h1, rfl⟩ := List.getElem?_eq_some_iff.mp h
  rw [List.getElem_cons_drop h1, List.take_append_drop]
theorem set_map {α β : Type} (f : α → β) : ∀ (l : List α) (i : Nat) (a : α), (l.map f).set i (f a) = (l.set i a).map f
  | [], _, _ => rfl
  | _ :: _, 0, _ => rfl
  | x :: r, i + 1, a => by rw [List.map_cons, List.set_cons_succ, List.set_cons_succ, List.map_cons, set_map f r i a]
theorem ix_at {n i : Nat} (h : i < n) : ixN n (i : Int) = some i := by
  unfold ixN
  rw [if_pos (by omega), if_pos (by omega), Int.toNat_natCast]
/-- a thing of a row is put anew: its old cell is let go -/
theorem Own.put {α : Type} {H0 H : Hp} {A : List Addr} {pre : Cells} {l : List α} {g : α → Addr × HO} {b y : α} {j : Nat} (O : Own H0 H A (g b :: (pre ++ l.map g))) (h : l[j]? = some y) : Own H0 H A (pre ++ (l.set j b).map g) := by
  have e := at_split h
  have O1 : Own H0 H A (g b :: (pre ++ ((l.take j).map g ++ (l.drop (j + 1)).map g))) := O.drop (by
    conv => rhs; rw [e, List.map_append, List.map_cons]
    exact .cons₂ _ (.append (.refl _) (.append (.refl _) (.cons _ (.refl _)))))
  rw [set_split h, List.map_append, List.map_cons]
  refine O1.perm ?_
  rw [← List.append_assoc, ← List.append_assoc]
  exact List.perm_middle.symm
end Ow
namespace Ow
open PySem PySem.Spec PyProof.Rows L2
theorem take_succ {α : Type} {l : List α} {i : Nat} {y : α} (h : l[i]? = some y) : l.take (i + 1) = l.take i ++ [y] := by
  rw [List.take_succ, h]; rfl
theorem sorted_ext : ∀ {l k : List Int}, l.Pairwise (· < ·) → k.Pairwise (· < ·) → (∀ m, m ∈ l ↔ m ∈ k) → l = k
  | [], [], _, _, _ => rfl
  | [], y :: k, _, _, h => absurd ((h y).mpr List.mem_cons_self) (by simp)
  | x :: l, [], _, _, h => absurd ((h x).mp List.mem_cons_self) (by simp)
  | x :: l, y :: k, h1, h2, h => by
    obtain ⟨a1, a2⟩ := List.pairwise_cons.mp h1
    obtain ⟨b1, b2⟩ := List.pairwise_cons.mp h2
    have e : x = y := by
      rcases List.mem_cons.mp ((h x).mp List.mem_cons_self) with z | z
      · exact z
      · rcases List.mem_cons.mp ((h y).mpr List.mem_cons_self) with w | w
        · exact w.symm
        · have := b1 _ z
          have := a1 _ w
          omega
    subst e
    rw [sorted_ext a2 b2 fun m => ⟨fun hm => ?_, fun hm => ?_⟩]
    · rcases List.mem_cons.mp ((h m).mp (List.mem_cons_of_mem _ hm)) with z | z
      · have := a1 _ hm; omega
      · exact z
    · rcases List.mem_cons.mp ((h m).mpr (List.mem_cons_of_mem _ hm)) with z | z
      · have := b1 _ hm; omega
      · exact z
end Ow
namespace Ow
open L2 in
/-- behind a call: what it has made stands ahead -/
theorem Own.callE {H0 H H' : Hp} {A : List PySem.Addr} {cs s s' cs' e : Cells} (O : Own H0 H A cs) (h : Sub cs s s' cs') (C : Own H H' (Ow.adr s) (e ++ s')) : Own H0 H' A (e ++ cs') := by
  obtain ⟨l, r, rfl, rfl⟩ := h.split
  have O1 := O.call (cs' := l ++ ((e ++ s') ++ r)) (.app .here) C
  refine O1.perm ?_
  have e1 : l ++ ((e ++ s') ++ r) = (l ++ e) ++ (s' ++ r) := by simp only [List.append_assoc]
  have e2 : e ++ (l ++ (s' ++ r)) = (e ++ l) ++ (s' ++ r) := by simp only [List.append_assoc]
  rw [e1, e2]
  exact (List.perm_append_comm).append_right _
end Ow
namespace Ow
open PySem PySem.Spec PyProof.Rows L2
/-- a new thing, as the goal names it: it is ours from now on -/
theorem Own.nxt {H0 H : Hp} {A : List Addr} {cs : Cells} {p : Addr} {o : HO} {G : Hp → Prop} (O : Own H0 H A cs) (h : H p = none) (k : Own H0 (upd H p o) A ((p, o) :: cs) → G (upd H p o)) : G (upd H p o) := k (O.new h)
theorem Own.nxtQ {H0 H : Hp} {A : List Addr} {cs : Cells} {p : Addr} {o : HO} {Q : VK} {G : Hp → VK → Prop} (O : Own H0 H A cs) (h : H p = none) (k : Own H0 (upd H p o) A ((p, o) :: cs) → G (upd H p o) Q) : G (upd H p o) Q := k (O.new h)
end Ow
namespace Ow
open PySem PySem.Spec PyProof.Rows L2
/-! ### loops and comprehensions over anything that is walked -/
section
variable {J : It} {n : Nat} {G : Hp → Prop} {Y : Nat → Hp → V → Hp → Prop}
theorem forW (w : Walk J n G Y) {g : TG} {tb : TS} {D : Ends} {σ : L2.St} {H : Hp} (Pv : Nat → L2.St → Hp → Prop) (h0 : Pv 0 σ H) (hG : ∀ i σ H, i ≤ n → Pv i σ H → G H)
    (hs : ∀ i x σ H H', i < n → Pv i σ H → Y i H x H' → g x σ H' fun σ2 H2 => tb { D with nx := fun σ H => Box (Pv (i + 1) σ H), ct := fun σ H => Box (Pv (i + 1) σ H), bk := D.nx } σ2 H2) (hd : ∀ σ H, Pv n σ H → D.nx σ H) :
    Box (∃ W : Nat → Nat → L2.St → Hp → Prop, (∃ m, W 0 m σ H) ∧ ∀ i m σ H, W i m σ H →
      (J.stop i H ∧ D.nx σ H) ∨ (J.go i H ∧ ∃ N : L2.St → Hp → Prop, (∀ σ' H', N σ' H' → ∃ m', m' < m ∧ W (i + 1) m' σ' H') ∧ ∀ x H', J.yld i H x H' → g x σ H' fun σ2 H2 => tb { D with nx := N, ct := N, bk := D.nx } σ2 H2)) :=
  ⟨for_it w (fun i σ H => Box (Pv i σ H)) ⟨h0⟩ (fun i σ H hi p => hG i σ H hi p.out) (fun i x σ H H' hi p y => hs i x σ H H' hi p.out y) (fun σ H p => hd σ H p.out)⟩
theorem lcW (w : Walk J n G Y) {g : TG} {tt : TT} {te : TE} {vs : List Nat} {σ : L2.St} {H1 : Hp} {Q : Addr → Hp → Prop} (Pv : Addr → Nat → Hp → Prop) (h0 : ∀ D, H1 D = none → Pv D 0 (upd H1 D (.lst []))) (hG : ∀ D i H, i ≤ n → Pv D i H → G H)
    (hs : ∀ D i x H H', i < n → Pv D i H → Y i H x H' → g x (wipe σ vs) H' fun σ2 H2 => wipe σ2 vs = wipe σ vs ∧ tt σ2 H2 fun b H3 =>
      if b = true then te σ2 H3 fun y H4 => ∃ acc, H4 D = some (.lst acc) ∧ acc.length < sizeLine ∧ Box (Pv D (i + 1) (upd H4 D (.lst (acc ++ [y])))) else Box (Pv D (i + 1) H3)) (hd : ∀ D H, Pv D n H → Q D H) :
    Box (∀ D, H1 D = none → ∃ W : Nat → Nat → Hp → Prop, (∃ m, W 0 m (upd H1 D (.lst []))) ∧ ∀ i m H, W i m H →
      (J.stop i H ∧ Q D H) ∨ (J.go i H ∧ ∃ Nx : Hp → Prop, (∀ H', Nx H' → ∃ m', m' < m ∧ W (i + 1) m' H') ∧ ∀ x H', J.yld i H x H' → g x (wipe σ vs) H' fun σ2 H2 => wipe σ2 vs = wipe σ vs ∧ tt σ2 H2 fun b H3 =>
        if b = true then te σ2 H3 fun y H4 => ∃ acc, H4 D = some (.lst acc) ∧ acc.length < sizeLine ∧ Nx (upd H4 D (.lst (acc ++ [y]))) else Nx H3)) :=
  ⟨fun D hD => lc_it w (fun i H => Box (Pv D i H)) ⟨h0 D hD⟩ (fun i H hi p => hG D i H hi p.out) (fun i x H H' hi p y => hs D i x H H' hi p.out y) (fun H p => hd D H p.out)⟩
end
/-- None or a whole number -/
def oV : Option Int → V
  | none => .non
  | some i => .int i
theorem tyStr_of {K : PySem.W.Frag} {z : Str} {H : Hp} : tyV K "str" (.str z) H := rfl
theorem isStr_of {z : Str} : ∃ a, V.str z = V.str a := ⟨z, rfl⟩
theorem putF_lt {f : Str} {v : V} {n : Nat} : ∀ {fs : List (Str × V)}, fs.length < n → (putF f v fs).length < n + 1
  | [], h => by show 1 < n + 1; simp only [List.length_nil] at h; omega
  | (g, x) :: r, h => by
    rw [List.length_cons] at h
    unfold putF
    by_cases e : g = f
    · rw [if_pos e, List.length_cons]; omega
    · rw [if_neg e, List.length_cons]
      have := putF_lt (f := f) (v := v) (n := n - 1) (fs := r) (by omega)
      omega
theorem at_of {xs : List V} {i : Int} {v : V} (h : atI xs i = some v) : atI xs i = some v := h
theorem ix_of {n : Nat} {i : Int} {j : Nat} (h : ixN n i = some j) : ixN n i = some j := h
theorem cp_of {i j : Int} (h : CPow i j) : CPow i j := h
theorem cmw_of {i j : Int} (h : CMulW i j) : CMulW i j := h
theorem eq_oV {o : Option Int} {j : Int} : decide (oV o = V.int j) = decide (o = some j) := by
  cases o with
  | none => simp [oV]
  | some i => simp [oV]
theorem zip_all {α β γ : Type} [DecidableEq γ] (f : α → γ) (g : β → γ) : ∀ (xs : List α) (ys : List β), xs.length = ys.length → ((xs.zip ys).map fun p => decide (f p.1 = g p.2)).all id = decide (xs.map f = ys.map g)
  | [], [], _ => rfl
  | [], _ :: _, h => by cases h
  | _ :: _, [], h => by cases h
  | x :: xs, y :: ys, h => by
    have ih := zip_all f g xs ys (by simpa using h)
    simp only [List.zip_cons_cons, List.map_cons, List.all_cons, id_eq, ih, List.cons.injEq, Bool.decide_and]
theorem zip_at {α β : Type} {xs : List α} {ys : List β} {i : Nat} {x : α} {y : β} (h1 : xs[i]? = some x) (h2 : ys[i]? = some y) : (xs.zip ys)[i]? = some (x, y) := List.getElem?_zip_eq_some.mpr ⟨h1, h2⟩
/-! ### readings by name, for what stands within a comprehension -/
def rLenSq (K : PySem.W.Frag) : List V → Hp → VK → Prop := fun xs H Q => ∃ p ys, xs = [.ref p] ∧ (SqL K H p ys ∨ SqT K H p ys) ∧ Q (.int ys.length) H
def rLenV (K : PySem.W.Frag) : List V → Hp → VK → Prop := fun xs H Q => ∃ x n, xs = [x] ∧ LenV K x H n ∧ Q (.int n) H
def rListOf (K : PySem.W.Frag) : List V → Hp → VK → Prop := fun xs H Q => ∃ p ys, xs = [.ref p] ∧ (SqL K H p ys ∨ SqT K H p ys) ∧ ∀ l, H l = none → Q (.ref l) (upd H l (.lst ys))
def rTupOf (K : PySem.W.Frag) : List V → Hp → VK → Prop := fun xs H Q => ∃ p ys, xs = [.ref p] ∧ ((SqL K H p ys ∧ ∀ l, H l = none → Q (.ref l) (upd H l (.tup ys))) ∨ (SqT K H p ys ∧ Q (.ref p) H))
/-! ### rows of whole numbers, each with its place -/
abbrev Pg := Addr × List Int
abbrev pcel (x : Pg) : Addr × HO := (x.1, .lst (x.2.map V.int))
/-- the rows stand in the heap -/
def RowsAt (H : Hp) (rs : List Pg) : Prop := ∀ r ∈ rs, H r.1 = some (.lst (r.2.map V.int))
theorem RowsAt.mono {H0 H : Hp} {cs : Cells} {rs : List Pg} (h : RowsAt H0 rs) (O : Own H0 H [] cs) : RowsAt H rs := fun r hr => O.fr0 (h r hr)
theorem Own.rows {H0 H : Hp} {A : List Addr} {cs : Cells} {rs : List Pg} (O : Own H0 H A cs) (h : ∀ r ∈ rs, pcel r ∈ cs) : RowsAt H rs := fun r hr => O.get (h r hr)
theorem refs_get {rs : List Pg} {i : Nat} {x : V} (h : (rs.map fun x : Pg => V.ref x.1)[i]? = some x) : ∃ y, rs[i]? = some y ∧ x = V.ref y.1 := by
  rw [List.getElem?_map] at h
  cases e : rs[i]? with
  | none => rw [e] at h; cases h
  | some y => rw [e] at h; exact ⟨y, rfl, (Option.some.inj h).symm⟩
/-- a thing of a row is put anew, where more stands behind -/
theorem Own.put2 {α : Type} {H0 H : Hp} {A : List Addr} {pre post : Cells} {l : List α} {g : α → Addr × HO} {b y : α} {j : Nat} (O : Own H0 H A (g b :: (pre ++ (l.map g ++ post)))) (h : l[j]? = some y) : Own H0 H A (pre ++ ((l.set j b).map g ++ post)) := by
  have O1 : Own H0 H A (g b :: ((post ++ pre) ++ l.map g)) := O.perm (by
    refine .cons _ ?_
    rw [List.append_assoc, ← List.append_assoc pre]
    exact List.perm_append_comm)
  have O2 := O1.put h
  refine O2.perm ?_
  rw [List.append_assoc, ← List.append_assoc pre]
  exact List.perm_append_comm
theorem rgV0 (n : Nat) : rgV 0 (n : Int) = ((List.range n).map fun i : Nat => (i : Int)).map V.int := by
  unfold rgV
  rw [List.map_map, show ((n : Int) - 0).toNat = n by omega]
  exact List.map_congr_left fun i _ => by rw [Int.zero_add]; rfl
theorem cutV_to (xs : List V) (n : Nat) : cutV xs none (some (n : Int)) = xs.take n := by
  unfold cutV
  rw [HT.sIx_nat]
  show (xs.drop 0).take _ = _
  rw [List.drop_zero, HT.sIx_none, Nat.sub_zero]
  by_cases h : n ≤ xs.length
  · rw [show min n xs.length = n by omega]
  · rw [show min n xs.length = xs.length by omega, List.take_length, List.take_of_length_le (by omega)]
theorem cutV_from (xs : List V) (n : Nat) : cutV xs (some (n : Int)) none = xs.drop n := by
  unfold cutV
  rw [HT.sIx_nat]
  show (xs.drop (min n xs.length)).take (xs.length - min n xs.length) = _
  by_cases h : n ≤ xs.length
  · rw [show min n xs.length = n by omega, List.take_of_length_le (by rw [List.length_drop]; omega)]
  · rw [show min n xs.length = xs.length by omega, List.drop_length, List.drop_eq_nil_of_le (by omega), List.take_nil]
theorem cutV_mid (xs : List V) (a b : Nat) (h : a ≤ b) (hb : b ≤ xs.length) : cutV xs (some (a : Int)) (some (b : Int)) = (xs.drop a).take (b - a) := by
  unfold cutV
  rw [HT.sIx_nat, HT.sIx_nat, show min a xs.length = a by omega, show min b xs.length = b by omega]
/-- cells that were handed and stand as they stood need not be told -/
theorem Own.back {H0 H : Hp} {cs bs : Cells} (O : Own H0 H (Ow.adr bs) (cs ++ bs)) (h : ∀ a o, (a, o) ∈ bs → H0 a = some o) : Own H0 H [] cs := by
  have nd := O.nd
  rw [adr_app] at nd
  obtain ⟨n1, n2, n3⟩ := List.nodup_append.mp nd
  refine ⟨fun a o m => O.at_ a o (List.mem_append_left _ m), n1, fun b o e _ => ?_, fun b m => ?_, O.tp⟩
  · by_cases hb : b ∈ Ow.adr bs
    · obtain ⟨c, hc, rfl⟩ := List.mem_map.mp hb
      have e2 := h c.1 c.2 hc
      rw [e] at e2
      cases e2
      exact O.at_ _ _ (List.mem_append_right _ hc)
    · exact O.fr b o e hb
  · rcases O.nw b (by rw [adr_app]; exact List.mem_append_left _ m) with z | z
    · exact absurd rfl (n3 b m b z)
    · exact .inr z
/-- a dict is written: a key that is not there comes last -/
theorem putK_new {kvs : List (Key × V)} {k : Key} {v : V} (h : k ∉ kvs.map (·.1)) : putK kvs k v = kvs ++ [(k, v)] := by
  unfold putK
  rw [if_neg]
  intro e
  obtain ⟨x, hx, e⟩ := List.any_eq_true.mp e
  exact h (List.mem_map.mpr ⟨x, hx, of_decide_eq_true e⟩)
theorem mergeK_app : ∀ {more acc : List (Key × V)}, ((acc ++ more).map (·.1)).Nodup → mergeK acc more = acc ++ more
  | [], acc, _ => (List.append_nil acc).symm
  | (k, v) :: r, acc, h => by
    have h1 : k ∉ acc.map (·.1) := by
      rw [List.map_append] at h
      intro z
      exact (List.nodup_append.mp h).2.2 k z k (by simp) rfl
    show mergeK (putK acc k v) r = _
    rw [putK_new h1, mergeK_app (by rw [List.append_assoc]; exact h), List.append_assoc]
    rfl
theorem Own.sep {H0 H : Hp} {A : List Addr} {X Y : Cells} {a : Addr} (O : Own H0 H A (X ++ Y)) (h : a ∈ Ow.adr X) : a ∉ Ow.adr Y := fun z => by
  have nd := O.nd
  rw [adr_app] at nd
  exact (List.nodup_append.mp nd).2.2 a h a z rfl
theorem atI_last {xs : List V} {v : V} (h : xs[xs.length - 1]? = some v) : atI xs (-1) = some v := by
  have hl := (List.getElem?_eq_some_iff.mp h).1
  have e : ixN xs.length (-1) = some (xs.length - 1) := by
    unfold ixN
    rw [if_neg (by decide), if_pos (by omega)]
    congr 1
    omega
  unfold atI
  rw [e]
  exact h
/-! ### dicts of lists, compared -/
section
open PySem.Calls PyProof.V
variable {prog : Program} {w : World} {κ : Type} [DecidableEq κ] {knd : KeyKind prog w κ} {A : Around} {s : Shared}
theorem neP_dicts {a b : Addr} {ka kb : List (κ × Value)} {r : Bool} (ha : (a == sysModules) = false) (hb : (b == sysModules) = false) (da : s.heap.DictOf knd a ka) (db : s.heap.DictOf knd b kb) (hu : A.units < cLine)
    (hits : ka.length = kb.length → PySem.W.KeqHitsP prog w A.in1 s kb ka r) (E Q : Value → Shared → Prop) (h : Q (.bool (!(ka.length == kb.length && r))) s) : wpAny (model prog w) A (compareOp .NotEq (.ref a) (.ref b)) Q E s := by
  refine wpAny_richCompare_same_room (op := .NotEq) da.typeIs db.typeIs PySem.F.slot_dict_ne (wpAny_call_entry PySem.F.slot_dict_ne da.typeIs PySem.F.entry_dict_ne ?_ (PySem.F.args_dict_ne_2 _ _)) hu
  show wpAny _ _ (Builtin.Dict.dictSlotArgs "__ne__" ⟨[.ref a, .ref b], []⟩ >>= _) _ _ s
  refine wpAny_bind ?_
  unfold Builtin.Dict.dictSlotArgs
  refine wpAny_bind (wpAny_notOrdered_dict da.typeIs ?_)
  show wpAny _ _ (pure (Value.ref a, Value.ref b)) _ _ s
  refine wpAny_pure ?_
  refine wpAny_bind (wpAny_isInstance (T := "dict") db.typeIs PySem.F.sub_dict_dict ?_)
  simp only [Bool.not_true, Bool.false_eq_true, if_false]
  refine wpAny_bind (wpAny_pure (wpAny_bind (wpAny_pure ?_)))
  refine wpAny_bind (PySem.W.samePairsP ha hb da db hits ?_)
  refine wpAny_pure ⟨_, rfl, ?_, ?_⟩
  · exact fun x => nomatch x
  · simpa using h
end
/-- d != e, two dicts: of unlike lengths, or equal -/
def rNeDV (K : PySem.W.Frag) : R2 := fun x y H Q => ∃ a b ks ls, x = .ref a ∧ y = .ref b ∧ H a = some (.dK ks) ∧ H b = some (.dK ls) ∧
  ((ks.length ≠ ls.length ∧ Q (.bl true) H) ∨ (ks.length = ls.length ∧ (∀ p ∈ ks, ∃ u, valV ls p.1 = some u ∧ EqV K H 2 p.2 u) ∧ Q (.bl false) H))
theorem op_neDV {X : Cx} (hu : X.A.units + 64 < cLine) : OpR X (compareOp .NotEq) (rNeDV X.K) := by
  intro pins s σ H x y v u Q I rx ry h
  obtain ⟨a, b, ks, ls, rfl, rfl, ea, eb, h⟩ := h
  obtain rfl : v = Value.ref a := rx
  obtain rfl : u = Value.ref b := ry
  obtain ⟨_, ya, va, ra, da⟩ := (show ObjOk X.prog X.w H s.heap a (.dK ks) from I.hok a _ ea)
  obtain ⟨_, yb, vb, rb, db⟩ := (show ObjOk X.prog X.w H s.heap b (.dK ls) from I.hok b _ eb)
  have e1 : va.length = ks.length := ra.length.symm
  have e2 : vb.length = ls.length := rb.length.symm
  rcases h with ⟨hne, q⟩ | ⟨hl, hp, q⟩
  · refine neP_dicts (knd := mixKind X.prog X.w) (r := false) ya yb da db (by omega) (fun z => absurd (by omega) hne) _ _ ?_
    rw [show (!(va.length == vb.length && false)) = true by simp]
    exact ⟨.bl true, H, I, rfl, q⟩
  · refine neP_dicts (knd := mixKind X.prog X.w) (r := true) ya yb da db (by omega) (fun _ => hits_run (eqV_run I 2 X.A.in1 (by show X.A.units + 1 + 2 < cLine; omega)) rb ra hp) _ _ ?_
    rw [show (!(va.length == vb.length && true)) = false by rw [e1, e2, hl]; simp]
    exact ⟨.bl false, H, I, rfl, q⟩
theorem paired_ints {K : PySem.W.Frag} {H : Hp} : ∀ ns : List Int, Paired (EqV K H 1) (ns.map V.int) (ns.map V.int)
  | [] => .nil
  | n :: r => .cons (.inl ⟨rfl, rfl⟩) (paired_ints r)
theorem eqV_ints {K : PySem.W.Frag} {H : Hp} {a b : Addr} {ns : List Int} (ha : H a = some (.lst (ns.map V.int))) (hb : H b = some (.lst (ns.map V.int))) : EqV K H 2 (.ref a) (.ref b) :=
  .inr (.inr (.inl ⟨a, b, _, _, rfl, rfl, SqL.of ha, SqL.of hb, paired_ints ns⟩))
/-! ### lists of texts, compared -/
section
variable {K : PySem.W.Frag} {H : Hp} {a b : Addr}
theorem dpa_strs : ∀ ns : List Str, DpAll K H (ns.map V.str) (ns.map PyData.str)
  | [] => .nil
  | n :: r => .cons (.str n) (dpa_strs r)
theorem depth_strs : ∀ ns : List Str, PyData.depthAll (ns.map PyData.str) ≤ 1
  | [] => by simp [PyData.depthAll]
  | n :: r => by
    have := depth_strs r
    simp only [List.map_cons, PyData.depthAll, PyData.depth]
    omega
theorem lay_strs : ∀ ns : List Str, (ns.all PyData.strOk = true) → PyData.canLayAll0 (ns.map PyData.str) = true
  | [], _ => by simp [PyData.canLayAll0]
  | n :: r, h => by
    rw [List.all_cons, Bool.and_eq_true] at h
    simp [PyData.canLayAll0, PyData.canLay0, lay_strs r h.2, h.1]
theorem sh_strs (ns : List Str) (h : ns.all PyData.strOk = true) : SeqAt.shaped (.list (ns.map PyData.str)) = true := by
  have h1 := depth_strs ns
  have h2 : PyData.depth (.list (ns.map PyData.str)) ≤ 64 := by
    simp only [PyData.depth]
    omega
  show (PyData.canLay0 (.list (ns.map PyData.str)) && decide (PyData.depth (.list (ns.map PyData.str)) ≤ 64)) = true
  rw [Bool.and_eq_true]
  exact ⟨by simp only [PyData.canLay0]; exact lay_strs ns h, decide_eq_true h2⟩
theorem dist_strs : ∀ ns ms : List Str, PyData.eqvAll (ns.map PyData.str) (ms.map PyData.str) = decide (ns = ms)
  | [], [] => rfl
  | [], _ :: _ => rfl
  | _ :: _, [] => rfl
  | n :: r, m :: q => by
    rw [List.map_cons, List.map_cons, PyData.eqvAll, dist_strs r q]
    show ((n == m) && _) = _
    by_cases h : n = m
    · subst h; simp
    · rw [decide_eq_false (fun e => h (List.cons.inj e).1)]; simp [h]
theorem eq_strs {ns ms : List Str} {Q : VK} (h1 : ns.all PyData.strOk = true) (h2 : ms.all PyData.strOk = true) (ha : H a = some (.lst (ns.map V.str))) (hb : H b = some (.lst (ms.map V.str))) (k : Q (.bl (decide (ns = ms))) H) : rEqD K (.ref a) (.ref b) H Q :=
  ⟨_, _, .lst (SqL.of ha) (dpa_strs ns), .lst (SqL.of hb) (dpa_strs ms), sh_strs ns h1, sh_strs ms h2, by rw [show PyData.eqv (.list (ns.map PyData.str)) (.list (ms.map PyData.str)) = decide (ns = ms) from dist_strs ns ms]; exact k⟩
end
/-! ### held exceptions, asked about several classes -/
/-- isinstance(e, (c, ..)), e a held exception -/
def rIsXT (K : PySem.W.Frag) : List V → Hp → VK → Prop := fun xs H Q => ∃ (a D tp : Addr) (cs : List V) (us : List Value) (b : Bool), xs = [.ref a, .ref tp] ∧ H a = some (CxO (.ref D) none a) ∧ ExcC K D ∧ H tp = some (.tup cs) ∧ Paired ClsV cs us ∧ PySem.W.kitAny K (.ref D) us = some b ∧ Q (.bl b) H
theorem call_isXT {X : Cx} : CallR X (.builtin "isinstance") (rIsXT X.K) := by
  intro pins s σ H xs us Q I r h
  obtain ⟨a, D, tp, cs, ws, b, rfl, ha, C, hT, k, says, q⟩ := h
  obtain ⟨u1, u2, rfl, r1, r2⟩ := vals2 r
  cases (show u1 = Value.ref a from r1)
  cases (show u2 = Value.ref tp from r2)
  obtain ⟨⟨ob, vs, at_, z, dt⟩, _, _⟩ := I.hok a _ ha
  have J : PySem.W.InstAt s.heap a ob D none := by
    obtain ⟨oc, od, oda, osl⟩ := ob
    obtain ⟨h1, h2⟩ := zc_of z
    dsimp only at h1 h2 dt
    subst h1 h2 dt
    exact ⟨at_, rfl, rfl, trivial⟩
  obtain ⟨_, its, rv, o, h1, h2, n, h3⟩ := (show ObjOk X.prog X.w H s.heap tp (.tup cs) from I.hok tp _ hT)
  have e3 := ClsV.all k rv
  subst e3
  obtain ⟨oc, od, dt, sl⟩ := o
  simp only at h2 h3
  subst h2 h3
  refine PySem.W.kia_tup (PySem.W.handS_kitx_exc C.hg C.hk C.hs C.hd C.ha C.hn C.ht C.hm) I.kIn J h1 says (fun w => nomatch w) fun tk => ?_
  exact ⟨.bl b, H, I.kept (t' := tk) fun _ _ w => w, rfl, q⟩
theorem kit_any {K : PySem.W.Frag} {t : Value} : ∀ {us : List Value} {bs : List Bool}, Paired (fun u b => PySem.W.kitOne K t u = some b) us bs → PySem.W.kitAny K t us = some (bs.any id)
  | _, _, .nil => rfl
  | _, _, .cons (b := b) h k => by
    refine kitAny_cons h (fun e => ?_) (fun e => ?_)
    · have z := kit_any k
      rw [e]; exact z
    · rw [e]; rfl
/-! ### a dict is locked while it is walked -/
theorem lock_d {H : Hp} {d : Addr} {kvs : List (Key × V)} {t : TS} {D : Ends} {σ : L2.St} (h : H d = some (.dK kvs))
    (k : ∀ od, t ⟨fun σ' H' => H' d = some (.frz od (.dK kvs)) ∧ D.nx σ' (upd H' d (.dK kvs)), fun v H' => H' d = some (.frz od (.dK kvs)) ∧ D.rt v (upd H' d (.dK kvs)), fun σ' H' => H' d = some (.frz od (.dK kvs)) ∧ D.bk σ' (upd H' d (.dK kvs)), fun σ' H' => H' d = some (.frz od (.dK kvs)) ∧ D.ct σ' (upd H' d (.dK kvs))⟩ σ (upd H d (.frz od (.dK kvs)))) : tLock t D σ H :=
  ⟨d, _, h, True.intro, k⟩
end Ow
namespace Ow
open PySem PySem.Spec PyProof.Rows L2
/-! ### int(x) by kinds -/
theorem call_intB {X : Cx} : CallR X (.type "int") (fun xs H Q => ∃ k, xs = [.bl k] ∧ Q (.int (if k = true then 1 else 0)) H) := by
  intro pins s σ H xs us Q I r h
  exact call_int1 pins s σ H xs us Q I r (.inr h)
theorem call_intI {X : Cx} : CallR X (.type "int") (fun xs H Q => ∃ i, xs = [.int i] ∧ Q (.int i) H) := by
  intro pins s σ H xs us Q I r h
  exact call_int1 pins s σ H xs us Q I r (.inl h)
/-! ### the keys of a dict, as a view -/
/-- a view of the keys of the dict at d stands at r -/
def KO (r d : Addr) : HO := .ext fun h => PySem.W.KdlKeysView h r d
def rKeysV : V → List V → Hp → VK → Prop := fun x xs H Q => ∃ d kvs, x = .ref d ∧ xs = [] ∧ Rd H d (.dK kvs) ∧ ∀ r, H r = none → Q (.ref r) (upd H r (KO r d))
theorem mt_keys {X : Cx} : MtR X "dict.keys" rKeysV := by
  intro pins s σ H x vs v us Q I rx rv h
  obtain ⟨d, kvs, rfl, rfl, hd, q⟩ := h
  cases rx
  cases rv
  obtain ⟨z, lo, ws, rel, dd⟩ := dk_rd I.hok hd
  refine call_meetsIn F.slot_dict_keys dd.typeIs F.entry_dict_keys (F.args_dict_keys_1 _) (PySem.W.kdl_meets_keys (mixKind X.prog X.w) d lo) ⟨⟨ws, dd⟩, ?_⟩
  refine ⟨.ref s.heap.objs.size, upd H s.heap.objs.size (KO s.heap.objs.size d), I.laid (t' := s.toks) (fun b u e => Heap.get?_push_of_some _ e) (Nat.le_refl _) ?_, rfl, q _ (I.hok.fresh (Nat.le_refl _))⟩
  exact ⟨⟨_, Heap.get?_push_size _ rfl, rfl, rfl⟩, ⟨_, Heap.get?_push_size _ rfl⟩, fun h1 h2 ⟨o, e, c, dt⟩ k => ⟨o, k o e, c, dt⟩⟩
/-- sorted of what lists whole numbers -/
theorem sorted_src {X : Cx} {pins : List (Addr × Obj)} {σ : L2.St} {H : Hp} {s : Shared} {T : String} {r d : Addr} {vs : List (Key × Value)} {OK : Heap → Prop} {ks : List Int} {Q : VK} (hcalm : X.calm = true) (I : Inv X pins σ H s)
    (S : PySem.W.KdlSrc X.prog X.w T r d vs.length (fun i v => ∃ k x, vs[i]? = some (k, x) ∧ (mixKind X.prog X.w).is k v = true) OK) (ok : OK s.heap) (hkeys : vs.map (·.1) = ks.map Sum.inl) (hz : ks.length ≤ sizeLine)
    (q : ∀ (ys : List Int) (p : Addr), ys.Perm ks → ys.Pairwise (· ≤ ·) → H p = none → Q (.ref p) (upd H p (.lst (ys.map V.int)))) : wpAny (model X.prog X.w) X.A (call (.builtin "sorted") [.ref r]) (EP X pins σ Q) X.xe s := by
  have hl : vs.length = ks.length := by
    have e := congrArg List.length hkeys
    rw [List.length_map, List.length_map] at e
    exact e
  refine Calls.call_function_entry PyProof.Rows.kind_sorted PyProof.Rows.plain_sorted PyProof.Rows.entry_sorted (PyProof.Rows.args_sorted1 _) ?_
  unfold Builtin.«sorted»
  refine wpAny_bind (m := checkCount "sorted" 1 1 _) (wpAny_pure ?_)
  refine wpAny_bind (PySem.W.kdu_collect (A := X.A.in1) S (I.ok.hd hcalm) ok (by omega) fun h' tk acc hk hacc => ?_)
  have hal : acc.toList.length = ks.length := by rw [Array.length_toList, hacc.1, hl]
  have hS : IntsAre acc.toList ks := ints_each hal fun j v e => by
    obtain ⟨k, x, e1, e2⟩ := hacc.2 j v (by rw [← Array.getElem?_toList]; exact e)
    have e3 : (vs.map (·.1))[j]? = some k := by rw [List.getElem?_map, e1]; rfl
    rw [hkeys, List.getElem?_map] at e3
    cases e4 : ks[j]? with
    | none => rw [e4] at e3; cases e3
    | some y =>
      rw [e4] at e3
      have e5 : Sum.inl y = k := Option.some.inj e3
      subst e5
      rcases keyIs_shape (show keyIs (Sum.inl y) v = true from e2) with ⟨i, t, ek, ev⟩ | ⟨z, t, ek, ev⟩
      · cases ek
        exact ⟨y, t, rfl, ev⟩
      · cases ek
  have I1 : Inv X pins σ H { s with heap := h', toks := tk } := I.kept hk
  refine wpAny_bind (wpAny_newList ?_ (by rw [hal]; exact hz))
  have hoL : (h'.push (seqObj "list" acc.toList.toArray 0)).get? h'.objs.size = some (seqObj "list" acc.toList.toArray 0) := Heap.get?_push_size _ rfl
  show wpAny _ _ _ _ _ { s with heap := h'.push (seqObj "list" acc.toList.toArray 0), toks := tk }
  refine wpAny_bind (wpAny_holding (wpAny_call_entry PyProof.Rows.slot_list_sort ⟨_, hoL, rfl⟩ PyProof.Rows.entry_list_sort
    (SrtO.list_sort_ord (s := { s with heap := h'.push (seqObj "list" acc.toList.toArray 0), toks := tk }) SrtO.swo_int hoL (by rw [hal]; exact hz) (fun h2 => SrtO.ints_sortable hS h2) fun out h1 h2 => ⟨_, rfl, ?_⟩) (PyProof.Rows.args_list_sort _)))
  obtain ⟨g1, g2, g3⟩ := SrtO.ints_out hS h1 h2
  obtain ⟨e', he'⟩ := PyProof.Rows.sortedHeap_at (vs := acc.toList) (out := out.toArray) hoL
  have hlen : ((out.map SrtO.iv).map V.int).length ≤ sizeLine := by
    rw [List.length_map, g2.length_eq]
    exact hz
  refine wpAny_pure ⟨_, rfl, .ref h'.objs.size, upd H h'.objs.size (.lst ((out.map SrtO.iv).map V.int)), I1.laid (t' := tk) (fun b u e => ?_) (Nat.le_refl _)
    (show ObjOk X.prog X.w _ _ _ (.lst ((out.map SrtO.iv).map V.int)) from ⟨hlen, out, e', vals_of_ints g1, he'⟩), rfl, q _ _ g2 g3 (I1.hok.fresh (Nat.le_refl _))⟩
  have hb : b < h'.objs.size := Heap.lt_size e
  rw [PyProof.Rows.sortedHeap_old (Nat.ne_of_lt hb) (by rw [size_push']; exact Nat.lt_succ_of_lt hb)]
  exact Heap.get?_push_of_some _ e
def rSortedK : List V → Hp → VK → Prop := fun xs H Q => ∃ (r a : Addr) (kvs : List (Key × V)) (ks : List Int), xs = [.ref r] ∧ H r = some (KO r a) ∧ Rd H a (.dK kvs) ∧ kvs.map (·.1) = ks.map Sum.inl ∧
    ∀ (ys : List Int) (p : Addr), ys.Perm ks → ys.Pairwise (· ≤ ·) → H p = none → Q (.ref p) (upd H p (.lst (ys.map V.int)))
/-- sorted(d.keys()), all ints -/
theorem call_sortedK {X : Cx} (hcalm : X.calm = true) : CallR X (.builtin "sorted") rSortedK := by
  intro pins s σ H xs us Q I r q
  obtain ⟨v, a, kvs, ks, ex, hv, hd, hks, q⟩ := q
  subst ex
  obtain ⟨u, eu, rx⟩ := vals1 r
  subst eu
  cases rx
  obtain ⟨hview, _, _⟩ := I.hok v _ hv
  obtain ⟨z, lo, vs, rel, dd⟩ := dk_rd I.hok hd
  obtain ⟨ep, hat⟩ := dd.dictAt
  have hkeys : vs.map (·.1) = ks.map Sum.inl := rel.keys.symm.trans hks
  have hz := congrArg List.length hks
  rw [List.length_map, List.length_map] at hz
  exact sorted_src hcalm I (PySem.W.kdl_keys (knd := mixKind X.prog X.w) (kvs := vs) (ep := ep) (r := v) (d := a)) ⟨hview, hat⟩ hkeys (by omega) q
def rSortedDW : List V → Hp → VK → Prop := fun xs H Q => ∃ (a : Addr) (kvs : List (Key × V)) (ks : List Int), xs = [.ref a] ∧ Rd H a (.dK kvs) ∧ kvs.map (·.1) = ks.map Sum.inl ∧
    ∀ (ys : List Int) (p : Addr), ys.Perm ks → ys.Pairwise (· ≤ ·) → H p = none → Q (.ref p) (upd H p (.lst (ys.map V.int)))
/-- sorted(d), all ints -/
theorem call_sortedDW {X : Cx} (hcalm : X.calm = true) : CallR X (.builtin "sorted") rSortedDW := by
  intro pins s σ H xs us Q I r q
  obtain ⟨a, kvs, ks, ex, hd, hks, q⟩ := q
  subst ex
  obtain ⟨u, eu, rx⟩ := vals1 r
  subst eu
  cases rx
  obtain ⟨z, lo, vs, rel, dd⟩ := dk_rd I.hok hd
  obtain ⟨ep, hat⟩ := dd.dictAt
  have hkeys : vs.map (·.1) = ks.map Sum.inl := rel.keys.symm.trans hks
  have hz := congrArg List.length hks
  rw [List.length_map, List.length_map] at hz
  exact sorted_src hcalm I (PySem.W.kdl_dict (knd := mixKind X.prog X.w) (kvs := vs) (ep := ep) lo) hat hkeys (by omega) q
end Ow
namespace Ow
open PySem PySem.Spec PyProof.Rows L2
/-! ### range(i, j), its ends of any size -/
theorem turn_long {P : Program} {w : World} {K : PySem.W.Frag} {tg : Expr} (it : Addr) (lo : Int) (n : Nat) : Turn P w K tg (Itr lo n) [it] it (fun i h => IsLongIter h it (lo + (i : Nat) * 1) ((n : Int) - (i : Nat)) 1) where
  mem := by simp
  obj := fun i h st b hb => by
    cases List.mem_singleton.mp hb
    exact ⟨_, st, fun v z => by
      have z' : Data.fields _ = Data.cell v := z
      cases z'⟩
  keep := fun i h h' st k => k it (by simp) _ st
  item := by
    intro X hP hw hK hc i pins s σ H E I hf st hg
    subst hP hw hK
    obtain ⟨f0, f1, _, f3, f4, f5⟩ := hf it (by simp)
    have hlt : i < n := hg
    refine wpAny_pyNext_long_item st (by omega) fun h' st' sb => ?_
    have st2 : IsLongIter h' it (lo + ((i + 1 : Nat) : Int) * 1) ((n : Int) - ((i + 1 : Nat) : Int)) 1 := by
      rw [show lo + ((i + 1 : Nat) : Int) * 1 = lo + ((i : Nat) : Int) * 1 + 1 by omega, show (n : Int) - ((i + 1 : Nat) : Int) = (n : Int) - ((i : Nat) : Int) - 1 by omega]
      exact st'
    have J : Inv X pins σ H { s with heap := h', toks := s.toks + 1 } := I.turned (fun b o hb q => (sb.2 b hb).trans q) f0 f1 f3 f4 f5
    refine ⟨_, rfl, go_of (s := { s with heap := h', toks := s.toks + 1 }) (n := "longrange_iterator") st2 rfl rfl (by decide) ⟨.int (lo + i), H, J, ⟨s.toks, ?_⟩, ⟨rfl, rfl⟩, st2, fun b hb => (hf b hb).1⟩⟩
    rw [Int.mul_one]
  done := by
    intro X hP hw hK hc i pins s σ H E I hf st hg
    subst hP hw hK
    obtain ⟨f0, f1, _, f3, f4, f5⟩ := hf it (by simp)
    exact wpAny_pyNext_long_end (I.ok.hd hc) st (by have : n ≤ i := hg; omega) fun h' eb => ⟨rfl, I.turned (t' := s.toks) (fun b o hb q => eb b o hb q) f0 f1 f3 f4 f5⟩
  self := fun _ _ _ _ _ st h => wpAny_pyIter_longiter st h
def iRngW (ta : TA) : TI := fun σ H R => ta σ H fun vs H1 => ∃ i j : Int, vs = [.int i, .int j] ∧ R (Itr i (j - i).toNat) H1
theorem pi_range2W {X : Cx} {tg a b : Expr} {ta : TA} {p pos : Pos} (hg : Gl X "range") (hm : X.mg "range" = none) (ha : PA X [a, b] ta) (hs : starEach [a, b] X.env = [(false, eval a X.env), (false, eval b X.env)] := by rfl) (hs2 : starEach [b] X.env = [(false, eval b X.env)] := by rfl) :
    PI X tg (.Call (.Name "range" p) [a, b] [] pos) (iRngW ta) := by
  constructor
  intro pins s σ H R I h
  refine Call_ (ld_blt I hg hm boot_range (PyProof.Rows.callWith_type1 (thn (ha.run pos pins s σ H _ I h) fun us s1 ⟨vs, H1, I1, r1, lo, hi, ev, q⟩ => ?_) (by rw [hs, hs2]) (by rw [hs2]; rfl)))
  subst ev
  obtain ⟨u1, u2, rfl, ⟨t, rfl⟩, ⟨t', rfl⟩⟩ := vals2 r1
  refine call_range_2 ?_
  generalize hh : s1.heap.push { cls := .type "range", data := .fields #[.int lo t, .int hi t', .int 1 s1.toks] } = g
  have I2 : Inv X pins σ H1 { s1 with heap := g, toks := s1.toks + 1 } := I1.kept fun b o q => by rw [← hh]; exact Heap.get?_push_of_some _ q
  have at_ : IsRange g s1.heap.objs.size lo hi 1 t t' s1.toks := by rw [← hh]; exact Heap.get?_push_size _ rfl
  have size : ((((hi - lo).toNat : Nat) : Int) - ((0 : Nat) : Int)) = Builtin.Range.rangeSize lo hi 1 := by rw [rangeSize_one]; split <;> omega
  have place : lo + ((0 : Nat) : Int) * 1 = lo := by simp
  cases hb : Builtin.Range.small lo hi 1 with
  | true =>
    refine wpAny_pyIter_range at_ hb ⟨g.objs.size, [g.objs.size], _, _, H1, rfl, I2.kept (t' := s1.toks + 1) fun b o q => Heap.get?_push_of_some _ q, turn_range _ lo (hi - lo).toNat, ?_, fun b hb => ?_, q⟩
    · show IsRangeIter _ _ (lo + ((0 : Nat) : Int) * 1) ((((hi - lo).toNat : Nat) : Int) - ((0 : Nat) : Int)) 1
      rw [place, size]
      exact Heap.get?_push_size _ rfl
    · cases List.mem_singleton.mp hb
      exact I2.fpOk (Nat.le_refl _) (I2.hok.fresh (Nat.le_refl _))
  | false =>
    refine wpAny_pyIter_longrange at_ hb ⟨g.objs.size, [g.objs.size], _, _, H1, rfl, I2.kept (t' := s1.toks + 1) fun b o q => Heap.get?_push_of_some _ q, turn_long _ lo (hi - lo).toNat, ?_, fun b hb => ?_, q⟩
    · show IsLongIter _ _ (lo + ((0 : Nat) : Int) * 1) ((((hi - lo).toNat : Nat) : Int) - ((0 : Nat) : Int)) 1
      rw [place, size]
      exact Heap.get?_push_size _ rfl
    · cases List.mem_singleton.mp hb
      exact I2.fpOk (Nat.le_refl _) (I2.hok.fresh (Nat.le_refl _))
end Ow
namespace Ow
open PySem PySem.Spec PyProof.Rows L2
/-! ### defs that are called while an exception is handled -/
theorem roomX {k : Nat} {A : Around} {v : Option Value} (r : Room k A) : L2H.RoomH k (A.mark v) := ⟨r.dp, r.un⟩
/-- the same context under another surrounding, not calm -/
theorem inv_re {X : Cx} {pins : List (Addr × Obj)} {σ : L2.St} {H : Hp} {s : Shared} (I : Inv X pins σ H s) (A2 : Around) (xe2 : Value → Shared → Prop) (h : A2.frames = X.A.frames) : Inv { X with A := A2, calm := false, xe := xe2 } pins σ H s :=
  have k := I.ok
  ⟨⟨k.mod, k.kind, k.glob, k.blt, k.above, k.inj, k.has, k.cab, (fun z => Bool.noConfusion (show false = true from z)), h.trans k.frames, k.stk, k.exf, k.bs, k.bsz, k.noex, k.exfs, k.funs, k.frf⟩, I.os, I.bare, I.base, I.loc, I.cell, I.free, I.freeC, I.pin, I.hok, I.len⟩
/-- what a def promises where the exception at a is handled -/
structure FnX (P : Program) (w : World) (K : PySem.W.Frag) (mg : Str → Option Value) (base : Heap) (k : Nat) (f : Addr) (fd : FuncData) (ps : List Str) (sp : Addr → Sp) : Prop where
  many : ∀ a vs H Q E, sp a vs H Q E → vs.length = ps.length
  runs : ∀ (a : Addr) (A : Around) (outer : List Env) (s : Shared) (H : Hp) (args : Args) (us : List Value) (vs : List V) (Q : VK) (E : XK), A.handled = some (.ref a) → L2H.RoomH k A → Env0 P w K mg base A outer s H → BindsTo s fd args (ps.zip us) → Vals vs us → sp a vs H Q E →
    codeAny (model P w) A (.call (.ref f) args) (CR (L2N.CX P w) outer P w H s Q E) s
abbrev cxX (P : Program) (w : World) (K : PySem.W.Frag) (mg : Str → Option Value) (base : Heap) (N : List Str) (qual : Str) (scope : Scope) (f : Addr) (cd : Value) (A : Around) (outer : List Env) (s : Shared) (H : Hp) (E : XK) : Cx :=
  { cxOf (L2N.CX P w) P w K mg base N qual scope f cd A outer s H E with calm := false }
section
variable {P : Program} {w : World} {K : PySem.W.Frag} {mg : Str → Option Value} {base : Heap}
theorem fnX_of {x qual : Str} {params : Arguments} {body : List Stmt} {scope : Scope} {f : Addr} {fd : FuncData} {N ps : List Str} {k : Nat} {sp : Addr → Sp} (F : FunD K x qual params body scope [] [] f fd) (S : FnScope N ps scope) (many : ∀ a vs H Q E, sp a vs H Q E → vs.length = ps.length)
    (does : ∀ (cdv : Value) (A : Around) (outer : List Env) (s : Shared) (H : Hp) (vs : List V) (Q : VK) (E : XK) (a : Addr), A.handled = some (.ref a) → L2H.RoomH k (A.deeper (envOfC qual scope s.heap.objs.size f cdv)) → sp a vs H Q E →
      ∃ t, PSs (cxX P w K mg base N qual scope f cdv A outer s H E) body t ∧ t { nx := fun _ H' => Q .non H', rt := Q } (L2.start N vs) H) : FnX P w K mg base (k + 1) f fd ps sp := by
  obtain ⟨oc, od, dV, kV, doc, pm, an, cdv, ct, osl, rfl, looked, coded, _, _⟩ := F.ex
  refine ⟨many, fun a A outer s H args us vs Q E hot room e0 bound r asked => ?_⟩
  have given := many _ _ _ _ _ asked
  have inK : K.In s.heap := e0.mod.kin.keeps fun b o e => (e0.bs b o e).1
  have unbound : s.heap.NoLimit := e0.mod.nolimit.keeps fun b o e => (e0.bs b o e).1
  have kinds : ∀ y ∈ ps.zip us, scope.names.lookup y.1 = some .local ∨ (scope.names.lookup y.1 = some .cell ∧ ((cellsFrom (s.heap.objs.size + 1) scope.names []).lookup y.1).isSome = true) := by
    intro y hy
    refine (S.par y.1 (List.of_mem_zip (a := y.1) (b := y.2) hy).1).imp (fun z => z) fun z => ⟨z, ?_⟩
    exact PySem.W.cellsFrom_some _ _ _ (.inl z)
  refine codeAny_call_function room.depth (inK _ _ looked) rfl S.co S.gen rfl (PySem.W.codeRec_of inK coded) (bound _ _ _ _ (wpAny_newFunctionEnv_cells S.kind kinds fun env he s1 x => ?_))
  cases he
  refine ⟨unbound.keeps x.toInCall.keep, codeAny_func ?_⟩
  obtain ⟨t, derived, reads⟩ := does cdv A outer s H vs Q E a hot (room.deeper _) asked
  have cold : Env0 P w K mg base { A with handled := none } outer s H := ⟨e0.frames, e0.mod, e0.bs, e0.bsz, e0.funs, e0.frf, e0.hok, e0.bare⟩
  have I : Inv (cxX P w K mg base N qual scope f cdv A outer s H E) [] (L2.start N vs) H s1 := inv_re (inv_start (CX := L2N.CX P w) (E := E) S rfl cold given r x) (A.deeper (envOfC qual scope s.heap.objs.size f cdv)) _ rfl
  refine wpAny_mono (derived.run [] s1 (L2.start N vs) H _ I reads) (fun fl s2 ends => ?_) fun _ _ left => left
  rcases fl with _ | _ | _ | u
  · obtain ⟨τ, G, J, q⟩ := ends
    exact ⟨.non, G, J.os, J.bare, J.base, J.hok, rfl, q⟩
  · exact ends.elim fun _ z => z.elim fun _ z => z.2.elim
  · exact ends.elim fun _ z => z.elim fun _ z => z.2.elim
  · obtain ⟨v, τ, G, J, rv, q⟩ := ends
    exact ⟨v, G, J.os, J.bare, J.base, J.hok, rv, q⟩
end
/-- a def that may be called so -/
structure CeeX (P : Program) (w : World) (K : PySem.W.Frag) (mg : Str → Option Value) (base : Heap) (k : Nat) (f : Addr) (ps : List Str) (sp : Addr → Sp) : Prop where
  kp : PySem.W.keepIn K (.ref f) = true
  fn : ∃ fd, FnX P w K mg base k f fd ps (fun a => bx (sp a)) ∧ Binds K fd ps []
theorem ceeX_of {P : Program} {w : World} {K : PySem.W.Frag} {mg : Str → Option Value} {base : Heap} {x qual : Str} {params : Arguments} {body : List Stmt} {scope : Scope} {f : Addr} {N ps : List Str} {k : Nat} {sp : Addr → Sp} (F : ∃ fd, FunD K x qual params body scope [] [] f fd) (S : FnScope N ps scope)
    (hb : ∀ (kV doc pm : Value) (an : Option Addr) (cdv ct : Value) (us : List Value), us.length = ps.length → bindArgs (PySem.W.fnOf x qual params body scope .none kV doc pm an cdv ct) ⟨us, []⟩ = pure (ps.zip us))
    (many : ∀ a vs H Q E, sp a vs H Q E → vs.length = ps.length)
    (does : ∀ (cdv : Value) (A : Around) (outer : List Env) (s : Shared) (H : Hp) (vs : List V) (Q : VK) (E : XK) (a : Addr), A.handled = some (.ref a) → L2H.RoomH k (A.deeper (envOfC qual scope s.heap.objs.size f cdv)) → sp a vs H Q E →
      ∃ t, PSs (cxX P w K mg base N qual scope f cdv A outer s H E) body t ∧ t { nx := fun _ H' => Q .non H', rt := Q } (L2.start N vs) H) : CeeX P w K mg base (k + 1) f ps sp := by
  obtain ⟨fd, F⟩ := F
  exact ⟨F.kp, fd, fnX_of F S (fun a vs H Q E h => many a vs H Q E h.out) (fun cdv A outer s H vs Q E a hot room h => does cdv A outer s H vs Q E a hot room h.out), F.bindsN hb⟩
section
variable {X : Cx} {k : Nat} {f a : Addr} {ps : List Str} {sp : Addr → Sp} {W : WX} {x : Str} {p pos : Pos} {e : Expr} {es : List Expr} {t : TA}
theorem pe_fX (c : CeeX X.prog X.w X.K X.mg X.base k f ps sp) (hr : L2H.RoomH k X.A) (hot : X.A.handled = some (.ref a)) (tk : L2N.Takes X W) (hg : Gl X x) (hm : X.mg x = some (.ref f)) (ha : PA X (e :: es) t) (hdb : (x == ("__debug__" : Str)) = false := by decide)
    (he : starEach (e :: es) X.env = (false, eval e X.env) :: starEach es X.env := by rfl) (hpl : (backTo pos (starEach es X.env)).any (·.1) = false := by rfl) :
    PE X (.Call (.Name x p) (e :: es) [] pos) (tCallS (bx (sp a)) (WE W) t) := by
  obtain ⟨fd, F, b⟩ := c.fn
  constructor
  intro pins s σ H Q I h
  refine wpAny_Call_Name_kw (ld_glob I hg hm (PySem.W.callWith_K (h₀ := X.base) I.ok.mod.kin c.kp (thn (ha.run pos pins s σ H _ I h) fun us s1 ⟨vs, H1, I1, rv, q⟩ => ⟨I1.kIn, ?_⟩) he hpl) hdb)
  have many : us.length = ps.length := by rw [← rv.length]; exact F.many _ _ _ _ _ q
  have binds := b s1 us I1.kIn (by rw [List.append_nil]; exact many)
  rw [List.append_nil] at binds
  refine wpAny_call (codeAny_mono (F.runs a X.A X.stack s1 H1 ⟨us, []⟩ us vs Q (WE W σ) hot hr I1.env0 binds rv q) fun r s' ends => ?_)
  rcases r with ev | fl
  · exact L2N.passAt tk σ pins H1 s1 ev s' I1 ends
  · rcases fl with _ | _ | _ | u
    · exact ends.elim
    · exact ends.elim
    · exact ends.elim
    · exact I1.after ends
end
end Ow
namespace Ow
open PySem PySem.Spec PyProof.Rows L2 HotX
/-! ### comprehensions and sums where the tracked exception at a is handled -/
abbrev TrkX (a : Addr) (H : Hp) : Prop := ∃ cls d, H a = some (CxO cls d a)
theorem hot_at {X : Cx} {pins : List (Addr × Obj)} {σ : L2.St} {H : Hp} {s : Shared} {a : Addr} (I : Inv X pins σ H s) (hot : X.A.handled = some (.ref a)) (h : TrkX a H) : HotAt X.A a s.heap := by
  obtain ⟨cls, d, ha⟩ := h
  obtain ⟨⟨o, vs, e, z, dt⟩, _, _⟩ := I.hok a _ ha
  exact ⟨hot, o, vs, e, dt, z.2.2 vs dt⟩
theorem list_end_hot {prog : Program} {w : World} {A : Around} {E : Value → Shared → Prop} {s : Shared} {it l x1 : Addr} {i : Nat} {items : Array Value} {Q : Option Value → Shared → Prop} (hot : HotAt A x1 s.heap) (hit : s.heap.IsListIter it l i) (hl : s.heap.IsList l items) (hx : items[i]? = none)
    (hQ : ∀ h', (∀ b o, b ≠ it → s.heap.get? b = some o → h'.get? b = some o) → Q none { s with heap := h' }) : wpAny (model prog w) A (pyNext (.ref it)) Q E s := by
  obtain ⟨o, ho, hc, hd⟩ := id hit
  obtain ⟨ol, hol, hcl, nl, hdl⟩ := id hl
  obtain ⟨handled, o1, vs1, h1, d1, c1⟩ := hot
  have apart : x1 ≠ it := fun z => by
    rw [z, ho] at h1
    cases h1
    rw [hd] at d1
    cases d1
    cases c1
  unfold pyNext
  refine wpAny_bind (wpAny_attempt (wpAny_callSpecial?_slot (name := Str.ofString "__next__") hit.typeIs slot_listiter_next (wpAny_call_entry slot_listiter_next hit.typeIs entry_listiter_next ?_ (args_listiter_next _))))
  show wpAny _ _ (field (.ref it) 0 >>= fun _ => _) _ _ s
  refine wpAny_bind (wpAny_field ho hd (x := .ref l) rfl ?_)
  show wpAny _ _ (if (Value.ref l == Value.none) = true then _ else _) _ _ _
  rw [if_neg (show ¬ (Value.ref l == Value.none) = true from Bool.false_ne_true)]
  show wpAny _ _ (field (.ref it) 1 >>= fun _ => _) _ _ s
  refine wpAny_bind (wpAny_field ho hd (x := .int i 0) rfl ?_)
  show wpAny _ _ (seqItems? (.ref l) >>= fun _ => _) _ _ s
  refine wpAny_bind (wpAny_seqItems hol hdl ?_)
  simp only [Int.toNat_natCast, hx]
  refine wpAny_bind (wpAny_rule (wpAny_bind (wpAny_setField ho hd (by simp) ?_)))
  show wpAny _ _ (newExc (.type "StopIteration") [] >>= fun _ => _) _ _ _
  refine wpAny_bind ?_
  simp only [newExc, newTuple]
  refine wpAny_bind (wpAny_newObj_type ?_ (by size_fits))
  refine wpAny_bind (m := firstArgMember _ _) (wpAny_of_eq (a := Value.none) (by first | rfl | (simp only [firstArgMember]; rfl)) ?_)
  refine wpAny_newObj_type ?_ (by size_fits)
  have still : (s.heap.update it (Obj.mapFields (·.setIfInBounds 0 Value.none))).get? x1 = some o1 := by
    rw [Heap.get?_update_other _ _ apart.symm]
    exact h1
  refine raiseNew_hot ⟨handled, o1, vs1, Heap.get?_push_of_some _ (Heap.get?_push_of_some _ still), d1, c1⟩ (Nat.ne_of_lt (Heap.lt_size (Heap.get?_push_of_some _ still))) (Heap.get?_push_size _ rfl) rfl (by first | (simp; done) | (simp; omega) | (simp only [Array.size_append]; simp; omega)) ?_
  refine wpAny_bind (wpAny_isInstance (T := "StopIteration") (b := true) ⟨_, Heap.get?_update_self _ (Heap.get?_push_size _ rfl) rfl, rfl⟩ isSubtype_stop ?_)
  refine wpAny_pure (hQ _ fun b ob ne e => ?_)
  have e2 : (s.heap.update it (Obj.mapFields (·.setIfInBounds 0 Value.none))).get? b = some ob := by
    rw [Heap.get?_update_other _ _ (Ne.symm ne)]
    exact e
  rw [Heap.get?_update_other _ _ (Nat.ne_of_gt (Heap.lt_size (Heap.get?_push_of_some _ e2)))]
  exact Heap.get?_push_of_some _ (Heap.get?_push_of_some _ e2)
/-- what is walked stops only where the exception is tracked -/
def hotIt (a : Addr) (J : It) : It := ⟨J.go, J.yld, fun i H => J.stop i H ∧ TrkX a H⟩
theorem walk_hot {J : It} {n : Nat} {G : Hp → Prop} {Y : Nat → Hp → V → Hp → Prop} {a : Addr} (w : Walk J n G Y) : Walk (hotIt a J) n (fun H => G H ∧ TrkX a H) Y :=
  ⟨fun i H hi h => w.goes i H hi h.1, fun H h => ⟨w.stops H h.1, h.2⟩, fun i H x H' hi h y => w.yields i H x H' hi h.1 y⟩
structure TurnX (a : Addr) (P : Program) (w : World) (K : PySem.W.Frag) (tg : Expr) (J : It) (fp : List Addr) (it : Addr) (tn : Nat → Heap → Prop) : Prop where
  inside : it ∈ fp
  things : ∀ i h, tn i h → ∀ b ∈ fp, ∃ o, h.get? b = some o ∧ ∀ v, o.data ≠ .cell v
  stays : ∀ i h h', tn i h → (∀ b ∈ fp, ∀ o, h.get? b = some o → h'.get? b = some o) → tn i h'
  gives : ∀ (X : Cx), X.prog = P → X.w = w → X.K = K → ∀ (i : Nat) (pins : List (Addr × Obj)) (s : Shared) (σ : L2.St) (H : Hp) (E : Value → Shared → Prop), Inv X pins σ H s → (∀ b ∈ fp, FpOk X pins H b) → tn i s.heap → J.go i H →
    wpAny (model P w) X.A (pyNext (.ref it)) (fun r s1 => ∃ u, r = some u ∧ wpAny (model P w) X.A (letOwnedTupleGo tg (.ref it) u) (fun _ s2 => ∃ x H', Inv X pins σ H' s2 ∧ RelV x u ∧ J.yld i H x H' ∧ tn (i + 1) s2.heap ∧ ∀ b ∈ fp, H' b = none) E s1) E s
  ends : ∀ (X : Cx), X.prog = P → X.w = w → X.K = K → X.A.handled = some (.ref a) → ∀ (i : Nat) (pins : List (Addr × Obj)) (s : Shared) (σ : L2.St) (H : Hp) (E : Value → Shared → Prop), Inv X pins σ H s → (∀ b ∈ fp, FpOk X pins H b) → tn i s.heap → J.stop i H → TrkX a H →
    wpAny (model P w) X.A (pyNext (.ref it)) (fun r s1 => r = none ∧ Inv X pins σ H s1) E s
  same : ∀ (A : Around) (i : Nat) (s : Shared) (Q : Value → Shared → Prop) (E : Value → Shared → Prop), tn i s.heap → Q (.ref it) s → wpAny (model P w) A (pyIter (.ref it)) Q E s
theorem turnX_list {P : Program} {w : World} {K : PySem.W.Frag} {tg : Expr} (e a it : Addr) : TurnX e P w K tg (Itl K a) [it] it (fun i h => h.IsListIter it a i) where
  inside := by simp
  things := fun i h st b hb => by
    obtain ⟨o, q, c, d⟩ := st
    cases List.mem_singleton.mp hb
    exact ⟨o, q, fun v z => by rw [d] at z; cases z⟩
  stays := fun i h h' st k => st.at fun o q => k it (by simp) o q
  gives := by
    intro X hP hw hK i pins s σ H E I hf st hg
    subst hP hw hK
    obtain ⟨xs, x, hq, hx⟩ := hg
    obtain ⟨its, rv, p, _⟩ := I.list hq
    obtain ⟨u, hu, ru⟩ := rv.get hx
    obtain ⟨f0, f1, _, f3, f4, f5⟩ := hf it (by simp)
    refine wpAny_pyNext_list_item st p.isList (x := u) (by simpa using hu) fun h' st' sb => ?_
    have J : Inv X pins σ H { s with heap := h' } := I.turned (t' := s.toks) (fun b o hb q => (sb.2 b hb).trans q) f0 f1 f3 f4 f5
    obtain ⟨o, q, c, d⟩ := id st'
    exact ⟨u, rfl, go_of (s := { s with heap := h' }) q c d (by decide) ⟨x, H, J, ru, ⟨rfl, fun ys hy => by rw [I.list_inj hy hq]; exact hx⟩, st', fun b hb => (hf b hb).1⟩⟩
  ends := by
    intro X hP hw hK hot i pins s σ H E I hf st hg tr
    subst hP hw hK
    obtain ⟨xs, hq, hx⟩ := hg
    obtain ⟨its, rv, p, _⟩ := I.list hq
    obtain ⟨f0, f1, _, f3, f4, f5⟩ := hf it (by simp)
    have hl := rv.length
    exact list_end_hot (hot_at I hot tr) st p.isList (by simp; omega) fun h' eb => ⟨rfl, I.turned (t' := s.toks) (fun b o hb q => eb b o hb q) f0 f1 f3 f4 f5⟩
  same := fun _ _ _ _ _ st h => wpAny_pyIter_listiter st h
theorem turnX_range {P : Program} {w : World} {K : PySem.W.Frag} {tg : Expr} (e it : Addr) (lo : Int) (n : Nat) : TurnX e P w K tg (Itr lo n) [it] it (fun i h => IsRangeIter h it (lo + (i : Nat) * 1) ((n : Int) - (i : Nat)) 1) where
  inside := by simp
  things := fun i h st b hb => by
    cases List.mem_singleton.mp hb
    exact ⟨_, st, fun v z => by
      have z' : Data.fields _ = Data.cell v := z
      cases z'⟩
  stays := fun i h h' st k => k it (by simp) _ st
  gives := by
    intro X hP hw hK i pins s σ H E I hf st hg
    subst hP hw hK
    obtain ⟨f0, f1, _, f3, f4, f5⟩ := hf it (by simp)
    have hlt : i < n := hg
    refine wpAny_pyNext_range_item st (by omega) fun h' st' sb => ?_
    have st2 : IsRangeIter h' it (lo + ((i + 1 : Nat) : Int) * 1) ((n : Int) - ((i + 1 : Nat) : Int)) 1 := by
      rw [show lo + ((i + 1 : Nat) : Int) * 1 = lo + ((i : Nat) : Int) * 1 + 1 by omega, show (n : Int) - ((i + 1 : Nat) : Int) = (n : Int) - ((i : Nat) : Int) - 1 by omega]
      exact st'
    have J : Inv X pins σ H { s with heap := h', toks := s.toks + 1 } := I.turned (fun b o hb q => (sb.2 b hb).trans q) f0 f1 f3 f4 f5
    refine ⟨_, rfl, go_of (s := { s with heap := h', toks := s.toks + 1 }) (n := "range_iterator") st2 rfl rfl (by decide) ⟨.int (lo + i), H, J, ⟨s.toks, ?_⟩, ⟨rfl, rfl⟩, st2, fun b hb => (hf b hb).1⟩⟩
    rw [Int.mul_one]
  ends := by
    intro X hP hw hK hot i pins s σ H E I hf st hg tr
    subst hP hw hK
    obtain ⟨f0, f1, _, f3, f4, f5⟩ := hf it (by simp)
    exact pyNext_range_end_hot (hot_at I hot tr) st (by have : n ≤ i := hg; omega) fun h' eb => ⟨rfl, I.turned (t' := s.toks) (fun b o _ q => eb b o q) f0 f1 f3 f4 f5⟩
  same := fun _ _ _ _ _ st h => wpAny_pyIter_rangeiter st h
/-- an iterator has come -/
def ItX (a : Addr) (X : Cx) (pins : List (Addr × Obj)) (σ : L2.St) (tg : Expr) (R : It → Hp → Prop) (itv : Value) (s2 : Shared) : Prop :=
  ∃ (it : Addr) (fp : List Addr) (tn : Nat → Heap → Prop) (J : It) (H' : Hp), itv = .ref it ∧ Inv X pins σ H' s2 ∧ TurnX a X.prog X.w X.K tg J fp it tn ∧ tn 0 s2.heap ∧ (∀ b ∈ fp, FpOk X pins H' b) ∧ R (hotIt a J) H'
structure PIX (a : Addr) (X : Cx) (tg iter : Expr) (wi : TI) : Prop where
  run : ∀ (pins : List (Addr × Obj)) (s : Shared) (σ : L2.St) (H : Hp) (R : It → Hp → Prop), Inv X pins σ H s → wi σ H R → wpAny (model X.prog X.w) X.A (eval iter X.env) (fun v s1 => wpAny (model X.prog X.w) X.A (pyIter v) (ItX a X pins σ tg R) X.xe s1) X.xe s
section
variable {X : Cx} {tg : Expr} {a : Addr}
theorem PIX.box {e : Expr} {w : TI} (h : PIX a X tg e w) : PIX a X tg e (fun σ H R => w σ H fun J H1 => Box (R J H1)) :=
  ⟨fun pins s σ H R I q => thn (h.run pins s σ H _ I q) fun _ _ h1 => thn h1 fun _ _ ⟨it, fp, tn, J, H', e, I', T, t0, f, r⟩ => ⟨it, fp, tn, J, H', e, I', T, t0, f, r.out⟩⟩
def iListX (K : PySem.W.Frag) (a : Addr) (tl : TE) : TI := fun σ H R => tl σ H fun x H1 => ∃ l, x = .ref l ∧ (∃ xs, SqL K H1 l xs) ∧ R (hotIt a (Itl K l)) H1
theorem piX_list {l : Expr} {tl : TE} (hl : PE X l tl) : PIX a X tg l (iListX X.K a tl) := by
  constructor
  intro pins s σ H R I h
  refine thn (hl.run pins s σ H _ I h) fun v s1 ⟨x, H1, I1, r1, l, ex, ⟨xs, hq⟩, q⟩ => ?_
  subst ex
  cases r1
  obtain ⟨its, rv, p, _⟩ := I1.list hq
  refine wpAny_pyIter_list p.isList ⟨s1.heap.objs.size, [s1.heap.objs.size], _, _, H1, rfl, I1.kept (t' := s1.toks) fun b o e => Heap.get?_push_of_some _ e, turnX_list a l _, ⟨_, Heap.get?_push_size _ rfl, rfl, rfl⟩, fun b hb => ?_, q⟩
  cases List.mem_singleton.mp hb
  exact I1.fpOk (Nat.le_refl _) (I1.hok.fresh (Nat.le_refl _))
def iRngX (a : Addr) (ta : TA) : TI := fun σ H R => ta σ H fun vs H1 => ∃ j : Int, vs = [.int j] ∧ -(2 ^ 62) ≤ j ∧ j < 2 ^ 62 ∧ R (hotIt a (Itr 0 j.toNat)) H1
theorem piX_range1 {e : Expr} {ta : TA} {p pos : Pos} (hg : Gl X "range") (hm : X.mg "range" = none) (ha : PA X [e] ta) (hs : starEach [e] X.env = [(false, eval e X.env)] := by rfl) : PIX a X tg (.Call (.Name "range" p) [e] [] pos) (iRngX a ta) := by
  constructor
  intro pins s σ H R I h
  refine Call_ (ld_blt I hg hm boot_range (PyProof.Rows.callWith_type1 (thn (ha.run pos pins s σ H _ I h) fun us s1 ⟨vs, H1, I1, r1, j, ev, q1, q2, q⟩ => ?_) hs rfl))
  subst ev
  obtain ⟨u, rfl, t, rfl⟩ := vals1 r1
  refine call_range_1 (wpAny_pyIter_range (IsRange.new ..) (small_one (by omega) (by omega) q1 q2) ?_)
  generalize hh : s1.heap.push { cls := .type "range", data := .fields #[.int 0 s1.toks, .int j t, .int 1 (s1.toks + 1)] } = g
  have I2 : Inv X pins σ H1 { s1 with heap := g, toks := s1.toks + 1 + 1 } := I1.kept fun b o q => by rw [← hh]; exact Heap.get?_push_of_some _ q
  refine ⟨g.objs.size, [g.objs.size], _, _, H1, rfl, I2.kept (t' := s1.toks + 1 + 1) fun b o q => Heap.get?_push_of_some _ q, turnX_range a _ 0 j.toNat, ?_, fun b hb => ?_, q⟩
  · show IsRangeIter _ _ (0 + ((0 : Nat) : Int) * 1) (((j.toNat : Nat) : Int) - ((0 : Nat) : Int)) 1
    rw [show (0 : Int) + ((0 : Nat) : Int) * 1 = 0 by simp, show ((j.toNat : Nat) : Int) - ((0 : Nat) : Int) = Builtin.Range.rangeSize 0 j 1 by rw [rangeSize_one]; split <;> omega]
    exact Heap.get?_push_size _ rfl
  · cases List.mem_singleton.mp hb
    exact I2.fpOk (Nat.le_refl _) (I2.hok.fresh (Nat.le_refl _))
theorem lcX_core {pins : List (Addr × Obj)} {s : Shared} {σ : L2.St} {H : Hp} {Q : VK} {elt iter : Expr} {ifs : List Expr} {scope : Scope} {own : List (Str × Nat)} {pos pos' : Pos} {wi : TI} {g : TG} {tt : TT} {te : TE} {use : Option (Value → Sem Unit)} {Qf : Value → Shared → Prop}
    (hot : X.A.handled = some (.ref a)) (nd : X.N.Nodup) (I : Inv X pins σ H s) (hi : PIX a X tg iter wi) (ok : BlkOk X.N X.env.scope scope own)
    (dg : ∀ (s : Shared) (H : Hp) (C : Addr) (cl : List (Str × Addr)) (fp : List Addr), PG (X.blk s H scope (compEnvC scope cl C X.env) fp) tg g) (dt : ∀ (s : Shared) (H : Hp) (C : Addr) (cl : List (Str × Addr)) (fp : List Addr), PTs (X.blk s H scope (compEnvC scope cl C X.env) fp) ifs tt)
    (de : ∀ (s : Shared) (H : Hp) (C : Addr) (cl : List (Str × Addr)) (fp : List Addr), PE (X.blk s H scope (compEnvC scope cl C X.env) fp) elt te) (unfolded : ∀ x, foldedSetIterable iter X.env x = pure x)
    (asked : tLc wi g tt te (own.map (·.2)) σ H Q)
    (last : ∀ D C s' m H', Inv X pins σ H' s' → Q (.ref D) H' → s'.heap.Ns C m → FpOk X pins H' C → compPost (model X.prog X.w) X.A X.xe use Qf (.ref D) C (.ok .next) s') :
    wpAny (model X.prog X.w) X.A (comprehension (.ListComp elt [⟨tg, iter, ifs, 0⟩] scope pos) scope X.env pos' (newList []) false (eval iter X.env) use) Qf X.xe s := by
  have frees : ∀ y ∈ scope.names, y.2 = .free → ∃ c, X.env.cells.lookup y.1 = some c := fun y hy e => (ok.free y hy e).elim (fun k => I.ok.has _ (.inl k)) fun k => I.ok.has _ (.inr k)
  refine wpAny_comprehension_free (use := use) rfl unfolded (closure_ok frees) ok.kind (fun y hy e => by rw [ok.uniq y hy, e]) (thn (hi.run pins s σ H _ I asked) fun xv s1 hx => thn hx fun itv s2 came => ?_)
  obtain ⟨it, fp, tn, J, H2, rfl, I2, T, st2, f2, more⟩ := came
  refine wpAny_newObj_type (newEnv_comp ?_) (by show 0 ≤ sizeLine; decide)
  generalize hD : s2.heap.objs.size = D
  have newD : H2 D = none := I2.hok.fresh (Nat.le_of_eq hD)
  obtain ⟨W, ⟨m0, w0⟩, turn⟩ := more D newD
  generalize e3 : ({ s2 with heap := s2.heap.push { cls := .type "list", data := .seq ([] : List Value).toArray } } : Shared) = s3
  have h3 : s3.heap = s2.heap.push { cls := .type "list", data := .seq ([] : List Value).toArray } := by rw [← e3]
  have I3 : Inv X pins σ (upd H2 D (.lst [])) s3 := by
    rw [← e3]
    exact I2.laid (t' := s2.toks) (fun b o e => Heap.get?_push_of_some _ e) (Nat.le_of_eq hD) ⟨Nat.zero_le _, [], 0, .nil, by rw [← hD]; exact Heap.get?_push_size _ rfl⟩
  have f3 : ∀ b ∈ fp, FpOk X pins (upd H2 D (.lst [])) b ∧ b < s3.heap.objs.size := fun b hb => by
    obtain ⟨o, e, _⟩ := T.things _ _ st2 b hb
    have small := Heap.lt_size e
    refine ⟨⟨?_, (f2 b hb).2⟩, by rw [h3, Heap.size_push]; exact Nat.lt_succ_of_lt small⟩
    rw [upd_ne (by rw [← hD]; exact Nat.ne_of_lt small)]
    exact (f2 b hb).1
  have st3 : tn 0 s3.heap := T.stays _ _ _ st2 fun b _ o e => by rw [h3]; exact Heap.get?_push_of_some _ e
  have I4 := block_start I3 ok nd f3
  have kg := dg s3 (upd H2 D (.lst [])) s3.heap.objs.size (cellsFrom (s3.heap.objs.size + 1) scope.names (cloFrom X.env.cells scope.names [])) fp
  have kt := dt s3 (upd H2 D (.lst [])) s3.heap.objs.size (cellsFrom (s3.heap.objs.size + 1) scope.names (cloFrom X.env.cells scope.names [])) fp
  have ke := de s3 (upd H2 D (.lst [])) s3.heap.objs.size (cellsFrom (s3.heap.objs.size + 1) scope.names (cloFrom X.env.cells scope.names [])) fp
  show codeAny _ _ (.compStart (.ListComp elt [⟨tg, iter, ifs, 0⟩] scope pos) 0 (.ref it) (.ref D) (compEnvC scope (cellsFrom (s3.heap.objs.size + 1) scope.names (cloFrom X.env.cells scope.names [])) s3.heap.objs.size X.env)) (compPost (model X.prog X.w) X.A X.xe use Qf (.ref D) s3.heap.objs.size) { s3 with heap := pushCells (s3.heap.push { cls := .type "dict", data := .dict #[] }) scope.names }
  have free3 : ∀ b ∈ fp, (upd H2 D (.lst [])) b = none := fun b hb => (f3 b hb).1.1
  generalize he : compEnvC scope (cellsFrom (s3.heap.objs.size + 1) scope.names (cloFrom X.env.cells scope.names [])) s3.heap.objs.size X.env = ce at I4 kg kt ke ⊢
  have locals : ce.locals = s3.heap.objs.size := by cases he; rfl
  generalize hH3 : upd H2 D (.lst []) = H3 at I3 I4 kg kt ke w0 free3 f3
  generalize e4 : ({ s3 with heap := pushCells (s3.heap.push { cls := .type "dict", data := .dict #[] }) scope.names } : Shared) = s4 at I4 ⊢
  have st4 : tn 0 s4.heap := T.stays _ _ _ st3 fun b _ o e => by rw [← e4]; exact pushCells_keeps _ _ _ _ (Heap.get?_push_of_some _ e)
  have fpok : ∀ {τ : L2.St} {G : Hp} {s' : Shared}, Inv (X.blk s3 H3 scope ce fp) [] τ G s' → (∀ b ∈ fp, G b = none) → ∀ b ∈ fp, FpOk (X.blk s3 H3 scope ce fp) [] G b := fun {τ G s'} I' hn b hb =>
    ⟨hn b hb, (I'.ok.exf b hb).1, I'.ok.exfs b hb, .inl hb, fun x c e => (I'.ok.exf b hb).2 x c e, fun p hp => absurd (show p ∈ ([] : List (Addr × Obj)) ++ [] from hp) (by simp)⟩
  have loop : codeAny (model X.prog X.w) X.A (.compLoop (.ListComp elt [⟨tg, iter, ifs, 0⟩] scope pos) 0 (.ref it) (.ref D) ce) (compPost (model X.prog X.w) X.A X.xe use Qf (.ref D) s3.heap.objs.size) s4 := by
    refine compLoop_any (fun n s' => ∃ i G, Inv (X.blk s3 H3 scope ce fp) [] (wipe σ (own.map (·.2))) G s' ∧ tn i s'.heap ∧ (∀ b ∈ fp, G b = none) ∧ W i n G) ?_ m0 ⟨0, H3, I4, st4, free3, w0⟩
    rintro n s5 ⟨i, H5, I5, st5, n5, w5⟩
    rcases turn i n H5 w5 with ⟨⟨stop, tr⟩, wish⟩ | ⟨go, Nx, reach, step⟩
    · refine thnF (T.ends (X.blk s3 H3 scope ce fp) rfl rfl rfl hot i [] s5 _ H5 (fun _ _ => False) I5 (fpok I5 n5) st5 stop tr) fun r s6 ⟨er, I6⟩ => ?_
      cases er
      have I7 : Inv X pins σ H5 s6 := I3.call' (ch := fp) I6.os I6.base I6.hok I6.bare fun b hb => ⟨(f3 b hb).1.2.2.2.1, (f3 b hb).1.2.1, (f3 b hb).1.2.2.2.2.1, (f3 b hb).1.2.2.2.2.2⟩
      have noC : H5 s3.heap.objs.size = none := locals ▸ (show H5 ce.locals = none from I6.free)
      obtain ⟨m, ns, _⟩ := I6.loc
      have ns : s6.heap.Ns s3.heap.objs.size m := locals ▸ (show s6.heap.Ns ce.locals m from ns)
      exact last D s3.heap.objs.size s6 m H5 I7 wish ns (I3.fpOk (Nat.le_refl _) noC)
    · refine thnF (T.gives (X.blk s3 H3 scope ce fp) rfl rfl rfl i [] s5 _ H5 (fun _ _ => False) I5 (fpok I5 n5) st5 go) fun r s6 ⟨u, er, h6⟩ => ?_
      cases er
      refine thnF h6 fun _ s7 ⟨x, H7, I7, r7, y7, st7, n7⟩ => ?_
      have I7' := I7.pinned (fpok I7 n7) (T.things _ _ st7)
      refine thnF (kg.run _ s7 _ H7 x u _ I7' r7 (step x H7 y7)) fun _ s8 ⟨σ8, H8, I8, hw8, q8⟩ => thnF (kt.run _ s8 σ8 H8 _ I8 q8) fun b s9 ⟨H9, I9, q9⟩ => ?_
      have turned : ∀ {s' : Shared} {G : Hp}, Inv (X.blk s3 H3 scope ce fp) ([] ++ pinsAt fp s7.heap) σ8 G s' → Nx G → ∃ m, m < n ∧ ∃ i G, Inv (X.blk s3 H3 scope ce fp) [] (wipe σ (own.map (·.2))) G s' ∧ tn i s'.heap ∧ (∀ b ∈ fp, G b = none) ∧ W i m G := fun {s' G} I' nx => by
        obtain ⟨m', less, w'⟩ := reach G nx
        have kept : ∀ b ∈ fp, ∀ o, s7.heap.get? b = some o → s'.heap.get? b = some o ∧ G b = none := fun b hb o e =>
          have z := I'.pin (b, o) (List.mem_append_right _ (List.mem_append_right _ (mem_pinsAt hb e)))
          ⟨z.1, z.2.1⟩
        refine ⟨m', less, i + 1, G, (I'.unpinned (pins := [])).weak (by rw [← hw8, wipe_length]) (fun j v e => (wipe_some (hw8 ▸ e)).1), T.stays _ _ _ st7 fun b hb o e => (kept b hb o e).1, fun b hb => ?_, w'⟩
        obtain ⟨o, e, _⟩ := T.things _ _ st7 b hb
        exact (kept b hb o e).2
      cases b with
      | false =>
        rw [if_neg Bool.false_ne_true] at q9 ⊢
        exact turned I9 q9
      | true =>
        rw [if_pos (rfl : true = true)] at q9 ⊢
        exact thnF (ke.run _ s9 σ8 H9 _ I9 q9) fun z s10 ⟨yv, H10, I10, r10, acc, atD, room, nx⟩ => app_ok (X := X.blk s3 H3 scope ce fp) I10 atD room r10 fun s11 I11 => turned I11 nx
  exact codeAny_compStart_list loop (T.same X.A 0 _ _ _ st4 loop)
theorem pe_lcX {elt iter : Expr} {ifs : List Expr} {scope : Scope} {own : List (Str × Nat)} {pos : Pos} {wi : TI} {g : TG} {tt : TT} {te : TE} (hot : X.A.handled = some (.ref a)) (nd : X.N.Nodup) (hi : PIX a X tg iter wi) (ok : BlkOk X.N X.env.scope scope own)
    (dg : ∀ (s : Shared) (H : Hp) (C : Addr) (cl : List (Str × Addr)) (fp : List Addr), PG (X.blk s H scope (compEnvC scope cl C X.env) fp) tg g) (dt : ∀ (s : Shared) (H : Hp) (C : Addr) (cl : List (Str × Addr)) (fp : List Addr), PTs (X.blk s H scope (compEnvC scope cl C X.env) fp) ifs tt)
    (de : ∀ (s : Shared) (H : Hp) (C : Addr) (cl : List (Str × Addr)) (fp : List Addr), PE (X.blk s H scope (compEnvC scope cl C X.env) fp) elt te) (unfolded : ∀ x, foldedSetIterable iter X.env x = pure x := by intro _; rfl) :
    PE X (.ListComp elt [⟨tg, iter, ifs, 0⟩] scope pos) (tLc wi g tt te (own.map (·.2))) := by
  constructor
  intro pins s σ H Q I asked
  rw [eval_ListComp]
  refine lcX_core hot nd I hi ok dg dt de unfolded asked fun D C s' m H' I' q hn f => ⟨m, hn, fun h2 sb => ?_⟩
  obtain ⟨f0, f1, _, f3, f4, f5⟩ := f
  exact ⟨.ref D, H', I'.turned (t' := s'.toks) (fun b o hb e => (sb.2 b hb).trans e) f0 f1 f3 f4 f5, rfl, q⟩
def rSumX (K : PySem.W.Frag) (e : Addr) : List V → Hp → VK → Prop := fun vs H Q => ∃ (l : Addr) (ns : List Int), vs = [V.ref l] ∧ SqL K H l (ns.map V.int) ∧ TrkX e H ∧ Q (.int ns.sum) H
theorem cr_sumX (hot : X.A.handled = some (.ref a)) : CallR X (.builtin "sum") (rSumX X.K a) := by
  intro pins s σ H vs us Q I r h
  obtain ⟨l, ns, rfl, hs, tr, q⟩ := h
  obtain ⟨its, rv, hl, _⟩ := I.list hs
  rw [Vals.ref1 r]
  have hi := rv.ints
  obtain ⟨xs, ex⟩ := hi.allInts.items
  have hn : numsOf (intItems xs).toList = ns := by rw [← ex]; exact hi.numsOf
  rw [nums_intItems] at hn
  have hll : s.heap.IsList l (intItems xs) := by
    rw [← ex]
    exact hl.isList
  have hat := hot_at I hot tr
  have he : ∃ o vs, s.heap.get? a = some o ∧ o.data = .fields vs ∧ vs[2]? = some .none := hat.2
  refine call_sum_walkG (iter_intList hll fun s₂ e st hfp hlI => ?_)
  subst e
  have hlt : a < s.heap.objs.size := by
    obtain ⟨o, _, q, _⟩ := he
    exact Heap.lt_size q
  refine ⟨s.heap.objs.size, [s.heap.objs.size, l, a], [s.heap.objs.size], (intItems xs).size, (fun i v => (intItems xs)[i]? = some v), (fun i h => (h.IsListIter s.heap.objs.size l i ∧ h.IsList l (intItems xs)) ∧ ∃ o vs, h.get? a = some o ∧ o.data = .fields vs ∧ vs[2]? = some .none), numAt xs, rfl, ?_, ⟨st, ?_⟩, fun b hb => ?_, (fun _ _ => intItems_at), fun h' tk t' hk => ?_⟩
  · refine ⟨fun b hb => by cases List.mem_singleton.mp hb; exact .head _, fun i h h' st k => ⟨⟨st.1.1.at fun o q => k _ (by simp) o q, st.1.2.at fun o q => k l (by simp) o q⟩, ?_⟩, fun i s1 Q1 E1 hi st k => ?_, fun s1 Q1 E1 st k => ?_, fun i s1 Q1 E1 st k => wpAny_pyIter_listiter st.1.1 k⟩
    · obtain ⟨o, vs, q, r1, r2⟩ := st.2
      exact ⟨o, vs, k a (by simp) o q, r1, r2⟩
    · refine wpAny_pyNext_list_item st.1.1 st.1.2 (x := (intItems xs)[i]) (by simp [hi]) fun h' hit' hs' => ?_
      refine k _ h' s1.toks (by simp [hi]) ⟨⟨hit', st.1.2.extBut hs'.extBut hlI⟩, ?_⟩ fun b o hb e => hs'.extBut b o (fun h => hb (by simp [h])) e
      obtain ⟨o, vs, q, r1, r2⟩ := st.2
      exact ⟨o, vs, hs'.extBut a o (Nat.ne_of_lt hlt) q, r1, r2⟩
    · refine list_end_hot (A := X.A.in1) (x1 := a) ⟨hot, st.2⟩ st.1.1 st.1.2 (by simp) fun h' eb => k h' s1.toks fun b o hb e => eb b o (fun h => hb (by simp [h])) e
  · obtain ⟨o, vs, q, r1, r2⟩ := he
    exact ⟨o, vs, Heap.get?_push_of_some _ q, r1, r2⟩
  · rcases List.mem_cons.mp hb with z | hb
    · exact hfp b (by rw [z]; exact .head _)
    · rcases List.mem_cons.mp hb with z | hb
      · exact hfp b (by rw [z]; exact .tail _ (.head _))
      · cases List.mem_singleton.mp hb
        show a < (s.heap.push _).objs.size
        rw [Heap.size_push]
        exact Nat.lt_succ_of_lt hlt
  · have e2 : preSum (numAt xs) (intItems xs).size = ns.sum := by
      rw [show (intItems xs).size = xs.size by simp [intItems], preSum_eq, List.take_of_length_le (by simp), hn]
    refine ⟨.int ns.sum, H, I.kept (fun b o q => ?_), ⟨t', by rw [e2]⟩, q⟩
    exact hk b o (fun z => by cases List.mem_singleton.mp z; exact absurd (Heap.lt_size q) (Nat.lt_irrefl _)) (Heap.get?_push_of_some _ q)
end
end Ow
namespace Ow
open PySem PySem.Spec PyProof.Rows L2
/-! ### texts, ranges -/
theorem op_notIn_rng {X : Cx} : OpR X (compareOp .NotIn) (fun x y H Q => ∃ i a lo hi, x = V.int i ∧ y = V.ref a ∧ H a = some (.rng lo hi) ∧ Q (.bl (!decide (lo ≤ i ∧ i < hi))) H) := by
  intro pins s σ H x y v u Q I rx ry h
  obtain ⟨i, a, lo, hi, rfl, rfl, ha, q⟩ := h
  obtain ⟨k, rfl⟩ := rx
  obtain rfl : u = Value.ref a := ry
  obtain ⟨t1, t2, t3, ho⟩ := I.hok a _ ha
  show wpAny _ _ (do return Value.bool (!(← contains (Value.ref a) (Value.int i k)))) _ _ s
  refine wpAny_bind (wpAny_contains_slot (T := "range") ⟨_, ho, rfl⟩ F.slot_range_contains (call_meets F.slot_range_contains ⟨_, ho, rfl⟩ F.entry_range_contains (F.args_range_contains_2 _ _) (q_contains a lo hi i t1 t2 t3 k) ⟨ho, wpAny_truthy_bool (wpAny_pure ?_)⟩))
  refine ⟨.bl _, H, I, rfl, ?_⟩
  rw [place1]
  exact q
/-- so many times a text -/
def repS (z : Str) (n : Int) : Str := ⟨((List.replicate n.toNat z.cps.toList).flatten).toArray⟩
theorem foldl_cps (c : Array Nat) : ∀ (k : Nat) (a : Array Nat), (List.replicate k c).foldl (· ++ ·) a = a ++ ((List.replicate k c.toList).flatten).toArray
  | 0, a => by simp
  | k + 1, a => by
    rw [List.replicate_succ, List.foldl_cons, foldl_cps c k, List.replicate_succ, List.flatten_cons, Array.append_assoc]
    congr 1
    apply Array.ext'
    simp
theorem op_rep_str {X : Cx} : OpR X (binaryOp .Mult) (fun x y H Q => ∃ z n, x = .str z ∧ y = .int n ∧ 0 ≤ n ∧ n ≤ 2000 ∧ z.length ≤ 2000 ∧ Q (.str (repS z n)) H) := by
  intro pins s σ H x y v u Q I rx ry h
  obtain ⟨z, n, rfl, rfl, h0, h1, h2, q⟩ := h
  obtain ⟨t, rfl⟩ := rx
  obtain ⟨t2, rfl⟩ := ry
  have hl : z.length * n.toNat ≤ 4000000 := Nat.le_trans (Nat.mul_le_mul h2 (show n.toNat ≤ 2000 by omega)) (by decide)
  have e0 : n < 1 → repS z n = Str.empty := fun h => by
    have : n.toNat = 0 := by omega
    unfold repS; rw [this]; rfl
  have e1 : (n == 1 || z.length == 0) = true → ¬ n < 1 → repS z n = z := fun h hn => by
    rcases (Bool.or_eq_true _ _).mp h with h | h
    · obtain rfl := eq_of_beq h
      unfold repS
      show (⟨((List.replicate 1 z.cps.toList).flatten).toArray⟩ : Str) = z
      simp
    · have hz : z.cps.toList = [] := by
        have := eq_of_beq h
        exact List.length_eq_zero_iff.mp (by rw [Array.length_toList]; exact this)
      have hc : z.cps = #[] := Array.ext' hz
      unfold repS
      rw [hz, List.flatten_replicate_nil]
      cases z
      congr 1
      exact hc.symm
  have e2 : (⟨(List.replicate n.toNat z.cps).foldl (· ++ ·) #[]⟩ : Str) = repS z n := by rw [foldl_cps, Array.empty_append]; rfl
  refine P.mul_str (by
      have a1 : ¬ n < -(2 ^ 63) := by omega
      have a2 : ¬ n ≥ 2 ^ 63 := by omega
      rw [decide_eq_false a1, decide_eq_false a2]; rfl) (fun hn _ hc => ?_) (fun _ _ => ?_) ?_
  · have h3 : (2000 : Int) ≤ (2 ^ 63 - 1) / n := Int.le_ediv_of_mul_le (by omega) (by omega)
    omega
  · unfold Builtin.Str.tooLong
    exact decide_eq_false (by have : sizeLine ≥ 4000000 := by decide
                              omega)
  · split
    · next hn => exact ⟨by decide, .str (repS z n), H, I.tok _, ⟨_, by rw [e0 hn]⟩, q⟩
    · next hn =>
      split
      · next hb => exact ⟨.str (repS z n), H, I, ⟨_, by rw [e1 hb hn]⟩, q⟩
      · next hb =>
        refine ⟨?_, .str (repS z n), H, I.tok _, ⟨_, by rw [e2]⟩, q⟩
        rw [e2]
        unfold repS Str.length
        rw [List.size_toArray, List.length_flatten, List.map_replicate, List.sum_replicate_nat, Array.length_toList]
        have h4 : z.length = z.cps.size := rfl
        rw [← h4, Nat.mul_comm]
        exact Nat.le_trans hl (by decide)
section
variable {H0 H : Hp} {A : List Addr} {cs : Cells} {p : Addr} {o : HO}
/-- a new cell, the heap behind it by a letter -/
theorem Own.sQ {β : Type} {y : β} {G : Hp → β → Prop} (O : Own H0 H A cs) (h : H p = none) (k : ∀ H', Own H0 H' A ((p, o) :: cs) → Own H H' (Ow.adr cs) ((p, o) :: cs) → G H' y) : G (upd H p o) y := k _ (O.new h) (O.self.new h)
theorem Own.sT {β : Type} {y : β} {G : Hp → β → Prop} (O : Own H0 H A cs) (h : H p = none) (k : ∀ H', Own H0 H' A cs → Own H H' (Ow.adr cs) cs → H' p = some o → G H' y) : G (upd H p o) y := k _ (O.newT h) (O.self.newT h) upd_same
theorem Own.sG {G : Hp → Prop} (O : Own H0 H A cs) (h : H p = none) (k : ∀ H', Own H0 H' A ((p, o) :: cs) → Own H H' (Ow.adr cs) ((p, o) :: cs) → G H') : G (upd H p o) := k _ (O.new h) (O.self.new h)
end
end Ow
namespace Ow
open PySem PySem.Spec PyProof.Rows L2
/-! ### list.count of flat things -/
def rCntF (K : PySem.W.Frag) : V → List V → Hp → VK → Prop := fun x xs H Q => ∃ (a : Addr) (ys : List V) (y : V), x = V.ref a ∧ xs = [y] ∧ SqL K H a ys ∧ flatV y = true ∧ ys.all flatV = true ∧ Q (.int (ys.countP (fun z => eqV z y) : Nat)) H
theorem cnt_flat {y : V} : ∀ {ys : List V} {us : List Value}, Vals ys us → ys.all flatV = true → us.countP (eqU y) = ys.countP fun z => eqV z y
  | _, _, .nil, _ => rfl
  | _, _, @Paired.cons _ _ _ z u _ _ h r, f => by
    rw [List.all_cons, Bool.and_eq_true] at f
    have ih := cnt_flat (y := y) r f.2
    rw [List.countP_cons, List.countP_cons, ih, eqU_of h f.1]
theorem mt_lcountF {X : Cx} : MtR X "list.count" (rCntF X.K) := by
  intro pins s σ H x xs v us Q I rx rxs h
  obtain ⟨a, ys, y, rfl, rfl, hs, fy, fys, q⟩ := h
  cases rx
  cases rxs with
  | cons ry rt =>
    rename_i uy ut
    cases rt
    obtain ⟨its, rv, ⟨⟨cls, dd, data, sl⟩, n, ho, hc, hdn, hd⟩, hlen⟩ := I.list hs
    simp only at hc hd
    subst hc hd
    refine call_meets PySem.F.slot_list_count ⟨_, ho, rfl⟩ PySem.F.entry_list_count (PySem.F.args_list_count_2 _ _)
      (SeqAt.list_countAt a its.toArray n dd sl uy (eqU y)) ⟨ho, fun u' hu' => mem_eqAt ry fy rv fys u' (by simpa using hu'), ?_⟩
    have ec : its.toArray.toList.countP (eqU y) = ys.countP fun z => eqV z y := cnt_flat rv fys
    refine ⟨.int (ys.countP (fun z => eqV z y) : Nat), H, I.tok _, ⟨s.toks, ?_⟩, q⟩
    show Value.int ((its.toArray.toList.countP (eqU y) : Nat) : Int) s.toks = Value.int ((ys.countP (fun z => eqV z y) : Nat) : Int) s.toks
    rw [ec]
end Ow
namespace Ow
open PySem PySem.Spec PyProof.Rows L2
/-! ### isinstance by a class's own row of classes: few looks for many askings -/
theorem sub_of {K : PySem.W.Frag} {D : Addr} {cs : List Value} {bs : List Bool} (h : mroB K D cs bs = true) (k : Nat) {c : Value} {b : Bool} (e1 : cs[k]? = some c) (e2 : bs[k]? = some b) : PySem.W.subIn K (.ref D) c = some b ∧ (((.ref D : Value) == c) = true → b = true) := by
  unfold mroB at h
  split at h
  · next cd hcd =>
    rw [Bool.and_eq_true, Bool.and_eq_true] at h
    obtain ⟨h1, h2, h3⟩ := h
    have h3 := eq_of_beq h3
    have h4 : cd.mro.contains c = b := by
      have := congrArg (fun l : List Bool => l[k]?) h3
      simp only [List.getElem?_map, e1, e2, Option.map_some] at this
      exact Option.some.inj this
    refine ⟨?_, fun z => ?_⟩
    · show PySem.W.mroIn K D c = some b
      unfold PySem.W.mroIn
      rw [hcd, Option.bind_some, if_neg (by simpa using h1), h4]
    · rw [← eq_of_beq z, h2] at h4
      exact h4.symm
  · cases h
theorem kit_ref {K : PySem.W.Frag} {D C : Addr} {cs : List Value} {bs : List Bool} (h : mroB K D cs bs = true) (hc : clsOk K C = true) (k : Nat) {b : Bool} (e1 : cs[k]? = some (.ref C)) (e2 : bs[k]? = some b) : PySem.W.kitOne K (.ref D) (.ref C) = some b := by
  obtain ⟨h1, h2⟩ := sub_of h k e1 e2
  unfold PySem.W.kitOne
  split
  · next z => rw [h2 z]
  · unfold PySem.W.kitCls
    unfold clsOk at hc
    dsimp only
    rw [if_pos hc]
    exact h1
theorem kit_typ {K : PySem.W.Frag} {D : Addr} {T : String} {cs : List Value} {bs : List Bool} (h : mroB K D cs bs = true) (hc : PySem.W.kitMeta T = true) (k : Nat) {b : Bool} (e1 : cs[k]? = some (.type T)) (e2 : bs[k]? = some b) : PySem.W.kitOne K (.ref D) (.type T) = some b := by
  obtain ⟨h1, h2⟩ := sub_of h k e1 e2
  unfold PySem.W.kitOne
  split
  · next z => rw [h2 z]
  · unfold PySem.W.kitCls
    dsimp only
    rw [if_pos hc]
    exact h1
end Ow
namespace Ow
open PySem PySem.Spec PyProof.Rows L2

structure Txt (K : PySem.W.Frag) (mg : Str → Option Value) : Prop where
  g_KernelError : mg "KernelError" = some (.ref (He.ga K "KernelError"))
  g_NoOwner : mg "NoOwner" = some (.ref (He.ga K "NoOwner"))
  g_NoTask : mg "NoTask" = some (.ref (He.ga K "NoTask"))
  g_NoPage : mg "NoPage" = some (.ref (He.ga K "NoPage"))
  g_NoRoom : mg "NoRoom" = some (.ref (He.ga K "NoRoom"))
  g_Taken : mg "Taken" = some (.ref (He.ga K "Taken"))
  g_NoBlock : mg "NoBlock" = some (.ref (He.ga K "NoBlock"))
  g_Fallen : mg "Fallen" = some (.ref (He.ga K "Fallen"))
  g_BadName : mg "BadName" = some (.ref (He.ga K "BadName"))
  g_NoName : mg "NoName" = some (.ref (He.ga K "NoName"))
  g_NotDir : mg "NotDir" = some (.ref (He.ga K "NotDir"))
  g_IsDir : mg "IsDir" = some (.ref (He.ga K "IsDir"))
  g_NotEmpty : mg "NotEmpty" = some (.ref (He.ga K "NotEmpty"))
  g_Inside : mg "Inside" = some (.ref (He.ga K "Inside"))
  g_NoNode : mg "NoNode" = some (.ref (He.ga K "NoNode"))
  g_NoSpace : mg "NoSpace" = some (.ref (He.ga K "NoSpace"))
  g_TooMany : mg "TooMany" = some (.ref (He.ga K "TooMany"))
  g_TooBig : mg "TooBig" = some (.ref (He.ga K "TooBig"))
  g_NotHeld : mg "NotHeld" = some (.ref (He.ga K "NotHeld"))
  g_NotAllowed : mg "NotAllowed" = some (.ref (He.ga K "NotAllowed"))
  g_NoHandle : mg "NoHandle" = some (.ref (He.ga K "NoHandle"))
  g_BadMode : mg "BadMode" = some (.ref (He.ga K "BadMode"))
  g_Again : mg "Again" = some (.ref (He.ga K "Again"))
  g_Broken : mg "Broken" = some (.ref (He.ga K "Broken"))
  g_NoChild : mg "NoChild" = some (.ref (He.ga K "NoChild"))
  g_BadCall : mg "BadCall" = some (.ref (He.ga K "BadCall"))
  g_BadRow : mg "BadRow" = some (.ref (He.ga K "BadRow"))
  g_PIPE_ROOM : ∃ t, mg "PIPE_ROOM" = some (.int 16 t)
  g_Pipe : mg "Pipe" = some (.ref (He.ga K "Pipe"))
  g_LONGEST_opens : ∃ t, mg "LONGEST_opens" = some (.int 320 t)
  g_Thing : mg "Thing" = some (.ref (He.ga K "Thing"))
  g_Opens : mg "Opens" = some (.ref (He.ga K "Opens"))
  g_PlainDir : mg "PlainDir" = some (.ref (He.ga K "PlainDir"))
  g_PlainFiles : mg "PlainFiles" = some (.ref (He.ga K "PlainFiles"))
  g__law_begin : mg "_law_begin" = some (.ref (He.ga K "_law_begin"))
  g__law_draw : mg "_law_draw" = some (.ref (He.ga K "_law_draw"))
  g__law_word : mg "_law_word" = some (.ref (He.ga K "_law_word"))
  g__law_done : mg "_law_done" = some (.ref (He.ga K "_law_done"))
  g__law_told : mg "_law_told" = some (.ref (He.ga K "_law_told"))
  g__law_world : mg "_law_world" = some (.ref (He.ga K "_law_world"))
  g__law_new : mg "_law_new" = some (.ref (He.ga K "_law_new"))
  g__law_opened : mg "_law_opened" = some (.ref (He.ga K "_law_opened"))
  g__law_read : mg "_law_read" = some (.ref (He.ga K "_law_read"))
  g__law_write : mg "_law_write" = some (.ref (He.ga K "_law_write"))
  g__law_counted : mg "_law_counted" = some (.ref (He.ga K "_law_counted"))
  g__law_due : mg "_law_due" = some (.ref (He.ga K "_law_due"))
  g__law_same : mg "_law_same" = some (.ref (He.ga K "_law_same"))
  g__law_right : mg "_law_right" = some (.ref (He.ga K "_law_right"))
  g__law_cells : mg "_law_cells" = some (.ref (He.ga K "_law_cells"))
  g_law : mg "law" = some (.ref (He.ga K "law"))
  n_ValueError : mg "ValueError" = none
  n_isinstance : mg "isinstance" = none
  n_int : mg "int" = none
  n_list : mg "list" = none
  n_range : mg "range" = none
  n_len : mg "len" = none
  n_sorted : mg "sorted" = none
  n_tuple : mg "tuple" = none
  n_all : mg "all" = none
  n_min : mg "min" = none
  n_abs : mg "abs" = none
  n_bool : mg "bool" = none
  n_zip : mg "zip" = none
  x_TooBig : XcIn K (He.ga K "TooBig")
  x_NoHandle : XcIn K (He.ga K "NoHandle")
  x_BadMode : XcIn K (He.ga K "BadMode")
  x_Again : XcIn K (He.ga K "Again")
  x_Broken : XcIn K (He.ga K "Broken")
  c_Pipe : Cls K (He.ga K "Pipe")
  m_Pipe : Mk K (He.ga K "Pipe") (He.ma K (He.ga K "Pipe") "__init__")
  m_Pipe_draw : Meth K (He.ga K "Pipe") "draw" (He.ma K (He.ga K "Pipe") "draw")
  m_Pipe_pour : Meth K (He.ga K "Pipe") "pour" (He.ma K (He.ga K "Pipe") "pour")
  m_Pipe_shut : Meth K (He.ga K "Pipe") "shut" (He.ma K (He.ga K "Pipe") "shut")
  a_Pipe_waiting : NoAttr K (He.ga K "Pipe") "waiting"
  a_Pipe_reader : NoAttr K (He.ga K "Pipe") "reader"
  a_Pipe_writer : NoAttr K (He.ga K "Pipe") "writer"
  c_Thing : Cls K (He.ga K "Thing")
  m_Thing : Mk K (He.ga K "Thing") (He.ma K (He.ga K "Thing") "__init__")
  a_Thing_mode : NoAttr K (He.ga K "Thing") "mode"
  a_Thing_node : NoAttr K (He.ga K "Thing") "node"
  a_Thing_pipe : NoAttr K (He.ga K "Thing") "pipe"
  a_Thing_at : NoAttr K (He.ga K "Thing") "at"
  a_Thing_owners : NoAttr K (He.ga K "Thing") "owners"
  c_Opens : Cls K (He.ga K "Opens")
  m_Opens : Mk K (He.ga K "Opens") (He.ma K (He.ga K "Opens") "__init__")
  m_Opens_new_thing : Meth K (He.ga K "Opens") "new_thing" (He.ma K (He.ga K "Opens") "new_thing")
  m_Opens_thing : Meth K (He.ga K "Opens") "thing" (He.ma K (He.ga K "Opens") "thing")
  m_Opens_thing_for : Meth K (He.ga K "Opens") "thing_for" (He.ma K (He.ga K "Opens") "thing_for")
  m_Opens_open_node : Meth K (He.ga K "Opens") "open_node" (He.ma K (He.ga K "Opens") "open_node")
  m_Opens_open_pipe : Meth K (He.ga K "Opens") "open_pipe" (He.ma K (He.ga K "Opens") "open_pipe")
  m_Opens_more : Meth K (He.ga K "Opens") "more" (He.ma K (He.ga K "Opens") "more")
  m_Opens_less : Meth K (He.ga K "Opens") "less" (He.ma K (He.ga K "Opens") "less")
  m_Opens_read : Meth K (He.ga K "Opens") "read" (He.ma K (He.ga K "Opens") "read")
  m_Opens_write : Meth K (He.ga K "Opens") "write" (He.ma K (He.ga K "Opens") "write")
  m_Opens_seek : Meth K (He.ga K "Opens") "seek" (He.ma K (He.ga K "Opens") "seek")
  m_Opens_count : Meth K (He.ga K "Opens") "count" (He.ma K (He.ga K "Opens") "count")
  m_Opens_numbers : Meth K (He.ga K "Opens") "numbers" (He.ma K (He.ga K "Opens") "numbers")
  a_Opens_files : NoAttr K (He.ga K "Opens") "files"
  a_Opens_things : NoAttr K (He.ga K "Opens") "things"
  a_Opens_last : NoAttr K (He.ga K "Opens") "last"
  c_PlainDir : Cls K (He.ga K "PlainDir")
  m_PlainDir : Mk K (He.ga K "PlainDir") (He.ma K (He.ga K "PlainDir") "__init__")
  a_PlainDir_slots : NoAttr K (He.ga K "PlainDir") "slots"
  c_PlainFiles : Cls K (He.ga K "PlainFiles")
  m_PlainFiles : Mk K (He.ga K "PlainFiles") (He.ma K (He.ga K "PlainFiles") "__init__")
  m_PlainFiles_read_at : Meth K (He.ga K "PlainFiles") "read_at" (He.ma K (He.ga K "PlainFiles") "read_at")
  m_PlainFiles_write_at : Meth K (He.ga K "PlainFiles") "write_at" (He.ma K (He.ga K "PlainFiles") "write_at")
  m_PlainFiles_loose : Meth K (He.ga K "PlainFiles") "loose" (He.ma K (He.ga K "PlainFiles") "loose")
  a_PlainFiles_blocks : NoAttr K (He.ga K "PlainFiles") "blocks"
  a_PlainFiles_nodes : NoAttr K (He.ga K "PlainFiles") "nodes"
  q_MODES : ∀ H, SqT K H (He.ga K "MODES") [.str "r", .str "w", .str "rw"]
  e_Again : ExcC K (He.ga K "Again")
  o_NoOwner : clsOk K (He.ga K "NoOwner") = true
  o_NoTask : clsOk K (He.ga K "NoTask") = true
  o_NoPage : clsOk K (He.ga K "NoPage") = true
  o_NoRoom : clsOk K (He.ga K "NoRoom") = true
  o_Taken : clsOk K (He.ga K "Taken") = true
  o_NoBlock : clsOk K (He.ga K "NoBlock") = true
  o_Fallen : clsOk K (He.ga K "Fallen") = true
  o_BadName : clsOk K (He.ga K "BadName") = true
  o_NoName : clsOk K (He.ga K "NoName") = true
  o_NotDir : clsOk K (He.ga K "NotDir") = true
  o_NoHandle : clsOk K (He.ga K "NoHandle") = true
  o_BadMode : clsOk K (He.ga K "BadMode") = true
  o_TooBig : clsOk K (He.ga K "TooBig") = true
  o_NotEmpty : clsOk K (He.ga K "NotEmpty") = true
  o_Inside : clsOk K (He.ga K "Inside") = true
  o_TooMany : clsOk K (He.ga K "TooMany") = true
  o_NotHeld : clsOk K (He.ga K "NotHeld") = true
  o_NotAllowed : clsOk K (He.ga K "NotAllowed") = true
  o_NoChild : clsOk K (He.ga K "NoChild") = true
  o_BadCall : clsOk K (He.ga K "BadCall") = true
  o_BadRow : clsOk K (He.ga K "BadRow") = true
  o_Again : clsOk K (He.ga K "Again") = true
  o_Broken : clsOk K (He.ga K "Broken") = true
  o_NoNode : clsOk K (He.ga K "NoNode") = true
  o_IsDir : clsOk K (He.ga K "IsDir") = true
  o_NoSpace : clsOk K (He.ga K "NoSpace") = true
  w_Again : mroB K (He.ga K "Again") [(.ref (He.ga K "NoOwner")), (.ref (He.ga K "NoTask")), (.ref (He.ga K "NoPage")), (.ref (He.ga K "NoRoom")), (.ref (He.ga K "Taken")), (.ref (He.ga K "NoBlock")), (.ref (He.ga K "Fallen")), (.ref (He.ga K "BadName")), (.ref (He.ga K "NoName")), (.ref (He.ga K "NotDir")), (.ref (He.ga K "NoHandle")), (.ref (He.ga K "BadMode")), (.ref (He.ga K "TooBig")), (.ref (He.ga K "NotEmpty")), (.ref (He.ga K "Inside")), (.ref (He.ga K "TooMany")), (.ref (He.ga K "NotHeld")), (.ref (He.ga K "NotAllowed")), (.ref (He.ga K "NoChild")), (.ref (He.ga K "BadCall")), (.ref (He.ga K "BadRow")), (.ref (He.ga K "Again")), (.ref (He.ga K "Broken")), (.ref (He.ga K "NoNode")), (.ref (He.ga K "IsDir")), (.ref (He.ga K "NoSpace")), (.type "ValueError")] [false, false, false, false, false, false, false, false, false, false, false, false, false, false, false, false, false, false, false, false, false, true, false, false, false, false, true] = true
  y_Again_KernelError : PySem.W.exmOne K (.ref (He.ga K "Again")) (.ref (He.ga K "KernelError")) = some true
  e_TooBig : ExcC K (He.ga K "TooBig")
  w_TooBig : mroB K (He.ga K "TooBig") [(.ref (He.ga K "NoOwner")), (.ref (He.ga K "NoTask")), (.ref (He.ga K "NoPage")), (.ref (He.ga K "NoRoom")), (.ref (He.ga K "Taken")), (.ref (He.ga K "NoBlock")), (.ref (He.ga K "Fallen")), (.ref (He.ga K "BadName")), (.ref (He.ga K "NoName")), (.ref (He.ga K "NotDir")), (.ref (He.ga K "NoHandle")), (.ref (He.ga K "BadMode")), (.ref (He.ga K "TooBig")), (.ref (He.ga K "NotEmpty")), (.ref (He.ga K "Inside")), (.ref (He.ga K "TooMany")), (.ref (He.ga K "NotHeld")), (.ref (He.ga K "NotAllowed")), (.ref (He.ga K "NoChild")), (.ref (He.ga K "BadCall")), (.ref (He.ga K "BadRow")), (.ref (He.ga K "Again")), (.ref (He.ga K "Broken")), (.ref (He.ga K "NoNode")), (.ref (He.ga K "IsDir")), (.ref (He.ga K "NoSpace")), (.type "ValueError")] [false, false, false, false, false, false, false, false, false, false, false, false, true, false, false, false, false, false, false, false, false, false, false, false, false, false, true] = true
  y_TooBig_KernelError : PySem.W.exmOne K (.ref (He.ga K "TooBig")) (.ref (He.ga K "KernelError")) = some true
  e_Broken : ExcC K (He.ga K "Broken")
  w_Broken : mroB K (He.ga K "Broken") [(.ref (He.ga K "NoOwner")), (.ref (He.ga K "NoTask")), (.ref (He.ga K "NoPage")), (.ref (He.ga K "NoRoom")), (.ref (He.ga K "Taken")), (.ref (He.ga K "NoBlock")), (.ref (He.ga K "Fallen")), (.ref (He.ga K "BadName")), (.ref (He.ga K "NoName")), (.ref (He.ga K "NotDir")), (.ref (He.ga K "NoHandle")), (.ref (He.ga K "BadMode")), (.ref (He.ga K "TooBig")), (.ref (He.ga K "NotEmpty")), (.ref (He.ga K "Inside")), (.ref (He.ga K "TooMany")), (.ref (He.ga K "NotHeld")), (.ref (He.ga K "NotAllowed")), (.ref (He.ga K "NoChild")), (.ref (He.ga K "BadCall")), (.ref (He.ga K "BadRow")), (.ref (He.ga K "Again")), (.ref (He.ga K "Broken")), (.ref (He.ga K "NoNode")), (.ref (He.ga K "IsDir")), (.ref (He.ga K "NoSpace")), (.type "ValueError")] [false, false, false, false, false, false, false, false, false, false, false, false, false, false, false, false, false, false, false, false, false, false, true, false, false, false, true] = true
  y_Broken_KernelError : PySem.W.exmOne K (.ref (He.ga K "Broken")) (.ref (He.ga K "KernelError")) = some true
  e_NoHandle : ExcC K (He.ga K "NoHandle")
  w_NoHandle : mroB K (He.ga K "NoHandle") [(.ref (He.ga K "NoOwner")), (.ref (He.ga K "NoTask")), (.ref (He.ga K "NoPage")), (.ref (He.ga K "NoRoom")), (.ref (He.ga K "Taken")), (.ref (He.ga K "NoBlock")), (.ref (He.ga K "Fallen")), (.ref (He.ga K "BadName")), (.ref (He.ga K "NoName")), (.ref (He.ga K "NotDir")), (.ref (He.ga K "NoHandle")), (.ref (He.ga K "BadMode")), (.ref (He.ga K "TooBig")), (.ref (He.ga K "NotEmpty")), (.ref (He.ga K "Inside")), (.ref (He.ga K "TooMany")), (.ref (He.ga K "NotHeld")), (.ref (He.ga K "NotAllowed")), (.ref (He.ga K "NoChild")), (.ref (He.ga K "BadCall")), (.ref (He.ga K "BadRow")), (.ref (He.ga K "Again")), (.ref (He.ga K "Broken")), (.ref (He.ga K "NoNode")), (.ref (He.ga K "IsDir")), (.ref (He.ga K "NoSpace")), (.type "ValueError")] [false, false, false, false, false, false, false, false, false, false, true, false, false, false, false, false, false, false, false, false, false, false, false, false, false, false, true] = true
  y_NoHandle_KernelError : PySem.W.exmOne K (.ref (He.ga K "NoHandle")) (.ref (He.ga K "KernelError")) = some true
  e_BadMode : ExcC K (He.ga K "BadMode")
  w_BadMode : mroB K (He.ga K "BadMode") [(.ref (He.ga K "NoOwner")), (.ref (He.ga K "NoTask")), (.ref (He.ga K "NoPage")), (.ref (He.ga K "NoRoom")), (.ref (He.ga K "Taken")), (.ref (He.ga K "NoBlock")), (.ref (He.ga K "Fallen")), (.ref (He.ga K "BadName")), (.ref (He.ga K "NoName")), (.ref (He.ga K "NotDir")), (.ref (He.ga K "NoHandle")), (.ref (He.ga K "BadMode")), (.ref (He.ga K "TooBig")), (.ref (He.ga K "NotEmpty")), (.ref (He.ga K "Inside")), (.ref (He.ga K "TooMany")), (.ref (He.ga K "NotHeld")), (.ref (He.ga K "NotAllowed")), (.ref (He.ga K "NoChild")), (.ref (He.ga K "BadCall")), (.ref (He.ga K "BadRow")), (.ref (He.ga K "Again")), (.ref (He.ga K "Broken")), (.ref (He.ga K "NoNode")), (.ref (He.ga K "IsDir")), (.ref (He.ga K "NoSpace")), (.type "ValueError")] [false, false, false, false, false, false, false, false, false, false, false, true, false, false, false, false, false, false, false, false, false, false, false, false, false, false, true] = true
  y_BadMode_KernelError : PySem.W.exmOne K (.ref (He.ga K "BadMode")) (.ref (He.ga K "KernelError")) = some true
  k_Again_NoOwner : PySem.W.kitOne K (.ref (He.ga K "Again")) (.ref (He.ga K "NoOwner")) = some false
  k_Again_NoTask : PySem.W.kitOne K (.ref (He.ga K "Again")) (.ref (He.ga K "NoTask")) = some false
  k_Again_NoPage : PySem.W.kitOne K (.ref (He.ga K "Again")) (.ref (He.ga K "NoPage")) = some false
  k_Again_NoRoom : PySem.W.kitOne K (.ref (He.ga K "Again")) (.ref (He.ga K "NoRoom")) = some false
  k_Again_Taken : PySem.W.kitOne K (.ref (He.ga K "Again")) (.ref (He.ga K "Taken")) = some false
  k_Again_NoBlock : PySem.W.kitOne K (.ref (He.ga K "Again")) (.ref (He.ga K "NoBlock")) = some false
  k_Again_Fallen : PySem.W.kitOne K (.ref (He.ga K "Again")) (.ref (He.ga K "Fallen")) = some false
  k_Again_BadName : PySem.W.kitOne K (.ref (He.ga K "Again")) (.ref (He.ga K "BadName")) = some false
  k_Again_NoName : PySem.W.kitOne K (.ref (He.ga K "Again")) (.ref (He.ga K "NoName")) = some false
  k_Again_NotDir : PySem.W.kitOne K (.ref (He.ga K "Again")) (.ref (He.ga K "NotDir")) = some false
  k_Again_NoHandle : PySem.W.kitOne K (.ref (He.ga K "Again")) (.ref (He.ga K "NoHandle")) = some false
  k_Again_BadMode : PySem.W.kitOne K (.ref (He.ga K "Again")) (.ref (He.ga K "BadMode")) = some false
  k_Again_TooBig : PySem.W.kitOne K (.ref (He.ga K "Again")) (.ref (He.ga K "TooBig")) = some false
  k_Again_NotEmpty : PySem.W.kitOne K (.ref (He.ga K "Again")) (.ref (He.ga K "NotEmpty")) = some false
  k_Again_Inside : PySem.W.kitOne K (.ref (He.ga K "Again")) (.ref (He.ga K "Inside")) = some false
  k_Again_TooMany : PySem.W.kitOne K (.ref (He.ga K "Again")) (.ref (He.ga K "TooMany")) = some false
  k_Again_NotHeld : PySem.W.kitOne K (.ref (He.ga K "Again")) (.ref (He.ga K "NotHeld")) = some false
  k_Again_NotAllowed : PySem.W.kitOne K (.ref (He.ga K "Again")) (.ref (He.ga K "NotAllowed")) = some false
  k_Again_NoChild : PySem.W.kitOne K (.ref (He.ga K "Again")) (.ref (He.ga K "NoChild")) = some false
  k_Again_BadCall : PySem.W.kitOne K (.ref (He.ga K "Again")) (.ref (He.ga K "BadCall")) = some false
  k_Again_BadRow : PySem.W.kitOne K (.ref (He.ga K "Again")) (.ref (He.ga K "BadRow")) = some false
  k_Again_Again : PySem.W.kitOne K (.ref (He.ga K "Again")) (.ref (He.ga K "Again")) = some true
  k_Again_Broken : PySem.W.kitOne K (.ref (He.ga K "Again")) (.ref (He.ga K "Broken")) = some false
  k_Again_NoNode : PySem.W.kitOne K (.ref (He.ga K "Again")) (.ref (He.ga K "NoNode")) = some false
  k_Again_IsDir : PySem.W.kitOne K (.ref (He.ga K "Again")) (.ref (He.ga K "IsDir")) = some false
  k_Again_NoSpace : PySem.W.kitOne K (.ref (He.ga K "Again")) (.ref (He.ga K "NoSpace")) = some false
  k_Again_ValueError : PySem.W.kitOne K (.ref (He.ga K "Again")) (.type "ValueError") = some true
  k_TooBig_NoOwner : PySem.W.kitOne K (.ref (He.ga K "TooBig")) (.ref (He.ga K "NoOwner")) = some false
  k_TooBig_NoTask : PySem.W.kitOne K (.ref (He.ga K "TooBig")) (.ref (He.ga K "NoTask")) = some false
  k_TooBig_NoPage : PySem.W.kitOne K (.ref (He.ga K "TooBig")) (.ref (He.ga K "NoPage")) = some false
  k_TooBig_NoRoom : PySem.W.kitOne K (.ref (He.ga K "TooBig")) (.ref (He.ga K "NoRoom")) = some false
  k_TooBig_Taken : PySem.W.kitOne K (.ref (He.ga K "TooBig")) (.ref (He.ga K "Taken")) = some false
  k_TooBig_NoBlock : PySem.W.kitOne K (.ref (He.ga K "TooBig")) (.ref (He.ga K "NoBlock")) = some false
  k_TooBig_Fallen : PySem.W.kitOne K (.ref (He.ga K "TooBig")) (.ref (He.ga K "Fallen")) = some false
  k_TooBig_BadName : PySem.W.kitOne K (.ref (He.ga K "TooBig")) (.ref (He.ga K "BadName")) = some false
  k_TooBig_NoName : PySem.W.kitOne K (.ref (He.ga K "TooBig")) (.ref (He.ga K "NoName")) = some false
  k_TooBig_NotDir : PySem.W.kitOne K (.ref (He.ga K "TooBig")) (.ref (He.ga K "NotDir")) = some false
  k_TooBig_NoHandle : PySem.W.kitOne K (.ref (He.ga K "TooBig")) (.ref (He.ga K "NoHandle")) = some false
  k_TooBig_BadMode : PySem.W.kitOne K (.ref (He.ga K "TooBig")) (.ref (He.ga K "BadMode")) = some false
  k_TooBig_TooBig : PySem.W.kitOne K (.ref (He.ga K "TooBig")) (.ref (He.ga K "TooBig")) = some true
  k_TooBig_NotEmpty : PySem.W.kitOne K (.ref (He.ga K "TooBig")) (.ref (He.ga K "NotEmpty")) = some false
  k_TooBig_Inside : PySem.W.kitOne K (.ref (He.ga K "TooBig")) (.ref (He.ga K "Inside")) = some false
  k_TooBig_TooMany : PySem.W.kitOne K (.ref (He.ga K "TooBig")) (.ref (He.ga K "TooMany")) = some false
  k_TooBig_NotHeld : PySem.W.kitOne K (.ref (He.ga K "TooBig")) (.ref (He.ga K "NotHeld")) = some false
  k_TooBig_NotAllowed : PySem.W.kitOne K (.ref (He.ga K "TooBig")) (.ref (He.ga K "NotAllowed")) = some false
  k_TooBig_NoChild : PySem.W.kitOne K (.ref (He.ga K "TooBig")) (.ref (He.ga K "NoChild")) = some false
  k_TooBig_BadCall : PySem.W.kitOne K (.ref (He.ga K "TooBig")) (.ref (He.ga K "BadCall")) = some false
  k_TooBig_BadRow : PySem.W.kitOne K (.ref (He.ga K "TooBig")) (.ref (He.ga K "BadRow")) = some false
  k_TooBig_Again : PySem.W.kitOne K (.ref (He.ga K "TooBig")) (.ref (He.ga K "Again")) = some false
  k_TooBig_Broken : PySem.W.kitOne K (.ref (He.ga K "TooBig")) (.ref (He.ga K "Broken")) = some false
  k_TooBig_NoNode : PySem.W.kitOne K (.ref (He.ga K "TooBig")) (.ref (He.ga K "NoNode")) = some false
  k_TooBig_IsDir : PySem.W.kitOne K (.ref (He.ga K "TooBig")) (.ref (He.ga K "IsDir")) = some false
  k_TooBig_NoSpace : PySem.W.kitOne K (.ref (He.ga K "TooBig")) (.ref (He.ga K "NoSpace")) = some false
  k_TooBig_ValueError : PySem.W.kitOne K (.ref (He.ga K "TooBig")) (.type "ValueError") = some true
  k_Broken_NoOwner : PySem.W.kitOne K (.ref (He.ga K "Broken")) (.ref (He.ga K "NoOwner")) = some false
  k_Broken_NoTask : PySem.W.kitOne K (.ref (He.ga K "Broken")) (.ref (He.ga K "NoTask")) = some false
  k_Broken_NoPage : PySem.W.kitOne K (.ref (He.ga K "Broken")) (.ref (He.ga K "NoPage")) = some false
  k_Broken_NoRoom : PySem.W.kitOne K (.ref (He.ga K "Broken")) (.ref (He.ga K "NoRoom")) = some false
  k_Broken_Taken : PySem.W.kitOne K (.ref (He.ga K "Broken")) (.ref (He.ga K "Taken")) = some false
  k_Broken_NoBlock : PySem.W.kitOne K (.ref (He.ga K "Broken")) (.ref (He.ga K "NoBlock")) = some false
  k_Broken_Fallen : PySem.W.kitOne K (.ref (He.ga K "Broken")) (.ref (He.ga K "Fallen")) = some false
  k_Broken_BadName : PySem.W.kitOne K (.ref (He.ga K "Broken")) (.ref (He.ga K "BadName")) = some false
  k_Broken_NoName : PySem.W.kitOne K (.ref (He.ga K "Broken")) (.ref (He.ga K "NoName")) = some false
  k_Broken_NotDir : PySem.W.kitOne K (.ref (He.ga K "Broken")) (.ref (He.ga K "NotDir")) = some false
  k_Broken_NoHandle : PySem.W.kitOne K (.ref (He.ga K "Broken")) (.ref (He.ga K "NoHandle")) = some false
  k_Broken_BadMode : PySem.W.kitOne K (.ref (He.ga K "Broken")) (.ref (He.ga K "BadMode")) = some false
  k_Broken_TooBig : PySem.W.kitOne K (.ref (He.ga K "Broken")) (.ref (He.ga K "TooBig")) = some false
  k_Broken_NotEmpty : PySem.W.kitOne K (.ref (He.ga K "Broken")) (.ref (He.ga K "NotEmpty")) = some false
  k_Broken_Inside : PySem.W.kitOne K (.ref (He.ga K "Broken")) (.ref (He.ga K "Inside")) = some false
  k_Broken_TooMany : PySem.W.kitOne K (.ref (He.ga K "Broken")) (.ref (He.ga K "TooMany")) = some false
  k_Broken_NotHeld : PySem.W.kitOne K (.ref (He.ga K "Broken")) (.ref (He.ga K "NotHeld")) = some false
  k_Broken_NotAllowed : PySem.W.kitOne K (.ref (He.ga K "Broken")) (.ref (He.ga K "NotAllowed")) = some false
  k_Broken_NoChild : PySem.W.kitOne K (.ref (He.ga K "Broken")) (.ref (He.ga K "NoChild")) = some false
  k_Broken_BadCall : PySem.W.kitOne K (.ref (He.ga K "Broken")) (.ref (He.ga K "BadCall")) = some false
  k_Broken_BadRow : PySem.W.kitOne K (.ref (He.ga K "Broken")) (.ref (He.ga K "BadRow")) = some false
  k_Broken_Again : PySem.W.kitOne K (.ref (He.ga K "Broken")) (.ref (He.ga K "Again")) = some false
  k_Broken_Broken : PySem.W.kitOne K (.ref (He.ga K "Broken")) (.ref (He.ga K "Broken")) = some true
  k_Broken_NoNode : PySem.W.kitOne K (.ref (He.ga K "Broken")) (.ref (He.ga K "NoNode")) = some false
  k_Broken_IsDir : PySem.W.kitOne K (.ref (He.ga K "Broken")) (.ref (He.ga K "IsDir")) = some false
  k_Broken_NoSpace : PySem.W.kitOne K (.ref (He.ga K "Broken")) (.ref (He.ga K "NoSpace")) = some false
  k_Broken_ValueError : PySem.W.kitOne K (.ref (He.ga K "Broken")) (.type "ValueError") = some true
  k_NoHandle_NoOwner : PySem.W.kitOne K (.ref (He.ga K "NoHandle")) (.ref (He.ga K "NoOwner")) = some false
  k_NoHandle_NoTask : PySem.W.kitOne K (.ref (He.ga K "NoHandle")) (.ref (He.ga K "NoTask")) = some false
  k_NoHandle_NoPage : PySem.W.kitOne K (.ref (He.ga K "NoHandle")) (.ref (He.ga K "NoPage")) = some false
  k_NoHandle_NoRoom : PySem.W.kitOne K (.ref (He.ga K "NoHandle")) (.ref (He.ga K "NoRoom")) = some false
  k_NoHandle_Taken : PySem.W.kitOne K (.ref (He.ga K "NoHandle")) (.ref (He.ga K "Taken")) = some false
  k_NoHandle_NoBlock : PySem.W.kitOne K (.ref (He.ga K "NoHandle")) (.ref (He.ga K "NoBlock")) = some false
  k_NoHandle_Fallen : PySem.W.kitOne K (.ref (He.ga K "NoHandle")) (.ref (He.ga K "Fallen")) = some false
  k_NoHandle_BadName : PySem.W.kitOne K (.ref (He.ga K "NoHandle")) (.ref (He.ga K "BadName")) = some false
  k_NoHandle_NoName : PySem.W.kitOne K (.ref (He.ga K "NoHandle")) (.ref (He.ga K "NoName")) = some false
  k_NoHandle_NotDir : PySem.W.kitOne K (.ref (He.ga K "NoHandle")) (.ref (He.ga K "NotDir")) = some false
  k_NoHandle_NoHandle : PySem.W.kitOne K (.ref (He.ga K "NoHandle")) (.ref (He.ga K "NoHandle")) = some true
  k_NoHandle_BadMode : PySem.W.kitOne K (.ref (He.ga K "NoHandle")) (.ref (He.ga K "BadMode")) = some false
  k_NoHandle_TooBig : PySem.W.kitOne K (.ref (He.ga K "NoHandle")) (.ref (He.ga K "TooBig")) = some false
  k_NoHandle_NotEmpty : PySem.W.kitOne K (.ref (He.ga K "NoHandle")) (.ref (He.ga K "NotEmpty")) = some false
  k_NoHandle_Inside : PySem.W.kitOne K (.ref (He.ga K "NoHandle")) (.ref (He.ga K "Inside")) = some false
  k_NoHandle_TooMany : PySem.W.kitOne K (.ref (He.ga K "NoHandle")) (.ref (He.ga K "TooMany")) = some false
  k_NoHandle_NotHeld : PySem.W.kitOne K (.ref (He.ga K "NoHandle")) (.ref (He.ga K "NotHeld")) = some false
  k_NoHandle_NotAllowed : PySem.W.kitOne K (.ref (He.ga K "NoHandle")) (.ref (He.ga K "NotAllowed")) = some false
  k_NoHandle_NoChild : PySem.W.kitOne K (.ref (He.ga K "NoHandle")) (.ref (He.ga K "NoChild")) = some false
  k_NoHandle_BadCall : PySem.W.kitOne K (.ref (He.ga K "NoHandle")) (.ref (He.ga K "BadCall")) = some false
  k_NoHandle_BadRow : PySem.W.kitOne K (.ref (He.ga K "NoHandle")) (.ref (He.ga K "BadRow")) = some false
  k_NoHandle_Again : PySem.W.kitOne K (.ref (He.ga K "NoHandle")) (.ref (He.ga K "Again")) = some false
  k_NoHandle_Broken : PySem.W.kitOne K (.ref (He.ga K "NoHandle")) (.ref (He.ga K "Broken")) = some false
  k_NoHandle_NoNode : PySem.W.kitOne K (.ref (He.ga K "NoHandle")) (.ref (He.ga K "NoNode")) = some false
  k_NoHandle_IsDir : PySem.W.kitOne K (.ref (He.ga K "NoHandle")) (.ref (He.ga K "IsDir")) = some false
  k_NoHandle_NoSpace : PySem.W.kitOne K (.ref (He.ga K "NoHandle")) (.ref (He.ga K "NoSpace")) = some false
  k_NoHandle_ValueError : PySem.W.kitOne K (.ref (He.ga K "NoHandle")) (.type "ValueError") = some true
  k_BadMode_NoOwner : PySem.W.kitOne K (.ref (He.ga K "BadMode")) (.ref (He.ga K "NoOwner")) = some false
  k_BadMode_NoTask : PySem.W.kitOne K (.ref (He.ga K "BadMode")) (.ref (He.ga K "NoTask")) = some false
  k_BadMode_NoPage : PySem.W.kitOne K (.ref (He.ga K "BadMode")) (.ref (He.ga K "NoPage")) = some false
  k_BadMode_NoRoom : PySem.W.kitOne K (.ref (He.ga K "BadMode")) (.ref (He.ga K "NoRoom")) = some false
  k_BadMode_Taken : PySem.W.kitOne K (.ref (He.ga K "BadMode")) (.ref (He.ga K "Taken")) = some false
  k_BadMode_NoBlock : PySem.W.kitOne K (.ref (He.ga K "BadMode")) (.ref (He.ga K "NoBlock")) = some false
  k_BadMode_Fallen : PySem.W.kitOne K (.ref (He.ga K "BadMode")) (.ref (He.ga K "Fallen")) = some false
  k_BadMode_BadName : PySem.W.kitOne K (.ref (He.ga K "BadMode")) (.ref (He.ga K "BadName")) = some false
  k_BadMode_NoName : PySem.W.kitOne K (.ref (He.ga K "BadMode")) (.ref (He.ga K "NoName")) = some false
  k_BadMode_NotDir : PySem.W.kitOne K (.ref (He.ga K "BadMode")) (.ref (He.ga K "NotDir")) = some false
  k_BadMode_NoHandle : PySem.W.kitOne K (.ref (He.ga K "BadMode")) (.ref (He.ga K "NoHandle")) = some false
  k_BadMode_BadMode : PySem.W.kitOne K (.ref (He.ga K "BadMode")) (.ref (He.ga K "BadMode")) = some true
  k_BadMode_TooBig : PySem.W.kitOne K (.ref (He.ga K "BadMode")) (.ref (He.ga K "TooBig")) = some false
  k_BadMode_NotEmpty : PySem.W.kitOne K (.ref (He.ga K "BadMode")) (.ref (He.ga K "NotEmpty")) = some false
  k_BadMode_Inside : PySem.W.kitOne K (.ref (He.ga K "BadMode")) (.ref (He.ga K "Inside")) = some false
  k_BadMode_TooMany : PySem.W.kitOne K (.ref (He.ga K "BadMode")) (.ref (He.ga K "TooMany")) = some false
  k_BadMode_NotHeld : PySem.W.kitOne K (.ref (He.ga K "BadMode")) (.ref (He.ga K "NotHeld")) = some false
  k_BadMode_NotAllowed : PySem.W.kitOne K (.ref (He.ga K "BadMode")) (.ref (He.ga K "NotAllowed")) = some false
  k_BadMode_NoChild : PySem.W.kitOne K (.ref (He.ga K "BadMode")) (.ref (He.ga K "NoChild")) = some false
  k_BadMode_BadCall : PySem.W.kitOne K (.ref (He.ga K "BadMode")) (.ref (He.ga K "BadCall")) = some false
  k_BadMode_BadRow : PySem.W.kitOne K (.ref (He.ga K "BadMode")) (.ref (He.ga K "BadRow")) = some false
  k_BadMode_Again : PySem.W.kitOne K (.ref (He.ga K "BadMode")) (.ref (He.ga K "Again")) = some false
  k_BadMode_Broken : PySem.W.kitOne K (.ref (He.ga K "BadMode")) (.ref (He.ga K "Broken")) = some false
  k_BadMode_NoNode : PySem.W.kitOne K (.ref (He.ga K "BadMode")) (.ref (He.ga K "NoNode")) = some false
  k_BadMode_IsDir : PySem.W.kitOne K (.ref (He.ga K "BadMode")) (.ref (He.ga K "IsDir")) = some false
  k_BadMode_NoSpace : PySem.W.kitOne K (.ref (He.ga K "BadMode")) (.ref (He.ga K "NoSpace")) = some false
  k_BadMode_ValueError : PySem.W.kitOne K (.ref (He.ga K "BadMode")) (.type "ValueError") = some true
  d_BadRow___init__ : ∃ fd, FunD K "__init__" "BadRow.__init__" (defArgs s_BadRow___init__) (defBody s_BadRow___init__) (defScope s_BadRow___init__) [] [] (He.fAd K ("BadRow", some "__init__")) fd
  d_Pipe___init__ : ∃ fd, FunD K "__init__" "Pipe.__init__" (defArgs s_Pipe___init__) (defBody s_Pipe___init__) (defScope s_Pipe___init__) [] [] (He.fAd K ("Pipe", some "__init__")) fd
  d_Pipe_draw : ∃ fd, FunD K "draw" "Pipe.draw" (defArgs s_Pipe_draw) (defBody s_Pipe_draw) (defScope s_Pipe_draw) [] [] (He.fAd K ("Pipe", some "draw")) fd
  d_Pipe_pour : ∃ fd, FunD K "pour" "Pipe.pour" (defArgs s_Pipe_pour) (defBody s_Pipe_pour) (defScope s_Pipe_pour) [] [] (He.fAd K ("Pipe", some "pour")) fd
  d_Pipe_shut : ∃ fd, FunD K "shut" "Pipe.shut" (defArgs s_Pipe_shut) (defBody s_Pipe_shut) (defScope s_Pipe_shut) [] [] (He.fAd K ("Pipe", some "shut")) fd
  d_Thing___init__ : ∃ fd, FunD K "__init__" "Thing.__init__" (defArgs s_Thing___init__) (defBody s_Thing___init__) (defScope s_Thing___init__) [] [] (He.fAd K ("Thing", some "__init__")) fd
  d_Opens___init__ : ∃ fd, FunD K "__init__" "Opens.__init__" (defArgs s_Opens___init__) (defBody s_Opens___init__) (defScope s_Opens___init__) [] [] (He.fAd K ("Opens", some "__init__")) fd
  d_Opens_new_thing : ∃ fd, FunD K "new_thing" "Opens.new_thing" (defArgs s_Opens_new_thing) (defBody s_Opens_new_thing) (defScope s_Opens_new_thing) [] [] (He.fAd K ("Opens", some "new_thing")) fd
  d_Opens_thing : ∃ fd, FunD K "thing" "Opens.thing" (defArgs s_Opens_thing) (defBody s_Opens_thing) (defScope s_Opens_thing) [] [] (He.fAd K ("Opens", some "thing")) fd
  d_Opens_thing_for : ∃ fd, FunD K "thing_for" "Opens.thing_for" (defArgs s_Opens_thing_for) (defBody s_Opens_thing_for) (defScope s_Opens_thing_for) [] [] (He.fAd K ("Opens", some "thing_for")) fd
  d_Opens_open_node : ∃ fd, FunD K "open_node" "Opens.open_node" (defArgs s_Opens_open_node) (defBody s_Opens_open_node) (defScope s_Opens_open_node) [] [] (He.fAd K ("Opens", some "open_node")) fd
  d_Opens_open_pipe : ∃ fd, FunD K "open_pipe" "Opens.open_pipe" (defArgs s_Opens_open_pipe) (defBody s_Opens_open_pipe) (defScope s_Opens_open_pipe) [] [] (He.fAd K ("Opens", some "open_pipe")) fd
  d_Opens_more : ∃ fd, FunD K "more" "Opens.more" (defArgs s_Opens_more) (defBody s_Opens_more) (defScope s_Opens_more) [] [] (He.fAd K ("Opens", some "more")) fd
  d_Opens_less : ∃ fd, FunD K "less" "Opens.less" (defArgs s_Opens_less) (defBody s_Opens_less) (defScope s_Opens_less) [] [] (He.fAd K ("Opens", some "less")) fd
  d_Opens_read : ∃ fd, FunD K "read" "Opens.read" (defArgs s_Opens_read) (defBody s_Opens_read) (defScope s_Opens_read) [] [] (He.fAd K ("Opens", some "read")) fd
  d_Opens_write : ∃ fd, FunD K "write" "Opens.write" (defArgs s_Opens_write) (defBody s_Opens_write) (defScope s_Opens_write) [] [] (He.fAd K ("Opens", some "write")) fd
  d_Opens_seek : ∃ fd, FunD K "seek" "Opens.seek" (defArgs s_Opens_seek) (defBody s_Opens_seek) (defScope s_Opens_seek) [] [] (He.fAd K ("Opens", some "seek")) fd
  d_Opens_count : ∃ fd, FunD K "count" "Opens.count" (defArgs s_Opens_count) (defBody s_Opens_count) (defScope s_Opens_count) [] [] (He.fAd K ("Opens", some "count")) fd
  d_Opens_numbers : ∃ fd, FunD K "numbers" "Opens.numbers" (defArgs s_Opens_numbers) (defBody s_Opens_numbers) (defScope s_Opens_numbers) [] [] (He.fAd K ("Opens", some "numbers")) fd
  d_PlainDir___init__ : ∃ fd, FunD K "__init__" "PlainDir.__init__" (defArgs s_PlainDir___init__) (defBody s_PlainDir___init__) (defScope s_PlainDir___init__) [] [] (He.fAd K ("PlainDir", some "__init__")) fd
  d_PlainFiles___init__ : ∃ fd, FunD K "__init__" "PlainFiles.__init__" (defArgs s_PlainFiles___init__) (defBody s_PlainFiles___init__) (defScope s_PlainFiles___init__) [] [] (He.fAd K ("PlainFiles", some "__init__")) fd
  d_PlainFiles_read_at : ∃ fd, FunD K "read_at" "PlainFiles.read_at" (defArgs s_PlainFiles_read_at) (defBody s_PlainFiles_read_at) (defScope s_PlainFiles_read_at) [] [] (He.fAd K ("PlainFiles", some "read_at")) fd
  d_PlainFiles_write_at : ∃ fd, FunD K "write_at" "PlainFiles.write_at" (defArgs s_PlainFiles_write_at) (defBody s_PlainFiles_write_at) (defScope s_PlainFiles_write_at) [] [] (He.fAd K ("PlainFiles", some "write_at")) fd
  d_PlainFiles_loose : ∃ fd, FunD K "loose" "PlainFiles.loose" (defArgs s_PlainFiles_loose) (defBody s_PlainFiles_loose) (defScope s_PlainFiles_loose) [] [] (He.fAd K ("PlainFiles", some "loose")) fd
  d__law_begin : ∃ fd, FunD K "_law_begin" "_law_begin" (defArgs s__law_begin) (defBody s__law_begin) (defScope s__law_begin) [] [] (He.fAd K ("_law_begin", none)) fd
  d__law_draw : ∃ fd, FunD K "_law_draw" "_law_draw" (defArgs s__law_draw) (defBody s__law_draw) (defScope s__law_draw) [] [] (He.fAd K ("_law_draw", none)) fd
  d__law_word : ∃ fd, FunD K "_law_word" "_law_word" (defArgs s__law_word) (defBody s__law_word) (defScope s__law_word) [] [] (He.fAd K ("_law_word", none)) fd
  d__law_done : ∃ fd, FunD K "_law_done" "_law_done" (defArgs s__law_done) (defBody s__law_done) (defScope s__law_done) [] [] (He.fAd K ("_law_done", none)) fd
  d__law_told : ∃ fd, FunD K "_law_told" "_law_told" (defArgs s__law_told) (defBody s__law_told) (defScope s__law_told) [] [] (He.fAd K ("_law_told", none)) fd
  d__law_world : ∃ fd, FunD K "_law_world" "_law_world" (defArgs s__law_world) (defBody s__law_world) (defScope s__law_world) [] [] (He.fAd K ("_law_world", none)) fd
  d__law_new : ∃ fd, FunD K "_law_new" "_law_new" (defArgs s__law_new) (defBody s__law_new) (defScope s__law_new) [] [] (He.fAd K ("_law_new", none)) fd
  d__law_opened : ∃ fd, FunD K "_law_opened" "_law_opened" (defArgs s__law_opened) (defBody s__law_opened) (defScope s__law_opened) [] [] (He.fAd K ("_law_opened", none)) fd
  d__law_read : ∃ fd, FunD K "_law_read" "_law_read" (defArgs s__law_read) (defBody s__law_read) (defScope s__law_read) [] [] (He.fAd K ("_law_read", none)) fd
  d__law_write : ∃ fd, FunD K "_law_write" "_law_write" (defArgs s__law_write) (defBody s__law_write) (defScope s__law_write) [] [] (He.fAd K ("_law_write", none)) fd
  d__law_counted : ∃ fd, FunD K "_law_counted" "_law_counted" (defArgs s__law_counted) (defBody s__law_counted) (defScope s__law_counted) [] [] (He.fAd K ("_law_counted", none)) fd
  d__law_due : ∃ fd, FunD K "_law_due" "_law_due" (defArgs s__law_due) (defBody s__law_due) (defScope s__law_due) [] [] (He.fAd K ("_law_due", none)) fd
  d__law_same : ∃ fd, FunD K "_law_same" "_law_same" (defArgs s__law_same) (defBody s__law_same) (defScope s__law_same) [] [] (He.fAd K ("_law_same", none)) fd
  d__law_right : ∃ fd, FunD K "_law_right" "_law_right" (defArgs s__law_right) (defBody s__law_right) (defScope s__law_right) [] [] (He.fAd K ("_law_right", none)) fd
  d__law_cells : ∃ fd, FunD K "_law_cells" "_law_cells" (defArgs s__law_cells) (defBody s__law_cells) (defScope s__law_cells) [] [] (He.fAd K ("_law_cells", none)) fd
  d_law : ∃ fd, FunD K "law" "law" (defArgs s_law) (defBody s_law) (defScope s_law) [] [] (He.fAd K ("law", none)) fd
theorem sc_Opens_open_node : FnScope ["self", "node", "mode"] ["self", "node", "mode"] (defScope s_Opens_open_node) := ⟨rfl, rfl, rfl, by decide +kernel, rfl, by decide +kernel, by decide +kernel⟩
theorem okW_Opens_open_node {P : Program} {w : World} {K : PySem.W.Frag} {mg : Str → Option Value} {base : Heap} (T : Txt K mg) : Cee P w K mg base 1 (He.fAd K ("Opens", some "open_node")) ["self", "node", "mode"] spWall :=
  cee_of T.d_Opens_open_node sc_Opens_open_node (fun _ _ _ _ _ _ us hl => match us, hl with | [_, _, _], _ => rfl) (fun vs H Q E h => h.elim) (fun cdv A outer s H vs Q E hr h => h.elim)
theorem sc_Opens_seek : FnScope ["self", "n", "at", "thing"] ["self", "n", "at"] (defScope s_Opens_seek) := ⟨rfl, rfl, rfl, by decide +kernel, rfl, by decide +kernel, by decide +kernel⟩
theorem okW_Opens_seek {P : Program} {w : World} {K : PySem.W.Frag} {mg : Str → Option Value} {base : Heap} (T : Txt K mg) : Cee P w K mg base 1 (He.fAd K ("Opens", some "seek")) ["self", "n", "at"] spWall :=
  cee_of T.d_Opens_seek sc_Opens_seek (fun _ _ _ _ _ _ us hl => match us, hl with | [_, _, _], _ => rfl) (fun vs H Q E h => h.elim) (fun cdv A outer s H vs Q E hr h => h.elim)
theorem sc_PlainFiles_read_at : FnScope ["self", "node", "at", "many", "file"] ["self", "node", "at", "many"] (defScope s_PlainFiles_read_at) := ⟨rfl, rfl, rfl, by decide +kernel, rfl, by decide +kernel, by decide +kernel⟩
theorem okW_PlainFiles_read_at {P : Program} {w : World} {K : PySem.W.Frag} {mg : Str → Option Value} {base : Heap} (T : Txt K mg) : Cee P w K mg base 1 (He.fAd K ("PlainFiles", some "read_at")) ["self", "node", "at", "many"] spWall :=
  cee_of T.d_PlainFiles_read_at sc_PlainFiles_read_at (fun _ _ _ _ _ _ us hl => match us, hl with | [_, _, _, _], _ => rfl) (fun vs H Q E h => h.elim) (fun cdv A outer s H vs Q E hr h => h.elim)
theorem sc_PlainFiles_write_at : FnScope ["self", "node", "at", "cells", "file", "size", "longer"] ["self", "node", "at", "cells"] (defScope s_PlainFiles_write_at) := ⟨rfl, rfl, rfl, by decide +kernel, rfl, by decide +kernel, by decide +kernel⟩
theorem okW_PlainFiles_write_at {P : Program} {w : World} {K : PySem.W.Frag} {mg : Str → Option Value} {base : Heap} (T : Txt K mg) : Cee P w K mg base 1 (He.fAd K ("PlainFiles", some "write_at")) ["self", "node", "at", "cells"] spWall :=
  cee_of T.d_PlainFiles_write_at sc_PlainFiles_write_at (fun _ _ _ _ _ _ us hl => match us, hl with | [_, _, _, _], _ => rfl) (fun vs H Q E h => h.elim) (fun cdv A outer s H vs Q E hr h => h.elim)
theorem sc_PlainFiles_loose : FnScope ["self", "node", "here"] ["self", "node"] (defScope s_PlainFiles_loose) := ⟨rfl, rfl, rfl, by decide +kernel, rfl, by decide +kernel, by decide +kernel⟩
theorem okW_PlainFiles_loose {P : Program} {w : World} {K : PySem.W.Frag} {mg : Str → Option Value} {base : Heap} (T : Txt K mg) : Cee P w K mg base 1 (He.fAd K ("PlainFiles", some "loose")) ["self", "node"] spWall :=
  cee_of T.d_PlainFiles_loose sc_PlainFiles_loose (fun _ _ _ _ _ _ us hl => match us, hl with | [_, _], _ => rfl) (fun vs H Q E h => h.elim) (fun cdv A outer s H vs Q E hr h => h.elim)
theorem txt_mk {K : PySem.W.Frag} {h : Heap} {mg : Str → Option Value} (X : K.In h) (G : h.Ns mainGlobals mg) (c : He.SaysD fas fns K) (m : exB K = true) : Txt K mg where
  g_KernelError := He.glo_ok X G (c.fact 0 (f := .glo "KernelError") rfl)
  g_NoOwner := He.glo_ok X G (c.fact 1 (f := .glo "NoOwner") rfl)
  g_NoTask := He.glo_ok X G (c.fact 2 (f := .glo "NoTask") rfl)
  g_NoPage := He.glo_ok X G (c.fact 3 (f := .glo "NoPage") rfl)
  g_NoRoom := He.glo_ok X G (c.fact 4 (f := .glo "NoRoom") rfl)
  g_Taken := He.glo_ok X G (c.fact 5 (f := .glo "Taken") rfl)
  g_NoBlock := He.glo_ok X G (c.fact 6 (f := .glo "NoBlock") rfl)
  g_Fallen := He.glo_ok X G (c.fact 7 (f := .glo "Fallen") rfl)
  g_BadName := He.glo_ok X G (c.fact 8 (f := .glo "BadName") rfl)
  g_NoName := He.glo_ok X G (c.fact 9 (f := .glo "NoName") rfl)
  g_NotDir := He.glo_ok X G (c.fact 10 (f := .glo "NotDir") rfl)
  g_IsDir := He.glo_ok X G (c.fact 11 (f := .glo "IsDir") rfl)
  g_NotEmpty := He.glo_ok X G (c.fact 12 (f := .glo "NotEmpty") rfl)
  g_Inside := He.glo_ok X G (c.fact 13 (f := .glo "Inside") rfl)
  g_NoNode := He.glo_ok X G (c.fact 14 (f := .glo "NoNode") rfl)
  g_NoSpace := He.glo_ok X G (c.fact 15 (f := .glo "NoSpace") rfl)
  g_TooMany := He.glo_ok X G (c.fact 16 (f := .glo "TooMany") rfl)
  g_TooBig := He.glo_ok X G (c.fact 17 (f := .glo "TooBig") rfl)
  g_NotHeld := He.glo_ok X G (c.fact 18 (f := .glo "NotHeld") rfl)
  g_NotAllowed := He.glo_ok X G (c.fact 19 (f := .glo "NotAllowed") rfl)
  g_NoHandle := He.glo_ok X G (c.fact 20 (f := .glo "NoHandle") rfl)
  g_BadMode := He.glo_ok X G (c.fact 21 (f := .glo "BadMode") rfl)
  g_Again := He.glo_ok X G (c.fact 22 (f := .glo "Again") rfl)
  g_Broken := He.glo_ok X G (c.fact 23 (f := .glo "Broken") rfl)
  g_NoChild := He.glo_ok X G (c.fact 24 (f := .glo "NoChild") rfl)
  g_BadCall := He.glo_ok X G (c.fact 25 (f := .glo "BadCall") rfl)
  g_BadRow := He.glo_ok X G (c.fact 26 (f := .glo "BadRow") rfl)
  g_PIPE_ROOM := He.int_ok X G (c.fact 27 (f := .int "PIPE_ROOM" 16) rfl)
  g_Pipe := He.glo_ok X G (c.fact 28 (f := .glo "Pipe") rfl)
  g_LONGEST_opens := He.int_ok X G (c.fact 29 (f := .int "LONGEST_opens" 320) rfl)
  g_Thing := He.glo_ok X G (c.fact 30 (f := .glo "Thing") rfl)
  g_Opens := He.glo_ok X G (c.fact 31 (f := .glo "Opens") rfl)
  g_PlainDir := He.glo_ok X G (c.fact 32 (f := .glo "PlainDir") rfl)
  g_PlainFiles := He.glo_ok X G (c.fact 33 (f := .glo "PlainFiles") rfl)
  g__law_begin := He.glo_ok X G (c.fact 34 (f := .glo "_law_begin") rfl)
  g__law_draw := He.glo_ok X G (c.fact 35 (f := .glo "_law_draw") rfl)
  g__law_word := He.glo_ok X G (c.fact 36 (f := .glo "_law_word") rfl)
  g__law_done := He.glo_ok X G (c.fact 37 (f := .glo "_law_done") rfl)
  g__law_told := He.glo_ok X G (c.fact 38 (f := .glo "_law_told") rfl)
  g__law_world := He.glo_ok X G (c.fact 39 (f := .glo "_law_world") rfl)
  g__law_new := He.glo_ok X G (c.fact 40 (f := .glo "_law_new") rfl)
  g__law_opened := He.glo_ok X G (c.fact 41 (f := .glo "_law_opened") rfl)
  g__law_read := He.glo_ok X G (c.fact 42 (f := .glo "_law_read") rfl)
  g__law_write := He.glo_ok X G (c.fact 43 (f := .glo "_law_write") rfl)
  g__law_counted := He.glo_ok X G (c.fact 44 (f := .glo "_law_counted") rfl)
  g__law_due := He.glo_ok X G (c.fact 45 (f := .glo "_law_due") rfl)
  g__law_same := He.glo_ok X G (c.fact 46 (f := .glo "_law_same") rfl)
  g__law_right := He.glo_ok X G (c.fact 47 (f := .glo "_law_right") rfl)
  g__law_cells := He.glo_ok X G (c.fact 48 (f := .glo "_law_cells") rfl)
  g_law := He.glo_ok X G (c.fact 49 (f := .glo "law") rfl)
  n_ValueError := He.free_ok X G (c.fact 50 (f := .free "ValueError") rfl)
  n_isinstance := He.free_ok X G (c.fact 51 (f := .free "isinstance") rfl)
  n_int := He.free_ok X G (c.fact 52 (f := .free "int") rfl)
  n_list := He.free_ok X G (c.fact 53 (f := .free "list") rfl)
  n_range := He.free_ok X G (c.fact 54 (f := .free "range") rfl)
  n_len := He.free_ok X G (c.fact 55 (f := .free "len") rfl)
  n_sorted := He.free_ok X G (c.fact 56 (f := .free "sorted") rfl)
  n_tuple := He.free_ok X G (c.fact 57 (f := .free "tuple") rfl)
  n_all := He.free_ok X G (c.fact 58 (f := .free "all") rfl)
  n_min := He.free_ok X G (c.fact 59 (f := .free "min") rfl)
  n_abs := He.free_ok X G (c.fact 60 (f := .free "abs") rfl)
  n_bool := He.free_ok X G (c.fact 61 (f := .free "bool") rfl)
  n_zip := He.free_ok X G (c.fact 62 (f := .free "zip") rfl)
  x_TooBig := He.exc_ok (c.fact 63 (f := .exc "TooBig") rfl)
  x_NoHandle := He.exc_ok (c.fact 64 (f := .exc "NoHandle") rfl)
  x_BadMode := He.exc_ok (c.fact 65 (f := .exc "BadMode") rfl)
  x_Again := He.exc_ok (c.fact 66 (f := .exc "Again") rfl)
  x_Broken := He.exc_ok (c.fact 67 (f := .exc "Broken") rfl)
  c_Pipe := He.cls_ok (c.fact 68 (f := .cls "Pipe") rfl)
  m_Pipe := He.mkr_ok (c.fact 69 (f := .mkr "Pipe") rfl)
  m_Pipe_draw := He.meth_ok (c.fact 70 (f := .meth "Pipe" "draw") rfl)
  m_Pipe_pour := He.meth_ok (c.fact 71 (f := .meth "Pipe" "pour") rfl)
  m_Pipe_shut := He.meth_ok (c.fact 72 (f := .meth "Pipe" "shut") rfl)
  a_Pipe_waiting := He.noat_ok (c.fact 73 (f := .noat "Pipe" "waiting") rfl)
  a_Pipe_reader := He.noat_ok (c.fact 74 (f := .noat "Pipe" "reader") rfl)
  a_Pipe_writer := He.noat_ok (c.fact 75 (f := .noat "Pipe" "writer") rfl)
  c_Thing := He.cls_ok (c.fact 76 (f := .cls "Thing") rfl)
  m_Thing := He.mkr_ok (c.fact 77 (f := .mkr "Thing") rfl)
  a_Thing_mode := He.noat_ok (c.fact 78 (f := .noat "Thing" "mode") rfl)
  a_Thing_node := He.noat_ok (c.fact 79 (f := .noat "Thing" "node") rfl)
  a_Thing_pipe := He.noat_ok (c.fact 80 (f := .noat "Thing" "pipe") rfl)
  a_Thing_at := He.noat_ok (c.fact 81 (f := .noat "Thing" "at") rfl)
  a_Thing_owners := He.noat_ok (c.fact 82 (f := .noat "Thing" "owners") rfl)
  c_Opens := He.cls_ok (c.fact 83 (f := .cls "Opens") rfl)
  m_Opens := He.mkr_ok (c.fact 84 (f := .mkr "Opens") rfl)
  m_Opens_new_thing := He.meth_ok (c.fact 85 (f := .meth "Opens" "new_thing") rfl)
  m_Opens_thing := He.meth_ok (c.fact 86 (f := .meth "Opens" "thing") rfl)
  m_Opens_thing_for := He.meth_ok (c.fact 87 (f := .meth "Opens" "thing_for") rfl)
  m_Opens_open_node := He.meth_ok (c.fact 88 (f := .meth "Opens" "open_node") rfl)
  m_Opens_open_pipe := He.meth_ok (c.fact 89 (f := .meth "Opens" "open_pipe") rfl)
  m_Opens_more := He.meth_ok (c.fact 90 (f := .meth "Opens" "more") rfl)
  m_Opens_less := He.meth_ok (c.fact 91 (f := .meth "Opens" "less") rfl)
  m_Opens_read := He.meth_ok (c.fact 92 (f := .meth "Opens" "read") rfl)
  m_Opens_write := He.meth_ok (c.fact 93 (f := .meth "Opens" "write") rfl)
  m_Opens_seek := He.meth_ok (c.fact 94 (f := .meth "Opens" "seek") rfl)
  m_Opens_count := He.meth_ok (c.fact 95 (f := .meth "Opens" "count") rfl)
  m_Opens_numbers := He.meth_ok (c.fact 96 (f := .meth "Opens" "numbers") rfl)
  a_Opens_files := He.noat_ok (c.fact 97 (f := .noat "Opens" "files") rfl)
  a_Opens_things := He.noat_ok (c.fact 98 (f := .noat "Opens" "things") rfl)
  a_Opens_last := He.noat_ok (c.fact 99 (f := .noat "Opens" "last") rfl)
  c_PlainDir := He.cls_ok (c.fact 100 (f := .cls "PlainDir") rfl)
  m_PlainDir := He.mkr_ok (c.fact 101 (f := .mkr "PlainDir") rfl)
  a_PlainDir_slots := He.noat_ok (c.fact 102 (f := .noat "PlainDir" "slots") rfl)
  c_PlainFiles := He.cls_ok (c.fact 103 (f := .cls "PlainFiles") rfl)
  m_PlainFiles := He.mkr_ok (c.fact 104 (f := .mkr "PlainFiles") rfl)
  m_PlainFiles_read_at := He.meth_ok (c.fact 105 (f := .meth "PlainFiles" "read_at") rfl)
  m_PlainFiles_write_at := He.meth_ok (c.fact 106 (f := .meth "PlainFiles" "write_at") rfl)
  m_PlainFiles_loose := He.meth_ok (c.fact 107 (f := .meth "PlainFiles" "loose") rfl)
  a_PlainFiles_blocks := He.noat_ok (c.fact 108 (f := .noat "PlainFiles" "blocks") rfl)
  a_PlainFiles_nodes := He.noat_ok (c.fact 109 (f := .noat "PlainFiles" "nodes") rfl)
  q_MODES := He.tupB_ok (all_at (all_at m 0 rfl) 0 rfl)
  e_Again := excB_ok (all_at (all_at m 0 rfl) 1 rfl)
  o_NoOwner := id (all_at (all_at m 0 rfl) 2 rfl)
  o_NoTask := id (all_at (all_at m 0 rfl) 3 rfl)
  o_NoPage := id (all_at (all_at m 0 rfl) 4 rfl)
  o_NoRoom := id (all_at (all_at m 0 rfl) 5 rfl)
  o_Taken := id (all_at (all_at m 0 rfl) 6 rfl)
  o_NoBlock := id (all_at (all_at m 0 rfl) 7 rfl)
  o_Fallen := id (all_at (all_at m 0 rfl) 8 rfl)
  o_BadName := id (all_at (all_at m 0 rfl) 9 rfl)
  o_NoName := id (all_at (all_at m 0 rfl) 10 rfl)
  o_NotDir := id (all_at (all_at m 0 rfl) 11 rfl)
  o_NoHandle := id (all_at (all_at m 1 rfl) 0 rfl)
  o_BadMode := id (all_at (all_at m 1 rfl) 1 rfl)
  o_TooBig := id (all_at (all_at m 1 rfl) 2 rfl)
  o_NotEmpty := id (all_at (all_at m 1 rfl) 3 rfl)
  o_Inside := id (all_at (all_at m 1 rfl) 4 rfl)
  o_TooMany := id (all_at (all_at m 1 rfl) 5 rfl)
  o_NotHeld := id (all_at (all_at m 1 rfl) 6 rfl)
  o_NotAllowed := id (all_at (all_at m 1 rfl) 7 rfl)
  o_NoChild := id (all_at (all_at m 1 rfl) 8 rfl)
  o_BadCall := id (all_at (all_at m 1 rfl) 9 rfl)
  o_BadRow := id (all_at (all_at m 1 rfl) 10 rfl)
  o_Again := id (all_at (all_at m 1 rfl) 11 rfl)
  o_Broken := id (all_at (all_at m 2 rfl) 0 rfl)
  o_NoNode := id (all_at (all_at m 2 rfl) 1 rfl)
  o_IsDir := id (all_at (all_at m 2 rfl) 2 rfl)
  o_NoSpace := id (all_at (all_at m 2 rfl) 3 rfl)
  w_Again := id (all_at (all_at m 2 rfl) 4 rfl)
  y_Again_KernelError := eq_of_beq (all_at (all_at m 2 rfl) 5 rfl)
  e_TooBig := excB_ok (all_at (all_at m 2 rfl) 6 rfl)
  w_TooBig := id (all_at (all_at m 2 rfl) 7 rfl)
  y_TooBig_KernelError := eq_of_beq (all_at (all_at m 2 rfl) 8 rfl)
  e_Broken := excB_ok (all_at (all_at m 2 rfl) 9 rfl)
  w_Broken := id (all_at (all_at m 2 rfl) 10 rfl)
  y_Broken_KernelError := eq_of_beq (all_at (all_at m 2 rfl) 11 rfl)
  e_NoHandle := excB_ok (all_at (all_at m 3 rfl) 0 rfl)
  w_NoHandle := id (all_at (all_at m 3 rfl) 1 rfl)
  y_NoHandle_KernelError := eq_of_beq (all_at (all_at m 3 rfl) 2 rfl)
  e_BadMode := excB_ok (all_at (all_at m 3 rfl) 3 rfl)
  w_BadMode := id (all_at (all_at m 3 rfl) 4 rfl)
  y_BadMode_KernelError := eq_of_beq (all_at (all_at m 3 rfl) 5 rfl)
  k_Again_NoOwner := kit_ref (all_at (all_at m 2 rfl) 4 rfl) (all_at (all_at m 0 rfl) 2 rfl) 0 rfl rfl
  k_Again_NoTask := kit_ref (all_at (all_at m 2 rfl) 4 rfl) (all_at (all_at m 0 rfl) 3 rfl) 1 rfl rfl
  k_Again_NoPage := kit_ref (all_at (all_at m 2 rfl) 4 rfl) (all_at (all_at m 0 rfl) 4 rfl) 2 rfl rfl
  k_Again_NoRoom := kit_ref (all_at (all_at m 2 rfl) 4 rfl) (all_at (all_at m 0 rfl) 5 rfl) 3 rfl rfl
  k_Again_Taken := kit_ref (all_at (all_at m 2 rfl) 4 rfl) (all_at (all_at m 0 rfl) 6 rfl) 4 rfl rfl
  k_Again_NoBlock := kit_ref (all_at (all_at m 2 rfl) 4 rfl) (all_at (all_at m 0 rfl) 7 rfl) 5 rfl rfl
  k_Again_Fallen := kit_ref (all_at (all_at m 2 rfl) 4 rfl) (all_at (all_at m 0 rfl) 8 rfl) 6 rfl rfl
  k_Again_BadName := kit_ref (all_at (all_at m 2 rfl) 4 rfl) (all_at (all_at m 0 rfl) 9 rfl) 7 rfl rfl
  k_Again_NoName := kit_ref (all_at (all_at m 2 rfl) 4 rfl) (all_at (all_at m 0 rfl) 10 rfl) 8 rfl rfl
  k_Again_NotDir := kit_ref (all_at (all_at m 2 rfl) 4 rfl) (all_at (all_at m 0 rfl) 11 rfl) 9 rfl rfl
  k_Again_NoHandle := kit_ref (all_at (all_at m 2 rfl) 4 rfl) (all_at (all_at m 1 rfl) 0 rfl) 10 rfl rfl
  k_Again_BadMode := kit_ref (all_at (all_at m 2 rfl) 4 rfl) (all_at (all_at m 1 rfl) 1 rfl) 11 rfl rfl
  k_Again_TooBig := kit_ref (all_at (all_at m 2 rfl) 4 rfl) (all_at (all_at m 1 rfl) 2 rfl) 12 rfl rfl
  k_Again_NotEmpty := kit_ref (all_at (all_at m 2 rfl) 4 rfl) (all_at (all_at m 1 rfl) 3 rfl) 13 rfl rfl
  k_Again_Inside := kit_ref (all_at (all_at m 2 rfl) 4 rfl) (all_at (all_at m 1 rfl) 4 rfl) 14 rfl rfl
  k_Again_TooMany := kit_ref (all_at (all_at m 2 rfl) 4 rfl) (all_at (all_at m 1 rfl) 5 rfl) 15 rfl rfl
  k_Again_NotHeld := kit_ref (all_at (all_at m 2 rfl) 4 rfl) (all_at (all_at m 1 rfl) 6 rfl) 16 rfl rfl
  k_Again_NotAllowed := kit_ref (all_at (all_at m 2 rfl) 4 rfl) (all_at (all_at m 1 rfl) 7 rfl) 17 rfl rfl
  k_Again_NoChild := kit_ref (all_at (all_at m 2 rfl) 4 rfl) (all_at (all_at m 1 rfl) 8 rfl) 18 rfl rfl
  k_Again_BadCall := kit_ref (all_at (all_at m 2 rfl) 4 rfl) (all_at (all_at m 1 rfl) 9 rfl) 19 rfl rfl
  k_Again_BadRow := kit_ref (all_at (all_at m 2 rfl) 4 rfl) (all_at (all_at m 1 rfl) 10 rfl) 20 rfl rfl
  k_Again_Again := kit_ref (all_at (all_at m 2 rfl) 4 rfl) (all_at (all_at m 1 rfl) 11 rfl) 21 rfl rfl
  k_Again_Broken := kit_ref (all_at (all_at m 2 rfl) 4 rfl) (all_at (all_at m 2 rfl) 0 rfl) 22 rfl rfl
  k_Again_NoNode := kit_ref (all_at (all_at m 2 rfl) 4 rfl) (all_at (all_at m 2 rfl) 1 rfl) 23 rfl rfl
  k_Again_IsDir := kit_ref (all_at (all_at m 2 rfl) 4 rfl) (all_at (all_at m 2 rfl) 2 rfl) 24 rfl rfl
  k_Again_NoSpace := kit_ref (all_at (all_at m 2 rfl) 4 rfl) (all_at (all_at m 2 rfl) 3 rfl) 25 rfl rfl
  k_Again_ValueError := kit_typ (all_at (all_at m 2 rfl) 4 rfl) (by decide +kernel) 26 rfl rfl
  k_TooBig_NoOwner := kit_ref (all_at (all_at m 2 rfl) 7 rfl) (all_at (all_at m 0 rfl) 2 rfl) 0 rfl rfl
  k_TooBig_NoTask := kit_ref (all_at (all_at m 2 rfl) 7 rfl) (all_at (all_at m 0 rfl) 3 rfl) 1 rfl rfl
  k_TooBig_NoPage := kit_ref (all_at (all_at m 2 rfl) 7 rfl) (all_at (all_at m 0 rfl) 4 rfl) 2 rfl rfl
  k_TooBig_NoRoom := kit_ref (all_at (all_at m 2 rfl) 7 rfl) (all_at (all_at m 0 rfl) 5 rfl) 3 rfl rfl
  k_TooBig_Taken := kit_ref (all_at (all_at m 2 rfl) 7 rfl) (all_at (all_at m 0 rfl) 6 rfl) 4 rfl rfl
  k_TooBig_NoBlock := kit_ref (all_at (all_at m 2 rfl) 7 rfl) (all_at (all_at m 0 rfl) 7 rfl) 5 rfl rfl
  k_TooBig_Fallen := kit_ref (all_at (all_at m 2 rfl) 7 rfl) (all_at (all_at m 0 rfl) 8 rfl) 6 rfl rfl
  k_TooBig_BadName := kit_ref (all_at (all_at m 2 rfl) 7 rfl) (all_at (all_at m 0 rfl) 9 rfl) 7 rfl rfl
  k_TooBig_NoName := kit_ref (all_at (all_at m 2 rfl) 7 rfl) (all_at (all_at m 0 rfl) 10 rfl) 8 rfl rfl
  k_TooBig_NotDir := kit_ref (all_at (all_at m 2 rfl) 7 rfl) (all_at (all_at m 0 rfl) 11 rfl) 9 rfl rfl
  k_TooBig_NoHandle := kit_ref (all_at (all_at m 2 rfl) 7 rfl) (all_at (all_at m 1 rfl) 0 rfl) 10 rfl rfl
  k_TooBig_BadMode := kit_ref (all_at (all_at m 2 rfl) 7 rfl) (all_at (all_at m 1 rfl) 1 rfl) 11 rfl rfl
  k_TooBig_TooBig := kit_ref (all_at (all_at m 2 rfl) 7 rfl) (all_at (all_at m 1 rfl) 2 rfl) 12 rfl rfl
  k_TooBig_NotEmpty := kit_ref (all_at (all_at m 2 rfl) 7 rfl) (all_at (all_at m 1 rfl) 3 rfl) 13 rfl rfl
  k_TooBig_Inside := kit_ref (all_at (all_at m 2 rfl) 7 rfl) (all_at (all_at m 1 rfl) 4 rfl) 14 rfl rfl
  k_TooBig_TooMany := kit_ref (all_at (all_at m 2 rfl) 7 rfl) (all_at (all_at m 1 rfl) 5 rfl) 15 rfl rfl
  k_TooBig_NotHeld := kit_ref (all_at (all_at m 2 rfl) 7 rfl) (all_at (all_at m 1 rfl) 6 rfl) 16 rfl rfl
  k_TooBig_NotAllowed := kit_ref (all_at (all_at m 2 rfl) 7 rfl) (all_at (all_at m 1 rfl) 7 rfl) 17 rfl rfl
  k_TooBig_NoChild := kit_ref (all_at (all_at m 2 rfl) 7 rfl) (all_at (all_at m 1 rfl) 8 rfl) 18 rfl rfl
  k_TooBig_BadCall := kit_ref (all_at (all_at m 2 rfl) 7 rfl) (all_at (all_at m 1 rfl) 9 rfl) 19 rfl rfl
  k_TooBig_BadRow := kit_ref (all_at (all_at m 2 rfl) 7 rfl) (all_at (all_at m 1 rfl) 10 rfl) 20 rfl rfl
  k_TooBig_Again := kit_ref (all_at (all_at m 2 rfl) 7 rfl) (all_at (all_at m 1 rfl) 11 rfl) 21 rfl rfl
  k_TooBig_Broken := kit_ref (all_at (all_at m 2 rfl) 7 rfl) (all_at (all_at m 2 rfl) 0 rfl) 22 rfl rfl
  k_TooBig_NoNode := kit_ref (all_at (all_at m 2 rfl) 7 rfl) (all_at (all_at m 2 rfl) 1 rfl) 23 rfl rfl
  k_TooBig_IsDir := kit_ref (all_at (all_at m 2 rfl) 7 rfl) (all_at (all_at m 2 rfl) 2 rfl) 24 rfl rfl
  k_TooBig_NoSpace := kit_ref (all_at (all_at m 2 rfl) 7 rfl) (all_at (all_at m 2 rfl) 3 rfl) 25 rfl rfl
  k_TooBig_ValueError := kit_typ (all_at (all_at m 2 rfl) 7 rfl) (by decide +kernel) 26 rfl rfl
  k_Broken_NoOwner := kit_ref (all_at (all_at m 2 rfl) 10 rfl) (all_at (all_at m 0 rfl) 2 rfl) 0 rfl rfl
  k_Broken_NoTask := kit_ref (all_at (all_at m 2 rfl) 10 rfl) (all_at (all_at m 0 rfl) 3 rfl) 1 rfl rfl
  k_Broken_NoPage := kit_ref (all_at (all_at m 2 rfl) 10 rfl) (all_at (all_at m 0 rfl) 4 rfl) 2 rfl rfl
  k_Broken_NoRoom := kit_ref (all_at (all_at m 2 rfl) 10 rfl) (all_at (all_at m 0 rfl) 5 rfl) 3 rfl rfl
  k_Broken_Taken := kit_ref (all_at (all_at m 2 rfl) 10 rfl) (all_at (all_at m 0 rfl) 6 rfl) 4 rfl rfl
  k_Broken_NoBlock := kit_ref (all_at (all_at m 2 rfl) 10 rfl) (all_at (all_at m 0 rfl) 7 rfl) 5 rfl rfl
  k_Broken_Fallen := kit_ref (all_at (all_at m 2 rfl) 10 rfl) (all_at (all_at m 0 rfl) 8 rfl) 6 rfl rfl
  k_Broken_BadName := kit_ref (all_at (all_at m 2 rfl) 10 rfl) (all_at (all_at m 0 rfl) 9 rfl) 7 rfl rfl
  k_Broken_NoName := kit_ref (all_at (all_at m 2 rfl) 10 rfl) (all_at (all_at m 0 rfl) 10 rfl) 8 rfl rfl
  k_Broken_NotDir := kit_ref (all_at (all_at m 2 rfl) 10 rfl) (all_at (all_at m 0 rfl) 11 rfl) 9 rfl rfl
  k_Broken_NoHandle := kit_ref (all_at (all_at m 2 rfl) 10 rfl) (all_at (all_at m 1 rfl) 0 rfl) 10 rfl rfl
  k_Broken_BadMode := kit_ref (all_at (all_at m 2 rfl) 10 rfl) (all_at (all_at m 1 rfl) 1 rfl) 11 rfl rfl
  k_Broken_TooBig := kit_ref (all_at (all_at m 2 rfl) 10 rfl) (all_at (all_at m 1 rfl) 2 rfl) 12 rfl rfl
  k_Broken_NotEmpty := kit_ref (all_at (all_at m 2 rfl) 10 rfl) (all_at (all_at m 1 rfl) 3 rfl) 13 rfl rfl
  k_Broken_Inside := kit_ref (all_at (all_at m 2 rfl) 10 rfl) (all_at (all_at m 1 rfl) 4 rfl) 14 rfl rfl
  k_Broken_TooMany := kit_ref (all_at (all_at m 2 rfl) 10 rfl) (all_at (all_at m 1 rfl) 5 rfl) 15 rfl rfl
  k_Broken_NotHeld := kit_ref (all_at (all_at m 2 rfl) 10 rfl) (all_at (all_at m 1 rfl) 6 rfl) 16 rfl rfl
  k_Broken_NotAllowed := kit_ref (all_at (all_at m 2 rfl) 10 rfl) (all_at (all_at m 1 rfl) 7 rfl) 17 rfl rfl
  k_Broken_NoChild := kit_ref (all_at (all_at m 2 rfl) 10 rfl) (all_at (all_at m 1 rfl) 8 rfl) 18 rfl rfl
  k_Broken_BadCall := kit_ref (all_at (all_at m 2 rfl) 10 rfl) (all_at (all_at m 1 rfl) 9 rfl) 19 rfl rfl
  k_Broken_BadRow := kit_ref (all_at (all_at m 2 rfl) 10 rfl) (all_at (all_at m 1 rfl) 10 rfl) 20 rfl rfl
  k_Broken_Again := kit_ref (all_at (all_at m 2 rfl) 10 rfl) (all_at (all_at m 1 rfl) 11 rfl) 21 rfl rfl
  k_Broken_Broken := kit_ref (all_at (all_at m 2 rfl) 10 rfl) (all_at (all_at m 2 rfl) 0 rfl) 22 rfl rfl
  k_Broken_NoNode := kit_ref (all_at (all_at m 2 rfl) 10 rfl) (all_at (all_at m 2 rfl) 1 rfl) 23 rfl rfl
  k_Broken_IsDir := kit_ref (all_at (all_at m 2 rfl) 10 rfl) (all_at (all_at m 2 rfl) 2 rfl) 24 rfl rfl
  k_Broken_NoSpace := kit_ref (all_at (all_at m 2 rfl) 10 rfl) (all_at (all_at m 2 rfl) 3 rfl) 25 rfl rfl
  k_Broken_ValueError := kit_typ (all_at (all_at m 2 rfl) 10 rfl) (by decide +kernel) 26 rfl rfl
  k_NoHandle_NoOwner := kit_ref (all_at (all_at m 3 rfl) 1 rfl) (all_at (all_at m 0 rfl) 2 rfl) 0 rfl rfl
  k_NoHandle_NoTask := kit_ref (all_at (all_at m 3 rfl) 1 rfl) (all_at (all_at m 0 rfl) 3 rfl) 1 rfl rfl
  k_NoHandle_NoPage := kit_ref (all_at (all_at m 3 rfl) 1 rfl) (all_at (all_at m 0 rfl) 4 rfl) 2 rfl rfl
  k_NoHandle_NoRoom := kit_ref (all_at (all_at m 3 rfl) 1 rfl) (all_at (all_at m 0 rfl) 5 rfl) 3 rfl rfl
  k_NoHandle_Taken := kit_ref (all_at (all_at m 3 rfl) 1 rfl) (all_at (all_at m 0 rfl) 6 rfl) 4 rfl rfl
  k_NoHandle_NoBlock := kit_ref (all_at (all_at m 3 rfl) 1 rfl) (all_at (all_at m 0 rfl) 7 rfl) 5 rfl rfl
  k_NoHandle_Fallen := kit_ref (all_at (all_at m 3 rfl) 1 rfl) (all_at (all_at m 0 rfl) 8 rfl) 6 rfl rfl
  k_NoHandle_BadName := kit_ref (all_at (all_at m 3 rfl) 1 rfl) (all_at (all_at m 0 rfl) 9 rfl) 7 rfl rfl
  k_NoHandle_NoName := kit_ref (all_at (all_at m 3 rfl) 1 rfl) (all_at (all_at m 0 rfl) 10 rfl) 8 rfl rfl
  k_NoHandle_NotDir := kit_ref (all_at (all_at m 3 rfl) 1 rfl) (all_at (all_at m 0 rfl) 11 rfl) 9 rfl rfl
  k_NoHandle_NoHandle := kit_ref (all_at (all_at m 3 rfl) 1 rfl) (all_at (all_at m 1 rfl) 0 rfl) 10 rfl rfl
  k_NoHandle_BadMode := kit_ref (all_at (all_at m 3 rfl) 1 rfl) (all_at (all_at m 1 rfl) 1 rfl) 11 rfl rfl
  k_NoHandle_TooBig := kit_ref (all_at (all_at m 3 rfl) 1 rfl) (all_at (all_at m 1 rfl) 2 rfl) 12 rfl rfl
  k_NoHandle_NotEmpty := kit_ref (all_at (all_at m 3 rfl) 1 rfl) (all_at (all_at m 1 rfl) 3 rfl) 13 rfl rfl
  k_NoHandle_Inside := kit_ref (all_at (all_at m 3 rfl) 1 rfl) (all_at (all_at m 1 rfl) 4 rfl) 14 rfl rfl
  k_NoHandle_TooMany := kit_ref (all_at (all_at m 3 rfl) 1 rfl) (all_at (all_at m 1 rfl) 5 rfl) 15 rfl rfl
  k_NoHandle_NotHeld := kit_ref (all_at (all_at m 3 rfl) 1 rfl) (all_at (all_at m 1 rfl) 6 rfl) 16 rfl rfl
  k_NoHandle_NotAllowed := kit_ref (all_at (all_at m 3 rfl) 1 rfl) (all_at (all_at m 1 rfl) 7 rfl) 17 rfl rfl
  k_NoHandle_NoChild := kit_ref (all_at (all_at m 3 rfl) 1 rfl) (all_at (all_at m 1 rfl) 8 rfl) 18 rfl rfl
  k_NoHandle_BadCall := kit_ref (all_at (all_at m 3 rfl) 1 rfl) (all_at (all_at m 1 rfl) 9 rfl) 19 rfl rfl
  k_NoHandle_BadRow := kit_ref (all_at (all_at m 3 rfl) 1 rfl) (all_at (all_at m 1 rfl) 10 rfl) 20 rfl rfl
  k_NoHandle_Again := kit_ref (all_at (all_at m 3 rfl) 1 rfl) (all_at (all_at m 1 rfl) 11 rfl) 21 rfl rfl
  k_NoHandle_Broken := kit_ref (all_at (all_at m 3 rfl) 1 rfl) (all_at (all_at m 2 rfl) 0 rfl) 22 rfl rfl
  k_NoHandle_NoNode := kit_ref (all_at (all_at m 3 rfl) 1 rfl) (all_at (all_at m 2 rfl) 1 rfl) 23 rfl rfl
  k_NoHandle_IsDir := kit_ref (all_at (all_at m 3 rfl) 1 rfl) (all_at (all_at m 2 rfl) 2 rfl) 24 rfl rfl
  k_NoHandle_NoSpace := kit_ref (all_at (all_at m 3 rfl) 1 rfl) (all_at (all_at m 2 rfl) 3 rfl) 25 rfl rfl
  k_NoHandle_ValueError := kit_typ (all_at (all_at m 3 rfl) 1 rfl) (by decide +kernel) 26 rfl rfl
  k_BadMode_NoOwner := kit_ref (all_at (all_at m 3 rfl) 4 rfl) (all_at (all_at m 0 rfl) 2 rfl) 0 rfl rfl
  k_BadMode_NoTask := kit_ref (all_at (all_at m 3 rfl) 4 rfl) (all_at (all_at m 0 rfl) 3 rfl) 1 rfl rfl
  k_BadMode_NoPage := kit_ref (all_at (all_at m 3 rfl) 4 rfl) (all_at (all_at m 0 rfl) 4 rfl) 2 rfl rfl
  k_BadMode_NoRoom := kit_ref (all_at (all_at m 3 rfl) 4 rfl) (all_at (all_at m 0 rfl) 5 rfl) 3 rfl rfl
  k_BadMode_Taken := kit_ref (all_at (all_at m 3 rfl) 4 rfl) (all_at (all_at m 0 rfl) 6 rfl) 4 rfl rfl
  k_BadMode_NoBlock := kit_ref (all_at (all_at m 3 rfl) 4 rfl) (all_at (all_at m 0 rfl) 7 rfl) 5 rfl rfl
  k_BadMode_Fallen := kit_ref (all_at (all_at m 3 rfl) 4 rfl) (all_at (all_at m 0 rfl) 8 rfl) 6 rfl rfl
  k_BadMode_BadName := kit_ref (all_at (all_at m 3 rfl) 4 rfl) (all_at (all_at m 0 rfl) 9 rfl) 7 rfl rfl
  k_BadMode_NoName := kit_ref (all_at (all_at m 3 rfl) 4 rfl) (all_at (all_at m 0 rfl) 10 rfl) 8 rfl rfl
  k_BadMode_NotDir := kit_ref (all_at (all_at m 3 rfl) 4 rfl) (all_at (all_at m 0 rfl) 11 rfl) 9 rfl rfl
  k_BadMode_NoHandle := kit_ref (all_at (all_at m 3 rfl) 4 rfl) (all_at (all_at m 1 rfl) 0 rfl) 10 rfl rfl
  k_BadMode_BadMode := kit_ref (all_at (all_at m 3 rfl) 4 rfl) (all_at (all_at m 1 rfl) 1 rfl) 11 rfl rfl
  k_BadMode_TooBig := kit_ref (all_at (all_at m 3 rfl) 4 rfl) (all_at (all_at m 1 rfl) 2 rfl) 12 rfl rfl
  k_BadMode_NotEmpty := kit_ref (all_at (all_at m 3 rfl) 4 rfl) (all_at (all_at m 1 rfl) 3 rfl) 13 rfl rfl
  k_BadMode_Inside := kit_ref (all_at (all_at m 3 rfl) 4 rfl) (all_at (all_at m 1 rfl) 4 rfl) 14 rfl rfl
  k_BadMode_TooMany := kit_ref (all_at (all_at m 3 rfl) 4 rfl) (all_at (all_at m 1 rfl) 5 rfl) 15 rfl rfl
  k_BadMode_NotHeld := kit_ref (all_at (all_at m 3 rfl) 4 rfl) (all_at (all_at m 1 rfl) 6 rfl) 16 rfl rfl
  k_BadMode_NotAllowed := kit_ref (all_at (all_at m 3 rfl) 4 rfl) (all_at (all_at m 1 rfl) 7 rfl) 17 rfl rfl
  k_BadMode_NoChild := kit_ref (all_at (all_at m 3 rfl) 4 rfl) (all_at (all_at m 1 rfl) 8 rfl) 18 rfl rfl
  k_BadMode_BadCall := kit_ref (all_at (all_at m 3 rfl) 4 rfl) (all_at (all_at m 1 rfl) 9 rfl) 19 rfl rfl
  k_BadMode_BadRow := kit_ref (all_at (all_at m 3 rfl) 4 rfl) (all_at (all_at m 1 rfl) 10 rfl) 20 rfl rfl
  k_BadMode_Again := kit_ref (all_at (all_at m 3 rfl) 4 rfl) (all_at (all_at m 1 rfl) 11 rfl) 21 rfl rfl
  k_BadMode_Broken := kit_ref (all_at (all_at m 3 rfl) 4 rfl) (all_at (all_at m 2 rfl) 0 rfl) 22 rfl rfl
  k_BadMode_NoNode := kit_ref (all_at (all_at m 3 rfl) 4 rfl) (all_at (all_at m 2 rfl) 1 rfl) 23 rfl rfl
  k_BadMode_IsDir := kit_ref (all_at (all_at m 3 rfl) 4 rfl) (all_at (all_at m 2 rfl) 2 rfl) 24 rfl rfl
  k_BadMode_NoSpace := kit_ref (all_at (all_at m 3 rfl) 4 rfl) (all_at (all_at m 2 rfl) 3 rfl) 25 rfl rfl
  k_BadMode_ValueError := kit_typ (all_at (all_at m 3 rfl) 4 rfl) (by decide +kernel) 26 rfl rfl
  d_BadRow___init__ := c.def_ 0 (d := ⟨("BadRow", some "__init__"), "__init__", "BadRow.__init__", defArgs (inClass (top 28) 0), defBody (inClass (top 28) 0), defScope (inClass (top 28) 0), [], []⟩) rfl
  d_Pipe___init__ := c.def_ 1 (d := ⟨("Pipe", some "__init__"), "__init__", "Pipe.__init__", defArgs (inClass (top 31) 0), defBody (inClass (top 31) 0), defScope (inClass (top 31) 0), [], []⟩) rfl
  d_Pipe_draw := c.def_ 2 (d := ⟨("Pipe", some "draw"), "draw", "Pipe.draw", defArgs (inClass (top 31) 1), defBody (inClass (top 31) 1), defScope (inClass (top 31) 1), [], []⟩) rfl
  d_Pipe_pour := c.def_ 3 (d := ⟨("Pipe", some "pour"), "pour", "Pipe.pour", defArgs (inClass (top 31) 2), defBody (inClass (top 31) 2), defScope (inClass (top 31) 2), [], []⟩) rfl
  d_Pipe_shut := c.def_ 4 (d := ⟨("Pipe", some "shut"), "shut", "Pipe.shut", defArgs (inClass (top 31) 3), defBody (inClass (top 31) 3), defScope (inClass (top 31) 3), [], []⟩) rfl
  d_Thing___init__ := c.def_ 5 (d := ⟨("Thing", some "__init__"), "__init__", "Thing.__init__", defArgs (inClass (top 35) 0), defBody (inClass (top 35) 0), defScope (inClass (top 35) 0), [], []⟩) rfl
  d_Opens___init__ := c.def_ 6 (d := ⟨("Opens", some "__init__"), "__init__", "Opens.__init__", defArgs (inClass (top 36) 0), defBody (inClass (top 36) 0), defScope (inClass (top 36) 0), [], []⟩) rfl
  d_Opens_new_thing := c.def_ 7 (d := ⟨("Opens", some "new_thing"), "new_thing", "Opens.new_thing", defArgs (inClass (top 36) 1), defBody (inClass (top 36) 1), defScope (inClass (top 36) 1), [], []⟩) rfl
  d_Opens_thing := c.def_ 8 (d := ⟨("Opens", some "thing"), "thing", "Opens.thing", defArgs (inClass (top 36) 2), defBody (inClass (top 36) 2), defScope (inClass (top 36) 2), [], []⟩) rfl
  d_Opens_thing_for := c.def_ 9 (d := ⟨("Opens", some "thing_for"), "thing_for", "Opens.thing_for", defArgs (inClass (top 36) 3), defBody (inClass (top 36) 3), defScope (inClass (top 36) 3), [], []⟩) rfl
  d_Opens_open_node := c.def_ 10 (d := ⟨("Opens", some "open_node"), "open_node", "Opens.open_node", defArgs (inClass (top 36) 4), defBody (inClass (top 36) 4), defScope (inClass (top 36) 4), [], []⟩) rfl
  d_Opens_open_pipe := c.def_ 11 (d := ⟨("Opens", some "open_pipe"), "open_pipe", "Opens.open_pipe", defArgs (inClass (top 36) 5), defBody (inClass (top 36) 5), defScope (inClass (top 36) 5), [], []⟩) rfl
  d_Opens_more := c.def_ 12 (d := ⟨("Opens", some "more"), "more", "Opens.more", defArgs (inClass (top 36) 6), defBody (inClass (top 36) 6), defScope (inClass (top 36) 6), [], []⟩) rfl
  d_Opens_less := c.def_ 13 (d := ⟨("Opens", some "less"), "less", "Opens.less", defArgs (inClass (top 36) 7), defBody (inClass (top 36) 7), defScope (inClass (top 36) 7), [], []⟩) rfl
  d_Opens_read := c.def_ 14 (d := ⟨("Opens", some "read"), "read", "Opens.read", defArgs (inClass (top 36) 8), defBody (inClass (top 36) 8), defScope (inClass (top 36) 8), [], []⟩) rfl
  d_Opens_write := c.def_ 15 (d := ⟨("Opens", some "write"), "write", "Opens.write", defArgs (inClass (top 36) 9), defBody (inClass (top 36) 9), defScope (inClass (top 36) 9), [], []⟩) rfl
  d_Opens_seek := c.def_ 16 (d := ⟨("Opens", some "seek"), "seek", "Opens.seek", defArgs (inClass (top 36) 10), defBody (inClass (top 36) 10), defScope (inClass (top 36) 10), [], []⟩) rfl
  d_Opens_count := c.def_ 17 (d := ⟨("Opens", some "count"), "count", "Opens.count", defArgs (inClass (top 36) 11), defBody (inClass (top 36) 11), defScope (inClass (top 36) 11), [], []⟩) rfl
  d_Opens_numbers := c.def_ 18 (d := ⟨("Opens", some "numbers"), "numbers", "Opens.numbers", defArgs (inClass (top 36) 12), defBody (inClass (top 36) 12), defScope (inClass (top 36) 12), [], []⟩) rfl
  d_PlainDir___init__ := c.def_ 19 (d := ⟨("PlainDir", some "__init__"), "__init__", "PlainDir.__init__", defArgs (inClass (top 47) 0), defBody (inClass (top 47) 0), defScope (inClass (top 47) 0), [], []⟩) rfl
  d_PlainFiles___init__ := c.def_ 20 (d := ⟨("PlainFiles", some "__init__"), "__init__", "PlainFiles.__init__", defArgs (inClass (top 58) 0), defBody (inClass (top 58) 0), defScope (inClass (top 58) 0), [], []⟩) rfl
  d_PlainFiles_read_at := c.def_ 21 (d := ⟨("PlainFiles", some "read_at"), "read_at", "PlainFiles.read_at", defArgs (inClass (top 58) 10), defBody (inClass (top 58) 10), defScope (inClass (top 58) 10), [], []⟩) rfl
  d_PlainFiles_write_at := c.def_ 22 (d := ⟨("PlainFiles", some "write_at"), "write_at", "PlainFiles.write_at", defArgs (inClass (top 58) 11), defBody (inClass (top 58) 11), defScope (inClass (top 58) 11), [], []⟩) rfl
  d_PlainFiles_loose := c.def_ 23 (d := ⟨("PlainFiles", some "loose"), "loose", "PlainFiles.loose", defArgs (inClass (top 58) 14), defBody (inClass (top 58) 14), defScope (inClass (top 58) 14), [], []⟩) rfl
  d__law_begin := c.def_ 24 (d := ⟨("_law_begin", none), "_law_begin", "_law_begin", defArgs (top 60), defBody (top 60), defScope (top 60), [], []⟩) rfl
  d__law_draw := c.def_ 25 (d := ⟨("_law_draw", none), "_law_draw", "_law_draw", defArgs (top 61), defBody (top 61), defScope (top 61), [], []⟩) rfl
  d__law_word := c.def_ 26 (d := ⟨("_law_word", none), "_law_word", "_law_word", defArgs (top 62), defBody (top 62), defScope (top 62), [], []⟩) rfl
  d__law_done := c.def_ 27 (d := ⟨("_law_done", none), "_law_done", "_law_done", defArgs (top 63), defBody (top 63), defScope (top 63), [], []⟩) rfl
  d__law_told := c.def_ 28 (d := ⟨("_law_told", none), "_law_told", "_law_told", defArgs (top 64), defBody (top 64), defScope (top 64), [], []⟩) rfl
  d__law_world := c.def_ 29 (d := ⟨("_law_world", none), "_law_world", "_law_world", defArgs (top 65), defBody (top 65), defScope (top 65), [], []⟩) rfl
  d__law_new := c.def_ 30 (d := ⟨("_law_new", none), "_law_new", "_law_new", defArgs (top 66), defBody (top 66), defScope (top 66), [], []⟩) rfl
  d__law_opened := c.def_ 31 (d := ⟨("_law_opened", none), "_law_opened", "_law_opened", defArgs (top 67), defBody (top 67), defScope (top 67), [], []⟩) rfl
  d__law_read := c.def_ 32 (d := ⟨("_law_read", none), "_law_read", "_law_read", defArgs (top 68), defBody (top 68), defScope (top 68), [], []⟩) rfl
  d__law_write := c.def_ 33 (d := ⟨("_law_write", none), "_law_write", "_law_write", defArgs (top 69), defBody (top 69), defScope (top 69), [], []⟩) rfl
  d__law_counted := c.def_ 34 (d := ⟨("_law_counted", none), "_law_counted", "_law_counted", defArgs (top 70), defBody (top 70), defScope (top 70), [], []⟩) rfl
  d__law_due := c.def_ 35 (d := ⟨("_law_due", none), "_law_due", "_law_due", defArgs (top 71), defBody (top 71), defScope (top 71), [], []⟩) rfl
  d__law_same := c.def_ 36 (d := ⟨("_law_same", none), "_law_same", "_law_same", defArgs (top 72), defBody (top 72), defScope (top 72), [], []⟩) rfl
  d__law_right := c.def_ 37 (d := ⟨("_law_right", none), "_law_right", "_law_right", defArgs (top 73), defBody (top 73), defScope (top 73), [], []⟩) rfl
  d__law_cells := c.def_ 38 (d := ⟨("_law_cells", none), "_law_cells", "_law_cells", defArgs (top 74), defBody (top 74), defScope (top 74), [], []⟩) rfl
  d_law := c.def_ 39 (d := ⟨("law", none), "law", "law", defArgs (top 75), defBody (top 75), defScope (top 75), [], []⟩) rfl
local macro_rules | `(tactic| walk_at "xf") => `(tactic| first | with_reducible exact Txt.e_Again (by assumption) | with_reducible exact Txt.y_Again_KernelError (by assumption) | with_reducible exact Txt.e_TooBig (by assumption) | with_reducible exact Txt.y_TooBig_KernelError (by assumption) | with_reducible exact Txt.e_Broken (by assumption) | with_reducible exact Txt.y_Broken_KernelError (by assumption) | with_reducible exact Txt.e_NoHandle (by assumption) | with_reducible exact Txt.y_NoHandle_KernelError (by assumption) | with_reducible exact Txt.e_BadMode (by assumption) | with_reducible exact Txt.y_BadMode_KernelError (by assumption) | with_reducible exact Txt.k_Again_NoOwner (by assumption) | with_reducible exact Txt.k_Again_NoTask (by assumption) | with_reducible exact Txt.k_Again_NoPage (by assumption) | with_reducible exact Txt.k_Again_NoRoom (by assumption) | with_reducible exact Txt.k_Again_Taken (by assumption) | with_reducible exact Txt.k_Again_NoBlock (by assumption) | with_reducible exact Txt.k_Again_Fallen (by assumption) | with_reducible exact Txt.k_Again_BadName (by assumption) | with_reducible exact Txt.k_Again_NoName (by assumption) | with_reducible exact Txt.k_Again_NotDir (by assumption) | with_reducible exact Txt.k_Again_NoHandle (by assumption) | with_reducible exact Txt.k_Again_BadMode (by assumption) | with_reducible exact Txt.k_Again_TooBig (by assumption) | with_reducible exact Txt.k_Again_NotEmpty (by assumption) | with_reducible exact Txt.k_Again_Inside (by assumption) | with_reducible exact Txt.k_Again_TooMany (by assumption) | with_reducible exact Txt.k_Again_NotHeld (by assumption) | with_reducible exact Txt.k_Again_NotAllowed (by assumption) | with_reducible exact Txt.k_Again_NoChild (by assumption) | with_reducible exact Txt.k_Again_BadCall (by assumption) | with_reducible exact Txt.k_Again_BadRow (by assumption) | with_reducible exact Txt.k_Again_Again (by assumption) | with_reducible exact Txt.k_Again_Broken (by assumption) | with_reducible exact Txt.k_Again_NoNode (by assumption) | with_reducible exact Txt.k_Again_IsDir (by assumption) | with_reducible exact Txt.k_Again_NoSpace (by assumption) | with_reducible exact Txt.k_Again_ValueError (by assumption) | with_reducible exact Txt.k_TooBig_NoOwner (by assumption) | with_reducible exact Txt.k_TooBig_NoTask (by assumption) | with_reducible exact Txt.k_TooBig_NoPage (by assumption) | with_reducible exact Txt.k_TooBig_NoRoom (by assumption) | with_reducible exact Txt.k_TooBig_Taken (by assumption) | with_reducible exact Txt.k_TooBig_NoBlock (by assumption) | with_reducible exact Txt.k_TooBig_Fallen (by assumption) | with_reducible exact Txt.k_TooBig_BadName (by assumption) | with_reducible exact Txt.k_TooBig_NoName (by assumption) | with_reducible exact Txt.k_TooBig_NotDir (by assumption) | with_reducible exact Txt.k_TooBig_NoHandle (by assumption) | with_reducible exact Txt.k_TooBig_BadMode (by assumption) | with_reducible exact Txt.k_TooBig_TooBig (by assumption) | with_reducible exact Txt.k_TooBig_NotEmpty (by assumption) | with_reducible exact Txt.k_TooBig_Inside (by assumption) | with_reducible exact Txt.k_TooBig_TooMany (by assumption) | with_reducible exact Txt.k_TooBig_NotHeld (by assumption) | with_reducible exact Txt.k_TooBig_NotAllowed (by assumption) | with_reducible exact Txt.k_TooBig_NoChild (by assumption) | with_reducible exact Txt.k_TooBig_BadCall (by assumption) | with_reducible exact Txt.k_TooBig_BadRow (by assumption) | with_reducible exact Txt.k_TooBig_Again (by assumption) | with_reducible exact Txt.k_TooBig_Broken (by assumption) | with_reducible exact Txt.k_TooBig_NoNode (by assumption) | with_reducible exact Txt.k_TooBig_IsDir (by assumption) | with_reducible exact Txt.k_TooBig_NoSpace (by assumption) | with_reducible exact Txt.k_TooBig_ValueError (by assumption) | with_reducible exact Txt.k_Broken_NoOwner (by assumption) | with_reducible exact Txt.k_Broken_NoTask (by assumption) | with_reducible exact Txt.k_Broken_NoPage (by assumption) | with_reducible exact Txt.k_Broken_NoRoom (by assumption) | with_reducible exact Txt.k_Broken_Taken (by assumption) | with_reducible exact Txt.k_Broken_NoBlock (by assumption) | with_reducible exact Txt.k_Broken_Fallen (by assumption) | with_reducible exact Txt.k_Broken_BadName (by assumption) | with_reducible exact Txt.k_Broken_NoName (by assumption) | with_reducible exact Txt.k_Broken_NotDir (by assumption) | with_reducible exact Txt.k_Broken_NoHandle (by assumption) | with_reducible exact Txt.k_Broken_BadMode (by assumption) | with_reducible exact Txt.k_Broken_TooBig (by assumption) | with_reducible exact Txt.k_Broken_NotEmpty (by assumption) | with_reducible exact Txt.k_Broken_Inside (by assumption) | with_reducible exact Txt.k_Broken_TooMany (by assumption) | with_reducible exact Txt.k_Broken_NotHeld (by assumption) | with_reducible exact Txt.k_Broken_NotAllowed (by assumption) | with_reducible exact Txt.k_Broken_NoChild (by assumption) | with_reducible exact Txt.k_Broken_BadCall (by assumption) | with_reducible exact Txt.k_Broken_BadRow (by assumption) | with_reducible exact Txt.k_Broken_Again (by assumption) | with_reducible exact Txt.k_Broken_Broken (by assumption) | with_reducible exact Txt.k_Broken_NoNode (by assumption) | with_reducible exact Txt.k_Broken_IsDir (by assumption) | with_reducible exact Txt.k_Broken_NoSpace (by assumption) | with_reducible exact Txt.k_Broken_ValueError (by assumption) | with_reducible exact Txt.k_NoHandle_NoOwner (by assumption) | with_reducible exact Txt.k_NoHandle_NoTask (by assumption) | with_reducible exact Txt.k_NoHandle_NoPage (by assumption) | with_reducible exact Txt.k_NoHandle_NoRoom (by assumption) | with_reducible exact Txt.k_NoHandle_Taken (by assumption) | with_reducible exact Txt.k_NoHandle_NoBlock (by assumption) | with_reducible exact Txt.k_NoHandle_Fallen (by assumption) | with_reducible exact Txt.k_NoHandle_BadName (by assumption) | with_reducible exact Txt.k_NoHandle_NoName (by assumption) | with_reducible exact Txt.k_NoHandle_NotDir (by assumption) | with_reducible exact Txt.k_NoHandle_NoHandle (by assumption) | with_reducible exact Txt.k_NoHandle_BadMode (by assumption) | with_reducible exact Txt.k_NoHandle_TooBig (by assumption) | with_reducible exact Txt.k_NoHandle_NotEmpty (by assumption) | with_reducible exact Txt.k_NoHandle_Inside (by assumption) | with_reducible exact Txt.k_NoHandle_TooMany (by assumption) | with_reducible exact Txt.k_NoHandle_NotHeld (by assumption) | with_reducible exact Txt.k_NoHandle_NotAllowed (by assumption) | with_reducible exact Txt.k_NoHandle_NoChild (by assumption) | with_reducible exact Txt.k_NoHandle_BadCall (by assumption) | with_reducible exact Txt.k_NoHandle_BadRow (by assumption) | with_reducible exact Txt.k_NoHandle_Again (by assumption) | with_reducible exact Txt.k_NoHandle_Broken (by assumption) | with_reducible exact Txt.k_NoHandle_NoNode (by assumption) | with_reducible exact Txt.k_NoHandle_IsDir (by assumption) | with_reducible exact Txt.k_NoHandle_NoSpace (by assumption) | with_reducible exact Txt.k_NoHandle_ValueError (by assumption) | with_reducible exact Txt.k_BadMode_NoOwner (by assumption) | with_reducible exact Txt.k_BadMode_NoTask (by assumption) | with_reducible exact Txt.k_BadMode_NoPage (by assumption) | with_reducible exact Txt.k_BadMode_NoRoom (by assumption) | with_reducible exact Txt.k_BadMode_Taken (by assumption) | with_reducible exact Txt.k_BadMode_NoBlock (by assumption) | with_reducible exact Txt.k_BadMode_Fallen (by assumption) | with_reducible exact Txt.k_BadMode_BadName (by assumption) | with_reducible exact Txt.k_BadMode_NoName (by assumption) | with_reducible exact Txt.k_BadMode_NotDir (by assumption) | with_reducible exact Txt.k_BadMode_NoHandle (by assumption) | with_reducible exact Txt.k_BadMode_BadMode (by assumption) | with_reducible exact Txt.k_BadMode_TooBig (by assumption) | with_reducible exact Txt.k_BadMode_NotEmpty (by assumption) | with_reducible exact Txt.k_BadMode_Inside (by assumption) | with_reducible exact Txt.k_BadMode_TooMany (by assumption) | with_reducible exact Txt.k_BadMode_NotHeld (by assumption) | with_reducible exact Txt.k_BadMode_NotAllowed (by assumption) | with_reducible exact Txt.k_BadMode_NoChild (by assumption) | with_reducible exact Txt.k_BadMode_BadCall (by assumption) | with_reducible exact Txt.k_BadMode_BadRow (by assumption) | with_reducible exact Txt.k_BadMode_Again (by assumption) | with_reducible exact Txt.k_BadMode_Broken (by assumption) | with_reducible exact Txt.k_BadMode_NoNode (by assumption) | with_reducible exact Txt.k_BadMode_IsDir (by assumption) | with_reducible exact Txt.k_BadMode_NoSpace (by assumption) | with_reducible exact Txt.k_BadMode_ValueError (by assumption) | fail)
local macro_rules | `(tactic| walk_at "fact") => `(tactic| first | with_reducible exact Txt.c_Pipe (by assumption) | with_reducible exact Txt.c_Thing (by assumption) | with_reducible exact Txt.c_Opens (by assumption) | with_reducible exact Txt.c_PlainDir (by assumption) | with_reducible exact Txt.c_PlainFiles (by assumption) | with_reducible exact Txt.a_Pipe_waiting (by assumption) | with_reducible exact Txt.a_Pipe_reader (by assumption) | with_reducible exact Txt.a_Pipe_writer (by assumption) | with_reducible exact Txt.a_Thing_mode (by assumption) | with_reducible exact Txt.a_Thing_node (by assumption) | with_reducible exact Txt.a_Thing_pipe (by assumption) | with_reducible exact Txt.a_Thing_at (by assumption) | with_reducible exact Txt.a_Thing_owners (by assumption) | with_reducible exact Txt.a_Opens_files (by assumption) | with_reducible exact Txt.a_Opens_things (by assumption) | with_reducible exact Txt.a_Opens_last (by assumption) | with_reducible exact Txt.a_PlainDir_slots (by assumption) | with_reducible exact Txt.a_PlainFiles_blocks (by assumption) | with_reducible exact Txt.a_PlainFiles_nodes (by assumption) | fail)
/-! ### the walk's own lines -/
local macro_rules | `(tactic| walk_at "mem") => `(tactic| first | exact List.mem_cons_self | (apply List.mem_cons_of_mem; walk_at "mem") | (apply List.mem_append_right; walk_at "mem") | (apply List.mem_append_left; walk_at "mem"))
local macro_rules | `(tactic| walk_at "at") => `(tactic| first | exact At.here | (apply At.there; walk_at "at") | (apply At.app; walk_at "at") | (apply At.appl; walk_at "at"))
local macro_rules | `(tactic| walk_at "sub") => `(tactic| first | exact Sub.all | exact Sub.here | exact Sub.one | (apply Sub.there; walk_at "sub") | (apply Sub.appl; walk_at "sub") | (apply Sub.app; walk_at "sub"))
local macro_rules | `(tactic| walk_at "own") => `(tactic| first | assumption | ((with_reducible apply Own.wr2); (focus walk_at "own"); (focus walk_at "at"); rfl) | ((with_reducible apply Own.new); (focus walk_at "own"); assumption))
local macro_rules | `(tactic| walk_at "h") => `(tactic| first | assumption | (apply Own.get; (focus walk_at "own"); walk_at "mem") | (apply Own.fr0; (focus walk_at "own"); assumption) | (rename Own _ _ _ _ => otmp; clear otmp; walk_at "h"))
local macro_rules | `(tactic| walk_at "ar") => `(tactic| first | omega | (simp only [List.length_nil, List.length_cons, List.length_append, List.length_map, List.length_set, List.length_replicate, List.length_range]; omega))
/-- one premise -/
local macro_rules | `(tactic| walk_at "c") => `(tactic| first
  | with_reducible exact rfl
  | ((with_reducible apply sl_of); rfl)
  | ((with_reducible apply sc_of); rfl)
  | ((with_reducible apply lsq_of); rfl)
  | ((with_reducible apply wp_of); rfl)
  | ((with_reducible apply ln_of); rfl)
  | ((with_reducible apply veq_of); first | rfl | exact kl | exact kr)
  | ((with_reducible apply lk_of); rfl)
  | ((with_reducible apply lkn_of); rfl)
  | ((with_reducible apply lt_of); (first | decide | walk_at "ar" | ((repeat (with_reducible apply putF_lt)); walk_at "ar")))
  | ((with_reducible apply hp_of); walk_at "h")
  | ((with_reducible apply cd_of); first | exact ⟨by decide, by decide⟩ | exact ⟨by omega, by omega⟩)
  | ((with_reducible apply at_of); first | assumption | exact atI_nat (j := 0) rfl | exact atI_nat (j := 1) rfl | exact atI_nat (j := 2) rfl | exact atI_nat (j := 3) rfl | exact atI_nat (j := 4) rfl)
  | ((with_reducible apply ix_of); first | assumption | rfl)
  | ((with_reducible apply cp_of); exact ⟨by decide, by decide, by decide⟩)
  | ((with_reducible apply cmw_of); first | assumption | (unfold CMulW; decide +kernel))
  | ((with_reducible apply cm_l); first | exact ⟨by decide, by decide⟩ | exact ⟨by omega, by omega⟩)
  | ((with_reducible apply cm_r); first | exact ⟨by decide, by decide⟩ | exact ⟨by omega, by omega⟩)
  | ((with_reducible show SqL _ _ _ _); assumption)
  | ((with_reducible show DGet _ _ _ _); assumption)
  | ((with_reducible show DPut _ _ _ _ _); assumption)
  | with_reducible exact isStr_of
  | with_reducible exact tyStr_of
  | walk_at "fact"
  | walk_at "kit"
  | walk_at "xf"
  | walk_at "col"
  | assumption)
local macro_rules | `(tactic| walk_at "prd") => `(tactic| first | exact Paired.nil | ((with_reducible apply Paired.cons); (focus walk_at "c"); walk_at "prd"))
local macro_rules | `(tactic| walk_at "kit") => `(tactic| first
  | (with_reducible exact Paired.nil) | ((with_reducible apply Paired.cons); (focus walk_at "c"); walk_at "prd") | ((with_reducible apply kit_any); walk_at "prd")
  | with_reducible exact ClsV.ty _ | with_reducible exact ClsV.own _
  | with_reducible exact kt_int_int | with_reducible exact kt_int_bool | with_reducible exact kt_bool_int | with_reducible exact kt_bool_bool | with_reducible exact kt_list_list | with_reducible exact kt_tuple_tuple | with_reducible exact kt_NoneType_tuple | with_reducible exact kt_str_str | with_reducible exact kt_NoneType_list | with_reducible exact kt_NoneType_int | with_reducible exact kt_NoneType_bool | with_reducible exact kt_NoneType_dict | with_reducible exact kt_NoneType_str | with_reducible exact kt_str_list | with_reducible exact kt_list_str | with_reducible exact kt_str_int | with_reducible exact kt_int_str | with_reducible exact kt_int_list | with_reducible exact kt_int_tuple | with_reducible exact kt_list_tuple | with_reducible exact kt_tuple_list | with_reducible exact kt_dict_dict | with_reducible exact kt_list_dict | with_reducible exact kt_dict_list | with_reducible exact kt_int_dict | with_reducible exact kt_str_bool | with_reducible exact kt_str_tuple | with_reducible exact kt_str_dict | with_reducible exact kt_list_int | with_reducible exact kt_list_bool | with_reducible exact kt_tuple_int | with_reducible exact kt_tuple_bool | with_reducible exact kt_tuple_str | with_reducible exact kt_tuple_dict
  | ((with_reducible apply TyX.base); first | with_reducible exact TyOf.non | with_reducible exact TyOf.bl _ | with_reducible exact TyOf.int _ | with_reducible exact TyOf.str _ | ((with_reducible apply TyOf.lst); walk_at "h") | ((with_reducible apply TyOf.tup); walk_at "h") | ((with_reducible apply TyOf.dK); walk_at "h")))
/-- lists, tuples, dicts, sizes -/
local macro_rules | `(tactic| walk_at "sq") => `(tactic| first | assumption | ((with_reducible apply SqL.of); walk_at "h") | ((with_reducible apply SqT.of); walk_at "h") | ((with_reducible apply Own.sq); (focus walk_at "own"); assumption))
local macro_rules | `(tactic| walk_at "col") => `(tactic| first
  | ((with_reducible apply SqL.of); walk_at "h") | ((with_reducible apply SqT.of); walk_at "h") | ((with_reducible apply Rd.of); walk_at "h")
  | ((with_reducible apply Own.sq); (focus walk_at "own"); assumption)
  | ((with_reducible apply col_ex2); walk_at "sq") | ((with_reducible apply col_ol2); walk_at "sq") | ((with_reducible apply col_or2); walk_at "sq")
  | ((with_reducible apply sz_le); first | decide | walk_at "ar")
  | ((with_reducible apply sz_lt); first | decide | walk_at "ar")
  | ((with_reducible apply isd_k); walk_at "h")
  | ((with_reducible apply dget_ii); (focus walk_at "h"); assumption) | ((with_reducible apply dget_is); (focus walk_at "h"); assumption)
  | ((with_reducible apply dget_i); walk_at "h") | ((with_reducible apply dget_s); walk_at "h")
  | ((with_reducible apply dput_i); (focus walk_at "h"); walk_at "ar") | ((with_reducible apply dput_s); (focus walk_at "h"); walk_at "ar")
  | (apply Or.inl; apply And.intro rfl; apply col_ex; walk_at "h")
  | (apply Or.inr; apply Or.inr; apply Or.inl; apply And.intro rfl; apply Or.inl; constructor; walk_at "h") | (apply Or.inr; apply Or.inr; apply Or.inl; apply And.intro rfl; apply Or.inr; constructor; walk_at "h")
  | with_reducible exact all_flat _ | with_reducible exact all_flatS _ | ((with_reducible apply fl_of); rfl)
  | ((with_reducible apply pos_of); first | decide | assumption | omega | decide +kernel)
  | walk_at "ar")
/-- one step -/
local macro_rules | `(tactic| walk_at "s1") => `(tactic| first
  | (apply @Exists.intro V)
  | (apply @Exists.intro Addr)
  | (apply @Exists.intro Int)
  | (apply @Exists.intro (List V))
  | (apply @Exists.intro (List (Str × V)))
  | (apply @Exists.intro (List (Key × V)))
  | (apply @Exists.intro Key)
  | (apply @Exists.intro Bool)
  | (apply @Exists.intro Str)
  | (apply @Exists.intro Value)
  | (apply @Exists.intro (Option V))
  | (apply @Exists.intro (List Int)) | (apply @Exists.intro (List Bool)) | (apply @Exists.intro Obj) | (apply @Exists.intro (List Value)) | (apply @Exists.intro Hp)
  | (apply And.intro; (focus walk_at "c")))
local macro_rules | `(tactic| walk_at "s") => `(tactic| repeat walk_at "s1")
local macro_rules | `(tactic| walk_at "b") => `(tactic| (apply Box.mk; walk_at "s"))
local macro_rules | `(tactic| walk_at "sk") => `(tactic| (refine if_ss (fun z => absurd z (by decide)) (fun _ => ?_); walk_at "s"))
local macro_rules | `(tactic| walk_at "bb") => `(tactic| repeat (apply Box.mk; walk_at "s"))
local macro_rules | `(tactic| walk_at "pm") => `(tactic| (classical (refine List.perm_iff_count.mpr fun zz => ?_; simp only [List.count_cons, List.count_append, List.count_nil, List.cons_append, List.nil_append, List.append_nil]; omega)))
local macro_rules | `(tactic| walk_at "clo") => `(tactic| repeat (rename Own _ _ _ _ => otmp; clear otmp))
/-! ## dicts of rows by number -/
section
variable {α : Type}
theorem lk_split {m : List (Int × α)} {k : Int} {v : α} (h : m.lookup k = some v) : ∃ l q, m = l ++ (k, v) :: q ∧ k ∉ l.map (·.1) := by
  induction m with
  | nil => cases h
  | cons x r ih =>
    obtain ⟨j, u⟩ := x
    rw [List.lookup_cons] at h
    cases e : k == j with
    | true =>
      rw [e] at h
      cases h
      cases eq_of_beq e
      exact ⟨[], r, rfl, List.not_mem_nil⟩
    | false =>
      rw [e] at h
      obtain ⟨l, q, rfl, hl⟩ := ih h
      refine ⟨(j, u) :: l, q, rfl, fun z => ?_⟩
      rcases List.mem_cons.mp z with z | z
      · rw [z] at e; simp at e
      · exact hl z
theorem lk_none {m : List (Int × α)} {k : Int} : m.lookup k = none ↔ k ∉ m.map (·.1) := by
  induction m with
  | nil => exact ⟨fun _ => List.not_mem_nil, fun _ => rfl⟩
  | cons x r ih =>
    obtain ⟨j, u⟩ := x
    rw [List.lookup_cons, List.map_cons, List.mem_cons]
    cases e : k == j with
    | true => exact ⟨nofun, fun z => absurd (.inl (eq_of_beq e)) z⟩
    | false =>
      have hne : k ≠ j := fun z => by rw [z] at e; simp at e
      refine ih.trans ⟨fun h z => z.elim hne h, fun h z => h (.inr z)⟩
theorem lk_some {m : List (Int × α)} {k : Int} : (m.lookup k).isSome = true ↔ k ∈ m.map (·.1) := by
  cases h : m.lookup k with
  | none => exact ⟨nofun, fun z => absurd z (lk_none.mp h)⟩
  | some v =>
    refine ⟨fun _ => ?_, fun _ => rfl⟩
    obtain ⟨l, q, rfl, _⟩ := lk_split h
    simp
theorem lk_map {β : Type} (f : α → β) (m : List (Int × α)) (k : Int) : (m.map fun x => (x.1, f x.2)).lookup k = (m.lookup k).map f := by
  induction m with
  | nil => rfl
  | cons x r ih =>
    obtain ⟨j, u⟩ := x
    rw [List.map_cons, List.lookup_cons, List.lookup_cons]
    cases k == j with
    | true => rfl
    | false => exact ih
theorem lk_val (f : α → V) (m : List (Int × α)) (k : Int) : valV (m.map fun x => ((Sum.inl x.1 : Key), f x.2)) (Sum.inl k) = (m.lookup k).map f := by
  induction m with
  | nil => rfl
  | cons x r ih =>
    obtain ⟨j, u⟩ := x
    rw [List.lookup_cons, List.map_cons]
    by_cases e : j = k
    · subst e
      rw [show (j == j) = true by simp]
      exact valV_pos rfl
    · rw [show (k == j) = false by simpa using fun z => e z.symm]
      exact (valV_neg (fun z => e (Sum.inl.inj z))).trans ih
theorem lk_mem {m : List (Int × α)} {k : Int} {v : α} (h : m.lookup k = some v) : (k, v) ∈ m := by
  obtain ⟨l, q, rfl, _⟩ := lk_split h
  simp
theorem lk_nd {m : List (Int × α)} {k : Int} {v : α} (nd : (m.map (·.1)).Nodup) (h : (k, v) ∈ m) : m.lookup k = some v := by
  induction m with
  | nil => cases h
  | cons x q ih =>
    obtain ⟨j, u⟩ := x
    rw [List.map_cons] at nd
    obtain ⟨n1, n2⟩ := List.nodup_cons.mp nd
    rw [List.lookup_cons]
    rcases List.mem_cons.mp h with z | z
    · cases z; simp
    · have hne : k ≠ j := fun e => n1 (e ▸ List.mem_map.mpr ⟨_, z, rfl⟩)
      rw [show (k == j) = false by simpa using hne]
      exact ih n2 z
/-- one goes -/
def dropA (m : List (Int × α)) (k : Int) : List (Int × α) := m.filter fun x => decide (x.1 ≠ k)
/-- one gets another thing -/
def setA (m : List (Int × α)) (k : Int) (v : α) : List (Int × α) := m.map fun x => if x.1 = k then (x.1, v) else x
theorem dropA_no {m : List (Int × α)} {k : Int} (h : k ∉ m.map (·.1)) : dropA m k = m :=
  List.filter_eq_self.mpr fun x hx => decide_eq_true fun e => h (List.mem_map.mpr ⟨x, hx, e⟩)
theorem setA_no {m : List (Int × α)} {k : Int} {v : α} (h : k ∉ m.map (·.1)) : setA m k v = m := by
  unfold setA
  conv => rhs; rw [← List.map_id m]
  exact List.map_congr_left fun x hx => if_neg fun e => h (List.mem_map.mpr ⟨x, hx, e⟩)
theorem nd_mid {l q : List (Int × α)} {k : Int} {v : α} (nd : ((l ++ (k, v) :: q).map (·.1)).Nodup) : k ∉ l.map (·.1) ∧ k ∉ q.map (·.1) := by
  rw [List.map_append, List.map_cons] at nd
  obtain ⟨n1, n2, n3⟩ := List.nodup_append.mp nd
  exact ⟨fun z => n3 k z k (.head _) rfl, (List.nodup_cons.mp n2).1⟩
theorem dropA_mid {l q : List (Int × α)} {k : Int} {v : α} (nd : ((l ++ (k, v) :: q).map (·.1)).Nodup) : dropA (l ++ (k, v) :: q) k = l ++ q := by
  obtain ⟨h1, h2⟩ := nd_mid nd
  unfold dropA
  rw [List.filter_append, List.filter_cons, if_neg (by simp)]
  exact congr (congrArg _ (dropA_no h1)) (dropA_no h2)
theorem setA_mid {l q : List (Int × α)} {k : Int} {v u : α} (nd : ((l ++ (k, v) :: q).map (·.1)).Nodup) : setA (l ++ (k, v) :: q) k u = l ++ (k, u) :: q := by
  obtain ⟨h1, h2⟩ := nd_mid nd
  unfold setA
  rw [List.map_append, List.map_cons, if_pos rfl]
  exact congr (congrArg _ (setA_no h1)) (congrArg _ (setA_no h2))
theorem dropA_val (f : α → V) (m : List (Int × α)) (k : Int) : dropK (m.map fun x => ((Sum.inl x.1 : Key), f x.2)) (Sum.inl k) = (dropA m k).map fun x => ((Sum.inl x.1 : Key), f x.2) := by
  unfold dropK dropA
  rw [List.filter_map]
  congr 1
  refine List.filter_congr fun x _ => ?_
  show decide ((Sum.inl x.1 : Key) ≠ Sum.inl k) = _
  exact decide_eq_decide.mpr ⟨fun h e => h (congrArg _ e), fun h e => h (Sum.inl.inj e)⟩
theorem dropA_map {β : Type} (f : α → β) (m : List (Int × α)) (k : Int) : dropA (m.map fun x => (x.1, f x.2)) k = (dropA m k).map fun x => (x.1, f x.2) := by
  unfold dropA
  rw [List.filter_map]
  rfl
theorem setA_keys (m : List (Int × α)) (k : Int) (v : α) : (setA m k v).map (·.1) = m.map (·.1) := by
  unfold setA
  rw [List.map_map]
  refine List.map_congr_left fun x _ => ?_
  show (if x.1 = k then (x.1, v) else x).1 = x.1
  split <;> rfl
theorem lk_setA (m : List (Int × α)) (k j : Int) (v : α) : (setA m k v).lookup j = if j = k then (m.lookup k).map (fun _ => v) else m.lookup j := by
  induction m with
  | nil => show none = _; split <;> rfl
  | cons x r ih =>
    obtain ⟨i, u⟩ := x
    have e1 : setA ((i, u) :: r) k v = (if i = k then (i, v) else (i, u)) :: setA r k v := rfl
    rw [e1]
    by_cases h : i = k
    · rw [if_pos h, List.lookup_cons, List.lookup_cons, List.lookup_cons]
      subst h
      by_cases z : j = i
      · subst z; simp
      · rw [show (j == i) = false by simpa using z, if_neg z]
        refine ih.trans ?_
        rw [if_neg z]
    · rw [if_neg h, List.lookup_cons, List.lookup_cons, List.lookup_cons, show (k == i) = false by simpa using fun z => h z.symm]
      by_cases z : j = i
      · subst z; simp [h]
      · rw [show (j == i) = false by simpa using z]
        exact ih
theorem lk_dropA (m : List (Int × α)) (k j : Int) : (dropA m k).lookup j = if j = k then none else m.lookup j := by
  induction m with
  | nil => show none = _; split <;> rfl
  | cons x r ih =>
    obtain ⟨i, u⟩ := x
    unfold dropA at ih ⊢
    rw [List.filter_cons]
    by_cases h : i = k
    · rw [if_neg (by simp [h]), ih]
      subst h
      by_cases z : j = i
      · rw [if_pos z, if_pos z]
      · rw [if_neg z, if_neg z, List.lookup_cons, show (j == i) = false by simpa using z]
    · rw [if_pos (by simp [h]), List.lookup_cons, List.lookup_cons]
      by_cases z : j = i
      · subst z; simp [h]
      · rw [show (j == i) = false by simpa using z]
        exact ih
theorem lk_app (l q : List (Int × α)) (j : Int) : (l ++ q).lookup j = (l.lookup j).or (q.lookup j) := by
  induction l with
  | nil => rfl
  | cons x r ih =>
    obtain ⟨i, u⟩ := x
    rw [List.cons_append, List.lookup_cons, List.lookup_cons]
    cases j == i with
    | true => rfl
    | false => exact ih
theorem dropA_sub (m : List (Int × α)) (k : Int) : List.Sublist (dropA m k) m := List.filter_sublist
end
abbrev Ch := List (Int × Pg)
abbrev Ch.kvs (ch : Ch) : List (Key × V) := ch.map fun x => (Sum.inl x.1, V.ref x.2.1)
abbrev Ch.pure (ch : Ch) : List (Int × List Int) := ch.map fun x => (x.1, x.2.2)
def cCh (c : Addr) (ch : Ch) : Cells := (c, .dK (Ch.kvs ch)) :: ch.map fun x => pcel x.2
/-! ### rooms by task -/
abbrev Wl := List (Int × Addr × Ch)
abbrev wlD (w : Wl) : List (Key × V) := w.map fun x => (Sum.inl x.1, V.ref x.2.1)
def cRms (w : Wl) : Cells := w.flatMap fun x => cCh x.2.1 x.2.2
def cWl (D : Addr) (w : Wl) : Cells := (D, .dK (wlD w)) :: cRms w
theorem cRms_mid (l q : Wl) (x : Int × Addr × Ch) : cRms (l ++ x :: q) = cRms l ++ (cCh x.2.1 x.2.2 ++ cRms q) := by
  unfold cRms
  rw [List.flatMap_append, List.flatMap_cons]
theorem cRms_app (l q : Wl) : cRms (l ++ q) = cRms l ++ cRms q := by
  unfold cRms
  rw [List.flatMap_append]
abbrev ARm := List (Int × List Int)
abbrev AWl := List (Int × ARm)
abbrev Wl.abs (w : Wl) : AWl := w.map fun x => (x.1, Ch.pure x.2.2)
theorem Wl.look (w : Wl) (t : Int) : valV (wlD w) (Sum.inl t) = (w.lookup t).map fun x => V.ref x.1 := lk_val (fun x : Addr × Ch => V.ref x.1) w t
theorem Wl.look_abs (w : Wl) (t : Int) : w.abs.lookup t = (w.lookup t).map fun x => x.2.pure := lk_map (fun x : Addr × Ch => x.2.pure) w t
theorem Ch.lookV (ch : Ch) (t : Int) : valV ch.kvs (Sum.inl t) = (ch.lookup t).map fun x => V.ref x.1 := lk_val (fun x : Pg => V.ref x.1) ch t
theorem Ch.look_abs (ch : Ch) (t : Int) : ch.pure.lookup t = (ch.lookup t).map (·.2) := lk_map (fun x : Pg => x.2) ch t
/-! ### what rooms are, and what deeds do, in plain words -/
structure ROk (r : ARm) : Prop where
  nd : (r.map (·.1)).Nodup
  key : ∀ k ∈ r.map (·.1), 0 ≤ k ∧ k < 64
  wide : ∀ x ∈ r, x.2.length = 8
structure WOk (w : AWl) : Prop where
  nd : (w.map (·.1)).Nodup
  rms : ∀ x ∈ w, ROk x.2
  few : w.length ≤ 1000
def pgs (p : Int) (n : Nat) : List Int := (List.range n).map fun i : Nat => p + i
def zeros : List Int := List.replicate 8 0
def mapR (r : ARm) (ps : List Int) : ARm := r ++ ps.map fun p => (p, zeros)
def dropR (r : ARm) (ps : List Int) : ARm := ps.foldl dropA r
def cellR (r : ARm) (at_ : Int) : Int := (((r.lookup (at_ / 8)).getD [])[(at_ % 8).toNat]?).getD 0
def peekR (r : ARm) (a : Int) (n : Nat) : List Int := (List.range n).map fun i : Nat => cellR r (a + i)
def putR (r : ARm) (at_ c : Int) : ARm := setA r (at_ / 8) (((r.lookup (at_ / 8)).getD []).set (at_ % 8).toNat c)
def pokeR (r : ARm) (a : Int) : List Int → ARm
  | [] => r
  | c :: cs => pokeR (putR r a c) (a + 1) cs
def heldA (w : AWl) : Int := ((w.map fun x => x.2.length).sum : Nat)
inductive Rf where
  | taken | noTask | noPage | noRoom
deriving DecidableEq
def Rf.name : Rf → Str
  | .taken => "Taken"
  | .noTask => "NoTask"
  | .noPage => "NoPage"
  | .noRoom => "NoRoom"
abbrev Rf.cls (K : PySem.W.Frag) : Rf → Value
  | .taken => .ref (He.ga K "Taken")
  | .noTask => .ref (He.ga K "NoTask")
  | .noPage => .ref (He.ga K "NoPage")
  | .noRoom => .ref (He.ga K "NoRoom")
inductive RDeed where
  | begin (t : Int) | close (t : Int) | map (t p n : Int) | drop (t p n : Int) | peek (t a n : Int) | poke (t a : Int) (cs : List Int) | copy (t o : Int)
def badP (p n : Int) : Bool := decide (n < 1 ∨ p < 0 ∨ p + n > 64)
def badA (a n : Int) : Bool := decide (n < 0 ∨ (n > 0 ∧ (a < 0 ∨ a + n > 512)))
def anyP (r : ARm) (ps : List Int) : Bool := ps.any fun p => (r.lookup p).isSome
def allP (r : ARm) (ps : List Int) : Bool := ps.all fun p => (r.lookup p).isSome
/-- the pages that the addresses lie in are there -/
def allA (r : ARm) (a : Int) (n : Nat) : Bool := (List.range n).all fun i : Nat => (r.lookup ((a + i) / 8)).isSome
def sem (tot : Int) (w : AWl) : RDeed → Except Rf (AWl × Option (List Int))
  | .begin t => if (w.lookup t).isSome then .error .taken else .ok (w ++ [(t, [])], none)
  | .close t => if (w.lookup t).isSome then .ok (dropA w t, none) else .error .noTask
  | .map t p n => match w.lookup t with
    | none => .error .noTask
    | some r => if badP p n then .error .noPage else if anyP r (pgs p n.toNat) then .error .taken else if heldA w + n > tot then .error .noRoom else .ok (setA w t (mapR r (pgs p n.toNat)), none)
  | .drop t p n => match w.lookup t with
    | none => .error .noTask
    | some r => if badP p n then .error .noPage else if allP r (pgs p n.toNat) then .ok (setA w t (dropR r (pgs p n.toNat)), none) else .error .noPage
  | .peek t a n => match w.lookup t with
    | none => .error .noTask
    | some r => if badA a n then .error .noPage else if allA r a n.toNat then .ok (w, some (peekR r a n.toNat)) else .error .noPage
  | .poke t a cs => match w.lookup t with
    | none => .error .noTask
    | some r => if badA a cs.length then .error .noPage else if allA r a cs.length then .ok (setA w t (pokeR r a cs), none) else .error .noPage
  | .copy t o => match w.lookup t with
    | none => .error .noTask
    | some r => if (w.lookup o).isSome then .error .taken else if heldA w + r.length > tot then .error .noRoom else .ok (w ++ [(o, r)], none)
section
variable {tot : Int} {w : AWl} {t p n a o : Int} {cs : List Int} {r : ARm}
theorem sem_begin0 (h : w.lookup t = none) : sem tot w (.begin t) = .ok (w ++ [(t, [])], none) := by
  show (if (w.lookup t).isSome = true then _ else _) = _
  rw [h]; rfl
theorem sem_begin1 (h : (w.lookup t).isSome = true) : sem tot w (.begin t) = .error .taken := if_pos h
theorem sem_close0 (h : w.lookup t = none) : sem tot w (.close t) = .error .noTask := by
  show (if (w.lookup t).isSome = true then _ else _) = _
  rw [h]; rfl
theorem sem_close1 (h : (w.lookup t).isSome = true) : sem tot w (.close t) = .ok (dropA w t, none) := if_pos h
theorem sem_map0 (h : w.lookup t = none) : sem tot w (.map t p n) = .error .noTask := by
  show (match w.lookup t with | none => _ | some r => _) = _
  rw [h]
theorem sem_map1 (h : w.lookup t = some r) : sem tot w (.map t p n) = if badP p n = true then .error .noPage else if anyP r (pgs p n.toNat) = true then .error .taken else if heldA w + n > tot then .error .noRoom else .ok (setA w t (mapR r (pgs p n.toNat)), none) := by
  show (match w.lookup t with | none => _ | some r => _) = _
  rw [h]
theorem sem_drop0 (h : w.lookup t = none) : sem tot w (.drop t p n) = .error .noTask := by
  show (match w.lookup t with | none => _ | some r => _) = _
  rw [h]
theorem sem_drop1 (h : w.lookup t = some r) : sem tot w (.drop t p n) = if badP p n = true then .error .noPage else if allP r (pgs p n.toNat) = true then .ok (setA w t (dropR r (pgs p n.toNat)), none) else .error .noPage := by
  show (match w.lookup t with | none => _ | some r => _) = _
  rw [h]
theorem sem_peek0 (h : w.lookup t = none) : sem tot w (.peek t a n) = .error .noTask := by
  show (match w.lookup t with | none => _ | some r => _) = _
  rw [h]
theorem sem_peek1 (h : w.lookup t = some r) : sem tot w (.peek t a n) = if badA a n = true then .error .noPage else if allA r a n.toNat = true then .ok (w, some (peekR r a n.toNat)) else .error .noPage := by
  show (match w.lookup t with | none => _ | some r => _) = _
  rw [h]
theorem sem_poke0 (h : w.lookup t = none) : sem tot w (.poke t a cs) = .error .noTask := by
  show (match w.lookup t with | none => _ | some r => _) = _
  rw [h]
theorem sem_poke1 (h : w.lookup t = some r) : sem tot w (.poke t a cs) = if badA a cs.length = true then .error .noPage else if allA r a cs.length = true then .ok (setA w t (pokeR r a cs), none) else .error .noPage := by
  show (match w.lookup t with | none => _ | some r => _) = _
  rw [h]
theorem sem_copy0 (h : w.lookup t = none) : sem tot w (.copy t o) = .error .noTask := by
  show (match w.lookup t with | none => _ | some r => _) = _
  rw [h]
theorem sem_copy1 (h : w.lookup t = some r) : sem tot w (.copy t o) = if (w.lookup o).isSome = true then .error .taken else if heldA w + r.length > tot then .error .noRoom else .ok (w ++ [(o, r)], none) := by
  show (match w.lookup t with | none => _ | some r => _) = _
  rw [h]
end
theorem Wl.abs_none {w : Wl} {t : Int} (h : w.lookup t = none) : w.abs.lookup t = none := by rw [Wl.look_abs, h]; rfl
theorem Wl.abs_some {w : Wl} {t : Int} {a : Addr} {r : Ch} (h : w.lookup t = some (a, r)) : w.abs.lookup t = some r.pure := by rw [Wl.look_abs, h]; rfl
theorem Wl.nd {w : Wl} (ok : WOk w.abs) : (w.map (·.1)).Nodup := by
  have := ok.nd
  rw [List.map_map] at this
  exact this
theorem Wl.len {w : Wl} (ok : WOk w.abs) : w.length ≤ 1000 := by
  have := ok.few
  rw [List.length_map] at this
  exact this
theorem Wl.new {w : Wl} {t : Int} {v : V} (h : w.lookup t = none) : putK (wlD w) (Sum.inl t) v = wlD w ++ [(Sum.inl t, v)] := putK_new (fun z => by
  rw [List.map_map] at z
  obtain ⟨x, hx, e⟩ := List.mem_map.mp z
  cases e
  exact lk_none.mp h (List.mem_map.mpr ⟨x, hx, rfl⟩))
theorem Wl.drop {l q : Wl} {t : Int} {x : Addr × Ch} (nd : ((l ++ (t, x) :: q).map (·.1)).Nodup) : dropK (wlD (l ++ (t, x) :: q)) (Sum.inl t) = wlD (l ++ q) := (dropA_val (fun x : Addr × Ch => V.ref x.1) _ t).trans (by rw [dropA_mid nd])
theorem Wl.drop_abs {l q : Wl} {t : Int} {x : Addr × Ch} (nd : ((l ++ (t, x) :: q).map (·.1)).Nodup) : dropA (Wl.abs (l ++ (t, x) :: q)) t = Wl.abs (l ++ q) := (dropA_map (fun x : Addr × Ch => Ch.pure x.2) _ t).trans (by rw [dropA_mid nd])
theorem Wl.set_abs {l q : Wl} {t : Int} {a b : Addr} {r r' : Ch} (nd : ((l ++ (t, a, r) :: q).map (·.1)).Nodup) : setA (Wl.abs (l ++ (t, a, r) :: q)) t r'.pure = Wl.abs (l ++ (t, b, r') :: q) := by
  have e : Wl.abs (l ++ (t, a, r) :: q) = Wl.abs l ++ (t, r.pure) :: Wl.abs q := by unfold Wl.abs; rw [List.map_append]; rfl
  have nd2 : ((Wl.abs l ++ (t, r.pure) :: Wl.abs q).map (·.1)).Nodup := by
    rw [← e, List.map_map]
    exact nd
  rw [e, setA_mid nd2]
  unfold Wl.abs
  rw [List.map_append]
  rfl
theorem anyP_yes {r : ARm} {ps : List Int} {y : Int} (hy : y ∈ ps) (h : (r.lookup y).isSome = true) : anyP r ps = true := List.any_eq_true.mpr ⟨y, hy, h⟩
theorem anyP_no {r : ARm} {ps : List Int} (h : ∀ y ∈ ps, r.lookup y = none) : ¬ anyP r ps = true := fun z => by
  obtain ⟨y, hy, e⟩ := List.any_eq_true.mp z
  rw [h y hy] at e
  cases e
theorem allP_no {r : ARm} {ps : List Int} {y : Int} (hy : y ∈ ps) (h : r.lookup y = none) : ¬ allP r ps = true := fun z => by
  have e := List.all_eq_true.mp z y hy
  rw [h] at e
  cases e
theorem allP_yes {r : ARm} {ps : List Int} (h : ∀ y ∈ ps, (r.lookup y).isSome = true) : allP r ps = true := List.all_eq_true.mpr h
theorem ints_le : ∀ (m : Nat) (l : List Int), l.Nodup → (∀ x ∈ l, 0 ≤ x ∧ x < (m : Int)) → l.length ≤ m
  | 0, l, _, h => by
    cases l with
    | nil => exact Nat.le_refl 0
    | cons a r => have := h a (.head _); omega
  | m + 1, l, hn, h => by
    have h1 := ints_le m (l.erase (m : Int)) (hn.erase _) fun x hx => by
      have h2 := h x (List.mem_of_mem_erase hx)
      have h3 : x ≠ (m : Int) := fun e => by
        subst e
        exact hn.not_mem_erase hx
      omega
    by_cases hm : (m : Int) ∈ l
    · rw [List.length_erase_of_mem hm] at h1
      omega
    · rw [List.erase_of_not_mem hm] at h1
      omega
theorem ROk.len {r : ARm} (h : ROk r) : r.length ≤ 64 := by
  have := ints_le 64 (r.map (·.1)) h.nd fun x hx => h.key x hx
  rwa [List.length_map] at this
theorem pgs_nd (p : Int) (n : Nat) : (pgs p n).Nodup := List.Pairwise.map _ (fun a b h z => h (by omega)) List.nodup_range
theorem pgs_len (p : Int) (n : Nat) : (pgs p n).length = n := by unfold pgs; rw [List.length_map, List.length_range]
theorem pgs_at {p : Int} {n j : Nat} {y : Int} (h : (pgs p n)[j]? = some y) : y = p + j ∧ j < n := by
  unfold pgs at h
  rw [List.getElem?_map] at h
  have hj : j < (List.range n).length := by
    cases e : (List.range n)[j]? with
    | none => rw [e] at h; cases h
    | some z => exact (List.getElem?_eq_some_iff.mp e).1
  rw [List.getElem?_eq_getElem hj, List.getElem_range] at h
  rw [List.length_range] at hj
  exact ⟨(Option.some.inj h).symm, hj⟩
theorem pgs_mem {p : Int} {n : Nat} {y : Int} : y ∈ pgs p n ↔ p ≤ y ∧ y < p + n := by
  unfold pgs
  rw [List.mem_map]
  constructor
  · rintro ⟨i, hi, rfl⟩
    have := List.mem_range.mp hi
    omega
  · intro h
    exact ⟨(y - p).toNat, List.mem_range.mpr (by omega), by omega⟩
/-- not among those ahead of it -/
theorem nd_take {l : List Int} (nd : l.Nodup) {j : Nat} {y : Int} (h : l[j]? = some y) : y ∉ l.take j := fun z => by
  have e := at_split h
  rw [e] at nd
  exact (List.nodup_append.mp nd).2.2 y z y (.head _) rfl
theorem wlD_mid (l q : Wl) (t : Int) (a : Addr) (r r' : Ch) : wlD (l ++ (t, a, r) :: q) = wlD (l ++ (t, a, r') :: q) := by
  unfold wlD
  rw [List.map_append, List.map_append]
  rfl
theorem Own.into {H0 H : Hp} {A : List Addr} {e : Addr × HO} {X Y Z : Cells} (O : Own H0 H A (e :: (X ++ (Y ++ Z)))) : Own H0 H A (X ++ ((Y ++ [e]) ++ Z)) := O.perm (by
  rw [← List.append_assoc X Y Z, List.append_assoc Y [e] Z, ← List.append_assoc X Y]
  exact List.perm_middle.symm)
theorem WOk.at {w : Wl} (ok : WOk w.abs) {t : Int} {a : Addr} {r : Ch} (h : w.lookup t = some (a, r)) : ROk r.pure := ok.rms _ (lk_mem (Wl.abs_some h))
theorem allA_no {r : ARm} {a : Int} {n i : Nat} (hi : i < n) (h : r.lookup ((a + i) / 8) = none) : allA r a n = false := by
  cases e : allA r a n with
  | false => rfl
  | true =>
    have := List.all_eq_true.mp e i (List.mem_range.mpr hi)
    rw [h] at this
    cases this
theorem allA_yes {r : ARm} {a : Int} {n : Nat} (h : ∀ i : Nat, i < n → (r.lookup ((a + i) / 8)).isSome = true) : allA r a n = true := List.all_eq_true.mpr fun i hi => h i (List.mem_range.mp hi)
theorem allA_at {r : ARm} {a : Int} {n i : Nat} (h : allA r a n = true) (hi : i < n) : (r.lookup ((a + i) / 8)).isSome = true := List.all_eq_true.mp h i (List.mem_range.mpr hi)
theorem cellR_at {r : Ch} {at_ : Int} {b : Pg} (h : r.lookup (at_ / 8) = some b) : cellR r.pure at_ = ((b.2)[(at_ % 8).toNat]?).getD 0 := by
  unfold cellR
  rw [Ch.look_abs, h]
  rfl
theorem peekR_take (r : ARm) (a : Int) (n : Nat) {j : Nat} (h : j < n) : (peekR r a n).take (j + 1) = (peekR r a n).take j ++ [cellR r (a + j)] := by
  refine take_succ ?_
  unfold peekR
  rw [List.getElem?_map, List.getElem?_range h]
  rfl
theorem peekR_len (r : ARm) (a : Int) (n : Nat) : (peekR r a n).length = n := by unfold peekR; rw [List.length_map, List.length_range]
theorem ROk.eight {r : Ch} (h : ROk r.pure) {k : Int} {b : Pg} (hb : r.lookup k = some b) : b.2.length = 8 := h.wide (k, b.2) (List.mem_map.mpr ⟨_, lk_mem hb, rfl⟩)
theorem rm_mem {w : Wl} {t : Int} {a : Addr} {r : Ch} (h : w.lookup t = some (a, r)) : (a, HO.dK (Ch.kvs r)) ∈ cRms w := List.mem_flatMap.mpr ⟨_, lk_mem h, .head _⟩
theorem pg_mem {w : Wl} {t k : Int} {a : Addr} {r : Ch} {b : Pg} (h : w.lookup t = some (a, r)) (hb : r.lookup k = some b) : (b.1, HO.lst (b.2.map V.int)) ∈ cRms w := List.mem_flatMap.mpr ⟨_, lk_mem h, .tail _ (List.mem_map.mpr ⟨_, lk_mem hb, rfl⟩)⟩
theorem ite3 {α : Type} {a b : Bool} {x y : α} (h : a = true ∨ b = false) : (if a = true then x else if b = true then y else x) = x := by
  rcases h with z | z
  · rw [if_pos z]
  · rw [z]
    split <;> rfl
theorem pokeR_snoc (r : ARm) (a : Int) (xs : List Int) (c : Int) : pokeR r a (xs ++ [c]) = putR (pokeR r a xs) (a + xs.length) c := by
  induction xs generalizing r a with
  | nil => show putR r a c = putR r (a + 0) c; rw [Int.add_zero]
  | cons x q ih =>
    show pokeR (putR r a x) (a + 1) (q ++ [c]) = putR (pokeR (putR r a x) (a + 1) q) _ c
    rw [ih, List.length_cons, show a + 1 + (q.length : Int) = a + ((q.length + 1 : Nat) : Int) by omega]
theorem putR_mid {l q : Ch} {k : Int} {b : Pg} {at_ c : Int} (nd : ((l ++ (k, b) :: q).map (·.1)).Nodup) (h : at_ / 8 = k) : putR (Ch.pure (l ++ (k, b) :: q)) at_ c = Ch.pure (l ++ (k, (b.1, b.2.set (at_ % 8).toNat c)) :: q) := by
  subst h
  have e : Ch.pure (l ++ (at_ / 8, b) :: q) = Ch.pure l ++ (at_ / 8, b.2) :: Ch.pure q := by unfold Ch.pure; rw [List.map_append]; rfl
  have nd2 : ((Ch.pure l ++ (at_ / 8, b.2) :: Ch.pure q).map (·.1)).Nodup := by
    rw [← e, List.map_map]
    exact nd
  unfold putR
  rw [e, lk_nd (v := b.2) nd2 (List.mem_append_right _ (.head _)), setA_mid nd2]
  unfold Ch.pure
  rw [List.map_append]
  rfl
theorem cCh_mid (a : Addr) (l q : Ch) (k : Int) (b : Pg) : cCh a (l ++ (k, b) :: q) = (a, .dK (Ch.kvs (l ++ (k, b) :: q))) :: (l.map (fun x => pcel x.2) ++ pcel b :: q.map fun x => pcel x.2) := by
  unfold cCh
  rw [List.map_append (l₁ := l)]
  rfl
theorem kvs_mid (l q : Ch) (k : Int) (b b' : Pg) (h : b.1 = b'.1) : Ch.kvs (l ++ (k, b) :: q) = Ch.kvs (l ++ (k, b') :: q) := by
  unfold Ch.kvs
  rw [List.map_append, List.map_append, List.map_cons, List.map_cons, h]
theorem dget_fi {H : Hp} {a : Addr} {o : Obj} {kvs : List (Key × V)} {i : Int} {v : V} (h : H a = some (.frz o (.dK kvs))) (e : valV kvs (Sum.inl i) = some v) : DGet H a (.int i) (some v) := .inl ⟨kvs, Sum.inl i, .inr ⟨o, h⟩, rfl, e.symm⟩
theorem ok_inj {α β : Type} {x y : β} (h : (Except.ok x : Except α β) = .ok y) : x = y := by cases h; rfl
theorem if_ok {c : Prop} [Decidable c] {α β : Type} {e : α} {x y : β} (h : (if c then (.error e) else (.ok x) : Except α β) = .ok y) : ¬ c ∧ x = y := by
  by_cases z : c
  · rw [if_pos z] at h; cases h
  · rw [if_neg z] at h; cases h; exact ⟨z, rfl⟩
theorem if_ok2 {c : Prop} [Decidable c] {α β : Type} {e : α} {x : Except α β} {y : β} (h : (if c then (.error e) else x) = .ok y) : ¬ c ∧ x = .ok y := by
  by_cases z : c
  · rw [if_pos z] at h; cases h
  · rw [if_neg z] at h; exact ⟨z, h⟩
theorem if_ok3 {c : Prop} [Decidable c] {α β : Type} {e : α} {x y : β} (h : (if c then (.ok x) else (.error e) : Except α β) = .ok y) : c ∧ x = y := by
  by_cases z : c
  · rw [if_pos z] at h; cases h; exact ⟨z, rfl⟩
  · rw [if_neg z] at h; cases h
theorem mget {α : Type} {f : α → V} {l : List α} {i : Nat} {x : V} (h : (l.map f)[i]? = some x) : ∃ y, l[i]? = some y ∧ x = f y := by
  rw [List.getElem?_map] at h
  cases e : l[i]? with
  | none => rw [e] at h; cases h
  | some y => rw [e] at h; exact ⟨y, rfl, (Option.some.inj h).symm⟩
theorem mgetK {α : Type} {f : α → Key × V} {l : List α} {i : Nat} {x : Key × V} (h : (l.map f)[i]? = some x) : ∃ y, l[i]? = some y ∧ x = f y := by
  rw [List.getElem?_map] at h
  cases e : l[i]? with
  | none => rw [e] at h; cases h
  | some y => rw [e] at h; exact ⟨y, rfl, (Option.some.inj h).symm⟩
/-- the parts of a deed's tuple; b is the list of a poke -/
def RDeed.vs (b : Addr) : RDeed → List V
  | .begin t => [.str "begin", .int t]
  | .close t => [.str "close", .int t]
  | .map t p n => [.str "map", .int t, .int p, .int n]
  | .drop t p n => [.str "drop", .int t, .int p, .int n]
  | .peek t a n => [.str "peek", .int t, .int a, .int n]
  | .poke t a _ => [.str "poke", .int t, .int a, .ref b]
  | .copy t o => [.str "copy", .int t, .int o]
def RDeed.cel (b : Addr) : RDeed → Cells
  | .poke _ _ cs => [(b, .lst (cs.map V.int))]
  | _ => []
def RDeed.fine : RDeed → Prop
  | .poke _ _ cs => cs.length ≤ 64
  | _ => True
/-- a deed's tuple, and its list out of reach of some -/
def DAt (H : Hp) (A : List Addr) (T : Addr) (d : RDeed) (b : Addr) : Prop := H T = some (.tup (d.vs b)) ∧ ∀ e ∈ d.cel b, H e.1 = some e.2 ∧ e.1 ∉ A
/-- the word of an answer -/
def wordA : Except Rf (AWl × Option (List Int)) → Str
  | .error e => e.name
  | .ok _ => ""
def outA : Except Rf (AWl × Option (List Int)) → Option (List Int)
  | .error _ => none
  | .ok (_, o) => o
def nextA (w : AWl) : Except Rf (AWl × Option (List Int)) → AWl
  | .error _ => w
  | .ok (w', _) => w'
abbrev Tol := Option (Addr × List Int)
def Tol.v : Tol → V
  | none => .non
  | some x => .ref x.1
def Tol.cel : Tol → Cells
  | none => []
  | some x => [(x.1, .lst (x.2.map V.int))]

/-! ## pipes and things: what they hold, what they promise -/
structure PiG where
  p : Addr
  dx : Addr
  wa : Addr
  ws : List Int
  rd : Bool
  wr : Bool
abbrev insPi (K : PySem.W.Frag) (x : PiG) : HO := .ins (He.ga K "Pipe") x.dx [("waiting", .ref x.wa), ("reader", .bl x.rd), ("writer", .bl x.wr)]
abbrev cPi (K : PySem.W.Frag) (x : PiG) : Cells := [(x.p, insPi K x), (x.wa, .lst (x.ws.map V.int))]
def sp_Pipe___init__ (K : PySem.W.Frag) : Sp := sp1 fun self H Q _ => ∃ p dx, self = .ref p ∧ Own H H [p] [(p, .ins (He.ga K "Pipe") dx [])] ∧ ∀ H' wa, Own H H' [p] (cPi K ⟨p, dx, wa, [], true, true⟩) → Q .non H'
/-- what draw tells, and what is left -/
def drawB (x : PiG) (m : Int) : Bool := decide (m > 0) && (x.ws.isEmpty && x.wr)
def sp_Pipe_draw (K : PySem.W.Frag) : Sp := sp2 fun self m H Q E => ∃ x n, self = .ref x.p ∧ m = .int n ∧ 0 ≤ n ∧ x.ws.length ≤ 1000 ∧ Own H H (adr (cPi K x)) (cPi K x) ∧ (drawB x n = true → ∀ H', Own H H' (adr (cPi K x)) (cPi K x) → E (.ref (He.ga K "Again")) none H') ∧
  (drawB x n = false → ∀ H' l wa, Own H H' (adr (cPi K x)) ((l, .lst ((x.ws.take n.toNat).map V.int)) :: cPi K { x with wa := wa, ws := x.ws.drop n.toNat }) → Q (.ref l) H')
/-- how pour ends -/
inductive PoA where
  | big | broken | again | ok
def pourA (x : PiG) (k : Nat) : PoA := if k > 16 then .big else if x.rd = false then .broken else if x.ws.length + k > 16 then .again else .ok
def sp_Pipe_pour (K : PySem.W.Frag) : Sp := sp2 fun self c H Q E => ∃ x a, ∃ cs : List Int, self = .ref x.p ∧ c = .ref a ∧ H a = some (.lst (cs.map V.int)) ∧ a ∉ adr (cPi K x) ∧ cs.length ≤ 1000 ∧ x.ws.length ≤ 1000 ∧ Own H H (adr (cPi K x)) (cPi K x) ∧
  (pourA x cs.length = .big → ∀ H', Own H H' (adr (cPi K x)) (cPi K x) → E (.ref (He.ga K "TooBig")) none H') ∧ (pourA x cs.length = .broken → ∀ H', Own H H' (adr (cPi K x)) (cPi K x) → E (.ref (He.ga K "Broken")) none H') ∧ (pourA x cs.length = .again → ∀ H', Own H H' (adr (cPi K x)) (cPi K x) → E (.ref (He.ga K "Again")) none H') ∧
  (pourA x cs.length = .ok → ∀ H' wa, Own H H' (adr (cPi K x)) (cPi K { x with wa := wa, ws := x.ws ++ cs }) → Q (.int (cs.length : Nat)) H')
def shutG (x : PiG) (rd : Bool) (wa : Addr) : PiG := if rd = true then { x with rd := false, wa := wa, ws := [] } else { x with wr := false }
def sp_Pipe_shut (K : PySem.W.Frag) : Sp := sp2 fun self m H Q _ => ∃ x b, self = .ref x.p ∧ m = .bl b ∧ Own H H (adr (cPi K x)) (cPi K x) ∧ ∀ H' wa, Own H H' (adr (cPi K x)) (cPi K (shutG x b wa)) → Q .non H'
structure ThG where
  p : Addr
  dx : Addr
  mode : Str
  node : V
  pipe : V
  at_ : Int
  own : Int
abbrev insTh (K : PySem.W.Frag) (x : ThG) : HO := .ins (He.ga K "Thing") x.dx [("mode", .str x.mode), ("node", x.node), ("pipe", x.pipe), ("at", .int x.at_), ("owners", .int x.own)]
abbrev cTh (K : PySem.W.Frag) (x : ThG) : Addr × HO := (x.p, insTh K x)
def sp_Thing___init__ (K : PySem.W.Frag) : Sp := sp4 fun self m n q H Q _ => ∃ p dx z, self = .ref p ∧ m = .str z ∧ Own H H [p] [(p, .ins (He.ga K "Thing") dx [])] ∧ ∀ H', Own H H' [p] [cTh K ⟨p, dx, z, n, q, 0, 1⟩] → Q .non H'
theorem sc_Pipe___init__ : FnScope ["self"] ["self"] (defScope s_Pipe___init__) := ⟨rfl, rfl, rfl, by decide +kernel, rfl, by decide +kernel, by decide +kernel⟩
theorem ok_Pipe___init__ {P : Program} {w : World} {K : PySem.W.Frag} {mg : Str → Option Value} {base : Heap} (T : Txt K mg) : Cee P w K mg base 1 (He.fAd K ("Pipe", some "__init__")) ["self"] (sp_Pipe___init__ K) := by
  refine cee_of T.d_Pipe___init__ sc_Pipe___init__ (fun _ _ _ _ _ _ us hl => match us, hl with | [_], _ => rfl) (fun vs H Q E h => sp1_len h) (fun cdv A outer s H vs Q E hr h => ⟨_, (pss_cons (ps_fld (pv 0) (pe_lst pa_nil) rfl) (pss_cons (ps_fld (pv 0) pe_bl rfl) (pss_one (ps_fld (pv 0) pe_bl rfl)))), ?_⟩)
  obtain ⟨v0, rfl, h⟩ := h
  dsimp only [cxOf, L2.start]
  obtain ⟨p, dx, rfl, O, k⟩ := h
  walk_at "s"
  intro wa hwa
  have O1 := (O.new (o := .lst []) hwa).perm (List.Perm.swap _ _ _)
  generalize upd H wa _ = H1 at O1 ⊢
  walk_at "s"
  exact k _ wa (((O1.wr .here).wr .here).wr .here)
theorem sc_Pipe_draw : FnScope ["self", "many", "got"] ["self", "many"] (defScope s_Pipe_draw) := ⟨rfl, rfl, rfl, by decide +kernel, rfl, by decide +kernel, by decide +kernel⟩
theorem ok_Pipe_draw {P : Program} {w : World} {K : PySem.W.Frag} {mg : Str → Option Value} {base : Heap} (T : Txt K mg) : Cee P w K mg base 1 (He.fAd K ("Pipe", some "draw")) ["self", "many"] (sp_Pipe_draw K) := by
  refine cee_of T.d_Pipe_draw sc_Pipe_draw (fun _ _ _ _ _ _ us hl => match us, hl with | [_, _], _ => rfl) (fun vs H Q E h => sp2_len h) (fun cdv A outer s H vs Q E hr h => ⟨_, (pss_cons (PS.box (ps_if (PW.pt (pw_and (pt_cmpR op_gt (pv 1) pe_int (nomark _)) (pw_and (pt_cmpR op_eq (pe_callB call_len_seq (by rfl) T.n_len (by decide +kernel) (pa_cons (pe_fld (pv 0) rfl) pa_nil)) pe_int (nomark _)) (pw_and1 (pt_val (pe_fld (pv 0) rfl)))))) (pss_one (L2N.ps_raise rfl (L2N.takes_of rfl rfl rfl rfl) (L2N.pmk_own PySem.F.excBase_ValueError T.x_Again.1 T.g_Again T.x_Again.2.1 (raises_own T.x_Again.2.2.1 T.x_Again.2.2.2) rfl))) pss_nil)) (pss_cons (ps_set (i := 2) sc_Pipe_draw.nd rfl (Or.inl rfl) (pe_slice sl_list (pe_fld (pv 0) rfl) po_none (po_some (pv 1)))) (pss_cons (ps_fld (pv 0) (pe_slice sl_list (pe_fld (pv 0) rfl) (po_some (pv 1)) po_none) rfl) (pss_one (ps_ret (pv 2)))))), ?_⟩)
  obtain ⟨v0, v1, rfl, h⟩ := h
  dsimp only [cxOf, L2.start]
  obtain ⟨x, n, rfl, rfl, n0, hl, O, ke, k⟩ := h
  obtain ⟨m, rfl⟩ : ∃ m : Nat, n = m := ⟨n.toNat, by omega⟩
  have hp := O.get (a := x.p) (o := insPi K x) (.head _)
  have hw := O.get (a := x.wa) (o := .lst (x.ws.map V.int)) (.tail _ (.head _))
  walk_at "s"
  refine cutS (fun σ' H' => σ' = [some (.ref x.p), some (.int m), none] ∧ H' = H ∧ drawB x m = false) (fun nx hn => ?_) ?_
  · walk_at "s"
    refine if_d (fun h1 => ?_) (fun h1 => ?_)
    · walk_at "s"
      refine if_ii (fun h2 => ?_) (fun h2 => ?_)
      · rw [List.length_map] at h2
        have h2e : x.ws.isEmpty = true := List.isEmpty_iff.mpr (List.length_eq_zero_iff.mp (by omega))
        walk_at "s"
        refine if_b (fun h3 => ?_) (fun h3 => ?_)
        · exact ke (by unfold drawB; rw [decide_eq_true h1, h2e, h3]; rfl) _ O
        · exact hn _ _ ⟨rfl, rfl, by unfold drawB; rw [h2e, h3]; simp⟩
      · rw [List.length_map] at h2
        have h2e : x.ws.isEmpty = false := by
          cases hx : x.ws with
          | nil => rw [hx] at h2; exact absurd rfl h2
          | cons => rfl
        exact hn _ _ ⟨rfl, rfl, by unfold drawB; rw [h2e]; simp⟩
    · exact hn _ _ ⟨rfl, rfl, by unfold drawB; rw [decide_eq_false h1]; rfl⟩
  · rintro σ' H' ⟨rfl, rfl, hd⟩
    walk_at "s"
    rw [cutV_to, ← List.map_take]
    intro l hl1
    have O1 := O.new (o := .lst ((x.ws.take m).map V.int)) hl1
    generalize upd H' l _ = H1 at O1 ⊢
    have hp1 := O1.get (a := x.p) (o := insPi K x) (.tail _ (.head _))
    have hw1 := O1.get (a := x.wa) (o := .lst (x.ws.map V.int)) (.tail _ (.tail _ (.head _)))
    walk_at "s"
    rw [cutV_from, ← List.map_drop]
    intro wa hwa
    have O2 := O1.new (o := .lst ((x.ws.drop m).map V.int)) hwa
    generalize upd H1 wa _ = H2 at O2 ⊢
    have hp2 := O2.get (a := x.p) (o := insPi K x) (.tail _ (.tail _ (.head _)))
    walk_at "s"
    refine k hd _ l wa ?_
    have O3 := O2.wr (a := x.p) (o' := insPi K { x with wa := wa, ws := x.ws.drop m }) (.there (.there .here))
    exact (O3.perm (by walk_at "pm" : List.Perm _ ((l, .lst ((x.ws.take m).map V.int)) :: (x.p, insPi K { x with wa := wa, ws := x.ws.drop m }) :: (wa, .lst ((x.ws.drop m).map V.int)) :: [(x.wa, .lst (x.ws.map V.int))]))).drop (.cons₂ _ (.cons₂ _ (.cons₂ _ (List.nil_sublist _))))
theorem sc_Pipe_pour : FnScope ["self", "cells"] ["self", "cells"] (defScope s_Pipe_pour) := ⟨rfl, rfl, rfl, by decide +kernel, rfl, by decide +kernel, by decide +kernel⟩
theorem ok_Pipe_pour {P : Program} {w : World} {K : PySem.W.Frag} {mg : Str → Option Value} {base : Heap} (T : Txt K mg) : Cee P w K mg base 1 (He.fAd K ("Pipe", some "pour")) ["self", "cells"] (sp_Pipe_pour K) := by
  refine cee_of T.d_Pipe_pour sc_Pipe_pour (fun _ _ _ _ _ _ us hl => match us, hl with | [_, _], _ => rfl) (fun vs H Q E h => sp2_len h) (fun cdv A outer s H vs Q E hr h => ⟨_, (pss_cons (ps_if (pt_cmpR op_gt (pe_callB call_len_seq (by rfl) T.n_len (by decide +kernel) (pa_cons (pv 1) pa_nil)) (pe_gc (v := .int 16) rfl (gI T.g_PIPE_ROOM)) (nomark _)) (pss_one (L2N.ps_raise rfl (L2N.takes_of rfl rfl rfl rfl) (L2N.pmk_own PySem.F.excBase_ValueError T.x_TooBig.1 T.g_TooBig T.x_TooBig.2.1 (raises_own T.x_TooBig.2.2.1 T.x_TooBig.2.2.2) rfl))) pss_nil) (pss_cons (ps_if (pt_not (pt_val (pe_fld (pv 0) rfl))) (pss_one (L2N.ps_raise rfl (L2N.takes_of rfl rfl rfl rfl) (L2N.pmk_own PySem.F.excBase_ValueError T.x_Broken.1 T.g_Broken T.x_Broken.2.1 (raises_own T.x_Broken.2.2.1 T.x_Broken.2.2.2) rfl))) pss_nil) (pss_cons (ps_if (pt_cmpR op_gt (pe_op op_add (pe_callB call_len_seq (by rfl) T.n_len (by decide +kernel) (pa_cons (pe_fld (pv 0) rfl) pa_nil)) (pe_callB call_len_seq (by rfl) T.n_len (by decide +kernel) (pa_cons (pv 1) pa_nil))) (pe_gc (v := .int 16) rfl (gI T.g_PIPE_ROOM)) (nomark _)) (pss_one (L2N.ps_raise rfl (L2N.takes_of rfl rfl rfl rfl) (L2N.pmk_own PySem.F.excBase_ValueError T.x_Again.1 T.g_Again T.x_Again.2.1 (raises_own T.x_Again.2.2.1 T.x_Again.2.2.2) rfl))) pss_nil) (pss_cons (ps_fld (pv 0) (pe_op op_cat (pe_fld (pv 0) rfl) (pe_callTy call_list_of (by rfl) T.n_list (by decide +kernel) (pa_cons (pv 1) pa_nil))) rfl) (pss_one (ps_ret (pe_callB call_len_seq (by rfl) T.n_len (by decide +kernel) (pa_cons (pv 1) pa_nil)))))))), ?_⟩)
  obtain ⟨v0, v1, rfl, h⟩ := h
  dsimp only [cxOf, L2.start]
  obtain ⟨x, a, cs, rfl, rfl, ha, han, hc, hl, O, k1, k2, k3, k4⟩ := h
  have hp := O.get (a := x.p) (o := insPi K x) (.head _)
  have hw := O.get (a := x.wa) (o := .lst (x.ws.map V.int)) (.tail _ (.head _))
  walk_at "s"
  refine if_d (fun h1 => ?_) (fun h1 => ?_)
  · rw [List.length_map] at h1
    walk_at "s"
    exact k1 (by unfold pourA; rw [if_pos (by omega)]) _ O
  rw [List.length_map] at h1
  walk_at "s"
  refine if_nb (fun h2 => ?_) (fun h2 => ?_)
  · walk_at "s"
    exact k2 (by unfold pourA; rw [if_neg (by omega), if_pos h2]) _ O
  walk_at "s"
  refine if_d (fun h3 => ?_) (fun h3 => ?_)
  · rw [List.length_map, List.length_map] at h3
    walk_at "s"
    exact k3 (by unfold pourA; rw [if_neg (by omega), if_neg (by rw [h2]; decide), if_pos (by omega)]) _ O
  rw [List.length_map, List.length_map] at h3
  walk_at "s"
  intro b hb
  have O1 := O.new (o := .lst (cs.map V.int)) hb
  have ha1 := (O.self.new (o := .lst (cs.map V.int)) hb).fr _ _ ha han
  generalize upd H b _ = H1 at O1 ha1 ⊢
  have hp1 := O1.get (a := x.p) (o := insPi K x) (.tail _ (.head _))
  have hw1 := O1.get (a := x.wa) (o := .lst (x.ws.map V.int)) (.tail _ (.tail _ (.head _)))
  have hb1 := O1.get (a := b) (o := .lst (cs.map V.int)) (.head _)
  have hsz : (x.ws.map V.int).length + (cs.map V.int).length ≤ sizeLine := sz_le (by rw [List.length_map, List.length_map]; omega)
  walk_at "s"
  intro wa hwa
  rw [← List.map_append]
  have O2 := O1.new (o := .lst ((x.ws ++ cs).map V.int)) hwa
  have ha2 := (O1.self.new (o := .lst ((x.ws ++ cs).map V.int)) hwa).fr _ _ ha1 (fun z => by
    rcases List.mem_cons.mp z with z | z
    · rw [z] at ha; rw [ha] at hb; cases hb
    · exact han z)
  generalize upd H1 wa _ = H2 at O2 ha2 ⊢
  have hp2 := O2.get (a := x.p) (o := insPi K x) (.tail _ (.tail _ (.head _)))
  walk_at "s"
  have O3 := O2.wr (a := x.p) (o' := insPi K { x with wa := wa, ws := x.ws ++ cs }) (.there (.there .here))
  have hpa : a ≠ x.p := fun z => han (by rw [z]; exact .head _)
  have ha3 : (upd H2 x.p (insPi K { x with wa := wa, ws := x.ws ++ cs })) a = some (.lst (cs.map V.int)) := by rw [upd_ne hpa]; exact ha2
  refine ⟨.inl (SqL.of ha3), ?_⟩
  show Q (.int (((cs.map V.int).length : Nat) : Int)) _
  rw [List.length_map]
  have hok : pourA x cs.length = .ok := by unfold pourA; rw [if_neg (by omega), if_neg (by rw [h2]; decide), if_neg (by omega)]
  exact k4 hok _ wa ((O3.perm (by walk_at "pm" : List.Perm _ ((x.p, insPi K { x with wa := wa, ws := x.ws ++ cs }) :: (wa, .lst ((x.ws ++ cs).map V.int)) :: [(b, .lst (cs.map V.int)), (x.wa, .lst (x.ws.map V.int))]))).drop (.cons₂ _ (.cons₂ _ (List.nil_sublist _))))
theorem sc_Pipe_shut : FnScope ["self", "reads"] ["self", "reads"] (defScope s_Pipe_shut) := ⟨rfl, rfl, rfl, by decide +kernel, rfl, by decide +kernel, by decide +kernel⟩
theorem ok_Pipe_shut {P : Program} {w : World} {K : PySem.W.Frag} {mg : Str → Option Value} {base : Heap} (T : Txt K mg) : Cee P w K mg base 1 (He.fAd K ("Pipe", some "shut")) ["self", "reads"] (sp_Pipe_shut K) := by
  refine cee_of T.d_Pipe_shut sc_Pipe_shut (fun _ _ _ _ _ _ us hl => match us, hl with | [_, _], _ => rfl) (fun vs H Q E h => sp2_len h) (fun cdv A outer s H vs Q E hr h => ⟨_, (pss_one (ps_if (pt_val (pv 1)) (pss_cons (ps_fld (pv 0) pe_bl rfl) (pss_one (ps_fld (pv 0) (pe_lst pa_nil) rfl))) (pss_one (ps_fld (pv 0) pe_bl rfl)))), ?_⟩)
  obtain ⟨v0, v1, rfl, h⟩ := h
  dsimp only [cxOf, L2.start]
  obtain ⟨x, b, rfl, rfl, O, k⟩ := h
  have hp := O.get (a := x.p) (o := insPi K x) (.head _)
  walk_at "s"
  refine if_b (fun h1 => ?_) (fun h1 => ?_)
  · subst h1
    walk_at "s"
    intro wa hwa
    have O1 := (O.wr (a := x.p) (o' := insPi K { x with rd := false }) .here).new (o := .lst []) hwa
    walk_at "s"
    refine k _ wa ?_
    have O2 := O1.wr (a := x.p) (o' := insPi K { x with rd := false, wa := wa, ws := [] }) (.there .here)
    exact (O2.perm (List.Perm.swap _ _ _)).drop (.cons₂ _ (.cons₂ _ (List.nil_sublist _)))
  · subst h1
    walk_at "s"
    exact k _ x.wa (O.wr (a := x.p) (o' := insPi K { x with wr := false }) .here)
theorem sc_Thing___init__ : FnScope ["self", "mode", "node", "pipe"] ["self", "mode", "node", "pipe"] (defScope s_Thing___init__) := ⟨rfl, rfl, rfl, by decide +kernel, rfl, by decide +kernel, by decide +kernel⟩
theorem ok_Thing___init__ {P : Program} {w : World} {K : PySem.W.Frag} {mg : Str → Option Value} {base : Heap} (T : Txt K mg) : Cee P w K mg base 1 (He.fAd K ("Thing", some "__init__")) ["self", "mode", "node", "pipe"] (sp_Thing___init__ K) := by
  refine cee_of T.d_Thing___init__ sc_Thing___init__ (fun _ _ _ _ _ _ us hl => match us, hl with | [_, _, _, _], _ => rfl) (fun vs H Q E h => sp4_len h) (fun cdv A outer s H vs Q E hr h => ⟨_, (pss_cons (ps_fld (pv 0) (pv 1) rfl) (pss_cons (ps_fld (pv 0) (pv 2) rfl) (pss_cons (ps_fld (pv 0) (pv 3) rfl) (pss_cons (ps_fld (pv 0) pe_int rfl) (pss_one (ps_fld (pv 0) pe_int rfl)))))), ?_⟩)
  obtain ⟨v0, v1, v2, v3, rfl, h⟩ := h
  dsimp only [cxOf, L2.start]
  obtain ⟨p, dx, z, rfl, rfl, O, k⟩ := h
  walk_at "s"
  exact k _ (((((O.wr .here).wr .here).wr .here).wr .here).wr .here)

/-! ## open things: pipes' ends alone -/
structure AT where
  rd : Bool
  q : Nat
  own : Int
abbrev AP := List Int × Bool × Bool
structure AO where
  last : Nat
  th : List (Int × AT)
  ps : List AP
structure TG where
  p : Addr
  dx : Addr
  at_ : Int
  t : AT
structure OpG where
  p : Addr
  dx : Addr
  TD : Addr
  files : V
  last : Nat
  th : List (Int × TG)
  ps : List PiG
def PiG.abs (x : PiG) : AP := (x.ws, x.rd, x.wr)
def OpG.abs (g : OpG) : AO := ⟨g.last, g.th.map fun x => (x.1, x.2.t), g.ps.map PiG.abs⟩
def modeS : Bool → Str
  | true => "r"
  | false => "w"
def pAt (ps : List PiG) (q : Nat) : Addr := ((ps[q]?).map (·.p)).getD 0
abbrev thD (th : List (Int × TG)) : List (Key × V) := th.map fun x => (Sum.inl x.1, V.ref x.2.p)
def TG.gh (ps : List PiG) (x : TG) : ThG := ⟨x.p, x.dx, modeS x.t.rd, .non, .ref (pAt ps x.t.q), x.at_, x.t.own⟩
abbrev insOp (K : PySem.W.Frag) (g : OpG) : HO := .ins (He.ga K "Opens") g.dx [("files", g.files), ("things", .ref g.TD), ("last", .int (g.last : Nat))]
abbrev cThs (K : PySem.W.Frag) (ps : List PiG) (th : List (Int × TG)) : Cells := th.map fun x => cTh K (x.2.gh ps)
abbrev cPis (K : PySem.W.Frag) (ps : List PiG) : Cells := ps.flatMap (cPi K)
def cOp (K : PySem.W.Frag) (g : OpG) : Cells := (g.p, insOp K g) :: (g.TD, .dK (thD g.th)) :: (cThs K g.ps g.th ++ cPis K g.ps)
structure AOk (a : AO) : Prop where
  nd : (a.th.map (·.1)).Nodup
  ris : (a.th.map (·.1)).Pairwise (· ≤ ·)
  rng : ∀ x ∈ a.th, 1 ≤ x.1 ∧ x.1 ≤ ((a.last : Nat) : Int)
  pip : ∀ x ∈ a.th, x.2.q < a.ps.length
  own : ∀ x ∈ a.th, 1 ≤ x.2.own
  ws : ∀ y ∈ a.ps, y.1.length ≤ 16
  few : a.last ≤ 9000
  len : a.th.length ≤ a.last
inductive ODeed where
  | pipe | more (n : Int) | less (n : Int) | read (n m : Int) | write (n : Int) (cs : List Int) | count (n : Int) | numbers
inductive OAns where
  | none | int (i : Int) | pair (i j : Int) | list (l : List Int)
inductive ORf where
  | noHandle | badMode | tooBig | again | broken
def ORf.cls (K : PySem.W.Frag) : ORf → Value
  | .noHandle => .ref (He.ga K "NoHandle")
  | .badMode => .ref (He.ga K "BadMode")
  | .tooBig => .ref (He.ga K "TooBig")
  | .again => .ref (He.ga K "Again")
  | .broken => .ref (He.ga K "Broken")
def setT (a : AO) (n : Int) (t : AT) : AO := { a with th := setA a.th n t }
def setP (a : AO) (q : Nat) (y : AP) : AO := { a with ps := a.ps.set q y }
def apAt (a : AO) (q : Nat) : AP := (a.ps[q]?).getD ([], false, false)
def shutA (y : AP) (rd : Bool) : AP := if rd = true then ([], false, y.2.2) else (y.1, y.2.1, false)
def semO (a : AO) : ODeed → Except ORf (AO × OAns)
  | .pipe => .ok (⟨a.last + 2, a.th ++ [(((a.last + 1 : Nat) : Int), ⟨true, a.ps.length, 1⟩), (((a.last + 2 : Nat) : Int), ⟨false, a.ps.length, 1⟩)], a.ps ++ [([], true, true)]⟩, .pair ((a.last + 1 : Nat) : Int) ((a.last + 2 : Nat) : Int))
  | .more n => match a.th.lookup n with
    | none => .error .noHandle
    | some t => .ok (setT a n { t with own := t.own + 1 }, .none)
  | .less n => match a.th.lookup n with
    | none => .error .noHandle
    | some t => if t.own > 1 then .ok (setT a n { t with own := t.own - 1 }, .none) else .ok ({ setP a t.q (shutA (apAt a t.q) t.rd) with th := dropA a.th n }, .none)
  | .read n m => match a.th.lookup n with
    | none => .error .noHandle
    | some t => if t.rd = false then .error .badMode else if m < 0 then .error .tooBig else
      if (decide (m > 0) && ((apAt a t.q).1.isEmpty && (apAt a t.q).2.2)) = true then .error .again else .ok (setP a t.q ((apAt a t.q).1.drop m.toNat, (apAt a t.q).2), .list ((apAt a t.q).1.take m.toNat))
  | .write n cs => match a.th.lookup n with
    | none => .error .noHandle
    | some t => if t.rd = true then .error .badMode else if cs.length > 16 then .error .tooBig else if (apAt a t.q).2.1 = false then .error .broken else
      if (apAt a t.q).1.length + cs.length > 16 then .error .again else .ok (setP a t.q ((apAt a t.q).1 ++ cs, (apAt a t.q).2), .int (cs.length : Nat))
  | .count n => match a.th.lookup n with
    | none => .error .noHandle
    | some t => .ok (a, .int t.own)
  | .numbers => .ok (a, .list (a.th.map (·.1)))
/-- what a deed may end in -/
def OAn (K : PySem.W.Frag) (H : Hp) (g : OpG) (r : Except ORf (AO × OAns)) (Q : VK) (E : XK) : Prop :=
  match r with
  | .error e => ∀ H', Own H H' (adr (cOp K g)) (cOp K g) → E (e.cls K) none H'
  | .ok (a', .none) => ∀ H' g', Own H H' (adr (cOp K g)) (cOp K g') → g'.abs = a' → g'.p = g.p → Q .non H'
  | .ok (a', .int i) => ∀ H' g', Own H H' (adr (cOp K g)) (cOp K g') → g'.abs = a' → g'.p = g.p → Q (.int i) H'
  | .ok (a', .pair i j) => ∀ H' g' T, Own H H' (adr (cOp K g)) (cOp K g') → g'.abs = a' → g'.p = g.p → H' T = some (.tup [.int i, .int j]) → Q (.ref T) H'
  | .ok (a', .list l) => ∀ H' g' b, Own H H' (adr (cOp K g)) ((b, .lst (l.map V.int)) :: cOp K g') → g'.abs = a' → g'.p = g.p → Q (.ref b) H'
def sp_Opens___init__ (K : PySem.W.Frag) : Sp := sp2 fun self f H Q _ => ∃ p dx, self = .ref p ∧ Own H H [p] [(p, .ins (He.ga K "Opens") dx [])] ∧ ∀ H' TD, Own H H' [p] (cOp K ⟨p, dx, TD, f, 0, [], []⟩) → Q .non H'
def sp_Opens_thing (K : PySem.W.Frag) : Sp := sp2 fun self x H Q E => ∃ g n, self = .ref g.p ∧ x = .int n ∧ Own H H (adr (cOp K g)) (cOp K g) ∧ (g.th.lookup n = none → E (ORf.noHandle.cls K) none H) ∧ (∀ t, g.th.lookup n = some t → Q (.ref t.p) H)
def sp_Opens_thing_for (K : PySem.W.Frag) : Sp := sp3 fun self x y H Q E => ∃ g n rd, self = .ref g.p ∧ x = .int n ∧ y = .str (modeS rd) ∧ Own H H (adr (cOp K g)) (cOp K g) ∧ (g.th.lookup n = none → E (ORf.noHandle.cls K) none H) ∧ (∀ t, g.th.lookup n = some t → t.t.rd ≠ rd → E (ORf.badMode.cls K) none H) ∧ (∀ t, g.th.lookup n = some t → t.t.rd = rd → Q (.ref t.p) H)
def sp_Opens_new_thing (K : PySem.W.Frag) : Sp := sp4 fun self m nd pp H Q _ => ∃ g rd q, self = .ref g.p ∧ m = .str (modeS rd) ∧ nd = .non ∧ pp = .ref (pAt g.ps q) ∧ g.th.length ≤ 10000 ∧ (∀ x ∈ g.th, x.1 ≤ ((g.last : Nat) : Int)) ∧ Own H H (adr (cOp K g)) (cOp K g) ∧
  ∀ H' t, Own H H' (adr (cOp K g)) (cOp K { g with last := g.last + 1, th := g.th ++ [(((g.last + 1 : Nat) : Int), t)] }) → t.t = ⟨rd, q, 1⟩ → Q (.int ((g.last + 1 : Nat) : Int)) H'
theorem thD_val (th : List (Int × TG)) (n : Int) : valV (thD th) (Sum.inl n) = (th.lookup n).map fun x => V.ref x.p := lk_val (fun x : TG => V.ref x.p) th n
theorem th_mem {K : PySem.W.Frag} {g : OpG} {n : Int} {t : TG} (h : g.th.lookup n = some t) : cTh K (t.gh g.ps) ∈ cOp K g := .tail _ (.tail _ (List.mem_append_left _ (List.mem_map.mpr ⟨(n, t), lk_mem h, rfl⟩)))
theorem r_eq : ("r" : Str) = ⟨#[114]⟩ := by decide +kernel
theorem w_eq : ("w" : Str) = ⟨#[119]⟩ := by decide +kernel
theorem way_in (rd e : Bool) : (!decide ((if rd = true then 114 else 119) ∈ (modeS e).cps.toList)) = decide (e ≠ rd) := by
  cases rd <;> cases e <;> decide +kernel
theorem modeS_eq (rd : Bool) : modeS rd = ⟨#[if rd = true then 114 else 119]⟩ := by cases rd <;> decide +kernel
theorem th_perm (a b c : Addr × HO) (A B : Cells) : List.Perm (a :: b :: c :: (A ++ B)) (b :: c :: ((A ++ [a]) ++ B)) := by walk_at "pm"
theorem sc_Opens___init__ : FnScope ["self", "files"] ["self", "files"] (defScope s_Opens___init__) := ⟨rfl, rfl, rfl, by decide +kernel, rfl, by decide +kernel, by decide +kernel⟩
theorem ok_Opens___init__ {P : Program} {w : World} {K : PySem.W.Frag} {mg : Str → Option Value} {base : Heap} (T : Txt K mg) : Cee P w K mg base 1 (He.fAd K ("Opens", some "__init__")) ["self", "files"] (sp_Opens___init__ K) := by
  refine cee_of T.d_Opens___init__ sc_Opens___init__ (fun _ _ _ _ _ _ us hl => match us, hl with | [_, _], _ => rfl) (fun vs H Q E h => sp2_len h) (fun cdv A outer s H vs Q E hr h => ⟨_, (pss_cons (ps_fld (pv 0) (pv 1) rfl) (pss_cons (ps_fld (pv 0) pe_dnewK rfl) (pss_one (ps_fld (pv 0) pe_int rfl)))), ?_⟩)
  obtain ⟨v0, v1, rfl, h⟩ := h
  dsimp only [cxOf, L2.start]
  obtain ⟨p, dx, rfl, O, k⟩ := h
  walk_at "s"
  intro TD hTD
  have O1 := ((O.wr (a := p) (o' := .ins (He.ga K "Opens") dx [("files", v1)]) .here).new (o := .dK []) hTD).perm (List.Perm.swap _ _ _)
  walk_at "s"
  exact k _ TD ((O1.wr .here).wr .here)
theorem sc_Opens_thing : FnScope ["self", "n"] ["self", "n"] (defScope s_Opens_thing) := ⟨rfl, rfl, rfl, by decide +kernel, rfl, by decide +kernel, by decide +kernel⟩
theorem ok_Opens_thing {P : Program} {w : World} {K : PySem.W.Frag} {mg : Str → Option Value} {base : Heap} (T : Txt K mg) : Cee P w K mg base 1 (He.fAd K ("Opens", some "thing")) ["self", "n"] (sp_Opens_thing K) := by
  refine cee_of T.d_Opens_thing sc_Opens_thing (fun _ _ _ _ _ _ us hl => match us, hl with | [_, _], _ => rfl) (fun vs H Q E h => sp2_len h) (fun cdv A outer s H vs Q E hr h => ⟨_, (pss_cons (ps_if (pt_cmp (pc_dnotin (hu_of hr) (pv 1) (pe_fld (pv 0) rfl)) (by with_unfolding_all rfl)) (pss_one (L2N.ps_raise rfl (L2N.takes_of rfl rfl rfl rfl) (L2N.pmk_own PySem.F.excBase_ValueError T.x_NoHandle.1 T.g_NoHandle T.x_NoHandle.2.1 (raises_own T.x_NoHandle.2.2.1 T.x_NoHandle.2.2.2) rfl))) pss_nil) (pss_one (ps_ret (pe_dget (hu_of hr) (pe_fld (pv 0) rfl) (pv 1) (fun _ _ => rfl))))), ?_⟩)
  obtain ⟨v0, v1, rfl, h⟩ := h
  dsimp only [cxOf, L2.start]
  obtain ⟨g, n, rfl, rfl, O, ke, k⟩ := h
  have hp := O.get (a := g.p) (o := insOp K g) (.head _)
  have hd := O.get (a := g.TD) (o := .dK (thD g.th)) (.tail _ (.head _))
  walk_at "s"
  rw [thD_val, Option.isSome_map]
  cases hz : g.th.lookup n with
  | none =>
    refine if_t rfl ?_
    walk_at "s"
    exact ke hz
  | some t =>
    refine if_f rfl ?_
    have hvt : valV (thD g.th) (Sum.inl n) = some (.ref t.p) := by rw [thD_val, hz]; rfl
    walk_at "s"
    exact k t hz
theorem sc_Opens_thing_for : FnScope ["self", "n", "way", "thing"] ["self", "n", "way"] (defScope s_Opens_thing_for) := ⟨rfl, rfl, rfl, by decide +kernel, rfl, by decide +kernel, by decide +kernel⟩
theorem ok_Opens_thing_for {P : Program} {w : World} {K : PySem.W.Frag} {mg : Str → Option Value} {base : Heap} (T : Txt K mg) : Cee P w K mg base 2 (He.fAd K ("Opens", some "thing_for")) ["self", "n", "way"] (sp_Opens_thing_for K) := by
  have c_Opens_thing : Cee P w K mg base 1 (He.fAd K ("Opens", some "thing")) ["self", "n"] (sp_Opens_thing K) := ok_Opens_thing T
  refine cee_of T.d_Opens_thing_for sc_Opens_thing_for (fun _ _ _ _ _ _ us hl => match us, hl with | [_, _, _], _ => rfl) (fun vs H Q E h => sp3_len h) (fun cdv A outer s H vs Q E hr h => ⟨_, (pss_cons (ps_set (i := 3) sc_Opens_thing_for.nd rfl (Or.inl rfl) (pe_m (pv 0) T.c_Opens T.m_Opens_thing c_Opens_thing (hr.mono (by decide)) (L2N.takes_of rfl rfl rfl rfl) (pa_cons (pv 1) pa_nil))) (pss_cons (ps_if (pt_cmpR op_notIn_sign (pv 2) (pe_fld (pv 3) rfl) (by with_unfolding_all rfl)) (pss_one (L2N.ps_raise rfl (L2N.takes_of rfl rfl rfl rfl) (L2N.pmk_own PySem.F.excBase_ValueError T.x_BadMode.1 T.g_BadMode T.x_BadMode.2.1 (raises_own T.x_BadMode.2.2.1 T.x_BadMode.2.2.2) rfl))) pss_nil) (pss_one (ps_ret (pv 3))))), ?_⟩)
  obtain ⟨v0, v1, v2, rfl, h⟩ := h
  dsimp only [cxOf, L2.start]
  obtain ⟨g, n, rd, rfl, rfl, rfl, O, k0, k1, k2⟩ := h
  walk_at "s"
  refine ask2 ⟨g, n, rfl, rfl, O, k0, fun t ht => ?_⟩
  have htc := O.get (a := t.p) (o := insTh K (t.gh g.ps)) (th_mem ht)
  rw [modeS_eq rd]
  walk_at "s"
  rw [show (TG.gh g.ps t).mode = modeS t.t.rd from rfl, way_in]
  refine if_d (fun h => ?_) (fun h => ?_)
  · walk_at "s"
    exact k1 t ht h
  · walk_at "s"
    exact k2 t ht (Decidable.not_not.mp h)
theorem sc_Opens_new_thing : FnScope ["self", "mode", "node", "pipe"] ["self", "mode", "node", "pipe"] (defScope s_Opens_new_thing) := ⟨rfl, rfl, rfl, by decide +kernel, rfl, by decide +kernel, by decide +kernel⟩
theorem ok_Opens_new_thing {P : Program} {w : World} {K : PySem.W.Frag} {mg : Str → Option Value} {base : Heap} (T : Txt K mg) : Cee P w K mg base 3 (He.fAd K ("Opens", some "new_thing")) ["self", "mode", "node", "pipe"] (sp_Opens_new_thing K) := by
  have c_Thing___init__ : Cee P w K mg base 1 (He.fAd K ("Thing", some "__init__")) ["self", "mode", "node", "pipe"] (sp_Thing___init__ K) := ok_Thing___init__ T
  refine cee_of T.d_Opens_new_thing sc_Opens_new_thing (fun _ _ _ _ _ _ us hl => match us, hl with | [_, _, _, _], _ => rfl) (fun vs H Q E h => sp4_len h) (fun cdv A outer s H vs Q E hr h => ⟨_, (pss_cons (ps_fldaug (pv 0) pe_int in_add) (pss_cons (ps_dput (hu_of hr) (pe_fld (pv 0) rfl) (pe_fld (pv 0) rfl) (pe_n T.m_Thing c_Thing___init__ (hr.mono (by decide)) (by rfl) T.g_Thing (pa_cons (pv 1) (pa_cons (pv 2) (pa_cons (pv 3) pa_nil)))) rfl) (pss_one (ps_ret (pe_fld (pv 0) rfl))))), ?_⟩)
  obtain ⟨v0, v1, v2, v3, rfl, h⟩ := h
  dsimp only [cxOf, L2.start]
  obtain ⟨g, rd, q, rfl, rfl, rfl, rfl, hl, hr, O, k⟩ := h
  have hp := O.get (a := g.p) (o := insOp K g) (.head _)
  have hd := O.get (a := g.TD) (o := .dK (thD g.th)) (.tail _ (.head _))
  walk_at "s"
  intro x dx h1 h2 hne
  have O1 := (O.wr (a := g.p) (o' := insOp K { g with last := g.last + 1 }) .here).inst (C := He.ga K "Thing") h1 h2 hne
  refine ask4 ⟨x, dx, modeS rd, rfl, rfl, O1.blk (s' := []) .one, fun H4 O2 => ?_⟩
  have O3 := O1.call (s' := [cTh K ⟨x, dx, modeS rd, .non, .ref (pAt g.ps q), 0, 1⟩]) .one O2
  clear O1 O2 hp hd
  have hp := O3.get (a := g.p) (o := insOp K { g with last := g.last + 1 }) (.tail _ (.head _))
  have hd := O3.get (a := g.TD) (o := .dK (thD g.th)) (.tail _ (.tail _ (.head _)))
  walk_at "s"
  have hnew : (Sum.inl (((g.last + 1 : Nat) : Int)) : Key) ∉ (thD g.th).map (·.1) := fun z => by
    rw [List.map_map] at z
    obtain ⟨y, hy, e⟩ := List.mem_map.mp z
    have h1 := hr y hy
    have h2 : y.1 = ((g.last + 1 : Nat) : Int) := Sum.inl.inj e
    omega
  have e1 : putK (thD g.th) (Sum.inl (((g.last + 1 : Nat) : Int))) (.ref x) = thD (g.th ++ [(((g.last + 1 : Nat) : Int), ⟨x, dx, 0, ⟨rd, q, 1⟩⟩)]) := by
    rw [putK_new hnew]
    simp [thD]
  have O4 := O3.wr (a := g.TD) (o' := .dK (putK (thD g.th) (Sum.inl (((g.last + 1 : Nat) : Int))) (.ref x))) (.there (.there .here))
  refine k _ ⟨x, dx, 0, ⟨rd, q, 1⟩⟩ ?_ rfl
  refine O4.perm ?_
  rw [e1]
  unfold cOp
  rw [show cThs K g.ps (g.th ++ [(((g.last + 1 : Nat) : Int), (⟨x, dx, 0, ⟨rd, q, 1⟩⟩ : TG))]) = cThs K g.ps g.th ++ [cTh K ⟨x, dx, modeS rd, .non, .ref (pAt g.ps q), 0, 1⟩] by simp [cThs, TG.gh]]
  exact th_perm _ _ _ _ _
def sp_Opens_open_pipe (K : PySem.W.Frag) : Sp := sp1 fun self H Q E => ∃ g, self = .ref g.p ∧ AOk g.abs ∧ Own H H (adr (cOp K g)) (cOp K g) ∧ OAn K H g (semO g.abs .pipe) Q E
def sp_Opens_more (K : PySem.W.Frag) : Sp := sp2 fun self x H Q E => ∃ g n, self = .ref g.p ∧ x = .int n ∧ AOk g.abs ∧ Own H H (adr (cOp K g)) (cOp K g) ∧ OAn K H g (semO g.abs (.more n)) Q E
def sp_Opens_less (K : PySem.W.Frag) : Sp := sp2 fun self x H Q E => ∃ g n, self = .ref g.p ∧ x = .int n ∧ AOk g.abs ∧ Own H H (adr (cOp K g)) (cOp K g) ∧ OAn K H g (semO g.abs (.less n)) Q E
def sp_Opens_read (K : PySem.W.Frag) : Sp := sp3 fun self x y H Q E => ∃ g n m, self = .ref g.p ∧ x = .int n ∧ y = .int m ∧ AOk g.abs ∧ Own H H (adr (cOp K g)) (cOp K g) ∧ OAn K H g (semO g.abs (.read n m)) Q E
def sp_Opens_write (K : PySem.W.Frag) : Sp := sp3 fun self x y H Q E => ∃ g n a, ∃ cs : List Int, self = .ref g.p ∧ x = .int n ∧ y = .ref a ∧ H a = some (.lst (cs.map V.int)) ∧ a ∉ adr (cOp K g) ∧ cs.length ≤ 1000 ∧ AOk g.abs ∧ Own H H (adr (cOp K g)) (cOp K g) ∧ OAn K H g (semO g.abs (.write n cs)) Q E
def sp_Opens_count (K : PySem.W.Frag) : Sp := sp2 fun self x H Q E => ∃ g n, self = .ref g.p ∧ x = .int n ∧ AOk g.abs ∧ Own H H (adr (cOp K g)) (cOp K g) ∧ OAn K H g (semO g.abs (.count n)) Q E
def sp_Opens_numbers (K : PySem.W.Frag) : Sp := sp1 fun self H Q E => ∃ g, self = .ref g.p ∧ AOk g.abs ∧ Own H H (adr (cOp K g)) (cOp K g) ∧ OAn K H g (semO g.abs .numbers) Q E

theorem setA_map' {α β : Type} (f : α → β) (m : List (Int × α)) (k : Int) (v : α) : (setA m k v).map (fun x => (x.1, f x.2)) = setA (m.map fun x => (x.1, f x.2)) k (f v) := by
  unfold setA
  rw [List.map_map, List.map_map]
  refine List.map_congr_left fun x _ => ?_
  show (_, f _) = if x.1 = k then _ else _
  split <;> rename_i h <;> simp [h]
theorem abs_look (g : OpG) (n : Int) : g.abs.th.lookup n = (g.th.lookup n).map (·.t) := lk_map (fun x : TG => x.t) g.th n
theorem pAt_set {ps : List PiG} {q : Nat} {x x' : PiG} (h : ps[q]? = some x) (hp : x'.p = x.p) : pAt (ps.set q x') = pAt ps := funext fun k => by
  unfold pAt
  rw [List.getElem?_set]
  split
  · next e =>
    subst e
    rw [if_pos (List.getElem?_eq_some_iff.mp h).1, h]
    exact hp
  · rfl
theorem op_pipe {K : PySem.W.Frag} {g : OpG} {q : Nat} {x x' : PiG} (h : g.ps[q]? = some x) (hp : x'.p = x.p) : Sub (cOp K g) (cPi K x) (cPi K x') (cOp K { g with ps := g.ps.set q x' }) := by
  obtain ⟨hq, hx⟩ := List.getElem?_eq_some_iff.mp h
  have e1 : g.ps = g.ps.take q ++ x :: g.ps.drop (q + 1) := by
    rw [← hx, ← List.drop_eq_getElem_cons hq, List.take_append_drop]
  have e2 : g.ps.set q x' = g.ps.take q ++ x' :: g.ps.drop (q + 1) := List.set_eq_take_append_cons_drop .. |>.trans (if_pos hq)
  have e3 : cThs K (g.ps.set q x') g.th = cThs K g.ps g.th := by
    unfold cThs TG.gh
    rw [pAt_set h hp]
  have e4 : cPis K g.ps = cPis K (g.ps.take q) ++ (cPi K x ++ cPis K (g.ps.drop (q + 1))) := by
    conv => lhs; rw [e1]
    simp [cPis]
  have e5 : cPis K (g.ps.set q x') = cPis K (g.ps.take q) ++ (cPi K x' ++ cPis K (g.ps.drop (q + 1))) := by
    rw [e2]
    simp [cPis]
  show Sub ((g.p, insOp K g) :: (g.TD, .dK (thD g.th)) :: (cThs K g.ps g.th ++ cPis K g.ps)) _ _ ((g.p, insOp K g) :: (g.TD, .dK (thD g.th)) :: (cThs K (g.ps.set q x') g.th ++ cPis K (g.ps.set q x')))
  rw [e3, e4, e5]
  exact .there (.there (.app (.app .here)))
theorem op_th {K : PySem.W.Frag} {g : OpG} {n : Int} {t t' : TG} (ok : AOk g.abs) (h : g.th.lookup n = some t) (hp : t'.p = t.p) : At (cOp K g) t.p (insTh K (t.gh g.ps)) (insTh K (t'.gh g.ps)) (cOp K { g with th := setA g.th n t' }) := by
  obtain ⟨l, q, e, _⟩ := lk_split h
  have nd : ((l ++ (n, t) :: q).map (·.1)).Nodup := by
    have := ok.nd
    unfold OpG.abs at this
    rw [List.map_map] at this
    rw [← e]
    exact this
  have e2 : setA g.th n t' = l ++ (n, t') :: q := by rw [e]; exact setA_mid nd
  have e3 : thD (l ++ (n, t') :: q) = thD (l ++ (n, t) :: q) := by simp [thD, hp]
  show At ((g.p, insOp K g) :: (g.TD, .dK (thD g.th)) :: (cThs K g.ps g.th ++ cPis K g.ps)) _ _ _ ((g.p, insOp K g) :: (g.TD, .dK (thD (setA g.th n t'))) :: (cThs K g.ps (setA g.th n t') ++ cPis K g.ps))
  rw [e2, e3, e]
  rw [show cThs K g.ps (l ++ (n, t) :: q) = cThs K g.ps l ++ cTh K (t.gh g.ps) :: cThs K g.ps q by simp [cThs], show cThs K g.ps (l ++ (n, t') :: q) = cThs K g.ps l ++ cTh K (t'.gh g.ps) :: cThs K g.ps q by simp [cThs]]
  have : cTh K (t'.gh g.ps) = (t.p, insTh K (t'.gh g.ps)) := by
    show (t'.p, _) = _
    rw [hp]
  rw [this]
  exact .there (.there (.appl (.app .here)))
theorem set_abs {g : OpG} {n : Int} {t' : TG} : ({ g with th := setA g.th n t' } : OpG).abs = setT g.abs n t'.t := by
  unfold OpG.abs setT
  congr 1
  exact setA_map' (fun x : TG => x.t) g.th n t'
theorem ps_abs {g : OpG} {q : Nat} {x' : PiG} : ({ g with ps := g.ps.set q x' } : OpG).abs = setP g.abs q x'.abs := by
  unfold OpG.abs setP
  congr 1
  exact List.map_set
theorem pAt_at {ps : List PiG} {q : Nat} {x : PiG} (h : ps[q]? = some x) : pAt ps q = x.p := by
  unfold pAt
  rw [h]
  rfl
theorem pi_sub {K : PySem.W.Frag} {g : OpG} {q : Nat} {x : PiG} (h : g.ps[q]? = some x) : Sub (cOp K g) (cPi K x) (cPi K x) (cOp K g) := by
  have := op_pipe (K := K) (x' := x) h rfl
  rwa [show ({ g with ps := g.ps.set q x } : OpG) = g by
    obtain ⟨hq, hx⟩ := List.getElem?_eq_some_iff.mp h
    rw [← hx, List.set_getElem_self]] at this
theorem op_at {g : OpG} {n : Int} {t : TG} (ok : AOk g.abs) (h : g.th.lookup n = some t) : ∃ x, g.ps[t.t.q]? = some x ∧ x.ws.length ≤ 16 ∧ apAt g.abs t.t.q = x.abs := by
  have h1 : t.t.q < g.abs.ps.length := ok.pip (n, t.t) (List.mem_map.mpr ⟨(n, t), lk_mem h, rfl⟩)
  have h2 : t.t.q < g.ps.length := by
    have := h1
    unfold OpG.abs at this
    rwa [List.length_map] at this
  refine ⟨g.ps[t.t.q], List.getElem?_eq_getElem h2, ok.ws _ (List.mem_map.mpr ⟨g.ps[t.t.q], List.getElem_mem h2, rfl⟩), ?_⟩
  unfold apAt OpG.abs
  rw [List.getElem?_map, List.getElem?_eq_getElem h2]
  rfl
theorem pi_adr {K : PySem.W.Frag} {g : OpG} {q : Nat} {x : PiG} {a : Addr} (h : g.ps[q]? = some x) (z : a ∈ adr (cPi K x)) : a ∈ adr (cOp K g) := by
  obtain ⟨l, r, e, _⟩ := (pi_sub (K := K) h).split
  rw [e]
  unfold adr at z ⊢
  rw [List.map_append, List.map_append]
  exact List.mem_append_right _ (List.mem_append_left _ z)
theorem mode_r (rd : Bool) : decide (V.str (modeS rd) = V.str "r") = rd := by cases rd <;> decide +kernel
theorem shutG_p (x : PiG) (b : Bool) (wa : Addr) : (shutG x b wa).p = x.p := by unfold shutG; split <;> rfl
theorem shutG_abs (x : PiG) (b : Bool) (wa : Addr) : (shutG x b wa).abs = shutA x.abs b := by unfold shutG shutA; split <;> rfl
theorem op_new {K : PySem.W.Frag} {g : OpG} {x : PiG} (ok : AOk g.abs) : List.Perm (cPi K x ++ cOp K g) (cOp K { g with ps := g.ps ++ [x] }) := by
  have e3 : cThs K (g.ps ++ [x]) g.th = cThs K g.ps g.th := by
    refine List.map_congr_left fun y hy => ?_
    have h1 : y.2.t.q < g.abs.ps.length := ok.pip (y.1, y.2.t) (List.mem_map.mpr ⟨y, hy, rfl⟩)
    have h2 : y.2.t.q < g.ps.length := by
      have := h1
      unfold OpG.abs at this
      rwa [List.length_map] at this
    unfold TG.gh pAt
    rw [List.getElem?_append_left h2]
  show List.Perm _ ((g.p, insOp K g) :: (g.TD, .dK (thD g.th)) :: (cThs K (g.ps ++ [x]) g.th ++ cPis K (g.ps ++ [x])))
  rw [e3, show cPis K (g.ps ++ [x]) = cPis K g.ps ++ cPi K x by simp [cPis]]
  show List.Perm (_ :: _ :: (g.p, insOp K g) :: (g.TD, .dK (thD g.th)) :: (cThs K g.ps g.th ++ cPis K g.ps)) _
  walk_at "pm"
theorem pAt_new (ps : List PiG) (x : PiG) : pAt (ps ++ [x]) ps.length = x.p := pAt_at (by simp)

theorem sc_Opens_count : FnScope ["self", "n"] ["self", "n"] (defScope s_Opens_count) := ⟨rfl, rfl, rfl, by decide +kernel, rfl, by decide +kernel, by decide +kernel⟩
theorem ok_Opens_count {P : Program} {w : World} {K : PySem.W.Frag} {mg : Str → Option Value} {base : Heap} (T : Txt K mg) : Cee P w K mg base 2 (He.fAd K ("Opens", some "count")) ["self", "n"] (sp_Opens_count K) := by
  have c_Opens_thing : Cee P w K mg base 1 (He.fAd K ("Opens", some "thing")) ["self", "n"] (sp_Opens_thing K) := ok_Opens_thing T
  refine cee_of T.d_Opens_count sc_Opens_count (fun _ _ _ _ _ _ us hl => match us, hl with | [_, _], _ => rfl) (fun vs H Q E h => sp2_len h) (fun cdv A outer s H vs Q E hr h => ⟨_, (pss_one (ps_ret (pe_fld (pe_m (pv 0) T.c_Opens T.m_Opens_thing c_Opens_thing (hr.mono (by decide)) (L2N.takes_of rfl rfl rfl rfl) (pa_cons (pv 1) pa_nil)) rfl))), ?_⟩)
  obtain ⟨v0, v1, rfl, h⟩ := h
  dsimp only [cxOf, L2.start]
  obtain ⟨g, n, rfl, rfl, ok, O, k⟩ := h
  walk_at "s"
  cases hz : g.th.lookup n with
  | none =>
    rw [show semO g.abs (.count n) = .error .noHandle by show (match g.abs.th.lookup n with | none => _ | some t => _) = _; rw [abs_look, hz]; rfl] at k
    refine ask2 ⟨g, n, rfl, rfl, O, fun _ => k _ O, fun t ht => by rw [hz] at ht; cases ht⟩
  | some t =>
    rw [show semO g.abs (.count n) = .ok (g.abs, .int t.t.own) by show (match g.abs.th.lookup n with | none => _ | some t => _) = _; rw [abs_look, hz]; rfl] at k
    refine ask2 ⟨g, n, rfl, rfl, O, (fun hn => by rw [hz] at hn; cases hn), fun t2 ht => ?_⟩
    rw [hz] at ht
    cases ht
    have htc := O.get (a := t.p) (o := insTh K (t.gh g.ps)) (th_mem hz)
    walk_at "s"
    exact k _ g O rfl rfl
theorem sc_Opens_more : FnScope ["self", "n", "thing"] ["self", "n"] (defScope s_Opens_more) := ⟨rfl, rfl, rfl, by decide +kernel, rfl, by decide +kernel, by decide +kernel⟩
theorem ok_Opens_more {P : Program} {w : World} {K : PySem.W.Frag} {mg : Str → Option Value} {base : Heap} (T : Txt K mg) : Cee P w K mg base 2 (He.fAd K ("Opens", some "more")) ["self", "n"] (sp_Opens_more K) := by
  have c_Opens_thing : Cee P w K mg base 1 (He.fAd K ("Opens", some "thing")) ["self", "n"] (sp_Opens_thing K) := ok_Opens_thing T
  refine cee_of T.d_Opens_more sc_Opens_more (fun _ _ _ _ _ _ us hl => match us, hl with | [_, _], _ => rfl) (fun vs H Q E h => sp2_len h) (fun cdv A outer s H vs Q E hr h => ⟨_, (pss_cons (ps_set (i := 2) sc_Opens_more.nd rfl (Or.inl rfl) (pe_m (pv 0) T.c_Opens T.m_Opens_thing c_Opens_thing (hr.mono (by decide)) (L2N.takes_of rfl rfl rfl rfl) (pa_cons (pv 1) pa_nil))) (pss_one (ps_fldaug (pv 2) pe_int in_add))), ?_⟩)
  obtain ⟨v0, v1, rfl, h⟩ := h
  dsimp only [cxOf, L2.start]
  obtain ⟨g, n, rfl, rfl, ok, O, k⟩ := h
  walk_at "s"
  cases hz : g.th.lookup n with
  | none =>
    rw [show semO g.abs (.more n) = .error .noHandle by show (match g.abs.th.lookup n with | none => _ | some t => _) = _; rw [abs_look, hz]; rfl] at k
    refine ask2 ⟨g, n, rfl, rfl, O, fun _ => k _ O, fun t ht => by rw [hz] at ht; cases ht⟩
  | some t =>
    rw [show semO g.abs (.more n) = .ok (setT g.abs n { t.t with own := t.t.own + 1 }, .none) by show (match g.abs.th.lookup n with | none => _ | some t => _) = _; rw [abs_look, hz]; rfl] at k
    refine ask2 ⟨g, n, rfl, rfl, O, (fun hn => by rw [hz] at hn; cases hn), fun t2 ht => ?_⟩
    rw [hz] at ht
    cases ht
    have htc := O.get (a := t.p) (o := insTh K (t.gh g.ps)) (th_mem hz)
    walk_at "s"
    exact k _ { g with th := setA g.th n { t with t := { t.t with own := t.t.own + 1 } } } (O.wr (a := t.p) (o' := insTh K (({ t with t := { t.t with own := t.t.own + 1 } } : TG).gh g.ps)) (op_th (t' := { t with t := { t.t with own := t.t.own + 1 } }) ok hz rfl)) set_abs rfl
theorem sc_Opens_numbers : FnScope ["self"] ["self"] (defScope s_Opens_numbers) := ⟨rfl, rfl, rfl, by decide +kernel, rfl, by decide +kernel, by decide +kernel⟩
theorem ok_Opens_numbers {P : Program} {w : World} {K : PySem.W.Frag} {mg : Str → Option Value} {base : Heap} (T : Txt K mg) : Cee P w K mg base 1 (He.fAd K ("Opens", some "numbers")) ["self"] (sp_Opens_numbers K) := by
  refine cee_of T.d_Opens_numbers sc_Opens_numbers (fun _ _ _ _ _ _ us hl => match us, hl with | [_], _ => rfl) (fun vs H Q E h => sp1_len h) (fun cdv A outer s H vs Q E hr h => ⟨_, (pss_one (ps_ret (pe_callB (call_sortedDW rfl) (by rfl) T.n_sorted (by decide +kernel) (pa_cons (pe_fld (pv 0) rfl) pa_nil)))), ?_⟩)
  obtain ⟨v0, rfl, h⟩ := h
  dsimp only [cxOf, L2.start]
  obtain ⟨g, rfl, ok, O, k⟩ := h
  have hp := O.get (a := g.p) (o := insOp K g) (.head _)
  have hd := O.get (a := g.TD) (o := .dK (thD g.th)) (.tail _ (.head _))
  walk_at "s"
  refine ⟨show (thD g.th).map (·.1) = (g.th.map (·.1)).map Sum.inl by (rw [List.map_map, List.map_map]; rfl), fun ys b hys hsrt hb => ?_⟩
  have e : ys = g.abs.th.map (·.1) := by
    refine List.Perm.eq_of_pairwise (le := (· ≤ ·)) (fun a b _ _ h1 h2 => Int.le_antisymm h1 h2) hsrt ok.ris ?_
    rw [show g.abs.th.map (·.1) = g.th.map (·.1) by unfold OpG.abs; rw [List.map_map]; rfl]
    exact hys
  subst e
  exact k _ g b (O.new hb) rfl rfl
theorem sc_Opens_read : FnScope ["self", "n", "many", "thing", "cells"] ["self", "n", "many"] (defScope s_Opens_read) := ⟨rfl, rfl, rfl, by decide +kernel, rfl, by decide +kernel, by decide +kernel⟩
theorem ok_Opens_read {P : Program} {w : World} {K : PySem.W.Frag} {mg : Str → Option Value} {base : Heap} (T : Txt K mg) : Cee P w K mg base 3 (He.fAd K ("Opens", some "read")) ["self", "n", "many"] (sp_Opens_read K) := by
  have c_Opens_thing_for : Cee P w K mg base 2 (He.fAd K ("Opens", some "thing_for")) ["self", "n", "way"] (sp_Opens_thing_for K) := ok_Opens_thing_for T
  have c_Pipe_draw : Cee P w K mg base 1 (He.fAd K ("Pipe", some "draw")) ["self", "many"] (sp_Pipe_draw K) := ok_Pipe_draw T
  have c_PlainFiles_read_at : Cee P w K mg base 1 (He.fAd K ("PlainFiles", some "read_at")) ["self", "node", "at", "many"] spWall := okW_PlainFiles_read_at T
  refine cee_of T.d_Opens_read sc_Opens_read (fun _ _ _ _ _ _ us hl => match us, hl with | [_, _, _], _ => rfl) (fun vs H Q E h => sp3_len h) (fun cdv A outer s H vs Q E hr h => ⟨_, (pss_cons (ps_set (i := 3) sc_Opens_read.nd rfl (Or.inl rfl) (pe_m (pv 0) T.c_Opens T.m_Opens_thing_for c_Opens_thing_for (hr.mono (by decide)) (L2N.takes_of rfl rfl rfl rfl) (pa_cons (pv 1) (pa_cons pe_str pa_nil)))) (pss_cons (ps_if (pt_cmpR op_lt (pv 2) pe_int (nomark _)) (pss_one (L2N.ps_raise rfl (L2N.takes_of rfl rfl rfl rfl) (L2N.pmk_own PySem.F.excBase_ValueError T.x_TooBig.1 T.g_TooBig T.x_TooBig.2.1 (raises_own T.x_TooBig.2.2.1 T.x_TooBig.2.2.2) rfl))) pss_nil) (pss_cons (ps_if (pt_cmpR op_notN (pe_fld (pv 3) rfl) pe_non (nomark _)) (pss_one (ps_ret (pe_m (pe_fld (pv 3) rfl) T.c_Pipe T.m_Pipe_draw c_Pipe_draw (hr.mono (by decide)) (L2N.takes_of rfl rfl rfl rfl) (pa_cons (pv 2) pa_nil)))) pss_nil) (pss_cons (ps_set (i := 4) sc_Opens_read.nd rfl (Or.inl rfl) (pe_m (pe_fld (pv 0) rfl) T.c_PlainFiles T.m_PlainFiles_read_at c_PlainFiles_read_at (hr.mono (by decide)) (L2N.takes_of rfl rfl rfl rfl) (pa_cons (pe_fld (pv 3) rfl) (pa_cons (pe_fld (pv 3) rfl) (pa_cons (pe_callB (call_min2 rfl) (by rfl) T.n_min (by decide +kernel) (pa_cons (pv 2) (pa_cons (pe_gc (v := .int 320) rfl (gI T.g_LONGEST_opens)) pa_nil))) pa_nil))))) (pss_cons (ps_fldaug (pv 3) (pe_callB call_len_seq (by rfl) T.n_len (by decide +kernel) (pa_cons (pv 4) pa_nil)) in_add) (pss_one (ps_ret (pv 4)))))))), ?_⟩)
  obtain ⟨v0, v1, v2, rfl, h⟩ := h
  dsimp only [cxOf, L2.start]
  obtain ⟨g, n, m, rfl, rfl, rfl, ok, O, k⟩ := h
  walk_at "s"
  have e0 : semO g.abs (.read n m) = (match (g.th.lookup n).map (·.t) with | none => .error .noHandle | some t => if t.rd = false then .error .badMode else if m < 0 then .error .tooBig else
      if (decide (m > 0) && ((apAt g.abs t.q).1.isEmpty && (apAt g.abs t.q).2.2)) = true then (Except.error ORf.again) else .ok (setP g.abs t.q ((apAt g.abs t.q).1.drop m.toNat, (apAt g.abs t.q).2), .list ((apAt g.abs t.q).1.take m.toNat))) := by rw [← abs_look]; rfl
  rw [e0] at k
  clear e0
  refine ask3 ⟨g, n, true, rfl, rfl, rfl, O, fun hn => ?_, fun t ht hm => ?_, fun t ht hm => ?_⟩
  · rw [hn] at k
    exact k _ O
  · rw [ht, Option.map_some] at k
    dsimp only at k
    rw [if_pos (Bool.eq_false_iff.mpr hm)] at k
    exact k _ O
  rw [ht, Option.map_some] at k
  dsimp only at k
  rw [if_neg (by rw [hm]; decide)] at k
  have htc := O.get (a := t.p) (o := insTh K (t.gh g.ps)) (th_mem ht)
  walk_at "s"
  refine if_d (fun h => ?_) (fun h => ?_)
  · rw [if_pos h] at k
    walk_at "s"
    exact k _ O
  rw [if_neg h] at k
  obtain ⟨x, hx, hw, ha⟩ := op_at ok ht
  rw [ha] at k
  have hg : t.gh g.ps = ⟨t.p, t.dx, modeS t.t.rd, .non, .ref x.p, t.at_, t.t.own⟩ := by
    unfold TG.gh
    rw [pAt_at hx]
  rw [hg] at htc
  have Ox := O.blk (pi_sub hx)
  have hpx := Ox.get (a := x.p) (o := insPi K x) (.head _)
  walk_at "s"
  refine ask2 ⟨x, m, rfl, rfl, by omega, by omega, Ox, fun hd H' O2 => ?_, fun hd H' l wa O2 => ?_⟩
  · rw [if_pos (show (decide (m > 0) && (x.abs.1.isEmpty && x.abs.2.2)) = true from hd)] at k
    have O3 := O.call (pi_sub hx) O2
    exact k _ O3
  · rw [if_neg (show ¬ (decide (m > 0) && (x.abs.1.isEmpty && x.abs.2.2)) = true from Bool.eq_false_iff.mp hd)] at k
    have O3 := O.callE (e := [(l, .lst ((x.ws.take m.toNat).map V.int))]) (op_pipe (x' := { x with wa := wa, ws := x.ws.drop m.toNat }) hx rfl) O2
    exact k _ _ l O3 ps_abs rfl
theorem sc_Opens_write : FnScope ["self", "n", "cells", "thing", "many"] ["self", "n", "cells"] (defScope s_Opens_write) := ⟨rfl, rfl, rfl, by decide +kernel, rfl, by decide +kernel, by decide +kernel⟩
theorem ok_Opens_write {P : Program} {w : World} {K : PySem.W.Frag} {mg : Str → Option Value} {base : Heap} (T : Txt K mg) : Cee P w K mg base 3 (He.fAd K ("Opens", some "write")) ["self", "n", "cells"] (sp_Opens_write K) := by
  have c_Opens_thing_for : Cee P w K mg base 2 (He.fAd K ("Opens", some "thing_for")) ["self", "n", "way"] (sp_Opens_thing_for K) := ok_Opens_thing_for T
  have c_Pipe_pour : Cee P w K mg base 1 (He.fAd K ("Pipe", some "pour")) ["self", "cells"] (sp_Pipe_pour K) := ok_Pipe_pour T
  have c_PlainFiles_write_at : Cee P w K mg base 1 (He.fAd K ("PlainFiles", some "write_at")) ["self", "node", "at", "cells"] spWall := okW_PlainFiles_write_at T
  refine cee_of T.d_Opens_write sc_Opens_write (fun _ _ _ _ _ _ us hl => match us, hl with | [_, _, _], _ => rfl) (fun vs H Q E h => sp3_len h) (fun cdv A outer s H vs Q E hr h => ⟨_, (pss_cons (ps_set (i := 3) sc_Opens_write.nd rfl (Or.inl rfl) (pe_m (pv 0) T.c_Opens T.m_Opens_thing_for c_Opens_thing_for (hr.mono (by decide)) (L2N.takes_of rfl rfl rfl rfl) (pa_cons (pv 1) (pa_cons pe_str pa_nil)))) (pss_cons (ps_if (pt_cmpR op_notN (pe_fld (pv 3) rfl) pe_non (nomark _)) (pss_one (ps_ret (pe_m (pe_fld (pv 3) rfl) T.c_Pipe T.m_Pipe_pour c_Pipe_pour (hr.mono (by decide)) (L2N.takes_of rfl rfl rfl rfl) (pa_cons (pv 2) pa_nil)))) pss_nil) (pss_cons (ps_set (i := 4) sc_Opens_write.nd rfl (Or.inl rfl) (pe_m (pe_fld (pv 0) rfl) T.c_PlainFiles T.m_PlainFiles_write_at c_PlainFiles_write_at (hr.mono (by decide)) (L2N.takes_of rfl rfl rfl rfl) (pa_cons (pe_fld (pv 3) rfl) (pa_cons (pe_fld (pv 3) rfl) (pa_cons (pv 2) pa_nil))))) (pss_cons (ps_fldaug (pv 3) (pv 4) in_add) (pss_one (ps_ret (pv 4))))))), ?_⟩)
  obtain ⟨v0, v1, v2, rfl, h⟩ := h
  dsimp only [cxOf, L2.start]
  obtain ⟨g, n, a, cs, rfl, rfl, rfl, ha, han, hl, ok, O, k⟩ := h
  walk_at "s"
  have e0 : semO g.abs (.write n cs) = (match (g.th.lookup n).map (·.t) with | none => .error .noHandle | some t => if t.rd = true then .error .badMode else if cs.length > 16 then .error .tooBig else if (apAt g.abs t.q).2.1 = false then .error .broken else
      if (apAt g.abs t.q).1.length + cs.length > 16 then (Except.error ORf.again) else .ok (setP g.abs t.q ((apAt g.abs t.q).1 ++ cs, (apAt g.abs t.q).2), .int (cs.length : Nat))) := by rw [← abs_look]; rfl
  rw [e0] at k
  clear e0
  refine ask3 ⟨g, n, false, rfl, rfl, rfl, O, fun hn => ?_, fun t ht hm => ?_, fun t ht hm => ?_⟩
  · rw [hn] at k
    exact k _ O
  · rw [ht, Option.map_some] at k
    dsimp only at k
    rw [if_pos (by cases h : t.t.rd <;> first | rfl | exact absurd h hm)] at k
    exact k _ O
  rw [ht, Option.map_some] at k
  dsimp only at k
  rw [if_neg (by rw [hm]; decide)] at k
  have htc := O.get (a := t.p) (o := insTh K (t.gh g.ps)) (th_mem ht)
  obtain ⟨x, hx, hw, hax⟩ := op_at ok ht
  rw [hax] at k
  have hg : t.gh g.ps = ⟨t.p, t.dx, modeS t.t.rd, .non, .ref x.p, t.at_, t.t.own⟩ := by
    unfold TG.gh
    rw [pAt_at hx]
  rw [hg] at htc
  have Ox := O.blk (pi_sub hx)
  have hpx := Ox.get (a := x.p) (o := insPi K x) (.head _)
  walk_at "s"
  have hanx : a ∉ adr (cPi K x) := fun z => han (pi_adr hx z)
  refine ask2 ⟨x, a, cs, rfl, rfl, ha, hanx, hl, by omega, Ox, fun hd H' O2 => ?_, fun hd H' O2 => ?_, fun hd H' O2 => ?_, fun hd H' wa O2 => ?_⟩ <;> unfold pourA at hd
  · rw [if_pos (by split at hd <;> first | assumption | (split at hd <;> first | cases hd | (split at hd <;> cases hd)))] at k
    exact k _ (O.call (pi_sub hx) O2)
  · split at hd <;> rename_i h1
    · cases hd
    split at hd <;> rename_i h2
    · rw [if_neg h1, if_pos (show x.abs.2.1 = false from h2)] at k
      exact k _ (O.call (pi_sub hx) O2)
    · split at hd <;> cases hd
  · split at hd <;> rename_i h1
    · cases hd
    split at hd <;> rename_i h2
    · cases hd
    split at hd <;> rename_i h3
    · rw [if_neg h1, if_neg (show ¬ x.abs.2.1 = false from h2), if_pos (show x.abs.1.length + cs.length > 16 from h3)] at k
      exact k _ (O.call (pi_sub hx) O2)
    · cases hd
  · split at hd <;> rename_i h1
    · cases hd
    split at hd <;> rename_i h2
    · cases hd
    split at hd <;> rename_i h3
    · cases hd
    rw [if_neg h1, if_neg (show ¬ x.abs.2.1 = false from h2), if_neg (show ¬ x.abs.1.length + cs.length > 16 from h3)] at k
    have O3 := O.call (op_pipe (x' := { x with wa := wa, ws := x.ws ++ cs }) hx rfl) O2
    exact k _ _ O3 ps_abs rfl

theorem sc_Opens_less : FnScope ["self", "n", "thing"] ["self", "n"] (defScope s_Opens_less) := ⟨rfl, rfl, rfl, by decide +kernel, rfl, by decide +kernel, by decide +kernel⟩
theorem ok_Opens_less {P : Program} {w : World} {K : PySem.W.Frag} {mg : Str → Option Value} {base : Heap} (T : Txt K mg) : Cee P w K mg base 2 (He.fAd K ("Opens", some "less")) ["self", "n"] (sp_Opens_less K) := by
  have c_Opens_thing : Cee P w K mg base 1 (He.fAd K ("Opens", some "thing")) ["self", "n"] (sp_Opens_thing K) := ok_Opens_thing T
  have c_PlainFiles_loose : Cee P w K mg base 1 (He.fAd K ("PlainFiles", some "loose")) ["self", "node"] spWall := okW_PlainFiles_loose T
  have c_Pipe_shut : Cee P w K mg base 1 (He.fAd K ("Pipe", some "shut")) ["self", "reads"] (sp_Pipe_shut K) := ok_Pipe_shut T
  refine cee_of T.d_Opens_less sc_Opens_less (fun _ _ _ _ _ _ us hl => match us, hl with | [_, _], _ => rfl) (fun vs H Q E h => sp2_len h) (fun cdv A outer s H vs Q E hr h => ⟨_, (pss_cons (ps_set (i := 2) sc_Opens_less.nd rfl (Or.inl rfl) (pe_m (pv 0) T.c_Opens T.m_Opens_thing c_Opens_thing (hr.mono (by decide)) (L2N.takes_of rfl rfl rfl rfl) (pa_cons (pv 1) pa_nil))) (pss_cons (ps_if (pt_cmpR op_gt (pe_fld (pv 2) rfl) pe_int (nomark _)) (pss_cons (ps_fldaug (pv 2) pe_int in_sub) (pss_one ps_retN)) pss_nil) (pss_cons (PS.box (ps_if (pt_cmpR op_isN (pe_fld (pv 2) rfl) pe_non (nomark _)) (pss_one (ps_expr (pe_m (pe_fld (pv 0) rfl) T.c_PlainFiles T.m_PlainFiles_loose c_PlainFiles_loose (hr.mono (by decide)) (L2N.takes_of rfl rfl rfl rfl) (pa_cons (pe_fld (pv 2) rfl) pa_nil)))) (pss_one (ps_expr (pe_m (pe_fld (pv 2) rfl) T.c_Pipe T.m_Pipe_shut c_Pipe_shut (hr.mono (by decide)) (L2N.takes_of rfl rfl rfl rfl) (pa_cons (pe_cmpR op_eq (pe_fld (pv 2) rfl) pe_str (nomark _)) pa_nil)))))) (pss_one (ps_expr (pe_dpop1 (pe_fld (pv 0) rfl) (pv 1) ⟨rfl, rfl, rfl, rfl⟩)))))), ?_⟩)
  obtain ⟨v0, v1, rfl, h⟩ := h
  dsimp only [cxOf, L2.start]
  obtain ⟨g, n, rfl, rfl, ok, O, k⟩ := h
  walk_at "s"
  have e0 : semO g.abs (.less n) = (match (g.th.lookup n).map (·.t) with | none => .error .noHandle | some t => if t.own > 1 then .ok (setT g.abs n { t with own := t.own - 1 }, .none) else .ok ({ setP g.abs t.q (shutA (apAt g.abs t.q) t.rd) with th := dropA g.abs.th n }, .none)) := by rw [← abs_look]; rfl
  rw [e0] at k
  clear e0
  refine ask2 ⟨g, n, rfl, rfl, O, fun hn => ?_, fun t ht => ?_⟩
  · rw [hn] at k
    exact k _ O
  rw [ht, Option.map_some] at k
  dsimp only at k
  have htc := O.get (a := t.p) (o := insTh K (t.gh g.ps)) (th_mem ht)
  walk_at "s"
  refine if_d (fun h => ?_) (fun h => ?_)
  · rw [if_pos (show t.t.own > 1 from h)] at k
    walk_at "s"
    exact k _ { g with th := setA g.th n { t with t := { t.t with own := t.t.own - 1 } } } (O.wr (a := t.p) (o' := insTh K (({ t with t := { t.t with own := t.t.own - 1 } } : TG).gh g.ps)) (op_th (t' := { t with t := { t.t with own := t.t.own - 1 } }) ok ht rfl)) set_abs rfl
  rw [if_neg (show ¬ t.t.own > 1 from h)] at k
  obtain ⟨x, hx, hw, hax⟩ := op_at ok ht
  rw [hax] at k
  have hg : t.gh g.ps = ⟨t.p, t.dx, modeS t.t.rd, .non, .ref x.p, t.at_, t.t.own⟩ := by
    unfold TG.gh
    rw [pAt_at hx]
  rw [hg] at htc
  have Ox := O.blk (pi_sub hx)
  have hpx := Ox.get (a := x.p) (o := insPi K x) (.head _)
  walk_at "b"
  walk_at "s"
  refine ask2 ⟨x, t.t.rd, rfl, congrArg V.bl (mode_r t.t.rd), Ox, fun H' wa O2 => ?_⟩
  have O3 := O.call (op_pipe (x' := shutG x t.t.rd wa) hx (shutG_p _ _ _)) O2
  clear O2 Ox htc hpx
  have hp := O3.get (a := g.p) (o := insOp K g) (.head _)
  have hd := O3.get (a := g.TD) (o := .dK (thD g.th)) (.tail _ (.head _))
  have hvt : valV (thD g.th) (Sum.inl n) = some (.ref t.p) := by rw [thD_val, ht]; rfl
  walk_at "s"
  have O4 := O3.wr (a := g.TD) (o' := .dK (dropK (thD g.th) (Sum.inl n))) (.there .here)
  refine k _ { g with ps := g.ps.set t.t.q (shutG x t.t.rd wa), th := dropA g.th n } (O4.drop ?_) ?_ rfl
  · unfold cOp
    rw [show thD (dropA g.th n) = dropK (thD g.th) (Sum.inl n) from (dropA_val (fun x : TG => V.ref x.p) g.th n).symm]
    refine .cons₂ _ (.cons₂ _ (List.Sublist.append ?_ (List.Sublist.refl _)))
    exact List.Sublist.map _ (dropA_sub _ _)
  · unfold OpG.abs setP
    congr 1
    · exact (dropA_map (fun x : TG => x.t) g.th n).symm
    · rw [← shutG_abs x t.t.rd wa]
      exact List.map_set
theorem sc_Opens_open_pipe : FnScope ["self", "pipe", "reading"] ["self"] (defScope s_Opens_open_pipe) := ⟨rfl, rfl, rfl, by decide +kernel, rfl, by decide +kernel, by decide +kernel⟩
theorem ok_Opens_open_pipe {P : Program} {w : World} {K : PySem.W.Frag} {mg : Str → Option Value} {base : Heap} (T : Txt K mg) : Cee P w K mg base 4 (He.fAd K ("Opens", some "open_pipe")) ["self"] (sp_Opens_open_pipe K) := by
  have c_Pipe___init__ : Cee P w K mg base 1 (He.fAd K ("Pipe", some "__init__")) ["self"] (sp_Pipe___init__ K) := ok_Pipe___init__ T
  have c_Opens_new_thing : Cee P w K mg base 3 (He.fAd K ("Opens", some "new_thing")) ["self", "mode", "node", "pipe"] (sp_Opens_new_thing K) := ok_Opens_new_thing T
  refine cee_of T.d_Opens_open_pipe sc_Opens_open_pipe (fun _ _ _ _ _ _ us hl => match us, hl with | [_], _ => rfl) (fun vs H Q E h => sp1_len h) (fun cdv A outer s H vs Q E hr h => ⟨_, (pss_cons (ps_set (i := 1) sc_Opens_open_pipe.nd rfl (Or.inl rfl) (pe_n0 T.m_Pipe c_Pipe___init__ (hr.mono (by decide)) (by rfl) T.g_Pipe)) (pss_cons (ps_set (i := 2) sc_Opens_open_pipe.nd rfl (Or.inl rfl) (pe_m (pv 0) T.c_Opens T.m_Opens_new_thing c_Opens_new_thing (hr.mono (by decide)) (L2N.takes_of rfl rfl rfl rfl) (pa_cons pe_str (pa_cons pe_non (pa_cons (pv 1) pa_nil))))) (pss_one (ps_ret (pe_tup (pa_cons (pv 2) (pa_cons (pe_m (pv 0) T.c_Opens T.m_Opens_new_thing c_Opens_new_thing (hr.mono (by decide)) (L2N.takes_of rfl rfl rfl rfl) (pa_cons pe_str (pa_cons pe_non (pa_cons (pv 1) pa_nil)))) pa_nil))))))), ?_⟩)
  obtain ⟨v0, rfl, h⟩ := h
  dsimp only [cxOf, L2.start]
  obtain ⟨g, rfl, ok, O, k⟩ := h
  walk_at "s"
  intro x dx h1 h2 hne
  have O1 := O.inst (C := He.ga K "Pipe") h1 h2 hne
  refine ask1 ⟨x, dx, rfl, O1.blk (s' := []) .one, fun H4 wa O2 => ?_⟩
  have O3 := (O1.call (s' := cPi K ⟨x, dx, wa, [], true, true⟩) .one O2).perm (op_new ok)
  clear O1 O2
  have hl : g.th.length ≤ g.last := by
    have := ok.len
    unfold OpG.abs at this
    rwa [List.length_map] at this
  have hf : g.last ≤ 9000 := ok.few
  have hr : ∀ y ∈ g.th, y.1 ≤ ((g.last : Nat) : Int) := fun y hy => (ok.rng (y.1, y.2.t) (List.mem_map.mpr ⟨y, hy, rfl⟩)).2
  have hp := O3.get (a := g.p) (o := insOp K g) (.head _)
  walk_at "s"
  refine ask4 ⟨{ g with ps := g.ps ++ [⟨x, dx, wa, [], true, true⟩] }, true, g.ps.length, rfl, rfl, rfl, by rw [pAt_new], by show g.th.length ≤ _; omega, hr, O3.self, fun H5 t1 O4 e1 => ?_⟩
  clear hp
  have hp := O4.get (a := g.p) (o := insOp K { g with last := g.last + 1 }) (.head _)
  walk_at "s"
  refine ask4 ⟨{ g with last := g.last + 1, th := g.th ++ [(((g.last + 1 : Nat) : Int), t1)], ps := g.ps ++ [⟨x, dx, wa, [], true, true⟩] }, false, g.ps.length, rfl, rfl, rfl, by rw [pAt_new], by show (g.th ++ _).length ≤ _; rw [List.length_append]; show _ + 1 ≤ _; omega, fun y hy => ?_, O4.self, fun H6 t2 O5 e2 => ?_⟩
  · rcases List.mem_append.mp hy with hy | hy
    · have := hr y hy
      show y.1 ≤ ((g.last + 1 : Nat) : Int)
      omega
    · rw [List.mem_singleton.mp hy]
      exact Int.le_refl _
  have O6 := (O3.call .all O4).call .all O5
  clear O3 O4 O5 hp
  walk_at "s"
  intro T hT
  have O7 := O6.new (o := .tup [.int ((g.last + 1 : Nat) : Int), .int ((g.last + 1 + 1 : Nat) : Int)]) hT
  refine k _ _ T (O7.drop (List.sublist_cons_self _ _)) ?_ rfl (O7.get (.head _))
  unfold OpG.abs
  simp [e1, e2, PiG.abs]
  omega

/-! ## the law's own: drawing -/
theorem Own.sqN {K : PySem.W.Frag} {H0 H : Hp} {A : List Addr} {cs : Cells} {a : Addr} {xs : List V} (O : Own H0 H A cs) (h : SqL K H0 a xs) (hA : a ∉ A) : SqL K H a xs := by
  rcases h with (h | ⟨o, h⟩) | h
  · exact .inl (.inl (O.fr _ _ h hA))
  · exact .inl (.inr ⟨o, O.fr _ _ h hA⟩)
  · exact .inr h
/-- a script that stands, apart from s -/
def SqA (K : PySem.W.Frag) (H : Hp) (a : Addr) (xs : List V) (s : Addr) : Prop := (SqL K H a xs ∧ a ≠ s) ∨ ∀ H, SqL K H a xs
theorem SqA.sq {K : PySem.W.Frag} {H : Hp} {a s : Addr} {xs : List V} (h : SqA K H a xs s) : SqL K H a xs := h.elim (fun z => z.1) fun z => z H
theorem Own.sqA {K : PySem.W.Frag} {H0 H : Hp} {cs : Cells} {a s : Addr} {xs : List V} (O : Own H0 H [s] cs) (h : SqA K H0 a xs s) : SqA K H a xs s := h.elim (fun z => .inl ⟨O.sqN z.1 (by simpa using z.2), z.2⟩) .inr
theorem Own.sq0 {K : PySem.W.Frag} {H0 H : Hp} {cs : Cells} {a s : Addr} {xs : List V} (O : Own H0 H [] cs) (h : SqL K H0 a xs) (hs : s ∈ Ow.adr cs) : SqA K H a xs s := by
  have hs0 : H0 s = none := (O.nw s hs).elim (fun z => absurd z List.not_mem_nil) id
  rcases h with (h | ⟨o, h⟩) | h
  · exact .inl ⟨.inl (.inl (O.fr0 h)), fun z => by rw [z, hs0] at h; cases h⟩
  · exact .inl ⟨.inl (.inr ⟨o, O.fr0 h⟩), fun z => by rw [z, hs0] at h; cases h⟩
  · exact .inr fun _ => .inr h
def sp__law_begin (K : PySem.W.Frag) : Sp := sp1 fun x H Q _ => ∃ (a : Addr) (xs : List Int), x = .ref a ∧ SqL K H a (xs.map V.int) ∧ ∀ H' s f u, Own H H' [] [(s, .lst [.int 0, .int f, .int u])] → Q (.ref s) H'
def sp__law_draw (K : PySem.W.Frag) : Sp := sp3 fun x y z H Q _ => ∃ (a s : Addr) (xs : List Int) (i f u m : Int), x = .ref a ∧ y = .ref s ∧ z = .int m ∧ SqA K H a (xs.map V.int) s ∧ xs.length ≤ 63 ∧ 0 ≤ i ∧ i ≤ 100000 ∧ 0 < m ∧ m ≤ 1000 ∧ Own H H [s] [(s, .lst [.int i, .int f, .int u])] ∧
  ∀ H' f' u' r, Own H H' [s] [(s, .lst [.int (i + 1), .int f', .int u'])] → 0 ≤ r → r < m → Q (.int r) H'
def sp__law_cells (K : PySem.W.Frag) : Sp := sp3 fun x y z H Q _ => ∃ (a s : Addr) (xs : List Int) (i f u m : Int), x = .ref a ∧ y = .ref s ∧ z = .int m ∧ SqA K H a (xs.map V.int) s ∧ xs.length ≤ 63 ∧ 0 ≤ i ∧ i ≤ 90000 ∧ 0 ≤ m ∧ m ≤ 20 ∧ Own H H [s] [(s, .lst [.int i, .int f, .int u])] ∧
  ∀ H' f' u' l (cs : List Int), Own H H' [s] [(l, .lst (cs.map V.int)), (s, .lst [.int (i + 3), .int f', .int u'])] → cs.length ≤ m.toNat → Q (.ref l) H'
def ORf.name : ORf → Str
  | .noHandle => "nohandle"
  | .badMode => "badmode"
  | .tooBig => "toobig"
  | .again => "again"
  | .broken => "broken"
theorem sc__law_begin : FnScope ["_law_script", "_law_fold", "_law_cell"] ["_law_script"] (defScope s__law_begin) := ⟨rfl, rfl, rfl, by decide +kernel, rfl, by decide +kernel, by decide +kernel⟩
theorem ok__law_begin {P : Program} {w : World} {K : PySem.W.Frag} {mg : Str → Option Value} {base : Heap} (T : Txt K mg) : Cee P w K mg base 1 (He.fAd K ("_law_begin", none)) ["_law_script"] (sp__law_begin K) := by
  refine cee_of T.d__law_begin sc__law_begin (fun _ _ _ _ _ _ us hl => match us, hl with | [_], _ => rfl) (fun vs H Q E h => sp1_len h) (fun cdv A outer s H vs Q E hr h => ⟨_, (pss_cons (ps_set (i := 1) sc__law_begin.nd rfl (Or.inl rfl) pe_int) (pss_cons (ps_for (passes_of rfl) rfl (PI.box (pi_list (pv 0))) (pg_name (i := 2) sc__law_begin.nd rfl (Or.inl rfl)) (pss_one (ps_set (i := 1) sc__law_begin.nd rfl (Or.inl rfl) (pe_op op_mod (pe_op op_add (pe_op op_add (pe_op op_mul (pv 1) pe_int) (pe_op op_mod (pv 2) pe_int)) pe_int) pe_int)))) (pss_cons (PS.box (ps_if (PW.pt (pw_and (pt_cmpR op_gt (pe_callB call_len_seq (by rfl) T.n_len (by decide +kernel) (pa_cons (pv 0) pa_nil)) pe_int (nomark _)) (pw_and1 (pt_cmpR op_eq (pe_op op_mod (pv 1) pe_int) pe_int (nomark _))))) (pss_one (ps_ret (pe_lst (pa_cons pe_int (pa_cons (pv 1) (pa_cons (pe_callB call_abs (by rfl) T.n_abs (by decide +kernel) (pa_cons (pe_ix ix_list (pv 0) pe_int (fun _ _ => rfl)) pa_nil)) pa_nil)))))) pss_nil)) (pss_one (ps_ret (pe_lst (pa_cons pe_int (pa_cons (pv 1) (pa_cons pe_int pa_nil))))))))), ?_⟩)
  obtain ⟨v0, rfl, h⟩ := h
  dsimp only [cxOf, L2.start]
  obtain ⟨a, xs, rfl, ha, k⟩ := h
  walk_at "s"
  refine forL (K := K) (a := a) (xs := xs.map V.int) (fun i σ H' => ∃ (z : Int) (c : Option V), σ = [some (.ref a), some (.int z), c] ∧ H' = H) ⟨_, _, rfl, rfl⟩ (fun i σ H' _ ⟨_, _, _, e⟩ => by rw [e]; exact ha) ?_ ?_
  · rintro i x σ H' hx ⟨z, c, rfl, rfl⟩
    obtain ⟨y, hy, rfl⟩ := map_get hx
    walk_at "s"
    exact ⟨_, _, rfl, rfl⟩
  · rintro σ H' ⟨z, c, rfl, rfl⟩
    have O0 := Own.start (H := H')
    walk_at "s"
    walk_at "b"
    walk_at "s"
    refine if_d (fun h1 => ?_) (fun h1 => ?_)
    · rw [List.length_map] at h1
      have hat : atI (xs.map V.int) 0 = some (V.int (xs[0]'(by omega))) := atI_nat (xs := xs.map V.int) (j := 0) (by rw [List.getElem?_map, List.getElem?_eq_getElem (by omega)]; rfl)
      walk_at "s"
      refine if_ii (fun h2 => ?_) (fun h2 => ?_)
      · walk_at "s"
        intro s hs
        exact k _ s _ _ (O0.new hs)
      · walk_at "s"
        intro s hs
        exact k _ s _ _ (O0.new hs)
    · walk_at "s"
      intro s hs
      exact k _ s _ _ (O0.new hs)
theorem sc__law_draw : FnScope ["_law_script", "_law_at", "_law_many", "_law_found", "_law_cell"] ["_law_script", "_law_at", "_law_many"] (defScope s__law_draw) := ⟨rfl, rfl, rfl, by decide +kernel, rfl, by decide +kernel, by decide +kernel⟩
theorem ok__law_draw {P : Program} {w : World} {K : PySem.W.Frag} {mg : Str → Option Value} {base : Heap} (T : Txt K mg) : Cee P w K mg base 1 (He.fAd K ("_law_draw", none)) ["_law_script", "_law_at", "_law_many"] (sp__law_draw K) := by
  refine cee_of T.d__law_draw sc__law_draw (fun _ _ _ _ _ _ us hl => match us, hl with | [_, _, _], _ => rfl) (fun vs H Q E h => sp3_len h) (fun cdv A outer s H vs Q E hr h => ⟨_, (pss_cons (ps_asg (pe_op op_add (pe_ix ix_list (pv 1) pe_int (fun _ _ => rfl)) pe_int) (pg_sub (pv 1) pe_int set_list)) (pss_cons (PS.box (ps_if (PW.pt (pw_and (pt_cmpR op_gt (pe_ix ix_list (pv 1) pe_int (fun _ _ => rfl)) pe_int (nomark _)) (pw_and1 (pt_cmpR op_lt (pe_ix ix_list (pv 1) pe_int (fun _ _ => rfl)) pe_int (nomark _))))) (pss_cons (ps_set (i := 3) sc__law_draw.nd rfl (Or.inl rfl) (pe_op op_mod (pe_ix ix_list (pv 1) pe_int (fun _ _ => rfl)) (pv 2))) (pss_cons (ps_asg (pe_op op_fdiv (pe_ix ix_list (pv 1) pe_int (fun _ _ => rfl)) (pv 2)) (pg_sub (pv 1) pe_int set_list)) (pss_one (ps_ret (pv 3))))) pss_nil)) (pss_cons (ps_set (i := 4) sc__law_draw.nd rfl (Or.inl rfl) pe_int) (pss_cons (PS.box (ps_if (pt_cmpR op_gt (pe_callB call_len_seq (by rfl) T.n_len (by decide +kernel) (pa_cons (pv 0) pa_nil)) pe_int (nomark _)) (pss_one (ps_set (i := 4) sc__law_draw.nd rfl (Or.inl rfl) (pe_ix ix_list (pv 0) (pe_op op_mod (pe_ix ix_list (pv 1) pe_int (fun _ _ => rfl)) (pe_callB call_len_seq (by rfl) T.n_len (by decide +kernel) (pa_cons (pv 0) pa_nil))) (fun _ _ => rfl)))) pss_nil)) (pss_cons (ps_asg (pe_op op_mod (pe_op op_mul (pe_op op_add (pe_op op_add (pe_ix ix_list (pv 1) pe_int (fun _ _ => rfl)) (pe_op op_mod (pv 4) pe_int)) (pe_op op_mul (pe_ix ix_list (pv 1) pe_int (fun _ _ => rfl)) (pe_ix ix_list (pv 1) pe_int (fun _ _ => rfl)))) pe_int) pe_int) (pg_sub (pv 1) pe_int set_list)) (pss_one (ps_ret (pe_op op_mod (pe_op op_fdiv (pe_op op_mod (pe_op op_mul (pe_ix ix_list (pv 1) pe_int (fun _ _ => rfl)) (pe_ix ix_list (pv 1) pe_int (fun _ _ => rfl))) pe_int) pe_int) (pv 2))))))))), ?_⟩)
  obtain ⟨v0, v1, v2, rfl, h⟩ := h
  dsimp only [cxOf, L2.start]
  obtain ⟨a, s, xs, i, f, u, m, rfl, rfl, rfl, hA, hl, i0, i1, m0, m1, O, k⟩ := h
  have ha := hA.sq
  have hs := O.get (.head _)
  walk_at "s"
  generalize hg : upd H s _ = H1
  have O1 : Own H H1 [s] [(s, .lst [.int (i + 1), .int f, .int u])] := by rw [← hg]; exact O.wr .here
  clear hg
  have hs1 := O1.get (.head _)
  have ha1 := (O1.sqA hA).sq
  have hd : 0 < m ∧ m < 1073741824 := ⟨m0, by omega⟩
  refine cutS (fun σ' H' => σ' = [some (.ref a), some (.ref s), some (.int m), none, none] ∧ H' = H1) (fun nx hn => ?_) ?_
  · walk_at "s"
    refine if_d (fun h1 => ?_) (fun h1 => ?_)
    · walk_at "s"
      refine if_d (fun h2 => ?_) (fun h2 => ?_)
      · walk_at "s"
        generalize hg : upd H1 s _ = H2
        have O2 : Own H H2 [s] [(s, .lst [.int (i + 1), .int f, .int (u / m)])] := by rw [← hg]; exact O1.wr .here
        exact k _ _ _ _ O2 (Int.emod_nonneg _ (by omega)) (Int.emod_lt_of_pos _ m0)
      · exact hn _ _ ⟨rfl, rfl⟩
    · exact hn _ _ ⟨rfl, rfl⟩
  · rintro σ' H' ⟨rfl, rfl⟩
    walk_at "s"
    refine cutS (fun σ' H1 => ∃ c : Int, σ' = [some (.ref a), some (.ref s), some (.int m), none, some (.int c)] ∧ H1 = H') (fun nx hn => ?_) ?_
    · walk_at "s"
      refine if_d (fun h1 => ?_) (fun h1 => ?_)
      · rw [List.length_map] at h1
        have hn0 : 0 ≤ (i + 1) % (xs.length : Int) := Int.emod_nonneg _ (by omega)
        have hn1 : (i + 1) % (xs.length : Int) < xs.length := Int.emod_lt_of_pos _ h1
        obtain ⟨j, hj⟩ : ∃ j : Nat, (i + 1) % (xs.length : Int) = j := ⟨_, (Int.toNat_of_nonneg hn0).symm⟩
        have hj1 : j < xs.length := by omega
        have hat : atI (xs.map V.int) ((i + 1) % ((xs.map V.int).length : Int)) = some (.int xs[j]) := by
          rw [List.length_map, hj]
          exact atI_nat (xs := xs.map V.int) (by rw [List.getElem?_map, List.getElem?_eq_getElem hj1]; rfl)
        walk_at "s"
        exact hn _ _ ⟨_, rfl, rfl⟩
      · exact hn _ _ ⟨_, rfl, rfl⟩
    · rintro σ' H1 ⟨c, rfl, rfl⟩
      walk_at "s"
      generalize hg : upd H1 s _ = H2
      have O2 : Own H H2 [s] [(s, .lst [.int (i + 1), .int ((f + c % 2147483647 + (i + 1) * (i + 1)) * 48271 % 2147483629), .int u])] := by rw [← hg]; exact O1.wr .here
      exact k _ _ _ _ O2 (Int.emod_nonneg _ (by omega)) (Int.emod_lt_of_pos _ m0)
theorem sc__law_cells : FnScope ["_law_script", "_law_at", "_law_most", "_law_first", "_law_step", "_law_k"] ["_law_script", "_law_at", "_law_most"] (defScope s__law_cells) := ⟨rfl, rfl, rfl, by decide +kernel, rfl, by decide +kernel, by decide +kernel⟩
theorem ok__law_cells {P : Program} {w : World} {K : PySem.W.Frag} {mg : Str → Option Value} {base : Heap} (T : Txt K mg) : Cee P w K mg base 2 (He.fAd K ("_law_cells", none)) ["_law_script", "_law_at", "_law_most"] (sp__law_cells K) := by
  have c__law_draw : Cee P w K mg base 1 (He.fAd K ("_law_draw", none)) ["_law_script", "_law_at", "_law_many"] (sp__law_draw K) := ok__law_draw T
  refine cee_of T.d__law_cells sc__law_cells (fun _ _ _ _ _ _ us hl => match us, hl with | [_, _, _], _ => rfl) (fun vs H Q E h => sp3_len h) (fun cdv A outer s H vs Q E hr h => ⟨_, (pss_cons (ps_set (i := 3) sc__law_cells.nd rfl (Or.inr rfl) (pe_f c__law_draw (hr.mono (by decide)) (L2N.takes_of rfl rfl rfl rfl) (by rfl) T.g__law_draw (pa_cons (pv 0) (pa_cons (pv 1) (pa_cons pe_int pa_nil))))) (pss_cons (ps_set (i := 4) sc__law_cells.nd rfl (Or.inr rfl) (pe_f c__law_draw (hr.mono (by decide)) (L2N.takes_of rfl rfl rfl rfl) (by rfl) T.g__law_draw (pa_cons (pv 0) (pa_cons (pv 1) (pa_cons pe_int pa_nil))))) (pss_one (ps_ret (pe_lc (own := [("_law_k", 5)]) (by rfl) sc__law_cells.nd (PI.box (pi_range1 (by rfl) T.n_range (pa_cons (pe_f c__law_draw (hr.mono (by decide)) (L2N.takes_of rfl rfl rfl rfl) (by rfl) T.g__law_draw (pa_cons (pv 0) (pa_cons (pv 1) (pa_cons (pe_op op_add (pv 2) pe_int) pa_nil)))) pa_nil))) (blkOk_by (own := [("_law_k", 5)]) (N := ["_law_script", "_law_at", "_law_most", "_law_first", "_law_step", "_law_k"]) (sc := defScope s__law_cells) (by decide +kernel)) (fun _ _ _ _ _ => (pg_name (i := 5) sc__law_cells.nd rfl (Or.inl rfl))) (fun _ _ _ _ _ => pts_nil) (fun _ _ _ _ _ => (pe_op op_mod (pe_op op_add (pv 3) (pe_op op_mul (pv 4) (pv 5))) pe_int))))))), ?_⟩)
  obtain ⟨v0, v1, v2, rfl, h⟩ := h
  dsimp only [cxOf, L2.start]
  obtain ⟨a, s, xs, i, f, u, m, rfl, rfl, rfl, hA, hl, i0, i1, m0, m1, O, k⟩ := h
  have ha := hA.sq
  walk_at "s"
  refine ask3 ⟨a, s, xs, i, f, u, 256, rfl, rfl, rfl, hA, hl, i0, by omega, by decide, by decide, O, fun H1 f1 u1 r1 O1 a1 b1 => ?_⟩
  have hA1 := O1.sqA hA
  walk_at "s"
  refine ask3 ⟨a, s, xs, i + 1, f1, u1, 256, rfl, rfl, rfl, hA1, hl, by omega, by omega, by decide, by decide, O1.self, fun H2 f2 u2 r2 O2 a2 b2 => ?_⟩
  have hA2 := O2.sqA hA1
  have O3 := O1.call .all O2
  walk_at "s"
  refine ask3 ⟨a, s, xs, i + 1 + 1, f2, u2, m + 1, rfl, rfl, rfl, hA2, hl, by omega, by omega, by omega, by omega, O2.self, fun H3 f3 u3 r3 O4 a3 b3 => ?_⟩
  have O5 := O3.call .all O4
  clear O O1 O2 O3 O4
  walk_at "s"
  refine lcR (lo := 0) (n := r3.toNat) (fun D j H4 => ∃ ns : List Int, ns.length = j ∧ Own H H4 [s] ((D, .lst (ns.map V.int)) :: [(s, .lst [.int (i + 1 + 1 + 1), .int f3, .int u3])])) (fun D hD => ⟨[], rfl, O5.new hD⟩) ?_ ?_
  · rintro D j H4 hj ⟨ns, hns, O6⟩
    have hsz : (ns.map V.int).length < 100000 := by rw [List.length_map]; omega
    walk_at "s"
    refine ⟨⟨ns ++ [(r1 + r2 * (0 + j)) % 256], by rw [List.length_append, hns]; rfl, ?_⟩⟩
    rw [List.map_append]
    exact O6.wr .here
  · rintro D H4 ⟨ns, hns, O6⟩
    walk_at "s"
    exact k _ f3 u3 D ns (by rw [show i + 3 = i + 1 + 1 + 1 by omega]; exact O6) (by omega)

/-! ## deeds as the law hands them, and what they end in -/
def ODeed.vs (b : Addr) : ODeed → List V
  | .pipe => [.str "pipe"]
  | .more n => [.str "more", .int n]
  | .less n => [.str "less", .int n]
  | .read n m => [.str "read", .int n, .int m]
  | .write n _ => [.str "write", .int n, .ref b]
  | .count n => [.str "count", .int n]
  | .numbers => [.str "numbers"]
/-- a write's list stands, away from A -/
def ODeed.ls (H : Hp) (A : List Addr) (b : Addr) : ODeed → Prop
  | .write _ cs => H b = some (.lst (cs.map V.int)) ∧ b ∉ A ∧ cs.length ≤ 1000
  | _ => True
def OAns.v (b : Addr) : OAns → V
  | .none => .non
  | .int i => .int i
  | .pair _ _ => .ref b
  | .list _ => .ref b
def OAns.cel (b : Addr) : OAns → Cells
  | .list l => [(b, .lst (l.map V.int))]
  | _ => []
def OAns.tp (H : Hp) (b : Addr) : OAns → Prop
  | .pair i j => H b = some (.tup [.int i, .int j])
  | _ => True
/-- what a deed may end in, in one form for all answers -/
def OTo (K : PySem.W.Frag) (H : Hp) (g : OpG) (r : Except ORf (AO × OAns)) (Q : VK) (E : XK) : Prop :=
  match r with
  | .error e => ∀ H', Own H H' (adr (cOp K g)) (cOp K g) → E (e.cls K) none H'
  | .ok (a', r) => ∀ H' g' b, Own H H' (adr (cOp K g)) (r.cel b ++ cOp K g') → g'.abs = a' → g'.p = g.p → r.tp H' b → Q (r.v b) H'
theorem OTo.an {K : PySem.W.Frag} {H : Hp} {g : OpG} {r : Except ORf (AO × OAns)} {Q : VK} {E : XK} (k : OTo K H g r Q E) : OAn K H g r Q E := by
  cases r with
  | error e => exact k
  | ok p =>
    obtain ⟨a, r⟩ := p
    cases r with
    | none => exact fun H' g' O e1 e2 => k H' g' 0 O e1 e2 trivial
    | int i => exact fun H' g' O e1 e2 => k H' g' 0 O e1 e2 trivial
    | pair i j => exact fun H' g' T O e1 e2 hT => k H' g' T O e1 e2 hT
    | list l => exact fun H' g' b O e1 e2 => k H' g' b O e1 e2 trivial
def sp__law_told (K : PySem.W.Frag) : Sp := sp2 fun x y H Q E => ∃ g T b d, x = .ref g.p ∧ y = .ref T ∧ H T = some (.tup (ODeed.vs b d)) ∧ d.ls H (adr (cOp K g)) b ∧ AOk g.abs ∧ Own H H (adr (cOp K g)) (cOp K g) ∧ OTo K H g (semO g.abs d) Q E
def ODn (K : PySem.W.Frag) (H : Hp) (g : OpG) (r : Except ORf (AO × OAns)) (Q : VK) : Prop :=
  match r with
  | .error e => ∀ H' T, Own H H' (adr (cOp K g)) (cOp K g) → H' T = some (.tup [.str e.name, .non]) → Q (.ref T) H'
  | .ok (a', r) => ∀ H' g' T b, Own H H' (adr (cOp K g)) (r.cel b ++ cOp K g') → g'.abs = a' → g'.p = g.p → r.tp H' b → H' T = some (.tup [.str "", r.v b]) → Q (.ref T) H'
theorem sc__law_told : FnScope ["_law_opens", "_law_deed"] ["_law_opens", "_law_deed"] (defScope s__law_told) := ⟨rfl, rfl, rfl, by decide +kernel, rfl, by decide +kernel, by decide +kernel⟩
theorem ok__law_told {P : Program} {w : World} {K : PySem.W.Frag} {mg : Str → Option Value} {base : Heap} (T : Txt K mg) : Cee P w K mg base 5 (He.fAd K ("_law_told", none)) ["_law_opens", "_law_deed"] (sp__law_told K) := by
  have c_Opens_open_node : Cee P w K mg base 1 (He.fAd K ("Opens", some "open_node")) ["self", "node", "mode"] spWall := okW_Opens_open_node T
  have c_Opens_open_pipe : Cee P w K mg base 4 (He.fAd K ("Opens", some "open_pipe")) ["self"] (sp_Opens_open_pipe K) := ok_Opens_open_pipe T
  have c_Opens_more : Cee P w K mg base 2 (He.fAd K ("Opens", some "more")) ["self", "n"] (sp_Opens_more K) := ok_Opens_more T
  have c_Opens_less : Cee P w K mg base 2 (He.fAd K ("Opens", some "less")) ["self", "n"] (sp_Opens_less K) := ok_Opens_less T
  have c_Opens_read : Cee P w K mg base 3 (He.fAd K ("Opens", some "read")) ["self", "n", "many"] (sp_Opens_read K) := ok_Opens_read T
  have c_Opens_write : Cee P w K mg base 3 (He.fAd K ("Opens", some "write")) ["self", "n", "cells"] (sp_Opens_write K) := ok_Opens_write T
  have c_Opens_seek : Cee P w K mg base 1 (He.fAd K ("Opens", some "seek")) ["self", "n", "at"] spWall := okW_Opens_seek T
  have c_Opens_count : Cee P w K mg base 2 (He.fAd K ("Opens", some "count")) ["self", "n"] (sp_Opens_count K) := ok_Opens_count T
  have c_Opens_numbers : Cee P w K mg base 1 (He.fAd K ("Opens", some "numbers")) ["self"] (sp_Opens_numbers K) := ok_Opens_numbers T
  refine cee_of T.d__law_told sc__law_told (fun _ _ _ _ _ _ us hl => match us, hl with | [_, _], _ => rfl) (fun vs H Q E h => sp2_len h) (fun cdv A outer s H vs Q E hr h => ⟨_, (pss_cons (ps_if (pt_cmpR op_eq (pe_ix ix_tup (pv 1) pe_int (fun _ _ => rfl)) pe_str (nomark _)) (pss_one (ps_ret (pe_m (pv 0) T.c_Opens T.m_Opens_open_node c_Opens_open_node (hr.mono (by decide)) (L2N.takes_of rfl rfl rfl rfl) (pa_cons (pe_ix ix_tup (pv 1) pe_int (fun _ _ => rfl)) (pa_cons (pe_ix ix_tup (pv 1) pe_int (fun _ _ => rfl)) pa_nil))))) pss_nil) (pss_cons (ps_if (pt_cmpR op_eq (pe_ix ix_tup (pv 1) pe_int (fun _ _ => rfl)) pe_str (nomark _)) (pss_one (ps_ret (pe_m0 (pv 0) T.c_Opens T.m_Opens_open_pipe c_Opens_open_pipe (hr.mono (by decide)) (L2N.takes_of rfl rfl rfl rfl)))) pss_nil) (pss_cons (ps_if (pt_cmpR op_eq (pe_ix ix_tup (pv 1) pe_int (fun _ _ => rfl)) pe_str (nomark _)) (pss_one (ps_ret (pe_m (pv 0) T.c_Opens T.m_Opens_more c_Opens_more (hr.mono (by decide)) (L2N.takes_of rfl rfl rfl rfl) (pa_cons (pe_ix ix_tup (pv 1) pe_int (fun _ _ => rfl)) pa_nil)))) pss_nil) (pss_cons (ps_if (pt_cmpR op_eq (pe_ix ix_tup (pv 1) pe_int (fun _ _ => rfl)) pe_str (nomark _)) (pss_one (ps_ret (pe_m (pv 0) T.c_Opens T.m_Opens_less c_Opens_less (hr.mono (by decide)) (L2N.takes_of rfl rfl rfl rfl) (pa_cons (pe_ix ix_tup (pv 1) pe_int (fun _ _ => rfl)) pa_nil)))) pss_nil) (pss_cons (ps_if (pt_cmpR op_eq (pe_ix ix_tup (pv 1) pe_int (fun _ _ => rfl)) pe_str (nomark _)) (pss_one (ps_ret (pe_m (pv 0) T.c_Opens T.m_Opens_read c_Opens_read (hr.mono (by decide)) (L2N.takes_of rfl rfl rfl rfl) (pa_cons (pe_ix ix_tup (pv 1) pe_int (fun _ _ => rfl)) (pa_cons (pe_ix ix_tup (pv 1) pe_int (fun _ _ => rfl)) pa_nil))))) pss_nil) (pss_cons (ps_if (pt_cmpR op_eq (pe_ix ix_tup (pv 1) pe_int (fun _ _ => rfl)) pe_str (nomark _)) (pss_one (ps_ret (pe_m (pv 0) T.c_Opens T.m_Opens_write c_Opens_write (hr.mono (by decide)) (L2N.takes_of rfl rfl rfl rfl) (pa_cons (pe_ix ix_tup (pv 1) pe_int (fun _ _ => rfl)) (pa_cons (pe_ix ix_tup (pv 1) pe_int (fun _ _ => rfl)) pa_nil))))) pss_nil) (pss_cons (ps_if (pt_cmpR op_eq (pe_ix ix_tup (pv 1) pe_int (fun _ _ => rfl)) pe_str (nomark _)) (pss_one (ps_ret (pe_m (pv 0) T.c_Opens T.m_Opens_seek c_Opens_seek (hr.mono (by decide)) (L2N.takes_of rfl rfl rfl rfl) (pa_cons (pe_ix ix_tup (pv 1) pe_int (fun _ _ => rfl)) (pa_cons (pe_ix ix_tup (pv 1) pe_int (fun _ _ => rfl)) pa_nil))))) pss_nil) (pss_cons (ps_if (pt_cmpR op_eq (pe_ix ix_tup (pv 1) pe_int (fun _ _ => rfl)) pe_str (nomark _)) (pss_one (ps_ret (pe_m (pv 0) T.c_Opens T.m_Opens_count c_Opens_count (hr.mono (by decide)) (L2N.takes_of rfl rfl rfl rfl) (pa_cons (pe_ix ix_tup (pv 1) pe_int (fun _ _ => rfl)) pa_nil)))) pss_nil) (pss_one (ps_ret (pe_m0 (pv 0) T.c_Opens T.m_Opens_numbers c_Opens_numbers (hr.mono (by decide)) (L2N.takes_of rfl rfl rfl rfl)))))))))))), ?_⟩)
  obtain ⟨v0, v1, rfl, h⟩ := h
  dsimp only [cxOf, L2.start]
  obtain ⟨g, T, b, d, rfl, rfl, hT, hl, ok, O, k⟩ := h
  have k := k.an
  cases d with
  | pipe =>
    walk_at "s"
    exact ask1 ⟨g, rfl, ok, O, k⟩
  | more n =>
    walk_at "s"
    exact ask2 ⟨g, n, rfl, rfl, ok, O, k⟩
  | less n =>
    walk_at "s"
    exact ask2 ⟨g, n, rfl, rfl, ok, O, k⟩
  | read n m =>
    walk_at "s"
    exact ask3 ⟨g, n, m, rfl, rfl, rfl, ok, O, k⟩
  | write n cs =>
    obtain ⟨h1, h2, h3⟩ := hl
    walk_at "s"
    exact ask3 ⟨g, n, b, cs, rfl, rfl, rfl, h1, h2, h3, ok, O, k⟩
  | count n =>
    walk_at "s"
    exact ask2 ⟨g, n, rfl, rfl, ok, O, k⟩
  | numbers =>
    walk_at "s"
    exact ask1 ⟨g, rfl, ok, O, k⟩

/-! ## the law's world: what is open, mirrored -/
structure WT where
  p : Addr
  t : AT
structure WP where
  D : Addr
  L : Addr
  ws : List Int
  rd : Bool
  wr : Bool
structure WoG where
  D : Addr
  TD : Addr
  CD : Addr
  RD : Addr
  last : Nat
  th : List (Int × WT)
  ps : List WP
abbrev piD (y : WP) : List (Key × V) := [(Sum.inr "cells", .ref y.L), (Sum.inr "r", .bl y.rd), (Sum.inr "w", .bl y.wr)]
abbrev cWP (y : WP) : Cells := [(y.D, .dK (piD y)), (y.L, .lst (y.ws.map V.int))]
def pD (ps : List WP) (q : Nat) : Addr := ((ps[q]?).map (·.D)).getD 0
def thV (pd : Addr) (t : AT) : List V := [.str (modeS t.rd), .non, .ref pd, .int 0, .int t.own]
abbrev cWT (ps : List WP) (x : Int × WT) : Addr × HO := (x.2.p, .lst (thV (pD ps x.2.t.q) x.2.t))
abbrev wtD (th : List (Int × WT)) : List (Key × V) := th.map fun x => (Sum.inl x.1, V.ref x.2.p)
def woD (W : WoG) : List (Key × V) := [(Sum.inr "things", .ref W.TD), (Sum.inr "last", .int (W.last : Nat)), (Sum.inr "cells", .ref W.CD), (Sum.inr "dirs", .ref W.RD)]
def cWo (W : WoG) : Cells := (W.D, .dK (woD W)) :: (W.TD, .dK (wtD W.th)) :: (W.CD, .dK []) :: (W.RD, .lst [.int 0]) :: (W.th.map (cWT W.ps) ++ W.ps.flatMap cWP)
/-- cells of a pipe whose reader is gone are kept here, seen by nobody -/
def WP.abs (y : WP) : AP := (if y.rd = true then y.ws else [], y.rd, y.wr)
def WoG.abs (W : WoG) : AO := ⟨W.last, W.th.map fun x => (x.1, x.2.t), W.ps.map WP.abs⟩
structure AOw (a : AO) : Prop where
  num : ∀ x ∈ a.th, x.1 = 2 * (x.2.q : Int) + (if x.2.rd = true then 1 else 2)
  lst : a.last = 2 * a.ps.length
  rdr : ∀ x ∈ a.th, x.2.rd = true → (apAt a x.2.q).2.1 = true
theorem wo_look (W : WoG) (n : Int) : W.abs.th.lookup n = (W.th.lookup n).map (·.t) := lk_map (fun x : WT => x.t) W.th n
theorem wtD_val (th : List (Int × WT)) (n : Int) : valV (wtD th) (Sum.inl n) = (th.lookup n).map fun x => V.ref x.p := lk_val (fun x : WT => V.ref x.p) th n
theorem pD_set {ps : List WP} {q : Nat} {x x' : WP} (h : ps[q]? = some x) (hp : x'.D = x.D) : pD (ps.set q x') = pD ps := funext fun k => by
  unfold pD
  rw [List.getElem?_set]
  split
  · next e =>
    subst e
    rw [if_pos (List.getElem?_eq_some_iff.mp h).1, h]
    exact congrArg (fun z : Addr => (some z).getD 0) hp
  · rfl
theorem pD_at {ps : List WP} {q : Nat} {x : WP} (h : ps[q]? = some x) : pD ps q = x.D := by
  unfold pD
  rw [h]
  rfl
theorem wo_pipe {W : WoG} {q : Nat} {x x' : WP} (h : W.ps[q]? = some x) (hp : x'.D = x.D) : Sub (cWo W) (cWP x) (cWP x') (cWo { W with ps := W.ps.set q x' }) := by
  obtain ⟨hq, hx⟩ := List.getElem?_eq_some_iff.mp h
  have e1 : W.ps = W.ps.take q ++ x :: W.ps.drop (q + 1) := by
    rw [← hx, ← List.drop_eq_getElem_cons hq, List.take_append_drop]
  have e2 : W.ps.set q x' = W.ps.take q ++ x' :: W.ps.drop (q + 1) := List.set_eq_take_append_cons_drop .. |>.trans (if_pos hq)
  have e3 : W.th.map (cWT (W.ps.set q x')) = W.th.map (cWT W.ps) := by
    refine List.map_congr_left fun y _ => ?_
    unfold cWT
    rw [pD_set h hp]
  have e4 : W.ps.flatMap cWP = (W.ps.take q).flatMap cWP ++ (cWP x ++ (W.ps.drop (q + 1)).flatMap cWP) := by
    conv => lhs; rw [e1]
    simp
  have e5 : (W.ps.set q x').flatMap cWP = (W.ps.take q).flatMap cWP ++ (cWP x' ++ (W.ps.drop (q + 1)).flatMap cWP) := by
    rw [e2]
    simp
  show Sub ((W.D, .dK (woD W)) :: (W.TD, .dK (wtD W.th)) :: (W.CD, .dK []) :: (W.RD, .lst [.int 0]) :: (W.th.map (cWT W.ps) ++ W.ps.flatMap cWP)) _ _ ((W.D, .dK (woD W)) :: (W.TD, .dK (wtD W.th)) :: (W.CD, .dK []) :: (W.RD, .lst [.int 0]) :: (W.th.map (cWT (W.ps.set q x')) ++ (W.ps.set q x').flatMap cWP))
  rw [e3, e4, e5]
  exact .there (.there (.there (.there (.app (.app .here)))))
theorem wo_th {W : WoG} {n : Int} {t t' : WT} (ok : AOk W.abs) (h : W.th.lookup n = some t) (hp : t'.p = t.p) : At (cWo W) t.p (.lst (thV (pD W.ps t.t.q) t.t)) (.lst (thV (pD W.ps t'.t.q) t'.t)) (cWo { W with th := setA W.th n t' }) := by
  obtain ⟨l, q, e, _⟩ := lk_split h
  have nd : ((l ++ (n, t) :: q).map (·.1)).Nodup := by
    have := ok.nd
    unfold WoG.abs at this
    rw [List.map_map] at this
    rw [← e]
    exact this
  have e2 : setA W.th n t' = l ++ (n, t') :: q := by rw [e]; exact setA_mid nd
  have e3 : wtD (l ++ (n, t') :: q) = wtD (l ++ (n, t) :: q) := by simp [wtD, hp]
  show At ((W.D, .dK (woD W)) :: (W.TD, .dK (wtD W.th)) :: (W.CD, .dK []) :: (W.RD, .lst [.int 0]) :: (W.th.map (cWT W.ps) ++ W.ps.flatMap cWP)) _ _ _ ((W.D, .dK (woD W)) :: (W.TD, .dK (wtD (setA W.th n t'))) :: (W.CD, .dK []) :: (W.RD, .lst [.int 0]) :: ((setA W.th n t').map (cWT W.ps) ++ W.ps.flatMap cWP))
  rw [e2, e3, e]
  rw [show (l ++ (n, t) :: q).map (cWT W.ps) = l.map (cWT W.ps) ++ cWT W.ps (n, t) :: q.map (cWT W.ps) by simp, show (l ++ (n, t') :: q).map (cWT W.ps) = l.map (cWT W.ps) ++ cWT W.ps (n, t') :: q.map (cWT W.ps) by simp]
  have : cWT W.ps (n, t') = (t.p, .lst (thV (pD W.ps t'.t.q) t'.t)) := by
    show (t'.p, _) = _
    rw [hp]
  rw [this]
  exact .there (.there (.there (.there (.appl (.app .here)))))
theorem wset_abs {W : WoG} {n : Int} {t' : WT} : ({ W with th := setA W.th n t' } : WoG).abs = setT W.abs n t'.t := by
  unfold WoG.abs setT
  congr 1
  exact setA_map' (fun x : WT => x.t) W.th n t'
theorem wps_abs {W : WoG} {q : Nat} {x' : WP} : ({ W with ps := W.ps.set q x' } : WoG).abs = setP W.abs q x'.abs := by
  unfold WoG.abs setP
  congr 1
  exact List.map_set
theorem wo_sub {W : WoG} {q : Nat} {x : WP} (h : W.ps[q]? = some x) : Sub (cWo W) (cWP x) (cWP x) (cWo W) := by
  have := wo_pipe (x' := x) h rfl
  rwa [show ({ W with ps := W.ps.set q x } : WoG) = W by
    obtain ⟨hq, hx⟩ := List.getElem?_eq_some_iff.mp h
    rw [← hx, List.set_getElem_self]] at this
theorem wt_mem {W : WoG} {n : Int} {t : WT} (h : W.th.lookup n = some t) : (t.p, HO.lst (thV (pD W.ps t.t.q) t.t)) ∈ cWo W := .tail _ (.tail _ (.tail _ (.tail _ (List.mem_append_left _ (List.mem_map.mpr ⟨(n, t), lk_mem h, rfl⟩)))))
theorem wo_at {W : WoG} {n : Int} {t : WT} (ok : AOk W.abs) (h : W.th.lookup n = some t) : ∃ x, W.ps[t.t.q]? = some x ∧ apAt W.abs t.t.q = x.abs ∧ x.abs.1.length ≤ 16 := by
  have h1 : t.t.q < W.abs.ps.length := ok.pip (n, t.t) (List.mem_map.mpr ⟨(n, t), lk_mem h, rfl⟩)
  have h2 : t.t.q < W.ps.length := by
    have := h1
    unfold WoG.abs at this
    rwa [List.length_map] at this
  refine ⟨W.ps[t.t.q], List.getElem?_eq_getElem h2, ?_, ok.ws _ (List.mem_map.mpr ⟨W.ps[t.t.q], List.getElem_mem h2, rfl⟩)⟩
  unfold apAt WoG.abs
  rw [List.getElem?_map, List.getElem?_eq_getElem h2]
  rfl
/-! ### a step keeps the sense -/
theorem setT_ok {a : AO} {n : Int} {t t' : AT} (ok : AOk a) (w : AOw a) (h : a.th.lookup n = some t) (e1 : t'.q = t.q) (e2 : t'.rd = t.rd) (e3 : 1 ≤ t'.own) : AOk (setT a n t') ∧ AOw (setT a n t') := by
  have hm : ∀ x ∈ (setT a n t').th, ∃ y ∈ a.th, x.1 = y.1 ∧ x.2.q = y.2.q ∧ x.2.rd = y.2.rd ∧ 1 ≤ x.2.own := by
    intro x hx
    obtain ⟨y, hy, e⟩ := List.mem_map.mp (show x ∈ a.th.map fun x => if x.1 = n then (x.1, t') else x from hx)
    refine ⟨y, hy, ?_⟩
    by_cases hn : y.1 = n
    · rw [if_pos hn] at e
      have : a.th.lookup y.1 = some y.2 := lk_nd ok.nd hy
      rw [hn, h] at this
      have hty : t = y.2 := Option.some.inj this
      subst e
      exact ⟨rfl, by rw [← hty]; exact e1, by rw [← hty]; exact e2, e3⟩
    · rw [if_neg hn] at e
      subst e
      exact ⟨rfl, rfl, rfl, ok.own _ hy⟩
  have hk : (setT a n t').th.map (·.1) = a.th.map (·.1) := setA_keys _ _ _
  refine ⟨⟨by rw [hk]; exact ok.nd, by rw [hk]; exact ok.ris, fun x hx => ?_, fun x hx => ?_, fun x hx => ?_, ok.ws, ok.few, ?_⟩, ⟨fun x hx => ?_, w.lst, fun x hx hr => ?_⟩⟩
  · obtain ⟨y, hy, q1, _⟩ := hm x hx
    rw [q1]
    exact ok.rng y hy
  · obtain ⟨y, hy, _, q2, _⟩ := hm x hx
    rw [q2]
    exact ok.pip y hy
  · obtain ⟨y, hy, _, _, _, q4⟩ := hm x hx
    exact q4
  · have : (setT a n t').th.length = a.th.length := List.length_map _
    rw [this]
    exact ok.len
  · obtain ⟨y, hy, q1, q2, q3, _⟩ := hm x hx
    rw [q1, q2, q3]
    exact w.num y hy
  · obtain ⟨y, hy, q1, q2, q3, _⟩ := hm x hx
    rw [q3] at hr
    rw [q2]
    exact w.rdr y hy hr
theorem apAt_setP {a : AO} {q j : Nat} {y : AP} (h : q < a.ps.length) : apAt (setP a q y) j = if j = q then y else apAt a j := by
  unfold apAt setP
  show (((a.ps.set q y)[j]?).getD _) = _
  rw [List.getElem?_set]
  by_cases e : q = j
  · subst e
    rw [if_pos rfl, if_pos h, if_pos rfl]
    rfl
  · rw [if_neg e, if_neg (fun z => e z.symm)]
theorem setP_ok {a : AO} {q : Nat} {y : AP} (ok : AOk a) (w : AOw a) (hy : y.1.length ≤ 16) (hr : y.2.1 = (apAt a q).2.1) : AOk (setP a q y) ∧ AOw (setP a q y) := by
  refine ⟨⟨ok.nd, ok.ris, ok.rng, fun x hx => ?_, ok.own, fun z hz => ?_, ok.few, ok.len⟩, ⟨w.num, ?_, fun x hx hxr => ?_⟩⟩
  · show _ < (a.ps.set q y).length
    rw [List.length_set]
    exact ok.pip x hx
  · rcases List.mem_or_eq_of_mem_set hz with h | h
    · exact ok.ws z h
    · rw [h]; exact hy
  · show _ = 2 * (a.ps.set q y).length
    rw [List.length_set]
    exact w.lst
  · by_cases hq : q < a.ps.length
    · rw [apAt_setP hq]
      split
      · next e =>
        rw [hr, ← e]
        exact w.rdr x hx hxr
      · exact w.rdr x hx hxr
    · have : setP a q y = a := by unfold setP; rw [List.set_eq_of_length_le (by omega)]
      rw [this]
      exact w.rdr x hx hxr
theorem drop_ok {a : AO} {n : Int} {t : AT} {y : AP} (ok : AOk a) (w : AOw a) (h : a.th.lookup n = some t) (hy : y.1.length ≤ 16) (hr : t.rd = false → y.2.1 = (apAt a t.q).2.1) : AOk { setP a t.q y with th := dropA a.th n } ∧ AOw { setP a t.q y with th := dropA a.th n } := by
  have hs := dropA_sub a.th n
  have hmem : ∀ x ∈ dropA a.th n, x ∈ a.th ∧ x.1 ≠ n := fun x hx => by
    obtain ⟨h1, h2⟩ := List.mem_filter.mp hx
    exact ⟨h1, of_decide_eq_true h2⟩
  have hq : t.q < a.ps.length := ok.pip (n, t) (lk_mem h)
  have hn := w.num (n, t) (lk_mem h)
  refine ⟨⟨(hs.map _).nodup ok.nd, List.Pairwise.sublist (hs.map _) ok.ris, fun x hx => ok.rng x (hmem x hx).1, fun x hx => ?_, fun x hx => ok.own x (hmem x hx).1, fun z hz => ?_, ok.few, Nat.le_trans hs.length_le ok.len⟩, ⟨fun x hx => w.num x (hmem x hx).1, ?_, fun x hx hxr => ?_⟩⟩
  · show _ < (a.ps.set t.q y).length
    rw [List.length_set]
    exact ok.pip x (hmem x hx).1
  · rcases List.mem_or_eq_of_mem_set hz with h | h
    · exact ok.ws z h
    · rw [h]; exact hy
  · show _ = 2 * (a.ps.set t.q y).length
    rw [List.length_set]
    exact w.lst
  · obtain ⟨h1, h2⟩ := hmem x hx
    have e : apAt { setP a t.q y with th := dropA a.th n } x.2.q = apAt (setP a t.q y) x.2.q := rfl
    rw [e, apAt_setP hq]
    split
    · next e =>
      by_cases ht : t.rd = true
      · exfalso
        have h3 := w.num x h1
        rw [hxr, e] at h3
        rw [show ((n, t) : Int × AT).2.rd = true from ht] at hn
        exact h2 (h3.trans hn.symm)
      · rw [hr (Bool.eq_false_iff.mpr ht), ← e]
        exact w.rdr x h1 hxr
    · exact w.rdr x h1 hxr
theorem pipe_ok {a a' : AO} {r : OAns} (ok : AOk a) (w : AOw a) (hl : a.last ≤ 8990) (e : semO a .pipe = .ok (a', r)) : AOk a' ∧ AOw a' := by
  cases e
  have hpl : ∀ x ∈ a.th, x.2.q < a.ps.length := ok.pip
  have hkey : (a.th ++ [((((a.last + 1 : Nat) : Int)), (⟨true, a.ps.length, 1⟩ : AT)), (((a.last + 2 : Nat) : Int), ⟨false, a.ps.length, 1⟩)]).map (·.1) = a.th.map (·.1) ++ [((a.last + 1 : Nat) : Int), ((a.last + 2 : Nat) : Int)] := by simp
  have hin : ∀ x ∈ (a.th ++ [((((a.last + 1 : Nat) : Int)), (⟨true, a.ps.length, 1⟩ : AT)), (((a.last + 2 : Nat) : Int), ⟨false, a.ps.length, 1⟩)]), x ∈ a.th ∨ x = ((((a.last + 1 : Nat) : Int)), (⟨true, a.ps.length, 1⟩ : AT)) ∨ x = (((a.last + 2 : Nat) : Int), (⟨false, a.ps.length, 1⟩ : AT)) := fun x hx => by
    rcases List.mem_append.mp hx with h | h
    · exact .inl h
    · rcases List.mem_cons.mp h with h | h
      · exact .inr (.inl h)
      · exact .inr (.inr (List.mem_singleton.mp h))
  have hlt : ∀ k ∈ a.th.map (·.1), k ≤ ((a.last : Nat) : Int) := fun k hk => by
    obtain ⟨x, hx, rfl⟩ := List.mem_map.mp hk
    exact (ok.rng x hx).2
  refine ⟨⟨?_, ?_, fun x hx => ?_, fun x hx => ?_, fun x hx => ?_, fun z hz => ?_, ?_, ?_⟩, ⟨fun x hx => ?_, ?_, fun x hx hxr => ?_⟩⟩
  · show (List.map _ (a.th ++ _)).Nodup
    rw [hkey, List.nodup_append]
    refine ⟨ok.nd, by simp, fun u hu v hv e => ?_⟩
    have := hlt u hu
    simp at hv
    omega
  · show (List.map _ (a.th ++ _)).Pairwise _
    rw [hkey, List.pairwise_append]
    refine ⟨ok.ris, by simp, fun u hu v hv => ?_⟩
    have := hlt u hu
    simp at hv
    omega
  · show 1 ≤ x.1 ∧ x.1 ≤ ((a.last + 2 : Nat) : Int)
    rcases hin x hx with h | h | h
    · have := ok.rng x h
      omega
    · rw [h]; dsimp only; omega
    · rw [h]; dsimp only; omega
  · show x.2.q < (a.ps ++ [_]).length
    rw [List.length_append, List.length_singleton]
    rcases hin x hx with h | h | h
    · have := hpl x h
      omega
    · rw [h]; exact Nat.lt_succ_self _
    · rw [h]; exact Nat.lt_succ_self _
  · rcases hin x hx with h | h | h
    · exact ok.own x h
    · rw [h]; exact Int.le_refl _
    · rw [h]; exact Int.le_refl _
  · rcases List.mem_append.mp hz with h | h
    · exact ok.ws z h
    · rw [List.mem_singleton.mp h]; exact Nat.zero_le _
  · show a.last + 2 ≤ 9000
    omega
  · show (a.th ++ [_, _]).length ≤ a.last + 2
    rw [List.length_append]
    have := ok.len
    simp only [List.length_cons, List.length_nil]
    omega
  · have hw := w.lst
    rcases hin x hx with h | h | h
    · exact w.num x h
    · rw [h]; dsimp only; rw [if_pos rfl]; omega
    · rw [h]; dsimp only; rw [if_neg (by decide)]; omega
  · show a.last + 2 = 2 * (a.ps ++ [_]).length
    rw [List.length_append, List.length_singleton, w.lst]
    omega
  · rcases hin x hx with h | h | h
    · have := w.rdr x h hxr
      unfold apAt at this ⊢
      show (((a.ps ++ [_])[x.2.q]?).getD _).2.1 = true
      rw [List.getElem?_append_left (hpl x h)]
      exact this
    · rw [h]
      unfold apAt
      show (((a.ps ++ [_])[a.ps.length]?).getD _).2.1 = true
      simp
    · rw [h] at hxr
      cases hxr
theorem apAt_len {a : AO} (ok : AOk a) (q : Nat) : (apAt a q).1.length ≤ 16 := by
  unfold apAt
  cases h : a.ps[q]? with
  | none => exact Nat.zero_le _
  | some y => exact ok.ws y (List.mem_of_getElem? h)
theorem semO_ok {a a' : AO} {d : ODeed} {r : OAns} (ok : AOk a) (w : AOw a) (hl : a.last ≤ 8990) (e : semO a d = .ok (a', r)) : AOk a' ∧ AOw a' ∧ a'.last ≤ a.last + 2 := by
  cases d with
  | pipe =>
    have := pipe_ok ok w hl e
    refine ⟨this.1, this.2, ?_⟩
    cases e
    exact Nat.le_refl _
  | more n =>
    cases h : a.th.lookup n with
    | none => simp only [semO, h] at e; cases e
    | some t =>
      simp only [semO, h] at e
      cases e
      have := setT_ok (t' := { t with own := t.own + 1 }) ok w h rfl rfl (by have := ok.own _ (lk_mem h); dsimp only at this ⊢; omega)
      exact ⟨this.1, this.2, Nat.le_add_right _ _⟩
  | less n =>
    cases h : a.th.lookup n with
    | none => simp only [semO, h] at e; cases e
    | some t =>
      simp only [semO, h] at e
      split at e
      · next h1 =>
        cases e
        have := setT_ok (t' := { t with own := t.own - 1 }) ok w h rfl rfl (by dsimp only; omega)
        exact ⟨this.1, this.2, Nat.le_add_right _ _⟩
      · cases e
        have := drop_ok (y := shutA (apAt a t.q) t.rd) ok w h (by unfold shutA; split; (· exact Nat.zero_le _); exact apAt_len ok _) (fun hr => by unfold shutA; rw [hr]; rfl)
        exact ⟨this.1, this.2, Nat.le_add_right _ _⟩
  | read n m =>
    cases h : a.th.lookup n with
    | none => simp only [semO, h] at e; cases e
    | some t =>
      simp only [semO, h] at e
      split at e
      · cases e
      split at e
      · cases e
      split at e
      · cases e
      cases e
      have := setP_ok (q := t.q) (y := ((apAt a t.q).1.drop m.toNat, (apAt a t.q).2)) ok w (by have := apAt_len ok t.q; dsimp only; rw [List.length_drop]; omega) rfl
      exact ⟨this.1, this.2, Nat.le_add_right _ _⟩
  | write n cs =>
    cases h : a.th.lookup n with
    | none => simp only [semO, h] at e; cases e
    | some t =>
      simp only [semO, h] at e
      split at e
      · cases e
      split at e
      · cases e
      split at e
      · cases e
      split at e
      · cases e
      cases e
      have := setP_ok (q := t.q) (y := ((apAt a t.q).1 ++ cs, (apAt a t.q).2)) ok w (by dsimp only; rw [List.length_append]; omega) rfl
      exact ⟨this.1, this.2, Nat.le_add_right _ _⟩
  | count n =>
    cases h : a.th.lookup n with
    | none => simp only [semO, h] at e; cases e
    | some t =>
      simp only [semO, h] at e
      cases e
      exact ⟨ok, w, Nat.le_add_right _ _⟩
  | numbers =>
    cases e
    exact ⟨ok, w, Nat.le_add_right _ _⟩

def sp__law_word (K : PySem.W.Frag) : Addr → Sp := fun e => sp1 fun x H Q _ => ∃ r : ORf, x = .ref e ∧ H e = some (CxO (r.cls K) none e) ∧ ∀ H', Own H H' [] [] → Q (.str r.name) H'
theorem sc__law_word : FnScope ["_law_error", "_law_some", "_law_others", "_law_names"] ["_law_error"] (defScope s__law_word) := ⟨rfl, rfl, rfl, by decide +kernel, rfl, by decide +kernel, by decide +kernel⟩
theorem okX__law_word {P : Program} {w : World} {K : PySem.W.Frag} {mg : Str → Option Value} {base : Heap} (T : Txt K mg) : CeeX P w K mg base 1 (He.fAd K ("_law_word", none)) ["_law_error"] (sp__law_word K) := by
  refine ceeX_of T.d__law_word sc__law_word (fun _ _ _ _ _ _ us hl => match us, hl with | [_], _ => rfl) (fun a vs H Q E h => sp1_len h) (fun cdv A outer s H vs Q E ea hh hr h => ⟨_, (pss_cons (ps_set (i := 1) sc__law_word.nd rfl (Or.inl rfl) (pe_lst (pa_cons (pe_callB call_isX (by rfl) T.n_isinstance (by decide +kernel) (pa_cons (pv 0) (pa_cons (pe_glob (v := .ref (He.ga K "NoHandle")) rfl T.g_NoHandle rfl) pa_nil))) (pa_cons (pe_callB call_isX (by rfl) T.n_isinstance (by decide +kernel) (pa_cons (pv 0) (pa_cons (pe_glob (v := .ref (He.ga K "BadMode")) rfl T.g_BadMode rfl) pa_nil))) (pa_cons (pe_callB call_isX (by rfl) T.n_isinstance (by decide +kernel) (pa_cons (pv 0) (pa_cons (pe_glob (v := .ref (He.ga K "TooBig")) rfl T.g_TooBig rfl) pa_nil))) pa_nil))))) (pss_cons (ps_set (i := 1) sc__law_word.nd rfl (Or.inl rfl) (pe_op op_cat (pv 1) (pe_lst (pa_cons (pe_callB call_isX (by rfl) T.n_isinstance (by decide +kernel) (pa_cons (pv 0) (pa_cons (pe_glob (v := .ref (He.ga K "Again")) rfl T.g_Again rfl) pa_nil))) (pa_cons (pe_callB call_isX (by rfl) T.n_isinstance (by decide +kernel) (pa_cons (pv 0) (pa_cons (pe_glob (v := .ref (He.ga K "Broken")) rfl T.g_Broken rfl) pa_nil))) (pa_cons (pe_callB call_isX (by rfl) T.n_isinstance (by decide +kernel) (pa_cons (pv 0) (pa_cons (pe_glob (v := .ref (He.ga K "NoNode")) rfl T.g_NoNode rfl) pa_nil))) pa_nil)))))) (pss_cons (ps_set (i := 1) sc__law_word.nd rfl (Or.inl rfl) (pe_op op_cat (pv 1) (pe_lst (pa_cons (pe_callB call_isX (by rfl) T.n_isinstance (by decide +kernel) (pa_cons (pv 0) (pa_cons (pe_glob (v := .ref (He.ga K "IsDir")) rfl T.g_IsDir rfl) pa_nil))) (pa_cons (pe_callB call_isX (by rfl) T.n_isinstance (by decide +kernel) (pa_cons (pv 0) (pa_cons (pe_glob (v := .ref (He.ga K "NoSpace")) rfl T.g_NoSpace rfl) pa_nil))) pa_nil))))) (pss_cons (ps_set (i := 2) sc__law_word.nd rfl (Or.inl rfl) (pe_callB call_isXT (by rfl) T.n_isinstance (by decide +kernel) (pa_cons (pv 0) (pa_cons (pe_tup (pa_cons (pe_glob (v := .ref (He.ga K "NoOwner")) rfl T.g_NoOwner rfl) (pa_cons (pe_glob (v := .ref (He.ga K "NoTask")) rfl T.g_NoTask rfl) (pa_cons (pe_glob (v := .ref (He.ga K "NoPage")) rfl T.g_NoPage rfl) (pa_cons (pe_glob (v := .ref (He.ga K "NoRoom")) rfl T.g_NoRoom rfl) (pa_cons (pe_glob (v := .ref (He.ga K "Taken")) rfl T.g_Taken rfl) (pa_cons (pe_glob (v := .ref (He.ga K "NoBlock")) rfl T.g_NoBlock rfl) (pa_cons (pe_glob (v := .ref (He.ga K "Fallen")) rfl T.g_Fallen rfl) (pa_cons (pe_glob (v := .ref (He.ga K "BadName")) rfl T.g_BadName rfl) (pa_cons (pe_glob (v := .ref (He.ga K "NoName")) rfl T.g_NoName rfl) (pa_cons (pe_glob (v := .ref (He.ga K "NotDir")) rfl T.g_NotDir rfl) pa_nil))))))))))) pa_nil)))) (pss_cons (PS.box (ps_set (i := 2) sc__law_word.nd rfl (Or.inl rfl) (pe_or (pv 2) (pe_one (pe_callB call_isXT (by rfl) T.n_isinstance (by decide +kernel) (pa_cons (pv 0) (pa_cons (pe_tup (pa_cons (pe_glob (v := .ref (He.ga K "NotEmpty")) rfl T.g_NotEmpty rfl) (pa_cons (pe_glob (v := .ref (He.ga K "Inside")) rfl T.g_Inside rfl) (pa_cons (pe_glob (v := .ref (He.ga K "TooMany")) rfl T.g_TooMany rfl) (pa_cons (pe_glob (v := .ref (He.ga K "NotHeld")) rfl T.g_NotHeld rfl) (pa_cons (pe_glob (v := .ref (He.ga K "NotAllowed")) rfl T.g_NotAllowed rfl) pa_nil)))))) pa_nil))))))) (pss_cons (PS.box (ps_if (PW.pt (pw_or (pt_val (pv 2)) (pw_or1 (pt_val (pe_callB call_isXT (by rfl) T.n_isinstance (by decide +kernel) (pa_cons (pv 0) (pa_cons (pe_tup (pa_cons (pe_glob (v := .ref (He.ga K "NoChild")) rfl T.g_NoChild rfl) (pa_cons (pe_glob (v := .ref (He.ga K "BadCall")) rfl T.g_BadCall rfl) (pa_cons (pe_glob (v := .ref (He.ga K "BadRow")) rfl T.g_BadRow rfl) pa_nil)))) pa_nil))))))) (pss_one (ps_ret pe_str)) pss_nil)) (pss_cons (PS.box (ps_if (PW.pt (pw_or (pt_cmpR op_ne (pe_bm PySem.F.plainAttrs_list PySem.F.slot_list_count PySem.F.type_list_count mt_lcountF (pv 1) (pa_cons pe_bl pa_nil)) pe_int (nomark _)) (pw_or1 (pt_not (pt_val (pe_callB call_isX (by rfl) T.n_isinstance (by decide +kernel) (pa_cons (pv 0) (pa_cons (pe_bltn (v := .ty "ValueError") rfl T.n_ValueError (by decide +kernel) rfl) pa_nil)))))))) (pss_one (ps_ret pe_str)) pss_nil)) (pss_cons (ps_set (i := 3) sc__law_word.nd rfl (Or.inl rfl) (pe_lst (pa_cons pe_str (pa_cons pe_str (pa_cons pe_str (pa_cons pe_str (pa_cons pe_str (pa_cons pe_str (pa_cons pe_str (pa_cons pe_str pa_nil)))))))))) (pss_one (ps_ret (pe_ix ix_list (pv 3) (pe_bm PySem.F.plainAttrs_list PySem.F.slot_list_index PySem.F.type_list_index mt_index (pv 1) (pa_cons pe_bl pa_nil)) (fun _ _ => rfl)))))))))))), ?_⟩)
  obtain ⟨v0, rfl, h⟩ := h
  dsimp only [cxX, cxOf, L2.start]
  obtain ⟨r, rfl, he, k⟩ := h
  have O0 := Own.start (H := H)
  cases r
  · walk_at "s"
    intro l1 hl1
    have O1 := O0.new (o := .lst [V.bl true, V.bl false, V.bl false]) hl1
    generalize upd _ l1 _ = H1 at O1 ⊢
    walk_at "s"
    intro l2 hl2
    have O2 := O1.new (o := .lst [V.bl false, V.bl false, V.bl false]) hl2
    generalize upd _ l2 _ = H2 at O2 ⊢
    walk_at "s"
    intro l3 hl3
    rw [show (([V.bl true, V.bl false, V.bl false] : List V) ++ [V.bl false, V.bl false, V.bl false]) = [V.bl true, V.bl false, V.bl false, V.bl false, V.bl false, V.bl false] from rfl]
    have O3 := O2.new (o := .lst [V.bl true, V.bl false, V.bl false, V.bl false, V.bl false, V.bl false]) hl3
    generalize upd _ l3 _ = H3 at O3 ⊢
    walk_at "s"
    intro l4 hl4
    have O4 := O3.new (o := .lst [V.bl false, V.bl false]) hl4
    generalize upd _ l4 _ = H4 at O4 ⊢
    walk_at "s"
    intro l5 hl5
    rw [show (([V.bl true, V.bl false, V.bl false, V.bl false, V.bl false, V.bl false] : List V) ++ [V.bl false, V.bl false]) = [V.bl true, V.bl false, V.bl false, V.bl false, V.bl false, V.bl false, V.bl false, V.bl false] from rfl]
    have O5 := O4.new (o := .lst [V.bl true, V.bl false, V.bl false, V.bl false, V.bl false, V.bl false, V.bl false, V.bl false]) hl5
    generalize upd _ l5 _ = H5 at O5 ⊢
    have O5 : Own H H5 [] [(l5, .lst [V.bl true, V.bl false, V.bl false, V.bl false, V.bl false, V.bl false, V.bl false, V.bl false])] := O5.drop (.cons₂ _ (List.nil_sublist _))
    clear O1 O2 O3 O4
    walk_at "s"
    intro t6 ht6
    generalize hg : upd H5 t6 _ = H6
    have T6 := (congrFun hg t6).symm.trans upd_same
    have O6 : Own H H6 [] [(l5, .lst [V.bl true, V.bl false, V.bl false, V.bl false, V.bl false, V.bl false, V.bl false, V.bl false])] := by rw [← hg]; exact O5.newT ht6
    clear hg
    walk_at "s"
    generalize hb : List.any _ id = bb
    obtain rfl : bb = false := hb.symm
    clear hb
    walk_at "s"
    walk_at "b"
    walk_at "s"
    intro t7 ht7
    generalize hg : upd H6 t7 _ = H7
    have T7 := (congrFun hg t7).symm.trans upd_same
    have O7 : Own H H7 [] [(l5, .lst [V.bl true, V.bl false, V.bl false, V.bl false, V.bl false, V.bl false, V.bl false, V.bl false])] := by rw [← hg]; exact O6.newT ht7
    clear hg
    walk_at "s"
    generalize hb : List.any _ id = bb
    obtain rfl : bb = false := hb.symm
    clear hb
    walk_at "s"
    walk_at "b"
    walk_at "s"
    intro t8 ht8
    generalize hg : upd H7 t8 _ = H8
    have T8 := (congrFun hg t8).symm.trans upd_same
    have O8 : Own H H8 [] [(l5, .lst [V.bl true, V.bl false, V.bl false, V.bl false, V.bl false, V.bl false, V.bl false, V.bl false])] := by rw [← hg]; exact O7.newT ht8
    clear hg
    walk_at "s"
    generalize hb : List.any _ id = bb
    obtain rfl : bb = false := hb.symm
    clear hb
    walk_at "s"
    walk_at "b"
    walk_at "s"
    refine ⟨rfl, ?_⟩
    generalize hb : List.countP _ _ = n
    obtain rfl : n = 1 := hb.symm
    clear hb
    walk_at "s"
    intro l9 hl9
    generalize hg : upd H8 l9 _ = H9
    have O9 : Own H H9 [] [(l9, .lst [.str "nohandle", .str "badmode", .str "toobig", .str "again", .str "broken", .str "nonode", .str "isdir", .str "nospace"]), (l5, .lst [V.bl true, V.bl false, V.bl false, V.bl false, V.bl false, V.bl false, V.bl false, V.bl false])] := by rw [← hg]; exact O8.new hl9
    clear hg T6 T7 T8 O5 O6 O7 O8
    walk_at "s"
    refine ⟨rfl, (show ([V.bl true, V.bl false, V.bl false, V.bl false, V.bl false, V.bl false, V.bl false, V.bl false] : List V)[0]? = some (.bl true) from rfl), rfl, fun m z' hm hz => ?_, ?_⟩
    . have hm : m < 0 := hm
      rcases m with _ | _ | _ | _ | m <;> first | omega | (cases hz; rfl) | (cases hz; decide) | (cases hz; intro h; cases h)
    walk_at "s"
    exact k _ (O9.drop (List.nil_sublist _))
  · walk_at "s"
    intro l1 hl1
    have O1 := O0.new (o := .lst [V.bl false, V.bl true, V.bl false]) hl1
    generalize upd _ l1 _ = H1 at O1 ⊢
    walk_at "s"
    intro l2 hl2
    have O2 := O1.new (o := .lst [V.bl false, V.bl false, V.bl false]) hl2
    generalize upd _ l2 _ = H2 at O2 ⊢
    walk_at "s"
    intro l3 hl3
    rw [show (([V.bl false, V.bl true, V.bl false] : List V) ++ [V.bl false, V.bl false, V.bl false]) = [V.bl false, V.bl true, V.bl false, V.bl false, V.bl false, V.bl false] from rfl]
    have O3 := O2.new (o := .lst [V.bl false, V.bl true, V.bl false, V.bl false, V.bl false, V.bl false]) hl3
    generalize upd _ l3 _ = H3 at O3 ⊢
    walk_at "s"
    intro l4 hl4
    have O4 := O3.new (o := .lst [V.bl false, V.bl false]) hl4
    generalize upd _ l4 _ = H4 at O4 ⊢
    walk_at "s"
    intro l5 hl5
    rw [show (([V.bl false, V.bl true, V.bl false, V.bl false, V.bl false, V.bl false] : List V) ++ [V.bl false, V.bl false]) = [V.bl false, V.bl true, V.bl false, V.bl false, V.bl false, V.bl false, V.bl false, V.bl false] from rfl]
    have O5 := O4.new (o := .lst [V.bl false, V.bl true, V.bl false, V.bl false, V.bl false, V.bl false, V.bl false, V.bl false]) hl5
    generalize upd _ l5 _ = H5 at O5 ⊢
    have O5 : Own H H5 [] [(l5, .lst [V.bl false, V.bl true, V.bl false, V.bl false, V.bl false, V.bl false, V.bl false, V.bl false])] := O5.drop (.cons₂ _ (List.nil_sublist _))
    clear O1 O2 O3 O4
    walk_at "s"
    intro t6 ht6
    generalize hg : upd H5 t6 _ = H6
    have T6 := (congrFun hg t6).symm.trans upd_same
    have O6 : Own H H6 [] [(l5, .lst [V.bl false, V.bl true, V.bl false, V.bl false, V.bl false, V.bl false, V.bl false, V.bl false])] := by rw [← hg]; exact O5.newT ht6
    clear hg
    walk_at "s"
    generalize hb : List.any _ id = bb
    obtain rfl : bb = false := hb.symm
    clear hb
    walk_at "s"
    walk_at "b"
    walk_at "s"
    intro t7 ht7
    generalize hg : upd H6 t7 _ = H7
    have T7 := (congrFun hg t7).symm.trans upd_same
    have O7 : Own H H7 [] [(l5, .lst [V.bl false, V.bl true, V.bl false, V.bl false, V.bl false, V.bl false, V.bl false, V.bl false])] := by rw [← hg]; exact O6.newT ht7
    clear hg
    walk_at "s"
    generalize hb : List.any _ id = bb
    obtain rfl : bb = false := hb.symm
    clear hb
    walk_at "s"
    walk_at "b"
    walk_at "s"
    intro t8 ht8
    generalize hg : upd H7 t8 _ = H8
    have T8 := (congrFun hg t8).symm.trans upd_same
    have O8 : Own H H8 [] [(l5, .lst [V.bl false, V.bl true, V.bl false, V.bl false, V.bl false, V.bl false, V.bl false, V.bl false])] := by rw [← hg]; exact O7.newT ht8
    clear hg
    walk_at "s"
    generalize hb : List.any _ id = bb
    obtain rfl : bb = false := hb.symm
    clear hb
    walk_at "s"
    walk_at "b"
    walk_at "s"
    refine ⟨rfl, ?_⟩
    generalize hb : List.countP _ _ = n
    obtain rfl : n = 1 := hb.symm
    clear hb
    walk_at "s"
    intro l9 hl9
    generalize hg : upd H8 l9 _ = H9
    have O9 : Own H H9 [] [(l9, .lst [.str "nohandle", .str "badmode", .str "toobig", .str "again", .str "broken", .str "nonode", .str "isdir", .str "nospace"]), (l5, .lst [V.bl false, V.bl true, V.bl false, V.bl false, V.bl false, V.bl false, V.bl false, V.bl false])] := by rw [← hg]; exact O8.new hl9
    clear hg T6 T7 T8 O5 O6 O7 O8
    walk_at "s"
    refine ⟨rfl, (show ([V.bl false, V.bl true, V.bl false, V.bl false, V.bl false, V.bl false, V.bl false, V.bl false] : List V)[1]? = some (.bl true) from rfl), rfl, fun m z' hm hz => ?_, ?_⟩
    . have hm : m < 1 := hm
      rcases m with _ | _ | _ | _ | m <;> first | omega | (cases hz; rfl) | (cases hz; decide) | (cases hz; intro h; cases h)
    walk_at "s"
    exact k _ (O9.drop (List.nil_sublist _))
  · walk_at "s"
    intro l1 hl1
    have O1 := O0.new (o := .lst [V.bl false, V.bl false, V.bl true]) hl1
    generalize upd _ l1 _ = H1 at O1 ⊢
    walk_at "s"
    intro l2 hl2
    have O2 := O1.new (o := .lst [V.bl false, V.bl false, V.bl false]) hl2
    generalize upd _ l2 _ = H2 at O2 ⊢
    walk_at "s"
    intro l3 hl3
    rw [show (([V.bl false, V.bl false, V.bl true] : List V) ++ [V.bl false, V.bl false, V.bl false]) = [V.bl false, V.bl false, V.bl true, V.bl false, V.bl false, V.bl false] from rfl]
    have O3 := O2.new (o := .lst [V.bl false, V.bl false, V.bl true, V.bl false, V.bl false, V.bl false]) hl3
    generalize upd _ l3 _ = H3 at O3 ⊢
    walk_at "s"
    intro l4 hl4
    have O4 := O3.new (o := .lst [V.bl false, V.bl false]) hl4
    generalize upd _ l4 _ = H4 at O4 ⊢
    walk_at "s"
    intro l5 hl5
    rw [show (([V.bl false, V.bl false, V.bl true, V.bl false, V.bl false, V.bl false] : List V) ++ [V.bl false, V.bl false]) = [V.bl false, V.bl false, V.bl true, V.bl false, V.bl false, V.bl false, V.bl false, V.bl false] from rfl]
    have O5 := O4.new (o := .lst [V.bl false, V.bl false, V.bl true, V.bl false, V.bl false, V.bl false, V.bl false, V.bl false]) hl5
    generalize upd _ l5 _ = H5 at O5 ⊢
    have O5 : Own H H5 [] [(l5, .lst [V.bl false, V.bl false, V.bl true, V.bl false, V.bl false, V.bl false, V.bl false, V.bl false])] := O5.drop (.cons₂ _ (List.nil_sublist _))
    clear O1 O2 O3 O4
    walk_at "s"
    intro t6 ht6
    generalize hg : upd H5 t6 _ = H6
    have T6 := (congrFun hg t6).symm.trans upd_same
    have O6 : Own H H6 [] [(l5, .lst [V.bl false, V.bl false, V.bl true, V.bl false, V.bl false, V.bl false, V.bl false, V.bl false])] := by rw [← hg]; exact O5.newT ht6
    clear hg
    walk_at "s"
    generalize hb : List.any _ id = bb
    obtain rfl : bb = false := hb.symm
    clear hb
    walk_at "s"
    walk_at "b"
    walk_at "s"
    intro t7 ht7
    generalize hg : upd H6 t7 _ = H7
    have T7 := (congrFun hg t7).symm.trans upd_same
    have O7 : Own H H7 [] [(l5, .lst [V.bl false, V.bl false, V.bl true, V.bl false, V.bl false, V.bl false, V.bl false, V.bl false])] := by rw [← hg]; exact O6.newT ht7
    clear hg
    walk_at "s"
    generalize hb : List.any _ id = bb
    obtain rfl : bb = false := hb.symm
    clear hb
    walk_at "s"
    walk_at "b"
    walk_at "s"
    intro t8 ht8
    generalize hg : upd H7 t8 _ = H8
    have T8 := (congrFun hg t8).symm.trans upd_same
    have O8 : Own H H8 [] [(l5, .lst [V.bl false, V.bl false, V.bl true, V.bl false, V.bl false, V.bl false, V.bl false, V.bl false])] := by rw [← hg]; exact O7.newT ht8
    clear hg
    walk_at "s"
    generalize hb : List.any _ id = bb
    obtain rfl : bb = false := hb.symm
    clear hb
    walk_at "s"
    walk_at "b"
    walk_at "s"
    refine ⟨rfl, ?_⟩
    generalize hb : List.countP _ _ = n
    obtain rfl : n = 1 := hb.symm
    clear hb
    walk_at "s"
    intro l9 hl9
    generalize hg : upd H8 l9 _ = H9
    have O9 : Own H H9 [] [(l9, .lst [.str "nohandle", .str "badmode", .str "toobig", .str "again", .str "broken", .str "nonode", .str "isdir", .str "nospace"]), (l5, .lst [V.bl false, V.bl false, V.bl true, V.bl false, V.bl false, V.bl false, V.bl false, V.bl false])] := by rw [← hg]; exact O8.new hl9
    clear hg T6 T7 T8 O5 O6 O7 O8
    walk_at "s"
    refine ⟨rfl, (show ([V.bl false, V.bl false, V.bl true, V.bl false, V.bl false, V.bl false, V.bl false, V.bl false] : List V)[2]? = some (.bl true) from rfl), rfl, fun m z' hm hz => ?_, ?_⟩
    . have hm : m < 2 := hm
      rcases m with _ | _ | _ | _ | m <;> first | omega | (cases hz; rfl) | (cases hz; decide) | (cases hz; intro h; cases h)
    walk_at "s"
    exact k _ (O9.drop (List.nil_sublist _))
  · walk_at "s"
    intro l1 hl1
    have O1 := O0.new (o := .lst [V.bl false, V.bl false, V.bl false]) hl1
    generalize upd _ l1 _ = H1 at O1 ⊢
    walk_at "s"
    intro l2 hl2
    have O2 := O1.new (o := .lst [V.bl true, V.bl false, V.bl false]) hl2
    generalize upd _ l2 _ = H2 at O2 ⊢
    walk_at "s"
    intro l3 hl3
    rw [show (([V.bl false, V.bl false, V.bl false] : List V) ++ [V.bl true, V.bl false, V.bl false]) = [V.bl false, V.bl false, V.bl false, V.bl true, V.bl false, V.bl false] from rfl]
    have O3 := O2.new (o := .lst [V.bl false, V.bl false, V.bl false, V.bl true, V.bl false, V.bl false]) hl3
    generalize upd _ l3 _ = H3 at O3 ⊢
    walk_at "s"
    intro l4 hl4
    have O4 := O3.new (o := .lst [V.bl false, V.bl false]) hl4
    generalize upd _ l4 _ = H4 at O4 ⊢
    walk_at "s"
    intro l5 hl5
    rw [show (([V.bl false, V.bl false, V.bl false, V.bl true, V.bl false, V.bl false] : List V) ++ [V.bl false, V.bl false]) = [V.bl false, V.bl false, V.bl false, V.bl true, V.bl false, V.bl false, V.bl false, V.bl false] from rfl]
    have O5 := O4.new (o := .lst [V.bl false, V.bl false, V.bl false, V.bl true, V.bl false, V.bl false, V.bl false, V.bl false]) hl5
    generalize upd _ l5 _ = H5 at O5 ⊢
    have O5 : Own H H5 [] [(l5, .lst [V.bl false, V.bl false, V.bl false, V.bl true, V.bl false, V.bl false, V.bl false, V.bl false])] := O5.drop (.cons₂ _ (List.nil_sublist _))
    clear O1 O2 O3 O4
    walk_at "s"
    intro t6 ht6
    generalize hg : upd H5 t6 _ = H6
    have T6 := (congrFun hg t6).symm.trans upd_same
    have O6 : Own H H6 [] [(l5, .lst [V.bl false, V.bl false, V.bl false, V.bl true, V.bl false, V.bl false, V.bl false, V.bl false])] := by rw [← hg]; exact O5.newT ht6
    clear hg
    walk_at "s"
    generalize hb : List.any _ id = bb
    obtain rfl : bb = false := hb.symm
    clear hb
    walk_at "s"
    walk_at "b"
    walk_at "s"
    intro t7 ht7
    generalize hg : upd H6 t7 _ = H7
    have T7 := (congrFun hg t7).symm.trans upd_same
    have O7 : Own H H7 [] [(l5, .lst [V.bl false, V.bl false, V.bl false, V.bl true, V.bl false, V.bl false, V.bl false, V.bl false])] := by rw [← hg]; exact O6.newT ht7
    clear hg
    walk_at "s"
    generalize hb : List.any _ id = bb
    obtain rfl : bb = false := hb.symm
    clear hb
    walk_at "s"
    walk_at "b"
    walk_at "s"
    intro t8 ht8
    generalize hg : upd H7 t8 _ = H8
    have T8 := (congrFun hg t8).symm.trans upd_same
    have O8 : Own H H8 [] [(l5, .lst [V.bl false, V.bl false, V.bl false, V.bl true, V.bl false, V.bl false, V.bl false, V.bl false])] := by rw [← hg]; exact O7.newT ht8
    clear hg
    walk_at "s"
    generalize hb : List.any _ id = bb
    obtain rfl : bb = false := hb.symm
    clear hb
    walk_at "s"
    walk_at "b"
    walk_at "s"
    refine ⟨rfl, ?_⟩
    generalize hb : List.countP _ _ = n
    obtain rfl : n = 1 := hb.symm
    clear hb
    walk_at "s"
    intro l9 hl9
    generalize hg : upd H8 l9 _ = H9
    have O9 : Own H H9 [] [(l9, .lst [.str "nohandle", .str "badmode", .str "toobig", .str "again", .str "broken", .str "nonode", .str "isdir", .str "nospace"]), (l5, .lst [V.bl false, V.bl false, V.bl false, V.bl true, V.bl false, V.bl false, V.bl false, V.bl false])] := by rw [← hg]; exact O8.new hl9
    clear hg T6 T7 T8 O5 O6 O7 O8
    walk_at "s"
    refine ⟨rfl, (show ([V.bl false, V.bl false, V.bl false, V.bl true, V.bl false, V.bl false, V.bl false, V.bl false] : List V)[3]? = some (.bl true) from rfl), rfl, fun m z' hm hz => ?_, ?_⟩
    . have hm : m < 3 := hm
      rcases m with _ | _ | _ | _ | m <;> first | omega | (cases hz; rfl) | (cases hz; decide) | (cases hz; intro h; cases h)
    walk_at "s"
    exact k _ (O9.drop (List.nil_sublist _))
  · walk_at "s"
    intro l1 hl1
    have O1 := O0.new (o := .lst [V.bl false, V.bl false, V.bl false]) hl1
    generalize upd _ l1 _ = H1 at O1 ⊢
    walk_at "s"
    intro l2 hl2
    have O2 := O1.new (o := .lst [V.bl false, V.bl true, V.bl false]) hl2
    generalize upd _ l2 _ = H2 at O2 ⊢
    walk_at "s"
    intro l3 hl3
    rw [show (([V.bl false, V.bl false, V.bl false] : List V) ++ [V.bl false, V.bl true, V.bl false]) = [V.bl false, V.bl false, V.bl false, V.bl false, V.bl true, V.bl false] from rfl]
    have O3 := O2.new (o := .lst [V.bl false, V.bl false, V.bl false, V.bl false, V.bl true, V.bl false]) hl3
    generalize upd _ l3 _ = H3 at O3 ⊢
    walk_at "s"
    intro l4 hl4
    have O4 := O3.new (o := .lst [V.bl false, V.bl false]) hl4
    generalize upd _ l4 _ = H4 at O4 ⊢
    walk_at "s"
    intro l5 hl5
    rw [show (([V.bl false, V.bl false, V.bl false, V.bl false, V.bl true, V.bl false] : List V) ++ [V.bl false, V.bl false]) = [V.bl false, V.bl false, V.bl false, V.bl false, V.bl true, V.bl false, V.bl false, V.bl false] from rfl]
    have O5 := O4.new (o := .lst [V.bl false, V.bl false, V.bl false, V.bl false, V.bl true, V.bl false, V.bl false, V.bl false]) hl5
    generalize upd _ l5 _ = H5 at O5 ⊢
    have O5 : Own H H5 [] [(l5, .lst [V.bl false, V.bl false, V.bl false, V.bl false, V.bl true, V.bl false, V.bl false, V.bl false])] := O5.drop (.cons₂ _ (List.nil_sublist _))
    clear O1 O2 O3 O4
    walk_at "s"
    intro t6 ht6
    generalize hg : upd H5 t6 _ = H6
    have T6 := (congrFun hg t6).symm.trans upd_same
    have O6 : Own H H6 [] [(l5, .lst [V.bl false, V.bl false, V.bl false, V.bl false, V.bl true, V.bl false, V.bl false, V.bl false])] := by rw [← hg]; exact O5.newT ht6
    clear hg
    walk_at "s"
    generalize hb : List.any _ id = bb
    obtain rfl : bb = false := hb.symm
    clear hb
    walk_at "s"
    walk_at "b"
    walk_at "s"
    intro t7 ht7
    generalize hg : upd H6 t7 _ = H7
    have T7 := (congrFun hg t7).symm.trans upd_same
    have O7 : Own H H7 [] [(l5, .lst [V.bl false, V.bl false, V.bl false, V.bl false, V.bl true, V.bl false, V.bl false, V.bl false])] := by rw [← hg]; exact O6.newT ht7
    clear hg
    walk_at "s"
    generalize hb : List.any _ id = bb
    obtain rfl : bb = false := hb.symm
    clear hb
    walk_at "s"
    walk_at "b"
    walk_at "s"
    intro t8 ht8
    generalize hg : upd H7 t8 _ = H8
    have T8 := (congrFun hg t8).symm.trans upd_same
    have O8 : Own H H8 [] [(l5, .lst [V.bl false, V.bl false, V.bl false, V.bl false, V.bl true, V.bl false, V.bl false, V.bl false])] := by rw [← hg]; exact O7.newT ht8
    clear hg
    walk_at "s"
    generalize hb : List.any _ id = bb
    obtain rfl : bb = false := hb.symm
    clear hb
    walk_at "s"
    walk_at "b"
    walk_at "s"
    refine ⟨rfl, ?_⟩
    generalize hb : List.countP _ _ = n
    obtain rfl : n = 1 := hb.symm
    clear hb
    walk_at "s"
    intro l9 hl9
    generalize hg : upd H8 l9 _ = H9
    have O9 : Own H H9 [] [(l9, .lst [.str "nohandle", .str "badmode", .str "toobig", .str "again", .str "broken", .str "nonode", .str "isdir", .str "nospace"]), (l5, .lst [V.bl false, V.bl false, V.bl false, V.bl false, V.bl true, V.bl false, V.bl false, V.bl false])] := by rw [← hg]; exact O8.new hl9
    clear hg T6 T7 T8 O5 O6 O7 O8
    walk_at "s"
    refine ⟨rfl, (show ([V.bl false, V.bl false, V.bl false, V.bl false, V.bl true, V.bl false, V.bl false, V.bl false] : List V)[4]? = some (.bl true) from rfl), rfl, fun m z' hm hz => ?_, ?_⟩
    . have hm : m < 4 := hm
      rcases m with _ | _ | _ | _ | m <;> first | omega | (cases hz; rfl) | (cases hz; decide) | (cases hz; intro h; cases h)
    walk_at "s"
    exact k _ (O9.drop (List.nil_sublist _))

/-- how the world answers -/
def WDn (K : PySem.W.Frag) (H : Hp) (W : WoG) (r : Except ORf (AO × OAns)) (Q : VK) : Prop :=
  match r with
  | .error e => ∀ H' T, Own H H' (adr (cWo W)) (cWo W) → H' T = some (.tup [.str e.name, .non]) → Q (.ref T) H'
  | .ok (a', r) => ∀ H' W' T b, Own H H' (adr (cWo W)) (r.cel b ++ cWo W') → W'.abs = a' → W'.D = W.D → r.tp H' b → H' T = some (.tup [.str "", r.v b]) → Q (.ref T) H'
def sp__law_world (K : PySem.W.Frag) : Sp := sp2 fun x y H Q _ => ∃ a b, x = .ref a ∧ y = .ref b ∧ Own H H [a, b] [(a, .dK []), (b, .lst [.int 0])] ∧ ∀ H' D TD, Own H H' [a, b] (cWo ⟨D, TD, a, b, 0, [], []⟩) → Q (.ref D) H'
def sp__law_new (K : PySem.W.Frag) : Sp := sp4 fun w m nd p H Q _ => ∃ W rd q, w = .ref W.D ∧ m = .str (modeS rd) ∧ nd = .non ∧ p = .ref (pD W.ps q) ∧ W.th.length ≤ 10000 ∧ (∀ x ∈ W.th, x.1 ≤ ((W.last : Nat) : Int)) ∧ Own H H (adr (cWo W)) (cWo W) ∧
  ∀ H' t, Own H H' (adr (cWo W)) (cWo { W with last := W.last + 1, th := W.th ++ [(((W.last + 1 : Nat) : Int), t)] }) → t.t = ⟨rd, q, 1⟩ → Q (.int ((W.last + 1 : Nat) : Int)) H'
def sp__law_opened (K : PySem.W.Frag) : Sp := sp2 fun x y H Q _ => ∃ W T, x = .ref W.D ∧ y = .ref T ∧ H T = some (.tup [.str "pipe"]) ∧ AOk W.abs ∧ Own H H (adr (cWo W)) (cWo W) ∧ WDn K H W (semO W.abs .pipe) Q
def sp__law_read (K : PySem.W.Frag) : Sp := sp3 fun x y z H Q _ => ∃ W n t m, x = .ref t.p ∧ y = .int m ∧ z = .ref W.D ∧ W.th.lookup n = some t ∧ AOk W.abs ∧ AOw W.abs ∧ Own H H (adr (cWo W)) (cWo W) ∧ WDn K H W (semO W.abs (.read n m)) Q
def sp__law_write (K : PySem.W.Frag) : Sp := sp3 fun x y z H Q _ => ∃ W n t a, ∃ cs : List Int, x = .ref t.p ∧ y = .ref a ∧ z = .ref W.D ∧ H a = some (.lst (cs.map V.int)) ∧ a ∉ adr (cWo W) ∧ cs.length ≤ 1000 ∧ W.th.lookup n = some t ∧ AOk W.abs ∧ AOw W.abs ∧ Own H H (adr (cWo W)) (cWo W) ∧ WDn K H W (semO W.abs (.write n cs)) Q
def sp__law_counted (K : PySem.W.Frag) : Sp := sp2 fun x y H Q _ => ∃ W T n t d, x = .ref W.D ∧ y = .ref T ∧ (d = .more n ∨ d = .less n ∨ d = .count n) ∧ H T = some (.tup (ODeed.vs 0 d)) ∧ W.th.lookup n = some t ∧ AOk W.abs ∧ Own H H (adr (cWo W)) (cWo W) ∧ WDn K H W (semO W.abs d) Q
def sp__law_due (K : PySem.W.Frag) : Sp := sp2 fun x y H Q _ => ∃ W T b d, x = .ref W.D ∧ y = .ref T ∧ H T = some (.tup (ODeed.vs b d)) ∧ d.ls H (adr (cWo W)) b ∧ AOk W.abs ∧ AOw W.abs ∧ Own H H (adr (cWo W)) (cWo W) ∧ WDn K H W (semO W.abs d) Q
theorem Own.callA {H0 H H' : Hp} {A : List PySem.Addr} {cs s' : Cells} (O : Own H0 H A cs) (C : Own H H' (Ow.adr cs) s') : Own H0 H' A s' := O.call .all C
/-- a step between, of the same cells -/
theorem WDn.on {K : PySem.W.Frag} {H H1 : Hp} {W : WoG} {r : Except ORf (AO × OAns)} {Q : VK} (O : Own H H1 (adr (cWo W)) (cWo W)) (k : WDn K H W r Q) : WDn K H1 W r Q := by
  unfold WDn at k ⊢
  split at k
  · exact fun H' T O1 hT => k H' T (O.call .all O1) hT
  · exact fun H' W' T b O1 e1 e2 h1 h2 => k H' W' T b (O.callA O1) e1 e2 h1 h2
theorem wo_last (W : WoG) : putK (woD W) (Sum.inr "last") (.int ((W.last : Nat) + 1)) = woD { W with last := W.last + 1 } := by
  have h : ((woD W).any fun kv => decide (kv.1 = (Sum.inr "last" : Key))) = true := List.any_eq_true.mpr ⟨((Sum.inr "last" : Key), V.int (W.last : Nat)), .tail _ (.head _), decide_eq_true rfl⟩
  unfold putK
  rw [if_pos h]
  unfold woD
  rfl
theorem wo_adr {W : WoG} {q : Nat} {x : WP} {a : Addr} (h : W.ps[q]? = some x) (z : a ∈ adr (cWP x)) : a ∈ adr (cWo W) := by
  obtain ⟨l, r, e, _⟩ := (wo_sub h).split
  rw [e]
  unfold adr at z ⊢
  rw [List.map_append, List.map_append]
  exact List.mem_append_right _ (List.mem_append_left _ z)
theorem dropA_setA {α : Type} (m : List (Int × α)) (k : Int) (v : α) : dropA (setA m k v) k = dropA m k := by
  unfold dropA setA
  induction m with
  | nil => rfl
  | cons x r ih =>
    rw [List.map_cons, List.filter_cons, List.filter_cons, ih]
    by_cases h : x.1 = k
    · rw [if_pos h, if_neg (by simp [h]), if_neg (by simp [h])]
    · rw [if_neg h]
def shutW (y : WP) (rd : Bool) : WP := if rd = true then { y with rd := false } else { y with wr := false }
theorem shutW_D (y : WP) (rd : Bool) : (shutW y rd).D = y.D := by cases rd <;> rfl
theorem shutW_put (y : WP) (rd : Bool) : putK (piD y) (Sum.inr (modeS rd)) (V.bl false) = piD (shutW y rd) := by cases rd <;> rfl
theorem shutW_cel (y : WP) (rd : Bool) : [(y.D, HO.dK (piD (shutW y rd))), (y.L, .lst (y.ws.map V.int))] = cWP (shutW y rd) := by cases rd <;> rfl
theorem shutW_abs (y : WP) (rd : Bool) : (shutW y rd).abs = shutA y.abs rd := by cases rd <;> rfl
theorem wo_perm (a b c d e : Addr × HO) (A B : Cells) : List.Perm (a :: b :: c :: d :: e :: (A ++ B)) (b :: c :: d :: e :: ((A ++ [a]) ++ B)) := by walk_at "pm"
theorem wo_new {W : WoG} {y : WP} (ok : AOk W.abs) : List.Perm (cWP y ++ cWo W) (cWo { W with ps := W.ps ++ [y] }) := by
  have e3 : W.th.map (cWT (W.ps ++ [y])) = W.th.map (cWT W.ps) := by
    refine List.map_congr_left fun x hx => ?_
    have h1 : x.2.t.q < W.abs.ps.length := ok.pip (x.1, x.2.t) (List.mem_map.mpr ⟨x, hx, rfl⟩)
    have h2 : x.2.t.q < W.ps.length := by
      have := h1
      unfold WoG.abs at this
      rwa [List.length_map] at this
    unfold cWT pD
    rw [List.getElem?_append_left h2]
  show List.Perm _ ((W.D, .dK (woD W)) :: (W.TD, .dK (wtD W.th)) :: (W.CD, .dK []) :: (W.RD, .lst [.int 0]) :: (W.th.map (cWT (W.ps ++ [y])) ++ (W.ps ++ [y]).flatMap cWP))
  rw [e3, show (W.ps ++ [y]).flatMap cWP = W.ps.flatMap cWP ++ cWP y by simp]
  show List.Perm (_ :: _ :: (W.D, .dK (woD W)) :: (W.TD, .dK (wtD W.th)) :: (W.CD, .dK []) :: (W.RD, .lst [.int 0]) :: (W.th.map (cWT W.ps) ++ W.ps.flatMap cWP)) _
  walk_at "pm"
theorem pD_new (ps : List WP) (x : WP) : pD (ps ++ [x]) ps.length = x.D := pD_at (by simp)
theorem sc__law_world : FnScope ["_law_cells_here", "_law_dirs"] ["_law_cells_here", "_law_dirs"] (defScope s__law_world) := ⟨rfl, rfl, rfl, by decide +kernel, rfl, by decide +kernel, by decide +kernel⟩
theorem ok__law_world {P : Program} {w : World} {K : PySem.W.Frag} {mg : Str → Option Value} {base : Heap} (T : Txt K mg) : Cee P w K mg base 1 (He.fAd K ("_law_world", none)) ["_law_cells_here", "_law_dirs"] (sp__law_world K) := by
  refine cee_of T.d__law_world sc__law_world (fun _ _ _ _ _ _ us hl => match us, hl with | [_, _], _ => rfl) (fun vs H Q E h => sp2_len h) (fun cdv A outer s H vs Q E hr h => ⟨_, (pss_one (ps_ret (pe_disp (pps_cons pe_str pe_dnewK (pps_cons pe_str pe_int (pps_cons pe_str (pv 0) (pps_cons pe_str (pv 1) pps_nil)))) (by rfl) (by rfl) (fun z => by cases z) (by decide)))), ?_⟩)
  obtain ⟨v0, v1, rfl, h⟩ := h
  dsimp only [cxOf, L2.start]
  obtain ⟨a, b, rfl, rfl, O, k⟩ := h
  dsimp only [tRet, tDisp]
  walk_at "s"
  intro D hD
  have O1 := O.new (o := .dK []) hD
  walk_at "s"
  intro TD hTD
  have O2 := O1.new (o := .dK []) hTD
  have hD2 := O2.get (a := D) (o := .dK []) (.tail _ (.head _))
  walk_at "s"
  refine ⟨(rfl : _ = List.map (fun kv : Key × V => (kV kv.1, kv.2)) [(Sum.inr "things", V.ref TD), (Sum.inr "last", V.int 0), (Sum.inr "cells", V.ref a), (Sum.inr "dirs", V.ref b)]), by show 4 ≤ 15; decide, ?_⟩
  refine k _ D TD ?_
  have O4 := O2.wr (a := D) (o' := .dK (woD ⟨D, TD, a, b, 0, [], []⟩)) (.there .here)
  exact O4.perm (List.Perm.swap _ _ _)
theorem sc__law_new : FnScope ["_law_world_here", "_law_mode", "_law_node", "_law_pipe"] ["_law_world_here", "_law_mode", "_law_node", "_law_pipe"] (defScope s__law_new) := ⟨rfl, rfl, rfl, by decide +kernel, rfl, by decide +kernel, by decide +kernel⟩
theorem ok__law_new {P : Program} {w : World} {K : PySem.W.Frag} {mg : Str → Option Value} {base : Heap} (T : Txt K mg) : Cee P w K mg base 1 (He.fAd K ("_law_new", none)) ["_law_world_here", "_law_mode", "_law_node", "_law_pipe"] (sp__law_new K) := by
  refine cee_of T.d__law_new sc__law_new (fun _ _ _ _ _ _ us hl => match us, hl with | [_, _, _, _], _ => rfl) (fun vs H Q E h => sp4_len h) (fun cdv A outer s H vs Q E hr h => ⟨_, (pss_cons (ps_dput (hu_of hr) (pv 0) pe_str (pe_op op_add (pe_dget (hu_of hr) (pv 0) pe_str (fun _ _ => rfl)) pe_int) rfl) (pss_cons (ps_dput (hu_of hr) (pe_dget (hu_of hr) (pv 0) pe_str (fun _ _ => rfl)) (pe_dget (hu_of hr) (pv 0) pe_str (fun _ _ => rfl)) (pe_lst (pa_cons (pv 1) (pa_cons (pv 2) (pa_cons (pv 3) (pa_cons pe_int (pa_cons pe_int pa_nil)))))) rfl) (pss_one (ps_ret (pe_dget (hu_of hr) (pv 0) pe_str (fun _ _ => rfl)))))), ?_⟩)
  obtain ⟨v0, v1, v2, v3, rfl, h⟩ := h
  dsimp only [cxOf, L2.start]
  obtain ⟨W, rd, q, rfl, rfl, rfl, rfl, hl, hr, O, k⟩ := h
  have hp := O.get (a := W.D) (o := .dK (woD W)) (.head _)
  have hd := O.get (a := W.TD) (o := .dK (wtD W.th)) (.tail _ (.head _))
  have g1 : valV (woD W) (Sum.inr "last") = some (.int (W.last : Nat)) := rfl
  have g2 : (woD W).length < 100000 := by show 4 < 100000; decide
  walk_at "s"
  rw [wo_last]
  have O1 := O.wr (a := W.D) (o' := .dK (woD { W with last := W.last + 1 })) .here
  generalize upd H W.D _ = H1 at O1 ⊢
  have hp := O1.get (a := W.D) (o := .dK (woD { W with last := W.last + 1 })) (.head _)
  have hd := O1.get (a := W.TD) (o := .dK (wtD W.th)) (.tail _ (.head _))
  have g1 : valV (woD { W with last := W.last + 1 }) (Sum.inr "last") = some (.int ((W.last + 1 : Nat) : Int)) := rfl
  have g3 : valV (woD { W with last := W.last + 1 }) (Sum.inr "things") = some (.ref W.TD) := rfl
  walk_at "s"
  intro p hpn
  have O2 := O1.new (o := .lst (thV (pD W.ps q) ⟨rd, q, 1⟩)) hpn
  generalize hg : upd H1 p _ = H2
  have O2 : Own H H2 (adr (cWo W)) ((p, .lst (thV (pD W.ps q) ⟨rd, q, 1⟩)) :: cWo { W with last := W.last + 1 }) := by rw [← hg]; exact O2
  clear hg O1 hp hd
  have hp := O2.get (a := W.D) (o := .dK (woD { W with last := W.last + 1 })) (.tail _ (.head _))
  have hd := O2.get (a := W.TD) (o := .dK (wtD W.th)) (.tail _ (.tail _ (.head _)))
  have hdl : (wtD W.th).length < 100000 := by rw [List.length_map]; omega
  walk_at "s"
  have hnew : (Sum.inl (((W.last + 1 : Nat) : Int)) : Key) ∉ (wtD W.th).map (·.1) := fun z => by
    rw [List.map_map] at z
    obtain ⟨y, hy, e⟩ := List.mem_map.mp z
    have h1 := hr y hy
    have h2 : y.1 = ((W.last + 1 : Nat) : Int) := Sum.inl.inj e
    omega
  have e1 : putK (wtD W.th) (Sum.inl (((W.last + 1 : Nat) : Int))) (.ref p) = wtD (W.th ++ [(((W.last + 1 : Nat) : Int), ⟨p, ⟨rd, q, 1⟩⟩)]) := by
    rw [putK_new hnew]
    simp [wtD]
  have O4 := O2.wr (a := W.TD) (o' := .dK (putK (wtD W.th) (Sum.inl (((W.last + 1 : Nat) : Int))) (.ref p))) (.there (.there .here))
  refine k _ ⟨p, ⟨rd, q, 1⟩⟩ ?_ rfl
  refine O4.perm ?_
  rw [e1]
  unfold cWo
  rw [List.map_append]
  exact wo_perm _ _ _ _ _ _ _
theorem sc__law_opened : FnScope ["_law_world_here", "_law_deed", "_law_pipe", "_law_one"] ["_law_world_here", "_law_deed"] (defScope s__law_opened) := ⟨rfl, rfl, rfl, by decide +kernel, rfl, by decide +kernel, by decide +kernel⟩
theorem ok__law_opened {P : Program} {w : World} {K : PySem.W.Frag} {mg : Str → Option Value} {base : Heap} (T : Txt K mg) : Cee P w K mg base 2 (He.fAd K ("_law_opened", none)) ["_law_world_here", "_law_deed"] (sp__law_opened K) := by
  have c__law_new : Cee P w K mg base 1 (He.fAd K ("_law_new", none)) ["_law_world_here", "_law_mode", "_law_node", "_law_pipe"] (sp__law_new K) := ok__law_new T
  refine cee_of T.d__law_opened sc__law_opened (fun _ _ _ _ _ _ us hl => match us, hl with | [_, _], _ => rfl) (fun vs H Q E h => sp2_len h) (fun cdv A outer s H vs Q E hr h => ⟨_, (pss_cons (ps_if (pt_cmpR op_eq (pe_ix ix_tup (pv 1) pe_int (fun _ _ => rfl)) pe_str (nomark _)) (pss_cons (ps_set (i := 2) sc__law_opened.nd rfl (Or.inl rfl) (pe_disp (pps_cons pe_str (pe_lst pa_nil) (pps_cons pe_str pe_bl (pps_cons pe_str pe_bl pps_nil))) (by rfl) (by rfl) (fun z => by cases z) (by decide))) (pss_cons (ps_set (i := 3) sc__law_opened.nd rfl (Or.inl rfl) (pe_f c__law_new (hr.mono (by decide)) (L2N.takes_of rfl rfl rfl rfl) (by rfl) T.g__law_new (pa_cons (pv 0) (pa_cons pe_str (pa_cons pe_non (pa_cons (pv 2) pa_nil)))))) (pss_one (ps_ret (pe_tup (pa_cons pe_str (pa_cons (pe_tup (pa_cons (pv 3) (pa_cons (pe_f c__law_new (hr.mono (by decide)) (L2N.takes_of rfl rfl rfl rfl) (by rfl) T.g__law_new (pa_cons (pv 0) (pa_cons pe_str (pa_cons pe_non (pa_cons (pv 2) pa_nil))))) pa_nil))) pa_nil))))))) pss_nil) (pss_cons (ps_if (pt_cmpR op_notIn_seq (pe_ix ix_tup (pv 1) pe_int (fun _ _ => rfl)) (pe_tup (pa_cons pe_str (pa_cons pe_str (pa_cons pe_str pa_nil)))) (by with_unfolding_all rfl)) (pss_one (ps_ret (pe_tup (pa_cons pe_str (pa_cons pe_non pa_nil))))) pss_nil) (pss_cons (ps_if (pt_cmp (pc_din (hu_of hr) (pe_ix ix_tup (pv 1) pe_int (fun _ _ => rfl)) (pe_dget (hu_of hr) (pv 0) pe_str (fun _ _ => rfl))) (by with_unfolding_all rfl)) (pss_one (ps_ret (pe_tup (pa_cons pe_str (pa_cons (pe_f c__law_new (hr.mono (by decide)) (L2N.takes_of rfl rfl rfl rfl) (by rfl) T.g__law_new (pa_cons (pv 0) (pa_cons (pe_ix ix_tup (pv 1) pe_int (fun _ _ => rfl)) (pa_cons (pe_ix ix_tup (pv 1) pe_int (fun _ _ => rfl)) (pa_cons pe_non pa_nil))))) pa_nil))))) pss_nil) (pss_one (ps_ret (pe_tup (pa_cons (pe_ix ix_list (pe_lst (pa_cons pe_str (pa_cons pe_str pa_nil))) (pe_callTy call_intB (by rfl) T.n_int (by decide +kernel) (pa_cons (pe_cmpR op_in_seq (pe_ix ix_tup (pv 1) pe_int (fun _ _ => rfl)) (pe_dget (hu_of hr) (pv 0) pe_str (fun _ _ => rfl)) (by with_unfolding_all rfl)) pa_nil)) (fun _ _ => rfl)) (pa_cons pe_non pa_nil)))))))), ?_⟩)
  obtain ⟨v0, v1, rfl, h⟩ := h
  dsimp only [cxOf, L2.start]
  obtain ⟨W, T, rfl, rfl, hT, ok, O, k⟩ := h
  walk_at "s"
  refine if_t rfl ?_
  dsimp only [tSeq, tAsg, tDisp]
  walk_at "s"
  intro D hD
  have O1 := O.new (o := .dK []) hD
  generalize upd H D _ = H1 at O1 ⊢
  dsimp only [tPairs]
  walk_at "s"
  intro L hL
  have O2 := (O1.new (o := .lst []) hL).perm (List.Perm.swap _ _ _)
  generalize upd H1 L _ = H2 at O2 ⊢
  have hD2 := O2.get (a := D) (o := .dK []) (.head _)
  walk_at "s"
  refine ⟨(rfl : _ = List.map (fun kv : Key × V => (kV kv.1, kv.2)) [(Sum.inr "cells", V.ref L), (Sum.inr "r", V.bl true), (Sum.inr "w", V.bl true)]), by show 3 ≤ 15; decide, ?_⟩
  generalize hg : upd H2 D _ = H3
  have O3 : Own H H3 (adr (cWo W)) (cWP ⟨D, L, [], true, true⟩ ++ cWo W) := by rw [← hg]; exact O2.wr .here
  clear hg O1 O2 hD2
  have O3 := O3.perm (wo_new ok)
  have hl : W.th.length ≤ W.last := by
    have := ok.len
    unfold WoG.abs at this
    rwa [List.length_map] at this
  have hf : W.last ≤ 9000 := ok.few
  have hr : ∀ y ∈ W.th, y.1 ≤ ((W.last : Nat) : Int) := fun y hy => (ok.rng (y.1, y.2.t) (List.mem_map.mpr ⟨y, hy, rfl⟩)).2
  walk_at "s"
  refine ask4 ⟨{ W with ps := W.ps ++ [⟨D, L, [], true, true⟩] }, true, W.ps.length, rfl, rfl, rfl, by rw [pD_new], by show W.th.length ≤ _; omega, hr, O3.self, fun H5 t1 O4 e1 => ?_⟩
  walk_at "s"
  refine ask4 ⟨{ W with last := W.last + 1, th := W.th ++ [(((W.last + 1 : Nat) : Int), t1)], ps := W.ps ++ [⟨D, L, [], true, true⟩] }, false, W.ps.length, rfl, rfl, rfl, by rw [pD_new], by show (W.th ++ _).length ≤ _; rw [List.length_append]; show _ + 1 ≤ _; omega, fun y hy => ?_, O4.self, fun H6 t2 O5 e2 => ?_⟩
  · rcases List.mem_append.mp hy with hy | hy
    · have := hr y hy
      show y.1 ≤ ((W.last + 1 : Nat) : Int)
      omega
    · rw [List.mem_singleton.mp hy]
      exact Int.le_refl _
  have O6 := (O3.call .all O4).call .all O5
  clear O3 O4 O5
  walk_at "s"
  intro T1 hT1
  have O7 := O6.newT (o := .tup [.int ((W.last + 1 : Nat) : Int), .int ((W.last + 1 + 1 : Nat) : Int)]) hT1
  have hT1 : (upd H6 T1 (.tup [.int ((W.last + 1 : Nat) : Int), .int ((W.last + 1 + 1 : Nat) : Int)])) T1 = some (.tup [.int ((W.last + 1 : Nat) : Int), .int ((W.last + 1 + 1 : Nat) : Int)]) := upd_same
  generalize upd H6 T1 _ = H7 at O7 hT1 ⊢
  walk_at "s"
  intro T2 hT2
  refine k _ _ T2 T1 (O7.newT hT2) ?_ rfl ?_ upd_same
  · unfold WoG.abs
    simp [e1, e2, WP.abs]
    omega
  · show upd H7 T2 _ T1 = _
    rw [upd_ne (fun z => by rw [← z, hT1] at hT2; cases hT2)]
    exact hT1
theorem sc__law_read : FnScope ["_law_thing", "_law_many", "_law_world_here", "_law_place", "_law_got", "_law_pipe"] ["_law_thing", "_law_many", "_law_world_here"] (defScope s__law_read) := ⟨rfl, rfl, rfl, by decide +kernel, rfl, by decide +kernel, by decide +kernel⟩
theorem ok__law_read {P : Program} {w : World} {K : PySem.W.Frag} {mg : Str → Option Value} {base : Heap} (T : Txt K mg) : Cee P w K mg base 1 (He.fAd K ("_law_read", none)) ["_law_thing", "_law_many", "_law_world_here"] (sp__law_read K) := by
  refine cee_of T.d__law_read sc__law_read (fun _ _ _ _ _ _ us hl => match us, hl with | [_, _, _], _ => rfl) (fun vs H Q E h => sp3_len h) (fun cdv A outer s H vs Q E hr h => ⟨_, (pss_cons (ps_if (pt_cmpR op_notIn_sign pe_str (pe_ix ix_list (pv 0) pe_int (fun _ _ => rfl)) (by with_unfolding_all rfl)) (pss_one (ps_ret (pe_tup (pa_cons pe_str (pa_cons pe_non pa_nil))))) pss_nil) (pss_cons (ps_if (pt_cmpR op_lt (pv 1) pe_int (nomark _)) (pss_one (ps_ret (pe_tup (pa_cons pe_str (pa_cons pe_non pa_nil))))) pss_nil) (pss_cons (ps_if (pt_cmpR op_isN (pe_ix ix_list (pv 0) pe_int (fun _ _ => rfl)) pe_non (nomark _)) (pss_cons (ps_set (i := 3) sc__law_read.nd rfl (Or.inl rfl) (pe_ix ix_list (pv 0) pe_int (fun _ _ => rfl))) (pss_cons (ps_set (i := 4) sc__law_read.nd rfl (Or.inl rfl) (pe_slice sl_list (pe_dget (hu_of hr) (pe_dget (hu_of hr) (pv 2) pe_str (fun _ _ => rfl)) (pe_ix ix_list (pv 0) pe_int (fun _ _ => rfl)) (fun _ _ => rfl)) (po_some (pv 3)) (po_some (pe_op op_add (pv 3) (pe_callB (call_min2 rfl) (by rfl) T.n_min (by decide +kernel) (pa_cons (pv 1) (pa_cons pe_int pa_nil))))))) (pss_cons (ps_asg (pe_op op_add (pv 3) (pe_callB call_len_seq (by rfl) T.n_len (by decide +kernel) (pa_cons (pv 4) pa_nil))) (pg_sub (pv 0) pe_int set_list)) (pss_one (ps_ret (pe_tup (pa_cons pe_str (pa_cons (pv 4) pa_nil)))))))) pss_nil) (pss_cons (ps_set (i := 5) sc__law_read.nd rfl (Or.inl rfl) (pe_ix ix_list (pv 0) pe_int (fun _ _ => rfl))) (pss_cons (PS.box (ps_if (PW.pt (pw_and (pt_cmpR op_gt (pv 1) pe_int (nomark _)) (pw_and (pt_cmpR (op_eqD hr.units) (pe_dget (hu_of hr) (pv 5) pe_str (fun _ _ => rfl)) (pe_lst pa_nil) (nomark _)) (pw_and1 (pt_val (pe_dget (hu_of hr) (pv 5) pe_str (fun _ _ => rfl))))))) (pss_one (ps_ret (pe_tup (pa_cons pe_str (pa_cons pe_non pa_nil))))) pss_nil)) (pss_cons (ps_set (i := 4) sc__law_read.nd rfl (Or.inl rfl) (pe_slice sl_list (pe_dget (hu_of hr) (pv 5) pe_str (fun _ _ => rfl)) po_none (po_some (pv 1)))) (pss_cons (ps_dput (hu_of hr) (pv 5) pe_str (pe_slice sl_list (pe_dget (hu_of hr) (pv 5) pe_str (fun _ _ => rfl)) (po_some (pe_callB call_len_seq (by rfl) T.n_len (by decide +kernel) (pa_cons (pv 4) pa_nil))) po_none) rfl) (pss_one (ps_ret (pe_tup (pa_cons pe_str (pa_cons (pv 4) pa_nil)))))))))))), ?_⟩)
  obtain ⟨v0, v1, v2, rfl, h⟩ := h
  dsimp only [cxOf, L2.start]
  obtain ⟨W, n, t, m, rfl, rfl, rfl, hn, ok, aw, O, k⟩ := h
  have ht := O.get (wt_mem hn)
  obtain ⟨y, hy, hya, hyl⟩ := wo_at ok hn
  rw [pD_at hy] at ht
  unfold thV at ht
  have Oy := O.blk (wo_sub hy)
  have hyD := Oy.get (a := y.D) (o := .dK (piD y)) (.head _)
  have hyL := Oy.get (a := y.L) (o := .lst (y.ws.map V.int)) (.tail _ (.head _))
  have e0 : semO W.abs (.read n m) = (match (W.th.lookup n).map (·.t) with | none => .error .noHandle | some t => if t.rd = false then .error .badMode else if m < 0 then .error .tooBig else
      if (decide (m > 0) && ((apAt W.abs t.q).1.isEmpty && (apAt W.abs t.q).2.2)) = true then (Except.error ORf.again) else .ok (setP W.abs t.q ((apAt W.abs t.q).1.drop m.toNat, (apAt W.abs t.q).2), .list ((apAt W.abs t.q).1.take m.toNat))) := by rw [← wo_look]; rfl
  rw [e0, hn, Option.map_some] at k
  clear e0
  dsimp only at k
  rw [hya] at k
  cases hr : t.t.rd with
  | false =>
    rw [hr] at ht k
    rw [if_pos rfl] at k
    walk_at "s"
    intro T1 hT1
    exact k _ T1 (O.newT hT1) upd_same
  | true =>
    rw [hr] at ht k
    rw [if_neg (by decide)] at k
    have hyr : y.rd = true := by
      have := aw.rdr (n, t.t) (List.mem_map.mpr ⟨(n, t), lk_mem hn, rfl⟩) hr
      rwa [hya] at this
    have hy1 : y.abs = (y.ws, true, y.wr) := by unfold WP.abs; rw [hyr]; rfl
    rw [hy1] at k hyl
    dsimp only at k hyl
    walk_at "s"
    refine if_d (fun h1 => ?_) (fun h1 => ?_)
    · rw [if_pos h1] at k
      walk_at "s"
      intro T1 hT1
      exact k _ T1 (O.newT hT1) upd_same
    rw [if_neg h1] at k
    walk_at "s"
    have gc : valV (piD y) (Sum.inr "cells") = some (.ref y.L) := rfl
    have gw : valV (piD y) (Sum.inr "w") = some (.bl y.wr) := rfl
    refine cutS (fun σ' H' => (∃ v3 v4 : Option V, σ' = [some (.ref t.p), some (.int m), some (.ref W.D), v3, v4, some (.ref y.D)]) ∧ Own H H' (adr (cWP y)) (cWP y) ∧ (decide (m > 0) && (y.ws.isEmpty && y.wr)) = false) (fun nx hx => ?_) ?_
    · walk_at "s"
      refine if_d (fun h2 => ?_) (fun h2 => ?_)
      · walk_at "s"
        intro e he
        have O1 := Oy.new (o := .lst []) he
        generalize upd H e _ = H1 at O1 ⊢
        have hyL1 := O1.get (a := y.L) (o := .lst (y.ws.map V.int)) (.tail _ (.tail _ (.head _)))
        have hyD1 := O1.get (a := y.D) (o := .dK (piD y)) (.tail _ (.head _))
        refine eq_ints (ns := y.ws) (ms := []) hyL1 (O1.get (.head _)) ?_
        refine ⟨_, rfl, ?_⟩
        refine if_d (fun h3 => ?_) (fun h3 => ?_)
        · walk_at "s"
          refine if_b (fun h4 => ?_) (fun h4 => ?_)
          · have h3e : y.ws.isEmpty = true := by rw [h3]; rfl
            rw [if_pos (show (decide (m > 0) && (y.ws.isEmpty && y.wr)) = true by rw [decide_eq_true h2, h3e, h4]; rfl)] at k
            walk_at "s"
            intro T1 hT1
            exact k _ T1 (O.call (wo_sub hy) ((O1.newT hT1).drop (List.sublist_cons_self _ _))) upd_same
          · exact hx _ _ ⟨⟨_, _, rfl⟩, O1.drop (List.sublist_cons_self _ _), by rw [h4]; simp⟩
        · have h3e : y.ws.isEmpty = false := by
            cases hx : y.ws with
            | nil => exact absurd hx h3
            | cons => rfl
          exact hx _ _ ⟨⟨_, _, rfl⟩, O1.drop (List.sublist_cons_self _ _), by rw [h3e]; simp⟩
      · exact hx _ _ ⟨⟨_, _, rfl⟩, Oy, by rw [decide_eq_false h2]; rfl⟩
    · rintro σ' H' ⟨⟨v3, v4, rfl⟩, O1, hd⟩
      obtain ⟨m, rfl⟩ : ∃ q : Nat, m = q := ⟨m.toNat, by omega⟩
      have hyD1 := O1.get (a := y.D) (o := .dK (piD y)) (.head _)
      have hyL1 := O1.get (a := y.L) (o := .lst (y.ws.map V.int)) (.tail _ (.head _))
      rw [if_neg (by rw [hd]; decide)] at k
      walk_at "s"
      rw [cutV_to, ← List.map_take]
      intro l hl1
      have O2 := O1.new (o := .lst ((y.ws.take m).map V.int)) hl1
      generalize upd H' l _ = H1 at O2 ⊢
      clear hyD1 hyL1
      have hyD1 := O2.get (a := y.D) (o := .dK (piD y)) (.tail _ (.head _))
      have hyL1 := O2.get (a := y.L) (o := .lst (y.ws.map V.int)) (.tail _ (.tail _ (.head _)))
      have hl := O2.get (a := l) (.head _)
      walk_at "s"
      rw [cutV_from, ← List.map_drop, List.length_map, List.length_take]
      intro L2 hL2
      have ed : y.ws.drop (min m y.ws.length) = y.ws.drop m := by
        by_cases h : m ≤ y.ws.length
        · rw [Nat.min_eq_left h]
        · rw [Nat.min_eq_right (by omega), List.drop_length, List.drop_of_length_le (by omega)]
      rw [ed]
      have O3 := O2.new (o := .lst ((y.ws.drop m).map V.int)) hL2
      generalize upd H1 L2 _ = H2 at O3 ⊢
      clear hyD1 hyL1 hl
      have hyD1 := O3.get (a := y.D) (o := .dK (piD y)) (.tail _ (.tail _ (.head _)))
      have gl : (piD y).length < 100000 := by show 3 < 100000; decide
      walk_at "s"
      rw [show putK (piD y) (Sum.inr "cells") (.ref L2) = piD { y with L := L2, ws := y.ws.drop m } from rfl]
      have O4 := O3.wr (a := y.D) (o' := .dK (piD { y with L := L2, ws := y.ws.drop m })) (.there (.there .here))
      generalize upd H2 y.D _ = H3 at O4 ⊢
      have O5 : Own H H3 (adr (cWP y)) ((l, .lst ((y.ws.take m).map V.int)) :: cWP { y with L := L2, ws := y.ws.drop m }) := (O4.perm (by walk_at "pm" : List.Perm _ ((l, .lst ((y.ws.take m).map V.int)) :: (y.D, .dK (piD { y with L := L2, ws := y.ws.drop m })) :: (L2, .lst ((y.ws.drop m).map V.int)) :: [(y.L, .lst (y.ws.map V.int))]))).drop (.cons₂ _ (.cons₂ _ (.cons₂ _ (List.nil_sublist _))))
      have O6 := O.callE (e := [(l, .lst ((y.ws.take m).map V.int))]) (wo_pipe (x' := { y with L := L2, ws := y.ws.drop m }) hy rfl) O5
      clear O3 O4 hyD1
      walk_at "s"
      intro T1 hT1
      exact k _ _ T1 l (O6.newT hT1) (wps_abs.trans (congrArg _ (by unfold WP.abs; rw [hyr]; rfl))) rfl True.intro upd_same
theorem sc__law_write : FnScope ["_law_thing", "_law_cells_here", "_law_world_here", "_law_behind", "_law_old", "_law_pipe"] ["_law_thing", "_law_cells_here", "_law_world_here"] (defScope s__law_write) := ⟨rfl, rfl, rfl, by decide +kernel, rfl, by decide +kernel, by decide +kernel⟩
theorem ok__law_write {P : Program} {w : World} {K : PySem.W.Frag} {mg : Str → Option Value} {base : Heap} (T : Txt K mg) : Cee P w K mg base 1 (He.fAd K ("_law_write", none)) ["_law_thing", "_law_cells_here", "_law_world_here"] (sp__law_write K) := by
  refine cee_of T.d__law_write sc__law_write (fun _ _ _ _ _ _ us hl => match us, hl with | [_, _, _], _ => rfl) (fun vs H Q E h => sp3_len h) (fun cdv A outer s H vs Q E hr h => ⟨_, (pss_cons (ps_if (pt_cmpR op_notIn_sign pe_str (pe_ix ix_list (pv 0) pe_int (fun _ _ => rfl)) (by with_unfolding_all rfl)) (pss_one (ps_ret (pe_tup (pa_cons pe_str (pa_cons pe_non pa_nil))))) pss_nil) (pss_cons (ps_if (pt_cmpR op_isN (pe_ix ix_list (pv 0) pe_int (fun _ _ => rfl)) pe_non (nomark _)) (pss_cons (ps_set (i := 3) sc__law_write.nd rfl (Or.inl rfl) (pe_op op_add (pe_ix ix_list (pv 0) pe_int (fun _ _ => rfl)) (pe_callB call_len_seq (by rfl) T.n_len (by decide +kernel) (pa_cons (pv 1) pa_nil)))) (pss_cons (ps_if (pt_cmpR op_gt (pv 3) pe_int (nomark _)) (pss_one (ps_ret (pe_tup (pa_cons pe_str (pa_cons pe_non pa_nil))))) pss_nil) (pss_cons (ps_set (i := 4) sc__law_write.nd rfl (Or.inl rfl) (pe_dget (hu_of hr) (pe_dget (hu_of hr) (pv 2) pe_str (fun _ _ => rfl)) (pe_ix ix_list (pv 0) pe_int (fun _ _ => rfl)) (fun _ _ => rfl))) (pss_cons (PS.box (ps_if (pt_cmpR (op_neD hr.units) (pv 1) (pe_lst pa_nil) (nomark _)) (pss_cons (ps_set (i := 4) sc__law_write.nd rfl (Or.inl rfl) (pe_op op_cat (pv 4) (pe_op op_rep (pe_lst (pa_cons pe_int pa_nil)) (pe_op op_sub (pe_ix ix_list (pv 0) pe_int (fun _ _ => rfl)) (pe_callB call_len_seq (by rfl) T.n_len (by decide +kernel) (pa_cons (pv 4) pa_nil)))))) (pss_cons (ps_set (i := 4) sc__law_write.nd rfl (Or.inl rfl) (pe_op op_cat (pe_op op_cat (pe_slice sl_list (pv 4) po_none (po_some (pe_ix ix_list (pv 0) pe_int (fun _ _ => rfl)))) (pv 1)) (pe_slice sl_list (pv 4) (po_some (pv 3)) po_none))) (pss_one (ps_dput (hu_of hr) (pe_dget (hu_of hr) (pv 2) pe_str (fun _ _ => rfl)) (pe_ix ix_list (pv 0) pe_int (fun _ _ => rfl)) (pv 4) rfl)))) pss_nil)) (pss_cons (ps_asg (pv 3) (pg_sub (pv 0) pe_int set_list)) (pss_one (ps_ret (pe_tup (pa_cons pe_str (pa_cons (pe_callB call_len_seq (by rfl) T.n_len (by decide +kernel) (pa_cons (pv 1) pa_nil)) pa_nil)))))))))) pss_nil) (pss_cons (ps_set (i := 5) sc__law_write.nd rfl (Or.inl rfl) (pe_ix ix_list (pv 0) pe_int (fun _ _ => rfl))) (pss_cons (PS.box (ps_if (PW.pt (pw_or (pt_cmpR op_gt (pe_callB call_len_seq (by rfl) T.n_len (by decide +kernel) (pa_cons (pv 1) pa_nil)) pe_int (nomark _)) (pw_or1 (pt_not (pt_val (pe_dget (hu_of hr) (pv 5) pe_str (fun _ _ => rfl))))))) (pss_one (ps_ret (pe_tup (pa_cons (pe_ix ix_list (pe_lst (pa_cons pe_str (pa_cons pe_str pa_nil))) (pe_callTy call_intB (by rfl) T.n_int (by decide +kernel) (pa_cons (pe_cmpR op_gt (pe_callB call_len_seq (by rfl) T.n_len (by decide +kernel) (pa_cons (pv 1) pa_nil)) pe_int (nomark _)) pa_nil)) (fun _ _ => rfl)) (pa_cons pe_non pa_nil))))) pss_nil)) (pss_cons (ps_if (pt_cmpR op_gt (pe_op op_add (pe_callB call_len_seq (by rfl) T.n_len (by decide +kernel) (pa_cons (pe_dget (hu_of hr) (pv 5) pe_str (fun _ _ => rfl)) pa_nil)) (pe_callB call_len_seq (by rfl) T.n_len (by decide +kernel) (pa_cons (pv 1) pa_nil))) pe_int (nomark _)) (pss_one (ps_ret (pe_tup (pa_cons pe_str (pa_cons pe_non pa_nil))))) pss_nil) (pss_cons (ps_dput (hu_of hr) (pv 5) pe_str (pe_op op_cat (pe_dget (hu_of hr) (pv 5) pe_str (fun _ _ => rfl)) (pv 1)) rfl) (pss_one (ps_ret (pe_tup (pa_cons pe_str (pa_cons (pe_callB call_len_seq (by rfl) T.n_len (by decide +kernel) (pa_cons (pv 1) pa_nil)) pa_nil))))))))))), ?_⟩)
  obtain ⟨v0, v1, v2, rfl, h⟩ := h
  dsimp only [cxOf, L2.start]
  obtain ⟨W, n, t, a, cs, rfl, rfl, rfl, ha, han, hl, hn, ok, aw, O, k⟩ := h
  have ht := O.get (wt_mem hn)
  obtain ⟨y, hy, hya, hyl⟩ := wo_at ok hn
  rw [pD_at hy] at ht
  unfold thV at ht
  have Oy := O.blk (wo_sub hy)
  have hyD := Oy.get (a := y.D) (o := .dK (piD y)) (.head _)
  have hyL := Oy.get (a := y.L) (o := .lst (y.ws.map V.int)) (.tail _ (.head _))
  have e0 : semO W.abs (.write n cs) = (match (W.th.lookup n).map (·.t) with | none => .error .noHandle | some t => if t.rd = true then .error .badMode else if cs.length > 16 then .error .tooBig else if (apAt W.abs t.q).2.1 = false then .error .broken else
      if (apAt W.abs t.q).1.length + cs.length > 16 then (Except.error ORf.again) else .ok (setP W.abs t.q ((apAt W.abs t.q).1 ++ cs, (apAt W.abs t.q).2), .int (cs.length : Nat))) := by rw [← wo_look]; rfl
  rw [e0, hn, Option.map_some] at k
  clear e0
  dsimp only at k
  rw [hya] at k
  cases hr : t.t.rd with
  | true =>
    rw [hr] at ht k
    rw [if_pos rfl] at k
    walk_at "s"
    intro T1 hT1
    exact k _ T1 (O.newT hT1) upd_same
  | false =>
    rw [hr] at ht k
    rw [if_neg (by decide)] at k
    have gr : valV (piD y) (Sum.inr "r") = some (.bl y.rd) := rfl
    have gc : valV (piD y) (Sum.inr "cells") = some (.ref y.L) := rfl
    walk_at "s"
    refine cutS (fun σ' H' => ∃ v3 v4, σ' = [some (.ref t.p), some (.ref a), some (.ref W.D), v3, v4, some (.ref y.D)] ∧ H' = H ∧ cs.length ≤ 16 ∧ y.rd = true) (fun nx hx => ?_) ?_
    · walk_at "s"
      refine if_d (fun h1 => ?_) (fun h1 => ?_)
      · rw [List.length_map] at h1
        rw [if_pos (show cs.length > 16 by omega)] at k
        walk_at "s"
        intro l1 hl1
        have O1 := (O.new (o := .lst [.str "broken", .str "toobig"]) hl1)
        have ha1 := O1.fr _ _ ha han
        generalize upd H l1 _ = H1 at O1 ha1 ⊢
        have hl1 := O1.get (a := l1) (.head _)
        have hat : atI [V.str "broken", V.str "toobig"] (if decide (((cs.map V.int).length : Int) > 16) = true then 1 else 0) = some (.str "toobig") := by
          rw [if_pos (decide_eq_true (by rw [List.length_map]; omega))]; rfl
        walk_at "s"
        intro T1 hT1
        exact k _ T1 ((O1.drop (List.sublist_cons_self _ _)).newT hT1) upd_same
      · rw [List.length_map] at h1
        rw [if_neg (show ¬ cs.length > 16 by omega)] at k
        walk_at "s"
        refine if_nb (fun h2 => ?_) (fun h2 => ?_)
        · rw [if_pos (show y.abs.2.1 = false from h2)] at k
          walk_at "s"
          intro l1 hl1
          have O1 := (O.new (o := .lst [.str "broken", .str "toobig"]) hl1)
          have ha1 := O1.fr _ _ ha han
          generalize upd H l1 _ = H1 at O1 ha1 ⊢
          have hl1 := O1.get (a := l1) (.head _)
          have hat : atI [V.str "broken", V.str "toobig"] (if decide (((cs.map V.int).length : Int) > 16) = true then 1 else 0) = some (.str "broken") := by
            rw [if_neg (by rw [List.length_map]; exact fun z => absurd (of_decide_eq_true z) (by omega))]; rfl
          walk_at "s"
          intro T1 hT1
          exact k _ T1 ((O1.drop (List.sublist_cons_self _ _)).newT hT1) upd_same
        · exact hx _ _ ⟨_, _, rfl, rfl, by omega, h2⟩
    · rintro σ' H' ⟨v3, v4, rfl, rfl, h1, h2⟩
      have hy1 : y.abs = (y.ws, true, y.wr) := by unfold WP.abs; rw [h2]; rfl
      rw [hy1] at k hyl
      dsimp only at k hyl
      rw [if_neg (by omega), if_neg (by decide)] at k
      walk_at "s"
      refine if_d (fun h3 => ?_) (fun h3 => ?_)
      · rw [List.length_map, List.length_map] at h3
        rw [if_pos (by omega)] at k
        walk_at "s"
        intro T1 hT1
        exact k _ T1 (O.newT hT1) upd_same
      rw [List.length_map, List.length_map] at h3
      rw [if_neg (by omega)] at k
      have hsz : (y.ws.map V.int).length + (cs.map V.int).length ≤ sizeLine := sz_le (by rw [List.length_map, List.length_map]; omega)
      walk_at "s"
      rw [← List.map_append]
      intro L2 hL2
      have O3 := Oy.new (o := .lst ((y.ws ++ cs).map V.int)) hL2
      have haD : a ∉ adr (cWP y) := fun z => han (wo_adr hy z)
      have ha2 := O3.fr _ _ ha haD
      generalize upd _ L2 _ = H2 at O3 ha2 ⊢
      clear hyD hyL
      have hyD1 := O3.get (a := y.D) (o := .dK (piD y)) (.tail _ (.head _))
      have gl : (piD y).length < 100000 := by show 3 < 100000; decide
      walk_at "s"
      rw [show putK (piD y) (Sum.inr "cells") (.ref L2) = piD { y with L := L2, ws := y.ws ++ cs } from rfl]
      have O4 := O3.wr (a := y.D) (o' := .dK (piD { y with L := L2, ws := y.ws ++ cs })) (.there .here)
      have ha3 := O4.fr _ _ ha haD
      generalize upd H2 y.D _ = H3 at O4 ha3 ⊢
      have O5 : Own H' H3 (adr (cWP y)) (cWP { y with L := L2, ws := y.ws ++ cs }) := (O4.perm (by walk_at "pm" : List.Perm _ ((y.D, .dK (piD { y with L := L2, ws := y.ws ++ cs })) :: (L2, .lst ((y.ws ++ cs).map V.int)) :: [(y.L, .lst (y.ws.map V.int))]))).drop (.cons₂ _ (.cons₂ _ (List.nil_sublist _)))
      have O6 := O.call (wo_pipe (x' := { y with L := L2, ws := y.ws ++ cs }) hy rfl) O5
      refine ⟨.inl (SqL.of ha3), ?_⟩
      walk_at "s"
      intro T1 hT1
      rw [List.length_map]
      exact k _ _ T1 T1 (O6.newT hT1) (wps_abs.trans (congrArg _ (by unfold WP.abs; rw [h2]; rfl))) rfl True.intro upd_same
theorem sc__law_counted : FnScope ["_law_world_here", "_law_deed", "_law_thing"] ["_law_world_here", "_law_deed"] (defScope s__law_counted) := ⟨rfl, rfl, rfl, by decide +kernel, rfl, by decide +kernel, by decide +kernel⟩
theorem ok__law_counted {P : Program} {w : World} {K : PySem.W.Frag} {mg : Str → Option Value} {base : Heap} (T : Txt K mg) : Cee P w K mg base 1 (He.fAd K ("_law_counted", none)) ["_law_world_here", "_law_deed"] (sp__law_counted K) := by
  refine cee_of T.d__law_counted sc__law_counted (fun _ _ _ _ _ _ us hl => match us, hl with | [_, _], _ => rfl) (fun vs H Q E h => sp2_len h) (fun cdv A outer s H vs Q E hr h => ⟨_, (pss_cons (ps_set (i := 2) sc__law_counted.nd rfl (Or.inl rfl) (pe_dget (hu_of hr) (pe_dget (hu_of hr) (pv 0) pe_str (fun _ _ => rfl)) (pe_ix ix_tup (pv 1) pe_int (fun _ _ => rfl)) (fun _ _ => rfl))) (pss_cons (ps_if (pt_cmpR op_eq (pe_ix ix_tup (pv 1) pe_int (fun _ _ => rfl)) pe_str (nomark _)) (pss_one (ps_ret (pe_tup (pa_cons pe_str (pa_cons (pe_ix ix_list (pv 2) pe_int (fun _ _ => rfl)) pa_nil))))) pss_nil) (pss_cons (ps_asg (pe_op op_add (pe_ix ix_list (pv 2) pe_int (fun _ _ => rfl)) (pe_ix ix_list (pe_lst (pa_cons pe_int (pa_cons (pe_un un_neg pe_int) pa_nil))) (pe_callTy call_intB (by rfl) T.n_int (by decide +kernel) (pa_cons (pe_cmpR op_eq (pe_ix ix_tup (pv 1) pe_int (fun _ _ => rfl)) pe_str (nomark _)) pa_nil)) (fun _ _ => rfl))) (pg_sub (pv 2) pe_int set_list)) (pss_cons (PS.box (ps_if (pt_cmpR op_eq (pe_ix ix_list (pv 2) pe_int (fun _ _ => rfl)) pe_int (nomark _)) (pss_cons (PS.box (ps_if (pt_cmpR op_notN (pe_ix ix_list (pv 2) pe_int (fun _ _ => rfl)) pe_non (nomark _)) (pss_one (ps_dput (hu_of hr) (pe_ix ix_list (pv 2) pe_int (fun _ _ => rfl)) (pe_ix ix_list (pv 2) pe_int (fun _ _ => rfl)) pe_bl rfl)) pss_nil)) (pss_one (ps_expr (pe_dpop1 (pe_dget (hu_of hr) (pv 0) pe_str (fun _ _ => rfl)) (pe_ix ix_tup (pv 1) pe_int (fun _ _ => rfl)) ⟨rfl, rfl, rfl, rfl⟩)))) pss_nil)) (pss_one (ps_ret (pe_tup (pa_cons pe_str (pa_cons pe_non pa_nil))))))))), ?_⟩)
  obtain ⟨v0, v1, rfl, h⟩ := h
  dsimp only [cxOf, L2.start]
  obtain ⟨W, T, n, t, d, rfl, rfl, hd, hT, hn, ok, O, k⟩ := h
  have ht := O.get (wt_mem hn)
  have hp := O.get (a := W.D) (o := .dK (woD W)) (.head _)
  have hdd := O.get (a := W.TD) (o := .dK (wtD W.th)) (.tail _ (.head _))
  have g1 : valV (woD W) (Sum.inr "things") = some (.ref W.TD) := rfl
  have g2 : valV (wtD W.th) (Sum.inl n) = some (.ref t.p) := by rw [wtD_val, hn]; rfl
  unfold thV at ht
  rcases hd with rfl | rfl | rfl
  · have e0 : semO W.abs (.more n) = (match (W.th.lookup n).map (·.t) with | none => .error .noHandle | some t => .ok (setT W.abs n { t with own := t.own + 1 }, .none)) := by rw [← wo_look]; rfl
    rw [e0, hn, Option.map_some] at k
    clear e0
    dsimp only at k
    unfold ODeed.vs at hT
    walk_at "s"
    intro l1 hl1
    have O1 := O.new (o := .lst [.int 1, .int (-1)]) hl1
    have hT1 := O1.tp _ _ hT
    have ht1 : (upd H l1 (.lst [.int 1, .int (-1)])) t.p = _ := O1.get (.tail _ (wt_mem hn))
    generalize hg : upd H l1 _ = H1
    have hg : upd H l1 (.lst [.int 1, .int (-1)]) = H1 := hg
    rw [hg] at O1 hT1 ht1
    clear hg ht
    have hl1 := O1.get (a := l1) (.head _)
    unfold thV at ht1
    have hown : 1 ≤ t.t.own := ok.own (n, t.t) (List.mem_map.mpr ⟨(n, t), lk_mem hn, rfl⟩)
    walk_at "s"
    generalize hg : upd H1 t.p _ = H2
    have O2 : Own H H2 (adr (cWo W)) ((l1, .lst [.int 1, .int (-1)]) :: cWo { W with th := setA W.th n { t with t := { t.t with own := t.t.own + 1 } } }) := by
      rw [← hg]
      exact O1.wr (.there (wo_th (t' := { t with t := { t.t with own := t.t.own + 1 } }) ok hn rfl))
    have ht2 : H2 t.p = some (.lst [.str (modeS t.t.rd), .non, .ref (pD W.ps t.t.q), .int 0, .int (t.t.own + 1)]) := by rw [← hg]; exact upd_same
    have O2 := O2.drop (List.sublist_cons_self _ _)
    clear hg O1 ht1 hl1
    walk_at "s"
    walk_at "b"
    refine if_ii (fun z => by omega) (fun _ => ?_)
    walk_at "s"
    intro T1 hT1n
    exact k _ _ T1 T1 (O2.newT hT1n) wset_abs rfl True.intro upd_same
  · have e0 : semO W.abs (.less n) = (match (W.th.lookup n).map (·.t) with | none => .error .noHandle | some t => if t.own > 1 then .ok (setT W.abs n { t with own := t.own - 1 }, .none) else .ok ({ setP W.abs t.q (shutA (apAt W.abs t.q) t.rd) with th := dropA W.abs.th n }, .none)) := by rw [← wo_look]; rfl
    rw [e0, hn, Option.map_some] at k
    clear e0
    dsimp only at k
    unfold ODeed.vs at hT
    walk_at "s"
    intro l1 hl1
    have O1 := O.new (o := .lst [.int 1, .int (-1)]) hl1
    have hT1 := O1.tp _ _ hT
    have ht1 : (upd H l1 (.lst [.int 1, .int (-1)])) t.p = _ := O1.get (.tail _ (wt_mem hn))
    generalize hg : upd H l1 _ = H1
    have hg : upd H l1 (.lst [.int 1, .int (-1)]) = H1 := hg
    rw [hg] at O1 hT1 ht1
    clear hg ht
    have hl1 := O1.get (a := l1) (.head _)
    unfold thV at ht1
    have hown : 1 ≤ t.t.own := ok.own (n, t.t) (List.mem_map.mpr ⟨(n, t), lk_mem hn, rfl⟩)
    walk_at "s"
    generalize hg : upd H1 t.p _ = H2
    have O2 : Own H H2 (adr (cWo W)) ((l1, .lst [.int 1, .int (-1)]) :: cWo { W with th := setA W.th n { t with t := { t.t with own := t.t.own + -1 } } }) := by
      rw [← hg]
      exact O1.wr (.there (wo_th (t' := { t with t := { t.t with own := t.t.own + -1 } }) ok hn rfl))
    have ht2 : H2 t.p = some (.lst [.str (modeS t.t.rd), .non, .ref (pD W.ps t.t.q), .int 0, .int (t.t.own + -1)]) := by rw [← hg]; exact upd_same
    have O2 := O2.drop (List.sublist_cons_self _ _)
    clear hg O1 ht1 hl1
    obtain ⟨y, hy, hya, hyl⟩ := wo_at ok hn
    rw [pD_at hy] at ht2
    rw [hya] at k
    walk_at "s"
    walk_at "b"
    refine if_ii (fun z => ?_) (fun z => ?_)
    · rw [if_neg (by omega)] at k
      have Oy := O2.blk (wo_sub (W := { W with th := setA W.th n { t with t := { t.t with own := t.t.own + -1 } } }) hy)
      have hyD := Oy.get (a := y.D) (o := .dK (piD y)) (.head _)
      have gl : (piD y).length < 100000 := by show 3 < 100000; decide
      refine cutS (fun σ' H' => σ' = [some (.ref W.D), some (.ref T), some (.ref t.p)] ∧ Own H H' (adr (cWo W)) (cWo { W with th := setA W.th n { t with t := { t.t with own := t.t.own + -1 } }, ps := W.ps.set t.t.q (shutW y t.t.rd) })) (fun nx hx => ?_) ?_
      · walk_at "s"
        refine hx _ _ ⟨rfl, ?_⟩
        refine O2.call (wo_pipe (W := { W with th := setA W.th n { t with t := { t.t with own := t.t.own + -1 } } }) (x' := shutW y t.t.rd) hy (shutW_D _ _)) ?_
        have := Oy.wr (a := y.D) (o' := .dK (putK (piD y) (Sum.inr (modeS t.t.rd)) (V.bl false))) .here
        rw [shutW_put] at this
        rw [shutW_put]
        exact shutW_cel y t.t.rd ▸ this
      · rintro σ' H3 ⟨rfl, O3⟩
        have hT3 := O3.tp _ _ hT
        clear O2 Oy hyD hp hdd hT ht2
        have hp := O3.get (a := W.D) (o := .dK (woD W)) (.head _)
        have hdd := O3.get (a := W.TD) (o := .dK (wtD (setA W.th n { t with t := { t.t with own := t.t.own + -1 } }))) (.tail _ (.head _))
        have g2 : valV (wtD (setA W.th n { t with t := { t.t with own := t.t.own + -1 } })) (Sum.inl n) = some (.ref t.p) := by rw [wtD_val, lk_setA, if_pos rfl, hn]; rfl
        walk_at "s"
        intro T1 hT1n
        have O4 := O3.wr (a := W.TD) (o' := .dK (dropK (wtD (setA W.th n { t with t := { t.t with own := t.t.own + -1 } })) (Sum.inl n))) (.there .here)
        have O5 := (O4.newT (o := .tup [.str "", .non]) hT1n).drop (cs' := cWo { W with th := dropA W.th n, ps := W.ps.set t.t.q (shutW y t.t.rd) }) (by
          unfold cWo
          rw [show wtD (dropA W.th n) = dropK (wtD (setA W.th n { t with t := { t.t with own := t.t.own + -1 } })) (Sum.inl n) from ((dropA_val (fun x : WT => V.ref x.p) _ n).trans (by rw [dropA_setA])).symm]
          refine .cons₂ _ (.cons₂ _ (.cons₂ _ (.cons₂ _ (List.Sublist.append ?_ (List.Sublist.refl _)))))
          rw [← dropA_setA W.th n { t with t := { t.t with own := t.t.own + -1 } }]
          exact List.Sublist.map _ (dropA_sub _ _))
        refine k _ _ T1 T1 O5 ?_ rfl True.intro upd_same
        unfold WoG.abs setP
        congr 1
        · exact (dropA_map (fun x : WT => x.t) W.th n).symm
        · rw [← shutW_abs]
          exact List.map_set
    · rw [if_pos (by omega)] at k
      walk_at "s"
      intro T1 hT1n
      exact k _ _ T1 T1 (O2.newT hT1n) wset_abs rfl True.intro upd_same
  · have e0 : semO W.abs (.count n) = (match (W.th.lookup n).map (·.t) with | none => .error .noHandle | some t => .ok (W.abs, .int t.own)) := by rw [← wo_look]; rfl
    rw [e0, hn, Option.map_some] at k
    clear e0
    dsimp only at k
    unfold ODeed.vs at hT
    walk_at "s"
    intro T1 hT1
    exact k _ W T1 T1 (O.newT hT1) rfl rfl True.intro upd_same
theorem sc__law_due : FnScope ["_law_world_here", "_law_deed", "_law_thing"] ["_law_world_here", "_law_deed"] (defScope s__law_due) := ⟨rfl, rfl, rfl, by decide +kernel, rfl, by decide +kernel, by decide +kernel⟩
theorem ok__law_due {P : Program} {w : World} {K : PySem.W.Frag} {mg : Str → Option Value} {base : Heap} (T : Txt K mg) : Cee P w K mg base 3 (He.fAd K ("_law_due", none)) ["_law_world_here", "_law_deed"] (sp__law_due K) := by
  have c__law_opened : Cee P w K mg base 2 (He.fAd K ("_law_opened", none)) ["_law_world_here", "_law_deed"] (sp__law_opened K) := ok__law_opened T
  have c__law_read : Cee P w K mg base 1 (He.fAd K ("_law_read", none)) ["_law_thing", "_law_many", "_law_world_here"] (sp__law_read K) := ok__law_read T
  have c__law_write : Cee P w K mg base 1 (He.fAd K ("_law_write", none)) ["_law_thing", "_law_cells_here", "_law_world_here"] (sp__law_write K) := ok__law_write T
  have c__law_counted : Cee P w K mg base 1 (He.fAd K ("_law_counted", none)) ["_law_world_here", "_law_deed"] (sp__law_counted K) := ok__law_counted T
  refine cee_of T.d__law_due sc__law_due (fun _ _ _ _ _ _ us hl => match us, hl with | [_, _], _ => rfl) (fun vs H Q E h => sp2_len h) (fun cdv A outer s H vs Q E hr h => ⟨_, (pss_cons (ps_if (pt_cmpR op_in_seq (pe_ix ix_tup (pv 1) pe_int (fun _ _ => rfl)) (pe_tup (pa_cons pe_str (pa_cons pe_str pa_nil))) (by with_unfolding_all rfl)) (pss_one (ps_ret (pe_f c__law_opened (hr.mono (by decide)) (L2N.takes_of rfl rfl rfl rfl) (by rfl) T.g__law_opened (pa_cons (pv 0) (pa_cons (pv 1) pa_nil))))) pss_nil) (pss_cons (ps_if (pt_cmpR op_eq (pe_ix ix_tup (pv 1) pe_int (fun _ _ => rfl)) pe_str (nomark _)) (pss_one (ps_ret (pe_tup (pa_cons pe_str (pa_cons (pe_callB (call_sortedDW rfl) (by rfl) T.n_sorted (by decide +kernel) (pa_cons (pe_dget (hu_of hr) (pv 0) pe_str (fun _ _ => rfl)) pa_nil)) pa_nil))))) pss_nil) (pss_cons (ps_if (pt_cmp (pc_dnotin (hu_of hr) (pe_ix ix_tup (pv 1) pe_int (fun _ _ => rfl)) (pe_dget (hu_of hr) (pv 0) pe_str (fun _ _ => rfl))) (by with_unfolding_all rfl)) (pss_one (ps_ret (pe_tup (pa_cons pe_str (pa_cons pe_non pa_nil))))) pss_nil) (pss_cons (ps_set (i := 2) sc__law_due.nd rfl (Or.inl rfl) (pe_dget (hu_of hr) (pe_dget (hu_of hr) (pv 0) pe_str (fun _ _ => rfl)) (pe_ix ix_tup (pv 1) pe_int (fun _ _ => rfl)) (fun _ _ => rfl))) (pss_cons (ps_if (pt_cmpR op_eq (pe_ix ix_tup (pv 1) pe_int (fun _ _ => rfl)) pe_str (nomark _)) (pss_one (ps_ret (pe_f c__law_read (hr.mono (by decide)) (L2N.takes_of rfl rfl rfl rfl) (by rfl) T.g__law_read (pa_cons (pv 2) (pa_cons (pe_ix ix_tup (pv 1) pe_int (fun _ _ => rfl)) (pa_cons (pv 0) pa_nil)))))) pss_nil) (pss_cons (ps_if (pt_cmpR op_eq (pe_ix ix_tup (pv 1) pe_int (fun _ _ => rfl)) pe_str (nomark _)) (pss_one (ps_ret (pe_f c__law_write (hr.mono (by decide)) (L2N.takes_of rfl rfl rfl rfl) (by rfl) T.g__law_write (pa_cons (pv 2) (pa_cons (pe_callTy call_list_of (by rfl) T.n_list (by decide +kernel) (pa_cons (pe_ix ix_tup (pv 1) pe_int (fun _ _ => rfl)) pa_nil)) (pa_cons (pv 0) pa_nil)))))) pss_nil) (pss_cons (ps_if (pt_cmpR op_eq (pe_ix ix_tup (pv 1) pe_int (fun _ _ => rfl)) pe_str (nomark _)) (pss_cons (PS.box (ps_if (PW.pt (pw_or (pt_cmpR op_notN (pe_ix ix_list (pv 2) pe_int (fun _ _ => rfl)) pe_non (nomark _)) (pw_or1 (pt_not (pt_chain op_le op_le pe_int (pe_ix ix_tup (pv 1) pe_int (fun _ _ => rfl)) pe_int))))) (pss_one (ps_ret (pe_tup (pa_cons (pe_ix ix_list (pe_lst (pa_cons pe_str (pa_cons pe_str pa_nil))) (pe_callTy call_intB (by rfl) T.n_int (by decide +kernel) (pa_cons (pe_cmpR op_notN (pe_ix ix_list (pv 2) pe_int (fun _ _ => rfl)) pe_non (nomark _)) pa_nil)) (fun _ _ => rfl)) (pa_cons pe_non pa_nil))))) pss_nil)) (pss_cons (ps_asg (pe_ix ix_tup (pv 1) pe_int (fun _ _ => rfl)) (pg_sub (pv 2) pe_int set_list)) (pss_one (ps_ret (pe_tup (pa_cons pe_str (pa_cons pe_non pa_nil))))))) pss_nil) (pss_one (ps_ret (pe_f c__law_counted (hr.mono (by decide)) (L2N.takes_of rfl rfl rfl rfl) (by rfl) T.g__law_counted (pa_cons (pv 0) (pa_cons (pv 1) pa_nil)))))))))))), ?_⟩)
  obtain ⟨v0, v1, rfl, h⟩ := h
  dsimp only [cxOf, L2.start]
  obtain ⟨W, T, b, d, rfl, rfl, hT, hl, ok, aw, O, k⟩ := h
  cases d with
  | pipe =>
    have hT5 : H T = some (.tup [.str "pipe"]) := hT
    walk_at "s"
    intro T2 hT2
    have hsq : SqT K (upd H T2 (.tup [V.str "node", V.str "pipe"])) T2 [V.str "node", V.str "pipe"] := SqT.of upd_same
    have O1 := O.newT (o := .tup [V.str "node", V.str "pipe"]) hT2
    have hT1 : (upd H T2 (.tup [V.str "node", V.str "pipe"])) T = some (.tup [.str "pipe"]) := O1.tp _ _ hT5
    generalize upd H T2 _ = H1 at O1 hsq hT1 ⊢
    clear hT2
    refine ⟨_, _, rfl, .inr hsq, rfl, rfl, ?_⟩
    rw [show inV (V.str "pipe") [V.str "node", V.str "pipe"] = true from by decide +kernel]
    have O2 := Box.mk O1
    clear O1
    walk_at "clo"
    walk_at "s"
    exact ask2 ⟨W, T, rfl, rfl, hT1, ok, O2.out.self, WDn.on O2.out k⟩
  | more n =>
    have hT5 : H T = some (.tup [.str "more", .int n]) := hT
    walk_at "s"
    intro T2 hT2
    have hsq : SqT K (upd H T2 (.tup [V.str "node", V.str "pipe"])) T2 [V.str "node", V.str "pipe"] := SqT.of upd_same
    have O1 := O.newT (o := .tup [V.str "node", V.str "pipe"]) hT2
    have hT1 : (upd H T2 (.tup [V.str "node", V.str "pipe"])) T = some (.tup [.str "more", .int n]) := O1.tp _ _ hT5
    generalize upd H T2 _ = H1 at O1 hsq hT1 ⊢
    clear hT2
    refine ⟨_, _, rfl, .inr hsq, rfl, rfl, ?_⟩
    rw [show inV (V.str "more") [V.str "node", V.str "pipe"] = false from by decide +kernel]
    have hp := O1.get (a := W.D) (o := .dK (woD W)) (.head _)
    have hdd := O1.get (a := W.TD) (o := .dK (wtD W.th)) (.tail _ (.head _))
    have g1 : valV (woD W) (Sum.inr "things") = some (.ref W.TD) := rfl
    have O2 := Box.mk O1
    clear O1 hsq
    walk_at "clo"
    walk_at "s"
    rw [wtD_val, Option.isSome_map]
    cases hz : W.th.lookup n with
    | none =>
      have e0 : semO W.abs (.more n) = .error .noHandle := by
        show (match W.abs.th.lookup n with | none => _ | some t => _) = _
        rw [wo_look, hz]; rfl
      rw [e0] at k
      refine if_t rfl ?_
      walk_at "s"
      intro T3 hT3
      exact k _ T3 (O2.out.newT hT3) upd_same
    | some t =>
      refine if_f rfl ?_
      have g2 : valV (wtD W.th) (Sum.inl n) = some (.ref t.p) := by rw [wtD_val, hz]; rfl
      walk_at "s"
      exact ask2 ⟨W, T, n, t, .more n, rfl, rfl, by simp, hT1, hz, ok, O2.out.self, WDn.on O2.out k⟩
  | less n =>
    have hT5 : H T = some (.tup [.str "less", .int n]) := hT
    walk_at "s"
    intro T2 hT2
    have hsq : SqT K (upd H T2 (.tup [V.str "node", V.str "pipe"])) T2 [V.str "node", V.str "pipe"] := SqT.of upd_same
    have O1 := O.newT (o := .tup [V.str "node", V.str "pipe"]) hT2
    have hT1 : (upd H T2 (.tup [V.str "node", V.str "pipe"])) T = some (.tup [.str "less", .int n]) := O1.tp _ _ hT5
    generalize upd H T2 _ = H1 at O1 hsq hT1 ⊢
    clear hT2
    refine ⟨_, _, rfl, .inr hsq, rfl, rfl, ?_⟩
    rw [show inV (V.str "less") [V.str "node", V.str "pipe"] = false from by decide +kernel]
    have hp := O1.get (a := W.D) (o := .dK (woD W)) (.head _)
    have hdd := O1.get (a := W.TD) (o := .dK (wtD W.th)) (.tail _ (.head _))
    have g1 : valV (woD W) (Sum.inr "things") = some (.ref W.TD) := rfl
    have O2 := Box.mk O1
    clear O1 hsq
    walk_at "clo"
    walk_at "s"
    rw [wtD_val, Option.isSome_map]
    cases hz : W.th.lookup n with
    | none =>
      have e0 : semO W.abs (.less n) = .error .noHandle := by
        show (match W.abs.th.lookup n with | none => _ | some t => _) = _
        rw [wo_look, hz]; rfl
      rw [e0] at k
      refine if_t rfl ?_
      walk_at "s"
      intro T3 hT3
      exact k _ T3 (O2.out.newT hT3) upd_same
    | some t =>
      refine if_f rfl ?_
      have g2 : valV (wtD W.th) (Sum.inl n) = some (.ref t.p) := by rw [wtD_val, hz]; rfl
      walk_at "s"
      exact ask2 ⟨W, T, n, t, .less n, rfl, rfl, by simp, hT1, hz, ok, O2.out.self, WDn.on O2.out k⟩
  | read n m =>
    have hT5 : H T = some (.tup [.str "read", .int n, .int m]) := hT
    walk_at "s"
    intro T2 hT2
    have hsq : SqT K (upd H T2 (.tup [V.str "node", V.str "pipe"])) T2 [V.str "node", V.str "pipe"] := SqT.of upd_same
    have O1 := O.newT (o := .tup [V.str "node", V.str "pipe"]) hT2
    have hT1 : (upd H T2 (.tup [V.str "node", V.str "pipe"])) T = some (.tup [.str "read", .int n, .int m]) := O1.tp _ _ hT5
    generalize upd H T2 _ = H1 at O1 hsq hT1 ⊢
    clear hT2
    refine ⟨_, _, rfl, .inr hsq, rfl, rfl, ?_⟩
    rw [show inV (V.str "read") [V.str "node", V.str "pipe"] = false from by decide +kernel]
    have hp := O1.get (a := W.D) (o := .dK (woD W)) (.head _)
    have hdd := O1.get (a := W.TD) (o := .dK (wtD W.th)) (.tail _ (.head _))
    have g1 : valV (woD W) (Sum.inr "things") = some (.ref W.TD) := rfl
    have O2 := Box.mk O1
    clear O1 hsq
    walk_at "clo"
    walk_at "s"
    rw [wtD_val, Option.isSome_map]
    cases hz : W.th.lookup n with
    | none =>
      have e0 : semO W.abs (.read n m) = .error .noHandle := by
        show (match W.abs.th.lookup n with | none => _ | some t => _) = _
        rw [wo_look, hz]; rfl
      rw [e0] at k
      refine if_t rfl ?_
      walk_at "s"
      intro T3 hT3
      exact k _ T3 (O2.out.newT hT3) upd_same
    | some t =>
      refine if_f rfl ?_
      have g2 : valV (wtD W.th) (Sum.inl n) = some (.ref t.p) := by rw [wtD_val, hz]; rfl
      walk_at "s"
      exact ask3 ⟨W, n, t, m, rfl, rfl, rfl, hz, ok, aw, O2.out.self, WDn.on O2.out k⟩
  | write n cs =>
    obtain ⟨hl1, hl2, hl3⟩ := hl
    have hT5 : H T = some (.tup [.str "write", .int n, .ref b]) := hT
    walk_at "s"
    intro T2 hT2
    have hsq : SqT K (upd H T2 (.tup [V.str "node", V.str "pipe"])) T2 [V.str "node", V.str "pipe"] := SqT.of upd_same
    have O1 := O.newT (o := .tup [V.str "node", V.str "pipe"]) hT2
    have hT1 : (upd H T2 (.tup [V.str "node", V.str "pipe"])) T = some (.tup [.str "write", .int n, .ref b]) := O1.tp _ _ hT5
    generalize upd H T2 _ = H1 at O1 hsq hT1 ⊢
    clear hT2
    refine ⟨_, _, rfl, .inr hsq, rfl, rfl, ?_⟩
    rw [show inV (V.str "write") [V.str "node", V.str "pipe"] = false from by decide +kernel]
    have hb1 := O1.fr _ _ hl1 hl2
    have hb := SqL.of (K := K) hb1
    have hp := O1.get (a := W.D) (o := .dK (woD W)) (.head _)
    have hdd := O1.get (a := W.TD) (o := .dK (wtD W.th)) (.tail _ (.head _))
    have g1 : valV (woD W) (Sum.inr "things") = some (.ref W.TD) := rfl
    have O2 := Box.mk O1
    clear O1 hsq
    walk_at "clo"
    walk_at "s"
    rw [wtD_val, Option.isSome_map]
    cases hz : W.th.lookup n with
    | none =>
      have e0 : semO W.abs (.write n cs) = .error .noHandle := by
        show (match W.abs.th.lookup n with | none => _ | some t => _) = _
        rw [wo_look, hz]; rfl
      rw [e0] at k
      refine if_t rfl ?_
      walk_at "s"
      intro T3 hT3
      exact k _ T3 (O2.out.newT hT3) upd_same
    | some t =>
      refine if_f rfl ?_
      have g2 : valV (wtD W.th) (Sum.inl n) = some (.ref t.p) := by rw [wtD_val, hz]; rfl
      walk_at "s"
      intro l2 hl2n
      have O3 := O2.out.new (o := .lst (cs.map V.int)) hl2n
      have hlD : l2 ∉ adr (cWo W) := (List.nodup_cons.mp O3.nd).1
      have hl3l := O3.get (a := l2) (.head _)
      generalize upd H1 l2 _ = H3 at O3 hl3l ⊢
      have O4 := Box.mk O3
      clear O2 O3
      walk_at "s"
      have O3 := O4.out
      refine ask3 ⟨W, n, t, l2, cs, rfl, rfl, rfl, O3.get (.head _), hlD, hl3, hz, ok, aw, (O3.drop (List.sublist_cons_self _ _)).self, WDn.on (O3.drop (List.sublist_cons_self _ _)) k⟩
  | count n =>
    have hT5 : H T = some (.tup [.str "count", .int n]) := hT
    walk_at "s"
    intro T2 hT2
    have hsq : SqT K (upd H T2 (.tup [V.str "node", V.str "pipe"])) T2 [V.str "node", V.str "pipe"] := SqT.of upd_same
    have O1 := O.newT (o := .tup [V.str "node", V.str "pipe"]) hT2
    have hT1 : (upd H T2 (.tup [V.str "node", V.str "pipe"])) T = some (.tup [.str "count", .int n]) := O1.tp _ _ hT5
    generalize upd H T2 _ = H1 at O1 hsq hT1 ⊢
    clear hT2
    refine ⟨_, _, rfl, .inr hsq, rfl, rfl, ?_⟩
    rw [show inV (V.str "count") [V.str "node", V.str "pipe"] = false from by decide +kernel]
    have hp := O1.get (a := W.D) (o := .dK (woD W)) (.head _)
    have hdd := O1.get (a := W.TD) (o := .dK (wtD W.th)) (.tail _ (.head _))
    have g1 : valV (woD W) (Sum.inr "things") = some (.ref W.TD) := rfl
    have O2 := Box.mk O1
    clear O1 hsq
    walk_at "clo"
    walk_at "s"
    rw [wtD_val, Option.isSome_map]
    cases hz : W.th.lookup n with
    | none =>
      have e0 : semO W.abs (.count n) = .error .noHandle := by
        show (match W.abs.th.lookup n with | none => _ | some t => _) = _
        rw [wo_look, hz]; rfl
      rw [e0] at k
      refine if_t rfl ?_
      walk_at "s"
      intro T3 hT3
      exact k _ T3 (O2.out.newT hT3) upd_same
    | some t =>
      refine if_f rfl ?_
      have g2 : valV (wtD W.th) (Sum.inl n) = some (.ref t.p) := by rw [wtD_val, hz]; rfl
      walk_at "s"
      exact ask2 ⟨W, T, n, t, .count n, rfl, rfl, by simp, hT1, hz, ok, O2.out.self, WDn.on O2.out k⟩
  | numbers =>
    have hT5 : H T = some (.tup [.str "numbers"]) := hT
    walk_at "s"
    intro T2 hT2
    have hsq : SqT K (upd H T2 (.tup [V.str "node", V.str "pipe"])) T2 [V.str "node", V.str "pipe"] := SqT.of upd_same
    have O1 := O.newT (o := .tup [V.str "node", V.str "pipe"]) hT2
    have hT1 : (upd H T2 (.tup [V.str "node", V.str "pipe"])) T = some (.tup [.str "numbers"]) := O1.tp _ _ hT5
    generalize upd H T2 _ = H1 at O1 hsq hT1 ⊢
    clear hT2
    refine ⟨_, _, rfl, .inr hsq, rfl, rfl, ?_⟩
    rw [show inV (V.str "numbers") [V.str "node", V.str "pipe"] = false from by decide +kernel]
    have hp := O1.get (a := W.D) (o := .dK (woD W)) (.head _)
    have hdd := O1.get (a := W.TD) (o := .dK (wtD W.th)) (.tail _ (.head _))
    have g1 : valV (woD W) (Sum.inr "things") = some (.ref W.TD) := rfl
    have O2 := Box.mk O1
    clear O1 hsq
    walk_at "clo"
    walk_at "s"
    refine ⟨show (wtD W.th).map (·.1) = (W.th.map (·.1)).map Sum.inl by (rw [List.map_map, List.map_map]; rfl), fun ys b2 hys hsrt hb => ?_⟩
    have e : ys = W.abs.th.map (·.1) := by
      refine List.Perm.eq_of_pairwise (le := (· ≤ ·)) (fun a b _ _ h1 h2 => Int.le_antisymm h1 h2) hsrt ok.ris ?_
      rw [show W.abs.th.map (·.1) = W.th.map (·.1) by unfold WoG.abs; rw [List.map_map]; rfl]
      exact hys
    subst e
    have O3 := O2.out.new (o := .lst ((W.abs.th.map (·.1)).map V.int)) hb
    generalize upd H1 b2 _ = H2 at O3 ⊢
    clear O2
    walk_at "s"
    intro T1 hT1
    exact k _ W T1 b2 (O3.newT hT1) rfl rfl True.intro upd_same

def sp__law_done (K : PySem.W.Frag) : Sp := sp2 fun x y H Q _ => ∃ g T b d, x = .ref g.p ∧ y = .ref T ∧ H T = some (.tup (ODeed.vs b d)) ∧ d.ls H (adr (cOp K g)) b ∧ AOk g.abs ∧ Own H H (adr (cOp K g)) (cOp K g) ∧ ODn K H g (semO g.abs d) Q
theorem tp_new {H : Hp} {b T : Addr} {o : HO} {r : OAns} (h : r.tp H b) (hT : H T = Option.none) : r.tp (upd H T o) b := by
  cases r with
  | pair i j =>
    show upd H T o b = _
    rw [upd_ne (fun z => by rw [z] at h; rw [show H T = _ from h] at hT; cases hT)]
    exact h
  | _ => trivial
theorem sc__law_done : FnScope ["_law_opens", "_law_deed", "_law_told_here", "_law_word_here", "_law_error"] ["_law_opens", "_law_deed"] (defScope s__law_done) := ⟨rfl, rfl, rfl, by decide +kernel, rfl, by decide +kernel, by decide +kernel⟩
theorem ok__law_done {P : Program} {w : World} {K : PySem.W.Frag} {mg : Str → Option Value} {base : Heap} (T : Txt K mg) : Cee P w K mg base 6 (He.fAd K ("_law_done", none)) ["_law_opens", "_law_deed"] (sp__law_done K) := by
  have c__law_told : Cee P w K mg base 5 (He.fAd K ("_law_told", none)) ["_law_opens", "_law_deed"] (sp__law_told K) := ok__law_told T
  have c__law_word : CeeX P w K mg base 1 (He.fAd K ("_law_word", none)) ["_law_error"] (sp__law_word K) := okX__law_word T
  refine cee_of T.d__law_done sc__law_done (fun _ _ _ _ _ _ us hl => match us, hl with | [_, _], _ => rfl) (fun vs H Q E h => sp2_len h) (fun cdv A outer s H vs Q E hr h => ⟨_, (pss_cons (ps_set (i := 2) sc__law_done.nd rfl (Or.inl rfl) pe_non) (pss_cons (ps_set (i := 3) sc__law_done.nd rfl (Or.inl rfl) pe_str) (pss_cons (PS.box (ps_tryX (i := 4) rfl rfl rfl sc__law_done.nd rfl rfl ⟨rfl, by decide, .inl T.g_KernelError⟩ (L2N.takes_of rfl rfl rfl rfl) (fun W pn xe tk pe => (pss_one (ps_set (i := 2) sc__law_done.nd rfl (Or.inl rfl) (pe_f c__law_told (hr.mono (by decide)) tk (by rfl) T.g__law_told (pa_cons (pv 0) (pa_cons (pv 1) pa_nil)))))) (fun a pn => (pss_one (ps_set (i := 3) sc__law_done.nd rfl (Or.inl rfl) (pe_fX (a := a) c__law_word (roomX (hr.mono (by decide))) rfl takes0N (by rfl) T.g__law_word (pa_cons (pv 4) pa_nil))))))) (pss_one (ps_ret (pe_tup (pa_cons (pv 3) (pa_cons (pv 2) pa_nil)))))))), ?_⟩)
  obtain ⟨v0, v1, rfl, h⟩ := h
  dsimp only [cxOf, L2.start]
  obtain ⟨g, T, b, d, rfl, rfl, hT, hl, ok, O, k⟩ := h
  walk_at "s"
  generalize hr : semO g.abs d = r at k
  refine cutS (fun σ' H2 => (∃ e, r = .error e ∧ σ' = [some (.ref g.p), some (.ref T), some .non, some (.str e.name), none] ∧ Own H H2 (adr (cOp K g)) (cOp K g)) ∨ ∃ a' an g' b', r = .ok (a', an) ∧ σ' = [some (.ref g.p), some (.ref T), some (an.v b'), some (.str ""), none] ∧ Own H H2 (adr (cOp K g)) (an.cel b' ++ cOp K g') ∧ g'.abs = a' ∧ g'.p = g.p ∧ an.tp H2 b') (fun nx hx => ?_) ?_
  · walk_at "s"
    refine ask2 ⟨g, T, b, d, rfl, rfl, hT, hl, ok, O, ?_⟩
    rw [hr]
    cases r with
    | error e =>
      intro H2 O2
      have hex : PySem.W.exmOne K (ORf.cls K e) (.ref (He.ga K "KernelError")) = some true := by
        cases e
        · exact Txt.y_NoHandle_KernelError (by assumption)
        · exact Txt.y_BadMode_KernelError (by assumption)
        · exact Txt.y_TooBig_KernelError (by assumption)
        · exact Txt.y_Again_KernelError (by assumption)
        · exact Txt.y_Broken_KernelError (by assumption)
      dsimp only
      walk_at "s"
      refine ⟨fun _ ea he => ?_, nofun⟩
      have O3 := O2.new (o := CxO (ORf.cls K e) none ea) he
      generalize upd H2 ea _ = H3 at O3 ⊢
      have hea := O3.get (a := ea) (.head _)
      walk_at "s"
      refine ask1 ⟨e, rfl, hea, fun H4 O4 => ?_⟩
      walk_at "s"
      exact hx _ _ (.inl ⟨e, rfl, rfl, (O3.callN O4).drop (List.sublist_cons_self _ _)⟩)
    | ok p =>
      obtain ⟨a', an⟩ := p
      intro H2 g2 b2 O2 e1 e2 ht
      exact hx _ _ (.inr ⟨a', an, g2, b2, rfl, rfl, O2, e1, e2, ht⟩)
  · rintro σ' H2 (⟨e, rfl, rfl, O2⟩ | ⟨a', an, g2, b2, rfl, rfl, O2, e1, e2, ht⟩)
    · walk_at "s"
      intro T2 hT2
      exact k _ T2 (O2.newT hT2) upd_same
    · walk_at "s"
      intro T2 hT2
      exact k _ g2 T2 b2 (O2.newT hT2) e1 e2 (tp_new ht hT2) upd_same

/-! ## what was told, compared -/
def OAns.st (H : Hp) (b : Addr) : OAns → Prop
  | .pair i j => H b = some (.tup [.int i, .int j])
  | .list l => H b = some (.lst (l.map V.int)) ∧ l.length ≤ 20000
  | _ => True
def sp__law_same_0 (K : PySem.W.Frag) : Sp := sp2 fun x y H Q _ => ∃ n, x = .int n ∧ y = .int n ∧ ∀ H', Own H H' [] [] → Q (.bl true) H'
def sp__law_same_1 (K : PySem.W.Frag) : Sp := sp2 fun x y H Q _ => ∃ r a b, x = OAns.v a r ∧ y = OAns.v b r ∧ r.st H a ∧ r.st H b ∧ ∀ H', Own H H' [] [] → Q (.bl true) H'
def semA (a : AO) (d : ODeed) : AO := match semO a d with
  | .error _ => a
  | .ok p => p.1
def sp__law_right (K : PySem.W.Frag) : Sp := sp3 fun x y z H Q _ => ∃ g W T b d, x = .ref g.p ∧ y = .ref W.D ∧ z = .ref T ∧ H T = some (.tup (ODeed.vs b d)) ∧ d.ls H (adr (cOp K g ++ cWo W)) b ∧ g.abs = W.abs ∧ AOk g.abs ∧ AOw g.abs ∧ g.last ≤ 8990 ∧ Own H H (adr (cOp K g ++ cWo W)) (cOp K g ++ cWo W) ∧
  ∀ H' g' W', Own H H' (adr (cOp K g ++ cWo W)) (cOp K g' ++ cWo W') → g'.p = g.p → W'.D = W.D → g'.abs = W'.abs → g'.abs = semA g.abs d → Q (.bl true) H'
theorem walk_zipT {K : PySem.W.Frag} {a b : Addr} {xs ys : List V} {n : Nat} (hn : n = min xs.length ys.length) : Walk (RZ.ItzT K a b) n (fun H => SqT K H a xs ∧ SqT K H b ys) (YPair (fun i => xs[i]?) (fun i => ys[i]?)) := by
  subst hn
  refine ⟨fun i _ hi q => ?_, fun _ q => ⟨xs, ys, q.1, q.2, by omega⟩, fun i H v H' _ q y => ?_⟩
  · have h1 : i < xs.length := by omega
    have h2 : i < ys.length := by omega
    exact ⟨xs, ys, xs[i], ys[i], q.1, q.2, by simp [h1], by simp [h2]⟩
  · obtain ⟨T, x, z, h1, h2, h3, h4, h5⟩ := y
    exact ⟨T, x, z, h1, h2, h3, h4 xs q.1, h5 ys q.2⟩
theorem eq_int {K : PySem.W.Frag} {H : Hp} {n : Int} {Q : VK} (k : Q (.bl true) H) : rEqD K (.int n) (.int n) H Q :=
  ⟨_, _, .int n, .int n, rfl, rfl, by rw [show PyData.eqv (.int n) (.int n) = true from by show (n == n) = true; simp]; exact k⟩
theorem sc__law_same : FnScope ["_law_found", "_law_due_here", "_law_one", "_law_other"] ["_law_found", "_law_due_here"] (defScope s__law_same) := ⟨rfl, rfl, rfl, by decide +kernel, rfl, by decide +kernel, by decide +kernel⟩
theorem okW__law_same {P : Program} {w : World} {K : PySem.W.Frag} {mg : Str → Option Value} {base : Heap} (T : Txt K mg) : Cee P w K mg base 1 (He.fAd K ("_law_same", none)) ["_law_found", "_law_due_here"] spWall :=
  cee_of T.d__law_same sc__law_same (fun _ _ _ _ _ _ us hl => match us, hl with | [_, _], _ => rfl) (fun vs H Q E h => h.elim) (fun cdv A outer s H vs Q E hr h => h.elim)
theorem ok__law_same_0 {P : Program} {w : World} {K : PySem.W.Frag} {mg : Str → Option Value} {base : Heap} (T : Txt K mg) : Cee P w K mg base 2 (He.fAd K ("_law_same", none)) ["_law_found", "_law_due_here"] (sp__law_same_0 K) := by
  have c__law_same : Cee P w K mg base 1 (He.fAd K ("_law_same", none)) ["_law_found", "_law_due_here"] spWall := okW__law_same T
  refine cee_of T.d__law_same sc__law_same (fun _ _ _ _ _ _ us hl => match us, hl with | [_, _], _ => rfl) (fun vs H Q E h => sp2_len h) (fun cdv A outer s H vs Q E hr h => ⟨_, (pss_cons (PS.box (ps_if (PW.pt (pw_or (pt_val (pe_callB call_isi (by rfl) T.n_isinstance (by decide +kernel) (pa_cons (pv 1) (pa_cons (pe_bltn (v := .ty "list") rfl T.n_list (by decide +kernel) rfl) pa_nil)))) (pw_or1 (pt_val (pe_callB call_isi (by rfl) T.n_isinstance (by decide +kernel) (pa_cons (pv 1) (pa_cons (pe_bltn (v := .ty "tuple") rfl T.n_tuple (by decide +kernel) rfl) pa_nil))))))) (pss_cons (PS.box (ps_if (PW.pt (pw_or (pt_not (pt_val (pe_callB call_isiT (by rfl) T.n_isinstance (by decide +kernel) (pa_cons (pv 0) (pa_cons (pe_tup (pa_cons (pe_bltn (v := .ty "list") rfl T.n_list (by decide +kernel) rfl) (pa_cons (pe_bltn (v := .ty "tuple") rfl T.n_tuple (by decide +kernel) rfl) pa_nil))) pa_nil))))) (pw_or1 (pt_cmpR op_ne (pe_callB call_len (by rfl) T.n_len (by decide +kernel) (pa_cons (pv 0) pa_nil)) (pe_callB call_len (by rfl) T.n_len (by decide +kernel) (pa_cons (pv 1) pa_nil)) (nomark _))))) (pss_one (ps_ret pe_bl)) pss_nil)) (pss_cons (ps_if (pt_cmpR op_ne (pe_callB call_isi (by rfl) T.n_isinstance (by decide +kernel) (pa_cons (pv 0) (pa_cons (pe_bltn (v := .ty "list") rfl T.n_list (by decide +kernel) rfl) pa_nil))) (pe_callB call_isi (by rfl) T.n_isinstance (by decide +kernel) (pa_cons (pv 1) (pa_cons (pe_bltn (v := .ty "list") rfl T.n_list (by decide +kernel) rfl) pa_nil))) (nomark _)) (pss_one (ps_ret pe_bl)) pss_nil) (pss_one (ps_ret (pe_callB (cr_all rfl) (by rfl) T.n_all (by decide +kernel) (pa_cons (pe_lc (own := [("_law_one", 2), ("_law_other", 3)]) (by rfl) sc__law_same.nd (PI.box (RZ.pi_zipA (by rfl) T.n_zip (pa_cons (pv 0) (pa_cons (pv 1) pa_nil)))) (blkOk_by (own := [("_law_one", 2), ("_law_other", 3)]) (N := ["_law_found", "_law_due_here", "_law_one", "_law_other"]) (sc := defScope s__law_same) (by decide +kernel)) (fun _ _ _ _ _ => (show PG _ _ (gTup K 2 (gCons (gName 2) (gCons (gName 3) gNil))) from (pg_tup rfl (pgs_cons (pg_name (i := 2) sc__law_same.nd rfl (Or.inl rfl)) (pgs_cons (pg_name (i := 3) sc__law_same.nd rfl (Or.inl rfl)) pgs_nil))))) (fun _ _ _ _ _ => pts_nil) (fun _ _ _ _ _ => (pe_f c__law_same (hr.mono (by decide)) takes0N (by rfl) T.g__law_same (pa_cons (pv 2) (pa_cons (pv 3) pa_nil))))) pa_nil)))))) pss_nil)) (pss_cons (ps_if (pt_val (pe_callB call_isi (by rfl) T.n_isinstance (by decide +kernel) (pa_cons (pv 1) (pa_cons (pe_bltn (v := .ty "int") rfl T.n_int (by decide +kernel) rfl) pa_nil)))) (pss_one (ps_ret (pe_and (pe_callB call_isi (by rfl) T.n_isinstance (by decide +kernel) (pa_cons (pv 0) (pa_cons (pe_bltn (v := .ty "int") rfl T.n_int (by decide +kernel) rfl) pa_nil))) (pe_and (pe_not (pe_callB call_isi (by rfl) T.n_isinstance (by decide +kernel) (pa_cons (pv 0) (pa_cons (pe_bltn (v := .ty "bool") rfl T.n_bool (by decide +kernel) rfl) pa_nil)))) (pe_one (pe_cmpR (op_eqD hr.units) (pv 0) (pv 1) (nomark _))))))) pss_nil) (pss_one (ps_ret (pe_and (pe_cmpR op_isN (pv 1) pe_non (nomark _)) (pe_one (pe_cmpR op_isN (pv 0) pe_non (nomark _)))))))), ?_⟩)
  obtain ⟨v0, v1, rfl, h⟩ := h
  dsimp only [cxOf, L2.start]
  obtain ⟨n, rfl, rfl, k⟩ := h
  walk_at "s"
  walk_at "b"
  refine eq_int ?_
  exact k _ Own.start
theorem ok__law_same_1 {P : Program} {w : World} {K : PySem.W.Frag} {mg : Str → Option Value} {base : Heap} (T : Txt K mg) : Cee P w K mg base 3 (He.fAd K ("_law_same", none)) ["_law_found", "_law_due_here"] (sp__law_same_1 K) := by
  have c__law_same : Cee P w K mg base 2 (He.fAd K ("_law_same", none)) ["_law_found", "_law_due_here"] (sp__law_same_0 K) := ok__law_same_0 T
  refine cee_of T.d__law_same sc__law_same (fun _ _ _ _ _ _ us hl => match us, hl with | [_, _], _ => rfl) (fun vs H Q E h => sp2_len h) (fun cdv A outer s H vs Q E hr h => ⟨_, (pss_cons (PS.box (ps_if (PW.pt (pw_or (pt_val (pe_callB call_isi (by rfl) T.n_isinstance (by decide +kernel) (pa_cons (pv 1) (pa_cons (pe_bltn (v := .ty "list") rfl T.n_list (by decide +kernel) rfl) pa_nil)))) (pw_or1 (pt_val (pe_callB call_isi (by rfl) T.n_isinstance (by decide +kernel) (pa_cons (pv 1) (pa_cons (pe_bltn (v := .ty "tuple") rfl T.n_tuple (by decide +kernel) rfl) pa_nil))))))) (pss_cons (PS.box (ps_if (PW.pt (pw_or (pt_not (pt_val (pe_callB call_isiT (by rfl) T.n_isinstance (by decide +kernel) (pa_cons (pv 0) (pa_cons (pe_tup (pa_cons (pe_bltn (v := .ty "list") rfl T.n_list (by decide +kernel) rfl) (pa_cons (pe_bltn (v := .ty "tuple") rfl T.n_tuple (by decide +kernel) rfl) pa_nil))) pa_nil))))) (pw_or1 (pt_cmpR op_ne (pe_callB call_len (by rfl) T.n_len (by decide +kernel) (pa_cons (pv 0) pa_nil)) (pe_callB call_len (by rfl) T.n_len (by decide +kernel) (pa_cons (pv 1) pa_nil)) (nomark _))))) (pss_one (ps_ret pe_bl)) pss_nil)) (pss_cons (ps_if (pt_cmpR op_ne (pe_callB call_isi (by rfl) T.n_isinstance (by decide +kernel) (pa_cons (pv 0) (pa_cons (pe_bltn (v := .ty "list") rfl T.n_list (by decide +kernel) rfl) pa_nil))) (pe_callB call_isi (by rfl) T.n_isinstance (by decide +kernel) (pa_cons (pv 1) (pa_cons (pe_bltn (v := .ty "list") rfl T.n_list (by decide +kernel) rfl) pa_nil))) (nomark _)) (pss_one (ps_ret pe_bl)) pss_nil) (pss_one (ps_ret (pe_callB (cr_all rfl) (by rfl) T.n_all (by decide +kernel) (pa_cons (pe_lc (own := [("_law_one", 2), ("_law_other", 3)]) (by rfl) sc__law_same.nd (PI.box (RZ.pi_zipA (by rfl) T.n_zip (pa_cons (pv 0) (pa_cons (pv 1) pa_nil)))) (blkOk_by (own := [("_law_one", 2), ("_law_other", 3)]) (N := ["_law_found", "_law_due_here", "_law_one", "_law_other"]) (sc := defScope s__law_same) (by decide +kernel)) (fun _ _ _ _ _ => (show PG _ _ (gTup K 2 (gCons (gName 2) (gCons (gName 3) gNil))) from (pg_tup rfl (pgs_cons (pg_name (i := 2) sc__law_same.nd rfl (Or.inl rfl)) (pgs_cons (pg_name (i := 3) sc__law_same.nd rfl (Or.inl rfl)) pgs_nil))))) (fun _ _ _ _ _ => pts_nil) (fun _ _ _ _ _ => (pe_f c__law_same (hr.mono (by decide)) takes0N (by rfl) T.g__law_same (pa_cons (pv 2) (pa_cons (pv 3) pa_nil))))) pa_nil)))))) pss_nil)) (pss_cons (ps_if (pt_val (pe_callB call_isi (by rfl) T.n_isinstance (by decide +kernel) (pa_cons (pv 1) (pa_cons (pe_bltn (v := .ty "int") rfl T.n_int (by decide +kernel) rfl) pa_nil)))) (pss_one (ps_ret (pe_and (pe_callB call_isi (by rfl) T.n_isinstance (by decide +kernel) (pa_cons (pv 0) (pa_cons (pe_bltn (v := .ty "int") rfl T.n_int (by decide +kernel) rfl) pa_nil))) (pe_and (pe_not (pe_callB call_isi (by rfl) T.n_isinstance (by decide +kernel) (pa_cons (pv 0) (pa_cons (pe_bltn (v := .ty "bool") rfl T.n_bool (by decide +kernel) rfl) pa_nil)))) (pe_one (pe_cmpR (op_eqD hr.units) (pv 0) (pv 1) (nomark _))))))) pss_nil) (pss_one (ps_ret (pe_and (pe_cmpR op_isN (pv 1) pe_non (nomark _)) (pe_one (pe_cmpR op_isN (pv 0) pe_non (nomark _)))))))), ?_⟩)
  obtain ⟨v0, v1, rfl, h⟩ := h
  dsimp only [cxOf, L2.start]
  obtain ⟨r, a, b, rfl, rfl, ha, hb, k⟩ := h
  cases r with
  | none =>
    dsimp only [OAns.v]
    walk_at "s"
    walk_at "b"
    exact k _ Own.start
  | int i =>
    dsimp only [OAns.v]
    walk_at "s"
    walk_at "b"
    refine eq_int ?_
    exact k _ Own.start
  | pair i j =>
    dsimp only [OAns.v]
    have ha : H a = some (.tup [.int i, .int j]) := ha
    have hb : H b = some (.tup [.int i, .int j]) := hb
    walk_at "s"
    walk_at "b"
    refine if_t rfl ?_
    walk_at "s"
    walk_at "b"
    intro T1 hT1
    have O1 := (Own.start (H := H)).newT (o := .tup [V.ty "list", V.ty "tuple"]) hT1
    have hT1' : (upd H T1 (.tup [V.ty "list", V.ty "tuple"])) T1 = some (.tup [V.ty "list", V.ty "tuple"]) := upd_same
    have ha1 := O1.tp _ _ ha
    have hb1 := O1.tp _ _ hb
    generalize upd H T1 _ = H1 at O1 hT1' ha1 hb1 ⊢
    have ha0 : H a = _ := ha
    have hb0 : H b = _ := hb
    clear ha hb
    have la : LenV K (V.ref a) H1 2 := .inr ⟨_, SqT.of ha1, rfl⟩
    have lb : LenV K (V.ref b) H1 2 := .inr ⟨_, SqT.of hb1, rfl⟩
    walk_at "s"
    refine .inr ⟨SqT.of ha1, SqT.of hb1, ?_⟩
    refine lcW (walk_zipT (K := K) (a := a) (b := b) (xs := [V.int i, V.int j]) (ys := [V.int i, V.int j]) (n := 2) rfl) (fun D n H2 => Own H H2 [] [(D, .lst ((List.replicate n true).map V.bl))]) (fun D hD => O1.new hD) (fun D n H2 _ O => ⟨SqT.of (O.tp _ _ ha0), SqT.of (O.tp _ _ hb0)⟩) ?_ ?_
    · rintro D n x H2 H3 hj O ⟨T, u, v, rfl, hT, rfl, hu, hv⟩
      obtain ⟨m, rfl⟩ : ∃ m, u = V.int m := by
        rcases n with _ | _ | n
        · exact ⟨i, (Option.some.inj hu).symm⟩
        · exact ⟨j, (Option.some.inj hu).symm⟩
        · cases hu
      have hv : v = V.int m := Option.some.inj (hv.symm.trans hu)
      subst hv
      have O2 := O.newT (o := .tup [V.int m, V.int m]) hT
      have hT2 : (upd H2 T (.tup [V.int m, V.int m])) T = some (.tup [V.int m, V.int m]) := upd_same
      generalize upd H2 T _ = H4 at O2 hT2 ⊢
      walk_at "s"
      refine ask2 ⟨m, rfl, rfl, fun H5 O3 => ?_⟩
      have O4 := O2.callN O3
      have hD4 := O4.get (.head _)
      have hll : ((List.replicate n true).map V.bl).length < 100000 := by rw [List.length_map, List.length_replicate]; omega
      walk_at "s"
      rw [List.replicate_succ', List.map_append]
      exact ⟨O4.wr .here⟩
    · rintro D H2 O
      have hD4 := O.get (.head _)
      have hD6 := SqL.of (K := K) hD4
      walk_at "s"
      exact k _ (O.drop (List.nil_sublist _))
  | list l =>
    dsimp only [OAns.v]
    obtain ⟨ha, hl⟩ := ha
    obtain ⟨hb, _⟩ := hb
    walk_at "s"
    walk_at "b"
    walk_at "s"
    walk_at "b"
    intro T1 hT1
    have O1 := (Own.start (H := H)).newT (o := .tup [V.ty "list", V.ty "tuple"]) hT1
    have hT1' : (upd H T1 (.tup [V.ty "list", V.ty "tuple"])) T1 = some (.tup [V.ty "list", V.ty "tuple"]) := upd_same
    have ha1 := O1.fr0 ha
    have hb1 := O1.fr0 hb
    generalize upd H T1 _ = H1 at O1 hT1' ha1 hb1 ⊢
    have ha0 : H a = _ := ha
    have hb0 : H b = _ := hb
    clear ha hb
    have la : LenV K (V.ref a) H1 l.length := .inl ⟨_, SqL.of ha1, (List.length_map _).symm⟩
    have lb : LenV K (V.ref b) H1 l.length := .inl ⟨_, SqL.of hb1, (List.length_map _).symm⟩
    walk_at "s"
    refine if_f (by rw [decide_eq_true rfl]; rfl) ?_
    walk_at "s"
    refine .inl ⟨SqL.of ha1, SqL.of hb1, ?_⟩
    refine lcW (walk_zip (K := K) (a := a) (b := b) (xs := l.map V.int) (ys := l.map V.int) (n := l.length) (by simp)) (fun D n H2 => Own H H2 [] [(D, .lst ((List.replicate n true).map V.bl))]) (fun D hD => O1.new hD) (fun D n H2 _ O => ⟨SqL.of (O.fr0 ha0), SqL.of (O.fr0 hb0)⟩) ?_ ?_
    · rintro D n x H2 H3 hj O ⟨T, u, v, rfl, hT, rfl, hu, hv⟩
      obtain ⟨m, _, rfl⟩ := map_get hu
      have hv : v = V.int m := Option.some.inj (hv.symm.trans hu)
      subst hv
      have O2 := O.newT (o := .tup [V.int m, V.int m]) hT
      have hT2 : (upd H2 T (.tup [V.int m, V.int m])) T = some (.tup [V.int m, V.int m]) := upd_same
      generalize upd H2 T _ = H4 at O2 hT2 ⊢
      walk_at "s"
      refine ask2 ⟨m, rfl, rfl, fun H5 O3 => ?_⟩
      have O4 := O2.callN O3
      have hD4 := O4.get (.head _)
      have hll : ((List.replicate n true).map V.bl).length < 100000 := by rw [List.length_map, List.length_replicate]; omega
      walk_at "s"
      rw [List.replicate_succ', List.map_append]
      exact ⟨O4.wr .here⟩
    · rintro D H2 O
      have hD4 := O.get (.head _)
      have hD6 := SqL.of (K := K) hD4
      walk_at "s"
      rw [show (List.replicate l.length true).all id = true by simp]
      exact k _ (O.drop (List.nil_sublist _))
abbrev sp__law_same (K : PySem.W.Frag) : Sp := sp__law_same_1 K
theorem ok__law_same {P : Program} {w : World} {K : PySem.W.Frag} {mg : Str → Option Value} {base : Heap} (T : Txt K mg) : Cee P w K mg base 3 (He.fAd K ("_law_same", none)) ["_law_found", "_law_due_here"] (sp__law_same K) := ok__law_same_1 T
theorem ls_on {H : Hp} {A A' : List Addr} {b : Addr} {d : ODeed} (h : d.ls H A b) (hs : ∀ a ∈ A', a ∈ A) : d.ls H A' b := by
  cases d with
  | write n cs => exact ⟨h.1, fun z => h.2.1 (hs _ z), h.2.2⟩
  | _ => trivial
def ODeed.cel (b : Addr) : ODeed → Cells
  | .write _ cs => [(b, .lst (cs.map V.int))]
  | _ => []
def oWord : Except ORf (AO × OAns) → Str
  | .error e => e.name
  | .ok _ => ""
def oAns : Except ORf (AO × OAns) → OAns
  | .error _ => .none
  | .ok p => p.2
theorem WDn.uni {K : PySem.W.Frag} {H : Hp} {W : WoG} {d : ODeed} {Q : VK} (k : ∀ H' W' T b, Own H H' (adr (cWo W)) ((oAns (semO W.abs d)).cel b ++ cWo W') → W'.abs = semA W.abs d → W'.D = W.D → (oAns (semO W.abs d)).tp H' b → H' T = some (.tup [.str (oWord (semO W.abs d)), (oAns (semO W.abs d)).v b]) → Q (.ref T) H') : WDn K H W (semO W.abs d) Q := by
  unfold semA at k
  unfold WDn
  cases h : semO W.abs d with
  | error e =>
    rw [h] at k
    exact fun H' T O hT => k H' W T T O rfl rfl True.intro hT
  | ok p =>
    rw [h] at k
    exact fun H' W' T b O e1 e2 h1 h2 => k H' W' T b O e1 e2 h1 h2
theorem ODn.uni {K : PySem.W.Frag} {H : Hp} {g : OpG} {d : ODeed} {Q : VK} (k : ∀ H' g' T b, Own H H' (adr (cOp K g)) ((oAns (semO g.abs d)).cel b ++ cOp K g') → g'.abs = semA g.abs d → g'.p = g.p → (oAns (semO g.abs d)).tp H' b → H' T = some (.tup [.str (oWord (semO g.abs d)), (oAns (semO g.abs d)).v b]) → Q (.ref T) H') : ODn K H g (semO g.abs d) Q := by
  unfold semA at k
  unfold ODn
  cases h : semO g.abs d with
  | error e =>
    rw [h] at k
    exact fun H' T O hT => k H' g T T O rfl rfl True.intro hT
  | ok p =>
    rw [h] at k
    exact fun H' g' T b O e1 e2 h1 h2 => k H' g' T b O e1 e2 h1 h2
theorem ls_fr {H H1 : Hp} {A : List Addr} {cs : Cells} {b : Addr} {d : ODeed} (h : d.ls H A b) (O : Own H H1 A cs) : d.ls H1 A b := by
  cases d with
  | write n l => exact ⟨O.fr _ _ h.1 h.2.1, h.2.1, h.2.2⟩
  | _ => trivial
theorem ls_cel {H H1 : Hp} {A : List Addr} {cs : Cells} {b : Addr} {d : ODeed} (O : Own H H1 A (d.cel b ++ cs)) (h : ∀ n l, d = .write n l → l.length ≤ 1000) : d.ls H1 (adr cs) b := by
  cases d with
  | write n l => exact ⟨O.get (.head _), (List.nodup_cons.mp O.nd).1, h n l rfl⟩
  | _ => trivial
theorem tp_on {H H1 : Hp} {A : List Addr} {cs : Cells} {b : Addr} {r : OAns} (h : r.tp H b) (O : Own H H1 A cs) : r.tp H1 b := by
  cases r with
  | pair i j => exact O.tp _ _ h
  | _ => trivial
theorem tp_wr {H : Hp} {a b : Addr} {o : HO} {xs : List V} {r : OAns} (h : r.tp H b) (ha : H a = some (.lst xs)) : r.tp (upd H a o) b := by
  cases r with
  | pair i j =>
    show upd H a o b = _
    rw [upd_ne (fun z => by rw [z] at h; rw [show H a = _ from h] at ha; cases ha)]
    exact h
  | _ => trivial
theorem st_of {H : Hp} {b : Addr} {r : OAns} (h : r.tp H b) (hl : ∀ l, r = .list l → H b = some (.lst (l.map V.int)) ∧ l.length ≤ 20000) : r.st H b := by
  cases r with
  | pair i j => exact h
  | list l => exact hl l rfl
  | _ => trivial
theorem ans_len {a : AO} {d : ODeed} {l : List Int} (ok : AOk a) (h : oAns (semO a d) = .list l) : l.length ≤ 20000 := by
  cases d with
  | pipe => cases h
  | more n =>
    cases hz : a.th.lookup n with
    | none => simp only [semO, hz] at h; cases h
    | some t => simp only [semO, hz] at h; cases h
  | less n =>
    cases hz : a.th.lookup n with
    | none => simp only [semO, hz] at h; cases h
    | some t => simp only [semO, hz] at h; split at h <;> cases h
  | read n m =>
    cases hz : a.th.lookup n with
    | none => simp only [semO, hz] at h; cases h
    | some t =>
      simp only [semO, hz] at h
      split at h
      · cases h
      split at h
      · cases h
      split at h
      · cases h
      cases h
      have := apAt_len ok t.q
      rw [List.length_take]
      omega
  | write n cs =>
    cases hz : a.th.lookup n with
    | none => simp only [semO, hz] at h; cases h
    | some t =>
      simp only [semO, hz] at h
      split at h
      · cases h
      split at h
      · cases h
      split at h
      · cases h
      split at h
      · cases h
      cases h
  | count n =>
    cases hz : a.th.lookup n with
    | none => simp only [semO, hz] at h; cases h
    | some t => simp only [semO, hz] at h; cases h
  | numbers =>
    cases h
    have h1 := ok.len
    have h2 := ok.few
    rw [List.length_map]
    omega
theorem sc__law_right : FnScope ["_law_opens", "_law_world_here", "_law_deed", "_law_handed", "_law_due_here", "_law_want", "_law_word_here", "_law_told_here"] ["_law_opens", "_law_world_here", "_law_deed"] (defScope s__law_right) := ⟨rfl, rfl, rfl, by decide +kernel, rfl, by decide +kernel, by decide +kernel⟩
theorem ok__law_right {P : Program} {w : World} {K : PySem.W.Frag} {mg : Str → Option Value} {base : Heap} (T : Txt K mg) : Cee P w K mg base 7 (He.fAd K ("_law_right", none)) ["_law_opens", "_law_world_here", "_law_deed"] (sp__law_right K) := by
  have c__law_due : Cee P w K mg base 3 (He.fAd K ("_law_due", none)) ["_law_world_here", "_law_deed"] (sp__law_due K) := ok__law_due T
  have c__law_done : Cee P w K mg base 6 (He.fAd K ("_law_done", none)) ["_law_opens", "_law_deed"] (sp__law_done K) := ok__law_done T
  have c__law_same : Cee P w K mg base 3 (He.fAd K ("_law_same", none)) ["_law_found", "_law_due_here"] (sp__law_same K) := ok__law_same T
  refine cee_of T.d__law_right sc__law_right (fun _ _ _ _ _ _ us hl => match us, hl with | [_, _, _], _ => rfl) (fun vs H Q E h => sp3_len h) (fun cdv A outer s H vs Q E hr h => ⟨_, (pss_cons (ps_set (i := 3) sc__law_right.nd rfl (Or.inl rfl) (pv 2)) (pss_cons (PS.box (ps_if (pt_cmpR op_eq (pe_ix ix_tup (pv 2) pe_int (fun _ _ => rfl)) pe_str (nomark _)) (pss_one (ps_set (i := 3) sc__law_right.nd rfl (Or.inl rfl) (pe_tup (pa_cons pe_str (pa_cons (pe_ix ix_tup (pv 2) pe_int (fun _ _ => rfl)) (pa_cons (pe_callTy call_list_of (by rfl) T.n_list (by decide +kernel) (pa_cons (pe_ix ix_tup (pv 2) pe_int (fun _ _ => rfl)) pa_nil)) pa_nil)))))) pss_nil)) (pss_cons (ps_asg (pe_f c__law_due (hr.mono (by decide)) (L2N.takes_of rfl rfl rfl rfl) (by rfl) T.g__law_due (pa_cons (pv 1) (pa_cons (pv 2) pa_nil))) (pg_tup rfl (pgs_cons (pg_name (i := 4) sc__law_right.nd rfl (Or.inl rfl)) (pgs_cons (pg_name (i := 5) sc__law_right.nd rfl (Or.inl rfl)) pgs_nil)))) (pss_cons (ps_asg (pe_f c__law_done (hr.mono (by decide)) (L2N.takes_of rfl rfl rfl rfl) (by rfl) T.g__law_done (pa_cons (pv 0) (pa_cons (pv 3) pa_nil))) (pg_tup rfl (pgs_cons (pg_name (i := 6) sc__law_right.nd rfl (Or.inl rfl)) (pgs_cons (pg_name (i := 7) sc__law_right.nd rfl (Or.inl rfl)) pgs_nil)))) (pss_cons (PS.box (ps_if (PW.pt (pw_or (pt_cmpR op_ne (pv 6) (pv 4) (nomark _)) (pw_or1 (PW.pt (pw_and (pt_cmpR op_eq (pv 6) pe_str (nomark _)) (pw_and1 (pt_not (pt_val (pe_f c__law_same (hr.mono (by decide)) (L2N.takes_of rfl rfl rfl rfl) (by rfl) T.g__law_same (pa_cons (pv 7) (pa_cons (pv 5) pa_nil))))))))))) (pss_one (ps_ret pe_bl)) pss_nil)) (pss_cons (PS.box (ps_if (pt_cmpR op_eq (pe_ix ix_tup (pv 2) pe_int (fun _ _ => rfl)) pe_str (nomark _)) (pss_cons (ps_if (pt_cmpR (op_neD hr.units) (pe_ix ix_tup (pv 3) pe_int (fun _ _ => rfl)) (pe_ix ix_tup (pv 2) pe_int (fun _ _ => rfl)) (nomark _)) (pss_one (ps_ret pe_bl)) pss_nil) (pss_one (ps_expr (pe_bm PySem.F.plainAttrs_list PySem.F.slot_list_append PySem.F.type_list_append mt_append (pe_ix ix_tup (pv 3) pe_int (fun _ _ => rfl)) (pa_cons pe_int pa_nil))))) pss_nil)) (pss_cons (PS.box (ps_if (pt_val (pe_callB call_isi (by rfl) T.n_isinstance (by decide +kernel) (pa_cons (pv 7) (pa_cons (pe_bltn (v := .ty "list") rfl T.n_list (by decide +kernel) rfl) pa_nil)))) (pss_one (ps_expr (pe_bm PySem.F.plainAttrs_list PySem.F.slot_list_append PySem.F.type_list_append mt_append (pv 7) (pa_cons pe_int pa_nil)))) pss_nil)) (pss_one (ps_ret pe_bl))))))))), ?_⟩)
  obtain ⟨v0, v1, v2, rfl, h⟩ := h
  dsimp only [cxOf, L2.start]
  obtain ⟨g, W, T, b, d, rfl, rfl, rfl, hT, hl, ha, ok, aw, hf, O, k⟩ := h
  walk_at "s"
  refine cutS (fun σ' H1 => ∃ T1 b1, σ' = [some (.ref g.p), some (.ref W.D), some (.ref T), some (.ref T1), none, none, none, none] ∧ Own H H1 (adr (cOp K g ++ cWo W)) (d.cel b1 ++ (cOp K g ++ cWo W)) ∧ H1 T1 = some (.tup (ODeed.vs b1 d)) ∧ (∀ n cs, d = .write n cs → cs.length ≤ 1000)) (fun nx hx => ?_) ?_
  · cases d with
    | write n cs =>
      have hT5 : H T = some (.tup [.str "write", .int n, .ref b]) := hT
      obtain ⟨hl1, hl2, hl3⟩ := hl
      have hb := SqL.of (K := K) hl1
      walk_at "s"
      intro b1 hb1
      have O1 := O.new (o := .lst (cs.map V.int)) hb1
      generalize upd H b1 _ = H1 at O1 ⊢
      walk_at "s"
      intro T1 hT1
      exact hx _ _ ⟨T1, b1, rfl, O1.newT hT1, upd_same, fun n l e => by cases e; exact hl3⟩
    | pipe =>
      have hT5 : H T = some (.tup [.str "pipe"]) := hT
      walk_at "s"
      exact hx _ _ ⟨T, 0, rfl, O, hT, nofun⟩
    | more n =>
      have hT5 : H T = some (.tup [.str "more", .int n]) := hT
      walk_at "s"
      exact hx _ _ ⟨T, 0, rfl, O, hT, nofun⟩
    | less n =>
      have hT5 : H T = some (.tup [.str "less", .int n]) := hT
      walk_at "s"
      exact hx _ _ ⟨T, 0, rfl, O, hT, nofun⟩
    | read n m =>
      have hT5 : H T = some (.tup [.str "read", .int n, .int m]) := hT
      walk_at "s"
      exact hx _ _ ⟨T, 0, rfl, O, hT, nofun⟩
    | count n =>
      have hT5 : H T = some (.tup [.str "count", .int n]) := hT
      walk_at "s"
      exact hx _ _ ⟨T, 0, rfl, O, hT, nofun⟩
    | numbers =>
      have hT5 : H T = some (.tup [.str "numbers"]) := hT
      walk_at "s"
      exact hx _ _ ⟨T, 0, rfl, O, hT, nofun⟩
  · rintro σ' H1 ⟨T1, b1, rfl, O1, hT1, hc⟩
    have hT' := O1.tp _ _ hT
    have okW : AOk W.abs := ha ▸ ok
    have awW : AOw W.abs := ha ▸ aw
    have hlW : d.ls H1 (adr (cWo W)) b := ls_on (ls_fr hl O1) fun a z => by rw [adr_app]; exact List.mem_append_right _ z
    walk_at "s"
    refine ask2 ⟨W, T, b, d, rfl, rfl, hT', hlW, okW, awW, O1.blk (s' := []) (.app (.app .all)), WDn.uni fun H2 W' T2 b2 O2 e1 e2 tp2 hT2 => ?_⟩
    have O3 := O1.callE (e := (oAns (semO W.abs d)).cel b2) (.app (.app .all)) O2
    have hT12 := O2.tp _ _ hT1
    clear O2
    rw [← ha] at O3 e1 tp2 hT2
    generalize hres : semO g.abs d = res at O3 tp2 hT2
    have hls1 : d.ls H2 (adr (cOp K g)) b1 := ls_on (ls_cel (O3.drop (List.sublist_append_right _ _)) hc) fun a z => by rw [adr_app]; exact List.mem_append_left _ z
    walk_at "s"
    refine ask2 ⟨g, T1, b1, d, rfl, rfl, hT12, hls1, ok, O3.blk (s' := []) (.app (.app .here)), ODn.uni fun H3 g' T3 b3 O4 e3 e4 tp3 hT3 => ?_⟩
    rw [hres] at O4 tp3 hT3
    have O5 := O3.callE (e := (oAns res).cel b3) (.app (.app .here)) O4
    have tp2 := tp_on tp2 O4
    have hT13 := O4.tp _ _ hT12
    have hst : ∀ l, oAns res = .list l → l.length ≤ 20000 := fun l e => ans_len ok (by rw [hres]; exact e)
    clear O3 O4 hls1 hlW
    generalize oAns res = r at O5 tp2 tp3 hT3 hT2 hst
    generalize oWord res = wd at hT3 hT2
    walk_at "s"
    refine cutS (fun σ' H4 => σ' = [some (.ref g.p), some (.ref W.D), some (.ref T), some (.ref T1), some (.str wd), some (r.v b2), some (.str wd), some (r.v b3)] ∧ Own H H4 (adr (cOp K g ++ cWo W)) (r.cel b3 ++ (r.cel b2 ++ (d.cel b1 ++ (cOp K g' ++ cWo W')))) ∧ H4 T1 = some (.tup (ODeed.vs b1 d)) ∧ r.tp H4 b3) (fun nx hx => ?_) ?_
    · walk_at "s"
      refine if_nss (fun z => absurd rfl z) (fun _ => ?_)
      walk_at "s"
      refine if_ss (fun z => ?_) (fun z => ?_)
      · walk_at "s"
        refine ask2 ⟨r, b3, b2, rfl, rfl, st_of tp3 fun l e => ⟨O5.get (by rw [e]; exact .head _), hst l e⟩, st_of tp2 fun l e => ⟨O5.get (List.mem_append_right _ (by rw [e]; exact .head _)), hst l e⟩, fun H4 O6 => ?_⟩
        walk_at "s"
        exact hx _ _ ⟨rfl, O5.callN O6, O6.tp _ _ hT13, tp_on tp3 O6⟩
      · exact hx _ _ ⟨rfl, O5, hT13, tp3⟩
    · clear O5 tp2 tp3 hT13
      rintro σ' H4 ⟨rfl, O5, hT14, tp3⟩
      have hT4 := O5.tp _ _ hT
      refine cutS (fun σ' H5 => σ' = [some (.ref g.p), some (.ref W.D), some (.ref T), some (.ref T1), some (.str wd), some (r.v b2), some (.str wd), some (r.v b3)] ∧ Own H H5 (adr (cOp K g ++ cWo W)) (r.cel b3 ++ (r.cel b2 ++ (cOp K g' ++ cWo W'))) ∧ r.tp H5 b3) (fun nx hx => ?_) ?_
      · cases d with
        | write n cs =>
          have hT5 : H4 T = some (.tup [.str "write", .int n, .ref b]) := hT4
          have hT6 : H4 T1 = some (.tup [.str "write", .int n, .ref b1]) := hT14
          have hb : H4 b = some (.lst (cs.map V.int)) := O5.fr _ _ hl.1 hl.2.1
          have hb1 : H4 b1 = some (.lst (cs.map V.int)) := O5.get (List.mem_append_right _ (List.mem_append_right _ (.head _)))
          have hll : (cs.map V.int).length < 100000 := by rw [List.length_map]; have := hl.2.2; omega
          have O6 := Box.mk O5
          clear O5 hl
          walk_at "clo"
          walk_at "s"
          refine ne_ints hb1 hb ⟨_, rfl, if_f (by rw [decide_eq_true rfl]; rfl) ?_⟩
          walk_at "s"
          have O7 := O6.out.wr (a := b1) (o' := .lst (cs.map V.int ++ [V.int 9])) (.app (.app .here))
          refine hx _ _ ⟨rfl, O7.drop ?_, tp_wr tp3 hb1⟩
          exact List.Sublist.append (List.Sublist.refl _) (List.Sublist.append (List.Sublist.refl _) (List.sublist_cons_self _ _))
        | pipe =>
          have hT5 : H4 T = some (.tup [.str "pipe"]) := hT4
          have O6 := Box.mk O5
          clear O5 hl
          walk_at "clo"
          walk_at "s"
          exact hx _ _ ⟨rfl, O6.out, tp3⟩
        | more n =>
          have hT5 : H4 T = some (.tup [.str "more", .int n]) := hT4
          have O6 := Box.mk O5
          clear O5 hl
          walk_at "clo"
          walk_at "s"
          exact hx _ _ ⟨rfl, O6.out, tp3⟩
        | less n =>
          have hT5 : H4 T = some (.tup [.str "less", .int n]) := hT4
          have O6 := Box.mk O5
          clear O5 hl
          walk_at "clo"
          walk_at "s"
          exact hx _ _ ⟨rfl, O6.out, tp3⟩
        | read n m =>
          have hT5 : H4 T = some (.tup [.str "read", .int n, .int m]) := hT4
          have O6 := Box.mk O5
          clear O5 hl
          walk_at "clo"
          walk_at "s"
          exact hx _ _ ⟨rfl, O6.out, tp3⟩
        | count n =>
          have hT5 : H4 T = some (.tup [.str "count", .int n]) := hT4
          have O6 := Box.mk O5
          clear O5 hl
          walk_at "clo"
          walk_at "s"
          exact hx _ _ ⟨rfl, O6.out, tp3⟩
        | numbers =>
          have hT5 : H4 T = some (.tup [.str "numbers"]) := hT4
          have O6 := Box.mk O5
          clear O5 hl
          walk_at "clo"
          walk_at "s"
          exact hx _ _ ⟨rfl, O6.out, tp3⟩
      · rintro σ' H5 ⟨rfl, O6, tp3'⟩
        clear O1 O5 hl O
        refine cutS (fun σ' H6 => Own H H6 (adr (cOp K g ++ cWo W)) (cOp K g' ++ cWo W')) (fun nx hx => ?_) ?_
        · have O7 := O6.drop (cs' := r.cel b3 ++ (cOp K g' ++ cWo W')) (List.Sublist.append (List.Sublist.refl _) (List.sublist_append_right _ _))
          have O6 := Box.mk O7
          clear O7
          cases r with
          | list l =>
            have hb3 := O6.out.get (a := b3) (o := .lst (l.map V.int)) (.head _)
            have hll : (l.map V.int).length < 100000 := by rw [List.length_map]; have := hst l rfl; omega
            walk_at "clo"
            dsimp only [OAns.v]
            walk_at "s"
            exact hx _ _ ((O6.out.wr (a := b3) (o' := .lst (l.map V.int ++ [V.int 9])) .here).drop (List.sublist_cons_self _ _))
          | pair i j =>
            have hb3 : H5 b3 = some (.tup [.int i, .int j]) := tp3'
            walk_at "clo"
            dsimp only [OAns.v]
            walk_at "s"
            exact hx _ _ O6.out
          | none =>
            walk_at "clo"
            dsimp only [OAns.v]
            walk_at "s"
            exact hx _ _ O6.out
          | int i =>
            walk_at "clo"
            dsimp only [OAns.v]
            walk_at "s"
            exact hx _ _ O6.out
        · intro σ' H6 O7
          exact k _ g' W' O7 e4 e2 (e3.trans e1.symm) e3

/-! ## the files, shut off: made and never asked -/
def sp_PlainDir___init__ (K : PySem.W.Frag) : Sp := sp1 fun self H Q _ => ∃ p dx, self = .ref p ∧ Own H H [p] [(p, .ins (He.ga K "PlainDir") dx [])] ∧ ∀ H', Own H H' [p] [] → Q .non H'
def sp_PlainFiles___init__ (K : PySem.W.Frag) : Sp := sp2 fun self b H Q _ => ∃ p dx n, self = .ref p ∧ b = .int n ∧ Own H H [p] [(p, .ins (He.ga K "PlainFiles") dx [])] ∧ ∀ H', Own H H' [p] [] → Q .non H'
theorem sc_PlainDir___init__ : FnScope ["self"] ["self"] (defScope s_PlainDir___init__) := ⟨rfl, rfl, rfl, by decide +kernel, rfl, by decide +kernel, by decide +kernel⟩
theorem ok_PlainDir___init__ {P : Program} {w : World} {K : PySem.W.Frag} {mg : Str → Option Value} {base : Heap} (T : Txt K mg) : Cee P w K mg base 1 (He.fAd K ("PlainDir", some "__init__")) ["self"] (sp_PlainDir___init__ K) := by
  refine cee_of T.d_PlainDir___init__ sc_PlainDir___init__ (fun _ _ _ _ _ _ us hl => match us, hl with | [_], _ => rfl) (fun vs H Q E h => sp1_len h) (fun cdv A outer s H vs Q E hr h => ⟨_, (pss_one (ps_fld (pv 0) (pe_lst pa_nil) rfl)), ?_⟩)
  obtain ⟨v0, rfl, h⟩ := h
  dsimp only [cxOf, L2.start]
  obtain ⟨p, dx, rfl, O, k⟩ := h
  walk_at "s"
  intro wa hwa
  have O1 := (O.new (o := .lst []) hwa).perm (List.Perm.swap _ _ _)
  walk_at "s"
  exact k _ ((O1.wr .here).drop (List.nil_sublist _))
theorem sc_PlainFiles___init__ : FnScope ["self", "blocks"] ["self", "blocks"] (defScope s_PlainFiles___init__) := ⟨rfl, rfl, rfl, by decide +kernel, rfl, by decide +kernel, by decide +kernel⟩
theorem ok_PlainFiles___init__ {P : Program} {w : World} {K : PySem.W.Frag} {mg : Str → Option Value} {base : Heap} (T : Txt K mg) : Cee P w K mg base 3 (He.fAd K ("PlainFiles", some "__init__")) ["self", "blocks"] (sp_PlainFiles___init__ K) := by
  have c_PlainDir___init__ : Cee P w K mg base 1 (He.fAd K ("PlainDir", some "__init__")) ["self"] (sp_PlainDir___init__ K) := ok_PlainDir___init__ T
  refine cee_of T.d_PlainFiles___init__ sc_PlainFiles___init__ (fun _ _ _ _ _ _ us hl => match us, hl with | [_, _], _ => rfl) (fun vs H Q E h => sp2_len h) (fun cdv A outer s H vs Q E hr h => ⟨_, (pss_cons (ps_fld (pv 0) (pv 1) rfl) (pss_one (ps_fld (pv 0) (pe_disp (pps_cons pe_int (pe_n0 T.m_PlainDir c_PlainDir___init__ (hr.mono (by decide)) (by rfl) T.g_PlainDir) pps_nil) (by rfl) (by rfl) (fun z => by cases z) (by decide)) rfl))), ?_⟩)
  obtain ⟨v0, v1, rfl, h⟩ := h
  dsimp only [cxOf, L2.start]
  obtain ⟨p, dx, n, rfl, rfl, O, k⟩ := h
  walk_at "s"
  dsimp only [sFld, tDisp]
  have O1 := O.wr (a := p) (o' := .ins (He.ga K "PlainFiles") dx [("blocks", .int n)]) .here
  generalize hg : upd H p _ = H1
  have O1 : Own H H1 [p] [(p, .ins (He.ga K "PlainFiles") dx [("blocks", .int n)])] := by rw [← hg]; exact O1
  clear hg
  have hp1 := O1.get (.head _)
  walk_at "s"
  intro N hN
  have O2 := O1.new (o := .dK []) hN
  generalize upd H1 N _ = H2 at O2 ⊢
  dsimp only [tPairs]
  walk_at "s"
  intro x dx2 h1 h2 hne
  have O3 := O2.inst (C := He.ga K "PlainDir") h1 h2 hne
  refine ask1 ⟨x, dx2, rfl, O3.blk (s' := []) .one, fun H4 O4 => ?_⟩
  have O5 := O3.call (s' := []) .one O4
  clear O1 O2 O3 O4 hp1 h1 h2 hN
  have hN5 := O5.get (a := N) (o := .dK []) (.head _)
  have hp5 := O5.get (a := p) (.tail _ (.head _))
  walk_at "s"
  refine ⟨(rfl : _ = List.map (fun kv : Key × V => (kV kv.1, kv.2)) [(Sum.inl 0, V.ref x)]), by show 1 ≤ 15; decide, ?_⟩
  generalize hg : upd H4 N _ = H6
  have O6 : Own H H6 [p] [(N, .dK [(Sum.inl 0, V.ref x)]), (p, .ins (He.ga K "PlainFiles") dx [("blocks", .int n)])] := by rw [← hg]; exact O5.wr .here
  clear hg O5 hN5 hp5
  have hp6 := O6.get (a := p) (.tail _ (.head _))
  walk_at "s"
  exact k _ ((O6.wr (.there .here)).drop (List.nil_sublist _))
def sp_law (K : PySem.W.Frag) : Sp := sp1 fun x H Q _ => ∃ (a : Addr) (xs : List Int), x = .ref a ∧ SqL K H a (xs.map V.int) ∧ xs.length ≤ 63 ∧ ∀ H', Q (.bl true) H'
theorem law_in {K : PySem.W.Frag} (H : Hp) (a : Addr) (ns : List Int) (hl : ns.length ≤ 63) (hz : ∀ z ∈ ns, Builtin.Int.intBits z ≤ 1048576) (hS : SqL K H a (ns.map V.int)) :
    ∃ (a' : Addr) (xs : List Int), V.ref a = .ref a' ∧ SqL K H a' (xs.map V.int) ∧ xs.length ≤ 63 ∧ ∀ H' : Hp, (fun (v : V) (_ : Hp) => v = .bl true) (.bl true) H' := ⟨a, ns, rfl, hS, hl, fun _ => rfl⟩
theorem Own.s1 {H0 H H' : Hp} {A : List Addr} {s : Addr} {o o' : HO} {R : Cells} (O : Own H0 H A ((s, o) :: R)) (C : Own H H' [s] [(s, o')]) : Own H0 H' A ((s, o') :: R) := O.call (show Sub ((s, o) :: R) [(s, o)] [(s, o')] ((s, o') :: R) from .one) C
theorem notin {p : Addr} {o : HO} {cs sub : Cells} (nd : (adr ((p, o) :: cs)).Nodup) (h : ∀ a ∈ adr sub, a ∈ adr cs) : p ∉ adr sub := fun z => (List.nodup_cons.mp nd).1 (h p z)

/-! ## all ends stand -/
structure GA (a : AO) (m : Nat) : Prop where
  ok : AOk a
  aw : AOw a
  len : a.ps.length = m
  ends : ∀ q < m, ∀ b : Bool, ∃ o, a.th.lookup (2 * (q : Int) + (if b = true then 1 else 2)) = some ⟨b, q, o⟩
  open_ : ∀ q < m, (apAt a q).2 = (true, true)
theorem GA.last {a : AO} {m : Nat} (h : GA a m) : a.last = 2 * m := by rw [h.aw.lst, h.len]
theorem GA.nil : GA ⟨0, [], []⟩ 0 :=
  ⟨⟨List.nodup_nil, List.Pairwise.nil, nofun, nofun, nofun, nofun, by decide, by decide⟩, ⟨nofun, rfl, nofun⟩, rfl, nofun, nofun⟩
theorem GA.pipe {a : AO} {m : Nat} (h : GA a m) (hm : m ≤ 100) : GA (semA a .pipe) (m + 1) ∧ ∀ q, (apAt (semA a .pipe) q).1 = (apAt a q).1 := by
  have hl := h.last
  have e : semO a .pipe = .ok (semA a .pipe, .pair ((a.last + 1 : Nat) : Int) ((a.last + 2 : Nat) : Int)) := rfl
  obtain ⟨k1, k2, _⟩ := semO_ok h.ok h.aw (by omega) e
  have hap : ∀ q, apAt (semA a .pipe) q = if q = m then ([], true, true) else apAt a q := fun q => by
    unfold apAt
    show (((a.ps ++ [([], true, true)])[q]?).getD _) = _
    by_cases hq : q < a.ps.length
    · rw [List.getElem?_append_left hq, if_neg (by have := h.len; omega)]
    · rw [List.getElem?_append_right (by omega)]
      by_cases e : q = m
      · rw [if_pos e, e, ← h.len, Nat.sub_self]
        rfl
      · have h1 := h.len
        rw [if_neg e, List.getElem?_eq_none (l := [_]) (by simp only [List.length_singleton]; omega), List.getElem?_eq_none (by omega)]
  have ap0 : (apAt a m).1 = [] := by
    unfold apAt
    rw [List.getElem?_eq_none (by have := h.len; omega)]
    rfl
  refine ⟨⟨k1, k2, ?_, fun q hq b => ?_, fun q hq => ?_⟩, fun q => ?_⟩
  · show (a.ps ++ [_]).length = _
    rw [List.length_append, h.len]
    rfl
  · have hmem : ∀ x, x ∈ (semA a .pipe).th → (semA a .pipe).th.lookup x.1 = some x.2 := fun x hx => lk_nd k1.nd hx
    by_cases e : q = m
    · subst e
      refine ⟨1, ?_⟩
      cases b with
      | true =>
        have := hmem (((a.last + 1 : Nat) : Int), ⟨true, a.ps.length, 1⟩) (List.mem_append_right _ (.head _))
        rw [h.len] at this
        rw [← this]
        congr 1
        rw [if_pos rfl]
        dsimp only
        omega
      | false =>
        have := hmem (((a.last + 2 : Nat) : Int), ⟨false, a.ps.length, 1⟩) (List.mem_append_right _ (.tail _ (.head _)))
        rw [h.len] at this
        rw [← this]
        congr 1
        rw [if_neg (by decide)]
        dsimp only
        omega
    · obtain ⟨o, ho⟩ := h.ends q (by omega) b
      exact ⟨o, hmem _ (List.mem_append_left _ (lk_mem ho))⟩
  · rw [hap]
    split
    · rfl
    · next e => exact h.open_ q (by omega)
  · rw [hap]
    split
    · next e => rw [e, ap0]
    · rfl
theorem GA.more {a : AO} {m : Nat} (h : GA a m) (hm : m ≤ 100) (n : Int) : GA (semA a (.more n)) m ∧ ∀ q, (apAt (semA a (.more n)) q).1 = (apAt a q).1 := by
  cases hz : a.th.lookup n with
  | none =>
    have e : semA a (.more n) = a := by simp only [semA, semO, hz]
    rw [e]
    exact ⟨h, fun _ => rfl⟩
  | some t =>
    have e : semA a (.more n) = setT a n { t with own := t.own + 1 } := by simp only [semA, semO, hz]
    rw [e]
    obtain ⟨k1, k2⟩ := setT_ok (t' := { t with own := t.own + 1 }) h.ok h.aw hz rfl rfl (by have := h.ok.own _ (lk_mem hz); dsimp only at this ⊢; omega)
    refine ⟨⟨k1, k2, h.len, fun q hq b => ?_, h.open_⟩, fun _ => rfl⟩
    obtain ⟨o, ho⟩ := h.ends q hq b
    generalize 2 * (q : Int) + (if b = true then 1 else 2) = k at ho ⊢
    show ∃ o, (setA a.th n _).lookup k = _
    rw [lk_setA]
    by_cases e2 : k = n
    · rw [if_pos e2]
      rw [e2, hz] at ho
      cases ho
      rw [hz, Option.map_some]
      exact ⟨_, rfl⟩
    · rw [if_neg e2]
      exact ⟨o, ho⟩
theorem GA.setP {a : AO} {m q : Nat} {ws : List Int} (h : GA a m) (hq : q < m) (hw : ws.length ≤ 16) : GA (setP a q (ws, (apAt a q).2)) m ∧ ∀ j, (apAt (setP a q (ws, (apAt a q).2)) j).1 = if j = q then ws else (apAt a j).1 := by
  have hq2 : q < a.ps.length := by rw [h.len]; exact hq
  obtain ⟨k1, k2⟩ := setP_ok (q := q) (y := (ws, (apAt a q).2)) h.ok h.aw hw rfl
  refine ⟨⟨k1, k2, ?_, h.ends, fun j hj => ?_⟩, fun j => ?_⟩
  · show (a.ps.set q _).length = m
    rw [List.length_set]
    exact h.len
  · rw [apAt_setP hq2]
    split
    · exact h.open_ q hq
    · exact h.open_ j hj
  · rw [apAt_setP hq2]
    split <;> rfl
/-- what a read tells -/
theorem GA.read {a : AO} {m q : Nat} (h : GA a m) (hq : q < m) {n : Int} (hn : 0 ≤ n) : semO a (.read (1 + 2 * (q : Int)) n) = if (decide (n > 0) && (apAt a q).1.isEmpty) = true then .error .again else .ok (Ow.setP a q ((apAt a q).1.drop n.toNat, (apAt a q).2), .list ((apAt a q).1.take n.toNat)) := by
  obtain ⟨o, ho⟩ := h.ends q hq true
  rw [if_pos rfl, show 2 * (q : Int) + 1 = 1 + 2 * (q : Int) by omega] at ho
  have h2 := h.open_ q hq
  simp only [semO, ho]
  rw [if_neg (by decide), if_neg (by omega), h2, Bool.and_true]
theorem GA.write {a : AO} {m q : Nat} (h : GA a m) (hq : q < m) {cs : List Int} : semO a (.write (2 + 2 * (q : Int)) cs) = if cs.length > 16 then .error .tooBig else if (apAt a q).1.length + cs.length > 16 then .error .again else .ok (Ow.setP a q ((apAt a q).1 ++ cs, (apAt a q).2), .int (cs.length : Nat)) := by
  obtain ⟨o, ho⟩ := h.ends q hq false
  rw [if_neg (by decide), show 2 * (q : Int) + 2 = 2 + 2 * (q : Int) by omega] at ho
  have h2 := h.open_ q hq
  simp only [semO, ho]
  rw [if_neg (by decide)]
  split
  · rfl
  rw [if_neg (by rw [h2]; decide)]
def RC (C Wn : Addr) (came went : List Pg) : Cells := (C, .lst (came.map fun x => V.ref x.1)) :: (Wn, .lst (went.map fun x => V.ref x.1)) :: (came.map pcel ++ went.map pcel)
structure LI (gp wD : Addr) (M j : Nat) (g : OpG) (W : WoG) (came went : List Pg) (i : Int) : Prop where
  gp : g.p = gp
  wd : W.D = wD
  ab : g.abs = W.abs
  ga : GA g.abs M
  cl : came.length = M
  wl : went.length = M
  fifo : ∀ q c w, came[q]? = some c → went[q]? = some w → c.2 = w.2 ++ (apAt g.abs q).1
  few : ∀ c ∈ came, c.2.length ≤ 20 * j
  i0 : 0 ≤ i
  i1 : i ≤ 2 + 5 * (j : Int)
theorem RC_went {C Wn : Addr} {came went : List Pg} {w : Pg} {q : Nat} (hw : went[q]? = some w) : pcel w ∈ RC C Wn came went := .tail _ (.tail _ (List.mem_append_right _ (List.mem_map.mpr ⟨w, List.mem_of_getElem? hw, rfl⟩)))
theorem RC_came {C Wn : Addr} {came went : List Pg} {w : Pg} {q : Nat} (hw : came[q]? = some w) : pcel w ∈ RC C Wn came went := .tail _ (.tail _ (List.mem_append_left _ (List.mem_map.mpr ⟨w, List.mem_of_getElem? hw, rfl⟩)))
theorem row_at {rs : List Pg} {j : Nat} {w : Pg} (h : rs[j]? = some w) : atI (rs.map fun x => V.ref x.1) (j : Int) = some (.ref w.1) := atI_nat (xs := rs.map fun x => V.ref x.1) (by rw [List.getElem?_map, h]; rfl)
theorem wentPut {H H1 : Hp} {C Wn L s : Addr} {o : HO} {came went : List Pg} {q : Nat} {w : Pg} {l' : List Int} {R : Cells} (O : Own H H1 [] ((s, o) :: (RC C Wn came went ++ R))) (hw : went[q]? = some w) (hL : H1 L = none) :
    Own H (upd (upd H1 L (.lst (l'.map V.int))) Wn (.lst ((went.map fun x => V.ref x.1).set q (.ref L)))) [] ((s, o) :: (RC C Wn came (went.set q (L, l')) ++ R)) := by
  have O1 := (O.new (o := .lst (l'.map V.int)) hL).wr (a := Wn) (o' := .lst ((went.map fun x => V.ref x.1).set q (.ref L))) (.there (.there (.appl (.there .here))))
  rw [show (went.map fun x => V.ref x.1).set q (.ref L) = (went.set q (L, l')).map fun x => V.ref x.1 from set_map (fun x : Pg => V.ref x.1) went q (L, l')] at O1 ⊢
  generalize upd _ Wn _ = H2 at O1 ⊢
  have O2 : Own H H2 [] ((L, .lst (l'.map V.int)) :: (((s, o) :: (C, .lst (came.map fun x => V.ref x.1)) :: (Wn, .lst ((went.set q (L, l')).map fun x => V.ref x.1)) :: (came.map pcel ++ R)) ++ went.map pcel)) := O1.perm (by (try unfold RC); walk_at "pm")
  refine (Own.put (g := pcel) (b := (L, l')) O2 hw).perm ?_
  unfold RC
  walk_at "pm"
theorem camePut {H H1 : Hp} {C Wn L s : Addr} {o : HO} {came went : List Pg} {q : Nat} {w : Pg} {l' : List Int} {R : Cells} (O : Own H H1 [] ((s, o) :: (RC C Wn came went ++ R))) (hw : came[q]? = some w) (hL : H1 L = none) :
    Own H (upd (upd H1 L (.lst (l'.map V.int))) C (.lst ((came.map fun x => V.ref x.1).set q (.ref L)))) [] ((s, o) :: (RC C Wn (came.set q (L, l')) went ++ R)) := by
  have O1 := (O.new (o := .lst (l'.map V.int)) hL).wr (a := C) (o' := .lst ((came.map fun x => V.ref x.1).set q (.ref L))) (.there (.there (.appl .here)))
  rw [show (came.map fun x => V.ref x.1).set q (.ref L) = (came.set q (L, l')).map fun x => V.ref x.1 from set_map (fun x : Pg => V.ref x.1) came q (L, l')] at O1 ⊢
  generalize upd _ C _ = H2 at O1 ⊢
  have O2 : Own H H2 [] ((L, .lst (l'.map V.int)) :: (((s, o) :: (C, .lst ((came.set q (L, l')).map fun x => V.ref x.1)) :: (Wn, .lst (went.map fun x => V.ref x.1)) :: (went.map pcel ++ R)) ++ came.map pcel)) := O1.perm (by (try unfold RC); walk_at "pm")
  refine (Own.put (g := pcel) (b := (L, l')) O2 hw).perm ?_
  unfold RC
  walk_at "pm"
theorem dpa_rows {K : PySem.W.Frag} {H : Hp} : ∀ {rs : List Pg}, (∀ r ∈ rs, H r.1 = some (.lst (r.2.map V.int))) → DpAll K H (rs.map fun x => V.ref x.1) (rs.map fun x => PyData.list (x.2.map PyData.int))
  | [], _ => .nil
  | r :: q, h => .cons (dp_ints (h r (.head _))) (dpa_rows fun x hx => h x (.tail _ hx))
theorem depth_rows : ∀ rs : List Pg, PyData.depthAll (rs.map fun x => PyData.list (x.2.map PyData.int)) ≤ 2
  | [] => by simp [PyData.depthAll]
  | r :: q => by
    have h1 := depth_rows q
    have h2 := depth_ints r.2
    simp only [List.map_cons, PyData.depthAll, PyData.depth]
    omega
theorem lay_rows : ∀ rs : List Pg, PyData.canLayAll0 (rs.map fun x => PyData.list (x.2.map PyData.int)) = true
  | [] => by simp [PyData.canLayAll0]
  | r :: q => by simp [PyData.canLayAll0, PyData.canLay0, lay_rows q, lay_ints r.2]
theorem eqvAll_rows : ∀ rs qs : List Pg, rs.map (·.2) = qs.map (·.2) → PyData.eqvAll (rs.map fun x => PyData.list (x.2.map PyData.int)) (qs.map fun x => PyData.list (x.2.map PyData.int)) = true
  | [], [], _ => rfl
  | [], _ :: _, h => by cases h
  | _ :: _, [], h => by cases h
  | r :: q, s :: u, h => by
    obtain ⟨h1, h2⟩ := List.cons.inj h
    have h1 : r.2 = s.2 := h1
    rw [List.map_cons, List.map_cons, PyData.eqvAll, eqvAll_rows q u h2, Bool.and_true, h1, eqv_ints]
    exact decide_eq_true rfl
theorem sh_rows (rs : List Pg) : SeqAt.shaped (.list (rs.map fun x => PyData.list (x.2.map PyData.int))) = true := by
  have h1 := depth_rows rs
  have h2 : PyData.depth (.list (rs.map fun x => PyData.list (x.2.map PyData.int))) ≤ 64 := by
    simp only [PyData.depth]
    omega
  show (PyData.canLay0 (.list (rs.map fun x => PyData.list (x.2.map PyData.int))) && decide _) = true
  rw [Bool.and_eq_true]
  exact ⟨by simp only [PyData.canLay0]; exact lay_rows rs, decide_eq_true h2⟩
theorem eq_rows {K : PySem.W.Frag} {H : Hp} {a b : Addr} {rs qs : List Pg} {Q : VK} (ha : H a = some (.lst (rs.map fun x => V.ref x.1))) (hb : H b = some (.lst (qs.map fun x => V.ref x.1))) (hr : ∀ r ∈ rs, H r.1 = some (.lst (r.2.map V.int))) (hq : ∀ r ∈ qs, H r.1 = some (.lst (r.2.map V.int))) (he : rs.map (·.2) = qs.map (·.2)) (k : Q (.bl true) H) : rEqD K (.ref a) (.ref b) H Q := by
  refine ⟨_, _, .lst (SqL.of ha) (dpa_rows hr), .lst (SqL.of hb) (dpa_rows hq), sh_rows rs, sh_rows qs, ?_⟩
  have e : PyData.eqv (.list (rs.map fun x => PyData.list (x.2.map PyData.int))) (.list (qs.map fun x => PyData.list (x.2.map PyData.int))) = true := eqvAll_rows rs qs he
  rw [e]
  exact k
theorem emptyRow {H H1 : Hp} {D r : Addr} {rows : List Pg} {cs : Cells} (O : Own H H1 [] ((D, .lst (rows.map fun x => V.ref x.1)) :: (rows.map pcel ++ cs))) (hr : H1 r = none) : Own H (upd (upd H1 r (.lst [])) D (.lst ((rows.map fun x => V.ref x.1) ++ [V.ref r]))) [] ((D, .lst ((rows ++ [(r, ([] : List Int))]).map fun x => V.ref x.1)) :: ((rows ++ [(r, ([] : List Int))]).map pcel ++ cs)) := by
  have O1 := (O.new (o := .lst []) hr).wr (a := D) (o' := .lst ((rows.map fun x => V.ref x.1) ++ [V.ref r])) (.there .here)
  rw [show (rows ++ [(r, ([] : List Int))]).map (fun x => V.ref x.1) = (rows.map fun x => V.ref x.1) ++ [V.ref r] by simp, show (rows ++ [(r, ([] : List Int))]).map pcel = rows.map pcel ++ [(r, .lst [])] by simp]
  exact O1.perm (by walk_at "pm")
theorem sc_law : FnScope ["_law_script", "_law_at", "_law_opens", "_law_world_here", "_law_many", "_law_k", "_law_came", "_law_went", "_law_which", "_law_how", "_law_size", "_law_cells_here", "_law_word_here", "_law_got", "_law_due_here", "_law_want", "_law_told_here"] ["_law_script"] (defScope s_law) := ⟨rfl, rfl, rfl, by decide +kernel, rfl, by decide +kernel, by decide +kernel⟩
theorem ok_law {P : Program} {w : World} {K : PySem.W.Frag} {mg : Str → Option Value} {base : Heap} (T : Txt K mg) {fd : FuncData} (F : FunD K "law" "law" (defArgs s_law) (defBody s_law) (defScope s_law) [] [] (He.fAd K ("law", none)) fd) : FnOk P w K mg base (L2N.CX P w) 8 (He.fAd K ("law", none)) fd ["_law_script"] (bx (sp_law K)) := by
  have c__law_begin : Cee P w K mg base 1 (He.fAd K ("_law_begin", none)) ["_law_script"] (sp__law_begin K) := ok__law_begin T
  have c_Opens___init__ : Cee P w K mg base 1 (He.fAd K ("Opens", some "__init__")) ["self", "files"] (sp_Opens___init__ K) := ok_Opens___init__ T
  have c_PlainFiles___init__ : Cee P w K mg base 3 (He.fAd K ("PlainFiles", some "__init__")) ["self", "blocks"] (sp_PlainFiles___init__ K) := ok_PlainFiles___init__ T
  have c__law_world : Cee P w K mg base 1 (He.fAd K ("_law_world", none)) ["_law_cells_here", "_law_dirs"] (sp__law_world K) := ok__law_world T
  have c__law_draw : Cee P w K mg base 1 (He.fAd K ("_law_draw", none)) ["_law_script", "_law_at", "_law_many"] (sp__law_draw K) := ok__law_draw T
  have c__law_right : Cee P w K mg base 7 (He.fAd K ("_law_right", none)) ["_law_opens", "_law_world_here", "_law_deed"] (sp__law_right K) := ok__law_right T
  have c__law_done : Cee P w K mg base 6 (He.fAd K ("_law_done", none)) ["_law_opens", "_law_deed"] (sp__law_done K) := ok__law_done T
  have c__law_due : Cee P w K mg base 3 (He.fAd K ("_law_due", none)) ["_law_world_here", "_law_deed"] (sp__law_due K) := ok__law_due T
  have c__law_same : Cee P w K mg base 3 (He.fAd K ("_law_same", none)) ["_law_found", "_law_due_here"] (sp__law_same K) := ok__law_same T
  have c__law_cells : Cee P w K mg base 2 (He.fAd K ("_law_cells", none)) ["_law_script", "_law_at", "_law_most"] (sp__law_cells K) := ok__law_cells T
  have c_Opens_read : Cee P w K mg base 3 (He.fAd K ("Opens", some "read")) ["self", "n", "many"] (sp_Opens_read K) := ok_Opens_read T
  refine fn_of F sc_law (fun vs H Q E h => sp1_len h) (fun cdv A outer s H vs Q E hr h => ⟨_, (pss_cons (ps_set (i := 1) sc_law.nd rfl (Or.inl rfl) (pe_f c__law_begin (hr.mono (by decide)) (L2N.takes_of rfl rfl rfl rfl) (by rfl) T.g__law_begin (pa_cons (pv 0) pa_nil))) (pss_cons (ps_set (i := 2) sc_law.nd rfl (Or.inl rfl) (pe_n T.m_Opens c_Opens___init__ (hr.mono (by decide)) (by rfl) T.g_Opens (pa_cons (pe_n T.m_PlainFiles c_PlainFiles___init__ (hr.mono (by decide)) (by rfl) T.g_PlainFiles (pa_cons pe_int pa_nil)) pa_nil))) (pss_cons (ps_set (i := 3) sc_law.nd rfl (Or.inl rfl) (pe_f c__law_world (hr.mono (by decide)) (L2N.takes_of rfl rfl rfl rfl) (by rfl) T.g__law_world (pa_cons pe_dnewK (pa_cons (pe_lst (pa_cons pe_int pa_nil)) pa_nil)))) (pss_cons (ps_set (i := 4) sc_law.nd rfl (Or.inl rfl) (pe_op op_add pe_int (pe_f c__law_draw (hr.mono (by decide)) (L2N.takes_of rfl rfl rfl rfl) (by rfl) T.g__law_draw (pa_cons (pv 0) (pa_cons (pv 1) (pa_cons pe_int pa_nil)))))) (pss_cons (ps_for (passes_of rfl) rfl (PI.box (pi_range1 (by rfl) T.n_range (pa_cons (pv 4) pa_nil))) (pg_name (i := 5) sc_law.nd rfl (Or.inl rfl)) (pss_one (ps_if (pt_not (pt_val (pe_f c__law_right (hr.mono (by decide)) (L2N.takes_of rfl rfl rfl rfl) (by rfl) T.g__law_right (pa_cons (pv 2) (pa_cons (pv 3) (pa_cons (pe_tup (pa_cons pe_str pa_nil)) pa_nil)))))) (pss_one (ps_ret pe_bl)) pss_nil))) (pss_cons (ps_setLc (i := 6) (own := [("_law_k", 5)]) (by rfl) sc_law.nd rfl rfl (sw_true rfl rfl rfl (by decide +kernel)) (PI.box (pi_range1 (by rfl) T.n_range (pa_cons (pv 4) pa_nil))) (blkOk_by (own := [("_law_k", 5)]) (N := ["_law_script", "_law_at", "_law_opens", "_law_world_here", "_law_many", "_law_k", "_law_came", "_law_went", "_law_which", "_law_how", "_law_size", "_law_cells_here", "_law_word_here", "_law_got", "_law_due_here", "_law_want", "_law_told_here"]) (sc := defScope s_law) (by decide +kernel)) (fun _ _ _ _ _ => (pg_name (i := 5) sc_law.nd rfl (Or.inl rfl))) (fun _ _ _ _ _ => pts_nil) (fun _ _ _ _ _ => (pe_lst pa_nil))) (pss_cons (ps_setLc (i := 7) (own := [("_law_k", 5)]) (by rfl) sc_law.nd rfl rfl (sw_true rfl rfl rfl (by decide +kernel)) (PI.box (pi_range1 (by rfl) T.n_range (pa_cons (pv 4) pa_nil))) (blkOk_by (own := [("_law_k", 5)]) (N := ["_law_script", "_law_at", "_law_opens", "_law_world_here", "_law_many", "_law_k", "_law_came", "_law_went", "_law_which", "_law_how", "_law_size", "_law_cells_here", "_law_word_here", "_law_got", "_law_due_here", "_law_want", "_law_told_here"]) (sc := defScope s_law) (by decide +kernel)) (fun _ _ _ _ _ => (pg_name (i := 5) sc_law.nd rfl (Or.inl rfl))) (fun _ _ _ _ _ => pts_nil) (fun _ _ _ _ _ => (pe_lst pa_nil))) (pss_cons (ps_for (passes_of rfl) rfl (PI.box (pi_range1 (by rfl) T.n_range (pa_cons (pe_op op_add pe_int (pe_f c__law_draw (hr.mono (by decide)) (L2N.takes_of rfl rfl rfl rfl) (by rfl) T.g__law_draw (pa_cons (pv 0) (pa_cons (pv 1) (pa_cons pe_int pa_nil))))) pa_nil))) (pg_name (i := 5) sc_law.nd rfl (Or.inl rfl)) (pss_cons (ps_set (i := 8) sc_law.nd rfl (Or.inl rfl) (pe_f c__law_draw (hr.mono (by decide)) (L2N.takes_of rfl rfl rfl rfl) (by rfl) T.g__law_draw (pa_cons (pv 0) (pa_cons (pv 1) (pa_cons (pv 4) pa_nil))))) (pss_cons (ps_set (i := 9) sc_law.nd rfl (Or.inl rfl) (pe_f c__law_draw (hr.mono (by decide)) (L2N.takes_of rfl rfl rfl rfl) (by rfl) T.g__law_draw (pa_cons (pv 0) (pa_cons (pv 1) (pa_cons pe_int pa_nil))))) (pss_one (ps_if (pt_cmpR op_eq (pv 9) pe_int (nomark _)) (pss_one (ps_if (pt_not (pt_val (pe_f c__law_right (hr.mono (by decide)) (L2N.takes_of rfl rfl rfl rfl) (by rfl) T.g__law_right (pa_cons (pv 2) (pa_cons (pv 3) (pa_cons (pe_tup (pa_cons pe_str (pa_cons (pe_op op_add (pe_op op_add pe_int (pe_op op_mul pe_int (pv 8))) (pe_f c__law_draw (hr.mono (by decide)) (L2N.takes_of rfl rfl rfl rfl) (by rfl) T.g__law_draw (pa_cons (pv 0) (pa_cons (pv 1) (pa_cons pe_int pa_nil))))) pa_nil))) pa_nil)))))) (pss_one (ps_ret pe_bl)) pss_nil)) (pss_one (ps_if (pt_cmpR op_lt (pv 9) pe_int (nomark _)) (pss_cons (ps_set (i := 10) sc_law.nd rfl (Or.inl rfl) (pe_f c__law_draw (hr.mono (by decide)) (L2N.takes_of rfl rfl rfl rfl) (by rfl) T.g__law_draw (pa_cons (pv 0) (pa_cons (pv 1) (pa_cons pe_int pa_nil))))) (pss_cons (ps_asg (pe_f c__law_done (hr.mono (by decide)) (L2N.takes_of rfl rfl rfl rfl) (by rfl) T.g__law_done (pa_cons (pv 2) (pa_cons (pe_tup (pa_cons pe_str (pa_cons (pe_op op_add pe_int (pe_op op_mul pe_int (pv 8))) (pa_cons (pv 10) pa_nil)))) pa_nil))) (pg_tup rfl (pgs_cons (pg_name (i := 12) sc_law.nd rfl (Or.inl rfl)) (pgs_cons (pg_name (i := 13) sc_law.nd rfl (Or.inl rfl)) pgs_nil)))) (pss_cons (ps_asg (pe_f c__law_due (hr.mono (by decide)) (L2N.takes_of rfl rfl rfl rfl) (by rfl) T.g__law_due (pa_cons (pv 3) (pa_cons (pe_tup (pa_cons pe_str (pa_cons (pe_op op_add pe_int (pe_op op_mul pe_int (pv 8))) (pa_cons (pv 10) pa_nil)))) pa_nil))) (pg_tup rfl (pgs_cons (pg_name (i := 14) sc_law.nd rfl (Or.inl rfl)) (pgs_cons (pg_name (i := 15) sc_law.nd rfl (Or.inl rfl)) pgs_nil)))) (pss_cons (PS.box (ps_if (PW.pt (pw_or (pt_cmpR op_ne (pv 12) (pv 14) (nomark _)) (pw_or1 (PW.pt (pw_and (pt_cmpR op_eq (pv 12) pe_str (nomark _)) (pw_and1 (pt_not (pt_val (pe_f c__law_same (hr.mono (by decide)) (L2N.takes_of rfl rfl rfl rfl) (by rfl) T.g__law_same (pa_cons (pv 13) (pa_cons (pv 15) pa_nil))))))))))) (pss_one (ps_ret pe_bl)) pss_nil)) (pss_one (ps_if (pt_cmpR op_eq (pv 12) pe_str (nomark _)) (pss_one (ps_asg (pe_op op_cat (pe_ix ix_list (pv 7) (pv 8) (fun _ _ => rfl)) (pv 13)) (pg_sub (pv 7) (pv 8) set_list))) pss_nil)))))) (pss_cons (ps_set (i := 11) sc_law.nd rfl (Or.inl rfl) (pe_f c__law_cells (hr.mono (by decide)) (L2N.takes_of rfl rfl rfl rfl) (by rfl) T.g__law_cells (pa_cons (pv 0) (pa_cons (pv 1) (pa_cons pe_int pa_nil))))) (pss_cons (ps_asg (pe_f c__law_done (hr.mono (by decide)) (L2N.takes_of rfl rfl rfl rfl) (by rfl) T.g__law_done (pa_cons (pv 2) (pa_cons (pe_tup (pa_cons pe_str (pa_cons (pe_op op_add pe_int (pe_op op_mul pe_int (pv 8))) (pa_cons (pe_callTy call_list_of (by rfl) T.n_list (by decide +kernel) (pa_cons (pv 11) pa_nil)) pa_nil)))) pa_nil))) (pg_tup rfl (pgs_cons (pg_name (i := 12) sc_law.nd rfl (Or.inl rfl)) (pgs_cons (pg_name (i := 16) sc_law.nd rfl (Or.inl rfl)) pgs_nil)))) (pss_cons (ps_asg (pe_f c__law_due (hr.mono (by decide)) (L2N.takes_of rfl rfl rfl rfl) (by rfl) T.g__law_due (pa_cons (pv 3) (pa_cons (pe_tup (pa_cons pe_str (pa_cons (pe_op op_add pe_int (pe_op op_mul pe_int (pv 8))) (pa_cons (pv 11) pa_nil)))) pa_nil))) (pg_tup rfl (pgs_cons (pg_name (i := 14) sc_law.nd rfl (Or.inl rfl)) (pgs_cons (pg_name (i := 15) sc_law.nd rfl (Or.inl rfl)) pgs_nil)))) (pss_cons (PS.box (ps_if (PW.pt (pw_or (pt_cmpR op_ne (pv 12) (pv 14) (nomark _)) (pw_or1 (PW.pt (pw_and (pt_cmpR op_eq (pv 12) pe_str (nomark _)) (pw_and1 (pt_not (pt_val (pe_f c__law_same (hr.mono (by decide)) (L2N.takes_of rfl rfl rfl rfl) (by rfl) T.g__law_same (pa_cons (pv 16) (pa_cons (pv 15) pa_nil))))))))))) (pss_one (ps_ret pe_bl)) pss_nil)) (pss_one (ps_if (pt_cmpR op_eq (pv 12) pe_str (nomark _)) (pss_one (ps_asg (pe_op op_cat (pe_ix ix_list (pv 6) (pv 8) (fun _ _ => rfl)) (pv 11)) (pg_sub (pv 6) (pv 8) set_list))) pss_nil))))))))))))) (pss_cons (ps_for (passes_of rfl) rfl (PI.box (pi_range1 (by rfl) T.n_range (pa_cons (pv 4) pa_nil))) (pg_name (i := 5) sc_law.nd rfl (Or.inl rfl)) (pss_one (ps_if (pt_cmpR (op_neD hr.units) (pe_ix ix_list (pv 7) (pv 5) (fun _ _ => rfl)) (pe_ix ix_list (pv 6) (pv 5) (fun _ _ => rfl)) (nomark _)) (pss_one (ps_asg (pe_op op_cat (pe_ix ix_list (pv 7) (pv 5) (fun _ _ => rfl)) (pe_m (pv 2) T.c_Opens T.m_Opens_read c_Opens_read (hr.mono (by decide)) (L2N.takes_of rfl rfl rfl rfl) (pa_cons (pe_op op_add pe_int (pe_op op_mul pe_int (pv 5))) (pa_cons pe_int pa_nil)))) (pg_sub (pv 7) (pv 5) set_list))) pss_nil))) (pss_one (ps_ret (pe_cmpR (op_eqD hr.units) (pv 7) (pv 6) (nomark _))))))))))))), ?_⟩)
  obtain ⟨v0, rfl, h⟩ := h
  dsimp only [cxOf, L2.start]
  obtain ⟨a, xs, rfl, ha, hl, k⟩ := h
  walk_at "s"
  refine ask1 ⟨a, xs, rfl, ha, fun H1 s f u O1 => ?_⟩
  walk_at "s"
  intro x1 dx1 h1 h2 hne1
  have O2 := O1.inst (C := He.ga K "PlainFiles") h1 h2 hne1
  refine ask2 ⟨x1, dx1, 3, rfl, rfl, O2.blk (s' := []) .one, fun H3 O3 => ?_⟩
  have O4 := O2.call (s' := []) .one O3
  clear O1 O2 O3 h1 h2
  walk_at "s"
  intro x2 dx2 h1 h2 hne2
  have O5 := O4.inst (C := He.ga K "Opens") h1 h2 hne2
  refine ask2 ⟨x2, dx2, rfl, O5.blk (s' := []) .one, fun H6 TD O6 => ?_⟩
  have O7 := O5.call .one O6
  generalize hg : (⟨x2, dx2, TD, .ref x1, 0, [], []⟩ : OpG) = g at O7
  have hgp : x2 = g.p := by rw [← hg]
  have hga : g.abs = ⟨0, [], []⟩ := by rw [← hg]; rfl
  subst hgp
  clear O4 O5 O6 h1 h2 hg
  walk_at "s"
  intro b1 hb1
  have O8 := O7.new (o := .dK []) hb1
  generalize upd H6 b1 _ = H8 at O8 ⊢
  clear O7
  walk_at "s"
  intro b2 hb2
  have O9 := (O8.new (o := .lst [.int 0]) hb2).perm (List.Perm.swap _ _ _)
  generalize upd H8 b2 _ = H9 at O9 ⊢
  clear O8
  walk_at "s"
  refine ask2 ⟨b1, b2, rfl, rfl, O9.blk (s' := []) .two, fun H10 D TD2 O10 => ?_⟩
  have O11 := O9.call .two O10
  generalize hg : (⟨D, TD2, b1, b2, 0, [], []⟩ : WoG) = W at O11
  have hwD : D = W.D := by rw [← hg]
  have hwa : W.abs = ⟨0, [], []⟩ := by rw [← hg]; rfl
  subst hwD
  clear O9 O10 hg
  have O12 : Own H H10 [] ((s, .lst [.int 0, .int f, .int u]) :: (cOp K g ++ cWo W)) := O11.perm (by walk_at "pm")
  clear O11
  have ha12 := O12.sq0 ha (.head _)
  walk_at "s"
  refine ask3 ⟨a, s, xs, 0, f, u, 3, rfl, rfl, rfl, ha12, hl, by decide, by decide, by decide, by decide, O12.blk (s' := []) .one, fun H13 f1 u1 m O13 m0 m1 => ?_⟩
  have O14 := O12.call .one O13
  clear O12 O13 ha12
  walk_at "s"
  generalize hgp : g.p = gp
  generalize hwp : W.D = wD
  refine forR (lo := 0) (n := (1 + m).toNat) (fun j σ H' => ∃ (v5 : Option V) (g' : OpG) (W' : WoG), σ = [some (.ref a), some (.ref s), some (.ref gp), some (.ref wD), some (.int (1 + m)), v5, none, none, none, none, none, none, none, none, none, none, none] ∧ Own H H' [] ((s, .lst [.int 1, .int f1, .int u1]) :: (cOp K g' ++ cWo W')) ∧ g'.p = gp ∧ W'.D = wD ∧ g'.abs = W'.abs ∧ GA g'.abs j ∧ ∀ q, (apAt g'.abs q).1 = []) ⟨none, g, W, by rw [← hgp, ← hwp]; rfl, O14, hgp, hwp, by rw [hga, hwa], by rw [hga]; exact GA.nil, by rw [hga]; exact fun _ => rfl⟩ ?_ ?_
  · clear O14
    rintro j σ H' hj ⟨v5, g', W', rfl, O, e1, e2, e3, G, z⟩
    have hjm : j ≤ 3 := by omega
    walk_at "s"
    intro T2 hT2
    have O1 := O.newT (o := .tup [V.str "pipe"]) hT2
    have hT3 : (upd H' T2 (.tup [V.str "pipe"])) T2 = some (.tup [V.str "pipe"]) := upd_same
    generalize upd H' T2 _ = H2 at O1 hT3 ⊢
    clear O
    have hgl : g'.last = 2 * j := G.last
    refine ask3 ⟨g', W', T2, 0, .pipe, by rw [e1], by rw [e2], rfl, hT3, True.intro, e3, G.ok, G.aw, by omega, O1.blk (s' := []) (.there .all), fun H3 g2 W2 O2 p1 p2 p3 p4 => ?_⟩
    have O3 := O1.call (.there .all) O2
    obtain ⟨G2, z2⟩ := G.pipe (by omega)
    walk_at "s"
    exact ⟨⟨_, g2, W2, rfl, O3, p1.trans e1, p2.trans e2, p3, by rw [p4]; exact G2, fun q => by rw [p4, z2]; exact z q⟩⟩
  · clear O14 hga hwa
    rintro σ H14 ⟨v5, g, W, rfl, O, hgp, hwp, hgw, G, z⟩
    obtain ⟨M, hMM⟩ : ∃ M : Nat, (1 + m).toNat = M := ⟨_, rfl⟩
    have hM : (M : Int) = 1 + m := by omega
    have hM3 : M ≤ 3 := by omega
    rw [hMM] at G
    walk_at "s"
    rw [hMM]
    refine lcR (lo := 0) (n := M) (fun D j H' => ∃ rows : List Pg, rows.length = j ∧ (∀ r ∈ rows, r.2 = []) ∧ Own H H' [] ((D, .lst (rows.map fun x => V.ref x.1)) :: (rows.map pcel ++ ((s, .lst [.int 1, .int f1, .int u1]) :: (cOp K g ++ cWo W))))) (fun D hD => ⟨[], rfl, nofun, O.new hD⟩) ?_ ?_
    · rintro D j H' hj ⟨rows, hrl, hre, O⟩
      walk_at "s"
      intro r hr
      refine ⟨_, (O.new hr).get (.tail _ (.head _)), sz_lt (by rw [List.length_map]; omega), ⟨rows ++ [(r, [])], by rw [List.length_append, hrl]; rfl, fun x hx => ?_, emptyRow O hr⟩⟩
      rcases List.mem_append.mp hx with h | h
      · exact hre x h
      · rw [List.mem_singleton.mp h]
    clear O
    rintro C H15 ⟨came, hcl, hce, O⟩
    walk_at "s"
    rw [hMM]
    refine lcR (lo := 0) (n := M) (fun D j H' => ∃ rows : List Pg, rows.length = j ∧ (∀ r ∈ rows, r.2 = []) ∧ Own H H' [] ((D, .lst (rows.map fun x => V.ref x.1)) :: (rows.map pcel ++ ((C, .lst (came.map fun x => V.ref x.1)) :: (came.map pcel ++ ((s, .lst [.int 1, .int f1, .int u1]) :: (cOp K g ++ cWo W))))))) (fun D hD => ⟨[], rfl, nofun, O.new hD⟩) ?_ ?_
    · rintro D j H' hj ⟨rows, hrl, hre, O⟩
      walk_at "s"
      intro r hr
      refine ⟨_, (O.new hr).get (.tail _ (.head _)), sz_lt (by rw [List.length_map]; omega), ⟨rows ++ [(r, [])], by rw [List.length_append, hrl]; rfl, fun x hx => ?_, emptyRow O hr⟩⟩
      rcases List.mem_append.mp hx with h | h
      · exact hre x h
      · rw [List.mem_singleton.mp h]
    clear O
    rintro Wn H16 ⟨went, hwl, hwe, O⟩
    have O20 : Own H H16 [] ((s, .lst [.int 1, .int f1, .int u1]) :: (RC C Wn came went ++ (cOp K g ++ cWo W))) := O.perm (by unfold RC; walk_at "pm")
    clear O
    have ha16 := O20.sq0 ha (.head _)
    walk_at "s"
    refine ask3 ⟨a, s, xs, 1, f1, u1, 41, rfl, rfl, rfl, ha16, hl, by decide, by decide, by decide, by decide, O20.blk (s' := []) .one, fun H17 f2 u2 n2 O17 n20 n21 => ?_⟩
    have O := O20.s1 O17
    clear O17 O20 ha16
    walk_at "s"
    refine forR (lo := 0) (n := (20 + n2).toNat) (fun j σ H' => ∃ (v5 v8 v9 v10 v11 v12 v13 v14 v15 v16 : Option V) (g : OpG) (W : WoG) (came went : List Pg) (i f u : Int), σ = [some (.ref a), some (.ref s), some (.ref gp), some (.ref wD), some (.int (1 + m)), v5, some (.ref C), some (.ref Wn), v8, v9, v10, v11, v12, v13, v14, v15, v16] ∧ Own H H' [] ((s, .lst [.int i, .int f, .int u]) :: (RC C Wn came went ++ (cOp K g ++ cWo W))) ∧ LI gp wD M j g W came went i) ⟨_, _, _, _, _, _, _, _, _, _, g, W, came, went, 1 + 1, f2, u2, rfl, O, ⟨hgp, hwp, hgw, G, hcl, hwl, fun q c w hc hw => ?_, fun c hc => ?_, by decide, by decide⟩⟩ ?_ ?_
    · rw [hce c (List.mem_of_getElem? hc), hwe w (List.mem_of_getElem? hw), z q]
      rfl
    · rw [hce c hc]; exact Nat.zero_le _
    · clear O hgp hwp hgw G z hcl hce hwl hwe
      clear g W came went
      rintro j σ H' hj ⟨v5, v8, v9, v10, v11, v12, v13, v14, v15, v16, g, W, came, went, i, f, u, rfl, O21, I⟩
      have hj60 : j ≤ 60 := by omega
      have i0 := I.i0
      have i1 := I.i1
      have hA := O21.sq0 ha (.head _)
      walk_at "s"
      refine ask3 ⟨a, s, xs, i, f, u, 1 + m, rfl, rfl, rfl, hA, hl, by omega, by omega, by omega, by omega, O21.blk (s' := []) .one, fun H18 f3 u3 w O18 w0 w1 => ?_⟩
      have O22 := O21.s1 O18
      clear O18 O21 hA
      have hA := O22.sq0 ha (.head _)
      walk_at "s"
      refine ask3 ⟨a, s, xs, i + 1, f3, u3, 9, rfl, rfl, rfl, hA, hl, by omega, by omega, by omega, by omega, O22.blk (s' := []) .one, fun H19 f4 u4 h O19 h0 h1 => ?_⟩
      have O := O22.s1 O19
      clear O19 O22 hA
      have hA := O.sq0 ha (.head _)
      obtain ⟨q, rfl⟩ : ∃ q : Nat, w = q := ⟨w.toNat, by omega⟩
      have hq : q < M := by omega
      have hgl : g.last = 2 * M := I.ga.last
      walk_at "s"
      refine if_ii (fun hh => ?_) (fun hh => ?_)
      · walk_at "s"
        refine ask3 ⟨a, s, xs, i + 1 + 1, f4, u4, 2, rfl, rfl, rfl, hA, hl, by omega, by omega, by omega, by omega, O.blk (s' := []) .one, fun H20 f5 u5 e O20 e0 e1 => ?_⟩
        have O1 := O.s1 O20
        clear O O20 hA
        walk_at "s"
        intro T2 hT2
        have O2 := O1.newT (o := .tup [V.str "more", V.int (1 + 2 * (q : Int) + e)]) hT2
        have hT3 : (upd H20 T2 (.tup [V.str "more", V.int (1 + 2 * (q : Int) + e)])) T2 = some (.tup [V.str "more", V.int (1 + 2 * (q : Int) + e)]) := upd_same
        generalize upd H20 T2 _ = H21 at O2 hT3 ⊢
        clear O1
        refine ask3 ⟨g, W, T2, 0, .more (1 + 2 * (q : Int) + e), by rw [I.gp], by rw [I.wd], rfl, hT3, True.intro, I.ab, I.ga.ok, I.ga.aw, by omega, O2.blk (s' := []) (.there (.app .all)), fun H22 g2 W2 O3 p1 p2 p3 p4 => ?_⟩
        have O4 := O2.call (.there (.app .all)) O3
        clear O2 O3
        obtain ⟨G2, z2⟩ := I.ga.more (by omega) (1 + 2 * (q : Int) + e)
        walk_at "s"
        exact ⟨⟨_, _, _, _, _, _, _, _, _, _, g2, W2, came, went, i + 1 + 1 + 1, f5, u5, rfl, O4, ⟨p1.trans I.gp, p2.trans I.wd, p3, by rw [p4]; exact G2, I.cl, I.wl, fun q c w hc hw => by rw [p4, z2]; exact I.fifo q c w hc hw, fun c hc => Nat.le_trans (I.few c hc) (by omega), by omega, by omega⟩⟩⟩
      walk_at "s"
      refine if_d (fun hh2 => ?_) (fun hh2 => ?_)
      · walk_at "s"
        refine ask3 ⟨a, s, xs, i + 1 + 1, f4, u4, 21, rfl, rfl, rfl, hA, hl, by omega, by omega, by omega, by omega, O.blk (s' := []) .one, fun H20 f5 u5 n O20 n0 n1 => ?_⟩
        have O1 := O.s1 O20
        clear O O20 hA
        walk_at "s"
        intro T2 hT2
        have O2 := O1.newT (o := .tup [V.str "read", V.int (1 + 2 * (q : Int)), V.int n]) hT2
        have hT3 : (upd H20 T2 (.tup [V.str "read", V.int (1 + 2 * (q : Int)), V.int n])) T2 = some (.tup [V.str "read", V.int (1 + 2 * (q : Int)), V.int n]) := upd_same
        generalize upd H20 T2 _ = H21 at O2 hT3 ⊢
        clear O1
        have okW : AOk W.abs := I.ab ▸ I.ga.ok
        have awW : AOw W.abs := I.ab ▸ I.ga.aw
        refine ask2 ⟨g, T2, 0, .read (1 + 2 * (q : Int)) n, by rw [I.gp], rfl, hT3, True.intro, I.ga.ok, O2.blk (s' := []) (.there (.app .here)), ODn.uni fun H22 g2 T4 b3 O3 e3 e4 tp3 hT4 => ?_⟩
        have O4 := O2.callE (e := (oAns (semO g.abs (.read (1 + 2 * (q : Int)) n))).cel b3) (.there (.app .here)) O3
        clear O2 O3 hT3
        walk_at "s"
        intro T5 hT5
        have O5 := O4.newT (o := .tup [V.str "read", V.int (1 + 2 * (q : Int)), V.int n]) hT5
        have hT6 : (upd H22 T5 (.tup [V.str "read", V.int (1 + 2 * (q : Int)), V.int n])) T5 = some (.tup [V.str "read", V.int (1 + 2 * (q : Int)), V.int n]) := upd_same
        have tp4 := tp_new (o := .tup [V.str "read", V.int (1 + 2 * (q : Int)), V.int n]) tp3 hT5
        generalize upd H22 T5 _ = H23 at O5 hT6 tp4 ⊢
        clear O4 tp3 hT5
        refine ask2 ⟨W, T5, 0, .read (1 + 2 * (q : Int)) n, by rw [I.wd], rfl, hT6, True.intro, okW, awW, O5.blk (s' := []) (.app (.there (.app (.app .all)))), WDn.uni fun H24 W2 T7 b2 O6 e5 e6 tp5 hT7 => ?_⟩
        have O7 := O5.callE (e := (oAns (semO W.abs (.read (1 + 2 * (q : Int)) n))).cel b2) (.app (.there (.app (.app .all)))) O6
        have tp4 := tp_on tp4 O6
        clear O5 O6 hT6
        rw [← I.ab] at O7 tp5 hT7 e5
        have hst : ∀ l, oAns (semO g.abs (.read (1 + 2 * (q : Int)) n)) = .list l → l.length ≤ 20000 := fun l e => ans_len I.ga.ok e
        have hrd := I.ga.read hq n0
        generalize hres : semO g.abs (.read (1 + 2 * (q : Int)) n) = res at O7 tp4 tp5 hT4 hT7 hst hrd
        walk_at "s"
        refine cutS (fun σ' H25 => σ' = [some (.ref a), some (.ref s), some (.ref gp), some (.ref wD), some (.int (1 + m)), some (.int (0 + (j : Int))), some (.ref C), some (.ref Wn), some (.int (q : Int)), some (.int h), some (.int n), v11, some (.str (oWord res)), some ((oAns res).v b3), some (.str (oWord res)), some ((oAns res).v b2), v16] ∧ Own H H25 [] ((oAns res).cel b3 ++ ((s, .lst [.int (i + 1 + 1 + 1), .int f5, .int u5]) :: (RC C Wn came went ++ (cOp K g2 ++ cWo W2))))) (fun nx hx => ?_) ?_
        · walk_at "s"
          refine if_nss (fun z => absurd rfl z) (fun _ => ?_)
          walk_at "s"
          refine if_ss (fun z => ?_) (fun z => ?_)
          · walk_at "s"
            refine ask2 ⟨oAns res, b3, b2, rfl, rfl, st_of tp4 fun l e => ⟨O7.get (List.mem_append_right _ (by rw [e]; exact .head _)), hst l e⟩, st_of tp5 fun l e => ⟨O7.get (by rw [e]; exact .head _), hst l e⟩, fun H26 O8 => ?_⟩
            walk_at "s"
            exact hx _ _ ⟨rfl, (O7.callN O8).drop (List.sublist_append_right _ _)⟩
          · exact hx _ _ ⟨rfl, O7.drop (List.sublist_append_right _ _)⟩
        · clear O7 tp4 tp5
          rintro σ' H25 ⟨rfl, O8⟩
          have hws := apAt_len I.ga.ok q
          split at hrd
          · subst hrd
            have hs : semA g.abs (.read (1 + 2 * (q : Int)) n) = g.abs := by unfold semA; rw [hres]
            rw [hs] at e3 e5
            walk_at "s"
            refine if_ss (fun z => absurd z (by decide +kernel)) (fun _ => ?_)
            exact ⟨⟨_, _, _, _, _, _, _, _, _, _, g2, W2, came, went, i + 1 + 1 + 1, f5, u5, rfl, O8, ⟨e4.trans I.gp, e6.trans I.wd, e3.trans e5.symm, by rw [e3]; exact I.ga, I.cl, I.wl, fun q c w hc hw => by rw [e3]; exact I.fifo q c w hc hw, fun c hc => Nat.le_trans (I.few c hc) (by omega), by omega, by omega⟩⟩⟩
          · subst hrd
            obtain ⟨w, hw⟩ : ∃ w, went[q]? = some w := ⟨_, List.getElem?_eq_getElem (by have := I.wl; omega)⟩
            obtain ⟨c, hc⟩ : ∃ c, came[q]? = some c := ⟨_, List.getElem?_eq_getElem (by have := I.cl; omega)⟩
            have hs : semA g.abs (.read (1 + 2 * (q : Int)) n) = setP g.abs q ((apAt g.abs q).1.drop n.toNat, (apAt g.abs q).2) := by unfold semA; rw [hres]
            rw [hs] at e3 e5
            obtain ⟨G2, z2⟩ := I.ga.setP (ws := (apAt g.abs q).1.drop n.toNat) hq (by rw [List.length_drop]; omega)
            have hfi := I.fifo q c w hc hw
            have hcf := I.few c (List.mem_of_getElem? hc)
            have hwf : w.2.length ≤ 20 * j := by rw [hfi, List.length_append] at hcf; omega
            have hwl := I.wl
            have hatw := row_at hw
            have hix : ixN (went.map fun x => V.ref x.1).length (q : Int) = some q := ix_at (by rw [List.length_map]; omega)
            have hw1 := O8.get (a := w.1) (o := .lst (w.2.map V.int)) (List.mem_append_right _ (.tail _ (List.mem_append_left _ (RC_went hw))))
            have hb3 := O8.get (a := b3) (o := .lst (((apAt g.abs q).1.take n.toNat).map V.int)) (List.mem_append_left _ (.head _))
            have hWn := O8.get (a := Wn) (o := .lst (went.map fun x => V.ref x.1)) (List.mem_append_right _ (.tail _ (List.mem_append_left _ (.tail _ (.head _)))))
            have hsz : (w.2.map V.int).length + (((apAt g.abs q).1.take n.toNat).map V.int).length ≤ sizeLine := sz_le (by rw [List.length_map, List.length_map, List.length_take]; omega)
            have O9 := Box.mk (O8.drop (List.sublist_append_right _ _))
            clear O8
            walk_at "clo"
            walk_at "s"
            intro L hL
            rw [← List.map_append]
            have hWn2 : (upd H25 L (.lst ((w.2 ++ (apAt g.abs q).1.take n.toNat).map V.int))) Wn = some (.lst (went.map fun x => V.ref x.1)) := by
              rw [upd_ne (fun z => by rw [← z, hWn] at hL; cases hL)]
              exact hWn
            have O10 := wentPut (l' := w.2 ++ (apAt g.abs q).1.take n.toNat) O9.out hw hL
            have O11 := Box.mk O10
            clear O10 O9 hWn hw1 hb3
            walk_at "clo"
            walk_at "s"
            refine ⟨⟨_, _, _, _, _, _, _, _, _, _, g2, W2, came, went.set q (L, w.2 ++ (apAt g.abs q).1.take n.toNat), i + 1 + 1 + 1, f5, u5, rfl, O11.out, ⟨e4.trans I.gp, e6.trans I.wd, e3.trans e5.symm, by rw [e3]; exact G2, I.cl, by rw [List.length_set]; exact I.wl, fun q2 c2 w2 hc2 hw2 => ?_, fun c hc => Nat.le_trans (I.few c hc) (by omega), by omega, by omega⟩⟩⟩
            rw [e3, z2]
            rw [List.getElem?_set] at hw2
            by_cases eq : q = q2
            · rw [if_pos eq, if_pos (by omega)] at hw2
              cases hw2
              subst eq
              rw [hc] at hc2
              cases hc2
              rw [if_pos rfl, hfi, List.append_assoc, List.take_append_drop]
            · rw [if_neg eq] at hw2
              rw [if_neg (fun z => eq z.symm)]
              exact I.fifo q2 c2 w2 hc2 hw2
      · walk_at "s"
        refine ask3 ⟨a, s, xs, i + 1 + 1, f4, u4, 17, rfl, rfl, rfl, hA, hl, by omega, by omega, by omega, by omega, O.blk (s' := []) .one, fun H20 f5 u5 l cs O20 hcs => ?_⟩
        have O1 : Own H H20 [] ((l, .lst (cs.map V.int)) :: (s, .lst [.int (i + 1 + 1 + 3), .int f5, .int u5]) :: (RC C Wn came went ++ (cOp K g ++ cWo W))) := O.call (show Sub ((s, _) :: (RC C Wn came went ++ (cOp K g ++ cWo W))) [(s, _)] [(l, .lst (cs.map V.int)), (s, .lst [.int (i + 1 + 1 + 3), .int f5, .int u5])] ((l, .lst (cs.map V.int)) :: (s, .lst [.int (i + 1 + 1 + 3), .int f5, .int u5]) :: (RC C Wn came went ++ (cOp K g ++ cWo W))) from .one) O20
        clear O O20 hA
        have hl20 := SqL.of (K := K) (O1.get (a := l) (o := .lst (cs.map V.int)) (.head _))
        walk_at "s"
        intro l2 hl2
        have O2 := O1.new (o := .lst (cs.map V.int)) hl2
        generalize upd H20 l2 _ = H21 at O2 ⊢
        clear O1 hl20
        walk_at "s"
        intro T2 hT2
        have O3 := O2.newT (o := .tup [V.str "write", V.int (2 + 2 * (q : Int)), V.ref l2]) hT2
        have hT3 : (upd H21 T2 (.tup [V.str "write", V.int (2 + 2 * (q : Int)), V.ref l2])) T2 = some (.tup [V.str "write", V.int (2 + 2 * (q : Int)), V.ref l2]) := upd_same
        generalize upd H21 T2 _ = H22 at O3 hT3 ⊢
        clear O2
        have okW : AOk W.abs := I.ab ▸ I.ga.ok
        have awW : AOw W.abs := I.ab ▸ I.ga.aw
        have hls2 : (ODeed.write (2 + 2 * (q : Int)) cs).ls H22 (adr (cOp K g)) l2 := ⟨O3.get (.head _), notin O3.nd fun a z => List.mem_cons_of_mem _ (List.mem_cons_of_mem _ (show a ∈ adr (RC C Wn came went ++ (cOp K g ++ cWo W)) by rw [adr_app, adr_app]; exact List.mem_append_right _ (List.mem_append_left _ z))), by omega⟩
        refine ask2 ⟨g, T2, l2, .write (2 + 2 * (q : Int)) cs, by rw [I.gp], rfl, hT3, hls2, I.ga.ok, O3.blk (s' := []) (.there (.there (.there (.app .here)))), ODn.uni fun H23 g2 T4 b3 O4 e3 e4 tp3 hT4 => ?_⟩
        have O5 := O3.callE (e := (oAns (semO g.abs (.write (2 + 2 * (q : Int)) cs))).cel b3) (.there (.there (.there (.app .here)))) O4
        clear O3 O4 hT3 hls2
        have O5 := O5.drop (cs' := (oAns (semO g.abs (.write (2 + 2 * (q : Int)) cs))).cel b3 ++ ((l, .lst (cs.map V.int)) :: (s, .lst [.int (i + 1 + 1 + 3), .int f5, .int u5]) :: (RC C Wn came went ++ (cOp K g2 ++ cWo W)))) (List.Sublist.append (List.Sublist.refl _) (List.sublist_cons_self _ _))
        walk_at "s"
        intro T5 hT5
        have O6 := O5.newT (o := .tup [V.str "write", V.int (2 + 2 * (q : Int)), V.ref l]) hT5
        have hT6 : (upd H23 T5 (.tup [V.str "write", V.int (2 + 2 * (q : Int)), V.ref l])) T5 = some (.tup [V.str "write", V.int (2 + 2 * (q : Int)), V.ref l]) := upd_same
        have tp4 := tp_new (o := .tup [V.str "write", V.int (2 + 2 * (q : Int)), V.ref l]) tp3 hT5
        generalize upd H23 T5 _ = H24 at O6 hT6 tp4 ⊢
        clear O5 tp3 hT5
        have O7 := O6.perm (cs' := (l, .lst (cs.map V.int)) :: ((oAns (semO g.abs (.write (2 + 2 * (q : Int)) cs))).cel b3 ++ ((s, .lst [.int (i + 1 + 1 + 3), .int f5, .int u5]) :: (RC C Wn came went ++ (cOp K g2 ++ cWo W))))) (by walk_at "pm")
        clear O6
        have hls1 : (ODeed.write (2 + 2 * (q : Int)) cs).ls H24 (adr (cWo W)) l := ⟨O7.get (.head _), notin O7.nd fun a z => (by rw [adr_app]; exact List.mem_append_right _ (List.mem_cons_of_mem _ (show a ∈ adr (RC C Wn came went ++ (cOp K g2 ++ cWo W)) by rw [adr_app, adr_app]; exact List.mem_append_right _ (List.mem_append_right _ z)))), by omega⟩
        refine ask2 ⟨W, T5, l, .write (2 + 2 * (q : Int)) cs, by rw [I.wd], rfl, hT6, hls1, okW, awW, O7.blk (s' := []) (.there (.app (.there (.app (.app .all))))), WDn.uni fun H25 W2 T7 b2 O8 e5 e6 tp5 hT7 => ?_⟩
        have O9 := O7.callE (e := (oAns (semO W.abs (.write (2 + 2 * (q : Int)) cs))).cel b2) (.there (.app (.there (.app (.app .all))))) O8
        have tp4 := tp_on tp4 O8
        clear O7 O8 hT6 hls1
        rw [← I.ab] at O9 tp5 hT7 e5
        have hst : ∀ l, oAns (semO g.abs (.write (2 + 2 * (q : Int)) cs)) = .list l → l.length ≤ 20000 := fun l e => ans_len I.ga.ok e
        have hrd := I.ga.write hq (cs := cs)
        generalize hres : semO g.abs (.write (2 + 2 * (q : Int)) cs) = res at O9 tp4 tp5 hT4 hT7 hst hrd
        walk_at "s"
        refine cutS (fun σ' H26 => σ' = [some (.ref a), some (.ref s), some (.ref gp), some (.ref wD), some (.int (1 + m)), some (.int (0 + (j : Int))), some (.ref C), some (.ref Wn), some (.int (q : Int)), some (.int h), v10, some (.ref l), some (.str (oWord res)), v13, some (.str (oWord res)), some ((oAns res).v b2), some ((oAns res).v b3)] ∧ Own H H26 [] ((l, .lst (cs.map V.int)) :: (s, .lst [.int (i + 1 + 1 + 3), .int f5, .int u5]) :: (RC C Wn came went ++ (cOp K g2 ++ cWo W2)))) (fun nx hx => ?_) ?_
        · have hsub : List.Sublist ((l, HO.lst (cs.map V.int)) :: (s, .lst [.int (i + 1 + 1 + 3), .int f5, .int u5]) :: (RC C Wn came went ++ (cOp K g2 ++ cWo W2))) ((oAns res).cel b2 ++ ((l, .lst (cs.map V.int)) :: ((oAns res).cel b3 ++ ((s, .lst [.int (i + 1 + 1 + 3), .int f5, .int u5]) :: (RC C Wn came went ++ (cOp K g2 ++ cWo W2)))))) :=
            (List.Sublist.cons₂ _ (List.sublist_append_right _ _)).trans (List.sublist_append_right _ _)
          walk_at "s"
          refine if_nss (fun z => absurd rfl z) (fun _ => ?_)
          walk_at "s"
          refine if_ss (fun z => ?_) (fun z => ?_)
          · walk_at "s"
            refine ask2 ⟨oAns res, b3, b2, rfl, rfl, st_of tp4 fun l e => ⟨O9.get (List.mem_append_right _ (.tail _ (by rw [e]; exact .head _))), hst l e⟩, st_of tp5 fun l e => ⟨O9.get (by rw [e]; exact .head _), hst l e⟩, fun H27 O10 => ?_⟩
            walk_at "s"
            exact hx _ _ ⟨rfl, (O9.callN O10).drop hsub⟩
          · exact hx _ _ ⟨rfl, O9.drop hsub⟩
        · clear O9 tp4 tp5
          rintro σ' H26 ⟨rfl, O8⟩
          have hws := apAt_len I.ga.ok q
          have bad : ∀ r, semO g.abs (.write (2 + 2 * (q : Int)) cs) = .error r → semA g.abs (.write (2 + 2 * (q : Int)) cs) = g.abs := fun r e => by unfold semA; rw [e]
          split at hrd
          · subst hrd
            rw [bad _ hres] at e3 e5
            walk_at "s"
            refine if_ss (fun z => absurd z (by decide +kernel)) (fun _ => ?_)
            exact ⟨⟨_, _, _, _, _, _, _, _, _, _, g2, W2, came, went, i + 1 + 1 + 3, f5, u5, rfl, O8.drop (List.sublist_cons_self _ _), ⟨e4.trans I.gp, e6.trans I.wd, e3.trans e5.symm, by rw [e3]; exact I.ga, I.cl, I.wl, fun q c w hc hw => by rw [e3]; exact I.fifo q c w hc hw, fun c hc => Nat.le_trans (I.few c hc) (by omega), by omega, by omega⟩⟩⟩
          split at hrd
          · subst hrd
            rw [bad _ hres] at e3 e5
            walk_at "s"
            refine if_ss (fun z => absurd z (by decide +kernel)) (fun _ => ?_)
            exact ⟨⟨_, _, _, _, _, _, _, _, _, _, g2, W2, came, went, i + 1 + 1 + 3, f5, u5, rfl, O8.drop (List.sublist_cons_self _ _), ⟨e4.trans I.gp, e6.trans I.wd, e3.trans e5.symm, by rw [e3]; exact I.ga, I.cl, I.wl, fun q c w hc hw => by rw [e3]; exact I.fifo q c w hc hw, fun c hc => Nat.le_trans (I.few c hc) (by omega), by omega, by omega⟩⟩⟩
          subst hrd
          obtain ⟨c, hc⟩ : ∃ c, came[q]? = some c := ⟨_, List.getElem?_eq_getElem (by have := I.cl; omega)⟩
          have hs : semA g.abs (.write (2 + 2 * (q : Int)) cs) = setP g.abs q ((apAt g.abs q).1 ++ cs, (apAt g.abs q).2) := by unfold semA; rw [hres]
          rw [hs] at e3 e5
          obtain ⟨G2, z2⟩ := I.ga.setP (ws := (apAt g.abs q).1 ++ cs) hq (by rw [List.length_append]; omega)
          have hcf := I.few c (List.mem_of_getElem? hc)
          have hcl := I.cl
          have hatc := row_at hc
          have hix : ixN (came.map fun x => V.ref x.1).length (q : Int) = some q := ix_at (by rw [List.length_map]; omega)
          have hc1 := O8.get (a := c.1) (o := .lst (c.2.map V.int)) (.tail _ (.tail _ (List.mem_append_left _ (RC_came hc))))
          have hl3 := O8.get (a := l) (o := .lst (cs.map V.int)) (.head _)
          have hC := O8.get (a := C) (o := .lst (came.map fun x => V.ref x.1)) (.tail _ (.tail _ (List.mem_append_left _ (.head _))))
          have hsz : (c.2.map V.int).length + (cs.map V.int).length ≤ sizeLine := sz_le (by rw [List.length_map, List.length_map]; omega)
          have O9 := Box.mk (O8.drop (List.sublist_cons_self _ _))
          clear O8
          walk_at "clo"
          walk_at "s"
          intro L hL
          rw [← List.map_append]
          have hC2 : (upd H26 L (.lst ((c.2 ++ cs).map V.int))) C = some (.lst (came.map fun x => V.ref x.1)) := by
            rw [upd_ne (fun z => by rw [← z, hC] at hL; cases hL)]
            exact hC
          have O10 := camePut (l' := c.2 ++ cs) O9.out hc hL
          have O11 := Box.mk O10
          clear O10 O9 hC hc1 hl3
          walk_at "clo"
          walk_at "s"
          refine ⟨⟨_, _, _, _, _, _, _, _, _, _, g2, W2, came.set q (L, c.2 ++ cs), went, i + 1 + 1 + 3, f5, u5, rfl, O11.out, ⟨e4.trans I.gp, e6.trans I.wd, e3.trans e5.symm, by rw [e3]; exact G2, by rw [List.length_set]; exact I.cl, I.wl, fun q2 c2 w2 hc2 hw2 => ?_, fun c2 hc2 => ?_, by omega, by omega⟩⟩⟩
          · rw [e3, z2]
            rw [List.getElem?_set] at hc2
            by_cases eq : q = q2
            · rw [if_pos eq, if_pos (by omega)] at hc2
              cases hc2
              subst eq
              rw [if_pos rfl, ← List.append_assoc, ← I.fifo q c w2 hc hw2]
            · rw [if_neg eq] at hc2
              rw [if_neg (fun z => eq z.symm)]
              exact I.fifo q2 c2 w2 hc2 hw2
          · rcases List.mem_or_eq_of_mem_set hc2 with h | h
            · exact Nat.le_trans (I.few c2 h) (by omega)
            · rw [h]
              show (c.2 ++ cs).length ≤ _
              rw [List.length_append]
              omega
    · clear O hgp hwp hgw G z hcl hce hwl hwe
      clear g W came went
      rintro σ H' ⟨v5, v8, v9, v10, v11, v12, v13, v14, v15, v16, g, W, came, went, i, f, u, rfl, O, I⟩
      walk_at "s"
      rw [hMM]
      have hlen : ∀ c ∈ came, c.2.length ≤ 2000 := fun c hc => Nat.le_trans (I.few c hc) (by omega)
      refine forR (lo := 0) (n := M) (fun j σ H' => ∃ (v5 : Option V) (g : OpG) (went : List Pg), σ = [some (.ref a), some (.ref s), some (.ref gp), some (.ref wD), some (.int (1 + m)), v5, some (.ref C), some (.ref Wn), v8, v9, v10, v11, v12, v13, v14, v15, v16] ∧ Own H H' [] ((s, .lst [.int i, .int f, .int u]) :: (RC C Wn came went ++ (cOp K g ++ cWo W))) ∧ g.p = gp ∧ GA g.abs M ∧ went.length = M ∧ (∀ q c w, came[q]? = some c → went[q]? = some w → c.2 = w.2 ++ (apAt g.abs q).1) ∧ ∀ q < j, (apAt g.abs q).1 = []) ⟨_, g, went, rfl, O, I.gp, I.ga, I.wl, I.fifo, fun q hq => absurd hq (Nat.not_lt_zero _)⟩ ?_ ?_
      · have hcl := I.cl
        clear O I
        rintro j σ H' hj ⟨v5, g, went, rfl, O, gp1, G, wl, fifo, z⟩
        obtain ⟨w, hw⟩ : ∃ w, went[j]? = some w := ⟨_, List.getElem?_eq_getElem (by omega)⟩
        obtain ⟨c, hc⟩ : ∃ c, came[j]? = some c := ⟨_, List.getElem?_eq_getElem (by omega)⟩
        have hatw : atI (went.map fun x => V.ref x.1) (0 + (j : Int)) = some (.ref w.1) := by rw [Int.zero_add]; exact row_at hw
        have hatc : atI (came.map fun x => V.ref x.1) (0 + (j : Int)) = some (.ref c.1) := by rw [Int.zero_add]; exact row_at hc
        have hcl2 := hlen c (List.mem_of_getElem? hc)
        have hf := fifo j c w hc hw
        have hw1 := O.get (a := w.1) (o := .lst (w.2.map V.int)) (.tail _ (List.mem_append_left _ (RC_went hw)))
        have hc1 := O.get (a := c.1) (o := .lst (c.2.map V.int)) (.tail _ (List.mem_append_left _ (RC_came hc)))
        walk_at "s"
        refine ne_ints hw1 hc1 ⟨_, rfl, ?_⟩
        refine if_nd (fun hne => ?_) (fun heq => ?_)
        · have hnz : (apAt g.abs j).1.isEmpty = false := by
            cases hx : (apAt g.abs j).1 with
            | nil => rw [hx, List.append_nil] at hf; exact absurd hf.symm hne
            | cons => rfl
          have hws := apAt_len G.ok j
          have hrd := G.read (q := j) (by omega) (n := 99) (by decide)
          rw [hnz, Bool.and_false, if_neg (by decide), List.drop_of_length_le (by show _ ≤ 99; omega), List.take_of_length_le (by show _ ≤ 99; omega)] at hrd
          have hopn : H' gp = some (insOp K g) := by rw [← gp1]; exact O.get (.tail _ (List.mem_append_right _ (List.mem_append_left _ (.head _))))
          walk_at "s"
          refine ask3 ⟨g, 1 + 2 * (j : Int), 99, by rw [gp1], by rw [Int.zero_add], rfl, G.ok, O.blk (s' := []) (.there (.app .here)), ?_⟩
          rw [hrd]
          intro H2 g2 b O1 e1 e2
          obtain ⟨G2, z2⟩ := G.setP (q := j) (ws := []) (by omega) (Nat.zero_le _)
          have O2 := O.callE (e := [(b, .lst ((apAt g.abs j).1.map V.int))]) (.there (.app .here)) O1
          clear O1 O hw1 hc1
          have hw1 := O2.get (a := w.1) (o := .lst (w.2.map V.int)) (.tail _ (.tail _ (List.mem_append_left _ (RC_went hw))))
          have hb := O2.get (a := b) (o := .lst ((apAt g.abs j).1.map V.int)) (.head _)
          have hWn := O2.get (a := Wn) (o := .lst (went.map fun x => V.ref x.1)) (.tail _ (.tail _ (List.mem_append_left _ (.tail _ (.head _)))))
          have hwf : w.2.length ≤ 2000 := by rw [hf, List.length_append] at hcl2; omega
          have hsz : (w.2.map V.int).length + ((apAt g.abs j).1.map V.int).length ≤ sizeLine := sz_le (by rw [List.length_map, List.length_map]; omega)
          have hix : ixN (went.map fun x => V.ref x.1).length (0 + (j : Int)) = some j := by rw [Int.zero_add]; exact ix_at (by rw [List.length_map]; omega)
          have O9 := Box.mk (O2.drop (List.sublist_cons_self _ _))
          clear O2
          walk_at "clo"
          walk_at "s"
          intro L hL
          rw [← List.map_append]
          have hWn2 : (upd H2 L (.lst ((w.2 ++ (apAt g.abs j).1).map V.int))) Wn = some (.lst (went.map fun x => V.ref x.1)) := by
            rw [upd_ne (fun z => by rw [← z, hWn] at hL; cases hL)]
            exact hWn
          have O10 := wentPut (l' := w.2 ++ (apAt g.abs j).1) O9.out hw hL
          have O11 := Box.mk O10
          clear O10 O9 hWn hw1 hb
          walk_at "clo"
          walk_at "s"
          refine ⟨⟨_, g2, went.set j (L, w.2 ++ (apAt g.abs j).1), rfl, O11.out, e2.trans gp1, by rw [e1]; exact G2, by rw [List.length_set]; exact wl, fun q2 c2 w2 hc2 hw2 => ?_, fun q2 hq2 => ?_⟩⟩
          · rw [e1, z2]
            rw [List.getElem?_set] at hw2
            by_cases eq : j = q2
            · rw [if_pos eq, if_pos (by omega)] at hw2
              cases hw2
              subst eq
              rw [hc] at hc2
              cases hc2
              rw [if_pos rfl, List.append_nil]
              exact hf
            · rw [if_neg eq] at hw2
              rw [if_neg (fun z => eq z.symm)]
              exact fifo q2 c2 w2 hc2 hw2
          · rw [e1, z2]
            split
            · rfl
            · exact z q2 (by omega)
        · refine ⟨⟨_, g, went, rfl, O, gp1, G, wl, fifo, fun q hq => ?_⟩⟩
          by_cases e : q = j
          · rw [e]
            rw [← heq] at hf
            exact List.append_cancel_left ((List.append_nil _).trans hf) |>.symm
          · exact z q (by omega)
      · have hcl := I.cl
        clear O I
        rintro σ H' ⟨v5, g, went, rfl, O, gp1, G, wl, fifo, z⟩
        walk_at "s"
        refine eq_rows (rs := went) (qs := came) (O.get (.tail _ (List.mem_append_left _ (.tail _ (.head _))))) (O.get (.tail _ (List.mem_append_left _ (.head _)))) (fun r hr => ?_) (fun r hr => ?_) ?_ (k _)
        · exact O.get (a := r.1) (o := .lst (r.2.map V.int)) (.tail _ (List.mem_append_left _ (.tail _ (.tail _ (List.mem_append_right _ (List.mem_map.mpr ⟨r, hr, rfl⟩))))))
        · exact O.get (a := r.1) (o := .lst (r.2.map V.int)) (.tail _ (List.mem_append_left _ (.tail _ (.tail _ (List.mem_append_left _ (List.mem_map.mpr ⟨r, hr, rfl⟩))))))
        · refine List.ext_getElem? fun q => ?_
          rw [List.getElem?_map, List.getElem?_map]
          by_cases hq : q < M
          · obtain ⟨w, hw⟩ : ∃ w, went[q]? = some w := ⟨_, List.getElem?_eq_getElem (by omega)⟩
            obtain ⟨c, hc⟩ : ∃ c, came[q]? = some c := ⟨_, List.getElem?_eq_getElem (by omega)⟩
            rw [hw, hc, Option.map_some, Option.map_some, fifo q c w hc hw, z q hq, List.append_nil]
          · rw [List.getElem?_eq_none (by omega), List.getElem?_eq_none (by omega)]

end Ow
open PySem PySem.W PySem.Calls PyProof.Rows
set_option maxHeartbeats 0
set_option maxRecDepth 100000 in
theorem PySem.Challenge.cw_ownroom_k53_pipes_first_in_first_out_holds : PySem.Challenge.rw_ownroom_k53_pipes_first_in_first_out.Holds := by
  w_on; o_law
  refine HandSHeadRun.head_any (r := OpenLaw.row PySem.Challenge.rw_ownroom_k53_pipes_first_in_first_out) (q := view (OpenLaw.row PySem.Challenge.rw_ownroom_k53_pipes_first_in_first_out).prog [75]) (H := Ow.hk) (ob := Ow.ob) (M := 60000) (loose := Ow.loose) (d := HandSHeadRun.topDef (OpenLaw.row PySem.Challenge.rw_ownroom_k53_pipes_first_in_first_out).prog 75) (kwd := []) Ow.ob_eq
    (by kernel_rfl) (fun s => by kernel_rfl) Ow.run (by kernel_rfl) (by kernel_rfl) (by kernel_rfl) (by rfl) (by first | assumption | decide +kernel) (by decide +kernel) ⟨rfl, rfl, rfl, rfl, rfl, by decide +kernel⟩ ?hw ?hc
  case hw => w_witness2
  case hc =>
    refine Ow.walk_end (l := PySem.Challenge.rw_ownroom_k53_pipes_first_in_first_out) (n := 63) (k := 8) (x := "_law_script") rfl (by decide) (by kernel_rfl) ⟨rfl, by decide, by decide⟩ ?F
    intro w mg fa h Y G hmg0
    obtain ⟨K, KX, c⟩ := Y
    have hmg : mg ("law" : PySem.Str) = some (.ref fa) := by
      have e : (HandSHeadRun.topDef (OpenLaw.row PySem.Challenge.rw_ownroom_k53_pipes_first_in_first_out).prog 75).name = ("law" : PySem.Str) := by kernel_rfl
      rw [← e]
      exact hmg0
    have T := Ow.txt_mk KX G c.t.d c.more
    have e := hmg.symm.trans T.g_law
    cases e
    obtain ⟨fd, F⟩ := T.d_law
    have b := L2.FunD.bindsA (ps := ["_law_script"]) F fun _ _ _ _ _ _ us hl => match us, hl with | [_], _ => rfl
    exact ⟨K, fd, Ow.bx (Ow.sp_law K), KX, fun s v => b s [v] rfl, fun H a ns hl hz hS => ⟨⟨_, rfl, Ow.law_in H a ns hl hz hS⟩⟩, fun base _ _ => Ow.ok_law T F⟩
