import PyProof.Rows.All
import Wide.All
import OpenK.AllK
import Wide.FinOn
import HandS.ForMost
import HandS.ForExc
import HandS.More
import HandS.SortInts
import HandS.Conv
import HandS.Defaults
import HandS.IsInst
import HandS.ExcValue
import HandS.ExcIs
import HandS.Flow
import HandS.Codes
import HandS.TupLen
import HandS.StrMore
import HandS.SetFor
import HandS.Style
import HandS.DictTup
import HandS.ListItems
import HandS.TupAny
import HandS.Finally
import HandS.Wide
import HandS.Replace
import HandS.Zip
import HandS.Walk
import HandS.DeepEq
import HandS.Deep
import HandS.Head0
import HandS.Head1
import HandS.Head2
import HandS.HeadEnd
import HandS.HeadHook1
import HandS.HeadHook2
import HandS.HeadHook3
import HandS.HeadHook4
import HandS.EndBits
import HandS.HotCalls
import HandS.ExcCtx
import HandS.Small
import HandS.Strs
import HandS.Sort
import PyProof.LongRange
import PySem.Challenge.RW_ownroom_k75_programs_read
set_option Elab.async false
set_option linter.all false
set_option maxRecDepth 100000
set_option pp.mvars false
set_option pp.deepTerms false
set_option pp.deepTerms.threshold 10
set_option pp.maxSteps 1500
set_option maxHeartbeats 4000000
namespace Ow
open PySem PySem.Spec PyProof.Rows L2
def excB (K : PySem.W.Frag) (D : Addr) : Bool := [PySem.W.findIn K (.ref D) "__getattribute__" == some (some (.builtin "BaseException.__getattribute__")), PySem.W.findIn K (.ref D) "__getattr__" == some none, PySem.W.subIn K (.ref D) (.type "BaseException") == some true, PySem.W.hasDictIn K D,
  PySem.W.findIn K (.ref D) "__class__" == some (some (.builtin "object.__class__")), PySem.W.specialIn K (.builtin "object.__class__") "__get__" == some (some (.builtin "getset_descriptor.__get__")), PySem.W.takesIn K (.builtin "object.__class__") == some true, PySem.W.mroIn K D (.type "object") == some true].all id
def top (i : Nat) : Stmt := PySem.Challenge.pw_ownroom_k75_programs_read.main.body.getD i (.Pass ⟨0, 0, 0, 0⟩)
abbrev s_BadRow___init__ : Stmt := inClass (top 2) 0
abbrev s_number_of : Stmt := top 9
abbrev s_number_below : Stmt := top 10
abbrev s_address_good : Stmt := top 11
abbrev s_argument_good : Stmt := top 12
abbrev s_call_parts : Stmt := top 13
abbrev s_call_good : Stmt := top 14
abbrev s_step_good : Stmt := top 15
abbrev s_read_program : Stmt := top 16
abbrev s__law_cell_at : Stmt := top 19
abbrev s__law_mix : Stmt := top 20
abbrev s__law_address : Stmt := top 22
abbrev s__law_argument : Stmt := top 23
abbrev s__law_call_by : Stmt := top 24
abbrev s__law_words_by : Stmt := top 25
abbrev s__law_program_by : Stmt := top 26
abbrev s__law_text_of : Stmt := top 27
abbrev s__law_steps : Stmt := top 28
abbrev s_law : Stmt := top 29
def fns0 : List He.DefD := [⟨("BadRow", some "__init__"), "__init__", "BadRow.__init__", defArgs (inClass (top 2) 0), defBody (inClass (top 2) 0), defScope (inClass (top 2) 0), [], []⟩, ⟨("number_of", none), "number_of", "number_of", defArgs (top 9), defBody (top 9), defScope (top 9), [], []⟩, ⟨("number_below", none), "number_below", "number_below", defArgs (top 10), defBody (top 10), defScope (top 10), [], []⟩, ⟨("address_good", none), "address_good", "address_good", defArgs (top 11), defBody (top 11), defScope (top 11), [], []⟩, ⟨("argument_good", none), "argument_good", "argument_good", defArgs (top 12), defBody (top 12), defScope (top 12), [], []⟩, ⟨("call_parts", none), "call_parts", "call_parts", defArgs (top 13), defBody (top 13), defScope (top 13), [], []⟩, ⟨("call_good", none), "call_good", "call_good", defArgs (top 14), defBody (top 14), defScope (top 14), [], []⟩, ⟨("step_good", none), "step_good", "step_good", defArgs (top 15), defBody (top 15), defScope (top 15), [], []⟩, ⟨("read_program", none), "read_program", "read_program", defArgs (top 16), defBody (top 16), defScope (top 16), [], []⟩, ⟨("_law_cell_at", none), "_law_cell_at", "_law_cell_at", defArgs (top 19), defBody (top 19), defScope (top 19), [], []⟩, ⟨("_law_mix", none), "_law_mix", "_law_mix", defArgs (top 20), defBody (top 20), defScope (top 20), [], []⟩, ⟨("_law_address", none), "_law_address", "_law_address", defArgs (top 22), defBody (top 22), defScope (top 22), [], []⟩, ⟨("_law_argument", none), "_law_argument", "_law_argument", defArgs (top 23), defBody (top 23), defScope (top 23), [], []⟩, ⟨("_law_call_by", none), "_law_call_by", "_law_call_by", defArgs (top 24), defBody (top 24), defScope (top 24), [], []⟩, ⟨("_law_words_by", none), "_law_words_by", "_law_words_by", defArgs (top 25), defBody (top 25), defScope (top 25), [], []⟩, ⟨("_law_program_by", none), "_law_program_by", "_law_program_by", defArgs (top 26), defBody (top 26), defScope (top 26), [], []⟩, ⟨("_law_text_of", none), "_law_text_of", "_law_text_of", defArgs (top 27), defBody (top 27), defScope (top 27), [], []⟩, ⟨("_law_steps", none), "_law_steps", "_law_steps", defArgs (top 28), defBody (top 28), defScope (top 28), [], []⟩, ⟨("law", none), "law", "law", defArgs (top 29), defBody (top 29), defScope (top 29), [], []⟩]
def fns : List He.DefD := fns0
def fa0 : List He.Fa := [.glo "BadRow", .str "FIGURES" "0123456789", .int "MOST_FIGURES" 3, .int "ADDRESSES" 512, .int "CELLS" 256, .glo "ARGUMENTS", .glo "number_of", .glo "number_below", .glo "address_good", .glo "argument_good", .glo "call_parts", .glo "call_good", .glo "step_good", .glo "read_program", .glo "_law_cell_at", .glo "_law_mix", .glo "_law_address", .glo "_law_argument", .glo "_law_call_by", .glo "_law_words_by", .glo "_law_program_by", .glo "_law_text_of", .glo "_law_steps", .glo "law"]
def fa1 : List He.Fa := [.free "int", .free "all", .free "enumerate", .free "str", .free "range", .free "len", .free "isinstance", .free "max", .free "list", .free "tuple"]
def fas : List He.Fa := fa0 ++ fa1
def exL0 (K : PySem.W.Frag) : List Bool := [He.valsB K (He.ga K "ARGUMENTS") [("map", .int 2), ("drop", .int 2), ("fork", .int 0), ("end", .int 1), ("wait", .int 0), ("who", .int 0), ("make", .int 1), ("dir", .int 1), ("link", .int 2), ("unlink", .int 1), ("undir", .int 1), ("move", .int 2), ("names", .int 1), ("stat", .int 1), ("open", .int 2), ("close", .int 1), ("same", .int 1), ("give", .int 2), ("pipe", .int 0), ("read", .int 3), ("write", .int 3), ("seek", .int 2), ("signal", .int 2), ("handle", .int 2), ("mask", .int 2), ("due", .int 0), ("time", .int 0), ("alarm", .int 1)]]
def exL (K : PySem.W.Frag) : List Bool := [(exL0 K).all id]
def exB (K : PySem.W.Frag) : Bool := (exL K).all id
def tbs : List He.Tab := [(fun K => He.ga K "ARGUMENTS", ["map", "drop", "fork", "end", "wait", "who", "make", "dir", "link", "unlink", "undir", "move", "names", "stat", "open", "close", "same", "give", "pipe", "read", "write", "seek", "signal", "handle", "mask", "due", "time", "alarm"])]
/-! ## a look along a given row of addresses -/
def obsL (as : List Addr) (fa : List He.Fa) (fn : List He.DefD) (ts : List He.Tab) (ex : PySem.W.Frag → Bool) (g : Addr → Option Obj) : He.AlX := (He.obsT fa fn ts (He.frT g as), ex (He.frT g as) && true)
theorem saysL_of {as : List Addr} {fa : List He.Fa} {fn : List He.DefD} {ts : List He.Tab} {ex : PySem.W.Frag → Bool} {w : World} {h : Heap} (e : obsL as fa fn ts ex h.get? = He.valX fn ts w) : He.SaysX fa fn ts [] ex w h (He.frT h.get? as) := by
  have e1 : He.obsT fa fn ts (He.frT h.get? as) = He.valT fn ts w := congrArg (fun z : He.AlX => z.1) e
  have e2 : (ex (He.frT h.get? as) && true) = true := congrArg (fun z : He.AlX => z.2) e
  rw [Bool.and_true] at e2
  exact ⟨e1, e2, nofun, nofun, nofun⟩
def hookL (as : List Addr) (fa : List He.Fa) (fn : List He.DefD) (ts : List He.Tab) (ex : PySem.W.Frag → Bool) : PySem.W.Hook where
  α := He.AlX
  obs := fun s => obsL as fa fn ts ex s.heap.get?
  val := fun w => He.valX fn ts w
  says := fun w h => ∃ K : PySem.W.Frag, K.In h ∧ He.SaysX fa fn ts [] ex w h K
  of := fun _ _ e => ⟨_, He.frT_in, saysL_of e⟩
  keeps := fun _ _ _ ⟨K, hK, c⟩ k => ⟨K, PySem.W.Frag.In.keeps hK k, ⟨c.t, c.more, c.hd, c.out, fun p hp => k _ _ (c.empty p hp)⟩⟩
theorem obsL_eq {as : List Addr} {fa : List He.Fa} {fn : List He.DefD} {ts : List He.Tab} {ex : PySem.W.Frag → Bool} {g : Addr → Option Obj} {s : Shared} (h : ∀ a, g a = s.heap.get? a) : obsL as fa fn ts ex g = (hookL as fa fn ts ex).obs s := by
  have e : g = s.heap.get? := funext h
  rw [e] <;> rfl
abbrev R : PySem.W.OpenRow := PySem.W.OpenLaw.row PySem.Challenge.rw_ownroom_k75_programs_read
/-! ## the run told by its states at some places of the top -/
open PySem.W PySem.Calls HandSHeadRun
noncomputable section
def zs (s : String) : PySem.Str := PySem.Str.ofString s
abbrev hh : Params → PySem.Str → Int := PySem.PyData.keyHash
def execsQ : List Stmt → Env → Sem Flow := PySem.W.Fast.tw12563942051412417395
theorem execsQ_eq : @PySem.execs = execsQ := PySem.W.Fast.te12563942051412417395
def okQ : Nat → Option Value → Thread → Bool := PySem.W.Fast.tw6613529449190102663
theorem okQ_eq : @PySem.W.stepOk = okQ := PySem.W.Fast.te6613529449190102663
def piecesQ (l : List Stmt) (env : Env) (c : Code) (p : Pos) (B : List Frame) : Thread := ⟨(execsQ l env).wrap doneF deadEnd id id, c, p, B⟩
theorem piecesQ_eq (l : List Stmt) (env : Env) (c : Code) (p : Pos) (B : List Frame) : piecesQ l env c p B = piecesOf l env c p B := by
  show (⟨(execsQ l env).wrap doneF deadEnd id id, c, p, B⟩ : Thread) = ⟨(execs l env).wrap doneF deadEnd id id, c, p, B⟩
  rw [execsQ_eq]
section
variable (st : SharedT → Thread → Option (SharedT × Thread)) (n0 : Nat) (ann : Option Value)
/-- so many steps ahead of the end -/
def goP : Nat → SharedT → Thread → Option (SharedT × Thread)
  | 0, s, t => some (s, t)
  | m + 1, s, t => match through t with
    | true => none
    | false => match okQ n0 ann t with
      | false => none
      | true => match st s t with
        | some (s', t') => frS s' fun s' => goP m s' t'
        | none => none
/-- a row of statements, to its end -/
def endQ (t : Thread) : Option Flow := match t with
  | ⟨cur, _, _, st⟩ => match st with
    | [] => none
    | _ :: r => match r with
      | [] => match cur with
        | .pure (.done f) => some f
        | _ => none
      | _ :: _ => none
theorem endQ_eq (t : Thread) : endAt 1 t = endQ t := by
  obtain ⟨cur, c, p, st⟩ := t
  rcases st with _ | ⟨a, _ | ⟨b, r⟩⟩
  · rfl
  · cases cur with
    | pure f => cases f <;> rfl
    | _ => rfl
  · have h : ((a :: b :: r).length == 1) = false := rfl
    unfold endAt
    dsimp only
    rw [h]
    rfl
def goS : Nat → SharedT → Thread → Option (Flow × SharedT × Code × Pos)
  | 0, _, _ => none
  | m + 1, s, t => match endQ t with
    | some f => some (f, s, t.code, t.pos)
    | none => match okQ n0 ann t with
      | false => none
      | true => match st s t with
        | some (s', t') => frS s' fun s' => goS m s' t'
        | none => none
end
theorem goP_ok {tb : String → Option Builtin} {p : Program} {w : World} {n0 : Nat} {ann : Option Value} : ∀ {m : Nat} {s s' : SharedT} {t t' : Thread}, goP (stepT (denote tb) p w) n0 ann m s t = some (s', t') → topGo tb p w n0 ann m s.abs t = some (s'.abs, t')
  | 0, _, _, _, _, h => by cases h; rfl
  | m + 1, s, s', t, t', h => by
    unfold goP at h
    rw [← okQ_eq] at h
    unfold topGo
    cases ht : through t with
    | true => rw [ht] at h; cases h
    | false =>
      rw [ht] at h
      cases hk : stepOk n0 ann t with
      | false => rw [hk] at h; cases h
      | true =>
        rw [hk] at h
        cases hs : stepT (denote tb) p w s t with
        | none => rw [hs] at h; cases h
        | some r =>
          obtain ⟨s2, t2⟩ := r
          rw [hs] at h
          dsimp only at h ⊢
          rw [frS_eq] at h
          rw [stepT_spec hs]
          exact goP_ok h
theorem goS_ok {tb : String → Option Builtin} {p : Program} {w : World} {n0 : Nat} {ann : Option Value} : ∀ {m : Nat} {s s' : SharedT} {t : Thread} {f : Flow} {c : Code} {q : Pos}, goS (stepT (denote tb) p w) n0 ann m s t = some (f, s', c, q) → segRun tb p w n0 ann 1 m s.abs t = some (f, s'.abs, c, q)
  | 0, _, _, _, _, _, _, h => by cases h
  | m + 1, s, s', t, f, c, q, h => by
    unfold goS at h
    rw [← okQ_eq] at h
    unfold segRun
    rw [endQ_eq]
    cases he : endQ t with
    | some x => rw [he] at h; cases h; rfl
    | none =>
      rw [he] at h
      cases hk : stepOk n0 ann t with
      | false => rw [hk] at h; cases h
      | true =>
        rw [hk] at h
        cases hs : stepT (denote tb) p w s t with
        | none => rw [hs] at h; cases h
        | some r =>
          obtain ⟨s2, t2⟩ := r
          rw [hs] at h
          dsimp only at h ⊢
          rw [frS_eq] at h
          rw [stepT_spec hs]
          exact goS_ok h
theorem goF_top {tb : String → Option Builtin} {p : Program} {w : World} {n0 : Nat} {ann : Option Value} {m : Nat} {s s' : SharedT} {t : Thread} (h : goF (stepT (denote tb) p w) n0 ann m s t = some s') : topRun tb p w n0 ann m s.abs t = some s'.abs := goF_ok h
theorem goP_tw {p : Program} {w : World} {n0 : Nat} {ann : Option Value} {m : Nat} {s s' : SharedT} {t t' : Thread} (h : goP (stepQ (denQ tabQ) p w) n0 ann m s t = some (s', t')) : topGo treeTable p w n0 ann m s.abs t = some (s'.abs, t') := by
  rw [← stepQ_eq, ← denQ_eq, ← tabQ_eq] at h
  exact goP_ok h
theorem goS_pc {p : Program} {w : World} {n0 : Nat} {ann : Option Value} {m : Nat} {s s' : SharedT} {l : List Stmt} {env : Env} {c0 : Code} {p0 : Pos} {B : List Frame} {f : Flow} {c : Code} {q : Pos} (h : goS (stepQ (denQ tabQ) p w) n0 ann m s (piecesQ l env c0 p0 B) = some (f, s', c, q)) : segRun treeTable p w n0 ann 1 m s.abs (piecesOf l env c0 p0 B) = some (f, s'.abs, c, q) := by
  rw [← stepQ_eq, ← denQ_eq, ← tabQ_eq, piecesQ_eq] at h
  exact goS_ok h
theorem goS_tw {p : Program} {w : World} {n0 : Nat} {ann : Option Value} {m : Nat} {s s' : SharedT} {t : Thread} {f : Flow} {c : Code} {q : Pos} (h : goS (stepQ (denQ tabQ) p w) n0 ann m s t = some (f, s', c, q)) : segRun treeTable p w n0 ann 1 m s.abs t = some (f, s'.abs, c, q) := by
  rw [← stepQ_eq, ← denQ_eq, ← tabQ_eq] at h
  exact goS_ok h
theorem goF_tw {p : Program} {w : World} {n0 : Nat} {ann : Option Value} {m : Nat} {s s' : SharedT} {t : Thread} (h : goF (stepQ (denQ tabQ) p w) n0 ann m s t = some s') : topRun treeTable p w n0 ann m s.abs t = some s'.abs := by
  rw [← stepQ_eq, ← denQ_eq, ← tabQ_eq] at h
  exact goF_ok h
/-- what a left top is, from the run to a state and the looks at it -/
theorem left_at {p q : Program} {loose : List PySem.Str} {Xt : Shared → Bool} {α : Type} {Yf : Shared → α} {Ya : World → α} {M N : Nat} {sF : World → OsState → SharedT}
    (e : opening p = plainProg p.main.scope.names) (hN : Nat.ble 600 N = true) (f : ∀ s, fenceModules? p s = some s) (le : Nat.ble M N = true)
    (run : ∀ (w : World) (os : OsState), topRun treeTable p w (boot_heap w.params).objs.size (bootAnn w) M ⟨boot_heap w.params, #[], boot_drawn, boot_toks, os⟩ (topStub p) = some (sF w os).abs)
    (l1 : ∀ (w : World) (os : OsState), looksF p (boot_heap w.params) (sF w os).abs = true)
    (l2 : ∀ (w : World) (os : OsState), seenQ q loose (importedModules p.main.body) Xt (sF w os).abs = openGood q loose)
    (l3 : ∀ (w : World) (os : OsState), Yf (sF w os).abs = Ya w) : LeftO p q loose Xt Yf Ya N true := fun w => by
  obtain ⟨⟨h, gs, d, k, os⟩, a, a'⟩ := Option.map_eq_some_iff.mp (boot_open e hN f w)
  obtain ⟨rfl, rfl, rfl, rfl⟩ : h = boot_heap w.params ∧ gs = Array.mk [] ∧ d = boot_drawn ∧ k = boot_toks := by simpa using a'
  have r := topRun_mono (N - M) _ _ _ _ (run w os)
  rw [show M + (N - M) = N by have := Nat.le_of_ble_eq_true le; omega] at r
  have z1 : (staticsOk (importedModules p.main.body) (boot_heap w.params) (sF w os).abs.heap && namesBound p (sF w os).abs.heap && gensDone (sF w os).abs && laidKept (boot_heap w.params) (sF w os).abs.heap) = true := l1 w os
  have t : topFrom treeTable p w N ⟨boot_heap w.params, Array.mk [], boot_drawn, boot_toks, os⟩ = some (sF w os).abs := by
    unfold topFrom
    dsimp only
    rw [boot_ns]
    show (topRun treeTable p w (boot_heap w.params).objs.size (bootAnn w) N ⟨boot_heap w.params, #[], boot_drawn, boot_toks, os⟩ (topStub p)).bind _ = _
    rw [r]
    show (match staticsOk (importedModules p.main.body) (boot_heap w.params) (sF w os).abs.heap && namesBound p (sF w os).abs.heap && gensDone (sF w os).abs && laidKept (boot_heap w.params) (sF w os).abs.heap with | true => some (sF w os).abs | false => none) = _
    rw [z1]
  unfold openEnds
  rw [a]
  show (topFrom treeTable p w N _).map _ = _
  rw [t]
  refine congrArg some (Prod.ext ?_ (l3 w os))
  rw [← l2 w os]
  exact seenQ_eq q loose (importedModules p.main.body) Xt _
/-- the same as the kit's head of any law, for a top told by its states -/
theorem head_at {r : OpenRow} {q : Program} {H : Hook} {M : Nat} {loose : List PySem.Str} {d : DefRec}
    {kwd : List (PySem.Str × PySem.Expr)} {sF : World → OsState → SharedT}
    (e : opening r.prog = plainProg r.prog.main.scope.names)
    (f : ∀ s, fenceModules? r.prog s = some s)
    (run : ∀ (w : World) (os : OsState), topRun treeTable r.prog w (boot_heap w.params).objs.size (bootAnn w) M ⟨boot_heap w.params, #[], boot_drawn, boot_toks, os⟩ (topStub r.prog) = some (sF w os).abs)
    (l1 : ∀ (w : World) (os : OsState), looksF r.prog (boot_heap w.params) (sF w os).abs = true)
    (l2 : ∀ (w : World) (os : OsState), seenQ q loose (importedModules r.prog.main.body) (fun s => xlAt q [] s && recOk r.toRowW.records s) (sF w os).abs = openGood q loose)
    (l3 : ∀ (w : World) (os : OsState), H.obs (sF w os).abs = H.val w)
    (hdef : defOf q r.name = some (d, kwd))
    (hp : r.prog.theDef r.name = some (d.params, d.body, d.scope))
    (hk : kwWritten? d.params.kwonlyargs d.params.kw_defaults = some kwd)
    (hwr : (!r.writes || r.records.isEmpty) = true)
    (k1 : r.wellSaid = true)
    (ok : (chainsOk q && opensWell r.prog && (frees r.toRowW && r.within.isEmpty)) = true)
    (hb : r.prog.bare)
    (hw : r.toRowW.promised)
    (call : WalkO q loose (XL q []) H.says r.toRowW d kwd fun f vs => PySem.call f vs) : r.Holds :=
  holds_open (N := M + 600) (Yf := H.obs) (Ya := H.val) (left_at (M := M) e (Nat.ble_eq_true_of_le (by omega)) f (Nat.ble_eq_true_of_le (by omega)) run l1 l2 l3) H.of H.keeps (fun s z => xl_of s (Bool.and_eq_true_iff.mp z).1) XL.keeps
    hdef hp hk (fun s z => recFacts_of (Bool.and_eq_true_iff.mp z).2) hwr k1 ok hb hw call
/-- what the look sees, along the row of addresses -/
def kAt (as : List Addr) (s : SharedT) : PySem.W.Frag := He.frT (getT s) as
theorem obL_of {as : List Addr} {fa : List He.Fa} {fn : List He.DefD} {ts : List He.Tab} {ex : PySem.W.Frag → Bool} {s : SharedT} {w : World}
    (h1 : (fa.all fun f => f.ok (kAt as s)) = true)
    (h2 : (fn.all fun d => d.ok (kAt as s), fn.map fun d => He.fnW (kAt as s) d.at_) = (true, fn.map He.DefD.val))
    (h3 : (ts.map fun t => He.dicW (kAt as s) (t.1 (kAt as s))) = ts.map fun t => some (He.keysIn w.params t.2))
    (h4 : ex (kAt as s) = true) : (hookL as fa fn ts ex).obs s.abs = (hookL as fa fn ts ex).val w := by
  have e : (hookL as fa fn ts ex).obs s.abs = obsL as fa fn ts ex (getT s) := (obsL_eq (getT_eq s)).symm
  rw [e]
  show (((((fa.all fun f => f.ok (kAt as s)) && fn.all fun d => d.ok (kAt as s)), fn.map fun d => He.fnW (kAt as s) d.at_), (ts.map fun t => He.dicW (kAt as s) (t.1 (kAt as s)))), ex (kAt as s) && true) = _
  have h5 : (fn.all fun d => d.ok (kAt as s)) = true := congrArg Prod.fst h2
  have h6 : (fn.map fun d => He.fnW (kAt as s) d.at_) = fn.map He.DefD.val := congrArg Prod.snd h2
  rw [h1, h3, h4, h5, h6]
  rfl
def trB (P : Params) : BT := (.node (boot_o_0 P) (.node (boot_o_1 P) (.node (boot_o_3 P) (.node (boot_o_7 P) .nil .nil) .nil) (.node (boot_o_5 P) (.node (boot_o_9 P) .nil .nil) .nil)) (.node (boot_o_2 P) (.node (boot_o_4 P) (.node (boot_o_8 P) .nil .nil) .nil) (.node (boot_o_6 P) (.node (boot_o_10 P) .nil .nil) .nil)))
def o0_11 (P : Params) : Obj := ⟨(.type "tuple"), none, (.seq (Array.mk []) 0), (Array.mk [])⟩
def o0_12 (P : Params) : Obj := ⟨.none, none, (.fields (Array.mk [])), (Array.mk [])⟩
def o0_13 (P : Params) : Obj := ⟨(.type "code"), none, (.fields (Array.mk ((.str (zs "<module>") 182) :: (.str (zs "<module>") 183) :: (.str (zs "/claim/cut.py") 184) :: (.int (1) 0) :: (.int (0) 0) :: (.int (0) 0) :: (.int (0) 0) :: (.int (0) 0) :: (.ref 11) :: (.bool false) :: (.int (181) 0) :: (.ref 12) :: .none :: .none :: .none :: .none :: (.int (185) 0) :: (.int (1) 0) :: (.str (zs "/claim/cut.py") 186) :: []))), (Array.mk [])⟩
def o0_14 (P : Params) : Obj := ⟨(.type "frame"), none, .plain, (Array.mk [(some (.ref 13)), (some (.ref 3)), (some (.ref 3)), none, (some (.str (zs "__main__") 164)), none, (some (.ref 0))])⟩
def tr0 (P : Params) : BT := (.node (boot_o_0 P) (.node (boot_o_1 P) (.node (boot_o_3 P) (.node (boot_o_7 P) .nil .nil) (.node (o0_11 P) .nil .nil)) (.node (boot_o_5 P) (.node (boot_o_9 P) .nil .nil) (.node (o0_13 P) .nil .nil))) (.node (boot_o_2 P) (.node (boot_o_4 P) (.node (boot_o_8 P) .nil .nil) (.node (o0_12 P) .nil .nil)) (.node (boot_o_6 P) (.node (boot_o_10 P) .nil .nil) (.node (o0_14 P) .nil .nil))))
def st0 (w : World) (os : OsState) : SharedT := ⟨tr0 w.params, 15, (boot_heap w.params).life, Array.mk [], ⟨0, 0, 0, 0⟩, 187, os⟩
def o1_3 (P : Params) : Obj := ⟨(.type "dict"), none, (.dict (Array.mk (⟨hh P (zs "__name__"), (.str (zs "__name__") 165), (.str (zs "ownroom.programs") 232)⟩ :: ⟨hh P (zs "__doc__"), (.str (zs "__doc__") 166), .none⟩ :: ⟨hh P (zs "__package__"), (.str (zs "__package__") 167), .none⟩ :: ⟨hh P (zs "__loader__"), (.str (zs "__loader__") 168), (.builtin "__main__.__loader__#opaque")⟩ :: ⟨hh P (zs "__spec__"), (.str (zs "__spec__") 169), .none⟩ :: ⟨hh P (zs "__annotations__"), (.str (zs "__annotations__") 170), (.ref 6)⟩ :: ⟨hh P (zs "__builtins__"), (.str (zs "__builtins__") 171), (.ref 4)⟩ :: ⟨hh P (zs "__file__"), (.str (zs "__file__") 173), (.str (zs "/claim/cut.py") 172)⟩ :: ⟨hh P (zs "__cached__"), (.str (zs "__cached__") 174), .none⟩ :: ⟨hh P (zs "KernelError"), (.str (zs "KernelError") 206), (.ref 24)⟩ :: ⟨hh P (zs "BadRow"), (.str (zs "BadRow") 231), (.ref 44)⟩ :: ⟨hh P (zs "FIGURES"), (.str (zs "FIGURES") 235), (.str (zs "0123456789") 234)⟩ :: ⟨hh P (zs "MOST_FIGURES"), (.str (zs "MOST_FIGURES") 237), (.int (3) 236)⟩ :: ⟨hh P (zs "ADDRESSES"), (.str (zs "ADDRESSES") 239), (.int (512) 238)⟩ :: ⟨hh P (zs "CELLS"), (.str (zs "CELLS") 241), (.int (256) 240)⟩ :: ⟨hh P (zs "ARGUMENTS"), (.str (zs "ARGUMENTS") 326), (.ref 47)⟩ :: ⟨hh P (zs "number_of"), (.str (zs "number_of") 333), (.ref 55)⟩ :: ⟨hh P (zs "number_below"), (.str (zs "number_below") 342), (.ref 62)⟩ :: ⟨hh P (zs "address_good"), (.str (zs "address_good") 349), (.ref 69)⟩ :: ⟨hh P (zs "argument_good"), (.str (zs "argument_good") 356), (.ref 76)⟩ :: ⟨hh P (zs "call_parts"), (.str (zs "call_parts") 363), (.ref 83)⟩ :: ⟨hh P (zs "call_good"), (.str (zs "call_good") 369), (.ref 88)⟩ :: [])) 22), (Array.mk [])⟩
def o1_12 (P : Params) : Obj := ⟨.none, none, (.fields (Array.mk ((.int (2) 0) :: (.int (0) 0) :: (.ref 20) :: (.int (4) 0) :: (.int (0) 0) :: (.ref 33) :: (.int (14) 0) :: (.int (0) 0) :: (.ref 54) :: (.int (20) 0) :: (.int (0) 0) :: (.ref 61) :: (.int (23) 0) :: (.int (0) 0) :: (.ref 68) :: (.int (25) 0) :: (.int (0) 0) :: (.ref 75) :: (.int (31) 0) :: (.int (0) 0) :: (.ref 82) :: (.int (35) 0) :: (.int (0) 0) :: (.ref 87) :: []))), (Array.mk [])⟩
def o1_15 (P : Params) : Obj := ⟨(.type "tuple"), none, (.seq (Array.mk [(.type "ValueError")]) 0), (Array.mk [])⟩
def o1_16 (P : Params) : Obj := ⟨(.type "builtin_function_or_method"), none, (.fields (Array.mk [(.builtin "type.__prepare__"), (.type "type")])), (Array.mk [])⟩
def o1_17 (P : Params) : Obj := ⟨(.type "dict"), none, (.dict (Array.mk [⟨hh P (zs "__module__"), (.str (zs "__module__") 196), (.str (zs "ownroom.errors") 187)⟩, ⟨hh P (zs "__qualname__"), (.str (zs "__qualname__") 198), (.str (zs "KernelError") 197)⟩, ⟨hh P (zs "__firstlineno__"), (.str (zs "__firstlineno__") 200), (.int (2) 199)⟩, ⟨hh P (zs "__static_attributes__"), (.str (zs "__static_attributes__") 201), (.ref 22)⟩]) 4), (Array.mk [])⟩
def o1_18 (P : Params) : Obj := ⟨(.type "tuple"), none, (.seq (Array.mk []) 0), (Array.mk [])⟩
def o1_19 (P : Params) : Obj := ⟨.none, none, (.fields (Array.mk [])), (Array.mk [])⟩
def o1_20 (P : Params) : Obj := ⟨(.type "code"), none, (.fields (Array.mk ((.str (zs "KernelError") 191) :: (.str (zs "KernelError") 192) :: (.str (zs "/claim/cut.py") 193) :: (.int (2) 0) :: (.int (0) 0) :: (.int (0) 0) :: (.int (0) 0) :: (.int (0) 0) :: (.ref 18) :: (.bool false) :: (.int (181) 0) :: (.ref 19) :: .none :: .none :: .none :: .none :: (.int (194) 0) :: (.int (2) 0) :: (.str (zs "/claim/cut.py") 195) :: []))), (Array.mk [])⟩
def o1_21 (P : Params) : Obj := ⟨(.type "frame"), none, .plain, (Array.mk [(some (.ref 20)), (some (.ref 3)), (some (.ref 17)), none, (some (.str (zs "ownroom.errors") 187)), none, (some (.ref 0))])⟩
def o1_22 (P : Params) : Obj := ⟨(.type "tuple"), none, (.seq (Array.mk []) 0), (Array.mk [])⟩
def o1_23 (P : Params) : Obj := ⟨(.type "dict"), none, (.dict (Array.mk [⟨hh P (zs "__module__"), (.str (zs "__module__") 196), (.str (zs "ownroom.errors") 187)⟩, ⟨hh P (zs "__firstlineno__"), (.str (zs "__firstlineno__") 200), (.int (2) 199)⟩, ⟨hh P (zs "__static_attributes__"), (.str (zs "__static_attributes__") 201), (.ref 22)⟩, ⟨hh P (zs "__weakref__"), (.str (zs "__weakref__") 203), (.ref 25)⟩, ⟨hh P (zs "__doc__"), (.str (zs "__doc__") 204), .none⟩]) 3), (Array.mk [])⟩
def o1_24 (P : Params) : Obj := ⟨(.type "type"), none, (.cls ⟨(zs "KernelError"), [(.type "ValueError")], [(.ref 24), (.type "ValueError"), (.type "Exception"), (.type "BaseException"), (.type "object")], 23, (zs "KernelError"), true, [], [(.ref 44)], false, none, false⟩), (Array.mk [(some (.ref 15)), none, (some (.str (zs "KernelError") 189)), (some (.str (zs "KernelError") 197)), (some (.builtin "ValueError.__new__")), (some (.bool true))])⟩
def o1_25 (P : Params) : Obj := ⟨(.type "getset_descriptor"), none, (.fields (Array.mk [(.str (zs "__weakref__") 202), (.ref 24), (.builtin "ExceptionGroup.__weakref__"), .none])), (Array.mk [])⟩
def o1_26 (P : Params) : Obj := ⟨(.type "super"), none, (.fields (Array.mk [(.ref 24), (.ref 24), (.ref 24)])), (Array.mk [])⟩
def o1_27 (P : Params) : Obj := ⟨(.type "builtin_function_or_method"), none, (.fields (Array.mk [(.builtin "object.__init_subclass__"), (.ref 24)])), (Array.mk [])⟩
def o1_28 (P : Params) : Obj := ⟨(.type "tuple"), none, (.seq (Array.mk [(.ref 24)]) 0), (Array.mk [])⟩
def o1_29 (P : Params) : Obj := ⟨(.type "builtin_function_or_method"), none, (.fields (Array.mk [(.builtin "type.__prepare__"), (.type "type")])), (Array.mk [])⟩
def o1_30 (P : Params) : Obj := ⟨(.type "dict"), none, (.dict (Array.mk [⟨hh P (zs "__module__"), (.str (zs "__module__") 214), (.str (zs "ownroom.errors") 187)⟩, ⟨hh P (zs "__qualname__"), (.str (zs "__qualname__") 216), (.str (zs "BadRow") 215)⟩, ⟨hh P (zs "__firstlineno__"), (.str (zs "__firstlineno__") 218), (.int (4) 217)⟩, ⟨hh P (zs "__init__"), (.str (zs "__init__") 226), (.ref 41)⟩, ⟨hh P (zs "__static_attributes__"), (.str (zs "__static_attributes__") 228), (.ref 42)⟩]) 5), (Array.mk [])⟩
def o1_31 (P : Params) : Obj := ⟨(.type "tuple"), none, (.seq (Array.mk []) 0), (Array.mk [])⟩
def o1_32 (P : Params) : Obj := ⟨.none, none, (.fields (Array.mk [(.int (6) 0), (.int (4) 0), (.ref 40)])), (Array.mk [])⟩
def o1_33 (P : Params) : Obj := ⟨(.type "code"), none, (.fields (Array.mk ((.str (zs "BadRow") 209) :: (.str (zs "BadRow") 210) :: (.str (zs "/claim/cut.py") 211) :: (.int (4) 0) :: (.int (0) 0) :: (.int (0) 0) :: (.int (0) 0) :: (.int (0) 0) :: (.ref 31) :: (.bool false) :: (.int (181) 0) :: (.ref 32) :: .none :: .none :: .none :: .none :: (.int (212) 0) :: (.int (4) 0) :: (.str (zs "/claim/cut.py") 213) :: []))), (Array.mk [])⟩
def o1_34 (P : Params) : Obj := ⟨(.type "frame"), none, .plain, (Array.mk [(some (.ref 33)), (some (.ref 3)), (some (.ref 30)), none, (some (.str (zs "ownroom.errors") 187)), none, (some (.ref 0))])⟩
def o1_35 (P : Params) : Obj := ⟨(.type "tuple"), none, (.seq (Array.mk []) 0), (Array.mk [])⟩
def o1_36 (P : Params) : Obj := ⟨.none, none, (.fields (Array.mk [])), (Array.mk [])⟩
def o1_37 (P : Params) : Obj := ⟨(.type "tuple"), none, (.seq (Array.mk [(.str (zs "self") 222), (.str (zs "row") 223)]) 0), (Array.mk [])⟩
def o1_38 (P : Params) : Obj := ⟨(.type "tuple"), none, (.seq (Array.mk []) 0), (Array.mk [])⟩
def o1_39 (P : Params) : Obj := ⟨.none, none, (.func ⟨(zs "__init__"), (zs "BadRow.__init__"), L2.defArgs (inClass (top 2) 0), .stmts (L2.defBody (inClass (top 2) 0)), L2.defScope (inClass (top 2) 0), 0, [], .none, .none, .none, .none, none, .none, .none, 0⟩), (Array.mk [])⟩
def o1_40 (P : Params) : Obj := ⟨(.type "code"), none, (.fields (Array.mk ((.str (zs "__init__") 219) :: (.str (zs "BadRow.__init__") 220) :: (.str (zs "/claim/cut.py") 221) :: (.int (6) 0) :: (.int (2) 0) :: (.int (0) 0) :: (.int (0) 0) :: (.int (3) 0) :: (.ref 35) :: (.bool true) :: (.int (181) 0) :: (.ref 36) :: .none :: (.ref 37) :: (.ref 38) :: (.ref 39) :: (.int (224) 0) :: (.int (6) 0) :: (.str (zs "/claim/cut.py") 225) :: []))), (Array.mk [])⟩
def o1_41 (P : Params) : Obj := ⟨(.type "function"), none, (.func ⟨(zs "__init__"), (zs "BadRow.__init__"), L2.defArgs (inClass (top 2) 0), .stmts (L2.defBody (inClass (top 2) 0)), L2.defScope (inClass (top 2) 0), 3, [], .none, .none, .none, (.str (zs "ownroom.errors") 187), none, (.ref 40), .none, 0⟩), (Array.mk [])⟩
def o1_42 (P : Params) : Obj := ⟨(.type "tuple"), none, (.seq (Array.mk [(.str (zs "row") 227)]) 0), (Array.mk [])⟩
def o1_43 (P : Params) : Obj := ⟨(.type "dict"), none, (.dict (Array.mk [⟨hh P (zs "__module__"), (.str (zs "__module__") 214), (.str (zs "ownroom.errors") 187)⟩, ⟨hh P (zs "__firstlineno__"), (.str (zs "__firstlineno__") 218), (.int (4) 217)⟩, ⟨hh P (zs "__init__"), (.str (zs "__init__") 226), (.ref 41)⟩, ⟨hh P (zs "__static_attributes__"), (.str (zs "__static_attributes__") 228), (.ref 42)⟩, ⟨hh P (zs "__doc__"), (.str (zs "__doc__") 229), .none⟩]) 2), (Array.mk [])⟩
def o1_44 (P : Params) : Obj := ⟨(.type "type"), none, (.cls ⟨(zs "BadRow"), [(.ref 24)], [(.ref 44), (.ref 24), (.type "ValueError"), (.type "Exception"), (.type "BaseException"), (.type "object")], 43, (zs "BadRow"), true, [], [], false, none, false⟩), (Array.mk [(some (.ref 28)), none, (some (.str (zs "BadRow") 207)), (some (.str (zs "BadRow") 215)), (some (.builtin "ValueError.__new__")), (some (.bool true))])⟩
def o1_45 (P : Params) : Obj := ⟨(.type "super"), none, (.fields (Array.mk [(.ref 44), (.ref 44), (.ref 44)])), (Array.mk [])⟩
def o1_46 (P : Params) : Obj := ⟨(.type "builtin_function_or_method"), none, (.fields (Array.mk [(.builtin "object.__init_subclass__"), (.ref 44)])), (Array.mk [])⟩
def o1_47 (P : Params) : Obj := ⟨(.type "dict"), none, (.dict (Array.mk (⟨hh P (zs "map"), (.str (zs "map") 242), (.int (2) 243)⟩ :: ⟨hh P (zs "drop"), (.str (zs "drop") 245), (.int (2) 246)⟩ :: ⟨hh P (zs "fork"), (.str (zs "fork") 248), (.int (0) 249)⟩ :: ⟨hh P (zs "end"), (.str (zs "end") 251), (.int (1) 252)⟩ :: ⟨hh P (zs "wait"), (.str (zs "wait") 254), (.int (0) 255)⟩ :: ⟨hh P (zs "who"), (.str (zs "who") 257), (.int (0) 258)⟩ :: ⟨hh P (zs "make"), (.str (zs "make") 260), (.int (1) 261)⟩ :: ⟨hh P (zs "dir"), (.str (zs "dir") 263), (.int (1) 264)⟩ :: ⟨hh P (zs "link"), (.str (zs "link") 266), (.int (2) 267)⟩ :: ⟨hh P (zs "unlink"), (.str (zs "unlink") 269), (.int (1) 270)⟩ :: ⟨hh P (zs "undir"), (.str (zs "undir") 272), (.int (1) 273)⟩ :: ⟨hh P (zs "move"), (.str (zs "move") 275), (.int (2) 276)⟩ :: ⟨hh P (zs "names"), (.str (zs "names") 278), (.int (1) 279)⟩ :: ⟨hh P (zs "stat"), (.str (zs "stat") 281), (.int (1) 282)⟩ :: ⟨hh P (zs "open"), (.str (zs "open") 284), (.int (2) 285)⟩ :: ⟨hh P (zs "close"), (.str (zs "close") 287), (.int (1) 288)⟩ :: ⟨hh P (zs "same"), (.str (zs "same") 290), (.int (1) 291)⟩ :: ⟨hh P (zs "give"), (.str (zs "give") 293), (.int (2) 294)⟩ :: ⟨hh P (zs "pipe"), (.str (zs "pipe") 295), (.int (0) 296)⟩ :: ⟨hh P (zs "read"), (.str (zs "read") 297), (.int (3) 298)⟩ :: ⟨hh P (zs "write"), (.str (zs "write") 299), (.int (3) 300)⟩ :: ⟨hh P (zs "seek"), (.str (zs "seek") 301), (.int (2) 302)⟩ :: ⟨hh P (zs "signal"), (.str (zs "signal") 303), (.int (2) 304)⟩ :: ⟨hh P (zs "handle"), (.str (zs "handle") 305), (.int (2) 306)⟩ :: ⟨hh P (zs "mask"), (.str (zs "mask") 307), (.int (2) 308)⟩ :: ⟨hh P (zs "due"), (.str (zs "due") 309), (.int (0) 310)⟩ :: ⟨hh P (zs "time"), (.str (zs "time") 311), (.int (0) 312)⟩ :: ⟨hh P (zs "alarm"), (.str (zs "alarm") 313), (.int (1) 314)⟩ :: [])) 28), (Array.mk [])⟩
def o1_48 (P : Params) : Obj := ⟨(.type "dict"), none, (.dict (Array.mk (⟨hh P (zs "give"), (.str (zs "give") 293), (.int (2) 294)⟩ :: ⟨hh P (zs "pipe"), (.str (zs "pipe") 295), (.int (0) 296)⟩ :: ⟨hh P (zs "read"), (.str (zs "read") 297), (.int (3) 298)⟩ :: ⟨hh P (zs "write"), (.str (zs "write") 299), (.int (3) 300)⟩ :: ⟨hh P (zs "seek"), (.str (zs "seek") 301), (.int (2) 302)⟩ :: ⟨hh P (zs "signal"), (.str (zs "signal") 303), (.int (2) 304)⟩ :: ⟨hh P (zs "handle"), (.str (zs "handle") 305), (.int (2) 306)⟩ :: ⟨hh P (zs "mask"), (.str (zs "mask") 307), (.int (2) 308)⟩ :: ⟨hh P (zs "due"), (.str (zs "due") 309), (.int (0) 310)⟩ :: ⟨hh P (zs "time"), (.str (zs "time") 311), (.int (0) 312)⟩ :: ⟨hh P (zs "alarm"), (.str (zs "alarm") 313), (.int (1) 314)⟩ :: [])) 11), (Array.mk [])⟩
def o1_49 (P : Params) : Obj := ⟨(.type "tuple"), none, (.seq (Array.mk []) 0), (Array.mk [])⟩
def o1_50 (P : Params) : Obj := ⟨.none, none, (.fields (Array.mk [])), (Array.mk [])⟩
def o1_51 (P : Params) : Obj := ⟨(.type "tuple"), none, (.seq (Array.mk [(.str (zs "word") 330)]) 0), (Array.mk [])⟩
def o1_52 (P : Params) : Obj := ⟨(.type "tuple"), none, (.seq (Array.mk []) 0), (Array.mk [])⟩
def o1_53 (P : Params) : Obj := ⟨.none, none, (.func ⟨(zs "number_of"), (zs "number_of"), L2.defArgs (top 9), .stmts (L2.defBody (top 9)), L2.defScope (top 9), 0, [], .none, .none, .none, .none, none, .none, .none, 0⟩), (Array.mk [])⟩
def o1_54 (P : Params) : Obj := ⟨(.type "code"), none, (.fields (Array.mk ((.str (zs "number_of") 327) :: (.str (zs "number_of") 328) :: (.str (zs "/claim/cut.py") 329) :: (.int (14) 0) :: (.int (1) 0) :: (.int (0) 0) :: (.int (0) 0) :: (.int (3) 0) :: (.ref 49) :: (.bool true) :: (.int (181) 0) :: (.ref 50) :: .none :: (.ref 51) :: (.ref 52) :: (.ref 53) :: (.int (331) 0) :: (.int (14) 0) :: (.str (zs "/claim/cut.py") 332) :: []))), (Array.mk [])⟩
def o1_55 (P : Params) : Obj := ⟨(.type "function"), none, (.func ⟨(zs "number_of"), (zs "number_of"), L2.defArgs (top 9), .stmts (L2.defBody (top 9)), L2.defScope (top 9), 3, [], .none, .none, .none, (.str (zs "ownroom.programs") 232), none, (.ref 54), .none, 0⟩), (Array.mk [])⟩
def o1_56 (P : Params) : Obj := ⟨(.type "tuple"), none, (.seq (Array.mk []) 0), (Array.mk [])⟩
def o1_57 (P : Params) : Obj := ⟨.none, none, (.fields (Array.mk [])), (Array.mk [])⟩
def o1_58 (P : Params) : Obj := ⟨(.type "tuple"), none, (.seq (Array.mk [(.str (zs "word") 337), (.str (zs "bound") 338), (.str (zs "number") 339)]) 0), (Array.mk [])⟩
def o1_59 (P : Params) : Obj := ⟨(.type "tuple"), none, (.seq (Array.mk []) 0), (Array.mk [])⟩
def o1_60 (P : Params) : Obj := ⟨.none, none, (.func ⟨(zs "number_below"), (zs "number_below"), L2.defArgs (top 10), .stmts (L2.defBody (top 10)), L2.defScope (top 10), 0, [], .none, .none, .none, .none, none, .none, .none, 0⟩), (Array.mk [])⟩
def o1_61 (P : Params) : Obj := ⟨(.type "code"), none, (.fields (Array.mk ((.str (zs "number_below") 334) :: (.str (zs "number_below") 335) :: (.str (zs "/claim/cut.py") 336) :: (.int (20) 0) :: (.int (2) 0) :: (.int (0) 0) :: (.int (0) 0) :: (.int (3) 0) :: (.ref 56) :: (.bool true) :: (.int (181) 0) :: (.ref 57) :: .none :: (.ref 58) :: (.ref 59) :: (.ref 60) :: (.int (340) 0) :: (.int (20) 0) :: (.str (zs "/claim/cut.py") 341) :: []))), (Array.mk [])⟩
def o1_62 (P : Params) : Obj := ⟨(.type "function"), none, (.func ⟨(zs "number_below"), (zs "number_below"), L2.defArgs (top 10), .stmts (L2.defBody (top 10)), L2.defScope (top 10), 3, [], .none, .none, .none, (.str (zs "ownroom.programs") 232), none, (.ref 61), .none, 0⟩), (Array.mk [])⟩
def o1_63 (P : Params) : Obj := ⟨(.type "tuple"), none, (.seq (Array.mk []) 0), (Array.mk [])⟩
def o1_64 (P : Params) : Obj := ⟨.none, none, (.fields (Array.mk [])), (Array.mk [])⟩
def o1_65 (P : Params) : Obj := ⟨(.type "tuple"), none, (.seq (Array.mk [(.str (zs "word") 346)]) 0), (Array.mk [])⟩
def o1_66 (P : Params) : Obj := ⟨(.type "tuple"), none, (.seq (Array.mk []) 0), (Array.mk [])⟩
def o1_67 (P : Params) : Obj := ⟨.none, none, (.func ⟨(zs "address_good"), (zs "address_good"), L2.defArgs (top 11), .stmts (L2.defBody (top 11)), L2.defScope (top 11), 0, [], .none, .none, .none, .none, none, .none, .none, 0⟩), (Array.mk [])⟩
def o1_68 (P : Params) : Obj := ⟨(.type "code"), none, (.fields (Array.mk ((.str (zs "address_good") 343) :: (.str (zs "address_good") 344) :: (.str (zs "/claim/cut.py") 345) :: (.int (23) 0) :: (.int (1) 0) :: (.int (0) 0) :: (.int (0) 0) :: (.int (3) 0) :: (.ref 63) :: (.bool true) :: (.int (181) 0) :: (.ref 64) :: .none :: (.ref 65) :: (.ref 66) :: (.ref 67) :: (.int (347) 0) :: (.int (23) 0) :: (.str (zs "/claim/cut.py") 348) :: []))), (Array.mk [])⟩
def o1_69 (P : Params) : Obj := ⟨(.type "function"), none, (.func ⟨(zs "address_good"), (zs "address_good"), L2.defArgs (top 11), .stmts (L2.defBody (top 11)), L2.defScope (top 11), 3, [], .none, .none, .none, (.str (zs "ownroom.programs") 232), none, (.ref 68), .none, 0⟩), (Array.mk [])⟩
def o1_70 (P : Params) : Obj := ⟨(.type "tuple"), none, (.seq (Array.mk []) 0), (Array.mk [])⟩
def o1_71 (P : Params) : Obj := ⟨.none, none, (.fields (Array.mk [])), (Array.mk [])⟩
def o1_72 (P : Params) : Obj := ⟨(.type "tuple"), none, (.seq (Array.mk [(.str (zs "word") 353)]) 0), (Array.mk [])⟩
def o1_73 (P : Params) : Obj := ⟨(.type "tuple"), none, (.seq (Array.mk []) 0), (Array.mk [])⟩
def o1_74 (P : Params) : Obj := ⟨.none, none, (.func ⟨(zs "argument_good"), (zs "argument_good"), L2.defArgs (top 12), .stmts (L2.defBody (top 12)), L2.defScope (top 12), 0, [], .none, .none, .none, .none, none, .none, .none, 0⟩), (Array.mk [])⟩
def o1_75 (P : Params) : Obj := ⟨(.type "code"), none, (.fields (Array.mk ((.str (zs "argument_good") 350) :: (.str (zs "argument_good") 351) :: (.str (zs "/claim/cut.py") 352) :: (.int (25) 0) :: (.int (1) 0) :: (.int (0) 0) :: (.int (0) 0) :: (.int (3) 0) :: (.ref 70) :: (.bool true) :: (.int (181) 0) :: (.ref 71) :: .none :: (.ref 72) :: (.ref 73) :: (.ref 74) :: (.int (354) 0) :: (.int (25) 0) :: (.str (zs "/claim/cut.py") 355) :: []))), (Array.mk [])⟩
def o1_76 (P : Params) : Obj := ⟨(.type "function"), none, (.func ⟨(zs "argument_good"), (zs "argument_good"), L2.defArgs (top 12), .stmts (L2.defBody (top 12)), L2.defScope (top 12), 3, [], .none, .none, .none, (.str (zs "ownroom.programs") 232), none, (.ref 75), .none, 0⟩), (Array.mk [])⟩
def o1_77 (P : Params) : Obj := ⟨(.type "tuple"), none, (.seq (Array.mk []) 0), (Array.mk [])⟩
def o1_78 (P : Params) : Obj := ⟨.none, none, (.fields (Array.mk [])), (Array.mk [])⟩
def o1_79 (P : Params) : Obj := ⟨(.type "tuple"), none, (.seq (Array.mk [(.str (zs "words") 360)]) 0), (Array.mk [])⟩
def o1_80 (P : Params) : Obj := ⟨(.type "tuple"), none, (.seq (Array.mk []) 0), (Array.mk [])⟩
def o1_81 (P : Params) : Obj := ⟨.none, none, (.func ⟨(zs "call_parts"), (zs "call_parts"), L2.defArgs (top 13), .stmts (L2.defBody (top 13)), L2.defScope (top 13), 0, [], .none, .none, .none, .none, none, .none, .none, 0⟩), (Array.mk [])⟩
def o1_82 (P : Params) : Obj := ⟨(.type "code"), none, (.fields (Array.mk ((.str (zs "call_parts") 357) :: (.str (zs "call_parts") 358) :: (.str (zs "/claim/cut.py") 359) :: (.int (31) 0) :: (.int (1) 0) :: (.int (0) 0) :: (.int (0) 0) :: (.int (3) 0) :: (.ref 77) :: (.bool true) :: (.int (181) 0) :: (.ref 78) :: .none :: (.ref 79) :: (.ref 80) :: (.ref 81) :: (.int (361) 0) :: (.int (31) 0) :: (.str (zs "/claim/cut.py") 362) :: []))), (Array.mk [])⟩
def o1_83 (P : Params) : Obj := ⟨(.type "function"), none, (.func ⟨(zs "call_parts"), (zs "call_parts"), L2.defArgs (top 13), .stmts (L2.defBody (top 13)), L2.defScope (top 13), 3, [], .none, .none, .none, (.str (zs "ownroom.programs") 232), none, (.ref 82), .none, 0⟩), (Array.mk [])⟩
def o1_84 (P : Params) : Obj := ⟨(.type "tuple"), none, (.seq (Array.mk []) 0), (Array.mk [])⟩
def o1_85 (P : Params) : Obj := ⟨.none, none, (.fields (Array.mk [])), (Array.mk [])⟩
def o1_86 (P : Params) : Obj := ⟨.none, none, (.func ⟨(zs "call_good"), (zs "call_good"), L2.defArgs (top 14), .stmts (L2.defBody (top 14)), L2.defScope (top 14), 0, [], .none, .none, .none, .none, none, .none, .none, 0⟩), (Array.mk [])⟩
def o1_87 (P : Params) : Obj := ⟨(.type "code"), none, (.fields (Array.mk ((.str (zs "call_good") 364) :: (.str (zs "call_good") 365) :: (.str (zs "/claim/cut.py") 366) :: (.int (35) 0) :: (.int (1) 0) :: (.int (0) 0) :: (.int (0) 0) :: (.int (3) 0) :: (.ref 84) :: (.bool true) :: (.int (181) 0) :: (.ref 85) :: .none :: .none :: .none :: (.ref 86) :: (.int (367) 0) :: (.int (35) 0) :: (.str (zs "/claim/cut.py") 368) :: []))), (Array.mk [])⟩
def o1_88 (P : Params) : Obj := ⟨(.type "function"), none, (.func ⟨(zs "call_good"), (zs "call_good"), L2.defArgs (top 14), .stmts (L2.defBody (top 14)), L2.defScope (top 14), 3, [], .none, .none, .none, (.str (zs "ownroom.programs") 232), none, (.ref 87), .none, 0⟩), (Array.mk [])⟩
def tr1 (P : Params) : BT := (.node (boot_o_0 P) (.node (boot_o_1 P) (.node (o1_3 P) (.node (boot_o_7 P) (.node (o1_15 P) (.node (o1_31 P) (.node (o1_63 P) .nil .nil) .nil) (.node (o1_47 P) (.node (o1_79 P) .nil .nil) .nil)) (.node (o1_23 P) (.node (o1_39 P) (.node (o1_71 P) .nil .nil) .nil) (.node (o1_55 P) (.node (o1_87 P) .nil .nil) .nil))) (.node (o0_11 P) (.node (o1_19 P) (.node (o1_35 P) (.node (o1_67 P) .nil .nil) .nil) (.node (o1_51 P) (.node (o1_83 P) .nil .nil) .nil)) (.node (o1_27 P) (.node (o1_43 P) (.node (o1_75 P) .nil .nil) .nil) (.node (o1_59 P) .nil .nil)))) (.node (boot_o_5 P) (.node (boot_o_9 P) (.node (o1_17 P) (.node (o1_33 P) (.node (o1_65 P) .nil .nil) .nil) (.node (o1_49 P) (.node (o1_81 P) .nil .nil) .nil)) (.node (o1_25 P) (.node (o1_41 P) (.node (o1_73 P) .nil .nil) .nil) (.node (o1_57 P) .nil .nil))) (.node (o0_13 P) (.node (o1_21 P) (.node (o1_37 P) (.node (o1_69 P) .nil .nil) .nil) (.node (o1_53 P) (.node (o1_85 P) .nil .nil) .nil)) (.node (o1_29 P) (.node (o1_45 P) (.node (o1_77 P) .nil .nil) .nil) (.node (o1_61 P) .nil .nil))))) (.node (boot_o_2 P) (.node (boot_o_4 P) (.node (boot_o_8 P) (.node (o1_16 P) (.node (o1_32 P) (.node (o1_64 P) .nil .nil) .nil) (.node (o1_48 P) (.node (o1_80 P) .nil .nil) .nil)) (.node (o1_24 P) (.node (o1_40 P) (.node (o1_72 P) .nil .nil) .nil) (.node (o1_56 P) (.node (o1_88 P) .nil .nil) .nil))) (.node (o1_12 P) (.node (o1_20 P) (.node (o1_36 P) (.node (o1_68 P) .nil .nil) .nil) (.node (o1_52 P) (.node (o1_84 P) .nil .nil) .nil)) (.node (o1_28 P) (.node (o1_44 P) (.node (o1_76 P) .nil .nil) .nil) (.node (o1_60 P) .nil .nil)))) (.node (boot_o_6 P) (.node (boot_o_10 P) (.node (o1_18 P) (.node (o1_34 P) (.node (o1_66 P) .nil .nil) .nil) (.node (o1_50 P) (.node (o1_82 P) .nil .nil) .nil)) (.node (o1_26 P) (.node (o1_42 P) (.node (o1_74 P) .nil .nil) .nil) (.node (o1_58 P) .nil .nil))) (.node (o0_14 P) (.node (o1_22 P) (.node (o1_38 P) (.node (o1_70 P) .nil .nil) .nil) (.node (o1_54 P) (.node (o1_86 P) .nil .nil) .nil)) (.node (o1_30 P) (.node (o1_46 P) (.node (o1_78 P) .nil .nil) .nil) (.node (o1_62 P) .nil .nil))))))
def st1 (w : World) (os : OsState) : SharedT := ⟨tr1 w.params, 89, (boot_heap w.params).life, Array.mk [], ⟨0, 0, 0, 0⟩, 370, os⟩
def o2_3 (P : Params) : Obj := ⟨(.type "dict"), none, (.dict (Array.mk (⟨hh P (zs "__name__"), (.str (zs "__name__") 165), (.str (zs "law_ownroom_k75_programs_read") 383)⟩ :: ⟨hh P (zs "__doc__"), (.str (zs "__doc__") 166), .none⟩ :: ⟨hh P (zs "__package__"), (.str (zs "__package__") 167), .none⟩ :: ⟨hh P (zs "__loader__"), (.str (zs "__loader__") 168), (.builtin "__main__.__loader__#opaque")⟩ :: ⟨hh P (zs "__spec__"), (.str (zs "__spec__") 169), .none⟩ :: ⟨hh P (zs "__annotations__"), (.str (zs "__annotations__") 170), (.ref 6)⟩ :: ⟨hh P (zs "__builtins__"), (.str (zs "__builtins__") 171), (.ref 4)⟩ :: ⟨hh P (zs "__file__"), (.str (zs "__file__") 173), (.str (zs "/claim/cut.py") 172)⟩ :: ⟨hh P (zs "__cached__"), (.str (zs "__cached__") 174), .none⟩ :: ⟨hh P (zs "KernelError"), (.str (zs "KernelError") 206), (.ref 24)⟩ :: ⟨hh P (zs "BadRow"), (.str (zs "BadRow") 231), (.ref 44)⟩ :: ⟨hh P (zs "FIGURES"), (.str (zs "FIGURES") 235), (.str (zs "0123456789") 234)⟩ :: ⟨hh P (zs "MOST_FIGURES"), (.str (zs "MOST_FIGURES") 237), (.int (3) 236)⟩ :: ⟨hh P (zs "ADDRESSES"), (.str (zs "ADDRESSES") 239), (.int (512) 238)⟩ :: ⟨hh P (zs "CELLS"), (.str (zs "CELLS") 241), (.int (256) 240)⟩ :: ⟨hh P (zs "ARGUMENTS"), (.str (zs "ARGUMENTS") 326), (.ref 47)⟩ :: ⟨hh P (zs "number_of"), (.str (zs "number_of") 333), (.ref 55)⟩ :: ⟨hh P (zs "number_below"), (.str (zs "number_below") 342), (.ref 62)⟩ :: ⟨hh P (zs "address_good"), (.str (zs "address_good") 349), (.ref 69)⟩ :: ⟨hh P (zs "argument_good"), (.str (zs "argument_good") 356), (.ref 76)⟩ :: ⟨hh P (zs "call_parts"), (.str (zs "call_parts") 363), (.ref 83)⟩ :: ⟨hh P (zs "call_good"), (.str (zs "call_good") 369), (.ref 88)⟩ :: ⟨hh P (zs "step_good"), (.str (zs "step_good") 376), (.ref 95)⟩ :: ⟨hh P (zs "read_program"), (.str (zs "read_program") 382), (.ref 100)⟩ :: ⟨hh P (zs "_law_whole"), (.str (zs "_law_whole") 391), (.ref 107)⟩ :: ⟨hh P (zs "_law_cell_at"), (.str (zs "_law_cell_at") 399), (.ref 114)⟩ :: ⟨hh P (zs "_law_mix"), (.str (zs "_law_mix") 408), (.ref 121)⟩ :: ⟨hh P (zs "_law_numbers"), (.str (zs "_law_numbers") 417), (.ref 128)⟩ :: ⟨hh P (zs "_law_address"), (.str (zs "_law_address") 424), (.ref 135)⟩ :: ⟨hh P (zs "_law_argument"), (.str (zs "_law_argument") 433), (.ref 142)⟩ :: ⟨hh P (zs "_law_call_by"), (.str (zs "_law_call_by") 446), (.ref 149)⟩ :: ⟨hh P (zs "_law_words_by"), (.str (zs "_law_words_by") 456), (.ref 156)⟩ :: ⟨hh P (zs "_law_program_by"), (.str (zs "_law_program_by") 462), (.ref 161)⟩ :: ⟨hh P (zs "_law_text_of"), (.str (zs "_law_text_of") 473), (.ref 168)⟩ :: ⟨hh P (zs "_law_steps"), (.str (zs "_law_steps") 482), (.ref 175)⟩ :: ⟨hh P (zs "law"), (.str (zs "law") 492), (.ref 182)⟩ :: [])) 36), (Array.mk [])⟩
def o2_12 (P : Params) : Obj := ⟨.none, none, (.fields (Array.mk ((.int (2) 0) :: (.int (0) 0) :: (.ref 20) :: (.int (4) 0) :: (.int (0) 0) :: (.ref 33) :: (.int (14) 0) :: (.int (0) 0) :: (.ref 54) :: (.int (20) 0) :: (.int (0) 0) :: (.ref 61) :: (.int (23) 0) :: (.int (0) 0) :: (.ref 68) :: (.int (25) 0) :: (.int (0) 0) :: (.ref 75) :: (.int (31) 0) :: (.int (0) 0) :: (.ref 82) :: (.int (35) 0) :: (.int (0) 0) :: (.ref 87) :: (.int (44) 0) :: (.int (0) 0) :: (.ref 94) :: (.int (58) 0) :: (.int (0) 0) :: (.ref 99) :: (.int (68) 0) :: (.int (0) 0) :: (.ref 106) :: (.int (70) 0) :: (.int (0) 0) :: (.ref 113) :: (.int (74) 0) :: (.int (0) 0) :: (.ref 120) :: (.int (76) 0) :: (.int (0) 0) :: (.ref 127) :: (.int (83) 0) :: (.int (0) 0) :: (.ref 134) :: (.int (85) 0) :: (.int (0) 0) :: (.ref 141) :: (.int (107) 0) :: (.int (0) 0) :: (.ref 148) :: (.int (128) 0) :: (.int (0) 0) :: (.ref 155) :: (.int (140) 0) :: (.int (0) 0) :: (.ref 160) :: (.int (155) 0) :: (.int (0) 0) :: (.ref 167) :: (.int (163) 0) :: (.int (0) 0) :: (.ref 174) :: (.int (170) 0) :: (.int (0) 0) :: (.ref 181) :: []))), (Array.mk [])⟩
def o2_89 (P : Params) : Obj := ⟨(.type "tuple"), none, (.seq (Array.mk []) 0), (Array.mk [])⟩
def o2_90 (P : Params) : Obj := ⟨.none, none, (.fields (Array.mk [])), (Array.mk [])⟩
def o2_91 (P : Params) : Obj := ⟨(.type "tuple"), none, (.seq (Array.mk [(.str (zs "words") 373)]) 0), (Array.mk [])⟩
def o2_92 (P : Params) : Obj := ⟨(.type "tuple"), none, (.seq (Array.mk []) 0), (Array.mk [])⟩
def o2_93 (P : Params) : Obj := ⟨.none, none, (.func ⟨(zs "step_good"), (zs "step_good"), L2.defArgs (top 15), .stmts (L2.defBody (top 15)), L2.defScope (top 15), 0, [], .none, .none, .none, .none, none, .none, .none, 0⟩), (Array.mk [])⟩
def o2_94 (P : Params) : Obj := ⟨(.type "code"), none, (.fields (Array.mk ((.str (zs "step_good") 370) :: (.str (zs "step_good") 371) :: (.str (zs "/claim/cut.py") 372) :: (.int (44) 0) :: (.int (1) 0) :: (.int (0) 0) :: (.int (0) 0) :: (.int (3) 0) :: (.ref 89) :: (.bool true) :: (.int (181) 0) :: (.ref 90) :: .none :: (.ref 91) :: (.ref 92) :: (.ref 93) :: (.int (374) 0) :: (.int (44) 0) :: (.str (zs "/claim/cut.py") 375) :: []))), (Array.mk [])⟩
def o2_95 (P : Params) : Obj := ⟨(.type "function"), none, (.func ⟨(zs "step_good"), (zs "step_good"), L2.defArgs (top 15), .stmts (L2.defBody (top 15)), L2.defScope (top 15), 3, [], .none, .none, .none, (.str (zs "ownroom.programs") 232), none, (.ref 94), .none, 0⟩), (Array.mk [])⟩
def o2_96 (P : Params) : Obj := ⟨(.type "tuple"), none, (.seq (Array.mk []) 0), (Array.mk [])⟩
def o2_97 (P : Params) : Obj := ⟨.none, none, (.fields (Array.mk [])), (Array.mk [])⟩
def o2_98 (P : Params) : Obj := ⟨.none, none, (.func ⟨(zs "read_program"), (zs "read_program"), L2.defArgs (top 16), .stmts (L2.defBody (top 16)), L2.defScope (top 16), 0, [], .none, .none, .none, .none, none, .none, .none, 0⟩), (Array.mk [])⟩
def o2_99 (P : Params) : Obj := ⟨(.type "code"), none, (.fields (Array.mk ((.str (zs "read_program") 377) :: (.str (zs "read_program") 378) :: (.str (zs "/claim/cut.py") 379) :: (.int (58) 0) :: (.int (1) 0) :: (.int (0) 0) :: (.int (0) 0) :: (.int (3) 0) :: (.ref 96) :: (.bool true) :: (.int (181) 0) :: (.ref 97) :: .none :: .none :: .none :: (.ref 98) :: (.int (380) 0) :: (.int (58) 0) :: (.str (zs "/claim/cut.py") 381) :: []))), (Array.mk [])⟩
def o2_100 (P : Params) : Obj := ⟨(.type "function"), none, (.func ⟨(zs "read_program"), (zs "read_program"), L2.defArgs (top 16), .stmts (L2.defBody (top 16)), L2.defScope (top 16), 3, [], .none, .none, .none, (.str (zs "ownroom.programs") 232), none, (.ref 99), .none, 0⟩), (Array.mk [])⟩
def o2_101 (P : Params) : Obj := ⟨(.type "tuple"), none, (.seq (Array.mk []) 0), (Array.mk [])⟩
def o2_102 (P : Params) : Obj := ⟨.none, none, (.fields (Array.mk [])), (Array.mk [])⟩
def o2_103 (P : Params) : Obj := ⟨(.type "tuple"), none, (.seq (Array.mk [(.str (zs "_law_found") 388)]) 0), (Array.mk [])⟩
def o2_104 (P : Params) : Obj := ⟨(.type "tuple"), none, (.seq (Array.mk []) 0), (Array.mk [])⟩
def o2_105 (P : Params) : Obj := ⟨.none, none, (.func ⟨(zs "_law_whole"), (zs "_law_whole"), L2.defArgs (top 18), .stmts (L2.defBody (top 18)), L2.defScope (top 18), 0, [], .none, .none, .none, .none, none, .none, .none, 0⟩), (Array.mk [])⟩
def o2_106 (P : Params) : Obj := ⟨(.type "code"), none, (.fields (Array.mk ((.str (zs "_law_whole") 385) :: (.str (zs "_law_whole") 386) :: (.str (zs "/claim/cut.py") 387) :: (.int (68) 0) :: (.int (1) 0) :: (.int (0) 0) :: (.int (0) 0) :: (.int (3) 0) :: (.ref 101) :: (.bool true) :: (.int (181) 0) :: (.ref 102) :: .none :: (.ref 103) :: (.ref 104) :: (.ref 105) :: (.int (389) 0) :: (.int (68) 0) :: (.str (zs "/claim/cut.py") 390) :: []))), (Array.mk [])⟩
def o2_107 (P : Params) : Obj := ⟨(.type "function"), none, (.func ⟨(zs "_law_whole"), (zs "_law_whole"), L2.defArgs (top 18), .stmts (L2.defBody (top 18)), L2.defScope (top 18), 3, [], .none, .none, .none, (.str (zs "law_ownroom_k75_programs_read") 383), none, (.ref 106), .none, 0⟩), (Array.mk [])⟩
def o2_108 (P : Params) : Obj := ⟨(.type "tuple"), none, (.seq (Array.mk []) 0), (Array.mk [])⟩
def o2_109 (P : Params) : Obj := ⟨.none, none, (.fields (Array.mk [])), (Array.mk [])⟩
def o2_110 (P : Params) : Obj := ⟨(.type "tuple"), none, (.seq (Array.mk [(.str (zs "_law_script") 395), (.str (zs "_law_k") 396)]) 0), (Array.mk [])⟩
def o2_111 (P : Params) : Obj := ⟨(.type "tuple"), none, (.seq (Array.mk []) 0), (Array.mk [])⟩
def o2_112 (P : Params) : Obj := ⟨.none, none, (.func ⟨(zs "_law_cell_at"), (zs "_law_cell_at"), L2.defArgs (top 19), .stmts (L2.defBody (top 19)), L2.defScope (top 19), 0, [], .none, .none, .none, .none, none, .none, .none, 0⟩), (Array.mk [])⟩
def o2_113 (P : Params) : Obj := ⟨(.type "code"), none, (.fields (Array.mk ((.str (zs "_law_cell_at") 392) :: (.str (zs "_law_cell_at") 393) :: (.str (zs "/claim/cut.py") 394) :: (.int (70) 0) :: (.int (2) 0) :: (.int (0) 0) :: (.int (0) 0) :: (.int (3) 0) :: (.ref 108) :: (.bool true) :: (.int (181) 0) :: (.ref 109) :: .none :: (.ref 110) :: (.ref 111) :: (.ref 112) :: (.int (397) 0) :: (.int (70) 0) :: (.str (zs "/claim/cut.py") 398) :: []))), (Array.mk [])⟩
def o2_114 (P : Params) : Obj := ⟨(.type "function"), none, (.func ⟨(zs "_law_cell_at"), (zs "_law_cell_at"), L2.defArgs (top 19), .stmts (L2.defBody (top 19)), L2.defScope (top 19), 3, [], .none, .none, .none, (.str (zs "law_ownroom_k75_programs_read") 383), none, (.ref 113), .none, 0⟩), (Array.mk [])⟩
def o2_115 (P : Params) : Obj := ⟨(.type "tuple"), none, (.seq (Array.mk []) 0), (Array.mk [])⟩
def o2_116 (P : Params) : Obj := ⟨.none, none, (.fields (Array.mk [])), (Array.mk [])⟩
def o2_117 (P : Params) : Obj := ⟨(.type "tuple"), none, (.seq (Array.mk [(.str (zs "_law_cell") 403), (.str (zs "_law_factor") 404), (.str (zs "_law_prime") 405)]) 0), (Array.mk [])⟩
def o2_118 (P : Params) : Obj := ⟨(.type "tuple"), none, (.seq (Array.mk []) 0), (Array.mk [])⟩
def o2_119 (P : Params) : Obj := ⟨.none, none, (.func ⟨(zs "_law_mix"), (zs "_law_mix"), L2.defArgs (top 20), .stmts (L2.defBody (top 20)), L2.defScope (top 20), 0, [], .none, .none, .none, .none, none, .none, .none, 0⟩), (Array.mk [])⟩
def o2_120 (P : Params) : Obj := ⟨(.type "code"), none, (.fields (Array.mk ((.str (zs "_law_mix") 400) :: (.str (zs "_law_mix") 401) :: (.str (zs "/claim/cut.py") 402) :: (.int (74) 0) :: (.int (3) 0) :: (.int (0) 0) :: (.int (0) 0) :: (.int (3) 0) :: (.ref 115) :: (.bool true) :: (.int (181) 0) :: (.ref 116) :: .none :: (.ref 117) :: (.ref 118) :: (.ref 119) :: (.int (406) 0) :: (.int (74) 0) :: (.str (zs "/claim/cut.py") 407) :: []))), (Array.mk [])⟩
def o2_121 (P : Params) : Obj := ⟨(.type "function"), none, (.func ⟨(zs "_law_mix"), (zs "_law_mix"), L2.defArgs (top 20), .stmts (L2.defBody (top 20)), L2.defScope (top 20), 3, [], .none, .none, .none, (.str (zs "law_ownroom_k75_programs_read") 383), none, (.ref 120), .none, 0⟩), (Array.mk [])⟩
def o2_122 (P : Params) : Obj := ⟨(.type "tuple"), none, (.seq (Array.mk []) 0), (Array.mk [])⟩
def o2_123 (P : Params) : Obj := ⟨.none, none, (.fields (Array.mk [])), (Array.mk [])⟩
def o2_124 (P : Params) : Obj := ⟨(.type "tuple"), none, (.seq (Array.mk [(.str (zs "_law_found") 412), (.str (zs "_law_due") 413), (.str (zs "_law_number") 414)]) 0), (Array.mk [])⟩
def o2_125 (P : Params) : Obj := ⟨(.type "tuple"), none, (.seq (Array.mk []) 0), (Array.mk [])⟩
def o2_126 (P : Params) : Obj := ⟨.none, none, (.func ⟨(zs "_law_numbers"), (zs "_law_numbers"), L2.defArgs (top 21), .stmts (L2.defBody (top 21)), L2.defScope (top 21), 0, [], .none, .none, .none, .none, none, .none, .none, 0⟩), (Array.mk [])⟩
def o2_127 (P : Params) : Obj := ⟨(.type "code"), none, (.fields (Array.mk ((.str (zs "_law_numbers") 409) :: (.str (zs "_law_numbers") 410) :: (.str (zs "/claim/cut.py") 411) :: (.int (76) 0) :: (.int (2) 0) :: (.int (0) 0) :: (.int (0) 0) :: (.int (3) 0) :: (.ref 122) :: (.bool true) :: (.int (181) 0) :: (.ref 123) :: .none :: (.ref 124) :: (.ref 125) :: (.ref 126) :: (.int (415) 0) :: (.int (76) 0) :: (.str (zs "/claim/cut.py") 416) :: []))), (Array.mk [])⟩
def o2_128 (P : Params) : Obj := ⟨(.type "function"), none, (.func ⟨(zs "_law_numbers"), (zs "_law_numbers"), L2.defArgs (top 21), .stmts (L2.defBody (top 21)), L2.defScope (top 21), 3, [], .none, .none, .none, (.str (zs "law_ownroom_k75_programs_read") 383), none, (.ref 127), .none, 0⟩), (Array.mk [])⟩
def o2_129 (P : Params) : Obj := ⟨(.type "tuple"), none, (.seq (Array.mk []) 0), (Array.mk [])⟩
def o2_130 (P : Params) : Obj := ⟨.none, none, (.fields (Array.mk [])), (Array.mk [])⟩
def o2_131 (P : Params) : Obj := ⟨(.type "tuple"), none, (.seq (Array.mk [(.str (zs "_law_number") 421)]) 0), (Array.mk [])⟩
def o2_132 (P : Params) : Obj := ⟨(.type "tuple"), none, (.seq (Array.mk []) 0), (Array.mk [])⟩
def o2_133 (P : Params) : Obj := ⟨.none, none, (.func ⟨(zs "_law_address"), (zs "_law_address"), L2.defArgs (top 22), .stmts (L2.defBody (top 22)), L2.defScope (top 22), 0, [], .none, .none, .none, .none, none, .none, .none, 0⟩), (Array.mk [])⟩
def o2_134 (P : Params) : Obj := ⟨(.type "code"), none, (.fields (Array.mk ((.str (zs "_law_address") 418) :: (.str (zs "_law_address") 419) :: (.str (zs "/claim/cut.py") 420) :: (.int (83) 0) :: (.int (1) 0) :: (.int (0) 0) :: (.int (0) 0) :: (.int (3) 0) :: (.ref 129) :: (.bool true) :: (.int (181) 0) :: (.ref 130) :: .none :: (.ref 131) :: (.ref 132) :: (.ref 133) :: (.int (422) 0) :: (.int (83) 0) :: (.str (zs "/claim/cut.py") 423) :: []))), (Array.mk [])⟩
def o2_135 (P : Params) : Obj := ⟨(.type "function"), none, (.func ⟨(zs "_law_address"), (zs "_law_address"), L2.defArgs (top 22), .stmts (L2.defBody (top 22)), L2.defScope (top 22), 3, [], .none, .none, .none, (.str (zs "law_ownroom_k75_programs_read") 383), none, (.ref 134), .none, 0⟩), (Array.mk [])⟩
def o2_136 (P : Params) : Obj := ⟨(.type "tuple"), none, (.seq (Array.mk []) 0), (Array.mk [])⟩
def o2_137 (P : Params) : Obj := ⟨.none, none, (.fields (Array.mk [])), (Array.mk [])⟩
def o2_138 (P : Params) : Obj := ⟨(.type "tuple"), none, (.seq (Array.mk [(.str (zs "_law_kind") 428), (.str (zs "_law_number") 429), (.str (zs "_law_many") 430)]) 0), (Array.mk [])⟩
def o2_139 (P : Params) : Obj := ⟨(.type "tuple"), none, (.seq (Array.mk []) 0), (Array.mk [])⟩
def o2_140 (P : Params) : Obj := ⟨.none, none, (.func ⟨(zs "_law_argument"), (zs "_law_argument"), L2.defArgs (top 23), .stmts (L2.defBody (top 23)), L2.defScope (top 23), 0, [], .none, .none, .none, .none, none, .none, .none, 0⟩), (Array.mk [])⟩
def o2_141 (P : Params) : Obj := ⟨(.type "code"), none, (.fields (Array.mk ((.str (zs "_law_argument") 425) :: (.str (zs "_law_argument") 426) :: (.str (zs "/claim/cut.py") 427) :: (.int (85) 0) :: (.int (3) 0) :: (.int (0) 0) :: (.int (0) 0) :: (.int (3) 0) :: (.ref 136) :: (.bool true) :: (.int (181) 0) :: (.ref 137) :: .none :: (.ref 138) :: (.ref 139) :: (.ref 140) :: (.int (431) 0) :: (.int (85) 0) :: (.str (zs "/claim/cut.py") 432) :: []))), (Array.mk [])⟩
def o2_142 (P : Params) : Obj := ⟨(.type "function"), none, (.func ⟨(zs "_law_argument"), (zs "_law_argument"), L2.defArgs (top 23), .stmts (L2.defBody (top 23)), L2.defScope (top 23), 3, [], .none, .none, .none, (.str (zs "law_ownroom_k75_programs_read") 383), none, (.ref 141), .none, 0⟩), (Array.mk [])⟩
def o2_143 (P : Params) : Obj := ⟨(.type "tuple"), none, (.seq (Array.mk []) 0), (Array.mk [])⟩
def o2_144 (P : Params) : Obj := ⟨.none, none, (.fields (Array.mk [])), (Array.mk [])⟩
def o2_145 (P : Params) : Obj := ⟨(.type "tuple"), none, (.seq (Array.mk [(.str (zs "_law_number") 437), (.str (zs "_law_many") 438), (.str (zs "_law_menu") 439), (.str (zs "_law_call") 440), (.str (zs "_law_left") 441), (.str (zs "_law_words") 442), (.str (zs "_law_kind") 443)]) 0), (Array.mk [])⟩
def o2_146 (P : Params) : Obj := ⟨(.type "tuple"), none, (.seq (Array.mk []) 0), (Array.mk [])⟩
def o2_147 (P : Params) : Obj := ⟨.none, none, (.func ⟨(zs "_law_call_by"), (zs "_law_call_by"), L2.defArgs (top 24), .stmts (L2.defBody (top 24)), L2.defScope (top 24), 0, [], .none, .none, .none, .none, none, .none, .none, 0⟩), (Array.mk [])⟩
def o2_148 (P : Params) : Obj := ⟨(.type "code"), none, (.fields (Array.mk ((.str (zs "_law_call_by") 434) :: (.str (zs "_law_call_by") 435) :: (.str (zs "/claim/cut.py") 436) :: (.int (107) 0) :: (.int (2) 0) :: (.int (0) 0) :: (.int (0) 0) :: (.int (3) 0) :: (.ref 143) :: (.bool true) :: (.int (181) 0) :: (.ref 144) :: .none :: (.ref 145) :: (.ref 146) :: (.ref 147) :: (.int (444) 0) :: (.int (107) 0) :: (.str (zs "/claim/cut.py") 445) :: []))), (Array.mk [])⟩
def o2_149 (P : Params) : Obj := ⟨(.type "function"), none, (.func ⟨(zs "_law_call_by"), (zs "_law_call_by"), L2.defArgs (top 24), .stmts (L2.defBody (top 24)), L2.defScope (top 24), 3, [], .none, .none, .none, (.str (zs "law_ownroom_k75_programs_read") 383), none, (.ref 148), .none, 0⟩), (Array.mk [])⟩
def o2_150 (P : Params) : Obj := ⟨(.type "tuple"), none, (.seq (Array.mk []) 0), (Array.mk [])⟩
def o2_151 (P : Params) : Obj := ⟨.none, none, (.fields (Array.mk [])), (Array.mk [])⟩
def o2_152 (P : Params) : Obj := ⟨(.type "tuple"), none, (.seq (Array.mk [(.str (zs "_law_number") 450), (.str (zs "_law_many") 451), (.str (zs "_law_left") 452), (.str (zs "_law_spot") 453)]) 0), (Array.mk [])⟩
def o2_153 (P : Params) : Obj := ⟨(.type "tuple"), none, (.seq (Array.mk []) 0), (Array.mk [])⟩
def o2_154 (P : Params) : Obj := ⟨.none, none, (.func ⟨(zs "_law_words_by"), (zs "_law_words_by"), L2.defArgs (top 25), .stmts (L2.defBody (top 25)), L2.defScope (top 25), 0, [], .none, .none, .none, .none, none, .none, .none, 0⟩), (Array.mk [])⟩
def o2_155 (P : Params) : Obj := ⟨(.type "code"), none, (.fields (Array.mk ((.str (zs "_law_words_by") 447) :: (.str (zs "_law_words_by") 448) :: (.str (zs "/claim/cut.py") 449) :: (.int (128) 0) :: (.int (2) 0) :: (.int (0) 0) :: (.int (0) 0) :: (.int (3) 0) :: (.ref 150) :: (.bool true) :: (.int (181) 0) :: (.ref 151) :: .none :: (.ref 152) :: (.ref 153) :: (.ref 154) :: (.int (454) 0) :: (.int (128) 0) :: (.str (zs "/claim/cut.py") 455) :: []))), (Array.mk [])⟩
def o2_156 (P : Params) : Obj := ⟨(.type "function"), none, (.func ⟨(zs "_law_words_by"), (zs "_law_words_by"), L2.defArgs (top 25), .stmts (L2.defBody (top 25)), L2.defScope (top 25), 3, [], .none, .none, .none, (.str (zs "law_ownroom_k75_programs_read") 383), none, (.ref 155), .none, 0⟩), (Array.mk [])⟩
def o2_157 (P : Params) : Obj := ⟨(.type "tuple"), none, (.seq (Array.mk []) 0), (Array.mk [])⟩
def o2_158 (P : Params) : Obj := ⟨.none, none, (.fields (Array.mk [])), (Array.mk [])⟩
def o2_159 (P : Params) : Obj := ⟨.none, none, (.func ⟨(zs "_law_program_by"), (zs "_law_program_by"), L2.defArgs (top 26), .stmts (L2.defBody (top 26)), L2.defScope (top 26), 0, [], .none, .none, .none, .none, none, .none, .none, 0⟩), (Array.mk [])⟩
def o2_160 (P : Params) : Obj := ⟨(.type "code"), none, (.fields (Array.mk ((.str (zs "_law_program_by") 457) :: (.str (zs "_law_program_by") 458) :: (.str (zs "/claim/cut.py") 459) :: (.int (140) 0) :: (.int (1) 0) :: (.int (0) 0) :: (.int (0) 0) :: (.int (3) 0) :: (.ref 157) :: (.bool true) :: (.int (181) 0) :: (.ref 158) :: .none :: .none :: .none :: (.ref 159) :: (.int (460) 0) :: (.int (140) 0) :: (.str (zs "/claim/cut.py") 461) :: []))), (Array.mk [])⟩
def o2_161 (P : Params) : Obj := ⟨(.type "function"), none, (.func ⟨(zs "_law_program_by"), (zs "_law_program_by"), L2.defArgs (top 26), .stmts (L2.defBody (top 26)), L2.defScope (top 26), 3, [], .none, .none, .none, (.str (zs "law_ownroom_k75_programs_read") 383), none, (.ref 160), .none, 0⟩), (Array.mk [])⟩
def o2_162 (P : Params) : Obj := ⟨(.type "tuple"), none, (.seq (Array.mk []) 0), (Array.mk [])⟩
def o2_163 (P : Params) : Obj := ⟨.none, none, (.fields (Array.mk [])), (Array.mk [])⟩
def o2_164 (P : Params) : Obj := ⟨(.type "tuple"), none, (.seq (Array.mk [(.str (zs "_law_program") 466), (.str (zs "_law_seed") 467), (.str (zs "_law_rows") 468), (.str (zs "_law_k") 469), (.str (zs "_law_drawn") 470)]) 0), (Array.mk [])⟩
def o2_165 (P : Params) : Obj := ⟨(.type "tuple"), none, (.seq (Array.mk []) 0), (Array.mk [])⟩
def o2_166 (P : Params) : Obj := ⟨.none, none, (.func ⟨(zs "_law_text_of"), (zs "_law_text_of"), L2.defArgs (top 27), .stmts (L2.defBody (top 27)), L2.defScope (top 27), 0, [], .none, .none, .none, .none, none, .none, .none, 0⟩), (Array.mk [])⟩
def o2_167 (P : Params) : Obj := ⟨(.type "code"), none, (.fields (Array.mk ((.str (zs "_law_text_of") 463) :: (.str (zs "_law_text_of") 464) :: (.str (zs "/claim/cut.py") 465) :: (.int (155) 0) :: (.int (2) 0) :: (.int (0) 0) :: (.int (0) 0) :: (.int (3) 0) :: (.ref 162) :: (.bool true) :: (.int (181) 0) :: (.ref 163) :: .none :: (.ref 164) :: (.ref 165) :: (.ref 166) :: (.int (471) 0) :: (.int (155) 0) :: (.str (zs "/claim/cut.py") 472) :: []))), (Array.mk [])⟩
def o2_168 (P : Params) : Obj := ⟨(.type "function"), none, (.func ⟨(zs "_law_text_of"), (zs "_law_text_of"), L2.defArgs (top 27), .stmts (L2.defBody (top 27)), L2.defScope (top 27), 3, [], .none, .none, .none, (.str (zs "law_ownroom_k75_programs_read") 383), none, (.ref 167), .none, 0⟩), (Array.mk [])⟩
def o2_169 (P : Params) : Obj := ⟨(.type "tuple"), none, (.seq (Array.mk []) 0), (Array.mk [])⟩
def o2_170 (P : Params) : Obj := ⟨.none, none, (.fields (Array.mk [])), (Array.mk [])⟩
def o2_171 (P : Params) : Obj := ⟨(.type "tuple"), none, (.seq (Array.mk [(.str (zs "_law_found") 477), (.str (zs "_law_program") 478), (.str (zs "_law_k") 479)]) 0), (Array.mk [])⟩
def o2_172 (P : Params) : Obj := ⟨(.type "tuple"), none, (.seq (Array.mk []) 0), (Array.mk [])⟩
def o2_173 (P : Params) : Obj := ⟨.none, none, (.func ⟨(zs "_law_steps"), (zs "_law_steps"), L2.defArgs (top 28), .stmts (L2.defBody (top 28)), L2.defScope (top 28), 0, [], .none, .none, .none, .none, none, .none, .none, 0⟩), (Array.mk [])⟩
def o2_174 (P : Params) : Obj := ⟨(.type "code"), none, (.fields (Array.mk ((.str (zs "_law_steps") 474) :: (.str (zs "_law_steps") 475) :: (.str (zs "/claim/cut.py") 476) :: (.int (163) 0) :: (.int (2) 0) :: (.int (0) 0) :: (.int (0) 0) :: (.int (3) 0) :: (.ref 169) :: (.bool true) :: (.int (181) 0) :: (.ref 170) :: .none :: (.ref 171) :: (.ref 172) :: (.ref 173) :: (.int (480) 0) :: (.int (163) 0) :: (.str (zs "/claim/cut.py") 481) :: []))), (Array.mk [])⟩
def o2_175 (P : Params) : Obj := ⟨(.type "function"), none, (.func ⟨(zs "_law_steps"), (zs "_law_steps"), L2.defArgs (top 28), .stmts (L2.defBody (top 28)), L2.defScope (top 28), 3, [], .none, .none, .none, (.str (zs "law_ownroom_k75_programs_read") 383), none, (.ref 174), .none, 0⟩), (Array.mk [])⟩
def o2_176 (P : Params) : Obj := ⟨(.type "tuple"), none, (.seq (Array.mk []) 0), (Array.mk [])⟩
def o2_177 (P : Params) : Obj := ⟨.none, none, (.fields (Array.mk [])), (Array.mk [])⟩
def o2_178 (P : Params) : Obj := ⟨(.type "tuple"), none, (.seq (Array.mk [(.str (zs "_law_script") 486), (.str (zs "_law_program") 487), (.str (zs "_law_text") 488), (.str (zs "_law_found") 489)]) 0), (Array.mk [])⟩
def o2_179 (P : Params) : Obj := ⟨(.type "tuple"), none, (.seq (Array.mk []) 0), (Array.mk [])⟩
def o2_180 (P : Params) : Obj := ⟨.none, none, (.func ⟨(zs "law"), (zs "law"), L2.defArgs (top 29), .stmts (L2.defBody (top 29)), L2.defScope (top 29), 0, [], .none, .none, .none, .none, none, .none, .none, 0⟩), (Array.mk [])⟩
def o2_181 (P : Params) : Obj := ⟨(.type "code"), none, (.fields (Array.mk ((.str (zs "law") 483) :: (.str (zs "law") 484) :: (.str (zs "/claim/cut.py") 485) :: (.int (170) 0) :: (.int (1) 0) :: (.int (0) 0) :: (.int (0) 0) :: (.int (3) 0) :: (.ref 176) :: (.bool true) :: (.int (181) 0) :: (.ref 177) :: .none :: (.ref 178) :: (.ref 179) :: (.ref 180) :: (.int (490) 0) :: (.int (170) 0) :: (.str (zs "/claim/cut.py") 491) :: []))), (Array.mk [])⟩
def o2_182 (P : Params) : Obj := ⟨(.type "function"), none, (.func ⟨(zs "law"), (zs "law"), L2.defArgs (top 29), .stmts (L2.defBody (top 29)), L2.defScope (top 29), 3, [], .none, .none, .none, (.str (zs "law_ownroom_k75_programs_read") 383), none, (.ref 181), .none, 0⟩), (Array.mk [])⟩
def tr2 (P : Params) : BT := (.node (boot_o_0 P) (.node (boot_o_1 P) (.node (o2_3 P) (.node (boot_o_7 P) (.node (o1_15 P) (.node (o1_31 P) (.node (o1_63 P) (.node (o2_127 P) .nil .nil) .nil) (.node (o2_95 P) (.node (o2_159 P) .nil .nil) .nil)) (.node (o1_47 P) (.node (o1_79 P) (.node (o2_143 P) .nil .nil) .nil) (.node (o2_111 P) (.node (o2_175 P) .nil .nil) .nil))) (.node (o1_23 P) (.node (o1_39 P) (.node (o1_71 P) (.node (o2_135 P) .nil .nil) .nil) (.node (o2_103 P) (.node (o2_167 P) .nil .nil) .nil)) (.node (o1_55 P) (.node (o1_87 P) (.node (o2_151 P) .nil .nil) .nil) (.node (o2_119 P) .nil .nil)))) (.node (o0_11 P) (.node (o1_19 P) (.node (o1_35 P) (.node (o1_67 P) (.node (o2_131 P) .nil .nil) .nil) (.node (o2_99 P) (.node (o2_163 P) .nil .nil) .nil)) (.node (o1_51 P) (.node (o1_83 P) (.node (o2_147 P) .nil .nil) .nil) (.node (o2_115 P) (.node (o2_179 P) .nil .nil) .nil))) (.node (o1_27 P) (.node (o1_43 P) (.node (o1_75 P) (.node (o2_139 P) .nil .nil) .nil) (.node (o2_107 P) (.node (o2_171 P) .nil .nil) .nil)) (.node (o1_59 P) (.node (o2_91 P) (.node (o2_155 P) .nil .nil) .nil) (.node (o2_123 P) .nil .nil))))) (.node (boot_o_5 P) (.node (boot_o_9 P) (.node (o1_17 P) (.node (o1_33 P) (.node (o1_65 P) (.node (o2_129 P) .nil .nil) .nil) (.node (o2_97 P) (.node (o2_161 P) .nil .nil) .nil)) (.node (o1_49 P) (.node (o1_81 P) (.node (o2_145 P) .nil .nil) .nil) (.node (o2_113 P) (.node (o2_177 P) .nil .nil) .nil))) (.node (o1_25 P) (.node (o1_41 P) (.node (o1_73 P) (.node (o2_137 P) .nil .nil) .nil) (.node (o2_105 P) (.node (o2_169 P) .nil .nil) .nil)) (.node (o1_57 P) (.node (o2_89 P) (.node (o2_153 P) .nil .nil) .nil) (.node (o2_121 P) .nil .nil)))) (.node (o0_13 P) (.node (o1_21 P) (.node (o1_37 P) (.node (o1_69 P) (.node (o2_133 P) .nil .nil) .nil) (.node (o2_101 P) (.node (o2_165 P) .nil .nil) .nil)) (.node (o1_53 P) (.node (o1_85 P) (.node (o2_149 P) .nil .nil) .nil) (.node (o2_117 P) (.node (o2_181 P) .nil .nil) .nil))) (.node (o1_29 P) (.node (o1_45 P) (.node (o1_77 P) (.node (o2_141 P) .nil .nil) .nil) (.node (o2_109 P) (.node (o2_173 P) .nil .nil) .nil)) (.node (o1_61 P) (.node (o2_93 P) (.node (o2_157 P) .nil .nil) .nil) (.node (o2_125 P) .nil .nil)))))) (.node (boot_o_2 P) (.node (boot_o_4 P) (.node (boot_o_8 P) (.node (o1_16 P) (.node (o1_32 P) (.node (o1_64 P) (.node (o2_128 P) .nil .nil) .nil) (.node (o2_96 P) (.node (o2_160 P) .nil .nil) .nil)) (.node (o1_48 P) (.node (o1_80 P) (.node (o2_144 P) .nil .nil) .nil) (.node (o2_112 P) (.node (o2_176 P) .nil .nil) .nil))) (.node (o1_24 P) (.node (o1_40 P) (.node (o1_72 P) (.node (o2_136 P) .nil .nil) .nil) (.node (o2_104 P) (.node (o2_168 P) .nil .nil) .nil)) (.node (o1_56 P) (.node (o1_88 P) (.node (o2_152 P) .nil .nil) .nil) (.node (o2_120 P) .nil .nil)))) (.node (o2_12 P) (.node (o1_20 P) (.node (o1_36 P) (.node (o1_68 P) (.node (o2_132 P) .nil .nil) .nil) (.node (o2_100 P) (.node (o2_164 P) .nil .nil) .nil)) (.node (o1_52 P) (.node (o1_84 P) (.node (o2_148 P) .nil .nil) .nil) (.node (o2_116 P) (.node (o2_180 P) .nil .nil) .nil))) (.node (o1_28 P) (.node (o1_44 P) (.node (o1_76 P) (.node (o2_140 P) .nil .nil) .nil) (.node (o2_108 P) (.node (o2_172 P) .nil .nil) .nil)) (.node (o1_60 P) (.node (o2_92 P) (.node (o2_156 P) .nil .nil) .nil) (.node (o2_124 P) .nil .nil))))) (.node (boot_o_6 P) (.node (boot_o_10 P) (.node (o1_18 P) (.node (o1_34 P) (.node (o1_66 P) (.node (o2_130 P) .nil .nil) .nil) (.node (o2_98 P) (.node (o2_162 P) .nil .nil) .nil)) (.node (o1_50 P) (.node (o1_82 P) (.node (o2_146 P) .nil .nil) .nil) (.node (o2_114 P) (.node (o2_178 P) .nil .nil) .nil))) (.node (o1_26 P) (.node (o1_42 P) (.node (o1_74 P) (.node (o2_138 P) .nil .nil) .nil) (.node (o2_106 P) (.node (o2_170 P) .nil .nil) .nil)) (.node (o1_58 P) (.node (o2_90 P) (.node (o2_154 P) .nil .nil) .nil) (.node (o2_122 P) .nil .nil)))) (.node (o0_14 P) (.node (o1_22 P) (.node (o1_38 P) (.node (o1_70 P) (.node (o2_134 P) .nil .nil) .nil) (.node (o2_102 P) (.node (o2_166 P) .nil .nil) .nil)) (.node (o1_54 P) (.node (o1_86 P) (.node (o2_150 P) .nil .nil) .nil) (.node (o2_118 P) (.node (o2_182 P) .nil .nil) .nil))) (.node (o1_30 P) (.node (o1_46 P) (.node (o1_78 P) (.node (o2_142 P) .nil .nil) .nil) (.node (o2_110 P) (.node (o2_174 P) .nil .nil) .nil)) (.node (o1_62 P) (.node (o2_94 P) (.node (o2_158 P) .nil .nil) .nil) (.node (o2_126 P) .nil .nil)))))))
def st2 (w : World) (os : OsState) : SharedT := ⟨tr2 w.params, 183, (boot_heap w.params).life, Array.mk [], ⟨0, 0, 0, 0⟩, 493, os⟩
def tr3 (P : Params) : BT := (.node (boot_o_0 P) (.node (boot_o_1 P) (.node (o2_3 P) (.node (boot_o_7 P) (.node (o1_15 P) (.node (o1_31 P) (.node (o1_63 P) (.node (o2_127 P) .nil .nil) .nil) (.node (o2_95 P) (.node (o2_159 P) .nil .nil) .nil)) (.node (o1_47 P) (.node (o1_79 P) (.node (o2_143 P) .nil .nil) .nil) (.node (o2_111 P) (.node (o2_175 P) .nil .nil) .nil))) (.node (o1_23 P) (.node (o1_39 P) (.node (o1_71 P) (.node (o2_135 P) .nil .nil) .nil) (.node (o2_103 P) (.node (o2_167 P) .nil .nil) .nil)) (.node (o1_55 P) (.node (o1_87 P) (.node (o2_151 P) .nil .nil) .nil) (.node (o2_119 P) .nil .nil)))) (.node (o0_11 P) (.node (o1_19 P) (.node (o1_35 P) (.node (o1_67 P) (.node (o2_131 P) .nil .nil) .nil) (.node (o2_99 P) (.node (o2_163 P) .nil .nil) .nil)) (.node (o1_51 P) (.node (o1_83 P) (.node (o2_147 P) .nil .nil) .nil) (.node (o2_115 P) (.node (o2_179 P) .nil .nil) .nil))) (.node (o1_27 P) (.node (o1_43 P) (.node (o1_75 P) (.node (o2_139 P) .nil .nil) .nil) (.node (o2_107 P) (.node (o2_171 P) .nil .nil) .nil)) (.node (o1_59 P) (.node (o2_91 P) (.node (o2_155 P) .nil .nil) .nil) (.node (o2_123 P) .nil .nil))))) (.node (boot_o_5 P) (.node (boot_o_9 P) (.node (o1_17 P) (.node (o1_33 P) (.node (o1_65 P) (.node (o2_129 P) .nil .nil) .nil) (.node (o2_97 P) (.node (o2_161 P) .nil .nil) .nil)) (.node (o1_49 P) (.node (o1_81 P) (.node (o2_145 P) .nil .nil) .nil) (.node (o2_113 P) (.node (o2_177 P) .nil .nil) .nil))) (.node (o1_25 P) (.node (o1_41 P) (.node (o1_73 P) (.node (o2_137 P) .nil .nil) .nil) (.node (o2_105 P) (.node (o2_169 P) .nil .nil) .nil)) (.node (o1_57 P) (.node (o2_89 P) (.node (o2_153 P) .nil .nil) .nil) (.node (o2_121 P) .nil .nil)))) (.node (o0_13 P) (.node (o1_21 P) (.node (o1_37 P) (.node (o1_69 P) (.node (o2_133 P) .nil .nil) .nil) (.node (o2_101 P) (.node (o2_165 P) .nil .nil) .nil)) (.node (o1_53 P) (.node (o1_85 P) (.node (o2_149 P) .nil .nil) .nil) (.node (o2_117 P) (.node (o2_181 P) .nil .nil) .nil))) (.node (o1_29 P) (.node (o1_45 P) (.node (o1_77 P) (.node (o2_141 P) .nil .nil) .nil) (.node (o2_109 P) (.node (o2_173 P) .nil .nil) .nil)) (.node (o1_61 P) (.node (o2_93 P) (.node (o2_157 P) .nil .nil) .nil) (.node (o2_125 P) .nil .nil)))))) (.node (boot_o_2 P) (.node (boot_o_4 P) (.node (boot_o_8 P) (.node (o1_16 P) (.node (o1_32 P) (.node (o1_64 P) (.node (o2_128 P) .nil .nil) .nil) (.node (o2_96 P) (.node (o2_160 P) .nil .nil) .nil)) (.node (o1_48 P) (.node (o1_80 P) (.node (o2_144 P) .nil .nil) .nil) (.node (o2_112 P) (.node (o2_176 P) .nil .nil) .nil))) (.node (o1_24 P) (.node (o1_40 P) (.node (o1_72 P) (.node (o2_136 P) .nil .nil) .nil) (.node (o2_104 P) (.node (o2_168 P) .nil .nil) .nil)) (.node (o1_56 P) (.node (o1_88 P) (.node (o2_152 P) .nil .nil) .nil) (.node (o2_120 P) .nil .nil)))) (.node (o2_12 P) (.node (o1_20 P) (.node (o1_36 P) (.node (o1_68 P) (.node (o2_132 P) .nil .nil) .nil) (.node (o2_100 P) (.node (o2_164 P) .nil .nil) .nil)) (.node (o1_52 P) (.node (o1_84 P) (.node (o2_148 P) .nil .nil) .nil) (.node (o2_116 P) (.node (o2_180 P) .nil .nil) .nil))) (.node (o1_28 P) (.node (o1_44 P) (.node (o1_76 P) (.node (o2_140 P) .nil .nil) .nil) (.node (o2_108 P) (.node (o2_172 P) .nil .nil) .nil)) (.node (o1_60 P) (.node (o2_92 P) (.node (o2_156 P) .nil .nil) .nil) (.node (o2_124 P) .nil .nil))))) (.node (boot_o_6 P) (.node (boot_o_10 P) (.node (o1_18 P) (.node (o1_34 P) (.node (o1_66 P) (.node (o2_130 P) .nil .nil) .nil) (.node (o2_98 P) (.node (o2_162 P) .nil .nil) .nil)) (.node (o1_50 P) (.node (o1_82 P) (.node (o2_146 P) .nil .nil) .nil) (.node (o2_114 P) (.node (o2_178 P) .nil .nil) .nil))) (.node (o1_26 P) (.node (o1_42 P) (.node (o1_74 P) (.node (o2_138 P) .nil .nil) .nil) (.node (o2_106 P) (.node (o2_170 P) .nil .nil) .nil)) (.node (o1_58 P) (.node (o2_90 P) (.node (o2_154 P) .nil .nil) .nil) (.node (o2_122 P) .nil .nil)))) (.node (o0_14 P) (.node (o1_22 P) (.node (o1_38 P) (.node (o1_70 P) (.node (o2_134 P) .nil .nil) .nil) (.node (o2_102 P) (.node (o2_166 P) .nil .nil) .nil)) (.node (o1_54 P) (.node (o1_86 P) (.node (o2_150 P) .nil .nil) .nil) (.node (o2_118 P) (.node (o2_182 P) .nil .nil) .nil))) (.node (o1_30 P) (.node (o1_46 P) (.node (o1_78 P) (.node (o2_142 P) .nil .nil) .nil) (.node (o2_110 P) (.node (o2_174 P) .nil .nil) .nil)) (.node (o1_62 P) (.node (o2_94 P) (.node (o2_158 P) .nil .nil) .nil) (.node (o2_126 P) .nil .nil)))))))
def st3 (w : World) (os : OsState) : SharedT := ⟨tr3 w.params, 183, (boot_heap w.params).life, Array.mk [], ⟨0, 0, 0, 0⟩, 493, os⟩
def q0 : Pos := ⟨0, 0, 0, 0⟩
def env0 : Env := { scope := R.prog.main.scope, locals := mainNs, globals := mainNs, cells := [], code := (.ref 13), frame := some 14 }
def pos0 : Pos := ⟨0, 0, 0, 0⟩
def pos1 : Pos := ⟨35, 0, 43, 59⟩
def pos2 : Pos := ⟨170, 0, 180, 67⟩
def asF : List Addr := (3 :: 6 :: 4 :: 24 :: 44 :: 47 :: 55 :: 62 :: 69 :: 76 :: 83 :: 88 :: 95 :: 100 :: 107 :: 114 :: 121 :: 128 :: 135 :: 142 :: 149 :: 156 :: 161 :: 168 :: 175 :: 182 :: 0 :: 23 :: 43 :: 54 :: 61 :: 68 :: 75 :: 82 :: 87 :: 94 :: 99 :: 106 :: 113 :: 120 :: 127 :: 134 :: 141 :: 148 :: 155 :: 160 :: 167 :: 174 :: 181 :: 22 :: 25 :: 41 :: 42 :: 49 :: 50 :: 51 :: 52 :: 53 :: 56 :: 57 :: 58 :: 59 :: 60 :: 63 :: 64 :: 65 :: 66 :: 67 :: 70 :: 71 :: 72 :: 73 :: 74 :: 77 :: 78 :: 79 :: 80 :: 81 :: 84 :: 85 :: 86 :: 89 :: 90 :: 91 :: 92 :: 93 :: 96 :: 97 :: 98 :: 101 :: 102 :: 103 :: 104 :: 105 :: 108 :: 109 :: 110 :: 111 :: 112 :: 115 :: 116 :: 117 :: 118 :: 119 :: 122 :: 123 :: 124 :: 125 :: 126 :: 129 :: 130 :: 131 :: 132 :: 133 :: 136 :: 137 :: 138 :: 139 :: 140 :: 143 :: 144 :: 145 :: 146 :: 147 :: 150 :: 151 :: 152 :: 153 :: 154 :: 157 :: 158 :: 159 :: 162 :: 163 :: 164 :: 165 :: 166 :: 169 :: 170 :: 171 :: 172 :: 173 :: 176 :: 177 :: 178 :: 179 :: 180 :: 40 :: [])
def stB (w : World) (os : OsState) : SharedT := ⟨trB w.params, 11, (boot_heap w.params).life, Array.mk [], boot_drawn, boot_toks, os⟩
theorem stB_abs (w : World) (os : OsState) : (stB w os).abs = ⟨boot_heap w.params, Array.mk [], boot_drawn, boot_toks, os⟩ := by
  kernel_rfl
def body0 : List Stmt := behindTheImports R.prog
def cE0 : Code := .body body0 env0
abbrev fr0 : List Frame := [topFrame q0]
abbrev stp (w : World) : SharedT → Thread → Option (SharedT × Thread) := stepQ (denQ tabQ) R.prog w
theorem run_pre (w : World) (os : OsState) : goP (stp w) 11 (bootAnn w) 12 (stB w os) (topStub R.prog) = some (st0 w os, ⟨denQ tabQ cE0, cE0, pos0, fr0⟩) := by
  kernel_rfl
theorem run_blk (w : World) (os : OsState) : goS (stp w) 11 (bootAnn w) 1 (st0 w os) (blockOf body0 env0 cE0 pos0 fr0) = some (.next, st0 w os, cE0, pos0) := by
  kernel_rfl
def part1 : List Stmt := (R.prog.main.body.drop 0).take 15
def Run1 (w : World) : Prop := ∀ os : OsState, goS (stp w) 11 (bootAnn w) 1162 (st0 w os) (piecesQ part1 env0 cE0 pos0 fr0) = some (.next, st1 w os, cE0, pos1)
theorem run_1f (w : World) : Run1 (w.withFollow "special-get-raises" false) := by
  intro os
  kernel_rfl
theorem run_1t (w : World) : Run1 (w.withFollow "special-get-raises" true) := by
  intro os
  kernel_rfl
theorem run_1 (w : World) : Run1 w := byRow2 "special-get-raises" run_1f run_1t w
def part2 : List Stmt := (R.prog.main.body.drop 15).take 15
def Run2 (w : World) : Prop := ∀ os : OsState, goS (stp w) 11 (bootAnn w) 435 (st1 w os) (piecesQ part2 env0 cE0 pos1 fr0) = some (.next, st2 w os, cE0, pos2)
theorem run_2 (w : World) : Run2 w := by
  intro os
  kernel_rfl
theorem run_fin (w : World) (os : OsState) : goF (stp w) 11 (bootAnn w) 2 (st2 w os) ⟨doneF .next, cE0, pos2, fr0⟩ = some (st3 w os) := by
  kernel_rfl
theorem body0_eq : body0 = part1 ++ (part2 ++ []) := by
  kernel_rfl
theorem den0 : denQ tabQ = denote treeTable := by rw [← denQ_eq, ← tabQ_eq]
theorem boot_size (w : World) : (boot_heap w.params).objs.size = 11 := by
  kernel_rfl
theorem left2 (w : World) (os : OsState) : topRun treeTable R.prog w 11 (bootAnn w) (2) (st2 w os).abs (restOf [] env0 cE0 pos2 fr0) = some (st3 w os).abs := piece_nil (goF_tw (run_fin w os))
theorem left1 (w : World) (os : OsState) : topRun treeTable R.prog w 11 (bootAnn w) (435 + (2)) (st1 w os).abs (restOf (part2 ++ []) env0 cE0 pos1 fr0) = some (st3 w os).abs := piece_app (goS_pc (run_2 w os)) (left2 w os)
theorem left0 (w : World) (os : OsState) : topRun treeTable R.prog w 11 (bootAnn w) (1162 + (435 + (2))) (st0 w os).abs (restOf (part1 ++ (part2 ++ [])) env0 cE0 pos0 fr0) = some (st3 w os).abs := piece_app (goS_pc (run_1 w os)) (left1 w os)
theorem run_top (w : World) (os : OsState) : topRun treeTable R.prog w (boot_heap w.params).objs.size (bootAnn w) (12 + (1 + (1162 + (435 + (2))))) ⟨boot_heap w.params, #[], boot_drawn, boot_toks, os⟩ (topStub R.prog) = some (st3 w os).abs := by
  rw [boot_size]
  have h0 := goP_tw (run_pre w os)
  rw [stB_abs, den0] at h0
  have h1 := left0 w os
  rw [← body0_eq] at h1
  exact go_top h0 (piece_block (goS_tw (run_blk w os)) h1)
def loose0 : List PySem.Str := ["KernelError", "BadRow", "FIGURES", "MOST_FIGURES", "ADDRESSES", "CELLS", "ARGUMENTS", "number_of", "number_below", "address_good", "argument_good", "call_parts", "call_good", "step_good", "read_program", "_law_whole", "_law_cell_at", "_law_mix", "_law_numbers", "_law_address", "_law_argument", "_law_call_by", "_law_words_by", "_law_program_by"]
def loose1 : List PySem.Str := ["_law_text_of", "_law_steps"]
def loose : List PySem.Str := loose0 ++ loose1
abbrev hk : PySem.W.Hook := hookL asF fas fns tbs exB
theorem see_l (w : World) (os : OsState) : looksF R.prog (boot_heap w.params) (st3 w os).abs = true := by
  kernel_rfl
theorem see_s (w : World) (os : OsState) : seenQ (PySem.W.view R.prog [29]) loose (importedModules R.prog.main.body) (fun s => PySem.W.xlAt (PySem.W.view R.prog [29]) [] s && PySem.W.recOk R.toRowW.records s) (st3 w os).abs = PySem.W.openGood (PySem.W.view R.prog [29]) loose := by
  kernel_rfl
theorem see_f0 (w : World) (os : OsState) : (fa0 ++ fa1).all (fun f => f.ok (kAt asF (st3 w os))) = true := by
  kernel_rfl
theorem see_d (w : World) (os : OsState) : (fns.all (fun d => d.ok (kAt asF (st3 w os))), fns.map fun d => He.fnW (kAt asF (st3 w os)) d.at_) = (true, fns.map He.DefD.val) := by
  kernel_rfl
theorem see_t (w : World) (os : OsState) : (tbs.map fun t => He.dicW (kAt asF (st3 w os)) (t.1 (kAt asF (st3 w os)))) = (tbs.map fun t => some (He.keysIn w.params t.2)) := by
  kernel_rfl
theorem see_e0 (w : World) (os : OsState) : [(exL0 (kAt asF (st3 w os))).all id].all id = true := by
  kernel_rfl
theorem see (w : World) (os : OsState) : hk.obs (st3 w os).abs = hk.val w := by
  have hf0 := see_f0 w os
  have he0 := see_e0 w os
  have h1 : (fas.all fun f => f.ok (kAt asF (st3 w os))) = true := by
    simp only [List.all_append, Bool.and_eq_true] at hf0
    unfold fas
    simp only [List.all_append, Bool.and_eq_true]
    simp only [hf0, and_self]
  have h4 : exB (kAt asF (st3 w os)) = true := by
    simp only [List.all_cons, List.all_nil, Bool.and_true, id, Bool.and_eq_true] at he0
    unfold exB exL
    simp only [List.all_cons, List.all_nil, Bool.and_true, id, Bool.and_eq_true]
    simp only [he0, and_self]
  exact obL_of h1 (see_d w os) (see_t w os) h4
end
end Ow
namespace Ow
open PySem PySem.Spec PyProof.Rows L2
/-! ## My own layer: what a def owns (cells), a def that may be called, readings that stop at calls and loops -/
/-! ### cells -/
abbrev Cells := List (Addr × HO)
def adr (cs : Cells) : List Addr := cs.map Prod.fst
/-- from H0, of which the addresses A are ours, we have come to H; the cells cs stand there, each once; the rest of H0 is as it was, new cells were free in H0, tuples stay -/
structure Own (H0 H : Hp) (A : List Addr) (cs : Cells) : Prop where
  at_ : ∀ a o, (a, o) ∈ cs → H a = some o
  nd : (adr cs).Nodup
  fr : ∀ b o, H0 b = some o → b ∉ A → H b = some o
  nw : ∀ b, b ∈ adr cs → b ∈ A ∨ H0 b = none
  tp : ∀ b xs, H0 b = some (.tup xs) → H b = some (.tup xs)
theorem adr_cons {c : Addr × HO} {r : Cells} : adr (c :: r) = c.1 :: adr r := rfl
theorem adr_app {s r : Cells} : adr (s ++ r) = adr s ++ adr r := List.map_append
theorem Own.start {H : Hp} (h : ∀ b xs, H b = some (.tup xs) → H b = some (.tup xs) := fun _ _ h => h) : Own H H [] [] :=
  ⟨fun _ _ m => (nomatch m), List.nodup_nil, fun _ _ h _ => h, fun _ m => (nomatch m), h⟩
/-- where the cell of an address stands, and the row with another thing there -/
inductive At : Cells → Addr → HO → HO → Cells → Prop
  | here {a o o' r} : At ((a, o) :: r) a o o' ((a, o') :: r)
  | there {c r a o o' r'} : At r a o o' r' → At (c :: r) a o o' (c :: r')
  | app {s r a o o' r'} : At r a o o' r' → At (s ++ r) a o o' (s ++ r')
  | appl {s r a o o' s'} : At s a o o' s' → At (s ++ r) a o o' (s' ++ r)
theorem At.mem {cs cs' : Cells} {a : Addr} {o o' : HO} (h : At cs a o o' cs') : (a, o) ∈ cs := by
  induction h with
  | here => exact List.mem_cons_self
  | there _ ih => exact List.mem_cons_of_mem _ ih
  | app _ ih => exact List.mem_append_right _ ih
  | appl _ ih => exact List.mem_append_left _ ih
theorem At.adr {cs cs' : Cells} {a : Addr} {o o' : HO} (h : At cs a o o' cs') : adr cs' = adr cs := by
  induction h with
  | here => rfl
  | there _ ih => rw [adr_cons, adr_cons, ih]
  | app _ ih => rw [adr_app, adr_app, ih]
  | appl _ ih => rw [adr_app, adr_app, ih]
theorem At.of {cs cs' : Cells} {a : Addr} {o o' : HO} (h : At cs a o o' cs') (nd : (Ow.adr cs).Nodup) : ∀ b u, (b, u) ∈ cs' → (b = a ∧ u = o') ∨ (b ≠ a ∧ (b, u) ∈ cs) := by
  induction h with
  | here =>
    intro b u m
    rcases List.mem_cons.mp m with e | m2
    · cases e; exact .inl ⟨rfl, rfl⟩
    · refine .inr ⟨fun e => ?_, List.mem_cons_of_mem _ m2⟩
      subst e
      exact (List.nodup_cons.mp nd).1 (List.mem_map.mpr ⟨_, m2, rfl⟩)
  | @there c r a o o' r' h ih =>
    intro b u m
    obtain ⟨n1, n2⟩ := List.nodup_cons.mp nd
    rcases List.mem_cons.mp m with e | m
    · subst e
      refine .inr ⟨fun e => ?_, List.mem_cons_self⟩
      exact n1 (List.mem_map.mpr ⟨_, h.mem, e.symm⟩)
    · rcases ih n2 b u m with z | ⟨z1, z2⟩
      · exact .inl z
      · exact .inr ⟨z1, List.mem_cons_of_mem _ z2⟩
  | @app s r a o o' r' h ih =>
    intro b u m
    rw [adr_app] at nd
    obtain ⟨n1, n2, n3⟩ := List.nodup_append.mp nd
    rcases List.mem_append.mp m with m | m
    · refine .inr ⟨fun e => ?_, List.mem_append_left _ m⟩
      subst e
      exact n3 _ (List.mem_map.mpr ⟨_, m, rfl⟩) _ (List.mem_map.mpr ⟨_, h.mem, rfl⟩) rfl
    · rcases ih n2 b u m with z | ⟨z1, z2⟩
      · exact .inl z
      · exact .inr ⟨z1, List.mem_append_right _ z2⟩
  | @appl s r a o o' s' h ih =>
    intro b u m
    rw [adr_app] at nd
    obtain ⟨n1, n2, n3⟩ := List.nodup_append.mp nd
    rcases List.mem_append.mp m with m | m
    · rcases ih n1 b u m with z | ⟨z1, z2⟩
      · exact .inl z
      · exact .inr ⟨z1, List.mem_append_left _ z2⟩
    · refine .inr ⟨fun e => ?_, List.mem_append_right _ m⟩
      subst e
      exact n3 _ (List.mem_map.mpr ⟨_, h.mem, rfl⟩) _ (List.mem_map.mpr ⟨_, m, rfl⟩) rfl
def isTup : HO → Bool
  | .tup _ => true
  | _ => false
/-- a block of cells within, and the row with another block in its place -/
inductive Sub : Cells → Cells → Cells → Cells → Prop
  | all {s s'} : Sub s s s' s'
  | here {s s' r} : Sub (s ++ r) s s' (s' ++ r)
  | one {c s' r} : Sub (c :: r) [c] s' (s' ++ r)
  | two {c d s' r} : Sub (c :: d :: r) [c, d] s' (s' ++ r)
  | nil {r s'} : Sub r [] s' (s' ++ r)
  | there {c r s s' r'} : Sub r s s' r' → Sub (c :: r) s s' (c :: r')
  | app {t r s s' r'} : Sub r s s' r' → Sub (t ++ r) s s' (t ++ r')
  | appl {t r s s' t'} : Sub t s s' t' → Sub (t ++ r) s s' (t' ++ r)
theorem Sub.split {cs s s' cs' : Cells} (h : Sub cs s s' cs') : ∃ l r, cs = l ++ (s ++ r) ∧ cs' = l ++ (s' ++ r) := by
  induction h with
  | all => exact ⟨[], [], by simp, by simp⟩
  | here => exact ⟨[], _, rfl, rfl⟩
  | one => exact ⟨[], _, rfl, rfl⟩
  | two => exact ⟨[], _, rfl, rfl⟩
  | nil => exact ⟨[], _, rfl, rfl⟩
  | @there c r s s' r' _ ih =>
    obtain ⟨l, t, e1, e2⟩ := ih
    exact ⟨c :: l, t, by rw [e1]; rfl, by rw [e2]; rfl⟩
  | @app t r s s' r' _ ih =>
    obtain ⟨l, q, e1, e2⟩ := ih
    exact ⟨t ++ l, q, by rw [e1, List.append_assoc], by rw [e2, List.append_assoc]⟩
  | @appl t r s s' t' _ ih =>
    obtain ⟨l, q, e1, e2⟩ := ih
    exact ⟨l, q ++ r, by rw [e1]; simp only [List.append_assoc], by rw [e2]; simp only [List.append_assoc]⟩
section
variable {H0 H H' : Hp} {A : List Addr} {cs cs' s s' : Cells} {a p : Addr} {o o' : HO}
theorem Own.get (O : Own H0 H A cs) (m : (a, o) ∈ cs) : H a = some o := O.at_ a o m
theorem Own.tup {t : Addr} {xs : List V} (O : Own H0 H A cs) (h : H0 t = some (.tup xs)) : H t = some (.tup xs) := O.tp t xs h
/-- a cell is written -/
theorem Own.wr (O : Own H0 H A cs) (h : At cs a o o' cs') (n : isTup o = false := by rfl) : Own H0 (upd H a o') A cs' := by
  have ha := O.at_ a o h.mem
  refine ⟨fun b u m => ?_, by rw [h.adr]; exact O.nd, fun b u e hb => ?_, fun b m => O.nw b (by rw [← h.adr]; exact m), fun b xs e => ?_⟩
  · rcases h.of O.nd b u m with ⟨rfl, rfl⟩ | ⟨e, m⟩
    · exact upd_same
    · rw [upd_ne e]; exact O.at_ b u m
  · rw [upd_ne]
    · exact O.fr b u e hb
    · rintro rfl
      rcases O.nw b (List.mem_map.mpr ⟨_, h.mem, rfl⟩) with z | z
      · exact hb z
      · rw [z] at e; cases e
  · have e1 := O.tp b xs e
    rw [upd_ne]
    · exact e1
    · rintro rfl
      rw [e1] at ha
      cases ha
      cases n
/-- a new cell -/
theorem Own.new (O : Own H0 H A cs) (h : H p = none) : Own H0 (upd H p o) A ((p, o) :: cs) := by
  have hn : p ∉ adr cs := fun m => by
    obtain ⟨c, hc, e⟩ := List.mem_map.mp m
    have := O.at_ c.1 c.2 hc
    rw [e, h] at this
    cases this
  have ne : ∀ b u, H b = some u → b ≠ p := fun b u e z => by rw [z, h] at e; cases e
  by_cases hA : p ∈ A
  · refine ⟨fun b u m => ?_, List.nodup_cons.mpr ⟨hn, O.nd⟩, fun b u e hb => ?_, fun b m => ?_, fun b xs e => ?_⟩
    · rcases List.mem_cons.mp m with z | z
      · cases z; exact upd_same
      · rw [upd_ne (ne b u (O.at_ b u z))]; exact O.at_ b u z
    · rw [upd_ne (ne b u (O.fr b u e hb))]; exact O.fr b u e hb
    · rcases List.mem_cons.mp m with z | z
      · exact .inl (by rw [z]; exact hA)
      · exact O.nw b z
    · rw [upd_ne (ne b _ (O.tp b xs e))]; exact O.tp b xs e
  · have h0 : H0 p = none := by
      cases q : H0 p with
      | none => rfl
      | some u =>
        rw [O.fr p u q hA] at h
        cases h
    refine ⟨fun b u m => ?_, List.nodup_cons.mpr ⟨hn, O.nd⟩, fun b u e hb => ?_, fun b m => ?_, fun b xs e => ?_⟩
    · rcases List.mem_cons.mp m with z | z
      · cases z; exact upd_same
      · rw [upd_ne (ne b u (O.at_ b u z))]; exact O.at_ b u z
    · rw [upd_ne (ne b u (O.fr b u e hb))]; exact O.fr b u e hb
    · rcases List.mem_cons.mp m with z | z
      · exact .inr (by rw [z]; exact h0)
      · exact O.nw b z
    · rw [upd_ne (ne b _ (O.tp b xs e))]; exact O.tp b xs e
/-- a new tuple: it needs no owner -/
theorem Own.newT (O : Own H0 H A cs) (h : H p = none) : Own H0 (upd H p o) A cs :=
  have O' := O.new (o := o) h
  ⟨fun b u m => O'.at_ b u (List.mem_cons_of_mem _ m), O.nd, O'.fr, O.nw, O'.tp⟩
/-- fewer cells -/
theorem Own.drop (O : Own H0 H A cs) (h : List.Sublist cs' cs) : Own H0 H A cs' :=
  ⟨fun b u m => O.at_ b u (h.subset m), O.nd.sublist (h.map _), O.fr, fun b m => O.nw b ((h.map _).subset m), O.tp⟩
theorem Own.perm (O : Own H0 H A cs) (h : cs.Perm cs') : Own H0 H A cs' :=
  ⟨fun b u m => O.at_ b u (h.mem_iff.mpr m), (h.map _).nodup_iff.mp O.nd, O.fr, fun b m => O.nw b ((h.map _).mem_iff.mpr m), O.tp⟩
/-- a block of it, as what a callee is handed -/
theorem Own.blk (O : Own H0 H A cs) (h : Sub cs s s' cs') : Own H H (adr s) s := by
  obtain ⟨l, r, rfl, _⟩ := h.split
  have nd := O.nd
  rw [adr_app, adr_app] at nd
  exact ⟨fun b u m => O.at_ b u (List.mem_append_right _ (List.mem_append_left _ m)), (List.nodup_append.mp (List.nodup_append.mp nd).2.1).1, fun _ _ e _ => e, fun _ m => .inl m, fun _ _ e => e⟩
/-- behind the call -/
theorem Own.call (O : Own H0 H A cs) (h : Sub cs s s' cs') (C : Own H H' (adr s) s') : Own H0 H' A cs' := by
  obtain ⟨l, r, rfl, rfl⟩ := h.split
  have nd := O.nd
  simp only [adr_app] at nd
  obtain ⟨n1, n2, n3⟩ := List.nodup_append.mp nd
  obtain ⟨n4, n5, n6⟩ := List.nodup_append.mp n2
  have out : ∀ b u, ((b, u) ∈ l ∨ (b, u) ∈ r) → H' b = some u := fun b u m => by
    have hb : b ∉ adr s := fun z => by
      rcases m with m | m
      · exact n3 b (List.mem_map.mpr ⟨_, m, rfl⟩) b (List.mem_append_left _ z) rfl
      · exact n6 b z b (List.mem_map.mpr ⟨_, m, rfl⟩) rfl
    refine C.fr b u (O.at_ b u ?_) hb
    rcases m with m | m
    · exact List.mem_append_left _ m
    · exact List.mem_append_right _ (List.mem_append_right _ m)
  have sep : ∀ b, b ∈ adr s' → (b ∈ adr l ∨ b ∈ adr r) → False := fun b m z => by
    obtain ⟨u, hu⟩ : ∃ u, ((b, u) ∈ l ∨ (b, u) ∈ r) := by
      rcases z with z | z
      · obtain ⟨c, hc, e⟩ := List.mem_map.mp z
        exact ⟨c.2, .inl (by rw [← e]; exact hc)⟩
      · obtain ⟨c, hc, e⟩ := List.mem_map.mp z
        exact ⟨c.2, .inr (by rw [← e]; exact hc)⟩
    rcases C.nw b m with q | q
    · rcases z with z | z
      · exact n3 b z b (List.mem_append_left _ q) rfl
      · exact n6 b q b z rfl
    · have e : H b = some u := O.at_ b u (by
        rcases hu with m | m
        · exact List.mem_append_left _ m
        · exact List.mem_append_right _ (List.mem_append_right _ m))
      rw [q] at e
      cases e
  refine ⟨fun b u m => ?_, ?_, fun b u e hb => ?_, fun b m => ?_, fun b xs e => C.tp b xs (O.tp b xs e)⟩
  · rcases List.mem_append.mp m with m | m
    · exact out b u (.inl m)
    · rcases List.mem_append.mp m with m | m
      · exact C.at_ b u m
      · exact out b u (.inr m)
  · simp only [adr_app]
    refine List.nodup_append.mpr ⟨n1, List.nodup_append.mpr ⟨C.nd, n5, fun x hx y hy e => ?_⟩, fun x hx y hy e => ?_⟩
    · subst e
      exact sep x hx (.inr hy)
    · subst e
      rcases List.mem_append.mp hy with z | z
      · exact sep x z (.inl hx)
      · exact n3 x hx x (List.mem_append_right _ z) rfl
  · refine C.fr b u (O.fr b u e hb) fun z => ?_
    rcases O.nw b (by simp only [adr_app]; exact List.mem_append_right _ (List.mem_append_left _ z)) with q | q
    · exact hb q
    · rw [q] at e
      cases e
  · simp only [adr_app] at m
    rcases List.mem_append.mp m with m | m
    · exact O.nw b (by simp only [adr_app]; exact List.mem_append_left _ m)
    · rcases List.mem_append.mp m with m | m
      · rcases C.nw b m with z | z
        · exact O.nw b (by simp only [adr_app]; exact List.mem_append_right _ (List.mem_append_left _ z))
        · by_cases hA : b ∈ A
          · exact .inl hA
          · refine .inr ?_
            cases q : H0 b with
            | none => rfl
            | some u =>
              rw [O.fr b u q hA] at z
              cases z
      · exact O.nw b (by simp only [adr_app]; exact List.mem_append_right _ (List.mem_append_right _ m))
end
end Ow
namespace Ow
open PySem PySem.Spec PyProof.Rows L2
/-! ### where a walk stops -/
structure Box (p : Prop) : Prop where
  out : p
theorem PE.box {X : Cx} {e : Expr} {t : TE} (h : PE X e t) : PE X e (fun σ H Q => t σ H fun v H1 => Box (Q v H1)) :=
  ⟨fun pins s σ H Q I q => thn (h.run pins s σ H _ I q) fun _ _ ⟨x, H1, I1, r1, q1⟩ => ⟨x, H1, I1, r1, q1.out⟩⟩
theorem PA.box {X : Cx} {es : List Expr} {t : TA} (h : PA X es t) : PA X es (fun σ H Q => t σ H fun v H1 => Box (Q v H1)) :=
  ⟨fun pos pins s σ H Q I q => thn (h.run pos pins s σ H _ I q) fun _ _ ⟨x, H1, I1, r1, q1⟩ => ⟨x, H1, I1, r1, q1.out⟩⟩
theorem PI.box {X : Cx} {tg e : Expr} {w : TI} (h : PI X tg e w) : PI X tg e (fun σ H R => w σ H fun J H1 => Box (R J H1)) :=
  ⟨fun pins s σ H R I q => thn (h.run pins s σ H _ I q) fun _ _ h1 => thn h1 fun _ _ ⟨it, fp, tn, J, H', e, I', T, t0, f, r⟩ => ⟨it, fp, tn, J, H', e, I', T, t0, f, r.out⟩⟩
/-- a reading as it stands, not reckoned out -/
def tW (t : TS) : TS := t
theorem PS.box {X : Cx} {st : Stmt} {t : TS} (h : PS X st t) : PS X st (fun D σ H => Box (tW t D σ H)) :=
  ⟨fun pins s σ H D I q => h.run pins s σ H D I q.out⟩
theorem PE.alt {X : Cx} {e : Expr} {t u : TE} (h : PE X e t) (h' : PE X e u) : PE X e (fun σ H Q => t σ H Q ∨ u σ H Q) :=
  ⟨fun pins s σ H Q I q => q.elim (h.run pins s σ H Q I) (h'.run pins s σ H Q I)⟩
/-- a promise that a walk stops at -/
def bx (sp : Sp) : Sp := fun vs H Q E => Box (sp vs H Q E)
/-- of a def that nobody calls: nothing may be asked -/
def spWall : Sp := fun _ _ _ _ => False
/-- a def that may be called: it keeps its promise -/
structure Cee (P : Program) (w : World) (K : PySem.W.Frag) (mg : Str → Option Value) (base : Heap) (k : Nat) (f : Addr) (ps : List Str) (sp : Sp) : Prop where
  kp : PySem.W.keepIn K (.ref f) = true
  fn : ∃ fd, FnOk P w K mg base (L2.CX P w) k f fd ps (bx sp) ∧ Binds K fd ps []
section
variable {P : Program} {w : World} {K : PySem.W.Frag} {mg : Str → Option Value} {base : Heap}
theorem cee_of {x qual : Str} {params : Arguments} {body : List Stmt} {scope : Scope} {f : Addr} {N ps : List Str} {k : Nat} {sp : Sp} (F : ∃ fd, FunD K x qual params body scope [] [] f fd) (S : FnScope N ps scope)
    (hb : ∀ (kV doc pm : Value) (an : Option Addr) (cdv ct : Value) (us : List Value), us.length = ps.length → bindArgs (PySem.W.fnOf x qual params body scope .none kV doc pm an cdv ct) ⟨us, []⟩ = pure (ps.zip us))
    (len : ∀ vs H Q E, sp vs H Q E → vs.length = ps.length)
    (hbody : ∀ (cdv : Value) (A : Around) (outer : List Env) (s : Shared) (H : Hp) (vs : List V) (Q : VK) (E : XK), Room k (A.deeper (envOfC qual scope s.heap.objs.size f cdv)) → sp vs H Q E →
      ∃ t, PSs (cxOf (L2.CX P w) P w K mg base N qual scope f cdv A outer s H E) body t ∧ t { nx := fun _ H' => Q .non H', rt := Q } (start N vs) H) : Cee P w K mg base (k + 1) f ps sp := by
  obtain ⟨fd, F⟩ := F
  exact ⟨F.kp, fd, FunD.ok F S (fun vs H Q E h => len vs H Q E h.out) (fun cdv A outer s H vs Q E hr h => hbody cdv A outer s H vs Q E hr h.out), F.bindsN hb⟩
end
section
variable {X : Cx} {k : Nat} {f C : Addr} {ps : List Str} {sp : Sp} {W : WX} {x m : Str} {p pos apos : Pos} {e o : Expr} {es : List Expr} {ta : TE} {t : TA}
theorem pe_f (c : Cee X.prog X.w X.K X.mg X.base k f ps sp) (hr : Room k X.A) (tk : Takes X W) (hg : Gl X x) (hm : X.mg x = some (.ref f)) (ha : PA X (e :: es) t) (hdb : (x == ("__debug__" : Str)) = false := by decide)
    (he : starEach (e :: es) X.env = (false, eval e X.env) :: starEach es X.env := by rfl) (hpl : (backTo pos (starEach es X.env)).any (·.1) = false := by rfl) :
    PE X (.Call (.Name x p) (e :: es) [] pos) (tCallS (bx sp) (WE W) t) := by
  obtain ⟨fd, F, b⟩ := c.fn
  exact pe_callS F hr hg hm c.kp b (fun σ => passAt tk σ) ha hdb he hpl
theorem pe_f0 (c : Cee X.prog X.w X.K X.mg X.base k f ps sp) (hr : Room k X.A) (tk : Takes X W) (hg : Gl X x) (hm : X.mg x = some (.ref f)) (hdb : (x == ("__debug__" : Str)) = false := by decide) :
    PE X (.Call (.Name x p) [] [] pos) (fun σ H Q => bx sp [] H Q (WE W σ)) := by
  obtain ⟨fd, F, b⟩ := c.fn
  refine ⟨fun pins s σ H Q I h => ?_⟩
  refine wpAny_Call_Name_kw (ld_glob I hg hm ?_ hdb)
  exact PySem.W.callWith_K0 I.kIn c.kp (run_fnS (us := []) (E := WE W) F hr b (passAt tk σ) I .nil h)
/-- o.m(e, ..) -/
def tM (C : Addr) (m : Str) (sp : Sp) (W : WX) (ta : TE) (t : TA) : TE := fun σ H Q => ta σ H fun x H1 => ∃ a dx fs, x = .ref a ∧ H1 a = some (.ins C dx fs) ∧ fs.lookup m = none ∧ t σ H1 fun vs H2 => bx sp (x :: vs) H2 Q (WE W σ)
theorem pe_m {pl : Sem Bool} (ho : PE X o ta) (cl : Cls X.K C) (hm : Meth X.K C m f) (c : Cee X.prog X.w X.K X.mg X.base k f ps sp) (hr : Room k X.A) (tk : Takes X W) (ha : PA X (e :: es) t)
    (hst : starEach (e :: es) X.env = (false, eval e X.env) :: starEach es X.env := by rfl) (hpl : (backTo pos (starEach es X.env)).any (·.1) = false := by rfl)
    (ht : eval (.Call (.Attribute o m apos) (e :: es) [] pos) X.env = (do
      let ov ← eval o X.env
      standAt apos.atName
      let (f, first) ← holding [ov] (getMethod ov m pl)
      callWith pos f first (backTo pos (starEach (e :: es) X.env)) (backToKw pos (keywordEach [] X.env))) := by rfl) :
    PE X (.Call (.Attribute o m apos) (e :: es) [] pos) (tM C m sp W ta t) := by
  obtain ⟨fd, F, b⟩ := c.fn
  refine ⟨fun pins s σ H Q I h => ?_⟩
  refine PySem.W.methodCall_KW (pl := pl) (thn (ho.run pins s σ H _ I h) fun u s1 ⟨y, H1, I1, ry, a, dx, fs, ey, ea, l, q⟩ => ?_) ht
  subst ey
  obtain rfl : u = Value.ref a := ry
  refine getmeth_ok I1 ea cl hm l ?_
  refine PySem.W.callWith_K (first := [.ref a]) (h₀ := X.base) I.ok.mod.kin hm.kp (thn (ha.run pos pins s1 σ H1 _ I1 q) fun us s2 ⟨vs, H2, I2, rv, q2⟩ => ⟨I2.kIn, ?_⟩) hst hpl
  exact run_fnS (us := .ref a :: us) (vs := .ref a :: vs) (E := WE W) F hr b (passAt tk σ) I2 (.cons rfl rv) q2
def tM0 (C : Addr) (m : Str) (sp : Sp) (W : WX) (ta : TE) : TE := fun σ H Q => ta σ H fun x H1 => ∃ a dx fs, x = .ref a ∧ H1 a = some (.ins C dx fs) ∧ fs.lookup m = none ∧ bx sp [x] H1 Q (WE W σ)
theorem pe_m0 {pl : Sem Bool} (ho : PE X o ta) (cl : Cls X.K C) (hm : Meth X.K C m f) (c : Cee X.prog X.w X.K X.mg X.base k f ps sp) (hr : Room k X.A) (tk : Takes X W)
    (ht : eval (.Call (.Attribute o m apos) [] [] pos) X.env = (do
      let ov ← eval o X.env
      standAt apos.atName
      let (f, first) ← holding [ov] (getMethod ov m pl)
      callWith pos f first (backTo pos (starEach [] X.env)) (backToKw pos (keywordEach [] X.env))) := by rfl) :
    PE X (.Call (.Attribute o m apos) [] [] pos) (tM0 C m sp W ta) := by
  obtain ⟨fd, F, b⟩ := c.fn
  refine ⟨fun pins s σ H Q I h => ?_⟩
  refine PySem.W.methodCall_KW (pl := pl) (thn (ho.run pins s σ H _ I h) fun u s1 ⟨y, H1, I1, ry, a, dx, fs, ey, ea, l, q⟩ => ?_) ht
  subst ey
  obtain rfl : u = Value.ref a := ry
  refine getmeth_ok I1 ea cl hm l ?_
  exact PySem.W.callWith_K0 (first := [.ref a]) I1.kIn hm.kp (run_fnS (us := [.ref a]) (vs := [.ref a]) (E := WE W) F hr b (passAt tk σ) I1 (.cons rfl .nil) q)
/-- C(e, ..): its __init__ lets nothing out -/
theorem pe_n (M : Mk X.K C f) (c : Cee X.prog X.w X.K X.mg X.base k f ps sp) (hr : Room (k + 1) X.A) (hg : Gl X x) (hm : X.mg x = some (.ref C)) (ha : PA X (e :: es) t) (hdb : (x == ("__debug__" : Str)) = false := by decide)
    (he : starEach (e :: es) X.env = (false, eval e X.env) :: starEach es X.env := by rfl) (hpl : (backTo pos (starEach es X.env)).any (·.1) = false := by rfl) :
    PE X (.Call (.Name x p) (e :: es) [] pos) (tMake C (bx sp) [] E0 t) := by
  obtain ⟨fd, F, b⟩ := c.fn
  exact pe_make M F hr hg hm b .nil passL ha hdb he hpl
theorem pe_n0 (M : Mk X.K C f) (c : Cee X.prog X.w X.K X.mg X.base k f ps sp) (hr : Room (k + 1) X.A) (hg : Gl X x) (hm : X.mg x = some (.ref C)) (hdb : (x == ("__debug__" : Str)) = false := by decide) :
    PE X (.Call (.Name x p) [] [] pos) (tMake C (bx sp) [] E0 tNil) := by
  obtain ⟨fd, F, b⟩ := c.fn
  exact pe_make0 M F hr hg hm b .nil passL hdb
end
/-! ### what a closer knows -/
theorem sl_of {σ : List (Option V)} {i : Nat} {v : V} (h : σ[i]? = some (some v)) : σ[i]? = some (some v) := h
theorem veq_of {x y : V} (h : x = y) : x = y := h
theorem lsq_of {x y : List V} (h : x = y) : x = y := h
theorem sc_of {x y : V} (h : scal x y = true) : scal x y = true := h
theorem lk_of {fs : List (Str × V)} {f : Str} {v : V} (h : fs.lookup f = some v) : fs.lookup f = some v := h
theorem lkn_of {fs : List (Str × V)} {f : Str} (h : fs.lookup f = none) : fs.lookup f = none := h
theorem lt_of {fs : List (Str × V)} (h : fs.length < 1000) : fs.length < 1000 := h
theorem hp_of {H : Hp} {a : Addr} {o : HO} (h : H a = some o) : H a = some o := h
theorem cd_of {i j : Int} (h : 0 < j ∧ j < 1073741824) : CDiv i j := h
theorem cm_l {i j : Int} (h : -(2 ^ 64) < i ∧ i < 2 ^ 64) : CMul i j := .inl h
theorem cm_r {i j : Int} (h : -(2 ^ 64) < j ∧ j < 2 ^ 64) : CMul i j := .inr h
theorem sz_le {n : Nat} (h : n ≤ 100000) : n ≤ sizeLine := Nat.le_trans h (by decide)
theorem sz_lt {n : Nat} (h : n < 100000) : n < sizeLine := Nat.lt_of_lt_of_le h (by decide)
/-! ### tests -/
theorem if_d {p A B : Prop} [Decidable p] (h1 : p → A) (h2 : ¬ p → B) : if decide p = true then A else B := by
  by_cases h : p
  · rw [if_pos (decide_eq_true h)]; exact h1 h
  · rw [if_neg (by rw [decide_eq_false h]; exact Bool.false_ne_true)]; exact h2 h
theorem if_nd {p A B : Prop} [Decidable p] (h1 : ¬ p → A) (h2 : p → B) : if (!decide p) = true then A else B := by
  by_cases h : p
  · rw [decide_eq_true h, if_neg (by decide)]; exact h2 h
  · rw [decide_eq_false h, if_pos (by decide)]; exact h1 h
theorem if_ii {a b : Int} {A B : Prop} (h1 : a = b → A) (h2 : ¬ a = b → B) : if decide (V.int a = V.int b) = true then A else B :=
  if_d (fun h => h1 (V.int.inj h)) fun h => h2 fun e => h (by rw [e])
theorem if_nii {a b : Int} {A B : Prop} (h1 : ¬ a = b → A) (h2 : a = b → B) : if (!decide (V.int a = V.int b)) = true then A else B :=
  if_nd (fun h => h1 fun e => h (by rw [e])) fun h => h2 (V.int.inj h)
theorem if_ss {a b : Str} {A B : Prop} (h1 : a = b → A) (h2 : ¬ a = b → B) : if decide (V.str a = V.str b) = true then A else B :=
  if_d (fun h => h1 (V.str.inj h)) fun h => h2 fun e => h (by rw [e])
theorem if_nss {a b : Str} {A B : Prop} (h1 : ¬ a = b → A) (h2 : a = b → B) : if (!decide (V.str a = V.str b)) = true then A else B :=
  if_nd (fun h => h1 fun e => h (by rw [e])) fun h => h2 (V.str.inj h)
theorem if_b {b : Bool} {A B : Prop} (h1 : b = true → A) (h2 : b = false → B) : if b = true then A else B := by
  cases b with
  | true => exact h1 rfl
  | false => exact h2 rfl
theorem if_nb {b : Bool} {A B : Prop} (h1 : b = false → A) (h2 : b = true → B) : if (!b) = true then A else B := by
  cases b with
  | true => exact h2 rfl
  | false => exact h1 rfl
theorem kt_int_int {K : PySem.W.Frag} : PySem.W.kitOne K (.type "int") (.type "int") = some true := kit_ty (by decide +kernel)
theorem kt_int_bool {K : PySem.W.Frag} : PySem.W.kitOne K (.type "int") (.type "bool") = some false := kit_ty (by decide +kernel)
theorem kt_int_str {K : PySem.W.Frag} : PySem.W.kitOne K (.type "int") (.type "str") = some false := kit_ty (by decide +kernel)
theorem kt_int_list {K : PySem.W.Frag} : PySem.W.kitOne K (.type "int") (.type "list") = some false := kit_ty (by decide +kernel)
theorem kt_int_tuple {K : PySem.W.Frag} : PySem.W.kitOne K (.type "int") (.type "tuple") = some false := kit_ty (by decide +kernel)
theorem kt_int_dict {K : PySem.W.Frag} : PySem.W.kitOne K (.type "int") (.type "dict") = some false := kit_ty (by decide +kernel)
theorem kt_bool_int {K : PySem.W.Frag} : PySem.W.kitOne K (.type "bool") (.type "int") = some true := kit_ty (by decide +kernel)
theorem kt_bool_bool {K : PySem.W.Frag} : PySem.W.kitOne K (.type "bool") (.type "bool") = some true := kit_ty (by decide +kernel)
theorem kt_bool_str {K : PySem.W.Frag} : PySem.W.kitOne K (.type "bool") (.type "str") = some false := kit_ty (by decide +kernel)
theorem kt_bool_list {K : PySem.W.Frag} : PySem.W.kitOne K (.type "bool") (.type "list") = some false := kit_ty (by decide +kernel)
theorem kt_bool_tuple {K : PySem.W.Frag} : PySem.W.kitOne K (.type "bool") (.type "tuple") = some false := kit_ty (by decide +kernel)
theorem kt_bool_dict {K : PySem.W.Frag} : PySem.W.kitOne K (.type "bool") (.type "dict") = some false := kit_ty (by decide +kernel)
theorem kt_str_int {K : PySem.W.Frag} : PySem.W.kitOne K (.type "str") (.type "int") = some false := kit_ty (by decide +kernel)
theorem kt_str_bool {K : PySem.W.Frag} : PySem.W.kitOne K (.type "str") (.type "bool") = some false := kit_ty (by decide +kernel)
theorem kt_str_str {K : PySem.W.Frag} : PySem.W.kitOne K (.type "str") (.type "str") = some true := kit_ty (by decide +kernel)
theorem kt_str_list {K : PySem.W.Frag} : PySem.W.kitOne K (.type "str") (.type "list") = some false := kit_ty (by decide +kernel)
theorem kt_str_tuple {K : PySem.W.Frag} : PySem.W.kitOne K (.type "str") (.type "tuple") = some false := kit_ty (by decide +kernel)
theorem kt_str_dict {K : PySem.W.Frag} : PySem.W.kitOne K (.type "str") (.type "dict") = some false := kit_ty (by decide +kernel)
theorem kt_list_int {K : PySem.W.Frag} : PySem.W.kitOne K (.type "list") (.type "int") = some false := kit_ty (by decide +kernel)
theorem kt_list_bool {K : PySem.W.Frag} : PySem.W.kitOne K (.type "list") (.type "bool") = some false := kit_ty (by decide +kernel)
theorem kt_list_str {K : PySem.W.Frag} : PySem.W.kitOne K (.type "list") (.type "str") = some false := kit_ty (by decide +kernel)
theorem kt_list_list {K : PySem.W.Frag} : PySem.W.kitOne K (.type "list") (.type "list") = some true := kit_ty (by decide +kernel)
theorem kt_list_tuple {K : PySem.W.Frag} : PySem.W.kitOne K (.type "list") (.type "tuple") = some false := kit_ty (by decide +kernel)
theorem kt_list_dict {K : PySem.W.Frag} : PySem.W.kitOne K (.type "list") (.type "dict") = some false := kit_ty (by decide +kernel)
theorem kt_tuple_int {K : PySem.W.Frag} : PySem.W.kitOne K (.type "tuple") (.type "int") = some false := kit_ty (by decide +kernel)
theorem kt_tuple_bool {K : PySem.W.Frag} : PySem.W.kitOne K (.type "tuple") (.type "bool") = some false := kit_ty (by decide +kernel)
theorem kt_tuple_str {K : PySem.W.Frag} : PySem.W.kitOne K (.type "tuple") (.type "str") = some false := kit_ty (by decide +kernel)
theorem kt_tuple_list {K : PySem.W.Frag} : PySem.W.kitOne K (.type "tuple") (.type "list") = some false := kit_ty (by decide +kernel)
theorem kt_tuple_tuple {K : PySem.W.Frag} : PySem.W.kitOne K (.type "tuple") (.type "tuple") = some true := kit_ty (by decide +kernel)
theorem kt_tuple_dict {K : PySem.W.Frag} : PySem.W.kitOne K (.type "tuple") (.type "dict") = some false := kit_ty (by decide +kernel)
theorem kt_dict_int {K : PySem.W.Frag} : PySem.W.kitOne K (.type "dict") (.type "int") = some false := kit_ty (by decide +kernel)
theorem kt_dict_bool {K : PySem.W.Frag} : PySem.W.kitOne K (.type "dict") (.type "bool") = some false := kit_ty (by decide +kernel)
theorem kt_dict_str {K : PySem.W.Frag} : PySem.W.kitOne K (.type "dict") (.type "str") = some false := kit_ty (by decide +kernel)
theorem kt_dict_list {K : PySem.W.Frag} : PySem.W.kitOne K (.type "dict") (.type "list") = some false := kit_ty (by decide +kernel)
theorem kt_dict_tuple {K : PySem.W.Frag} : PySem.W.kitOne K (.type "dict") (.type "tuple") = some false := kit_ty (by decide +kernel)
theorem kt_dict_dict {K : PySem.W.Frag} : PySem.W.kitOne K (.type "dict") (.type "dict") = some true := kit_ty (by decide +kernel)
theorem kt_NoneType_int {K : PySem.W.Frag} : PySem.W.kitOne K (.type "NoneType") (.type "int") = some false := kit_ty (by decide +kernel)
theorem kt_NoneType_bool {K : PySem.W.Frag} : PySem.W.kitOne K (.type "NoneType") (.type "bool") = some false := kit_ty (by decide +kernel)
theorem kt_NoneType_str {K : PySem.W.Frag} : PySem.W.kitOne K (.type "NoneType") (.type "str") = some false := kit_ty (by decide +kernel)
theorem kt_NoneType_list {K : PySem.W.Frag} : PySem.W.kitOne K (.type "NoneType") (.type "list") = some false := kit_ty (by decide +kernel)
theorem kt_NoneType_tuple {K : PySem.W.Frag} : PySem.W.kitOne K (.type "NoneType") (.type "tuple") = some false := kit_ty (by decide +kernel)
theorem kt_NoneType_dict {K : PySem.W.Frag} : PySem.W.kitOne K (.type "NoneType") (.type "dict") = some false := kit_ty (by decide +kernel)
end Ow
namespace Ow
open PySem PySem.Spec PyProof.Rows L2
def XcIn (K : PySem.W.Frag) (C : Addr) : Prop := PySem.W.excIn K C He.veBase "ValueError.__new__" = true ∧ PySem.W.keepIn K (.ref C) = true ∧ PySem.W.subIn K (.ref C) (.type "BaseException") = some true ∧ PySem.W.typeIn K (.ref C) = some (.type "type")
theorem gI {mg : Str → Option Value} {x : Str} {i : Int} (h : ∃ t, mg x = some (.int i t)) : ∃ u, mg x = some u ∧ RelV (.int i) u := let ⟨t, e⟩ := h; ⟨_, e, t, rfl⟩
theorem gS {mg : Str → Option Value} {x z : Str} (h : ∃ t, mg x = some (.str z t)) : ∃ u, mg x = some u ∧ RelV (.str z) u := let ⟨t, e⟩ := h; ⟨_, e, t, rfl⟩
/-! ### promises by the number of arguments -/
def sp0 (f : Hp → VK → XK → Prop) : Sp := fun vs H Q E => vs = [] ∧ f H Q E
def sp1 (f : V → Hp → VK → XK → Prop) : Sp := fun vs H Q E => ∃ a, vs = [a] ∧ f a H Q E
def sp2 (f : V → V → Hp → VK → XK → Prop) : Sp := fun vs H Q E => ∃ a b, vs = [a, b] ∧ f a b H Q E
def sp3 (f : V → V → V → Hp → VK → XK → Prop) : Sp := fun vs H Q E => ∃ a b c, vs = [a, b, c] ∧ f a b c H Q E
def sp4 (f : V → V → V → V → Hp → VK → XK → Prop) : Sp := fun vs H Q E => ∃ a b c d, vs = [a, b, c, d] ∧ f a b c d H Q E
def sp5 (f : V → V → V → V → V → Hp → VK → XK → Prop) : Sp := fun vs H Q E => ∃ a b c d e, vs = [a, b, c, d, e] ∧ f a b c d e H Q E
section
variable {vs : List V} {H : Hp} {Q : VK} {E : XK} {a b c d e : V}
theorem sp0_len {f} (h : sp0 f vs H Q E) : vs.length = 0 := by obtain ⟨rfl, _⟩ := h; rfl
theorem sp1_len {f} (h : sp1 f vs H Q E) : vs.length = 1 := by obtain ⟨_, rfl, _⟩ := h; rfl
theorem sp2_len {f} (h : sp2 f vs H Q E) : vs.length = 2 := by obtain ⟨_, _, rfl, _⟩ := h; rfl
theorem sp3_len {f} (h : sp3 f vs H Q E) : vs.length = 3 := by obtain ⟨_, _, _, rfl, _⟩ := h; rfl
theorem sp4_len {f} (h : sp4 f vs H Q E) : vs.length = 4 := by obtain ⟨_, _, _, _, rfl, _⟩ := h; rfl
theorem sp5_len {f} (h : sp5 f vs H Q E) : vs.length = 5 := by obtain ⟨_, _, _, _, _, rfl, _⟩ := h; rfl
theorem ask0 {f} (h : f H Q E) : Box (sp0 f [] H Q E) := ⟨rfl, h⟩
theorem ask1 {f} (h : f a H Q E) : Box (sp1 f [a] H Q E) := ⟨_, rfl, h⟩
theorem ask2 {f} (h : f a b H Q E) : Box (sp2 f [a, b] H Q E) := ⟨_, _, rfl, h⟩
theorem ask3 {f} (h : f a b c H Q E) : Box (sp3 f [a, b, c] H Q E) := ⟨_, _, _, rfl, h⟩
theorem ask4 {f} (h : f a b c d H Q E) : Box (sp4 f [a, b, c, d] H Q E) := ⟨_, _, _, _, rfl, h⟩
theorem ask5 {f} (h : f a b c d e H Q E) : Box (sp5 f [a, b, c, d, e] H Q E) := ⟨_, _, _, _, _, rfl, h⟩
end
end Ow
namespace Ow
open PySem PySem.Spec PyProof.Rows L2
theorem pe_gc {X : Cx} {x : Str} {pos : Pos} {v : V} (hg : Gl X x) (hm : ∃ u, X.mg x = some u ∧ RelV v u) (hd : (x == ("__debug__" : Str)) = false := by decide) : PE X (.Name x pos) (tC v) :=
  let ⟨_, e, r⟩ := hm
  pe_glob hg e r hd
end Ow
namespace Ow
open PySem PySem.Spec PyProof.Rows L2
section
variable {H0 H : Hp} {A : List Addr} {cs : Cells} {x dx C : Addr}
/-- a new instance -/
theorem Own.inst (O : Own H0 H A cs) (h1 : H x = none) (h2 : H dx = none) (ne : dx ≠ x) : Own H0 (upd (upd H dx (.own x)) x (.ins C dx [])) A ((x, .ins C dx []) :: cs) :=
  ((O.new (o := .own x) h2).new (o := .ins C dx []) (p := x) (by rw [upd_ne ne.symm]; exact h1)).drop (List.Sublist.cons₂ _ (List.Sublist.cons _ (List.Sublist.refl _)))
theorem Own.last {c : Addr × HO} (O : Own H0 H A (c :: cs)) : Own H0 H A (cs ++ [c]) := O.perm (List.perm_append_singleton c cs).symm
theorem Own.eq {cs' : Cells} (O : Own H0 H A cs) (e : cs = cs') : Own H0 H A cs' := e ▸ O
theorem Own.adr {A' : List Addr} (O : Own H0 H A cs) (e : A = A') : Own H0 H A' cs := e ▸ O
end
/-! ### loops -/
section
variable {K : PySem.W.Frag} {a : Addr} {xs : List V} {g : TG} {tb : TS} {D : Ends} {σ : L2.St} {H : Hp}
theorem forL (Pv : Nat → L2.St → Hp → Prop) (h0 : Pv 0 σ H) (hl : ∀ i σ H, i ≤ xs.length → Pv i σ H → SqL K H a xs)
    (hs : ∀ i x σ H, xs[i]? = some x → Pv i σ H → g x σ H fun σ2 H2 => tb { D with nx := fun σ H => Box (Pv (i + 1) σ H), ct := fun σ H => Box (Pv (i + 1) σ H), bk := D.nx } σ2 H2) (hd : ∀ σ H, Pv xs.length σ H → D.nx σ H) :
    Box (∃ W : Nat → Nat → L2.St → Hp → Prop, (∃ m, W 0 m σ H) ∧ ∀ i m σ H, W i m σ H →
      ((Itl K a).stop i H ∧ D.nx σ H) ∨ ((Itl K a).go i H ∧ ∃ N : L2.St → Hp → Prop, (∀ σ' H', N σ' H' → ∃ m', m' < m ∧ W (i + 1) m' σ' H') ∧ ∀ x H', (Itl K a).yld i H x H' → g x σ H' fun σ2 H2 => tb { D with nx := N, ct := N, bk := D.nx } σ2 H2)) :=
  ⟨for_list (fun i σ H => Box (Pv i σ H)) ⟨h0⟩ (fun i σ H hi p => hl i σ H hi p.out) (fun i x σ H hx p => hs i x σ H hx p.out) (fun σ H p => hd σ H p.out)⟩
theorem forT (Pv : Nat → L2.St → Hp → Prop) (h0 : Pv 0 σ H) (hl : ∀ i σ H, i ≤ xs.length → Pv i σ H → SqT K H a xs)
    (hs : ∀ i x σ H, xs[i]? = some x → Pv i σ H → g x σ H fun σ2 H2 => tb { D with nx := fun σ H => Box (Pv (i + 1) σ H), ct := fun σ H => Box (Pv (i + 1) σ H), bk := D.nx } σ2 H2) (hd : ∀ σ H, Pv xs.length σ H → D.nx σ H) :
    Box (∃ W : Nat → Nat → L2.St → Hp → Prop, (∃ m, W 0 m σ H) ∧ ∀ i m σ H, W i m σ H →
      ((Itt K a).stop i H ∧ D.nx σ H) ∨ ((Itt K a).go i H ∧ ∃ N : L2.St → Hp → Prop, (∀ σ' H', N σ' H' → ∃ m', m' < m ∧ W (i + 1) m' σ' H') ∧ ∀ x H', (Itt K a).yld i H x H' → g x σ H' fun σ2 H2 => tb { D with nx := N, ct := N, bk := D.nx } σ2 H2)) :=
  ⟨for_tup (fun i σ H => Box (Pv i σ H)) ⟨h0⟩ (fun i σ H hi p => hl i σ H hi p.out) (fun i x σ H hx p => hs i x σ H hx p.out) (fun σ H p => hd σ H p.out)⟩
theorem forR {lo : Int} {n : Nat} (Pv : Nat → L2.St → Hp → Prop) (h0 : Pv 0 σ H)
    (hs : ∀ i σ H, i < n → Pv i σ H → g (.int (lo + i)) σ H fun σ2 H2 => tb { D with nx := fun σ H => Box (Pv (i + 1) σ H), ct := fun σ H => Box (Pv (i + 1) σ H), bk := D.nx } σ2 H2) (hd : ∀ σ H, Pv n σ H → D.nx σ H) :
    Box (∃ W : Nat → Nat → L2.St → Hp → Prop, (∃ m, W 0 m σ H) ∧ ∀ i m σ H, W i m σ H →
      ((Itr lo n).stop i H ∧ D.nx σ H) ∨ ((Itr lo n).go i H ∧ ∃ N : L2.St → Hp → Prop, (∀ σ' H', N σ' H' → ∃ m', m' < m ∧ W (i + 1) m' σ' H') ∧ ∀ x H', (Itr lo n).yld i H x H' → g x σ H' fun σ2 H2 => tb { D with nx := N, ct := N, bk := D.nx } σ2 H2)) :=
  ⟨for_range (fun i σ H => Box (Pv i σ H)) ⟨h0⟩ (fun i σ H hi p => hs i σ H hi p.out) (fun σ H p => hd σ H p.out)⟩
theorem forC {lo c : Int} {n : Nat} (Pv : Nat → L2.St → Hp → Prop) (h0 : Pv 0 σ H)
    (hs : ∀ i σ H, i < n → Pv i σ H → g (.int (lo + (i : Nat) * c)) σ H fun σ2 H2 => tb { D with nx := fun σ H => Box (Pv (i + 1) σ H), ct := fun σ H => Box (Pv (i + 1) σ H), bk := D.nx } σ2 H2) (hd : ∀ σ H, Pv n σ H → D.nx σ H) :
    Box (∃ W : Nat → Nat → L2.St → Hp → Prop, (∃ m, W 0 m σ H) ∧ ∀ i m σ H, W i m σ H →
      ((Itc lo c n).stop i H ∧ D.nx σ H) ∨ ((Itc lo c n).go i H ∧ ∃ N : L2.St → Hp → Prop, (∀ σ' H', N σ' H' → ∃ m', m' < m ∧ W (i + 1) m' σ' H') ∧ ∀ x H', (Itc lo c n).yld i H x H' → g x σ H' fun σ2 H2 => tb { D with nx := N, ct := N, bk := D.nx } σ2 H2)) :=
  ⟨for_rangeC (fun i σ H => Box (Pv i σ H)) ⟨h0⟩ (fun i σ H hi p => hs i σ H hi p.out) (fun σ H p => hd σ H p.out)⟩
/-- a while, by a word with its measure -/
theorem whI {c : TT} (W : Nat → L2.St → Hp → Prop) (m0 : Nat) (h0 : W m0 σ H) (hs : ∀ m σ H, W m σ H → c σ H fun b H1 => if b = true then ∃ N : L2.St → Hp → Prop, (∀ σ' H', N σ' H' → ∃ m', m' < m ∧ W m' σ' H') ∧ tb { D with nx := N, ct := N, bk := D.nx } σ H1 else D.nx σ H1) :
    Box (tWhile c tb D σ H) := ⟨W, ⟨m0, h0⟩, hs⟩
theorem whN {W : Nat → L2.St → Hp → Prop} {m : Nat} (h : tb { D with nx := fun σ' H' => Box (∃ m', m' < m ∧ W m' σ' H'), ct := fun σ' H' => Box (∃ m', m' < m ∧ W m' σ' H'), bk := D.nx } σ H) :
    ∃ N : L2.St → Hp → Prop, (∀ σ' H', N σ' H' → ∃ m', m' < m ∧ W m' σ' H') ∧ tb { D with nx := N, ct := N, bk := D.nx } σ H := ⟨_, fun _ _ h => h.out, h⟩
end
end Ow
namespace Ow
open PySem PySem.Spec PyProof.Rows L2
theorem if_t {b : Bool} {A B : Prop} (h : b = true) (k : A) : if b = true then A else B := by rw [if_pos h]; exact k
theorem if_f {b : Bool} {A B : Prop} (h : b = false) (k : B) : if b = true then A else B := by rw [if_neg (by rw [h]; exact Bool.false_ne_true)]; exact k
end Ow
namespace Ow
open PySem PySem.Spec PyProof.Rows L2
theorem dget_v {H : Hp} {a : Addr} {kvs : List (Key × V)} {k : Key} {v : V} (h : H a = some (.dK kvs)) (e : valV kvs k = some v) : DGet H a (kV k) (some v) := e ▸ DGet.k h
end Ow
namespace Ow
open PySem PySem.Spec PyProof.Rows L2
theorem kl {i : Int} : V.int i = kV (Sum.inl i) := rfl
theorem kr {z : Str} : V.str z = kV (Sum.inr z) := rfl
end Ow
namespace Ow
open PySem PySem.Spec PyProof.Rows L2
/-! ### lists of whole numbers, compared -/
section
variable {K : PySem.W.Frag} {H : Hp} {a b : Addr}
theorem dpa_ints : ∀ ns : List Int, DpAll K H (ns.map V.int) (ns.map PyData.int)
  | [] => .nil
  | n :: r => .cons (.int n) (dpa_ints r)
theorem dp_ints {ns : List Int} (h : H a = some (.lst (ns.map V.int))) : Dp K H (.ref a) (.list (ns.map PyData.int)) := .lst (SqL.of h) (dpa_ints ns)
theorem depth_ints : ∀ ns : List Int, PyData.depthAll (ns.map PyData.int) ≤ 1
  | [] => by simp [PyData.depthAll]
  | n :: r => by
    have := depth_ints r
    simp only [List.map_cons, PyData.depthAll, PyData.depth]
    omega
theorem lay_ints : ∀ ns : List Int, PyData.canLayAll0 (ns.map PyData.int) = true
  | [] => by simp [PyData.canLayAll0]
  | n :: r => by simp [PyData.canLayAll0, PyData.canLay0, lay_ints r]
theorem sh_ints (ns : List Int) : SeqAt.shaped (.list (ns.map PyData.int)) = true := by
  have h1 := depth_ints ns
  have h2 : PyData.depth (.list (ns.map PyData.int)) ≤ 64 := by
    simp only [PyData.depth]
    omega
  show (PyData.canLay0 (.list (ns.map PyData.int)) && decide (PyData.depth (.list (ns.map PyData.int)) ≤ 64)) = true
  rw [Bool.and_eq_true]
  exact ⟨by simp only [PyData.canLay0]; exact lay_ints ns, decide_eq_true h2⟩
theorem dist_ints : ∀ ns ms : List Int, PyData.eqvAll (ns.map PyData.int) (ms.map PyData.int) = decide (ns = ms)
  | [], [] => rfl
  | [], _ :: _ => rfl
  | _ :: _, [] => rfl
  | n :: r, m :: q => by
    rw [List.map_cons, List.map_cons, PyData.eqvAll, dist_ints r q]
    show ((n == m) && _) = _
    by_cases h : n = m
    · subst h; simp
    · rw [decide_eq_false (fun e => h (List.cons.inj e).1)]; simp [h]
theorem eqv_ints (ns ms : List Int) : PyData.eqv (.list (ns.map PyData.int)) (.list (ms.map PyData.int)) = decide (ns = ms) := dist_ints ns ms
/-- two rows of whole numbers, compared -/
theorem eq_ints {ns ms : List Int} {Q : VK} (ha : H a = some (.lst (ns.map V.int))) (hb : H b = some (.lst (ms.map V.int))) (k : Q (.bl (decide (ns = ms))) H) : rEqD K (.ref a) (.ref b) H Q :=
  ⟨_, _, dp_ints ha, dp_ints hb, sh_ints ns, sh_ints ms, by rw [eqv_ints]; exact k⟩
theorem ne_ints {ns ms : List Int} {Q : VK} (ha : H a = some (.lst (ns.map V.int))) (hb : H b = some (.lst (ms.map V.int))) (k : Q (.bl (!decide (ns = ms))) H) : rNeD K (.ref a) (.ref b) H Q :=
  ⟨_, _, dp_ints ha, dp_ints hb, sh_ints ns, sh_ints ms, by rw [eqv_ints]; exact k⟩
end
end Ow
namespace Ow
open PySem PySem.Spec PyProof.Rows L2
/-! ### the closers' own lemmas: head first -/
section
variable {K : PySem.W.Frag} {H0 H : Hp} {A : List Addr} {cs cs' : Cells} {a p : Addr} {o o' : HO} {xs : List V}
theorem Own.wr2 (O : Own H0 H A cs) (h : At cs a o o' cs') (n : isTup o = false) : Own H0 (upd H a o') A cs' := O.wr h n
theorem col_ex (h : H a = some (.lst xs)) : ∃ xs, SqL K H a xs := ⟨_, SqL.of h⟩
theorem col_ol {p : Prop} (h : H a = some (.lst xs)) : SqL K H a xs ∨ p := .inl (SqL.of h)
theorem col_or {p : Prop} (h : H a = some (.tup xs)) : p ∨ SqT K H a xs := .inr (SqT.of h)
theorem dget_ii {kvs : List (Key × V)} {i : Int} {v : V} (h : H a = some (.dK kvs)) (e : valV kvs (Sum.inl i) = some v) : DGet H a (.int i) (some v) := dget_v (k := Sum.inl i) h e
theorem dget_is {kvs : List (Key × V)} {i : Str} {v : V} (h : H a = some (.dK kvs)) (e : valV kvs (Sum.inr i) = some v) : DGet H a (.str i) (some v) := dget_v (k := Sum.inr i) h e
theorem dget_i {kvs : List (Key × V)} {i : Int} (h : H a = some (.dK kvs)) : DGet H a (.int i) (valV kvs (Sum.inl i)) := DGet.k (k := Sum.inl i) h
theorem dget_s {kvs : List (Key × V)} {i : Str} (h : H a = some (.dK kvs)) : DGet H a (.str i) (valV kvs (Sum.inr i)) := DGet.k (k := Sum.inr i) h
theorem dput_i {kvs : List (Key × V)} {i : Int} {v : V} (h : H a = some (.dK kvs)) (hl : kvs.length < 100000) : DPut H a (.int i) v (upd H a (.dK (putK kvs (Sum.inl i) v))) := DPut.k (k := Sum.inl i) h (sz_lt hl)
theorem dput_s {kvs : List (Key × V)} {i : Str} {v : V} (h : H a = some (.dK kvs)) (hl : kvs.length < 100000) : DPut H a (.str i) v (upd H a (.dK (putK kvs (Sum.inr i) v))) := DPut.k (k := Sum.inr i) h (sz_lt hl)
theorem isd_k {kvs : List (Key × V)} (h : H a = some (.dK kvs)) : IsD H a := Or.inl ⟨_, Or.inl h⟩
theorem wp_of {x y : List (Option V)} (h : x = y) : x = y := h
theorem ln_of {x y : Nat} (h : x = y) : x = y := h
theorem pos_of {m : Int} (h : 0 < m) : 0 < m := h
end
end Ow
namespace Ow
open PySem PySem.Spec PyProof.Rows L2
/-! ### items -/
theorem at_int {α : Type} {xs : List α} {n : Int} (h0 : 0 ≤ n) (h1 : n < (xs.length : Int)) : ∃ y, xs[n.toNat]? = some y ∧ atI xs n = some y := by
  have hj : n.toNat < xs.length := by omega
  refine ⟨xs[n.toNat], List.getElem?_eq_getElem hj, ?_⟩
  have := atI_nat (List.getElem?_eq_getElem hj)
  rwa [Int.toNat_of_nonneg h0] at this
theorem map_get {l : List Int} {i : Nat} {x : V} (h : (l.map V.int)[i]? = some x) : ∃ y, l[i]? = some y ∧ x = V.int y := by
  rw [List.getElem?_map] at h
  cases e : l[i]? with
  | none => rw [e] at h; cases h
  | some y => rw [e] at h; exact ⟨y, rfl, (Option.some.inj h).symm⟩
theorem at_ints {ns : List Int} {n : Int} (h0 : 0 ≤ n) (h1 : n < ((ns.map V.int).length : Int)) : ∃ y, ns[n.toNat]? = some y ∧ atI (ns.map V.int) n = some (V.int y) := by
  obtain ⟨y, h2, h3⟩ := at_int h0 h1
  obtain ⟨z, h4, rfl⟩ := map_get h2
  exact ⟨z, h4, h3⟩
end Ow
namespace Ow
open PySem PySem.Spec PyProof.Rows L2
theorem Own.fr0 {H0 H : Hp} {cs : Cells} {b : Addr} {o : HO} (O : Own H0 H [] cs) (h : H0 b = some o) : H b = some o := O.fr b o h (by simp)
/-! ### comprehensions -/
section
variable {K : PySem.W.Frag} {a : Addr} {xs : List V} {g : TG} {tt : TT} {te : TE} {vs : List Nat} {σ : L2.St} {H1 : Hp} {Q : Addr → Hp → Prop} {lo : Int} {n : Nat}
theorem lcR (Pv : Addr → Nat → Hp → Prop) (h0 : ∀ D, H1 D = none → Pv D 0 (upd H1 D (.lst [])))
    (hs : ∀ D i H, i < n → Pv D i H → g (.int (lo + i)) (wipe σ vs) H fun σ2 H2 => wipe σ2 vs = wipe σ vs ∧ tt σ2 H2 fun b H3 =>
      if b = true then te σ2 H3 fun y H4 => ∃ acc, H4 D = some (.lst acc) ∧ acc.length < sizeLine ∧ Box (Pv D (i + 1) (upd H4 D (.lst (acc ++ [y])))) else Box (Pv D (i + 1) H3)) (hd : ∀ D H, Pv D n H → Q D H) :
    Box (∀ D, H1 D = none → ∃ W : Nat → Nat → Hp → Prop, (∃ m, W 0 m (upd H1 D (.lst []))) ∧ ∀ i m H, W i m H →
      ((Itr lo n).stop i H ∧ Q D H) ∨ ((Itr lo n).go i H ∧ ∃ Nx : Hp → Prop, (∀ H', Nx H' → ∃ m', m' < m ∧ W (i + 1) m' H') ∧ ∀ x H', (Itr lo n).yld i H x H' → g x (wipe σ vs) H' fun σ2 H2 => wipe σ2 vs = wipe σ vs ∧ tt σ2 H2 fun b H3 =>
        if b = true then te σ2 H3 fun y H4 => ∃ acc, H4 D = some (.lst acc) ∧ acc.length < sizeLine ∧ Nx (upd H4 D (.lst (acc ++ [y]))) else Nx H3)) :=
  ⟨fun D hD => lc_range (fun i H => Box (Pv D i H)) ⟨h0 D hD⟩ (fun i H hi p => hs D i H hi p.out) (fun H p => hd D H p.out)⟩
theorem lcL (Pv : Addr → Nat → Hp → Prop) (h0 : ∀ D, H1 D = none → Pv D 0 (upd H1 D (.lst []))) (hl : ∀ D i H, i ≤ xs.length → Pv D i H → SqL K H a xs)
    (hs : ∀ D i x H, xs[i]? = some x → Pv D i H → g x (wipe σ vs) H fun σ2 H2 => wipe σ2 vs = wipe σ vs ∧ tt σ2 H2 fun b H3 =>
      if b = true then te σ2 H3 fun y H4 => ∃ acc, H4 D = some (.lst acc) ∧ acc.length < sizeLine ∧ Box (Pv D (i + 1) (upd H4 D (.lst (acc ++ [y])))) else Box (Pv D (i + 1) H3)) (hd : ∀ D H, Pv D xs.length H → Q D H) :
    Box (∀ D, H1 D = none → ∃ W : Nat → Nat → Hp → Prop, (∃ m, W 0 m (upd H1 D (.lst []))) ∧ ∀ i m H, W i m H →
      ((Itl K a).stop i H ∧ Q D H) ∨ ((Itl K a).go i H ∧ ∃ Nx : Hp → Prop, (∀ H', Nx H' → ∃ m', m' < m ∧ W (i + 1) m' H') ∧ ∀ x H', (Itl K a).yld i H x H' → g x (wipe σ vs) H' fun σ2 H2 => wipe σ2 vs = wipe σ vs ∧ tt σ2 H2 fun b H3 =>
        if b = true then te σ2 H3 fun y H4 => ∃ acc, H4 D = some (.lst acc) ∧ acc.length < sizeLine ∧ Nx (upd H4 D (.lst (acc ++ [y]))) else Nx H3)) :=
  ⟨fun D hD => lc_list (fun i H => Box (Pv D i H)) ⟨h0 D hD⟩ (fun i H hi p => hl D i H hi p.out) (fun i x H hx p => hs D i x H hx p.out) (fun H p => hd D H p.out)⟩
theorem lcT (Pv : Addr → Nat → Hp → Prop) (h0 : ∀ D, H1 D = none → Pv D 0 (upd H1 D (.lst []))) (hl : ∀ D i H, i ≤ xs.length → Pv D i H → SqT K H a xs)
    (hs : ∀ D i x H, xs[i]? = some x → Pv D i H → g x (wipe σ vs) H fun σ2 H2 => wipe σ2 vs = wipe σ vs ∧ tt σ2 H2 fun b H3 =>
      if b = true then te σ2 H3 fun y H4 => ∃ acc, H4 D = some (.lst acc) ∧ acc.length < sizeLine ∧ Box (Pv D (i + 1) (upd H4 D (.lst (acc ++ [y])))) else Box (Pv D (i + 1) H3)) (hd : ∀ D H, Pv D xs.length H → Q D H) :
    Box (∀ D, H1 D = none → ∃ W : Nat → Nat → Hp → Prop, (∃ m, W 0 m (upd H1 D (.lst []))) ∧ ∀ i m H, W i m H →
      ((Itt K a).stop i H ∧ Q D H) ∨ ((Itt K a).go i H ∧ ∃ Nx : Hp → Prop, (∀ H', Nx H' → ∃ m', m' < m ∧ W (i + 1) m' H') ∧ ∀ x H', (Itt K a).yld i H x H' → g x (wipe σ vs) H' fun σ2 H2 => wipe σ2 vs = wipe σ vs ∧ tt σ2 H2 fun b H3 =>
        if b = true then te σ2 H3 fun y H4 => ∃ acc, H4 D = some (.lst acc) ∧ acc.length < sizeLine ∧ Nx (upd H4 D (.lst (acc ++ [y]))) else Nx H3)) :=
  ⟨fun D hD => lc_tup (fun i H => Box (Pv D i H)) ⟨h0 D hD⟩ (fun i H hi p => hl D i H hi p.out) (fun i x H hx p => hs D i x H hx p.out) (fun H p => hd D H p.out)⟩
end
end Ow
namespace Ow
open PySem PySem.Spec PyProof.Rows L2
theorem cutV_sub (xs : List V) (lo hi : Option Int) {x : V} (h : x ∈ cutV xs lo hi) : x ∈ xs := List.mem_of_mem_drop (List.mem_of_mem_take h)
theorem cut_ints {xs : List Int} {lo hi : Option Int} {i : Nat} {x : V} (h : (cutV (xs.map V.int) lo hi)[i]? = some x) : ∃ y, x = V.int y := by
  obtain ⟨y, _, e⟩ := List.mem_map.mp (cutV_sub _ _ _ (List.mem_of_getElem? h))
  exact ⟨y, e.symm⟩
theorem cutV_take (xs : List V) (n : Nat) : (cutV xs none (some (n : Int))).length ≤ n := by
  unfold cutV
  rw [List.length_take]
  have : HT.sIx xs.length xs.length (some (n : Int)) ≤ n := by
    rw [HT.sIx_nat]
    omega
  omega
end Ow
namespace Ow
open PySem PySem.Spec PyProof.Rows L2
/-! ### where two ways meet -/
theorem cutT {c : TT} {σ : L2.St} {H : Hp} {post : Bool → Hp → Prop} (R : Bool → Hp → Prop) (h : ∀ post' : Bool → Hp → Prop, (∀ b H', R b H' → post' b H') → c σ H post') (k : ∀ b H', R b H' → post b H') : c σ H post := h post k
theorem cutI {c : TT} {a b : TS} {D : Ends} {σ : L2.St} {H : Hp} (R : Bool → Hp → Prop) (h : ∀ post' : Bool → Hp → Prop, (∀ b H', R b H' → post' b H') → c σ H post') (k : ∀ bb H', R bb H' → if bb = true then a D σ H' else b D σ H') : tIfS c a b D σ H := h _ k
theorem cutS {t : TS} {D : Ends} {σ : L2.St} {H : Hp} (R : L2.St → Hp → Prop) (h : ∀ nx' : L2.St → Hp → Prop, (∀ σ' H', R σ' H' → nx' σ' H') → t { D with nx := nx' } σ H) (k : ∀ σ' H', R σ' H' → D.nx σ' H') : Box (t D σ H) := ⟨h D.nx k⟩
end Ow
namespace Ow
open L2 in
theorem rg_mk {lo hi c : Int} (n : Nat) (h : (c ≠ 0 ∧ c.natAbs < 1073741824 ∧ PySem.Builtin.Range.small lo hi c = true ∧ PySem.Builtin.Range.rangeSize lo hi c = n) := by decide +kernel) : RgC lo hi c n := h
open L2 in
theorem Own.self {H0 H : Hp} {A : List PySem.Addr} {cs : Cells} (O : Own H0 H A cs) : Own H H (Ow.adr cs) cs := O.blk (s' := []) (cs' := []) .all
end Ow
namespace Ow
open L2 in
/-- behind a call that was handed nothing -/
theorem Own.callN {H0 H H' : Hp} {A : List PySem.Addr} {cs s' : Cells} (O : Own H0 H A cs) (C : Own H H' [] s') : Own H0 H' A (s' ++ cs) := O.call (s := []) .nil C
end Ow
namespace Ow
open PySem PySem.Spec PyProof.Rows L2
/-! ### what stands outside: the script -/
section
variable {K : PySem.W.Frag} {H0 H : Hp} {A : List Addr} {cs : Cells} {a : Addr} {xs : List V}
theorem Own.sq (O : Own H0 H [] cs) (h : SqL K H0 a xs) : SqL K H a xs := by
  rcases h with (h | ⟨o, h⟩) | h
  · exact .inl (.inl (O.fr0 h))
  · exact .inl (.inr ⟨o, O.fr0 h⟩)
  · exact .inr h
theorem Own.sqT (O : Own H0 H A cs) (h : SqT K H0 a xs) (hf : ∀ o, H0 a = some (.frz o (.tup xs)) → a ∉ A) : SqT K H a xs := by
  rcases h with (h | ⟨o, h⟩) | h
  · exact .inl (.inl (O.tup h))
  · exact .inl (.inr ⟨o, O.fr _ _ h (hf o h)⟩)
  · exact .inr h
theorem col_ex2 (h : SqL K H a xs) : ∃ xs, SqL K H a xs := ⟨_, h⟩
theorem col_ol2 {p : Prop} (h : SqL K H a xs) : SqL K H a xs ∨ p := .inl h
theorem col_or2 {p : Prop} (h : SqT K H a xs) : p ∨ SqT K H a xs := .inr h
end
end Ow
namespace Ow
open PySem PySem.Spec PyProof.Rows L2
/-! ### the end -/
theorem cx_no {P : Program} {w : World} {H : Hp} {s : Shared} {e : Value} {s' : Shared} (h : L2.CX P w [] H s (fun _ _ _ => False) e s') : False := by
  obtain ⟨_, _, _, _, _, _, _, _, _, _, _, _, h⟩ := h
  exact h
theorem walk_end {l : PySem.W.OpenLaw} {n k : Nat} {q : Program} {loose : List Str} {XP : (Str → Option Value) → Heap → Prop} {YP : World → Heap → Prop} {d : DefRec} {x : Str}
    (hn : l.most = some n) (hn2 : n ≤ sizeLine) (hdf : d.params.defaults = []) (hr : Room k callerA)
    (F : ∀ (w : World) (mg : Str → Option Value) (fa : Addr) (h : Heap), YP w h → h.Ns mainGlobals mg → mg d.name = some (.ref fa) →
      ∃ (K : PySem.W.Frag) (fd : FuncData) (sp : Sp), K.In h ∧ (∀ (s : Shared) (u : Value), BindsTo s fd ⟨[u], []⟩ [(x, u)]) ∧
        (∀ (H : Hp) (a : Addr) (ns : List Int), ns.length ≤ n → (∀ z ∈ ns, Builtin.Int.intBits z ≤ 1048576) → SqL K H a (ns.map V.int) → sp [.ref a] H (fun v _ => v = .bl true) fun _ _ _ => False) ∧
        ∀ base : Heap, K.In base → base.Ns mainGlobals mg → FnOk l.prog w K mg base (L2.CX l.prog w) k fa fd [x] sp) :
    PySem.W.WalkO q loose XP YP l.row.toRowW d [] (fun f vs => PySem.call f vs) := by
  refine Att.attach_callB hn hdf fun w s₀ s₁ mg mb fa o pm cd doc a vs ns G Y ho hd hcd hmg hobj hints hlen hbits hg => ?_
  obtain ⟨K, fd, sp, KX, hb, hsp, hF⟩ := F w mg fa _ Y G.T.g hmg
  exact law_call KX G.T.g G.T.b G.T.builtins G.T.nolimit hg hobj hints (Nat.le_trans hlen hn2) hr hF hb (fun H _ hS => hsp H a ns hlen hbits hS) fun _ _ _ h => cx_no h
theorem fn_of {P : Program} {w : World} {K : PySem.W.Frag} {mg : Str → Option Value} {base : Heap} {x qual : Str} {params : Arguments} {body : List Stmt} {scope : Scope} {f : Addr} {fd : FuncData} {N ps : List Str} {k : Nat} {sp : Sp} (F : FunD K x qual params body scope [] [] f fd) (S : FnScope N ps scope)
    (len : ∀ vs H Q E, sp vs H Q E → vs.length = ps.length)
    (hbody : ∀ (cdv : Value) (A : Around) (outer : List Env) (s : Shared) (H : Hp) (vs : List V) (Q : VK) (E : XK), Room k (A.deeper (envOfC qual scope s.heap.objs.size f cdv)) → sp vs H Q E →
      ∃ t, PSs (cxOf (L2.CX P w) P w K mg base N qual scope f cdv A outer s H E) body t ∧ t { nx := fun _ H' => Q .non H', rt := Q } (start N vs) H) : FnOk P w K mg base (L2.CX P w) (k + 1) f fd ps (bx sp) :=
  FunD.ok F S (fun vs H Q E h => len vs H Q E h.out) (fun cdv A outer s H vs Q E hr h => hbody cdv A outer s H vs Q E hr h.out)
end Ow
namespace Ow
open PySem PySem.Spec PyProof.Rows L2
/-! ### an exception that is held: known, in the suite and beyond it -/
theorem zc_of {cls : Value} {d : Option Addr} {o : Obj} (h : Zc cls d o) : o.cls = cls ∧ o.dict = d := ⟨h.1, by first | exact h.2 | exact h.2.1⟩
/-- an exception object at a, of the class cls, its dict d -/
def CxO (cls : Value) (d : Option Addr) (a : Addr) : HO := .ext fun h => ∃ (o : Obj) (vs : Array Value), h.get? a = some o ∧ Zc cls d o ∧ o.data = .fields vs
section
variable {X : Cx} {pins : List (Addr × Obj)} {σ : L2.St} {H : Hp} {s : Shared} {a : Addr} {cls : Value} {d : Option Addr} {o : Obj} {vs : Array Value}
theorem hold_ok (I : Inv X pins σ H s) (e : s.heap.get? a = some o) (z : Zc cls d o) (dt : o.data = .fields vs) (na : H a = none) (n0 : X.s_0.heap.get? a = none) (nL : a ≠ X.env.locals) (np : ∀ p ∈ X.pn ++ pins, p.1 ≠ a) :
    Inv X pins σ (upd H a (CxO cls d a)) s := by
  have sk : ∀ {b : Addr} {u : HO}, H b = some u → upd H a (CxO cls d a) b = some u := fun {b u} q => by
    rw [upd_ne (fun w => by rw [w, na] at q; cases q)]
    exact q
  have nk : ∀ {b : Addr}, b ≠ a → H b = none → upd H a (CxO cls d a) b = none := fun {b} q r => by
    rw [upd_ne q]
    exact r
  refine ⟨I.ok, I.os, I.bare, ⟨I.base.keep, I.base.slot, fun b u q1 q2 q3 => nk (fun w => by rw [w, n0] at q1; cases q1) (I.base.free b u q1 q2 q3), I.base.there, fun b xs q => sk (I.base.tups b xs q), fun b o' u q => sk (I.base.frzs b o' u q), fun b ps q => ?_⟩, I.loc, I.cell, nk (Ne.symm nL) I.free, fun x c q => nk (fun w => ?_) (I.freeC x c q), fun p hp => ?_, HOk.laidN I.hok (fun _ _ w => w) na ⟨⟨o, vs, e, z, dt⟩, ⟨o, e⟩, fun _ _ ⟨o2, v2, q, r⟩ k => ⟨o2, v2, k o2 q, r⟩⟩, I.len⟩
  · obtain ⟨m, r⟩ := I.base.tbls b ps q
    exact ⟨m, sk r⟩
  · subst w
    obtain ⟨v, oc, ho, hd⟩ := I.cell x c q
    rw [e] at ho
    cases ho
    rw [dt] at hd
    cases hd
  · obtain ⟨p1, p2, p3, p4, p5⟩ := I.pin p hp
    exact ⟨p1, nk (np p hp) p2, p3, p4, p5⟩
theorem suite_in {b : Addr} (I : Inv X pins σ H s) : Inv (X.suite b (X.pn ++ pins)) [] σ H s :=
  ⟨I.ok.suite _ _, I.os, I.bare, I.base, I.loc, I.cell, I.free, I.freeC, fun p hp => I.pin p ((List.append_nil (X.pn ++ pins)) ▸ hp), I.hok, I.len⟩
theorem suite_out {b : Addr} (I : Inv (X.suite b (X.pn ++ pins)) [] σ H s) (ok : X.Ok) : Inv X pins σ H s :=
  ⟨ok, I.os, I.bare, I.base, I.loc, I.cell, I.free, I.freeC, fun p hp => I.pin p ((List.append_nil (X.pn ++ pins)).symm ▸ hp), I.hok, I.len⟩
end
/-- the wish of a try whose suite may keep the exception -/
def wHold (K : PySem.W.Frag) (c : Value) (i : Nat) (ts : Addr → TS) (Wout : WX) (D : Ends) : WX := fun cls d σ H =>
  ∃ b, PySem.W.exmOne K cls c = some b ∧ (b = true → ∀ a, H a = none → ts a { nx := fun τ G => D.nx (τ.set i none) G, rt := D.rt, bk := fun τ G => D.bk (τ.set i none) G, ct := fun τ G => D.ct (τ.set i none) G } (σ.set i (some (.ref a))) (upd H a (CxO cls d a))) ∧ (b = false → Wout cls d σ H)
section
variable {X : Cx} {x n : Str} {c : Value} {i : Nat} {body suite : List Stmt} {b₀ : Stmt} {np pos pos' : Pos} {tb : WX → TS} {ts : Addr → TS} {Wout : WX}
theorem ps_tryX (hs : X.stack = X.env :: X.outer) (hf : X.env.frame = some X.env.locals) (hx : X.ex = []) (hN : X.N.Nodup) (hi : X.N[i]? = some n) (hln : X.env.kindOf n = some .local) (hc : Names X x c) (tk : Takes X Wout)
    (hb : ∀ (W : WX) (pn : List (Addr × Obj)) (xe : Value → Shared → Prop), Takes (X.tr pn xe) W → PassesOwn (model X.prog X.w) X.A X.env xe → PSs (X.tr pn xe) body (tb W))
    (hsu : ∀ (a : Addr) (pn : List (Addr × Obj)), PSs (X.suite a pn) (b₀ :: suite) (ts a)) :
    PS X (.Try body [.ExceptHandler (some (.Name x np)) (some n) (b₀ :: suite) pos'] [] [] pos) (fun D σ H => tb (wHold X.K c i ts Wout D) D σ H) := by
  refine ⟨fun pins s σ H D I hyp => ?_⟩
  have okX := I.ok
  have frames : X.A.frames = some (X.env :: X.outer) := by rw [okX.frames, hs]
  refine wpAny_Try_except ?_
  refine wpAny_mono ((hb (wHold X.K c i ts Wout D) (X.pn ++ pins) (fun ev sA => wpAny (model X.prog X.w) X.A (noteFrame ev X.env) (fun _ sB => wpAny (model X.prog X.w) X.A (setFlight ev none) (fun _ sC =>
    wpAny (model X.prog X.w) X.A (handleBy ev X.env [.ExceptHandler (some (.Name x np)) (some n) (b₀ :: suite) pos']) (SP X pins D) X.xe sC) X.xe sB) X.xe sA) (fun u sE flies => ?_) PassesOwn.looking).run [] s σ H D (I.toTry _) hyp) (fun fl sN ends => ?_) (fun ev sA left => left)
  · obtain ⟨a, B, sI, pins1, τ, G, cls, d, rfl, JT, nb, upS, skyS, na, os, ag, b, hm, yes, no⟩ := flies
    have JX : Inv X pins τ G sI := JT.ofTry okX
    have skyX : Sky B (X.env :: X.outer) a (Zc cls d) X.env.locals sE.heap := by rw [← hs]; exact skyS
    have nB : B.get? a = none := by
      rcases skyS with w | w | w
      · exact w.2.1
      · exact w.2.1
      · exact w.2.1
    show wpAny (model X.prog X.w) X.A (noteFrame (.ref a) X.env) _ _ _
    refine Sky.land Zc.steady frames hf skyX fun g3 fl3 up3 => ?_
    have J3 : Inv X pins τ G { sE with heap := g3 } := JX.landed nb fl3.1 (upS.trans up3) os ag
    obtain ⟨q3, w3, at3, z3, dt3⟩ := fl3.there
    have outside : a ∉ frs (X.env :: X.outer) := fun hm => by
      obtain ⟨_, o', e', hnf⟩ := fl3.2.2.1.mem hm
      rw [at3] at e'
      cases e'
      exact hnf _ dt3
    have nL : a ≠ X.env.locals := fun z => outside (List.mem_filterMap.mpr ⟨X.env, .head _, by rw [hf, z]⟩)
    have nF : a ∉ X.fs := fun hm => by
      obtain ⟨ev, he, q⟩ := List.mem_filterMap.mp hm
      exact outside (List.mem_filterMap.mpr ⟨ev, .tail _ he, q⟩)
    have below : ∀ {u : Addr} {ob : Obj}, sI.heap.get? u = some ob → u ∉ frs (X.env :: X.outer) → u ≠ a := fun {u ob} q r w => by
      have k := nb u ob q (by rw [hs]; exact r)
      rw [w, nB] at k
      cases k
    have new0 : X.s_0.heap.get? a = none := by
      cases q : X.s_0.heap.get? a with
      | none => rfl
      | some ob =>
        obtain ⟨ob2, r⟩ := JX.base.there a ob q (by rw [hx]; exact fun w => nomatch w)
        exact absurd rfl (below r outside)
    have unpinned : ∀ p ∈ X.pn ++ pins, p.1 ≠ a := fun p hp => by
      obtain ⟨p1, _, p3, p4, _⟩ := JX.pin p hp
      refine below p1 fun hm => ?_
      obtain ⟨ev, he, q⟩ := List.mem_filterMap.mp hm
      rcases List.mem_cons.mp he with w | w
      · rw [w, hf] at q
        exact p3 (Option.some.inj q).symm
      · exact p4 (List.mem_filterMap.mpr ⟨ev, w, q⟩)
    have S3 := J3.suite at3 dt3 na nL nF
    refine wpAny_handleBy_cons (codeAny_handlers_test ?_) (by intro w; cases w)
    have kind : PySem.W.Looks (model X.prog X.w) g3 (typeOf (.ref a)) cls := fun A Q E t k w => wpAny_typeOf_ref (k _ _ at3) (by rw [z3.1]; exact w)
    have match_ := PySem.W.exm_one (M := model X.prog X.w) (J3.kIn) kind hm
    have named : ∀ {Q E : Value → Shared → Prop}, Q c { sE with heap := g3 } → wpAny (model X.prog X.w) (X.A.mark (some (.ref a))) (eval (.Name x np) X.env) Q E { sE with heap := g3 } := fun {Q E} w => by
      obtain ⟨hg, hdbg, m1 | ⟨m1, m2, m3⟩⟩ := hc
      · exact ld_glob (X := X.suite a ((a, q3) :: (X.pn ++ pins))) S3 hg m1 w hdbg
      · exact ld_blt (X := X.suite a ((a, q3) :: (X.pn ++ pins))) S3 hg m1 m2 w m3 hdbg
    refine named (match_.here ?_)
    cases b with
    | true =>
      refine codeAny_handlers_suite_as ?_
      refine HandSPX.lands_againZ fl3 fun g4 fl4 up4 => ?_
      have J4 : Inv X pins τ G { sE with heap := g4 } := JX.landed nb fl4.1 ((upS.trans up3).trans up4) os ag
      obtain ⟨q4, w4, at4, z4, dt4⟩ := fl4.there
      have S4 := suite_in (b := a) (hold_ok J4 at4 z4 dt4 na new0 nL unpinned)
      refine store_ok (X := X.suite a (X.pn ++ pins)) (v := .ref a) S4 hN hi (.inl hln) rfl (fun s5 S5 => ?_) (.inr hln)
      refine wpAny_mono ((hsu a (X.pn ++ pins)).run [] s5 _ _ _ S5 (yes rfl a na)) (fun fl s6 ends => ?_) (fun _ _ w => False.elim w)
      have off : ∀ {τ6 : L2.St} {G6 : Hp} {Q : Shared → Prop}, Inv (X.suite a (X.pn ++ pins)) [] τ6 G6 s6 → (∀ s7, Inv X pins (τ6.set i none) G6 s7 → Q s7) →
          wpAny (model X.prog X.w) X.A (do bindName X.env n .none; unbindBehindTheSuite X.env n pos') (fun _ s7 => Q s7) X.xe s6 := fun {τ6 G6 Q} S6 w => gone_ok (suite_out S6 okX) hN hi hln w
      cases fl with
      | next =>
        obtain ⟨_, _, S6, r⟩ := ends
        exact off S6 fun _ J7 => ⟨_, _, J7, r⟩
      | brk =>
        obtain ⟨_, _, S6, r⟩ := ends
        exact off S6 fun _ J7 => ⟨_, _, J7, r⟩
      | cont =>
        obtain ⟨_, _, S6, r⟩ := ends
        exact off S6 fun _ J7 => ⟨_, _, J7, r⟩
      | ret u =>
        obtain ⟨_, _, _, S6, r1, r2⟩ := ends
        exact off S6 fun _ J7 => ⟨_, _, _, J7, r1, r2⟩
    | false =>
      show wpAny _ X.A (handleBy (.ref a) X.env []) _ _ _
      refine wpAny_handleBy_nil ?_
      obtain ⟨_, _, _, ob, ws, T, oT, tr, hob, hzb, hdb, hfb, hrb⟩ := id fl3
      unfold PySem.passOn
      refine wpAny_bind (wpAny_field hob hdb hfb ?_)
      rw [if_neg (show ¬ ((Value.ref T == Value.none) = true) by simp)]
      have out : wpAny (model X.prog X.w) X.A (setFlight (.ref a) X.env.frame) (fun _ t4 => wpAny (model X.prog X.w) X.A (throw (.ref a) : Sem Flow) (SP X pins D) X.xe t4) X.xe { sE with heap := g3 } := by
        rw [hf]
        refine HandSPX.setFlight_upZ fl3 fun g4 in4 up4 => wpAny_throw (tk _ _ ?_)
        exact ⟨a, B, sI, pins, τ, G, cls, d, rfl, JX, nb, (upS.trans up3).trans up4, .inr (.inr (by rw [hs]; exact in4)), na, os, ag, no rfl⟩
      first
        | exact wpAny_bind (wpAny_pure (wpAny_bind out))
        | exact wpAny_bind out
  · cases fl with
    | next =>
      obtain ⟨τ, G, JT, r⟩ := ends
      exact wpAny_execs_nil ⟨τ, G, JT.ofTry okX, r⟩
    | brk =>
      obtain ⟨τ, G, JT, r⟩ := ends
      exact ⟨τ, G, JT.ofTry okX, r⟩
    | cont =>
      obtain ⟨τ, G, JT, r⟩ := ends
      exact ⟨τ, G, JT.ofTry okX, r⟩
    | ret u =>
      obtain ⟨v, τ, G, JT, r1, r2⟩ := ends
      exact ⟨v, τ, G, JT.ofTry okX, r1, r2⟩
/-- isinstance(e, c), e a held exception -/
def rIsX (K : PySem.W.Frag) : List V → Hp → VK → Prop := fun xs H Q => ∃ (a D : Addr) (c : V) (cv : Value) (b : Bool), xs = [.ref a, c] ∧ H a = some (CxO (.ref D) none a) ∧ ExcC K D ∧ ClsV c cv ∧ PySem.W.kitOne K (.ref D) cv = some b ∧ Q (.bl b) H
theorem call_isX : CallR X (.builtin "isinstance") (rIsX X.K) := by
  intro pins s σ H xs us Q I r h
  obtain ⟨a, D, cl, cv, b, rfl, ha, C, only, says, q⟩ := h
  cases r with
  | cons rx rr =>
    cases rr with
    | cons rt rr =>
      cases rr
      cases rx
      have ec := only.eq rt
      subst ec
      obtain ⟨⟨ob, vs, at_, z, dt⟩, _, _⟩ := I.hok a _ ha
      have J : PySem.W.InstAt s.heap a ob D none := by
        obtain ⟨oc, od, oda, osl⟩ := ob
        obtain ⟨h1, h2⟩ := zc_of z
        dsimp only at h1 h2 dt
        subst h1 h2 dt
        exact ⟨at_, rfl, rfl, trivial⟩
      refine PySem.W.kia_one (PySem.W.handS_kitx_exc C.hg C.hk C.hs C.hd C.ha C.hn C.ht C.hm) I.kIn J says (fun w => nomatch w) fun tk => ?_
      exact ⟨.bl b, H, I.kept (t' := tk) fun _ _ w => w, rfl, q⟩
end
end Ow
namespace Ow
open PySem PySem.Spec PyProof.Rows L2
/-- xs[i], where it is read to be put anew -/
theorem get_list {X : Cx} : PGet X (rIxL X.K) := by
  intro pins s σ H o i ov iv Q I ro ri h
  obtain ⟨p, xs, k, z, rfl, rfl, hq, he, q⟩ := h
  cases ro
  obtain ⟨t, rfl⟩ := ri
  obtain ⟨its, r, pl, hz⟩ := I.list hq
  obtain ⟨j, h1, h2, h3, h4, h5⟩ := atI_get he
  obtain ⟨w, ew, rw'⟩ := r.get h2
  have lenX := r.length
  have wide := line63
  have done : EP X pins σ Q w s := ⟨z, H, I, rw', q⟩
  by_cases h0 : 0 ≤ k
  · have hk : k.toNat = j := by
      rw [seqIndex_of h0 h5] at h1
      exact Option.some.inj h1
    exact wpAny_getItem_list pl.isList h0 (by omega) (by rw [hk]; simpa using ew) done
  · have hk : (k + (its.toArray.size : Int)).toNat = j := by
      rw [seqIndex_neg (by omega) h4] at h1
      rw [List.size_toArray, ← lenX]
      exact Option.some.inj h1
    exact wpAny_getItem_list_neg pl.isList (by omega) (by rw [List.size_toArray] <;> omega) (by omega) (by rw [hk]; simpa using ew) done
end Ow
namespace Ow
open PySem PySem.Spec PyProof.Rows L2
/-! ### facts of exceptions, by one look -/
theorem all_at {l : List Bool} (h : l.all id = true) (k : Nat) {b : Bool} (e : l[k]? = some b) : b = true := List.all_eq_true.mp h b (List.mem_of_getElem? e)
theorem excB_ok {K : PySem.W.Frag} {D : Addr} (h : excB K D = true) : ExcC K D :=
  ⟨eq_of_beq (all_at h 0 rfl), eq_of_beq (all_at h 1 rfl), eq_of_beq (all_at h 2 rfl), all_at h 3 rfl, eq_of_beq (all_at h 4 rfl), eq_of_beq (all_at h 5 rfl), eq_of_beq (all_at h 6 rfl), eq_of_beq (all_at h 7 rfl)⟩
end Ow
namespace Ow
open PySem PySem.Spec PyProof.Rows L2
/-! ### rows of flat things -/
theorem fl_of {v : V} (h : flatV v = true) : flatV v = true := h
theorem all_flat (ns : List Int) : (ns.map V.int).all flatV = true := List.all_eq_true.mpr fun x hx => by
  obtain ⟨y, _, rfl⟩ := List.mem_map.mp hx
  rfl
theorem all_flatS (ns : List Str) : (ns.map V.str).all flatV = true := List.all_eq_true.mpr fun x hx => by
  obtain ⟨y, _, rfl⟩ := List.mem_map.mp hx
  rfl
theorem eqV_int (i j : Int) : eqV (.int i) (.int j) = decide (i = j) := by
  show (i == j) = _
  by_cases h : i = j
  · rw [decide_eq_true h, h]; simp
  · rw [decide_eq_false h]; simp [h]
theorem inV_ints (i : Int) (ns : List Int) : inV (.int i) (ns.map V.int) = decide (i ∈ ns) := by
  unfold inV
  rw [List.any_map]
  by_cases h : i ∈ ns
  · rw [decide_eq_true h]
    exact List.any_eq_true.mpr ⟨i, h, by show eqV (.int i) (.int i) = true; rw [eqV_int]; simp⟩
  · rw [decide_eq_false h]
    refine List.any_eq_false.mpr fun x hx => ?_
    show ¬ eqV (.int x) (.int i) = true
    rw [eqV_int]
    intro z
    exact h (of_decide_eq_true z ▸ hx)
theorem rep_flat (n : Nat) (v : V) : (List.replicate ((n : Nat) : Int).toNat [v]).flatten = List.replicate n v := by
  rw [Int.toNat_natCast]
  induction n with
  | zero => rfl
  | succ n ih => rw [List.replicate_succ, List.flatten_cons, ih]; rfl
theorem rep_map {α : Type} (f : α → V) (n : Nat) (a : α) : List.replicate n (f a) = (List.replicate n a).map f := (List.map_replicate).symm
end Ow
namespace Ow
open PySem PySem.Spec PyProof.Rows L2
theorem set_split {α : Type} {cs : List α} {i : Nat} {x y : α} (h : cs[i]? = some x) : cs.set i y = cs.take i ++ y :: cs.drop (i + 1) := by
  have h1 := (List.getElem?_eq_some_iff.mp h).1
  rw [List.set_eq_take_append_cons_drop, if_pos h1]
theorem at_split {α : Type} {cs : List α} {i : Nat} {x : α} (h : cs[i]? = some x) : cs = cs.take i ++ x :: cs.drop (i + 1) := by
  obtain ⟨h1, rfl⟩ := List.getElem?_eq_some_iff.mp h
  rw [List.getElem_cons_drop h1, List.take_append_drop]
theorem set_map {α β : Type} (f : α → β) : ∀ (l : List α) (i : Nat) (a : α), (l.map f).set i (f a) = (l.set i a).map f
  | [], _, _ => rfl
  | _ :: _, 0, _ => rfl
  | x :: r, i + 1, a => by rw [List.map_cons, List.set_cons_succ, List.set_cons_succ, List.map_cons, set_map f r i a]
theorem ix_at {n i : Nat} (h : i < n) : ixN n (i : Int) = some i := by
  unfold ixN
  rw [if_pos (by omega), if_pos (by omega), Int.toNat_natCast]
/-- a thing of a row is put anew: its old cell is let go -/
theorem Own.put {α : Type} {H0 H : Hp} {A : List Addr} {pre : Cells} {l : List α} {g : α → Addr × HO} {b y : α} {j : Nat} (O : Own H0 H A (g b :: (pre ++ l.map g))) (h : l[j]? = some y) : Own H0 H A (pre ++ (l.set j b).map g) := by
  have e := at_split h
  have O1 : Own H0 H A (g b :: (pre ++ ((l.take j).map g ++ (l.drop (j + 1)).map g))) := O.drop (by
    conv => rhs; rw [e, List.map_append, List.map_cons]
    exact .cons₂ _ (.append (.refl _) (.append (.refl _) (.cons _ (.refl _)))))
  rw [set_split h, List.map_append, List.map_cons]
  refine O1.perm ?_
  rw [← List.append_assoc, ← List.append_assoc]
  exact List.perm_middle.symm
end Ow
namespace Ow
open PySem PySem.Spec PyProof.Rows L2
theorem take_succ {α : Type} {l : List α} {i : Nat} {y : α} (h : l[i]? = some y) : l.take (i + 1) = l.take i ++ [y] := by
  rw [List.take_succ, h]; rfl
theorem sorted_ext : ∀ {l k : List Int}, l.Pairwise (· < ·) → k.Pairwise (· < ·) → (∀ m, m ∈ l ↔ m ∈ k) → l = k
  | [], [], _, _, _ => rfl
  | [], y :: k, _, _, h => absurd ((h y).mpr List.mem_cons_self) (by simp)
  | x :: l, [], _, _, h => absurd ((h x).mp List.mem_cons_self) (by simp)
  | x :: l, y :: k, h1, h2, h => by
    obtain ⟨a1, a2⟩ := List.pairwise_cons.mp h1
    obtain ⟨b1, b2⟩ := List.pairwise_cons.mp h2
    have e : x = y := by
      rcases List.mem_cons.mp ((h x).mp List.mem_cons_self) with z | z
      · exact z
      · rcases List.mem_cons.mp ((h y).mpr List.mem_cons_self) with w | w
        · exact w.symm
        · have := b1 _ z
          have := a1 _ w
          omega
    subst e
    rw [sorted_ext a2 b2 fun m => ⟨fun hm => ?_, fun hm => ?_⟩]
    · rcases List.mem_cons.mp ((h m).mp (List.mem_cons_of_mem _ hm)) with z | z
      · have := a1 _ hm; omega
      · exact z
    · rcases List.mem_cons.mp ((h m).mpr (List.mem_cons_of_mem _ hm)) with z | z
      · have := b1 _ hm; omega
      · exact z
end Ow
namespace Ow
open L2 in
/-- behind a call: what it has made stands ahead -/
theorem Own.callE {H0 H H' : Hp} {A : List PySem.Addr} {cs s s' cs' e : Cells} (O : Own H0 H A cs) (h : Sub cs s s' cs') (C : Own H H' (Ow.adr s) (e ++ s')) : Own H0 H' A (e ++ cs') := by
  obtain ⟨l, r, rfl, rfl⟩ := h.split
  have O1 := O.call (cs' := l ++ ((e ++ s') ++ r)) (.app .here) C
  refine O1.perm ?_
  have e1 : l ++ ((e ++ s') ++ r) = (l ++ e) ++ (s' ++ r) := by simp only [List.append_assoc]
  have e2 : e ++ (l ++ (s' ++ r)) = (e ++ l) ++ (s' ++ r) := by simp only [List.append_assoc]
  rw [e1, e2]
  exact (List.perm_append_comm).append_right _
end Ow
namespace Ow
open PySem PySem.Spec PyProof.Rows L2
/-- a new thing, as the goal names it: it is ours from now on -/
theorem Own.nxt {H0 H : Hp} {A : List Addr} {cs : Cells} {p : Addr} {o : HO} {G : Hp → Prop} (O : Own H0 H A cs) (h : H p = none) (k : Own H0 (upd H p o) A ((p, o) :: cs) → G (upd H p o)) : G (upd H p o) := k (O.new h)
theorem Own.nxtQ {H0 H : Hp} {A : List Addr} {cs : Cells} {p : Addr} {o : HO} {Q : VK} {G : Hp → VK → Prop} (O : Own H0 H A cs) (h : H p = none) (k : Own H0 (upd H p o) A ((p, o) :: cs) → G (upd H p o) Q) : G (upd H p o) Q := k (O.new h)
end Ow
namespace Ow
open PySem PySem.Spec PyProof.Rows L2
/-! ### loops and comprehensions over anything that is walked -/
section
variable {J : It} {n : Nat} {G : Hp → Prop} {Y : Nat → Hp → V → Hp → Prop}
theorem forW (w : Walk J n G Y) {g : TG} {tb : TS} {D : Ends} {σ : L2.St} {H : Hp} (Pv : Nat → L2.St → Hp → Prop) (h0 : Pv 0 σ H) (hG : ∀ i σ H, i ≤ n → Pv i σ H → G H)
    (hs : ∀ i x σ H H', i < n → Pv i σ H → Y i H x H' → g x σ H' fun σ2 H2 => tb { D with nx := fun σ H => Box (Pv (i + 1) σ H), ct := fun σ H => Box (Pv (i + 1) σ H), bk := D.nx } σ2 H2) (hd : ∀ σ H, Pv n σ H → D.nx σ H) :
    Box (∃ W : Nat → Nat → L2.St → Hp → Prop, (∃ m, W 0 m σ H) ∧ ∀ i m σ H, W i m σ H →
      (J.stop i H ∧ D.nx σ H) ∨ (J.go i H ∧ ∃ N : L2.St → Hp → Prop, (∀ σ' H', N σ' H' → ∃ m', m' < m ∧ W (i + 1) m' σ' H') ∧ ∀ x H', J.yld i H x H' → g x σ H' fun σ2 H2 => tb { D with nx := N, ct := N, bk := D.nx } σ2 H2)) :=
  ⟨for_it w (fun i σ H => Box (Pv i σ H)) ⟨h0⟩ (fun i σ H hi p => hG i σ H hi p.out) (fun i x σ H H' hi p y => hs i x σ H H' hi p.out y) (fun σ H p => hd σ H p.out)⟩
theorem lcW (w : Walk J n G Y) {g : TG} {tt : TT} {te : TE} {vs : List Nat} {σ : L2.St} {H1 : Hp} {Q : Addr → Hp → Prop} (Pv : Addr → Nat → Hp → Prop) (h0 : ∀ D, H1 D = none → Pv D 0 (upd H1 D (.lst []))) (hG : ∀ D i H, i ≤ n → Pv D i H → G H)
    (hs : ∀ D i x H H', i < n → Pv D i H → Y i H x H' → g x (wipe σ vs) H' fun σ2 H2 => wipe σ2 vs = wipe σ vs ∧ tt σ2 H2 fun b H3 =>
      if b = true then te σ2 H3 fun y H4 => ∃ acc, H4 D = some (.lst acc) ∧ acc.length < sizeLine ∧ Box (Pv D (i + 1) (upd H4 D (.lst (acc ++ [y])))) else Box (Pv D (i + 1) H3)) (hd : ∀ D H, Pv D n H → Q D H) :
    Box (∀ D, H1 D = none → ∃ W : Nat → Nat → Hp → Prop, (∃ m, W 0 m (upd H1 D (.lst []))) ∧ ∀ i m H, W i m H →
      (J.stop i H ∧ Q D H) ∨ (J.go i H ∧ ∃ Nx : Hp → Prop, (∀ H', Nx H' → ∃ m', m' < m ∧ W (i + 1) m' H') ∧ ∀ x H', J.yld i H x H' → g x (wipe σ vs) H' fun σ2 H2 => wipe σ2 vs = wipe σ vs ∧ tt σ2 H2 fun b H3 =>
        if b = true then te σ2 H3 fun y H4 => ∃ acc, H4 D = some (.lst acc) ∧ acc.length < sizeLine ∧ Nx (upd H4 D (.lst (acc ++ [y]))) else Nx H3)) :=
  ⟨fun D hD => lc_it w (fun i H => Box (Pv D i H)) ⟨h0 D hD⟩ (fun i H hi p => hG D i H hi p.out) (fun i x H H' hi p y => hs D i x H H' hi p.out y) (fun H p => hd D H p.out)⟩
end
/-- None or a whole number -/
def oV : Option Int → V
  | none => .non
  | some i => .int i
theorem tyStr_of {K : PySem.W.Frag} {z : Str} {H : Hp} : tyV K "str" (.str z) H := rfl
theorem isStr_of {z : Str} : ∃ a, V.str z = V.str a := ⟨z, rfl⟩
theorem putF_lt {f : Str} {v : V} {n : Nat} : ∀ {fs : List (Str × V)}, fs.length < n → (putF f v fs).length < n + 1
  | [], h => by show 1 < n + 1; simp only [List.length_nil] at h; omega
  | (g, x) :: r, h => by
    rw [List.length_cons] at h
    unfold putF
    by_cases e : g = f
    · rw [if_pos e, List.length_cons]; omega
    · rw [if_neg e, List.length_cons]
      have := putF_lt (f := f) (v := v) (n := n - 1) (fs := r) (by omega)
      omega
theorem at_of {xs : List V} {i : Int} {v : V} (h : atI xs i = some v) : atI xs i = some v := h
theorem ix_of {n : Nat} {i : Int} {j : Nat} (h : ixN n i = some j) : ixN n i = some j := h
theorem cp_of {i j : Int} (h : CPow i j) : CPow i j := h
theorem cmw_of {i j : Int} (h : CMulW i j) : CMulW i j := h
theorem eq_oV {o : Option Int} {j : Int} : decide (oV o = V.int j) = decide (o = some j) := by
  cases o with
  | none => simp [oV]
  | some i => simp [oV]
theorem zip_all {α β γ : Type} [DecidableEq γ] (f : α → γ) (g : β → γ) : ∀ (xs : List α) (ys : List β), xs.length = ys.length → ((xs.zip ys).map fun p => decide (f p.1 = g p.2)).all id = decide (xs.map f = ys.map g)
  | [], [], _ => rfl
  | [], _ :: _, h => by cases h
  | _ :: _, [], h => by cases h
  | x :: xs, y :: ys, h => by
    have ih := zip_all f g xs ys (by simpa using h)
    simp only [List.zip_cons_cons, List.map_cons, List.all_cons, id_eq, ih, List.cons.injEq, Bool.decide_and]
theorem zip_at {α β : Type} {xs : List α} {ys : List β} {i : Nat} {x : α} {y : β} (h1 : xs[i]? = some x) (h2 : ys[i]? = some y) : (xs.zip ys)[i]? = some (x, y) := List.getElem?_zip_eq_some.mpr ⟨h1, h2⟩
/-! ### readings by name, for what stands within a comprehension -/
def rLenSq (K : PySem.W.Frag) : List V → Hp → VK → Prop := fun xs H Q => ∃ p ys, xs = [.ref p] ∧ (SqL K H p ys ∨ SqT K H p ys) ∧ Q (.int ys.length) H
def rLenV (K : PySem.W.Frag) : List V → Hp → VK → Prop := fun xs H Q => ∃ x n, xs = [x] ∧ LenV K x H n ∧ Q (.int n) H
def rListOf (K : PySem.W.Frag) : List V → Hp → VK → Prop := fun xs H Q => ∃ p ys, xs = [.ref p] ∧ (SqL K H p ys ∨ SqT K H p ys) ∧ ∀ l, H l = none → Q (.ref l) (upd H l (.lst ys))
def rTupOf (K : PySem.W.Frag) : List V → Hp → VK → Prop := fun xs H Q => ∃ p ys, xs = [.ref p] ∧ ((SqL K H p ys ∧ ∀ l, H l = none → Q (.ref l) (upd H l (.tup ys))) ∨ (SqT K H p ys ∧ Q (.ref p) H))
/-! ### rows of whole numbers, each with its place -/
abbrev Pg := Addr × List Int
abbrev pcel (x : Pg) : Addr × HO := (x.1, .lst (x.2.map V.int))
/-- the rows stand in the heap -/
def RowsAt (H : Hp) (rs : List Pg) : Prop := ∀ r ∈ rs, H r.1 = some (.lst (r.2.map V.int))
theorem RowsAt.mono {H0 H : Hp} {cs : Cells} {rs : List Pg} (h : RowsAt H0 rs) (O : Own H0 H [] cs) : RowsAt H rs := fun r hr => O.fr0 (h r hr)
theorem Own.rows {H0 H : Hp} {A : List Addr} {cs : Cells} {rs : List Pg} (O : Own H0 H A cs) (h : ∀ r ∈ rs, pcel r ∈ cs) : RowsAt H rs := fun r hr => O.get (h r hr)
theorem refs_get {rs : List Pg} {i : Nat} {x : V} (h : (rs.map fun x : Pg => V.ref x.1)[i]? = some x) : ∃ y, rs[i]? = some y ∧ x = V.ref y.1 := by
  rw [List.getElem?_map] at h
  cases e : rs[i]? with
  | none => rw [e] at h; cases h
  | some y => rw [e] at h; exact ⟨y, rfl, (Option.some.inj h).symm⟩
/-- a thing of a row is put anew, where more stands behind -/
theorem Own.put2 {α : Type} {H0 H : Hp} {A : List Addr} {pre post : Cells} {l : List α} {g : α → Addr × HO} {b y : α} {j : Nat} (O : Own H0 H A (g b :: (pre ++ (l.map g ++ post)))) (h : l[j]? = some y) : Own H0 H A (pre ++ ((l.set j b).map g ++ post)) := by
  have O1 : Own H0 H A (g b :: ((post ++ pre) ++ l.map g)) := O.perm (by
    refine .cons _ ?_
    rw [List.append_assoc, ← List.append_assoc pre]
    exact List.perm_append_comm)
  have O2 := O1.put h
  refine O2.perm ?_
  rw [List.append_assoc, ← List.append_assoc pre]
  exact List.perm_append_comm
theorem rgV0 (n : Nat) : rgV 0 (n : Int) = ((List.range n).map fun i : Nat => (i : Int)).map V.int := by
  unfold rgV
  rw [List.map_map, show ((n : Int) - 0).toNat = n by omega]
  exact List.map_congr_left fun i _ => by rw [Int.zero_add]; rfl
theorem cutV_to (xs : List V) (n : Nat) : cutV xs none (some (n : Int)) = xs.take n := by
  unfold cutV
  rw [HT.sIx_nat]
  show (xs.drop 0).take _ = _
  rw [List.drop_zero, HT.sIx_none, Nat.sub_zero]
  by_cases h : n ≤ xs.length
  · rw [show min n xs.length = n by omega]
  · rw [show min n xs.length = xs.length by omega, List.take_length, List.take_of_length_le (by omega)]
theorem cutV_from (xs : List V) (n : Nat) : cutV xs (some (n : Int)) none = xs.drop n := by
  unfold cutV
  rw [HT.sIx_nat]
  show (xs.drop (min n xs.length)).take (xs.length - min n xs.length) = _
  by_cases h : n ≤ xs.length
  · rw [show min n xs.length = n by omega, List.take_of_length_le (by rw [List.length_drop]; omega)]
  · rw [show min n xs.length = xs.length by omega, List.drop_length, List.drop_eq_nil_of_le (by omega), List.take_nil]
theorem cutV_mid (xs : List V) (a b : Nat) (h : a ≤ b) (hb : b ≤ xs.length) : cutV xs (some (a : Int)) (some (b : Int)) = (xs.drop a).take (b - a) := by
  unfold cutV
  rw [HT.sIx_nat, HT.sIx_nat, show min a xs.length = a by omega, show min b xs.length = b by omega]
/-- cells that were handed and stand as they stood need not be told -/
theorem Own.back {H0 H : Hp} {cs bs : Cells} (O : Own H0 H (Ow.adr bs) (cs ++ bs)) (h : ∀ a o, (a, o) ∈ bs → H0 a = some o) : Own H0 H [] cs := by
  have nd := O.nd
  rw [adr_app] at nd
  obtain ⟨n1, n2, n3⟩ := List.nodup_append.mp nd
  refine ⟨fun a o m => O.at_ a o (List.mem_append_left _ m), n1, fun b o e _ => ?_, fun b m => ?_, O.tp⟩
  · by_cases hb : b ∈ Ow.adr bs
    · obtain ⟨c, hc, rfl⟩ := List.mem_map.mp hb
      have e2 := h c.1 c.2 hc
      rw [e] at e2
      cases e2
      exact O.at_ _ _ (List.mem_append_right _ hc)
    · exact O.fr b o e hb
  · rcases O.nw b (by rw [adr_app]; exact List.mem_append_left _ m) with z | z
    · exact absurd rfl (n3 b m b z)
    · exact .inr z
/-- a dict is written: a key that is not there comes last -/
theorem putK_new {kvs : List (Key × V)} {k : Key} {v : V} (h : k ∉ kvs.map (·.1)) : putK kvs k v = kvs ++ [(k, v)] := by
  unfold putK
  rw [if_neg]
  intro e
  obtain ⟨x, hx, e⟩ := List.any_eq_true.mp e
  exact h (List.mem_map.mpr ⟨x, hx, of_decide_eq_true e⟩)
theorem mergeK_app : ∀ {more acc : List (Key × V)}, ((acc ++ more).map (·.1)).Nodup → mergeK acc more = acc ++ more
  | [], acc, _ => (List.append_nil acc).symm
  | (k, v) :: r, acc, h => by
    have h1 : k ∉ acc.map (·.1) := by
      rw [List.map_append] at h
      intro z
      exact (List.nodup_append.mp h).2.2 k z k (by simp) rfl
    show mergeK (putK acc k v) r = _
    rw [putK_new h1, mergeK_app (by rw [List.append_assoc]; exact h), List.append_assoc]
    rfl
theorem Own.sep {H0 H : Hp} {A : List Addr} {X Y : Cells} {a : Addr} (O : Own H0 H A (X ++ Y)) (h : a ∈ Ow.adr X) : a ∉ Ow.adr Y := fun z => by
  have nd := O.nd
  rw [adr_app] at nd
  exact (List.nodup_append.mp nd).2.2 a h a z rfl
theorem atI_last {xs : List V} {v : V} (h : xs[xs.length - 1]? = some v) : atI xs (-1) = some v := by
  have hl := (List.getElem?_eq_some_iff.mp h).1
  have e : ixN xs.length (-1) = some (xs.length - 1) := by
    unfold ixN
    rw [if_neg (by decide), if_pos (by omega)]
    congr 1
    omega
  unfold atI
  rw [e]
  exact h
/-! ### dicts of lists, compared -/
section
open PySem.Calls PyProof.V
variable {prog : Program} {w : World} {κ : Type} [DecidableEq κ] {knd : KeyKind prog w κ} {A : Around} {s : Shared}
theorem neP_dicts {a b : Addr} {ka kb : List (κ × Value)} {r : Bool} (ha : (a == sysModules) = false) (hb : (b == sysModules) = false) (da : s.heap.DictOf knd a ka) (db : s.heap.DictOf knd b kb) (hu : A.units < cLine)
    (hits : ka.length = kb.length → PySem.W.KeqHitsP prog w A.in1 s kb ka r) (E Q : Value → Shared → Prop) (h : Q (.bool (!(ka.length == kb.length && r))) s) : wpAny (model prog w) A (compareOp .NotEq (.ref a) (.ref b)) Q E s := by
  refine wpAny_richCompare_same_room (op := .NotEq) da.typeIs db.typeIs PySem.F.slot_dict_ne (wpAny_call_entry PySem.F.slot_dict_ne da.typeIs PySem.F.entry_dict_ne ?_ (PySem.F.args_dict_ne_2 _ _)) hu
  show wpAny _ _ (Builtin.Dict.dictSlotArgs "__ne__" ⟨[.ref a, .ref b], []⟩ >>= _) _ _ s
  refine wpAny_bind ?_
  unfold Builtin.Dict.dictSlotArgs
  refine wpAny_bind (wpAny_notOrdered_dict da.typeIs ?_)
  show wpAny _ _ (pure (Value.ref a, Value.ref b)) _ _ s
  refine wpAny_pure ?_
  refine wpAny_bind (wpAny_isInstance (T := "dict") db.typeIs PySem.F.sub_dict_dict ?_)
  simp only [Bool.not_true, Bool.false_eq_true, if_false]
  refine wpAny_bind (wpAny_pure (wpAny_bind (wpAny_pure ?_)))
  refine wpAny_bind (PySem.W.samePairsP ha hb da db hits ?_)
  refine wpAny_pure ⟨_, rfl, ?_, ?_⟩
  · exact fun x => nomatch x
  · simpa using h
end
/-- d != e, two dicts: of unlike lengths, or equal -/
def rNeDV (K : PySem.W.Frag) : R2 := fun x y H Q => ∃ a b ks ls, x = .ref a ∧ y = .ref b ∧ H a = some (.dK ks) ∧ H b = some (.dK ls) ∧
  ((ks.length ≠ ls.length ∧ Q (.bl true) H) ∨ (ks.length = ls.length ∧ (∀ p ∈ ks, ∃ u, valV ls p.1 = some u ∧ EqV K H 2 p.2 u) ∧ Q (.bl false) H))
theorem op_neDV {X : Cx} (hu : X.A.units + 64 < cLine) : OpR X (compareOp .NotEq) (rNeDV X.K) := by
  intro pins s σ H x y v u Q I rx ry h
  obtain ⟨a, b, ks, ls, rfl, rfl, ea, eb, h⟩ := h
  obtain rfl : v = Value.ref a := rx
  obtain rfl : u = Value.ref b := ry
  obtain ⟨_, ya, va, ra, da⟩ := (show ObjOk X.prog X.w H s.heap a (.dK ks) from I.hok a _ ea)
  obtain ⟨_, yb, vb, rb, db⟩ := (show ObjOk X.prog X.w H s.heap b (.dK ls) from I.hok b _ eb)
  have e1 : va.length = ks.length := ra.length.symm
  have e2 : vb.length = ls.length := rb.length.symm
  rcases h with ⟨hne, q⟩ | ⟨hl, hp, q⟩
  · refine neP_dicts (knd := mixKind X.prog X.w) (r := false) ya yb da db (by omega) (fun z => absurd (by omega) hne) _ _ ?_
    rw [show (!(va.length == vb.length && false)) = true by simp]
    exact ⟨.bl true, H, I, rfl, q⟩
  · refine neP_dicts (knd := mixKind X.prog X.w) (r := true) ya yb da db (by omega) (fun _ => hits_run (eqV_run I 2 X.A.in1 (by show X.A.units + 1 + 2 < cLine; omega)) rb ra hp) _ _ ?_
    rw [show (!(va.length == vb.length && true)) = false by rw [e1, e2, hl]; simp]
    exact ⟨.bl false, H, I, rfl, q⟩
theorem paired_ints {K : PySem.W.Frag} {H : Hp} : ∀ ns : List Int, Paired (EqV K H 1) (ns.map V.int) (ns.map V.int)
  | [] => .nil
  | n :: r => .cons (.inl ⟨rfl, rfl⟩) (paired_ints r)
theorem eqV_ints {K : PySem.W.Frag} {H : Hp} {a b : Addr} {ns : List Int} (ha : H a = some (.lst (ns.map V.int))) (hb : H b = some (.lst (ns.map V.int))) : EqV K H 2 (.ref a) (.ref b) :=
  .inr (.inr (.inl ⟨a, b, _, _, rfl, rfl, SqL.of ha, SqL.of hb, paired_ints ns⟩))
/-! ### lists of texts, compared -/
section
variable {K : PySem.W.Frag} {H : Hp} {a b : Addr}
theorem dpa_strs : ∀ ns : List Str, DpAll K H (ns.map V.str) (ns.map PyData.str)
  | [] => .nil
  | n :: r => .cons (.str n) (dpa_strs r)
theorem depth_strs : ∀ ns : List Str, PyData.depthAll (ns.map PyData.str) ≤ 1
  | [] => by simp [PyData.depthAll]
  | n :: r => by
    have := depth_strs r
    simp only [List.map_cons, PyData.depthAll, PyData.depth]
    omega
theorem lay_strs : ∀ ns : List Str, (ns.all PyData.strOk = true) → PyData.canLayAll0 (ns.map PyData.str) = true
  | [], _ => by simp [PyData.canLayAll0]
  | n :: r, h => by
    rw [List.all_cons, Bool.and_eq_true] at h
    simp [PyData.canLayAll0, PyData.canLay0, lay_strs r h.2, h.1]
theorem sh_strs (ns : List Str) (h : ns.all PyData.strOk = true) : SeqAt.shaped (.list (ns.map PyData.str)) = true := by
  have h1 := depth_strs ns
  have h2 : PyData.depth (.list (ns.map PyData.str)) ≤ 64 := by
    simp only [PyData.depth]
    omega
  show (PyData.canLay0 (.list (ns.map PyData.str)) && decide (PyData.depth (.list (ns.map PyData.str)) ≤ 64)) = true
  rw [Bool.and_eq_true]
  exact ⟨by simp only [PyData.canLay0]; exact lay_strs ns h, decide_eq_true h2⟩
theorem dist_strs : ∀ ns ms : List Str, PyData.eqvAll (ns.map PyData.str) (ms.map PyData.str) = decide (ns = ms)
  | [], [] => rfl
  | [], _ :: _ => rfl
  | _ :: _, [] => rfl
  | n :: r, m :: q => by
    rw [List.map_cons, List.map_cons, PyData.eqvAll, dist_strs r q]
    show ((n == m) && _) = _
    by_cases h : n = m
    · subst h; simp
    · rw [decide_eq_false (fun e => h (List.cons.inj e).1)]; simp [h]
theorem eq_strs {ns ms : List Str} {Q : VK} (h1 : ns.all PyData.strOk = true) (h2 : ms.all PyData.strOk = true) (ha : H a = some (.lst (ns.map V.str))) (hb : H b = some (.lst (ms.map V.str))) (k : Q (.bl (decide (ns = ms))) H) : rEqD K (.ref a) (.ref b) H Q :=
  ⟨_, _, .lst (SqL.of ha) (dpa_strs ns), .lst (SqL.of hb) (dpa_strs ms), sh_strs ns h1, sh_strs ms h2, by rw [show PyData.eqv (.list (ns.map PyData.str)) (.list (ms.map PyData.str)) = decide (ns = ms) from dist_strs ns ms]; exact k⟩
end
/-! ### held exceptions, asked about several classes -/
/-- isinstance(e, (c, ..)), e a held exception -/
def rIsXT (K : PySem.W.Frag) : List V → Hp → VK → Prop := fun xs H Q => ∃ (a D tp : Addr) (cs : List V) (us : List Value) (b : Bool), xs = [.ref a, .ref tp] ∧ H a = some (CxO (.ref D) none a) ∧ ExcC K D ∧ H tp = some (.tup cs) ∧ Paired ClsV cs us ∧ PySem.W.kitAny K (.ref D) us = some b ∧ Q (.bl b) H
theorem call_isXT {X : Cx} : CallR X (.builtin "isinstance") (rIsXT X.K) := by
  intro pins s σ H xs us Q I r h
  obtain ⟨a, D, tp, cs, ws, b, rfl, ha, C, hT, k, says, q⟩ := h
  obtain ⟨u1, u2, rfl, r1, r2⟩ := vals2 r
  cases (show u1 = Value.ref a from r1)
  cases (show u2 = Value.ref tp from r2)
  obtain ⟨⟨ob, vs, at_, z, dt⟩, _, _⟩ := I.hok a _ ha
  have J : PySem.W.InstAt s.heap a ob D none := by
    obtain ⟨oc, od, oda, osl⟩ := ob
    obtain ⟨h1, h2⟩ := zc_of z
    dsimp only at h1 h2 dt
    subst h1 h2 dt
    exact ⟨at_, rfl, rfl, trivial⟩
  obtain ⟨_, its, rv, o, h1, h2, n, h3⟩ := (show ObjOk X.prog X.w H s.heap tp (.tup cs) from I.hok tp _ hT)
  have e3 := ClsV.all k rv
  subst e3
  obtain ⟨oc, od, dt, sl⟩ := o
  simp only at h2 h3
  subst h2 h3
  refine PySem.W.kia_tup (PySem.W.handS_kitx_exc C.hg C.hk C.hs C.hd C.ha C.hn C.ht C.hm) I.kIn J h1 says (fun w => nomatch w) fun tk => ?_
  exact ⟨.bl b, H, I.kept (t' := tk) fun _ _ w => w, rfl, q⟩
theorem kit_any {K : PySem.W.Frag} {t : Value} : ∀ {us : List Value} {bs : List Bool}, Paired (fun u b => PySem.W.kitOne K t u = some b) us bs → PySem.W.kitAny K t us = some (bs.any id)
  | _, _, .nil => rfl
  | _, _, .cons (b := b) h k => by
    refine kitAny_cons h (fun e => ?_) (fun e => ?_)
    · have z := kit_any k
      rw [e]; exact z
    · rw [e]; rfl
/-! ### a dict is locked while it is walked -/
theorem lock_d {H : Hp} {d : Addr} {kvs : List (Key × V)} {t : TS} {D : Ends} {σ : L2.St} (h : H d = some (.dK kvs))
    (k : ∀ od, t ⟨fun σ' H' => H' d = some (.frz od (.dK kvs)) ∧ D.nx σ' (upd H' d (.dK kvs)), fun v H' => H' d = some (.frz od (.dK kvs)) ∧ D.rt v (upd H' d (.dK kvs)), fun σ' H' => H' d = some (.frz od (.dK kvs)) ∧ D.bk σ' (upd H' d (.dK kvs)), fun σ' H' => H' d = some (.frz od (.dK kvs)) ∧ D.ct σ' (upd H' d (.dK kvs))⟩ σ (upd H d (.frz od (.dK kvs)))) : tLock t D σ H :=
  ⟨d, _, h, True.intro, k⟩
end Ow
namespace Ow
open PySem PySem.Spec PyProof.Rows L2
/-! ### int(x) by kinds -/
theorem call_intB {X : Cx} : CallR X (.type "int") (fun xs H Q => ∃ k, xs = [.bl k] ∧ Q (.int (if k = true then 1 else 0)) H) := by
  intro pins s σ H xs us Q I r h
  exact call_int1 pins s σ H xs us Q I r (.inr h)
theorem call_intI {X : Cx} : CallR X (.type "int") (fun xs H Q => ∃ i, xs = [.int i] ∧ Q (.int i) H) := by
  intro pins s σ H xs us Q I r h
  exact call_int1 pins s σ H xs us Q I r (.inl h)
/-! ### the keys of a dict, as a view -/
/-- a view of the keys of the dict at d stands at r -/
def KO (r d : Addr) : HO := .ext fun h => PySem.W.KdlKeysView h r d
def rKeysV : V → List V → Hp → VK → Prop := fun x xs H Q => ∃ d kvs, x = .ref d ∧ xs = [] ∧ Rd H d (.dK kvs) ∧ ∀ r, H r = none → Q (.ref r) (upd H r (KO r d))
theorem mt_keys {X : Cx} : MtR X "dict.keys" rKeysV := by
  intro pins s σ H x vs v us Q I rx rv h
  obtain ⟨d, kvs, rfl, rfl, hd, q⟩ := h
  cases rx
  cases rv
  obtain ⟨z, lo, ws, rel, dd⟩ := dk_rd I.hok hd
  refine call_meetsIn F.slot_dict_keys dd.typeIs F.entry_dict_keys (F.args_dict_keys_1 _) (PySem.W.kdl_meets_keys (mixKind X.prog X.w) d lo) ⟨⟨ws, dd⟩, ?_⟩
  refine ⟨.ref s.heap.objs.size, upd H s.heap.objs.size (KO s.heap.objs.size d), I.laid (t' := s.toks) (fun b u e => Heap.get?_push_of_some _ e) (Nat.le_refl _) ?_, rfl, q _ (I.hok.fresh (Nat.le_refl _))⟩
  exact ⟨⟨_, Heap.get?_push_size _ rfl, rfl, rfl⟩, ⟨_, Heap.get?_push_size _ rfl⟩, fun h1 h2 ⟨o, e, c, dt⟩ k => ⟨o, k o e, c, dt⟩⟩
/-- sorted of what lists whole numbers -/
theorem sorted_src {X : Cx} {pins : List (Addr × Obj)} {σ : L2.St} {H : Hp} {s : Shared} {T : String} {r d : Addr} {vs : List (Key × Value)} {OK : Heap → Prop} {ks : List Int} {Q : VK} (hcalm : X.calm = true) (I : Inv X pins σ H s)
    (S : PySem.W.KdlSrc X.prog X.w T r d vs.length (fun i v => ∃ k x, vs[i]? = some (k, x) ∧ (mixKind X.prog X.w).is k v = true) OK) (ok : OK s.heap) (hkeys : vs.map (·.1) = ks.map Sum.inl) (hz : ks.length ≤ sizeLine)
    (q : ∀ (ys : List Int) (p : Addr), ys.Perm ks → ys.Pairwise (· ≤ ·) → H p = none → Q (.ref p) (upd H p (.lst (ys.map V.int)))) : wpAny (model X.prog X.w) X.A (call (.builtin "sorted") [.ref r]) (EP X pins σ Q) X.xe s := by
  have hl : vs.length = ks.length := by
    have e := congrArg List.length hkeys
    rw [List.length_map, List.length_map] at e
    exact e
  refine Calls.call_function_entry PyProof.Rows.kind_sorted PyProof.Rows.plain_sorted PyProof.Rows.entry_sorted (PyProof.Rows.args_sorted1 _) ?_
  unfold Builtin.«sorted»
  refine wpAny_bind (m := checkCount "sorted" 1 1 _) (wpAny_pure ?_)
  refine wpAny_bind (PySem.W.kdu_collect (A := X.A.in1) S (I.ok.hd hcalm) ok (by omega) fun h' tk acc hk hacc => ?_)
  have hal : acc.toList.length = ks.length := by rw [Array.length_toList, hacc.1, hl]
  have hS : IntsAre acc.toList ks := ints_each hal fun j v e => by
    obtain ⟨k, x, e1, e2⟩ := hacc.2 j v (by rw [← Array.getElem?_toList]; exact e)
    have e3 : (vs.map (·.1))[j]? = some k := by rw [List.getElem?_map, e1]; rfl
    rw [hkeys, List.getElem?_map] at e3
    cases e4 : ks[j]? with
    | none => rw [e4] at e3; cases e3
    | some y =>
      rw [e4] at e3
      have e5 : Sum.inl y = k := Option.some.inj e3
      subst e5
      rcases keyIs_shape (show keyIs (Sum.inl y) v = true from e2) with ⟨i, t, ek, ev⟩ | ⟨z, t, ek, ev⟩
      · cases ek
        exact ⟨y, t, rfl, ev⟩
      · cases ek
  have I1 : Inv X pins σ H { s with heap := h', toks := tk } := I.kept hk
  refine wpAny_bind (wpAny_newList ?_ (by rw [hal]; exact hz))
  have hoL : (h'.push (seqObj "list" acc.toList.toArray 0)).get? h'.objs.size = some (seqObj "list" acc.toList.toArray 0) := Heap.get?_push_size _ rfl
  show wpAny _ _ _ _ _ { s with heap := h'.push (seqObj "list" acc.toList.toArray 0), toks := tk }
  refine wpAny_bind (wpAny_holding (wpAny_call_entry PyProof.Rows.slot_list_sort ⟨_, hoL, rfl⟩ PyProof.Rows.entry_list_sort
    (SrtO.list_sort_ord (s := { s with heap := h'.push (seqObj "list" acc.toList.toArray 0), toks := tk }) SrtO.swo_int hoL (by rw [hal]; exact hz) (fun h2 => SrtO.ints_sortable hS h2) fun out h1 h2 => ⟨_, rfl, ?_⟩) (PyProof.Rows.args_list_sort _)))
  obtain ⟨g1, g2, g3⟩ := SrtO.ints_out hS h1 h2
  obtain ⟨e', he'⟩ := PyProof.Rows.sortedHeap_at (vs := acc.toList) (out := out.toArray) hoL
  have hlen : ((out.map SrtO.iv).map V.int).length ≤ sizeLine := by
    rw [List.length_map, g2.length_eq]
    exact hz
  refine wpAny_pure ⟨_, rfl, .ref h'.objs.size, upd H h'.objs.size (.lst ((out.map SrtO.iv).map V.int)), I1.laid (t' := tk) (fun b u e => ?_) (Nat.le_refl _)
    (show ObjOk X.prog X.w _ _ _ (.lst ((out.map SrtO.iv).map V.int)) from ⟨hlen, out, e', vals_of_ints g1, he'⟩), rfl, q _ _ g2 g3 (I1.hok.fresh (Nat.le_refl _))⟩
  have hb : b < h'.objs.size := Heap.lt_size e
  rw [PyProof.Rows.sortedHeap_old (Nat.ne_of_lt hb) (by rw [size_push']; exact Nat.lt_succ_of_lt hb)]
  exact Heap.get?_push_of_some _ e
def rSortedK : List V → Hp → VK → Prop := fun xs H Q => ∃ (r a : Addr) (kvs : List (Key × V)) (ks : List Int), xs = [.ref r] ∧ H r = some (KO r a) ∧ Rd H a (.dK kvs) ∧ kvs.map (·.1) = ks.map Sum.inl ∧
    ∀ (ys : List Int) (p : Addr), ys.Perm ks → ys.Pairwise (· ≤ ·) → H p = none → Q (.ref p) (upd H p (.lst (ys.map V.int)))
/-- sorted(d.keys()), all ints -/
theorem call_sortedK {X : Cx} (hcalm : X.calm = true) : CallR X (.builtin "sorted") rSortedK := by
  intro pins s σ H xs us Q I r q
  obtain ⟨v, a, kvs, ks, ex, hv, hd, hks, q⟩ := q
  subst ex
  obtain ⟨u, eu, rx⟩ := vals1 r
  subst eu
  cases rx
  obtain ⟨hview, _, _⟩ := I.hok v _ hv
  obtain ⟨z, lo, vs, rel, dd⟩ := dk_rd I.hok hd
  obtain ⟨ep, hat⟩ := dd.dictAt
  have hkeys : vs.map (·.1) = ks.map Sum.inl := rel.keys.symm.trans hks
  have hz := congrArg List.length hks
  rw [List.length_map, List.length_map] at hz
  exact sorted_src hcalm I (PySem.W.kdl_keys (knd := mixKind X.prog X.w) (kvs := vs) (ep := ep) (r := v) (d := a)) ⟨hview, hat⟩ hkeys (by omega) q
def rSortedDW : List V → Hp → VK → Prop := fun xs H Q => ∃ (a : Addr) (kvs : List (Key × V)) (ks : List Int), xs = [.ref a] ∧ Rd H a (.dK kvs) ∧ kvs.map (·.1) = ks.map Sum.inl ∧
    ∀ (ys : List Int) (p : Addr), ys.Perm ks → ys.Pairwise (· ≤ ·) → H p = none → Q (.ref p) (upd H p (.lst (ys.map V.int)))
/-- sorted(d), all ints -/
theorem call_sortedDW {X : Cx} (hcalm : X.calm = true) : CallR X (.builtin "sorted") rSortedDW := by
  intro pins s σ H xs us Q I r q
  obtain ⟨a, kvs, ks, ex, hd, hks, q⟩ := q
  subst ex
  obtain ⟨u, eu, rx⟩ := vals1 r
  subst eu
  cases rx
  obtain ⟨z, lo, vs, rel, dd⟩ := dk_rd I.hok hd
  obtain ⟨ep, hat⟩ := dd.dictAt
  have hkeys : vs.map (·.1) = ks.map Sum.inl := rel.keys.symm.trans hks
  have hz := congrArg List.length hks
  rw [List.length_map, List.length_map] at hz
  exact sorted_src hcalm I (PySem.W.kdl_dict (knd := mixKind X.prog X.w) (kvs := vs) (ep := ep) lo) hat hkeys (by omega) q
end Ow
namespace Ow
open PySem PySem.Spec PyProof.Rows L2
/-! ### range(i, j), its ends of any size -/
theorem turn_long {P : Program} {w : World} {K : PySem.W.Frag} {tg : Expr} (it : Addr) (lo : Int) (n : Nat) : Turn P w K tg (Itr lo n) [it] it (fun i h => IsLongIter h it (lo + (i : Nat) * 1) ((n : Int) - (i : Nat)) 1) where
  mem := by simp
  obj := fun i h st b hb => by
    cases List.mem_singleton.mp hb
    exact ⟨_, st, fun v z => by
      have z' : Data.fields _ = Data.cell v := z
      cases z'⟩
  keep := fun i h h' st k => k it (by simp) _ st
  item := by
    intro X hP hw hK hc i pins s σ H E I hf st hg
    subst hP hw hK
    obtain ⟨f0, f1, _, f3, f4, f5⟩ := hf it (by simp)
    have hlt : i < n := hg
    refine wpAny_pyNext_long_item st (by omega) fun h' st' sb => ?_
    have st2 : IsLongIter h' it (lo + ((i + 1 : Nat) : Int) * 1) ((n : Int) - ((i + 1 : Nat) : Int)) 1 := by
      rw [show lo + ((i + 1 : Nat) : Int) * 1 = lo + ((i : Nat) : Int) * 1 + 1 by omega, show (n : Int) - ((i + 1 : Nat) : Int) = (n : Int) - ((i : Nat) : Int) - 1 by omega]
      exact st'
    have J : Inv X pins σ H { s with heap := h', toks := s.toks + 1 } := I.turned (fun b o hb q => (sb.2 b hb).trans q) f0 f1 f3 f4 f5
    refine ⟨_, rfl, go_of (s := { s with heap := h', toks := s.toks + 1 }) (n := "longrange_iterator") st2 rfl rfl (by decide) ⟨.int (lo + i), H, J, ⟨s.toks, ?_⟩, ⟨rfl, rfl⟩, st2, fun b hb => (hf b hb).1⟩⟩
    rw [Int.mul_one]
  done := by
    intro X hP hw hK hc i pins s σ H E I hf st hg
    subst hP hw hK
    obtain ⟨f0, f1, _, f3, f4, f5⟩ := hf it (by simp)
    exact wpAny_pyNext_long_end (I.ok.hd hc) st (by have : n ≤ i := hg; omega) fun h' eb => ⟨rfl, I.turned (t' := s.toks) (fun b o hb q => eb b o hb q) f0 f1 f3 f4 f5⟩
  self := fun _ _ _ _ _ st h => wpAny_pyIter_longiter st h
def iRngW (ta : TA) : TI := fun σ H R => ta σ H fun vs H1 => ∃ i j : Int, vs = [.int i, .int j] ∧ R (Itr i (j - i).toNat) H1
theorem pi_range2W {X : Cx} {tg a b : Expr} {ta : TA} {p pos : Pos} (hg : Gl X "range") (hm : X.mg "range" = none) (ha : PA X [a, b] ta) (hs : starEach [a, b] X.env = [(false, eval a X.env), (false, eval b X.env)] := by rfl) (hs2 : starEach [b] X.env = [(false, eval b X.env)] := by rfl) :
    PI X tg (.Call (.Name "range" p) [a, b] [] pos) (iRngW ta) := by
  constructor
  intro pins s σ H R I h
  refine Call_ (ld_blt I hg hm boot_range (PyProof.Rows.callWith_type1 (thn (ha.run pos pins s σ H _ I h) fun us s1 ⟨vs, H1, I1, r1, lo, hi, ev, q⟩ => ?_) (by rw [hs, hs2]) (by rw [hs2]; rfl)))
  subst ev
  obtain ⟨u1, u2, rfl, ⟨t, rfl⟩, ⟨t', rfl⟩⟩ := vals2 r1
  refine call_range_2 ?_
  generalize hh : s1.heap.push { cls := .type "range", data := .fields #[.int lo t, .int hi t', .int 1 s1.toks] } = g
  have I2 : Inv X pins σ H1 { s1 with heap := g, toks := s1.toks + 1 } := I1.kept fun b o q => by rw [← hh]; exact Heap.get?_push_of_some _ q
  have at_ : IsRange g s1.heap.objs.size lo hi 1 t t' s1.toks := by rw [← hh]; exact Heap.get?_push_size _ rfl
  have size : ((((hi - lo).toNat : Nat) : Int) - ((0 : Nat) : Int)) = Builtin.Range.rangeSize lo hi 1 := by rw [rangeSize_one]; split <;> omega
  have place : lo + ((0 : Nat) : Int) * 1 = lo := by simp
  cases hb : Builtin.Range.small lo hi 1 with
  | true =>
    refine wpAny_pyIter_range at_ hb ⟨g.objs.size, [g.objs.size], _, _, H1, rfl, I2.kept (t' := s1.toks + 1) fun b o q => Heap.get?_push_of_some _ q, turn_range _ lo (hi - lo).toNat, ?_, fun b hb => ?_, q⟩
    · show IsRangeIter _ _ (lo + ((0 : Nat) : Int) * 1) ((((hi - lo).toNat : Nat) : Int) - ((0 : Nat) : Int)) 1
      rw [place, size]
      exact Heap.get?_push_size _ rfl
    · cases List.mem_singleton.mp hb
      exact I2.fpOk (Nat.le_refl _) (I2.hok.fresh (Nat.le_refl _))
  | false =>
    refine wpAny_pyIter_longrange at_ hb ⟨g.objs.size, [g.objs.size], _, _, H1, rfl, I2.kept (t' := s1.toks + 1) fun b o q => Heap.get?_push_of_some _ q, turn_long _ lo (hi - lo).toNat, ?_, fun b hb => ?_, q⟩
    · show IsLongIter _ _ (lo + ((0 : Nat) : Int) * 1) ((((hi - lo).toNat : Nat) : Int) - ((0 : Nat) : Int)) 1
      rw [place, size]
      exact Heap.get?_push_size _ rfl
    · cases List.mem_singleton.mp hb
      exact I2.fpOk (Nat.le_refl _) (I2.hok.fresh (Nat.le_refl _))
end Ow
namespace Ow
open PySem PySem.Spec PyProof.Rows L2
/-! ### defs that are called while an exception is handled -/
theorem roomX {k : Nat} {A : Around} {v : Option Value} (r : Room k A) : L2H.RoomH k (A.mark v) := ⟨r.dp, r.un⟩
/-- the same context under another surrounding, not calm -/
theorem inv_re {X : Cx} {pins : List (Addr × Obj)} {σ : L2.St} {H : Hp} {s : Shared} (I : Inv X pins σ H s) (A2 : Around) (xe2 : Value → Shared → Prop) (h : A2.frames = X.A.frames) : Inv { X with A := A2, calm := false, xe := xe2 } pins σ H s :=
  have k := I.ok
  ⟨⟨k.mod, k.kind, k.glob, k.blt, k.above, k.inj, k.has, k.cab, (fun z => Bool.noConfusion (show false = true from z)), h.trans k.frames, k.stk, k.exf, k.bs, k.bsz, k.noex, k.exfs, k.funs, k.frf⟩, I.os, I.bare, I.base, I.loc, I.cell, I.free, I.freeC, I.pin, I.hok, I.len⟩
/-- what a def promises where the exception at a is handled -/
structure FnX (P : Program) (w : World) (K : PySem.W.Frag) (mg : Str → Option Value) (base : Heap) (k : Nat) (f : Addr) (fd : FuncData) (ps : List Str) (sp : Addr → Sp) : Prop where
  many : ∀ a vs H Q E, sp a vs H Q E → vs.length = ps.length
  runs : ∀ (a : Addr) (A : Around) (outer : List Env) (s : Shared) (H : Hp) (args : Args) (us : List Value) (vs : List V) (Q : VK) (E : XK), A.handled = some (.ref a) → L2H.RoomH k A → Env0 P w K mg base A outer s H → BindsTo s fd args (ps.zip us) → Vals vs us → sp a vs H Q E →
    codeAny (model P w) A (.call (.ref f) args) (CR (L2.CX P w) outer P w H s Q E) s
abbrev cxX (P : Program) (w : World) (K : PySem.W.Frag) (mg : Str → Option Value) (base : Heap) (N : List Str) (qual : Str) (scope : Scope) (f : Addr) (cd : Value) (A : Around) (outer : List Env) (s : Shared) (H : Hp) (E : XK) : Cx :=
  { cxOf (L2.CX P w) P w K mg base N qual scope f cd A outer s H E with calm := false }
section
variable {P : Program} {w : World} {K : PySem.W.Frag} {mg : Str → Option Value} {base : Heap}
theorem fnX_of {x qual : Str} {params : Arguments} {body : List Stmt} {scope : Scope} {f : Addr} {fd : FuncData} {N ps : List Str} {k : Nat} {sp : Addr → Sp} (F : FunD K x qual params body scope [] [] f fd) (S : FnScope N ps scope) (many : ∀ a vs H Q E, sp a vs H Q E → vs.length = ps.length)
    (does : ∀ (cdv : Value) (A : Around) (outer : List Env) (s : Shared) (H : Hp) (vs : List V) (Q : VK) (E : XK) (a : Addr), A.handled = some (.ref a) → L2H.RoomH k (A.deeper (envOfC qual scope s.heap.objs.size f cdv)) → sp a vs H Q E →
      ∃ t, PSs (cxX P w K mg base N qual scope f cdv A outer s H E) body t ∧ t { nx := fun _ H' => Q .non H', rt := Q } (L2.start N vs) H) : FnX P w K mg base (k + 1) f fd ps sp := by
  obtain ⟨oc, od, dV, kV, doc, pm, an, cdv, ct, osl, rfl, looked, coded, _, _⟩ := F.ex
  refine ⟨many, fun a A outer s H args us vs Q E hot room e0 bound r asked => ?_⟩
  have given := many _ _ _ _ _ asked
  have inK : K.In s.heap := e0.mod.kin.keeps fun b o e => (e0.bs b o e).1
  have unbound : s.heap.NoLimit := e0.mod.nolimit.keeps fun b o e => (e0.bs b o e).1
  have kinds : ∀ y ∈ ps.zip us, scope.names.lookup y.1 = some .local ∨ (scope.names.lookup y.1 = some .cell ∧ ((cellsFrom (s.heap.objs.size + 1) scope.names []).lookup y.1).isSome = true) := by
    intro y hy
    refine (S.par y.1 (List.of_mem_zip (a := y.1) (b := y.2) hy).1).imp (fun z => z) fun z => ⟨z, ?_⟩
    exact PySem.W.cellsFrom_some _ _ _ (.inl z)
  refine codeAny_call_function room.depth (inK _ _ looked) rfl S.co S.gen rfl (PySem.W.codeRec_of inK coded) (bound _ _ _ _ (wpAny_newFunctionEnv_cells S.kind kinds fun env he s1 x => ?_))
  cases he
  refine ⟨unbound.keeps x.toInCall.keep, codeAny_func ?_⟩
  obtain ⟨t, derived, reads⟩ := does cdv A outer s H vs Q E a hot (room.deeper _) asked
  have cold : Env0 P w K mg base { A with handled := none } outer s H := ⟨e0.frames, e0.mod, e0.bs, e0.bsz, e0.funs, e0.frf, e0.hok, e0.bare⟩
  have I : Inv (cxX P w K mg base N qual scope f cdv A outer s H E) [] (L2.start N vs) H s1 := inv_re (inv_start (CX := L2.CX P w) (E := E) S rfl cold given r x) (A.deeper (envOfC qual scope s.heap.objs.size f cdv)) _ rfl
  refine wpAny_mono (derived.run [] s1 (L2.start N vs) H _ I reads) (fun fl s2 ends => ?_) fun _ _ left => left
  rcases fl with _ | _ | _ | u
  · obtain ⟨τ, G, J, q⟩ := ends
    exact ⟨.non, G, J.os, J.bare, J.base, J.hok, rfl, q⟩
  · exact ends.elim fun _ z => z.elim fun _ z => z.2.elim
  · exact ends.elim fun _ z => z.elim fun _ z => z.2.elim
  · obtain ⟨v, τ, G, J, rv, q⟩ := ends
    exact ⟨v, G, J.os, J.bare, J.base, J.hok, rv, q⟩
end
/-- a def that may be called so -/
structure CeeX (P : Program) (w : World) (K : PySem.W.Frag) (mg : Str → Option Value) (base : Heap) (k : Nat) (f : Addr) (ps : List Str) (sp : Addr → Sp) : Prop where
  kp : PySem.W.keepIn K (.ref f) = true
  fn : ∃ fd, FnX P w K mg base k f fd ps (fun a => bx (sp a)) ∧ Binds K fd ps []
theorem ceeX_of {P : Program} {w : World} {K : PySem.W.Frag} {mg : Str → Option Value} {base : Heap} {x qual : Str} {params : Arguments} {body : List Stmt} {scope : Scope} {f : Addr} {N ps : List Str} {k : Nat} {sp : Addr → Sp} (F : ∃ fd, FunD K x qual params body scope [] [] f fd) (S : FnScope N ps scope)
    (hb : ∀ (kV doc pm : Value) (an : Option Addr) (cdv ct : Value) (us : List Value), us.length = ps.length → bindArgs (PySem.W.fnOf x qual params body scope .none kV doc pm an cdv ct) ⟨us, []⟩ = pure (ps.zip us))
    (many : ∀ a vs H Q E, sp a vs H Q E → vs.length = ps.length)
    (does : ∀ (cdv : Value) (A : Around) (outer : List Env) (s : Shared) (H : Hp) (vs : List V) (Q : VK) (E : XK) (a : Addr), A.handled = some (.ref a) → L2H.RoomH k (A.deeper (envOfC qual scope s.heap.objs.size f cdv)) → sp a vs H Q E →
      ∃ t, PSs (cxX P w K mg base N qual scope f cdv A outer s H E) body t ∧ t { nx := fun _ H' => Q .non H', rt := Q } (L2.start N vs) H) : CeeX P w K mg base (k + 1) f ps sp := by
  obtain ⟨fd, F⟩ := F
  exact ⟨F.kp, fd, fnX_of F S (fun a vs H Q E h => many a vs H Q E h.out) (fun cdv A outer s H vs Q E a hot room h => does cdv A outer s H vs Q E a hot room h.out), F.bindsN hb⟩
section
variable {X : Cx} {k : Nat} {f a : Addr} {ps : List Str} {sp : Addr → Sp} {W : WX} {x : Str} {p pos : Pos} {e : Expr} {es : List Expr} {t : TA}
theorem pe_fX (c : CeeX X.prog X.w X.K X.mg X.base k f ps sp) (hr : L2H.RoomH k X.A) (hot : X.A.handled = some (.ref a)) (tk : Takes X W) (hg : Gl X x) (hm : X.mg x = some (.ref f)) (ha : PA X (e :: es) t) (hdb : (x == ("__debug__" : Str)) = false := by decide)
    (he : starEach (e :: es) X.env = (false, eval e X.env) :: starEach es X.env := by rfl) (hpl : (backTo pos (starEach es X.env)).any (·.1) = false := by rfl) :
    PE X (.Call (.Name x p) (e :: es) [] pos) (tCallS (bx (sp a)) (WE W) t) := by
  obtain ⟨fd, F, b⟩ := c.fn
  constructor
  intro pins s σ H Q I h
  refine wpAny_Call_Name_kw (ld_glob I hg hm (PySem.W.callWith_K (h₀ := X.base) I.ok.mod.kin c.kp (thn (ha.run pos pins s σ H _ I h) fun us s1 ⟨vs, H1, I1, rv, q⟩ => ⟨I1.kIn, ?_⟩) he hpl) hdb)
  have many : us.length = ps.length := by rw [← rv.length]; exact F.many _ _ _ _ _ q
  have binds := b s1 us I1.kIn (by rw [List.append_nil]; exact many)
  rw [List.append_nil] at binds
  refine wpAny_call (codeAny_mono (F.runs a X.A X.stack s1 H1 ⟨us, []⟩ us vs Q (WE W σ) hot hr I1.env0 binds rv q) fun r s' ends => ?_)
  rcases r with ev | fl
  · exact passAt tk σ pins H1 s1 ev s' I1 ends
  · rcases fl with _ | _ | _ | u
    · exact ends.elim
    · exact ends.elim
    · exact ends.elim
    · exact I1.after ends
end
end Ow
namespace Ow
open PySem PySem.Spec PyProof.Rows L2
/-! ### texts, ranges -/
theorem op_notIn_rng {X : Cx} : OpR X (compareOp .NotIn) (fun x y H Q => ∃ i a lo hi, x = V.int i ∧ y = V.ref a ∧ H a = some (.rng lo hi) ∧ Q (.bl (!decide (lo ≤ i ∧ i < hi))) H) := by
  intro pins s σ H x y v u Q I rx ry h
  obtain ⟨i, a, lo, hi, rfl, rfl, ha, q⟩ := h
  obtain ⟨k, rfl⟩ := rx
  obtain rfl : u = Value.ref a := ry
  obtain ⟨t1, t2, t3, ho⟩ := I.hok a _ ha
  show wpAny _ _ (do return Value.bool (!(← contains (Value.ref a) (Value.int i k)))) _ _ s
  refine wpAny_bind (wpAny_contains_slot (T := "range") ⟨_, ho, rfl⟩ F.slot_range_contains (call_meets F.slot_range_contains ⟨_, ho, rfl⟩ F.entry_range_contains (F.args_range_contains_2 _ _) (q_contains a lo hi i t1 t2 t3 k) ⟨ho, wpAny_truthy_bool (wpAny_pure ?_)⟩))
  refine ⟨.bl _, H, I, rfl, ?_⟩
  rw [place1]
  exact q
/-- so many times a text -/
def repS (z : Str) (n : Int) : Str := ⟨((List.replicate n.toNat z.cps.toList).flatten).toArray⟩
theorem foldl_cps (c : Array Nat) : ∀ (k : Nat) (a : Array Nat), (List.replicate k c).foldl (· ++ ·) a = a ++ ((List.replicate k c.toList).flatten).toArray
  | 0, a => by simp
  | k + 1, a => by
    rw [List.replicate_succ, List.foldl_cons, foldl_cps c k, List.replicate_succ, List.flatten_cons, Array.append_assoc]
    congr 1
    apply Array.ext'
    simp
theorem op_rep_str {X : Cx} : OpR X (binaryOp .Mult) (fun x y H Q => ∃ z n, x = .str z ∧ y = .int n ∧ 0 ≤ n ∧ n ≤ 2000 ∧ z.length ≤ 2000 ∧ Q (.str (repS z n)) H) := by
  intro pins s σ H x y v u Q I rx ry h
  obtain ⟨z, n, rfl, rfl, h0, h1, h2, q⟩ := h
  obtain ⟨t, rfl⟩ := rx
  obtain ⟨t2, rfl⟩ := ry
  have hl : z.length * n.toNat ≤ 4000000 := Nat.le_trans (Nat.mul_le_mul h2 (show n.toNat ≤ 2000 by omega)) (by decide)
  have e0 : n < 1 → repS z n = Str.empty := fun h => by
    have : n.toNat = 0 := by omega
    unfold repS; rw [this]; rfl
  have e1 : (n == 1 || z.length == 0) = true → ¬ n < 1 → repS z n = z := fun h hn => by
    rcases (Bool.or_eq_true _ _).mp h with h | h
    · obtain rfl := eq_of_beq h
      unfold repS
      show (⟨((List.replicate 1 z.cps.toList).flatten).toArray⟩ : Str) = z
      simp
    · have hz : z.cps.toList = [] := by
        have := eq_of_beq h
        exact List.length_eq_zero_iff.mp (by rw [Array.length_toList]; exact this)
      have hc : z.cps = #[] := Array.ext' hz
      unfold repS
      rw [hz, List.flatten_replicate_nil]
      cases z
      congr 1
      exact hc.symm
  have e2 : (⟨(List.replicate n.toNat z.cps).foldl (· ++ ·) #[]⟩ : Str) = repS z n := by rw [foldl_cps, Array.empty_append]; rfl
  refine P.mul_str (by
      have a1 : ¬ n < -(2 ^ 63) := by omega
      have a2 : ¬ n ≥ 2 ^ 63 := by omega
      rw [decide_eq_false a1, decide_eq_false a2]; rfl) (fun hn _ hc => ?_) (fun _ _ => ?_) ?_
  · have h3 : (2000 : Int) ≤ (2 ^ 63 - 1) / n := Int.le_ediv_of_mul_le (by omega) (by omega)
    omega
  · unfold Builtin.Str.tooLong
    exact decide_eq_false (by have : sizeLine ≥ 4000000 := by decide
                              omega)
  · split
    · next hn => exact ⟨by decide, .str (repS z n), H, I.tok _, ⟨_, by rw [e0 hn]⟩, q⟩
    · next hn =>
      split
      · next hb => exact ⟨.str (repS z n), H, I, ⟨_, by rw [e1 hb hn]⟩, q⟩
      · next hb =>
        refine ⟨?_, .str (repS z n), H, I.tok _, ⟨_, by rw [e2]⟩, q⟩
        rw [e2]
        unfold repS Str.length
        rw [List.size_toArray, List.length_flatten, List.map_replicate, List.sum_replicate_nat, Array.length_toList]
        have h4 : z.length = z.cps.size := rfl
        rw [← h4, Nat.mul_comm]
        exact Nat.le_trans hl (by decide)
section
variable {H0 H : Hp} {A : List Addr} {cs : Cells} {p : Addr} {o : HO}
/-- a new cell, the heap behind it by a letter -/
theorem Own.sQ {β : Type} {y : β} {G : Hp → β → Prop} (O : Own H0 H A cs) (h : H p = none) (k : ∀ H', Own H0 H' A ((p, o) :: cs) → Own H H' (Ow.adr cs) ((p, o) :: cs) → G H' y) : G (upd H p o) y := k _ (O.new h) (O.self.new h)
theorem Own.sT {β : Type} {y : β} {G : Hp → β → Prop} (O : Own H0 H A cs) (h : H p = none) (k : ∀ H', Own H0 H' A cs → Own H H' (Ow.adr cs) cs → H' p = some o → G H' y) : G (upd H p o) y := k _ (O.newT h) (O.self.newT h) upd_same
theorem Own.sG {G : Hp → Prop} (O : Own H0 H A cs) (h : H p = none) (k : ∀ H', Own H0 H' A ((p, o) :: cs) → Own H H' (Ow.adr cs) ((p, o) :: cs) → G H') : G (upd H p o) := k _ (O.new h) (O.self.new h)
end
end Ow
namespace Ow
open PySem PySem.Spec PyProof.Rows L2
/-- a statement that no walk reaches -/
theorem ps_dead {X : Cx} {st : Stmt} : PS X st (fun _ _ _ => False) := ⟨fun _ _ _ _ _ _ h => h.elim⟩
end Ow
namespace Ow
open PySem PySem.Spec PyProof.Rows L2

structure Txt (w : World) (K : PySem.W.Frag) (mg : Str → Option Value) : Prop where
  t_ARGUMENTS : ∃ es n, KDict K w (He.ga K "ARGUMENTS") es n
  g_BadRow : mg "BadRow" = some (.ref (He.ga K "BadRow"))
  g_FIGURES : ∃ t, mg "FIGURES" = some (.str "0123456789" t)
  g_MOST_FIGURES : ∃ t, mg "MOST_FIGURES" = some (.int 3 t)
  g_ADDRESSES : ∃ t, mg "ADDRESSES" = some (.int 512 t)
  g_CELLS : ∃ t, mg "CELLS" = some (.int 256 t)
  g_ARGUMENTS : mg "ARGUMENTS" = some (.ref (He.ga K "ARGUMENTS"))
  g_number_of : mg "number_of" = some (.ref (He.ga K "number_of"))
  g_number_below : mg "number_below" = some (.ref (He.ga K "number_below"))
  g_address_good : mg "address_good" = some (.ref (He.ga K "address_good"))
  g_argument_good : mg "argument_good" = some (.ref (He.ga K "argument_good"))
  g_call_parts : mg "call_parts" = some (.ref (He.ga K "call_parts"))
  g_call_good : mg "call_good" = some (.ref (He.ga K "call_good"))
  g_step_good : mg "step_good" = some (.ref (He.ga K "step_good"))
  g_read_program : mg "read_program" = some (.ref (He.ga K "read_program"))
  g__law_cell_at : mg "_law_cell_at" = some (.ref (He.ga K "_law_cell_at"))
  g__law_mix : mg "_law_mix" = some (.ref (He.ga K "_law_mix"))
  g__law_address : mg "_law_address" = some (.ref (He.ga K "_law_address"))
  g__law_argument : mg "_law_argument" = some (.ref (He.ga K "_law_argument"))
  g__law_call_by : mg "_law_call_by" = some (.ref (He.ga K "_law_call_by"))
  g__law_words_by : mg "_law_words_by" = some (.ref (He.ga K "_law_words_by"))
  g__law_program_by : mg "_law_program_by" = some (.ref (He.ga K "_law_program_by"))
  g__law_text_of : mg "_law_text_of" = some (.ref (He.ga K "_law_text_of"))
  g__law_steps : mg "_law_steps" = some (.ref (He.ga K "_law_steps"))
  g_law : mg "law" = some (.ref (He.ga K "law"))
  n_int : mg "int" = none
  n_all : mg "all" = none
  n_enumerate : mg "enumerate" = none
  n_str : mg "str" = none
  n_range : mg "range" = none
  n_len : mg "len" = none
  n_isinstance : mg "isinstance" = none
  n_max : mg "max" = none
  n_list : mg "list" = none
  n_tuple : mg "tuple" = none
  v_ARGUMENTS : ∀ q ∈ ([("map", .int 2), ("drop", .int 2), ("fork", .int 0), ("end", .int 1), ("wait", .int 0), ("who", .int 0), ("make", .int 1), ("dir", .int 1), ("link", .int 2), ("unlink", .int 1), ("undir", .int 1), ("move", .int 2), ("names", .int 1), ("stat", .int 1), ("open", .int 2), ("close", .int 1), ("same", .int 1), ("give", .int 2), ("pipe", .int 0), ("read", .int 3), ("write", .int 3), ("seek", .int 2), ("signal", .int 2), ("handle", .int 2), ("mask", .int 2), ("due", .int 0), ("time", .int 0), ("alarm", .int 1)] : List (PySem.Str × He.Dv)), ∃ u, PySem.W.nsIn K (He.ga K "ARGUMENTS") q.1 = some (some u) ∧ RelV (q.2.v K) u
  d_BadRow___init__ : ∃ fd, FunD K "__init__" "BadRow.__init__" (defArgs s_BadRow___init__) (defBody s_BadRow___init__) (defScope s_BadRow___init__) [] [] (He.fAd K ("BadRow", some "__init__")) fd
  d_number_of : ∃ fd, FunD K "number_of" "number_of" (defArgs s_number_of) (defBody s_number_of) (defScope s_number_of) [] [] (He.fAd K ("number_of", none)) fd
  d_number_below : ∃ fd, FunD K "number_below" "number_below" (defArgs s_number_below) (defBody s_number_below) (defScope s_number_below) [] [] (He.fAd K ("number_below", none)) fd
  d_address_good : ∃ fd, FunD K "address_good" "address_good" (defArgs s_address_good) (defBody s_address_good) (defScope s_address_good) [] [] (He.fAd K ("address_good", none)) fd
  d_argument_good : ∃ fd, FunD K "argument_good" "argument_good" (defArgs s_argument_good) (defBody s_argument_good) (defScope s_argument_good) [] [] (He.fAd K ("argument_good", none)) fd
  d_call_parts : ∃ fd, FunD K "call_parts" "call_parts" (defArgs s_call_parts) (defBody s_call_parts) (defScope s_call_parts) [] [] (He.fAd K ("call_parts", none)) fd
  d_call_good : ∃ fd, FunD K "call_good" "call_good" (defArgs s_call_good) (defBody s_call_good) (defScope s_call_good) [] [] (He.fAd K ("call_good", none)) fd
  d_step_good : ∃ fd, FunD K "step_good" "step_good" (defArgs s_step_good) (defBody s_step_good) (defScope s_step_good) [] [] (He.fAd K ("step_good", none)) fd
  d_read_program : ∃ fd, FunD K "read_program" "read_program" (defArgs s_read_program) (defBody s_read_program) (defScope s_read_program) [] [] (He.fAd K ("read_program", none)) fd
  d__law_cell_at : ∃ fd, FunD K "_law_cell_at" "_law_cell_at" (defArgs s__law_cell_at) (defBody s__law_cell_at) (defScope s__law_cell_at) [] [] (He.fAd K ("_law_cell_at", none)) fd
  d__law_mix : ∃ fd, FunD K "_law_mix" "_law_mix" (defArgs s__law_mix) (defBody s__law_mix) (defScope s__law_mix) [] [] (He.fAd K ("_law_mix", none)) fd
  d__law_address : ∃ fd, FunD K "_law_address" "_law_address" (defArgs s__law_address) (defBody s__law_address) (defScope s__law_address) [] [] (He.fAd K ("_law_address", none)) fd
  d__law_argument : ∃ fd, FunD K "_law_argument" "_law_argument" (defArgs s__law_argument) (defBody s__law_argument) (defScope s__law_argument) [] [] (He.fAd K ("_law_argument", none)) fd
  d__law_call_by : ∃ fd, FunD K "_law_call_by" "_law_call_by" (defArgs s__law_call_by) (defBody s__law_call_by) (defScope s__law_call_by) [] [] (He.fAd K ("_law_call_by", none)) fd
  d__law_words_by : ∃ fd, FunD K "_law_words_by" "_law_words_by" (defArgs s__law_words_by) (defBody s__law_words_by) (defScope s__law_words_by) [] [] (He.fAd K ("_law_words_by", none)) fd
  d__law_program_by : ∃ fd, FunD K "_law_program_by" "_law_program_by" (defArgs s__law_program_by) (defBody s__law_program_by) (defScope s__law_program_by) [] [] (He.fAd K ("_law_program_by", none)) fd
  d__law_text_of : ∃ fd, FunD K "_law_text_of" "_law_text_of" (defArgs s__law_text_of) (defBody s__law_text_of) (defScope s__law_text_of) [] [] (He.fAd K ("_law_text_of", none)) fd
  d__law_steps : ∃ fd, FunD K "_law_steps" "_law_steps" (defArgs s__law_steps) (defBody s__law_steps) (defScope s__law_steps) [] [] (He.fAd K ("_law_steps", none)) fd
  d_law : ∃ fd, FunD K "law" "law" (defArgs s_law) (defBody s_law) (defScope s_law) [] [] (He.fAd K ("law", none)) fd

theorem txt_mk {K : PySem.W.Frag} {h : Heap} {mg : Str → Option Value} (X : K.In h) (G : h.Ns mainGlobals mg) (c : He.SaysD fas fns K) (m : exB K = true) {w : World} (ct : He.SaysT fas fns tbs w K) : Txt w K mg where
  t_ARGUMENTS := ct.tab 0
  g_BadRow := He.glo_ok X G (c.fact 0 (f := .glo "BadRow") rfl)
  g_FIGURES := He.str_ok X G (c.fact 1 (f := .str "FIGURES" "0123456789") rfl)
  g_MOST_FIGURES := He.int_ok X G (c.fact 2 (f := .int "MOST_FIGURES" 3) rfl)
  g_ADDRESSES := He.int_ok X G (c.fact 3 (f := .int "ADDRESSES" 512) rfl)
  g_CELLS := He.int_ok X G (c.fact 4 (f := .int "CELLS" 256) rfl)
  g_ARGUMENTS := He.glo_ok X G (c.fact 5 (f := .glo "ARGUMENTS") rfl)
  g_number_of := He.glo_ok X G (c.fact 6 (f := .glo "number_of") rfl)
  g_number_below := He.glo_ok X G (c.fact 7 (f := .glo "number_below") rfl)
  g_address_good := He.glo_ok X G (c.fact 8 (f := .glo "address_good") rfl)
  g_argument_good := He.glo_ok X G (c.fact 9 (f := .glo "argument_good") rfl)
  g_call_parts := He.glo_ok X G (c.fact 10 (f := .glo "call_parts") rfl)
  g_call_good := He.glo_ok X G (c.fact 11 (f := .glo "call_good") rfl)
  g_step_good := He.glo_ok X G (c.fact 12 (f := .glo "step_good") rfl)
  g_read_program := He.glo_ok X G (c.fact 13 (f := .glo "read_program") rfl)
  g__law_cell_at := He.glo_ok X G (c.fact 14 (f := .glo "_law_cell_at") rfl)
  g__law_mix := He.glo_ok X G (c.fact 15 (f := .glo "_law_mix") rfl)
  g__law_address := He.glo_ok X G (c.fact 16 (f := .glo "_law_address") rfl)
  g__law_argument := He.glo_ok X G (c.fact 17 (f := .glo "_law_argument") rfl)
  g__law_call_by := He.glo_ok X G (c.fact 18 (f := .glo "_law_call_by") rfl)
  g__law_words_by := He.glo_ok X G (c.fact 19 (f := .glo "_law_words_by") rfl)
  g__law_program_by := He.glo_ok X G (c.fact 20 (f := .glo "_law_program_by") rfl)
  g__law_text_of := He.glo_ok X G (c.fact 21 (f := .glo "_law_text_of") rfl)
  g__law_steps := He.glo_ok X G (c.fact 22 (f := .glo "_law_steps") rfl)
  g_law := He.glo_ok X G (c.fact 23 (f := .glo "law") rfl)
  n_int := He.free_ok X G (c.fact 24 (f := .free "int") rfl)
  n_all := He.free_ok X G (c.fact 25 (f := .free "all") rfl)
  n_enumerate := He.free_ok X G (c.fact 26 (f := .free "enumerate") rfl)
  n_str := He.free_ok X G (c.fact 27 (f := .free "str") rfl)
  n_range := He.free_ok X G (c.fact 28 (f := .free "range") rfl)
  n_len := He.free_ok X G (c.fact 29 (f := .free "len") rfl)
  n_isinstance := He.free_ok X G (c.fact 30 (f := .free "isinstance") rfl)
  n_max := He.free_ok X G (c.fact 31 (f := .free "max") rfl)
  n_list := He.free_ok X G (c.fact 32 (f := .free "list") rfl)
  n_tuple := He.free_ok X G (c.fact 33 (f := .free "tuple") rfl)
  v_ARGUMENTS := (fun (h : He.valsB K (He.ga K "ARGUMENTS") [("map", .int 2), ("drop", .int 2), ("fork", .int 0), ("end", .int 1), ("wait", .int 0), ("who", .int 0), ("make", .int 1), ("dir", .int 1), ("link", .int 2), ("unlink", .int 1), ("undir", .int 1), ("move", .int 2), ("names", .int 1), ("stat", .int 1), ("open", .int 2), ("close", .int 1), ("same", .int 1), ("give", .int 2), ("pipe", .int 0), ("read", .int 3), ("write", .int 3), ("seek", .int 2), ("signal", .int 2), ("handle", .int 2), ("mask", .int 2), ("due", .int 0), ("time", .int 0), ("alarm", .int 1)] = true) (q : PySem.Str × He.Dv) hq => He.valsB_ok h (q := q) hq) (all_at (all_at m 0 rfl) 0 rfl)
  d_BadRow___init__ := c.def_ 0 (d := ⟨("BadRow", some "__init__"), "__init__", "BadRow.__init__", defArgs (inClass (top 2) 0), defBody (inClass (top 2) 0), defScope (inClass (top 2) 0), [], []⟩) rfl
  d_number_of := c.def_ 1 (d := ⟨("number_of", none), "number_of", "number_of", defArgs (top 9), defBody (top 9), defScope (top 9), [], []⟩) rfl
  d_number_below := c.def_ 2 (d := ⟨("number_below", none), "number_below", "number_below", defArgs (top 10), defBody (top 10), defScope (top 10), [], []⟩) rfl
  d_address_good := c.def_ 3 (d := ⟨("address_good", none), "address_good", "address_good", defArgs (top 11), defBody (top 11), defScope (top 11), [], []⟩) rfl
  d_argument_good := c.def_ 4 (d := ⟨("argument_good", none), "argument_good", "argument_good", defArgs (top 12), defBody (top 12), defScope (top 12), [], []⟩) rfl
  d_call_parts := c.def_ 5 (d := ⟨("call_parts", none), "call_parts", "call_parts", defArgs (top 13), defBody (top 13), defScope (top 13), [], []⟩) rfl
  d_call_good := c.def_ 6 (d := ⟨("call_good", none), "call_good", "call_good", defArgs (top 14), defBody (top 14), defScope (top 14), [], []⟩) rfl
  d_step_good := c.def_ 7 (d := ⟨("step_good", none), "step_good", "step_good", defArgs (top 15), defBody (top 15), defScope (top 15), [], []⟩) rfl
  d_read_program := c.def_ 8 (d := ⟨("read_program", none), "read_program", "read_program", defArgs (top 16), defBody (top 16), defScope (top 16), [], []⟩) rfl
  d__law_cell_at := c.def_ 9 (d := ⟨("_law_cell_at", none), "_law_cell_at", "_law_cell_at", defArgs (top 19), defBody (top 19), defScope (top 19), [], []⟩) rfl
  d__law_mix := c.def_ 10 (d := ⟨("_law_mix", none), "_law_mix", "_law_mix", defArgs (top 20), defBody (top 20), defScope (top 20), [], []⟩) rfl
  d__law_address := c.def_ 11 (d := ⟨("_law_address", none), "_law_address", "_law_address", defArgs (top 22), defBody (top 22), defScope (top 22), [], []⟩) rfl
  d__law_argument := c.def_ 12 (d := ⟨("_law_argument", none), "_law_argument", "_law_argument", defArgs (top 23), defBody (top 23), defScope (top 23), [], []⟩) rfl
  d__law_call_by := c.def_ 13 (d := ⟨("_law_call_by", none), "_law_call_by", "_law_call_by", defArgs (top 24), defBody (top 24), defScope (top 24), [], []⟩) rfl
  d__law_words_by := c.def_ 14 (d := ⟨("_law_words_by", none), "_law_words_by", "_law_words_by", defArgs (top 25), defBody (top 25), defScope (top 25), [], []⟩) rfl
  d__law_program_by := c.def_ 15 (d := ⟨("_law_program_by", none), "_law_program_by", "_law_program_by", defArgs (top 26), defBody (top 26), defScope (top 26), [], []⟩) rfl
  d__law_text_of := c.def_ 16 (d := ⟨("_law_text_of", none), "_law_text_of", "_law_text_of", defArgs (top 27), defBody (top 27), defScope (top 27), [], []⟩) rfl
  d__law_steps := c.def_ 17 (d := ⟨("_law_steps", none), "_law_steps", "_law_steps", defArgs (top 28), defBody (top 28), defScope (top 28), [], []⟩) rfl
  d_law := c.def_ 18 (d := ⟨("law", none), "law", "law", defArgs (top 29), defBody (top 29), defScope (top 29), [], []⟩) rfl
local macro_rules | `(tactic| walk_at "xf") => `(tactic| first | with_reducible exact Txt.v_ARGUMENTS (by assumption) | fail)
local macro_rules | `(tactic| walk_at "fact") => `(tactic| first  | fail)
/-! ### the walk's own lines -/
local macro_rules | `(tactic| walk_at "mem") => `(tactic| first | exact List.mem_cons_self | (apply List.mem_cons_of_mem; walk_at "mem") | (apply List.mem_append_right; walk_at "mem") | (apply List.mem_append_left; walk_at "mem"))
local macro_rules | `(tactic| walk_at "at") => `(tactic| first | exact At.here | (apply At.there; walk_at "at") | (apply At.app; walk_at "at") | (apply At.appl; walk_at "at"))
local macro_rules | `(tactic| walk_at "sub") => `(tactic| first | exact Sub.all | exact Sub.here | exact Sub.one | (apply Sub.there; walk_at "sub") | (apply Sub.appl; walk_at "sub") | (apply Sub.app; walk_at "sub"))
local macro_rules | `(tactic| walk_at "own") => `(tactic| first | assumption | ((with_reducible apply Own.wr2); (focus walk_at "own"); (focus walk_at "at"); rfl) | ((with_reducible apply Own.new); (focus walk_at "own"); assumption))
local macro_rules | `(tactic| walk_at "h") => `(tactic| first | assumption | (apply Own.get; (focus walk_at "own"); walk_at "mem") | (apply Own.fr0; (focus walk_at "own"); assumption) | (rename Own _ _ _ _ => otmp; clear otmp; walk_at "h"))
local macro_rules | `(tactic| walk_at "ar") => `(tactic| first | omega | (simp only [List.length_nil, List.length_cons, List.length_append, List.length_map, List.length_set, List.length_replicate, List.length_range]; omega))
/-- one premise -/
local macro_rules | `(tactic| walk_at "c") => `(tactic| first
  | with_reducible exact rfl
  | ((with_reducible apply sl_of); rfl)
  | ((with_reducible apply sc_of); rfl)
  | ((with_reducible apply lsq_of); rfl)
  | ((with_reducible apply wp_of); rfl)
  | ((with_reducible apply ln_of); rfl)
  | ((with_reducible apply veq_of); first | rfl | exact kl | exact kr)
  | ((with_reducible apply lk_of); rfl)
  | ((with_reducible apply lkn_of); rfl)
  | ((with_reducible apply lt_of); (first | decide | walk_at "ar" | ((repeat (with_reducible apply putF_lt)); walk_at "ar")))
  | ((with_reducible apply hp_of); walk_at "h")
  | ((with_reducible apply cd_of); first | exact ⟨by decide, by decide⟩ | exact ⟨by omega, by omega⟩)
  | ((with_reducible apply at_of); first | assumption | exact atI_nat (j := 0) rfl | exact atI_nat (j := 1) rfl | exact atI_nat (j := 2) rfl | exact atI_nat (j := 3) rfl | exact atI_nat (j := 4) rfl)
  | ((with_reducible apply ix_of); first | assumption | rfl)
  | ((with_reducible apply cp_of); exact ⟨by decide, by decide, by decide⟩)
  | ((with_reducible apply cmw_of); first | assumption | (unfold CMulW; decide +kernel))
  | ((with_reducible apply cm_l); first | exact ⟨by decide, by decide⟩ | exact ⟨by omega, by omega⟩)
  | ((with_reducible apply cm_r); first | exact ⟨by decide, by decide⟩ | exact ⟨by omega, by omega⟩)
  | ((with_reducible show SqL _ _ _ _); assumption)
  | ((with_reducible show DGet _ _ _ _); assumption)
  | ((with_reducible show DPut _ _ _ _ _); assumption)
  | with_reducible exact isStr_of
  | with_reducible exact tyStr_of
  | walk_at "fact"
  | walk_at "kit"
  | walk_at "xf"
  | walk_at "col"
  | assumption)
local macro_rules | `(tactic| walk_at "prd") => `(tactic| first | exact Paired.nil | ((with_reducible apply Paired.cons); (focus walk_at "c"); walk_at "prd"))
local macro_rules | `(tactic| walk_at "kit") => `(tactic| first
  | (with_reducible exact Paired.nil) | ((with_reducible apply Paired.cons); (focus walk_at "c"); walk_at "prd") | ((with_reducible apply kit_any); walk_at "prd")
  | with_reducible exact ClsV.ty _ | with_reducible exact ClsV.own _
  | with_reducible exact kt_int_int | with_reducible exact kt_int_bool | with_reducible exact kt_bool_int | with_reducible exact kt_bool_bool | with_reducible exact kt_list_list | with_reducible exact kt_tuple_tuple | with_reducible exact kt_NoneType_tuple | with_reducible exact kt_str_str | with_reducible exact kt_NoneType_list | with_reducible exact kt_NoneType_int | with_reducible exact kt_NoneType_bool | with_reducible exact kt_NoneType_dict | with_reducible exact kt_NoneType_str | with_reducible exact kt_str_list | with_reducible exact kt_list_str | with_reducible exact kt_str_int | with_reducible exact kt_int_str | with_reducible exact kt_int_list | with_reducible exact kt_int_tuple | with_reducible exact kt_list_tuple | with_reducible exact kt_tuple_list | with_reducible exact kt_dict_dict | with_reducible exact kt_list_dict | with_reducible exact kt_dict_list | with_reducible exact kt_int_dict | with_reducible exact kt_str_bool | with_reducible exact kt_str_tuple | with_reducible exact kt_str_dict | with_reducible exact kt_list_int | with_reducible exact kt_list_bool | with_reducible exact kt_tuple_int | with_reducible exact kt_tuple_bool | with_reducible exact kt_tuple_str | with_reducible exact kt_tuple_dict
  | ((with_reducible apply TyX.base); first | with_reducible exact TyOf.non | with_reducible exact TyOf.bl _ | with_reducible exact TyOf.int _ | with_reducible exact TyOf.str _ | ((with_reducible apply TyOf.lst); walk_at "h") | ((with_reducible apply TyOf.tup); walk_at "h") | ((with_reducible apply TyOf.dK); walk_at "h")))
/-- lists, tuples, dicts, sizes -/
local macro_rules | `(tactic| walk_at "sq") => `(tactic| first | assumption | ((with_reducible apply SqL.of); walk_at "h") | ((with_reducible apply SqT.of); walk_at "h") | ((with_reducible apply Own.sq); (focus walk_at "own"); assumption))
local macro_rules | `(tactic| walk_at "col") => `(tactic| first
  | ((with_reducible apply SqL.of); walk_at "h") | ((with_reducible apply SqT.of); walk_at "h") | ((with_reducible apply Rd.of); walk_at "h")
  | ((with_reducible apply Own.sq); (focus walk_at "own"); assumption)
  | ((with_reducible apply col_ex2); walk_at "sq") | ((with_reducible apply col_ol2); walk_at "sq") | ((with_reducible apply col_or2); walk_at "sq")
  | ((with_reducible apply sz_le); first | decide | walk_at "ar")
  | ((with_reducible apply sz_lt); first | decide | walk_at "ar")
  | ((with_reducible apply isd_k); walk_at "h")
  | ((with_reducible apply dget_ii); (focus walk_at "h"); assumption) | ((with_reducible apply dget_is); (focus walk_at "h"); assumption)
  | ((with_reducible apply dget_i); walk_at "h") | ((with_reducible apply dget_s); walk_at "h")
  | ((with_reducible apply dput_i); (focus walk_at "h"); walk_at "ar") | ((with_reducible apply dput_s); (focus walk_at "h"); walk_at "ar")
  | (apply Or.inl; apply And.intro rfl; apply col_ex; walk_at "h")
  | (apply Or.inr; apply Or.inr; apply Or.inl; apply And.intro rfl; apply Or.inl; constructor; walk_at "h") | (apply Or.inr; apply Or.inr; apply Or.inl; apply And.intro rfl; apply Or.inr; constructor; walk_at "h")
  | with_reducible exact all_flat _ | with_reducible exact all_flatS _ | ((with_reducible apply fl_of); rfl)
  | ((with_reducible apply pos_of); first | decide | assumption | omega | decide +kernel)
  | walk_at "ar")
/-- one step -/
local macro_rules | `(tactic| walk_at "s1") => `(tactic| first
  | (apply @Exists.intro V)
  | (apply @Exists.intro Addr)
  | (apply @Exists.intro Int)
  | (apply @Exists.intro (List V))
  | (apply @Exists.intro (List (Str × V)))
  | (apply @Exists.intro (List (Key × V)))
  | (apply @Exists.intro Key)
  | (apply @Exists.intro Bool)
  | (apply @Exists.intro Str)
  | (apply @Exists.intro Value)
  | (apply @Exists.intro (Option V))
  | (apply @Exists.intro (List Int)) | (apply @Exists.intro (List Bool)) | (apply @Exists.intro Obj) | (apply @Exists.intro (List Value)) | (apply @Exists.intro Hp)
  | (apply And.intro; (focus walk_at "c")))
local macro_rules | `(tactic| walk_at "s") => `(tactic| repeat walk_at "s1")
local macro_rules | `(tactic| walk_at "b") => `(tactic| (apply Box.mk; walk_at "s"))
local macro_rules | `(tactic| walk_at "sk") => `(tactic| (refine if_ss (fun z => absurd z (by decide)) (fun _ => ?_); walk_at "s"))
local macro_rules | `(tactic| walk_at "bb") => `(tactic| repeat (apply Box.mk; walk_at "s"))
local macro_rules | `(tactic| walk_at "pm") => `(tactic| (classical (refine List.perm_iff_count.mpr fun zz => ?_; simp only [List.count_cons, List.count_append, List.count_nil, List.cons_append, List.nil_append, List.append_nil]; omega)))
local macro_rules | `(tactic| walk_at "clo") => `(tactic| repeat (rename Own _ _ _ _ => otmp; clear otmp))
/-! ## paths: names in a text -/
open SX (S)
/-- a text's signs, few and plain -/
structure TxO (z : List Nat) : Prop where
  len : z.length ≤ 5000
  low : ∀ c ∈ z, c < 256
def smallL : List Nat := [97, 98, 99, 100, 101, 102, 103, 104, 105, 106, 107, 108, 109, 110, 111, 112, 113, 114, 115, 116, 117, 118, 119, 120, 121, 122]
theorem small_eq : ("abcdefghijklmnopqrstuvwxyz" : Str) = S smallL := by decide +kernel
def nameB (z : List Nat) : Bool := decide (1 ≤ z.length) && (decide (z.length ≤ 6) && z.all fun c => smallL.contains c)
def pieces (z : List Nat) : List (List Nat) := TL.spl [47] 0 [] z
/-- the names of a path, none where it is no path -/
def namesL (z : List Nat) : Option (List (List Nat)) :=
  if z = [47] then some [] else if (pieces z).length < 2 ∨ (pieces z).head? ≠ some [] then none else if (pieces z).tail.all nameB then some (pieces z).tail else none
theorem takeW_len {g : Nat → Bool} : ∀ z : List Nat, (z.takeWhile g).length = z.length ↔ z.all g = true
  | [] => by simp
  | c :: z => by
    rw [List.takeWhile_cons, List.all_cons]
    cases h : g c with
    | true => rw [if_pos rfl, List.length_cons, List.length_cons, Bool.true_and, ← takeW_len z]; omega
    | false => simp
theorem takeW_le {g : Nat → Bool} (z : List Nat) : (z.takeWhile g).length ≤ z.length := (List.takeWhile_sublist g).length_le
theorem takeW_at {g : Nat → Bool} : ∀ z : List Nat, ∀ h : (z.takeWhile g).length < z.length, g z[(z.takeWhile g).length] = false
  | c :: z, h => by
    cases hc : g c with
    | true =>
      have e : (c :: z).takeWhile g = c :: z.takeWhile g := by rw [List.takeWhile_cons, if_pos hc]
      have h2 : (z.takeWhile g).length < z.length := by rw [e, List.length_cons, List.length_cons] at h; omega
      have := takeW_at z h2
      simp only [e, List.length_cons, List.getElem_cons_succ]
      exact this
    | false =>
      have e : (c :: z).takeWhile g = [] := by rw [List.takeWhile_cons, hc]; rfl
      simp only [e, List.length_nil, List.getElem_cons_zero]
      exact hc
theorem strip_nil (g : Nat → Bool) (z : List Nat) : (Txt.stripBy g true true (S z) = S []) ↔ z.all g = true := by
  rw [W.stripBy_eq]
  show Builtin.Str.strSub (S z) (z.takeWhile g).length (z.length - ((z.drop (z.takeWhile g).length).reverse.takeWhile g).length) = S [] ↔ _
  have h0 := takeW_le (g := g) z
  have h1 := takeW_le (g := g) (z.drop (z.takeWhile g).length).reverse
  rw [List.length_reverse, List.length_drop] at h1
  have key : (Builtin.Str.strSub (S z) (z.takeWhile g).length (z.length - ((z.drop (z.takeWhile g).length).reverse.takeWhile g).length)).cps.size = (z.length - ((z.drop (z.takeWhile g).length).reverse.takeWhile g).length) - (z.takeWhile g).length := by
    show (Array.extract _ _ _).size = _
    rw [Array.size_extract, List.size_toArray]
    omega
  constructor
  · intro h
    rw [h] at key
    have key : 0 = (z.length - ((z.drop (z.takeWhile g).length).reverse.takeWhile g).length) - (z.takeWhile g).length := key
    rw [← takeW_len]
    by_cases hl : (z.takeWhile g).length < z.length
    · exfalso
      have h2 : ((z.drop (z.takeWhile g).length).reverse.takeWhile g).length = (z.drop (z.takeWhile g).length).reverse.length := by rw [List.length_reverse, List.length_drop]; omega
      rw [takeW_len, List.all_reverse, List.drop_eq_getElem_cons hl, List.all_cons, takeW_at z hl] at h2
      cases h2
    · omega
  · intro h
    rw [← takeW_len] at h
    have e : (Builtin.Str.strSub (S z) (z.takeWhile g).length (z.length - ((z.drop (z.takeWhile g).length).reverse.takeWhile g).length)).cps.size = 0 := by rw [key]; omega
    have e2 := Array.size_eq_zero_iff.mp e
    generalize Builtin.Str.strSub (S z) _ _ = q at e2
    cases q
    exact congrArg Str.mk e2
theorem strip_all (z : List Nat) : decide (V.str (Txt.stripChars (S z) "abcdefghijklmnopqrstuvwxyz") = V.str "") = z.all fun c => smallL.contains c := by
  have hc : (("abcdefghijklmnopqrstuvwxyz" : Str).cps.contains : Nat → Bool) = fun c => smallL.contains c := by
    funext c
    rw [small_eq]
    show smallL.toArray.contains c = _
    simp
  have h := strip_nil (fun c => smallL.contains c) z
  rw [← hc] at h
  have e0 : ("" : Str) = S [] := by decide +kernel
  rw [e0]
  cases ha : z.all fun c => smallL.contains c with
  | true => rw [← hc] at ha; rw [hc] at ha; exact decide_eq_true (congrArg V.str (h.mpr (by rw [hc]; exact ha)))
  | false => exact decide_eq_false fun q => by rw [h.mp (V.str.inj q) |> fun x => (by rw [hc] at x; exact x : (z.all fun c => smallL.contains c) = true)] at ha; cases ha
/-- texts as values -/
abbrev SV (ns : List (List Nat)) : List V := ns.map fun n => V.str (S n)
theorem spl1 (c : Nat) : ∀ (z acc : List Nat), (TL.spl [c] 0 acc z).length ≤ z.length + 1 ∧ 1 ≤ (TL.spl [c] 0 acc z).length ∧ ∀ p ∈ TL.spl [c] 0 acc z, p.length ≤ acc.length + z.length ∧ ∀ x ∈ p, x ∈ acc ∨ x ∈ z
  | [], acc => ⟨by simp [TL.spl], by simp [TL.spl], fun p hp => by
      have : p = acc := by simpa [TL.spl] using hp
      subst this
      exact ⟨by simp, fun x hx => .inl hx⟩⟩
  | y :: r, acc => by
    show (if TL.pre [c] (y :: r) = true then acc :: TL.spl [c] 0 [] r else TL.spl [c] 0 (acc ++ [y]) r).length ≤ _ ∧ 1 ≤ (if TL.pre [c] (y :: r) = true then acc :: TL.spl [c] 0 [] r else TL.spl [c] 0 (acc ++ [y]) r).length ∧ ∀ p ∈ (if TL.pre [c] (y :: r) = true then acc :: TL.spl [c] 0 [] r else TL.spl [c] 0 (acc ++ [y]) r), _
    split
    · obtain ⟨h1, h2, h3⟩ := spl1 c r []
      refine ⟨by rw [List.length_cons, List.length_cons]; omega, by rw [List.length_cons]; omega, fun p hp => ?_⟩
      rcases List.mem_cons.mp hp with rfl | hp
      · exact ⟨by simp, fun x hx => .inl hx⟩
      · obtain ⟨h4, h5⟩ := h3 p hp
        refine ⟨by rw [List.length_cons]; simp only [List.length_nil] at h4; omega, fun x hx => ?_⟩
        rcases h5 x hx with h | h
        · cases h
        · exact .inr (.tail _ h)
    · obtain ⟨h1, h2, h3⟩ := spl1 c r (acc ++ [y])
      refine ⟨by rw [List.length_cons]; omega, h2, fun p hp => ?_⟩
      obtain ⟨h4, h5⟩ := h3 p hp
      refine ⟨by rw [List.length_cons]; rw [List.length_append, List.length_singleton] at h4; omega, fun x hx => ?_⟩
      rcases h5 x hx with h | h
      · rcases List.mem_append.mp h with h | h
        · exact .inl h
        · exact .inr (by rw [List.mem_singleton.mp h]; exact .head _)
      · exact .inr (.tail _ h)
theorem pieces_few {z : List Nat} : (pieces z).length ≤ z.length + 1 ∧ 1 ≤ (pieces z).length := ⟨(spl1 47 z []).1, (spl1 47 z []).2.1⟩
theorem pieces_low {z : List Nat} (h : TxO z) {p : List Nat} (hp : p ∈ pieces z) : TxO p := by
  obtain ⟨h1, h2⟩ := (spl1 47 z []).2.2 p hp
  have := h.len
  refine ⟨by simp only [List.length_nil] at h1; omega, fun c hc => ?_⟩
  rcases h2 c hc with q | q
  · cases q
  · exact h.low c q
theorem split_pieces (z : List Nat) : Txt.split (S z) "/" = (pieces z).map S := by
  rw [show ("/" : Str) = S [47] by decide +kernel]
  exact SX.split_S (by simp) (by decide)
theorem SV_get {ns : List (List Nat)} {i : Nat} {x : V} (h : (SV ns)[i]? = some x) : ∃ n, ns[i]? = some n ∧ x = .str (S n) := by
  rw [List.getElem?_map] at h
  cases e : ns[i]? with
  | none => rw [e] at h; cases h
  | some n => rw [e] at h; exact ⟨n, rfl, (Option.some.inj h).symm⟩
def sp_is_name (K : PySem.W.Frag) : Sp := sp1 fun x H Q _ => ∃ z, x = .str (S z) ∧ z.length ≤ 5000 ∧ Q (.bl (nameB z)) H
def sp_names_of (K : PySem.W.Frag) : Sp := sp1 fun x H Q E => ∃ z, x = .str (S z) ∧ TxO z ∧ (namesL z = none → ∀ H', Own H H' [] [] → E (.ref (He.ga K "BadName")) none H') ∧
  (∀ ns, namesL z = some ns → ∀ H' b, Own H H' [] [(b, .lst (ns.map fun n => V.str (S n)))] → Q (.ref b) H')
theorem S_len5 {z : List Nat} (h : z.length ≤ 5000) : (S z).length + 2 ≤ sizeLine := by rw [SX.S_len]; exact sz_le (by omega)
/-! ### texts by size and signs -/
structure StO (n : Nat) (z : Str) : Prop where
  len : z.length ≤ n
  low : ∀ c ∈ z.cps.toList, c < 256
theorem StO.of {z : List Nat} {n : Nat} (h : TxO z) (hn : z.length ≤ n) : StO n (S z) := ⟨by rw [SX.S_len]; exact hn, h.low⟩
theorem StO.tx {z : Str} {n : Nat} (h : StO n z) (hn : n ≤ 5000) : ∃ l, z = S l ∧ TxO l := ⟨z.cps.toList, (SX.S_tl z).symm, by have := h.len; rw [show z.length = z.cps.toList.length from (Array.length_toList ..).symm] at this; omega, h.low⟩
theorem StO.cat {a b : Str} {n m : Nat} (h : StO n a) (k : StO m b) : StO (n + m) (a ++ b) := by
  refine ⟨by rw [Str.length_append]; have := h.len; have := k.len; omega, fun c hc => ?_⟩
  rw [Str.cps_append, Array.toList_append] at hc
  rcases List.mem_append.mp hc with q | q
  · exact h.low c q
  · exact k.low c q
theorem StO.cut {a : Str} {n : Nat} (h : StO n a) (lo hi : Option Int) : StO n (L2.cutS a lo hi) := by
  unfold L2.cutS
  refine ⟨?_, fun c hc => h.low c (List.mem_of_mem_drop (List.mem_of_mem_take hc))⟩
  show (List.toArray _).size ≤ n
  rw [List.size_toArray, List.length_take, List.length_drop, Array.length_toList]
  have := h.len
  have e : a.length = a.cps.size := rfl
  omega
theorem StO.rep {a : Str} {n : Nat} (h : StO n a) (k : Int) : StO (k.toNat * n) (repS a k) := by
  unfold repS
  refine ⟨?_, fun c hc => ?_⟩
  · show (List.toArray _).size ≤ _
    rw [List.size_toArray, List.length_flatten, List.map_replicate, List.sum_replicate_nat, Array.length_toList]
    exact Nat.mul_le_mul_left _ h.len
  · obtain ⟨l, hl, hc⟩ := List.mem_flatten.mp hc
    rw [List.eq_of_mem_replicate hl] at hc
    exact h.low c hc
theorem StO.lit (z : Str) (n : Nat) (h : (decide (z.length ≤ n) && z.cps.toList.all fun c => decide (c < 256)) = true) : StO n z := by
  rw [Bool.and_eq_true] at h
  exact ⟨of_decide_eq_true h.1, fun c hc => of_decide_eq_true (List.all_eq_true.mp h.2 c hc)⟩
theorem StO.fit {a b : Str} {n m : Nat} (h : StO n a) (k : StO m b) (hn : n + m ≤ 100000) : a.length + b.length ≤ sizeLine := sz_le (by have := h.len; have := k.len; omega)
theorem StO.mono {a : Str} {n m : Nat} (h : StO n a) (hn : n ≤ m) : StO m a := ⟨Nat.le_trans h.len hn, h.low⟩
theorem ok_strs {ns : List (List Nat)} (h : ∀ n ∈ ns, TxO n) : (ns.map S).all PyData.strOk = true := by
  rw [List.all_map, List.all_eq_true]
  intro n hn
  show (Array.all _ _) = true
  rw [← Array.all_toList]
  exact List.all_eq_true.mpr fun c hc => decide_eq_true (Nat.lt_trans ((h n hn).low c hc) (by decide))
theorem SV_map (ns : List (List Nat)) : SV ns = (ns.map S).map V.str := by simp [SV, Function.comp_def]
theorem namesL_low {z : List Nat} {ns : List (List Nat)} (hz : TxO z) (h : namesL z = some ns) : (∀ n ∈ ns, TxO n) ∧ ns.length ≤ 5001 := by
  unfold namesL at h
  split at h
  · cases h; exact ⟨nofun, by decide⟩
  · split at h
    · cases h
    · split at h
      · cases h
        have := (pieces_few (z := z)).1
        have h2 := hz.len
        exact ⟨fun n hn => pieces_low hz (List.mem_of_mem_tail hn), by rw [List.length_tail]; omega⟩
      · cases h
section
variable {K : PySem.W.Frag} {H : Hp} {a b : Addr} {Q : VK}
theorem eq_SV {ns ms : List (List Nat)} (h1 : ∀ n ∈ ns, TxO n) (h2 : ∀ n ∈ ms, TxO n) (ha : H a = some (.lst (SV ns))) (hb : H b = some (.lst (SV ms))) (k : Q (.bl (decide (ns.map S = ms.map S))) H) : rEqD K (.ref a) (.ref b) H Q :=
  eq_strs (ok_strs h1) (ok_strs h2) (by rw [← SV_map]; exact ha) (by rw [← SV_map]; exact hb) k
theorem ne_SV {ns ms : List (List Nat)} (h1 : ∀ n ∈ ns, TxO n) (h2 : ∀ n ∈ ms, TxO n) (ha : H a = some (.lst (SV ns))) (hb : H b = some (.lst (SV ms))) (k : Q (.bl (!decide (ns.map S = ms.map S))) H) : rNeD K (.ref a) (.ref b) H Q := by
  rw [SV_map] at ha hb
  exact ⟨_, _, .lst (SqL.of ha) (dpa_strs _), .lst (SqL.of hb) (dpa_strs _), sh_strs _ (ok_strs h1), sh_strs _ (ok_strs h2), by rw [show PyData.eqv (.list ((ns.map S).map PyData.str)) (.list ((ms.map S).map PyData.str)) = decide (ns.map S = ms.map S) from dist_strs _ _]; exact k⟩
theorem eq_word {x y : Str} (hx : PyData.strOk x = true) (hy : PyData.strOk y = true) (k : Q (.bl (decide (x = y))) H) : rEqD K (.str x) (.str y) H Q := by
  refine ⟨.str x, .str y, .str x, .str y, ?_, ?_, ?_⟩
  · show (PyData.canLay0 _ && decide (PyData.depth _ ≤ 64)) = true
    simp [PyData.canLay0, PyData.depth, hx]
  · show (PyData.canLay0 _ && decide (PyData.depth _ ≤ 64)) = true
    simp [PyData.canLay0, PyData.depth, hy]
  · have e : PyData.eqv (.str x) (.str y) = decide (x = y) := by
      show (x == y) = _
      by_cases h : x = y
      · subst h; simp
      · rw [decide_eq_false h]; simp [h]
    rw [e]; exact k
end
theorem StO.lits {xs : List Str} {n : Nat} (h : (xs.all fun z => decide (z.length ≤ n) && z.cps.toList.all fun c => decide (c < 256)) = true) : ∀ z ∈ xs, StO n z := fun z hz => StO.lit z n (List.all_eq_true.mp h z hz)
theorem pick_str {xs : List Str} {u : Int} {n : Nat} (h0 : 0 ≤ u) (h1 : u < (xs.length : Nat)) (h : ∀ z ∈ xs, StO n z) : ∃ z, atI (xs.map V.str) u = some (.str z) ∧ StO n z := by
  obtain ⟨k, rfl⟩ : ∃ k : Nat, u = k := ⟨u.toNat, by omega⟩
  have hk : k < xs.length := by omega
  exact ⟨xs[k], atI_nat (by rw [List.getElem?_map, List.getElem?_eq_getElem hk]; rfl), h _ (List.getElem_mem hk)⟩

/-! ## programs: words, rows, steps -/
open SX (S)
def numC (n : Nat) : Bool := let z : Str := toString (n : Int); decide (1 ≤ z.length) && (decide (z.length ≤ 3) && (decide (Txt.stripChars z "0123456789" = "") && ((decide (z.cps.toList.head? ≠ some 48) || decide (z = "0")) && (decide (PySem.intText? z = some (n : Int)) && z.cps.toList.all fun c => decide (48 ≤ c) && decide (c ≤ 57)))))
theorem numC_all : (List.range 1000).all numC = true := by decide +kernel

open SX (S)
/-- a number's signs -/
def dg (n : Nat) : List Nat := ((toString (n : Int) : String) : Str).cps.toList
theorem S_dg (n : Nat) : S (dg n) = ((toString (n : Int) : String) : Str) := SX.S_tl _
structure DgO (n : Nat) : Prop where
  lo : 1 ≤ (dg n).length
  hi : (dg n).length ≤ 3
  strip : Txt.stripChars (S (dg n)) "0123456789" = ""
  nought : (dg n).head? ≠ some 48 ∨ S (dg n) = "0"
  int : PySem.intText? (S (dg n)) = some (n : Int)
  fig : ∀ c ∈ dg n, 48 ≤ c ∧ c ≤ 57
theorem dgO {n : Nat} (h : n < 1000) : DgO n := by
  have := List.all_eq_true.mp numC_all n (List.mem_range.mpr h)
  unfold numC at this
  simp only [Bool.and_eq_true, Bool.or_eq_true, decide_eq_true_eq, List.all_eq_true] at this
  obtain ⟨h1, h2, h3, h4, h5, h6⟩ := this
  refine ⟨h1, h2, by rw [S_dg]; exact h3, by rw [S_dg]; exact h4, by rw [S_dg]; exact h5, h6⟩
/-- a word that writes a number below b -/
def NumW (b : Nat) (z : List Nat) : Prop := ∃ n, n < b ∧ n < 1000 ∧ z = dg n
/-- a word that is an argument -/
inductive ArgW : List Nat → Prop where
  | at_ {z : List Nat} (h : NumW 512 z) : ArgW (64 :: z)
  | num {z : List Nat} (h : NumW 1000 z) : ArgW z
  | txt {c : Nat} {z : List Nat} (hc : c ≠ 64) (hs : Txt.stripChars (S (c :: z)) "0123456789" ≠ "") : ArgW (c :: z)
abbrev wT (s : Str) : List Nat := s.cps.toList
def argT : List (PySem.Str × Nat) := [("map", 2), ("drop", 2), ("fork", 0), ("end", 1), ("wait", 0), ("who", 0), ("make", 1), ("dir", 1), ("link", 2), ("unlink", 1), ("undir", 1), ("move", 2), ("names", 1), ("stat", 1), ("open", 2), ("close", 1), ("same", 1), ("give", 2), ("pipe", 0), ("read", 3), ("write", 3), ("seek", 2), ("signal", 2), ("handle", 2), ("mask", 2), ("due", 0), ("time", 0), ("alarm", 1)]
/-- a call's words: its name and arguments, the words of its answer -/
structure CallW (ws : List (List Nat)) (m : Str) (as : List (List Nat)) (an : Option (List Nat)) : Prop where
  eq : ws = wT "call" :: wT m :: as ++ (match an with | none => [] | some z => [wT "to", z])
  tab : (m, as.length) ∈ argT
  few : as.length ≤ 3
  args : ∀ z ∈ as, ArgW z ∧ z.length ≤ 5000
  adr : ∀ z, an = some z → NumW 512 z
  two : an = none → ∀ z, (wT "call" :: wT m :: as)[as.length]? = some z → S z ≠ "to"
inductive StepW : List (List Nat) → Prop where
  | set {a b : List Nat} (ha : NumW 512 a) (hb : NumW 256 b) : StepW [wT "set", a, b]
  | add {a b : List Nat} (ha : NumW 512 a) (hb : NumW 512 b) : StepW [wT "add", a, b]
  | less {a b : List Nat} (ha : NumW 512 a) (hb : NumW 512 b) : StepW [wT "less", a, b]
  | iff {a b : List Nat} (ha : NumW 512 a) (hb : NumW 1000 b) : StepW [wT "if", a, b]
  | jump {a : List Nat} (ha : NumW 1000 a) : StepW [wT "jump", a]
  | back : StepW [wT "back"]
  | call {ws : List (List Nat)} {m : Str} {as : List (List Nat)} {an : Option (List Nat)} (h : CallW ws m as an) : StepW ws
theorem at_two {ws : List (List Nat)} {k : Nat} {z : List Nat} (hl : ws.length = k + 2) (h : ws[k]? = some z) : atI (SV ws) (-2) = some (.str (S z)) := by
  unfold atI ixN
  rw [show (SV ws).length = ws.length from List.length_map .., if_neg (by decide), if_pos (by omega)]
  show (SV ws)[_]? = _
  rw [show (-2 + (ws.length : Int)).toNat = k by omega, List.getElem?_map, h]
  rfl
theorem at_one {ws : List (List Nat)} {k : Nat} {z : List Nat} (hl : ws.length = k + 1) (h : ws[k]? = some z) : atI (SV ws) (-1) = some (.str (S z)) := by
  unfold atI ixN
  rw [show (SV ws).length = ws.length from List.length_map .., if_neg (by decide), if_pos (by omega)]
  show (SV ws)[_]? = _
  rw [show (-1 + (ws.length : Int)).toNat = k by omega, List.getElem?_map, h]
  rfl
theorem cut_mid2 {ws : List (List Nat)} {k : Nat} (hl : ws.length = k + 3) : cutV (SV ws) (some 1) (some (-2)) = SV ((ws.drop 1).take k) := by
  have hlen : (SV ws).length = k + 3 := (List.length_map ..).trans hl
  unfold cutV
  have e1 : HT.sIx (SV ws).length 0 (some 1) = 1 := by unfold HT.sIx; rw [hlen]; simp
  have e2 : HT.sIx (SV ws).length (SV ws).length (some (-2)) = k + 1 := by unfold HT.sIx; rw [hlen]; simp; omega
  rw [e1, e2, show k + 1 - 1 = k by omega]
  show List.take k (List.drop 1 (ws.map _)) = ((ws.drop 1).take k).map _
  rw [List.map_take, List.map_drop]
theorem cut_tail (c : Nat) (z : List Nat) : L2.cutS (S (c :: z)) (some 1) none = S z := by
  unfold L2.cutS
  have e1 : HT.sIx (S (c :: z)).length 0 (some 1) = 1 := by unfold HT.sIx; rw [SX.S_len]; simp
  have e2 : HT.sIx (S (c :: z)).length (S (c :: z)).length none = z.length + 1 := by rw [HT.sIx_none, SX.S_len]; rfl
  rw [e1, e2]
  show Str.mk (List.toArray (List.take z.length z)) = _
  rw [List.take_length]

open SX (S)
local macro_rules | `(tactic| walk_at "no") => `(tactic| ((refine if_ss (fun e => ?_) (fun e => ?_)); (focus (exact absurd e (by decide +kernel))); walk_at "s"; try walk_at "b"))
local macro_rules | `(tactic| walk_at "yes") => `(tactic| ((refine if_ss (fun e => ?_) (fun e => ?_)); (rotate_left; (focus exact absurd (by decide +kernel) e)); walk_at "s"))
def sp_number_of (K : PySem.W.Frag) : Sp := sp1 fun x H Q _ => ∃ n : Nat, x = .str (S (dg n)) ∧ n < 1000 ∧ Q (.int n) H
def sp_number_below (K : PySem.W.Frag) : Sp := sp2 fun x y H Q _ => ∃ n b : Nat, x = .str (S (dg n)) ∧ y = .int b ∧ n < 1000 ∧ n < b ∧ Q (.bl true) H
def sp_address_good (K : PySem.W.Frag) : Sp := sp1 fun x H Q _ => ∃ n : Nat, x = .str (S (dg n)) ∧ n < 512 ∧ Q (.bl true) H
def sp_argument_good (K : PySem.W.Frag) : Sp := sp1 fun x H Q _ => ∃ z, x = .str (S z) ∧ ArgW z ∧ z.length ≤ 5000 ∧ Q (.bl true) H
abbrev anV : Option (List Nat) → V
  | none => .non
  | some z => .str (S z)
def sp_call_parts (K : PySem.W.Frag) : Sp := sp1 fun x H Q _ => ∃ (a : Addr) (ws : List (List Nat)) (m : Str) (as : List (List Nat)) (an : Option (List Nat)), x = .ref a ∧ SqL K H a (SV ws) ∧ CallW ws m as an ∧
  ∀ H' t p, Own H H' [] [(t, .tup [.ref p, anV an]), (p, .lst (SV (wT m :: as)))] → Q (.ref t) H'
def sp_call_good (K : PySem.W.Frag) : Sp := sp1 fun x H Q _ => ∃ (a : Addr) (ws : List (List Nat)) (m : Str) (as : List (List Nat)) (an : Option (List Nat)), x = .ref a ∧ SqL K H a (SV ws) ∧ CallW ws m as an ∧
  ∀ H', Own H H' [] [] → Q (.bl true) H'
def sp_step_good (K : PySem.W.Frag) : Sp := sp1 fun x H Q _ => ∃ (a : Addr) (ws : List (List Nat)), x = .ref a ∧ SqL K H a (SV ws) ∧ StepW ws ∧ ∀ H', Own H H' [] [] → Q (.bl true) H'
/-- the words of each row -/
def wordsL (r : List Nat) : List (List Nat) := (TL.spl [32] 0 [] r).filter (fun w => decide (w ≠ []))
def rowsW (z : List Nat) : List (List (List Nat)) := ((TL.spl [10] 0 [] z).map wordsL).filter (fun r => decide (r ≠ []))
abbrev tcel (ps : List (Addr × List (List Nat))) : List (Addr × HO) := ps.map fun p => (p.1, .tup (SV p.2))
def sp_read_program (K : PySem.W.Frag) : Sp := sp1 fun x H Q _ => ∃ z, x = .str (S z) ∧ TxO z ∧ (∀ r ∈ rowsW z, StepW r) ∧
  ∀ H' b ps, Own H H' [] ((b, .lst (ps.map fun p => .ref p.1)) :: tcel ps) → ps.map (·.2) = rowsW z → Q (.ref b) H'
theorem sc_number_of : FnScope ["word"] ["word"] (defScope s_number_of) := ⟨rfl, rfl, rfl, by decide +kernel, rfl, by decide +kernel, by decide +kernel⟩
theorem ok_number_of {P : Program} {w : World} {K : PySem.W.Frag} {mg : Str → Option Value} {base : Heap} (T : Txt w K mg) : Cee P w K mg base 1 (He.fAd K ("number_of", none)) ["word"] (sp_number_of K) := by
  refine cee_of T.d_number_of sc_number_of (fun _ _ _ _ _ _ us hl => match us, hl with | [_], _ => rfl) (fun vs H Q E h => sp1_len h) (fun cdv A outer s H vs Q E hr h => ⟨_, (pss_cons (PS.box (ps_if (PW.pt (pw_or (pt_not (pt_chain op_le op_le pe_int (pe_callB call_len_str (by rfl) T.n_len (by decide +kernel) (pa_cons (pv 0) pa_nil)) (pe_gc (v := .int 3) rfl (gI T.g_MOST_FIGURES)))) (pw_or1 (pt_cmpR op_ne (pe_bm PySem.F.plainAttrs_str PySem.F.slot_str_strip PySem.F.type_str_strip mt_stripChars (pv 0) (pa_cons (pe_gc (v := .str "0123456789") rfl (gS T.g_FIGURES)) pa_nil)) pe_str (nomark _))))) (pss_one (ps_ret pe_non)) pss_nil)) (pss_cons (PS.box (ps_if (PW.pt (pw_and (pt_cmpR op_eq (pe_ix ix_str (pv 0) pe_int (fun _ _ => rfl)) pe_str (nomark _)) (pw_and1 (pt_cmpR op_ne (pv 0) pe_str (nomark _))))) (pss_one (ps_ret pe_non)) pss_nil)) (pss_one (ps_ret (pe_callTy call_int_str (by rfl) T.n_int (by decide +kernel) (pa_cons (pv 0) pa_nil)))))), ?_⟩)
  obtain ⟨v0, rfl, h⟩ := h
  dsimp only [cxOf, L2.start]
  obtain ⟨n, rfl, hn, k⟩ := h
  have D := dgO hn
  have hl := SX.S_len (dg n)
  have h1 := D.lo
  have h2 := D.hi
  have hs := D.strip
  have hi := D.int
  have hl1 : (S (dg n)).length ≤ sizeLine := sz_le (by omega)
  walk_at "b"
  refine if_d (fun g1 => ?_) (fun g1 => absurd (by omega) g1)
  walk_at "s"
  rw [decide_eq_true (show ((S (dg n)).length : Int) ≤ 3 by omega)]
  walk_at "s"
  rw [hs]
  refine if_nss (fun e => absurd rfl e) (fun _ => ?_)
  obtain ⟨c, y, hc⟩ : ∃ c y, dg n = c :: y := by
    cases e : dg n with
    | nil => rw [e] at h1; exact absurd h1 (by decide)
    | cons c y => exact ⟨c, y, rfl⟩
  have ha : atI (S (dg n)).cps.toList 0 = some c := atI_nat (xs := dg n) (j := 0) (by rw [hc]; rfl)
  walk_at "b"
  refine if_ss (fun e => ?_) (fun e => ?_)
  · have e0 : c = 48 := by have := SX.S_inj (b := [48]) (e.trans (by decide +kernel)); injection this
    subst e0
    have e1 : S (dg n) = "0" := D.nought.resolve_left (fun q => q (by rw [hc]; rfl))
    walk_at "s"
    refine if_nss (fun e => absurd e1 e) (fun _ => ?_)
    walk_at "s"
    exact k
  · walk_at "s"
    exact k
theorem sc_number_below : FnScope ["word", "bound", "number"] ["word", "bound"] (defScope s_number_below) := ⟨rfl, rfl, rfl, by decide +kernel, rfl, by decide +kernel, by decide +kernel⟩
theorem ok_number_below {P : Program} {w : World} {K : PySem.W.Frag} {mg : Str → Option Value} {base : Heap} (T : Txt w K mg) : Cee P w K mg base 2 (He.fAd K ("number_below", none)) ["word", "bound"] (sp_number_below K) := by
  have c_number_of : Cee P w K mg base 1 (He.fAd K ("number_of", none)) ["word"] (sp_number_of K) := ok_number_of T
  refine cee_of T.d_number_below sc_number_below (fun _ _ _ _ _ _ us hl => match us, hl with | [_, _], _ => rfl) (fun vs H Q E h => sp2_len h) (fun cdv A outer s H vs Q E hr h => ⟨_, (pss_cons (ps_set (i := 2) sc_number_below.nd rfl (Or.inl rfl) (pe_f c_number_of (hr.mono (by decide)) (takes_of rfl rfl rfl rfl) (by rfl) T.g_number_of (pa_cons (pv 0) pa_nil))) (pss_one (ps_ret (pe_and (pe_cmpR op_notN (pv 2) pe_non (nomark _)) (pe_one (pe_cmpR op_lt (pv 2) (pv 1) (nomark _))))))), ?_⟩)
  obtain ⟨v0, v1, rfl, h⟩ := h
  dsimp only [cxOf, L2.start]
  obtain ⟨n, b, rfl, rfl, hn, hb, k⟩ := h
  walk_at "s"
  refine ask1 ⟨n, rfl, hn, ?_⟩
  walk_at "s"
  show Q (V.bl (decide ((n : Int) < b))) H
  rw [decide_eq_true (show (n : Int) < b by omega)]
  exact k
theorem sc_address_good : FnScope ["word"] ["word"] (defScope s_address_good) := ⟨rfl, rfl, rfl, by decide +kernel, rfl, by decide +kernel, by decide +kernel⟩
theorem ok_address_good {P : Program} {w : World} {K : PySem.W.Frag} {mg : Str → Option Value} {base : Heap} (T : Txt w K mg) : Cee P w K mg base 3 (He.fAd K ("address_good", none)) ["word"] (sp_address_good K) := by
  have c_number_below : Cee P w K mg base 2 (He.fAd K ("number_below", none)) ["word", "bound"] (sp_number_below K) := ok_number_below T
  refine cee_of T.d_address_good sc_address_good (fun _ _ _ _ _ _ us hl => match us, hl with | [_], _ => rfl) (fun vs H Q E h => sp1_len h) (fun cdv A outer s H vs Q E hr h => ⟨_, (pss_one (ps_ret (pe_f c_number_below (hr.mono (by decide)) (takes_of rfl rfl rfl rfl) (by rfl) T.g_number_below (pa_cons (pv 0) (pa_cons (pe_gc (v := .int 512) rfl (gI T.g_ADDRESSES)) pa_nil))))), ?_⟩)
  obtain ⟨v0, rfl, h⟩ := h
  dsimp only [cxOf, L2.start]
  obtain ⟨n, rfl, hn, k⟩ := h
  walk_at "s"
  refine ask2 ⟨n, 512, rfl, rfl, by omega, hn, ?_⟩
  exact k
theorem sc_argument_good : FnScope ["word"] ["word"] (defScope s_argument_good) := ⟨rfl, rfl, rfl, by decide +kernel, rfl, by decide +kernel, by decide +kernel⟩
theorem ok_argument_good {P : Program} {w : World} {K : PySem.W.Frag} {mg : Str → Option Value} {base : Heap} (T : Txt w K mg) : Cee P w K mg base 4 (He.fAd K ("argument_good", none)) ["word"] (sp_argument_good K) := by
  have c_address_good : Cee P w K mg base 3 (He.fAd K ("address_good", none)) ["word"] (sp_address_good K) := ok_address_good T
  have c_number_of : Cee P w K mg base 1 (He.fAd K ("number_of", none)) ["word"] (sp_number_of K) := ok_number_of T
  refine cee_of T.d_argument_good sc_argument_good (fun _ _ _ _ _ _ us hl => match us, hl with | [_], _ => rfl) (fun vs H Q E h => sp1_len h) (fun cdv A outer s H vs Q E hr h => ⟨_, (pss_cons (ps_if (pt_cmpR op_eq (pe_ix ix_str (pv 0) pe_int (fun _ _ => rfl)) pe_str (nomark _)) (pss_one (ps_ret (pe_f c_address_good (hr.mono (by decide)) (takes_of rfl rfl rfl rfl) (by rfl) T.g_address_good (pa_cons (pe_slice sl_str (pv 0) (po_some pe_int) po_none) pa_nil)))) pss_nil) (pss_cons (ps_if (pt_cmpR op_eq (pe_bm PySem.F.plainAttrs_str PySem.F.slot_str_strip PySem.F.type_str_strip mt_stripChars (pv 0) (pa_cons (pe_gc (v := .str "0123456789") rfl (gS T.g_FIGURES)) pa_nil)) pe_str (nomark _)) (pss_one (ps_ret (pe_cmpR op_notN (pe_f c_number_of (hr.mono (by decide)) (takes_of rfl rfl rfl rfl) (by rfl) T.g_number_of (pa_cons (pv 0) pa_nil)) pe_non (nomark _)))) pss_nil) (pss_one (ps_ret pe_bl)))), ?_⟩)
  obtain ⟨v0, rfl, h⟩ := h
  dsimp only [cxOf, L2.start]
  obtain ⟨z, rfl, hz, hl0, k⟩ := h
  have hl := S_len5 hl0
  cases hz with
  | @at_ z hn =>
    obtain ⟨n, hn, hn2, rfl⟩ := hn
    have ha : atI (S (64 :: dg n)).cps.toList 0 = some 64 := atI_nat (xs := 64 :: dg n) (j := 0) rfl
    walk_at "s"
    rw [cut_tail]
    refine ask1 ⟨n, rfl, hn, ?_⟩
    exact k
  | num hn =>
    obtain ⟨n, hn, hn2, rfl⟩ := hn
    have D := dgO hn
    obtain ⟨c, y, hc⟩ : ∃ c y, dg n = c :: y := by
      have := D.lo
      cases e : dg n with
      | nil => rw [e] at this; exact absurd this (by decide)
      | cons c y => exact ⟨c, y, rfl⟩
    have ha : atI (S (dg n)).cps.toList 0 = some c := atI_nat (xs := dg n) (j := 0) (by rw [hc]; rfl)
    have hcf := D.fig c (by rw [hc]; exact .head _)
    have hs := D.strip
    walk_at "s"
    refine if_ss (fun e => absurd (SX.S_inj (b := [64]) (e.trans (by decide +kernel))) (fun q => by injection q with q; omega)) (fun e => ?_)
    walk_at "s"
    rw [hs]
    walk_at "s"
    refine ask1 ⟨n, rfl, hn, ?_⟩
    walk_at "s"
    exact k
  | @txt c y hc hs =>
    have ha : atI (S (c :: y)).cps.toList 0 = some c := atI_nat (xs := c :: y) (j := 0) rfl
    walk_at "s"
    refine if_ss (fun e => absurd (SX.S_inj (b := [64]) (e.trans (by decide +kernel))) (fun q => by injection q with q; omega)) (fun e => ?_)
    walk_at "s"
    refine if_ss (fun e => absurd e hs) (fun e => ?_)
    exact k
theorem sc_call_parts : FnScope ["words"] ["words"] (defScope s_call_parts) := ⟨rfl, rfl, rfl, by decide +kernel, rfl, by decide +kernel, by decide +kernel⟩
theorem ok_call_parts {P : Program} {w : World} {K : PySem.W.Frag} {mg : Str → Option Value} {base : Heap} (T : Txt w K mg) : Cee P w K mg base 1 (He.fAd K ("call_parts", none)) ["words"] (sp_call_parts K) := by
  refine cee_of T.d_call_parts sc_call_parts (fun _ _ _ _ _ _ us hl => match us, hl with | [_], _ => rfl) (fun vs H Q E h => sp1_len h) (fun cdv A outer s H vs Q E hr h => ⟨_, (pss_cons (ps_if (pt_cmpR op_eq (pe_ix ix_list (pv 0) (pe_un un_neg pe_int) (fun _ _ => rfl)) pe_str (nomark _)) (pss_one (ps_ret (pe_tup (pa_cons (pe_slice sl_list (pv 0) (po_some pe_int) (po_some (pe_un un_neg pe_int))) (pa_cons (pe_ix ix_list (pv 0) (pe_un un_neg pe_int) (fun _ _ => rfl)) pa_nil))))) pss_nil) (pss_one (ps_ret (pe_tup (pa_cons (pe_slice sl_list (pv 0) (po_some pe_int) po_none) (pa_cons pe_non pa_nil)))))), ?_⟩)
  obtain ⟨v0, rfl, h⟩ := h
  dsimp only [cxOf, L2.start]
  obtain ⟨a, ws, m, as, an, rfl, ha, C, k⟩ := h
  obtain ⟨rfl, ht, hf, hA, hadr, h2⟩ := C
  cases an with
  | none =>
    obtain ⟨z, hz⟩ : ∃ z, (wT "call" :: wT m :: as)[as.length]? = some z := ⟨_, List.getElem?_eq_getElem (by simp only [List.length_cons]; omega)⟩
    have h2 := h2 rfl z hz
    have hat : atI (SV (wT "call" :: wT m :: as ++ [])) (-2) = some (.str (S z)) := at_two (k := as.length) (by simp) (by rw [List.append_nil]; exact hz)
    have hcut : cutV (SV (wT "call" :: wT m :: as ++ [])) (some 1) none = SV (wT m :: as) := by rw [List.append_nil]; exact cutV_from _ 1
    walk_at "s"
    refine if_ss (fun e => absurd e h2) (fun e => ?_)
    walk_at "s"
    rw [hcut]
    intro p hp
    have O1 := (Own.start (H := H)).new (o := .lst (SV (wT m :: as))) hp
    generalize upd H p _ = H1 at O1 ⊢
    walk_at "s"
    intro t ht
    exact k _ t p (O1.new ht)
  | some y =>
    have hat : atI (SV (wT "call" :: wT m :: as ++ [wT "to", y])) (-2) = some (.str (S (wT "to"))) := at_two (k := as.length + 2) (by simp) (by simp)
    have hat1 : atI (SV (wT "call" :: wT m :: as ++ [wT "to", y])) (-1) = some (.str (S y)) := at_one (k := as.length + 3) (by simp) (by simp)
    have hcut : cutV (SV (wT "call" :: wT m :: as ++ [wT "to", y])) (some 1) (some (-2)) = SV (wT m :: as) := by
      rw [cut_mid2 (k := as.length + 1) (by simp)]
      simp [List.take_append]
    walk_at "s"
    rw [hcut]
    intro p hp
    have O1 := (Own.start (H := H)).new (o := .lst (SV (wT m :: as))) hp
    have ha1 : SqL K (upd H p (.lst (SV (wT m :: as)))) a (SV (wT "call" :: wT m :: as ++ [wT "to", y])) := O1.sq ha
    generalize upd H p _ = H1 at O1 ha1 ⊢
    walk_at "s"
    intro t ht
    exact k _ t p (O1.new ht)
theorem sc_call_good : FnScope ["words", "parts", "answer", "word"] ["words"] (defScope s_call_good) := ⟨rfl, rfl, rfl, by decide +kernel, rfl, by decide +kernel, by decide +kernel⟩
theorem ok_call_good {P : Program} {w : World} {K : PySem.W.Frag} {mg : Str → Option Value} {base : Heap} (T : Txt w K mg) : Cee P w K mg base 5 (He.fAd K ("call_good", none)) ["words"] (sp_call_good K) := by
  have c_call_parts : Cee P w K mg base 1 (He.fAd K ("call_parts", none)) ["words"] (sp_call_parts K) := ok_call_parts T
  have c_address_good : Cee P w K mg base 3 (He.fAd K ("address_good", none)) ["word"] (sp_address_good K) := ok_address_good T
  have c_argument_good : Cee P w K mg base 4 (He.fAd K ("argument_good", none)) ["word"] (sp_argument_good K) := ok_argument_good T
  refine cee_of T.d_call_good sc_call_good (fun _ _ _ _ _ _ us hl => match us, hl with | [_], _ => rfl) (fun vs H Q E h => sp1_len h) (fun cdv A outer s H vs Q E hr h => ⟨_, (pss_cons (ps_if (pt_cmpR op_lt (pe_callB call_len_seq (by rfl) T.n_len (by decide +kernel) (pa_cons (pv 0) pa_nil)) pe_int (nomark _)) (pss_one (ps_ret pe_bl)) pss_nil) (pss_cons (ps_asg (pe_f c_call_parts (hr.mono (by decide)) (takes_of rfl rfl rfl rfl) (by rfl) T.g_call_parts (pa_cons (pv 0) pa_nil)) (pg_tup rfl (pgs_cons (pg_name (i := 1) sc_call_good.nd rfl (Or.inl rfl)) (pgs_cons (pg_name (i := 2) sc_call_good.nd rfl (Or.inl rfl)) pgs_nil)))) (pss_cons (PS.box (ps_if (PW.pt (pw_and (pt_cmpR op_notN (pv 2) pe_non (nomark _)) (pw_and1 (pt_not (pt_val (pe_f c_address_good (hr.mono (by decide)) (takes_of rfl rfl rfl rfl) (by rfl) T.g_address_good (pa_cons (pv 2) pa_nil))))))) (pss_one (ps_ret pe_bl)) pss_nil)) (pss_cons (PS.box (ps_if (PW.pt (pw_or (pt_cmpR op_eq (pe_callB call_len_seq (by rfl) T.n_len (by decide +kernel) (pa_cons (pv 1) pa_nil)) pe_int (nomark _)) (pw_or (pt_cmpR (op_notIn_kd T.t_ARGUMENTS.choose_spec.choose_spec) (pe_ix ix_list (pv 1) pe_int (fun _ _ => rfl)) (pe_glob (v := .ref (He.ga K "ARGUMENTS")) rfl T.g_ARGUMENTS rfl) (by with_unfolding_all rfl)) (pw_or1 (pt_cmpR op_ne (pe_op op_sub (pe_callB call_len_seq (by rfl) T.n_len (by decide +kernel) (pa_cons (pv 1) pa_nil)) pe_int) (pe_ix ix_kdict (pe_glob (v := .ref (He.ga K "ARGUMENTS")) rfl T.g_ARGUMENTS rfl) (pe_ix ix_list (pv 1) pe_int (fun _ _ => rfl)) (fun _ _ => rfl)) (nomark _)))))) (pss_one (ps_ret pe_bl)) pss_nil)) (pss_one (ps_ret (pe_callB (cr_all rfl) (by rfl) T.n_all (by decide +kernel) (pa_cons (pe_lc (own := [("word", 3)]) (by rfl) sc_call_good.nd (PI.box (pi_list (pe_slice sl_list (pv 1) (po_some pe_int) po_none))) (blkOk_by (own := [("word", 3)]) (N := ["words", "parts", "answer", "word"]) (sc := defScope s_call_good) (by decide +kernel)) (fun _ _ _ _ _ => (pg_name (i := 3) sc_call_good.nd rfl (Or.inl rfl))) (fun _ _ _ _ _ => pts_nil) (fun _ _ _ _ _ => (pe_f c_argument_good (hr.mono (by decide)) takes0 (by rfl) T.g_argument_good (pa_cons (pv 3) pa_nil)))) pa_nil)))))))), ?_⟩)
  obtain ⟨v0, rfl, h⟩ := h
  dsimp only [cxOf, L2.start]
  obtain ⟨a, ws, m, as, an, rfl, ha, C, k⟩ := h
  have hwl : 2 ≤ ws.length := by rw [C.eq]; simp only [List.length_append, List.length_cons]; omega
  have hwv : (SV ws).length = ws.length := List.length_map ..
  walk_at "s"
  refine if_d (fun g => absurd g (by omega)) (fun g => ?_)
  walk_at "s"
  refine ask1 ⟨a, ws, m, as, an, rfl, ha, C, fun H1 t p O1 => ?_⟩
  have hp1 : SqL K H1 p (SV (wT m :: as)) := SqL.of (O1.get (.tail _ (.head _)))
  have hat : atI (SV (wT m :: as)) 0 = some (.str m) := atI_nat (j := 0) (by show some (V.str (S (wT m))) = _; rw [SX.S_tl])
  have hpl : (SV (wT m :: as)).length = as.length + 1 := List.length_map ..
  obtain ⟨u, hu, hr⟩ := T.v_ARGUMENTS (m, .int as.length) (List.mem_map_of_mem (f := fun q : PySem.Str × Nat => (q.1, He.Dv.int (q.2 : Int))) C.tab)
  obtain ⟨es, nn, D⟩ := T.t_ARGUMENTS
  have hkd : KDct K w (He.ga K "ARGUMENTS") m (.int as.length) := ⟨es, nn, u, D.at_, D.lit, hu, hr⟩
  generalize hv : anV an = v at O1
  walk_at "s"
  refine cutS (fun σ' H' => σ' = [some (.ref a), some (.ref p), some v, none] ∧ H' = H1) (fun nx hn => ?_) ?_
  · cases an with
    | none =>
      have hv : V.non = v := hv
      subst hv
      walk_at "s"
      exact hn _ _ ⟨rfl, rfl⟩
    | some z =>
      obtain ⟨n, hn1, hn2, rfl⟩ := C.adr z rfl
      have hv : V.str (S (dg n)) = v := hv
      subst hv
      walk_at "s"
      refine ask1 ⟨n, rfl, hn1, ?_⟩
      walk_at "s"
      exact hn _ _ ⟨rfl, rfl⟩
  · rintro σ' H' ⟨rfl, rfl⟩
    walk_at "b"
    refine ⟨some u, rfl, rfl, hu, ?_⟩
    walk_at "s"
    refine if_nii (fun e => absurd (by omega) e) (fun _ => ?_)
    have hcut : cutV (SV (wT m :: as)) (some 1) none = SV as := cutV_from _ 1
    walk_at "s"
    rw [hcut]
    intro q hq
    have O2 := O1.new (o := .lst (SV as)) hq
    generalize upd H' q _ = H2 at O2 ⊢
    have hq2 : SqL K H2 q (SV as) := SqL.of (O2.get (.head _))
    have hasl : (SV as).length = as.length := List.length_map ..
    have hfew := C.few
    walk_at "s"
    refine lcL (K := K) (a := q) (xs := SV as) (fun D i H3 => Own H2 H3 [] [(D, .lst ((List.replicate i true).map V.bl))]) (fun D hD => Own.start.new hD) (fun D i H3 _ O3 => O3.sq hq2) ?_ ?_
    · rintro D i x H3 hx O3
      obtain ⟨z, hz, rfl⟩ := SV_get hx
      have hi : i < as.length := (List.getElem?_eq_some_iff.mp hz).1
      have hz2 := C.args z (List.mem_of_getElem? hz)
      have hD3 := O3.get (.head _)
      have hbl : ((List.replicate i true).map V.bl).length < sizeLine := Nat.lt_of_lt_of_le (by rw [List.length_map, List.length_replicate]; omega : _ < 100) (by decide)
      walk_at "s"
      refine ask1 ⟨z, rfl, hz2.1, hz2.2, ?_⟩
      walk_at "s"
      rw [show List.map V.bl (List.replicate (i + 1) true) = List.map V.bl (List.replicate i true) ++ [V.bl true] by rw [List.replicate_succ', List.map_append]; rfl]
      exact ⟨O3.wr .here⟩
    · intro D H3 O3
      have hD3 : SqL K H3 D ((List.replicate (SV as).length true).map V.bl) := SqL.of (O3.get (.head _))
      walk_at "s"
      rw [show (List.replicate (SV as).length true).all id = true from List.all_eq_true.mpr fun b hb => List.eq_of_mem_replicate hb]
      exact k _ ((O2.drop (List.nil_sublist _)).callE (e := []) .all (O3.drop (List.nil_sublist _)))

open SX (S)
local macro_rules | `(tactic| walk_at "no") => `(tactic| ((refine if_ss (fun e => ?_) (fun e => ?_)); (focus (exact absurd e (by decide +kernel))); walk_at "s"; try walk_at "b"))
local macro_rules | `(tactic| walk_at "yes") => `(tactic| ((refine if_ss (fun e => ?_) (fun e => ?_)); (rotate_left; (focus exact absurd (by decide +kernel) e)); walk_at "s"))
theorem Sub.here0 {cs : Cells} : Sub cs [] [] cs := Sub.here (s := []) (s' := []) (r := cs)
theorem split_lines (z : List Nat) : Txt.split (S z) "\n" = (TL.spl [10] 0 [] z).map S := by
  rw [show ("\n" : Str) = S [10] by decide +kernel]
  exact SX.split_S (by simp) (by decide)
theorem split_blanks (z : List Nat) : Txt.split (S z) " " = (TL.spl [32] 0 [] z).map S := by
  rw [show (" " : Str) = S [32] by decide +kernel]
  exact SX.split_S (by simp) (by decide)
theorem sc_step_good : FnScope ["words"] ["words"] (defScope s_step_good) := ⟨rfl, rfl, rfl, by decide +kernel, rfl, by decide +kernel, by decide +kernel⟩
theorem ok_step_good {P : Program} {w : World} {K : PySem.W.Frag} {mg : Str → Option Value} {base : Heap} (T : Txt w K mg) : Cee P w K mg base 6 (He.fAd K ("step_good", none)) ["words"] (sp_step_good K) := by
  have c_call_good : Cee P w K mg base 5 (He.fAd K ("call_good", none)) ["words"] (sp_call_good K) := ok_call_good T
  have c_number_of : Cee P w K mg base 1 (He.fAd K ("number_of", none)) ["word"] (sp_number_of K) := ok_number_of T
  have c_address_good : Cee P w K mg base 3 (He.fAd K ("address_good", none)) ["word"] (sp_address_good K) := ok_address_good T
  have c_number_below : Cee P w K mg base 2 (He.fAd K ("number_below", none)) ["word", "bound"] (sp_number_below K) := ok_number_below T
  refine cee_of T.d_step_good sc_step_good (fun _ _ _ _ _ _ us hl => match us, hl with | [_], _ => rfl) (fun vs H Q E h => sp1_len h) (fun cdv A outer s H vs Q E hr h => ⟨_, (pss_cons (ps_if (pt_cmpR op_eq (pe_ix ix_list (pv 0) pe_int (fun _ _ => rfl)) pe_str (nomark _)) (pss_one (ps_ret (pe_f c_call_good (hr.mono (by decide)) (takes_of rfl rfl rfl rfl) (by rfl) T.g_call_good (pa_cons (pv 0) pa_nil)))) pss_nil) (pss_cons (ps_if (pt_cmpR op_eq (pe_ix ix_list (pv 0) pe_int (fun _ _ => rfl)) pe_str (nomark _)) (pss_one (ps_ret (pe_cmpR op_eq (pe_callB call_len_seq (by rfl) T.n_len (by decide +kernel) (pa_cons (pv 0) pa_nil)) pe_int (nomark _)))) pss_nil) (pss_cons (ps_if (pt_cmpR op_eq (pe_ix ix_list (pv 0) pe_int (fun _ _ => rfl)) pe_str (nomark _)) (pss_one (ps_ret (pe_and (pe_cmpR op_eq (pe_callB call_len_seq (by rfl) T.n_len (by decide +kernel) (pa_cons (pv 0) pa_nil)) pe_int (nomark _)) (pe_one (pe_cmpR op_notN (pe_f c_number_of (hr.mono (by decide)) (takes_of rfl rfl rfl rfl) (by rfl) T.g_number_of (pa_cons (pe_ix ix_list (pv 0) pe_int (fun _ _ => rfl)) pa_nil)) pe_non (nomark _)))))) pss_nil) (pss_cons (PS.box (ps_if (PW.pt (pw_or (pt_cmpR op_ne (pe_callB call_len_seq (by rfl) T.n_len (by decide +kernel) (pa_cons (pv 0) pa_nil)) pe_int (nomark _)) (pw_or1 (pt_not (pt_val (pe_f c_address_good (hr.mono (by decide)) (takes_of rfl rfl rfl rfl) (by rfl) T.g_address_good (pa_cons (pe_ix ix_list (pv 0) pe_int (fun _ _ => rfl)) pa_nil))))))) (pss_one (ps_ret pe_bl)) pss_nil)) (pss_cons (ps_if (pt_cmpR op_eq (pe_ix ix_list (pv 0) pe_int (fun _ _ => rfl)) pe_str (nomark _)) (pss_one (ps_ret (pe_f c_number_below (hr.mono (by decide)) (takes_of rfl rfl rfl rfl) (by rfl) T.g_number_below (pa_cons (pe_ix ix_list (pv 0) pe_int (fun _ _ => rfl)) (pa_cons (pe_gc (v := .int 256) rfl (gI T.g_CELLS)) pa_nil))))) pss_nil) (pss_cons (ps_if (pt_cmpR op_eq (pe_ix ix_list (pv 0) pe_int (fun _ _ => rfl)) pe_str (nomark _)) (pss_one (ps_ret (pe_cmpR op_notN (pe_f c_number_of (hr.mono (by decide)) (takes_of rfl rfl rfl rfl) (by rfl) T.g_number_of (pa_cons (pe_ix ix_list (pv 0) pe_int (fun _ _ => rfl)) pa_nil)) pe_non (nomark _)))) pss_nil) (pss_one (ps_ret (pe_and (pe_cmpR op_in_seq (pe_ix ix_list (pv 0) pe_int (fun _ _ => rfl)) (pe_tup (pa_cons pe_str (pa_cons pe_str pa_nil))) (by with_unfolding_all rfl)) (pe_one (pe_f c_address_good (hr.mono (by decide)) (takes_of rfl rfl rfl rfl) (by rfl) T.g_address_good (pa_cons (pe_ix ix_list (pv 0) pe_int (fun _ _ => rfl)) pa_nil)))))))))))), ?_⟩)
  obtain ⟨v0, rfl, h⟩ := h
  dsimp only [cxOf, L2.start]
  obtain ⟨a, ws, rfl, ha, hS, k⟩ := h
  cases hS with
  | @set x y hx hy =>
    obtain ⟨i, hi, hi2, rfl⟩ := hx
    obtain ⟨j, hj, hj2, rfl⟩ := hy
    walk_at "s"
    walk_at "no"
    refine ask1 ⟨i, rfl, hi, ?_⟩
    walk_at "s"
    refine ask2 ⟨j, 256, rfl, rfl, hj2, hj, ?_⟩
    exact k _ Own.start
  | @add x y hx hy =>
    obtain ⟨i, hi, hi2, rfl⟩ := hx
    obtain ⟨j, hj, hj2, rfl⟩ := hy
    walk_at "s"
    walk_at "no"
    refine ask1 ⟨i, rfl, hi, ?_⟩
    walk_at "s"
    intro T2 hT2
    show rIn K false (V.str (S (wT "add"))) (V.ref T2) _ _
    refine ⟨T2, [.str "add", .str "less"], rfl, .inr (SqT.of upd_same), rfl, by decide +kernel, ?_⟩
    refine ⟨_, rfl, ?_⟩
    refine if_t (by decide +kernel) ?_
    have O1 := (Own.start (H := H)).newT (o := .tup [.str "add", .str "less"]) hT2
    have ha1 := O1.sq ha
    generalize upd H T2 _ = H1 at O1 ha1 ⊢
    walk_at "s"
    refine ask1 ⟨j, rfl, hj, ?_⟩
    exact k _ O1
  | @less x y hx hy =>
    obtain ⟨i, hi, hi2, rfl⟩ := hx
    obtain ⟨j, hj, hj2, rfl⟩ := hy
    walk_at "s"
    walk_at "no"
    refine ask1 ⟨i, rfl, hi, ?_⟩
    walk_at "s"
    intro T2 hT2
    show rIn K false (V.str (S (wT "less"))) (V.ref T2) _ _
    refine ⟨T2, [.str "add", .str "less"], rfl, .inr (SqT.of upd_same), rfl, by decide +kernel, ?_⟩
    refine ⟨_, rfl, ?_⟩
    refine if_t (by decide +kernel) ?_
    have O1 := (Own.start (H := H)).newT (o := .tup [.str "add", .str "less"]) hT2
    have ha1 := O1.sq ha
    generalize upd H T2 _ = H1 at O1 ha1 ⊢
    walk_at "s"
    refine ask1 ⟨j, rfl, hj, ?_⟩
    exact k _ O1
  | @iff x y hx hy =>
    obtain ⟨i, hi, hi2, rfl⟩ := hx
    obtain ⟨j, hj, hj2, rfl⟩ := hy
    walk_at "s"
    walk_at "no"
    refine ask1 ⟨i, rfl, hi, ?_⟩
    walk_at "s"
    refine ask1 ⟨j, rfl, hj, ?_⟩
    walk_at "s"
    exact k _ Own.start
  | @jump x hx =>
    obtain ⟨i, hi, hi2, rfl⟩ := hx
    walk_at "s"
    refine ask1 ⟨i, rfl, hi, ?_⟩
    walk_at "s"
    exact k _ Own.start
  | back =>
    walk_at "s"
    exact k _ Own.start
  | @call ws m as an C =>
    obtain ⟨ws', rfl⟩ : ∃ ws', ws = wT "call" :: ws' := ⟨_, C.eq⟩
    walk_at "s"
    refine ask1 ⟨a, _, m, as, an, rfl, ha, C, fun H1 O1 => ?_⟩
    exact k _ O1
theorem sc_read_program : FnScope ["text", "steps", "at", "row", "words", "word"] ["text"] (defScope s_read_program) := ⟨rfl, rfl, rfl, by decide +kernel, rfl, by decide +kernel, by decide +kernel⟩
theorem ok_read_program {P : Program} {w : World} {K : PySem.W.Frag} {mg : Str → Option Value} {base : Heap} (T : Txt w K mg) : Cee P w K mg base 7 (He.fAd K ("read_program", none)) ["text"] (sp_read_program K) := by
  have c_step_good : Cee P w K mg base 6 (He.fAd K ("step_good", none)) ["words"] (sp_step_good K) := ok_step_good T
  refine cee_of T.d_read_program sc_read_program (fun _ _ _ _ _ _ us hl => match us, hl with | [_], _ => rfl) (fun vs H Q E h => sp1_len h) (fun cdv A outer s H vs Q E hr h => ⟨_, (pss_cons (ps_set (i := 1) sc_read_program.nd rfl (Or.inl rfl) (pe_lst pa_nil)) (pss_cons (ps_for (passes_of rfl) rfl (PI.box (pi_enum (by rfl) T.n_enumerate (pa_cons (pe_split (pv 0) pe_str) pa_nil))) (pg_tup rfl (pgs_cons (pg_name (i := 2) sc_read_program.nd rfl (Or.inl rfl)) (pgs_cons (pg_name (i := 3) sc_read_program.nd rfl (Or.inl rfl)) pgs_nil))) (pss_cons (ps_setLc (i := 4) (own := [("word", 5)]) (by rfl) sc_read_program.nd rfl rfl (sw_true rfl rfl rfl (by decide +kernel)) (PI.box (pi_list (pe_split (pv 3) pe_str))) (blkOk_by (own := [("word", 5)]) (N := ["text", "steps", "at", "row", "words", "word"]) (sc := defScope s_read_program) (by decide +kernel)) (fun _ _ _ _ _ => (pg_name (i := 5) sc_read_program.nd rfl (Or.inl rfl))) (fun _ _ _ _ _ => (pts_one (pt_cmpR op_ne (pv 5) pe_str (nomark _)))) (fun _ _ _ _ _ => (pv 5))) (pss_one (ps_if (pt_cmpR op_gt (pe_callB call_len_seq (by rfl) T.n_len (by decide +kernel) (pa_cons (pv 4) pa_nil)) pe_int (nomark _)) (pss_cons (ps_if (pt_not (pt_val (pe_f c_step_good (hr.mono (by decide)) (takes_of rfl rfl rfl rfl) (by rfl) T.g_step_good (pa_cons (pv 4) pa_nil)))) (pss_one ps_dead) pss_nil) (pss_one (ps_expr (pe_bm PySem.F.plainAttrs_list PySem.F.slot_list_append PySem.F.type_list_append mt_append (pv 1) (pa_cons (pe_callTy call_tuple_of (by rfl) T.n_tuple (by decide +kernel) (pa_cons (pv 4) pa_nil)) pa_nil))))) pss_nil)))) (pss_one (ps_ret (pv 1))))), ?_⟩)
  obtain ⟨v0, rfl, h⟩ := h
  dsimp only [cxOf, L2.start]
  obtain ⟨z, rfl, hz, hr, k⟩ := h
  have hl := S_len5 hz.len
  walk_at "s"
  intro b hb
  have O1 := (Own.start (H := H)).new (o := .lst []) hb
  generalize upd H b _ = H1 at O1 ⊢
  walk_at "s"
  refine ⟨by decide +kernel, hl, fun q hq => ?_⟩
  rw [split_lines, List.map_map]
  refine O1.sG hq fun H2 O2 _ => ?_
  have O2 : Own H H2 [] [(q, .lst (SV (TL.spl [10] 0 [] z))), (b, .lst [])] := O2
  clear O1
  have hq2 : SqL K H2 q (SV (TL.spl [10] 0 [] z)) := SqL.of (O2.get (.head _))
  have hfew := (spl1 10 z []).1
  have hzl := hz.len
  have hlow : ∀ r ∈ TL.spl [10] 0 [] z, TxO r := fun r hr => by
    obtain ⟨h1, h2⟩ := (spl1 10 z []).2.2 r hr
    refine ⟨by simp only [List.length_nil] at h1; omega, fun c hc => ?_⟩
    rcases h2 c hc with q | q
    · cases q
    · exact hz.low c q
  walk_at "s"
  refine forW (walk_enum (K := K) (a := q) (xs := SV (TL.spl [10] 0 [] z))) (fun j σ H' => ∃ (v2 v3 v4 : Option V) (ps : List (Addr × List (List Nat))), σ = [some (.str (S z)), some (.ref b), v2, v3, v4, none] ∧ Own H H' [] ((q, .lst (SV (TL.spl [10] 0 [] z))) :: (b, .lst (ps.map fun p => V.ref p.1)) :: tcel ps) ∧ ps.map (·.2) = (((TL.spl [10] 0 [] z).take j).map wordsL).filter (fun r => decide (r ≠ []))) ⟨_, _, _, [], rfl, O2, rfl⟩ (fun j σ H' _ ⟨_, _, _, _, _, O', _⟩ => SqL.of (O'.get (.head _))) ?_ ?_
  · rintro j x σ H' H3 hj ⟨v2, v3, v4, ps, rfl, O', hps⟩ ⟨T0, u, v, rfl, hT, rfl, hu, hv⟩
    cases hu
    obtain ⟨r, hrw, rfl⟩ := SV_get hv
    have O3 := O'.newT (o := .tup [V.int j, V.str (S r)]) hT
    have hT1 : (upd H' T0 (.tup [V.int j, V.str (S r)])) T0 = some (.tup [V.int j, V.str (S r)]) := upd_same
    generalize upd H' T0 _ = H4 at O3 hT1 ⊢
    have hrO := hlow r (List.mem_of_getElem? hrw)
    have hrl := S_len5 hrO.len
    walk_at "s"
    refine ⟨by decide +kernel, hrl, fun d hd => ?_⟩
    rw [split_blanks, List.map_map]
    have O5 := O3.new (o := .lst (List.map (V.str ∘ S) (TL.spl [32] 0 [] r))) hd
    generalize upd H4 d _ = H5 at O5 ⊢
    have O5 : Own H H5 [] ((d, .lst (SV (TL.spl [32] 0 [] r))) :: (q, .lst (SV (TL.spl [10] 0 [] z))) :: (b, .lst (ps.map fun p => V.ref p.1)) :: tcel ps) := O5
    clear O3 hT1
    have hd5 : SqL K H5 d (SV (TL.spl [32] 0 [] r)) := SqL.of (O5.get (.head _))
    have hfew2 := (spl1 32 r []).1
    have hrl5 := hrO.len
    have hbl5 : (ps.map fun p => V.ref p.1).length < sizeLine := by
      have h1 : ps.length ≤ 5001 := by
        have := congrArg List.length hps
        rw [List.length_map] at this
        rw [this]
        refine Nat.le_trans (List.length_filter_le _ _) ?_
        rw [List.length_map, List.length_take]
        omega
      rw [List.length_map]
      exact Nat.lt_of_le_of_lt h1 (by decide)
    have O5 := Box.mk O5
    walk_at "clo"
    walk_at "s"
    refine lcL (K := K) (a := d) (xs := SV (TL.spl [32] 0 [] r)) (fun D i H6 => Own H5 H6 [] [(D, .lst (SV (((TL.spl [32] 0 [] r).take i).filter (fun w => decide (w ≠ [])))))]) (fun D hD => Own.start.new hD) (fun D i H6 _ O6 => O6.sq hd5) ?_ ?_
    · rintro D i x H6 hx O6
      obtain ⟨wd, hwd, rfl⟩ := SV_get hx
      have hD6 := O6.get (.head _)
      have hi := (List.getElem?_eq_some_iff.mp hwd).1
      have hll : (SV (((TL.spl [32] 0 [] r).take i).filter (fun w => decide (w ≠ [])))).length < sizeLine := by
        rw [List.length_map]
        refine Nat.lt_of_le_of_lt (List.length_filter_le _ _) ?_
        rw [List.length_take]
        exact Nat.lt_of_le_of_lt (Nat.min_le_left _ _) (Nat.lt_trans (show i < 6000 by omega) (by decide))
      have hst := take_succ hwd
      walk_at "s"
      refine if_nss (fun e => ?_) (fun e => ?_)
      · have ew : wd ≠ [] := fun q => e (by rw [q]; decide +kernel)
        walk_at "s"
        rw [hst, List.filter_append, List.filter_cons, if_pos (decide_eq_true ew), List.filter_nil]
        have hap : ∀ l : List (List Nat), SV (l ++ [wd]) = SV l ++ [V.str (S wd)] := fun l => List.map_append ..
        rw [hap]
        exact ⟨O6.wr .here⟩
      · have ew : wd = [] := SX.S_inj (b := []) (e.trans (by decide +kernel))
        rw [hst, List.filter_append, List.filter_cons, if_neg (by rw [ew]; decide), List.filter_nil, List.append_nil]
        exact ⟨O6⟩
    · intro D H6 O6
      rw [show (SV (TL.spl [32] 0 [] r)).length = (TL.spl [32] 0 [] r).length from List.length_map .., List.take_length] at O6
      have O6 : Own H5 H6 [] [(D, .lst (SV (wordsL r)))] := O6
      have O7 := O5.out.callE (e := [(D, .lst (SV (wordsL r)))]) (s := []) (s' := []) .here0 O6
      clear O5
      have hD7 : SqL K H6 D (SV (wordsL r)) := SqL.of (O6.get (.head _))
      have hwl : (SV (wordsL r)).length = (wordsL r).length := List.length_map ..
      have htk := take_succ hrw
      walk_at "s"
      refine if_d (fun h0 => ?_) (fun h0 => ?_)
      · have hne : wordsL r ≠ [] := fun q => by rw [hwl, q] at h0; exact absurd h0 (by decide)
        have hS : StepW (wordsL r) := hr _ (List.mem_filter.mpr ⟨List.mem_map_of_mem (List.mem_of_getElem? hrw), decide_eq_true hne⟩)
        have O7 := Box.mk O7
        walk_at "clo"
        walk_at "s"
        refine ask1 ⟨D, _, rfl, hD7, hS, fun H7 O8 => ?_⟩
        have hD8 : SqL K H7 D (SV (wordsL r)) := O8.sq hD7
        have O9 : Own H H7 [] ((D, .lst (SV (wordsL r))) :: (d, .lst (SV (TL.spl [32] 0 [] r))) :: (q, .lst (SV (TL.spl [10] 0 [] z))) :: (b, .lst (ps.map fun p => V.ref p.1)) :: tcel ps) := O7.out.callE (e := []) .here0 O8
        have hb9 := O9.get (.tail _ (.tail _ (.tail _ (.head _))))
        have O9 := Box.mk O9
        walk_at "clo"
        walk_at "s"
        refine .inl ⟨hD8, fun l hl => ?_⟩
        have O10 := O9.out.new (o := .tup (SV (wordsL r))) hl
        generalize upd H7 l _ = H8 at O10 ⊢
        have hb10 := O10.get (.tail _ (.tail _ (.tail _ (.tail _ (.head _)))))
        have O10 := Box.mk O10
        walk_at "clo"
        walk_at "s"
        refine ⟨⟨_, _, _, ps ++ [(l, wordsL r)], rfl, ?_, ?_⟩⟩
        · have O11 := O10.out.wr (o' := .lst (ps.map (fun p => V.ref p.1) ++ [V.ref l])) (.there (.there (.there (.there .here))))
          have O12 : Own H _ [] ((l, .tup (SV (wordsL r))) :: (q, .lst (SV (TL.spl [10] 0 [] z))) :: (b, .lst (ps.map (fun p => V.ref p.1) ++ [V.ref l])) :: tcel ps) := O11.drop (.cons₂ _ (.cons _ (.cons _ (.refl _))))
          refine O12.perm ?_
          have e1 : tcel (ps ++ [(l, wordsL r)]) = tcel ps ++ [(l, .tup (SV (wordsL r)))] := List.map_append ..
          have e2 : (ps ++ [(l, wordsL r)]).map (fun p => V.ref p.1) = ps.map (fun p => V.ref p.1) ++ [V.ref l] := List.map_append ..
          rw [e1, e2]
          walk_at "pm"
        · rw [List.map_append, hps, htk, List.map_append, List.filter_append]
          congr 1
          show _ = List.filter _ [wordsL r]
          rw [List.filter_cons, if_pos (decide_eq_true hne)]
          rfl
      · have hne : wordsL r = [] := by
          cases e : wordsL r with
          | nil => rfl
          | cons y ys => rw [hwl, e, List.length_cons] at h0; omega
        refine ⟨⟨_, _, _, ps, rfl, O7.drop (.cons _ (.cons _ (.refl _))), ?_⟩⟩
        rw [hps, htk, List.map_append, List.filter_append]
        show _ = _ ++ List.filter _ [wordsL r]
        rw [List.filter_cons, if_neg (by rw [hne]; decide), List.filter_nil, List.append_nil]
  · rintro σ H3 ⟨v2, v3, v4, ps, rfl, O3, hps⟩
    rw [show (SV (TL.spl [10] 0 [] z)).length = (TL.spl [10] 0 [] z).length from List.length_map .., List.take_length] at hps
    walk_at "s"
    exact k _ b ps (O3.drop (.cons _ (.refl _))) hps

open SX (S)
/-! ## the law's own program -/
/-- a word of the law's making: one sign to ten, no blank, no end of row -/
structure WdO (z : List Nat) : Prop where
  lo : 1 ≤ z.length
  hi : z.length ≤ 10
  low : ∀ c ∈ z, c < 256 ∧ c ≠ 32 ∧ c ≠ 10
theorem wdO_dg {n : Nat} (h : n < 1000) : WdO (dg n) := by
  have D := dgO h
  have := D.hi
  exact ⟨D.lo, by omega, fun c hc => by have := D.fig c hc; omega⟩
theorem wdO_at {n : Nat} (h : n < 1000) : WdO (64 :: dg n) := by
  have D := dgO h
  have := D.hi
  refine ⟨by rw [List.length_cons]; omega, by rw [List.length_cons]; omega, fun c hc => ?_⟩
  rcases List.mem_cons.mp hc with rfl | hc
  · decide
  · have := D.fig c hc; omega
def litC (z : List Nat) : Bool := decide (1 ≤ z.length) && (decide (z.length ≤ 10) && z.all fun c => decide (c < 256) && (decide (c ≠ 32) && decide (c ≠ 10)))
theorem wdO_lit {z : List Nat} (h : litC z = true) : WdO z := by
  unfold litC at h
  simp only [Bool.and_eq_true, decide_eq_true_eq, List.all_eq_true] at h
  exact ⟨h.1, h.2.1, fun c hc => by obtain ⟨a, b, d⟩ := h.2.2 c hc; exact ⟨a, b, d⟩⟩
/-- an argument of the law's making: never the word to -/
structure ArO (z : List Nat) : Prop where
  w : WdO z
  a : ArgW z
  t : S z ≠ "to"
def argC (z : List Nat) : Bool := litC z && (match z with
  | [] => false
  | c :: y => decide (c ≠ 64) && decide (Txt.stripChars (S (c :: y)) "0123456789" ≠ ""))
theorem argW_lit {z : List Nat} (h : argC z = true) : ArgW z ∧ WdO z := by
  unfold argC at h
  cases z with
  | nil => simp at h
  | cons c y =>
    simp only [Bool.and_eq_true, decide_eq_true_eq] at h
    exact ⟨.txt h.2.1 h.2.2, wdO_lit h.1⟩
theorem dg_not_to {n : Nat} (h : n < 1000) : S (dg n) ≠ "to" := fun e => by
  have D := dgO h
  have e2 : dg n = [116, 111] := SX.S_inj (e.trans (by decide +kernel))
  have := D.fig 116 (by rw [e2]; exact .head _)
  omega
theorem arO_dg {n : Nat} (h : n < 1000) : ArO (dg n) := ⟨wdO_dg h, .num ⟨n, h, h, rfl⟩, dg_not_to h⟩
theorem arO_at {n : Nat} (h : n < 512) : ArO (64 :: dg n) := ⟨wdO_at (by omega), .at_ ⟨n, h, by omega, rfl⟩, fun e => by
  have e2 : 64 :: dg n = [116, 111] := SX.S_inj (e.trans (by decide +kernel))
  injection e2 with e2 _
  omega⟩
theorem arO_lit {z : List Nat} (h : (argC z && decide (S z ≠ "to")) = true) : ArO z := by
  rw [Bool.and_eq_true] at h
  exact ⟨(argW_lit h.1).2, (argW_lit h.1).1, of_decide_eq_true h.2⟩
theorem pick_ar {xs : List Str} {u : Int} (h0 : 0 ≤ u) (h1 : u < (xs.length : Nat)) (h : ∀ z ∈ xs, ArO (wT z)) : ∃ z, atI (xs.map V.str) u = some (.str (S z)) ∧ ArO z := by
  obtain ⟨k, rfl⟩ : ∃ k : Nat, u = k := ⟨u.toNat, by omega⟩
  have hk : k < xs.length := by omega
  exact ⟨wT xs[k], atI_nat (by rw [List.getElem?_map, List.getElem?_eq_getElem hk, SX.S_tl]; rfl), h _ (List.getElem_mem hk)⟩
theorem ar_mixed : ∀ z ∈ (["5", "-", "on", "x", "@511", "/a", "off", "300", "999", "0"] : List Str), ArO (wT z) := by
  intro z hz
  simp only [List.mem_cons, List.not_mem_nil, or_false] at hz
  rcases hz with rfl | rfl | rfl | rfl | rfl | rfl | rfl | rfl | rfl | rfl
  · exact (show wT "5" = dg 5 by decide +kernel) ▸ arO_dg (by decide)
  · exact arO_lit (by decide +kernel)
  · exact arO_lit (by decide +kernel)
  · exact arO_lit (by decide +kernel)
  · exact (show wT "@511" = 64 :: dg 511 by decide +kernel) ▸ arO_at (by decide)
  · exact arO_lit (by decide +kernel)
  · exact arO_lit (by decide +kernel)
  · exact (show wT "300" = dg 300 by decide +kernel) ▸ arO_dg (by decide)
  · exact (show wT "999" = dg 999 by decide +kernel) ▸ arO_dg (by decide)
  · exact (show wT "0" = dg 0 by decide +kernel) ▸ arO_dg (by decide)
theorem ar_lits {xs : List Str} (h : (xs.all fun z => argC (wT z) && decide (S (wT z) ≠ "to")) = true) : ∀ z ∈ xs, ArO (wT z) := fun z hz => arO_lit (List.all_eq_true.mp h z hz)
/-- a small number as a text -/
theorem str_dg {u : Int} (h : 0 ≤ u) : (toString u : Str) = S (dg u.toNat) := by
  rw [S_dg, Int.toNat_of_nonneg h]
theorem log_small {u : Int} (h0 : 0 ≤ u) (h1 : u < 100000) : u.natAbs.log2 < 1920 := by
  have h2 : u.natAbs < 100000 := by omega
  by_cases e : u.natAbs = 0
  · rw [e]; decide
  · exact Nat.lt_trans ((Nat.log2_lt e).mpr (Nat.lt_of_lt_of_le h2 (show 100000 ≤ 2 ^ 17 by decide))) (by decide)
def sp__law_cell_at (K : PySem.W.Frag) : Sp := sp2 fun x k H Q _ => ∃ (a : Addr) (xs : List Int) (n : Int), x = .ref a ∧ k = .int n ∧ 0 ≤ n ∧ SqL K H a (xs.map V.int) ∧ ∀ i, Q (.int i) H
def sp__law_mix (K : PySem.W.Frag) : Sp := sp3 fun x y z H Q _ => ∃ i j m, x = .int i ∧ y = .int j ∧ z = .int m ∧ CMul i j ∧ 0 < m ∧ ∀ r, 0 ≤ r → r < m → Q (.int r) H
def sp__law_address (K : PySem.W.Frag) : Sp := sp1 fun x H Q _ => ∃ u : Int, x = .int u ∧ 0 ≤ u ∧ u < 10 ^ 14 ∧ ∀ (n : Nat) H', Own H H' [] [] → n < 512 → Q (.str (S (dg n))) H'
def sp__law_argument (K : PySem.W.Frag) : Sp := sp3 fun x y z H Q _ => ∃ (kd : Str) (u m : Int), x = .str kd ∧ y = .int u ∧ z = .int m ∧ 0 ≤ u ∧ u < 1000 ∧ 2 ≤ m ∧ m ≤ 42 ∧ ∀ z H', Own H H' [] [] → ArO z → Q (.str (S z)) H'
theorem sc__law_cell_at : FnScope ["_law_script", "_law_k"] ["_law_script", "_law_k"] (defScope s__law_cell_at) := ⟨rfl, rfl, rfl, by decide +kernel, rfl, by decide +kernel, by decide +kernel⟩
theorem ok__law_cell_at {P : Program} {w : World} {K : PySem.W.Frag} {mg : Str → Option Value} {base : Heap} (T : Txt w K mg) : Cee P w K mg base 1 (He.fAd K ("_law_cell_at", none)) ["_law_script", "_law_k"] (sp__law_cell_at K) := by
  refine cee_of T.d__law_cell_at sc__law_cell_at (fun _ _ _ _ _ _ us hl => match us, hl with | [_, _], _ => rfl) (fun vs H Q E h => sp2_len h) (fun cdv A outer s H vs Q E hr h => ⟨_, (pss_cons (ps_if (pt_cmpR op_lt (pv 1) (pe_callB call_len_seq (by rfl) T.n_len (by decide +kernel) (pa_cons (pv 0) pa_nil)) (nomark _)) (pss_one (ps_ret (pe_ix ix_list (pv 0) (pv 1) (fun _ _ => rfl)))) pss_nil) (pss_one (ps_ret pe_int))), ?_⟩)
  obtain ⟨v0, v1, rfl, h⟩ := h
  dsimp only [cxOf, L2.start]
  obtain ⟨a, xs, n, rfl, rfl, n0, ha, k⟩ := h
  walk_at "s"
  refine if_d (fun h => ?_) (fun h => ?_)
  · obtain ⟨y, _, hy⟩ := at_ints n0 h
    walk_at "s"
    exact k y
  · walk_at "s"
    exact k 0
theorem sc__law_mix : FnScope ["_law_cell", "_law_factor", "_law_prime"] ["_law_cell", "_law_factor", "_law_prime"] (defScope s__law_mix) := ⟨rfl, rfl, rfl, by decide +kernel, rfl, by decide +kernel, by decide +kernel⟩
theorem ok__law_mix {P : Program} {w : World} {K : PySem.W.Frag} {mg : Str → Option Value} {base : Heap} (T : Txt w K mg) : Cee P w K mg base 1 (He.fAd K ("_law_mix", none)) ["_law_cell", "_law_factor", "_law_prime"] (sp__law_mix K) := by
  refine cee_of T.d__law_mix sc__law_mix (fun _ _ _ _ _ _ us hl => match us, hl with | [_, _, _], _ => rfl) (fun vs H Q E h => sp3_len h) (fun cdv A outer s H vs Q E hr h => ⟨_, (pss_one (ps_ret (pe_op op_mod (pe_op op_mul (pv 0) (pv 1)) (pv 2)))), ?_⟩)
  obtain ⟨v0, v1, v2, rfl, h⟩ := h
  dsimp only [cxOf, L2.start]
  obtain ⟨i, j, m, rfl, rfl, rfl, hm, m0, k⟩ := h
  walk_at "s"
  exact k _ (Int.emod_nonneg _ (by omega)) (Int.emod_lt_of_pos _ m0)
theorem sc__law_address : FnScope ["_law_number"] ["_law_number"] (defScope s__law_address) := ⟨rfl, rfl, rfl, by decide +kernel, rfl, by decide +kernel, by decide +kernel⟩
theorem ok__law_address {P : Program} {w : World} {K : PySem.W.Frag} {mg : Str → Option Value} {base : Heap} (T : Txt w K mg) : Cee P w K mg base 1 (He.fAd K ("_law_address", none)) ["_law_number"] (sp__law_address K) := by
  refine cee_of T.d__law_address sc__law_address (fun _ _ _ _ _ _ us hl => match us, hl with | [_], _ => rfl) (fun vs H Q E h => sp1_len h) (fun cdv A outer s H vs Q E hr h => ⟨_, (pss_one (ps_ret (pe_callTy call_str_int (by rfl) T.n_str (by decide +kernel) (pa_cons (pe_ix ix_list (pe_lst (pa_cons (pe_op op_mod (pv 0) pe_int) (pa_cons (pe_op op_mod (pv 0) pe_int) (pa_cons (pe_op op_mod (pv 0) pe_int) (pa_cons (pe_op op_mod (pe_op op_fdiv (pv 0) pe_int) pe_int) pa_nil))))) (pe_op op_mod (pv 0) pe_int) (fun _ _ => rfl)) pa_nil)))), ?_⟩)
  obtain ⟨v0, rfl, h⟩ := h
  dsimp only [cxOf, L2.start]
  obtain ⟨u, rfl, u0, u1, k⟩ := h
  walk_at "s"
  intro b hb
  have O1 := (Own.start (H := H)).new (o := .lst [.int (u % 16), .int (u % 16), .int (u % 24), .int (u / 4 % 512)]) hb
  have hat : ∃ v : Int, atI [V.int (u % 16), .int (u % 16), .int (u % 24), .int (u / 4 % 512)] (u % 4) = some (.int v) ∧ 0 ≤ v ∧ v < 512 := by
    have h4 : u % 4 = 0 ∨ u % 4 = 1 ∨ u % 4 = 2 ∨ u % 4 = 3 := by omega
    rcases h4 with e | e | e | e
    · exact ⟨_, by rw [e]; exact atI_nat (j := 0) rfl, by omega, by omega⟩
    · exact ⟨_, by rw [e]; exact atI_nat (j := 1) rfl, by omega, by omega⟩
    · exact ⟨_, by rw [e]; exact atI_nat (j := 2) rfl, by omega, by omega⟩
    · exact ⟨_, by rw [e]; exact atI_nat (j := 3) rfl, by omega, by omega⟩
  obtain ⟨v, hat, v0, v1⟩ := hat
  have hlog := log_small v0 (by omega)
  generalize upd H b _ = H1 at O1 ⊢
  have hb1 : SqL K H1 b _ := SqL.of (O1.get (.head _))
  walk_at "s"
  rw [str_dg v0]
  exact k _ _ (O1.drop (List.nil_sublist _)) (by omega)
theorem sc__law_argument : FnScope ["_law_kind", "_law_number", "_law_many"] ["_law_kind", "_law_number", "_law_many"] (defScope s__law_argument) := ⟨rfl, rfl, rfl, by decide +kernel, rfl, by decide +kernel, by decide +kernel⟩
theorem ok__law_argument {P : Program} {w : World} {K : PySem.W.Frag} {mg : Str → Option Value} {base : Heap} (T : Txt w K mg) : Cee P w K mg base 2 (He.fAd K ("_law_argument", none)) ["_law_kind", "_law_number", "_law_many"] (sp__law_argument K) := by
  have c__law_address : Cee P w K mg base 1 (He.fAd K ("_law_address", none)) ["_law_number"] (sp__law_address K) := ok__law_address T
  refine cee_of T.d__law_argument sc__law_argument (fun _ _ _ _ _ _ us hl => match us, hl with | [_, _, _], _ => rfl) (fun vs H Q E h => sp3_len h) (fun cdv A outer s H vs Q E hr h => ⟨_, (pss_cons (PS.box (ps_if (PW.pt (pw_and (pt_cmpR op_eq (pe_op op_mod (pv 1) pe_int) pe_int (nomark _)) (pw_and (pt_cmpR op_ne (pv 0) pe_str (nomark _)) (pw_and1 (pt_cmpR op_ne (pv 0) pe_str (nomark _)))))) (pss_one (ps_ret (pe_op op_add_str pe_str (pe_callTy call_str_int (by rfl) T.n_str (by decide +kernel) (pa_cons (pe_ix ix_list (pe_lst (pa_cons (pe_op op_mod (pe_op op_fdiv (pv 1) pe_int) pe_int) (pa_cons (pe_op op_mod (pe_op op_fdiv (pv 1) pe_int) pe_int) pa_nil))) (pe_op op_mod (pe_op op_fdiv (pv 1) pe_int) pe_int) (fun _ _ => rfl)) pa_nil))))) pss_nil)) (pss_cons (ps_if (pt_cmpR op_eq (pe_op op_mod (pv 1) pe_int) pe_int (nomark _)) (pss_one (ps_ret (pe_ix ix_list (pe_lst (pa_cons pe_str (pa_cons pe_str (pa_cons pe_str (pa_cons pe_str (pa_cons pe_str (pa_cons pe_str (pa_cons pe_str (pa_cons pe_str (pa_cons pe_str (pa_cons pe_str pa_nil))))))))))) (pe_op op_mod (pe_op op_fdiv (pv 1) pe_int) pe_int) (fun _ _ => rfl)))) pss_nil) (pss_cons (ps_if (pt_cmpR op_eq (pv 0) pe_str (nomark _)) (pss_one (ps_ret (pe_ix ix_list (pe_lst (pa_cons pe_str (pa_cons pe_str (pa_cons pe_str (pa_cons pe_str (pa_cons pe_str (pa_cons pe_str (pa_cons pe_str (pa_cons pe_str pa_nil))))))))) (pe_op op_mod (pv 1) pe_int) (fun _ _ => rfl)))) pss_nil) (pss_cons (ps_if (pt_cmpR op_eq (pv 0) pe_str (nomark _)) (pss_one (ps_ret (pe_ix ix_list (pe_lst (pa_cons pe_str (pa_cons pe_str (pa_cons pe_str (pa_cons pe_str (pa_cons pe_str pa_nil)))))) (pe_op op_mod (pv 1) pe_int) (fun _ _ => rfl)))) pss_nil) (pss_cons (ps_if (pt_cmpR op_eq (pv 0) pe_str (nomark _)) (pss_one (ps_ret (pe_f c__law_address (hr.mono (by decide)) (takes_of rfl rfl rfl rfl) (by rfl) T.g__law_address (pa_cons (pv 1) pa_nil)))) pss_nil) (pss_cons (ps_if (pt_cmpR op_eq (pv 0) pe_str (nomark _)) (pss_one (ps_ret (pe_ix ix_list (pe_lst (pa_cons pe_str (pa_cons (pe_callTy call_str_int (by rfl) T.n_str (by decide +kernel) (pa_cons (pe_op op_mod (pe_op op_fdiv (pv 1) pe_int) (pv 2)) pa_nil)) (pa_cons (pe_callTy call_str_int (by rfl) T.n_str (by decide +kernel) (pa_cons (pe_op op_mod (pe_op op_fdiv (pv 1) pe_int) (pv 2)) pa_nil)) pa_nil)))) (pe_op op_mod (pv 1) pe_int) (fun _ _ => rfl)))) pss_nil) (pss_cons (ps_if (pt_cmpR op_eq (pv 0) pe_str (nomark _)) (pss_one (ps_ret (pe_ix ix_list (pe_lst (pa_cons pe_str (pa_cons pe_str pa_nil))) (pe_op op_mod (pv 1) pe_int) (fun _ _ => rfl)))) pss_nil) (pss_cons (ps_if (pt_cmpR op_eq (pv 0) pe_str (nomark _)) (pss_one (ps_ret (pe_callTy call_str_int (by rfl) T.n_str (by decide +kernel) (pa_cons (pe_op op_mod (pv 1) pe_int) pa_nil)))) pss_nil) (pss_cons (ps_if (pt_cmpR op_eq (pv 0) pe_str (nomark _)) (pss_one (ps_ret (pe_callTy call_str_int (by rfl) T.n_str (by decide +kernel) (pa_cons (pe_op op_add pe_int (pe_op op_mod (pv 1) pe_int)) pa_nil)))) pss_nil) (pss_cons (ps_if (pt_cmpR op_eq (pv 0) pe_str (nomark _)) (pss_one (ps_ret (pe_callTy call_str_int (by rfl) T.n_str (by decide +kernel) (pa_cons (pe_ix ix_list (pe_lst (pa_cons (pe_op op_mod (pv 1) pe_int) (pa_cons (pe_op op_mod (pv 1) pe_int) (pa_cons (pe_op op_mod (pv 1) pe_int) pa_nil)))) (pe_op op_mod (pv 1) pe_int) (fun _ _ => rfl)) pa_nil)))) pss_nil) (pss_one (ps_ret (pe_callTy call_str_int (by rfl) T.n_str (by decide +kernel) (pa_cons (pe_op op_mod (pv 1) pe_int) pa_nil)))))))))))))), ?_⟩)
  obtain ⟨v0, v1, v2, rfl, h⟩ := h
  dsimp only [cxOf, L2.start]
  obtain ⟨kd, u, m, rfl, rfl, rfl, u0, u1, m0, m1, k⟩ := h
  walk_at "s"
  refine cutS (fun σ' H' => σ' = [some (.str kd), some (.int u), some (.int m)] ∧ H' = H) (fun nx hn => ?_) ?_
  · have go := hn [some (.str kd), some (.int u), some (.int m)] H ⟨rfl, rfl⟩
    walk_at "s"
    refine if_ii (fun e => ?_) (fun e => ?_)
    · walk_at "s"
      refine if_nss (fun e1 => ?_) (fun e1 => ?_)
      · walk_at "s"
        refine if_nss (fun e2 => ?_) (fun e2 => ?_)
        · walk_at "s"
          intro b hb
          have O1 := (Own.start (H := H)).new (o := .lst [.int (u / 13 % 16), .int (u / 13 % 512)]) hb
          have hat : ∃ v : Int, atI [V.int (u / 13 % 16), .int (u / 13 % 512)] (u / 208 % 2) = some (.int v) ∧ 0 ≤ v ∧ v < 512 := by
            have h2 : u / 208 % 2 = 0 ∨ u / 208 % 2 = 1 := by omega
            rcases h2 with e | e
            · exact ⟨_, by rw [e]; exact atI_nat (j := 0) rfl, by omega, by omega⟩
            · exact ⟨_, by rw [e]; exact atI_nat (j := 1) rfl, by omega, by omega⟩
          obtain ⟨v, hat, v0, v1⟩ := hat
          have hlog := log_small v0 (by omega)
          generalize upd H b _ = H1 at O1 ⊢
          have hb1 : SqL K H1 b _ := SqL.of (O1.get (.head _))
          have D := dgO (n := v.toNat) (by omega)
          have hsl := SX.S_len (dg v.toNat)
          have hd3 := D.hi
          have hfit : ("@" : Str).length + (S (dg v.toNat)).length ≤ sizeLine := sz_le (by rw [hsl, show ("@" : Str).length = 1 by decide +kernel]; omega)
          rw [← str_dg v0] at hfit
          walk_at "s"
          rw [str_dg v0, show ("@" : Str) = S [64] by decide +kernel, SX.S_cat]
          exact k _ _ (O1.drop (List.nil_sublist _)) (arO_at (by omega))
        · walk_at "s"
          exact go
      · walk_at "s"
        exact go
    · walk_at "s"
      exact go
  rintro σ' H' ⟨rfl, rfl⟩
  walk_at "s"
  refine if_ii (fun e => ?_) (fun e => ?_)
  · obtain ⟨z, hz, za⟩ := pick_ar (u := u / 13 % 10) (by omega) (by show _ < (10 : Int); omega) ar_mixed
    walk_at "s"
    intro b hb
    have O1 := (Own.start (H := H')).new (o := .lst ((["5", "-", "on", "x", "@511", "/a", "off", "300", "999", "0"] : List Str).map V.str)) hb
    have hb1 : SqL K _ b _ := SqL.of (O1.get (.head _))
    walk_at "s"
    exact k z _ (O1.drop (List.nil_sublist _)) za
  walk_at "s"
  refine if_ss (fun e => ?_) (fun e => ?_)
  · obtain ⟨z, hz, za⟩ := pick_ar (xs := ["/a", "/b", "/d", "/d/a", "/d/b", "/", "/e/a", "/A"]) (u := u % 8) (by omega) (by show _ < (8 : Int); omega) (ar_lits (by decide +kernel))
    walk_at "s"
    intro b hb
    have O1 := (Own.start (H := H')).new (o := .lst ((["/a", "/b", "/d", "/d/a", "/d/b", "/", "/e/a", "/A"] : List Str).map V.str)) hb
    have hb1 : SqL K _ b _ := SqL.of (O1.get (.head _))
    walk_at "s"
    exact k z _ (O1.drop (List.nil_sublist _)) za
  walk_at "s"
  refine if_ss (fun e => ?_) (fun e => ?_)
  · obtain ⟨z, hz, za⟩ := pick_ar (xs := ["rw", "r", "w", "rw", "x"]) (u := u % 5) (by omega) (by show _ < (5 : Int); omega) (ar_lits (by decide +kernel))
    walk_at "s"
    intro b hb
    have O1 := (Own.start (H := H')).new (o := .lst ((["rw", "r", "w", "rw", "x"] : List Str).map V.str)) hb
    have hb1 : SqL K _ b _ := SqL.of (O1.get (.head _))
    walk_at "s"
    exact k z _ (O1.drop (List.nil_sublist _)) za
  walk_at "s"
  refine if_ss (fun e => ?_) (fun e => ?_)
  · walk_at "s"
    refine ask1 ⟨u, rfl, u0, by omega, fun n H1 O1 hn => ?_⟩
    exact k _ _ O1 (arO_dg (by omega))
  walk_at "s"
  refine if_ss (fun e => ?_) (fun e => ?_)
  · have hm : 0 < m := by omega
    have hv0 : 0 ≤ u / 3 % m := Int.emod_nonneg _ (by omega)
    have hv1 : u / 3 % m < m := Int.emod_lt_of_pos _ hm
    have hlog := log_small hv0 (by omega)
    have hat : ∃ z, atI [V.str "-", .str (toString (u / 3 % m)), .str (toString (u / 3 % m))] (u % 3) = some (.str (S z)) ∧ ArO z := by
      have h3 : u % 3 = 0 ∨ u % 3 = 1 ∨ u % 3 = 2 := by omega
      rw [str_dg hv0]
      rcases h3 with e | e | e
      · exact ⟨wT "-", by rw [e]; exact atI_nat (j := 0) rfl, arO_lit (by decide +kernel)⟩
      · exact ⟨_, by rw [e]; exact atI_nat (j := 1) rfl, arO_dg (by omega)⟩
      · exact ⟨_, by rw [e]; exact atI_nat (j := 2) rfl, arO_dg (by omega)⟩
    obtain ⟨z, hat, za⟩ := hat
    walk_at "s"
    intro b hb
    have O1 := (Own.start (H := H')).new (o := .lst [V.str "-", .str (toString (u / 3 % m)), .str (toString (u / 3 % m))]) hb
    have hb1 : SqL K _ b _ := SqL.of (O1.get (.head _))
    walk_at "s"
    exact k z _ (O1.drop (List.nil_sublist _)) za
  walk_at "s"
  refine if_ss (fun e => ?_) (fun e => ?_)
  · obtain ⟨z, hz, za⟩ := pick_ar (xs := ["on", "off"]) (u := u % 2) (by omega) (by show _ < (2 : Int); omega) (ar_lits (by decide +kernel))
    walk_at "s"
    intro b hb
    have O1 := (Own.start (H := H')).new (o := .lst ((["on", "off"] : List Str).map V.str)) hb
    have hb1 : SqL K _ b _ := SqL.of (O1.get (.head _))
    walk_at "s"
    exact k z _ (O1.drop (List.nil_sublist _)) za
  walk_at "s"
  refine if_ss (fun e => ?_) (fun e => ?_)
  · have hlog := log_small (show 0 ≤ u % 9 by omega) (by omega)
    walk_at "s"
    rw [str_dg (by omega)]
    exact k _ _ Own.start (arO_dg (by omega))
  walk_at "s"
  refine if_ss (fun e => ?_) (fun e => ?_)
  · have hlog := log_small (show 0 ≤ 1 + u % 4 by omega) (by omega)
    walk_at "s"
    rw [str_dg (by omega)]
    exact k _ _ Own.start (arO_dg (by omega))
  walk_at "s"
  refine if_ss (fun e => ?_) (fun e => ?_)
  · have hat : ∃ v : Int, atI [V.int (u % 4), .int (u % 3), .int (u % 70)] (u % 3) = some (.int v) ∧ 0 ≤ v ∧ v < 512 := by
      have h3 : u % 3 = 0 ∨ u % 3 = 1 ∨ u % 3 = 2 := by omega
      rcases h3 with e | e | e
      · exact ⟨_, by rw [e]; exact atI_nat (j := 0) rfl, by omega, by omega⟩
      · exact ⟨_, by rw [e]; exact atI_nat (j := 1) rfl, by omega, by omega⟩
      · exact ⟨_, by rw [e]; exact atI_nat (j := 2) rfl, by omega, by omega⟩
    obtain ⟨v, hat, v0, v1⟩ := hat
    have hlog := log_small v0 (by omega)
    walk_at "s"
    intro b hb
    have O1 := (Own.start (H := H')).new (o := .lst [.int (u % 4), .int (u % 3), .int (u % 70)]) hb
    have hb1 : SqL K _ b _ := SqL.of (O1.get (.head _))
    walk_at "s"
    rw [str_dg v0]
    exact k _ _ (O1.drop (List.nil_sublist _)) (arO_dg (by omega))
  have hlog := log_small (show 0 ≤ u % 6 by omega) (by omega)
  walk_at "s"
  rw [str_dg (by omega)]
  exact k _ _ Own.start (arO_dg (by omega))

open SX (S)
/-! ## calls drawn -/
def menuL : List (List PySem.Str) := [["fork"], ["pipe"], ["wait"], ["read", "handle", "address", "small"], ["write", "handle", "address", "small"], ["signal", "task", "signal"], ["handle", "signal", "place"], ["map", "page", "small"], ["who"], ["make", "path"], ["open", "path", "mode"], ["close", "handle"], ["end", "small"], ["time"], ["drop", "page", "small"], ["mask", "signal", "flag"], ["due"], ["alarm", "small"], ["dir", "path"], ["same", "handle"], ["give", "handle", "task"], ["seek", "handle", "small"], ["unlink", "path"], ["link", "path", "path"], ["move", "path", "path"], ["undir", "path"], ["names", "path"], ["stat", "path"], ["read", "handle", "address", "small"], ["write", "handle", "address", "small"], ["signal", "task", "signal"], ["handle", "signal", "place"]]
def MenuAt (H : Hp) : List Addr → List (List PySem.Str) → Prop
  | a :: as, r :: rs => H a = some (.lst (r.map V.str)) ∧ MenuAt H as rs
  | [], [] => True
  | _, _ => False
theorem MenuAt.get {H : Hp} : ∀ {as : List Addr} {rs : List (List PySem.Str)} {i : Nat} {a : Addr}, MenuAt H as rs → as[i]? = some a → ∃ r, rs[i]? = some r ∧ H a = some (.lst (r.map V.str))
  | _ :: _, r :: _, 0, _, h, e => by cases e; exact ⟨r, rfl, h.1⟩
  | _ :: _, _ :: _, i + 1, _, h, e => MenuAt.get (i := i) h.2 e
  | [], _, _, _, _, e => by cases e
  | _ :: _, [], _, _, h, _ => h.elim
theorem str_get {ks : List PySem.Str} {i : Nat} {x : V} (h : (ks.map V.str)[i]? = some x) : ∃ kd, ks[i]? = some kd ∧ x = .str kd := by
  rw [List.getElem?_map] at h
  cases e : ks[i]? with
  | none => rw [e] at h; cases h
  | some n => rw [e] at h; exact ⟨n, rfl, (Option.some.inj h).symm⟩
theorem set_to (a b : List Nat) (as0 : List (List Nat)) (y : List Nat) : (SV (a :: b :: (as0 ++ [y]))).set ((as0 ++ [y]).length + 1) (.str "to") = SV (a :: b :: (as0 ++ [wT "to"])) := by
  have e : V.str "to" = V.str (S (wT "to")) := by rw [SX.S_tl]
  rw [e, List.length_append, List.length_singleton]
  show _ :: _ :: (List.set (List.map _ (as0 ++ [y])) as0.length _) = _ :: _ :: List.map _ (as0 ++ [wT "to"])
  rw [List.map_append, List.map_append, List.set_append_right _ _ (by rw [List.length_map]; exact Nat.le_refl _)]
  simp
theorem ix_last2 (a b : List Nat) (as : List (List Nat)) : ixN (SV (a :: b :: as)).length (-1) = some (as.length + 1) := by
  unfold ixN
  rw [show (SV (a :: b :: as)).length = as.length + 2 from List.length_map .., if_neg (by decide), if_pos (by omega)]
  exact congrArg some (by omega)
theorem menu_at {i : Nat} {r : List PySem.Str} (h : menuL[i]? = some r) : ∃ m ks, r = m :: ks ∧ (m, ks.length) ∈ argT ∧ ks.length ≤ 3 ∧ m ≠ "to" ∧ m ≠ "path" ∧ litC (wT m) = true := by
  have hall : menuL.all (fun r => match r with
    | [] => false
    | m :: ks => decide ((m, ks.length) ∈ argT) && (decide (ks.length ≤ 3) && (decide (m ≠ "to") && (decide (m ≠ "path") && litC (wT m))))) = true := by decide +kernel
  have h2 := List.all_eq_true.mp hall r (List.mem_of_getElem? h)
  cases r with
  | nil => cases h2
  | cons m ks =>
    simp only [Bool.and_eq_true, decide_eq_true_eq] at h2
    exact ⟨m, ks, rfl, h2⟩
/-- words of a row of the law's making -/
def WsO (ws : List (List Nat)) : Prop := ws.length ≤ 7 ∧ ∀ w ∈ ws, WdO w
def sp__law_call_by (K : PySem.W.Frag) : Sp := sp2 fun x y H Q _ => ∃ u m : Int, x = .int u ∧ y = .int m ∧ 0 ≤ u ∧ u < 10 ^ 12 ∧ 2 ≤ m ∧ m ≤ 42 ∧ ∀ H' b ws, Own H H' [] [(b, .lst (SV ws))] → StepW ws → WsO ws → Q (.ref b) H'
theorem sc__law_call_by : FnScope ["_law_number", "_law_many", "_law_menu", "_law_call", "_law_left", "_law_words", "_law_kind"] ["_law_number", "_law_many"] (defScope s__law_call_by) := ⟨rfl, rfl, rfl, by decide +kernel, rfl, by decide +kernel, by decide +kernel⟩
theorem ok__law_call_by {P : Program} {w : World} {K : PySem.W.Frag} {mg : Str → Option Value} {base : Heap} (T : Txt w K mg) : Cee P w K mg base 3 (He.fAd K ("_law_call_by", none)) ["_law_number", "_law_many"] (sp__law_call_by K) := by
  have c__law_argument : Cee P w K mg base 2 (He.fAd K ("_law_argument", none)) ["_law_kind", "_law_number", "_law_many"] (sp__law_argument K) := ok__law_argument T
  have c__law_address : Cee P w K mg base 1 (He.fAd K ("_law_address", none)) ["_law_number"] (sp__law_address K) := ok__law_address T
  refine cee_of T.d__law_call_by sc__law_call_by (fun _ _ _ _ _ _ us hl => match us, hl with | [_, _], _ => rfl) (fun vs H Q E h => sp2_len h) (fun cdv A outer s H vs Q E hr h => ⟨_, (pss_cons (ps_set (i := 2) sc__law_call_by.nd rfl (Or.inl rfl) (pe_lst (pa_cons (pe_lst (pa_cons pe_str pa_nil)) (pa_cons (pe_lst (pa_cons pe_str pa_nil)) (pa_cons (pe_lst (pa_cons pe_str pa_nil)) (pa_cons (pe_lst (pa_cons pe_str (pa_cons pe_str (pa_cons pe_str (pa_cons pe_str pa_nil))))) pa_nil)))))) (pss_cons (ps_set (i := 2) sc__law_call_by.nd rfl (Or.inl rfl) (pe_op op_cat (pv 2) (pe_lst (pa_cons (pe_lst (pa_cons pe_str (pa_cons pe_str (pa_cons pe_str (pa_cons pe_str pa_nil))))) pa_nil)))) (pss_cons (ps_set (i := 2) sc__law_call_by.nd rfl (Or.inl rfl) (pe_op op_cat (pv 2) (pe_lst (pa_cons (pe_lst (pa_cons pe_str (pa_cons pe_str (pa_cons pe_str pa_nil)))) (pa_cons (pe_lst (pa_cons pe_str (pa_cons pe_str (pa_cons pe_str pa_nil)))) (pa_cons (pe_lst (pa_cons pe_str (pa_cons pe_str (pa_cons pe_str pa_nil)))) (pa_cons (pe_lst (pa_cons pe_str pa_nil)) pa_nil))))))) (pss_cons (ps_set (i := 2) sc__law_call_by.nd rfl (Or.inl rfl) (pe_op op_cat (pv 2) (pe_lst (pa_cons (pe_lst (pa_cons pe_str (pa_cons pe_str pa_nil))) (pa_cons (pe_lst (pa_cons pe_str (pa_cons pe_str (pa_cons pe_str pa_nil)))) (pa_cons (pe_lst (pa_cons pe_str (pa_cons pe_str pa_nil))) (pa_cons (pe_lst (pa_cons pe_str (pa_cons pe_str pa_nil))) (pa_cons (pe_lst (pa_cons pe_str pa_nil)) pa_nil)))))))) (pss_cons (ps_set (i := 2) sc__law_call_by.nd rfl (Or.inl rfl) (pe_op op_cat (pv 2) (pe_lst (pa_cons (pe_lst (pa_cons pe_str (pa_cons pe_str (pa_cons pe_str pa_nil)))) (pa_cons (pe_lst (pa_cons pe_str (pa_cons pe_str (pa_cons pe_str pa_nil)))) (pa_cons (pe_lst (pa_cons pe_str pa_nil)) (pa_cons (pe_lst (pa_cons pe_str (pa_cons pe_str pa_nil))) (pa_cons (pe_lst (pa_cons pe_str (pa_cons pe_str pa_nil))) pa_nil)))))))) (pss_cons (ps_set (i := 2) sc__law_call_by.nd rfl (Or.inl rfl) (pe_op op_cat (pv 2) (pe_lst (pa_cons (pe_lst (pa_cons pe_str (pa_cons pe_str pa_nil))) (pa_cons (pe_lst (pa_cons pe_str (pa_cons pe_str (pa_cons pe_str pa_nil)))) (pa_cons (pe_lst (pa_cons pe_str (pa_cons pe_str (pa_cons pe_str pa_nil)))) (pa_cons (pe_lst (pa_cons pe_str (pa_cons pe_str pa_nil))) pa_nil))))))) (pss_cons (ps_set (i := 2) sc__law_call_by.nd rfl (Or.inl rfl) (pe_op op_cat (pv 2) (pe_lst (pa_cons (pe_lst (pa_cons pe_str (pa_cons pe_str (pa_cons pe_str pa_nil)))) (pa_cons (pe_lst (pa_cons pe_str (pa_cons pe_str (pa_cons pe_str pa_nil)))) (pa_cons (pe_lst (pa_cons pe_str (pa_cons pe_str pa_nil))) (pa_cons (pe_lst (pa_cons pe_str (pa_cons pe_str pa_nil))) pa_nil))))))) (pss_cons (ps_set (i := 2) sc__law_call_by.nd rfl (Or.inl rfl) (pe_op op_cat (pv 2) (pe_lst (pa_cons (pe_lst (pa_cons pe_str (pa_cons pe_str pa_nil))) (pa_cons (pe_lst (pa_cons pe_str (pa_cons pe_str (pa_cons pe_str (pa_cons pe_str pa_nil))))) (pa_cons (pe_lst (pa_cons pe_str (pa_cons pe_str (pa_cons pe_str (pa_cons pe_str pa_nil))))) pa_nil)))))) (pss_cons (ps_set (i := 2) sc__law_call_by.nd rfl (Or.inl rfl) (pe_op op_cat (pv 2) (pe_lst (pa_cons (pe_lst (pa_cons pe_str (pa_cons pe_str (pa_cons pe_str pa_nil)))) (pa_cons (pe_lst (pa_cons pe_str (pa_cons pe_str (pa_cons pe_str pa_nil)))) pa_nil))))) (pss_cons (ps_set (i := 3) sc__law_call_by.nd rfl (Or.inl rfl) (pe_ix ix_list (pv 2) (pe_op op_mod (pv 0) (pe_callB call_len_seq (by rfl) T.n_len (by decide +kernel) (pa_cons (pv 2) pa_nil))) (fun _ _ => rfl))) (pss_cons (ps_set (i := 4) sc__law_call_by.nd rfl (Or.inl rfl) (pe_op op_fdiv (pv 0) (pe_callB call_len_seq (by rfl) T.n_len (by decide +kernel) (pa_cons (pv 2) pa_nil)))) (pss_cons (ps_set (i := 5) sc__law_call_by.nd rfl (Or.inl rfl) (pe_lst (pa_cons pe_str (pa_cons (pe_ix ix_list (pv 3) pe_int (fun _ _ => rfl)) pa_nil)))) (pss_cons (ps_for (passes_of rfl) rfl (PI.box (pi_list (pe_slice sl_list (pv 3) (po_some pe_int) po_none))) (pg_name (i := 6) sc__law_call_by.nd rfl (Or.inl rfl)) (pss_cons (ps_expr (pe_bm PySem.F.plainAttrs_list PySem.F.slot_list_append PySem.F.type_list_append mt_append (pv 5) (pa_cons (pe_f c__law_argument (hr.mono (by decide)) (takes_of rfl rfl rfl rfl) (by rfl) T.g__law_argument (pa_cons (pv 6) (pa_cons (pe_op op_mod (pv 4) pe_int) (pa_cons (pv 1) pa_nil)))) pa_nil))) (pss_one (ps_set (i := 4) sc__law_call_by.nd rfl (Or.inl rfl) (pe_op op_fdiv (pv 4) pe_int))))) (pss_cons (PS.box (ps_if (PW.pt (pw_and (pt_cmpR op_eq (pe_ix ix_list (pv 3) (pe_un un_neg pe_int) (fun _ _ => rfl)) pe_str (nomark _)) (pw_and1 (pt_cmpR op_eq (pe_op op_mod (pe_op op_fdiv (pv 4) pe_int) pe_int) pe_int (nomark _))))) (pss_one (ps_asg pe_str (pg_sub (pv 5) (pe_un un_neg pe_int) set_list))) pss_nil)) (pss_cons (PS.box (ps_if (pt_cmpR op_gt (pe_op op_mod (pv 4) pe_int) pe_int (nomark _)) (pss_one (ps_set (i := 5) sc__law_call_by.nd rfl (Or.inl rfl) (pe_op op_cat (pv 5) (pe_lst (pa_cons pe_str (pa_cons (pe_f c__law_address (hr.mono (by decide)) (takes_of rfl rfl rfl rfl) (by rfl) T.g__law_address (pa_cons (pe_op op_fdiv (pv 4) pe_int) pa_nil)) pa_nil)))))) pss_nil)) (pss_one (ps_ret (pv 5)))))))))))))))))), ?_⟩)
  obtain ⟨v0, v1, rfl, h⟩ := h
  dsimp only [cxOf, L2.start]
  obtain ⟨u, m, rfl, rfl, u0, u1, m0, m1, k⟩ := h
  walk_at "s"
  intro b1 hb1
  have O1 := (Own.start (H := H)).new (o := .lst [V.str "fork"]) hb1
  generalize upd _ b1 _ = H1 at O1 ⊢
  walk_at "s"
  intro b2 hb2
  have O2 := O1.new (o := .lst [V.str "pipe"]) hb2
  clear O1
  generalize upd _ b2 _ = H2 at O2 ⊢
  walk_at "s"
  intro b3 hb3
  have O3 := O2.new (o := .lst [V.str "wait"]) hb3
  clear O2
  generalize upd _ b3 _ = H3 at O3 ⊢
  walk_at "s"
  intro b4 hb4
  have O4 := O3.new (o := .lst [V.str "read", V.str "handle", V.str "address", V.str "small"]) hb4
  clear O3
  generalize upd _ b4 _ = H4 at O4 ⊢
  walk_at "s"
  intro b5 hb5
  have O5 := O4.new (o := .lst [V.ref b1, V.ref b2, V.ref b3, V.ref b4]) hb5
  clear O4
  generalize upd _ b5 _ = H5 at O5 ⊢
  walk_at "s"
  intro b6 hb6
  have O6 := O5.new (o := .lst [V.str "write", V.str "handle", V.str "address", V.str "small"]) hb6
  clear O5
  generalize upd _ b6 _ = H6 at O6 ⊢
  walk_at "s"
  intro b7 hb7
  have O7 := O6.new (o := .lst [V.ref b6]) hb7
  clear O6
  generalize upd _ b7 _ = H7 at O7 ⊢
  have hm7 : SqL K H7 b5 [V.ref b1, V.ref b2, V.ref b3, V.ref b4] := SqL.of (O7.get (.tail _ (.tail _ (.head _))))
  have hn7 : SqL K H7 b7 [V.ref b6] := SqL.of (O7.get (.head _))
  walk_at "s"
  intro b8 hb8
  have O8 := O7.new (o := .lst ([V.ref b1, V.ref b2, V.ref b3, V.ref b4] ++ [V.ref b6])) hb8
  clear O7
  generalize upd _ b8 _ = H8 at O8 ⊢
  walk_at "s"
  intro b9 hb9
  have O9 := O8.new (o := .lst [V.str "signal", V.str "task", V.str "signal"]) hb9
  clear O8
  generalize upd _ b9 _ = H9 at O9 ⊢
  walk_at "s"
  intro b10 hb10
  have O10 := O9.new (o := .lst [V.str "handle", V.str "signal", V.str "place"]) hb10
  clear O9
  generalize upd _ b10 _ = H10 at O10 ⊢
  walk_at "s"
  intro b11 hb11
  have O11 := O10.new (o := .lst [V.str "map", V.str "page", V.str "small"]) hb11
  clear O10
  generalize upd _ b11 _ = H11 at O11 ⊢
  walk_at "s"
  intro b12 hb12
  have O12 := O11.new (o := .lst [V.str "who"]) hb12
  clear O11
  generalize upd _ b12 _ = H12 at O12 ⊢
  walk_at "s"
  intro b13 hb13
  have O13 := O12.new (o := .lst [V.ref b9, V.ref b10, V.ref b11, V.ref b12]) hb13
  clear O12
  generalize upd _ b13 _ = H13 at O13 ⊢
  have hm13 : SqL K H13 b8 ([V.ref b1, V.ref b2, V.ref b3, V.ref b4] ++ [V.ref b6]) := SqL.of (O13.get (.tail _ (.tail _ (.tail _ (.tail _ (.tail _ (.head _)))))))
  have hn13 : SqL K H13 b13 [V.ref b9, V.ref b10, V.ref b11, V.ref b12] := SqL.of (O13.get (.head _))
  walk_at "s"
  intro b14 hb14
  have O14 := O13.new (o := .lst (([V.ref b1, V.ref b2, V.ref b3, V.ref b4] ++ [V.ref b6]) ++ [V.ref b9, V.ref b10, V.ref b11, V.ref b12])) hb14
  clear O13
  generalize upd _ b14 _ = H14 at O14 ⊢
  walk_at "s"
  intro b15 hb15
  have O15 := O14.new (o := .lst [V.str "make", V.str "path"]) hb15
  clear O14
  generalize upd _ b15 _ = H15 at O15 ⊢
  walk_at "s"
  intro b16 hb16
  have O16 := O15.new (o := .lst [V.str "open", V.str "path", V.str "mode"]) hb16
  clear O15
  generalize upd _ b16 _ = H16 at O16 ⊢
  walk_at "s"
  intro b17 hb17
  have O17 := O16.new (o := .lst [V.str "close", V.str "handle"]) hb17
  clear O16
  generalize upd _ b17 _ = H17 at O17 ⊢
  walk_at "s"
  intro b18 hb18
  have O18 := O17.new (o := .lst [V.str "end", V.str "small"]) hb18
  clear O17
  generalize upd _ b18 _ = H18 at O18 ⊢
  walk_at "s"
  intro b19 hb19
  have O19 := O18.new (o := .lst [V.str "time"]) hb19
  clear O18
  generalize upd _ b19 _ = H19 at O19 ⊢
  walk_at "s"
  intro b20 hb20
  have O20 := O19.new (o := .lst [V.ref b15, V.ref b16, V.ref b17, V.ref b18, V.ref b19]) hb20
  clear O19
  generalize upd _ b20 _ = H20 at O20 ⊢
  have hm20 : SqL K H20 b14 (([V.ref b1, V.ref b2, V.ref b3, V.ref b4] ++ [V.ref b6]) ++ [V.ref b9, V.ref b10, V.ref b11, V.ref b12]) := SqL.of (O20.get (.tail _ (.tail _ (.tail _ (.tail _ (.tail _ (.tail _ (.head _))))))))
  have hn20 : SqL K H20 b20 [V.ref b15, V.ref b16, V.ref b17, V.ref b18, V.ref b19] := SqL.of (O20.get (.head _))
  walk_at "s"
  intro b21 hb21
  have O21 := O20.new (o := .lst ((([V.ref b1, V.ref b2, V.ref b3, V.ref b4] ++ [V.ref b6]) ++ [V.ref b9, V.ref b10, V.ref b11, V.ref b12]) ++ [V.ref b15, V.ref b16, V.ref b17, V.ref b18, V.ref b19])) hb21
  clear O20
  generalize upd _ b21 _ = H21 at O21 ⊢
  walk_at "s"
  intro b22 hb22
  have O22 := O21.new (o := .lst [V.str "drop", V.str "page", V.str "small"]) hb22
  clear O21
  generalize upd _ b22 _ = H22 at O22 ⊢
  walk_at "s"
  intro b23 hb23
  have O23 := O22.new (o := .lst [V.str "mask", V.str "signal", V.str "flag"]) hb23
  clear O22
  generalize upd _ b23 _ = H23 at O23 ⊢
  walk_at "s"
  intro b24 hb24
  have O24 := O23.new (o := .lst [V.str "due"]) hb24
  clear O23
  generalize upd _ b24 _ = H24 at O24 ⊢
  walk_at "s"
  intro b25 hb25
  have O25 := O24.new (o := .lst [V.str "alarm", V.str "small"]) hb25
  clear O24
  generalize upd _ b25 _ = H25 at O25 ⊢
  walk_at "s"
  intro b26 hb26
  have O26 := O25.new (o := .lst [V.str "dir", V.str "path"]) hb26
  clear O25
  generalize upd _ b26 _ = H26 at O26 ⊢
  walk_at "s"
  intro b27 hb27
  have O27 := O26.new (o := .lst [V.ref b22, V.ref b23, V.ref b24, V.ref b25, V.ref b26]) hb27
  clear O26
  generalize upd _ b27 _ = H27 at O27 ⊢
  have hm27 : SqL K H27 b21 ((([V.ref b1, V.ref b2, V.ref b3, V.ref b4] ++ [V.ref b6]) ++ [V.ref b9, V.ref b10, V.ref b11, V.ref b12]) ++ [V.ref b15, V.ref b16, V.ref b17, V.ref b18, V.ref b19]) := SqL.of (O27.get (.tail _ (.tail _ (.tail _ (.tail _ (.tail _ (.tail _ (.head _))))))))
  have hn27 : SqL K H27 b27 [V.ref b22, V.ref b23, V.ref b24, V.ref b25, V.ref b26] := SqL.of (O27.get (.head _))
  walk_at "s"
  intro b28 hb28
  have O28 := O27.new (o := .lst (((([V.ref b1, V.ref b2, V.ref b3, V.ref b4] ++ [V.ref b6]) ++ [V.ref b9, V.ref b10, V.ref b11, V.ref b12]) ++ [V.ref b15, V.ref b16, V.ref b17, V.ref b18, V.ref b19]) ++ [V.ref b22, V.ref b23, V.ref b24, V.ref b25, V.ref b26])) hb28
  clear O27
  generalize upd _ b28 _ = H28 at O28 ⊢
  walk_at "s"
  intro b29 hb29
  have O29 := O28.new (o := .lst [V.str "same", V.str "handle"]) hb29
  clear O28
  generalize upd _ b29 _ = H29 at O29 ⊢
  walk_at "s"
  intro b30 hb30
  have O30 := O29.new (o := .lst [V.str "give", V.str "handle", V.str "task"]) hb30
  clear O29
  generalize upd _ b30 _ = H30 at O30 ⊢
  walk_at "s"
  intro b31 hb31
  have O31 := O30.new (o := .lst [V.str "seek", V.str "handle", V.str "small"]) hb31
  clear O30
  generalize upd _ b31 _ = H31 at O31 ⊢
  walk_at "s"
  intro b32 hb32
  have O32 := O31.new (o := .lst [V.str "unlink", V.str "path"]) hb32
  clear O31
  generalize upd _ b32 _ = H32 at O32 ⊢
  walk_at "s"
  intro b33 hb33
  have O33 := O32.new (o := .lst [V.ref b29, V.ref b30, V.ref b31, V.ref b32]) hb33
  clear O32
  generalize upd _ b33 _ = H33 at O33 ⊢
  have hm33 : SqL K H33 b28 (((([V.ref b1, V.ref b2, V.ref b3, V.ref b4] ++ [V.ref b6]) ++ [V.ref b9, V.ref b10, V.ref b11, V.ref b12]) ++ [V.ref b15, V.ref b16, V.ref b17, V.ref b18, V.ref b19]) ++ [V.ref b22, V.ref b23, V.ref b24, V.ref b25, V.ref b26]) := SqL.of (O33.get (.tail _ (.tail _ (.tail _ (.tail _ (.tail _ (.head _)))))))
  have hn33 : SqL K H33 b33 [V.ref b29, V.ref b30, V.ref b31, V.ref b32] := SqL.of (O33.get (.head _))
  walk_at "s"
  intro b34 hb34
  have O34 := O33.new (o := .lst ((((([V.ref b1, V.ref b2, V.ref b3, V.ref b4] ++ [V.ref b6]) ++ [V.ref b9, V.ref b10, V.ref b11, V.ref b12]) ++ [V.ref b15, V.ref b16, V.ref b17, V.ref b18, V.ref b19]) ++ [V.ref b22, V.ref b23, V.ref b24, V.ref b25, V.ref b26]) ++ [V.ref b29, V.ref b30, V.ref b31, V.ref b32])) hb34
  clear O33
  generalize upd _ b34 _ = H34 at O34 ⊢
  walk_at "s"
  intro b35 hb35
  have O35 := O34.new (o := .lst [V.str "link", V.str "path", V.str "path"]) hb35
  clear O34
  generalize upd _ b35 _ = H35 at O35 ⊢
  walk_at "s"
  intro b36 hb36
  have O36 := O35.new (o := .lst [V.str "move", V.str "path", V.str "path"]) hb36
  clear O35
  generalize upd _ b36 _ = H36 at O36 ⊢
  walk_at "s"
  intro b37 hb37
  have O37 := O36.new (o := .lst [V.str "undir", V.str "path"]) hb37
  clear O36
  generalize upd _ b37 _ = H37 at O37 ⊢
  walk_at "s"
  intro b38 hb38
  have O38 := O37.new (o := .lst [V.str "names", V.str "path"]) hb38
  clear O37
  generalize upd _ b38 _ = H38 at O38 ⊢
  walk_at "s"
  intro b39 hb39
  have O39 := O38.new (o := .lst [V.ref b35, V.ref b36, V.ref b37, V.ref b38]) hb39
  clear O38
  generalize upd _ b39 _ = H39 at O39 ⊢
  have hm39 : SqL K H39 b34 ((((([V.ref b1, V.ref b2, V.ref b3, V.ref b4] ++ [V.ref b6]) ++ [V.ref b9, V.ref b10, V.ref b11, V.ref b12]) ++ [V.ref b15, V.ref b16, V.ref b17, V.ref b18, V.ref b19]) ++ [V.ref b22, V.ref b23, V.ref b24, V.ref b25, V.ref b26]) ++ [V.ref b29, V.ref b30, V.ref b31, V.ref b32]) := SqL.of (O39.get (.tail _ (.tail _ (.tail _ (.tail _ (.tail _ (.head _)))))))
  have hn39 : SqL K H39 b39 [V.ref b35, V.ref b36, V.ref b37, V.ref b38] := SqL.of (O39.get (.head _))
  walk_at "s"
  intro b40 hb40
  have O40 := O39.new (o := .lst (((((([V.ref b1, V.ref b2, V.ref b3, V.ref b4] ++ [V.ref b6]) ++ [V.ref b9, V.ref b10, V.ref b11, V.ref b12]) ++ [V.ref b15, V.ref b16, V.ref b17, V.ref b18, V.ref b19]) ++ [V.ref b22, V.ref b23, V.ref b24, V.ref b25, V.ref b26]) ++ [V.ref b29, V.ref b30, V.ref b31, V.ref b32]) ++ [V.ref b35, V.ref b36, V.ref b37, V.ref b38])) hb40
  clear O39
  generalize upd _ b40 _ = H40 at O40 ⊢
  walk_at "s"
  intro b41 hb41
  have O41 := O40.new (o := .lst [V.str "stat", V.str "path"]) hb41
  clear O40
  generalize upd _ b41 _ = H41 at O41 ⊢
  walk_at "s"
  intro b42 hb42
  have O42 := O41.new (o := .lst [V.str "read", V.str "handle", V.str "address", V.str "small"]) hb42
  clear O41
  generalize upd _ b42 _ = H42 at O42 ⊢
  walk_at "s"
  intro b43 hb43
  have O43 := O42.new (o := .lst [V.str "write", V.str "handle", V.str "address", V.str "small"]) hb43
  clear O42
  generalize upd _ b43 _ = H43 at O43 ⊢
  walk_at "s"
  intro b44 hb44
  have O44 := O43.new (o := .lst [V.ref b41, V.ref b42, V.ref b43]) hb44
  clear O43
  generalize upd _ b44 _ = H44 at O44 ⊢
  have hm44 : SqL K H44 b40 (((((([V.ref b1, V.ref b2, V.ref b3, V.ref b4] ++ [V.ref b6]) ++ [V.ref b9, V.ref b10, V.ref b11, V.ref b12]) ++ [V.ref b15, V.ref b16, V.ref b17, V.ref b18, V.ref b19]) ++ [V.ref b22, V.ref b23, V.ref b24, V.ref b25, V.ref b26]) ++ [V.ref b29, V.ref b30, V.ref b31, V.ref b32]) ++ [V.ref b35, V.ref b36, V.ref b37, V.ref b38]) := SqL.of (O44.get (.tail _ (.tail _ (.tail _ (.tail _ (.head _))))))
  have hn44 : SqL K H44 b44 [V.ref b41, V.ref b42, V.ref b43] := SqL.of (O44.get (.head _))
  walk_at "s"
  intro b45 hb45
  have O45 := O44.new (o := .lst ((((((([V.ref b1, V.ref b2, V.ref b3, V.ref b4] ++ [V.ref b6]) ++ [V.ref b9, V.ref b10, V.ref b11, V.ref b12]) ++ [V.ref b15, V.ref b16, V.ref b17, V.ref b18, V.ref b19]) ++ [V.ref b22, V.ref b23, V.ref b24, V.ref b25, V.ref b26]) ++ [V.ref b29, V.ref b30, V.ref b31, V.ref b32]) ++ [V.ref b35, V.ref b36, V.ref b37, V.ref b38]) ++ [V.ref b41, V.ref b42, V.ref b43])) hb45
  clear O44
  generalize upd _ b45 _ = H45 at O45 ⊢
  walk_at "s"
  intro b46 hb46
  have O46 := O45.new (o := .lst [V.str "signal", V.str "task", V.str "signal"]) hb46
  clear O45
  generalize upd _ b46 _ = H46 at O46 ⊢
  walk_at "s"
  intro b47 hb47
  have O47 := O46.new (o := .lst [V.str "handle", V.str "signal", V.str "place"]) hb47
  clear O46
  generalize upd _ b47 _ = H47 at O47 ⊢
  walk_at "s"
  intro b48 hb48
  have O48 := O47.new (o := .lst [V.ref b46, V.ref b47]) hb48
  clear O47
  generalize upd _ b48 _ = H48 at O48 ⊢
  have hm48 : SqL K H48 b45 ((((((([V.ref b1, V.ref b2, V.ref b3, V.ref b4] ++ [V.ref b6]) ++ [V.ref b9, V.ref b10, V.ref b11, V.ref b12]) ++ [V.ref b15, V.ref b16, V.ref b17, V.ref b18, V.ref b19]) ++ [V.ref b22, V.ref b23, V.ref b24, V.ref b25, V.ref b26]) ++ [V.ref b29, V.ref b30, V.ref b31, V.ref b32]) ++ [V.ref b35, V.ref b36, V.ref b37, V.ref b38]) ++ [V.ref b41, V.ref b42, V.ref b43]) := SqL.of (O48.get (.tail _ (.tail _ (.tail _ (.head _)))))
  have hn48 : SqL K H48 b48 [V.ref b46, V.ref b47] := SqL.of (O48.get (.head _))
  walk_at "s"
  intro b49 hb49
  have O49 := O48.new (o := .lst (((((((([V.ref b1, V.ref b2, V.ref b3, V.ref b4] ++ [V.ref b6]) ++ [V.ref b9, V.ref b10, V.ref b11, V.ref b12]) ++ [V.ref b15, V.ref b16, V.ref b17, V.ref b18, V.ref b19]) ++ [V.ref b22, V.ref b23, V.ref b24, V.ref b25, V.ref b26]) ++ [V.ref b29, V.ref b30, V.ref b31, V.ref b32]) ++ [V.ref b35, V.ref b36, V.ref b37, V.ref b38]) ++ [V.ref b41, V.ref b42, V.ref b43]) ++ [V.ref b46, V.ref b47])) hb49
  clear O48
  generalize upd _ b49 _ = H49 at O49 ⊢
  have hmenu : SqL K H49 b49 ([b1, b2, b3, b4, b6, b9, b10, b11, b12, b15, b16, b17, b18, b19, b22, b23, b24, b25, b26, b29, b30, b31, b32, b35, b36, b37, b38, b41, b42, b43, b46, b47].map V.ref) := SqL.of (O49.get (.head _))
  have hrows : MenuAt H49 [b1, b2, b3, b4, b6, b9, b10, b11, b12, b15, b16, b17, b18, b19, b22, b23, b24, b25, b26, b29, b30, b31, b32, b35, b36, b37, b38, b41, b42, b43, b46, b47] menuL := ⟨O49.get (.tail _ (.tail _ (.tail _ (.tail _ (.tail _ (.tail _ (.tail _ (.tail _ (.tail _ (.tail _ (.tail _ (.tail _ (.tail _ (.tail _ (.tail _ (.tail _ (.tail _ (.tail _ (.tail _ (.tail _ (.tail _ (.tail _ (.tail _ (.tail _ (.tail _ (.tail _ (.tail _ (.tail _ (.tail _ (.tail _ (.tail _ (.tail _ (.tail _ (.tail _ (.tail _ (.tail _ (.tail _ (.tail _ (.tail _ (.tail _ (.tail _ (.tail _ (.tail _ (.tail _ (.tail _ (.tail _ (.tail _ (.tail _ (.head _))))))))))))))))))))))))))))))))))))))))))))))))), O49.get (.tail _ (.tail _ (.tail _ (.tail _ (.tail _ (.tail _ (.tail _ (.tail _ (.tail _ (.tail _ (.tail _ (.tail _ (.tail _ (.tail _ (.tail _ (.tail _ (.tail _ (.tail _ (.tail _ (.tail _ (.tail _ (.tail _ (.tail _ (.tail _ (.tail _ (.tail _ (.tail _ (.tail _ (.tail _ (.tail _ (.tail _ (.tail _ (.tail _ (.tail _ (.tail _ (.tail _ (.tail _ (.tail _ (.tail _ (.tail _ (.tail _ (.tail _ (.tail _ (.tail _ (.tail _ (.tail _ (.tail _ (.head _)))))))))))))))))))))))))))))))))))))))))))))))), O49.get (.tail _ (.tail _ (.tail _ (.tail _ (.tail _ (.tail _ (.tail _ (.tail _ (.tail _ (.tail _ (.tail _ (.tail _ (.tail _ (.tail _ (.tail _ (.tail _ (.tail _ (.tail _ (.tail _ (.tail _ (.tail _ (.tail _ (.tail _ (.tail _ (.tail _ (.tail _ (.tail _ (.tail _ (.tail _ (.tail _ (.tail _ (.tail _ (.tail _ (.tail _ (.tail _ (.tail _ (.tail _ (.tail _ (.tail _ (.tail _ (.tail _ (.tail _ (.tail _ (.tail _ (.tail _ (.tail _ (.head _))))))))))))))))))))))))))))))))))))))))))))))), O49.get (.tail _ (.tail _ (.tail _ (.tail _ (.tail _ (.tail _ (.tail _ (.tail _ (.tail _ (.tail _ (.tail _ (.tail _ (.tail _ (.tail _ (.tail _ (.tail _ (.tail _ (.tail _ (.tail _ (.tail _ (.tail _ (.tail _ (.tail _ (.tail _ (.tail _ (.tail _ (.tail _ (.tail _ (.tail _ (.tail _ (.tail _ (.tail _ (.tail _ (.tail _ (.tail _ (.tail _ (.tail _ (.tail _ (.tail _ (.tail _ (.tail _ (.tail _ (.tail _ (.tail _ (.tail _ (.head _)))))))))))))))))))))))))))))))))))))))))))))), O49.get (.tail _ (.tail _ (.tail _ (.tail _ (.tail _ (.tail _ (.tail _ (.tail _ (.tail _ (.tail _ (.tail _ (.tail _ (.tail _ (.tail _ (.tail _ (.tail _ (.tail _ (.tail _ (.tail _ (.tail _ (.tail _ (.tail _ (.tail _ (.tail _ (.tail _ (.tail _ (.tail _ (.tail _ (.tail _ (.tail _ (.tail _ (.tail _ (.tail _ (.tail _ (.tail _ (.tail _ (.tail _ (.tail _ (.tail _ (.tail _ (.tail _ (.tail _ (.tail _ (.head _)))))))))))))))))))))))))))))))))))))))))))), O49.get (.tail _ (.tail _ (.tail _ (.tail _ (.tail _ (.tail _ (.tail _ (.tail _ (.tail _ (.tail _ (.tail _ (.tail _ (.tail _ (.tail _ (.tail _ (.tail _ (.tail _ (.tail _ (.tail _ (.tail _ (.tail _ (.tail _ (.tail _ (.tail _ (.tail _ (.tail _ (.tail _ (.tail _ (.tail _ (.tail _ (.tail _ (.tail _ (.tail _ (.tail _ (.tail _ (.tail _ (.tail _ (.tail _ (.tail _ (.tail _ (.head _))))))))))))))))))))))))))))))))))))))))), O49.get (.tail _ (.tail _ (.tail _ (.tail _ (.tail _ (.tail _ (.tail _ (.tail _ (.tail _ (.tail _ (.tail _ (.tail _ (.tail _ (.tail _ (.tail _ (.tail _ (.tail _ (.tail _ (.tail _ (.tail _ (.tail _ (.tail _ (.tail _ (.tail _ (.tail _ (.tail _ (.tail _ (.tail _ (.tail _ (.tail _ (.tail _ (.tail _ (.tail _ (.tail _ (.tail _ (.tail _ (.tail _ (.tail _ (.tail _ (.head _)))))))))))))))))))))))))))))))))))))))), O49.get (.tail _ (.tail _ (.tail _ (.tail _ (.tail _ (.tail _ (.tail _ (.tail _ (.tail _ (.tail _ (.tail _ (.tail _ (.tail _ (.tail _ (.tail _ (.tail _ (.tail _ (.tail _ (.tail _ (.tail _ (.tail _ (.tail _ (.tail _ (.tail _ (.tail _ (.tail _ (.tail _ (.tail _ (.tail _ (.tail _ (.tail _ (.tail _ (.tail _ (.tail _ (.tail _ (.tail _ (.tail _ (.tail _ (.head _))))))))))))))))))))))))))))))))))))))), O49.get (.tail _ (.tail _ (.tail _ (.tail _ (.tail _ (.tail _ (.tail _ (.tail _ (.tail _ (.tail _ (.tail _ (.tail _ (.tail _ (.tail _ (.tail _ (.tail _ (.tail _ (.tail _ (.tail _ (.tail _ (.tail _ (.tail _ (.tail _ (.tail _ (.tail _ (.tail _ (.tail _ (.tail _ (.tail _ (.tail _ (.tail _ (.tail _ (.tail _ (.tail _ (.tail _ (.tail _ (.tail _ (.head _)))))))))))))))))))))))))))))))))))))), O49.get (.tail _ (.tail _ (.tail _ (.tail _ (.tail _ (.tail _ (.tail _ (.tail _ (.tail _ (.tail _ (.tail _ (.tail _ (.tail _ (.tail _ (.tail _ (.tail _ (.tail _ (.tail _ (.tail _ (.tail _ (.tail _ (.tail _ (.tail _ (.tail _ (.tail _ (.tail _ (.tail _ (.tail _ (.tail _ (.tail _ (.tail _ (.tail _ (.tail _ (.tail _ (.head _))))))))))))))))))))))))))))))))))), O49.get (.tail _ (.tail _ (.tail _ (.tail _ (.tail _ (.tail _ (.tail _ (.tail _ (.tail _ (.tail _ (.tail _ (.tail _ (.tail _ (.tail _ (.tail _ (.tail _ (.tail _ (.tail _ (.tail _ (.tail _ (.tail _ (.tail _ (.tail _ (.tail _ (.tail _ (.tail _ (.tail _ (.tail _ (.tail _ (.tail _ (.tail _ (.tail _ (.tail _ (.head _)))))))))))))))))))))))))))))))))), O49.get (.tail _ (.tail _ (.tail _ (.tail _ (.tail _ (.tail _ (.tail _ (.tail _ (.tail _ (.tail _ (.tail _ (.tail _ (.tail _ (.tail _ (.tail _ (.tail _ (.tail _ (.tail _ (.tail _ (.tail _ (.tail _ (.tail _ (.tail _ (.tail _ (.tail _ (.tail _ (.tail _ (.tail _ (.tail _ (.tail _ (.tail _ (.tail _ (.head _))))))))))))))))))))))))))))))))), O49.get (.tail _ (.tail _ (.tail _ (.tail _ (.tail _ (.tail _ (.tail _ (.tail _ (.tail _ (.tail _ (.tail _ (.tail _ (.tail _ (.tail _ (.tail _ (.tail _ (.tail _ (.tail _ (.tail _ (.tail _ (.tail _ (.tail _ (.tail _ (.tail _ (.tail _ (.tail _ (.tail _ (.tail _ (.tail _ (.tail _ (.tail _ (.head _)))))))))))))))))))))))))))))))), O49.get (.tail _ (.tail _ (.tail _ (.tail _ (.tail _ (.tail _ (.tail _ (.tail _ (.tail _ (.tail _ (.tail _ (.tail _ (.tail _ (.tail _ (.tail _ (.tail _ (.tail _ (.tail _ (.tail _ (.tail _ (.tail _ (.tail _ (.tail _ (.tail _ (.tail _ (.tail _ (.tail _ (.tail _ (.tail _ (.tail _ (.head _))))))))))))))))))))))))))))))), O49.get (.tail _ (.tail _ (.tail _ (.tail _ (.tail _ (.tail _ (.tail _ (.tail _ (.tail _ (.tail _ (.tail _ (.tail _ (.tail _ (.tail _ (.tail _ (.tail _ (.tail _ (.tail _ (.tail _ (.tail _ (.tail _ (.tail _ (.tail _ (.tail _ (.tail _ (.tail _ (.tail _ (.head _)))))))))))))))))))))))))))), O49.get (.tail _ (.tail _ (.tail _ (.tail _ (.tail _ (.tail _ (.tail _ (.tail _ (.tail _ (.tail _ (.tail _ (.tail _ (.tail _ (.tail _ (.tail _ (.tail _ (.tail _ (.tail _ (.tail _ (.tail _ (.tail _ (.tail _ (.tail _ (.tail _ (.tail _ (.tail _ (.head _))))))))))))))))))))))))))), O49.get (.tail _ (.tail _ (.tail _ (.tail _ (.tail _ (.tail _ (.tail _ (.tail _ (.tail _ (.tail _ (.tail _ (.tail _ (.tail _ (.tail _ (.tail _ (.tail _ (.tail _ (.tail _ (.tail _ (.tail _ (.tail _ (.tail _ (.tail _ (.tail _ (.tail _ (.head _)))))))))))))))))))))))))), O49.get (.tail _ (.tail _ (.tail _ (.tail _ (.tail _ (.tail _ (.tail _ (.tail _ (.tail _ (.tail _ (.tail _ (.tail _ (.tail _ (.tail _ (.tail _ (.tail _ (.tail _ (.tail _ (.tail _ (.tail _ (.tail _ (.tail _ (.tail _ (.tail _ (.head _))))))))))))))))))))))))), O49.get (.tail _ (.tail _ (.tail _ (.tail _ (.tail _ (.tail _ (.tail _ (.tail _ (.tail _ (.tail _ (.tail _ (.tail _ (.tail _ (.tail _ (.tail _ (.tail _ (.tail _ (.tail _ (.tail _ (.tail _ (.tail _ (.tail _ (.tail _ (.head _)))))))))))))))))))))))), O49.get (.tail _ (.tail _ (.tail _ (.tail _ (.tail _ (.tail _ (.tail _ (.tail _ (.tail _ (.tail _ (.tail _ (.tail _ (.tail _ (.tail _ (.tail _ (.tail _ (.tail _ (.tail _ (.tail _ (.tail _ (.head _))))))))))))))))))))), O49.get (.tail _ (.tail _ (.tail _ (.tail _ (.tail _ (.tail _ (.tail _ (.tail _ (.tail _ (.tail _ (.tail _ (.tail _ (.tail _ (.tail _ (.tail _ (.tail _ (.tail _ (.tail _ (.tail _ (.head _)))))))))))))))))))), O49.get (.tail _ (.tail _ (.tail _ (.tail _ (.tail _ (.tail _ (.tail _ (.tail _ (.tail _ (.tail _ (.tail _ (.tail _ (.tail _ (.tail _ (.tail _ (.tail _ (.tail _ (.tail _ (.head _))))))))))))))))))), O49.get (.tail _ (.tail _ (.tail _ (.tail _ (.tail _ (.tail _ (.tail _ (.tail _ (.tail _ (.tail _ (.tail _ (.tail _ (.tail _ (.tail _ (.tail _ (.tail _ (.tail _ (.head _)))))))))))))))))), O49.get (.tail _ (.tail _ (.tail _ (.tail _ (.tail _ (.tail _ (.tail _ (.tail _ (.tail _ (.tail _ (.tail _ (.tail _ (.tail _ (.tail _ (.head _))))))))))))))), O49.get (.tail _ (.tail _ (.tail _ (.tail _ (.tail _ (.tail _ (.tail _ (.tail _ (.tail _ (.tail _ (.tail _ (.tail _ (.tail _ (.head _)))))))))))))), O49.get (.tail _ (.tail _ (.tail _ (.tail _ (.tail _ (.tail _ (.tail _ (.tail _ (.tail _ (.tail _ (.tail _ (.tail _ (.head _))))))))))))), O49.get (.tail _ (.tail _ (.tail _ (.tail _ (.tail _ (.tail _ (.tail _ (.tail _ (.tail _ (.tail _ (.tail _ (.head _)))))))))))), O49.get (.tail _ (.tail _ (.tail _ (.tail _ (.tail _ (.tail _ (.tail _ (.tail _ (.head _))))))))), O49.get (.tail _ (.tail _ (.tail _ (.tail _ (.tail _ (.tail _ (.tail _ (.head _)))))))), O49.get (.tail _ (.tail _ (.tail _ (.tail _ (.tail _ (.tail _ (.head _))))))), O49.get (.tail _ (.tail _ (.tail _ (.head _)))), O49.get (.tail _ (.tail _ (.head _))), trivial⟩
  have O := O49.drop (List.nil_sublist _)
  clear O49
  obtain ⟨j, hj, hju⟩ : ∃ j : Nat, j < 32 ∧ u % 32 = j := ⟨(u % 32).toNat, by omega, by omega⟩
  obtain ⟨c, hc⟩ : ∃ c, ([b1, b2, b3, b4, b6, b9, b10, b11, b12, b15, b16, b17, b18, b19, b22, b23, b24, b25, b26, b29, b30, b31, b32, b35, b36, b37, b38, b41, b42, b43, b46, b47] : List Addr)[j]? = some c := ⟨_, List.getElem?_eq_getElem (show j < ([b1, b2, b3, b4, b6, b9, b10, b11, b12, b15, b16, b17, b18, b19, b22, b23, b24, b25, b26, b29, b30, b31, b32, b35, b36, b37, b38, b41, b42, b43, b46, b47] : List Addr).length from hj)⟩
  obtain ⟨r, hr, hrH⟩ := hrows.get hc
  obtain ⟨mm, ks, rfl, htab, hk3, hmt, hmp, hmw⟩ := menu_at hr
  have hat : atI (([b1, b2, b3, b4, b6, b9, b10, b11, b12, b15, b16, b17, b18, b19, b22, b23, b24, b25, b26, b29, b30, b31, b32, b35, b36, b37, b38, b41, b42, b43, b46, b47] : List Addr).map V.ref) (u % ((([b1, b2, b3, b4, b6, b9, b10, b11, b12, b15, b16, b17, b18, b19, b22, b23, b24, b25, b26, b29, b30, b31, b32, b35, b36, b37, b38, b41, b42, b43, b46, b47] : List Addr).map V.ref).length : Int)) = some (.ref c) := by
    show atI _ (u % 32) = _
    rw [hju]
    exact atI_nat (by rw [List.getElem?_map, hc]; rfl)
  have hcq : SqL K H49 c ((mm :: ks).map V.str) := SqL.of hrH
  have hc0 : atI ((mm :: ks).map V.str) 0 = some (.str mm) := atI_nat (j := 0) rfl
  have hcut : cutV ((mm :: ks).map V.str) (some 1) none = ks.map V.str := cutV_from _ 1
  have hdv : 0 < ((([b1, b2, b3, b4, b6, b9, b10, b11, b12, b15, b16, b17, b18, b19, b22, b23, b24, b25, b26, b29, b30, b31, b32, b35, b36, b37, b38, b41, b42, b43, b46, b47] : List Addr).map V.ref).length : Int) ∧ ((([b1, b2, b3, b4, b6, b9, b10, b11, b12, b15, b16, b17, b18, b19, b22, b23, b24, b25, b26, b29, b30, b31, b32, b35, b36, b37, b38, b41, b42, b43, b46, b47] : List Addr).map V.ref).length : Int) < 1073741824 := ⟨by show (0 : Int) < 32; decide, by show (32 : Int) < _; decide⟩
  clear hrows
  have hl0 : 0 ≤ u / 32 := Int.ediv_nonneg u0 (by decide)
  have hl1 : u / 32 ≤ u := by omega
  walk_at "s"
  intro wb hwb
  have OS := (Own.start (H := H49)).new (o := .lst [.str "call", .str mm]) hwb
  have hcq2 := OS.sq hcq
  generalize upd H49 wb _ = HA at OS hcq2 ⊢
  walk_at "s"
  rw [hcut]
  intro kb hkb
  have OS2 := OS.new (o := .lst (ks.map V.str)) hkb
  clear OS
  generalize upd HA kb _ = HB at OS2 ⊢
  have OS2 : Own H49 HB [] [(kb, .lst (ks.map V.str)), (wb, .lst (SV (wT "call" :: wT mm :: [])))] := by
    rw [show SV (wT "call" :: wT mm :: []) = [.str "call", .str mm] by show [V.str (S (wT "call")), V.str (S (wT mm))] = _; rw [SX.S_tl, SX.S_tl]]
    exact OS2
  have hkq : SqL K HB kb (ks.map V.str) := SqL.of (OS2.get (.head _))
  walk_at "s"
  refine forL (K := K) (a := kb) (xs := ks.map V.str) (fun i σ H' => ∃ (l : Int) (as : List (List Nat)) (v6 : Option V), σ = [some (.int u), some (.int m), some (.ref b49), some (.ref c), some (.int l), some (.ref wb), v6] ∧ Own H49 H' [] [(kb, .lst (ks.map V.str)), (wb, .lst (SV (wT "call" :: wT mm :: as)))] ∧ as.length = i ∧ (∀ z ∈ as, ArO z) ∧ 0 ≤ l ∧ l ≤ 10 ^ 12) ⟨u / 32, [], _, rfl, OS2, rfl, nofun, hl0, by omega⟩ (fun i σ H' _ ⟨_, _, _, _, O', _⟩ => SqL.of (O'.get (.head _))) ?_ ?_
  · rintro i x σ H' hx ⟨l, as, v6, rfl, O', hal, hA, l0, l1⟩
    obtain ⟨kd, hkd, rfl⟩ := str_get hx
    have hi := (List.getElem?_eq_some_iff.mp hkd).1
    have hwq := O'.get (.tail _ (.head _))
    have hq0 : 0 ≤ l % 1000 := Int.emod_nonneg _ (by decide)
    have hq1 : l % 1000 < 1000 := Int.emod_lt_of_pos _ (by decide)
    walk_at "s"
    refine ask3 ⟨kd, l % 1000, m, rfl, rfl, rfl, hq0, hq1, m0, m1, fun z H1 O1 hz => ?_⟩
    have O2 := O'.callE (e := []) .here0 O1
    have O2 : Own H49 H1 [] [(kb, .lst (ks.map V.str)), (wb, .lst (SV (wT "call" :: wT mm :: as)))] := O2
    have hwq2 := O2.get (.tail _ (.head _))
    have hwl : (SV (wT "call" :: wT mm :: as)).length < sizeLine := Nat.lt_of_lt_of_le (by rw [List.length_map, List.length_cons, List.length_cons]; omega : _ < 100) (by decide)
    walk_at "s"
    refine ⟨⟨_, as ++ [z], _, rfl, ?_, by rw [List.length_append, hal]; rfl, fun y hy => ?_, Int.ediv_nonneg l0 (by decide), by omega⟩⟩
    · rw [show SV (wT "call" :: wT mm :: (as ++ [z])) = SV (wT "call" :: wT mm :: as) ++ [.str (S z)] by simp [SV]]
      exact O2.wr (.there .here)
    · rcases List.mem_append.mp hy with hy | hy
      · exact hA y hy
      · rw [List.mem_singleton.mp hy]; exact hz
  · rintro σ H' ⟨l, as, v6, rfl, O', hal, hA, l0, l1⟩
    rw [show (ks.map V.str).length = ks.length from List.length_map ..] at hal
    obtain ⟨le, hle, hlp⟩ : ∃ e : PySem.Str, atI ((mm :: ks).map V.str) (-1) = some (.str e) ∧ (e = "path" → ks ≠ []) := by
      refine ⟨(mm :: ks).getLast (List.cons_ne_nil _ _), atI_last ?_, fun e q => ?_⟩
      · rw [List.length_map, List.getElem?_map, List.getLast_eq_getElem, List.getElem?_eq_getElem (by simp)]
        rfl
      · subst q
        exact hmp e
    have hcq3 : SqL K H' c ((mm :: ks).map V.str) := O'.sq hcq
    have hwq := O'.get (.tail _ (.head _))
    walk_at "s"
    refine cutS (fun σ' H2 => ∃ as2 : List (List Nat), σ' = [some (.int u), some (.int m), some (.ref b49), some (.ref c), some (.int l), some (.ref wb), v6] ∧ Own H49 H2 [] [(wb, .lst (SV (wT "call" :: wT mm :: as2)))] ∧ as2.length = ks.length ∧ (∀ z ∈ as2, ArgW z ∧ WdO z) ∧ ∀ i z, as2[i]? = some z → i + 1 < as2.length → S z ≠ "to") (fun nx hn => ?_) ?_
    · have go := hn [some (.int u), some (.int m), some (.ref b49), some (.ref c), some (.int l), some (.ref wb), v6] H' ⟨as, rfl, O'.drop (.cons _ (.refl _)), hal, fun z hz => ⟨(hA z hz).a, (hA z hz).w⟩, fun i z hz _ => (hA z (List.mem_of_getElem? hz)).t⟩
      walk_at "s"
      refine if_ss (fun e => ?_) (fun e => ?_)
      · have hkn := hlp e
        walk_at "s"
        refine if_ii (fun e4 => ?_) (fun e4 => ?_)
        · obtain ⟨as0, y, rfl⟩ : ∃ as0 y, as = as0 ++ [y] := ⟨as.dropLast, as.getLast (fun q => hkn (List.length_eq_zero_iff.mp (by rw [← hal, q]; rfl))), (List.dropLast_concat_getLast _).symm⟩
          walk_at "s"
          refine ⟨ix_last2 _ _ _, ?_⟩
          rw [set_to]
          refine hn _ _ ⟨as0 ++ [wT "to"], rfl, (O'.wr (.there .here)).drop (.cons _ (.refl _)), by rw [← hal, List.length_append, List.length_append]; rfl, fun z hz => ?_, fun i z hz hi => ?_⟩
          · rcases List.mem_append.mp hz with hz | hz
            · exact ⟨(hA z (List.mem_append_left _ hz)).a, (hA z (List.mem_append_left _ hz)).w⟩
            · rw [List.mem_singleton.mp hz]
              exact argW_lit (by decide +kernel)
          · rw [List.length_append, List.length_singleton] at hi
            rw [List.getElem?_append_left (by omega)] at hz
            exact (hA z (List.mem_append_left _ (List.mem_of_getElem? hz))).t
        · walk_at "s"
          exact go
      · walk_at "s"
        exact go
    rintro σ' H2 ⟨as2, rfl, O3, hal2, hA2, hto⟩
    have hwq3 : SqL K H2 wb (SV (wT "call" :: wT mm :: as2)) := SqL.of (O3.get (.head _))
    have hA5 : ∀ z ∈ as2, ArgW z ∧ z.length ≤ 5000 := fun z hz => ⟨(hA2 z hz).1, by have := (hA2 z hz).2.hi; omega⟩
    have hWS : ∀ w ∈ wT "call" :: wT mm :: as2, WdO w := fun w hw => by
      rcases List.mem_cons.mp hw with rfl | hw
      · exact wdO_lit (by decide +kernel)
      · rcases List.mem_cons.mp hw with rfl | hw
        · exact wdO_lit hmw
        · exact (hA2 w hw).2
    rw [← hal2] at htab hk3
    have OE := O.callE (e := [(wb, .lst (SV (wT "call" :: wT mm :: as2)))]) .here0 O3
    have OE : Own H H2 [] [(wb, .lst (SV (wT "call" :: wT mm :: as2)))] := OE
    walk_at "b"
    refine if_d (fun g => ?_) (fun g => ?_)
    · walk_at "s"
      refine ask1 ⟨l / 3, rfl, Int.ediv_nonneg l0 (by decide), by omega, fun n H3 O4 hn => ?_⟩
      have O5 : Own H H3 [] [(wb, .lst (SV (wT "call" :: wT mm :: as2)))] := OE.callE (e := []) .here0 O4
      clear OE O3
      walk_at "s"
      intro ob hob
      have O6 := O5.new (o := .lst [.str "to", .str (S (dg n))]) hob
      clear O5
      generalize upd H3 ob _ = H5 at O6 ⊢
      have s1 : SqL K H5 wb (SV (wT "call" :: wT mm :: as2)) := SqL.of (O6.get (.tail _ (.head _)))
      have s2 : SqL K H5 ob [.str "to", .str (S (dg n))] := SqL.of (O6.get (.head _))
      have hle1 : (SV (wT "call" :: wT mm :: as2)).length = as2.length + 2 := List.length_map ..
      walk_at "s"
      intro rb hrb
      have O7 := O6.new (o := .lst (SV (wT "call" :: wT mm :: as2) ++ [.str "to", .str (S (dg n))])) hrb
      generalize upd H5 rb _ = H6 at O7 ⊢
      walk_at "s"
      have he : SV (wT "call" :: wT mm :: as2) ++ [.str "to", .str (S (dg n))] = SV (wT "call" :: wT mm :: as2 ++ [wT "to", dg n]) := by
        rw [SV, SV, List.map_append]
        show _ = _ ++ [V.str (S (wT "to")), V.str (S (dg n))]
        rw [SX.S_tl]
      rw [he] at O7
      refine k _ rb _ (O7.drop (.cons₂ _ (List.nil_sublist _))) (.call (m := mm) (as := as2) (an := some (dg n)) ⟨rfl, htab, hk3, hA5, fun z hz => by cases hz; exact ⟨n, hn, by omega, rfl⟩, nofun⟩) ⟨by rw [List.length_append, List.length_cons, List.length_cons]; show as2.length + 1 + 1 + 2 ≤ 7; omega, fun w hw => ?_⟩
      rcases List.mem_append.mp hw with hw | hw
      · exact hWS w hw
      · rcases List.mem_cons.mp hw with rfl | hw
        · exact wdO_lit (by decide +kernel)
        · rw [List.mem_singleton.mp hw]; exact wdO_dg (by omega)
    · walk_at "s"
      refine k _ wb _ OE (.call (m := mm) (as := as2) (an := none) ⟨by simp, htab, hk3, hA5, nofun, fun _ z hz => ?_⟩) ⟨by rw [List.length_cons, List.length_cons]; omega, hWS⟩
      cases as2 with
      | nil => cases hz; decide +kernel
      | cons y ys =>
        cases ys with
        | nil => cases hz; rw [SX.S_tl]; exact hmt
        | cons y2 y3 => exact hto _ z hz (by rw [List.length_cons, List.length_cons]; omega)

open SX (S)
/-! ## rows drawn -/
def sp__law_words_by (K : PySem.W.Frag) : Sp := sp2 fun x y H Q _ => ∃ u m : Int, x = .int u ∧ y = .int m ∧ 0 ≤ u ∧ u < 10 ^ 12 ∧ 2 ≤ m ∧ m ≤ 42 ∧ ∀ H' b ws, Own H H' [] [(b, .lst (SV ws))] → StepW ws → WsO ws → Q (.ref b) H'
theorem wsO_of {ws : List (List Nat)} (h : ws.length ≤ 7) (k : ∀ w ∈ ws, WdO w) : WsO ws := ⟨h, k⟩
theorem pick_two {x m : Int} (y : Int) (hx : 0 ≤ x) (hm : 2 ≤ m) (hm2 : m ≤ 42) : ∃ v : Int, atI [V.int (x % m), V.int (x % 1000)] (y % 8 / 7) = some (.int v) ∧ 0 ≤ v ∧ v < 1000 := by
  have h2 : y % 8 / 7 = 0 ∨ y % 8 / 7 = 1 := by omega
  have h3 : 0 ≤ x % m := Int.emod_nonneg _ (by omega)
  have h4 : x % m < m := Int.emod_lt_of_pos _ (by omega)
  rcases h2 with e | e
  · exact ⟨_, by rw [e]; exact atI_nat (j := 0) rfl, h3, by omega⟩
  · exact ⟨_, by rw [e]; exact atI_nat (j := 1) rfl, by omega, by omega⟩
theorem sc__law_words_by : FnScope ["_law_number", "_law_many", "_law_left", "_law_spot"] ["_law_number", "_law_many"] (defScope s__law_words_by) := ⟨rfl, rfl, rfl, by decide +kernel, rfl, by decide +kernel, by decide +kernel⟩
theorem ok__law_words_by {P : Program} {w : World} {K : PySem.W.Frag} {mg : Str → Option Value} {base : Heap} (T : Txt w K mg) : Cee P w K mg base 4 (He.fAd K ("_law_words_by", none)) ["_law_number", "_law_many"] (sp__law_words_by K) := by
  have c__law_address : Cee P w K mg base 1 (He.fAd K ("_law_address", none)) ["_law_number"] (sp__law_address K) := ok__law_address T
  have c__law_call_by : Cee P w K mg base 3 (He.fAd K ("_law_call_by", none)) ["_law_number", "_law_many"] (sp__law_call_by K) := ok__law_call_by T
  refine cee_of T.d__law_words_by sc__law_words_by (fun _ _ _ _ _ _ us hl => match us, hl with | [_, _], _ => rfl) (fun vs H Q E h => sp2_len h) (fun cdv A outer s H vs Q E hr h => ⟨_, (pss_cons (ps_set (i := 2) sc__law_words_by.nd rfl (Or.inl rfl) (pe_op op_fdiv (pv 0) pe_int)) (pss_cons (ps_if (pt_cmpR op_eq (pe_op op_mod (pv 0) pe_int) pe_int (nomark _)) (pss_one (ps_ret (pe_lst (pa_cons pe_str (pa_cons (pe_f c__law_address (hr.mono (by decide)) (takes_of rfl rfl rfl rfl) (by rfl) T.g__law_address (pa_cons (pv 2) pa_nil)) (pa_cons (pe_callTy call_str_int (by rfl) T.n_str (by decide +kernel) (pa_cons (pe_op op_mod (pe_op op_fdiv (pv 2) pe_int) pe_int) pa_nil)) pa_nil)))))) pss_nil) (pss_cons (ps_if (pt_cmpR op_eq (pe_op op_mod (pv 0) pe_int) pe_int (nomark _)) (pss_one (ps_ret (pe_lst (pa_cons (pe_ix ix_list (pe_lst (pa_cons pe_str (pa_cons pe_str pa_nil))) (pe_op op_mod (pv 2) pe_int) (fun _ _ => rfl)) (pa_cons (pe_f c__law_address (hr.mono (by decide)) (takes_of rfl rfl rfl rfl) (by rfl) T.g__law_address (pa_cons (pe_op op_fdiv (pv 2) pe_int) pa_nil)) (pa_cons (pe_f c__law_address (hr.mono (by decide)) (takes_of rfl rfl rfl rfl) (by rfl) T.g__law_address (pa_cons (pe_op op_fdiv (pv 2) pe_int) pa_nil)) pa_nil)))))) pss_nil) (pss_cons (ps_if (pt_cmpR op_eq (pe_op op_mod (pv 0) pe_int) pe_int (nomark _)) (pss_one (ps_ret (pe_lst (pa_cons pe_str (pa_cons (pe_f c__law_address (hr.mono (by decide)) (takes_of rfl rfl rfl rfl) (by rfl) T.g__law_address (pa_cons (pv 2) pa_nil)) (pa_cons (pe_callTy call_str_int (by rfl) T.n_str (by decide +kernel) (pa_cons (pe_ix ix_list (pe_lst (pa_cons (pe_op op_mod (pe_op op_fdiv (pv 2) pe_int) (pv 1)) (pa_cons (pe_op op_mod (pe_op op_fdiv (pv 2) pe_int) pe_int) pa_nil))) (pe_op op_fdiv (pe_op op_mod (pe_op op_fdiv (pv 2) pe_int) pe_int) pe_int) (fun _ _ => rfl)) pa_nil)) pa_nil)))))) pss_nil) (pss_cons (ps_if (pt_cmpR op_eq (pe_op op_mod (pv 0) pe_int) pe_int (nomark _)) (pss_cons (ps_set (i := 3) sc__law_words_by.nd rfl (Or.inl rfl) (pe_callTy call_str_int (by rfl) T.n_str (by decide +kernel) (pa_cons (pe_ix ix_list (pe_lst (pa_cons (pe_op op_mod (pe_op op_fdiv (pv 2) pe_int) (pv 1)) (pa_cons (pe_op op_mod (pe_op op_fdiv (pv 2) pe_int) pe_int) pa_nil))) (pe_op op_fdiv (pe_op op_mod (pe_op op_fdiv (pv 2) pe_int) pe_int) pe_int) (fun _ _ => rfl)) pa_nil))) (pss_one (ps_ret (pe_ix ix_list (pe_lst (pa_cons (pe_lst (pa_cons pe_str pa_nil)) (pa_cons (pe_lst (pa_cons pe_str (pa_cons (pv 3) pa_nil))) (pa_cons (pe_lst (pa_cons pe_str (pa_cons pe_str pa_nil))) (pa_cons (pe_lst (pa_cons pe_str pa_nil)) pa_nil))))) (pe_op op_mod (pv 2) pe_int) (fun _ _ => rfl))))) pss_nil) (pss_one (ps_ret (pe_f c__law_call_by (hr.mono (by decide)) (takes_of rfl rfl rfl rfl) (by rfl) T.g__law_call_by (pa_cons (pv 2) (pa_cons (pv 1) pa_nil)))))))))), ?_⟩)
  obtain ⟨v0, v1, rfl, h⟩ := h
  dsimp only [cxOf, L2.start]
  obtain ⟨u, m, rfl, rfl, u0, u1, m0, m1, k⟩ := h
  have hl0 : 0 ≤ u / 10 := Int.ediv_nonneg u0 (by decide)
  have hl1 : u / 10 < 10 ^ 12 := by omega
  walk_at "s"
  refine if_ii (fun e => ?_) (fun e => ?_)
  · walk_at "s"
    refine ask1 ⟨u / 10, rfl, hl0, by omega, fun n H1 O1 hn => ?_⟩
    have hv : 0 ≤ u / 10 / 16 % 256 := Int.emod_nonneg _ (by decide)
    have hlog := log_small hv (by omega)
    walk_at "s"
    intro b hb
    rw [str_dg hv]
    refine k _ b [wT "set", dg n, dg (u / 10 / 16 % 256).toNat] ?_ (.set ⟨n, hn, by omega, rfl⟩ ⟨_, by omega, by omega, rfl⟩) (wsO_of (by simp) fun w hw => ?_)
    · have e1 : V.str "set" = V.str (S (wT "set")) := by rw [SX.S_tl]
      rw [e1]
      exact O1.new hb
    · simp only [List.mem_cons, List.not_mem_nil, or_false] at hw
      rcases hw with rfl | rfl | rfl
      · exact wdO_lit (by decide +kernel)
      · exact wdO_dg (by omega)
      · exact wdO_dg (by omega)
  walk_at "s"
  refine if_ii (fun e => ?_) (fun e => ?_)
  · obtain ⟨s, hat, hs⟩ : ∃ s : PySem.Str, atI [V.str "add", .str "less"] (u / 10 % 2) = some (.str s) ∧ (s = "add" ∨ s = "less") := by
      have h2 : u / 10 % 2 = 0 ∨ u / 10 % 2 = 1 := by omega
      rcases h2 with e | e
      · exact ⟨_, by rw [e]; exact atI_nat (j := 0) rfl, .inl rfl⟩
      · exact ⟨_, by rw [e]; exact atI_nat (j := 1) rfl, .inr rfl⟩
    walk_at "s"
    intro p hp
    have O1 := (Own.start (H := H)).new (o := .lst [.str "add", .str "less"]) hp
    generalize upd H p _ = H1 at O1 ⊢
    have hp1 : SqL K H1 p [.str "add", .str "less"] := SqL.of (O1.get (.head _))
    walk_at "s"
    refine ask1 ⟨u / 10 / 2, rfl, Int.ediv_nonneg hl0 (by decide), by omega, fun n H2 O2 hn => ?_⟩
    have O3 : Own H H2 [] [] := (O1.drop (List.nil_sublist _)).callE (e := []) .here0 O2
    walk_at "s"
    refine ask1 ⟨u / 10 / 32, rfl, Int.ediv_nonneg hl0 (by decide), by omega, fun n2 H3 O4 hn2 => ?_⟩
    have O5 : Own H H3 [] [] := O3.callE (e := []) .here0 O4
    walk_at "s"
    intro b hb
    have e1 : V.str s = V.str (S (wT s)) := by rw [SX.S_tl]
    rw [e1]
    refine k _ b [wT s, dg n, dg n2] (O5.new hb) ?_ (wsO_of (by simp) fun w hw => ?_)
    · rcases hs with rfl | rfl
      · exact .add ⟨n, hn, by omega, rfl⟩ ⟨n2, hn2, by omega, rfl⟩
      · exact .less ⟨n, hn, by omega, rfl⟩ ⟨n2, hn2, by omega, rfl⟩
    · simp only [List.mem_cons, List.not_mem_nil, or_false] at hw
      rcases hw with rfl | rfl | rfl
      · rcases hs with rfl | rfl <;> exact wdO_lit (by decide +kernel)
      · exact wdO_dg (by omega)
      · exact wdO_dg (by omega)
  walk_at "s"
  refine if_ii (fun e => ?_) (fun e => ?_)
  · walk_at "s"
    refine ask1 ⟨u / 10, rfl, hl0, by omega, fun n H1 O1 hn => ?_⟩
    obtain ⟨v, hat, v0, v1⟩ := pick_two (u / 10 / 128) (Int.ediv_nonneg hl0 (by decide : (0 : Int) ≤ 16)) m0 m1
    have hlog := log_small v0 (by omega)
    have hm : 0 < m := by omega
    walk_at "s"
    intro p hp
    have O2 := O1.new (o := .lst [.int (u / 10 / 16 % m), .int (u / 10 / 16 % 1000)]) hp
    have hp2 : SqL K _ p [.int (u / 10 / 16 % m), .int (u / 10 / 16 % 1000)] := SqL.of (O2.get (.head _))
    walk_at "s"
    intro b hb
    rw [str_dg v0]
    have e1 : V.str "if" = V.str (S (wT "if")) := by rw [SX.S_tl]
    rw [e1]
    refine k _ b [wT "if", dg n, dg v.toNat] ((O2.new hb).drop (.cons₂ _ (List.nil_sublist _))) (.iff ⟨n, hn, by omega, rfl⟩ ⟨_, by omega, by omega, rfl⟩) (wsO_of (by simp) fun w hw => ?_)
    simp only [List.mem_cons, List.not_mem_nil, or_false] at hw
    rcases hw with rfl | rfl | rfl
    · exact wdO_lit (by decide +kernel)
    · exact wdO_dg (by omega)
    · exact wdO_dg (by omega)
  walk_at "s"
  refine if_ii (fun e => ?_) (fun e => ?_)
  · obtain ⟨v, hat, v0, v1⟩ := pick_two (u / 10 / 24) (Int.ediv_nonneg hl0 (by decide : (0 : Int) ≤ 3)) m0 m1
    have hlog := log_small v0 (by omega)
    have hm : 0 < m := by omega
    walk_at "s"
    intro p hp
    have O2 := (Own.start (H := H)).new (o := .lst [.int (u / 10 / 3 % m), .int (u / 10 / 3 % 1000)]) hp
    have hp2 : SqL K _ p [.int (u / 10 / 3 % m), .int (u / 10 / 3 % 1000)] := SqL.of (O2.get (.head _))
    walk_at "s"
    intro b1 h1
    have P1 := O2.new (o := .lst [.str "back"]) h1
    generalize upd _ b1 _ = G1 at P1 ⊢
    walk_at "s"
    intro b2 h2
    have P2 := P1.new (o := .lst [.str "jump", .str (toString v)]) h2
    generalize upd G1 b2 _ = G2 at P2 ⊢
    walk_at "s"
    intro b3 h3
    have P3 := P2.new (o := .lst [.str "jump", .str "999"]) h3
    generalize upd G2 b3 _ = G3 at P3 ⊢
    walk_at "s"
    intro b4 h4
    have P4 := P3.new (o := .lst [.str "back"]) h4
    generalize upd G3 b4 _ = G4 at P4 ⊢
    walk_at "s"
    intro b5 h5
    have P5 := P4.new (o := .lst [.ref b1, .ref b2, .ref b3, .ref b4]) h5
    generalize upd G4 b5 _ = G5 at P5 ⊢
    have hp5 : SqL K G5 b5 [.ref b1, .ref b2, .ref b3, .ref b4] := SqL.of (P5.get (.head _))
    have eb : V.str "back" = V.str (S (wT "back")) := by rw [SX.S_tl]
    have ej : V.str "jump" = V.str (S (wT "jump")) := by rw [SX.S_tl]
    have e9 : V.str "999" = V.str (S (dg 999)) := by rw [S_dg]; rfl
    rw [str_dg v0, ej, eb, e9] at P5
    have hB : WsO [wT "back"] := wsO_of (by simp) fun w hw => by rw [List.mem_singleton.mp hw]; exact wdO_lit (by decide +kernel)
    have hJ : ∀ n, n < 1000 → WsO [wT "jump", dg n] := fun n hn => wsO_of (by simp) fun w hw => by
      rcases List.mem_cons.mp hw with rfl | hw
      · exact wdO_lit (by decide +kernel)
      · rw [List.mem_singleton.mp hw]; exact wdO_dg hn
    obtain ⟨c, ws, hat5, hO, hS, hW⟩ : ∃ c ws, atI [V.ref b1, .ref b2, .ref b3, .ref b4] (u / 10 % 4) = some (.ref c) ∧ Own H G5 [] [(c, .lst (SV ws))] ∧ StepW ws ∧ WsO ws := by
      have h4 : u / 10 % 4 = 0 ∨ u / 10 % 4 = 1 ∨ u / 10 % 4 = 2 ∨ u / 10 % 4 = 3 := by omega
      rcases h4 with e | e | e | e
      · exact ⟨b1, [wT "back"], by rw [e]; exact atI_nat (j := 0) rfl, P5.drop (.cons _ (.cons _ (.cons _ (.cons _ (.cons₂ _ (List.nil_sublist _)))))), .back, hB⟩
      · exact ⟨b2, [wT "jump", dg v.toNat], by rw [e]; exact atI_nat (j := 1) rfl, P5.drop (.cons _ (.cons _ (.cons _ (.cons₂ _ (List.nil_sublist _))))), .jump ⟨_, by omega, by omega, rfl⟩, hJ _ (by omega)⟩
      · exact ⟨b3, [wT "jump", dg 999], by rw [e]; exact atI_nat (j := 2) rfl, P5.drop (.cons _ (.cons _ (.cons₂ _ (List.nil_sublist _)))), .jump ⟨_, by omega, by omega, rfl⟩, hJ _ (by omega)⟩
      · exact ⟨b4, [wT "back"], by rw [e]; exact atI_nat (j := 3) rfl, P5.drop (.cons _ (.cons₂ _ (List.nil_sublist _))), .back, hB⟩
    walk_at "s"
    exact k _ c ws hO hS hW
  walk_at "s"
  refine ask2 ⟨u / 10, m, rfl, rfl, hl0, hl1, m0, m1, fun H1 b ws O1 hS hW => ?_⟩
  exact k _ b ws O1 hS hW

open SX (S)
/-! ## the program drawn -/
/-- the law's program: rows of words -/
structure PrO (p : List (List (List Nat))) : Prop where
  few : p.length ≤ 41
  one : 1 ≤ p.length
  ok : ∀ ws ∈ p, StepW ws ∧ WsO ws
abbrev wcel (ps : List (Addr × List (List Nat))) : Cells := ps.map fun p => (p.1, .lst (SV p.2))
def sp__law_program_by (K : PySem.W.Frag) : Sp := sp1 fun x H Q _ => ∃ (a : Addr) (xs : List Int), x = .ref a ∧ SqL K H a (xs.map V.int) ∧ xs.length ≤ 63 ∧
  ∀ H' b ps, Own H H' [] ((b, .lst (ps.map fun p => .ref p.1)) :: wcel ps) → PrO (ps.map (·.2)) → Q (.ref b) H'
theorem sc__law_program_by : FnScope ["_law_script", "_law_numbers_here", "_law_digits", "_law_cell", "_law_left", "_law_turns", "_law_many", "_law_number"] ["_law_script"] (defScope s__law_program_by) := ⟨rfl, rfl, rfl, by decide +kernel, rfl, by decide +kernel, by decide +kernel⟩
theorem ok__law_program_by {P : Program} {w : World} {K : PySem.W.Frag} {mg : Str → Option Value} {base : Heap} (T : Txt w K mg) : Cee P w K mg base 5 (He.fAd K ("_law_program_by", none)) ["_law_script"] (sp__law_program_by K) := by
  have c__law_cell_at : Cee P w K mg base 1 (He.fAd K ("_law_cell_at", none)) ["_law_script", "_law_k"] (sp__law_cell_at K) := ok__law_cell_at T
  have c__law_mix : Cee P w K mg base 1 (He.fAd K ("_law_mix", none)) ["_law_cell", "_law_factor", "_law_prime"] (sp__law_mix K) := ok__law_mix T
  have c__law_words_by : Cee P w K mg base 4 (He.fAd K ("_law_words_by", none)) ["_law_number", "_law_many"] (sp__law_words_by K) := ok__law_words_by T
  refine cee_of T.d__law_program_by sc__law_program_by (fun _ _ _ _ _ _ us hl => match us, hl with | [_], _ => rfl) (fun vs H Q E h => sp1_len h) (fun cdv A outer s H vs Q E hr h => ⟨_, (pss_cons (ps_set (i := 1) sc__law_program_by.nd rfl (Or.inl rfl) (pe_lst pa_nil)) (pss_cons (ps_set (i := 2) sc__law_program_by.nd rfl (Or.inl rfl) (pe_cmpR op_eq (pe_op op_mod (pe_f c__law_cell_at (hr.mono (by decide)) (takes_of rfl rfl rfl rfl) (by rfl) T.g__law_cell_at (pa_cons (pv 0) (pa_cons pe_int pa_nil))) pe_int) pe_int (nomark _))) (pss_cons (ps_for (passes_of rfl) rfl (PI.box (pi_list (pe_slice sl_list (pv 0) (po_some pe_int) po_none))) (pg_name (i := 3) sc__law_program_by.nd rfl (Or.inl rfl)) (pss_cons (ps_set (i := 4) sc__law_program_by.nd rfl (Or.inl rfl) (pe_callB (call_max2 rfl) (by rfl) T.n_max (by decide +kernel) (pa_cons (pv 3) (pa_cons (pe_un un_neg (pv 3)) pa_nil)))) (pss_cons (PS.box (ps_if (pt_not (pt_val (pv 2))) (pss_one (ps_set (i := 4) sc__law_program_by.nd rfl (Or.inl rfl) (pe_f c__law_mix (hr.mono (by decide)) (takes_of rfl rfl rfl rfl) (by rfl) T.g__law_mix (pa_cons (pe_op op_add (pe_f c__law_mix (hr.mono (by decide)) (takes_of rfl rfl rfl rfl) (by rfl) T.g__law_mix (pa_cons (pv 3) (pa_cons pe_int (pa_cons pe_int pa_nil)))) pe_int) (pa_cons pe_int (pa_cons pe_int pa_nil)))))) pss_nil)) (pss_cons (ps_set (i := 5) sc__law_program_by.nd rfl (Or.inl rfl) pe_int) (pss_one (PS.box (ps_while (passes_of rfl) (PW.pt (pw_or (pt_cmpR op_eq (pv 5) pe_int (nomark _)) (pw_or1 (PW.pt (pw_and (pt_val (pv 2)) (pw_and (pt_cmpR op_gt (pv 4) pe_int (nomark _)) (pw_and1 (pt_cmpR op_lt (pv 5) pe_int (nomark _))))))))) (pss_cons (ps_expr (pe_bm PySem.F.plainAttrs_list PySem.F.slot_list_append PySem.F.type_list_append mt_append (pv 1) (pa_cons (pe_op op_mod (pv 4) pe_int) pa_nil))) (pss_cons (ps_set (i := 4) sc__law_program_by.nd rfl (Or.inl rfl) (pe_op op_fdivW (pv 4) pe_int)) (pss_one (ps_aug (i := 5) sc__law_program_by.nd rfl (Or.inl rfl) pe_int ip_add))))))))))) (pss_cons (ps_set (i := 1) sc__law_program_by.nd rfl (Or.inl rfl) (pe_slice sl_list (pv 1) po_none (po_some pe_int))) (pss_cons (ps_set (i := 6) sc__law_program_by.nd rfl (Or.inr rfl) (pe_op op_add (pe_callB call_len_seq (by rfl) T.n_len (by decide +kernel) (pa_cons (pv 1) pa_nil)) pe_int)) (pss_one (ps_ret (pe_op op_cat (pe_lst (pa_cons (pe_lst (pa_cons pe_str (pa_cons pe_str (pa_cons pe_str (pa_cons pe_str (pa_cons pe_str (pa_cons pe_str pa_nil))))))) pa_nil)) (pe_lc (own := [("_law_number", 7)]) (by rfl) sc__law_program_by.nd (PI.box (pi_list (pv 1))) (blkOk_by (own := [("_law_number", 7)]) (N := ["_law_script", "_law_numbers_here", "_law_digits", "_law_cell", "_law_left", "_law_turns", "_law_many", "_law_number"]) (sc := defScope s__law_program_by) (by decide +kernel)) (fun _ _ _ _ _ => (pg_name (i := 7) sc__law_program_by.nd rfl (Or.inl rfl))) (fun _ _ _ _ _ => pts_nil) (fun _ _ _ _ _ => (pe_f c__law_words_by (hr.mono (by decide)) takes0 (by rfl) T.g__law_words_by (pa_cons (pv 7) (pa_cons (pv 6) pa_nil))))))))))))), ?_⟩)
  obtain ⟨v0, rfl, h⟩ := h
  dsimp only [cxOf, L2.start]
  obtain ⟨a, xs, rfl, ha, hx, k⟩ := h
  walk_at "s"
  intro b hb
  have O1 := (Own.start (H := H)).new (o := .lst []) hb
  have ha1 := O1.sq ha
  generalize upd H b _ = H1 at O1 ha1 ⊢
  walk_at "s"
  refine ask2 ⟨a, xs, 0, rfl, rfl, by decide, ha1, fun v => ?_⟩
  obtain ⟨ys, hys⟩ : ∃ ys : List Int, cutV (xs.map V.int) (some 1) none = ys.map V.int := ⟨_, by unfold cutV; rw [← List.map_drop, ← List.map_take]⟩
  have hyl : ys.length ≤ 63 := by
    have h1 := congrArg List.length hys
    have h2 : (cutV (xs.map V.int) (some 1) none).length ≤ xs.length := by
      rw [show cutV (xs.map V.int) (some 1) none = (xs.map V.int).drop 1 from cutV_from _ 1, List.length_drop, List.length_map]; omega
    rw [List.length_map] at h1
    omega
  walk_at "s"
  rw [hys]
  intro q hq
  have O2 := O1.new (o := .lst (ys.map V.int)) hq
  clear O1
  generalize upd H1 q _ = H2 at O2 ⊢
  have hq2 : SqL K H2 q (ys.map V.int) := SqL.of (O2.get (.head _))
  walk_at "s"
  refine forL (K := K) (a := q) (xs := ys.map V.int) (fun i σ H' => ∃ (ns : List Int) (v3 v4 v5 : Option V), σ = [some (.ref a), some (.ref b), some (.bl (decide (V.int (v % 2) = V.int 0))), v3, v4, v5, none, none] ∧ Own H H' [] [(q, .lst (ys.map V.int)), (b, .lst (ns.map V.int))] ∧ (∀ n ∈ ns, 0 ≤ n ∧ n < 10 ^ 12) ∧ ns.length ≤ 20 * i) ⟨[], _, _, _, rfl, O2, nofun, by simp⟩ (fun i σ H' _ ⟨_, _, _, _, _, O', _⟩ => SqL.of (O'.get (.head _))) ?_ ?_
  · rintro i x σ H' hx ⟨ns, v3, v4, v5, rfl, O', hn, hnl⟩
    obtain ⟨y, hy, rfl⟩ := map_get hx
    walk_at "s"
    refine cutS (fun σ1 H1 => ∃ u : Int, σ1 = [some (.ref a), some (.ref b), some (.bl (decide (V.int (v % 2) = V.int 0))), some (.int y), some (.int u), v5, none, none] ∧ H1 = H' ∧ 0 ≤ u) (fun nx hn => ?_) ?_
    · walk_at "s"
      refine if_nb (fun hb => ?_) (fun hb => ?_)
      · walk_at "s"
        refine ask3 ⟨y, 48271, 2147483647, rfl, rfl, rfl, .inr (by decide), by decide, fun r r0 r1 => ?_⟩
        walk_at "s"
        refine ask3 ⟨r + 11, 6364136223846793005, 18446744073709551557, rfl, rfl, rfl, .inr (by decide), by decide, fun r' r0' r1' => ?_⟩
        walk_at "s"
        exact hn _ _ ⟨r', rfl, rfl, r0'⟩
      · exact hn _ _ ⟨_, rfl, rfl, by split <;> omega⟩
    · rintro σ1 H1 ⟨u, rfl, rfl, u0⟩
      generalize hdg : decide (V.int (v % 2) = V.int 0) = dg0
      walk_at "s"
      apply Box.mk
      refine (Box.out (whI (fun m σ H9 => ∃ (t : Nat) (u : Int) (ns' : List Int), σ = [some (.ref a), some (.ref b), some (.bl dg0), some (.int y), some (.int u), some (.int t), none, none] ∧ 0 ≤ u ∧ t ≤ 20 ∧ m = 20 - t ∧ Own H H9 [] [(q, .lst (ys.map V.int)), (b, .lst (ns'.map V.int))] ∧ (∀ n ∈ ns', 0 ≤ n ∧ n < 10 ^ 12) ∧ ns'.length ≤ 20 * i + t) 20 ⟨0, u, ns, rfl, u0, by omega, rfl, O', hn, hnl⟩ ?_))
      rintro m σ H3 ⟨t, u, ns', rfl, u0, t20, rfl, O3, hn3, hl3⟩
      refine cutT (fun bb H' => H' = H3 ∧ (bb = true → t < 20)) (fun post' hp => ?_) ?_
      · walk_at "s"
        refine if_ii (fun e => ?_) (fun e => ?_)
        · exact hp true H3 ⟨rfl, fun _ => by omega⟩
        · walk_at "s"
          refine if_b (fun e1 => ?_) (fun e1 => ?_)
          · walk_at "s"
            refine if_d (fun e2 => ?_) (fun e2 => ?_)
            · walk_at "s"
              exact hp _ H3 ⟨rfl, fun h => by have := of_decide_eq_true h; omega⟩
            · exact hp _ H3 ⟨rfl, nofun⟩
          · exact hp _ H3 ⟨rfl, nofun⟩
      · rintro bb H4 ⟨rfl, ht⟩
        refine if_b (fun hb => ?_) (fun hb => ?_)
        · have ht := ht hb
          have hiy : i < ys.length := (List.getElem?_eq_some_iff.mp hy).1
          have hsz : (List.map V.int ns').length < sizeLine := sz_lt (by rw [List.length_map]; omega)
          have hcd : CDivW u 1000000000000 := ⟨by decide, by decide +kernel⟩
          refine whN ?_
          walk_at "s"
          refine ⟨20 - (t + 1), by omega, t + 1, u / 1000000000000, ns' ++ [u % 1000000000000], rfl, Int.ediv_nonneg u0 (by decide), by omega, by omega, ?_, ?_, by rw [List.length_append, List.length_singleton]; omega⟩
          · rw [List.map_append]
            exact O3.wr (.there .here)
          · intro n hn
            rcases List.mem_append.mp hn with hn | hn
            · exact hn3 n hn
            · rw [List.mem_singleton.mp hn]
              exact ⟨Int.emod_nonneg _ (by decide), Int.emod_lt_of_pos _ (by decide)⟩
        · subst hdg
          exact ⟨⟨ns', _, _, _, rfl, O3, hn3, by omega⟩⟩
  · rintro σ H' ⟨ns, v3, v4, v5, rfl, O', hn, hnl⟩
    have hb1 : SqL K H' b (ns.map V.int) := SqL.of (O'.get (.tail _ (.head _)))
    obtain ⟨ms, hms, hml, hmem⟩ : ∃ ms : List Int, cutV (ns.map V.int) none (some 40) = ms.map V.int ∧ ms.length ≤ 40 ∧ ∀ n ∈ ms, 0 ≤ n ∧ n < 10 ^ 12 := by
      refine ⟨ns.take 40, (cutV_to _ 40).trans (List.map_take ..).symm, by rw [List.length_take]; omega, fun n h => hn n (List.mem_of_mem_take h)⟩
    walk_at "s"
    rw [hms]
    intro p hp
    have O2 := (O'.new (o := .lst (ms.map V.int)) hp).drop (.cons₂ _ (List.nil_sublist _))
    generalize upd H' p _ = H3 at O2 ⊢
    have hp3 : SqL K H3 p (ms.map V.int) := SqL.of (O2.get (.head _))
    walk_at "s"
    intro r0 hr0
    have ecall : [V.str "call", V.str "map", V.str "0", V.str "2", V.str "to", V.str "0"] = SV [wT "call", wT "map", dg 0, dg 2, wT "to", dg 0] := by
      simp only [SV, List.map_cons, List.map_nil, S_dg, SX.S_tl]
      rfl
    refine O2.sQ hr0 fun H4 O4 _ => ?_
    walk_at "s"
    intro r1 hr1
    refine O4.sQ hr1 fun H5 O5 _ => ?_
    have hp5 : SqL K H5 p (ms.map V.int) := SqL.of (O5.get (.tail _ (.tail _ (.head _))))
    have hmi : (ms.map V.int).length = ms.length := List.length_map ..
    walk_at "s"
    refine lcL (K := K) (a := p) (xs := ms.map V.int) (fun D i H6 => ∃ qs : List (Addr × List (List Nat)), qs.length = i ∧ (∀ x ∈ qs, StepW x.2 ∧ WsO x.2) ∧ Own H5 H6 [] ((D, .lst (qs.map fun p => V.ref p.1)) :: wcel qs)) (fun D hD => ⟨[], rfl, nofun, Own.start.new hD⟩) (fun D i H6 _ ⟨qs, _, _, O6⟩ => O6.sq hp5) ?_ ?_
    · rintro D i x H6 hx ⟨qs, hql, hqs, O6⟩
      obtain ⟨y, hy, rfl⟩ := map_get hx
      have hym := hmem y (List.mem_of_getElem? hy)
      have hi : i < ms.length := (List.getElem?_eq_some_iff.mp hy).1
      walk_at "s"
      refine ask2 ⟨y, (ms.length : Int) + 2, rfl, by rw [hmi], hym.1, hym.2, by omega, by omega, fun H7 b1 ws O7 hS hW => ?_⟩
      have O8 : Own H5 H7 [] ((b1, .lst (SV ws)) :: (D, .lst (qs.map fun p => V.ref p.1)) :: wcel qs) := O6.callE (e := [(b1, .lst (SV ws))]) .here0 O7
      have hD8 := O8.get (.tail _ (.head _))
      have hsz : (qs.map fun p => V.ref p.1).length < sizeLine := sz_lt (by rw [List.length_map]; omega)
      walk_at "s"
      refine ⟨qs ++ [(b1, ws)], by rw [List.length_append, hql]; rfl, fun x hx => ?_, ?_⟩
      · rcases List.mem_append.mp hx with hx | hx
        · exact hqs x hx
        · rw [List.mem_singleton.mp hx]; exact ⟨hS, hW⟩
      · have O9 := O8.wr (o' := .lst (qs.map (fun p => V.ref p.1) ++ [V.ref b1])) (.there .here)
        rw [List.map_append]
        refine O9.perm ?_
        rw [show wcel (qs ++ [(b1, ws)]) = wcel qs ++ [(b1, .lst (SV ws))] from List.map_append]
        exact (List.Perm.swap _ _ _).trans (List.Perm.cons _ (List.perm_append_singleton _ _).symm)
    · rintro D H6 ⟨qs, hql, hqs, O6⟩
      have O7 := O5.callE (e := (D, .lst (qs.map fun p => V.ref p.1)) :: wcel qs) .here0 (O6.eq (List.append_nil _).symm)
      have hD7 := O7.get (a := D) (.head _)
      have hr7 : H6 r1 = some (.lst [.ref r0]) := O7.get (List.mem_append_right _ (.head _))
      have hsz : [V.ref r0].length + (qs.map fun p => V.ref p.1).length ≤ sizeLine := sz_le (by rw [List.length_map, List.length_singleton]; omega)
      walk_at "s"
      intro z hz
      rw [ecall] at O7
      have O8 := O7.new (o := .lst ([V.ref r0] ++ qs.map fun p => V.ref p.1)) hz
      have O9 : Own H _ [] ((z, .lst ([V.ref r0] ++ qs.map fun p => V.ref p.1)) :: (wcel qs ++ [(r0, .lst (SV [wT "call", wT "map", dg 0, dg 2, wT "to", dg 0]))])) := O8.drop (.cons₂ _ (.cons _ (List.Sublist.append (List.Sublist.refl _) (.cons _ (.cons₂ _ (List.nil_sublist _))))))
      have hw0 : ∀ w ∈ [wT "call", wT "map", dg 0, dg 2, wT "to", dg 0], WdO w := fun w hw => by
        simp only [List.mem_cons, List.not_mem_nil, or_false] at hw
        rcases hw with rfl | rfl | rfl | rfl | rfl | rfl
        · exact wdO_lit (by decide +kernel)
        · exact wdO_lit (by decide +kernel)
        · exact wdO_dg (by decide)
        · exact wdO_dg (by decide)
        · exact wdO_lit (by decide +kernel)
        · exact wdO_dg (by decide)
      refine k _ z ((r0, [wT "call", wT "map", dg 0, dg 2, wT "to", dg 0]) :: qs) (O9.perm (.cons _ (List.perm_append_singleton _ _))) ⟨?_, ?_, ?_⟩
      · simp only [List.length_map, List.length_cons]; omega
      · simp only [List.length_map, List.length_cons]; omega
      · intro ws hws
        rw [List.map_cons] at hws
        rcases List.mem_cons.mp hws with rfl | hws
        · refine ⟨.call (m := "map") (as := [dg 0, dg 2]) (an := some (dg 0)) ⟨rfl, by decide, by decide, ?_, ?_, nofun⟩, wsO_of (by show 6 ≤ 7; decide) hw0⟩
          · intro z hz
            rcases List.mem_cons.mp hz with rfl | hz
            · exact ⟨(arO_dg (by decide)).a, by have := (dgO (n := 0) (by decide)).hi; omega⟩
            · rw [List.mem_singleton.mp hz]
              exact ⟨(arO_dg (by decide)).a, by have := (dgO (n := 2) (by decide)).hi; omega⟩
          · intro z hz
            cases hz
            exact ⟨0, by decide, by decide, rfl⟩
        · obtain ⟨x, hx, rfl⟩ := List.mem_map.mp hws
          exact hqs x hx

open SX (S)
/-! ## texts of rows -/
abbrev blk (n : Nat) : List Nat := List.replicate n 32
theorem wordsL_blank (z : List Nat) : wordsL (32 :: z) = wordsL z := by
  unfold wordsL
  rw [TL.spl_hit (by rfl)]
  rfl
theorem wordsL_blk (n : Nat) (z : List Nat) : wordsL (blk n ++ z) = wordsL z := by
  induction n with
  | zero => rfl
  | succ n ih => rw [show blk (n + 1) ++ z = 32 :: (blk n ++ z) from rfl, wordsL_blank, ih]
theorem wordsL_nil : wordsL [] = [] := by rfl
theorem wordsL_word {w z : List Nat} (h : 32 ∉ w) (n : w ≠ []) : wordsL (w ++ 32 :: z) = w :: wordsL z := by
  unfold wordsL
  rw [show w ++ 32 :: z = w ++ ([32] ++ z) from rfl, TL.spl_part1 h, List.nil_append, List.filter_cons, if_pos (decide_eq_true n)]
theorem wordsL_last {w : List Nat} (h : 32 ∉ w) (n : w ≠ []) : wordsL w = [w] := by
  unfold wordsL
  rw [TL.spl_last1 h, List.nil_append, List.filter_cons, if_pos (decide_eq_true n)]
  rfl
theorem wordsL_row (s b : Nat) : ∀ ws : List (List Nat), (∀ w ∈ ws, 32 ∉ w ∧ w ≠ []) → wordsL (TL.joinL (blk (s + 1)) ws ++ blk b) = ws
  | [], _ => by
    show wordsL ([] ++ blk b) = []
    rw [List.nil_append, ← List.append_nil (blk b), wordsL_blk, wordsL_nil]
  | [w], h => by
    obtain ⟨h1, h2⟩ := h w (.head _)
    show wordsL (w ++ blk b) = [w]
    cases b with
    | zero => rw [show blk 0 = [] from rfl, List.append_nil, wordsL_last h1 h2]
    | succ b => rw [show blk (b + 1) = 32 :: blk b from List.replicate_succ, wordsL_word h1 h2, ← List.append_nil (blk b), wordsL_blk, wordsL_nil]
  | w :: v :: r, h => by
    obtain ⟨h1, h2⟩ := h w (.head _)
    show wordsL ((w ++ (blk (s + 1) ++ TL.joinL (blk (s + 1)) (v :: r))) ++ blk b) = _
    rw [List.append_assoc, show blk (s + 1) = 32 :: blk s from List.replicate_succ, List.cons_append, List.cons_append, wordsL_word h1 h2, List.append_assoc, wordsL_blk, ← show blk (s + 1) = 32 :: blk s from List.replicate_succ, wordsL_row s b (v :: r) fun x hx => h x (.tail _ hx)]
theorem joinL_mem {c : Nat} {y : List Nat} : ∀ {ws : List (List Nat)}, c ∈ TL.joinL y ws → c ∈ y ∨ ∃ w ∈ ws, c ∈ w
  | [], h => by cases h
  | [w], h => .inr ⟨w, .head _, h⟩
  | w :: v :: r, h => by
    rcases List.mem_append.mp (show c ∈ w ++ (y ++ TL.joinL y (v :: r)) from h) with h | h
    · exact .inr ⟨w, .head _, h⟩
    · rcases List.mem_append.mp h with h | h
      · exact .inl h
      · rcases joinL_mem h with h | ⟨x, hx, h⟩
        · exact .inl h
        · exact .inr ⟨x, .tail _ hx, h⟩
theorem joinL_len {n k : Nat} {y : List Nat} (hy : y.length ≤ k) : ∀ {ws : List (List Nat)}, (∀ w ∈ ws, w.length ≤ n) → (TL.joinL y ws).length ≤ ws.length * (n + k)
  | [], _ => by simp [TL.joinL]
  | [w], h => by
    have := h w (.head _)
    show w.length ≤ 1 * (n + k)
    omega
  | w :: v :: r, h => by
    have h1 := h w (.head _)
    have h2 := joinL_len (n := n) hy (ws := v :: r) fun x hx => h x (.tail _ hx)
    show (w ++ (y ++ TL.joinL y (v :: r))).length ≤ _
    rw [List.length_append, List.length_append, List.length_cons (as := v :: r), Nat.succ_mul]
    omega
/-- the rows of a text drawn, and what their words are -/
structure RowsO (n : Nat) (rs : List (List Nat)) (p : List (List (List Nat))) : Prop where
  words : (rs.map wordsL).filter (fun r => decide (r ≠ [])) = p
  few : rs.length ≤ 2 * n
  fit : (rs.map List.length).sum ≤ 88 * n
  low : ∀ r ∈ rs, ∀ c ∈ r, c < 256 ∧ c ≠ 10
theorem RowsO.nil : RowsO 0 [] [] := ⟨rfl, by simp, by simp, nofun⟩
theorem wordsL_blk0 (n : Nat) : wordsL (blk n) = [] := by rw [← List.append_nil (blk n), wordsL_blk, wordsL_nil]
/-- rows that have been put in: perhaps one of blanks, then a row with words -/
theorem RowsO.put {n k : Nat} {rs : List (List Nat)} {p : List (List (List Nat))} (R : RowsO n rs p) (hk : k ≤ 2) {a s b : Nat} {ws : List (List Nat)} (ha : a ≤ 1) (hs : s ≤ 1) (hb : b ≤ 1) (hw : ws.length ≤ 7) (hn : ws ≠ [])
    (ok : ∀ w ∈ ws, (1 ≤ w.length ∧ w.length ≤ 10) ∧ ∀ c ∈ w, c < 256 ∧ c ≠ 32 ∧ c ≠ 10) (o : Bool) :
    RowsO (n + 1) (rs ++ (if o then [blk k] else []) ++ [blk a ++ TL.joinL (blk (s + 1)) ws ++ blk b]) (p ++ [ws]) := by
  have hrow : wordsL (blk a ++ TL.joinL (blk (s + 1)) ws ++ blk b) = ws := by
    rw [List.append_assoc, wordsL_blk, wordsL_row s b ws fun w hw => ⟨fun q => ((ok w hw).2 32 q).2.1 rfl, fun q => by have := (ok w hw).1.1; rw [q] at this; exact absurd this (by decide)⟩]
  have hlen : (blk a ++ TL.joinL (blk (s + 1)) ws ++ blk b).length ≤ 84 + 2 := by
    have h1 := joinL_len (n := 10) (k := 2) (y := blk (s + 1)) (by rw [List.length_replicate]; omega) (ws := ws) fun w hw => (ok w hw).1.2
    rw [List.length_append, List.length_append, List.length_replicate, List.length_replicate]
    have : ws.length * (10 + 2) ≤ 7 * 12 := Nat.mul_le_mul_right _ hw
    omega
  have hblk : ∀ m c, c ∈ blk m → c < 256 ∧ c ≠ 10 := fun m c hc => by rw [List.eq_of_mem_replicate hc]; decide
  refine ⟨?_, ?_, ?_, ?_⟩
  · rw [List.map_append, List.filter_append, List.map_append, List.filter_append, R.words]
    have e1 : (List.map wordsL (if o then [blk k] else [])).filter (fun r => decide (r ≠ [])) = [] := by
      cases o with
      | true => rw [if_pos rfl, List.map_singleton, wordsL_blk0]; rfl
      | false => rfl
    rw [e1, List.append_nil, List.map_singleton, hrow, List.filter_cons, if_pos (decide_eq_true hn)]
    rfl
  · have := R.few
    rw [List.length_append, List.length_append, List.length_singleton]
    cases o <;> simp <;> omega
  · have h1 := R.fit
    rw [List.map_append, List.sum_append_nat, List.map_append, List.sum_append_nat, List.map_singleton, List.sum_singleton]
    have : ((if o then [blk k] else []).map List.length).sum ≤ 2 := by
      cases o with
      | true => rw [if_pos rfl, List.map_singleton, List.sum_singleton, List.length_replicate]; exact hk
      | false => simp
    omega
  · intro r hr c hc
    rcases List.mem_append.mp hr with hr | hr
    · rcases List.mem_append.mp hr with hr | hr
      · exact R.low r hr c hc
      · cases o with
        | true => rw [if_pos rfl] at hr; rw [List.mem_singleton.mp hr] at hc; exact hblk k c hc
        | false => cases hr
    · rw [List.mem_singleton.mp hr] at hc
      rcases List.mem_append.mp hc with hc | hc
      · rcases List.mem_append.mp hc with hc | hc
        · exact hblk a c hc
        · rcases joinL_mem hc with hc | ⟨w, hw, hc⟩
          · exact hblk _ c hc
          · exact ⟨((ok w hw).2 c hc).1, ((ok w hw).2 c hc).2.2⟩
      · exact hblk b c hc
theorem rowsW_joined {n : Nat} {rs : List (List Nat)} {p : List (List (List Nat))} (R : RowsO n rs p) (hn : rs ≠ []) : rowsW (TL.joinL [10] rs) = p := by
  unfold rowsW
  rw [TL.spl_join hn fun r hr q => (R.low r hr 10 q).2 rfl, R.words]
theorem joinL_sum (y : List Nat) : ∀ ws : List (List Nat), (TL.joinL y ws).length ≤ (ws.map List.length).sum + ws.length * y.length
  | [] => by simp [TL.joinL]
  | [w] => by show w.length ≤ _; simp
  | w :: v :: r => by
    have h2 := joinL_sum y (v :: r)
    show (w ++ (y ++ TL.joinL y (v :: r))).length ≤ _
    rw [List.length_append, List.length_append, List.length_cons (as := v :: r), Nat.succ_mul, List.map_cons, List.sum_cons]
    omega
theorem spl_two (c : Nat) (y : List Nat) : ∀ (z acc : List Nat), TL.spl [c] 0 acc (z ++ c :: y) = TL.spl [c] 0 acc z ++ TL.spl [c] 0 [] y
  | [], acc => by
    rw [List.nil_append, TL.spl_hit (by simp [TL.pre]), TL.spl_nil]
    rfl
  | x :: z, acc => by
    by_cases h : x = c
    · subst h
      rw [List.cons_append, TL.spl_hit (by simp [TL.pre]), TL.spl_hit (by simp [TL.pre])]
      exact congrArg (acc :: ·) (spl_two x y z [])
    · rw [List.cons_append, TL.spl_miss (by simp [TL.pre, h]), TL.spl_miss (by simp [TL.pre, h])]
      exact spl_two c y z _
/-- blank rows ahead and behind -/
theorem rowsW_wide (z : List Nat) : rowsW (10 :: 10 :: (z ++ [10, 32, 32])) = rowsW z := by
  unfold rowsW
  rw [TL.spl_hit (by rfl)]
  show (([] :: TL.spl [10] 0 [] (10 :: (z ++ 10 :: [32, 32]))).map wordsL).filter _ = _
  rw [TL.spl_hit (by rfl)]
  show (([] :: [] :: TL.spl [10] 0 [] (z ++ 10 :: [32, 32])).map wordsL).filter _ = _
  rw [spl_two, List.map_cons, List.map_cons, wordsL_nil, List.filter_cons, if_neg (by decide), List.filter_cons, if_neg (by decide), List.map_append, List.filter_append]
  show _ ++ [] = _
  rw [List.append_nil]

open SX (S)
/-! ## the program's text -/
def sp__law_text_of (K : PySem.W.Frag) : Sp := sp2 fun x y H Q _ => ∃ (a : Addr) (ps : List (Addr × List (List Nat))) (seed : Int), x = .ref a ∧ y = .int seed ∧ H a = some (.lst (ps.map fun p => .ref p.1)) ∧ (∀ p ∈ ps, H p.1 = some (.lst (SV p.2))) ∧ PrO (ps.map (·.2)) ∧
  ∀ H' z, Own H H' [] [] → TxO z → z.length ≤ 3800 → rowsW z = ps.map (·.2) → Q (.str (S z)) H'
theorem repS_blk (n : Int) : repS " " n = S (blk n.toNat) := by
  unfold repS
  rw [show (" " : Str).cps.toList = [32] by decide +kernel]
  refine congrArg (fun l : List Nat => (⟨l.toArray⟩ : Str)) ?_
  induction n.toNat with
  | zero => rfl
  | succ n ih => rw [List.replicate_succ, List.flatten_cons, ih]; rfl
theorem join_S (y : List Nat) (ws : List (List Nat)) : Txt.join (S y) (ws.map S) = S (TL.joinL y ws) := by
  refine TL.ext_tl ?_
  rw [TL.join_eq, TL.tl_join, List.map_map]
  show TL.joinL y (ws.map fun w => w) = TL.joinL y ws
  rw [List.map_id']
theorem sum_leN {α : Type} {f : α → Nat} {n : Nat} : ∀ {l : List α}, (∀ x ∈ l, f x ≤ n) → (l.map f).sum ≤ l.length * n
  | [], _ => by simp
  | x :: l, h => by
    have h1 := h x (.head _)
    have h2 := sum_leN (l := l) fun y hy => h y (.tail _ hy)
    rw [List.map_cons, List.sum_cons, List.length_cons, Nat.succ_mul]
    omega
theorem map_ref_get {ps : List (Addr × List (List Nat))} {i : Nat} {p : Addr × List (List Nat)} (h : ps[i]? = some p) : atI (ps.map fun p => V.ref p.1) (i : Int) = some (.ref p.1) := atI_nat (by rw [List.getElem?_map, h]; rfl)
theorem sc__law_text_of : FnScope ["_law_program", "_law_seed", "_law_rows", "_law_k", "_law_drawn"] ["_law_program", "_law_seed"] (defScope s__law_text_of) := ⟨rfl, rfl, rfl, by decide +kernel, rfl, by decide +kernel, by decide +kernel⟩
theorem ok__law_text_of {P : Program} {w : World} {K : PySem.W.Frag} {mg : Str → Option Value} {base : Heap} (T : Txt w K mg) : Cee P w K mg base 2 (He.fAd K ("_law_text_of", none)) ["_law_program", "_law_seed"] (sp__law_text_of K) := by
  have c__law_mix : Cee P w K mg base 1 (He.fAd K ("_law_mix", none)) ["_law_cell", "_law_factor", "_law_prime"] (sp__law_mix K) := ok__law_mix T
  refine cee_of T.d__law_text_of sc__law_text_of (fun _ _ _ _ _ _ us hl => match us, hl with | [_, _], _ => rfl) (fun vs H Q E h => sp2_len h) (fun cdv A outer s H vs Q E hr h => ⟨_, (pss_cons (ps_set (i := 2) sc__law_text_of.nd rfl (Or.inl rfl) (pe_lst pa_nil)) (pss_cons (ps_for (passes_of rfl) rfl (PI.box (pi_range1 (by rfl) T.n_range (pa_cons (pe_callB call_len_seq (by rfl) T.n_len (by decide +kernel) (pa_cons (pv 0) pa_nil)) pa_nil))) (pg_name (i := 3) sc__law_text_of.nd rfl (Or.inl rfl)) (pss_cons (ps_set (i := 4) sc__law_text_of.nd rfl (Or.inl rfl) (pe_f c__law_mix (hr.mono (by decide)) (takes_of rfl rfl rfl rfl) (by rfl) T.g__law_mix (pa_cons (pe_op op_add (pe_op op_add (pv 1) (pe_op op_mul pe_int (pv 3))) pe_int) (pa_cons pe_int (pa_cons pe_int pa_nil))))) (pss_cons (PS.box (ps_if (pt_cmpR op_eq (pe_op op_mod (pv 4) pe_int) pe_int (nomark _)) (pss_one (ps_expr (pe_bm PySem.F.plainAttrs_list PySem.F.slot_list_append PySem.F.type_list_append mt_append (pv 2) (pa_cons (pe_op op_rep_str pe_str (pe_op op_mod (pe_op op_fdiv (pv 4) pe_int) pe_int)) pa_nil)))) pss_nil)) (pss_one (ps_expr (pe_bm PySem.F.plainAttrs_list PySem.F.slot_list_append PySem.F.type_list_append mt_append (pv 2) (pa_cons (pe_op op_add_str (pe_op op_add_str (pe_op op_rep_str pe_str (pe_op op_mod (pe_op op_fdiv (pv 4) pe_int) pe_int)) (pe_join (pe_op op_rep_str pe_str (pe_op op_add pe_int (pe_op op_mod (pe_op op_fdiv (pv 4) pe_int) pe_int))) (pe_ix ix_list (pv 0) (pv 3) (fun _ _ => rfl)))) (pe_op op_rep_str pe_str (pe_op op_mod (pe_op op_fdiv (pv 4) pe_int) pe_int))) pa_nil))))))) (pss_one (ps_ret (pe_join pe_str (pv 2)))))), ?_⟩)
  obtain ⟨v0, v1, rfl, h⟩ := h
  dsimp only [cxOf, L2.start]
  obtain ⟨a, ps, seed, rfl, rfl, ha, hps, hP, k⟩ := h
  have hl := hP.few
  have hl1 := hP.one
  rw [List.length_map] at hl hl1
  have hal : (ps.map fun p => V.ref p.1).length = ps.length := List.length_map ..
  have ha0 : SqL K H a (ps.map fun p => V.ref p.1) := SqL.of ha
  walk_at "s"
  intro b hb
  have O1 := (Own.start (H := H)).new (o := .lst []) hb
  have ha1 := O1.sq ha0
  generalize upd H b _ = H1 at O1 ha1 ⊢
  walk_at "s"
  rw [hal]
  refine forR (n := ps.length) (fun i σ H' => ∃ (rs : List (List Nat)) (v3 v4 : Option V), σ = [some (.ref a), some (.int seed), some (.ref b), v3, v4] ∧ Own H H' [] [(b, .lst (SV rs))] ∧ RowsO i rs ((ps.map (·.2)).take i)) ⟨[], _, _, rfl, O1, RowsO.nil⟩ ?_ ?_
  · rintro i σ H2 hi ⟨rs, v3, v4, rfl, O2, R⟩
    obtain ⟨p, hp⟩ : ∃ p, ps[i]? = some p := ⟨_, List.getElem?_eq_getElem hi⟩
    have hpm := List.mem_of_getElem? hp
    have hc2 : H2 p.1 = some (.lst (SV p.2)) := O2.fr0 (hps p hpm)
    have ha2 : SqL K H2 a (ps.map fun p => V.ref p.1) := SqL.of (O2.fr0 ha)
    have hat : atI (ps.map fun p => V.ref p.1) (0 + (i : Int)) = some (.ref p.1) := by rw [Int.zero_add]; exact map_ref_get hp
    have hb1 : (" " : Str).length ≤ 2000 := by decide +kernel
    obtain ⟨hS, hW⟩ := hP.ok p.2 (List.mem_map_of_mem hpm)
    walk_at "s"
    refine ask3 ⟨_, 48271, 2147483647, rfl, rfl, rfl, .inr (by decide), by decide, fun r r0 r1 => ?_⟩
    walk_at "s"
    refine cutS (fun σ1 H3 => ∃ (o : Bool) (j : Nat), j ≤ 2 ∧ σ1 = [some (.ref a), some (.int seed), some (.ref b), some (.int (0 + (i : Int))), some (.int r)] ∧ Own H H3 [] [(b, .lst (SV (rs ++ if o then [Ow.blk j] else [])))]) (fun nx hn => ?_) ?_
    · walk_at "s"
      refine if_ii (fun e => ?_) (fun e => ?_)
      · have hb2 : H2 b = some (.lst (SV rs)) := O2.get (.head _)
        have hsz : (SV rs).length < sizeLine := sz_lt (by rw [List.length_map]; have := R.few; omega)
        walk_at "s"
        rw [repS_blk]
        refine hn _ _ ⟨true, (r / 7 % 3).toNat, by omega, rfl, ?_⟩
        rw [if_pos rfl, show SV (rs ++ [Ow.blk (r / 7 % 3).toNat]) = SV rs ++ [V.str (S (Ow.blk (r / 7 % 3).toNat))] from List.map_append]
        exact O2.wr .here
      · exact hn _ _ ⟨false, 0, by decide, rfl, by rw [if_neg (by decide), List.append_nil]; exact O2⟩
    · rintro σ1 H3 ⟨o, j, hj, rfl, O3⟩
      have hc3 : SqL K H3 p.1 ((p.2.map S).map V.str) := SqL.of (by rw [← SV_map]; exact O3.fr0 (hps p hpm))
      have ha3 : SqL K H3 a (ps.map fun p => V.ref p.1) := SqL.of (O3.fr0 ha)
      have hb3 : H3 b = some (.lst (SV (rs ++ if o then [Ow.blk j] else []))) := O3.get (.head _)
      have hsz : (SV (rs ++ if o then [Ow.blk j] else [])).length < sizeLine := sz_lt (by rw [List.length_map, List.length_append]; have := R.few; cases o <;> simp <;> omega)
      walk_at "s"
      rw [repS_blk]
      walk_at "s"
      have hwl := hW.1
      have hwd : ∀ w ∈ p.2, WdO w := hW.2
      have hsum := sum_leN (f := List.length) (n := 10) (l := p.2) fun w hw => (hwd w hw).hi
      refine ⟨p.2.map S, rfl, rfl, .inl hc3, ?_, ?_⟩
      · rw [List.map_map, List.length_map, SX.S_len, List.length_replicate, show (fun x : PySem.Str => x.length) ∘ S = List.length from funext fun w => SX.S_len w]
        have : p.2.length * (1 + r / 42 % 2).toNat ≤ 7 * 2 := Nat.mul_le_mul hwl (by omega)
        omega
      rw [join_S, repS_blk]
      have hjl := joinL_len (n := 10) (k := 2) (y := Ow.blk (1 + r / 42 % 2).toNat) (by rw [List.length_replicate]; omega) (ws := p.2) fun w hw => (hwd w hw).hi
      have hj2 : p.2.length * (10 + 2) ≤ 7 * 12 := Nat.mul_le_mul_right _ hwl
      have hf1 : (S (Ow.blk (r / 21 % 2).toNat)).length + (S (TL.joinL (Ow.blk (1 + r / 42 % 2).toNat) p.2)).length ≤ sizeLine := sz_le (by rw [SX.S_len, SX.S_len, List.length_replicate]; omega)
      walk_at "s"
      rw [repS_blk, SX.S_cat]
      have hf2 : (S (Ow.blk (r / 21 % 2).toNat ++ TL.joinL (Ow.blk (1 + r / 42 % 2).toNat) p.2)).length + (S (Ow.blk (r / 84 % 2).toNat)).length ≤ sizeLine := sz_le (by rw [SX.S_len, SX.S_len, List.length_append, List.length_replicate, List.length_replicate]; omega)
      walk_at "s"
      rw [SX.S_cat]
      walk_at "s"
      have htake : (ps.map (·.2)).take (i + 1) = (ps.map (·.2)).take i ++ [p.2] := take_succ (by rw [List.getElem?_map, hp]; rfl)
      have hne : p.2 ≠ [] := by
        intro e
        rw [e] at hS
        cases hS with
        | call h => have := h.eq; rw [List.cons_append] at this; cases this
      refine ⟨rs ++ (if o then [Ow.blk j] else []) ++ [Ow.blk (r / 21 % 2).toNat ++ TL.joinL (Ow.blk (1 + r / 42 % 2).toNat) p.2 ++ Ow.blk (r / 84 % 2).toNat], _, _, rfl, ?_, ?_⟩
      · rw [show ∀ (l : List (List Nat)) (z : List Nat), SV (l ++ [z]) = SV l ++ [V.str (S z)] from fun l z => List.map_append]
        exact O3.wr .here
      · rw [htake, show (1 + r / 42 % 2).toNat = (r / 42 % 2).toNat + 1 by omega]
        exact R.put hj (by omega) (by omega) (by omega) hwl hne (fun w hw => ⟨⟨(hwd w hw).lo, (hwd w hw).hi⟩, (hwd w hw).low⟩) o
  · rintro σ H2 ⟨rs, v3, v4, rfl, O2, R⟩
    rw [List.take_of_length_le (by rw [List.length_map]; exact Nat.le_refl _)] at R
    have hb2 : SqL K H2 b ((rs.map S).map V.str) := SqL.of (by rw [← SV_map]; exact O2.get (.head _))
    have hfit := R.fit
    have hfew := R.few
    walk_at "s"
    refine ⟨rs.map S, rfl, rfl, .inl hb2, ?_, ?_⟩
    · rw [List.map_map, List.length_map, show (fun x : PySem.Str => x.length) ∘ S = List.length from funext fun w => SX.S_len w, show ("\n" : Str).length = 1 by decide +kernel]
      omega
    · rw [show ("\n" : Str) = S [10] by decide +kernel, join_S]
      have hlen := joinL_sum [10] rs
      rw [List.length_singleton] at hlen
      refine k _ _ (O2.drop (List.nil_sublist _)) ⟨by omega, fun c hc => ?_⟩ (by omega) (rowsW_joined R fun e => ?_)
      · rcases joinL_mem hc with hc | ⟨w, hw, hc⟩
        · rw [List.mem_singleton.mp hc]; decide
        · exact (R.low w hw c hc).1
      · have := R.words
        rw [e] at this
        have h2 := congrArg List.length this
        rw [List.length_map] at h2
        exact absurd h2 (by show ¬ 0 = _; omega)

open SX (S)
/-! ## the steps told -/
def sp__law_steps (K : PySem.W.Frag) : Sp := sp2 fun x y H Q _ => ∃ (f a : Addr) (ts ps : List (Addr × List (List Nat))), x = .ref f ∧ y = .ref a ∧ H f = some (.lst (ts.map fun p => .ref p.1)) ∧ H a = some (.lst (ps.map fun p => .ref p.1)) ∧ (∀ p ∈ ts, H p.1 = some (.tup (SV p.2))) ∧ (∀ p ∈ ps, H p.1 = some (.lst (SV p.2))) ∧ ts.map (·.2) = ps.map (·.2) ∧ ps.length ≤ 41 ∧ (∀ p ∈ ps, WsO p.2) ∧
  ∀ H', Own H H' [] [] → Q (.bl true) H'
theorem sc__law_steps : FnScope ["_law_found", "_law_program", "_law_k"] ["_law_found", "_law_program"] (defScope s__law_steps) := ⟨rfl, rfl, rfl, by decide +kernel, rfl, by decide +kernel, by decide +kernel⟩
theorem ok__law_steps {P : Program} {w : World} {K : PySem.W.Frag} {mg : Str → Option Value} {base : Heap} (T : Txt w K mg) : Cee P w K mg base 1 (He.fAd K ("_law_steps", none)) ["_law_found", "_law_program"] (sp__law_steps K) := by
  refine cee_of T.d__law_steps sc__law_steps (fun _ _ _ _ _ _ us hl => match us, hl with | [_, _], _ => rfl) (fun vs H Q E h => sp2_len h) (fun cdv A outer s H vs Q E hr h => ⟨_, (pss_cons (PS.box (ps_if (PW.pt (pw_or (pt_not (pt_val (pe_callB call_isi (by rfl) T.n_isinstance (by decide +kernel) (pa_cons (pv 0) (pa_cons (pe_bltn (v := .ty "list") rfl T.n_list (by decide +kernel) rfl) pa_nil))))) (pw_or1 (pt_cmpR op_ne (pe_callB call_len_seq (by rfl) T.n_len (by decide +kernel) (pa_cons (pv 0) pa_nil)) (pe_callB call_len_seq (by rfl) T.n_len (by decide +kernel) (pa_cons (pv 1) pa_nil)) (nomark _))))) (pss_one (ps_ret pe_bl)) pss_nil)) (pss_cons (ps_for (passes_of rfl) rfl (PI.box (pi_range1 (by rfl) T.n_range (pa_cons (pe_callB call_len_seq (by rfl) T.n_len (by decide +kernel) (pa_cons (pv 1) pa_nil)) pa_nil))) (pg_name (i := 2) sc__law_steps.nd rfl (Or.inl rfl)) (pss_one (ps_if (PW.pt (pw_or (pt_not (pt_val (pe_callB call_isi (by rfl) T.n_isinstance (by decide +kernel) (pa_cons (pe_ix ix_list (pv 0) (pv 2) (fun _ _ => rfl)) (pa_cons (pe_bltn (v := .ty "tuple") rfl T.n_tuple (by decide +kernel) rfl) pa_nil))))) (pw_or1 (pt_cmpR (op_neD hr.units) (pe_callTy call_list_of (by rfl) T.n_list (by decide +kernel) (pa_cons (pe_ix ix_list (pv 0) (pv 2) (fun _ _ => rfl)) pa_nil)) (pe_ix ix_list (pv 1) (pv 2) (fun _ _ => rfl)) (nomark _))))) (pss_one (ps_ret pe_bl)) pss_nil))) (pss_one (ps_ret pe_bl)))), ?_⟩)
  obtain ⟨v0, v1, rfl, h⟩ := h
  dsimp only [cxOf, L2.start]
  obtain ⟨f, a, ts, ps, rfl, rfl, hf, ha, hts, hps, he, hl, hW, k⟩ := h
  have hf0 : SqL K H f (ts.map fun p => V.ref p.1) := SqL.of hf
  have ha0 : SqL K H a (ps.map fun p => V.ref p.1) := SqL.of ha
  have hll := congrArg List.length he
  rw [List.length_map, List.length_map] at hll
  have hfl : (ts.map fun p => V.ref p.1).length = ts.length := List.length_map ..
  have hal : (ps.map fun p => V.ref p.1).length = ps.length := List.length_map ..
  walk_at "b"
  refine if_nii (fun e => absurd (by omega) e) (fun _ => ?_)
  walk_at "s"
  rw [hal]
  refine forR (n := ps.length) (fun i σ H' => ∃ (v2 : Option V), σ = [some (.ref f), some (.ref a), v2] ∧ Own H H' [] []) ⟨_, rfl, Own.start⟩ ?_ ?_
  · rintro i σ H2 hi ⟨v2, rfl, O2⟩
    obtain ⟨p, hp⟩ : ∃ p, ps[i]? = some p := ⟨_, List.getElem?_eq_getElem hi⟩
    obtain ⟨q, hq⟩ : ∃ q, ts[i]? = some q := ⟨_, List.getElem?_eq_getElem (by omega)⟩
    have hqp : q.2 = p.2 := by
      have := congrArg (fun l : List (List (List Nat)) => l[i]?) he
      simp only [List.getElem?_map, hp, hq] at this
      exact Option.some.inj this
    have hf2 : SqL K H2 f (ts.map fun p => V.ref p.1) := SqL.of (O2.fr0 hf)
    have ha2 : SqL K H2 a (ps.map fun p => V.ref p.1) := SqL.of (O2.fr0 ha)
    have haf : atI (ts.map fun p => V.ref p.1) (0 + (i : Int)) = some (.ref q.1) := by rw [Int.zero_add]; exact map_ref_get hq
    have hat : atI (ps.map fun p => V.ref p.1) (0 + (i : Int)) = some (.ref p.1) := by rw [Int.zero_add]; exact map_ref_get hp
    have hq2 : H2 q.1 = some (.tup (SV q.2)) := O2.fr0 (hts q (List.mem_of_getElem? hq))
    have hp2 : H2 p.1 = some (.lst (SV p.2)) := O2.fr0 (hps p (List.mem_of_getElem? hp))
    have hw := hW p (List.mem_of_getElem? hp)
    walk_at "s"
    intro l hl
    have O3 := O2.new (o := .lst (SV q.2)) hl
    have ha3 := O3.sq ha0
    have hp3 : upd H2 l (.lst (SV q.2)) p.1 = some (.lst (SV p.2)) := (O2.self.new (o := .lst (SV q.2)) hl).fr0 hp2
    generalize upd H2 l _ = H3 at O3 ha3 hp3 ⊢
    have hl3 : H3 l = some (.lst (SV p.2)) := by rw [← hqp]; exact O3.get (.head _)
    have htx : ∀ n ∈ p.2, TxO n := fun n hn => ⟨by have := (hw.2 n hn).hi; omega, fun c hc => ((hw.2 n hn).low c hc).1⟩
    walk_at "s"
    refine ne_SV htx htx hl3 hp3 ?_
    rw [decide_eq_true rfl]
    walk_at "s"
    exact ⟨⟨_, rfl, O3.drop (List.nil_sublist _)⟩⟩
  · rintro σ H2 ⟨v2, rfl, O2⟩
    walk_at "s"
    exact k _ O2

open SX (S)
/-! ## law k75 -/
def sp_law (K : PySem.W.Frag) : Sp := sp1 fun x H Q _ => ∃ (a : Addr) (xs : List Int), x = .ref a ∧ SqL K H a (xs.map V.int) ∧ xs.length ≤ 63 ∧ ∀ H', Q (.bl true) H'
theorem law_in {K : PySem.W.Frag} (H : Hp) (a : Addr) (ns : List Int) (hl : ns.length ≤ 63) (hz : ∀ z ∈ ns, Builtin.Int.intBits z ≤ 1048576) (hS : SqL K H a (ns.map V.int)) :
    ∃ (a' : Addr) (xs : List Int), V.ref a = .ref a' ∧ SqL K H a' (xs.map V.int) ∧ xs.length ≤ 63 ∧ ∀ H' : Hp, (fun (v : V) (_ : Hp) => v = .bl true) (.bl true) H' := ⟨a, ns, rfl, hS, hl, fun _ => rfl⟩
theorem sc_law : FnScope ["_law_script", "_law_program", "_law_text", "_law_found"] ["_law_script"] (defScope s_law) := ⟨rfl, rfl, rfl, by decide +kernel, rfl, by decide +kernel, by decide +kernel⟩
theorem ok_law {P : Program} {w : World} {K : PySem.W.Frag} {mg : Str → Option Value} {base : Heap} (T : Txt w K mg) {fd : FuncData} (F : FunD K "law" "law" (defArgs s_law) (defBody s_law) (defScope s_law) [] [] (He.fAd K ("law", none)) fd) : FnOk P w K mg base (L2.CX P w) 8 (He.fAd K ("law", none)) fd ["_law_script"] (bx (sp_law K)) := by
  have c__law_program_by : Cee P w K mg base 5 (He.fAd K ("_law_program_by", none)) ["_law_script"] (sp__law_program_by K) := ok__law_program_by T
  have c__law_text_of : Cee P w K mg base 2 (He.fAd K ("_law_text_of", none)) ["_law_program", "_law_seed"] (sp__law_text_of K) := ok__law_text_of T
  have c__law_cell_at : Cee P w K mg base 1 (He.fAd K ("_law_cell_at", none)) ["_law_script", "_law_k"] (sp__law_cell_at K) := ok__law_cell_at T
  have c_read_program : Cee P w K mg base 7 (He.fAd K ("read_program", none)) ["text"] (sp_read_program K) := ok_read_program T
  have c__law_steps : Cee P w K mg base 1 (He.fAd K ("_law_steps", none)) ["_law_found", "_law_program"] (sp__law_steps K) := ok__law_steps T
  refine fn_of F sc_law (fun vs H Q E h => sp1_len h) (fun cdv A outer s H vs Q E hr h => ⟨_, (pss_cons (ps_set (i := 1) sc_law.nd rfl (Or.inl rfl) (pe_f c__law_program_by (hr.mono (by decide)) (takes_of rfl rfl rfl rfl) (by rfl) T.g__law_program_by (pa_cons (pv 0) pa_nil))) (pss_cons (ps_set (i := 2) sc_law.nd rfl (Or.inl rfl) (pe_f c__law_text_of (hr.mono (by decide)) (takes_of rfl rfl rfl rfl) (by rfl) T.g__law_text_of (pa_cons (pv 1) (pa_cons (pe_f c__law_cell_at (hr.mono (by decide)) (takes_of rfl rfl rfl rfl) (by rfl) T.g__law_cell_at (pa_cons (pv 0) (pa_cons pe_int pa_nil))) pa_nil)))) (pss_cons (ps_set (i := 3) sc_law.nd rfl (Or.inl rfl) (pe_f c_read_program (hr.mono (by decide)) (takes_of rfl rfl rfl rfl) (by rfl) T.g_read_program (pa_cons (pv 2) pa_nil))) (pss_cons (ps_if (pt_not (pt_val (pe_f c__law_steps (hr.mono (by decide)) (takes_of rfl rfl rfl rfl) (by rfl) T.g__law_steps (pa_cons (pv 3) (pa_cons (pv 1) pa_nil))))) (pss_one (ps_ret pe_bl)) pss_nil) (pss_cons (ps_expr (pe_bm PySem.F.plainAttrs_list PySem.F.slot_list_append PySem.F.type_list_append mt_append (pv 3) (pa_cons (pe_tup (pa_cons pe_str pa_nil)) pa_nil))) (pss_cons (ps_asg (pe_tup (pa_cons pe_str pa_nil)) (pg_sub (pv 3) pe_int set_list)) (pss_cons (PS.box (ps_if (PW.pt (pw_or (pt_not (pt_val (pe_f c__law_steps (hr.mono (by decide)) (takes_of rfl rfl rfl rfl) (by rfl) T.g__law_steps (pa_cons (pe_f c_read_program (hr.mono (by decide)) (takes_of rfl rfl rfl rfl) (by rfl) T.g_read_program (pa_cons (pv 2) pa_nil)) (pa_cons (pv 1) pa_nil))))) (pw_or1 (pt_not (pt_val (pe_f c__law_steps (hr.mono (by decide)) (takes_of rfl rfl rfl rfl) (by rfl) T.g__law_steps (pa_cons (pe_f c_read_program (hr.mono (by decide)) (takes_of rfl rfl rfl rfl) (by rfl) T.g_read_program (pa_cons (pe_op op_add_str (pe_op op_add_str pe_str (pv 2)) pe_str) pa_nil)) (pa_cons (pv 1) pa_nil)))))))) (pss_one (ps_ret pe_bl)) pss_nil)) (pss_one (ps_ret (pe_and (pe_cmpR (op_eqD hr.units) (pe_f c_read_program (hr.mono (by decide)) (takes_of rfl rfl rfl rfl) (by rfl) T.g_read_program (pa_cons pe_str pa_nil)) (pe_lst pa_nil) (nomark _)) (pe_one (pe_cmpR (op_eqD hr.units) (pe_f c_read_program (hr.mono (by decide)) (takes_of rfl rfl rfl rfl) (by rfl) T.g_read_program (pa_cons pe_str pa_nil)) (pe_lst pa_nil) (nomark _))))))))))))), ?_⟩)
  obtain ⟨v0, rfl, h⟩ := h
  dsimp only [cxOf, L2.start]
  obtain ⟨a, xs, rfl, ha, hx, k⟩ := h
  walk_at "s"
  refine ask1 ⟨a, xs, rfl, ha, hx, fun H1 b ps O1 hP => ?_⟩
  have ha1 := O1.sq ha
  have hlen := hP.few
  rw [List.length_map] at hlen
  walk_at "s"
  refine ask2 ⟨a, xs, 1, rfl, rfl, by decide, ha1, fun v => ?_⟩
  walk_at "s"
  have hb1 : H1 b = some (.lst (ps.map fun p => V.ref p.1)) := O1.get (.head _)
  have hps1 : ∀ p ∈ ps, H1 p.1 = some (.lst (SV p.2)) := fun p hp => O1.get (.tail _ (List.mem_map_of_mem (f := fun p : Addr × List (List Nat) => (p.1, HO.lst (SV p.2))) hp))
  refine ask2 ⟨b, ps, v, rfl, rfl, hb1, hps1, hP, fun H2 z O2 hz hzl hrw => ?_⟩
  have hSt : ∀ r ∈ rowsW z, StepW r := fun r hr => (hP.ok r (hrw ▸ hr)).1
  have hWs : ∀ p ∈ ps, WsO p.2 := fun p hp => (hP.ok _ (List.mem_map_of_mem hp)).2
  walk_at "s"
  refine ask1 ⟨z, rfl, hz, hSt, fun H3 f ts O3 hts => ?_⟩
  have P3 : Own H1 H3 [] ((f, .lst (ts.map fun p => V.ref p.1)) :: tcel ts) := (O2.callE (e := (f, .lst (ts.map fun p => V.ref p.1)) :: tcel ts) .here0 (O3.eq (List.append_nil _).symm)).eq (List.append_nil _)
  have hb3 : H3 b = some (.lst (ps.map fun p => V.ref p.1)) := P3.fr0 hb1
  have hps3 : ∀ p ∈ ps, H3 p.1 = some (.lst (SV p.2)) := fun p hp => P3.fr0 (hps1 p hp)
  have hf3 : H3 f = some (.lst (ts.map fun p => V.ref p.1)) := P3.get (.head _)
  have hts3 : ∀ p ∈ ts, H3 p.1 = some (.tup (SV p.2)) := fun p hp => P3.get (.tail _ (List.mem_map_of_mem (f := fun p : Addr × List (List Nat) => (p.1, HO.tup (SV p.2))) hp))
  walk_at "s"
  refine ask2 ⟨f, b, ts, ps, rfl, rfl, hf3, hb3, hts3, hps3, hts.trans hrw, hlen, hWs, fun H4 O4 => ?_⟩
  have hf4 : H4 f = some (.lst (ts.map fun p => V.ref p.1)) := O4.fr0 hf3
  have P4 : Own H1 H4 [] ((f, .lst (ts.map fun p => V.ref p.1)) :: tcel ts) := P3.callE (e := []) .here0 O4
  have hsz : (ts.map fun p => V.ref p.1).length < sizeLine := sz_lt (by have := congrArg List.length (hts.trans hrw); rw [List.length_map, List.length_map] at this; rw [List.length_map]; omega)
  walk_at "s"
  intro t1 ht1
  have P5 := P4.new (o := .tup [.str "back"]) ht1
  generalize upd H4 t1 _ = H5 at P5 ⊢
  have hf5 : H5 f = some (.lst (ts.map fun p => V.ref p.1)) := P5.get (.tail _ (.head _))
  walk_at "s"
  have P6 := P5.wr (o' := .lst (ts.map (fun p => V.ref p.1) ++ [V.ref t1])) (.there .here)
  generalize upd H5 f _ = H6 at P6 ⊢
  intro t2 ht2
  have P7 := P6.new (o := .tup [.str "back"]) ht2
  generalize upd H6 t2 _ = H7 at P7 ⊢
  have hf7 : H7 f = some (.lst (ts.map (fun p => V.ref p.1) ++ [V.ref t1])) := P7.get (.tail _ (.tail _ (.head _)))
  have hix : ixN (ts.map (fun p => V.ref p.1) ++ [V.ref t1]).length 0 = some 0 := ix_at (i := 0) (by rw [List.length_append, List.length_singleton]; omega)
  walk_at "s"
  have P8 : Own H1 _ [] [] := (P7.wr (o' := .lst ((ts.map (fun p => V.ref p.1) ++ [V.ref t1]).set 0 (.ref t2))) (.there (.there .here))).drop (List.nil_sublist _)
  clear P3 P4 P5 P6 P7 hf3 hts3 hf4 hf5 hf7 O3 O4
  generalize upd H7 f _ = H8 at P8 ⊢
  walk_at "b"
  refine ask1 ⟨z, rfl, hz, hSt, fun H9 f2 ts2 O9 hts2 => ?_⟩
  have P9 : Own H1 H9 [] ((f2, .lst (ts2.map fun p => V.ref p.1)) :: tcel ts2) := (P8.callE (e := (f2, .lst (ts2.map fun p => V.ref p.1)) :: tcel ts2) .here0 (O9.eq (List.append_nil _).symm)).eq (List.append_nil _)
  have hb9 : H9 b = some (.lst (ps.map fun p => V.ref p.1)) := P9.fr0 hb1
  have hps9 : ∀ p ∈ ps, H9 p.1 = some (.lst (SV p.2)) := fun p hp => P9.fr0 (hps1 p hp)
  have hf9 : H9 f2 = some (.lst (ts2.map fun p => V.ref p.1)) := P9.get (.head _)
  have hts9 : ∀ p ∈ ts2, H9 p.1 = some (.tup (SV p.2)) := fun p hp => P9.get (.tail _ (List.mem_map_of_mem (f := fun p : Addr × List (List Nat) => (p.1, HO.tup (SV p.2))) hp))
  walk_at "s"
  refine ask2 ⟨f2, b, ts2, ps, rfl, rfl, hf9, hb9, hts9, hps9, hts2.trans hrw, hlen, hWs, fun H10 O10 => ?_⟩
  have P10 : Own H1 H10 [] [] := (P9.drop (List.nil_sublist _)).callE (e := []) .here0 O10
  clear P9 hb9 hps9 hf9 hts9 O10 O9 P8
  have hl2 : ("\n\n" : Str).length = 2 := by decide +kernel
  have hl3 : ("\n  " : Str).length = 3 := by decide +kernel
  have hlz := SX.S_len z
  have hlz2 := SX.S_len ([10, 10] ++ z)
  rw [List.length_append, show ([10, 10] : List Nat).length = 2 from rfl] at hlz2
  have hL1 : ("\n\n" : Str).length + (S z).length ≤ sizeLine := sz_le (by omega)
  walk_at "s"
  rw [show ("\n\n" : Str) = S [10, 10] by decide +kernel, SX.S_cat]
  have hL2 : (S ([10, 10] ++ z)).length + ("\n  " : Str).length ≤ sizeLine := sz_le (by omega)
  walk_at "s"
  rw [show ("\n  " : Str) = S [10, 32, 32] by decide +kernel, SX.S_cat]
  have hz2 : TxO ([10, 10] ++ z ++ [10, 32, 32]) := ⟨by rw [List.length_append, List.length_append]; show 2 + z.length + 3 ≤ 5000; omega, fun c hc => by
    rcases List.mem_append.mp hc with hc | hc
    · rcases List.mem_append.mp hc with hc | hc
      · simp at hc; omega
      · exact hz.low c hc
    · simp at hc; omega⟩
  have hrw2 : rowsW ([10, 10] ++ z ++ [10, 32, 32]) = rowsW z := by
    rw [List.append_assoc]
    exact rowsW_wide z
  refine ask1 ⟨_, rfl, hz2, fun r hr => hSt r (hrw2 ▸ hr), fun H11 f3 ts3 O11 hts3 => ?_⟩
  have P11 : Own H1 H11 [] ((f3, .lst (ts3.map fun p => V.ref p.1)) :: tcel ts3) := (P10.callE (e := (f3, .lst (ts3.map fun p => V.ref p.1)) :: tcel ts3) .here0 (O11.eq (List.append_nil _).symm)).eq (List.append_nil _)
  have hb11 : H11 b = some (.lst (ps.map fun p => V.ref p.1)) := P11.fr0 hb1
  have hps11 : ∀ p ∈ ps, H11 p.1 = some (.lst (SV p.2)) := fun p hp => P11.fr0 (hps1 p hp)
  have hf11 : H11 f3 = some (.lst (ts3.map fun p => V.ref p.1)) := P11.get (.head _)
  have hts11 : ∀ p ∈ ts3, H11 p.1 = some (.tup (SV p.2)) := fun p hp => P11.get (.tail _ (List.mem_map_of_mem (f := fun p : Addr × List (List Nat) => (p.1, HO.tup (SV p.2))) hp))
  walk_at "s"
  refine ask2 ⟨f3, b, ts3, ps, rfl, rfl, hf11, hb11, hts11, hps11, (hts3.trans hrw2).trans hrw, hlen, hWs, fun H12 O12 => ?_⟩
  walk_at "s"
  have e0 : rowsW [] = [] := by decide +kernel
  have e1 : rowsW [32, 32, 10, 32, 10] = [] := by decide +kernel
  refine ask1 ⟨[], by rw [show ("" : Str) = S [] by decide +kernel], ⟨by decide, nofun⟩, fun r hr => (by rw [e0] at hr; cases hr), fun H13 f4 ts4 O13 hts4 => ?_⟩
  have hn4 : ts4 = [] := List.map_eq_nil_iff.mp (hts4.trans e0)
  subst hn4
  have hf13 : H13 f4 = some (.lst []) := O13.get (.head _)
  walk_at "s"
  intro l1 hl1
  have Q1 := (Own.start (H := H13)).new (o := .lst []) hl1
  refine eq_SV (ns := []) (ms := []) nofun nofun (Q1.fr0 hf13) (Q1.get (.head _)) ?_
  generalize upd H13 l1 _ = H14
  rw [decide_eq_true rfl]
  walk_at "s"
  refine ask1 ⟨[32, 32, 10, 32, 10], by rw [show ("  \n \n" : Str) = S [32, 32, 10, 32, 10] by decide +kernel], ⟨by decide, by decide⟩, fun r hr => (by rw [e1] at hr; cases hr), fun H15 f5 ts5 O15 hts5 => ?_⟩
  have hn5 : ts5 = [] := List.map_eq_nil_iff.mp (hts5.trans e1)
  subst hn5
  have hf15 : H15 f5 = some (.lst []) := O15.get (.head _)
  walk_at "s"
  intro l2 hl2
  have Q2 := (Own.start (H := H15)).new (o := .lst []) hl2
  refine eq_SV (ns := []) (ms := []) nofun nofun (Q2.fr0 hf15) (Q2.get (.head _)) ?_
  rw [decide_eq_true rfl]
  exact k _

end Ow
open PySem PySem.W PySem.Calls PyProof.Rows
set_option maxHeartbeats 0
set_option maxRecDepth 100000 in
theorem PySem.Challenge.cw_ownroom_k75_programs_read_holds : PySem.Challenge.rw_ownroom_k75_programs_read.Holds := by
  w_on; o_law
  refine Ow.head_at (r := OpenLaw.row PySem.Challenge.rw_ownroom_k75_programs_read) (q := view (OpenLaw.row PySem.Challenge.rw_ownroom_k75_programs_read).prog [29]) (H := Ow.hk) (loose := Ow.loose) (d := HandSHeadRun.topDef (OpenLaw.row PySem.Challenge.rw_ownroom_k75_programs_read).prog 29) (kwd := [])
    (by kernel_rfl) (fun s => by kernel_rfl) Ow.run_top Ow.see_l Ow.see_s Ow.see (by kernel_rfl) (by kernel_rfl) (by kernel_rfl) (by rfl) (by first | assumption | decide +kernel) (by decide +kernel) ⟨rfl, rfl, rfl, rfl, rfl, by decide +kernel⟩ ?hw ?hc
  case hw => w_witness2
  case hc =>
    refine Ow.walk_end (l := PySem.Challenge.rw_ownroom_k75_programs_read) (n := 63) (k := 8) (x := "_law_script") rfl (by decide) (by kernel_rfl) ⟨rfl, by decide, by decide⟩ ?F
    intro w mg fa h Y G hmg0
    obtain ⟨K, KX, c⟩ := Y
    have hmg : mg ("law" : PySem.Str) = some (.ref fa) := by
      have e : (HandSHeadRun.topDef (OpenLaw.row PySem.Challenge.rw_ownroom_k75_programs_read).prog 29).name = ("law" : PySem.Str) := by kernel_rfl
      rw [← e]
      exact hmg0
    have T := Ow.txt_mk KX G c.t.d c.more c.t
    have e := hmg.symm.trans T.g_law
    cases e
    obtain ⟨fd, F⟩ := T.d_law
    have b := L2.FunD.bindsA (ps := ["_law_script"]) F fun _ _ _ _ _ _ us hl => match us, hl with | [_], _ => rfl
    exact ⟨K, fd, Ow.bx (Ow.sp_law K), KX, fun s v => b s [v] rfl, fun H a ns hl hz hS => ⟨⟨_, rfl, Ow.law_in H a ns hl hz hS⟩⟩, fun base _ _ => Ow.ok_law T F⟩
