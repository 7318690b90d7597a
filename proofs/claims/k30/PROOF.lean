import PyProof.Rows.All
import Wide.All
import OpenK.AllK
import Wide.FinOn
import HandS.ForMost
import HandS.ForExc
import HandS.More
import HandS.SortInts
import HandS.Conv
import HandS.Defaults
import HandS.IsInst
import HandS.ExcValue
import HandS.ExcIs
import HandS.Flow
import HandS.Codes
import HandS.TupLen
import HandS.StrMore
import HandS.SetFor
import HandS.Style
import HandS.DictTup
import HandS.ListItems
import HandS.TupAny
import HandS.Finally
import HandS.Wide
import HandS.Replace
import HandS.Zip
import HandS.Walk
import HandS.DeepEq
import HandS.Head0
import HandS.Head1
import HandS.Head2
import HandS.HeadEnd
import HandS.HeadHook1
import HandS.HeadHook2
import HandS.HeadHook3
import HandS.HeadHook4
import HandS.EndBits
import HandS.HotCalls
import HandS.ExcCtx
import HandS.Small
import HandS.Strs
import HandS.Sort
import PyProof.LongRange
import PySem.Challenge.RW_ownroom_k30_paths_and_names
set_option Elab.async false
set_option linter.all false
set_option maxRecDepth 100000
set_option pp.mvars false
set_option pp.deepTerms false
set_option pp.deepTerms.threshold 10
set_option pp.maxSteps 1500
set_option maxHeartbeats 4000000
namespace Ow
open PySem PySem.Spec PyProof.Rows L2
/-! ## My own layer: what a def owns (cells), a def that may be called, readings that stop at calls and loops -/
/-! ### cells -/
abbrev Cells := List (Addr × HO)
def adr (cs : Cells) : List Addr := cs.map Prod.fst
/-- from H0, of which the addresses A are ours, we have come to H; the cells cs stand there, each once; the rest of H0 is as it was, new cells were free in H0, tuples stay -/
structure Own (H0 H : Hp) (A : List Addr) (cs : Cells) : Prop where
  at_ : ∀ a o, (a, o) ∈ cs → H a = some o
  nd : (adr cs).Nodup
  fr : ∀ b o, H0 b = some o → b ∉ A → H b = some o
  nw : ∀ b, b ∈ adr cs → b ∈ A ∨ H0 b = none
  tp : ∀ b xs, H0 b = some (.tup xs) → H b = some (.tup xs)
theorem adr_cons {c : Addr × HO} {r : Cells} : adr (c :: r) = c.1 :: adr r := rfl
theorem adr_app {s r : Cells} : adr (s ++ r) = adr s ++ adr r := List.map_append
theorem Own.start {H : Hp} (h : ∀ b xs, H b = some (.tup xs) → H b = some (.tup xs) := fun _ _ h => h) : Own H H [] [] :=
  ⟨fun _ _ m => (nomatch m), List.nodup_nil, fun _ _ h _ => h, fun _ m => (nomatch m), h⟩
/-- where the cell of an address stands, and the row with another thing there -/
inductive At : Cells → Addr → HO → HO → Cells → Prop
  | here {a o o' r} : At ((a, o) :: r) a o o' ((a, o') :: r)
  | there {c r a o o' r'} : At r a o o' r' → At (c :: r) a o o' (c :: r')
  | app {s r a o o' r'} : At r a o o' r' → At (s ++ r) a o o' (s ++ r')
  | appl {s r a o o' s'} : At s a o o' s' → At (s ++ r) a o o' (s' ++ r)
theorem At.mem {cs cs' : Cells} {a : Addr} {o o' : HO} (h : At cs a o o' cs') : (a, o) ∈ cs := by
  induction h with
  | here => exact List.mem_cons_self
  | there _ ih => exact List.mem_cons_of_mem _ ih
  | app _ ih => exact List.mem_append_right _ ih
  | appl _ ih => exact List.mem_append_left _ ih
theorem At.adr {cs cs' : Cells} {a : Addr} {o o' : HO} (h : At cs a o o' cs') : adr cs' = adr cs := by
  induction h with
  | here => rfl
  | there _ ih => rw [adr_cons, adr_cons, ih]
  | app _ ih => rw [adr_app, adr_app, ih]
  | appl _ ih => rw [adr_app, adr_app, ih]
theorem At.of {cs cs' : Cells} {a : Addr} {o o' : HO} (h : At cs a o o' cs') (nd : (Ow.adr cs).Nodup) : ∀ b u, (b, u) ∈ cs' → (b = a ∧ u = o') ∨ (b ≠ a ∧ (b, u) ∈ cs) := by
  induction h with
  | here =>
    intro b u m
    rcases List.mem_cons.mp m with e | m2
    · cases e; exact .inl ⟨rfl, rfl⟩
    · refine .inr ⟨fun e => ?_, List.mem_cons_of_mem _ m2⟩
      subst e
      exact (List.nodup_cons.mp nd).1 (List.mem_map.mpr ⟨_, m2, rfl⟩)
  | @there c r a o o' r' h ih =>
    intro b u m
    obtain ⟨n1, n2⟩ := List.nodup_cons.mp nd
    rcases List.mem_cons.mp m with e | m
    · subst e
      refine .inr ⟨fun e => ?_, List.mem_cons_self⟩
      exact n1 (List.mem_map.mpr ⟨_, h.mem, e.symm⟩)
    · rcases ih n2 b u m with z | ⟨z1, z2⟩
      · exact .inl z
      · exact .inr ⟨z1, List.mem_cons_of_mem _ z2⟩
  | @app s r a o o' r' h ih =>
    intro b u m
    rw [adr_app] at nd
    obtain ⟨n1, n2, n3⟩ := List.nodup_append.mp nd
    rcases List.mem_append.mp m with m | m
    · refine .inr ⟨fun e => ?_, List.mem_append_left _ m⟩
      subst e
      exact n3 _ (List.mem_map.mpr ⟨_, m, rfl⟩) _ (List.mem_map.mpr ⟨_, h.mem, rfl⟩) rfl
    · rcases ih n2 b u m with z | ⟨z1, z2⟩
      · exact .inl z
      · exact .inr ⟨z1, List.mem_append_right _ z2⟩
  | @appl s r a o o' s' h ih =>
    intro b u m
    rw [adr_app] at nd
    obtain ⟨n1, n2, n3⟩ := List.nodup_append.mp nd
    rcases List.mem_append.mp m with m | m
    · rcases ih n1 b u m with z | ⟨z1, z2⟩
      · exact .inl z
      · exact .inr ⟨z1, List.mem_append_left _ z2⟩
    · refine .inr ⟨fun e => ?_, List.mem_append_right _ m⟩
      subst e
      exact n3 _ (List.mem_map.mpr ⟨_, h.mem, rfl⟩) _ (List.mem_map.mpr ⟨_, m, rfl⟩) rfl
def isTup : HO → Bool
  | .tup _ => true
  | _ => false
/-- a block of cells within, and the row with another block in its place -/
inductive Sub : Cells → Cells → Cells → Cells → Prop
  | all {s s'} : Sub s s s' s'
  | here {s s' r} : Sub (s ++ r) s s' (s' ++ r)
  | one {c s' r} : Sub (c :: r) [c] s' (s' ++ r)
  | two {c d s' r} : Sub (c :: d :: r) [c, d] s' (s' ++ r)
  | nil {r s'} : Sub r [] s' (s' ++ r)
  | there {c r s s' r'} : Sub r s s' r' → Sub (c :: r) s s' (c :: r')
  | app {t r s s' r'} : Sub r s s' r' → Sub (t ++ r) s s' (t ++ r')
  | appl {t r s s' t'} : Sub t s s' t' → Sub (t ++ r) s s' (t' ++ r)
theorem Sub.split {cs s s' cs' : Cells} (h : Sub cs s s' cs') : ∃ l r, cs = l ++ (s ++ r) ∧ cs' = l ++ (s' ++ r) := by
  induction h with
  | all => exact ⟨[], [], by simp, by simp⟩
  | here => exact ⟨[], _, rfl, rfl⟩
  | one => exact ⟨[], _, rfl, rfl⟩
  | two => exact ⟨[], _, rfl, rfl⟩
  | nil => exact ⟨[], _, rfl, rfl⟩
  | @there c r s s' r' _ ih =>
    obtain ⟨l, t, e1, e2⟩ := ih
    exact ⟨c :: l, t, by rw [e1]; rfl, by rw [e2]; rfl⟩
  | @app t r s s' r' _ ih =>
    obtain ⟨l, q, e1, e2⟩ := ih
    exact ⟨t ++ l, q, by rw [e1, List.append_assoc], by rw [e2, List.append_assoc]⟩
  | @appl t r s s' t' _ ih =>
    obtain ⟨l, q, e1, e2⟩ := ih
    exact ⟨l, q ++ r, by rw [e1]; simp only [List.append_assoc], by rw [e2]; simp only [List.append_assoc]⟩
section
variable {H0 H H' : Hp} {A : List Addr} {cs cs' s s' : Cells} {a p : Addr} {o o' : HO}
theorem Own.get (O : Own H0 H A cs) (m : (a, o) ∈ cs) : H a = some o := O.at_ a o m
theorem Own.tup {t : Addr} {xs : List V} (O : Own H0 H A cs) (h : H0 t = some (.tup xs)) : H t = some (.tup xs) := O.tp t xs h
/-- a cell is written -/
theorem Own.wr (O : Own H0 H A cs) (h : At cs a o o' cs') (n : isTup o = false := by rfl) : Own H0 (upd H a o') A cs' := by
  have ha := O.at_ a o h.mem
  refine ⟨fun b u m => ?_, by rw [h.adr]; exact O.nd, fun b u e hb => ?_, fun b m => O.nw b (by rw [← h.adr]; exact m), fun b xs e => ?_⟩
  · rcases h.of O.nd b u m with ⟨rfl, rfl⟩ | ⟨e, m⟩
    · exact upd_same
    · rw [upd_ne e]; exact O.at_ b u m
  · rw [upd_ne]
    · exact O.fr b u e hb
    · rintro rfl
      rcases O.nw b (List.mem_map.mpr ⟨_, h.mem, rfl⟩) with z | z
      · exact hb z
      · rw [z] at e; cases e
  · have e1 := O.tp b xs e
    rw [upd_ne]
    · exact e1
    · rintro rfl
      rw [e1] at ha
      cases ha
      cases n
/-- a new cell -/
theorem Own.new (O : Own H0 H A cs) (h : H p = none) : Own H0 (upd H p o) A ((p, o) :: cs) := by
  have hn : p ∉ adr cs := fun m => by
    obtain ⟨c, hc, e⟩ := List.mem_map.mp m
    have := O.at_ c.1 c.2 hc
    rw [e, h] at this
    cases this
  have ne : ∀ b u, H b = some u → b ≠ p := fun b u e z => by rw [z, h] at e; cases e
  by_cases hA : p ∈ A
  · refine ⟨fun b u m => ?_, List.nodup_cons.mpr ⟨hn, O.nd⟩, fun b u e hb => ?_, fun b m => ?_, fun b xs e => ?_⟩
    · rcases List.mem_cons.mp m with z | z
      · cases z; exact upd_same
      · rw [upd_ne (ne b u (O.at_ b u z))]; exact O.at_ b u z
    · rw [upd_ne (ne b u (O.fr b u e hb))]; exact O.fr b u e hb
    · rcases List.mem_cons.mp m with z | z
      · exact .inl (by rw [z]; exact hA)
      · exact O.nw b z
    · rw [upd_ne (ne b _ (O.tp b xs e))]; exact O.tp b xs e
  · have h0 : H0 p = none := by
      cases q : H0 p with
      | none => rfl
      | some u =>
        rw [O.fr p u q hA] at h
        cases h
    refine ⟨fun b u m => ?_, List.nodup_cons.mpr ⟨hn, O.nd⟩, fun b u e hb => ?_, fun b m => ?_, fun b xs e => ?_⟩
    · rcases List.mem_cons.mp m with z | z
      · cases z; exact upd_same
      · rw [upd_ne (ne b u (O.at_ b u z))]; exact O.at_ b u z
    · rw [upd_ne (ne b u (O.fr b u e hb))]; exact O.fr b u e hb
    · rcases List.mem_cons.mp m with z | z
      · exact .inr (by rw [z]; exact h0)
      · exact O.nw b z
    · rw [upd_ne (ne b _ (O.tp b xs e))]; exact O.tp b xs e
/-- a new tuple: it needs no owner -/
theorem Own.newT (O : Own H0 H A cs) (h : H p = none) : Own H0 (upd H p o) A cs :=
  have O' := O.new (o := o) h
  ⟨fun b u m => O'.at_ b u (List.mem_cons_of_mem _ m), O.nd, O'.fr, O.nw, O'.tp⟩
/-- fewer cells -/
theorem Own.drop (O : Own H0 H A cs) (h : List.Sublist cs' cs) : Own H0 H A cs' :=
  ⟨fun b u m => O.at_ b u (h.subset m), O.nd.sublist (h.map _), O.fr, fun b m => O.nw b ((h.map _).subset m), O.tp⟩
theorem Own.perm (O : Own H0 H A cs) (h : cs.Perm cs') : Own H0 H A cs' :=
  ⟨fun b u m => O.at_ b u (h.mem_iff.mpr m), (h.map _).nodup_iff.mp O.nd, O.fr, fun b m => O.nw b ((h.map _).mem_iff.mpr m), O.tp⟩
/-- a block of it, as what a callee is handed -/
theorem Own.blk (O : Own H0 H A cs) (h : Sub cs s s' cs') : Own H H (adr s) s := by
  obtain ⟨l, r, rfl, _⟩ := h.split
  have nd := O.nd
  rw [adr_app, adr_app] at nd
  exact ⟨fun b u m => O.at_ b u (List.mem_append_right _ (List.mem_append_left _ m)), (List.nodup_append.mp (List.nodup_append.mp nd).2.1).1, fun _ _ e _ => e, fun _ m => .inl m, fun _ _ e => e⟩
/-- behind the call -/
theorem Own.call (O : Own H0 H A cs) (h : Sub cs s s' cs') (C : Own H H' (adr s) s') : Own H0 H' A cs' := by
  obtain ⟨l, r, rfl, rfl⟩ := h.split
  have nd := O.nd
  simp only [adr_app] at nd
  obtain ⟨n1, n2, n3⟩ := List.nodup_append.mp nd
  obtain ⟨n4, n5, n6⟩ := List.nodup_append.mp n2
  have out : ∀ b u, ((b, u) ∈ l ∨ (b, u) ∈ r) → H' b = some u := fun b u m => by
    have hb : b ∉ adr s := fun z => by
      rcases m with m | m
      · exact n3 b (List.mem_map.mpr ⟨_, m, rfl⟩) b (List.mem_append_left _ z) rfl
      · exact n6 b z b (List.mem_map.mpr ⟨_, m, rfl⟩) rfl
    refine C.fr b u (O.at_ b u ?_) hb
    rcases m with m | m
    · exact List.mem_append_left _ m
    · exact List.mem_append_right _ (List.mem_append_right _ m)
  have sep : ∀ b, b ∈ adr s' → (b ∈ adr l ∨ b ∈ adr r) → False := fun b m z => by
    obtain ⟨u, hu⟩ : ∃ u, ((b, u) ∈ l ∨ (b, u) ∈ r) := by
      rcases z with z | z
      · obtain ⟨c, hc, e⟩ := List.mem_map.mp z
        exact ⟨c.2, .inl (by rw [← e]; exact hc)⟩
      · obtain ⟨c, hc, e⟩ := List.mem_map.mp z
        exact ⟨c.2, .inr (by rw [← e]; exact hc)⟩
    rcases C.nw b m with q | q
    · rcases z with z | z
      · exact n3 b z b (List.mem_append_left _ q) rfl
      · exact n6 b q b z rfl
    · have e : H b = some u := O.at_ b u (by
        rcases hu with m | m
        · exact List.mem_append_left _ m
        · exact List.mem_append_right _ (List.mem_append_right _ m))
      rw [q] at e
      cases e
  refine ⟨fun b u m => ?_, ?_, fun b u e hb => ?_, fun b m => ?_, fun b xs e => C.tp b xs (O.tp b xs e)⟩
  · rcases List.mem_append.mp m with m | m
    · exact out b u (.inl m)
    · rcases List.mem_append.mp m with m | m
      · exact C.at_ b u m
      · exact out b u (.inr m)
  · simp only [adr_app]
    refine List.nodup_append.mpr ⟨n1, List.nodup_append.mpr ⟨C.nd, n5, fun x hx y hy e => ?_⟩, fun x hx y hy e => ?_⟩
    · subst e
      exact sep x hx (.inr hy)
    · subst e
      rcases List.mem_append.mp hy with z | z
      · exact sep x z (.inl hx)
      · exact n3 x hx x (List.mem_append_right _ z) rfl
  · refine C.fr b u (O.fr b u e hb) fun z => ?_
    rcases O.nw b (by simp only [adr_app]; exact List.mem_append_right _ (List.mem_append_left _ z)) with q | q
    · exact hb q
    · rw [q] at e
      cases e
  · simp only [adr_app] at m
    rcases List.mem_append.mp m with m | m
    · exact O.nw b (by simp only [adr_app]; exact List.mem_append_left _ m)
    · rcases List.mem_append.mp m with m | m
      · rcases C.nw b m with z | z
        · exact O.nw b (by simp only [adr_app]; exact List.mem_append_right _ (List.mem_append_left _ z))
        · by_cases hA : b ∈ A
          · exact .inl hA
          · refine .inr ?_
            cases q : H0 b with
            | none => rfl
            | some u =>
              rw [O.fr b u q hA] at z
              cases z
      · exact O.nw b (by simp only [adr_app]; exact List.mem_append_right _ (List.mem_append_right _ m))
end
end Ow
namespace Ow
open PySem PySem.Spec PyProof.Rows L2
/-! ### where a walk stops -/
structure Box (p : Prop) : Prop where
  out : p
theorem PE.box {X : Cx} {e : Expr} {t : TE} (h : PE X e t) : PE X e (fun σ H Q => t σ H fun v H1 => Box (Q v H1)) :=
  ⟨fun pins s σ H Q I q => thn (h.run pins s σ H _ I q) fun _ _ ⟨x, H1, I1, r1, q1⟩ => ⟨x, H1, I1, r1, q1.out⟩⟩
theorem PA.box {X : Cx} {es : List Expr} {t : TA} (h : PA X es t) : PA X es (fun σ H Q => t σ H fun v H1 => Box (Q v H1)) :=
  ⟨fun pos pins s σ H Q I q => thn (h.run pos pins s σ H _ I q) fun _ _ ⟨x, H1, I1, r1, q1⟩ => ⟨x, H1, I1, r1, q1.out⟩⟩
theorem PI.box {X : Cx} {tg e : Expr} {w : TI} (h : PI X tg e w) : PI X tg e (fun σ H R => w σ H fun J H1 => Box (R J H1)) :=
  ⟨fun pins s σ H R I q => thn (h.run pins s σ H _ I q) fun _ _ h1 => thn h1 fun _ _ ⟨it, fp, tn, J, H', e, I', T, t0, f, r⟩ => ⟨it, fp, tn, J, H', e, I', T, t0, f, r.out⟩⟩
/-- a reading as it stands, not reckoned out -/
def tW (t : TS) : TS := t
theorem PS.box {X : Cx} {st : Stmt} {t : TS} (h : PS X st t) : PS X st (fun D σ H => Box (tW t D σ H)) :=
  ⟨fun pins s σ H D I q => h.run pins s σ H D I q.out⟩
theorem PE.alt {X : Cx} {e : Expr} {t u : TE} (h : PE X e t) (h' : PE X e u) : PE X e (fun σ H Q => t σ H Q ∨ u σ H Q) :=
  ⟨fun pins s σ H Q I q => q.elim (h.run pins s σ H Q I) (h'.run pins s σ H Q I)⟩
/-- a promise that a walk stops at -/
def bx (sp : Sp) : Sp := fun vs H Q E => Box (sp vs H Q E)
/-- of a def that nobody calls: nothing may be asked -/
def spWall : Sp := fun _ _ _ _ => False
/-- a def that may be called: it keeps its promise -/
structure Cee (P : Program) (w : World) (K : PySem.W.Frag) (mg : Str → Option Value) (base : Heap) (k : Nat) (f : Addr) (ps : List Str) (sp : Sp) : Prop where
  kp : PySem.W.keepIn K (.ref f) = true
  fn : ∃ fd, FnOk P w K mg base (L2.CX P w) k f fd ps (bx sp) ∧ Binds K fd ps []
section
variable {P : Program} {w : World} {K : PySem.W.Frag} {mg : Str → Option Value} {base : Heap}
theorem cee_of {x qual : Str} {params : Arguments} {body : List Stmt} {scope : Scope} {f : Addr} {N ps : List Str} {k : Nat} {sp : Sp} (F : ∃ fd, FunD K x qual params body scope [] [] f fd) (S : FnScope N ps scope)
    (hb : ∀ (kV doc pm : Value) (an : Option Addr) (cdv ct : Value) (us : List Value), us.length = ps.length → bindArgs (PySem.W.fnOf x qual params body scope .none kV doc pm an cdv ct) ⟨us, []⟩ = pure (ps.zip us))
    (len : ∀ vs H Q E, sp vs H Q E → vs.length = ps.length)
    (hbody : ∀ (cdv : Value) (A : Around) (outer : List Env) (s : Shared) (H : Hp) (vs : List V) (Q : VK) (E : XK), Room k (A.deeper (envOfC qual scope s.heap.objs.size f cdv)) → sp vs H Q E →
      ∃ t, PSs (cxOf (L2.CX P w) P w K mg base N qual scope f cdv A outer s H E) body t ∧ t { nx := fun _ H' => Q .non H', rt := Q } (start N vs) H) : Cee P w K mg base (k + 1) f ps sp := by
  obtain ⟨fd, F⟩ := F
  exact ⟨F.kp, fd, FunD.ok F S (fun vs H Q E h => len vs H Q E h.out) (fun cdv A outer s H vs Q E hr h => hbody cdv A outer s H vs Q E hr h.out), F.bindsN hb⟩
end
section
variable {X : Cx} {k : Nat} {f C : Addr} {ps : List Str} {sp : Sp} {W : WX} {x m : Str} {p pos apos : Pos} {e o : Expr} {es : List Expr} {ta : TE} {t : TA}
theorem pe_f (c : Cee X.prog X.w X.K X.mg X.base k f ps sp) (hr : Room k X.A) (tk : Takes X W) (hg : Gl X x) (hm : X.mg x = some (.ref f)) (ha : PA X (e :: es) t) (hdb : (x == ("__debug__" : Str)) = false := by decide)
    (he : starEach (e :: es) X.env = (false, eval e X.env) :: starEach es X.env := by rfl) (hpl : (backTo pos (starEach es X.env)).any (·.1) = false := by rfl) :
    PE X (.Call (.Name x p) (e :: es) [] pos) (tCallS (bx sp) (WE W) t) := by
  obtain ⟨fd, F, b⟩ := c.fn
  exact pe_callS F hr hg hm c.kp b (fun σ => passAt tk σ) ha hdb he hpl
theorem pe_f0 (c : Cee X.prog X.w X.K X.mg X.base k f ps sp) (hr : Room k X.A) (tk : Takes X W) (hg : Gl X x) (hm : X.mg x = some (.ref f)) (hdb : (x == ("__debug__" : Str)) = false := by decide) :
    PE X (.Call (.Name x p) [] [] pos) (fun σ H Q => bx sp [] H Q (WE W σ)) := by
  obtain ⟨fd, F, b⟩ := c.fn
  refine ⟨fun pins s σ H Q I h => ?_⟩
  refine wpAny_Call_Name_kw (ld_glob I hg hm ?_ hdb)
  exact PySem.W.callWith_K0 I.kIn c.kp (run_fnS (us := []) (E := WE W) F hr b (passAt tk σ) I .nil h)
/-- o.m(e, ..) -/
def tM (C : Addr) (m : Str) (sp : Sp) (W : WX) (ta : TE) (t : TA) : TE := fun σ H Q => ta σ H fun x H1 => ∃ a dx fs, x = .ref a ∧ H1 a = some (.ins C dx fs) ∧ fs.lookup m = none ∧ t σ H1 fun vs H2 => bx sp (x :: vs) H2 Q (WE W σ)
theorem pe_m {pl : Sem Bool} (ho : PE X o ta) (cl : Cls X.K C) (hm : Meth X.K C m f) (c : Cee X.prog X.w X.K X.mg X.base k f ps sp) (hr : Room k X.A) (tk : Takes X W) (ha : PA X (e :: es) t)
    (hst : starEach (e :: es) X.env = (false, eval e X.env) :: starEach es X.env := by rfl) (hpl : (backTo pos (starEach es X.env)).any (·.1) = false := by rfl)
    (ht : eval (.Call (.Attribute o m apos) (e :: es) [] pos) X.env = (do
      let ov ← eval o X.env
      standAt apos.atName
      let (f, first) ← holding [ov] (getMethod ov m pl)
      callWith pos f first (backTo pos (starEach (e :: es) X.env)) (backToKw pos (keywordEach [] X.env))) := by rfl) :
    PE X (.Call (.Attribute o m apos) (e :: es) [] pos) (tM C m sp W ta t) := by
  obtain ⟨fd, F, b⟩ := c.fn
  refine ⟨fun pins s σ H Q I h => ?_⟩
  refine PySem.W.methodCall_KW (pl := pl) (thn (ho.run pins s σ H _ I h) fun u s1 ⟨y, H1, I1, ry, a, dx, fs, ey, ea, l, q⟩ => ?_) ht
  subst ey
  obtain rfl : u = Value.ref a := ry
  refine getmeth_ok I1 ea cl hm l ?_
  refine PySem.W.callWith_K (first := [.ref a]) (h₀ := X.base) I.ok.mod.kin hm.kp (thn (ha.run pos pins s1 σ H1 _ I1 q) fun us s2 ⟨vs, H2, I2, rv, q2⟩ => ⟨I2.kIn, ?_⟩) hst hpl
  exact run_fnS (us := .ref a :: us) (vs := .ref a :: vs) (E := WE W) F hr b (passAt tk σ) I2 (.cons rfl rv) q2
def tM0 (C : Addr) (m : Str) (sp : Sp) (W : WX) (ta : TE) : TE := fun σ H Q => ta σ H fun x H1 => ∃ a dx fs, x = .ref a ∧ H1 a = some (.ins C dx fs) ∧ fs.lookup m = none ∧ bx sp [x] H1 Q (WE W σ)
theorem pe_m0 {pl : Sem Bool} (ho : PE X o ta) (cl : Cls X.K C) (hm : Meth X.K C m f) (c : Cee X.prog X.w X.K X.mg X.base k f ps sp) (hr : Room k X.A) (tk : Takes X W)
    (ht : eval (.Call (.Attribute o m apos) [] [] pos) X.env = (do
      let ov ← eval o X.env
      standAt apos.atName
      let (f, first) ← holding [ov] (getMethod ov m pl)
      callWith pos f first (backTo pos (starEach [] X.env)) (backToKw pos (keywordEach [] X.env))) := by rfl) :
    PE X (.Call (.Attribute o m apos) [] [] pos) (tM0 C m sp W ta) := by
  obtain ⟨fd, F, b⟩ := c.fn
  refine ⟨fun pins s σ H Q I h => ?_⟩
  refine PySem.W.methodCall_KW (pl := pl) (thn (ho.run pins s σ H _ I h) fun u s1 ⟨y, H1, I1, ry, a, dx, fs, ey, ea, l, q⟩ => ?_) ht
  subst ey
  obtain rfl : u = Value.ref a := ry
  refine getmeth_ok I1 ea cl hm l ?_
  exact PySem.W.callWith_K0 (first := [.ref a]) I1.kIn hm.kp (run_fnS (us := [.ref a]) (vs := [.ref a]) (E := WE W) F hr b (passAt tk σ) I1 (.cons rfl .nil) q)
/-- C(e, ..): its __init__ lets nothing out -/
theorem pe_n (M : Mk X.K C f) (c : Cee X.prog X.w X.K X.mg X.base k f ps sp) (hr : Room (k + 1) X.A) (hg : Gl X x) (hm : X.mg x = some (.ref C)) (ha : PA X (e :: es) t) (hdb : (x == ("__debug__" : Str)) = false := by decide)
    (he : starEach (e :: es) X.env = (false, eval e X.env) :: starEach es X.env := by rfl) (hpl : (backTo pos (starEach es X.env)).any (·.1) = false := by rfl) :
    PE X (.Call (.Name x p) (e :: es) [] pos) (tMake C (bx sp) [] E0 t) := by
  obtain ⟨fd, F, b⟩ := c.fn
  exact pe_make M F hr hg hm b .nil passL ha hdb he hpl
theorem pe_n0 (M : Mk X.K C f) (c : Cee X.prog X.w X.K X.mg X.base k f ps sp) (hr : Room (k + 1) X.A) (hg : Gl X x) (hm : X.mg x = some (.ref C)) (hdb : (x == ("__debug__" : Str)) = false := by decide) :
    PE X (.Call (.Name x p) [] [] pos) (tMake C (bx sp) [] E0 tNil) := by
  obtain ⟨fd, F, b⟩ := c.fn
  exact pe_make0 M F hr hg hm b .nil passL hdb
end
/-! ### what a closer knows -/
theorem sl_of {σ : List (Option V)} {i : Nat} {v : V} (h : σ[i]? = some (some v)) : σ[i]? = some (some v) := h
theorem veq_of {x y : V} (h : x = y) : x = y := h
theorem lsq_of {x y : List V} (h : x = y) : x = y := h
theorem sc_of {x y : V} (h : scal x y = true) : scal x y = true := h
theorem lk_of {fs : List (Str × V)} {f : Str} {v : V} (h : fs.lookup f = some v) : fs.lookup f = some v := h
theorem lkn_of {fs : List (Str × V)} {f : Str} (h : fs.lookup f = none) : fs.lookup f = none := h
theorem lt_of {fs : List (Str × V)} (h : fs.length < 1000) : fs.length < 1000 := h
theorem hp_of {H : Hp} {a : Addr} {o : HO} (h : H a = some o) : H a = some o := h
theorem cd_of {i j : Int} (h : 0 < j ∧ j < 1073741824) : CDiv i j := h
theorem cm_l {i j : Int} (h : -(2 ^ 64) < i ∧ i < 2 ^ 64) : CMul i j := .inl h
theorem cm_r {i j : Int} (h : -(2 ^ 64) < j ∧ j < 2 ^ 64) : CMul i j := .inr h
theorem sz_le {n : Nat} (h : n ≤ 100000) : n ≤ sizeLine := Nat.le_trans h (by decide)
theorem sz_lt {n : Nat} (h : n < 100000) : n < sizeLine := Nat.lt_of_lt_of_le h (by decide)
/-! ### tests -/
theorem if_d {p A B : Prop} [Decidable p] (h1 : p → A) (h2 : ¬ p → B) : if decide p = true then A else B := by
  by_cases h : p
  · rw [if_pos (decide_eq_true h)]; exact h1 h
  · rw [if_neg (by rw [decide_eq_false h]; exact Bool.false_ne_true)]; exact h2 h
theorem if_nd {p A B : Prop} [Decidable p] (h1 : ¬ p → A) (h2 : p → B) : if (!decide p) = true then A else B := by
  by_cases h : p
  · rw [decide_eq_true h, if_neg (by decide)]; exact h2 h
  · rw [decide_eq_false h, if_pos (by decide)]; exact h1 h
theorem if_ii {a b : Int} {A B : Prop} (h1 : a = b → A) (h2 : ¬ a = b → B) : if decide (V.int a = V.int b) = true then A else B :=
  if_d (fun h => h1 (V.int.inj h)) fun h => h2 fun e => h (by rw [e])
theorem if_nii {a b : Int} {A B : Prop} (h1 : ¬ a = b → A) (h2 : a = b → B) : if (!decide (V.int a = V.int b)) = true then A else B :=
  if_nd (fun h => h1 fun e => h (by rw [e])) fun h => h2 (V.int.inj h)
theorem if_ss {a b : Str} {A B : Prop} (h1 : a = b → A) (h2 : ¬ a = b → B) : if decide (V.str a = V.str b) = true then A else B :=
  if_d (fun h => h1 (V.str.inj h)) fun h => h2 fun e => h (by rw [e])
theorem if_nss {a b : Str} {A B : Prop} (h1 : ¬ a = b → A) (h2 : a = b → B) : if (!decide (V.str a = V.str b)) = true then A else B :=
  if_nd (fun h => h1 fun e => h (by rw [e])) fun h => h2 (V.str.inj h)
theorem if_b {b : Bool} {A B : Prop} (h1 : b = true → A) (h2 : b = false → B) : if b = true then A else B := by
  cases b with
  | true => exact h1 rfl
  | false => exact h2 rfl
theorem if_nb {b : Bool} {A B : Prop} (h1 : b = false → A) (h2 : b = true → B) : if (!b) = true then A else B := by
  cases b with
  | true => exact h2 rfl
  | false => exact h1 rfl
theorem kt_int_int {K : PySem.W.Frag} : PySem.W.kitOne K (.type "int") (.type "int") = some true := kit_ty (by decide +kernel)
theorem kt_int_bool {K : PySem.W.Frag} : PySem.W.kitOne K (.type "int") (.type "bool") = some false := kit_ty (by decide +kernel)
theorem kt_int_str {K : PySem.W.Frag} : PySem.W.kitOne K (.type "int") (.type "str") = some false := kit_ty (by decide +kernel)
theorem kt_int_list {K : PySem.W.Frag} : PySem.W.kitOne K (.type "int") (.type "list") = some false := kit_ty (by decide +kernel)
theorem kt_int_tuple {K : PySem.W.Frag} : PySem.W.kitOne K (.type "int") (.type "tuple") = some false := kit_ty (by decide +kernel)
theorem kt_int_dict {K : PySem.W.Frag} : PySem.W.kitOne K (.type "int") (.type "dict") = some false := kit_ty (by decide +kernel)
theorem kt_bool_int {K : PySem.W.Frag} : PySem.W.kitOne K (.type "bool") (.type "int") = some true := kit_ty (by decide +kernel)
theorem kt_bool_bool {K : PySem.W.Frag} : PySem.W.kitOne K (.type "bool") (.type "bool") = some true := kit_ty (by decide +kernel)
theorem kt_bool_str {K : PySem.W.Frag} : PySem.W.kitOne K (.type "bool") (.type "str") = some false := kit_ty (by decide +kernel)
theorem kt_bool_list {K : PySem.W.Frag} : PySem.W.kitOne K (.type "bool") (.type "list") = some false := kit_ty (by decide +kernel)
theorem kt_bool_tuple {K : PySem.W.Frag} : PySem.W.kitOne K (.type "bool") (.type "tuple") = some false := kit_ty (by decide +kernel)
theorem kt_bool_dict {K : PySem.W.Frag} : PySem.W.kitOne K (.type "bool") (.type "dict") = some false := kit_ty (by decide +kernel)
theorem kt_str_int {K : PySem.W.Frag} : PySem.W.kitOne K (.type "str") (.type "int") = some false := kit_ty (by decide +kernel)
theorem kt_str_bool {K : PySem.W.Frag} : PySem.W.kitOne K (.type "str") (.type "bool") = some false := kit_ty (by decide +kernel)
theorem kt_str_str {K : PySem.W.Frag} : PySem.W.kitOne K (.type "str") (.type "str") = some true := kit_ty (by decide +kernel)
theorem kt_str_list {K : PySem.W.Frag} : PySem.W.kitOne K (.type "str") (.type "list") = some false := kit_ty (by decide +kernel)
theorem kt_str_tuple {K : PySem.W.Frag} : PySem.W.kitOne K (.type "str") (.type "tuple") = some false := kit_ty (by decide +kernel)
theorem kt_str_dict {K : PySem.W.Frag} : PySem.W.kitOne K (.type "str") (.type "dict") = some false := kit_ty (by decide +kernel)
theorem kt_list_int {K : PySem.W.Frag} : PySem.W.kitOne K (.type "list") (.type "int") = some false := kit_ty (by decide +kernel)
theorem kt_list_bool {K : PySem.W.Frag} : PySem.W.kitOne K (.type "list") (.type "bool") = some false := kit_ty (by decide +kernel)
theorem kt_list_str {K : PySem.W.Frag} : PySem.W.kitOne K (.type "list") (.type "str") = some false := kit_ty (by decide +kernel)
theorem kt_list_list {K : PySem.W.Frag} : PySem.W.kitOne K (.type "list") (.type "list") = some true := kit_ty (by decide +kernel)
theorem kt_list_tuple {K : PySem.W.Frag} : PySem.W.kitOne K (.type "list") (.type "tuple") = some false := kit_ty (by decide +kernel)
theorem kt_list_dict {K : PySem.W.Frag} : PySem.W.kitOne K (.type "list") (.type "dict") = some false := kit_ty (by decide +kernel)
theorem kt_tuple_int {K : PySem.W.Frag} : PySem.W.kitOne K (.type "tuple") (.type "int") = some false := kit_ty (by decide +kernel)
theorem kt_tuple_bool {K : PySem.W.Frag} : PySem.W.kitOne K (.type "tuple") (.type "bool") = some false := kit_ty (by decide +kernel)
theorem kt_tuple_str {K : PySem.W.Frag} : PySem.W.kitOne K (.type "tuple") (.type "str") = some false := kit_ty (by decide +kernel)
theorem kt_tuple_list {K : PySem.W.Frag} : PySem.W.kitOne K (.type "tuple") (.type "list") = some false := kit_ty (by decide +kernel)
theorem kt_tuple_tuple {K : PySem.W.Frag} : PySem.W.kitOne K (.type "tuple") (.type "tuple") = some true := kit_ty (by decide +kernel)
theorem kt_tuple_dict {K : PySem.W.Frag} : PySem.W.kitOne K (.type "tuple") (.type "dict") = some false := kit_ty (by decide +kernel)
theorem kt_dict_int {K : PySem.W.Frag} : PySem.W.kitOne K (.type "dict") (.type "int") = some false := kit_ty (by decide +kernel)
theorem kt_dict_bool {K : PySem.W.Frag} : PySem.W.kitOne K (.type "dict") (.type "bool") = some false := kit_ty (by decide +kernel)
theorem kt_dict_str {K : PySem.W.Frag} : PySem.W.kitOne K (.type "dict") (.type "str") = some false := kit_ty (by decide +kernel)
theorem kt_dict_list {K : PySem.W.Frag} : PySem.W.kitOne K (.type "dict") (.type "list") = some false := kit_ty (by decide +kernel)
theorem kt_dict_tuple {K : PySem.W.Frag} : PySem.W.kitOne K (.type "dict") (.type "tuple") = some false := kit_ty (by decide +kernel)
theorem kt_dict_dict {K : PySem.W.Frag} : PySem.W.kitOne K (.type "dict") (.type "dict") = some true := kit_ty (by decide +kernel)
theorem kt_NoneType_int {K : PySem.W.Frag} : PySem.W.kitOne K (.type "NoneType") (.type "int") = some false := kit_ty (by decide +kernel)
theorem kt_NoneType_bool {K : PySem.W.Frag} : PySem.W.kitOne K (.type "NoneType") (.type "bool") = some false := kit_ty (by decide +kernel)
theorem kt_NoneType_str {K : PySem.W.Frag} : PySem.W.kitOne K (.type "NoneType") (.type "str") = some false := kit_ty (by decide +kernel)
theorem kt_NoneType_list {K : PySem.W.Frag} : PySem.W.kitOne K (.type "NoneType") (.type "list") = some false := kit_ty (by decide +kernel)
theorem kt_NoneType_tuple {K : PySem.W.Frag} : PySem.W.kitOne K (.type "NoneType") (.type "tuple") = some false := kit_ty (by decide +kernel)
theorem kt_NoneType_dict {K : PySem.W.Frag} : PySem.W.kitOne K (.type "NoneType") (.type "dict") = some false := kit_ty (by decide +kernel)
end Ow
namespace Ow
open PySem PySem.Spec PyProof.Rows L2
def XcIn (K : PySem.W.Frag) (C : Addr) : Prop := PySem.W.excIn K C He.veBase "ValueError.__new__" = true ∧ PySem.W.keepIn K (.ref C) = true ∧ PySem.W.subIn K (.ref C) (.type "BaseException") = some true ∧ PySem.W.typeIn K (.ref C) = some (.type "type")
theorem gI {mg : Str → Option Value} {x : Str} {i : Int} (h : ∃ t, mg x = some (.int i t)) : ∃ u, mg x = some u ∧ RelV (.int i) u := let ⟨t, e⟩ := h; ⟨_, e, t, rfl⟩
theorem gS {mg : Str → Option Value} {x z : Str} (h : ∃ t, mg x = some (.str z t)) : ∃ u, mg x = some u ∧ RelV (.str z) u := let ⟨t, e⟩ := h; ⟨_, e, t, rfl⟩
/-! ### promises by the number of arguments -/
def sp0 (f : Hp → VK → XK → Prop) : Sp := fun vs H Q E => vs = [] ∧ f H Q E
def sp1 (f : V → Hp → VK → XK → Prop) : Sp := fun vs H Q E => ∃ a, vs = [a] ∧ f a H Q E
def sp2 (f : V → V → Hp → VK → XK → Prop) : Sp := fun vs H Q E => ∃ a b, vs = [a, b] ∧ f a b H Q E
def sp3 (f : V → V → V → Hp → VK → XK → Prop) : Sp := fun vs H Q E => ∃ a b c, vs = [a, b, c] ∧ f a b c H Q E
def sp4 (f : V → V → V → V → Hp → VK → XK → Prop) : Sp := fun vs H Q E => ∃ a b c d, vs = [a, b, c, d] ∧ f a b c d H Q E
def sp5 (f : V → V → V → V → V → Hp → VK → XK → Prop) : Sp := fun vs H Q E => ∃ a b c d e, vs = [a, b, c, d, e] ∧ f a b c d e H Q E
section
variable {vs : List V} {H : Hp} {Q : VK} {E : XK} {a b c d e : V}
theorem sp0_len {f} (h : sp0 f vs H Q E) : vs.length = 0 := by obtain ⟨rfl, _⟩ := h; rfl
theorem sp1_len {f} (h : sp1 f vs H Q E) : vs.length = 1 := by obtain ⟨_, rfl, _⟩ := h; rfl
theorem sp2_len {f} (h : sp2 f vs H Q E) : vs.length = 2 := by obtain ⟨_, _, rfl, _⟩ := h; rfl
theorem sp3_len {f} (h : sp3 f vs H Q E) : vs.length = 3 := by obtain ⟨_, _, _, rfl, _⟩ := h; rfl
theorem sp4_len {f} (h : sp4 f vs H Q E) : vs.length = 4 := by obtain ⟨_, _, _, _, rfl, _⟩ := h; rfl
theorem sp5_len {f} (h : sp5 f vs H Q E) : vs.length = 5 := by obtain ⟨_, _, _, _, _, rfl, _⟩ := h; rfl
theorem ask0 {f} (h : f H Q E) : Box (sp0 f [] H Q E) := ⟨rfl, h⟩
theorem ask1 {f} (h : f a H Q E) : Box (sp1 f [a] H Q E) := ⟨_, rfl, h⟩
theorem ask2 {f} (h : f a b H Q E) : Box (sp2 f [a, b] H Q E) := ⟨_, _, rfl, h⟩
theorem ask3 {f} (h : f a b c H Q E) : Box (sp3 f [a, b, c] H Q E) := ⟨_, _, _, rfl, h⟩
theorem ask4 {f} (h : f a b c d H Q E) : Box (sp4 f [a, b, c, d] H Q E) := ⟨_, _, _, _, rfl, h⟩
theorem ask5 {f} (h : f a b c d e H Q E) : Box (sp5 f [a, b, c, d, e] H Q E) := ⟨_, _, _, _, _, rfl, h⟩
end
end Ow
namespace Ow
open PySem PySem.Spec PyProof.Rows L2
theorem pe_gc {X : Cx} {x : Str} {pos : Pos} {v : V} (hg : Gl X x) (hm : ∃ u, X.mg x = some u ∧ RelV v u) (hd : (x == ("__debug__" : Str)) = false := by decide) : PE X (.Name x pos) (tC v) :=
  let ⟨_, e, r⟩ := hm
  pe_glob hg e r hd
end Ow
namespace Ow
open PySem PySem.Spec PyProof.Rows L2
section
variable {H0 H : Hp} {A : List Addr} {cs : Cells} {x dx C : Addr}
/-- a new instance -/
theorem Own.inst (O : Own H0 H A cs) (h1 : H x = none) (h2 : H dx = none) (ne : dx ≠ x) : Own H0 (upd (upd H dx (.own x)) x (.ins C dx [])) A ((x, .ins C dx []) :: cs) :=
  ((O.new (o := .own x) h2).new (o := .ins C dx []) (p := x) (by rw [upd_ne ne.symm]; exact h1)).drop (List.Sublist.cons₂ _ (List.Sublist.cons _ (List.Sublist.refl _)))
theorem Own.last {c : Addr × HO} (O : Own H0 H A (c :: cs)) : Own H0 H A (cs ++ [c]) := O.perm (List.perm_append_singleton c cs).symm
theorem Own.eq {cs' : Cells} (O : Own H0 H A cs) (e : cs = cs') : Own H0 H A cs' := e ▸ O
theorem Own.adr {A' : List Addr} (O : Own H0 H A cs) (e : A = A') : Own H0 H A' cs := e ▸ O
end
/-! ### loops -/
section
variable {K : PySem.W.Frag} {a : Addr} {xs : List V} {g : TG} {tb : TS} {D : Ends} {σ : L2.St} {H : Hp}
theorem forL (Pv : Nat → L2.St → Hp → Prop) (h0 : Pv 0 σ H) (hl : ∀ i σ H, i ≤ xs.length → Pv i σ H → SqL K H a xs)
    (hs : ∀ i x σ H, xs[i]? = some x → Pv i σ H → g x σ H fun σ2 H2 => tb { D with nx := fun σ H => Box (Pv (i + 1) σ H), ct := fun σ H => Box (Pv (i + 1) σ H), bk := D.nx } σ2 H2) (hd : ∀ σ H, Pv xs.length σ H → D.nx σ H) :
    Box (∃ W : Nat → Nat → L2.St → Hp → Prop, (∃ m, W 0 m σ H) ∧ ∀ i m σ H, W i m σ H →
      ((Itl K a).stop i H ∧ D.nx σ H) ∨ ((Itl K a).go i H ∧ ∃ N : L2.St → Hp → Prop, (∀ σ' H', N σ' H' → ∃ m', m' < m ∧ W (i + 1) m' σ' H') ∧ ∀ x H', (Itl K a).yld i H x H' → g x σ H' fun σ2 H2 => tb { D with nx := N, ct := N, bk := D.nx } σ2 H2)) :=
  ⟨for_list (fun i σ H => Box (Pv i σ H)) ⟨h0⟩ (fun i σ H hi p => hl i σ H hi p.out) (fun i x σ H hx p => hs i x σ H hx p.out) (fun σ H p => hd σ H p.out)⟩
theorem forT (Pv : Nat → L2.St → Hp → Prop) (h0 : Pv 0 σ H) (hl : ∀ i σ H, i ≤ xs.length → Pv i σ H → SqT K H a xs)
    (hs : ∀ i x σ H, xs[i]? = some x → Pv i σ H → g x σ H fun σ2 H2 => tb { D with nx := fun σ H => Box (Pv (i + 1) σ H), ct := fun σ H => Box (Pv (i + 1) σ H), bk := D.nx } σ2 H2) (hd : ∀ σ H, Pv xs.length σ H → D.nx σ H) :
    Box (∃ W : Nat → Nat → L2.St → Hp → Prop, (∃ m, W 0 m σ H) ∧ ∀ i m σ H, W i m σ H →
      ((Itt K a).stop i H ∧ D.nx σ H) ∨ ((Itt K a).go i H ∧ ∃ N : L2.St → Hp → Prop, (∀ σ' H', N σ' H' → ∃ m', m' < m ∧ W (i + 1) m' σ' H') ∧ ∀ x H', (Itt K a).yld i H x H' → g x σ H' fun σ2 H2 => tb { D with nx := N, ct := N, bk := D.nx } σ2 H2)) :=
  ⟨for_tup (fun i σ H => Box (Pv i σ H)) ⟨h0⟩ (fun i σ H hi p => hl i σ H hi p.out) (fun i x σ H hx p => hs i x σ H hx p.out) (fun σ H p => hd σ H p.out)⟩
theorem forR {lo : Int} {n : Nat} (Pv : Nat → L2.St → Hp → Prop) (h0 : Pv 0 σ H)
    (hs : ∀ i σ H, i < n → Pv i σ H → g (.int (lo + i)) σ H fun σ2 H2 => tb { D with nx := fun σ H => Box (Pv (i + 1) σ H), ct := fun σ H => Box (Pv (i + 1) σ H), bk := D.nx } σ2 H2) (hd : ∀ σ H, Pv n σ H → D.nx σ H) :
    Box (∃ W : Nat → Nat → L2.St → Hp → Prop, (∃ m, W 0 m σ H) ∧ ∀ i m σ H, W i m σ H →
      ((Itr lo n).stop i H ∧ D.nx σ H) ∨ ((Itr lo n).go i H ∧ ∃ N : L2.St → Hp → Prop, (∀ σ' H', N σ' H' → ∃ m', m' < m ∧ W (i + 1) m' σ' H') ∧ ∀ x H', (Itr lo n).yld i H x H' → g x σ H' fun σ2 H2 => tb { D with nx := N, ct := N, bk := D.nx } σ2 H2)) :=
  ⟨for_range (fun i σ H => Box (Pv i σ H)) ⟨h0⟩ (fun i σ H hi p => hs i σ H hi p.out) (fun σ H p => hd σ H p.out)⟩
theorem forC {lo c : Int} {n : Nat} (Pv : Nat → L2.St → Hp → Prop) (h0 : Pv 0 σ H)
    (hs : ∀ i σ H, i < n → Pv i σ H → g (.int (lo + (i : Nat) * c)) σ H fun σ2 H2 => tb { D with nx := fun σ H => Box (Pv (i + 1) σ H), ct := fun σ H => Box (Pv (i + 1) σ H), bk := D.nx } σ2 H2) (hd : ∀ σ H, Pv n σ H → D.nx σ H) :
    Box (∃ W : Nat → Nat → L2.St → Hp → Prop, (∃ m, W 0 m σ H) ∧ ∀ i m σ H, W i m σ H →
      ((Itc lo c n).stop i H ∧ D.nx σ H) ∨ ((Itc lo c n).go i H ∧ ∃ N : L2.St → Hp → Prop, (∀ σ' H', N σ' H' → ∃ m', m' < m ∧ W (i + 1) m' σ' H') ∧ ∀ x H', (Itc lo c n).yld i H x H' → g x σ H' fun σ2 H2 => tb { D with nx := N, ct := N, bk := D.nx } σ2 H2)) :=
  ⟨for_rangeC (fun i σ H => Box (Pv i σ H)) ⟨h0⟩ (fun i σ H hi p => hs i σ H hi p.out) (fun σ H p => hd σ H p.out)⟩
/-- a while, by a word with its measure -/
theorem whI {c : TT} (W : Nat → L2.St → Hp → Prop) (m0 : Nat) (h0 : W m0 σ H) (hs : ∀ m σ H, W m σ H → c σ H fun b H1 => if b = true then ∃ N : L2.St → Hp → Prop, (∀ σ' H', N σ' H' → ∃ m', m' < m ∧ W m' σ' H') ∧ tb { D with nx := N, ct := N, bk := D.nx } σ H1 else D.nx σ H1) :
    Box (tWhile c tb D σ H) := ⟨W, ⟨m0, h0⟩, hs⟩
theorem whN {W : Nat → L2.St → Hp → Prop} {m : Nat} (h : tb { D with nx := fun σ' H' => Box (∃ m', m' < m ∧ W m' σ' H'), ct := fun σ' H' => Box (∃ m', m' < m ∧ W m' σ' H'), bk := D.nx } σ H) :
    ∃ N : L2.St → Hp → Prop, (∀ σ' H', N σ' H' → ∃ m', m' < m ∧ W m' σ' H') ∧ tb { D with nx := N, ct := N, bk := D.nx } σ H := ⟨_, fun _ _ h => h.out, h⟩
end
end Ow
namespace Ow
open PySem PySem.Spec PyProof.Rows L2
theorem if_t {b : Bool} {A B : Prop} (h : b = true) (k : A) : if b = true then A else B := by rw [if_pos h]; exact k
theorem if_f {b : Bool} {A B : Prop} (h : b = false) (k : B) : if b = true then A else B := by rw [if_neg (by rw [h]; exact Bool.false_ne_true)]; exact k
end Ow
namespace Ow
open PySem PySem.Spec PyProof.Rows L2
theorem dget_v {H : Hp} {a : Addr} {kvs : List (Key × V)} {k : Key} {v : V} (h : H a = some (.dK kvs)) (e : valV kvs k = some v) : DGet H a (kV k) (some v) := e ▸ DGet.k h
end Ow
namespace Ow
open PySem PySem.Spec PyProof.Rows L2
theorem kl {i : Int} : V.int i = kV (Sum.inl i) := rfl
theorem kr {z : Str} : V.str z = kV (Sum.inr z) := rfl
end Ow
namespace Ow
open PySem PySem.Spec PyProof.Rows L2
/-! ### lists of whole numbers, compared -/
section
variable {K : PySem.W.Frag} {H : Hp} {a b : Addr}
theorem dpa_ints : ∀ ns : List Int, DpAll K H (ns.map V.int) (ns.map PyData.int)
  | [] => .nil
  | n :: r => .cons (.int n) (dpa_ints r)
theorem dp_ints {ns : List Int} (h : H a = some (.lst (ns.map V.int))) : Dp K H (.ref a) (.list (ns.map PyData.int)) := .lst (SqL.of h) (dpa_ints ns)
theorem depth_ints : ∀ ns : List Int, PyData.depthAll (ns.map PyData.int) ≤ 1
  | [] => by simp [PyData.depthAll]
  | n :: r => by
    have := depth_ints r
    simp only [List.map_cons, PyData.depthAll, PyData.depth]
    omega
theorem lay_ints : ∀ ns : List Int, PyData.canLayAll0 (ns.map PyData.int) = true
  | [] => by simp [PyData.canLayAll0]
  | n :: r => by simp [PyData.canLayAll0, PyData.canLay0, lay_ints r]
theorem sh_ints (ns : List Int) : SeqAt.shaped (.list (ns.map PyData.int)) = true := by
  have h1 := depth_ints ns
  have h2 : PyData.depth (.list (ns.map PyData.int)) ≤ 64 := by
    simp only [PyData.depth]
    omega
  show (PyData.canLay0 (.list (ns.map PyData.int)) && decide (PyData.depth (.list (ns.map PyData.int)) ≤ 64)) = true
  rw [Bool.and_eq_true]
  exact ⟨by simp only [PyData.canLay0]; exact lay_ints ns, decide_eq_true h2⟩
theorem dist_ints : ∀ ns ms : List Int, PyData.eqvAll (ns.map PyData.int) (ms.map PyData.int) = decide (ns = ms)
  | [], [] => rfl
  | [], _ :: _ => rfl
  | _ :: _, [] => rfl
  | n :: r, m :: q => by
    rw [List.map_cons, List.map_cons, PyData.eqvAll, dist_ints r q]
    show ((n == m) && _) = _
    by_cases h : n = m
    · subst h; simp
    · rw [decide_eq_false (fun e => h (List.cons.inj e).1)]; simp [h]
theorem eqv_ints (ns ms : List Int) : PyData.eqv (.list (ns.map PyData.int)) (.list (ms.map PyData.int)) = decide (ns = ms) := dist_ints ns ms
/-- two rows of whole numbers, compared -/
theorem eq_ints {ns ms : List Int} {Q : VK} (ha : H a = some (.lst (ns.map V.int))) (hb : H b = some (.lst (ms.map V.int))) (k : Q (.bl (decide (ns = ms))) H) : rEqD K (.ref a) (.ref b) H Q :=
  ⟨_, _, dp_ints ha, dp_ints hb, sh_ints ns, sh_ints ms, by rw [eqv_ints]; exact k⟩
theorem ne_ints {ns ms : List Int} {Q : VK} (ha : H a = some (.lst (ns.map V.int))) (hb : H b = some (.lst (ms.map V.int))) (k : Q (.bl (!decide (ns = ms))) H) : rNeD K (.ref a) (.ref b) H Q :=
  ⟨_, _, dp_ints ha, dp_ints hb, sh_ints ns, sh_ints ms, by rw [eqv_ints]; exact k⟩
end
end Ow
namespace Ow
open PySem PySem.Spec PyProof.Rows L2
/-! ### the closers' own lemmas: head first -/
section
variable {K : PySem.W.Frag} {H0 H : Hp} {A : List Addr} {cs cs' : Cells} {a p : Addr} {o o' : HO} {xs : List V}
theorem Own.wr2 (O : Own H0 H A cs) (h : At cs a o o' cs') (n : isTup o = false) : Own H0 (upd H a o') A cs' := O.wr h n
theorem col_ex (h : H a = some (.lst xs)) : ∃ xs, SqL K H a xs := ⟨_, SqL.of h⟩
theorem col_ol {p : Prop} (h : H a = some (.lst xs)) : SqL K H a xs ∨ p := .inl (SqL.of h)
theorem col_or {p : Prop} (h : H a = some (.tup xs)) : p ∨ SqT K H a xs := .inr (SqT.of h)
theorem dget_ii {kvs : List (Key × V)} {i : Int} {v : V} (h : H a = some (.dK kvs)) (e : valV kvs (Sum.inl i) = some v) : DGet H a (.int i) (some v) := dget_v (k := Sum.inl i) h e
theorem dget_is {kvs : List (Key × V)} {i : Str} {v : V} (h : H a = some (.dK kvs)) (e : valV kvs (Sum.inr i) = some v) : DGet H a (.str i) (some v) := dget_v (k := Sum.inr i) h e
theorem dget_i {kvs : List (Key × V)} {i : Int} (h : H a = some (.dK kvs)) : DGet H a (.int i) (valV kvs (Sum.inl i)) := DGet.k (k := Sum.inl i) h
theorem dget_s {kvs : List (Key × V)} {i : Str} (h : H a = some (.dK kvs)) : DGet H a (.str i) (valV kvs (Sum.inr i)) := DGet.k (k := Sum.inr i) h
theorem dput_i {kvs : List (Key × V)} {i : Int} {v : V} (h : H a = some (.dK kvs)) (hl : kvs.length < 100000) : DPut H a (.int i) v (upd H a (.dK (putK kvs (Sum.inl i) v))) := DPut.k (k := Sum.inl i) h (sz_lt hl)
theorem dput_s {kvs : List (Key × V)} {i : Str} {v : V} (h : H a = some (.dK kvs)) (hl : kvs.length < 100000) : DPut H a (.str i) v (upd H a (.dK (putK kvs (Sum.inr i) v))) := DPut.k (k := Sum.inr i) h (sz_lt hl)
theorem isd_k {kvs : List (Key × V)} (h : H a = some (.dK kvs)) : IsD H a := Or.inl ⟨_, Or.inl h⟩
theorem wp_of {x y : List (Option V)} (h : x = y) : x = y := h
theorem ln_of {x y : Nat} (h : x = y) : x = y := h
theorem pos_of {m : Int} (h : 0 < m) : 0 < m := h
end
end Ow
namespace Ow
open PySem PySem.Spec PyProof.Rows L2
/-! ### items -/
theorem at_int {α : Type} {xs : List α} {n : Int} (h0 : 0 ≤ n) (h1 : n < (xs.length : Int)) : ∃ y, xs[n.toNat]? = some y ∧ atI xs n = some y := by
  have hj : n.toNat < xs.length := by omega
  refine ⟨xs[n.toNat], List.getElem?_eq_getElem hj, ?_⟩
  have := atI_nat (List.getElem?_eq_getElem hj)
  rwa [Int.toNat_of_nonneg h0] at this
theorem map_get {l : List Int} {i : Nat} {x : V} (h : (l.map V.int)[i]? = some x) : ∃ y, l[i]? = some y ∧ x = V.int y := by
  rw [List.getElem?_map] at h
  cases e : l[i]? with
  | none => rw [e] at h; cases h
  | some y => rw [e] at h; exact ⟨y, rfl, (Option.some.inj h).symm⟩
theorem at_ints {ns : List Int} {n : Int} (h0 : 0 ≤ n) (h1 : n < ((ns.map V.int).length : Int)) : ∃ y, ns[n.toNat]? = some y ∧ atI (ns.map V.int) n = some (V.int y) := by
  obtain ⟨y, h2, h3⟩ := at_int h0 h1
  obtain ⟨z, h4, rfl⟩ := map_get h2
  exact ⟨z, h4, h3⟩
end Ow
namespace Ow
open PySem PySem.Spec PyProof.Rows L2
theorem Own.fr0 {H0 H : Hp} {cs : Cells} {b : Addr} {o : HO} (O : Own H0 H [] cs) (h : H0 b = some o) : H b = some o := O.fr b o h (by simp)
/-! ### comprehensions -/
section
variable {K : PySem.W.Frag} {a : Addr} {xs : List V} {g : TG} {tt : TT} {te : TE} {vs : List Nat} {σ : L2.St} {H1 : Hp} {Q : Addr → Hp → Prop} {lo : Int} {n : Nat}
theorem lcR (Pv : Addr → Nat → Hp → Prop) (h0 : ∀ D, H1 D = none → Pv D 0 (upd H1 D (.lst [])))
    (hs : ∀ D i H, i < n → Pv D i H → g (.int (lo + i)) (wipe σ vs) H fun σ2 H2 => wipe σ2 vs = wipe σ vs ∧ tt σ2 H2 fun b H3 =>
      if b = true then te σ2 H3 fun y H4 => ∃ acc, H4 D = some (.lst acc) ∧ acc.length < sizeLine ∧ Box (Pv D (i + 1) (upd H4 D (.lst (acc ++ [y])))) else Box (Pv D (i + 1) H3)) (hd : ∀ D H, Pv D n H → Q D H) :
    Box (∀ D, H1 D = none → ∃ W : Nat → Nat → Hp → Prop, (∃ m, W 0 m (upd H1 D (.lst []))) ∧ ∀ i m H, W i m H →
      ((Itr lo n).stop i H ∧ Q D H) ∨ ((Itr lo n).go i H ∧ ∃ Nx : Hp → Prop, (∀ H', Nx H' → ∃ m', m' < m ∧ W (i + 1) m' H') ∧ ∀ x H', (Itr lo n).yld i H x H' → g x (wipe σ vs) H' fun σ2 H2 => wipe σ2 vs = wipe σ vs ∧ tt σ2 H2 fun b H3 =>
        if b = true then te σ2 H3 fun y H4 => ∃ acc, H4 D = some (.lst acc) ∧ acc.length < sizeLine ∧ Nx (upd H4 D (.lst (acc ++ [y]))) else Nx H3)) :=
  ⟨fun D hD => lc_range (fun i H => Box (Pv D i H)) ⟨h0 D hD⟩ (fun i H hi p => hs D i H hi p.out) (fun H p => hd D H p.out)⟩
theorem lcL (Pv : Addr → Nat → Hp → Prop) (h0 : ∀ D, H1 D = none → Pv D 0 (upd H1 D (.lst []))) (hl : ∀ D i H, i ≤ xs.length → Pv D i H → SqL K H a xs)
    (hs : ∀ D i x H, xs[i]? = some x → Pv D i H → g x (wipe σ vs) H fun σ2 H2 => wipe σ2 vs = wipe σ vs ∧ tt σ2 H2 fun b H3 =>
      if b = true then te σ2 H3 fun y H4 => ∃ acc, H4 D = some (.lst acc) ∧ acc.length < sizeLine ∧ Box (Pv D (i + 1) (upd H4 D (.lst (acc ++ [y])))) else Box (Pv D (i + 1) H3)) (hd : ∀ D H, Pv D xs.length H → Q D H) :
    Box (∀ D, H1 D = none → ∃ W : Nat → Nat → Hp → Prop, (∃ m, W 0 m (upd H1 D (.lst []))) ∧ ∀ i m H, W i m H →
      ((Itl K a).stop i H ∧ Q D H) ∨ ((Itl K a).go i H ∧ ∃ Nx : Hp → Prop, (∀ H', Nx H' → ∃ m', m' < m ∧ W (i + 1) m' H') ∧ ∀ x H', (Itl K a).yld i H x H' → g x (wipe σ vs) H' fun σ2 H2 => wipe σ2 vs = wipe σ vs ∧ tt σ2 H2 fun b H3 =>
        if b = true then te σ2 H3 fun y H4 => ∃ acc, H4 D = some (.lst acc) ∧ acc.length < sizeLine ∧ Nx (upd H4 D (.lst (acc ++ [y]))) else Nx H3)) :=
  ⟨fun D hD => lc_list (fun i H => Box (Pv D i H)) ⟨h0 D hD⟩ (fun i H hi p => hl D i H hi p.out) (fun i x H hx p => hs D i x H hx p.out) (fun H p => hd D H p.out)⟩
theorem lcT (Pv : Addr → Nat → Hp → Prop) (h0 : ∀ D, H1 D = none → Pv D 0 (upd H1 D (.lst []))) (hl : ∀ D i H, i ≤ xs.length → Pv D i H → SqT K H a xs)
    (hs : ∀ D i x H, xs[i]? = some x → Pv D i H → g x (wipe σ vs) H fun σ2 H2 => wipe σ2 vs = wipe σ vs ∧ tt σ2 H2 fun b H3 =>
      if b = true then te σ2 H3 fun y H4 => ∃ acc, H4 D = some (.lst acc) ∧ acc.length < sizeLine ∧ Box (Pv D (i + 1) (upd H4 D (.lst (acc ++ [y])))) else Box (Pv D (i + 1) H3)) (hd : ∀ D H, Pv D xs.length H → Q D H) :
    Box (∀ D, H1 D = none → ∃ W : Nat → Nat → Hp → Prop, (∃ m, W 0 m (upd H1 D (.lst []))) ∧ ∀ i m H, W i m H →
      ((Itt K a).stop i H ∧ Q D H) ∨ ((Itt K a).go i H ∧ ∃ Nx : Hp → Prop, (∀ H', Nx H' → ∃ m', m' < m ∧ W (i + 1) m' H') ∧ ∀ x H', (Itt K a).yld i H x H' → g x (wipe σ vs) H' fun σ2 H2 => wipe σ2 vs = wipe σ vs ∧ tt σ2 H2 fun b H3 =>
        if b = true then te σ2 H3 fun y H4 => ∃ acc, H4 D = some (.lst acc) ∧ acc.length < sizeLine ∧ Nx (upd H4 D (.lst (acc ++ [y]))) else Nx H3)) :=
  ⟨fun D hD => lc_tup (fun i H => Box (Pv D i H)) ⟨h0 D hD⟩ (fun i H hi p => hl D i H hi p.out) (fun i x H hx p => hs D i x H hx p.out) (fun H p => hd D H p.out)⟩
end
end Ow
namespace Ow
open PySem PySem.Spec PyProof.Rows L2
theorem cutV_sub (xs : List V) (lo hi : Option Int) {x : V} (h : x ∈ cutV xs lo hi) : x ∈ xs := List.mem_of_mem_drop (List.mem_of_mem_take h)
theorem cut_ints {xs : List Int} {lo hi : Option Int} {i : Nat} {x : V} (h : (cutV (xs.map V.int) lo hi)[i]? = some x) : ∃ y, x = V.int y := by
  obtain ⟨y, _, e⟩ := List.mem_map.mp (cutV_sub _ _ _ (List.mem_of_getElem? h))
  exact ⟨y, e.symm⟩
theorem cutV_take (xs : List V) (n : Nat) : (cutV xs none (some (n : Int))).length ≤ n := by
  unfold cutV
  rw [List.length_take]
  have : HT.sIx xs.length xs.length (some (n : Int)) ≤ n := by
    rw [HT.sIx_nat]
    omega
  omega
end Ow
namespace Ow
open PySem PySem.Spec PyProof.Rows L2
/-! ### where two ways meet -/
theorem cutT {c : TT} {σ : L2.St} {H : Hp} {post : Bool → Hp → Prop} (R : Bool → Hp → Prop) (h : ∀ post' : Bool → Hp → Prop, (∀ b H', R b H' → post' b H') → c σ H post') (k : ∀ b H', R b H' → post b H') : c σ H post := h post k
theorem cutI {c : TT} {a b : TS} {D : Ends} {σ : L2.St} {H : Hp} (R : Bool → Hp → Prop) (h : ∀ post' : Bool → Hp → Prop, (∀ b H', R b H' → post' b H') → c σ H post') (k : ∀ bb H', R bb H' → if bb = true then a D σ H' else b D σ H') : tIfS c a b D σ H := h _ k
theorem cutS {t : TS} {D : Ends} {σ : L2.St} {H : Hp} (R : L2.St → Hp → Prop) (h : ∀ nx' : L2.St → Hp → Prop, (∀ σ' H', R σ' H' → nx' σ' H') → t { D with nx := nx' } σ H) (k : ∀ σ' H', R σ' H' → D.nx σ' H') : Box (t D σ H) := ⟨h D.nx k⟩
end Ow
namespace Ow
open L2 in
theorem rg_mk {lo hi c : Int} (n : Nat) (h : (c ≠ 0 ∧ c.natAbs < 1073741824 ∧ PySem.Builtin.Range.small lo hi c = true ∧ PySem.Builtin.Range.rangeSize lo hi c = n) := by decide +kernel) : RgC lo hi c n := h
open L2 in
theorem Own.self {H0 H : Hp} {A : List PySem.Addr} {cs : Cells} (O : Own H0 H A cs) : Own H H (Ow.adr cs) cs := O.blk (s' := []) (cs' := []) .all
end Ow
namespace Ow
open L2 in
/-- behind a call that was handed nothing -/
theorem Own.callN {H0 H H' : Hp} {A : List PySem.Addr} {cs s' : Cells} (O : Own H0 H A cs) (C : Own H H' [] s') : Own H0 H' A (s' ++ cs) := O.call (s := []) .nil C
end Ow
namespace Ow
open PySem PySem.Spec PyProof.Rows L2
/-! ### what stands outside: the script -/
section
variable {K : PySem.W.Frag} {H0 H : Hp} {A : List Addr} {cs : Cells} {a : Addr} {xs : List V}
theorem Own.sq (O : Own H0 H [] cs) (h : SqL K H0 a xs) : SqL K H a xs := by
  rcases h with (h | ⟨o, h⟩) | h
  · exact .inl (.inl (O.fr0 h))
  · exact .inl (.inr ⟨o, O.fr0 h⟩)
  · exact .inr h
theorem Own.sqT (O : Own H0 H A cs) (h : SqT K H0 a xs) (hf : ∀ o, H0 a = some (.frz o (.tup xs)) → a ∉ A) : SqT K H a xs := by
  rcases h with (h | ⟨o, h⟩) | h
  · exact .inl (.inl (O.tup h))
  · exact .inl (.inr ⟨o, O.fr _ _ h (hf o h)⟩)
  · exact .inr h
theorem col_ex2 (h : SqL K H a xs) : ∃ xs, SqL K H a xs := ⟨_, h⟩
theorem col_ol2 {p : Prop} (h : SqL K H a xs) : SqL K H a xs ∨ p := .inl h
theorem col_or2 {p : Prop} (h : SqT K H a xs) : p ∨ SqT K H a xs := .inr h
end
end Ow
namespace Ow
open PySem PySem.Spec PyProof.Rows L2
/-! ### the end -/
theorem cx_no {P : Program} {w : World} {H : Hp} {s : Shared} {e : Value} {s' : Shared} (h : L2.CX P w [] H s (fun _ _ _ => False) e s') : False := by
  obtain ⟨_, _, _, _, _, _, _, _, _, _, _, _, h⟩ := h
  exact h
theorem walk_end {l : PySem.W.OpenLaw} {n k : Nat} {q : Program} {loose : List Str} {XP : (Str → Option Value) → Heap → Prop} {YP : World → Heap → Prop} {d : DefRec} {x : Str}
    (hn : l.most = some n) (hn2 : n ≤ sizeLine) (hdf : d.params.defaults = []) (hr : Room k callerA)
    (F : ∀ (w : World) (mg : Str → Option Value) (fa : Addr) (h : Heap), YP w h → h.Ns mainGlobals mg → mg d.name = some (.ref fa) →
      ∃ (K : PySem.W.Frag) (fd : FuncData) (sp : Sp), K.In h ∧ (∀ (s : Shared) (u : Value), BindsTo s fd ⟨[u], []⟩ [(x, u)]) ∧
        (∀ (H : Hp) (a : Addr) (ns : List Int), ns.length ≤ n → (∀ z ∈ ns, Builtin.Int.intBits z ≤ 1048576) → SqL K H a (ns.map V.int) → sp [.ref a] H (fun v _ => v = .bl true) fun _ _ _ => False) ∧
        ∀ base : Heap, K.In base → base.Ns mainGlobals mg → FnOk l.prog w K mg base (L2.CX l.prog w) k fa fd [x] sp) :
    PySem.W.WalkO q loose XP YP l.row.toRowW d [] (fun f vs => PySem.call f vs) := by
  refine Att.attach_callB hn hdf fun w s₀ s₁ mg mb fa o pm cd doc a vs ns G Y ho hd hcd hmg hobj hints hlen hbits hg => ?_
  obtain ⟨K, fd, sp, KX, hb, hsp, hF⟩ := F w mg fa _ Y G.T.g hmg
  exact law_call KX G.T.g G.T.b G.T.builtins G.T.nolimit hg hobj hints (Nat.le_trans hlen hn2) hr hF hb (fun H _ hS => hsp H a ns hlen hbits hS) fun _ _ _ h => cx_no h
theorem fn_of {P : Program} {w : World} {K : PySem.W.Frag} {mg : Str → Option Value} {base : Heap} {x qual : Str} {params : Arguments} {body : List Stmt} {scope : Scope} {f : Addr} {fd : FuncData} {N ps : List Str} {k : Nat} {sp : Sp} (F : FunD K x qual params body scope [] [] f fd) (S : FnScope N ps scope)
    (len : ∀ vs H Q E, sp vs H Q E → vs.length = ps.length)
    (hbody : ∀ (cdv : Value) (A : Around) (outer : List Env) (s : Shared) (H : Hp) (vs : List V) (Q : VK) (E : XK), Room k (A.deeper (envOfC qual scope s.heap.objs.size f cdv)) → sp vs H Q E →
      ∃ t, PSs (cxOf (L2.CX P w) P w K mg base N qual scope f cdv A outer s H E) body t ∧ t { nx := fun _ H' => Q .non H', rt := Q } (start N vs) H) : FnOk P w K mg base (L2.CX P w) (k + 1) f fd ps (bx sp) :=
  FunD.ok F S (fun vs H Q E h => len vs H Q E h.out) (fun cdv A outer s H vs Q E hr h => hbody cdv A outer s H vs Q E hr h.out)
end Ow
namespace Ow
open PySem PySem.Spec PyProof.Rows L2
/-! ### an exception that is held: known, in the suite and beyond it -/
theorem zc_of {cls : Value} {d : Option Addr} {o : Obj} (h : Zc cls d o) : o.cls = cls ∧ o.dict = d := ⟨h.1, by first | exact h.2 | exact h.2.1⟩
/-- an exception object at a, of the class cls, its dict d -/
def CxO (cls : Value) (d : Option Addr) (a : Addr) : HO := .ext fun h => ∃ (o : Obj) (vs : Array Value), h.get? a = some o ∧ Zc cls d o ∧ o.data = .fields vs
section
variable {X : Cx} {pins : List (Addr × Obj)} {σ : L2.St} {H : Hp} {s : Shared} {a : Addr} {cls : Value} {d : Option Addr} {o : Obj} {vs : Array Value}
theorem hold_ok (I : Inv X pins σ H s) (e : s.heap.get? a = some o) (z : Zc cls d o) (dt : o.data = .fields vs) (na : H a = none) (n0 : X.s_0.heap.get? a = none) (nL : a ≠ X.env.locals) (np : ∀ p ∈ X.pn ++ pins, p.1 ≠ a) :
    Inv X pins σ (upd H a (CxO cls d a)) s := by
  have sk : ∀ {b : Addr} {u : HO}, H b = some u → upd H a (CxO cls d a) b = some u := fun {b u} q => by
    rw [upd_ne (fun w => by rw [w, na] at q; cases q)]
    exact q
  have nk : ∀ {b : Addr}, b ≠ a → H b = none → upd H a (CxO cls d a) b = none := fun {b} q r => by
    rw [upd_ne q]
    exact r
  refine ⟨I.ok, I.os, I.bare, ⟨I.base.keep, I.base.slot, fun b u q1 q2 q3 => nk (fun w => by rw [w, n0] at q1; cases q1) (I.base.free b u q1 q2 q3), I.base.there, fun b xs q => sk (I.base.tups b xs q), fun b o' u q => sk (I.base.frzs b o' u q), fun b ps q => ?_⟩, I.loc, I.cell, nk (Ne.symm nL) I.free, fun x c q => nk (fun w => ?_) (I.freeC x c q), fun p hp => ?_, HOk.laidN I.hok (fun _ _ w => w) na ⟨⟨o, vs, e, z, dt⟩, ⟨o, e⟩, fun _ _ ⟨o2, v2, q, r⟩ k => ⟨o2, v2, k o2 q, r⟩⟩, I.len⟩
  · obtain ⟨m, r⟩ := I.base.tbls b ps q
    exact ⟨m, sk r⟩
  · subst w
    obtain ⟨v, oc, ho, hd⟩ := I.cell x c q
    rw [e] at ho
    cases ho
    rw [dt] at hd
    cases hd
  · obtain ⟨p1, p2, p3, p4, p5⟩ := I.pin p hp
    exact ⟨p1, nk (np p hp) p2, p3, p4, p5⟩
theorem suite_in {b : Addr} (I : Inv X pins σ H s) : Inv (X.suite b (X.pn ++ pins)) [] σ H s :=
  ⟨I.ok.suite _ _, I.os, I.bare, I.base, I.loc, I.cell, I.free, I.freeC, fun p hp => I.pin p ((List.append_nil (X.pn ++ pins)) ▸ hp), I.hok, I.len⟩
theorem suite_out {b : Addr} (I : Inv (X.suite b (X.pn ++ pins)) [] σ H s) (ok : X.Ok) : Inv X pins σ H s :=
  ⟨ok, I.os, I.bare, I.base, I.loc, I.cell, I.free, I.freeC, fun p hp => I.pin p ((List.append_nil (X.pn ++ pins)).symm ▸ hp), I.hok, I.len⟩
end
/-- the wish of a try whose suite may keep the exception -/
def wHold (K : PySem.W.Frag) (c : Value) (i : Nat) (ts : Addr → TS) (Wout : WX) (D : Ends) : WX := fun cls d σ H =>
  ∃ b, PySem.W.exmOne K cls c = some b ∧ (b = true → ∀ a, H a = none → ts a { nx := fun τ G => D.nx (τ.set i none) G, rt := D.rt, bk := fun τ G => D.bk (τ.set i none) G, ct := fun τ G => D.ct (τ.set i none) G } (σ.set i (some (.ref a))) (upd H a (CxO cls d a))) ∧ (b = false → Wout cls d σ H)
section
variable {X : Cx} {x n : Str} {c : Value} {i : Nat} {body suite : List Stmt} {b₀ : Stmt} {np pos pos' : Pos} {tb : WX → TS} {ts : Addr → TS} {Wout : WX}
theorem ps_tryX (hs : X.stack = X.env :: X.outer) (hf : X.env.frame = some X.env.locals) (hx : X.ex = []) (hN : X.N.Nodup) (hi : X.N[i]? = some n) (hln : X.env.kindOf n = some .local) (hc : Names X x c) (tk : Takes X Wout)
    (hb : ∀ (W : WX) (pn : List (Addr × Obj)) (xe : Value → Shared → Prop), Takes (X.tr pn xe) W → PassesOwn (model X.prog X.w) X.A X.env xe → PSs (X.tr pn xe) body (tb W))
    (hsu : ∀ (a : Addr) (pn : List (Addr × Obj)), PSs (X.suite a pn) (b₀ :: suite) (ts a)) :
    PS X (.Try body [.ExceptHandler (some (.Name x np)) (some n) (b₀ :: suite) pos'] [] [] pos) (fun D σ H => tb (wHold X.K c i ts Wout D) D σ H) := by
  refine ⟨fun pins s σ H D I hyp => ?_⟩
  have okX := I.ok
  have frames : X.A.frames = some (X.env :: X.outer) := by rw [okX.frames, hs]
  refine wpAny_Try_except ?_
  refine wpAny_mono ((hb (wHold X.K c i ts Wout D) (X.pn ++ pins) (fun ev sA => wpAny (model X.prog X.w) X.A (noteFrame ev X.env) (fun _ sB => wpAny (model X.prog X.w) X.A (setFlight ev none) (fun _ sC =>
    wpAny (model X.prog X.w) X.A (handleBy ev X.env [.ExceptHandler (some (.Name x np)) (some n) (b₀ :: suite) pos']) (SP X pins D) X.xe sC) X.xe sB) X.xe sA) (fun u sE flies => ?_) PassesOwn.looking).run [] s σ H D (I.toTry _) hyp) (fun fl sN ends => ?_) (fun ev sA left => left)
  · obtain ⟨a, B, sI, pins1, τ, G, cls, d, rfl, JT, nb, upS, skyS, na, os, ag, b, hm, yes, no⟩ := flies
    have JX : Inv X pins τ G sI := JT.ofTry okX
    have skyX : Sky B (X.env :: X.outer) a (Zc cls d) X.env.locals sE.heap := by rw [← hs]; exact skyS
    have nB : B.get? a = none := by
      rcases skyS with w | w | w
      · exact w.2.1
      · exact w.2.1
      · exact w.2.1
    show wpAny (model X.prog X.w) X.A (noteFrame (.ref a) X.env) _ _ _
    refine Sky.land Zc.steady frames hf skyX fun g3 fl3 up3 => ?_
    have J3 : Inv X pins τ G { sE with heap := g3 } := JX.landed nb fl3.1 (upS.trans up3) os ag
    obtain ⟨q3, w3, at3, z3, dt3⟩ := fl3.there
    have outside : a ∉ frs (X.env :: X.outer) := fun hm => by
      obtain ⟨_, o', e', hnf⟩ := fl3.2.2.1.mem hm
      rw [at3] at e'
      cases e'
      exact hnf _ dt3
    have nL : a ≠ X.env.locals := fun z => outside (List.mem_filterMap.mpr ⟨X.env, .head _, by rw [hf, z]⟩)
    have nF : a ∉ X.fs := fun hm => by
      obtain ⟨ev, he, q⟩ := List.mem_filterMap.mp hm
      exact outside (List.mem_filterMap.mpr ⟨ev, .tail _ he, q⟩)
    have below : ∀ {u : Addr} {ob : Obj}, sI.heap.get? u = some ob → u ∉ frs (X.env :: X.outer) → u ≠ a := fun {u ob} q r w => by
      have k := nb u ob q (by rw [hs]; exact r)
      rw [w, nB] at k
      cases k
    have new0 : X.s_0.heap.get? a = none := by
      cases q : X.s_0.heap.get? a with
      | none => rfl
      | some ob =>
        obtain ⟨ob2, r⟩ := JX.base.there a ob q (by rw [hx]; exact fun w => nomatch w)
        exact absurd rfl (below r outside)
    have unpinned : ∀ p ∈ X.pn ++ pins, p.1 ≠ a := fun p hp => by
      obtain ⟨p1, _, p3, p4, _⟩ := JX.pin p hp
      refine below p1 fun hm => ?_
      obtain ⟨ev, he, q⟩ := List.mem_filterMap.mp hm
      rcases List.mem_cons.mp he with w | w
      · rw [w, hf] at q
        exact p3 (Option.some.inj q).symm
      · exact p4 (List.mem_filterMap.mpr ⟨ev, w, q⟩)
    have S3 := J3.suite at3 dt3 na nL nF
    refine wpAny_handleBy_cons (codeAny_handlers_test ?_) (by intro w; cases w)
    have kind : PySem.W.Looks (model X.prog X.w) g3 (typeOf (.ref a)) cls := fun A Q E t k w => wpAny_typeOf_ref (k _ _ at3) (by rw [z3.1]; exact w)
    have match_ := PySem.W.exm_one (M := model X.prog X.w) (J3.kIn) kind hm
    have named : ∀ {Q E : Value → Shared → Prop}, Q c { sE with heap := g3 } → wpAny (model X.prog X.w) (X.A.mark (some (.ref a))) (eval (.Name x np) X.env) Q E { sE with heap := g3 } := fun {Q E} w => by
      obtain ⟨hg, hdbg, m1 | ⟨m1, m2, m3⟩⟩ := hc
      · exact ld_glob (X := X.suite a ((a, q3) :: (X.pn ++ pins))) S3 hg m1 w hdbg
      · exact ld_blt (X := X.suite a ((a, q3) :: (X.pn ++ pins))) S3 hg m1 m2 w m3 hdbg
    refine named (match_.here ?_)
    cases b with
    | true =>
      refine codeAny_handlers_suite_as ?_
      refine HandSPX.lands_againZ fl3 fun g4 fl4 up4 => ?_
      have J4 : Inv X pins τ G { sE with heap := g4 } := JX.landed nb fl4.1 ((upS.trans up3).trans up4) os ag
      obtain ⟨q4, w4, at4, z4, dt4⟩ := fl4.there
      have S4 := suite_in (b := a) (hold_ok J4 at4 z4 dt4 na new0 nL unpinned)
      refine store_ok (X := X.suite a (X.pn ++ pins)) (v := .ref a) S4 hN hi (.inl hln) rfl (fun s5 S5 => ?_) (.inr hln)
      refine wpAny_mono ((hsu a (X.pn ++ pins)).run [] s5 _ _ _ S5 (yes rfl a na)) (fun fl s6 ends => ?_) (fun _ _ w => False.elim w)
      have off : ∀ {τ6 : L2.St} {G6 : Hp} {Q : Shared → Prop}, Inv (X.suite a (X.pn ++ pins)) [] τ6 G6 s6 → (∀ s7, Inv X pins (τ6.set i none) G6 s7 → Q s7) →
          wpAny (model X.prog X.w) X.A (do bindName X.env n .none; unbindBehindTheSuite X.env n pos') (fun _ s7 => Q s7) X.xe s6 := fun {τ6 G6 Q} S6 w => gone_ok (suite_out S6 okX) hN hi hln w
      cases fl with
      | next =>
        obtain ⟨_, _, S6, r⟩ := ends
        exact off S6 fun _ J7 => ⟨_, _, J7, r⟩
      | brk =>
        obtain ⟨_, _, S6, r⟩ := ends
        exact off S6 fun _ J7 => ⟨_, _, J7, r⟩
      | cont =>
        obtain ⟨_, _, S6, r⟩ := ends
        exact off S6 fun _ J7 => ⟨_, _, J7, r⟩
      | ret u =>
        obtain ⟨_, _, _, S6, r1, r2⟩ := ends
        exact off S6 fun _ J7 => ⟨_, _, _, J7, r1, r2⟩
    | false =>
      show wpAny _ X.A (handleBy (.ref a) X.env []) _ _ _
      refine wpAny_handleBy_nil ?_
      obtain ⟨_, _, _, ob, ws, T, oT, tr, hob, hzb, hdb, hfb, hrb⟩ := id fl3
      unfold PySem.passOn
      refine wpAny_bind (wpAny_field hob hdb hfb ?_)
      rw [if_neg (show ¬ ((Value.ref T == Value.none) = true) by simp)]
      have out : wpAny (model X.prog X.w) X.A (setFlight (.ref a) X.env.frame) (fun _ t4 => wpAny (model X.prog X.w) X.A (throw (.ref a) : Sem Flow) (SP X pins D) X.xe t4) X.xe { sE with heap := g3 } := by
        rw [hf]
        refine HandSPX.setFlight_upZ fl3 fun g4 in4 up4 => wpAny_throw (tk _ _ ?_)
        exact ⟨a, B, sI, pins, τ, G, cls, d, rfl, JX, nb, (upS.trans up3).trans up4, .inr (.inr (by rw [hs]; exact in4)), na, os, ag, no rfl⟩
      first
        | exact wpAny_bind (wpAny_pure (wpAny_bind out))
        | exact wpAny_bind out
  · cases fl with
    | next =>
      obtain ⟨τ, G, JT, r⟩ := ends
      exact wpAny_execs_nil ⟨τ, G, JT.ofTry okX, r⟩
    | brk =>
      obtain ⟨τ, G, JT, r⟩ := ends
      exact ⟨τ, G, JT.ofTry okX, r⟩
    | cont =>
      obtain ⟨τ, G, JT, r⟩ := ends
      exact ⟨τ, G, JT.ofTry okX, r⟩
    | ret u =>
      obtain ⟨v, τ, G, JT, r1, r2⟩ := ends
      exact ⟨v, τ, G, JT.ofTry okX, r1, r2⟩
/-- isinstance(e, c), e a held exception -/
def rIsX (K : PySem.W.Frag) : List V → Hp → VK → Prop := fun xs H Q => ∃ (a D : Addr) (c : V) (cv : Value) (b : Bool), xs = [.ref a, c] ∧ H a = some (CxO (.ref D) none a) ∧ ExcC K D ∧ ClsV c cv ∧ PySem.W.kitOne K (.ref D) cv = some b ∧ Q (.bl b) H
theorem call_isX : CallR X (.builtin "isinstance") (rIsX X.K) := by
  intro pins s σ H xs us Q I r h
  obtain ⟨a, D, cl, cv, b, rfl, ha, C, only, says, q⟩ := h
  cases r with
  | cons rx rr =>
    cases rr with
    | cons rt rr =>
      cases rr
      cases rx
      have ec := only.eq rt
      subst ec
      obtain ⟨⟨ob, vs, at_, z, dt⟩, _, _⟩ := I.hok a _ ha
      have J : PySem.W.InstAt s.heap a ob D none := by
        obtain ⟨oc, od, oda, osl⟩ := ob
        obtain ⟨h1, h2⟩ := zc_of z
        dsimp only at h1 h2 dt
        subst h1 h2 dt
        exact ⟨at_, rfl, rfl, trivial⟩
      refine PySem.W.kia_one (PySem.W.handS_kitx_exc C.hg C.hk C.hs C.hd C.ha C.hn C.ht C.hm) I.kIn J says (fun w => nomatch w) fun tk => ?_
      exact ⟨.bl b, H, I.kept (t' := tk) fun _ _ w => w, rfl, q⟩
end
end Ow
namespace Ow
open PySem PySem.Spec PyProof.Rows L2
/-- xs[i], where it is read to be put anew -/
theorem get_list {X : Cx} : PGet X (rIxL X.K) := by
  intro pins s σ H o i ov iv Q I ro ri h
  obtain ⟨p, xs, k, z, rfl, rfl, hq, he, q⟩ := h
  cases ro
  obtain ⟨t, rfl⟩ := ri
  obtain ⟨its, r, pl, hz⟩ := I.list hq
  obtain ⟨j, h1, h2, h3, h4, h5⟩ := atI_get he
  obtain ⟨w, ew, rw'⟩ := r.get h2
  have lenX := r.length
  have wide := line63
  have done : EP X pins σ Q w s := ⟨z, H, I, rw', q⟩
  by_cases h0 : 0 ≤ k
  · have hk : k.toNat = j := by
      rw [seqIndex_of h0 h5] at h1
      exact Option.some.inj h1
    exact wpAny_getItem_list pl.isList h0 (by omega) (by rw [hk]; simpa using ew) done
  · have hk : (k + (its.toArray.size : Int)).toNat = j := by
      rw [seqIndex_neg (by omega) h4] at h1
      rw [List.size_toArray, ← lenX]
      exact Option.some.inj h1
    exact wpAny_getItem_list_neg pl.isList (by omega) (by rw [List.size_toArray] <;> omega) (by omega) (by rw [hk]; simpa using ew) done
end Ow
namespace Ow
open PySem PySem.Spec PyProof.Rows L2
/-! ### facts of exceptions, by one look -/
def excB (K : PySem.W.Frag) (D : Addr) : Bool := [PySem.W.findIn K (.ref D) "__getattribute__" == some (some (.builtin "BaseException.__getattribute__")), PySem.W.findIn K (.ref D) "__getattr__" == some none, PySem.W.subIn K (.ref D) (.type "BaseException") == some true, PySem.W.hasDictIn K D,
  PySem.W.findIn K (.ref D) "__class__" == some (some (.builtin "object.__class__")), PySem.W.specialIn K (.builtin "object.__class__") "__get__" == some (some (.builtin "getset_descriptor.__get__")), PySem.W.takesIn K (.builtin "object.__class__") == some true, PySem.W.mroIn K D (.type "object") == some true].all id
theorem all_at {l : List Bool} (h : l.all id = true) (k : Nat) {b : Bool} (e : l[k]? = some b) : b = true := List.all_eq_true.mp h b (List.mem_of_getElem? e)
theorem excB_ok {K : PySem.W.Frag} {D : Addr} (h : excB K D = true) : ExcC K D :=
  ⟨eq_of_beq (all_at h 0 rfl), eq_of_beq (all_at h 1 rfl), eq_of_beq (all_at h 2 rfl), all_at h 3 rfl, eq_of_beq (all_at h 4 rfl), eq_of_beq (all_at h 5 rfl), eq_of_beq (all_at h 6 rfl), eq_of_beq (all_at h 7 rfl)⟩
end Ow
namespace Ow
open PySem PySem.Spec PyProof.Rows L2
/-! ### rows of flat things -/
theorem fl_of {v : V} (h : flatV v = true) : flatV v = true := h
theorem all_flat (ns : List Int) : (ns.map V.int).all flatV = true := List.all_eq_true.mpr fun x hx => by
  obtain ⟨y, _, rfl⟩ := List.mem_map.mp hx
  rfl
theorem all_flatS (ns : List Str) : (ns.map V.str).all flatV = true := List.all_eq_true.mpr fun x hx => by
  obtain ⟨y, _, rfl⟩ := List.mem_map.mp hx
  rfl
theorem eqV_int (i j : Int) : eqV (.int i) (.int j) = decide (i = j) := by
  show (i == j) = _
  by_cases h : i = j
  · rw [decide_eq_true h, h]; simp
  · rw [decide_eq_false h]; simp [h]
theorem inV_ints (i : Int) (ns : List Int) : inV (.int i) (ns.map V.int) = decide (i ∈ ns) := by
  unfold inV
  rw [List.any_map]
  by_cases h : i ∈ ns
  · rw [decide_eq_true h]
    exact List.any_eq_true.mpr ⟨i, h, by show eqV (.int i) (.int i) = true; rw [eqV_int]; simp⟩
  · rw [decide_eq_false h]
    refine List.any_eq_false.mpr fun x hx => ?_
    show ¬ eqV (.int x) (.int i) = true
    rw [eqV_int]
    intro z
    exact h (of_decide_eq_true z ▸ hx)
theorem rep_flat (n : Nat) (v : V) : (List.replicate ((n : Nat) : Int).toNat [v]).flatten = List.replicate n v := by
  rw [Int.toNat_natCast]
  induction n with
  | zero => rfl
  | succ n ih => rw [List.replicate_succ, List.flatten_cons, ih]; rfl
theorem rep_map {α : Type} (f : α → V) (n : Nat) (a : α) : List.replicate n (f a) = (List.replicate n a).map f := (List.map_replicate).symm
end Ow
namespace Ow
open PySem PySem.Spec PyProof.Rows L2
theorem set_split {α : Type} {cs : List α} {i : Nat} {x y : α} (h : cs[i]? = some x) : cs.set i y = cs.take i ++ y :: cs.drop (i + 1) := by
  have h1 := (List.getElem?_eq_some_iff.mp h).1
  rw [List.set_eq_take_append_cons_drop, if_pos h1]
theorem at_split {α : Type} {cs : List α} {i : Nat} {x : α} (h : cs[i]? = some x) : cs = cs.take i ++ x :: cs.drop (i + 1) := by
  obtain ⟨h1, rfl⟩ := List.getElem?_eq_some_iff.mp h
  rw [List.getElem_cons_drop h1, List.take_append_drop]
theorem set_map {α β : Type} (f : α → β) : ∀ (l : List α) (i : Nat) (a : α), (l.map f).set i (f a) = (l.set i a).map f
  | [], _, _ => rfl
  | _ :: _, 0, _ => rfl
  | x :: r, i + 1, a => by rw [List.map_cons, List.set_cons_succ, List.set_cons_succ, List.map_cons, set_map f r i a]
theorem ix_at {n i : Nat} (h : i < n) : ixN n (i : Int) = some i := by
  unfold ixN
  rw [if_pos (by omega), if_pos (by omega), Int.toNat_natCast]
/-- a thing of a row is put anew: its old cell is let go -/
theorem Own.put {α : Type} {H0 H : Hp} {A : List Addr} {pre : Cells} {l : List α} {g : α → Addr × HO} {b y : α} {j : Nat} (O : Own H0 H A (g b :: (pre ++ l.map g))) (h : l[j]? = some y) : Own H0 H A (pre ++ (l.set j b).map g) := by
  have e := at_split h
  have O1 : Own H0 H A (g b :: (pre ++ ((l.take j).map g ++ (l.drop (j + 1)).map g))) := O.drop (by
    conv => rhs; rw [e, List.map_append, List.map_cons]
    exact .cons₂ _ (.append (.refl _) (.append (.refl _) (.cons _ (.refl _)))))
  rw [set_split h, List.map_append, List.map_cons]
  refine O1.perm ?_
  rw [← List.append_assoc, ← List.append_assoc]
  exact List.perm_middle.symm
end Ow
namespace Ow
open PySem PySem.Spec PyProof.Rows L2
theorem take_succ {α : Type} {l : List α} {i : Nat} {y : α} (h : l[i]? = some y) : l.take (i + 1) = l.take i ++ [y] := by
  rw [List.take_succ, h]; rfl
theorem sorted_ext : ∀ {l k : List Int}, l.Pairwise (· < ·) → k.Pairwise (· < ·) → (∀ m, m ∈ l ↔ m ∈ k) → l = k
  | [], [], _, _, _ => rfl
  | [], y :: k, _, _, h => absurd ((h y).mpr List.mem_cons_self) (by simp)
  | x :: l, [], _, _, h => absurd ((h x).mp List.mem_cons_self) (by simp)
  | x :: l, y :: k, h1, h2, h => by
    obtain ⟨a1, a2⟩ := List.pairwise_cons.mp h1
    obtain ⟨b1, b2⟩ := List.pairwise_cons.mp h2
    have e : x = y := by
      rcases List.mem_cons.mp ((h x).mp List.mem_cons_self) with z | z
      · exact z
      · rcases List.mem_cons.mp ((h y).mpr List.mem_cons_self) with w | w
        · exact w.symm
        · have := b1 _ z
          have := a1 _ w
          omega
    subst e
    rw [sorted_ext a2 b2 fun m => ⟨fun hm => ?_, fun hm => ?_⟩]
    · rcases List.mem_cons.mp ((h m).mp (List.mem_cons_of_mem _ hm)) with z | z
      · have := a1 _ hm; omega
      · exact z
    · rcases List.mem_cons.mp ((h m).mpr (List.mem_cons_of_mem _ hm)) with z | z
      · have := b1 _ hm; omega
      · exact z
end Ow
namespace Ow
open L2 in
/-- behind a call: what it has made stands ahead -/
theorem Own.callE {H0 H H' : Hp} {A : List PySem.Addr} {cs s s' cs' e : Cells} (O : Own H0 H A cs) (h : Sub cs s s' cs') (C : Own H H' (Ow.adr s) (e ++ s')) : Own H0 H' A (e ++ cs') := by
  obtain ⟨l, r, rfl, rfl⟩ := h.split
  have O1 := O.call (cs' := l ++ ((e ++ s') ++ r)) (.app .here) C
  refine O1.perm ?_
  have e1 : l ++ ((e ++ s') ++ r) = (l ++ e) ++ (s' ++ r) := by simp only [List.append_assoc]
  have e2 : e ++ (l ++ (s' ++ r)) = (e ++ l) ++ (s' ++ r) := by simp only [List.append_assoc]
  rw [e1, e2]
  exact (List.perm_append_comm).append_right _
end Ow
namespace Ow
open PySem PySem.Spec PyProof.Rows L2
/-- a new thing, as the goal names it: it is ours from now on -/
theorem Own.nxt {H0 H : Hp} {A : List Addr} {cs : Cells} {p : Addr} {o : HO} {G : Hp → Prop} (O : Own H0 H A cs) (h : H p = none) (k : Own H0 (upd H p o) A ((p, o) :: cs) → G (upd H p o)) : G (upd H p o) := k (O.new h)
theorem Own.nxtQ {H0 H : Hp} {A : List Addr} {cs : Cells} {p : Addr} {o : HO} {Q : VK} {G : Hp → VK → Prop} (O : Own H0 H A cs) (h : H p = none) (k : Own H0 (upd H p o) A ((p, o) :: cs) → G (upd H p o) Q) : G (upd H p o) Q := k (O.new h)
end Ow
namespace Ow
open PySem PySem.Spec PyProof.Rows L2
/-! ### loops and comprehensions over anything that is walked -/
section
variable {J : It} {n : Nat} {G : Hp → Prop} {Y : Nat → Hp → V → Hp → Prop}
theorem forW (w : Walk J n G Y) {g : TG} {tb : TS} {D : Ends} {σ : L2.St} {H : Hp} (Pv : Nat → L2.St → Hp → Prop) (h0 : Pv 0 σ H) (hG : ∀ i σ H, i ≤ n → Pv i σ H → G H)
    (hs : ∀ i x σ H H', i < n → Pv i σ H → Y i H x H' → g x σ H' fun σ2 H2 => tb { D with nx := fun σ H => Box (Pv (i + 1) σ H), ct := fun σ H => Box (Pv (i + 1) σ H), bk := D.nx } σ2 H2) (hd : ∀ σ H, Pv n σ H → D.nx σ H) :
    Box (∃ W : Nat → Nat → L2.St → Hp → Prop, (∃ m, W 0 m σ H) ∧ ∀ i m σ H, W i m σ H →
      (J.stop i H ∧ D.nx σ H) ∨ (J.go i H ∧ ∃ N : L2.St → Hp → Prop, (∀ σ' H', N σ' H' → ∃ m', m' < m ∧ W (i + 1) m' σ' H') ∧ ∀ x H', J.yld i H x H' → g x σ H' fun σ2 H2 => tb { D with nx := N, ct := N, bk := D.nx } σ2 H2)) :=
  ⟨for_it w (fun i σ H => Box (Pv i σ H)) ⟨h0⟩ (fun i σ H hi p => hG i σ H hi p.out) (fun i x σ H H' hi p y => hs i x σ H H' hi p.out y) (fun σ H p => hd σ H p.out)⟩
theorem lcW (w : Walk J n G Y) {g : TG} {tt : TT} {te : TE} {vs : List Nat} {σ : L2.St} {H1 : Hp} {Q : Addr → Hp → Prop} (Pv : Addr → Nat → Hp → Prop) (h0 : ∀ D, H1 D = none → Pv D 0 (upd H1 D (.lst []))) (hG : ∀ D i H, i ≤ n → Pv D i H → G H)
    (hs : ∀ D i x H H', i < n → Pv D i H → Y i H x H' → g x (wipe σ vs) H' fun σ2 H2 => wipe σ2 vs = wipe σ vs ∧ tt σ2 H2 fun b H3 =>
      if b = true then te σ2 H3 fun y H4 => ∃ acc, H4 D = some (.lst acc) ∧ acc.length < sizeLine ∧ Box (Pv D (i + 1) (upd H4 D (.lst (acc ++ [y])))) else Box (Pv D (i + 1) H3)) (hd : ∀ D H, Pv D n H → Q D H) :
    Box (∀ D, H1 D = none → ∃ W : Nat → Nat → Hp → Prop, (∃ m, W 0 m (upd H1 D (.lst []))) ∧ ∀ i m H, W i m H →
      (J.stop i H ∧ Q D H) ∨ (J.go i H ∧ ∃ Nx : Hp → Prop, (∀ H', Nx H' → ∃ m', m' < m ∧ W (i + 1) m' H') ∧ ∀ x H', J.yld i H x H' → g x (wipe σ vs) H' fun σ2 H2 => wipe σ2 vs = wipe σ vs ∧ tt σ2 H2 fun b H3 =>
        if b = true then te σ2 H3 fun y H4 => ∃ acc, H4 D = some (.lst acc) ∧ acc.length < sizeLine ∧ Nx (upd H4 D (.lst (acc ++ [y]))) else Nx H3)) :=
  ⟨fun D hD => lc_it w (fun i H => Box (Pv D i H)) ⟨h0 D hD⟩ (fun i H hi p => hG D i H hi p.out) (fun i x H H' hi p y => hs D i x H H' hi p.out y) (fun H p => hd D H p.out)⟩
end
/-- None or a whole number -/
def oV : Option Int → V
  | none => .non
  | some i => .int i
theorem tyStr_of {K : PySem.W.Frag} {z : Str} {H : Hp} : tyV K "str" (.str z) H := rfl
theorem isStr_of {z : Str} : ∃ a, V.str z = V.str a := ⟨z, rfl⟩
theorem putF_lt {f : Str} {v : V} {n : Nat} : ∀ {fs : List (Str × V)}, fs.length < n → (putF f v fs).length < n + 1
  | [], h => by show 1 < n + 1; simp only [List.length_nil] at h; omega
  | (g, x) :: r, h => by
    rw [List.length_cons] at h
    unfold putF
    by_cases e : g = f
    · rw [if_pos e, List.length_cons]; omega
    · rw [if_neg e, List.length_cons]
      have := putF_lt (f := f) (v := v) (n := n - 1) (fs := r) (by omega)
      omega
theorem at_of {xs : List V} {i : Int} {v : V} (h : atI xs i = some v) : atI xs i = some v := h
theorem ix_of {n : Nat} {i : Int} {j : Nat} (h : ixN n i = some j) : ixN n i = some j := h
theorem cp_of {i j : Int} (h : CPow i j) : CPow i j := h
theorem cmw_of {i j : Int} (h : CMulW i j) : CMulW i j := h
theorem eq_oV {o : Option Int} {j : Int} : decide (oV o = V.int j) = decide (o = some j) := by
  cases o with
  | none => simp [oV]
  | some i => simp [oV]
theorem zip_all {α β γ : Type} [DecidableEq γ] (f : α → γ) (g : β → γ) : ∀ (xs : List α) (ys : List β), xs.length = ys.length → ((xs.zip ys).map fun p => decide (f p.1 = g p.2)).all id = decide (xs.map f = ys.map g)
  | [], [], _ => rfl
  | [], _ :: _, h => by cases h
  | _ :: _, [], h => by cases h
  | x :: xs, y :: ys, h => by
    have ih := zip_all f g xs ys (by simpa using h)
    simp only [List.zip_cons_cons, List.map_cons, List.all_cons, id_eq, ih, List.cons.injEq, Bool.decide_and]
theorem zip_at {α β : Type} {xs : List α} {ys : List β} {i : Nat} {x : α} {y : β} (h1 : xs[i]? = some x) (h2 : ys[i]? = some y) : (xs.zip ys)[i]? = some (x, y) := List.getElem?_zip_eq_some.mpr ⟨h1, h2⟩
/-! ### readings by name, for what stands within a comprehension -/
def rLenSq (K : PySem.W.Frag) : List V → Hp → VK → Prop := fun xs H Q => ∃ p ys, xs = [.ref p] ∧ (SqL K H p ys ∨ SqT K H p ys) ∧ Q (.int ys.length) H
def rLenV (K : PySem.W.Frag) : List V → Hp → VK → Prop := fun xs H Q => ∃ x n, xs = [x] ∧ LenV K x H n ∧ Q (.int n) H
def rListOf (K : PySem.W.Frag) : List V → Hp → VK → Prop := fun xs H Q => ∃ p ys, xs = [.ref p] ∧ (SqL K H p ys ∨ SqT K H p ys) ∧ ∀ l, H l = none → Q (.ref l) (upd H l (.lst ys))
def rTupOf (K : PySem.W.Frag) : List V → Hp → VK → Prop := fun xs H Q => ∃ p ys, xs = [.ref p] ∧ ((SqL K H p ys ∧ ∀ l, H l = none → Q (.ref l) (upd H l (.tup ys))) ∨ (SqT K H p ys ∧ Q (.ref p) H))
/-! ### rows of whole numbers, each with its place -/
abbrev Pg := Addr × List Int
abbrev pcel (x : Pg) : Addr × HO := (x.1, .lst (x.2.map V.int))
/-- the rows stand in the heap -/
def RowsAt (H : Hp) (rs : List Pg) : Prop := ∀ r ∈ rs, H r.1 = some (.lst (r.2.map V.int))
theorem RowsAt.mono {H0 H : Hp} {cs : Cells} {rs : List Pg} (h : RowsAt H0 rs) (O : Own H0 H [] cs) : RowsAt H rs := fun r hr => O.fr0 (h r hr)
theorem Own.rows {H0 H : Hp} {A : List Addr} {cs : Cells} {rs : List Pg} (O : Own H0 H A cs) (h : ∀ r ∈ rs, pcel r ∈ cs) : RowsAt H rs := fun r hr => O.get (h r hr)
theorem refs_get {rs : List Pg} {i : Nat} {x : V} (h : (rs.map fun x : Pg => V.ref x.1)[i]? = some x) : ∃ y, rs[i]? = some y ∧ x = V.ref y.1 := by
  rw [List.getElem?_map] at h
  cases e : rs[i]? with
  | none => rw [e] at h; cases h
  | some y => rw [e] at h; exact ⟨y, rfl, (Option.some.inj h).symm⟩
/-- a thing of a row is put anew, where more stands behind -/
theorem Own.put2 {α : Type} {H0 H : Hp} {A : List Addr} {pre post : Cells} {l : List α} {g : α → Addr × HO} {b y : α} {j : Nat} (O : Own H0 H A (g b :: (pre ++ (l.map g ++ post)))) (h : l[j]? = some y) : Own H0 H A (pre ++ ((l.set j b).map g ++ post)) := by
  have O1 : Own H0 H A (g b :: ((post ++ pre) ++ l.map g)) := O.perm (by
    refine .cons _ ?_
    rw [List.append_assoc, ← List.append_assoc pre]
    exact List.perm_append_comm)
  have O2 := O1.put h
  refine O2.perm ?_
  rw [List.append_assoc, ← List.append_assoc pre]
  exact List.perm_append_comm
theorem rgV0 (n : Nat) : rgV 0 (n : Int) = ((List.range n).map fun i : Nat => (i : Int)).map V.int := by
  unfold rgV
  rw [List.map_map, show ((n : Int) - 0).toNat = n by omega]
  exact List.map_congr_left fun i _ => by rw [Int.zero_add]; rfl
theorem cutV_to (xs : List V) (n : Nat) : cutV xs none (some (n : Int)) = xs.take n := by
  unfold cutV
  rw [HT.sIx_nat]
  show (xs.drop 0).take _ = _
  rw [List.drop_zero, HT.sIx_none, Nat.sub_zero]
  by_cases h : n ≤ xs.length
  · rw [show min n xs.length = n by omega]
  · rw [show min n xs.length = xs.length by omega, List.take_length, List.take_of_length_le (by omega)]
theorem cutV_from (xs : List V) (n : Nat) : cutV xs (some (n : Int)) none = xs.drop n := by
  unfold cutV
  rw [HT.sIx_nat]
  show (xs.drop (min n xs.length)).take (xs.length - min n xs.length) = _
  by_cases h : n ≤ xs.length
  · rw [show min n xs.length = n by omega, List.take_of_length_le (by rw [List.length_drop]; omega)]
  · rw [show min n xs.length = xs.length by omega, List.drop_length, List.drop_eq_nil_of_le (by omega), List.take_nil]
theorem cutV_mid (xs : List V) (a b : Nat) (h : a ≤ b) (hb : b ≤ xs.length) : cutV xs (some (a : Int)) (some (b : Int)) = (xs.drop a).take (b - a) := by
  unfold cutV
  rw [HT.sIx_nat, HT.sIx_nat, show min a xs.length = a by omega, show min b xs.length = b by omega]
/-- cells that were handed and stand as they stood need not be told -/
theorem Own.back {H0 H : Hp} {cs bs : Cells} (O : Own H0 H (Ow.adr bs) (cs ++ bs)) (h : ∀ a o, (a, o) ∈ bs → H0 a = some o) : Own H0 H [] cs := by
  have nd := O.nd
  rw [adr_app] at nd
  obtain ⟨n1, n2, n3⟩ := List.nodup_append.mp nd
  refine ⟨fun a o m => O.at_ a o (List.mem_append_left _ m), n1, fun b o e _ => ?_, fun b m => ?_, O.tp⟩
  · by_cases hb : b ∈ Ow.adr bs
    · obtain ⟨c, hc, rfl⟩ := List.mem_map.mp hb
      have e2 := h c.1 c.2 hc
      rw [e] at e2
      cases e2
      exact O.at_ _ _ (List.mem_append_right _ hc)
    · exact O.fr b o e hb
  · rcases O.nw b (by rw [adr_app]; exact List.mem_append_left _ m) with z | z
    · exact absurd rfl (n3 b m b z)
    · exact .inr z
/-- a dict is written: a key that is not there comes last -/
theorem putK_new {kvs : List (Key × V)} {k : Key} {v : V} (h : k ∉ kvs.map (·.1)) : putK kvs k v = kvs ++ [(k, v)] := by
  unfold putK
  rw [if_neg]
  intro e
  obtain ⟨x, hx, e⟩ := List.any_eq_true.mp e
  exact h (List.mem_map.mpr ⟨x, hx, of_decide_eq_true e⟩)
theorem mergeK_app : ∀ {more acc : List (Key × V)}, ((acc ++ more).map (·.1)).Nodup → mergeK acc more = acc ++ more
  | [], acc, _ => (List.append_nil acc).symm
  | (k, v) :: r, acc, h => by
    have h1 : k ∉ acc.map (·.1) := by
      rw [List.map_append] at h
      intro z
      exact (List.nodup_append.mp h).2.2 k z k (by simp) rfl
    show mergeK (putK acc k v) r = _
    rw [putK_new h1, mergeK_app (by rw [List.append_assoc]; exact h), List.append_assoc]
    rfl
theorem Own.sep {H0 H : Hp} {A : List Addr} {X Y : Cells} {a : Addr} (O : Own H0 H A (X ++ Y)) (h : a ∈ Ow.adr X) : a ∉ Ow.adr Y := fun z => by
  have nd := O.nd
  rw [adr_app] at nd
  exact (List.nodup_append.mp nd).2.2 a h a z rfl
theorem atI_last {xs : List V} {v : V} (h : xs[xs.length - 1]? = some v) : atI xs (-1) = some v := by
  have hl := (List.getElem?_eq_some_iff.mp h).1
  have e : ixN xs.length (-1) = some (xs.length - 1) := by
    unfold ixN
    rw [if_neg (by decide), if_pos (by omega)]
    congr 1
    omega
  unfold atI
  rw [e]
  exact h
/-! ### dicts of lists, compared -/
section
open PySem.Calls PyProof.V
variable {prog : Program} {w : World} {κ : Type} [DecidableEq κ] {knd : KeyKind prog w κ} {A : Around} {s : Shared}
theorem neP_dicts {a b : Addr} {ka kb : List (κ × Value)} {r : Bool} (ha : (a == sysModules) = false) (hb : (b == sysModules) = false) (da : s.heap.DictOf knd a ka) (db : s.heap.DictOf knd b kb) (hu : A.units < cLine)
    (hits : ka.length = kb.length → PySem.W.KeqHitsP prog w A.in1 s kb ka r) (E Q : Value → Shared → Prop) (h : Q (.bool (!(ka.length == kb.length && r))) s) : wpAny (model prog w) A (compareOp .NotEq (.ref a) (.ref b)) Q E s := by
  refine wpAny_richCompare_same_room (op := .NotEq) da.typeIs db.typeIs PySem.F.slot_dict_ne (wpAny_call_entry PySem.F.slot_dict_ne da.typeIs PySem.F.entry_dict_ne ?_ (PySem.F.args_dict_ne_2 _ _)) hu
  show wpAny _ _ (Builtin.Dict.dictSlotArgs "__ne__" ⟨[.ref a, .ref b], []⟩ >>= _) _ _ s
  refine wpAny_bind ?_
  unfold Builtin.Dict.dictSlotArgs
  refine wpAny_bind (wpAny_notOrdered_dict da.typeIs ?_)
  show wpAny _ _ (pure (Value.ref a, Value.ref b)) _ _ s
  refine wpAny_pure ?_
  refine wpAny_bind (wpAny_isInstance (T := "dict") db.typeIs PySem.F.sub_dict_dict ?_)
  simp only [Bool.not_true, Bool.false_eq_true, if_false]
  refine wpAny_bind (wpAny_pure (wpAny_bind (wpAny_pure ?_)))
  refine wpAny_bind (PySem.W.samePairsP ha hb da db hits ?_)
  refine wpAny_pure ⟨_, rfl, ?_, ?_⟩
  · exact fun x => nomatch x
  · simpa using h
end
/-- d != e, two dicts: of unlike lengths, or equal -/
def rNeDV (K : PySem.W.Frag) : R2 := fun x y H Q => ∃ a b ks ls, x = .ref a ∧ y = .ref b ∧ H a = some (.dK ks) ∧ H b = some (.dK ls) ∧
  ((ks.length ≠ ls.length ∧ Q (.bl true) H) ∨ (ks.length = ls.length ∧ (∀ p ∈ ks, ∃ u, valV ls p.1 = some u ∧ EqV K H 2 p.2 u) ∧ Q (.bl false) H))
theorem op_neDV {X : Cx} (hu : X.A.units + 64 < cLine) : OpR X (compareOp .NotEq) (rNeDV X.K) := by
  intro pins s σ H x y v u Q I rx ry h
  obtain ⟨a, b, ks, ls, rfl, rfl, ea, eb, h⟩ := h
  obtain rfl : v = Value.ref a := rx
  obtain rfl : u = Value.ref b := ry
  obtain ⟨_, ya, va, ra, da⟩ := (show ObjOk X.prog X.w H s.heap a (.dK ks) from I.hok a _ ea)
  obtain ⟨_, yb, vb, rb, db⟩ := (show ObjOk X.prog X.w H s.heap b (.dK ls) from I.hok b _ eb)
  have e1 : va.length = ks.length := ra.length.symm
  have e2 : vb.length = ls.length := rb.length.symm
  rcases h with ⟨hne, q⟩ | ⟨hl, hp, q⟩
  · refine neP_dicts (knd := mixKind X.prog X.w) (r := false) ya yb da db (by omega) (fun z => absurd (by omega) hne) _ _ ?_
    rw [show (!(va.length == vb.length && false)) = true by simp]
    exact ⟨.bl true, H, I, rfl, q⟩
  · refine neP_dicts (knd := mixKind X.prog X.w) (r := true) ya yb da db (by omega) (fun _ => hits_run (eqV_run I 2 X.A.in1 (by show X.A.units + 1 + 2 < cLine; omega)) rb ra hp) _ _ ?_
    rw [show (!(va.length == vb.length && true)) = false by rw [e1, e2, hl]; simp]
    exact ⟨.bl false, H, I, rfl, q⟩
theorem paired_ints {K : PySem.W.Frag} {H : Hp} : ∀ ns : List Int, Paired (EqV K H 1) (ns.map V.int) (ns.map V.int)
  | [] => .nil
  | n :: r => .cons (.inl ⟨rfl, rfl⟩) (paired_ints r)
theorem eqV_ints {K : PySem.W.Frag} {H : Hp} {a b : Addr} {ns : List Int} (ha : H a = some (.lst (ns.map V.int))) (hb : H b = some (.lst (ns.map V.int))) : EqV K H 2 (.ref a) (.ref b) :=
  .inr (.inr (.inl ⟨a, b, _, _, rfl, rfl, SqL.of ha, SqL.of hb, paired_ints ns⟩))
/-! ### lists of texts, compared -/
section
variable {K : PySem.W.Frag} {H : Hp} {a b : Addr}
theorem dpa_strs : ∀ ns : List Str, DpAll K H (ns.map V.str) (ns.map PyData.str)
  | [] => .nil
  | n :: r => .cons (.str n) (dpa_strs r)
theorem depth_strs : ∀ ns : List Str, PyData.depthAll (ns.map PyData.str) ≤ 1
  | [] => by simp [PyData.depthAll]
  | n :: r => by
    have := depth_strs r
    simp only [List.map_cons, PyData.depthAll, PyData.depth]
    omega
theorem lay_strs : ∀ ns : List Str, (ns.all PyData.strOk = true) → PyData.canLayAll0 (ns.map PyData.str) = true
  | [], _ => by simp [PyData.canLayAll0]
  | n :: r, h => by
    rw [List.all_cons, Bool.and_eq_true] at h
    simp [PyData.canLayAll0, PyData.canLay0, lay_strs r h.2, h.1]
theorem sh_strs (ns : List Str) (h : ns.all PyData.strOk = true) : SeqAt.shaped (.list (ns.map PyData.str)) = true := by
  have h1 := depth_strs ns
  have h2 : PyData.depth (.list (ns.map PyData.str)) ≤ 64 := by
    simp only [PyData.depth]
    omega
  show (PyData.canLay0 (.list (ns.map PyData.str)) && decide (PyData.depth (.list (ns.map PyData.str)) ≤ 64)) = true
  rw [Bool.and_eq_true]
  exact ⟨by simp only [PyData.canLay0]; exact lay_strs ns h, decide_eq_true h2⟩
theorem dist_strs : ∀ ns ms : List Str, PyData.eqvAll (ns.map PyData.str) (ms.map PyData.str) = decide (ns = ms)
  | [], [] => rfl
  | [], _ :: _ => rfl
  | _ :: _, [] => rfl
  | n :: r, m :: q => by
    rw [List.map_cons, List.map_cons, PyData.eqvAll, dist_strs r q]
    show ((n == m) && _) = _
    by_cases h : n = m
    · subst h; simp
    · rw [decide_eq_false (fun e => h (List.cons.inj e).1)]; simp [h]
theorem eq_strs {ns ms : List Str} {Q : VK} (h1 : ns.all PyData.strOk = true) (h2 : ms.all PyData.strOk = true) (ha : H a = some (.lst (ns.map V.str))) (hb : H b = some (.lst (ms.map V.str))) (k : Q (.bl (decide (ns = ms))) H) : rEqD K (.ref a) (.ref b) H Q :=
  ⟨_, _, .lst (SqL.of ha) (dpa_strs ns), .lst (SqL.of hb) (dpa_strs ms), sh_strs ns h1, sh_strs ms h2, by rw [show PyData.eqv (.list (ns.map PyData.str)) (.list (ms.map PyData.str)) = decide (ns = ms) from dist_strs ns ms]; exact k⟩
end
/-! ### held exceptions, asked about several classes -/
/-- isinstance(e, (c, ..)), e a held exception -/
def rIsXT (K : PySem.W.Frag) : List V → Hp → VK → Prop := fun xs H Q => ∃ (a D tp : Addr) (cs : List V) (us : List Value) (b : Bool), xs = [.ref a, .ref tp] ∧ H a = some (CxO (.ref D) none a) ∧ ExcC K D ∧ H tp = some (.tup cs) ∧ Paired ClsV cs us ∧ PySem.W.kitAny K (.ref D) us = some b ∧ Q (.bl b) H
theorem call_isXT {X : Cx} : CallR X (.builtin "isinstance") (rIsXT X.K) := by
  intro pins s σ H xs us Q I r h
  obtain ⟨a, D, tp, cs, ws, b, rfl, ha, C, hT, k, says, q⟩ := h
  obtain ⟨u1, u2, rfl, r1, r2⟩ := vals2 r
  cases (show u1 = Value.ref a from r1)
  cases (show u2 = Value.ref tp from r2)
  obtain ⟨⟨ob, vs, at_, z, dt⟩, _, _⟩ := I.hok a _ ha
  have J : PySem.W.InstAt s.heap a ob D none := by
    obtain ⟨oc, od, oda, osl⟩ := ob
    obtain ⟨h1, h2⟩ := zc_of z
    dsimp only at h1 h2 dt
    subst h1 h2 dt
    exact ⟨at_, rfl, rfl, trivial⟩
  obtain ⟨_, its, rv, o, h1, h2, n, h3⟩ := (show ObjOk X.prog X.w H s.heap tp (.tup cs) from I.hok tp _ hT)
  have e3 := ClsV.all k rv
  subst e3
  obtain ⟨oc, od, dt, sl⟩ := o
  simp only at h2 h3
  subst h2 h3
  refine PySem.W.kia_tup (PySem.W.handS_kitx_exc C.hg C.hk C.hs C.hd C.ha C.hn C.ht C.hm) I.kIn J h1 says (fun w => nomatch w) fun tk => ?_
  exact ⟨.bl b, H, I.kept (t' := tk) fun _ _ w => w, rfl, q⟩
theorem kit_any {K : PySem.W.Frag} {t : Value} : ∀ {us : List Value} {bs : List Bool}, Paired (fun u b => PySem.W.kitOne K t u = some b) us bs → PySem.W.kitAny K t us = some (bs.any id)
  | _, _, .nil => rfl
  | _, _, .cons (b := b) h k => by
    refine kitAny_cons h (fun e => ?_) (fun e => ?_)
    · have z := kit_any k
      rw [e]; exact z
    · rw [e]; rfl
/-! ### a dict is locked while it is walked -/
theorem lock_d {H : Hp} {d : Addr} {kvs : List (Key × V)} {t : TS} {D : Ends} {σ : L2.St} (h : H d = some (.dK kvs))
    (k : ∀ od, t ⟨fun σ' H' => H' d = some (.frz od (.dK kvs)) ∧ D.nx σ' (upd H' d (.dK kvs)), fun v H' => H' d = some (.frz od (.dK kvs)) ∧ D.rt v (upd H' d (.dK kvs)), fun σ' H' => H' d = some (.frz od (.dK kvs)) ∧ D.bk σ' (upd H' d (.dK kvs)), fun σ' H' => H' d = some (.frz od (.dK kvs)) ∧ D.ct σ' (upd H' d (.dK kvs))⟩ σ (upd H d (.frz od (.dK kvs)))) : tLock t D σ H :=
  ⟨d, _, h, True.intro, k⟩
end Ow
namespace Ow
open PySem PySem.Spec PyProof.Rows L2
/-! ### int(x) by kinds -/
theorem call_intB {X : Cx} : CallR X (.type "int") (fun xs H Q => ∃ k, xs = [.bl k] ∧ Q (.int (if k = true then 1 else 0)) H) := by
  intro pins s σ H xs us Q I r h
  exact call_int1 pins s σ H xs us Q I r (.inr h)
theorem call_intI {X : Cx} : CallR X (.type "int") (fun xs H Q => ∃ i, xs = [.int i] ∧ Q (.int i) H) := by
  intro pins s σ H xs us Q I r h
  exact call_int1 pins s σ H xs us Q I r (.inl h)
/-! ### the keys of a dict, as a view -/
/-- a view of the keys of the dict at d stands at r -/
def KO (r d : Addr) : HO := .ext fun h => PySem.W.KdlKeysView h r d
def rKeysV : V → List V → Hp → VK → Prop := fun x xs H Q => ∃ d kvs, x = .ref d ∧ xs = [] ∧ Rd H d (.dK kvs) ∧ ∀ r, H r = none → Q (.ref r) (upd H r (KO r d))
theorem mt_keys {X : Cx} : MtR X "dict.keys" rKeysV := by
  intro pins s σ H x vs v us Q I rx rv h
  obtain ⟨d, kvs, rfl, rfl, hd, q⟩ := h
  cases rx
  cases rv
  obtain ⟨z, lo, ws, rel, dd⟩ := dk_rd I.hok hd
  refine call_meetsIn F.slot_dict_keys dd.typeIs F.entry_dict_keys (F.args_dict_keys_1 _) (PySem.W.kdl_meets_keys (mixKind X.prog X.w) d lo) ⟨⟨ws, dd⟩, ?_⟩
  refine ⟨.ref s.heap.objs.size, upd H s.heap.objs.size (KO s.heap.objs.size d), I.laid (t' := s.toks) (fun b u e => Heap.get?_push_of_some _ e) (Nat.le_refl _) ?_, rfl, q _ (I.hok.fresh (Nat.le_refl _))⟩
  exact ⟨⟨_, Heap.get?_push_size _ rfl, rfl, rfl⟩, ⟨_, Heap.get?_push_size _ rfl⟩, fun h1 h2 ⟨o, e, c, dt⟩ k => ⟨o, k o e, c, dt⟩⟩
/-- sorted of what lists whole numbers -/
theorem sorted_src {X : Cx} {pins : List (Addr × Obj)} {σ : L2.St} {H : Hp} {s : Shared} {T : String} {r d : Addr} {vs : List (Key × Value)} {OK : Heap → Prop} {ks : List Int} {Q : VK} (hcalm : X.calm = true) (I : Inv X pins σ H s)
    (S : PySem.W.KdlSrc X.prog X.w T r d vs.length (fun i v => ∃ k x, vs[i]? = some (k, x) ∧ (mixKind X.prog X.w).is k v = true) OK) (ok : OK s.heap) (hkeys : vs.map (·.1) = ks.map Sum.inl) (hz : ks.length ≤ sizeLine)
    (q : ∀ (ys : List Int) (p : Addr), ys.Perm ks → ys.Pairwise (· ≤ ·) → H p = none → Q (.ref p) (upd H p (.lst (ys.map V.int)))) : wpAny (model X.prog X.w) X.A (call (.builtin "sorted") [.ref r]) (EP X pins σ Q) X.xe s := by
  have hl : vs.length = ks.length := by
    have e := congrArg List.length hkeys
    rw [List.length_map, List.length_map] at e
    exact e
  refine Calls.call_function_entry PyProof.Rows.kind_sorted PyProof.Rows.plain_sorted PyProof.Rows.entry_sorted (PyProof.Rows.args_sorted1 _) ?_
  unfold Builtin.«sorted»
  refine wpAny_bind (m := checkCount "sorted" 1 1 _) (wpAny_pure ?_)
  refine wpAny_bind (PySem.W.kdu_collect (A := X.A.in1) S (I.ok.hd hcalm) ok (by omega) fun h' tk acc hk hacc => ?_)
  have hal : acc.toList.length = ks.length := by rw [Array.length_toList, hacc.1, hl]
  have hS : IntsAre acc.toList ks := ints_each hal fun j v e => by
    obtain ⟨k, x, e1, e2⟩ := hacc.2 j v (by rw [← Array.getElem?_toList]; exact e)
    have e3 : (vs.map (·.1))[j]? = some k := by rw [List.getElem?_map, e1]; rfl
    rw [hkeys, List.getElem?_map] at e3
    cases e4 : ks[j]? with
    | none => rw [e4] at e3; cases e3
    | some y =>
      rw [e4] at e3
      have e5 : Sum.inl y = k := Option.some.inj e3
      subst e5
      rcases keyIs_shape (show keyIs (Sum.inl y) v = true from e2) with ⟨i, t, ek, ev⟩ | ⟨z, t, ek, ev⟩
      · cases ek
        exact ⟨y, t, rfl, ev⟩
      · cases ek
  have I1 : Inv X pins σ H { s with heap := h', toks := tk } := I.kept hk
  refine wpAny_bind (wpAny_newList ?_ (by rw [hal]; exact hz))
  have hoL : (h'.push (seqObj "list" acc.toList.toArray 0)).get? h'.objs.size = some (seqObj "list" acc.toList.toArray 0) := Heap.get?_push_size _ rfl
  show wpAny _ _ _ _ _ { s with heap := h'.push (seqObj "list" acc.toList.toArray 0), toks := tk }
  refine wpAny_bind (wpAny_holding (wpAny_call_entry PyProof.Rows.slot_list_sort ⟨_, hoL, rfl⟩ PyProof.Rows.entry_list_sort
    (SrtO.list_sort_ord (s := { s with heap := h'.push (seqObj "list" acc.toList.toArray 0), toks := tk }) SrtO.swo_int hoL (by rw [hal]; exact hz) (fun h2 => SrtO.ints_sortable hS h2) fun out h1 h2 => ⟨_, rfl, ?_⟩) (PyProof.Rows.args_list_sort _)))
  obtain ⟨g1, g2, g3⟩ := SrtO.ints_out hS h1 h2
  obtain ⟨e', he'⟩ := PyProof.Rows.sortedHeap_at (vs := acc.toList) (out := out.toArray) hoL
  have hlen : ((out.map SrtO.iv).map V.int).length ≤ sizeLine := by
    rw [List.length_map, g2.length_eq]
    exact hz
  refine wpAny_pure ⟨_, rfl, .ref h'.objs.size, upd H h'.objs.size (.lst ((out.map SrtO.iv).map V.int)), I1.laid (t' := tk) (fun b u e => ?_) (Nat.le_refl _)
    (show ObjOk X.prog X.w _ _ _ (.lst ((out.map SrtO.iv).map V.int)) from ⟨hlen, out, e', vals_of_ints g1, he'⟩), rfl, q _ _ g2 g3 (I1.hok.fresh (Nat.le_refl _))⟩
  have hb : b < h'.objs.size := Heap.lt_size e
  rw [PyProof.Rows.sortedHeap_old (Nat.ne_of_lt hb) (by rw [size_push']; exact Nat.lt_succ_of_lt hb)]
  exact Heap.get?_push_of_some _ e
def rSortedK : List V → Hp → VK → Prop := fun xs H Q => ∃ (r a : Addr) (kvs : List (Key × V)) (ks : List Int), xs = [.ref r] ∧ H r = some (KO r a) ∧ Rd H a (.dK kvs) ∧ kvs.map (·.1) = ks.map Sum.inl ∧
    ∀ (ys : List Int) (p : Addr), ys.Perm ks → ys.Pairwise (· ≤ ·) → H p = none → Q (.ref p) (upd H p (.lst (ys.map V.int)))
/-- sorted(d.keys()), all ints -/
theorem call_sortedK {X : Cx} (hcalm : X.calm = true) : CallR X (.builtin "sorted") rSortedK := by
  intro pins s σ H xs us Q I r q
  obtain ⟨v, a, kvs, ks, ex, hv, hd, hks, q⟩ := q
  subst ex
  obtain ⟨u, eu, rx⟩ := vals1 r
  subst eu
  cases rx
  obtain ⟨hview, _, _⟩ := I.hok v _ hv
  obtain ⟨z, lo, vs, rel, dd⟩ := dk_rd I.hok hd
  obtain ⟨ep, hat⟩ := dd.dictAt
  have hkeys : vs.map (·.1) = ks.map Sum.inl := rel.keys.symm.trans hks
  have hz := congrArg List.length hks
  rw [List.length_map, List.length_map] at hz
  exact sorted_src hcalm I (PySem.W.kdl_keys (knd := mixKind X.prog X.w) (kvs := vs) (ep := ep) (r := v) (d := a)) ⟨hview, hat⟩ hkeys (by omega) q
def rSortedDW : List V → Hp → VK → Prop := fun xs H Q => ∃ (a : Addr) (kvs : List (Key × V)) (ks : List Int), xs = [.ref a] ∧ Rd H a (.dK kvs) ∧ kvs.map (·.1) = ks.map Sum.inl ∧
    ∀ (ys : List Int) (p : Addr), ys.Perm ks → ys.Pairwise (· ≤ ·) → H p = none → Q (.ref p) (upd H p (.lst (ys.map V.int)))
/-- sorted(d), all ints -/
theorem call_sortedDW {X : Cx} (hcalm : X.calm = true) : CallR X (.builtin "sorted") rSortedDW := by
  intro pins s σ H xs us Q I r q
  obtain ⟨a, kvs, ks, ex, hd, hks, q⟩ := q
  subst ex
  obtain ⟨u, eu, rx⟩ := vals1 r
  subst eu
  cases rx
  obtain ⟨z, lo, vs, rel, dd⟩ := dk_rd I.hok hd
  obtain ⟨ep, hat⟩ := dd.dictAt
  have hkeys : vs.map (·.1) = ks.map Sum.inl := rel.keys.symm.trans hks
  have hz := congrArg List.length hks
  rw [List.length_map, List.length_map] at hz
  exact sorted_src hcalm I (PySem.W.kdl_dict (knd := mixKind X.prog X.w) (kvs := vs) (ep := ep) lo) hat hkeys (by omega) q
end Ow
namespace Ow
open PySem PySem.Spec PyProof.Rows L2
/-! ### range(i, j), its ends of any size -/
theorem turn_long {P : Program} {w : World} {K : PySem.W.Frag} {tg : Expr} (it : Addr) (lo : Int) (n : Nat) : Turn P w K tg (Itr lo n) [it] it (fun i h => IsLongIter h it (lo + (i : Nat) * 1) ((n : Int) - (i : Nat)) 1) where
  mem := by simp
  obj := fun i h st b hb => by
    cases List.mem_singleton.mp hb
    exact ⟨_, st, fun v z => by
      have z' : Data.fields _ = Data.cell v := z
      cases z'⟩
  keep := fun i h h' st k => k it (by simp) _ st
  item := by
    intro X hP hw hK hc i pins s σ H E I hf st hg
    subst hP hw hK
    obtain ⟨f0, f1, _, f3, f4, f5⟩ := hf it (by simp)
    have hlt : i < n := hg
    refine wpAny_pyNext_long_item st (by omega) fun h' st' sb => ?_
    have st2 : IsLongIter h' it (lo + ((i + 1 : Nat) : Int) * 1) ((n : Int) - ((i + 1 : Nat) : Int)) 1 := by
      rw [show lo + ((i + 1 : Nat) : Int) * 1 = lo + ((i : Nat) : Int) * 1 + 1 by omega, show (n : Int) - ((i + 1 : Nat) : Int) = (n : Int) - ((i : Nat) : Int) - 1 by omega]
      exact st'
    have J : Inv X pins σ H { s with heap := h', toks := s.toks + 1 } := I.turned (fun b o hb q => (sb.2 b hb).trans q) f0 f1 f3 f4 f5
    refine ⟨_, rfl, go_of (s := { s with heap := h', toks := s.toks + 1 }) (n := "longrange_iterator") st2 rfl rfl (by decide) ⟨.int (lo + i), H, J, ⟨s.toks, ?_⟩, ⟨rfl, rfl⟩, st2, fun b hb => (hf b hb).1⟩⟩
    rw [Int.mul_one]
  done := by
    intro X hP hw hK hc i pins s σ H E I hf st hg
    subst hP hw hK
    obtain ⟨f0, f1, _, f3, f4, f5⟩ := hf it (by simp)
    exact wpAny_pyNext_long_end (I.ok.hd hc) st (by have : n ≤ i := hg; omega) fun h' eb => ⟨rfl, I.turned (t' := s.toks) (fun b o hb q => eb b o hb q) f0 f1 f3 f4 f5⟩
  self := fun _ _ _ _ _ st h => wpAny_pyIter_longiter st h
def iRngW (ta : TA) : TI := fun σ H R => ta σ H fun vs H1 => ∃ i j : Int, vs = [.int i, .int j] ∧ R (Itr i (j - i).toNat) H1
theorem pi_range2W {X : Cx} {tg a b : Expr} {ta : TA} {p pos : Pos} (hg : Gl X "range") (hm : X.mg "range" = none) (ha : PA X [a, b] ta) (hs : starEach [a, b] X.env = [(false, eval a X.env), (false, eval b X.env)] := by rfl) (hs2 : starEach [b] X.env = [(false, eval b X.env)] := by rfl) :
    PI X tg (.Call (.Name "range" p) [a, b] [] pos) (iRngW ta) := by
  constructor
  intro pins s σ H R I h
  refine Call_ (ld_blt I hg hm boot_range (PyProof.Rows.callWith_type1 (thn (ha.run pos pins s σ H _ I h) fun us s1 ⟨vs, H1, I1, r1, lo, hi, ev, q⟩ => ?_) (by rw [hs, hs2]) (by rw [hs2]; rfl)))
  subst ev
  obtain ⟨u1, u2, rfl, ⟨t, rfl⟩, ⟨t', rfl⟩⟩ := vals2 r1
  refine call_range_2 ?_
  generalize hh : s1.heap.push { cls := .type "range", data := .fields #[.int lo t, .int hi t', .int 1 s1.toks] } = g
  have I2 : Inv X pins σ H1 { s1 with heap := g, toks := s1.toks + 1 } := I1.kept fun b o q => by rw [← hh]; exact Heap.get?_push_of_some _ q
  have at_ : IsRange g s1.heap.objs.size lo hi 1 t t' s1.toks := by rw [← hh]; exact Heap.get?_push_size _ rfl
  have size : ((((hi - lo).toNat : Nat) : Int) - ((0 : Nat) : Int)) = Builtin.Range.rangeSize lo hi 1 := by rw [rangeSize_one]; split <;> omega
  have place : lo + ((0 : Nat) : Int) * 1 = lo := by simp
  cases hb : Builtin.Range.small lo hi 1 with
  | true =>
    refine wpAny_pyIter_range at_ hb ⟨g.objs.size, [g.objs.size], _, _, H1, rfl, I2.kept (t' := s1.toks + 1) fun b o q => Heap.get?_push_of_some _ q, turn_range _ lo (hi - lo).toNat, ?_, fun b hb => ?_, q⟩
    · show IsRangeIter _ _ (lo + ((0 : Nat) : Int) * 1) ((((hi - lo).toNat : Nat) : Int) - ((0 : Nat) : Int)) 1
      rw [place, size]
      exact Heap.get?_push_size _ rfl
    · cases List.mem_singleton.mp hb
      exact I2.fpOk (Nat.le_refl _) (I2.hok.fresh (Nat.le_refl _))
  | false =>
    refine wpAny_pyIter_longrange at_ hb ⟨g.objs.size, [g.objs.size], _, _, H1, rfl, I2.kept (t' := s1.toks + 1) fun b o q => Heap.get?_push_of_some _ q, turn_long _ lo (hi - lo).toNat, ?_, fun b hb => ?_, q⟩
    · show IsLongIter _ _ (lo + ((0 : Nat) : Int) * 1) ((((hi - lo).toNat : Nat) : Int) - ((0 : Nat) : Int)) 1
      rw [place, size]
      exact Heap.get?_push_size _ rfl
    · cases List.mem_singleton.mp hb
      exact I2.fpOk (Nat.le_refl _) (I2.hok.fresh (Nat.le_refl _))
end Ow
namespace Ow
open PySem PySem.Spec PyProof.Rows L2
/-! ### defs that are called while an exception is handled -/
theorem roomX {k : Nat} {A : Around} {v : Option Value} (r : Room k A) : L2H.RoomH k (A.mark v) := ⟨r.dp, r.un⟩
/-- the same context under another surrounding, not calm -/
theorem inv_re {X : Cx} {pins : List (Addr × Obj)} {σ : L2.St} {H : Hp} {s : Shared} (I : Inv X pins σ H s) (A2 : Around) (xe2 : Value → Shared → Prop) (h : A2.frames = X.A.frames) : Inv { X with A := A2, calm := false, xe := xe2 } pins σ H s :=
  have k := I.ok
  ⟨⟨k.mod, k.kind, k.glob, k.blt, k.above, k.inj, k.has, k.cab, (fun z => Bool.noConfusion (show false = true from z)), h.trans k.frames, k.stk, k.exf, k.bs, k.bsz, k.noex, k.exfs, k.funs, k.frf⟩, I.os, I.bare, I.base, I.loc, I.cell, I.free, I.freeC, I.pin, I.hok, I.len⟩
/-- what a def promises where the exception at a is handled -/
structure FnX (P : Program) (w : World) (K : PySem.W.Frag) (mg : Str → Option Value) (base : Heap) (k : Nat) (f : Addr) (fd : FuncData) (ps : List Str) (sp : Addr → Sp) : Prop where
  many : ∀ a vs H Q E, sp a vs H Q E → vs.length = ps.length
  runs : ∀ (a : Addr) (A : Around) (outer : List Env) (s : Shared) (H : Hp) (args : Args) (us : List Value) (vs : List V) (Q : VK) (E : XK), A.handled = some (.ref a) → L2H.RoomH k A → Env0 P w K mg base A outer s H → BindsTo s fd args (ps.zip us) → Vals vs us → sp a vs H Q E →
    codeAny (model P w) A (.call (.ref f) args) (CR (L2.CX P w) outer P w H s Q E) s
abbrev cxX (P : Program) (w : World) (K : PySem.W.Frag) (mg : Str → Option Value) (base : Heap) (N : List Str) (qual : Str) (scope : Scope) (f : Addr) (cd : Value) (A : Around) (outer : List Env) (s : Shared) (H : Hp) (E : XK) : Cx :=
  { cxOf (L2.CX P w) P w K mg base N qual scope f cd A outer s H E with calm := false }
section
variable {P : Program} {w : World} {K : PySem.W.Frag} {mg : Str → Option Value} {base : Heap}
theorem fnX_of {x qual : Str} {params : Arguments} {body : List Stmt} {scope : Scope} {f : Addr} {fd : FuncData} {N ps : List Str} {k : Nat} {sp : Addr → Sp} (F : FunD K x qual params body scope [] [] f fd) (S : FnScope N ps scope) (many : ∀ a vs H Q E, sp a vs H Q E → vs.length = ps.length)
    (does : ∀ (cdv : Value) (A : Around) (outer : List Env) (s : Shared) (H : Hp) (vs : List V) (Q : VK) (E : XK) (a : Addr), A.handled = some (.ref a) → L2H.RoomH k (A.deeper (envOfC qual scope s.heap.objs.size f cdv)) → sp a vs H Q E →
      ∃ t, PSs (cxX P w K mg base N qual scope f cdv A outer s H E) body t ∧ t { nx := fun _ H' => Q .non H', rt := Q } (L2.start N vs) H) : FnX P w K mg base (k + 1) f fd ps sp := by
  obtain ⟨oc, od, dV, kV, doc, pm, an, cdv, ct, osl, rfl, looked, coded, _, _⟩ := F.ex
  refine ⟨many, fun a A outer s H args us vs Q E hot room e0 bound r asked => ?_⟩
  have given := many _ _ _ _ _ asked
  have inK : K.In s.heap := e0.mod.kin.keeps fun b o e => (e0.bs b o e).1
  have unbound : s.heap.NoLimit := e0.mod.nolimit.keeps fun b o e => (e0.bs b o e).1
  have kinds : ∀ y ∈ ps.zip us, scope.names.lookup y.1 = some .local ∨ (scope.names.lookup y.1 = some .cell ∧ ((cellsFrom (s.heap.objs.size + 1) scope.names []).lookup y.1).isSome = true) := by
    intro y hy
    refine (S.par y.1 (List.of_mem_zip (a := y.1) (b := y.2) hy).1).imp (fun z => z) fun z => ⟨z, ?_⟩
    exact PySem.W.cellsFrom_some _ _ _ (.inl z)
  refine codeAny_call_function room.depth (inK _ _ looked) rfl S.co S.gen rfl (PySem.W.codeRec_of inK coded) (bound _ _ _ _ (wpAny_newFunctionEnv_cells S.kind kinds fun env he s1 x => ?_))
  cases he
  refine ⟨unbound.keeps x.toInCall.keep, codeAny_func ?_⟩
  obtain ⟨t, derived, reads⟩ := does cdv A outer s H vs Q E a hot (room.deeper _) asked
  have cold : Env0 P w K mg base { A with handled := none } outer s H := ⟨e0.frames, e0.mod, e0.bs, e0.bsz, e0.funs, e0.frf, e0.hok, e0.bare⟩
  have I : Inv (cxX P w K mg base N qual scope f cdv A outer s H E) [] (L2.start N vs) H s1 := inv_re (inv_start (CX := L2.CX P w) (E := E) S rfl cold given r x) (A.deeper (envOfC qual scope s.heap.objs.size f cdv)) _ rfl
  refine wpAny_mono (derived.run [] s1 (L2.start N vs) H _ I reads) (fun fl s2 ends => ?_) fun _ _ left => left
  rcases fl with _ | _ | _ | u
  · obtain ⟨τ, G, J, q⟩ := ends
    exact ⟨.non, G, J.os, J.bare, J.base, J.hok, rfl, q⟩
  · exact ends.elim fun _ z => z.elim fun _ z => z.2.elim
  · exact ends.elim fun _ z => z.elim fun _ z => z.2.elim
  · obtain ⟨v, τ, G, J, rv, q⟩ := ends
    exact ⟨v, G, J.os, J.bare, J.base, J.hok, rv, q⟩
end
/-- a def that may be called so -/
structure CeeX (P : Program) (w : World) (K : PySem.W.Frag) (mg : Str → Option Value) (base : Heap) (k : Nat) (f : Addr) (ps : List Str) (sp : Addr → Sp) : Prop where
  kp : PySem.W.keepIn K (.ref f) = true
  fn : ∃ fd, FnX P w K mg base k f fd ps (fun a => bx (sp a)) ∧ Binds K fd ps []
theorem ceeX_of {P : Program} {w : World} {K : PySem.W.Frag} {mg : Str → Option Value} {base : Heap} {x qual : Str} {params : Arguments} {body : List Stmt} {scope : Scope} {f : Addr} {N ps : List Str} {k : Nat} {sp : Addr → Sp} (F : ∃ fd, FunD K x qual params body scope [] [] f fd) (S : FnScope N ps scope)
    (hb : ∀ (kV doc pm : Value) (an : Option Addr) (cdv ct : Value) (us : List Value), us.length = ps.length → bindArgs (PySem.W.fnOf x qual params body scope .none kV doc pm an cdv ct) ⟨us, []⟩ = pure (ps.zip us))
    (many : ∀ a vs H Q E, sp a vs H Q E → vs.length = ps.length)
    (does : ∀ (cdv : Value) (A : Around) (outer : List Env) (s : Shared) (H : Hp) (vs : List V) (Q : VK) (E : XK) (a : Addr), A.handled = some (.ref a) → L2H.RoomH k (A.deeper (envOfC qual scope s.heap.objs.size f cdv)) → sp a vs H Q E →
      ∃ t, PSs (cxX P w K mg base N qual scope f cdv A outer s H E) body t ∧ t { nx := fun _ H' => Q .non H', rt := Q } (L2.start N vs) H) : CeeX P w K mg base (k + 1) f ps sp := by
  obtain ⟨fd, F⟩ := F
  exact ⟨F.kp, fd, fnX_of F S (fun a vs H Q E h => many a vs H Q E h.out) (fun cdv A outer s H vs Q E a hot room h => does cdv A outer s H vs Q E a hot room h.out), F.bindsN hb⟩
section
variable {X : Cx} {k : Nat} {f a : Addr} {ps : List Str} {sp : Addr → Sp} {W : WX} {x : Str} {p pos : Pos} {e : Expr} {es : List Expr} {t : TA}
theorem pe_fX (c : CeeX X.prog X.w X.K X.mg X.base k f ps sp) (hr : L2H.RoomH k X.A) (hot : X.A.handled = some (.ref a)) (tk : Takes X W) (hg : Gl X x) (hm : X.mg x = some (.ref f)) (ha : PA X (e :: es) t) (hdb : (x == ("__debug__" : Str)) = false := by decide)
    (he : starEach (e :: es) X.env = (false, eval e X.env) :: starEach es X.env := by rfl) (hpl : (backTo pos (starEach es X.env)).any (·.1) = false := by rfl) :
    PE X (.Call (.Name x p) (e :: es) [] pos) (tCallS (bx (sp a)) (WE W) t) := by
  obtain ⟨fd, F, b⟩ := c.fn
  constructor
  intro pins s σ H Q I h
  refine wpAny_Call_Name_kw (ld_glob I hg hm (PySem.W.callWith_K (h₀ := X.base) I.ok.mod.kin c.kp (thn (ha.run pos pins s σ H _ I h) fun us s1 ⟨vs, H1, I1, rv, q⟩ => ⟨I1.kIn, ?_⟩) he hpl) hdb)
  have many : us.length = ps.length := by rw [← rv.length]; exact F.many _ _ _ _ _ q
  have binds := b s1 us I1.kIn (by rw [List.append_nil]; exact many)
  rw [List.append_nil] at binds
  refine wpAny_call (codeAny_mono (F.runs a X.A X.stack s1 H1 ⟨us, []⟩ us vs Q (WE W σ) hot hr I1.env0 binds rv q) fun r s' ends => ?_)
  rcases r with ev | fl
  · exact passAt tk σ pins H1 s1 ev s' I1 ends
  · rcases fl with _ | _ | _ | u
    · exact ends.elim
    · exact ends.elim
    · exact ends.elim
    · exact I1.after ends
end
end Ow
namespace Ow
open PySem PySem.Spec PyProof.Rows L2
/-! ### texts, ranges -/
theorem op_notIn_rng {X : Cx} : OpR X (compareOp .NotIn) (fun x y H Q => ∃ i a lo hi, x = V.int i ∧ y = V.ref a ∧ H a = some (.rng lo hi) ∧ Q (.bl (!decide (lo ≤ i ∧ i < hi))) H) := by
  intro pins s σ H x y v u Q I rx ry h
  obtain ⟨i, a, lo, hi, rfl, rfl, ha, q⟩ := h
  obtain ⟨k, rfl⟩ := rx
  obtain rfl : u = Value.ref a := ry
  obtain ⟨t1, t2, t3, ho⟩ := I.hok a _ ha
  show wpAny _ _ (do return Value.bool (!(← contains (Value.ref a) (Value.int i k)))) _ _ s
  refine wpAny_bind (wpAny_contains_slot (T := "range") ⟨_, ho, rfl⟩ F.slot_range_contains (call_meets F.slot_range_contains ⟨_, ho, rfl⟩ F.entry_range_contains (F.args_range_contains_2 _ _) (q_contains a lo hi i t1 t2 t3 k) ⟨ho, wpAny_truthy_bool (wpAny_pure ?_)⟩))
  refine ⟨.bl _, H, I, rfl, ?_⟩
  rw [place1]
  exact q
/-- so many times a text -/
def repS (z : Str) (n : Int) : Str := ⟨((List.replicate n.toNat z.cps.toList).flatten).toArray⟩
theorem foldl_cps (c : Array Nat) : ∀ (k : Nat) (a : Array Nat), (List.replicate k c).foldl (· ++ ·) a = a ++ ((List.replicate k c.toList).flatten).toArray
  | 0, a => by simp
  | k + 1, a => by
    rw [List.replicate_succ, List.foldl_cons, foldl_cps c k, List.replicate_succ, List.flatten_cons, Array.append_assoc]
    congr 1
    apply Array.ext'
    simp
theorem op_rep_str {X : Cx} : OpR X (binaryOp .Mult) (fun x y H Q => ∃ z n, x = .str z ∧ y = .int n ∧ 0 ≤ n ∧ n ≤ 2000 ∧ z.length ≤ 2000 ∧ Q (.str (repS z n)) H) := by
  intro pins s σ H x y v u Q I rx ry h
  obtain ⟨z, n, rfl, rfl, h0, h1, h2, q⟩ := h
  obtain ⟨t, rfl⟩ := rx
  obtain ⟨t2, rfl⟩ := ry
  have hl : z.length * n.toNat ≤ 4000000 := Nat.le_trans (Nat.mul_le_mul h2 (show n.toNat ≤ 2000 by omega)) (by decide)
  have e0 : n < 1 → repS z n = Str.empty := fun h => by
    have : n.toNat = 0 := by omega
    unfold repS; rw [this]; rfl
  have e1 : (n == 1 || z.length == 0) = true → ¬ n < 1 → repS z n = z := fun h hn => by
    rcases (Bool.or_eq_true _ _).mp h with h | h
    · obtain rfl := eq_of_beq h
      unfold repS
      show (⟨((List.replicate 1 z.cps.toList).flatten).toArray⟩ : Str) = z
      simp
    · have hz : z.cps.toList = [] := by
        have := eq_of_beq h
        exact List.length_eq_zero_iff.mp (by rw [Array.length_toList]; exact this)
      have hc : z.cps = #[] := Array.ext' hz
      unfold repS
      rw [hz, List.flatten_replicate_nil]
      cases z
      congr 1
      exact hc.symm
  have e2 : (⟨(List.replicate n.toNat z.cps).foldl (· ++ ·) #[]⟩ : Str) = repS z n := by rw [foldl_cps, Array.empty_append]; rfl
  refine P.mul_str (by
      have a1 : ¬ n < -(2 ^ 63) := by omega
      have a2 : ¬ n ≥ 2 ^ 63 := by omega
      rw [decide_eq_false a1, decide_eq_false a2]; rfl) (fun hn _ hc => ?_) (fun _ _ => ?_) ?_
  · have h3 : (2000 : Int) ≤ (2 ^ 63 - 1) / n := Int.le_ediv_of_mul_le (by omega) (by omega)
    omega
  · unfold Builtin.Str.tooLong
    exact decide_eq_false (by have : sizeLine ≥ 4000000 := by decide
                              omega)
  · split
    · next hn => exact ⟨by decide, .str (repS z n), H, I.tok _, ⟨_, by rw [e0 hn]⟩, q⟩
    · next hn =>
      split
      · next hb => exact ⟨.str (repS z n), H, I, ⟨_, by rw [e1 hb hn]⟩, q⟩
      · next hb =>
        refine ⟨?_, .str (repS z n), H, I.tok _, ⟨_, by rw [e2]⟩, q⟩
        rw [e2]
        unfold repS Str.length
        rw [List.size_toArray, List.length_flatten, List.map_replicate, List.sum_replicate_nat, Array.length_toList]
        have h4 : z.length = z.cps.size := rfl
        rw [← h4, Nat.mul_comm]
        exact Nat.le_trans hl (by decide)
section
variable {H0 H : Hp} {A : List Addr} {cs : Cells} {p : Addr} {o : HO}
/-- a new cell, the heap behind it by a letter -/
theorem Own.sQ {β : Type} {y : β} {G : Hp → β → Prop} (O : Own H0 H A cs) (h : H p = none) (k : ∀ H', Own H0 H' A ((p, o) :: cs) → Own H H' (Ow.adr cs) ((p, o) :: cs) → G H' y) : G (upd H p o) y := k _ (O.new h) (O.self.new h)
theorem Own.sT {β : Type} {y : β} {G : Hp → β → Prop} (O : Own H0 H A cs) (h : H p = none) (k : ∀ H', Own H0 H' A cs → Own H H' (Ow.adr cs) cs → H' p = some o → G H' y) : G (upd H p o) y := k _ (O.newT h) (O.self.newT h) upd_same
theorem Own.sG {G : Hp → Prop} (O : Own H0 H A cs) (h : H p = none) (k : ∀ H', Own H0 H' A ((p, o) :: cs) → Own H H' (Ow.adr cs) ((p, o) :: cs) → G H') : G (upd H p o) := k _ (O.new h) (O.self.new h)
end
end Ow
namespace Ow
open PySem PySem.Spec PyProof.Rows L2
def top (i : Nat) : Stmt := PySem.Challenge.pw_ownroom_k30_paths_and_names.main.body.getD i (.Pass ⟨0, 0, 0, 0⟩)
abbrev s_is_name : Stmt := top 19
abbrev s_names_of : Stmt := top 20
abbrev s__law_state : Stmt := top 22
abbrev s__law_next : Stmt := top 23
abbrev s__law_word : Stmt := top 24
abbrev s__law_name : Stmt := top 25
abbrev s__law_odd : Stmt := top 26
abbrev s__law_due : Stmt := top 27
abbrev s__law_told : Stmt := top 28
abbrev s__law_right : Stmt := top 29
abbrev s_law : Stmt := top 30
def fns0 : List He.DefD := [⟨("is_name", none), "is_name", "is_name", defArgs (top 19), defBody (top 19), defScope (top 19), [], []⟩, ⟨("names_of", none), "names_of", "names_of", defArgs (top 20), defBody (top 20), defScope (top 20), [], []⟩, ⟨("_law_state", none), "_law_state", "_law_state", defArgs (top 22), defBody (top 22), defScope (top 22), [], []⟩, ⟨("_law_next", none), "_law_next", "_law_next", defArgs (top 23), defBody (top 23), defScope (top 23), [], []⟩, ⟨("_law_word", none), "_law_word", "_law_word", defArgs (top 24), defBody (top 24), defScope (top 24), [], []⟩, ⟨("_law_name", none), "_law_name", "_law_name", defArgs (top 25), defBody (top 25), defScope (top 25), [], []⟩, ⟨("_law_odd", none), "_law_odd", "_law_odd", defArgs (top 26), defBody (top 26), defScope (top 26), [], []⟩, ⟨("_law_due", none), "_law_due", "_law_due", defArgs (top 27), defBody (top 27), defScope (top 27), [], []⟩, ⟨("_law_told", none), "_law_told", "_law_told", defArgs (top 28), defBody (top 28), defScope (top 28), [], []⟩, ⟨("_law_right", none), "_law_right", "_law_right", defArgs (top 29), defBody (top 29), defScope (top 29), [], []⟩, ⟨("law", none), "law", "law", defArgs (top 30), defBody (top 30), defScope (top 30), [], []⟩]
def fns : List He.DefD := fns0
def fa0 : List He.Fa := [.glo "KernelError", .glo "Taken", .glo "Fallen", .glo "BadName", .glo "NoName", .glo "NotDir", .glo "IsDir", .glo "NotEmpty", .glo "Inside", .glo "NoNode", .glo "NoSpace", .glo "TooMany", .glo "TooBig", .glo "NotHeld", .glo "NotAllowed", .str "SMALL" "abcdefghijklmnopqrstuvwxyz", .int "LONGEST" 6, .glo "is_name", .glo "names_of", .glo "_law_state", .glo "_law_next", .glo "_law_word", .glo "_law_name", .glo "_law_odd"]
def fa1 : List He.Fa := [.glo "_law_due", .glo "_law_told", .glo "_law_right", .glo "law", .free "ValueError", .free "enumerate", .free "sum", .free "isinstance", .free "len", .free "range", .free "all", .free "list", .free "int", .free "str", .exc "KernelError", .exc "Taken", .exc "Fallen", .exc "BadName", .exc "NoName", .exc "NotDir", .exc "IsDir", .exc "NotEmpty", .exc "Inside", .exc "NoNode"]
def fa2 : List He.Fa := [.exc "NoSpace", .exc "TooMany", .exc "TooBig", .exc "NotHeld", .exc "NotAllowed"]
def fas : List He.Fa := fa0 ++ fa1 ++ fa2
def exL0 (K : PySem.W.Frag) : List Bool := [excB K (He.ga K "BadName"), (PySem.W.kitOne K (.ref (He.ga K "BadName")) (.type "ValueError") == some true), (PySem.W.kitOne K (.ref (He.ga K "BadName")) (.ref (He.ga K "BadName")) == some true), (PySem.W.kitOne K (.ref (He.ga K "BadName")) (.ref (He.ga K "NoName")) == some false), (PySem.W.kitOne K (.ref (He.ga K "BadName")) (.ref (He.ga K "NotDir")) == some false), (PySem.W.kitOne K (.ref (He.ga K "BadName")) (.ref (He.ga K "IsDir")) == some false), (PySem.W.kitOne K (.ref (He.ga K "BadName")) (.ref (He.ga K "NotEmpty")) == some false), (PySem.W.kitOne K (.ref (He.ga K "BadName")) (.ref (He.ga K "Inside")) == some false), (PySem.W.kitOne K (.ref (He.ga K "BadName")) (.ref (He.ga K "NoNode")) == some false), (PySem.W.kitOne K (.ref (He.ga K "BadName")) (.ref (He.ga K "NoSpace")) == some false), (PySem.W.kitOne K (.ref (He.ga K "BadName")) (.ref (He.ga K "TooMany")) == some false), (PySem.W.kitOne K (.ref (He.ga K "BadName")) (.ref (He.ga K "TooBig")) == some false)]
def exL1 (K : PySem.W.Frag) : List Bool := [(PySem.W.kitOne K (.ref (He.ga K "BadName")) (.ref (He.ga K "NotHeld")) == some false), (PySem.W.kitOne K (.ref (He.ga K "BadName")) (.ref (He.ga K "NotAllowed")) == some false), (PySem.W.kitOne K (.ref (He.ga K "BadName")) (.ref (He.ga K "Taken")) == some false), (PySem.W.kitOne K (.ref (He.ga K "BadName")) (.ref (He.ga K "Fallen")) == some false), (PySem.W.exmOne K (.ref (He.ga K "BadName")) (.ref (He.ga K "KernelError")) == some true)]
def exL (K : PySem.W.Frag) : List Bool := [(exL0 K).all id, (exL1 K).all id]
def exB (K : PySem.W.Frag) : Bool := (exL K).all id
abbrev hk : PySem.W.Hook := He.hookX 5 fas fns [] [] exB
def ob (s : PySem.W.SharedT) : He.AlX := He.obsX 5 fas fns [] [] exB (HandSHeadRun.getT s)
theorem ob_eq (s : PySem.W.SharedT) : ob s = hk.obs s.abs := He.obsX_eq (HandSHeadRun.getT_eq s)
def loose0 : List PySem.Str := ["KernelError", "Taken", "Fallen", "BadName", "NoName", "NotDir", "IsDir", "NotEmpty", "Inside", "NoNode", "NoSpace", "TooMany", "TooBig", "NotHeld", "NotAllowed", "SMALL", "LONGEST", "is_name", "names_of", "_law_state", "_law_next", "_law_word", "_law_name", "_law_odd"]
def loose1 : List PySem.Str := ["_law_due", "_law_told", "_law_right"]
def loose : List PySem.Str := loose0 ++ loose1
abbrev R : PySem.W.OpenRow := PySem.W.OpenLaw.row PySem.Challenge.rw_ownroom_k30_paths_and_names
theorem run (w : World) : HandSHeadRun.RunEq R (PySem.W.view R.prog [30]) hk ob 60000 loose w := by
  intro os
  kernel_rfl
structure Txt (K : PySem.W.Frag) (mg : Str → Option Value) : Prop where
  g_KernelError : mg "KernelError" = some (.ref (He.ga K "KernelError"))
  g_Taken : mg "Taken" = some (.ref (He.ga K "Taken"))
  g_Fallen : mg "Fallen" = some (.ref (He.ga K "Fallen"))
  g_BadName : mg "BadName" = some (.ref (He.ga K "BadName"))
  g_NoName : mg "NoName" = some (.ref (He.ga K "NoName"))
  g_NotDir : mg "NotDir" = some (.ref (He.ga K "NotDir"))
  g_IsDir : mg "IsDir" = some (.ref (He.ga K "IsDir"))
  g_NotEmpty : mg "NotEmpty" = some (.ref (He.ga K "NotEmpty"))
  g_Inside : mg "Inside" = some (.ref (He.ga K "Inside"))
  g_NoNode : mg "NoNode" = some (.ref (He.ga K "NoNode"))
  g_NoSpace : mg "NoSpace" = some (.ref (He.ga K "NoSpace"))
  g_TooMany : mg "TooMany" = some (.ref (He.ga K "TooMany"))
  g_TooBig : mg "TooBig" = some (.ref (He.ga K "TooBig"))
  g_NotHeld : mg "NotHeld" = some (.ref (He.ga K "NotHeld"))
  g_NotAllowed : mg "NotAllowed" = some (.ref (He.ga K "NotAllowed"))
  g_SMALL : ∃ t, mg "SMALL" = some (.str "abcdefghijklmnopqrstuvwxyz" t)
  g_LONGEST : ∃ t, mg "LONGEST" = some (.int 6 t)
  g_is_name : mg "is_name" = some (.ref (He.ga K "is_name"))
  g_names_of : mg "names_of" = some (.ref (He.ga K "names_of"))
  g__law_state : mg "_law_state" = some (.ref (He.ga K "_law_state"))
  g__law_next : mg "_law_next" = some (.ref (He.ga K "_law_next"))
  g__law_word : mg "_law_word" = some (.ref (He.ga K "_law_word"))
  g__law_name : mg "_law_name" = some (.ref (He.ga K "_law_name"))
  g__law_odd : mg "_law_odd" = some (.ref (He.ga K "_law_odd"))
  g__law_due : mg "_law_due" = some (.ref (He.ga K "_law_due"))
  g__law_told : mg "_law_told" = some (.ref (He.ga K "_law_told"))
  g__law_right : mg "_law_right" = some (.ref (He.ga K "_law_right"))
  g_law : mg "law" = some (.ref (He.ga K "law"))
  n_ValueError : mg "ValueError" = none
  n_enumerate : mg "enumerate" = none
  n_sum : mg "sum" = none
  n_isinstance : mg "isinstance" = none
  n_len : mg "len" = none
  n_range : mg "range" = none
  n_all : mg "all" = none
  n_list : mg "list" = none
  n_int : mg "int" = none
  n_str : mg "str" = none
  x_KernelError : XcIn K (He.ga K "KernelError")
  x_Taken : XcIn K (He.ga K "Taken")
  x_Fallen : XcIn K (He.ga K "Fallen")
  x_BadName : XcIn K (He.ga K "BadName")
  x_NoName : XcIn K (He.ga K "NoName")
  x_NotDir : XcIn K (He.ga K "NotDir")
  x_IsDir : XcIn K (He.ga K "IsDir")
  x_NotEmpty : XcIn K (He.ga K "NotEmpty")
  x_Inside : XcIn K (He.ga K "Inside")
  x_NoNode : XcIn K (He.ga K "NoNode")
  x_NoSpace : XcIn K (He.ga K "NoSpace")
  x_TooMany : XcIn K (He.ga K "TooMany")
  x_TooBig : XcIn K (He.ga K "TooBig")
  x_NotHeld : XcIn K (He.ga K "NotHeld")
  x_NotAllowed : XcIn K (He.ga K "NotAllowed")
  e_BadName : ExcC K (He.ga K "BadName")
  k_BadName_ValueError : PySem.W.kitOne K (.ref (He.ga K "BadName")) (.type "ValueError") = some true
  k_BadName_BadName : PySem.W.kitOne K (.ref (He.ga K "BadName")) (.ref (He.ga K "BadName")) = some true
  k_BadName_NoName : PySem.W.kitOne K (.ref (He.ga K "BadName")) (.ref (He.ga K "NoName")) = some false
  k_BadName_NotDir : PySem.W.kitOne K (.ref (He.ga K "BadName")) (.ref (He.ga K "NotDir")) = some false
  k_BadName_IsDir : PySem.W.kitOne K (.ref (He.ga K "BadName")) (.ref (He.ga K "IsDir")) = some false
  k_BadName_NotEmpty : PySem.W.kitOne K (.ref (He.ga K "BadName")) (.ref (He.ga K "NotEmpty")) = some false
  k_BadName_Inside : PySem.W.kitOne K (.ref (He.ga K "BadName")) (.ref (He.ga K "Inside")) = some false
  k_BadName_NoNode : PySem.W.kitOne K (.ref (He.ga K "BadName")) (.ref (He.ga K "NoNode")) = some false
  k_BadName_NoSpace : PySem.W.kitOne K (.ref (He.ga K "BadName")) (.ref (He.ga K "NoSpace")) = some false
  k_BadName_TooMany : PySem.W.kitOne K (.ref (He.ga K "BadName")) (.ref (He.ga K "TooMany")) = some false
  k_BadName_TooBig : PySem.W.kitOne K (.ref (He.ga K "BadName")) (.ref (He.ga K "TooBig")) = some false
  k_BadName_NotHeld : PySem.W.kitOne K (.ref (He.ga K "BadName")) (.ref (He.ga K "NotHeld")) = some false
  k_BadName_NotAllowed : PySem.W.kitOne K (.ref (He.ga K "BadName")) (.ref (He.ga K "NotAllowed")) = some false
  k_BadName_Taken : PySem.W.kitOne K (.ref (He.ga K "BadName")) (.ref (He.ga K "Taken")) = some false
  k_BadName_Fallen : PySem.W.kitOne K (.ref (He.ga K "BadName")) (.ref (He.ga K "Fallen")) = some false
  y_BadName_KernelError : PySem.W.exmOne K (.ref (He.ga K "BadName")) (.ref (He.ga K "KernelError")) = some true
  d_is_name : ∃ fd, FunD K "is_name" "is_name" (defArgs s_is_name) (defBody s_is_name) (defScope s_is_name) [] [] (He.fAd K ("is_name", none)) fd
  d_names_of : ∃ fd, FunD K "names_of" "names_of" (defArgs s_names_of) (defBody s_names_of) (defScope s_names_of) [] [] (He.fAd K ("names_of", none)) fd
  d__law_state : ∃ fd, FunD K "_law_state" "_law_state" (defArgs s__law_state) (defBody s__law_state) (defScope s__law_state) [] [] (He.fAd K ("_law_state", none)) fd
  d__law_next : ∃ fd, FunD K "_law_next" "_law_next" (defArgs s__law_next) (defBody s__law_next) (defScope s__law_next) [] [] (He.fAd K ("_law_next", none)) fd
  d__law_word : ∃ fd, FunD K "_law_word" "_law_word" (defArgs s__law_word) (defBody s__law_word) (defScope s__law_word) [] [] (He.fAd K ("_law_word", none)) fd
  d__law_name : ∃ fd, FunD K "_law_name" "_law_name" (defArgs s__law_name) (defBody s__law_name) (defScope s__law_name) [] [] (He.fAd K ("_law_name", none)) fd
  d__law_odd : ∃ fd, FunD K "_law_odd" "_law_odd" (defArgs s__law_odd) (defBody s__law_odd) (defScope s__law_odd) [] [] (He.fAd K ("_law_odd", none)) fd
  d__law_due : ∃ fd, FunD K "_law_due" "_law_due" (defArgs s__law_due) (defBody s__law_due) (defScope s__law_due) [] [] (He.fAd K ("_law_due", none)) fd
  d__law_told : ∃ fd, FunD K "_law_told" "_law_told" (defArgs s__law_told) (defBody s__law_told) (defScope s__law_told) [] [] (He.fAd K ("_law_told", none)) fd
  d__law_right : ∃ fd, FunD K "_law_right" "_law_right" (defArgs s__law_right) (defBody s__law_right) (defScope s__law_right) [] [] (He.fAd K ("_law_right", none)) fd
  d_law : ∃ fd, FunD K "law" "law" (defArgs s_law) (defBody s_law) (defScope s_law) [] [] (He.fAd K ("law", none)) fd

theorem txt_mk {K : PySem.W.Frag} {h : Heap} {mg : Str → Option Value} (X : K.In h) (G : h.Ns mainGlobals mg) (c : He.SaysD fas fns K) (m : exB K = true) : Txt K mg where
  g_KernelError := He.glo_ok X G (c.fact 0 (f := .glo "KernelError") rfl)
  g_Taken := He.glo_ok X G (c.fact 1 (f := .glo "Taken") rfl)
  g_Fallen := He.glo_ok X G (c.fact 2 (f := .glo "Fallen") rfl)
  g_BadName := He.glo_ok X G (c.fact 3 (f := .glo "BadName") rfl)
  g_NoName := He.glo_ok X G (c.fact 4 (f := .glo "NoName") rfl)
  g_NotDir := He.glo_ok X G (c.fact 5 (f := .glo "NotDir") rfl)
  g_IsDir := He.glo_ok X G (c.fact 6 (f := .glo "IsDir") rfl)
  g_NotEmpty := He.glo_ok X G (c.fact 7 (f := .glo "NotEmpty") rfl)
  g_Inside := He.glo_ok X G (c.fact 8 (f := .glo "Inside") rfl)
  g_NoNode := He.glo_ok X G (c.fact 9 (f := .glo "NoNode") rfl)
  g_NoSpace := He.glo_ok X G (c.fact 10 (f := .glo "NoSpace") rfl)
  g_TooMany := He.glo_ok X G (c.fact 11 (f := .glo "TooMany") rfl)
  g_TooBig := He.glo_ok X G (c.fact 12 (f := .glo "TooBig") rfl)
  g_NotHeld := He.glo_ok X G (c.fact 13 (f := .glo "NotHeld") rfl)
  g_NotAllowed := He.glo_ok X G (c.fact 14 (f := .glo "NotAllowed") rfl)
  g_SMALL := He.str_ok X G (c.fact 15 (f := .str "SMALL" "abcdefghijklmnopqrstuvwxyz") rfl)
  g_LONGEST := He.int_ok X G (c.fact 16 (f := .int "LONGEST" 6) rfl)
  g_is_name := He.glo_ok X G (c.fact 17 (f := .glo "is_name") rfl)
  g_names_of := He.glo_ok X G (c.fact 18 (f := .glo "names_of") rfl)
  g__law_state := He.glo_ok X G (c.fact 19 (f := .glo "_law_state") rfl)
  g__law_next := He.glo_ok X G (c.fact 20 (f := .glo "_law_next") rfl)
  g__law_word := He.glo_ok X G (c.fact 21 (f := .glo "_law_word") rfl)
  g__law_name := He.glo_ok X G (c.fact 22 (f := .glo "_law_name") rfl)
  g__law_odd := He.glo_ok X G (c.fact 23 (f := .glo "_law_odd") rfl)
  g__law_due := He.glo_ok X G (c.fact 24 (f := .glo "_law_due") rfl)
  g__law_told := He.glo_ok X G (c.fact 25 (f := .glo "_law_told") rfl)
  g__law_right := He.glo_ok X G (c.fact 26 (f := .glo "_law_right") rfl)
  g_law := He.glo_ok X G (c.fact 27 (f := .glo "law") rfl)
  n_ValueError := He.free_ok X G (c.fact 28 (f := .free "ValueError") rfl)
  n_enumerate := He.free_ok X G (c.fact 29 (f := .free "enumerate") rfl)
  n_sum := He.free_ok X G (c.fact 30 (f := .free "sum") rfl)
  n_isinstance := He.free_ok X G (c.fact 31 (f := .free "isinstance") rfl)
  n_len := He.free_ok X G (c.fact 32 (f := .free "len") rfl)
  n_range := He.free_ok X G (c.fact 33 (f := .free "range") rfl)
  n_all := He.free_ok X G (c.fact 34 (f := .free "all") rfl)
  n_list := He.free_ok X G (c.fact 35 (f := .free "list") rfl)
  n_int := He.free_ok X G (c.fact 36 (f := .free "int") rfl)
  n_str := He.free_ok X G (c.fact 37 (f := .free "str") rfl)
  x_KernelError := He.exc_ok (c.fact 38 (f := .exc "KernelError") rfl)
  x_Taken := He.exc_ok (c.fact 39 (f := .exc "Taken") rfl)
  x_Fallen := He.exc_ok (c.fact 40 (f := .exc "Fallen") rfl)
  x_BadName := He.exc_ok (c.fact 41 (f := .exc "BadName") rfl)
  x_NoName := He.exc_ok (c.fact 42 (f := .exc "NoName") rfl)
  x_NotDir := He.exc_ok (c.fact 43 (f := .exc "NotDir") rfl)
  x_IsDir := He.exc_ok (c.fact 44 (f := .exc "IsDir") rfl)
  x_NotEmpty := He.exc_ok (c.fact 45 (f := .exc "NotEmpty") rfl)
  x_Inside := He.exc_ok (c.fact 46 (f := .exc "Inside") rfl)
  x_NoNode := He.exc_ok (c.fact 47 (f := .exc "NoNode") rfl)
  x_NoSpace := He.exc_ok (c.fact 48 (f := .exc "NoSpace") rfl)
  x_TooMany := He.exc_ok (c.fact 49 (f := .exc "TooMany") rfl)
  x_TooBig := He.exc_ok (c.fact 50 (f := .exc "TooBig") rfl)
  x_NotHeld := He.exc_ok (c.fact 51 (f := .exc "NotHeld") rfl)
  x_NotAllowed := He.exc_ok (c.fact 52 (f := .exc "NotAllowed") rfl)
  e_BadName := excB_ok (all_at (all_at m 0 rfl) 0 rfl)
  k_BadName_ValueError := eq_of_beq (all_at (all_at m 0 rfl) 1 rfl)
  k_BadName_BadName := eq_of_beq (all_at (all_at m 0 rfl) 2 rfl)
  k_BadName_NoName := eq_of_beq (all_at (all_at m 0 rfl) 3 rfl)
  k_BadName_NotDir := eq_of_beq (all_at (all_at m 0 rfl) 4 rfl)
  k_BadName_IsDir := eq_of_beq (all_at (all_at m 0 rfl) 5 rfl)
  k_BadName_NotEmpty := eq_of_beq (all_at (all_at m 0 rfl) 6 rfl)
  k_BadName_Inside := eq_of_beq (all_at (all_at m 0 rfl) 7 rfl)
  k_BadName_NoNode := eq_of_beq (all_at (all_at m 0 rfl) 8 rfl)
  k_BadName_NoSpace := eq_of_beq (all_at (all_at m 0 rfl) 9 rfl)
  k_BadName_TooMany := eq_of_beq (all_at (all_at m 0 rfl) 10 rfl)
  k_BadName_TooBig := eq_of_beq (all_at (all_at m 0 rfl) 11 rfl)
  k_BadName_NotHeld := eq_of_beq (all_at (all_at m 1 rfl) 0 rfl)
  k_BadName_NotAllowed := eq_of_beq (all_at (all_at m 1 rfl) 1 rfl)
  k_BadName_Taken := eq_of_beq (all_at (all_at m 1 rfl) 2 rfl)
  k_BadName_Fallen := eq_of_beq (all_at (all_at m 1 rfl) 3 rfl)
  y_BadName_KernelError := eq_of_beq (all_at (all_at m 1 rfl) 4 rfl)
  d_is_name := c.def_ 0 (d := ⟨("is_name", none), "is_name", "is_name", defArgs (top 19), defBody (top 19), defScope (top 19), [], []⟩) rfl
  d_names_of := c.def_ 1 (d := ⟨("names_of", none), "names_of", "names_of", defArgs (top 20), defBody (top 20), defScope (top 20), [], []⟩) rfl
  d__law_state := c.def_ 2 (d := ⟨("_law_state", none), "_law_state", "_law_state", defArgs (top 22), defBody (top 22), defScope (top 22), [], []⟩) rfl
  d__law_next := c.def_ 3 (d := ⟨("_law_next", none), "_law_next", "_law_next", defArgs (top 23), defBody (top 23), defScope (top 23), [], []⟩) rfl
  d__law_word := c.def_ 4 (d := ⟨("_law_word", none), "_law_word", "_law_word", defArgs (top 24), defBody (top 24), defScope (top 24), [], []⟩) rfl
  d__law_name := c.def_ 5 (d := ⟨("_law_name", none), "_law_name", "_law_name", defArgs (top 25), defBody (top 25), defScope (top 25), [], []⟩) rfl
  d__law_odd := c.def_ 6 (d := ⟨("_law_odd", none), "_law_odd", "_law_odd", defArgs (top 26), defBody (top 26), defScope (top 26), [], []⟩) rfl
  d__law_due := c.def_ 7 (d := ⟨("_law_due", none), "_law_due", "_law_due", defArgs (top 27), defBody (top 27), defScope (top 27), [], []⟩) rfl
  d__law_told := c.def_ 8 (d := ⟨("_law_told", none), "_law_told", "_law_told", defArgs (top 28), defBody (top 28), defScope (top 28), [], []⟩) rfl
  d__law_right := c.def_ 9 (d := ⟨("_law_right", none), "_law_right", "_law_right", defArgs (top 29), defBody (top 29), defScope (top 29), [], []⟩) rfl
  d_law := c.def_ 10 (d := ⟨("law", none), "law", "law", defArgs (top 30), defBody (top 30), defScope (top 30), [], []⟩) rfl
local macro_rules | `(tactic| walk_at "xf") => `(tactic| first | with_reducible exact Txt.e_BadName (by assumption) | with_reducible exact Txt.k_BadName_ValueError (by assumption) | with_reducible exact Txt.k_BadName_BadName (by assumption) | with_reducible exact Txt.k_BadName_NoName (by assumption) | with_reducible exact Txt.k_BadName_NotDir (by assumption) | with_reducible exact Txt.k_BadName_IsDir (by assumption) | with_reducible exact Txt.k_BadName_NotEmpty (by assumption) | with_reducible exact Txt.k_BadName_Inside (by assumption) | with_reducible exact Txt.k_BadName_NoNode (by assumption) | with_reducible exact Txt.k_BadName_NoSpace (by assumption) | with_reducible exact Txt.k_BadName_TooMany (by assumption) | with_reducible exact Txt.k_BadName_TooBig (by assumption) | with_reducible exact Txt.k_BadName_NotHeld (by assumption) | with_reducible exact Txt.k_BadName_NotAllowed (by assumption) | with_reducible exact Txt.k_BadName_Taken (by assumption) | with_reducible exact Txt.k_BadName_Fallen (by assumption) | with_reducible exact Txt.y_BadName_KernelError (by assumption) | fail)
local macro_rules | `(tactic| walk_at "fact") => `(tactic| first  | fail)
/-! ### the walk's own lines -/
local macro_rules | `(tactic| walk_at "mem") => `(tactic| first | exact List.mem_cons_self | (apply List.mem_cons_of_mem; walk_at "mem") | (apply List.mem_append_right; walk_at "mem") | (apply List.mem_append_left; walk_at "mem"))
local macro_rules | `(tactic| walk_at "at") => `(tactic| first | exact At.here | (apply At.there; walk_at "at") | (apply At.app; walk_at "at") | (apply At.appl; walk_at "at"))
local macro_rules | `(tactic| walk_at "sub") => `(tactic| first | exact Sub.all | exact Sub.here | exact Sub.one | (apply Sub.there; walk_at "sub") | (apply Sub.appl; walk_at "sub") | (apply Sub.app; walk_at "sub"))
local macro_rules | `(tactic| walk_at "own") => `(tactic| first | assumption | ((with_reducible apply Own.wr2); (focus walk_at "own"); (focus walk_at "at"); rfl) | ((with_reducible apply Own.new); (focus walk_at "own"); assumption))
local macro_rules | `(tactic| walk_at "h") => `(tactic| first | assumption | (apply Own.get; (focus walk_at "own"); walk_at "mem") | (apply Own.fr0; (focus walk_at "own"); assumption) | (rename Own _ _ _ _ => otmp; clear otmp; walk_at "h"))
local macro_rules | `(tactic| walk_at "ar") => `(tactic| first | omega | (simp only [List.length_nil, List.length_cons, List.length_append, List.length_map, List.length_set, List.length_replicate, List.length_range]; omega))
/-- one premise -/
local macro_rules | `(tactic| walk_at "c") => `(tactic| first
  | with_reducible exact rfl
  | ((with_reducible apply sl_of); rfl)
  | ((with_reducible apply sc_of); rfl)
  | ((with_reducible apply lsq_of); rfl)
  | ((with_reducible apply wp_of); rfl)
  | ((with_reducible apply ln_of); rfl)
  | ((with_reducible apply veq_of); first | rfl | exact kl | exact kr)
  | ((with_reducible apply lk_of); rfl)
  | ((with_reducible apply lkn_of); rfl)
  | ((with_reducible apply lt_of); (first | decide | walk_at "ar" | ((repeat (with_reducible apply putF_lt)); walk_at "ar")))
  | ((with_reducible apply hp_of); walk_at "h")
  | ((with_reducible apply cd_of); first | exact ⟨by decide, by decide⟩ | exact ⟨by omega, by omega⟩)
  | ((with_reducible apply at_of); first | assumption | exact atI_nat (j := 0) rfl | exact atI_nat (j := 1) rfl | exact atI_nat (j := 2) rfl | exact atI_nat (j := 3) rfl | exact atI_nat (j := 4) rfl)
  | ((with_reducible apply ix_of); first | assumption | rfl)
  | ((with_reducible apply cp_of); exact ⟨by decide, by decide, by decide⟩)
  | ((with_reducible apply cmw_of); first | assumption | (unfold CMulW; decide +kernel))
  | ((with_reducible apply cm_l); first | exact ⟨by decide, by decide⟩ | exact ⟨by omega, by omega⟩)
  | ((with_reducible apply cm_r); first | exact ⟨by decide, by decide⟩ | exact ⟨by omega, by omega⟩)
  | ((with_reducible show SqL _ _ _ _); assumption)
  | ((with_reducible show DGet _ _ _ _); assumption)
  | ((with_reducible show DPut _ _ _ _ _); assumption)
  | with_reducible exact isStr_of
  | with_reducible exact tyStr_of
  | walk_at "fact"
  | walk_at "kit"
  | walk_at "xf"
  | walk_at "col"
  | assumption)
local macro_rules | `(tactic| walk_at "prd") => `(tactic| first | exact Paired.nil | ((with_reducible apply Paired.cons); (focus walk_at "c"); walk_at "prd"))
local macro_rules | `(tactic| walk_at "kit") => `(tactic| first
  | (with_reducible exact Paired.nil) | ((with_reducible apply Paired.cons); (focus walk_at "c"); walk_at "prd") | ((with_reducible apply kit_any); walk_at "prd")
  | with_reducible exact ClsV.ty _ | with_reducible exact ClsV.own _
  | with_reducible exact kt_int_int | with_reducible exact kt_int_bool | with_reducible exact kt_bool_int | with_reducible exact kt_bool_bool | with_reducible exact kt_list_list | with_reducible exact kt_tuple_tuple | with_reducible exact kt_NoneType_tuple | with_reducible exact kt_str_str | with_reducible exact kt_NoneType_list | with_reducible exact kt_NoneType_int | with_reducible exact kt_NoneType_bool | with_reducible exact kt_NoneType_dict | with_reducible exact kt_NoneType_str | with_reducible exact kt_str_list | with_reducible exact kt_list_str | with_reducible exact kt_str_int | with_reducible exact kt_int_str | with_reducible exact kt_int_list | with_reducible exact kt_int_tuple | with_reducible exact kt_list_tuple | with_reducible exact kt_tuple_list | with_reducible exact kt_dict_dict | with_reducible exact kt_list_dict | with_reducible exact kt_dict_list | with_reducible exact kt_int_dict | with_reducible exact kt_str_bool | with_reducible exact kt_str_tuple | with_reducible exact kt_str_dict | with_reducible exact kt_list_int | with_reducible exact kt_list_bool | with_reducible exact kt_tuple_int | with_reducible exact kt_tuple_bool | with_reducible exact kt_tuple_str | with_reducible exact kt_tuple_dict
  | ((with_reducible apply TyX.base); first | with_reducible exact TyOf.non | with_reducible exact TyOf.bl _ | with_reducible exact TyOf.int _ | with_reducible exact TyOf.str _ | ((with_reducible apply TyOf.lst); walk_at "h") | ((with_reducible apply TyOf.tup); walk_at "h") | ((with_reducible apply TyOf.dK); walk_at "h")))
/-- lists, tuples, dicts, sizes -/
local macro_rules | `(tactic| walk_at "sq") => `(tactic| first | assumption | ((with_reducible apply SqL.of); walk_at "h") | ((with_reducible apply SqT.of); walk_at "h") | ((with_reducible apply Own.sq); (focus walk_at "own"); assumption))
local macro_rules | `(tactic| walk_at "col") => `(tactic| first
  | ((with_reducible apply SqL.of); walk_at "h") | ((with_reducible apply SqT.of); walk_at "h") | ((with_reducible apply Rd.of); walk_at "h")
  | ((with_reducible apply Own.sq); (focus walk_at "own"); assumption)
  | ((with_reducible apply col_ex2); walk_at "sq") | ((with_reducible apply col_ol2); walk_at "sq") | ((with_reducible apply col_or2); walk_at "sq")
  | ((with_reducible apply sz_le); first | decide | walk_at "ar")
  | ((with_reducible apply sz_lt); first | decide | walk_at "ar")
  | ((with_reducible apply isd_k); walk_at "h")
  | ((with_reducible apply dget_ii); (focus walk_at "h"); assumption) | ((with_reducible apply dget_is); (focus walk_at "h"); assumption)
  | ((with_reducible apply dget_i); walk_at "h") | ((with_reducible apply dget_s); walk_at "h")
  | ((with_reducible apply dput_i); (focus walk_at "h"); walk_at "ar") | ((with_reducible apply dput_s); (focus walk_at "h"); walk_at "ar")
  | (apply Or.inl; apply And.intro rfl; apply col_ex; walk_at "h")
  | (apply Or.inr; apply Or.inr; apply Or.inl; apply And.intro rfl; apply Or.inl; constructor; walk_at "h") | (apply Or.inr; apply Or.inr; apply Or.inl; apply And.intro rfl; apply Or.inr; constructor; walk_at "h")
  | with_reducible exact all_flat _ | with_reducible exact all_flatS _ | ((with_reducible apply fl_of); rfl)
  | ((with_reducible apply pos_of); first | decide | assumption | omega | decide +kernel)
  | walk_at "ar")
/-- one step -/
local macro_rules | `(tactic| walk_at "s1") => `(tactic| first
  | (apply @Exists.intro V)
  | (apply @Exists.intro Addr)
  | (apply @Exists.intro Int)
  | (apply @Exists.intro (List V))
  | (apply @Exists.intro (List (Str × V)))
  | (apply @Exists.intro (List (Key × V)))
  | (apply @Exists.intro Key)
  | (apply @Exists.intro Bool)
  | (apply @Exists.intro Str)
  | (apply @Exists.intro Value)
  | (apply @Exists.intro (Option V))
  | (apply @Exists.intro (List Int)) | (apply @Exists.intro (List Bool)) | (apply @Exists.intro Obj) | (apply @Exists.intro (List Value)) | (apply @Exists.intro Hp)
  | (apply And.intro; (focus walk_at "c")))
local macro_rules | `(tactic| walk_at "s") => `(tactic| repeat walk_at "s1")
local macro_rules | `(tactic| walk_at "b") => `(tactic| (apply Box.mk; walk_at "s"))
local macro_rules | `(tactic| walk_at "sk") => `(tactic| (refine if_ss (fun z => absurd z (by decide)) (fun _ => ?_); walk_at "s"))
local macro_rules | `(tactic| walk_at "bb") => `(tactic| repeat (apply Box.mk; walk_at "s"))
local macro_rules | `(tactic| walk_at "pm") => `(tactic| (classical (refine List.perm_iff_count.mpr fun zz => ?_; simp only [List.count_cons, List.count_append, List.count_nil, List.cons_append, List.nil_append, List.append_nil]; omega)))
local macro_rules | `(tactic| walk_at "clo") => `(tactic| repeat (rename Own _ _ _ _ => otmp; clear otmp))
/-! ## paths: names in a text -/
open SX (S)
/-- a text's signs, few and plain -/
structure TxO (z : List Nat) : Prop where
  len : z.length ≤ 5000
  low : ∀ c ∈ z, c < 256
def smallL : List Nat := [97, 98, 99, 100, 101, 102, 103, 104, 105, 106, 107, 108, 109, 110, 111, 112, 113, 114, 115, 116, 117, 118, 119, 120, 121, 122]
theorem small_eq : ("abcdefghijklmnopqrstuvwxyz" : Str) = S smallL := by decide +kernel
def nameB (z : List Nat) : Bool := decide (1 ≤ z.length) && (decide (z.length ≤ 6) && z.all fun c => smallL.contains c)
def pieces (z : List Nat) : List (List Nat) := TL.spl [47] 0 [] z
/-- the names of a path, none where it is no path -/
def namesL (z : List Nat) : Option (List (List Nat)) :=
  if z = [47] then some [] else if (pieces z).length < 2 ∨ (pieces z).head? ≠ some [] then none else if (pieces z).tail.all nameB then some (pieces z).tail else none
theorem takeW_len {g : Nat → Bool} : ∀ z : List Nat, (z.takeWhile g).length = z.length ↔ z.all g = true
  | [] => by simp
  | c :: z => by
    rw [List.takeWhile_cons, List.all_cons]
    cases h : g c with
    | true => rw [if_pos rfl, List.length_cons, List.length_cons, Bool.true_and, ← takeW_len z]; omega
    | false => simp
theorem takeW_le {g : Nat → Bool} (z : List Nat) : (z.takeWhile g).length ≤ z.length := (List.takeWhile_sublist g).length_le
theorem takeW_at {g : Nat → Bool} : ∀ z : List Nat, ∀ h : (z.takeWhile g).length < z.length, g z[(z.takeWhile g).length] = false
  | c :: z, h => by
    cases hc : g c with
    | true =>
      have e : (c :: z).takeWhile g = c :: z.takeWhile g := by rw [List.takeWhile_cons, if_pos hc]
      have h2 : (z.takeWhile g).length < z.length := by rw [e, List.length_cons, List.length_cons] at h; omega
      have := takeW_at z h2
      simp only [e, List.length_cons, List.getElem_cons_succ]
      exact this
    | false =>
      have e : (c :: z).takeWhile g = [] := by rw [List.takeWhile_cons, hc]; rfl
      simp only [e, List.length_nil, List.getElem_cons_zero]
      exact hc
theorem strip_nil (g : Nat → Bool) (z : List Nat) : (Txt.stripBy g true true (S z) = S []) ↔ z.all g = true := by
  rw [W.stripBy_eq]
  show Builtin.Str.strSub (S z) (z.takeWhile g).length (z.length - ((z.drop (z.takeWhile g).length).reverse.takeWhile g).length) = S [] ↔ _
  have h0 := takeW_le (g := g) z
  have h1 := takeW_le (g := g) (z.drop (z.takeWhile g).length).reverse
  rw [List.length_reverse, List.length_drop] at h1
  have key : (Builtin.Str.strSub (S z) (z.takeWhile g).length (z.length - ((z.drop (z.takeWhile g).length).reverse.takeWhile g).length)).cps.size = (z.length - ((z.drop (z.takeWhile g).length).reverse.takeWhile g).length) - (z.takeWhile g).length := by
    show (Array.extract _ _ _).size = _
    rw [Array.size_extract, List.size_toArray]
    omega
  constructor
  · intro h
    rw [h] at key
    have key : 0 = (z.length - ((z.drop (z.takeWhile g).length).reverse.takeWhile g).length) - (z.takeWhile g).length := key
    rw [← takeW_len]
    by_cases hl : (z.takeWhile g).length < z.length
    · exfalso
      have h2 : ((z.drop (z.takeWhile g).length).reverse.takeWhile g).length = (z.drop (z.takeWhile g).length).reverse.length := by rw [List.length_reverse, List.length_drop]; omega
      rw [takeW_len, List.all_reverse, List.drop_eq_getElem_cons hl, List.all_cons, takeW_at z hl] at h2
      cases h2
    · omega
  · intro h
    rw [← takeW_len] at h
    have e : (Builtin.Str.strSub (S z) (z.takeWhile g).length (z.length - ((z.drop (z.takeWhile g).length).reverse.takeWhile g).length)).cps.size = 0 := by rw [key]; omega
    have e2 := Array.size_eq_zero_iff.mp e
    generalize Builtin.Str.strSub (S z) _ _ = q at e2
    cases q
    exact congrArg Str.mk e2
theorem strip_all (z : List Nat) : decide (V.str (Txt.stripChars (S z) "abcdefghijklmnopqrstuvwxyz") = V.str "") = z.all fun c => smallL.contains c := by
  have hc : (("abcdefghijklmnopqrstuvwxyz" : Str).cps.contains : Nat → Bool) = fun c => smallL.contains c := by
    funext c
    rw [small_eq]
    show smallL.toArray.contains c = _
    simp
  have h := strip_nil (fun c => smallL.contains c) z
  rw [← hc] at h
  have e0 : ("" : Str) = S [] := by decide +kernel
  rw [e0]
  cases ha : z.all fun c => smallL.contains c with
  | true => rw [← hc] at ha; rw [hc] at ha; exact decide_eq_true (congrArg V.str (h.mpr (by rw [hc]; exact ha)))
  | false => exact decide_eq_false fun q => by rw [h.mp (V.str.inj q) |> fun x => (by rw [hc] at x; exact x : (z.all fun c => smallL.contains c) = true)] at ha; cases ha
/-- texts as values -/
abbrev SV (ns : List (List Nat)) : List V := ns.map fun n => V.str (S n)
theorem spl1 (c : Nat) : ∀ (z acc : List Nat), (TL.spl [c] 0 acc z).length ≤ z.length + 1 ∧ 1 ≤ (TL.spl [c] 0 acc z).length ∧ ∀ p ∈ TL.spl [c] 0 acc z, p.length ≤ acc.length + z.length ∧ ∀ x ∈ p, x ∈ acc ∨ x ∈ z
  | [], acc => ⟨by simp [TL.spl], by simp [TL.spl], fun p hp => by
      have : p = acc := by simpa [TL.spl] using hp
      subst this
      exact ⟨by simp, fun x hx => .inl hx⟩⟩
  | y :: r, acc => by
    show (if TL.pre [c] (y :: r) = true then acc :: TL.spl [c] 0 [] r else TL.spl [c] 0 (acc ++ [y]) r).length ≤ _ ∧ 1 ≤ (if TL.pre [c] (y :: r) = true then acc :: TL.spl [c] 0 [] r else TL.spl [c] 0 (acc ++ [y]) r).length ∧ ∀ p ∈ (if TL.pre [c] (y :: r) = true then acc :: TL.spl [c] 0 [] r else TL.spl [c] 0 (acc ++ [y]) r), _
    split
    · obtain ⟨h1, h2, h3⟩ := spl1 c r []
      refine ⟨by rw [List.length_cons, List.length_cons]; omega, by rw [List.length_cons]; omega, fun p hp => ?_⟩
      rcases List.mem_cons.mp hp with rfl | hp
      · exact ⟨by simp, fun x hx => .inl hx⟩
      · obtain ⟨h4, h5⟩ := h3 p hp
        refine ⟨by rw [List.length_cons]; simp only [List.length_nil] at h4; omega, fun x hx => ?_⟩
        rcases h5 x hx with h | h
        · cases h
        · exact .inr (.tail _ h)
    · obtain ⟨h1, h2, h3⟩ := spl1 c r (acc ++ [y])
      refine ⟨by rw [List.length_cons]; omega, h2, fun p hp => ?_⟩
      obtain ⟨h4, h5⟩ := h3 p hp
      refine ⟨by rw [List.length_cons]; rw [List.length_append, List.length_singleton] at h4; omega, fun x hx => ?_⟩
      rcases h5 x hx with h | h
      · rcases List.mem_append.mp h with h | h
        · exact .inl h
        · exact .inr (by rw [List.mem_singleton.mp h]; exact .head _)
      · exact .inr (.tail _ h)
theorem pieces_few {z : List Nat} : (pieces z).length ≤ z.length + 1 ∧ 1 ≤ (pieces z).length := ⟨(spl1 47 z []).1, (spl1 47 z []).2.1⟩
theorem pieces_low {z : List Nat} (h : TxO z) {p : List Nat} (hp : p ∈ pieces z) : TxO p := by
  obtain ⟨h1, h2⟩ := (spl1 47 z []).2.2 p hp
  have := h.len
  refine ⟨by simp only [List.length_nil] at h1; omega, fun c hc => ?_⟩
  rcases h2 c hc with q | q
  · cases q
  · exact h.low c q
theorem split_pieces (z : List Nat) : Txt.split (S z) "/" = (pieces z).map S := by
  rw [show ("/" : Str) = S [47] by decide +kernel]
  exact SX.split_S (by simp) (by decide)
theorem SV_get {ns : List (List Nat)} {i : Nat} {x : V} (h : (SV ns)[i]? = some x) : ∃ n, ns[i]? = some n ∧ x = .str (S n) := by
  rw [List.getElem?_map] at h
  cases e : ns[i]? with
  | none => rw [e] at h; cases h
  | some n => rw [e] at h; exact ⟨n, rfl, (Option.some.inj h).symm⟩
def sp_is_name (K : PySem.W.Frag) : Sp := sp1 fun x H Q _ => ∃ z, x = .str (S z) ∧ z.length ≤ 5000 ∧ Q (.bl (nameB z)) H
def sp_names_of (K : PySem.W.Frag) : Sp := sp1 fun x H Q E => ∃ z, x = .str (S z) ∧ TxO z ∧ (namesL z = none → ∀ H', Own H H' [] [] → E (.ref (He.ga K "BadName")) none H') ∧
  (∀ ns, namesL z = some ns → ∀ H' b, Own H H' [] [(b, .lst (ns.map fun n => V.str (S n)))] → Q (.ref b) H')
theorem S_len5 {z : List Nat} (h : z.length ≤ 5000) : (S z).length + 2 ≤ sizeLine := by rw [SX.S_len]; exact sz_le (by omega)
theorem sc_is_name : FnScope ["text"] ["text"] (defScope s_is_name) := ⟨rfl, rfl, rfl, by decide +kernel, rfl, by decide +kernel, by decide +kernel⟩
theorem ok_is_name {P : Program} {w : World} {K : PySem.W.Frag} {mg : Str → Option Value} {base : Heap} (T : Txt K mg) : Cee P w K mg base 1 (He.fAd K ("is_name", none)) ["text"] (sp_is_name K) := by
  refine cee_of T.d_is_name sc_is_name (fun _ _ _ _ _ _ us hl => match us, hl with | [_], _ => rfl) (fun vs H Q E h => sp1_len h) (fun cdv A outer s H vs Q E hr h => ⟨_, (pss_one (ps_ret (pe_and (pe_chain op_le op_le pe_int (pe_callB call_len_str (by rfl) T.n_len (by decide +kernel) (pa_cons (pv 0) pa_nil)) (pe_gc (v := .int 6) rfl (gI T.g_LONGEST))) (pe_one (pe_cmpR op_eq (pe_bm PySem.F.plainAttrs_str PySem.F.slot_str_strip PySem.F.type_str_strip mt_stripChars (pv 0) (pa_cons (pe_gc (v := .str "abcdefghijklmnopqrstuvwxyz") rfl (gS T.g_SMALL)) pa_nil)) pe_str (nomark _)))))), ?_⟩)
  obtain ⟨v0, rfl, h⟩ := h
  dsimp only [cxOf, L2.start]
  obtain ⟨z, rfl, hz, k⟩ := h
  have hl1 : (S z).length ≤ sizeLine := by have := S_len5 hz; omega
  have hl2 := SX.S_len z
  walk_at "s"
  have hN : nameB z = (decide (1 ≤ z.length) && (decide (z.length ≤ 6) && z.all fun c => smallL.contains c)) := rfl
  rw [hN] at k
  refine if_d (fun h1 => ?_) (fun h1 => ?_)
  · rw [decide_eq_true (show 1 ≤ z.length by omega), Bool.true_and] at k
    walk_at "s"
    refine if_d (fun h2 => ?_) (fun h2 => ?_)
    · rw [decide_eq_true (show z.length ≤ 6 by omega), Bool.true_and] at k
      walk_at "s"
      rw [strip_all]
      exact k
    · rw [decide_eq_false (show ¬ z.length ≤ 6 by omega), Bool.false_and] at k
      walk_at "s"
      exact k
  · rw [decide_eq_false (show ¬ 1 ≤ z.length by omega), Bool.false_and] at k
    walk_at "s"
    exact k
theorem sc_names_of : FnScope ["path", "pieces", "piece"] ["path"] (defScope s_names_of) := ⟨rfl, rfl, rfl, by decide +kernel, rfl, by decide +kernel, by decide +kernel⟩
theorem ok_names_of {P : Program} {w : World} {K : PySem.W.Frag} {mg : Str → Option Value} {base : Heap} (T : Txt K mg) : Cee P w K mg base 2 (He.fAd K ("names_of", none)) ["path"] (sp_names_of K) := by
  have c_is_name : Cee P w K mg base 1 (He.fAd K ("is_name", none)) ["text"] (sp_is_name K) := ok_is_name T
  refine cee_of T.d_names_of sc_names_of (fun _ _ _ _ _ _ us hl => match us, hl with | [_], _ => rfl) (fun vs H Q E h => sp1_len h) (fun cdv A outer s H vs Q E hr h => ⟨_, (pss_cons (ps_if (pt_cmpR op_eq (pv 0) pe_str (nomark _)) (pss_one (ps_ret (pe_lst pa_nil))) pss_nil) (pss_cons (ps_set (i := 1) sc_names_of.nd rfl (Or.inl rfl) (pe_split (pv 0) pe_str)) (pss_cons (PS.box (ps_if (PW.pt (pw_or (pt_cmpR op_lt (pe_callB call_len_seq (by rfl) T.n_len (by decide +kernel) (pa_cons (pv 1) pa_nil)) pe_int (nomark _)) (pw_or1 (pt_cmpR op_ne (pe_ix ix_list (pv 1) pe_int (fun _ _ => rfl)) pe_str (nomark _))))) (pss_one (ps_raise rfl (takes_of rfl rfl rfl rfl) (pmk_own PySem.F.excBase_ValueError T.x_BadName.1 T.g_BadName T.x_BadName.2.1 (raises_own T.x_BadName.2.2.1 T.x_BadName.2.2.2) rfl))) pss_nil)) (pss_cons (ps_for (passes_of rfl) rfl (PI.box (pi_list (pe_slice sl_list (pv 1) (po_some pe_int) po_none))) (pg_name (i := 2) sc_names_of.nd rfl (Or.inl rfl)) (pss_one (ps_if (pt_not (pt_val (pe_f c_is_name (hr.mono (by decide)) (takes_of rfl rfl rfl rfl) (by rfl) T.g_is_name (pa_cons (pv 2) pa_nil)))) (pss_one (ps_raise rfl (takes_of rfl rfl rfl rfl) (pmk_own PySem.F.excBase_ValueError T.x_BadName.1 T.g_BadName T.x_BadName.2.1 (raises_own T.x_BadName.2.2.1 T.x_BadName.2.2.2) rfl))) pss_nil))) (pss_one (ps_ret (pe_slice sl_list (pv 1) (po_some pe_int) po_none))))))), ?_⟩)
  obtain ⟨v0, rfl, h⟩ := h
  dsimp only [cxOf, L2.start]
  obtain ⟨z, rfl, hz, ke, k⟩ := h
  have hl := S_len5 hz.len
  walk_at "s"
  refine if_ss (fun e => ?_) (fun e => ?_)
  · have ez : z = [47] := SX.S_inj (e.trans (by decide +kernel))
    walk_at "s"
    intro b hb
    exact k [] (by unfold namesL; rw [if_pos ez]) _ b (Own.start.new hb)
  · have ez : z ≠ [47] := fun h => e (by rw [h]; decide +kernel)
    walk_at "s"
    refine ⟨by decide +kernel, hl, fun b hb => ?_⟩
    rw [split_pieces, List.map_map]
    have hpf := pieces_few (z := z)
    have hzl := hz.len
    refine (Own.start (H := H)).sG hb fun H1 O1 _ => ?_
    have O1 : Own H H1 [] [(b, .lst (SV (pieces z)))] := O1
    have hb1 : H1 b = some (.lst (SV (pieces z))) := O1.get (.head _)
    have hbl : (SV (pieces z)).length = (pieces z).length := List.length_map ..
    obtain ⟨p0, hp0⟩ : ∃ p0, (pieces z)[0]? = some p0 := ⟨(pieces z)[0]'(by omega), List.getElem?_eq_getElem _⟩
    have hat : atI (SV (pieces z)) 0 = some (.str (S p0)) := atI_nat (j := 0) (by rw [List.getElem?_map, hp0]; rfl)
    have hhd : (pieces z).head? = some p0 := by rw [List.head?_eq_getElem?]; exact hp0
    have hns : namesL z = if (pieces z).length < 2 ∨ (pieces z).head? ≠ some [] then none else if (pieces z).tail.all nameB then some (pieces z).tail else none := by unfold namesL; rw [if_neg ez]
    walk_at "s"
    refine cutS (fun σ' H' => σ' = [some (.str (S z)), some (.ref b), none] ∧ Own H H' [] [(b, .lst (SV (pieces z)))] ∧ 2 ≤ (pieces z).length ∧ p0 = []) (fun nx hn => ?_) ?_
    · walk_at "s"
      refine if_d (fun h2 => ?_) (fun h2 => ?_)
      · walk_at "s"
        refine if_t rfl ?_
        exact ke (by rw [hns, if_pos (.inl (by omega))]) _ (O1.drop (List.nil_sublist _))
      · walk_at "s"
        refine if_nss (fun hp => ?_) (fun hp => ?_)
        · exact ke (by rw [hns, if_pos (.inr (by rw [hhd]; exact fun q => hp (by rw [Option.some.inj q]; decide +kernel)))]) _ (O1.drop (List.nil_sublist _))
        · exact hn _ _ ⟨rfl, O1, by omega, SX.S_inj (hp.trans (by decide +kernel))⟩
    · clear O1 hb1
      rintro σ' H2 ⟨rfl, O2, h2, rfl⟩
      have hb2 : SqL K H2 b (SV (pieces z)) := SqL.of (O2.get (.head _))
      rw [if_neg (by rw [hhd]; intro q; rcases q with q | q; (· omega); exact q rfl)] at hns
      have hcut : cutV (SV (pieces z)) (some 1) none = SV (pieces z).tail := (cutV_from _ 1).trans (by rw [← List.map_drop, List.drop_one])
      have htl : ∀ q ∈ (pieces z).tail, q.length ≤ 5000 := fun q hq => (pieces_low hz (List.mem_of_mem_tail hq)).len
      walk_at "s"
      rw [hcut]
      intro c hc
      have O3 := O2.new (o := .lst (SV (pieces z).tail)) hc
      generalize upd H2 c _ = H3 at O3 ⊢
      have hc3 : SqL K H3 c (SV (pieces z).tail) := SqL.of (O3.get (.head _))
      walk_at "s"
      refine forL (xs := SV (pieces z).tail) (fun i σ H' => ∃ v2 : Option V, σ = [some (.str (S z)), some (.ref b), v2] ∧ Own H H' [] [(c, .lst (SV (pieces z).tail)), (b, .lst (SV (pieces z)))] ∧ ((pieces z).tail.take i).all nameB = true) ⟨_, rfl, O3, by rfl⟩ (fun i σ H' _ ⟨_, _, O, _⟩ => SqL.of (O.get (.head _))) ?_ ?_
      · rintro i x σ H4 hx ⟨v2, rfl, O4, ha⟩
        obtain ⟨q, hq, rfl⟩ := SV_get hx
        walk_at "s"
        refine ask1 ⟨q, rfl, htl q (List.mem_of_getElem? hq), ?_⟩
        walk_at "s"
        refine if_nb (fun hb => ?_) (fun hb => ?_)
        · refine ke ?_ _ (O4.drop (List.nil_sublist _))
          rw [hns, if_neg]
          intro hall
          rw [List.all_eq_true] at hall
          rw [hall q (List.mem_of_getElem? hq)] at hb
          cases hb
        · exact ⟨⟨_, rfl, O4, by rw [take_succ hq, List.all_append, ha]; simp [hb]⟩⟩
      · rintro σ H4 ⟨v2, rfl, O4, ha⟩
        have hb4 : SqL K H4 b (SV (pieces z)) := SqL.of (O4.get (.tail _ (.head _)))
        rw [show (SV (pieces z).tail).length = (pieces z).tail.length from List.length_map .., List.take_length] at ha
        rw [if_pos ha] at hns
        walk_at "s"
        rw [hcut]
        intro d hd
        exact k _ hns _ d ((O4.new hd).drop (.cons₂ _ (List.nil_sublist _)))
/-! ### texts by size and signs -/
structure StO (n : Nat) (z : Str) : Prop where
  len : z.length ≤ n
  low : ∀ c ∈ z.cps.toList, c < 256
theorem StO.of {z : List Nat} {n : Nat} (h : TxO z) (hn : z.length ≤ n) : StO n (S z) := ⟨by rw [SX.S_len]; exact hn, h.low⟩
theorem StO.tx {z : Str} {n : Nat} (h : StO n z) (hn : n ≤ 5000) : ∃ l, z = S l ∧ TxO l := ⟨z.cps.toList, (SX.S_tl z).symm, by have := h.len; rw [show z.length = z.cps.toList.length from (Array.length_toList ..).symm] at this; omega, h.low⟩
theorem StO.cat {a b : Str} {n m : Nat} (h : StO n a) (k : StO m b) : StO (n + m) (a ++ b) := by
  refine ⟨by rw [Str.length_append]; have := h.len; have := k.len; omega, fun c hc => ?_⟩
  rw [Str.cps_append, Array.toList_append] at hc
  rcases List.mem_append.mp hc with q | q
  · exact h.low c q
  · exact k.low c q
theorem StO.cut {a : Str} {n : Nat} (h : StO n a) (lo hi : Option Int) : StO n (L2.cutS a lo hi) := by
  unfold L2.cutS
  refine ⟨?_, fun c hc => h.low c (List.mem_of_mem_drop (List.mem_of_mem_take hc))⟩
  show (List.toArray _).size ≤ n
  rw [List.size_toArray, List.length_take, List.length_drop, Array.length_toList]
  have := h.len
  have e : a.length = a.cps.size := rfl
  omega
theorem StO.rep {a : Str} {n : Nat} (h : StO n a) (k : Int) : StO (k.toNat * n) (repS a k) := by
  unfold repS
  refine ⟨?_, fun c hc => ?_⟩
  · show (List.toArray _).size ≤ _
    rw [List.size_toArray, List.length_flatten, List.map_replicate, List.sum_replicate_nat, Array.length_toList]
    exact Nat.mul_le_mul_left _ h.len
  · obtain ⟨l, hl, hc⟩ := List.mem_flatten.mp hc
    rw [List.eq_of_mem_replicate hl] at hc
    exact h.low c hc
theorem StO.lit (z : Str) (n : Nat) (h : (decide (z.length ≤ n) && z.cps.toList.all fun c => decide (c < 256)) = true) : StO n z := by
  rw [Bool.and_eq_true] at h
  exact ⟨of_decide_eq_true h.1, fun c hc => of_decide_eq_true (List.all_eq_true.mp h.2 c hc)⟩
theorem StO.fit {a b : Str} {n m : Nat} (h : StO n a) (k : StO m b) (hn : n + m ≤ 100000) : a.length + b.length ≤ sizeLine := sz_le (by have := h.len; have := k.len; omega)
theorem StO.mono {a : Str} {n m : Nat} (h : StO n a) (hn : n ≤ m) : StO m a := ⟨Nat.le_trans h.len hn, h.low⟩
theorem ok_strs {ns : List (List Nat)} (h : ∀ n ∈ ns, TxO n) : (ns.map S).all PyData.strOk = true := by
  rw [List.all_map, List.all_eq_true]
  intro n hn
  show (Array.all _ _) = true
  rw [← Array.all_toList]
  exact List.all_eq_true.mpr fun c hc => decide_eq_true (Nat.lt_trans ((h n hn).low c hc) (by decide))
theorem SV_map (ns : List (List Nat)) : SV ns = (ns.map S).map V.str := by simp [SV, Function.comp_def]
theorem namesL_low {z : List Nat} {ns : List (List Nat)} (hz : TxO z) (h : namesL z = some ns) : (∀ n ∈ ns, TxO n) ∧ ns.length ≤ 5001 := by
  unfold namesL at h
  split at h
  · cases h; exact ⟨nofun, by decide⟩
  · split at h
    · cases h
    · split at h
      · cases h
        have := (pieces_few (z := z)).1
        have h2 := hz.len
        exact ⟨fun n hn => pieces_low hz (List.mem_of_mem_tail hn), by rw [List.length_tail]; omega⟩
      · cases h
section
variable {K : PySem.W.Frag} {H : Hp} {a b : Addr} {Q : VK}
theorem eq_SV {ns ms : List (List Nat)} (h1 : ∀ n ∈ ns, TxO n) (h2 : ∀ n ∈ ms, TxO n) (ha : H a = some (.lst (SV ns))) (hb : H b = some (.lst (SV ms))) (k : Q (.bl (decide (ns.map S = ms.map S))) H) : rEqD K (.ref a) (.ref b) H Q :=
  eq_strs (ok_strs h1) (ok_strs h2) (by rw [← SV_map]; exact ha) (by rw [← SV_map]; exact hb) k
theorem ne_SV {ns ms : List (List Nat)} (h1 : ∀ n ∈ ns, TxO n) (h2 : ∀ n ∈ ms, TxO n) (ha : H a = some (.lst (SV ns))) (hb : H b = some (.lst (SV ms))) (k : Q (.bl (!decide (ns.map S = ms.map S))) H) : rNeD K (.ref a) (.ref b) H Q := by
  rw [SV_map] at ha hb
  exact ⟨_, _, .lst (SqL.of ha) (dpa_strs _), .lst (SqL.of hb) (dpa_strs _), sh_strs _ (ok_strs h1), sh_strs _ (ok_strs h2), by rw [show PyData.eqv (.list ((ns.map S).map PyData.str)) (.list ((ms.map S).map PyData.str)) = decide (ns.map S = ms.map S) from dist_strs _ _]; exact k⟩
theorem eq_word {x y : Str} (hx : PyData.strOk x = true) (hy : PyData.strOk y = true) (k : Q (.bl (decide (x = y))) H) : rEqD K (.str x) (.str y) H Q := by
  refine ⟨.str x, .str y, .str x, .str y, ?_, ?_, ?_⟩
  · show (PyData.canLay0 _ && decide (PyData.depth _ ≤ 64)) = true
    simp [PyData.canLay0, PyData.depth, hx]
  · show (PyData.canLay0 _ && decide (PyData.depth _ ≤ 64)) = true
    simp [PyData.canLay0, PyData.depth, hy]
  · have e : PyData.eqv (.str x) (.str y) = decide (x = y) := by
      show (x == y) = _
      by_cases h : x = y
      · subst h; simp
      · rw [decide_eq_false h]; simp [h]
    rw [e]; exact k
end
theorem StO.lits {xs : List Str} {n : Nat} (h : (xs.all fun z => decide (z.length ≤ n) && z.cps.toList.all fun c => decide (c < 256)) = true) : ∀ z ∈ xs, StO n z := fun z hz => StO.lit z n (List.all_eq_true.mp h z hz)
theorem pick_str {xs : List Str} {u : Int} {n : Nat} (h0 : 0 ≤ u) (h1 : u < (xs.length : Nat)) (h : ∀ z ∈ xs, StO n z) : ∃ z, atI (xs.map V.str) u = some (.str z) ∧ StO n z := by
  obtain ⟨k, rfl⟩ : ∃ k : Nat, u = k := ⟨u.toNat, by omega⟩
  have hk : k < xs.length := by omega
  exact ⟨xs[k], atI_nat (by rw [List.getElem?_map, List.getElem?_eq_getElem hk]; rfl), h _ (List.getElem_mem hk)⟩

/-! ## law k30 -/
open SX (S)
def sp__law_state (K : PySem.W.Frag) : Sp := sp3 fun x y z H Q _ => ∃ (a : Addr) (xs : List Int) (c j : Int), x = .ref a ∧ y = .int c ∧ z = .int j ∧ SqL K H a (xs.map V.int) ∧ 0 ≤ j ∧ j ≤ 100 ∧ ∀ H' s (v : Int), Own H H' [] [(s, .lst [.int v])] → 0 ≤ v → Q (.ref s) H'
def sp__law_next (K : PySem.W.Frag) : Sp := sp2 fun x y H Q _ => ∃ (s : Addr) (v n : Int), x = .ref s ∧ y = .int n ∧ 0 ≤ v ∧ 0 < n ∧ n ≤ 100000 ∧ Own H H [s] [(s, .lst [.int v])] ∧ ∀ H' (r v' : Int), Own H H' [s] [(s, .lst [.int v'])] → 0 ≤ v' → 0 ≤ r → r < n → Q (.int r) H'
/-- a name of the law's making -/
structure NmO (z : List Nat) : Prop where
  lo : 1 ≤ z.length
  hi : z.length ≤ 6
  low : ∀ c ∈ z, c < 256
theorem small_in (y : Nat) : decide (y ∈ ("abcdefghijklmnopqrstuvwxyz" : Str).cps.toList) = smallL.contains y := by
  rw [small_eq]
  show decide (y ∈ smallL) = _
  rw [List.contains_eq_mem]
theorem letter_at {u : Int} (h0 : 0 ≤ u) (h1 : u < 26) : ∃ c, atI ("abcdefghijklmnopqrstuvwxyz" : Str).cps.toList u = some c ∧ c < 256 := by
  obtain ⟨n, rfl⟩ : ∃ n : Nat, u = n := ⟨u.toNat, by omega⟩
  have hn : n < smallL.length := by show n < 26; omega
  have hall : ∀ c ∈ smallL, c < 256 := by decide
  refine ⟨smallL[n], ?_, hall _ (List.getElem_mem hn)⟩
  rw [small_eq]
  exact atI_nat (xs := smallL) (List.getElem?_eq_getElem hn)
theorem join_ones : ∀ cs : List Nat, TL.joinL [] (cs.map fun c => [c]) = cs
  | [] => rfl
  | [c] => rfl
  | c :: d :: r => by
    have ih := join_ones (d :: r)
    show [c] ++ ([] ++ TL.joinL [] ((d :: r).map fun c => [c])) = _
    rw [ih]; rfl
theorem len_ones (cs : List Nat) : ((cs.map fun c => S [c]).map (·.length)).sum = cs.length := by
  induction cs with
  | nil => rfl
  | cons c r ih => rw [List.map_cons, List.map_cons, List.sum_cons, ih, List.length_cons, SX.S_len, List.length_singleton]; omega
def sp__law_name (K : PySem.W.Frag) : Sp := sp1 fun x H Q _ => ∃ (s : Addr) (v : Int), x = .ref s ∧ 0 ≤ v ∧ Own H H [s] [(s, .lst [.int v])] ∧ ∀ H' (v' : Int) z, Own H H' [s] [(s, .lst [.int v'])] → 0 ≤ v' → NmO z → Q (.str (S z)) H'
def sp__law_due (K : PySem.W.Frag) : Sp := sp1 fun x H Q _ => ∃ z, x = .str (S z) ∧ TxO z ∧ (namesL z = none → ∀ H', Own H H' [] [] → Q .non H') ∧ (∀ ns, namesL z = some ns → ∀ H' b, Own H H' [] [(b, .lst (SV ns))] → Q (.ref b) H')
theorem sc__law_state : FnScope ["_law_script", "_law_cell", "_law_k", "_law_one", "_law_other"] ["_law_script", "_law_cell", "_law_k"] (defScope s__law_state) := ⟨rfl, rfl, rfl, by decide +kernel, rfl, by decide +kernel, by decide +kernel⟩
theorem ok__law_state {P : Program} {w : World} {K : PySem.W.Frag} {mg : Str → Option Value} {base : Heap} (T : Txt K mg) : Cee P w K mg base 1 (He.fAd K ("_law_state", none)) ["_law_script", "_law_cell", "_law_k"] (sp__law_state K) := by
  refine cee_of T.d__law_state sc__law_state (fun _ _ _ _ _ _ us hl => match us, hl with | [_, _, _], _ => rfl) (fun vs H Q E h => sp3_len h) (fun cdv A outer s H vs Q E hr h => ⟨_, (pss_cons (ps_if (pt_cmpR op_eq (pe_op op_mod (pe_callB call_len_seq (by rfl) T.n_len (by decide +kernel) (pa_cons (pv 0) pa_nil)) pe_int) pe_int (nomark _)) (pss_one (ps_ret (pe_lst (pa_cons (pe_op op_mod (pv 1) (pe_op op_pow pe_int pe_int)) pa_nil)))) pss_nil) (pss_cons (ps_set (i := 3) sc__law_state.nd rfl (Or.inl rfl) (pe_op op_mod (pe_op op_mul (pe_op op_add (pe_op op_add (pe_op op_mod (pv 1) pe_int) (pe_op op_mul pe_int (pv 2))) pe_int) pe_int) pe_int)) (pss_cons (ps_set (i := 4) sc__law_state.nd rfl (Or.inl rfl) (pe_op op_mod (pe_op op_mul (pv 3) (pv 3)) pe_int)) (pss_one (ps_ret (pe_lst (pa_cons (pe_op op_add (pe_op op_mul (pv 4) pe_int) (pe_op op_mod (pe_op op_mul (pe_op op_add (pv 4) pe_int) pe_int) pe_int)) pa_nil))))))), ?_⟩)
  obtain ⟨v0, v1, v2, rfl, h⟩ := h
  dsimp only [cxOf, L2.start]
  obtain ⟨a, xs, c, j, rfl, rfl, rfl, ha, j0, j1, k⟩ := h
  walk_at "s"
  refine if_ii (fun h => ?_) (fun h => ?_)
  · walk_at "s"
    intro s hs
    exact k _ s _ (Own.start.new hs) (Int.emod_nonneg _ (by decide))
  · walk_at "s"
    intro s hs
    refine k _ s _ (Own.start.new hs) ?_
    have h1 : 0 ≤ ((c % 2147483647 + 7919 * j + 1) * 48271 % 2147483647) * ((c % 2147483647 + 7919 * j + 1) * 48271 % 2147483647) % 1999999973 := Int.emod_nonneg _ (by decide)
    show 0 ≤ (((c % 2147483647 + 7919 * j + 1) * 48271 % 2147483647) * ((c % 2147483647 + 7919 * j + 1) * 48271 % 2147483647) % 1999999973) * 2147483647 + (((c % 2147483647 + 7919 * j + 1) * 48271 % 2147483647) * ((c % 2147483647 + 7919 * j + 1) * 48271 % 2147483647) % 1999999973 + 5) * 69621 % 2147483629
    generalize ((c % 2147483647 + 7919 * j + 1) * 48271 % 2147483647) * ((c % 2147483647 + 7919 * j + 1) * 48271 % 2147483647) % 1999999973 = u at h1 ⊢
    omega
theorem sc__law_next : FnScope ["_law_state_here", "_law_many", "_law_value"] ["_law_state_here", "_law_many"] (defScope s__law_next) := ⟨rfl, rfl, rfl, by decide +kernel, rfl, by decide +kernel, by decide +kernel⟩
theorem ok__law_next {P : Program} {w : World} {K : PySem.W.Frag} {mg : Str → Option Value} {base : Heap} (T : Txt K mg) : Cee P w K mg base 1 (He.fAd K ("_law_next", none)) ["_law_state_here", "_law_many"] (sp__law_next K) := by
  refine cee_of T.d__law_next sc__law_next (fun _ _ _ _ _ _ us hl => match us, hl with | [_, _], _ => rfl) (fun vs H Q E h => sp2_len h) (fun cdv A outer s H vs Q E hr h => ⟨_, (pss_cons (ps_set (i := 2) sc__law_next.nd rfl (Or.inl rfl) (pe_op op_mod (pe_ix ix_list (pv 0) pe_int (fun _ _ => rfl)) (pv 1))) (pss_cons (ps_asg (pe_op op_fdiv (pe_ix ix_list (pv 0) pe_int (fun _ _ => rfl)) (pv 1)) (pg_sub (pv 0) pe_int set_list)) (pss_one (ps_ret (pv 2))))), ?_⟩)
  obtain ⟨v0, v1, rfl, h⟩ := h
  dsimp only [cxOf, L2.start]
  obtain ⟨s, v, n, rfl, rfl, v0, n0, n1, O, k⟩ := h
  have hs := O.get (.head _)
  have hd : 0 < n ∧ n < 1073741824 := ⟨n0, by omega⟩
  walk_at "s"
  exact k _ _ _ (O.wr .here) (Int.ediv_nonneg v0 (by omega)) (Int.emod_nonneg _ (by omega)) (Int.emod_lt_of_pos _ n0)
theorem sc__law_name : FnScope ["_law_state_here", "_law_letters", "_law_size", "_law_begin", "_law_step", "_law_k"] ["_law_state_here"] (defScope s__law_name) := ⟨rfl, rfl, rfl, by decide +kernel, rfl, by decide +kernel, by decide +kernel⟩
theorem ok__law_name {P : Program} {w : World} {K : PySem.W.Frag} {mg : Str → Option Value} {base : Heap} (T : Txt K mg) : Cee P w K mg base 2 (He.fAd K ("_law_name", none)) ["_law_state_here"] (sp__law_name K) := by
  have c__law_next : Cee P w K mg base 1 (He.fAd K ("_law_next", none)) ["_law_state_here", "_law_many"] (sp__law_next K) := ok__law_next T
  refine cee_of T.d__law_name sc__law_name (fun _ _ _ _ _ _ us hl => match us, hl with | [_], _ => rfl) (fun vs H Q E h => sp1_len h) (fun cdv A outer s H vs Q E hr h => ⟨_, (pss_cons (ps_set (i := 1) sc__law_name.nd rfl (Or.inr rfl) pe_str) (pss_cons (ps_set (i := 2) sc__law_name.nd rfl (Or.inl rfl) (pe_op op_add pe_int (pe_f c__law_next (hr.mono (by decide)) (takes_of rfl rfl rfl rfl) (by rfl) T.g__law_next (pa_cons (pv 0) (pa_cons pe_int pa_nil))))) (pss_cons (ps_set (i := 3) sc__law_name.nd rfl (Or.inr rfl) (pe_f c__law_next (hr.mono (by decide)) (takes_of rfl rfl rfl rfl) (by rfl) T.g__law_next (pa_cons (pv 0) (pa_cons pe_int pa_nil)))) (pss_cons (ps_set (i := 4) sc__law_name.nd rfl (Or.inr rfl) (pe_f c__law_next (hr.mono (by decide)) (takes_of rfl rfl rfl rfl) (by rfl) T.g__law_next (pa_cons (pv 0) (pa_cons pe_int pa_nil)))) (pss_one (ps_ret (pe_join pe_str (pe_lc (own := [("_law_k", 5)]) (by rfl) sc__law_name.nd (PI.box (pi_range1 (by rfl) T.n_range (pa_cons (pv 2) pa_nil))) (blkOk_by (own := [("_law_k", 5)]) (N := ["_law_state_here", "_law_letters", "_law_size", "_law_begin", "_law_step", "_law_k"]) (sc := defScope s__law_name) (by decide +kernel)) (fun _ _ _ _ _ => (pg_name (i := 5) sc__law_name.nd rfl (Or.inl rfl))) (fun _ _ _ _ _ => pts_nil) (fun _ _ _ _ _ => (pe_ix ix_str (pv 1) (pe_op op_mod (pe_op op_add (pv 3) (pe_op op_mul (pv 4) (pv 5))) pe_int) (fun _ _ => rfl))))))))))), ?_⟩)
  obtain ⟨v0, rfl, h⟩ := h
  dsimp only [cxOf, L2.start]
  obtain ⟨s, v, rfl, v0, O, k⟩ := h
  walk_at "s"
  refine ask2 ⟨s, v, 6, rfl, rfl, v0, by decide, by decide, O, fun H1 r1 v1 O1 w1 a1 b1 => ?_⟩
  walk_at "s"
  refine ask2 ⟨s, v1, 26, rfl, rfl, w1, by decide, by decide, O1.self, fun H2 r2 v2 O2 w2 a2 b2 => ?_⟩
  have O3 := O1.call .all O2
  walk_at "s"
  refine ask2 ⟨s, v2, 3, rfl, rfl, w2, by decide, by decide, O3.self, fun H3 r3 v3 O4 w3 a3 b3 => ?_⟩
  have O5 := O3.call .all O4
  clear O1 O2 O3 O4
  walk_at "s"
  refine lcR (lo := 0) (n := (1 + r1).toNat) (fun D i H' => ∃ cs : List Nat, Own H H' [s] [(D, .lst (SV (cs.map fun c => [c]))), (s, .lst [.int v3])] ∧ cs.length = i ∧ ∀ c ∈ cs, c < 256) ?_ ?_ ?_
  · intro D hD
    exact ⟨[], O5.new hD, rfl, nofun⟩
  · rintro D i H' hi ⟨cs, O6, hcl, hcs⟩
    have hD6 := O6.get (.head _)
    have hll : (SV (cs.map fun c => [c])).length < 100000 := by rw [List.length_map, List.length_map]; omega
    obtain ⟨ch, hch, hc2⟩ := letter_at (u := (r2 + r3 * (0 + (i : Int))) % 26) (Int.emod_nonneg _ (by decide)) (Int.emod_lt_of_pos _ (by decide))
    have O6 := Box.mk O6
    walk_at "clo"
    walk_at "s"
    refine ⟨⟨cs ++ [ch], ?_, by rw [List.length_append, hcl]; rfl, fun c hc => ?_⟩⟩
    · rw [show SV ((cs ++ [ch]).map fun c => [c]) = SV (cs.map fun c => [c]) ++ [V.str (S [ch])] by simp [SV]]
      exact O6.out.wr .here
    · rcases List.mem_append.mp hc with h | h
      · exact hcs c h
      · rw [List.mem_singleton.mp h]; exact hc2
  · rintro D H' ⟨cs, O6, hcl, hcs⟩
    have hD6 : SqL K H' D ((cs.map fun c => S [c]).map V.str) := SqL.of (by
      rw [show (cs.map fun c => S [c]).map V.str = SV (cs.map fun c => [c]) by simp [SV, Function.comp_def]]
      exact O6.get (.head _))
    walk_at "s"
    refine ⟨_, rfl, rfl, .inl hD6, ?_, ?_⟩
    · rw [len_ones, show ("" : Str).length = 0 from by decide +kernel]
      omega
    · rw [show ("" : Str) = S [] from by decide +kernel, show (cs.map fun c => S [c]) = (cs.map fun c => [c]).map S by (rw [List.map_map]; rfl), SX.join_S, join_ones]
      exact k _ _ cs (O6.drop (.cons _ (.refl _))) w3 ⟨by omega, by omega, hcs⟩
theorem sc__law_due : FnScope ["_law_path", "_law_pieces", "_law_piece", "_law_sign"] ["_law_path"] (defScope s__law_due) := ⟨rfl, rfl, rfl, by decide +kernel, rfl, by decide +kernel, by decide +kernel⟩
theorem ok__law_due {P : Program} {w : World} {K : PySem.W.Frag} {mg : Str → Option Value} {base : Heap} (T : Txt K mg) : Cee P w K mg base 1 (He.fAd K ("_law_due", none)) ["_law_path"] (sp__law_due K) := by
  refine cee_of T.d__law_due sc__law_due (fun _ _ _ _ _ _ us hl => match us, hl with | [_], _ => rfl) (fun vs H Q E h => sp1_len h) (fun cdv A outer s H vs Q E hr h => ⟨_, (pss_cons (ps_if (pt_cmpR op_eq (pv 0) pe_str (nomark _)) (pss_one (ps_ret (pe_lst pa_nil))) pss_nil) (pss_cons (ps_set (i := 1) sc__law_due.nd rfl (Or.inl rfl) (pe_split (pv 0) pe_str)) (pss_cons (PS.box (ps_if (PW.pt (pw_or (pt_cmpR op_lt (pe_callB call_len_seq (by rfl) T.n_len (by decide +kernel) (pa_cons (pv 1) pa_nil)) pe_int (nomark _)) (pw_or1 (pt_cmpR op_ne (pe_ix ix_list (pv 1) pe_int (fun _ _ => rfl)) pe_str (nomark _))))) (pss_one (ps_ret pe_non)) pss_nil)) (pss_cons (ps_for (passes_of rfl) rfl (PI.box (pi_list (pe_slice sl_list (pv 1) (po_some pe_int) po_none))) (pg_name (i := 2) sc__law_due.nd rfl (Or.inl rfl)) (pss_cons (ps_if (pt_cmpR op_notIn_rng (pe_callB call_len_str (by rfl) T.n_len (by decide +kernel) (pa_cons (pv 2) pa_nil)) (pe_callTy cr_range2 (by rfl) T.n_range (by decide +kernel) (pa_cons pe_int (pa_cons pe_int pa_nil))) (by with_unfolding_all rfl)) (pss_one (ps_ret pe_non)) pss_nil) (pss_one (ps_if (pt_not (pt_val (pe_callB (cr_all rfl) (by rfl) T.n_all (by decide +kernel) (pa_cons (pe_lc (own := [("_law_sign", 3)]) (by rfl) sc__law_due.nd (PI.box (pi_str (pv 2))) (blkOk_by (own := [("_law_sign", 3)]) (N := ["_law_path", "_law_pieces", "_law_piece", "_law_sign"]) (sc := defScope s__law_due) (by decide +kernel)) (fun _ _ _ _ _ => (pg_name (i := 3) sc__law_due.nd rfl (Or.inl rfl))) (fun _ _ _ _ _ => pts_nil) (fun _ _ _ _ _ => (pe_cmpR op_in_sign (pv 3) pe_str (by with_unfolding_all rfl)))) pa_nil)))) (pss_one (ps_ret pe_non)) pss_nil)))) (pss_one (ps_ret (pe_slice sl_list (pv 1) (po_some pe_int) po_none))))))), ?_⟩)
  obtain ⟨v0, rfl, h⟩ := h
  dsimp only [cxOf, L2.start]
  obtain ⟨z, rfl, hz, ke, k⟩ := h
  have hl := S_len5 hz.len
  walk_at "s"
  refine if_ss (fun e => ?_) (fun e => ?_)
  · have ez : z = [47] := SX.S_inj (e.trans (by decide +kernel))
    walk_at "s"
    intro b hb
    exact k [] (by unfold namesL; rw [if_pos ez]) _ b (Own.start.new hb)
  · have ez : z ≠ [47] := fun h => e (by rw [h]; decide +kernel)
    walk_at "s"
    refine ⟨by decide +kernel, hl, fun b hb => ?_⟩
    rw [split_pieces, List.map_map]
    have hpf := pieces_few (z := z)
    have hzl := hz.len
    refine (Own.start (H := H)).sG hb fun H1 O1 _ => ?_
    have O1 : Own H H1 [] [(b, .lst (SV (pieces z)))] := O1
    have hb1 : H1 b = some (.lst (SV (pieces z))) := O1.get (.head _)
    have hbl : (SV (pieces z)).length = (pieces z).length := List.length_map ..
    obtain ⟨p0, hp0⟩ : ∃ p0, (pieces z)[0]? = some p0 := ⟨(pieces z)[0]'(by omega), List.getElem?_eq_getElem _⟩
    have hat : atI (SV (pieces z)) 0 = some (.str (S p0)) := atI_nat (j := 0) (by rw [List.getElem?_map, hp0]; rfl)
    have hhd : (pieces z).head? = some p0 := by rw [List.head?_eq_getElem?]; exact hp0
    have hns : namesL z = if (pieces z).length < 2 ∨ (pieces z).head? ≠ some [] then none else if (pieces z).tail.all nameB then some (pieces z).tail else none := by unfold namesL; rw [if_neg ez]
    walk_at "s"
    refine cutS (fun σ' H' => ∃ v2 v3 : Option V, σ' = [some (.str (S z)), some (.ref b), v2, v3] ∧ Own H H' [] [(b, .lst (SV (pieces z)))] ∧ 2 ≤ (pieces z).length ∧ p0 = []) (fun nx hn => ?_) ?_
    · walk_at "s"
      refine if_d (fun h2 => ?_) (fun h2 => ?_)
      · walk_at "s"
        refine if_t rfl ?_
        exact ke (by rw [hns, if_pos (.inl (by omega))]) _ (O1.drop (List.nil_sublist _))
      · walk_at "s"
        refine if_nss (fun hp => ?_) (fun hp => ?_)
        · exact ke (by rw [hns, if_pos (.inr (by rw [hhd]; exact fun q => hp (by rw [Option.some.inj q]; decide +kernel)))]) _ (O1.drop (List.nil_sublist _))
        · exact hn _ _ ⟨_, _, rfl, O1, by omega, SX.S_inj (hp.trans (by decide +kernel))⟩
    · clear O1 hb1
      rintro σ' H2 ⟨v2, v3, rfl, O2, h2, rfl⟩
      have hb2 : SqL K H2 b (SV (pieces z)) := SqL.of (O2.get (.head _))
      rw [if_neg (by rw [hhd]; intro q; rcases q with q | q; (· omega); exact q rfl)] at hns
      have hcut : cutV (SV (pieces z)) (some 1) none = SV (pieces z).tail := (cutV_from _ 1).trans (by rw [← List.map_drop, List.drop_one])
      have htl : ∀ q ∈ (pieces z).tail, q.length ≤ 5000 := fun q hq => (pieces_low hz (List.mem_of_mem_tail hq)).len
      walk_at "s"
      rw [hcut]
      intro c hc
      have O3 := O2.new (o := .lst (SV (pieces z).tail)) hc
      generalize upd H2 c _ = H3 at O3 ⊢
      have hc3 : SqL K H3 c (SV (pieces z).tail) := SqL.of (O3.get (.head _))
      walk_at "s"
      refine forL (xs := SV (pieces z).tail) (fun i σ H' => ∃ v2 v3 : Option V, σ = [some (.str (S z)), some (.ref b), v2, v3] ∧ Own H H' [] [(c, .lst (SV (pieces z).tail)), (b, .lst (SV (pieces z)))] ∧ ((pieces z).tail.take i).all nameB = true) ⟨_, _, rfl, O3, by rfl⟩ (fun i σ H' _ ⟨_, _, _, O, _⟩ => SqL.of (O.get (.head _))) ?_ ?_
      · rintro i x σ H4 hx ⟨v2, v3, rfl, O4, ha⟩
        obtain ⟨q, hq, rfl⟩ := SV_get hx
        have hql := htl q (List.mem_of_getElem? hq)
        have hlen := SX.S_len q
        walk_at "s"
        intro rg hrg
        walk_at "s"
        refine if_nd (fun hx => ?_) (fun hx => ?_)
        · walk_at "s"
          refine ke ?_ _ ((O4.new hrg).drop (List.nil_sublist _))
          rw [hns, if_neg]
          intro hall
          rw [List.all_eq_true] at hall
          have := hall q (List.mem_of_getElem? hq)
          unfold nameB at this
          rw [Bool.and_eq_true, Bool.and_eq_true, decide_eq_true_iff, decide_eq_true_iff] at this
          exact hx ⟨by omega, by omega⟩
        · walk_at "s"
          have O5 := (O4.new (o := .rng 1 7) hrg).drop (cs' := [(c, .lst (SV (pieces z).tail)), (b, .lst (SV (pieces z)))]) (.cons _ (.refl _))
          generalize upd H4 rg _ = H5 at O5 ⊢
          clear O4
          refine lcW walk_str (fun D i H' => Own H H' [] [(D, .lst ((q.take i).map fun x => V.bl (smallL.contains x))), (c, .lst (SV (pieces z).tail)), (b, .lst (SV (pieces z)))]) ?_ ?_ ?_ ?_
          · intro D hD
            exact O5.new hD
          · exact fun _ _ _ _ _ => True.intro
          · rintro D i x H6 H7 hi O6 ⟨rfl, y, hy, rfl⟩
            have hD6 := O6.get (.head _)
            have hy2 : q[i]? = some y := by rw [← hy]; simp
            have hll : ((q.take i).map fun x => V.bl (smallL.contains x)).length < 100000 := by rw [List.length_map, List.length_take]; omega
            have O6 := Box.mk O6
            walk_at "clo"
            walk_at "s"
            rw [small_in, take_succ hy2, List.map_append]
            exact ⟨O6.out.wr .here⟩
          · intro D H6 O6
            have hD6 : SqL K H6 D ((q.map fun x => smallL.contains x).map V.bl) := SqL.of (by
              rw [List.map_map]
              have := O6.get (.head _)
              rwa [show (S q).cps.size = q.length from by simp, List.take_length] at this)
            walk_at "s"
            refine if_nb (fun hx2 => ?_) (fun hx2 => ?_)
            · walk_at "s"
              refine ke ?_ _ (O6.drop (List.nil_sublist _))
              rw [hns, if_neg]
              intro hall
              rw [List.all_eq_true] at hall
              have := hall q (List.mem_of_getElem? hq)
              unfold nameB at this
              rw [Bool.and_eq_true, Bool.and_eq_true] at this
              rw [List.all_map] at hx2
              rw [show (id ∘ fun x => smallL.contains x) = fun x => smallL.contains x from rfl, this.2.2] at hx2
              cases hx2
            · refine ⟨⟨_, _, rfl, O6.drop (.cons _ (.refl _)), ?_⟩⟩
              rw [List.all_map] at hx2
              have hx2 : (q.all fun x => smallL.contains x) = true := hx2
              rw [take_succ hq, List.all_append, ha]
              have : nameB q = true := by
                unfold nameB
                rw [hx2, decide_eq_true (by omega), decide_eq_true (by omega)]
                rfl
              simp [this]
      · rintro σ H4 ⟨v2, v3, rfl, O4, ha⟩
        have hb4 : SqL K H4 b (SV (pieces z)) := SqL.of (O4.get (.tail _ (.head _)))
        rw [show (SV (pieces z).tail).length = (pieces z).tail.length from List.length_map .., List.take_length] at ha
        rw [if_pos ha] at hns
        walk_at "s"
        rw [hcut]
        intro d hd
        exact k _ hns _ d ((O4.new hd).drop (.cons₂ _ (List.nil_sublist _)))

/-- names of the law's making, joined -/
theorem joinL_len : ∀ ns : List (List Nat), (∀ n ∈ ns, NmO n) → (TL.joinL [47] ns).length ≤ 7 * ns.length ∧ ∀ c ∈ TL.joinL [47] ns, c < 256
  | [], _ => ⟨by simp [TL.joinL], nofun⟩
  | [n], h => ⟨by have := (h n (.head _)).hi; simp only [TL.joinL, List.length_cons, List.length_nil]; omega, (h n (.head _)).low⟩
  | n :: m :: r, h => by
    obtain ⟨h1, h2⟩ := joinL_len (m :: r) fun x hx => h x (.tail _ hx)
    have h3 := h n (.head _)
    have h4 := h3.hi
    have e : TL.joinL [47] (n :: m :: r) = n ++ ([47] ++ TL.joinL [47] (m :: r)) := rfl
    rw [e]
    refine ⟨by rw [List.length_append, List.length_append]; simp only [List.length_cons, List.length_nil] at h1 ⊢; omega, fun c hc => ?_⟩
    rcases List.mem_append.mp hc with q | q
    · exact h3.low c q
    · rcases List.mem_append.mp q with q | q
      · rw [List.mem_singleton.mp q]; decide
      · exact h2 c q
theorem join_few {ns : List (List Nat)} (hl : ns.length ≤ 2000) (h : ∀ n ∈ ns, NmO n) : ((ns.map S).map (·.length)).sum + (ns.map S).length * ("/" : Str).length ≤ 16777216 := by
  have h1 : ∀ l : List (List Nat), (∀ n ∈ l, NmO n) → ((l.map S).map (·.length)).sum ≤ 6 * l.length := by
    intro l
    induction l with
    | nil => intro _; exact Nat.le_refl _
    | cons n l ih =>
      intro h
      have h2 := ih fun x hx => h x (.tail _ hx)
      have h3 := (h n (.head _)).hi
      rw [List.map_cons, List.map_cons, List.sum_cons, SX.S_len, List.length_cons]
      omega
  have h2 := h1 ns h
  rw [show ("/" : Str).length = 1 from by decide +kernel, List.length_map]
  omega
theorem get_bool {bs : List Bool} {i : Nat} {x : V} (h : (bs.map V.bl)[i]? = some x) : ∃ b, bs[i]? = some b ∧ x = .bl b := by
  rw [List.getElem?_map] at h
  cases e : bs[i]? with
  | none => rw [e] at h; cases h
  | some b => rw [e] at h; exact ⟨b, rfl, (Option.some.inj h).symm⟩
def sp__law_odd (K : PySem.W.Frag) : Sp := sp2 fun x y H Q _ => ∃ (s a : Addr) (v : Int) (ns : List (List Nat)), x = .ref s ∧ y = .ref a ∧ 0 ≤ v ∧ ns ≠ [] ∧ ns.length ≤ 20 ∧ (∀ n ∈ ns, NmO n) ∧ Own H H [s, a] [(s, .lst [.int v]), (a, .lst (SV ns))] ∧ ∀ H' (v' : Int) z, Own H H' [s, a] [(s, .lst [.int v']), (a, .lst (SV ns))] → 0 ≤ v' → TxO z → Q (.str (S z)) H'
def sp__law_word (K : PySem.W.Frag) : Sp := sp1 fun x H Q _ => ∃ ea, x = .ref ea ∧ H ea = some (CxO (.ref (He.ga K "BadName")) none ea) ∧ ∀ H', Own H H' [] [] → Q (.str "BadName") H'
def sp__law_told (K : PySem.W.Frag) : Sp := sp1 fun x H Q _ => ∃ z, x = .str (S z) ∧ TxO z ∧ (namesL z = none → ∀ H', Own H H' [] [] → Q (.str "BadName") H') ∧ (∀ ns, namesL z = some ns → ∀ H' b, Own H H' [] [(b, .lst (SV ns))] → Q (.ref b) H')
def sp__law_right (K : PySem.W.Frag) : Sp := sp1 fun x H Q _ => ∃ z, x = .str (S z) ∧ TxO z ∧ ∀ H', Own H H' [] [] → Q (.bl true) H'
theorem sc__law_odd : FnScope ["_law_state_here", "_law_names", "_law_path", "_law_at", "_law_sign", "_law_some"] ["_law_state_here", "_law_names"] (defScope s__law_odd) := ⟨rfl, rfl, rfl, by decide +kernel, rfl, by decide +kernel, by decide +kernel⟩
theorem ok__law_odd {P : Program} {w : World} {K : PySem.W.Frag} {mg : Str → Option Value} {base : Heap} (T : Txt K mg) : Cee P w K mg base 2 (He.fAd K ("_law_odd", none)) ["_law_state_here", "_law_names"] (sp__law_odd K) := by
  have c__law_next : Cee P w K mg base 1 (He.fAd K ("_law_next", none)) ["_law_state_here", "_law_many"] (sp__law_next K) := ok__law_next T
  refine cee_of T.d__law_odd sc__law_odd (fun _ _ _ _ _ _ us hl => match us, hl with | [_, _], _ => rfl) (fun vs H Q E h => sp2_len h) (fun cdv A outer s H vs Q E hr h => ⟨_, (pss_cons (ps_set (i := 2) sc__law_odd.nd rfl (Or.inl rfl) (pe_op op_add_str pe_str (pe_join pe_str (pv 1)))) (pss_cons (ps_set (i := 3) sc__law_odd.nd rfl (Or.inl rfl) (pe_f c__law_next (hr.mono (by decide)) (takes_of rfl rfl rfl rfl) (by rfl) T.g__law_next (pa_cons (pv 0) (pa_cons (pe_op op_add (pe_callB call_len_str (by rfl) T.n_len (by decide +kernel) (pa_cons (pv 2) pa_nil)) pe_int) pa_nil)))) (pss_cons (ps_set (i := 4) sc__law_odd.nd rfl (Or.inl rfl) (pe_ix ix_list (pe_lst (pa_cons pe_str (pa_cons pe_str (pa_cons pe_str (pa_cons pe_str (pa_cons pe_str (pa_cons pe_str (pa_cons pe_str (pa_cons pe_str (pa_cons pe_str pa_nil)))))))))) (pe_f c__law_next (hr.mono (by decide)) (takes_of rfl rfl rfl rfl) (by rfl) T.g__law_next (pa_cons (pv 0) (pa_cons pe_int pa_nil))) (fun _ _ => rfl))) (pss_cons (ps_set (i := 5) sc__law_odd.nd rfl (Or.inl rfl) (pe_lst (pa_cons (pe_op op_add_str (pv 2) pe_str) (pa_cons (pe_slice sl_str (pv 2) (po_some pe_int) po_none) (pa_cons (pe_op op_add_str (pe_op op_add_str (pv 2) pe_str) (pe_op op_rep_str (pe_ix ix_list (pv 1) pe_int (fun _ _ => rfl)) pe_int)) (pa_cons pe_str (pa_cons pe_str (pa_cons (pe_op op_add_str pe_str (pv 2)) (pa_cons (pe_op op_add_str (pe_op op_add_str (pv 2) pe_str) (pe_ix ix_list (pv 1) pe_int (fun _ _ => rfl))) pa_nil))))))))) (pss_cons (ps_set (i := 5) sc__law_odd.nd rfl (Or.inl rfl) (pe_op op_cat (pv 5) (pe_lst (pa_cons (pe_op op_add_str (pe_op op_add_str (pe_slice sl_str (pv 2) po_none (po_some (pv 3))) (pv 4)) (pe_slice sl_str (pv 2) (po_some (pv 3)) po_none)) (pa_cons (pe_op op_add_str (pe_op op_add_str (pv 2) pe_str) pe_str) (pa_cons pe_str (pa_cons (pe_op op_add_str pe_str (pv 2)) (pa_cons (pe_op op_add_str (pv 2) pe_str) pa_nil)))))))) (pss_one (ps_ret (pe_ix ix_list (pv 5) (pe_f c__law_next (hr.mono (by decide)) (takes_of rfl rfl rfl rfl) (by rfl) T.g__law_next (pa_cons (pv 0) (pa_cons pe_int pa_nil))) (fun _ _ => rfl))))))))), ?_⟩)
  obtain ⟨v0, v1, rfl, h⟩ := h
  dsimp only [cxOf, L2.start]
  obtain ⟨s, a, v, ns, rfl, rfl, v0, hne, hl, hns, O, k⟩ := h
  have ha : SqL K H a ((ns.map S).map V.str) := SqL.of (by
    rw [show (ns.map S).map V.str = SV ns by simp [SV, Function.comp_def]]
    exact O.get (.tail _ (.head _)))
  walk_at "s"
  refine ⟨_, rfl, rfl, .inl ha, join_few (Nat.le_trans hl (by decide)) hns, ?_⟩
  obtain ⟨j1, j2⟩ := joinL_len ns hns
  have hj : StO 140 (Txt.join "/" (ns.map S)) := by
    rw [show ("/" : Str) = S [47] from by decide +kernel, SX.join_S]
    exact ⟨by rw [SX.S_len]; omega, j2⟩
  generalize Txt.join "/" (ns.map S) = jo at hj ⊢
  have L1 : StO 1 ("/" : Str) := StO.lit _ _ (by decide +kernel)
  have f0 := L1.fit hj (by decide)
  have hp : StO 141 ("/" ++ jo) := L1.cat hj
  have hpl : ("/" ++ jo).length ≤ sizeLine := sz_le (by have := hp.len; omega)
  have hpl2 := hp.len
  walk_at "s"
  refine ask2 ⟨s, v, _, rfl, rfl, v0, by omega, by omega, O.blk (s' := []) .one, fun H1 r1 v1 O1 w1 a1 b1 => ?_⟩
  have O2 := O.call (s' := [(s, .lst [.int v1])]) .one O1
  clear O O1
  walk_at "s"
  intro l1 hl1
  have O3 := O2.new (o := .lst [V.str "/", V.str "A", V.str "7", V.str " ", V.str ".", V.str "-", V.str "{", V.str "`", V.str "Z"]) hl1
  generalize upd _ l1 _ = H2 at O3 ⊢
  clear O2
  walk_at "s"
  refine ask2 ⟨s, v1, 9, rfl, rfl, w1, by decide, by decide, O3.blk (s := [(s, .lst [.int v1])]) (s' := []) (.there .one), fun H3 r2 v2 O4 w2 a2 b2 => ?_⟩
  have O5 : Own H H3 [s, a] [(l1, .lst [V.str "/", V.str "A", V.str "7", V.str " ", V.str ".", V.str "-", V.str "{", V.str "`", V.str "Z"]), (s, .lst [.int v2]), (a, .lst (SV ns))] := O3.call (s := [(s, .lst [.int v1])]) (s' := [(s, .lst [.int v2])]) (.there .one) O4
  clear O3 O4
  obtain ⟨sg, hsg, hs1⟩ := pick_str (xs := (["/", "A", "7", " ", ".", "-", "{", "`", "Z"] : List Str)) (n := 1) (u := r2) a2 b2 (StO.lits (by decide +kernel))
  have hsg : atI [V.str "/", V.str "A", V.str "7", V.str " ", V.str ".", V.str "-", V.str "{", V.str "`", V.str "Z"] r2 = some (.str sg) := hsg
  obtain ⟨q0, ns', rfl⟩ : ∃ q0 ns', ns = q0 :: ns' := by
    cases ns with
    | nil => exact absurd rfl hne
    | cons x y => exact ⟨x, y, rfl⟩
  have hq0 := hns q0 (.head _)
  have hq : StO 6 (S q0) := ⟨by rw [SX.S_len]; exact hq0.hi, hq0.low⟩
  have hq2 : (S q0).length ≤ 2000 := by have := hq.len; omega
  have hat : atI (SV (q0 :: ns')) 0 = some (.str (S q0)) := atI_nat (j := 0) rfl
  have D2 : StO 2 ("//" : Str) := StO.lit _ _ (by decide +kernel)
  have D7 : StO 7 ("abcdefg" : Str) := StO.lit _ _ (by decide +kernel)
  have DS : StO 1 (" " : Str) := StO.lit _ _ (by decide +kernel)
  have D0 : StO 1 ("" : Str) := StO.lit _ _ (by decide +kernel)
  have DA : StO 1 ("a" : Str) := StO.lit _ _ (by decide +kernel)
  have hpa := hp.cat L1
  have hpb := hp.cat D2
  have hr : StO 42 (repS (S q0) 7) := hq.rep 7
  have hc1 := hp.cut none (some r1)
  have hc2 := hc1.cat hs1
  have hc3 := hp.cut (some r1) none
  have g1 := hp.fit L1 (by decide)
  have g2 := hpa.fit hr (by decide)
  have g3 := L1.fit hp (by decide)
  have g4 := hp.fit D2 (by decide)
  have g5 := hpb.fit hq (by decide)
  have g6 := hc1.fit hs1 (by decide)
  have g7 := hc2.fit hc3 (by decide)
  have g8 := hpa.fit D7 (by decide)
  have g9 := DS.fit hp (by decide)
  have g10 := hp.fit DS (by decide)
  generalize ("/" : Str) ++ jo = pt at *
  have hm : ∀ z ∈ [pt ++ "/", L2.cutS pt (some 1) none, pt ++ "/" ++ repS (S q0) 7, "", "//", "/" ++ pt, pt ++ "//" ++ S q0, L2.cutS pt none (some r1) ++ sg ++ L2.cutS pt (some r1) none, pt ++ "/" ++ "abcdefg", "a", " " ++ pt, pt ++ " "], StO 400 z := by
    refine List.forall_mem_cons.mpr ⟨hpa.mono (by decide), List.forall_mem_cons.mpr ⟨(hp.cut _ _).mono (by decide), List.forall_mem_cons.mpr ⟨(hpa.cat hr).mono (by decide), List.forall_mem_cons.mpr ⟨D0.mono (by decide), List.forall_mem_cons.mpr ⟨D2.mono (by decide), List.forall_mem_cons.mpr ⟨(L1.cat hp).mono (by decide), List.forall_mem_cons.mpr ⟨(hpb.cat hq).mono (by decide), List.forall_mem_cons.mpr ⟨(hc2.cat hc3).mono (by decide), List.forall_mem_cons.mpr ⟨(hpa.cat D7).mono (by decide), List.forall_mem_cons.mpr ⟨DA.mono (by decide), List.forall_mem_cons.mpr ⟨(DS.cat hp).mono (by decide), List.forall_mem_cons.mpr ⟨(hp.cat DS).mono (by decide), nofun⟩⟩⟩⟩⟩⟩⟩⟩⟩⟩⟩⟩
  clear hpa hpb hr hc1 hc2 hc3 D2 D7 DS D0 DA L1 hp
  walk_at "s"
  intro l2 hl2
  refine O5.sG hl2 fun H4 O6 _ => ?_
  clear O5
  walk_at "s"
  intro l3 hl3
  refine O6.sQ hl3 fun H5 O7 _ => ?_
  clear O6
  walk_at "s"
  intro l4 hl4
  refine O7.sG hl4 fun H6 O8 _ => ?_
  have O9 := O8.drop (cs' := [(l4, _), (s, .lst [.int v2]), (a, .lst (SV (q0 :: ns')))]) (.cons₂ _ (.cons _ (.cons _ (.cons _ (.refl _)))))
  clear O7 O8
  walk_at "s"
  refine ask2 ⟨s, v2, 12, rfl, rfl, w2, by decide, by decide, O9.blk (s := [(s, .lst [.int v2])]) (s' := []) (.there .one), fun H7 r3 v3 O10 w3 a3 b3 => ?_⟩
  have O11 := O9.call (s := [(s, .lst [.int v2])]) (s' := [(s, .lst [.int v3])]) (.there .one) O10
  obtain ⟨zz, hzz, hz1⟩ := (fun h1 => pick_str (n := 400) (u := r3) a3 h1 hm) b3
  have hl4 := O11.get (.head _)
  clear O9 O10
  obtain ⟨zl, rfl, hzt⟩ := hz1.tx (by decide)
  have hsq := SqL.of (K := K) hl4
  have O12 := Box.mk O11
  walk_at "clo"
  walk_at "s"
  exact k _ v3 zl (O12.out.drop (.cons _ (.refl _))) w3 hzt
theorem sc__law_word : FnScope ["_law_error", "_law_fits", "_law_words", "_law_one"] ["_law_error"] (defScope s__law_word) := ⟨rfl, rfl, rfl, by decide +kernel, rfl, by decide +kernel, by decide +kernel⟩
theorem ok__law_word {P : Program} {w : World} {K : PySem.W.Frag} {mg : Str → Option Value} {base : Heap} (T : Txt K mg) : Cee P w K mg base 1 (He.fAd K ("_law_word", none)) ["_law_error"] (sp__law_word K) := by
  refine cee_of T.d__law_word sc__law_word (fun _ _ _ _ _ _ us hl => match us, hl with | [_], _ => rfl) (fun vs H Q E h => sp1_len h) (fun cdv A outer s H vs Q E hr h => ⟨_, (pss_cons (ps_if (pt_not (pt_val (pe_callB call_isX (by rfl) T.n_isinstance (by decide +kernel) (pa_cons (pv 0) (pa_cons (pe_bltn (v := .ty "ValueError") rfl T.n_ValueError (by decide +kernel) rfl) pa_nil))))) (pss_one (ps_ret pe_str)) pss_nil) (pss_cons (ps_set (i := 1) sc__law_word.nd rfl (Or.inl rfl) (pe_lst (pa_cons (pe_callB call_isX (by rfl) T.n_isinstance (by decide +kernel) (pa_cons (pv 0) (pa_cons (pe_glob (v := .ref (He.ga K "BadName")) rfl T.g_BadName rfl) pa_nil))) (pa_cons (pe_callB call_isX (by rfl) T.n_isinstance (by decide +kernel) (pa_cons (pv 0) (pa_cons (pe_glob (v := .ref (He.ga K "NoName")) rfl T.g_NoName rfl) pa_nil))) (pa_cons (pe_callB call_isX (by rfl) T.n_isinstance (by decide +kernel) (pa_cons (pv 0) (pa_cons (pe_glob (v := .ref (He.ga K "NotDir")) rfl T.g_NotDir rfl) pa_nil))) (pa_cons (pe_callB call_isX (by rfl) T.n_isinstance (by decide +kernel) (pa_cons (pv 0) (pa_cons (pe_glob (v := .ref (He.ga K "IsDir")) rfl T.g_IsDir rfl) pa_nil))) pa_nil)))))) (pss_cons (ps_set (i := 1) sc__law_word.nd rfl (Or.inl rfl) (pe_op op_cat (pv 1) (pe_lst (pa_cons (pe_callB call_isX (by rfl) T.n_isinstance (by decide +kernel) (pa_cons (pv 0) (pa_cons (pe_glob (v := .ref (He.ga K "NotEmpty")) rfl T.g_NotEmpty rfl) pa_nil))) (pa_cons (pe_callB call_isX (by rfl) T.n_isinstance (by decide +kernel) (pa_cons (pv 0) (pa_cons (pe_glob (v := .ref (He.ga K "Inside")) rfl T.g_Inside rfl) pa_nil))) (pa_cons (pe_callB call_isX (by rfl) T.n_isinstance (by decide +kernel) (pa_cons (pv 0) (pa_cons (pe_glob (v := .ref (He.ga K "NoNode")) rfl T.g_NoNode rfl) pa_nil))) pa_nil)))))) (pss_cons (ps_set (i := 1) sc__law_word.nd rfl (Or.inl rfl) (pe_op op_cat (pv 1) (pe_lst (pa_cons (pe_callB call_isX (by rfl) T.n_isinstance (by decide +kernel) (pa_cons (pv 0) (pa_cons (pe_glob (v := .ref (He.ga K "NoSpace")) rfl T.g_NoSpace rfl) pa_nil))) (pa_cons (pe_callB call_isX (by rfl) T.n_isinstance (by decide +kernel) (pa_cons (pv 0) (pa_cons (pe_glob (v := .ref (He.ga K "TooMany")) rfl T.g_TooMany rfl) pa_nil))) (pa_cons (pe_callB call_isX (by rfl) T.n_isinstance (by decide +kernel) (pa_cons (pv 0) (pa_cons (pe_glob (v := .ref (He.ga K "TooBig")) rfl T.g_TooBig rfl) pa_nil))) pa_nil)))))) (pss_cons (ps_set (i := 1) sc__law_word.nd rfl (Or.inl rfl) (pe_op op_cat (pv 1) (pe_lst (pa_cons (pe_callB call_isX (by rfl) T.n_isinstance (by decide +kernel) (pa_cons (pv 0) (pa_cons (pe_glob (v := .ref (He.ga K "NotHeld")) rfl T.g_NotHeld rfl) pa_nil))) (pa_cons (pe_callB call_isX (by rfl) T.n_isinstance (by decide +kernel) (pa_cons (pv 0) (pa_cons (pe_glob (v := .ref (He.ga K "NotAllowed")) rfl T.g_NotAllowed rfl) pa_nil))) (pa_cons (pe_callB call_isX (by rfl) T.n_isinstance (by decide +kernel) (pa_cons (pv 0) (pa_cons (pe_glob (v := .ref (He.ga K "Taken")) rfl T.g_Taken rfl) pa_nil))) pa_nil)))))) (pss_cons (ps_set (i := 1) sc__law_word.nd rfl (Or.inl rfl) (pe_op op_cat (pv 1) (pe_lst (pa_cons (pe_callB call_isX (by rfl) T.n_isinstance (by decide +kernel) (pa_cons (pv 0) (pa_cons (pe_glob (v := .ref (He.ga K "Fallen")) rfl T.g_Fallen rfl) pa_nil))) pa_nil)))) (pss_cons (ps_set (i := 2) sc__law_word.nd rfl (Or.inl rfl) (pe_lst (pa_cons pe_str (pa_cons pe_str (pa_cons pe_str (pa_cons pe_str (pa_cons pe_str (pa_cons pe_str (pa_cons pe_str (pa_cons pe_str (pa_cons pe_str (pa_cons pe_str pa_nil)))))))))))) (pss_cons (ps_set (i := 2) sc__law_word.nd rfl (Or.inl rfl) (pe_op op_cat (pv 2) (pe_lst (pa_cons pe_str (pa_cons pe_str (pa_cons pe_str (pa_cons pe_str pa_nil))))))) (pss_cons (ps_if (pt_cmpR op_ne (pe_callB (cr_sum rfl) (by rfl) T.n_sum (by decide +kernel) (pa_cons (pe_lc (own := [("_law_one", 3)]) (by rfl) sc__law_word.nd (PI.box (pi_list (pv 1))) (blkOk_by (own := [("_law_one", 3)]) (N := ["_law_error", "_law_fits", "_law_words", "_law_one"]) (sc := defScope s__law_word) (by decide +kernel)) (fun _ _ _ _ _ => (pg_name (i := 3) sc__law_word.nd rfl (Or.inl rfl))) (fun _ _ _ _ _ => pts_nil) (fun _ _ _ _ _ => (pe_callTy call_intB (by rfl) T.n_int (by decide +kernel) (pa_cons (pv 3) pa_nil)))) pa_nil)) pe_int (nomark _)) (pss_one (ps_ret pe_str)) pss_nil) (pss_one (ps_ret (pe_ix ix_list (pv 2) (pe_bm PySem.F.plainAttrs_list PySem.F.slot_list_index PySem.F.type_list_index mt_index (pv 1) (pa_cons pe_bl pa_nil)) (fun _ _ => rfl))))))))))))), ?_⟩)
  obtain ⟨v0, rfl, h⟩ := h
  dsimp only [cxOf, L2.start]
  obtain ⟨ea, rfl, he, k⟩ := h
  have O0 := Own.start (H := H)
  walk_at "s"
  intro l1 hl1
  have O1 := O0.new (o := .lst [V.bl true, V.bl false, V.bl false, V.bl false]) hl1
  generalize upd _ l1 _ = H1 at O1 ⊢
  walk_at "s"
  intro l2 hl2
  have O2 := O1.new (o := .lst [V.bl false, V.bl false, V.bl false]) hl2
  generalize upd _ l2 _ = H2 at O2 ⊢
  walk_at "s"
  intro l3 hl3
  rw [show (([V.bl true, V.bl false, V.bl false, V.bl false] : List V) ++ [V.bl false, V.bl false, V.bl false]) = [V.bl true, V.bl false, V.bl false, V.bl false, V.bl false, V.bl false, V.bl false] from rfl]
  have O3 := O2.new (o := .lst [V.bl true, V.bl false, V.bl false, V.bl false, V.bl false, V.bl false, V.bl false]) hl3
  generalize upd _ l3 _ = H3 at O3 ⊢
  walk_at "s"
  intro l4 hl4
  have O4 := O3.new (o := .lst [V.bl false, V.bl false, V.bl false]) hl4
  generalize upd _ l4 _ = H4 at O4 ⊢
  walk_at "s"
  intro l5 hl5
  rw [show (([V.bl true, V.bl false, V.bl false, V.bl false, V.bl false, V.bl false, V.bl false] : List V) ++ [V.bl false, V.bl false, V.bl false]) = [V.bl true, V.bl false, V.bl false, V.bl false, V.bl false, V.bl false, V.bl false, V.bl false, V.bl false, V.bl false] from rfl]
  have O5 := O4.new (o := .lst [V.bl true, V.bl false, V.bl false, V.bl false, V.bl false, V.bl false, V.bl false, V.bl false, V.bl false, V.bl false]) hl5
  generalize upd _ l5 _ = H5 at O5 ⊢
  walk_at "s"
  intro l6 hl6
  have O6 := O5.new (o := .lst [V.bl false, V.bl false, V.bl false]) hl6
  generalize upd _ l6 _ = H6 at O6 ⊢
  walk_at "s"
  intro l7 hl7
  rw [show (([V.bl true, V.bl false, V.bl false, V.bl false, V.bl false, V.bl false, V.bl false, V.bl false, V.bl false, V.bl false] : List V) ++ [V.bl false, V.bl false, V.bl false]) = [V.bl true, V.bl false, V.bl false, V.bl false, V.bl false, V.bl false, V.bl false, V.bl false, V.bl false, V.bl false, V.bl false, V.bl false, V.bl false] from rfl]
  have O7 := O6.new (o := .lst [V.bl true, V.bl false, V.bl false, V.bl false, V.bl false, V.bl false, V.bl false, V.bl false, V.bl false, V.bl false, V.bl false, V.bl false, V.bl false]) hl7
  generalize upd _ l7 _ = H7 at O7 ⊢
  walk_at "s"
  intro l8 hl8
  have O8 := O7.new (o := .lst [V.bl false]) hl8
  generalize upd _ l8 _ = H8 at O8 ⊢
  walk_at "s"
  intro l9 hl9
  rw [show (([V.bl true, V.bl false, V.bl false, V.bl false, V.bl false, V.bl false, V.bl false, V.bl false, V.bl false, V.bl false, V.bl false, V.bl false, V.bl false] : List V) ++ [V.bl false]) = [V.bl true, V.bl false, V.bl false, V.bl false, V.bl false, V.bl false, V.bl false, V.bl false, V.bl false, V.bl false, V.bl false, V.bl false, V.bl false, V.bl false] from rfl]
  have O9 := O8.new (o := .lst [V.bl true, V.bl false, V.bl false, V.bl false, V.bl false, V.bl false, V.bl false, V.bl false, V.bl false, V.bl false, V.bl false, V.bl false, V.bl false, V.bl false]) hl9
  generalize upd _ l9 _ = H9 at O9 ⊢
  walk_at "s"
  intro l10 hl10
  have O10 := O9.new (o := .lst [V.str "BadName", V.str "NoName", V.str "NotDir", V.str "IsDir", V.str "NotEmpty", V.str "Inside", V.str "NoNode", V.str "NoSpace", V.str "TooMany", V.str "TooBig"]) hl10
  generalize upd _ l10 _ = H10 at O10 ⊢
  walk_at "s"
  intro l11 hl11
  have O11 := O10.new (o := .lst [V.str "NotHeld", V.str "NotAllowed", V.str "Taken", V.str "Fallen"]) hl11
  generalize upd _ l11 _ = H11 at O11 ⊢
  walk_at "s"
  intro l12 hl12
  rw [show (([V.str "BadName", V.str "NoName", V.str "NotDir", V.str "IsDir", V.str "NotEmpty", V.str "Inside", V.str "NoNode", V.str "NoSpace", V.str "TooMany", V.str "TooBig"] : List V) ++ [V.str "NotHeld", V.str "NotAllowed", V.str "Taken", V.str "Fallen"]) = [V.str "BadName", V.str "NoName", V.str "NotDir", V.str "IsDir", V.str "NotEmpty", V.str "Inside", V.str "NoNode", V.str "NoSpace", V.str "TooMany", V.str "TooBig", V.str "NotHeld", V.str "NotAllowed", V.str "Taken", V.str "Fallen"] from rfl]
  have O12 := O11.new (o := .lst [V.str "BadName", V.str "NoName", V.str "NotDir", V.str "IsDir", V.str "NotEmpty", V.str "Inside", V.str "NoNode", V.str "NoSpace", V.str "TooMany", V.str "TooBig", V.str "NotHeld", V.str "NotAllowed", V.str "Taken", V.str "Fallen"]) hl12
  generalize upd _ l12 _ = H12 at O12 ⊢
  have hf : SqL K H12 l9 (([true, false, false, false, false, false, false, false, false, false, false, false, false, false] : List Bool).map V.bl) := SqL.of (O12.get (.tail _ (.tail _ (.tail _ (.head _)))))
  have Q0 : Own H H12 [] [(l12, .lst [V.str "BadName", V.str "NoName", V.str "NotDir", V.str "IsDir", V.str "NotEmpty", V.str "Inside", V.str "NoNode", V.str "NoSpace", V.str "TooMany", V.str "TooBig", V.str "NotHeld", V.str "NotAllowed", V.str "Taken", V.str "Fallen"]), (l9, .lst (([true, false, false, false, false, false, false, false, false, false, false, false, false, false] : List Bool).map V.bl))] := O12.drop (.cons₂ _ (.cons _ (.cons _ (.cons₂ _ (List.nil_sublist _)))))
  generalize hbs : ([true, false, false, false, false, false, false, false, false, false, false, false, false, false] : List Bool) = bs at hf Q0
  have hlb : bs.length = 14 := by rw [← hbs]; rfl
  have Q0 := Box.mk Q0
  walk_at "clo"
  walk_at "s"
  refine lcL (xs := bs.map V.bl) (fun D i H' => Own H H' [] ((D, .lst (((bs.take i).map fun b => (if b = true then 1 else 0 : Int)).map V.int)) :: [(l12, .lst [V.str "BadName", V.str "NoName", V.str "NotDir", V.str "IsDir", V.str "NotEmpty", V.str "Inside", V.str "NoNode", V.str "NoSpace", V.str "TooMany", V.str "TooBig", V.str "NotHeld", V.str "NotAllowed", V.str "Taken", V.str "Fallen"]), (l9, .lst (bs.map V.bl))])) ?_ ?_ ?_ ?_
  · intro D hD
    exact Q0.out.new hD
  · exact fun D i H' _ O => SqL.of (O.get (.tail _ (.tail _ (.head _))))
  · rintro D i x H' hx O
    obtain ⟨b, hb, rfl⟩ := get_bool hx
    have hD6 := O.get (.head _)
    have hll : (((bs.take i).map fun b => (if b = true then 1 else 0 : Int)).map V.int).length < 100000 := by rw [List.length_map, List.length_map, List.length_take]; omega
    have O := Box.mk O
    walk_at "clo"
    walk_at "s"
    rw [take_succ hb, List.map_append, List.map_append]
    exact ⟨O.out.wr .here⟩
  · rintro D H' O
    have hD6 : SqL K H' D ((bs.map fun b => (if b = true then 1 else 0 : Int)).map V.int) := SqL.of (by
      have := O.get (.head _)
      rwa [List.length_map, List.take_length] at this)
    have hf2 := O.get (.tail _ (.tail _ (.head _)))
    have hw2 := O.get (.tail _ (.head _))
    have O := Box.mk O
    subst hbs
    walk_at "clo"
    walk_at "s"
    refine ⟨rfl, (show [V.bl true, V.bl false, V.bl false, V.bl false, V.bl false, V.bl false, V.bl false, V.bl false, V.bl false, V.bl false, V.bl false, V.bl false, V.bl false, V.bl false][0]? = some (.bl true) from rfl), rfl, fun m z' hm hz => absurd hm (Nat.not_lt_zero _), ?_⟩
    walk_at "s"
    exact k _ (O.out.drop (List.nil_sublist _))
theorem sc__law_told : FnScope ["_law_path", "_law_told_here", "_law_error", "caught"] ["_law_path"] (defScope s__law_told) := ⟨rfl, rfl, rfl, by decide +kernel, rfl, by decide +kernel, by decide +kernel⟩
theorem ok__law_told {P : Program} {w : World} {K : PySem.W.Frag} {mg : Str → Option Value} {base : Heap} (T : Txt K mg) : Cee P w K mg base 3 (He.fAd K ("_law_told", none)) ["_law_path"] (sp__law_told K) := by
  have c_names_of : Cee P w K mg base 2 (He.fAd K ("names_of", none)) ["path"] (sp_names_of K) := ok_names_of T
  have c__law_word : Cee P w K mg base 1 (He.fAd K ("_law_word", none)) ["_law_error"] (sp__law_word K) := ok__law_word T
  refine cee_of T.d__law_told sc__law_told (fun _ _ _ _ _ _ us hl => match us, hl with | [_], _ => rfl) (fun vs H Q E h => sp1_len h) (fun cdv A outer s H vs Q E hr h => ⟨_, (pss_cons (ps_set (i := 1) sc__law_told.nd rfl (Or.inl rfl) pe_non) (pss_cons (ps_set (i := 2) sc__law_told.nd rfl (Or.inl rfl) pe_non) (pss_cons (PS.box (ps_tryX (i := 3) rfl rfl rfl sc__law_told.nd rfl rfl ⟨rfl, by decide, .inl T.g_KernelError⟩ (takes_of rfl rfl rfl rfl) (fun W pn xe tk pe => (pss_one (ps_set (i := 1) sc__law_told.nd rfl (Or.inl rfl) (pe_f c_names_of (hr.mono (by decide)) tk (by rfl) T.g_names_of (pa_cons (pv 0) pa_nil))))) (fun a pn => (pss_one (ps_set (i := 2) sc__law_told.nd rfl (Or.inl rfl) (pv 3)))))) (pss_cons (ps_if (pt_cmpR op_isN (pv 2) pe_non (nomark _)) (pss_one (ps_ret (pv 1))) pss_nil) (pss_one (ps_ret (pe_f c__law_word (hr.mono (by decide)) (takes_of rfl rfl rfl rfl) (by rfl) T.g__law_word (pa_cons (pv 2) pa_nil)))))))), ?_⟩)
  obtain ⟨v0, rfl, h⟩ := h
  dsimp only [cxOf, L2.start]
  obtain ⟨z, rfl, hz, ke, k⟩ := h
  walk_at "s"
  refine cutS (fun σ' H2 => (∃ ns b, σ' = [some (.str (S z)), some (.ref b), some .non, none] ∧ namesL z = some ns ∧ Own H H2 [] [(b, .lst (SV ns))]) ∨ ∃ ea, σ' = [some (.str (S z)), some .non, some (.ref ea), none] ∧ namesL z = none ∧ Own H H2 [] [(ea, CxO (.ref (He.ga K "BadName")) none ea)]) (fun nx hn => ?_) ?_
  · walk_at "s"
    refine ask1 ⟨z, rfl, hz, fun hN H2 O2 => ?_, fun ns hN H2 b O2 => ?_⟩
    · walk_at "s"
      refine ⟨fun _ ea he => ?_, nofun⟩
      walk_at "s"
      exact hn _ _ (.inr ⟨ea, rfl, hN, (O2.new he).drop (.cons₂ _ (List.nil_sublist _))⟩)
    · walk_at "s"
      exact hn _ _ (.inl ⟨ns, b, rfl, hN, O2⟩)
  · rintro σ' H2 (⟨ns, b, rfl, hN, O2⟩ | ⟨ea, rfl, hN, O2⟩)
    · walk_at "s"
      exact k ns hN _ b O2
    · have hea := O2.get (.head _)
      walk_at "s"
      refine ask1 ⟨ea, rfl, hea, fun H3 O3 => ?_⟩
      exact ke hN _ ((O2.callN O3).drop (List.nil_sublist _))
theorem sc__law_right : FnScope ["_law_path", "_law_due_here", "_law_found", "_law_name_here"] ["_law_path"] (defScope s__law_right) := ⟨rfl, rfl, rfl, by decide +kernel, rfl, by decide +kernel, by decide +kernel⟩
theorem ok__law_right {P : Program} {w : World} {K : PySem.W.Frag} {mg : Str → Option Value} {base : Heap} (T : Txt K mg) : Cee P w K mg base 4 (He.fAd K ("_law_right", none)) ["_law_path"] (sp__law_right K) := by
  have c__law_due : Cee P w K mg base 1 (He.fAd K ("_law_due", none)) ["_law_path"] (sp__law_due K) := ok__law_due T
  have c__law_told : Cee P w K mg base 3 (He.fAd K ("_law_told", none)) ["_law_path"] (sp__law_told K) := ok__law_told T
  refine cee_of T.d__law_right sc__law_right (fun _ _ _ _ _ _ us hl => match us, hl with | [_], _ => rfl) (fun vs H Q E h => sp1_len h) (fun cdv A outer s H vs Q E hr h => ⟨_, (pss_cons (ps_set (i := 1) sc__law_right.nd rfl (Or.inl rfl) (pe_f c__law_due (hr.mono (by decide)) (takes_of rfl rfl rfl rfl) (by rfl) T.g__law_due (pa_cons (pv 0) pa_nil))) (pss_cons (ps_set (i := 2) sc__law_right.nd rfl (Or.inl rfl) (pe_f c__law_told (hr.mono (by decide)) (takes_of rfl rfl rfl rfl) (by rfl) T.g__law_told (pa_cons (pv 0) pa_nil))) (pss_cons (ps_if (pt_cmpR op_isN (pv 1) pe_non (nomark _)) (pss_one (ps_ret (pe_cmpR (op_eqD hr.units) (pv 2) pe_str (nomark _)))) pss_nil) (pss_cons (PS.box (ps_if (PW.pt (pw_or (pt_not (pt_val (pe_callB call_isi (by rfl) T.n_isinstance (by decide +kernel) (pa_cons (pv 2) (pa_cons (pe_bltn (v := .ty "list") rfl T.n_list (by decide +kernel) rfl) pa_nil))))) (pw_or (pt_cmpR (op_neD hr.units) (pv 2) (pv 1) (nomark _)) (pw_or1 (pt_not (pt_val (pe_callB (cr_all rfl) (by rfl) T.n_all (by decide +kernel) (pa_cons (pe_lc (own := [("_law_name_here", 3)]) (by rfl) sc__law_right.nd (PI.box (pi_list (pv 2))) (blkOk_by (own := [("_law_name_here", 3)]) (N := ["_law_path", "_law_due_here", "_law_found", "_law_name_here"]) (sc := defScope s__law_right) (by decide +kernel)) (fun _ _ _ _ _ => (pg_name (i := 3) sc__law_right.nd rfl (Or.inl rfl))) (fun _ _ _ _ _ => pts_nil) (fun _ _ _ _ _ => (pe_callB (show CallR _ (.builtin "isinstance") (rIsi K) from call_isi) (by rfl) T.n_isinstance (by decide +kernel) (pa_cons (pv 3) (pa_cons (pe_bltn (v := .ty "str") rfl T.n_str (by decide +kernel) rfl) pa_nil))))) pa_nil)))))))) (pss_one (ps_ret pe_bl)) pss_nil)) (pss_cons (ps_expr (pe_bm PySem.F.plainAttrs_list PySem.F.slot_list_append PySem.F.type_list_append mt_append (pv 2) (pa_cons pe_str pa_nil))) (pss_one (ps_ret (pe_cmpR (op_eqD hr.units) (pe_f c__law_told (hr.mono (by decide)) (takes_of rfl rfl rfl rfl) (by rfl) T.g__law_told (pa_cons (pv 0) pa_nil)) (pv 1) (nomark _))))))))), ?_⟩)
  obtain ⟨v0, rfl, h⟩ := h
  dsimp only [cxOf, L2.start]
  obtain ⟨z, rfl, hz, k⟩ := h
  walk_at "s"
  refine ask1 ⟨z, rfl, hz, fun hN H1 O1 => ?_, fun ns hN H1 b O1 => ?_⟩
  · walk_at "s"
    refine ask1 ⟨z, rfl, hz, fun _ H2 O2 => ?_, fun ns hN2 => by rw [hN] at hN2; cases hN2⟩
    walk_at "s"
    refine eq_word (by decide +kernel) (by decide +kernel) ?_
    rw [decide_eq_true rfl]
    exact k _ (O1.callN O2)
  · walk_at "s"
    refine ask1 ⟨z, rfl, hz, fun hN2 => (by rw [hN] at hN2; cases hN2), fun ns2 hN2 H2 c O2 => ?_⟩
    rw [hN] at hN2
    cases hN2
    have O3 := O1.callN O2
    have hb3 := O3.get (a := b) (.tail _ (.head _))
    have hc3 := O3.get (a := c) (.head _)
    obtain ⟨hns, hnl⟩ := namesL_low hz hN
    walk_at "s"
    refine if_f (decide_eq_false nofun) ?_
    walk_at "b"
    refine ne_SV hns hns hc3 hb3 ⟨_, rfl, if_f (by rw [decide_eq_true rfl]; rfl) ?_⟩
    have hcs : SqL K H2 c (SV ns) := SqL.of hc3
    walk_at "s"
    refine lcL (xs := SV ns) (fun D i H' => Own H H' [] ((D, .lst ((List.replicate i true).map V.bl)) :: [(c, .lst (SV ns)), (b, .lst (SV ns))])) ?_ ?_ ?_ ?_
    · intro D hD
      exact O3.new hD
    · exact fun D i H' _ O => SqL.of (O.get (.tail _ (.head _)))
    · rintro D i x H' hx O
      obtain ⟨n, hn, rfl⟩ := SV_get hx
      have hil := (List.getElem?_eq_some_iff.mp hn).1
      have hD6 := O.get (.head _)
      have hll : ((List.replicate i true).map V.bl).length < 100000 := by rw [List.length_map, List.length_replicate]; omega
      have O := Box.mk O
      walk_at "clo"
      walk_at "s"
      rw [List.replicate_succ', List.map_append]
      exact ⟨O.out.wr .here⟩
    · rintro D H' O
      have hD6 := SqL.of (K := K) (O.get (.head _))
      have hc4 := O.get (a := c) (.tail _ (.head _))
      have hll : (SV ns).length < 100000 := by rw [List.length_map]; omega
      have O := Box.mk O
      walk_at "clo"
      walk_at "s"
      rw [show (List.replicate (SV ns).length true).all id = true by simp]
      refine if_f rfl ?_
      walk_at "s"
      have O5 := (O.out.wr (a := c) (o' := .lst (SV ns ++ [V.str "x"])) (.there .here)).drop (cs' := [(b, .lst (SV ns))]) (.cons _ (.cons _ (.refl _)))
      generalize upd H' c _ = H5 at O5 ⊢
      refine ask1 ⟨z, rfl, hz, fun hN2 => (by rw [hN] at hN2; cases hN2), fun ns2 hN2 H6 d O6 => ?_⟩
      rw [hN] at hN2
      cases hN2
      have O7 := O5.callN O6
      have hb7 := O7.get (a := b) (.tail _ (.head _))
      have hd7 := O7.get (a := d) (.head _)
      walk_at "s"
      refine eq_SV hns hns hd7 hb7 ?_
      rw [decide_eq_true rfl]
      exact k _ (O7.drop (List.nil_sublist _))
def sp_law (K : PySem.W.Frag) : Sp := sp1 fun x H Q _ => ∃ (a : Addr) (xs : List Int), x = .ref a ∧ SqL K H a (xs.map V.int) ∧ xs.length ≤ 63 ∧ ∀ H', Q (.bl true) H'
theorem law_in {K : PySem.W.Frag} (H : Hp) (a : Addr) (ns : List Int) (hl : ns.length ≤ 63) (hz : ∀ z ∈ ns, Builtin.Int.intBits z ≤ 1048576) (hS : SqL K H a (ns.map V.int)) :
    ∃ (a' : Addr) (xs : List Int), V.ref a = .ref a' ∧ SqL K H a' (xs.map V.int) ∧ xs.length ≤ 63 ∧ ∀ H' : Hp, (fun (v : V) (_ : Hp) => v = .bl true) (.bl true) H' := ⟨a, ns, rfl, hS, hl, fun _ => rfl⟩
theorem joinL_le {m : Nat} : ∀ ns : List (List Nat), (∀ n ∈ ns, n.length ≤ m) → (TL.joinL [47] ns).length ≤ (m + 1) * ns.length
  | [], _ => by simp [TL.joinL]
  | [n], h => by have := h n (.head _); simp only [TL.joinL, List.length_cons, List.length_nil]; omega
  | n :: q :: r, h => by
    have h1 := joinL_le (q :: r) fun x hx => h x (.tail _ hx)
    have h4 := h n (.head _)
    have e : TL.joinL [47] (n :: q :: r) = n ++ ([47] ++ TL.joinL [47] (q :: r)) := rfl
    rw [e, List.length_append, List.length_append, List.length_singleton]
    rw [List.length_cons, Nat.mul_succ]
    omega
theorem joined {ns : List (List Nat)} {m k : Nat} (h : ∀ n ∈ ns, NmO n) (hm : ∀ n ∈ ns, n.length ≤ m) (hk : (m + 1) * ns.length ≤ k) : StO k (Txt.join "/" (ns.map S)) := by
  rw [show ("/" : Str) = S [47] from by decide +kernel, SX.join_S]
  exact ⟨by rw [SX.S_len]; exact Nat.le_trans (joinL_le ns hm) hk, (joinL_len ns h).2⟩
theorem cutV_sub_ints (xs : List Int) (lo hi : Option Int) : ∃ ys : List Int, cutV (xs.map V.int) lo hi = ys.map V.int := ⟨_, by unfold cutV; rw [← List.map_drop, ← List.map_take]⟩
theorem sc_law : FnScope ["_law_script", "_law_k", "_law_cell", "_law_state_here", "_law_names", "_law_path", "_law_j", "_law_first", "_law_long"] ["_law_script"] (defScope s_law) := ⟨rfl, rfl, rfl, by decide +kernel, rfl, by decide +kernel, by decide +kernel⟩
theorem ok_law {P : Program} {w : World} {K : PySem.W.Frag} {mg : Str → Option Value} {base : Heap} (T : Txt K mg) {fd : FuncData} (F : FunD K "law" "law" (defArgs s_law) (defBody s_law) (defScope s_law) [] [] (He.fAd K ("law", none)) fd) : FnOk P w K mg base (L2.CX P w) 5 (He.fAd K ("law", none)) fd ["_law_script"] (bx (sp_law K)) := by
  have c__law_state : Cee P w K mg base 1 (He.fAd K ("_law_state", none)) ["_law_script", "_law_cell", "_law_k"] (sp__law_state K) := ok__law_state T
  have c__law_next : Cee P w K mg base 1 (He.fAd K ("_law_next", none)) ["_law_state_here", "_law_many"] (sp__law_next K) := ok__law_next T
  have c__law_name : Cee P w K mg base 2 (He.fAd K ("_law_name", none)) ["_law_state_here"] (sp__law_name K) := ok__law_name T
  have c__law_right : Cee P w K mg base 4 (He.fAd K ("_law_right", none)) ["_law_path"] (sp__law_right K) := ok__law_right T
  have c__law_odd : Cee P w K mg base 2 (He.fAd K ("_law_odd", none)) ["_law_state_here", "_law_names"] (sp__law_odd K) := ok__law_odd T
  refine fn_of F sc_law (fun vs H Q E h => sp1_len h) (fun cdv A outer s H vs Q E hr h => ⟨_, (pss_cons (ps_for (passes_of rfl) rfl (PI.box (pi_enum (by rfl) T.n_enumerate (pa_cons (pe_op op_cat (pe_lst (pa_cons pe_int pa_nil)) (pe_slice sl_list (pv 0) po_none (po_some pe_int))) pa_nil))) (pg_tup rfl (pgs_cons (pg_name (i := 1) sc_law.nd rfl (Or.inl rfl)) (pgs_cons (pg_name (i := 2) sc_law.nd rfl (Or.inl rfl)) pgs_nil))) (pss_cons (ps_set (i := 3) sc_law.nd rfl (Or.inr rfl) (pe_f c__law_state (hr.mono (by decide)) (takes_of rfl rfl rfl rfl) (by rfl) T.g__law_state (pa_cons (pv 0) (pa_cons (pv 2) (pa_cons (pv 1) pa_nil))))) (pss_cons (ps_setLc (i := 4) (own := [("_law_j", 6)]) (by rfl) sc_law.nd rfl rfl (sw_true rfl rfl rfl (by decide +kernel)) (PI.box (pi_range1 (by rfl) T.n_range (pa_cons (pe_op op_add pe_int (pe_f c__law_next (hr.mono (by decide)) (takes_of rfl rfl rfl rfl) (by rfl) T.g__law_next (pa_cons (pv 3) (pa_cons pe_int pa_nil)))) pa_nil))) (blkOk_by (own := [("_law_j", 6)]) (N := ["_law_script", "_law_k", "_law_cell", "_law_state_here", "_law_names", "_law_path", "_law_j", "_law_first", "_law_long"]) (sc := defScope s_law) (by decide +kernel)) (fun _ _ _ _ _ => (pg_name (i := 6) sc_law.nd rfl (Or.inl rfl))) (fun _ _ _ _ _ => pts_nil) (fun _ _ _ _ _ => (pe_f c__law_name (hr.mono (by decide)) takes0 (by rfl) T.g__law_name (pa_cons (pv 3) pa_nil)))) (pss_cons (ps_set (i := 5) sc_law.nd rfl (Or.inl rfl) (pe_op op_add_str pe_str (pe_join pe_str (pv 4)))) (pss_one (ps_if (PW.pt (pw_or (pt_not (pt_val (pe_f c__law_right (hr.mono (by decide)) (takes_of rfl rfl rfl rfl) (by rfl) T.g__law_right (pa_cons (pv 5) pa_nil)))) (pw_or1 (pt_not (pt_val (pe_f c__law_right (hr.mono (by decide)) (takes_of rfl rfl rfl rfl) (by rfl) T.g__law_right (pa_cons (pe_f c__law_odd (hr.mono (by decide)) (takes_of rfl rfl rfl rfl) (by rfl) T.g__law_odd (pa_cons (pv 3) (pa_cons (pv 4) pa_nil))) pa_nil))))))) (pss_one (ps_ret pe_bl)) pss_nil)))))) (pss_cons (ps_set (i := 7) sc_law.nd rfl (Or.inl rfl) (pe_callB (cr_sum rfl) (by rfl) T.n_sum (by decide +kernel) (pa_cons (pe_slice sl_list (pv 0) po_none (po_some pe_int)) pa_nil))) (pss_cons (ps_set (i := 8) sc_law.nd rfl (Or.inl rfl) (pe_op op_add_str pe_str (pe_join pe_str (pe_op op_rep (pe_lst (pa_cons (pe_ix ix_str pe_str (pe_op op_mod (pv 7) pe_int) (fun _ _ => rfl)) pa_nil)) (pe_op op_add pe_int (pe_op op_mod (pe_op op_fdiv (pv 7) pe_int) pe_int)))))) (pss_one (ps_ret (pe_and (pe_f c__law_right (hr.mono (by decide)) (takes_of rfl rfl rfl rfl) (by rfl) T.g__law_right (pa_cons pe_str pa_nil)) (pe_and (pe_f c__law_right (hr.mono (by decide)) (takes_of rfl rfl rfl rfl) (by rfl) T.g__law_right (pa_cons pe_str pa_nil)) (pe_and (pe_f c__law_right (hr.mono (by decide)) (takes_of rfl rfl rfl rfl) (by rfl) T.g__law_right (pa_cons (pv 8) pa_nil)) (pe_one (pe_f c__law_right (hr.mono (by decide)) (takes_of rfl rfl rfl rfl) (by rfl) T.g__law_right (pa_cons (pe_op op_add_str (pe_slice sl_str (pv 8) po_none (po_some (pe_un un_neg pe_int))) pe_str) pa_nil))))))))))), ?_⟩)
  obtain ⟨v0, rfl, h⟩ := h
  dsimp only [cxOf, L2.start]
  obtain ⟨a, xs, rfl, ha, hl, k⟩ := h
  walk_at "s"
  intro c1 hc1
  have O1 := (Own.start (H := H)).new (o := .lst [V.int 7]) hc1
  generalize upd _ c1 _ = H1 at O1 ⊢
  have ha1 := O1.sq ha
  walk_at "s"
  rw [show cutV (xs.map V.int) none (some 63) = xs.map V.int from (cutV_to _ 63).trans (List.take_of_length_le (by rw [List.length_map]; omega))]
  intro c2 hc2
  have O2 := O1.new (o := .lst (xs.map V.int)) hc2
  generalize upd _ c2 _ = H2 at O2 ⊢
  have hsz : ([V.int 7] : List V).length + (xs.map V.int).length ≤ sizeLine := sz_le (by rw [List.length_map, List.length_singleton]; omega)
  walk_at "s"
  intro c3 hc3
  rw [show [V.int 7] ++ xs.map V.int = (7 :: xs).map V.int from rfl]
  have O3 := (O2.new (o := .lst ((7 :: xs).map V.int)) hc3).drop (cs' := [(c3, .lst ((7 :: xs).map V.int))]) (.cons₂ _ (List.nil_sublist _))
  generalize upd _ c3 _ = H3 at O3 ⊢
  clear O1 O2 ha1 hsz
  have hc3l : SqL K H3 c3 ((7 :: xs).map V.int) := SqL.of (O3.get (.head _))
  walk_at "s"
  refine forW (walk_enum (K := K) (a := c3) (xs := (7 :: xs).map V.int)) (fun j σ H' => ∃ (v1 v2 v3 v4 v5 v6 v7 v8 : Option V), σ = [some (.ref a), v1, v2, v3, v4, v5, v6, v7, v8] ∧ Own H H' [] [(c3, .lst ((7 :: xs).map V.int))]) ⟨_, _, _, _, _, _, _, _, rfl, O3⟩ (fun j σ H' _ ⟨_, _, _, _, _, _, _, _, _, O⟩ => SqL.of (O.get (.head _))) ?_ ?_
  · clear O3 hc3l
    rintro j x σ H2' H3' hj ⟨v1, v2, v3, v4, v5, v6, v7, v8, rfl, O4⟩ ⟨T0, x0, y0, rfl, hT0, rfl, hx0, hy0⟩
    cases hx0
    obtain ⟨cell, _, rfl⟩ := map_get hy0
    have hj63 : j ≤ 63 := by rw [List.length_map, List.length_cons] at hj; omega
    have O5 := O4.newT (o := .tup [V.int (j : Nat), V.int cell]) hT0
    have hT1 : (upd H2' T0 (.tup [V.int (j : Nat), V.int cell])) T0 = some (.tup [V.int (j : Nat), V.int cell]) := upd_same
    generalize upd H2' T0 _ = H5 at O5 hT1 ⊢
    clear O4
    have ha5 := O5.sq ha
    walk_at "s"
    refine ask3 ⟨a, xs, cell, j, rfl, rfl, rfl, ha5, by omega, by omega, fun H6 s v O6 v0 => ?_⟩
    have O7 := O5.callN O6
    clear O5 O6 hT1 ha5
    walk_at "s"
    refine ask2 ⟨s, v, 12, rfl, rfl, v0, by decide, by decide, O7.blk (s' := []) .one, fun H8 r w O8 w1 a1 b1 => ?_⟩
    have O9 := O7.call (s' := [(s, .lst [.int w])]) .one O8
    clear O7 O8
    walk_at "s"
    refine lcR (lo := 0) (n := (1 + r).toNat) (fun D i H' => ∃ (ns : List (List Nat)) (v : Int), Own H H' [] [(D, .lst (SV ns)), (s, .lst [.int v]), (c3, .lst ((7 :: xs).map V.int))] ∧ 0 ≤ v ∧ ns.length = i ∧ ∀ n ∈ ns, NmO n) ?_ ?_ ?_
    · intro D hD
      exact ⟨[], w, O9.new hD, w1, rfl, nofun⟩
    · clear O9
      rintro D i H' hi ⟨ns, u, O9, u0, hnl, hns⟩
      walk_at "s"
      refine ask1 ⟨s, u, rfl, u0, O9.blk (s := [(s, .lst [.int u])]) (s' := []) (.there .one), fun H9 u1 z O10 u2 hz => ?_⟩
      have O11 := O9.call (s := [(s, .lst [.int u])]) (s' := [(s, .lst [.int u1])]) (.there .one) O10
      have hD6 := O11.get (.head _)
      have hll : (SV ns).length < 100000 := by rw [List.length_map]; omega
      clear O9 O10
      have O12 := Box.mk O11
      walk_at "clo"
      walk_at "s"
      refine ⟨⟨ns ++ [z], u1, ?_, u2, by rw [List.length_append, hnl]; rfl, fun n hn => ?_⟩⟩
      · rw [show SV (ns ++ [z]) = SV ns ++ [V.str (S z)] by simp [SV]]
        exact O12.out.wr .here
      · rcases List.mem_append.mp hn with h | h
        · exact hns n h
        · rw [List.mem_singleton.mp h]; exact hz
    · clear O9
      rintro D H' ⟨ns, u, O9, u0, hnl, hns⟩
      have hD6 : SqL K H' D ((ns.map S).map V.str) := SqL.of (by rw [← SV_map]; exact O9.get (.head _))
      have hjo : StO 84 (Txt.join "/" (ns.map S)) := joined hns (fun n hn => (hns n hn).hi) (by omega)
      have L1 : StO 1 ("/" : Str) := StO.lit _ _ (by decide +kernel)
      have g0 := L1.fit hjo (by decide)
      obtain ⟨z, hz, tz⟩ := (L1.cat hjo).tx (by decide)
      walk_at "s"
      refine ⟨_, rfl, rfl, .inl hD6, join_few (by omega) hns, ?_⟩
      walk_at "s"
      rw [hz]
      walk_at "s"
      refine ask1 ⟨z, rfl, tz, fun H9 O10 => ?_⟩
      have O11 := O9.callN O10
      rw [List.nil_append] at O11
      walk_at "s"
      refine ask2 ⟨s, D, u, ns, rfl, rfl, u0, (fun h => by rw [h] at hnl; simp at hnl; omega), by omega, hns, (O11.perm (List.Perm.swap _ _ _)).blk (s := [(s, .lst [.int u]), (D, .lst (SV ns))]) (s' := []) .two, fun H12 u1 z2 O12 _ tz2 => ?_⟩
      have O13 := (O11.perm (List.Perm.swap _ _ _)).call (s := [(s, .lst [.int u]), (D, .lst (SV ns))]) (s' := [(s, .lst [.int u1]), (D, .lst (SV ns))]) .two O12
      walk_at "s"
      refine ask1 ⟨z2, rfl, tz2, fun H14 O14 => ?_⟩
      walk_at "s"
      exact ⟨⟨_, _, _, _, _, _, _, _, rfl, (O13.callN O14).drop (.cons _ (.cons _ (.refl _)))⟩⟩
  · clear O3 hc3l
    rintro σ H4 ⟨v1, v2, v3, v4, v5, v6, v7, v8, rfl, O4⟩
    have ha4 := O4.sq ha
    walk_at "s"
    obtain ⟨ys, hys⟩ := cutV_sub_ints xs none (some 1)
    rw [hys]
    intro d hd
    have O5 := O4.new (o := .lst (ys.map V.int)) hd
    generalize upd _ d _ = H5 at O5 ⊢
    clear O4 ha4
    have hd5 : SqL K H5 d (ys.map V.int) := SqL.of (O5.get (.head _))
    obtain ⟨ch, hch, hc2⟩ := letter_at (u := ys.sum % 26) (Int.emod_nonneg _ (by decide)) (Int.emod_lt_of_pos _ (by decide))
    walk_at "s"
    intro e he
    have O6 := O5.new (o := .lst [V.str (S [ch])]) he
    generalize upd _ e _ = H6 at O6 ⊢
    obtain ⟨n, hn, hn2⟩ : ∃ n : Nat, 500 + ys.sum / 26 % 1500 = n ∧ n ≤ 2000 := ⟨(500 + ys.sum / 26 % 1500).toNat, by omega, by omega⟩
    have hsz : ([V.str (S [ch])] : List V).length * (500 + ys.sum / 26 % 1500).toNat ≤ sizeLine := sz_le (by rw [hn, Int.toNat_natCast, List.length_singleton]; omega)
    walk_at "s"
    intro g hg
    rw [hn, Int.toNat_natCast, List.flatten_replicate_singleton]
    have hns : ∀ z ∈ List.replicate n [ch], NmO z := fun z hz => by
      rw [List.eq_of_mem_replicate hz]
      exact ⟨by simp, by simp, fun c hc => by rw [List.mem_singleton.mp hc]; exact hc2⟩
    have hn1 : ∀ z ∈ List.replicate n [ch], z.length ≤ 1 := fun z hz => by rw [List.eq_of_mem_replicate hz]; simp
    have hnl : (List.replicate n [ch]).length ≤ 2000 := by rw [List.length_replicate]; exact hn2
    have hjo : StO 4000 (Txt.join "/" ((List.replicate n [ch]).map S)) := joined hns hn1 (by omega)
    have hjf := join_few hnl hns
    have hrep : List.replicate n (V.str (S [ch])) = ((List.replicate n [ch]).map S).map V.str := by simp
    rw [hrep]
    generalize hN : (List.replicate n [ch]).map S = N at hjo hjf ⊢
    have O7 := O6.new (o := .lst (N.map V.str)) hg
    generalize upd _ g _ = H7 at O7 ⊢
    have hg7 : SqL K H7 g (N.map V.str) := SqL.of (O7.get (.head _))
    have L1 : StO 1 ("/" : Str) := StO.lit _ _ (by decide +kernel)
    have LA : StO 1 ("A" : Str) := StO.lit _ _ (by decide +kernel)
    have g0 := L1.fit hjo (by decide)
    obtain ⟨z, hz, tz⟩ := (L1.cat hjo).tx (by decide)
    have hc := ((L1.cat hjo).cut none (some (-1)))
    have g1 := hc.fit LA (by decide)
    obtain ⟨z2, hz2, tz2⟩ := (hc.cat LA).tx (by decide)
    rw [hz] at g1 hz2
    have hzl : (S z).length ≤ sizeLine := by have := S_len5 tz.len; omega
    walk_at "s"
    refine ⟨_, rfl, rfl, .inl hg7, hjf, ?_⟩
    walk_at "s"
    rw [hz]
    walk_at "s"
    refine ask1 ⟨[47], by rw [show ("/" : Str) = S [47] from by decide +kernel], ⟨by decide, by decide⟩, fun H8 O8 => ?_⟩
    walk_at "s"
    refine ask1 ⟨[], by rw [show ("" : Str) = S [] from by decide +kernel], ⟨by decide, by decide⟩, fun H9 O9 => ?_⟩
    walk_at "s"
    refine ask1 ⟨z, rfl, tz, fun H10 O10 => ?_⟩
    walk_at "s"
    rw [hz2]
    refine ask1 ⟨z2, rfl, tz2, fun H11 O11 => ?_⟩
    exact k _

end Ow
open PySem PySem.W PySem.Calls PyProof.Rows
set_option maxHeartbeats 0
set_option maxRecDepth 100000 in
theorem PySem.Challenge.cw_ownroom_k30_paths_and_names_holds : PySem.Challenge.rw_ownroom_k30_paths_and_names.Holds := by
  w_on; o_law
  refine HandSHeadRun.head_any (r := OpenLaw.row PySem.Challenge.rw_ownroom_k30_paths_and_names) (q := view (OpenLaw.row PySem.Challenge.rw_ownroom_k30_paths_and_names).prog [30]) (H := Ow.hk) (ob := Ow.ob) (M := 60000) (loose := Ow.loose) (d := HandSHeadRun.topDef (OpenLaw.row PySem.Challenge.rw_ownroom_k30_paths_and_names).prog 30) (kwd := []) Ow.ob_eq
    (by kernel_rfl) (fun s => by kernel_rfl) Ow.run (by kernel_rfl) (by kernel_rfl) (by kernel_rfl) (by rfl) (by first | assumption | decide +kernel) (by decide +kernel) ⟨rfl, rfl, rfl, rfl, rfl, by decide +kernel⟩ ?hw ?hc
  case hw => w_witness2
  case hc =>
    refine Ow.walk_end (l := PySem.Challenge.rw_ownroom_k30_paths_and_names) (n := 63) (k := 5) (x := "_law_script") rfl (by decide) (by kernel_rfl) ⟨rfl, by decide, by decide⟩ ?F
    intro w mg fa h Y G hmg0
    obtain ⟨K, KX, c⟩ := Y
    have hmg : mg ("law" : PySem.Str) = some (.ref fa) := by
      have e : (HandSHeadRun.topDef (OpenLaw.row PySem.Challenge.rw_ownroom_k30_paths_and_names).prog 30).name = ("law" : PySem.Str) := by kernel_rfl
      rw [← e]
      exact hmg0
    have T := Ow.txt_mk KX G c.t.d c.more
    have e := hmg.symm.trans T.g_law
    cases e
    obtain ⟨fd, F⟩ := T.d_law
    have b := L2.FunD.bindsA (ps := ["_law_script"]) F fun _ _ _ _ _ _ us hl => match us, hl with | [_], _ => rfl
    exact ⟨K, fd, Ow.bx (Ow.sp_law K), KX, fun s v => b s [v] rfl, fun H a ns hl hz hS => ⟨⟨_, rfl, Ow.law_in H a ns hl hz hS⟩⟩, fun base _ _ => Ow.ok_law T F⟩
