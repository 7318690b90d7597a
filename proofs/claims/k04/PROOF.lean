import PyProof.Rows.All
import Wide.All
import OpenK.AllK
import Wide.FinOn
import HandS.ForMost
import HandS.ForExc
import HandS.More
import HandS.SortInts
import HandS.Conv
import HandS.Defaults
import HandS.IsInst
import HandS.ExcValue
import HandS.ExcIs
import HandS.Flow
import HandS.Codes
import HandS.TupLen
import HandS.StrMore
import HandS.SetFor
import HandS.Style
import HandS.DictTup
import HandS.ListItems
import HandS.TupAny
import HandS.Finally
import HandS.Wide
import HandS.Replace
import HandS.Zip
import HandS.Walk
import HandS.DeepEq
import HandS.Head0
import HandS.Head1
import HandS.Head2
import HandS.HeadEnd
import HandS.HeadHook1
import HandS.HeadHook2
import HandS.HeadHook3
import HandS.HeadHook4
import HandS.EndBits
import PySem.Challenge.RW_ownroom_k04_tables_deed_by_deed
set_option Elab.async false
set_option linter.all false
set_option maxRecDepth 100000
set_option pp.mvars false
set_option pp.deepTerms false
set_option pp.deepTerms.threshold 10
set_option pp.maxSteps 1500
set_option maxHeartbeats 4000000
namespace Ow
open PySem PySem.Spec PyProof.Rows L2
/-! ## My own layer: what a def owns (cells), a def that may be called, readings that stop at calls and loops -/
/-! ### cells -/
abbrev Cells := List (Addr × HO)
def adr (cs : Cells) : List Addr := cs.map Prod.fst
/-- from H0, of which the addresses A are ours, we have come to H; the cells cs stand there, each once; the rest of H0 is as it was, new cells were free in H0, tuples stay -/
structure Own (H0 H : Hp) (A : List Addr) (cs : Cells) : Prop where
  at_ : ∀ a o, (a, o) ∈ cs → H a = some o
  nd : (adr cs).Nodup
  fr : ∀ b o, H0 b = some o → b ∉ A → H b = some o
  nw : ∀ b, b ∈ adr cs → b ∈ A ∨ H0 b = none
  tp : ∀ b xs, H0 b = some (.tup xs) → H b = some (.tup xs)
theorem adr_cons {c : Addr × HO} {r : Cells} : adr (c :: r) = c.1 :: adr r := rfl
theorem adr_app {s r : Cells} : adr (s ++ r) = adr s ++ adr r := List.map_append
theorem Own.start {H : Hp} (h : ∀ b xs, H b = some (.tup xs) → H b = some (.tup xs) := fun _ _ h => h) : Own H H [] [] :=
  ⟨fun _ _ m => (nomatch m), List.nodup_nil, fun _ _ h _ => h, fun _ m => (nomatch m), h⟩
/-- where the cell of an address stands, and the row with another thing there -/
inductive At : Cells → Addr → HO → HO → Cells → Prop
  | here {a o o' r} : At ((a, o) :: r) a o o' ((a, o') :: r)
  | there {c r a o o' r'} : At r a o o' r' → At (c :: r) a o o' (c :: r')
  | app {s r a o o' r'} : At r a o o' r' → At (s ++ r) a o o' (s ++ r')
  | appl {s r a o o' s'} : At s a o o' s' → At (s ++ r) a o o' (s' ++ r)
theorem At.mem {cs cs' : Cells} {a : Addr} {o o' : HO} (h : At cs a o o' cs') : (a, o) ∈ cs := by
  induction h with
  | here => exact List.mem_cons_self
  | there _ ih => exact List.mem_cons_of_mem _ ih
  | app _ ih => exact List.mem_append_right _ ih
  | appl _ ih => exact List.mem_append_left _ ih
theorem At.adr {cs cs' : Cells} {a : Addr} {o o' : HO} (h : At cs a o o' cs') : adr cs' = adr cs := by
  induction h with
  | here => rfl
  | there _ ih => rw [adr_cons, adr_cons, ih]
  | app _ ih => rw [adr_app, adr_app, ih]
  | appl _ ih => rw [adr_app, adr_app, ih]
theorem At.of {cs cs' : Cells} {a : Addr} {o o' : HO} (h : At cs a o o' cs') (nd : (Ow.adr cs).Nodup) : ∀ b u, (b, u) ∈ cs' → (b = a ∧ u = o') ∨ (b ≠ a ∧ (b, u) ∈ cs) := by
  induction h with
  | here =>
    intro b u m
    rcases List.mem_cons.mp m with e | m2
    · cases e; exact .inl ⟨rfl, rfl⟩
    · refine .inr ⟨fun e => ?_, List.mem_cons_of_mem _ m2⟩
      subst e
      exact (List.nodup_cons.mp nd).1 (List.mem_map.mpr ⟨_, m2, rfl⟩)
  | @there c r a o o' r' h ih =>
    intro b u m
    obtain ⟨n1, n2⟩ := List.nodup_cons.mp nd
    rcases List.mem_cons.mp m with e | m
    · subst e
      refine .inr ⟨fun e => ?_, List.mem_cons_self⟩
      exact n1 (List.mem_map.mpr ⟨_, h.mem, e.symm⟩)
    · rcases ih n2 b u m with z | ⟨z1, z2⟩
      · exact .inl z
      · exact .inr ⟨z1, List.mem_cons_of_mem _ z2⟩
  | @app s r a o o' r' h ih =>
    intro b u m
    rw [adr_app] at nd
    obtain ⟨n1, n2, n3⟩ := List.nodup_append.mp nd
    rcases List.mem_append.mp m with m | m
    · refine .inr ⟨fun e => ?_, List.mem_append_left _ m⟩
      subst e
      exact n3 _ (List.mem_map.mpr ⟨_, m, rfl⟩) _ (List.mem_map.mpr ⟨_, h.mem, rfl⟩) rfl
    · rcases ih n2 b u m with z | ⟨z1, z2⟩
      · exact .inl z
      · exact .inr ⟨z1, List.mem_append_right _ z2⟩
  | @appl s r a o o' s' h ih =>
    intro b u m
    rw [adr_app] at nd
    obtain ⟨n1, n2, n3⟩ := List.nodup_append.mp nd
    rcases List.mem_append.mp m with m | m
    · rcases ih n1 b u m with z | ⟨z1, z2⟩
      · exact .inl z
      · exact .inr ⟨z1, List.mem_append_left _ z2⟩
    · refine .inr ⟨fun e => ?_, List.mem_append_right _ m⟩
      subst e
      exact n3 _ (List.mem_map.mpr ⟨_, h.mem, rfl⟩) _ (List.mem_map.mpr ⟨_, m, rfl⟩) rfl
def isTup : HO → Bool
  | .tup _ => true
  | _ => false
/-- a block of cells within, and the row with another block in its place -/
inductive Sub : Cells → Cells → Cells → Cells → Prop
  | all {s s'} : Sub s s s' s'
  | here {s s' r} : Sub (s ++ r) s s' (s' ++ r)
  | one {c s' r} : Sub (c :: r) [c] s' (s' ++ r)
  | two {c d s' r} : Sub (c :: d :: r) [c, d] s' (s' ++ r)
  | nil {r s'} : Sub r [] s' (s' ++ r)
  | there {c r s s' r'} : Sub r s s' r' → Sub (c :: r) s s' (c :: r')
  | app {t r s s' r'} : Sub r s s' r' → Sub (t ++ r) s s' (t ++ r')
  | appl {t r s s' t'} : Sub t s s' t' → Sub (t ++ r) s s' (t' ++ r)
theorem Sub.split {cs s s' cs' : Cells} (h : Sub cs s s' cs') : ∃ l r, cs = l ++ (s ++ r) ∧ cs' = l ++ (s' ++ r) := by
  induction h with
  | all => exact ⟨[], [], by simp, by simp⟩
  | here => exact ⟨[], _, rfl, rfl⟩
  | one => exact ⟨[], _, rfl, rfl⟩
  | two => exact ⟨[], _, rfl, rfl⟩
  | nil => exact ⟨[], _, rfl, rfl⟩
  | @there c r s s' r' _ ih =>
    obtain ⟨l, t, e1, e2⟩ := ih
    exact ⟨c :: l, t, by rw [e1]; rfl, by rw [e2]; rfl⟩
  | @app t r s s' r' _ ih =>
    obtain ⟨l, q, e1, e2⟩ := ih
    exact ⟨t ++ l, q, by rw [e1, List.append_assoc], by rw [e2, List.append_assoc]⟩
  | @appl t r s s' t' _ ih =>
    obtain ⟨l, q, e1, e2⟩ := ih
    exact ⟨l, q ++ r, by rw [e1]; simp only [List.append_assoc], by rw [e2]; simp only [List.append_assoc]⟩
section
variable {H0 H H' : Hp} {A : List Addr} {cs cs' s s' : Cells} {a p : Addr} {o o' : HO}
theorem Own.get (O : Own H0 H A cs) (m : (a, o) ∈ cs) : H a = some o := O.at_ a o m
theorem Own.tup {t : Addr} {xs : List V} (O : Own H0 H A cs) (h : H0 t = some (.tup xs)) : H t = some (.tup xs) := O.tp t xs h
/-- a cell is written -/
theorem Own.wr (O : Own H0 H A cs) (h : At cs a o o' cs') (n : isTup o = false := by rfl) : Own H0 (upd H a o') A cs' := by
  have ha := O.at_ a o h.mem
  refine ⟨fun b u m => ?_, by rw [h.adr]; exact O.nd, fun b u e hb => ?_, fun b m => O.nw b (by rw [← h.adr]; exact m), fun b xs e => ?_⟩
  · rcases h.of O.nd b u m with ⟨rfl, rfl⟩ | ⟨e, m⟩
    · exact upd_same
    · rw [upd_ne e]; exact O.at_ b u m
  · rw [upd_ne]
    · exact O.fr b u e hb
    · rintro rfl
      rcases O.nw b (List.mem_map.mpr ⟨_, h.mem, rfl⟩) with z | z
      · exact hb z
      · rw [z] at e; cases e
  · have e1 := O.tp b xs e
    rw [upd_ne]
    · exact e1
    · rintro rfl
      rw [e1] at ha
      cases ha
      cases n
/-- a new cell -/
theorem Own.new (O : Own H0 H A cs) (h : H p = none) : Own H0 (upd H p o) A ((p, o) :: cs) := by
  have hn : p ∉ adr cs := fun m => by
    obtain ⟨c, hc, e⟩ := List.mem_map.mp m
    have := O.at_ c.1 c.2 hc
    rw [e, h] at this
    cases this
  have ne : ∀ b u, H b = some u → b ≠ p := fun b u e z => by rw [z, h] at e; cases e
  by_cases hA : p ∈ A
  · refine ⟨fun b u m => ?_, List.nodup_cons.mpr ⟨hn, O.nd⟩, fun b u e hb => ?_, fun b m => ?_, fun b xs e => ?_⟩
    · rcases List.mem_cons.mp m with z | z
      · cases z; exact upd_same
      · rw [upd_ne (ne b u (O.at_ b u z))]; exact O.at_ b u z
    · rw [upd_ne (ne b u (O.fr b u e hb))]; exact O.fr b u e hb
    · rcases List.mem_cons.mp m with z | z
      · exact .inl (by rw [z]; exact hA)
      · exact O.nw b z
    · rw [upd_ne (ne b _ (O.tp b xs e))]; exact O.tp b xs e
  · have h0 : H0 p = none := by
      cases q : H0 p with
      | none => rfl
      | some u =>
        rw [O.fr p u q hA] at h
        cases h
    refine ⟨fun b u m => ?_, List.nodup_cons.mpr ⟨hn, O.nd⟩, fun b u e hb => ?_, fun b m => ?_, fun b xs e => ?_⟩
    · rcases List.mem_cons.mp m with z | z
      · cases z; exact upd_same
      · rw [upd_ne (ne b u (O.at_ b u z))]; exact O.at_ b u z
    · rw [upd_ne (ne b u (O.fr b u e hb))]; exact O.fr b u e hb
    · rcases List.mem_cons.mp m with z | z
      · exact .inr (by rw [z]; exact h0)
      · exact O.nw b z
    · rw [upd_ne (ne b _ (O.tp b xs e))]; exact O.tp b xs e
/-- a new tuple: it needs no owner -/
theorem Own.newT (O : Own H0 H A cs) (h : H p = none) : Own H0 (upd H p o) A cs :=
  have O' := O.new (o := o) h
  ⟨fun b u m => O'.at_ b u (List.mem_cons_of_mem _ m), O.nd, O'.fr, O.nw, O'.tp⟩
/-- fewer cells -/
theorem Own.drop (O : Own H0 H A cs) (h : List.Sublist cs' cs) : Own H0 H A cs' :=
  ⟨fun b u m => O.at_ b u (h.subset m), O.nd.sublist (h.map _), O.fr, fun b m => O.nw b ((h.map _).subset m), O.tp⟩
theorem Own.perm (O : Own H0 H A cs) (h : cs.Perm cs') : Own H0 H A cs' :=
  ⟨fun b u m => O.at_ b u (h.mem_iff.mpr m), (h.map _).nodup_iff.mp O.nd, O.fr, fun b m => O.nw b ((h.map _).mem_iff.mpr m), O.tp⟩
/-- a block of it, as what a callee is handed -/
theorem Own.blk (O : Own H0 H A cs) (h : Sub cs s s' cs') : Own H H (adr s) s := by
  obtain ⟨l, r, rfl, _⟩ := h.split
  have nd := O.nd
  rw [adr_app, adr_app] at nd
  exact ⟨fun b u m => O.at_ b u (List.mem_append_right _ (List.mem_append_left _ m)), (List.nodup_append.mp (List.nodup_append.mp nd).2.1).1, fun _ _ e _ => e, fun _ m => .inl m, fun _ _ e => e⟩
/-- behind the call -/
theorem Own.call (O : Own H0 H A cs) (h : Sub cs s s' cs') (C : Own H H' (adr s) s') : Own H0 H' A cs' := by
  obtain ⟨l, r, rfl, rfl⟩ := h.split
  have nd := O.nd
  simp only [adr_app] at nd
  obtain ⟨n1, n2, n3⟩ := List.nodup_append.mp nd
  obtain ⟨n4, n5, n6⟩ := List.nodup_append.mp n2
  have out : ∀ b u, ((b, u) ∈ l ∨ (b, u) ∈ r) → H' b = some u := fun b u m => by
    have hb : b ∉ adr s := fun z => by
      rcases m with m | m
      · exact n3 b (List.mem_map.mpr ⟨_, m, rfl⟩) b (List.mem_append_left _ z) rfl
      · exact n6 b z b (List.mem_map.mpr ⟨_, m, rfl⟩) rfl
    refine C.fr b u (O.at_ b u ?_) hb
    rcases m with m | m
    · exact List.mem_append_left _ m
    · exact List.mem_append_right _ (List.mem_append_right _ m)
  have sep : ∀ b, b ∈ adr s' → (b ∈ adr l ∨ b ∈ adr r) → False := fun b m z => by
    obtain ⟨u, hu⟩ : ∃ u, ((b, u) ∈ l ∨ (b, u) ∈ r) := by
      rcases z with z | z
      · obtain ⟨c, hc, e⟩ := List.mem_map.mp z
        exact ⟨c.2, .inl (by rw [← e]; exact hc)⟩
      · obtain ⟨c, hc, e⟩ := List.mem_map.mp z
        exact ⟨c.2, .inr (by rw [← e]; exact hc)⟩
    rcases C.nw b m with q | q
    · rcases z with z | z
      · exact n3 b z b (List.mem_append_left _ q) rfl
      · exact n6 b q b z rfl
    · have e : H b = some u := O.at_ b u (by
        rcases hu with m | m
        · exact List.mem_append_left _ m
        · exact List.mem_append_right _ (List.mem_append_right _ m))
      rw [q] at e
      cases e
  refine ⟨fun b u m => ?_, ?_, fun b u e hb => ?_, fun b m => ?_, fun b xs e => C.tp b xs (O.tp b xs e)⟩
  · rcases List.mem_append.mp m with m | m
    · exact out b u (.inl m)
    · rcases List.mem_append.mp m with m | m
      · exact C.at_ b u m
      · exact out b u (.inr m)
  · simp only [adr_app]
    refine List.nodup_append.mpr ⟨n1, List.nodup_append.mpr ⟨C.nd, n5, fun x hx y hy e => ?_⟩, fun x hx y hy e => ?_⟩
    · subst e
      exact sep x hx (.inr hy)
    · subst e
      rcases List.mem_append.mp hy with z | z
      · exact sep x z (.inl hx)
      · exact n3 x hx x (List.mem_append_right _ z) rfl
  · refine C.fr b u (O.fr b u e hb) fun z => ?_
    rcases O.nw b (by simp only [adr_app]; exact List.mem_append_right _ (List.mem_append_left _ z)) with q | q
    · exact hb q
    · rw [q] at e
      cases e
  · simp only [adr_app] at m
    rcases List.mem_append.mp m with m | m
    · exact O.nw b (by simp only [adr_app]; exact List.mem_append_left _ m)
    · rcases List.mem_append.mp m with m | m
      · rcases C.nw b m with z | z
        · exact O.nw b (by simp only [adr_app]; exact List.mem_append_right _ (List.mem_append_left _ z))
        · by_cases hA : b ∈ A
          · exact .inl hA
          · refine .inr ?_
            cases q : H0 b with
            | none => rfl
            | some u =>
              rw [O.fr b u q hA] at z
              cases z
      · exact O.nw b (by simp only [adr_app]; exact List.mem_append_right _ (List.mem_append_right _ m))
end
end Ow
namespace Ow
open PySem PySem.Spec PyProof.Rows L2
/-! ### where a walk stops -/
structure Box (p : Prop) : Prop where
  out : p
theorem PE.box {X : Cx} {e : Expr} {t : TE} (h : PE X e t) : PE X e (fun σ H Q => t σ H fun v H1 => Box (Q v H1)) :=
  ⟨fun pins s σ H Q I q => thn (h.run pins s σ H _ I q) fun _ _ ⟨x, H1, I1, r1, q1⟩ => ⟨x, H1, I1, r1, q1.out⟩⟩
theorem PA.box {X : Cx} {es : List Expr} {t : TA} (h : PA X es t) : PA X es (fun σ H Q => t σ H fun v H1 => Box (Q v H1)) :=
  ⟨fun pos pins s σ H Q I q => thn (h.run pos pins s σ H _ I q) fun _ _ ⟨x, H1, I1, r1, q1⟩ => ⟨x, H1, I1, r1, q1.out⟩⟩
theorem PI.box {X : Cx} {tg e : Expr} {w : TI} (h : PI X tg e w) : PI X tg e (fun σ H R => w σ H fun J H1 => Box (R J H1)) :=
  ⟨fun pins s σ H R I q => thn (h.run pins s σ H _ I q) fun _ _ h1 => thn h1 fun _ _ ⟨it, fp, tn, J, H', e, I', T, t0, f, r⟩ => ⟨it, fp, tn, J, H', e, I', T, t0, f, r.out⟩⟩
/-- a reading as it stands, not reckoned out -/
def tW (t : TS) : TS := t
theorem PS.box {X : Cx} {st : Stmt} {t : TS} (h : PS X st t) : PS X st (fun D σ H => Box (tW t D σ H)) :=
  ⟨fun pins s σ H D I q => h.run pins s σ H D I q.out⟩
theorem PE.alt {X : Cx} {e : Expr} {t u : TE} (h : PE X e t) (h' : PE X e u) : PE X e (fun σ H Q => t σ H Q ∨ u σ H Q) :=
  ⟨fun pins s σ H Q I q => q.elim (h.run pins s σ H Q I) (h'.run pins s σ H Q I)⟩
/-- a promise that a walk stops at -/
def bx (sp : Sp) : Sp := fun vs H Q E => Box (sp vs H Q E)
/-- of a def that nobody calls: nothing may be asked -/
def spWall : Sp := fun _ _ _ _ => False
/-- a def that may be called: it keeps its promise -/
structure Cee (P : Program) (w : World) (K : PySem.W.Frag) (mg : Str → Option Value) (base : Heap) (k : Nat) (f : Addr) (ps : List Str) (sp : Sp) : Prop where
  kp : PySem.W.keepIn K (.ref f) = true
  fn : ∃ fd, FnOk P w K mg base (L2.CX P w) k f fd ps (bx sp) ∧ Binds K fd ps []
section
variable {P : Program} {w : World} {K : PySem.W.Frag} {mg : Str → Option Value} {base : Heap}
theorem cee_of {x qual : Str} {params : Arguments} {body : List Stmt} {scope : Scope} {f : Addr} {N ps : List Str} {k : Nat} {sp : Sp} (F : ∃ fd, FunD K x qual params body scope [] [] f fd) (S : FnScope N ps scope)
    (hb : ∀ (kV doc pm : Value) (an : Option Addr) (cdv ct : Value) (us : List Value), us.length = ps.length → bindArgs (PySem.W.fnOf x qual params body scope .none kV doc pm an cdv ct) ⟨us, []⟩ = pure (ps.zip us))
    (len : ∀ vs H Q E, sp vs H Q E → vs.length = ps.length)
    (hbody : ∀ (cdv : Value) (A : Around) (outer : List Env) (s : Shared) (H : Hp) (vs : List V) (Q : VK) (E : XK), Room k (A.deeper (envOfC qual scope s.heap.objs.size f cdv)) → sp vs H Q E →
      ∃ t, PSs (cxOf (L2.CX P w) P w K mg base N qual scope f cdv A outer s H E) body t ∧ t { nx := fun _ H' => Q .non H', rt := Q } (start N vs) H) : Cee P w K mg base (k + 1) f ps sp := by
  obtain ⟨fd, F⟩ := F
  exact ⟨F.kp, fd, FunD.ok F S (fun vs H Q E h => len vs H Q E h.out) (fun cdv A outer s H vs Q E hr h => hbody cdv A outer s H vs Q E hr h.out), F.bindsN hb⟩
end
section
variable {X : Cx} {k : Nat} {f C : Addr} {ps : List Str} {sp : Sp} {W : WX} {x m : Str} {p pos apos : Pos} {e o : Expr} {es : List Expr} {ta : TE} {t : TA}
theorem pe_f (c : Cee X.prog X.w X.K X.mg X.base k f ps sp) (hr : Room k X.A) (tk : Takes X W) (hg : Gl X x) (hm : X.mg x = some (.ref f)) (ha : PA X (e :: es) t) (hdb : (x == ("__debug__" : Str)) = false := by decide)
    (he : starEach (e :: es) X.env = (false, eval e X.env) :: starEach es X.env := by rfl) (hpl : (backTo pos (starEach es X.env)).any (·.1) = false := by rfl) :
    PE X (.Call (.Name x p) (e :: es) [] pos) (tCallS (bx sp) (WE W) t) := by
  obtain ⟨fd, F, b⟩ := c.fn
  exact pe_callS F hr hg hm c.kp b (fun σ => passAt tk σ) ha hdb he hpl
theorem pe_f0 (c : Cee X.prog X.w X.K X.mg X.base k f ps sp) (hr : Room k X.A) (tk : Takes X W) (hg : Gl X x) (hm : X.mg x = some (.ref f)) (hdb : (x == ("__debug__" : Str)) = false := by decide) :
    PE X (.Call (.Name x p) [] [] pos) (fun σ H Q => bx sp [] H Q (WE W σ)) := by
  obtain ⟨fd, F, b⟩ := c.fn
  refine ⟨fun pins s σ H Q I h => ?_⟩
  refine wpAny_Call_Name_kw (ld_glob I hg hm ?_ hdb)
  exact PySem.W.callWith_K0 I.kIn c.kp (run_fnS (us := []) (E := WE W) F hr b (passAt tk σ) I .nil h)
/-- o.m(e, ..) -/
def tM (C : Addr) (m : Str) (sp : Sp) (W : WX) (ta : TE) (t : TA) : TE := fun σ H Q => ta σ H fun x H1 => ∃ a dx fs, x = .ref a ∧ H1 a = some (.ins C dx fs) ∧ fs.lookup m = none ∧ t σ H1 fun vs H2 => bx sp (x :: vs) H2 Q (WE W σ)
theorem pe_m {pl : Sem Bool} (ho : PE X o ta) (cl : Cls X.K C) (hm : Meth X.K C m f) (c : Cee X.prog X.w X.K X.mg X.base k f ps sp) (hr : Room k X.A) (tk : Takes X W) (ha : PA X (e :: es) t)
    (hst : starEach (e :: es) X.env = (false, eval e X.env) :: starEach es X.env := by rfl) (hpl : (backTo pos (starEach es X.env)).any (·.1) = false := by rfl)
    (ht : eval (.Call (.Attribute o m apos) (e :: es) [] pos) X.env = (do
      let ov ← eval o X.env
      standAt apos.atName
      let (f, first) ← holding [ov] (getMethod ov m pl)
      callWith pos f first (backTo pos (starEach (e :: es) X.env)) (backToKw pos (keywordEach [] X.env))) := by rfl) :
    PE X (.Call (.Attribute o m apos) (e :: es) [] pos) (tM C m sp W ta t) := by
  obtain ⟨fd, F, b⟩ := c.fn
  refine ⟨fun pins s σ H Q I h => ?_⟩
  refine PySem.W.methodCall_KW (pl := pl) (thn (ho.run pins s σ H _ I h) fun u s1 ⟨y, H1, I1, ry, a, dx, fs, ey, ea, l, q⟩ => ?_) ht
  subst ey
  obtain rfl : u = Value.ref a := ry
  refine getmeth_ok I1 ea cl hm l ?_
  refine PySem.W.callWith_K (first := [.ref a]) (h₀ := X.base) I.ok.mod.kin hm.kp (thn (ha.run pos pins s1 σ H1 _ I1 q) fun us s2 ⟨vs, H2, I2, rv, q2⟩ => ⟨I2.kIn, ?_⟩) hst hpl
  exact run_fnS (us := .ref a :: us) (vs := .ref a :: vs) (E := WE W) F hr b (passAt tk σ) I2 (.cons rfl rv) q2
def tM0 (C : Addr) (m : Str) (sp : Sp) (W : WX) (ta : TE) : TE := fun σ H Q => ta σ H fun x H1 => ∃ a dx fs, x = .ref a ∧ H1 a = some (.ins C dx fs) ∧ fs.lookup m = none ∧ bx sp [x] H1 Q (WE W σ)
theorem pe_m0 {pl : Sem Bool} (ho : PE X o ta) (cl : Cls X.K C) (hm : Meth X.K C m f) (c : Cee X.prog X.w X.K X.mg X.base k f ps sp) (hr : Room k X.A) (tk : Takes X W)
    (ht : eval (.Call (.Attribute o m apos) [] [] pos) X.env = (do
      let ov ← eval o X.env
      standAt apos.atName
      let (f, first) ← holding [ov] (getMethod ov m pl)
      callWith pos f first (backTo pos (starEach [] X.env)) (backToKw pos (keywordEach [] X.env))) := by rfl) :
    PE X (.Call (.Attribute o m apos) [] [] pos) (tM0 C m sp W ta) := by
  obtain ⟨fd, F, b⟩ := c.fn
  refine ⟨fun pins s σ H Q I h => ?_⟩
  refine PySem.W.methodCall_KW (pl := pl) (thn (ho.run pins s σ H _ I h) fun u s1 ⟨y, H1, I1, ry, a, dx, fs, ey, ea, l, q⟩ => ?_) ht
  subst ey
  obtain rfl : u = Value.ref a := ry
  refine getmeth_ok I1 ea cl hm l ?_
  exact PySem.W.callWith_K0 (first := [.ref a]) I1.kIn hm.kp (run_fnS (us := [.ref a]) (vs := [.ref a]) (E := WE W) F hr b (passAt tk σ) I1 (.cons rfl .nil) q)
/-- C(e, ..): its __init__ lets nothing out -/
theorem pe_n (M : Mk X.K C f) (c : Cee X.prog X.w X.K X.mg X.base k f ps sp) (hr : Room (k + 1) X.A) (hg : Gl X x) (hm : X.mg x = some (.ref C)) (ha : PA X (e :: es) t) (hdb : (x == ("__debug__" : Str)) = false := by decide)
    (he : starEach (e :: es) X.env = (false, eval e X.env) :: starEach es X.env := by rfl) (hpl : (backTo pos (starEach es X.env)).any (·.1) = false := by rfl) :
    PE X (.Call (.Name x p) (e :: es) [] pos) (tMake C (bx sp) [] E0 t) := by
  obtain ⟨fd, F, b⟩ := c.fn
  exact pe_make M F hr hg hm b .nil passL ha hdb he hpl
theorem pe_n0 (M : Mk X.K C f) (c : Cee X.prog X.w X.K X.mg X.base k f ps sp) (hr : Room (k + 1) X.A) (hg : Gl X x) (hm : X.mg x = some (.ref C)) (hdb : (x == ("__debug__" : Str)) = false := by decide) :
    PE X (.Call (.Name x p) [] [] pos) (tMake C (bx sp) [] E0 tNil) := by
  obtain ⟨fd, F, b⟩ := c.fn
  exact pe_make0 M F hr hg hm b .nil passL hdb
end
/-! ### what a closer knows -/
theorem sl_of {σ : List (Option V)} {i : Nat} {v : V} (h : σ[i]? = some (some v)) : σ[i]? = some (some v) := h
theorem veq_of {x y : V} (h : x = y) : x = y := h
theorem lsq_of {x y : List V} (h : x = y) : x = y := h
theorem sc_of {x y : V} (h : scal x y = true) : scal x y = true := h
theorem lk_of {fs : List (Str × V)} {f : Str} {v : V} (h : fs.lookup f = some v) : fs.lookup f = some v := h
theorem lkn_of {fs : List (Str × V)} {f : Str} (h : fs.lookup f = none) : fs.lookup f = none := h
theorem lt_of {fs : List (Str × V)} (h : fs.length < 1000) : fs.length < 1000 := h
theorem hp_of {H : Hp} {a : Addr} {o : HO} (h : H a = some o) : H a = some o := h
theorem cd_of {i j : Int} (h : 0 < j ∧ j < 1073741824) : CDiv i j := h
theorem cm_l {i j : Int} (h : -(2 ^ 64) < i ∧ i < 2 ^ 64) : CMul i j := .inl h
theorem cm_r {i j : Int} (h : -(2 ^ 64) < j ∧ j < 2 ^ 64) : CMul i j := .inr h
theorem sz_le {n : Nat} (h : n ≤ 100000) : n ≤ sizeLine := Nat.le_trans h (by decide)
theorem sz_lt {n : Nat} (h : n < 100000) : n < sizeLine := Nat.lt_of_lt_of_le h (by decide)
/-! ### tests -/
theorem if_d {p A B : Prop} [Decidable p] (h1 : p → A) (h2 : ¬ p → B) : if decide p = true then A else B := by
  by_cases h : p
  · rw [if_pos (decide_eq_true h)]; exact h1 h
  · rw [if_neg (by rw [decide_eq_false h]; exact Bool.false_ne_true)]; exact h2 h
theorem if_nd {p A B : Prop} [Decidable p] (h1 : ¬ p → A) (h2 : p → B) : if (!decide p) = true then A else B := by
  by_cases h : p
  · rw [decide_eq_true h, if_neg (by decide)]; exact h2 h
  · rw [decide_eq_false h, if_pos (by decide)]; exact h1 h
theorem if_ii {a b : Int} {A B : Prop} (h1 : a = b → A) (h2 : ¬ a = b → B) : if decide (V.int a = V.int b) = true then A else B :=
  if_d (fun h => h1 (V.int.inj h)) fun h => h2 fun e => h (by rw [e])
theorem if_nii {a b : Int} {A B : Prop} (h1 : ¬ a = b → A) (h2 : a = b → B) : if (!decide (V.int a = V.int b)) = true then A else B :=
  if_nd (fun h => h1 fun e => h (by rw [e])) fun h => h2 (V.int.inj h)
theorem if_ss {a b : Str} {A B : Prop} (h1 : a = b → A) (h2 : ¬ a = b → B) : if decide (V.str a = V.str b) = true then A else B :=
  if_d (fun h => h1 (V.str.inj h)) fun h => h2 fun e => h (by rw [e])
theorem if_nss {a b : Str} {A B : Prop} (h1 : ¬ a = b → A) (h2 : a = b → B) : if (!decide (V.str a = V.str b)) = true then A else B :=
  if_nd (fun h => h1 fun e => h (by rw [e])) fun h => h2 (V.str.inj h)
theorem if_b {b : Bool} {A B : Prop} (h1 : b = true → A) (h2 : b = false → B) : if b = true then A else B := by
  cases b with
  | true => exact h1 rfl
  | false => exact h2 rfl
theorem if_nb {b : Bool} {A B : Prop} (h1 : b = false → A) (h2 : b = true → B) : if (!b) = true then A else B := by
  cases b with
  | true => exact h2 rfl
  | false => exact h1 rfl
theorem kt_int_int {K : PySem.W.Frag} : PySem.W.kitOne K (.type "int") (.type "int") = some true := kit_ty (by decide +kernel)
theorem kt_int_bool {K : PySem.W.Frag} : PySem.W.kitOne K (.type "int") (.type "bool") = some false := kit_ty (by decide +kernel)
theorem kt_int_str {K : PySem.W.Frag} : PySem.W.kitOne K (.type "int") (.type "str") = some false := kit_ty (by decide +kernel)
theorem kt_int_list {K : PySem.W.Frag} : PySem.W.kitOne K (.type "int") (.type "list") = some false := kit_ty (by decide +kernel)
theorem kt_int_tuple {K : PySem.W.Frag} : PySem.W.kitOne K (.type "int") (.type "tuple") = some false := kit_ty (by decide +kernel)
theorem kt_int_dict {K : PySem.W.Frag} : PySem.W.kitOne K (.type "int") (.type "dict") = some false := kit_ty (by decide +kernel)
theorem kt_bool_int {K : PySem.W.Frag} : PySem.W.kitOne K (.type "bool") (.type "int") = some true := kit_ty (by decide +kernel)
theorem kt_bool_bool {K : PySem.W.Frag} : PySem.W.kitOne K (.type "bool") (.type "bool") = some true := kit_ty (by decide +kernel)
theorem kt_bool_str {K : PySem.W.Frag} : PySem.W.kitOne K (.type "bool") (.type "str") = some false := kit_ty (by decide +kernel)
theorem kt_bool_list {K : PySem.W.Frag} : PySem.W.kitOne K (.type "bool") (.type "list") = some false := kit_ty (by decide +kernel)
theorem kt_bool_tuple {K : PySem.W.Frag} : PySem.W.kitOne K (.type "bool") (.type "tuple") = some false := kit_ty (by decide +kernel)
theorem kt_bool_dict {K : PySem.W.Frag} : PySem.W.kitOne K (.type "bool") (.type "dict") = some false := kit_ty (by decide +kernel)
theorem kt_str_int {K : PySem.W.Frag} : PySem.W.kitOne K (.type "str") (.type "int") = some false := kit_ty (by decide +kernel)
theorem kt_str_bool {K : PySem.W.Frag} : PySem.W.kitOne K (.type "str") (.type "bool") = some false := kit_ty (by decide +kernel)
theorem kt_str_str {K : PySem.W.Frag} : PySem.W.kitOne K (.type "str") (.type "str") = some true := kit_ty (by decide +kernel)
theorem kt_str_list {K : PySem.W.Frag} : PySem.W.kitOne K (.type "str") (.type "list") = some false := kit_ty (by decide +kernel)
theorem kt_str_tuple {K : PySem.W.Frag} : PySem.W.kitOne K (.type "str") (.type "tuple") = some false := kit_ty (by decide +kernel)
theorem kt_str_dict {K : PySem.W.Frag} : PySem.W.kitOne K (.type "str") (.type "dict") = some false := kit_ty (by decide +kernel)
theorem kt_list_int {K : PySem.W.Frag} : PySem.W.kitOne K (.type "list") (.type "int") = some false := kit_ty (by decide +kernel)
theorem kt_list_bool {K : PySem.W.Frag} : PySem.W.kitOne K (.type "list") (.type "bool") = some false := kit_ty (by decide +kernel)
theorem kt_list_str {K : PySem.W.Frag} : PySem.W.kitOne K (.type "list") (.type "str") = some false := kit_ty (by decide +kernel)
theorem kt_list_list {K : PySem.W.Frag} : PySem.W.kitOne K (.type "list") (.type "list") = some true := kit_ty (by decide +kernel)
theorem kt_list_tuple {K : PySem.W.Frag} : PySem.W.kitOne K (.type "list") (.type "tuple") = some false := kit_ty (by decide +kernel)
theorem kt_list_dict {K : PySem.W.Frag} : PySem.W.kitOne K (.type "list") (.type "dict") = some false := kit_ty (by decide +kernel)
theorem kt_tuple_int {K : PySem.W.Frag} : PySem.W.kitOne K (.type "tuple") (.type "int") = some false := kit_ty (by decide +kernel)
theorem kt_tuple_bool {K : PySem.W.Frag} : PySem.W.kitOne K (.type "tuple") (.type "bool") = some false := kit_ty (by decide +kernel)
theorem kt_tuple_str {K : PySem.W.Frag} : PySem.W.kitOne K (.type "tuple") (.type "str") = some false := kit_ty (by decide +kernel)
theorem kt_tuple_list {K : PySem.W.Frag} : PySem.W.kitOne K (.type "tuple") (.type "list") = some false := kit_ty (by decide +kernel)
theorem kt_tuple_tuple {K : PySem.W.Frag} : PySem.W.kitOne K (.type "tuple") (.type "tuple") = some true := kit_ty (by decide +kernel)
theorem kt_tuple_dict {K : PySem.W.Frag} : PySem.W.kitOne K (.type "tuple") (.type "dict") = some false := kit_ty (by decide +kernel)
theorem kt_dict_int {K : PySem.W.Frag} : PySem.W.kitOne K (.type "dict") (.type "int") = some false := kit_ty (by decide +kernel)
theorem kt_dict_bool {K : PySem.W.Frag} : PySem.W.kitOne K (.type "dict") (.type "bool") = some false := kit_ty (by decide +kernel)
theorem kt_dict_str {K : PySem.W.Frag} : PySem.W.kitOne K (.type "dict") (.type "str") = some false := kit_ty (by decide +kernel)
theorem kt_dict_list {K : PySem.W.Frag} : PySem.W.kitOne K (.type "dict") (.type "list") = some false := kit_ty (by decide +kernel)
theorem kt_dict_tuple {K : PySem.W.Frag} : PySem.W.kitOne K (.type "dict") (.type "tuple") = some false := kit_ty (by decide +kernel)
theorem kt_dict_dict {K : PySem.W.Frag} : PySem.W.kitOne K (.type "dict") (.type "dict") = some true := kit_ty (by decide +kernel)
theorem kt_NoneType_int {K : PySem.W.Frag} : PySem.W.kitOne K (.type "NoneType") (.type "int") = some false := kit_ty (by decide +kernel)
theorem kt_NoneType_bool {K : PySem.W.Frag} : PySem.W.kitOne K (.type "NoneType") (.type "bool") = some false := kit_ty (by decide +kernel)
theorem kt_NoneType_str {K : PySem.W.Frag} : PySem.W.kitOne K (.type "NoneType") (.type "str") = some false := kit_ty (by decide +kernel)
theorem kt_NoneType_list {K : PySem.W.Frag} : PySem.W.kitOne K (.type "NoneType") (.type "list") = some false := kit_ty (by decide +kernel)
theorem kt_NoneType_tuple {K : PySem.W.Frag} : PySem.W.kitOne K (.type "NoneType") (.type "tuple") = some false := kit_ty (by decide +kernel)
theorem kt_NoneType_dict {K : PySem.W.Frag} : PySem.W.kitOne K (.type "NoneType") (.type "dict") = some false := kit_ty (by decide +kernel)
end Ow
namespace Ow
open PySem PySem.Spec PyProof.Rows L2
def XcIn (K : PySem.W.Frag) (C : Addr) : Prop := PySem.W.excIn K C He.veBase "ValueError.__new__" = true ∧ PySem.W.keepIn K (.ref C) = true ∧ PySem.W.subIn K (.ref C) (.type "BaseException") = some true ∧ PySem.W.typeIn K (.ref C) = some (.type "type")
theorem gI {mg : Str → Option Value} {x : Str} {i : Int} (h : ∃ t, mg x = some (.int i t)) : ∃ u, mg x = some u ∧ RelV (.int i) u := let ⟨t, e⟩ := h; ⟨_, e, t, rfl⟩
theorem gS {mg : Str → Option Value} {x z : Str} (h : ∃ t, mg x = some (.str z t)) : ∃ u, mg x = some u ∧ RelV (.str z) u := let ⟨t, e⟩ := h; ⟨_, e, t, rfl⟩
/-! ### promises by the number of arguments -/
def sp0 (f : Hp → VK → XK → Prop) : Sp := fun vs H Q E => vs = [] ∧ f H Q E
def sp1 (f : V → Hp → VK → XK → Prop) : Sp := fun vs H Q E => ∃ a, vs = [a] ∧ f a H Q E
def sp2 (f : V → V → Hp → VK → XK → Prop) : Sp := fun vs H Q E => ∃ a b, vs = [a, b] ∧ f a b H Q E
def sp3 (f : V → V → V → Hp → VK → XK → Prop) : Sp := fun vs H Q E => ∃ a b c, vs = [a, b, c] ∧ f a b c H Q E
def sp4 (f : V → V → V → V → Hp → VK → XK → Prop) : Sp := fun vs H Q E => ∃ a b c d, vs = [a, b, c, d] ∧ f a b c d H Q E
def sp5 (f : V → V → V → V → V → Hp → VK → XK → Prop) : Sp := fun vs H Q E => ∃ a b c d e, vs = [a, b, c, d, e] ∧ f a b c d e H Q E
section
variable {vs : List V} {H : Hp} {Q : VK} {E : XK} {a b c d e : V}
theorem sp0_len {f} (h : sp0 f vs H Q E) : vs.length = 0 := by obtain ⟨rfl, _⟩ := h; rfl
theorem sp1_len {f} (h : sp1 f vs H Q E) : vs.length = 1 := by obtain ⟨_, rfl, _⟩ := h; rfl
theorem sp2_len {f} (h : sp2 f vs H Q E) : vs.length = 2 := by obtain ⟨_, _, rfl, _⟩ := h; rfl
theorem sp3_len {f} (h : sp3 f vs H Q E) : vs.length = 3 := by obtain ⟨_, _, _, rfl, _⟩ := h; rfl
theorem sp4_len {f} (h : sp4 f vs H Q E) : vs.length = 4 := by obtain ⟨_, _, _, _, rfl, _⟩ := h; rfl
theorem sp5_len {f} (h : sp5 f vs H Q E) : vs.length = 5 := by obtain ⟨_, _, _, _, _, rfl, _⟩ := h; rfl
theorem ask0 {f} (h : f H Q E) : Box (sp0 f [] H Q E) := ⟨rfl, h⟩
theorem ask1 {f} (h : f a H Q E) : Box (sp1 f [a] H Q E) := ⟨_, rfl, h⟩
theorem ask2 {f} (h : f a b H Q E) : Box (sp2 f [a, b] H Q E) := ⟨_, _, rfl, h⟩
theorem ask3 {f} (h : f a b c H Q E) : Box (sp3 f [a, b, c] H Q E) := ⟨_, _, _, rfl, h⟩
theorem ask4 {f} (h : f a b c d H Q E) : Box (sp4 f [a, b, c, d] H Q E) := ⟨_, _, _, _, rfl, h⟩
theorem ask5 {f} (h : f a b c d e H Q E) : Box (sp5 f [a, b, c, d, e] H Q E) := ⟨_, _, _, _, _, rfl, h⟩
end
end Ow
namespace Ow
open PySem PySem.Spec PyProof.Rows L2
theorem pe_gc {X : Cx} {x : Str} {pos : Pos} {v : V} (hg : Gl X x) (hm : ∃ u, X.mg x = some u ∧ RelV v u) (hd : (x == ("__debug__" : Str)) = false := by decide) : PE X (.Name x pos) (tC v) :=
  let ⟨_, e, r⟩ := hm
  pe_glob hg e r hd
end Ow
namespace Ow
open PySem PySem.Spec PyProof.Rows L2
section
variable {H0 H : Hp} {A : List Addr} {cs : Cells} {x dx C : Addr}
/-- a new instance -/
theorem Own.inst (O : Own H0 H A cs) (h1 : H x = none) (h2 : H dx = none) (ne : dx ≠ x) : Own H0 (upd (upd H dx (.own x)) x (.ins C dx [])) A ((x, .ins C dx []) :: cs) :=
  ((O.new (o := .own x) h2).new (o := .ins C dx []) (p := x) (by rw [upd_ne ne.symm]; exact h1)).drop (List.Sublist.cons₂ _ (List.Sublist.cons _ (List.Sublist.refl _)))
theorem Own.last {c : Addr × HO} (O : Own H0 H A (c :: cs)) : Own H0 H A (cs ++ [c]) := O.perm (List.perm_append_singleton c cs).symm
theorem Own.eq {cs' : Cells} (O : Own H0 H A cs) (e : cs = cs') : Own H0 H A cs' := e ▸ O
theorem Own.adr {A' : List Addr} (O : Own H0 H A cs) (e : A = A') : Own H0 H A' cs := e ▸ O
end
/-! ### loops -/
section
variable {K : PySem.W.Frag} {a : Addr} {xs : List V} {g : TG} {tb : TS} {D : Ends} {σ : L2.St} {H : Hp}
theorem forL (Pv : Nat → L2.St → Hp → Prop) (h0 : Pv 0 σ H) (hl : ∀ i σ H, i ≤ xs.length → Pv i σ H → SqL K H a xs)
    (hs : ∀ i x σ H, xs[i]? = some x → Pv i σ H → g x σ H fun σ2 H2 => tb { D with nx := fun σ H => Box (Pv (i + 1) σ H), ct := fun σ H => Box (Pv (i + 1) σ H), bk := D.nx } σ2 H2) (hd : ∀ σ H, Pv xs.length σ H → D.nx σ H) :
    Box (∃ W : Nat → Nat → L2.St → Hp → Prop, (∃ m, W 0 m σ H) ∧ ∀ i m σ H, W i m σ H →
      ((Itl K a).stop i H ∧ D.nx σ H) ∨ ((Itl K a).go i H ∧ ∃ N : L2.St → Hp → Prop, (∀ σ' H', N σ' H' → ∃ m', m' < m ∧ W (i + 1) m' σ' H') ∧ ∀ x H', (Itl K a).yld i H x H' → g x σ H' fun σ2 H2 => tb { D with nx := N, ct := N, bk := D.nx } σ2 H2)) :=
  ⟨for_list (fun i σ H => Box (Pv i σ H)) ⟨h0⟩ (fun i σ H hi p => hl i σ H hi p.out) (fun i x σ H hx p => hs i x σ H hx p.out) (fun σ H p => hd σ H p.out)⟩
theorem forT (Pv : Nat → L2.St → Hp → Prop) (h0 : Pv 0 σ H) (hl : ∀ i σ H, i ≤ xs.length → Pv i σ H → SqT K H a xs)
    (hs : ∀ i x σ H, xs[i]? = some x → Pv i σ H → g x σ H fun σ2 H2 => tb { D with nx := fun σ H => Box (Pv (i + 1) σ H), ct := fun σ H => Box (Pv (i + 1) σ H), bk := D.nx } σ2 H2) (hd : ∀ σ H, Pv xs.length σ H → D.nx σ H) :
    Box (∃ W : Nat → Nat → L2.St → Hp → Prop, (∃ m, W 0 m σ H) ∧ ∀ i m σ H, W i m σ H →
      ((Itt K a).stop i H ∧ D.nx σ H) ∨ ((Itt K a).go i H ∧ ∃ N : L2.St → Hp → Prop, (∀ σ' H', N σ' H' → ∃ m', m' < m ∧ W (i + 1) m' σ' H') ∧ ∀ x H', (Itt K a).yld i H x H' → g x σ H' fun σ2 H2 => tb { D with nx := N, ct := N, bk := D.nx } σ2 H2)) :=
  ⟨for_tup (fun i σ H => Box (Pv i σ H)) ⟨h0⟩ (fun i σ H hi p => hl i σ H hi p.out) (fun i x σ H hx p => hs i x σ H hx p.out) (fun σ H p => hd σ H p.out)⟩
theorem forR {lo : Int} {n : Nat} (Pv : Nat → L2.St → Hp → Prop) (h0 : Pv 0 σ H)
    (hs : ∀ i σ H, i < n → Pv i σ H → g (.int (lo + i)) σ H fun σ2 H2 => tb { D with nx := fun σ H => Box (Pv (i + 1) σ H), ct := fun σ H => Box (Pv (i + 1) σ H), bk := D.nx } σ2 H2) (hd : ∀ σ H, Pv n σ H → D.nx σ H) :
    Box (∃ W : Nat → Nat → L2.St → Hp → Prop, (∃ m, W 0 m σ H) ∧ ∀ i m σ H, W i m σ H →
      ((Itr lo n).stop i H ∧ D.nx σ H) ∨ ((Itr lo n).go i H ∧ ∃ N : L2.St → Hp → Prop, (∀ σ' H', N σ' H' → ∃ m', m' < m ∧ W (i + 1) m' σ' H') ∧ ∀ x H', (Itr lo n).yld i H x H' → g x σ H' fun σ2 H2 => tb { D with nx := N, ct := N, bk := D.nx } σ2 H2)) :=
  ⟨for_range (fun i σ H => Box (Pv i σ H)) ⟨h0⟩ (fun i σ H hi p => hs i σ H hi p.out) (fun σ H p => hd σ H p.out)⟩
theorem forC {lo c : Int} {n : Nat} (Pv : Nat → L2.St → Hp → Prop) (h0 : Pv 0 σ H)
    (hs : ∀ i σ H, i < n → Pv i σ H → g (.int (lo + (i : Nat) * c)) σ H fun σ2 H2 => tb { D with nx := fun σ H => Box (Pv (i + 1) σ H), ct := fun σ H => Box (Pv (i + 1) σ H), bk := D.nx } σ2 H2) (hd : ∀ σ H, Pv n σ H → D.nx σ H) :
    Box (∃ W : Nat → Nat → L2.St → Hp → Prop, (∃ m, W 0 m σ H) ∧ ∀ i m σ H, W i m σ H →
      ((Itc lo c n).stop i H ∧ D.nx σ H) ∨ ((Itc lo c n).go i H ∧ ∃ N : L2.St → Hp → Prop, (∀ σ' H', N σ' H' → ∃ m', m' < m ∧ W (i + 1) m' σ' H') ∧ ∀ x H', (Itc lo c n).yld i H x H' → g x σ H' fun σ2 H2 => tb { D with nx := N, ct := N, bk := D.nx } σ2 H2)) :=
  ⟨for_rangeC (fun i σ H => Box (Pv i σ H)) ⟨h0⟩ (fun i σ H hi p => hs i σ H hi p.out) (fun σ H p => hd σ H p.out)⟩
/-- a while, by a word with its measure -/
theorem whI {c : TT} (W : Nat → L2.St → Hp → Prop) (m0 : Nat) (h0 : W m0 σ H) (hs : ∀ m σ H, W m σ H → c σ H fun b H1 => if b = true then ∃ N : L2.St → Hp → Prop, (∀ σ' H', N σ' H' → ∃ m', m' < m ∧ W m' σ' H') ∧ tb { D with nx := N, ct := N, bk := D.nx } σ H1 else D.nx σ H1) :
    Box (tWhile c tb D σ H) := ⟨W, ⟨m0, h0⟩, hs⟩
theorem whN {W : Nat → L2.St → Hp → Prop} {m : Nat} (h : tb { D with nx := fun σ' H' => Box (∃ m', m' < m ∧ W m' σ' H'), ct := fun σ' H' => Box (∃ m', m' < m ∧ W m' σ' H'), bk := D.nx } σ H) :
    ∃ N : L2.St → Hp → Prop, (∀ σ' H', N σ' H' → ∃ m', m' < m ∧ W m' σ' H') ∧ tb { D with nx := N, ct := N, bk := D.nx } σ H := ⟨_, fun _ _ h => h.out, h⟩
end
end Ow
namespace Ow
open PySem PySem.Spec PyProof.Rows L2
theorem if_t {b : Bool} {A B : Prop} (h : b = true) (k : A) : if b = true then A else B := by rw [if_pos h]; exact k
theorem if_f {b : Bool} {A B : Prop} (h : b = false) (k : B) : if b = true then A else B := by rw [if_neg (by rw [h]; exact Bool.false_ne_true)]; exact k
end Ow
namespace Ow
open PySem PySem.Spec PyProof.Rows L2
theorem dget_v {H : Hp} {a : Addr} {kvs : List (Key × V)} {k : Key} {v : V} (h : H a = some (.dK kvs)) (e : valV kvs k = some v) : DGet H a (kV k) (some v) := e ▸ DGet.k h
end Ow
namespace Ow
open PySem PySem.Spec PyProof.Rows L2
theorem kl {i : Int} : V.int i = kV (Sum.inl i) := rfl
theorem kr {z : Str} : V.str z = kV (Sum.inr z) := rfl
end Ow
namespace Ow
open PySem PySem.Spec PyProof.Rows L2
/-! ### lists of whole numbers, compared -/
section
variable {K : PySem.W.Frag} {H : Hp} {a b : Addr}
theorem dpa_ints : ∀ ns : List Int, DpAll K H (ns.map V.int) (ns.map PyData.int)
  | [] => .nil
  | n :: r => .cons (.int n) (dpa_ints r)
theorem dp_ints {ns : List Int} (h : H a = some (.lst (ns.map V.int))) : Dp K H (.ref a) (.list (ns.map PyData.int)) := .lst (SqL.of h) (dpa_ints ns)
theorem depth_ints : ∀ ns : List Int, PyData.depthAll (ns.map PyData.int) ≤ 1
  | [] => by simp [PyData.depthAll]
  | n :: r => by
    have := depth_ints r
    simp only [List.map_cons, PyData.depthAll, PyData.depth]
    omega
theorem lay_ints : ∀ ns : List Int, PyData.canLayAll0 (ns.map PyData.int) = true
  | [] => by simp [PyData.canLayAll0]
  | n :: r => by simp [PyData.canLayAll0, PyData.canLay0, lay_ints r]
theorem sh_ints (ns : List Int) : SeqAt.shaped (.list (ns.map PyData.int)) = true := by
  have h1 := depth_ints ns
  have h2 : PyData.depth (.list (ns.map PyData.int)) ≤ 64 := by
    simp only [PyData.depth]
    omega
  show (PyData.canLay0 (.list (ns.map PyData.int)) && decide (PyData.depth (.list (ns.map PyData.int)) ≤ 64)) = true
  rw [Bool.and_eq_true]
  exact ⟨by simp only [PyData.canLay0]; exact lay_ints ns, decide_eq_true h2⟩
theorem dist_ints : ∀ ns ms : List Int, PyData.eqvAll (ns.map PyData.int) (ms.map PyData.int) = decide (ns = ms)
  | [], [] => rfl
  | [], _ :: _ => rfl
  | _ :: _, [] => rfl
  | n :: r, m :: q => by
    rw [List.map_cons, List.map_cons, PyData.eqvAll, dist_ints r q]
    show ((n == m) && _) = _
    by_cases h : n = m
    · subst h; simp
    · rw [decide_eq_false (fun e => h (List.cons.inj e).1)]; simp [h]
theorem eqv_ints (ns ms : List Int) : PyData.eqv (.list (ns.map PyData.int)) (.list (ms.map PyData.int)) = decide (ns = ms) := dist_ints ns ms
/-- two rows of whole numbers, compared -/
theorem eq_ints {ns ms : List Int} {Q : VK} (ha : H a = some (.lst (ns.map V.int))) (hb : H b = some (.lst (ms.map V.int))) (k : Q (.bl (decide (ns = ms))) H) : rEqD K (.ref a) (.ref b) H Q :=
  ⟨_, _, dp_ints ha, dp_ints hb, sh_ints ns, sh_ints ms, by rw [eqv_ints]; exact k⟩
theorem ne_ints {ns ms : List Int} {Q : VK} (ha : H a = some (.lst (ns.map V.int))) (hb : H b = some (.lst (ms.map V.int))) (k : Q (.bl (!decide (ns = ms))) H) : rNeD K (.ref a) (.ref b) H Q :=
  ⟨_, _, dp_ints ha, dp_ints hb, sh_ints ns, sh_ints ms, by rw [eqv_ints]; exact k⟩
end
end Ow
namespace Ow
open PySem PySem.Spec PyProof.Rows L2
/-! ### the closers' own lemmas: head first -/
section
variable {K : PySem.W.Frag} {H0 H : Hp} {A : List Addr} {cs cs' : Cells} {a p : Addr} {o o' : HO} {xs : List V}
theorem Own.wr2 (O : Own H0 H A cs) (h : At cs a o o' cs') (n : isTup o = false) : Own H0 (upd H a o') A cs' := O.wr h n
theorem col_ex (h : H a = some (.lst xs)) : ∃ xs, SqL K H a xs := ⟨_, SqL.of h⟩
theorem col_ol {p : Prop} (h : H a = some (.lst xs)) : SqL K H a xs ∨ p := .inl (SqL.of h)
theorem col_or {p : Prop} (h : H a = some (.tup xs)) : p ∨ SqT K H a xs := .inr (SqT.of h)
theorem dget_ii {kvs : List (Key × V)} {i : Int} {v : V} (h : H a = some (.dK kvs)) (e : valV kvs (Sum.inl i) = some v) : DGet H a (.int i) (some v) := dget_v (k := Sum.inl i) h e
theorem dget_is {kvs : List (Key × V)} {i : Str} {v : V} (h : H a = some (.dK kvs)) (e : valV kvs (Sum.inr i) = some v) : DGet H a (.str i) (some v) := dget_v (k := Sum.inr i) h e
theorem dget_i {kvs : List (Key × V)} {i : Int} (h : H a = some (.dK kvs)) : DGet H a (.int i) (valV kvs (Sum.inl i)) := DGet.k (k := Sum.inl i) h
theorem dget_s {kvs : List (Key × V)} {i : Str} (h : H a = some (.dK kvs)) : DGet H a (.str i) (valV kvs (Sum.inr i)) := DGet.k (k := Sum.inr i) h
theorem dput_i {kvs : List (Key × V)} {i : Int} {v : V} (h : H a = some (.dK kvs)) (hl : kvs.length < 100000) : DPut H a (.int i) v (upd H a (.dK (putK kvs (Sum.inl i) v))) := DPut.k (k := Sum.inl i) h (sz_lt hl)
theorem dput_s {kvs : List (Key × V)} {i : Str} {v : V} (h : H a = some (.dK kvs)) (hl : kvs.length < 100000) : DPut H a (.str i) v (upd H a (.dK (putK kvs (Sum.inr i) v))) := DPut.k (k := Sum.inr i) h (sz_lt hl)
theorem isd_k {kvs : List (Key × V)} (h : H a = some (.dK kvs)) : IsD H a := Or.inl ⟨_, Or.inl h⟩
theorem wp_of {x y : List (Option V)} (h : x = y) : x = y := h
theorem ln_of {x y : Nat} (h : x = y) : x = y := h
theorem pos_of {m : Int} (h : 0 < m) : 0 < m := h
end
end Ow
namespace Ow
open PySem PySem.Spec PyProof.Rows L2
/-! ### items -/
theorem at_int {α : Type} {xs : List α} {n : Int} (h0 : 0 ≤ n) (h1 : n < (xs.length : Int)) : ∃ y, xs[n.toNat]? = some y ∧ atI xs n = some y := by
  have hj : n.toNat < xs.length := by omega
  refine ⟨xs[n.toNat], List.getElem?_eq_getElem hj, ?_⟩
  have := atI_nat (List.getElem?_eq_getElem hj)
  rwa [Int.toNat_of_nonneg h0] at this
theorem map_get {l : List Int} {i : Nat} {x : V} (h : (l.map V.int)[i]? = some x) : ∃ y, l[i]? = some y ∧ x = V.int y := by
  rw [List.getElem?_map] at h
  cases e : l[i]? with
  | none => rw [e] at h; cases h
  | some y => rw [e] at h; exact ⟨y, rfl, (Option.some.inj h).symm⟩
theorem at_ints {ns : List Int} {n : Int} (h0 : 0 ≤ n) (h1 : n < ((ns.map V.int).length : Int)) : ∃ y, ns[n.toNat]? = some y ∧ atI (ns.map V.int) n = some (V.int y) := by
  obtain ⟨y, h2, h3⟩ := at_int h0 h1
  obtain ⟨z, h4, rfl⟩ := map_get h2
  exact ⟨z, h4, h3⟩
end Ow
namespace Ow
open PySem PySem.Spec PyProof.Rows L2
theorem Own.fr0 {H0 H : Hp} {cs : Cells} {b : Addr} {o : HO} (O : Own H0 H [] cs) (h : H0 b = some o) : H b = some o := O.fr b o h (by simp)
/-! ### comprehensions -/
section
variable {K : PySem.W.Frag} {a : Addr} {xs : List V} {g : TG} {tt : TT} {te : TE} {vs : List Nat} {σ : L2.St} {H1 : Hp} {Q : Addr → Hp → Prop} {lo : Int} {n : Nat}
theorem lcR (Pv : Addr → Nat → Hp → Prop) (h0 : ∀ D, H1 D = none → Pv D 0 (upd H1 D (.lst [])))
    (hs : ∀ D i H, i < n → Pv D i H → g (.int (lo + i)) (wipe σ vs) H fun σ2 H2 => wipe σ2 vs = wipe σ vs ∧ tt σ2 H2 fun b H3 =>
      if b = true then te σ2 H3 fun y H4 => ∃ acc, H4 D = some (.lst acc) ∧ acc.length < sizeLine ∧ Box (Pv D (i + 1) (upd H4 D (.lst (acc ++ [y])))) else Box (Pv D (i + 1) H3)) (hd : ∀ D H, Pv D n H → Q D H) :
    Box (∀ D, H1 D = none → ∃ W : Nat → Nat → Hp → Prop, (∃ m, W 0 m (upd H1 D (.lst []))) ∧ ∀ i m H, W i m H →
      ((Itr lo n).stop i H ∧ Q D H) ∨ ((Itr lo n).go i H ∧ ∃ Nx : Hp → Prop, (∀ H', Nx H' → ∃ m', m' < m ∧ W (i + 1) m' H') ∧ ∀ x H', (Itr lo n).yld i H x H' → g x (wipe σ vs) H' fun σ2 H2 => wipe σ2 vs = wipe σ vs ∧ tt σ2 H2 fun b H3 =>
        if b = true then te σ2 H3 fun y H4 => ∃ acc, H4 D = some (.lst acc) ∧ acc.length < sizeLine ∧ Nx (upd H4 D (.lst (acc ++ [y]))) else Nx H3)) :=
  ⟨fun D hD => lc_range (fun i H => Box (Pv D i H)) ⟨h0 D hD⟩ (fun i H hi p => hs D i H hi p.out) (fun H p => hd D H p.out)⟩
theorem lcL (Pv : Addr → Nat → Hp → Prop) (h0 : ∀ D, H1 D = none → Pv D 0 (upd H1 D (.lst []))) (hl : ∀ D i H, i ≤ xs.length → Pv D i H → SqL K H a xs)
    (hs : ∀ D i x H, xs[i]? = some x → Pv D i H → g x (wipe σ vs) H fun σ2 H2 => wipe σ2 vs = wipe σ vs ∧ tt σ2 H2 fun b H3 =>
      if b = true then te σ2 H3 fun y H4 => ∃ acc, H4 D = some (.lst acc) ∧ acc.length < sizeLine ∧ Box (Pv D (i + 1) (upd H4 D (.lst (acc ++ [y])))) else Box (Pv D (i + 1) H3)) (hd : ∀ D H, Pv D xs.length H → Q D H) :
    Box (∀ D, H1 D = none → ∃ W : Nat → Nat → Hp → Prop, (∃ m, W 0 m (upd H1 D (.lst []))) ∧ ∀ i m H, W i m H →
      ((Itl K a).stop i H ∧ Q D H) ∨ ((Itl K a).go i H ∧ ∃ Nx : Hp → Prop, (∀ H', Nx H' → ∃ m', m' < m ∧ W (i + 1) m' H') ∧ ∀ x H', (Itl K a).yld i H x H' → g x (wipe σ vs) H' fun σ2 H2 => wipe σ2 vs = wipe σ vs ∧ tt σ2 H2 fun b H3 =>
        if b = true then te σ2 H3 fun y H4 => ∃ acc, H4 D = some (.lst acc) ∧ acc.length < sizeLine ∧ Nx (upd H4 D (.lst (acc ++ [y]))) else Nx H3)) :=
  ⟨fun D hD => lc_list (fun i H => Box (Pv D i H)) ⟨h0 D hD⟩ (fun i H hi p => hl D i H hi p.out) (fun i x H hx p => hs D i x H hx p.out) (fun H p => hd D H p.out)⟩
theorem lcT (Pv : Addr → Nat → Hp → Prop) (h0 : ∀ D, H1 D = none → Pv D 0 (upd H1 D (.lst []))) (hl : ∀ D i H, i ≤ xs.length → Pv D i H → SqT K H a xs)
    (hs : ∀ D i x H, xs[i]? = some x → Pv D i H → g x (wipe σ vs) H fun σ2 H2 => wipe σ2 vs = wipe σ vs ∧ tt σ2 H2 fun b H3 =>
      if b = true then te σ2 H3 fun y H4 => ∃ acc, H4 D = some (.lst acc) ∧ acc.length < sizeLine ∧ Box (Pv D (i + 1) (upd H4 D (.lst (acc ++ [y])))) else Box (Pv D (i + 1) H3)) (hd : ∀ D H, Pv D xs.length H → Q D H) :
    Box (∀ D, H1 D = none → ∃ W : Nat → Nat → Hp → Prop, (∃ m, W 0 m (upd H1 D (.lst []))) ∧ ∀ i m H, W i m H →
      ((Itt K a).stop i H ∧ Q D H) ∨ ((Itt K a).go i H ∧ ∃ Nx : Hp → Prop, (∀ H', Nx H' → ∃ m', m' < m ∧ W (i + 1) m' H') ∧ ∀ x H', (Itt K a).yld i H x H' → g x (wipe σ vs) H' fun σ2 H2 => wipe σ2 vs = wipe σ vs ∧ tt σ2 H2 fun b H3 =>
        if b = true then te σ2 H3 fun y H4 => ∃ acc, H4 D = some (.lst acc) ∧ acc.length < sizeLine ∧ Nx (upd H4 D (.lst (acc ++ [y]))) else Nx H3)) :=
  ⟨fun D hD => lc_tup (fun i H => Box (Pv D i H)) ⟨h0 D hD⟩ (fun i H hi p => hl D i H hi p.out) (fun i x H hx p => hs D i x H hx p.out) (fun H p => hd D H p.out)⟩
end
end Ow
namespace Ow
open PySem PySem.Spec PyProof.Rows L2
theorem cutV_sub (xs : List V) (lo hi : Option Int) {x : V} (h : x ∈ cutV xs lo hi) : x ∈ xs := List.mem_of_mem_drop (List.mem_of_mem_take h)
theorem cut_ints {xs : List Int} {lo hi : Option Int} {i : Nat} {x : V} (h : (cutV (xs.map V.int) lo hi)[i]? = some x) : ∃ y, x = V.int y := by
  obtain ⟨y, _, e⟩ := List.mem_map.mp (cutV_sub _ _ _ (List.mem_of_getElem? h))
  exact ⟨y, e.symm⟩
theorem cutV_take (xs : List V) (n : Nat) : (cutV xs none (some (n : Int))).length ≤ n := by
  unfold cutV
  rw [List.length_take]
  have : HT.sIx xs.length xs.length (some (n : Int)) ≤ n := by
    rw [HT.sIx_nat]
    omega
  omega
end Ow
namespace Ow
open PySem PySem.Spec PyProof.Rows L2
/-! ### where two ways meet -/
theorem cutT {c : TT} {σ : L2.St} {H : Hp} {post : Bool → Hp → Prop} (R : Bool → Hp → Prop) (h : ∀ post' : Bool → Hp → Prop, (∀ b H', R b H' → post' b H') → c σ H post') (k : ∀ b H', R b H' → post b H') : c σ H post := h post k
theorem cutI {c : TT} {a b : TS} {D : Ends} {σ : L2.St} {H : Hp} (R : Bool → Hp → Prop) (h : ∀ post' : Bool → Hp → Prop, (∀ b H', R b H' → post' b H') → c σ H post') (k : ∀ bb H', R bb H' → if bb = true then a D σ H' else b D σ H') : tIfS c a b D σ H := h _ k
theorem cutS {t : TS} {D : Ends} {σ : L2.St} {H : Hp} (R : L2.St → Hp → Prop) (h : ∀ nx' : L2.St → Hp → Prop, (∀ σ' H', R σ' H' → nx' σ' H') → t { D with nx := nx' } σ H) (k : ∀ σ' H', R σ' H' → D.nx σ' H') : Box (t D σ H) := ⟨h D.nx k⟩
end Ow
namespace Ow
open L2 in
theorem rg_mk {lo hi c : Int} (n : Nat) (h : (c ≠ 0 ∧ c.natAbs < 1073741824 ∧ PySem.Builtin.Range.small lo hi c = true ∧ PySem.Builtin.Range.rangeSize lo hi c = n) := by decide +kernel) : RgC lo hi c n := h
open L2 in
theorem Own.self {H0 H : Hp} {A : List PySem.Addr} {cs : Cells} (O : Own H0 H A cs) : Own H H (Ow.adr cs) cs := O.blk (s' := []) (cs' := []) .all
end Ow
namespace Ow
open L2 in
/-- behind a call that was handed nothing -/
theorem Own.callN {H0 H H' : Hp} {A : List PySem.Addr} {cs s' : Cells} (O : Own H0 H A cs) (C : Own H H' [] s') : Own H0 H' A (s' ++ cs) := O.call (s := []) .nil C
end Ow
namespace Ow
open PySem PySem.Spec PyProof.Rows L2
/-! ### what stands outside: the script -/
section
variable {K : PySem.W.Frag} {H0 H : Hp} {A : List Addr} {cs : Cells} {a : Addr} {xs : List V}
theorem Own.sq (O : Own H0 H [] cs) (h : SqL K H0 a xs) : SqL K H a xs := by
  rcases h with (h | ⟨o, h⟩) | h
  · exact .inl (.inl (O.fr0 h))
  · exact .inl (.inr ⟨o, O.fr0 h⟩)
  · exact .inr h
theorem Own.sqT (O : Own H0 H A cs) (h : SqT K H0 a xs) (hf : ∀ o, H0 a = some (.frz o (.tup xs)) → a ∉ A) : SqT K H a xs := by
  rcases h with (h | ⟨o, h⟩) | h
  · exact .inl (.inl (O.tup h))
  · exact .inl (.inr ⟨o, O.fr _ _ h (hf o h)⟩)
  · exact .inr h
theorem col_ex2 (h : SqL K H a xs) : ∃ xs, SqL K H a xs := ⟨_, h⟩
theorem col_ol2 {p : Prop} (h : SqL K H a xs) : SqL K H a xs ∨ p := .inl h
theorem col_or2 {p : Prop} (h : SqT K H a xs) : p ∨ SqT K H a xs := .inr h
end
end Ow
namespace Ow
open PySem PySem.Spec PyProof.Rows L2
/-! ### the end -/
theorem cx_no {P : Program} {w : World} {H : Hp} {s : Shared} {e : Value} {s' : Shared} (h : L2.CX P w [] H s (fun _ _ _ => False) e s') : False := by
  obtain ⟨_, _, _, _, _, _, _, _, _, _, _, _, h⟩ := h
  exact h
theorem walk_end {l : PySem.W.OpenLaw} {n k : Nat} {q : Program} {loose : List Str} {XP : (Str → Option Value) → Heap → Prop} {YP : World → Heap → Prop} {d : DefRec} {x : Str}
    (hn : l.most = some n) (hn2 : n ≤ sizeLine) (hdf : d.params.defaults = []) (hr : Room k callerA)
    (F : ∀ (w : World) (mg : Str → Option Value) (fa : Addr) (h : Heap), YP w h → h.Ns mainGlobals mg → mg d.name = some (.ref fa) →
      ∃ (K : PySem.W.Frag) (fd : FuncData) (sp : Sp), K.In h ∧ (∀ (s : Shared) (u : Value), BindsTo s fd ⟨[u], []⟩ [(x, u)]) ∧
        (∀ (H : Hp) (a : Addr) (ns : List Int), ns.length ≤ n → (∀ z ∈ ns, Builtin.Int.intBits z ≤ 1048576) → SqL K H a (ns.map V.int) → sp [.ref a] H (fun v _ => v = .bl true) fun _ _ _ => False) ∧
        ∀ base : Heap, K.In base → base.Ns mainGlobals mg → FnOk l.prog w K mg base (L2.CX l.prog w) k fa fd [x] sp) :
    PySem.W.WalkO q loose XP YP l.row.toRowW d [] (fun f vs => PySem.call f vs) := by
  refine Att.attach_callB hn hdf fun w s₀ s₁ mg mb fa o pm cd doc a vs ns G Y ho hd hcd hmg hobj hints hlen hbits hg => ?_
  obtain ⟨K, fd, sp, KX, hb, hsp, hF⟩ := F w mg fa _ Y G.T.g hmg
  exact law_call KX G.T.g G.T.b G.T.builtins G.T.nolimit hg hobj hints (Nat.le_trans hlen hn2) hr hF hb (fun H _ hS => hsp H a ns hlen hbits hS) fun _ _ _ h => cx_no h
theorem fn_of {P : Program} {w : World} {K : PySem.W.Frag} {mg : Str → Option Value} {base : Heap} {x qual : Str} {params : Arguments} {body : List Stmt} {scope : Scope} {f : Addr} {fd : FuncData} {N ps : List Str} {k : Nat} {sp : Sp} (F : FunD K x qual params body scope [] [] f fd) (S : FnScope N ps scope)
    (len : ∀ vs H Q E, sp vs H Q E → vs.length = ps.length)
    (hbody : ∀ (cdv : Value) (A : Around) (outer : List Env) (s : Shared) (H : Hp) (vs : List V) (Q : VK) (E : XK), Room k (A.deeper (envOfC qual scope s.heap.objs.size f cdv)) → sp vs H Q E →
      ∃ t, PSs (cxOf (L2.CX P w) P w K mg base N qual scope f cdv A outer s H E) body t ∧ t { nx := fun _ H' => Q .non H', rt := Q } (start N vs) H) : FnOk P w K mg base (L2.CX P w) (k + 1) f fd ps (bx sp) :=
  FunD.ok F S (fun vs H Q E h => len vs H Q E h.out) (fun cdv A outer s H vs Q E hr h => hbody cdv A outer s H vs Q E hr h.out)
end Ow
namespace Ow
open PySem PySem.Spec PyProof.Rows L2
/-! ### an exception that is held: known, in the suite and beyond it -/
/-- an exception object at a, of the class cls, its dict d -/
def CxO (cls : Value) (d : Option Addr) (a : Addr) : HO := .ext fun h => ∃ (o : Obj) (vs : Array Value), h.get? a = some o ∧ Zc cls d o ∧ o.data = .fields vs
section
variable {X : Cx} {pins : List (Addr × Obj)} {σ : L2.St} {H : Hp} {s : Shared} {a : Addr} {cls : Value} {d : Option Addr} {o : Obj} {vs : Array Value}
theorem hold_ok (I : Inv X pins σ H s) (e : s.heap.get? a = some o) (z : Zc cls d o) (dt : o.data = .fields vs) (na : H a = none) (n0 : X.s_0.heap.get? a = none) (nL : a ≠ X.env.locals) (np : ∀ p ∈ X.pn ++ pins, p.1 ≠ a) :
    Inv X pins σ (upd H a (CxO cls d a)) s := by
  have sk : ∀ {b : Addr} {u : HO}, H b = some u → upd H a (CxO cls d a) b = some u := fun {b u} q => by
    rw [upd_ne (fun w => by rw [w, na] at q; cases q)]
    exact q
  have nk : ∀ {b : Addr}, b ≠ a → H b = none → upd H a (CxO cls d a) b = none := fun {b} q r => by
    rw [upd_ne q]
    exact r
  refine ⟨I.ok, I.os, I.bare, ⟨I.base.keep, I.base.slot, fun b u q1 q2 q3 => nk (fun w => by rw [w, n0] at q1; cases q1) (I.base.free b u q1 q2 q3), I.base.there, fun b xs q => sk (I.base.tups b xs q), fun b o' u q => sk (I.base.frzs b o' u q), fun b ps q => ?_⟩, I.loc, I.cell, nk (Ne.symm nL) I.free, fun x c q => nk (fun w => ?_) (I.freeC x c q), fun p hp => ?_, HOk.laidN I.hok (fun _ _ w => w) na ⟨⟨o, vs, e, z, dt⟩, ⟨o, e⟩, fun _ _ ⟨o2, v2, q, r⟩ k => ⟨o2, v2, k o2 q, r⟩⟩, I.len⟩
  · obtain ⟨m, r⟩ := I.base.tbls b ps q
    exact ⟨m, sk r⟩
  · subst w
    obtain ⟨v, oc, ho, hd⟩ := I.cell x c q
    rw [e] at ho
    cases ho
    rw [dt] at hd
    cases hd
  · obtain ⟨p1, p2, p3, p4, p5⟩ := I.pin p hp
    exact ⟨p1, nk (np p hp) p2, p3, p4, p5⟩
theorem suite_in {b : Addr} (I : Inv X pins σ H s) : Inv (X.suite b (X.pn ++ pins)) [] σ H s :=
  ⟨I.ok.suite _ _, I.os, I.bare, I.base, I.loc, I.cell, I.free, I.freeC, fun p hp => I.pin p ((List.append_nil (X.pn ++ pins)) ▸ hp), I.hok, I.len⟩
theorem suite_out {b : Addr} (I : Inv (X.suite b (X.pn ++ pins)) [] σ H s) (ok : X.Ok) : Inv X pins σ H s :=
  ⟨ok, I.os, I.bare, I.base, I.loc, I.cell, I.free, I.freeC, fun p hp => I.pin p ((List.append_nil (X.pn ++ pins)).symm ▸ hp), I.hok, I.len⟩
end
/-- the wish of a try whose suite may keep the exception -/
def wHold (K : PySem.W.Frag) (c : Value) (i : Nat) (ts : TS) (Wout : WX) (D : Ends) : WX := fun cls d σ H =>
  ∃ b, PySem.W.exmOne K cls c = some b ∧ (b = true → ∀ a, H a = none → ts { nx := fun τ G => D.nx (τ.set i none) G, rt := D.rt, bk := fun τ G => D.bk (τ.set i none) G, ct := fun τ G => D.ct (τ.set i none) G } (σ.set i (some (.ref a))) (upd H a (CxO cls d a))) ∧ (b = false → Wout cls d σ H)
section
variable {X : Cx} {x n : Str} {c : Value} {i : Nat} {body suite : List Stmt} {b₀ : Stmt} {np pos pos' : Pos} {tb : WX → TS} {ts : TS} {Wout : WX}
theorem ps_tryX (hs : X.stack = X.env :: X.outer) (hf : X.env.frame = some X.env.locals) (hx : X.ex = []) (hN : X.N.Nodup) (hi : X.N[i]? = some n) (hln : X.env.kindOf n = some .local) (hc : Names X x c) (tk : Takes X Wout)
    (hb : ∀ (W : WX) (pn : List (Addr × Obj)) (xe : Value → Shared → Prop), Takes (X.tr pn xe) W → PassesOwn (model X.prog X.w) X.A X.env xe → PSs (X.tr pn xe) body (tb W))
    (hsu : ∀ (a : Addr) (pn : List (Addr × Obj)), PSs (X.suite a pn) (b₀ :: suite) ts) :
    PS X (.Try body [.ExceptHandler (some (.Name x np)) (some n) (b₀ :: suite) pos'] [] [] pos) (fun D σ H => tb (wHold X.K c i ts Wout D) D σ H) := by
  refine ⟨fun pins s σ H D I hyp => ?_⟩
  have okX := I.ok
  have frames : X.A.frames = some (X.env :: X.outer) := by rw [okX.frames, hs]
  refine wpAny_Try_except ?_
  refine wpAny_mono ((hb (wHold X.K c i ts Wout D) (X.pn ++ pins) (fun ev sA => wpAny (model X.prog X.w) X.A (noteFrame ev X.env) (fun _ sB => wpAny (model X.prog X.w) X.A (setFlight ev none) (fun _ sC =>
    wpAny (model X.prog X.w) X.A (handleBy ev X.env [.ExceptHandler (some (.Name x np)) (some n) (b₀ :: suite) pos']) (SP X pins D) X.xe sC) X.xe sB) X.xe sA) (fun u sE flies => ?_) PassesOwn.looking).run [] s σ H D (I.toTry _) hyp) (fun fl sN ends => ?_) (fun ev sA left => left)
  · obtain ⟨a, B, sI, pins1, τ, G, cls, d, rfl, JT, nb, upS, skyS, na, os, ag, b, hm, yes, no⟩ := flies
    have JX : Inv X pins τ G sI := JT.ofTry okX
    have skyX : Sky B (X.env :: X.outer) a (Zc cls d) X.env.locals sE.heap := by rw [← hs]; exact skyS
    have nB : B.get? a = none := by
      rcases skyS with w | w | w
      · exact w.2.1
      · exact w.2.1
      · exact w.2.1
    show wpAny (model X.prog X.w) X.A (noteFrame (.ref a) X.env) _ _ _
    refine Sky.land Zc.steady frames hf skyX fun g3 fl3 up3 => ?_
    have J3 : Inv X pins τ G { sE with heap := g3 } := JX.landed nb fl3.1 (upS.trans up3) os ag
    obtain ⟨q3, w3, at3, z3, dt3⟩ := fl3.there
    have outside : a ∉ frs (X.env :: X.outer) := fun hm => by
      obtain ⟨_, o', e', hnf⟩ := fl3.2.2.1.mem hm
      rw [at3] at e'
      cases e'
      exact hnf _ dt3
    have nL : a ≠ X.env.locals := fun z => outside (List.mem_filterMap.mpr ⟨X.env, .head _, by rw [hf, z]⟩)
    have nF : a ∉ X.fs := fun hm => by
      obtain ⟨ev, he, q⟩ := List.mem_filterMap.mp hm
      exact outside (List.mem_filterMap.mpr ⟨ev, .tail _ he, q⟩)
    have below : ∀ {u : Addr} {ob : Obj}, sI.heap.get? u = some ob → u ∉ frs (X.env :: X.outer) → u ≠ a := fun {u ob} q r w => by
      have k := nb u ob q (by rw [hs]; exact r)
      rw [w, nB] at k
      cases k
    have new0 : X.s_0.heap.get? a = none := by
      cases q : X.s_0.heap.get? a with
      | none => rfl
      | some ob =>
        obtain ⟨ob2, r⟩ := JX.base.there a ob q (by rw [hx]; exact fun w => nomatch w)
        exact absurd rfl (below r outside)
    have unpinned : ∀ p ∈ X.pn ++ pins, p.1 ≠ a := fun p hp => by
      obtain ⟨p1, _, p3, p4, _⟩ := JX.pin p hp
      refine below p1 fun hm => ?_
      obtain ⟨ev, he, q⟩ := List.mem_filterMap.mp hm
      rcases List.mem_cons.mp he with w | w
      · rw [w, hf] at q
        exact p3 (Option.some.inj q).symm
      · exact p4 (List.mem_filterMap.mpr ⟨ev, w, q⟩)
    have S3 := J3.suite at3 dt3 na nL nF
    refine wpAny_handleBy_cons (codeAny_handlers_test ?_) (by intro w; cases w)
    have kind : PySem.W.Looks (model X.prog X.w) g3 (typeOf (.ref a)) cls := fun A Q E t k w => wpAny_typeOf_ref (k _ _ at3) (by rw [z3.1]; exact w)
    have match_ := PySem.W.exm_one (M := model X.prog X.w) (J3.kIn) kind hm
    have named : ∀ {Q E : Value → Shared → Prop}, Q c { sE with heap := g3 } → wpAny (model X.prog X.w) (X.A.mark (some (.ref a))) (eval (.Name x np) X.env) Q E { sE with heap := g3 } := fun {Q E} w => by
      obtain ⟨hg, hdbg, m1 | ⟨m1, m2, m3⟩⟩ := hc
      · exact ld_glob (X := X.suite a ((a, q3) :: (X.pn ++ pins))) S3 hg m1 w hdbg
      · exact ld_blt (X := X.suite a ((a, q3) :: (X.pn ++ pins))) S3 hg m1 m2 w m3 hdbg
    refine named (match_.here ?_)
    cases b with
    | true =>
      refine codeAny_handlers_suite_as ?_
      refine HandSPX.lands_againZ fl3 fun g4 fl4 up4 => ?_
      have J4 : Inv X pins τ G { sE with heap := g4 } := JX.landed nb fl4.1 ((upS.trans up3).trans up4) os ag
      obtain ⟨q4, w4, at4, z4, dt4⟩ := fl4.there
      have S4 := suite_in (b := a) (hold_ok J4 at4 z4 dt4 na new0 nL unpinned)
      refine store_ok (X := X.suite a (X.pn ++ pins)) (v := .ref a) S4 hN hi (.inl hln) rfl (fun s5 S5 => ?_) (.inr hln)
      refine wpAny_mono ((hsu a (X.pn ++ pins)).run [] s5 _ _ _ S5 (yes rfl a na)) (fun fl s6 ends => ?_) (fun _ _ w => False.elim w)
      have off : ∀ {τ6 : L2.St} {G6 : Hp} {Q : Shared → Prop}, Inv (X.suite a (X.pn ++ pins)) [] τ6 G6 s6 → (∀ s7, Inv X pins (τ6.set i none) G6 s7 → Q s7) →
          wpAny (model X.prog X.w) X.A (do bindName X.env n .none; unbindBehindTheSuite X.env n pos') (fun _ s7 => Q s7) X.xe s6 := fun {τ6 G6 Q} S6 w => gone_ok (suite_out S6 okX) hN hi hln w
      cases fl with
      | next =>
        obtain ⟨_, _, S6, r⟩ := ends
        exact off S6 fun _ J7 => ⟨_, _, J7, r⟩
      | brk =>
        obtain ⟨_, _, S6, r⟩ := ends
        exact off S6 fun _ J7 => ⟨_, _, J7, r⟩
      | cont =>
        obtain ⟨_, _, S6, r⟩ := ends
        exact off S6 fun _ J7 => ⟨_, _, J7, r⟩
      | ret u =>
        obtain ⟨_, _, _, S6, r1, r2⟩ := ends
        exact off S6 fun _ J7 => ⟨_, _, _, J7, r1, r2⟩
    | false =>
      show wpAny _ X.A (handleBy (.ref a) X.env []) _ _ _
      refine wpAny_handleBy_nil ?_
      obtain ⟨_, _, _, ob, ws, T, oT, tr, hob, hzb, hdb, hfb, hrb⟩ := id fl3
      unfold PySem.passOn
      refine wpAny_bind (wpAny_field hob hdb hfb ?_)
      rw [if_neg (show ¬ ((Value.ref T == Value.none) = true) by simp)]
      have out : wpAny (model X.prog X.w) X.A (setFlight (.ref a) X.env.frame) (fun _ t4 => wpAny (model X.prog X.w) X.A (throw (.ref a) : Sem Flow) (SP X pins D) X.xe t4) X.xe { sE with heap := g3 } := by
        rw [hf]
        refine HandSPX.setFlight_upZ fl3 fun g4 in4 up4 => wpAny_throw (tk _ _ ?_)
        exact ⟨a, B, sI, pins, τ, G, cls, d, rfl, JX, nb, (upS.trans up3).trans up4, .inr (.inr (by rw [hs]; exact in4)), na, os, ag, no rfl⟩
      first
        | exact wpAny_bind (wpAny_pure (wpAny_bind out))
        | exact wpAny_bind out
  · cases fl with
    | next =>
      obtain ⟨τ, G, JT, r⟩ := ends
      exact wpAny_execs_nil ⟨τ, G, JT.ofTry okX, r⟩
    | brk =>
      obtain ⟨τ, G, JT, r⟩ := ends
      exact ⟨τ, G, JT.ofTry okX, r⟩
    | cont =>
      obtain ⟨τ, G, JT, r⟩ := ends
      exact ⟨τ, G, JT.ofTry okX, r⟩
    | ret u =>
      obtain ⟨v, τ, G, JT, r1, r2⟩ := ends
      exact ⟨v, τ, G, JT.ofTry okX, r1, r2⟩
/-- isinstance(e, c), e a held exception -/
def rIsX (K : PySem.W.Frag) : List V → Hp → VK → Prop := fun xs H Q => ∃ (a D : Addr) (c : V) (cv : Value) (b : Bool), xs = [.ref a, c] ∧ H a = some (CxO (.ref D) none a) ∧ ExcC K D ∧ ClsV c cv ∧ PySem.W.kitOne K (.ref D) cv = some b ∧ Q (.bl b) H
theorem call_isX : CallR X (.builtin "isinstance") (rIsX X.K) := by
  intro pins s σ H xs us Q I r h
  obtain ⟨a, D, cl, cv, b, rfl, ha, C, only, says, q⟩ := h
  cases r with
  | cons rx rr =>
    cases rr with
    | cons rt rr =>
      cases rr
      cases rx
      have ec := only.eq rt
      subst ec
      obtain ⟨⟨ob, vs, at_, z, dt⟩, _, _⟩ := I.hok a _ ha
      have J : PySem.W.InstAt s.heap a ob D none := by
        obtain ⟨oc, od, oda, osl⟩ := ob
        obtain ⟨h1, h2⟩ := z
        dsimp only at h1 h2 dt
        subst h1 h2 dt
        exact ⟨at_, rfl, rfl, trivial⟩
      refine PySem.W.kia_one (PySem.W.handS_kitx_exc C.hg C.hk C.hs C.hd C.ha C.hn C.ht C.hm) I.kIn J says (fun w => nomatch w) fun tk => ?_
      exact ⟨.bl b, H, I.kept (t' := tk) fun _ _ w => w, rfl, q⟩
end
end Ow
namespace Ow
open PySem PySem.Spec PyProof.Rows L2
/-- xs[i], where it is read to be put anew -/
theorem get_list {X : Cx} : PGet X (rIxL X.K) := by
  intro pins s σ H o i ov iv Q I ro ri h
  obtain ⟨p, xs, k, z, rfl, rfl, hq, he, q⟩ := h
  cases ro
  obtain ⟨t, rfl⟩ := ri
  obtain ⟨its, r, pl, hz⟩ := I.list hq
  obtain ⟨j, h1, h2, h3, h4, h5⟩ := atI_get he
  obtain ⟨w, ew, rw'⟩ := r.get h2
  have lenX := r.length
  have wide := line63
  have done : EP X pins σ Q w s := ⟨z, H, I, rw', q⟩
  by_cases h0 : 0 ≤ k
  · have hk : k.toNat = j := by
      rw [seqIndex_of h0 h5] at h1
      exact Option.some.inj h1
    exact wpAny_getItem_list pl.isList h0 (by omega) (by rw [hk]; simpa using ew) done
  · have hk : (k + (its.toArray.size : Int)).toNat = j := by
      rw [seqIndex_neg (by omega) h4] at h1
      rw [List.size_toArray, ← lenX]
      exact Option.some.inj h1
    exact wpAny_getItem_list_neg pl.isList (by omega) (by rw [List.size_toArray] <;> omega) (by omega) (by rw [hk]; simpa using ew) done
end Ow
namespace Ow
open PySem PySem.Spec PyProof.Rows L2
/-! ### facts of exceptions, by one look -/
def excB (K : PySem.W.Frag) (D : Addr) : Bool := [PySem.W.findIn K (.ref D) "__getattribute__" == some (some (.builtin "BaseException.__getattribute__")), PySem.W.findIn K (.ref D) "__getattr__" == some none, PySem.W.subIn K (.ref D) (.type "BaseException") == some true, PySem.W.hasDictIn K D,
  PySem.W.findIn K (.ref D) "__class__" == some (some (.builtin "object.__class__")), PySem.W.specialIn K (.builtin "object.__class__") "__get__" == some (some (.builtin "getset_descriptor.__get__")), PySem.W.takesIn K (.builtin "object.__class__") == some true, PySem.W.mroIn K D (.type "object") == some true].all id
theorem all_at {l : List Bool} (h : l.all id = true) (k : Nat) {b : Bool} (e : l[k]? = some b) : b = true := List.all_eq_true.mp h b (List.mem_of_getElem? e)
theorem excB_ok {K : PySem.W.Frag} {D : Addr} (h : excB K D = true) : ExcC K D :=
  ⟨eq_of_beq (all_at h 0 rfl), eq_of_beq (all_at h 1 rfl), eq_of_beq (all_at h 2 rfl), all_at h 3 rfl, eq_of_beq (all_at h 4 rfl), eq_of_beq (all_at h 5 rfl), eq_of_beq (all_at h 6 rfl), eq_of_beq (all_at h 7 rfl)⟩
end Ow
namespace Ow
open PySem PySem.Spec PyProof.Rows L2
/-! ### rows of flat things -/
theorem fl_of {v : V} (h : flatV v = true) : flatV v = true := h
theorem all_flat (ns : List Int) : (ns.map V.int).all flatV = true := List.all_eq_true.mpr fun x hx => by
  obtain ⟨y, _, rfl⟩ := List.mem_map.mp hx
  rfl
theorem all_flatS (ns : List Str) : (ns.map V.str).all flatV = true := List.all_eq_true.mpr fun x hx => by
  obtain ⟨y, _, rfl⟩ := List.mem_map.mp hx
  rfl
theorem eqV_int (i j : Int) : eqV (.int i) (.int j) = decide (i = j) := by
  show (i == j) = _
  by_cases h : i = j
  · rw [decide_eq_true h, h]; simp
  · rw [decide_eq_false h]; simp [h]
theorem inV_ints (i : Int) (ns : List Int) : inV (.int i) (ns.map V.int) = decide (i ∈ ns) := by
  unfold inV
  rw [List.any_map]
  by_cases h : i ∈ ns
  · rw [decide_eq_true h]
    exact List.any_eq_true.mpr ⟨i, h, by show eqV (.int i) (.int i) = true; rw [eqV_int]; simp⟩
  · rw [decide_eq_false h]
    refine List.any_eq_false.mpr fun x hx => ?_
    show ¬ eqV (.int x) (.int i) = true
    rw [eqV_int]
    intro z
    exact h (of_decide_eq_true z ▸ hx)
theorem rep_flat (n : Nat) (v : V) : (List.replicate ((n : Nat) : Int).toNat [v]).flatten = List.replicate n v := by
  rw [Int.toNat_natCast]
  induction n with
  | zero => rfl
  | succ n ih => rw [List.replicate_succ, List.flatten_cons, ih]; rfl
theorem rep_map {α : Type} (f : α → V) (n : Nat) (a : α) : List.replicate n (f a) = (List.replicate n a).map f := (List.map_replicate).symm
end Ow
namespace Ow
open PySem PySem.Spec PyProof.Rows L2
theorem set_split {α : Type} {cs : List α} {i : Nat} {x y : α} (h : cs[i]? = some x) : cs.set i y = cs.take i ++ y :: cs.drop (i + 1) := by
  have h1 := (List.getElem?_eq_some_iff.mp h).1
  rw [List.set_eq_take_append_cons_drop, if_pos h1]
theorem at_split {α : Type} {cs : List α} {i : Nat} {x : α} (h : cs[i]? = some x) : cs = cs.take i ++ x :: cs.drop (i + 1) := by
  obtain ⟨h1, rfl⟩ := List.getElem?_eq_some_iff.mp h
  rw [List.getElem_cons_drop h1, List.take_append_drop]
theorem set_map {α β : Type} (f : α → β) : ∀ (l : List α) (i : Nat) (a : α), (l.map f).set i (f a) = (l.set i a).map f
  | [], _, _ => rfl
  | _ :: _, 0, _ => rfl
  | x :: r, i + 1, a => by rw [List.map_cons, List.set_cons_succ, List.set_cons_succ, List.map_cons, set_map f r i a]
theorem ix_at {n i : Nat} (h : i < n) : ixN n (i : Int) = some i := by
  unfold ixN
  rw [if_pos (by omega), if_pos (by omega), Int.toNat_natCast]
/-- a thing of a row is put anew: its old cell is let go -/
theorem Own.put {α : Type} {H0 H : Hp} {A : List Addr} {pre : Cells} {l : List α} {g : α → Addr × HO} {b y : α} {j : Nat} (O : Own H0 H A (g b :: (pre ++ l.map g))) (h : l[j]? = some y) : Own H0 H A (pre ++ (l.set j b).map g) := by
  have e := at_split h
  have O1 : Own H0 H A (g b :: (pre ++ ((l.take j).map g ++ (l.drop (j + 1)).map g))) := O.drop (by
    conv => rhs; rw [e, List.map_append, List.map_cons]
    exact .cons₂ _ (.append (.refl _) (.append (.refl _) (.cons _ (.refl _)))))
  rw [set_split h, List.map_append, List.map_cons]
  refine O1.perm ?_
  rw [← List.append_assoc, ← List.append_assoc]
  exact List.perm_middle.symm
end Ow
namespace Ow
open PySem PySem.Spec PyProof.Rows L2
theorem take_succ {α : Type} {l : List α} {i : Nat} {y : α} (h : l[i]? = some y) : l.take (i + 1) = l.take i ++ [y] := by
  rw [List.take_succ, h]; rfl
theorem sorted_ext : ∀ {l k : List Int}, l.Pairwise (· < ·) → k.Pairwise (· < ·) → (∀ m, m ∈ l ↔ m ∈ k) → l = k
  | [], [], _, _, _ => rfl
  | [], y :: k, _, _, h => absurd ((h y).mpr List.mem_cons_self) (by simp)
  | x :: l, [], _, _, h => absurd ((h x).mp List.mem_cons_self) (by simp)
  | x :: l, y :: k, h1, h2, h => by
    obtain ⟨a1, a2⟩ := List.pairwise_cons.mp h1
    obtain ⟨b1, b2⟩ := List.pairwise_cons.mp h2
    have e : x = y := by
      rcases List.mem_cons.mp ((h x).mp List.mem_cons_self) with z | z
      · exact z
      · rcases List.mem_cons.mp ((h y).mpr List.mem_cons_self) with w | w
        · exact w.symm
        · have := b1 _ z
          have := a1 _ w
          omega
    subst e
    rw [sorted_ext a2 b2 fun m => ⟨fun hm => ?_, fun hm => ?_⟩]
    · rcases List.mem_cons.mp ((h m).mp (List.mem_cons_of_mem _ hm)) with z | z
      · have := a1 _ hm; omega
      · exact z
    · rcases List.mem_cons.mp ((h m).mpr (List.mem_cons_of_mem _ hm)) with z | z
      · have := b1 _ hm; omega
      · exact z
end Ow
namespace Ow
open L2 in
/-- behind a call: what it has made stands ahead -/
theorem Own.callE {H0 H H' : Hp} {A : List PySem.Addr} {cs s s' cs' e : Cells} (O : Own H0 H A cs) (h : Sub cs s s' cs') (C : Own H H' (Ow.adr s) (e ++ s')) : Own H0 H' A (e ++ cs') := by
  obtain ⟨l, r, rfl, rfl⟩ := h.split
  have O1 := O.call (cs' := l ++ ((e ++ s') ++ r)) (.app .here) C
  refine O1.perm ?_
  have e1 : l ++ ((e ++ s') ++ r) = (l ++ e) ++ (s' ++ r) := by simp only [List.append_assoc]
  have e2 : e ++ (l ++ (s' ++ r)) = (e ++ l) ++ (s' ++ r) := by simp only [List.append_assoc]
  rw [e1, e2]
  exact (List.perm_append_comm).append_right _
end Ow
namespace Ow
open PySem PySem.Spec PyProof.Rows L2
/-- a new thing, as the goal names it: it is ours from now on -/
theorem Own.nxt {H0 H : Hp} {A : List Addr} {cs : Cells} {p : Addr} {o : HO} {G : Hp → Prop} (O : Own H0 H A cs) (h : H p = none) (k : Own H0 (upd H p o) A ((p, o) :: cs) → G (upd H p o)) : G (upd H p o) := k (O.new h)
theorem Own.nxtQ {H0 H : Hp} {A : List Addr} {cs : Cells} {p : Addr} {o : HO} {Q : VK} {G : Hp → VK → Prop} (O : Own H0 H A cs) (h : H p = none) (k : Own H0 (upd H p o) A ((p, o) :: cs) → G (upd H p o) Q) : G (upd H p o) Q := k (O.new h)
end Ow
namespace Ow
open PySem PySem.Spec PyProof.Rows L2
/-! ### loops and comprehensions over anything that is walked -/
section
variable {J : It} {n : Nat} {G : Hp → Prop} {Y : Nat → Hp → V → Hp → Prop}
theorem forW (w : Walk J n G Y) {g : TG} {tb : TS} {D : Ends} {σ : L2.St} {H : Hp} (Pv : Nat → L2.St → Hp → Prop) (h0 : Pv 0 σ H) (hG : ∀ i σ H, i ≤ n → Pv i σ H → G H)
    (hs : ∀ i x σ H H', i < n → Pv i σ H → Y i H x H' → g x σ H' fun σ2 H2 => tb { D with nx := fun σ H => Box (Pv (i + 1) σ H), ct := fun σ H => Box (Pv (i + 1) σ H), bk := D.nx } σ2 H2) (hd : ∀ σ H, Pv n σ H → D.nx σ H) :
    Box (∃ W : Nat → Nat → L2.St → Hp → Prop, (∃ m, W 0 m σ H) ∧ ∀ i m σ H, W i m σ H →
      (J.stop i H ∧ D.nx σ H) ∨ (J.go i H ∧ ∃ N : L2.St → Hp → Prop, (∀ σ' H', N σ' H' → ∃ m', m' < m ∧ W (i + 1) m' σ' H') ∧ ∀ x H', J.yld i H x H' → g x σ H' fun σ2 H2 => tb { D with nx := N, ct := N, bk := D.nx } σ2 H2)) :=
  ⟨for_it w (fun i σ H => Box (Pv i σ H)) ⟨h0⟩ (fun i σ H hi p => hG i σ H hi p.out) (fun i x σ H H' hi p y => hs i x σ H H' hi p.out y) (fun σ H p => hd σ H p.out)⟩
theorem lcW (w : Walk J n G Y) {g : TG} {tt : TT} {te : TE} {vs : List Nat} {σ : L2.St} {H1 : Hp} {Q : Addr → Hp → Prop} (Pv : Addr → Nat → Hp → Prop) (h0 : ∀ D, H1 D = none → Pv D 0 (upd H1 D (.lst []))) (hG : ∀ D i H, i ≤ n → Pv D i H → G H)
    (hs : ∀ D i x H H', i < n → Pv D i H → Y i H x H' → g x (wipe σ vs) H' fun σ2 H2 => wipe σ2 vs = wipe σ vs ∧ tt σ2 H2 fun b H3 =>
      if b = true then te σ2 H3 fun y H4 => ∃ acc, H4 D = some (.lst acc) ∧ acc.length < sizeLine ∧ Box (Pv D (i + 1) (upd H4 D (.lst (acc ++ [y])))) else Box (Pv D (i + 1) H3)) (hd : ∀ D H, Pv D n H → Q D H) :
    Box (∀ D, H1 D = none → ∃ W : Nat → Nat → Hp → Prop, (∃ m, W 0 m (upd H1 D (.lst []))) ∧ ∀ i m H, W i m H →
      (J.stop i H ∧ Q D H) ∨ (J.go i H ∧ ∃ Nx : Hp → Prop, (∀ H', Nx H' → ∃ m', m' < m ∧ W (i + 1) m' H') ∧ ∀ x H', J.yld i H x H' → g x (wipe σ vs) H' fun σ2 H2 => wipe σ2 vs = wipe σ vs ∧ tt σ2 H2 fun b H3 =>
        if b = true then te σ2 H3 fun y H4 => ∃ acc, H4 D = some (.lst acc) ∧ acc.length < sizeLine ∧ Nx (upd H4 D (.lst (acc ++ [y]))) else Nx H3)) :=
  ⟨fun D hD => lc_it w (fun i H => Box (Pv D i H)) ⟨h0 D hD⟩ (fun i H hi p => hG D i H hi p.out) (fun i x H H' hi p y => hs D i x H H' hi p.out y) (fun H p => hd D H p.out)⟩
end
/-- None or a whole number -/
def oV : Option Int → V
  | none => .non
  | some i => .int i
theorem putF_lt {f : Str} {v : V} {n : Nat} : ∀ {fs : List (Str × V)}, fs.length < n → (putF f v fs).length < n + 1
  | [], h => by show 1 < n + 1; simp only [List.length_nil] at h; omega
  | (g, x) :: r, h => by
    rw [List.length_cons] at h
    unfold putF
    by_cases e : g = f
    · rw [if_pos e, List.length_cons]; omega
    · rw [if_neg e, List.length_cons]
      have := putF_lt (f := f) (v := v) (n := n - 1) (fs := r) (by omega)
      omega
theorem at_of {xs : List V} {i : Int} {v : V} (h : atI xs i = some v) : atI xs i = some v := h
theorem ix_of {n : Nat} {i : Int} {j : Nat} (h : ixN n i = some j) : ixN n i = some j := h
theorem cp_of {i j : Int} (h : CPow i j) : CPow i j := h
theorem cmw_of {i j : Int} (h : CMulW i j) : CMulW i j := h
theorem eq_oV {o : Option Int} {j : Int} : decide (oV o = V.int j) = decide (o = some j) := by
  cases o with
  | none => simp [oV]
  | some i => simp [oV]
theorem zip_all {α β γ : Type} [DecidableEq γ] (f : α → γ) (g : β → γ) : ∀ (xs : List α) (ys : List β), xs.length = ys.length → ((xs.zip ys).map fun p => decide (f p.1 = g p.2)).all id = decide (xs.map f = ys.map g)
  | [], [], _ => rfl
  | [], _ :: _, h => by cases h
  | _ :: _, [], h => by cases h
  | x :: xs, y :: ys, h => by
    have ih := zip_all f g xs ys (by simpa using h)
    simp only [List.zip_cons_cons, List.map_cons, List.all_cons, id_eq, ih, List.cons.injEq, Bool.decide_and]
theorem zip_at {α β : Type} {xs : List α} {ys : List β} {i : Nat} {x : α} {y : β} (h1 : xs[i]? = some x) (h2 : ys[i]? = some y) : (xs.zip ys)[i]? = some (x, y) := List.getElem?_zip_eq_some.mpr ⟨h1, h2⟩
/-! ### readings by name, for what stands within a comprehension -/
def rLenSq (K : PySem.W.Frag) : List V → Hp → VK → Prop := fun xs H Q => ∃ p ys, xs = [.ref p] ∧ (SqL K H p ys ∨ SqT K H p ys) ∧ Q (.int ys.length) H
def rLenV (K : PySem.W.Frag) : List V → Hp → VK → Prop := fun xs H Q => ∃ x n, xs = [x] ∧ LenV K x H n ∧ Q (.int n) H
def rListOf (K : PySem.W.Frag) : List V → Hp → VK → Prop := fun xs H Q => ∃ p ys, xs = [.ref p] ∧ (SqL K H p ys ∨ SqT K H p ys) ∧ ∀ l, H l = none → Q (.ref l) (upd H l (.lst ys))
def rTupOf (K : PySem.W.Frag) : List V → Hp → VK → Prop := fun xs H Q => ∃ p ys, xs = [.ref p] ∧ ((SqL K H p ys ∧ ∀ l, H l = none → Q (.ref l) (upd H l (.tup ys))) ∨ (SqT K H p ys ∧ Q (.ref p) H))
/-! ### rows of whole numbers, each with its place -/
abbrev Pg := Addr × List Int
abbrev pcel (x : Pg) : Addr × HO := (x.1, .lst (x.2.map V.int))
/-- the rows stand in the heap -/
def RowsAt (H : Hp) (rs : List Pg) : Prop := ∀ r ∈ rs, H r.1 = some (.lst (r.2.map V.int))
theorem RowsAt.mono {H0 H : Hp} {cs : Cells} {rs : List Pg} (h : RowsAt H0 rs) (O : Own H0 H [] cs) : RowsAt H rs := fun r hr => O.fr0 (h r hr)
theorem Own.rows {H0 H : Hp} {A : List Addr} {cs : Cells} {rs : List Pg} (O : Own H0 H A cs) (h : ∀ r ∈ rs, pcel r ∈ cs) : RowsAt H rs := fun r hr => O.get (h r hr)
theorem refs_get {rs : List Pg} {i : Nat} {x : V} (h : (rs.map fun x : Pg => V.ref x.1)[i]? = some x) : ∃ y, rs[i]? = some y ∧ x = V.ref y.1 := by
  rw [List.getElem?_map] at h
  cases e : rs[i]? with
  | none => rw [e] at h; cases h
  | some y => rw [e] at h; exact ⟨y, rfl, (Option.some.inj h).symm⟩
/-- a thing of a row is put anew, where more stands behind -/
theorem Own.put2 {α : Type} {H0 H : Hp} {A : List Addr} {pre post : Cells} {l : List α} {g : α → Addr × HO} {b y : α} {j : Nat} (O : Own H0 H A (g b :: (pre ++ (l.map g ++ post)))) (h : l[j]? = some y) : Own H0 H A (pre ++ ((l.set j b).map g ++ post)) := by
  have O1 : Own H0 H A (g b :: ((post ++ pre) ++ l.map g)) := O.perm (by
    refine .cons _ ?_
    rw [List.append_assoc, ← List.append_assoc pre]
    exact List.perm_append_comm)
  have O2 := O1.put h
  refine O2.perm ?_
  rw [List.append_assoc, ← List.append_assoc pre]
  exact List.perm_append_comm
theorem rgV0 (n : Nat) : rgV 0 (n : Int) = ((List.range n).map fun i : Nat => (i : Int)).map V.int := by
  unfold rgV
  rw [List.map_map, show ((n : Int) - 0).toNat = n by omega]
  exact List.map_congr_left fun i _ => by rw [Int.zero_add]; rfl
theorem cutV_to (xs : List V) (n : Nat) : cutV xs none (some (n : Int)) = xs.take n := by
  unfold cutV
  rw [HT.sIx_nat]
  show (xs.drop 0).take _ = _
  rw [List.drop_zero, HT.sIx_none, Nat.sub_zero]
  by_cases h : n ≤ xs.length
  · rw [show min n xs.length = n by omega]
  · rw [show min n xs.length = xs.length by omega, List.take_length, List.take_of_length_le (by omega)]
theorem cutV_from (xs : List V) (n : Nat) : cutV xs (some (n : Int)) none = xs.drop n := by
  unfold cutV
  rw [HT.sIx_nat]
  show (xs.drop (min n xs.length)).take (xs.length - min n xs.length) = _
  by_cases h : n ≤ xs.length
  · rw [show min n xs.length = n by omega, List.take_of_length_le (by rw [List.length_drop]; omega)]
  · rw [show min n xs.length = xs.length by omega, List.drop_length, List.drop_eq_nil_of_le (by omega), List.take_nil]
theorem cutV_mid (xs : List V) (a b : Nat) (h : a ≤ b) (hb : b ≤ xs.length) : cutV xs (some (a : Int)) (some (b : Int)) = (xs.drop a).take (b - a) := by
  unfold cutV
  rw [HT.sIx_nat, HT.sIx_nat, show min a xs.length = a by omega, show min b xs.length = b by omega]
/-- cells that were handed and stand as they stood need not be told -/
theorem Own.back {H0 H : Hp} {cs bs : Cells} (O : Own H0 H (Ow.adr bs) (cs ++ bs)) (h : ∀ a o, (a, o) ∈ bs → H0 a = some o) : Own H0 H [] cs := by
  have nd := O.nd
  rw [adr_app] at nd
  obtain ⟨n1, n2, n3⟩ := List.nodup_append.mp nd
  refine ⟨fun a o m => O.at_ a o (List.mem_append_left _ m), n1, fun b o e _ => ?_, fun b m => ?_, O.tp⟩
  · by_cases hb : b ∈ Ow.adr bs
    · obtain ⟨c, hc, rfl⟩ := List.mem_map.mp hb
      have e2 := h c.1 c.2 hc
      rw [e] at e2
      cases e2
      exact O.at_ _ _ (List.mem_append_right _ hc)
    · exact O.fr b o e hb
  · rcases O.nw b (by rw [adr_app]; exact List.mem_append_left _ m) with z | z
    · exact absurd rfl (n3 b m b z)
    · exact .inr z
/-- a dict is written: a key that is not there comes last -/
theorem putK_new {kvs : List (Key × V)} {k : Key} {v : V} (h : k ∉ kvs.map (·.1)) : putK kvs k v = kvs ++ [(k, v)] := by
  unfold putK
  rw [if_neg]
  intro e
  obtain ⟨x, hx, e⟩ := List.any_eq_true.mp e
  exact h (List.mem_map.mpr ⟨x, hx, of_decide_eq_true e⟩)
theorem mergeK_app : ∀ {more acc : List (Key × V)}, ((acc ++ more).map (·.1)).Nodup → mergeK acc more = acc ++ more
  | [], acc, _ => (List.append_nil acc).symm
  | (k, v) :: r, acc, h => by
    have h1 : k ∉ acc.map (·.1) := by
      rw [List.map_append] at h
      intro z
      exact (List.nodup_append.mp h).2.2 k z k (by simp) rfl
    show mergeK (putK acc k v) r = _
    rw [putK_new h1, mergeK_app (by rw [List.append_assoc]; exact h), List.append_assoc]
    rfl
theorem Own.sep {H0 H : Hp} {A : List Addr} {X Y : Cells} {a : Addr} (O : Own H0 H A (X ++ Y)) (h : a ∈ Ow.adr X) : a ∉ Ow.adr Y := fun z => by
  have nd := O.nd
  rw [adr_app] at nd
  exact (List.nodup_append.mp nd).2.2 a h a z rfl
theorem atI_last {xs : List V} {v : V} (h : xs[xs.length - 1]? = some v) : atI xs (-1) = some v := by
  have hl := (List.getElem?_eq_some_iff.mp h).1
  have e : ixN xs.length (-1) = some (xs.length - 1) := by
    unfold ixN
    rw [if_neg (by decide), if_pos (by omega)]
    congr 1
    omega
  unfold atI
  rw [e]
  exact h
/-! ### dicts of lists, compared -/
section
open PySem.Calls PyProof.V
variable {prog : Program} {w : World} {κ : Type} [DecidableEq κ] {knd : KeyKind prog w κ} {A : Around} {s : Shared}
theorem neP_dicts {a b : Addr} {ka kb : List (κ × Value)} {r : Bool} (ha : (a == sysModules) = false) (hb : (b == sysModules) = false) (da : s.heap.DictOf knd a ka) (db : s.heap.DictOf knd b kb) (hu : A.units < cLine)
    (hits : ka.length = kb.length → PySem.W.KeqHitsP prog w A.in1 s kb ka r) (E Q : Value → Shared → Prop) (h : Q (.bool (!(ka.length == kb.length && r))) s) : wpAny (model prog w) A (compareOp .NotEq (.ref a) (.ref b)) Q E s := by
  refine wpAny_richCompare_same_room (op := .NotEq) da.typeIs db.typeIs PySem.F.slot_dict_ne (wpAny_call_entry PySem.F.slot_dict_ne da.typeIs PySem.F.entry_dict_ne ?_ (PySem.F.args_dict_ne_2 _ _)) hu
  show wpAny _ _ (Builtin.Dict.dictSlotArgs "__ne__" ⟨[.ref a, .ref b], []⟩ >>= _) _ _ s
  refine wpAny_bind ?_
  unfold Builtin.Dict.dictSlotArgs
  refine wpAny_bind (wpAny_notOrdered_dict da.typeIs ?_)
  show wpAny _ _ (pure (Value.ref a, Value.ref b)) _ _ s
  refine wpAny_pure ?_
  refine wpAny_bind (wpAny_isInstance (T := "dict") db.typeIs PySem.F.sub_dict_dict ?_)
  simp only [Bool.not_true, Bool.false_eq_true, if_false]
  refine wpAny_bind (wpAny_pure (wpAny_bind (wpAny_pure ?_)))
  refine wpAny_bind (PySem.W.samePairsP ha hb da db hits ?_)
  refine wpAny_pure ⟨_, rfl, ?_, ?_⟩
  · exact fun x => nomatch x
  · simpa using h
end
/-- d != e, two dicts: of unlike lengths, or equal -/
def rNeDV (K : PySem.W.Frag) : R2 := fun x y H Q => ∃ a b ks ls, x = .ref a ∧ y = .ref b ∧ H a = some (.dK ks) ∧ H b = some (.dK ls) ∧
  ((ks.length ≠ ls.length ∧ Q (.bl true) H) ∨ (ks.length = ls.length ∧ (∀ p ∈ ks, ∃ u, valV ls p.1 = some u ∧ EqV K H 2 p.2 u) ∧ Q (.bl false) H))
theorem op_neDV {X : Cx} (hu : X.A.units + 64 < cLine) : OpR X (compareOp .NotEq) (rNeDV X.K) := by
  intro pins s σ H x y v u Q I rx ry h
  obtain ⟨a, b, ks, ls, rfl, rfl, ea, eb, h⟩ := h
  obtain rfl : v = Value.ref a := rx
  obtain rfl : u = Value.ref b := ry
  obtain ⟨_, ya, va, ra, da⟩ := (show ObjOk X.prog X.w H s.heap a (.dK ks) from I.hok a _ ea)
  obtain ⟨_, yb, vb, rb, db⟩ := (show ObjOk X.prog X.w H s.heap b (.dK ls) from I.hok b _ eb)
  have e1 : va.length = ks.length := ra.length.symm
  have e2 : vb.length = ls.length := rb.length.symm
  rcases h with ⟨hne, q⟩ | ⟨hl, hp, q⟩
  · refine neP_dicts (knd := mixKind X.prog X.w) (r := false) ya yb da db (by omega) (fun z => absurd (by omega) hne) _ _ ?_
    rw [show (!(va.length == vb.length && false)) = true by simp]
    exact ⟨.bl true, H, I, rfl, q⟩
  · refine neP_dicts (knd := mixKind X.prog X.w) (r := true) ya yb da db (by omega) (fun _ => hits_run (eqV_run I 2 X.A.in1 (by show X.A.units + 1 + 2 < cLine; omega)) rb ra hp) _ _ ?_
    rw [show (!(va.length == vb.length && true)) = false by rw [e1, e2, hl]; simp]
    exact ⟨.bl false, H, I, rfl, q⟩
theorem paired_ints {K : PySem.W.Frag} {H : Hp} : ∀ ns : List Int, Paired (EqV K H 1) (ns.map V.int) (ns.map V.int)
  | [] => .nil
  | n :: r => .cons (.inl ⟨rfl, rfl⟩) (paired_ints r)
theorem eqV_ints {K : PySem.W.Frag} {H : Hp} {a b : Addr} {ns : List Int} (ha : H a = some (.lst (ns.map V.int))) (hb : H b = some (.lst (ns.map V.int))) : EqV K H 2 (.ref a) (.ref b) :=
  .inr (.inr (.inl ⟨a, b, _, _, rfl, rfl, SqL.of ha, SqL.of hb, paired_ints ns⟩))
/-! ### lists of texts, compared -/
section
variable {K : PySem.W.Frag} {H : Hp} {a b : Addr}
theorem dpa_strs : ∀ ns : List Str, DpAll K H (ns.map V.str) (ns.map PyData.str)
  | [] => .nil
  | n :: r => .cons (.str n) (dpa_strs r)
theorem depth_strs : ∀ ns : List Str, PyData.depthAll (ns.map PyData.str) ≤ 1
  | [] => by simp [PyData.depthAll]
  | n :: r => by
    have := depth_strs r
    simp only [List.map_cons, PyData.depthAll, PyData.depth]
    omega
theorem lay_strs : ∀ ns : List Str, (ns.all PyData.strOk = true) → PyData.canLayAll0 (ns.map PyData.str) = true
  | [], _ => by simp [PyData.canLayAll0]
  | n :: r, h => by
    rw [List.all_cons, Bool.and_eq_true] at h
    simp [PyData.canLayAll0, PyData.canLay0, lay_strs r h.2, h.1]
theorem sh_strs (ns : List Str) (h : ns.all PyData.strOk = true) : SeqAt.shaped (.list (ns.map PyData.str)) = true := by
  have h1 := depth_strs ns
  have h2 : PyData.depth (.list (ns.map PyData.str)) ≤ 64 := by
    simp only [PyData.depth]
    omega
  show (PyData.canLay0 (.list (ns.map PyData.str)) && decide (PyData.depth (.list (ns.map PyData.str)) ≤ 64)) = true
  rw [Bool.and_eq_true]
  exact ⟨by simp only [PyData.canLay0]; exact lay_strs ns h, decide_eq_true h2⟩
theorem dist_strs : ∀ ns ms : List Str, PyData.eqvAll (ns.map PyData.str) (ms.map PyData.str) = decide (ns = ms)
  | [], [] => rfl
  | [], _ :: _ => rfl
  | _ :: _, [] => rfl
  | n :: r, m :: q => by
    rw [List.map_cons, List.map_cons, PyData.eqvAll, dist_strs r q]
    show ((n == m) && _) = _
    by_cases h : n = m
    · subst h; simp
    · rw [decide_eq_false (fun e => h (List.cons.inj e).1)]; simp [h]
theorem eq_strs {ns ms : List Str} {Q : VK} (h1 : ns.all PyData.strOk = true) (h2 : ms.all PyData.strOk = true) (ha : H a = some (.lst (ns.map V.str))) (hb : H b = some (.lst (ms.map V.str))) (k : Q (.bl (decide (ns = ms))) H) : rEqD K (.ref a) (.ref b) H Q :=
  ⟨_, _, .lst (SqL.of ha) (dpa_strs ns), .lst (SqL.of hb) (dpa_strs ms), sh_strs ns h1, sh_strs ms h2, by rw [show PyData.eqv (.list (ns.map PyData.str)) (.list (ms.map PyData.str)) = decide (ns = ms) from dist_strs ns ms]; exact k⟩
end
/-! ### held exceptions, asked about several classes -/
/-- isinstance(e, (c, ..)), e a held exception -/
def rIsXT (K : PySem.W.Frag) : List V → Hp → VK → Prop := fun xs H Q => ∃ (a D tp : Addr) (cs : List V) (us : List Value) (b : Bool), xs = [.ref a, .ref tp] ∧ H a = some (CxO (.ref D) none a) ∧ ExcC K D ∧ H tp = some (.tup cs) ∧ Paired ClsV cs us ∧ PySem.W.kitAny K (.ref D) us = some b ∧ Q (.bl b) H
theorem call_isXT {X : Cx} : CallR X (.builtin "isinstance") (rIsXT X.K) := by
  intro pins s σ H xs us Q I r h
  obtain ⟨a, D, tp, cs, ws, b, rfl, ha, C, hT, k, says, q⟩ := h
  obtain ⟨u1, u2, rfl, r1, r2⟩ := vals2 r
  cases (show u1 = Value.ref a from r1)
  cases (show u2 = Value.ref tp from r2)
  obtain ⟨⟨ob, vs, at_, z, dt⟩, _, _⟩ := I.hok a _ ha
  have J : PySem.W.InstAt s.heap a ob D none := by
    obtain ⟨oc, od, oda, osl⟩ := ob
    obtain ⟨h1, h2⟩ := z
    dsimp only at h1 h2 dt
    subst h1 h2 dt
    exact ⟨at_, rfl, rfl, trivial⟩
  obtain ⟨_, its, rv, o, h1, h2, n, h3⟩ := (show ObjOk X.prog X.w H s.heap tp (.tup cs) from I.hok tp _ hT)
  have e3 := ClsV.all k rv
  subst e3
  obtain ⟨oc, od, dt, sl⟩ := o
  simp only at h2 h3
  subst h2 h3
  refine PySem.W.kia_tup (PySem.W.handS_kitx_exc C.hg C.hk C.hs C.hd C.ha C.hn C.ht C.hm) I.kIn J h1 says (fun w => nomatch w) fun tk => ?_
  exact ⟨.bl b, H, I.kept (t' := tk) fun _ _ w => w, rfl, q⟩
theorem kit_any {K : PySem.W.Frag} {t : Value} : ∀ {us : List Value} {bs : List Bool}, Paired (fun u b => PySem.W.kitOne K t u = some b) us bs → PySem.W.kitAny K t us = some (bs.any id)
  | _, _, .nil => rfl
  | _, _, .cons (b := b) h k => by
    refine kitAny_cons h (fun e => ?_) (fun e => ?_)
    · have z := kit_any k
      rw [e]; exact z
    · rw [e]; rfl
/-! ### a dict is locked while it is walked -/
theorem lock_d {H : Hp} {d : Addr} {kvs : List (Key × V)} {t : TS} {D : Ends} {σ : L2.St} (h : H d = some (.dK kvs))
    (k : ∀ od, t ⟨fun σ' H' => H' d = some (.frz od (.dK kvs)) ∧ D.nx σ' (upd H' d (.dK kvs)), fun v H' => H' d = some (.frz od (.dK kvs)) ∧ D.rt v (upd H' d (.dK kvs)), fun σ' H' => H' d = some (.frz od (.dK kvs)) ∧ D.bk σ' (upd H' d (.dK kvs)), fun σ' H' => H' d = some (.frz od (.dK kvs)) ∧ D.ct σ' (upd H' d (.dK kvs))⟩ σ (upd H d (.frz od (.dK kvs)))) : tLock t D σ H :=
  ⟨d, _, h, True.intro, k⟩
end Ow
namespace Ow
open PySem PySem.Spec PyProof.Rows L2
/-! ### int(x) by kinds -/
theorem call_intB {X : Cx} : CallR X (.type "int") (fun xs H Q => ∃ k, xs = [.bl k] ∧ Q (.int (if k = true then 1 else 0)) H) := by
  intro pins s σ H xs us Q I r h
  exact call_int1 pins s σ H xs us Q I r (.inr h)
theorem call_intI {X : Cx} : CallR X (.type "int") (fun xs H Q => ∃ i, xs = [.int i] ∧ Q (.int i) H) := by
  intro pins s σ H xs us Q I r h
  exact call_int1 pins s σ H xs us Q I r (.inl h)
/-! ### the keys of a dict, as a view -/
/-- a view of the keys of the dict at d stands at r -/
def KO (r d : Addr) : HO := .ext fun h => PySem.W.KdlKeysView h r d
def rKeysV : V → List V → Hp → VK → Prop := fun x xs H Q => ∃ d kvs, x = .ref d ∧ xs = [] ∧ Rd H d (.dK kvs) ∧ ∀ r, H r = none → Q (.ref r) (upd H r (KO r d))
theorem mt_keys {X : Cx} : MtR X "dict.keys" rKeysV := by
  intro pins s σ H x vs v us Q I rx rv h
  obtain ⟨d, kvs, rfl, rfl, hd, q⟩ := h
  cases rx
  cases rv
  obtain ⟨z, lo, ws, rel, dd⟩ := dk_rd I.hok hd
  refine call_meetsIn F.slot_dict_keys dd.typeIs F.entry_dict_keys (F.args_dict_keys_1 _) (PySem.W.kdl_meets_keys (mixKind X.prog X.w) d lo) ⟨⟨ws, dd⟩, ?_⟩
  refine ⟨.ref s.heap.objs.size, upd H s.heap.objs.size (KO s.heap.objs.size d), I.laid (t' := s.toks) (fun b u e => Heap.get?_push_of_some _ e) (Nat.le_refl _) ?_, rfl, q _ (I.hok.fresh (Nat.le_refl _))⟩
  exact ⟨⟨_, Heap.get?_push_size _ rfl, rfl, rfl⟩, ⟨_, Heap.get?_push_size _ rfl⟩, fun h1 h2 ⟨o, e, c, dt⟩ k => ⟨o, k o e, c, dt⟩⟩
/-- sorted of what lists whole numbers -/
theorem sorted_src {X : Cx} {pins : List (Addr × Obj)} {σ : L2.St} {H : Hp} {s : Shared} {T : String} {r d : Addr} {vs : List (Key × Value)} {OK : Heap → Prop} {ks : List Int} {Q : VK} (hcalm : X.calm = true) (I : Inv X pins σ H s)
    (S : PySem.W.KdlSrc X.prog X.w T r d vs.length (fun i v => ∃ k x, vs[i]? = some (k, x) ∧ (mixKind X.prog X.w).is k v = true) OK) (ok : OK s.heap) (hkeys : vs.map (·.1) = ks.map Sum.inl) (hz : ks.length ≤ sizeLine)
    (q : ∀ (ys : List Int) (p : Addr), ys.Perm ks → ys.Pairwise (· ≤ ·) → H p = none → Q (.ref p) (upd H p (.lst (ys.map V.int)))) : wpAny (model X.prog X.w) X.A (call (.builtin "sorted") [.ref r]) (EP X pins σ Q) X.xe s := by
  have hl : vs.length = ks.length := by
    have e := congrArg List.length hkeys
    rw [List.length_map, List.length_map] at e
    exact e
  refine Calls.call_function_entry PyProof.Rows.kind_sorted PyProof.Rows.plain_sorted PyProof.Rows.entry_sorted (PyProof.Rows.args_sorted1 _) ?_
  unfold Builtin.«sorted»
  refine wpAny_bind (m := checkCount "sorted" 1 1 _) (wpAny_pure ?_)
  refine wpAny_bind (PySem.W.kdu_collect (A := X.A.in1) S (I.ok.hd hcalm) ok (by omega) fun h' tk acc hk hacc => ?_)
  have hal : acc.toList.length = ks.length := by rw [Array.length_toList, hacc.1, hl]
  have hS : IntsAre acc.toList ks := ints_each hal fun j v e => by
    obtain ⟨k, x, e1, e2⟩ := hacc.2 j v (by rw [← Array.getElem?_toList]; exact e)
    have e3 : (vs.map (·.1))[j]? = some k := by rw [List.getElem?_map, e1]; rfl
    rw [hkeys, List.getElem?_map] at e3
    cases e4 : ks[j]? with
    | none => rw [e4] at e3; cases e3
    | some y =>
      rw [e4] at e3
      have e5 : Sum.inl y = k := Option.some.inj e3
      subst e5
      rcases keyIs_shape (show keyIs (Sum.inl y) v = true from e2) with ⟨i, t, ek, ev⟩ | ⟨z, t, ek, ev⟩
      · cases ek
        exact ⟨y, t, rfl, ev⟩
      · cases ek
  have I1 : Inv X pins σ H { s with heap := h', toks := tk } := I.kept hk
  refine wpAny_bind (wpAny_newList ?_ (by rw [hal]; exact hz))
  have hoL : (h'.push (seqObj "list" acc.toList.toArray 0)).get? h'.objs.size = some (seqObj "list" acc.toList.toArray 0) := Heap.get?_push_size _ rfl
  show wpAny _ _ _ _ _ { s with heap := h'.push (seqObj "list" acc.toList.toArray 0), toks := tk }
  refine wpAny_bind (wpAny_holding (wpAny_call_entry PyProof.Rows.slot_list_sort ⟨_, hoL, rfl⟩ PyProof.Rows.entry_list_sort
    (SrtO.list_sort_ord (s := { s with heap := h'.push (seqObj "list" acc.toList.toArray 0), toks := tk }) SrtO.swo_int hoL (by rw [hal]; exact hz) (fun h2 => SrtO.ints_sortable hS h2) fun out h1 h2 => ⟨_, rfl, ?_⟩) (PyProof.Rows.args_list_sort _)))
  obtain ⟨g1, g2, g3⟩ := SrtO.ints_out hS h1 h2
  obtain ⟨e', he'⟩ := PyProof.Rows.sortedHeap_at (vs := acc.toList) (out := out.toArray) hoL
  have hlen : ((out.map SrtO.iv).map V.int).length ≤ sizeLine := by
    rw [List.length_map, g2.length_eq]
    exact hz
  refine wpAny_pure ⟨_, rfl, .ref h'.objs.size, upd H h'.objs.size (.lst ((out.map SrtO.iv).map V.int)), I1.laid (t' := tk) (fun b u e => ?_) (Nat.le_refl _)
    (show ObjOk X.prog X.w _ _ _ (.lst ((out.map SrtO.iv).map V.int)) from ⟨hlen, out, e', vals_of_ints g1, he'⟩), rfl, q _ _ g2 g3 (I1.hok.fresh (Nat.le_refl _))⟩
  have hb : b < h'.objs.size := Heap.lt_size e
  rw [PyProof.Rows.sortedHeap_old (Nat.ne_of_lt hb) (by rw [size_push']; exact Nat.lt_succ_of_lt hb)]
  exact Heap.get?_push_of_some _ e
def rSortedK : List V → Hp → VK → Prop := fun xs H Q => ∃ (r a : Addr) (kvs : List (Key × V)) (ks : List Int), xs = [.ref r] ∧ H r = some (KO r a) ∧ Rd H a (.dK kvs) ∧ kvs.map (·.1) = ks.map Sum.inl ∧
    ∀ (ys : List Int) (p : Addr), ys.Perm ks → ys.Pairwise (· ≤ ·) → H p = none → Q (.ref p) (upd H p (.lst (ys.map V.int)))
/-- sorted(d.keys()), all ints -/
theorem call_sortedK {X : Cx} (hcalm : X.calm = true) : CallR X (.builtin "sorted") rSortedK := by
  intro pins s σ H xs us Q I r q
  obtain ⟨v, a, kvs, ks, ex, hv, hd, hks, q⟩ := q
  subst ex
  obtain ⟨u, eu, rx⟩ := vals1 r
  subst eu
  cases rx
  obtain ⟨hview, _, _⟩ := I.hok v _ hv
  obtain ⟨z, lo, vs, rel, dd⟩ := dk_rd I.hok hd
  obtain ⟨ep, hat⟩ := dd.dictAt
  have hkeys : vs.map (·.1) = ks.map Sum.inl := rel.keys.symm.trans hks
  have hz := congrArg List.length hks
  rw [List.length_map, List.length_map] at hz
  exact sorted_src hcalm I (PySem.W.kdl_keys (knd := mixKind X.prog X.w) (kvs := vs) (ep := ep) (r := v) (d := a)) ⟨hview, hat⟩ hkeys (by omega) q
def rSortedDW : List V → Hp → VK → Prop := fun xs H Q => ∃ (a : Addr) (kvs : List (Key × V)) (ks : List Int), xs = [.ref a] ∧ Rd H a (.dK kvs) ∧ kvs.map (·.1) = ks.map Sum.inl ∧
    ∀ (ys : List Int) (p : Addr), ys.Perm ks → ys.Pairwise (· ≤ ·) → H p = none → Q (.ref p) (upd H p (.lst (ys.map V.int)))
/-- sorted(d), all ints -/
theorem call_sortedDW {X : Cx} (hcalm : X.calm = true) : CallR X (.builtin "sorted") rSortedDW := by
  intro pins s σ H xs us Q I r q
  obtain ⟨a, kvs, ks, ex, hd, hks, q⟩ := q
  subst ex
  obtain ⟨u, eu, rx⟩ := vals1 r
  subst eu
  cases rx
  obtain ⟨z, lo, vs, rel, dd⟩ := dk_rd I.hok hd
  obtain ⟨ep, hat⟩ := dd.dictAt
  have hkeys : vs.map (·.1) = ks.map Sum.inl := rel.keys.symm.trans hks
  have hz := congrArg List.length hks
  rw [List.length_map, List.length_map] at hz
  exact sorted_src hcalm I (PySem.W.kdl_dict (knd := mixKind X.prog X.w) (kvs := vs) (ep := ep) lo) hat hkeys (by omega) q
end Ow
namespace Ow
open PySem PySem.Spec PyProof.Rows L2
def top (i : Nat) : Stmt := PySem.Challenge.pw_ownroom_k04_tables_deed_by_deed.main.body.getD i (.Pass ⟨0, 0, 0, 0⟩)
abbrev s__wall : Stmt := top 0
abbrev s_Table___init__ : Stmt := inClass (top 3) 0
abbrev s_Table_get : Stmt := inClass (top 3) 1
abbrev s_Table_lay : Stmt := inClass (top 3) 2
abbrev s_Table_clear : Stmt := inClass (top 3) 3
abbrev s_Table_pages : Stmt := inClass (top 3) 4
abbrev s_Table_steps : Stmt := inClass (top 3) 5
abbrev s__law_whole : Stmt := top 5
abbrev s__law_cell_at : Stmt := top 6
abbrev s__law_mix : Stmt := top 7
abbrev s__law_numbers : Stmt := top 8
abbrev s__law_deeds_by : Stmt := top 9
abbrev s__law_entry_by : Stmt := top 10
abbrev s__law_entry : Stmt := top 11
abbrev s_law : Stmt := top 12
def fns0 : List He.DefD := [⟨("_wall", none), "_wall", "_wall", defArgs (top 0), defBody (top 0), defScope (top 0), [], []⟩, ⟨("Table", some "__init__"), "__init__", "Table.__init__", defArgs (inClass (top 3) 0), defBody (inClass (top 3) 0), defScope (inClass (top 3) 0), [], []⟩, ⟨("Table", some "get"), "get", "Table.get", defArgs (inClass (top 3) 1), defBody (inClass (top 3) 1), defScope (inClass (top 3) 1), [], []⟩, ⟨("Table", some "lay"), "lay", "Table.lay", defArgs (inClass (top 3) 2), defBody (inClass (top 3) 2), defScope (inClass (top 3) 2), [], []⟩, ⟨("Table", some "clear"), "clear", "Table.clear", defArgs (inClass (top 3) 3), defBody (inClass (top 3) 3), defScope (inClass (top 3) 3), [], []⟩, ⟨("Table", some "pages"), "pages", "Table.pages", defArgs (inClass (top 3) 4), defBody (inClass (top 3) 4), defScope (inClass (top 3) 4), [], []⟩, ⟨("Table", some "steps"), "steps", "Table.steps", defArgs (inClass (top 3) 5), defBody (inClass (top 3) 5), defScope (inClass (top 3) 5), [], []⟩, ⟨("_law_whole", none), "_law_whole", "_law_whole", defArgs (top 5), defBody (top 5), defScope (top 5), [], []⟩, ⟨("_law_cell_at", none), "_law_cell_at", "_law_cell_at", defArgs (top 6), defBody (top 6), defScope (top 6), [], []⟩, ⟨("_law_mix", none), "_law_mix", "_law_mix", defArgs (top 7), defBody (top 7), defScope (top 7), [], []⟩, ⟨("_law_numbers", none), "_law_numbers", "_law_numbers", defArgs (top 8), defBody (top 8), defScope (top 8), [], []⟩, ⟨("_law_deeds_by", none), "_law_deeds_by", "_law_deeds_by", defArgs (top 9), defBody (top 9), defScope (top 9), [], []⟩, ⟨("_law_entry_by", none), "_law_entry_by", "_law_entry_by", defArgs (top 10), defBody (top 10), defScope (top 10), [], []⟩, ⟨("_law_entry", none), "_law_entry", "_law_entry", defArgs (top 11), defBody (top 11), defScope (top 11), [], []⟩, ⟨("law", none), "law", "law", defArgs (top 12), defBody (top 12), defScope (top 12), [], []⟩]
def fns : List He.DefD := fns0
def fa0 : List He.Fa := [.glo "_wall", .int "STEP" 8, .glo "Table", .glo "_law_whole", .glo "_law_cell_at", .glo "_law_mix", .glo "_law_numbers", .glo "_law_deeds_by", .glo "_law_entry_by", .glo "_law_entry", .glo "law", .free "range", .free "sorted", .free "isinstance", .free "int", .free "len", .free "max", .free "tuple", .free "bool", .free "list", .cls "Table", .mkr "Table", .meth "Table" "get", .meth "Table" "lay"]
def fa1 : List He.Fa := [.meth "Table" "clear", .meth "Table" "pages", .meth "Table" "steps", .noat "Table" "firsts"]
def fas : List He.Fa := fa0 ++ fa1
def exL (K : PySem.W.Frag) : List Bool := []
def exB (K : PySem.W.Frag) : Bool := (exL K).all id
abbrev hk : PySem.W.Hook := He.hookX 5 fas fns [] [] exB
def ob (s : PySem.W.SharedT) : He.AlX := He.obsX 5 fas fns [] [] exB (HandSHeadRun.getT s)
theorem ob_eq (s : PySem.W.SharedT) : ob s = hk.obs s.abs := He.obsX_eq (HandSHeadRun.getT_eq s)
def loose0 : List PySem.Str := ["_wall", "STEP", "Table", "_law_whole", "_law_cell_at", "_law_mix", "_law_numbers", "_law_deeds_by", "_law_entry_by", "_law_entry"]
def loose : List PySem.Str := loose0
abbrev R : PySem.W.OpenRow := PySem.W.OpenLaw.row PySem.Challenge.rw_ownroom_k04_tables_deed_by_deed
theorem run (w : World) : HandSHeadRun.RunEq R (PySem.W.view R.prog [12]) hk ob 60000 loose w := by
  intro os
  kernel_rfl
structure Txt (K : PySem.W.Frag) (mg : Str → Option Value) : Prop where
  g__wall : mg "_wall" = some (.ref (He.ga K "_wall"))
  g_STEP : ∃ t, mg "STEP" = some (.int 8 t)
  g_Table : mg "Table" = some (.ref (He.ga K "Table"))
  g__law_whole : mg "_law_whole" = some (.ref (He.ga K "_law_whole"))
  g__law_cell_at : mg "_law_cell_at" = some (.ref (He.ga K "_law_cell_at"))
  g__law_mix : mg "_law_mix" = some (.ref (He.ga K "_law_mix"))
  g__law_numbers : mg "_law_numbers" = some (.ref (He.ga K "_law_numbers"))
  g__law_deeds_by : mg "_law_deeds_by" = some (.ref (He.ga K "_law_deeds_by"))
  g__law_entry_by : mg "_law_entry_by" = some (.ref (He.ga K "_law_entry_by"))
  g__law_entry : mg "_law_entry" = some (.ref (He.ga K "_law_entry"))
  g_law : mg "law" = some (.ref (He.ga K "law"))
  n_range : mg "range" = none
  n_sorted : mg "sorted" = none
  n_isinstance : mg "isinstance" = none
  n_int : mg "int" = none
  n_len : mg "len" = none
  n_max : mg "max" = none
  n_tuple : mg "tuple" = none
  n_bool : mg "bool" = none
  n_list : mg "list" = none
  c_Table : Cls K (He.ga K "Table")
  m_Table : Mk K (He.ga K "Table") (He.ma K (He.ga K "Table") "__init__")
  m_Table_get : Meth K (He.ga K "Table") "get" (He.ma K (He.ga K "Table") "get")
  m_Table_lay : Meth K (He.ga K "Table") "lay" (He.ma K (He.ga K "Table") "lay")
  m_Table_clear : Meth K (He.ga K "Table") "clear" (He.ma K (He.ga K "Table") "clear")
  m_Table_pages : Meth K (He.ga K "Table") "pages" (He.ma K (He.ga K "Table") "pages")
  m_Table_steps : Meth K (He.ga K "Table") "steps" (He.ma K (He.ga K "Table") "steps")
  a_Table_firsts : NoAttr K (He.ga K "Table") "firsts"
  d__wall : ∃ fd, FunD K "_wall" "_wall" (defArgs s__wall) (defBody s__wall) (defScope s__wall) [] [] (He.fAd K ("_wall", none)) fd
  d_Table___init__ : ∃ fd, FunD K "__init__" "Table.__init__" (defArgs s_Table___init__) (defBody s_Table___init__) (defScope s_Table___init__) [] [] (He.fAd K ("Table", some "__init__")) fd
  d_Table_get : ∃ fd, FunD K "get" "Table.get" (defArgs s_Table_get) (defBody s_Table_get) (defScope s_Table_get) [] [] (He.fAd K ("Table", some "get")) fd
  d_Table_lay : ∃ fd, FunD K "lay" "Table.lay" (defArgs s_Table_lay) (defBody s_Table_lay) (defScope s_Table_lay) [] [] (He.fAd K ("Table", some "lay")) fd
  d_Table_clear : ∃ fd, FunD K "clear" "Table.clear" (defArgs s_Table_clear) (defBody s_Table_clear) (defScope s_Table_clear) [] [] (He.fAd K ("Table", some "clear")) fd
  d_Table_pages : ∃ fd, FunD K "pages" "Table.pages" (defArgs s_Table_pages) (defBody s_Table_pages) (defScope s_Table_pages) [] [] (He.fAd K ("Table", some "pages")) fd
  d_Table_steps : ∃ fd, FunD K "steps" "Table.steps" (defArgs s_Table_steps) (defBody s_Table_steps) (defScope s_Table_steps) [] [] (He.fAd K ("Table", some "steps")) fd
  d__law_whole : ∃ fd, FunD K "_law_whole" "_law_whole" (defArgs s__law_whole) (defBody s__law_whole) (defScope s__law_whole) [] [] (He.fAd K ("_law_whole", none)) fd
  d__law_cell_at : ∃ fd, FunD K "_law_cell_at" "_law_cell_at" (defArgs s__law_cell_at) (defBody s__law_cell_at) (defScope s__law_cell_at) [] [] (He.fAd K ("_law_cell_at", none)) fd
  d__law_mix : ∃ fd, FunD K "_law_mix" "_law_mix" (defArgs s__law_mix) (defBody s__law_mix) (defScope s__law_mix) [] [] (He.fAd K ("_law_mix", none)) fd
  d__law_numbers : ∃ fd, FunD K "_law_numbers" "_law_numbers" (defArgs s__law_numbers) (defBody s__law_numbers) (defScope s__law_numbers) [] [] (He.fAd K ("_law_numbers", none)) fd
  d__law_deeds_by : ∃ fd, FunD K "_law_deeds_by" "_law_deeds_by" (defArgs s__law_deeds_by) (defBody s__law_deeds_by) (defScope s__law_deeds_by) [] [] (He.fAd K ("_law_deeds_by", none)) fd
  d__law_entry_by : ∃ fd, FunD K "_law_entry_by" "_law_entry_by" (defArgs s__law_entry_by) (defBody s__law_entry_by) (defScope s__law_entry_by) [] [] (He.fAd K ("_law_entry_by", none)) fd
  d__law_entry : ∃ fd, FunD K "_law_entry" "_law_entry" (defArgs s__law_entry) (defBody s__law_entry) (defScope s__law_entry) [] [] (He.fAd K ("_law_entry", none)) fd
  d_law : ∃ fd, FunD K "law" "law" (defArgs s_law) (defBody s_law) (defScope s_law) [] [] (He.fAd K ("law", none)) fd
theorem sc_Table_steps : FnScope ["self"] ["self"] (defScope s_Table_steps) := ⟨rfl, rfl, rfl, by decide +kernel, rfl, by decide +kernel, by decide +kernel⟩
theorem okW_Table_steps {P : Program} {w : World} {K : PySem.W.Frag} {mg : Str → Option Value} {base : Heap} (T : Txt K mg) : Cee P w K mg base 1 (He.fAd K ("Table", some "steps")) ["self"] spWall :=
  cee_of T.d_Table_steps sc_Table_steps (fun _ _ _ _ _ _ us hl => match us, hl with | [_], _ => rfl) (fun vs H Q E h => h.elim) (fun cdv A outer s H vs Q E hr h => h.elim)
theorem txt_mk {K : PySem.W.Frag} {h : Heap} {mg : Str → Option Value} (X : K.In h) (G : h.Ns mainGlobals mg) (c : He.SaysD fas fns K) (m : exB K = true) : Txt K mg where
  g__wall := He.glo_ok X G (c.fact 0 (f := .glo "_wall") rfl)
  g_STEP := He.int_ok X G (c.fact 1 (f := .int "STEP" 8) rfl)
  g_Table := He.glo_ok X G (c.fact 2 (f := .glo "Table") rfl)
  g__law_whole := He.glo_ok X G (c.fact 3 (f := .glo "_law_whole") rfl)
  g__law_cell_at := He.glo_ok X G (c.fact 4 (f := .glo "_law_cell_at") rfl)
  g__law_mix := He.glo_ok X G (c.fact 5 (f := .glo "_law_mix") rfl)
  g__law_numbers := He.glo_ok X G (c.fact 6 (f := .glo "_law_numbers") rfl)
  g__law_deeds_by := He.glo_ok X G (c.fact 7 (f := .glo "_law_deeds_by") rfl)
  g__law_entry_by := He.glo_ok X G (c.fact 8 (f := .glo "_law_entry_by") rfl)
  g__law_entry := He.glo_ok X G (c.fact 9 (f := .glo "_law_entry") rfl)
  g_law := He.glo_ok X G (c.fact 10 (f := .glo "law") rfl)
  n_range := He.free_ok X G (c.fact 11 (f := .free "range") rfl)
  n_sorted := He.free_ok X G (c.fact 12 (f := .free "sorted") rfl)
  n_isinstance := He.free_ok X G (c.fact 13 (f := .free "isinstance") rfl)
  n_int := He.free_ok X G (c.fact 14 (f := .free "int") rfl)
  n_len := He.free_ok X G (c.fact 15 (f := .free "len") rfl)
  n_max := He.free_ok X G (c.fact 16 (f := .free "max") rfl)
  n_tuple := He.free_ok X G (c.fact 17 (f := .free "tuple") rfl)
  n_bool := He.free_ok X G (c.fact 18 (f := .free "bool") rfl)
  n_list := He.free_ok X G (c.fact 19 (f := .free "list") rfl)
  c_Table := He.cls_ok (c.fact 20 (f := .cls "Table") rfl)
  m_Table := He.mkr_ok (c.fact 21 (f := .mkr "Table") rfl)
  m_Table_get := He.meth_ok (c.fact 22 (f := .meth "Table" "get") rfl)
  m_Table_lay := He.meth_ok (c.fact 23 (f := .meth "Table" "lay") rfl)
  m_Table_clear := He.meth_ok (c.fact 24 (f := .meth "Table" "clear") rfl)
  m_Table_pages := He.meth_ok (c.fact 25 (f := .meth "Table" "pages") rfl)
  m_Table_steps := He.meth_ok (c.fact 26 (f := .meth "Table" "steps") rfl)
  a_Table_firsts := He.noat_ok (c.fact 27 (f := .noat "Table" "firsts") rfl)
  d__wall := c.def_ 0 (d := ⟨("_wall", none), "_wall", "_wall", defArgs (top 0), defBody (top 0), defScope (top 0), [], []⟩) rfl
  d_Table___init__ := c.def_ 1 (d := ⟨("Table", some "__init__"), "__init__", "Table.__init__", defArgs (inClass (top 3) 0), defBody (inClass (top 3) 0), defScope (inClass (top 3) 0), [], []⟩) rfl
  d_Table_get := c.def_ 2 (d := ⟨("Table", some "get"), "get", "Table.get", defArgs (inClass (top 3) 1), defBody (inClass (top 3) 1), defScope (inClass (top 3) 1), [], []⟩) rfl
  d_Table_lay := c.def_ 3 (d := ⟨("Table", some "lay"), "lay", "Table.lay", defArgs (inClass (top 3) 2), defBody (inClass (top 3) 2), defScope (inClass (top 3) 2), [], []⟩) rfl
  d_Table_clear := c.def_ 4 (d := ⟨("Table", some "clear"), "clear", "Table.clear", defArgs (inClass (top 3) 3), defBody (inClass (top 3) 3), defScope (inClass (top 3) 3), [], []⟩) rfl
  d_Table_pages := c.def_ 5 (d := ⟨("Table", some "pages"), "pages", "Table.pages", defArgs (inClass (top 3) 4), defBody (inClass (top 3) 4), defScope (inClass (top 3) 4), [], []⟩) rfl
  d_Table_steps := c.def_ 6 (d := ⟨("Table", some "steps"), "steps", "Table.steps", defArgs (inClass (top 3) 5), defBody (inClass (top 3) 5), defScope (inClass (top 3) 5), [], []⟩) rfl
  d__law_whole := c.def_ 7 (d := ⟨("_law_whole", none), "_law_whole", "_law_whole", defArgs (top 5), defBody (top 5), defScope (top 5), [], []⟩) rfl
  d__law_cell_at := c.def_ 8 (d := ⟨("_law_cell_at", none), "_law_cell_at", "_law_cell_at", defArgs (top 6), defBody (top 6), defScope (top 6), [], []⟩) rfl
  d__law_mix := c.def_ 9 (d := ⟨("_law_mix", none), "_law_mix", "_law_mix", defArgs (top 7), defBody (top 7), defScope (top 7), [], []⟩) rfl
  d__law_numbers := c.def_ 10 (d := ⟨("_law_numbers", none), "_law_numbers", "_law_numbers", defArgs (top 8), defBody (top 8), defScope (top 8), [], []⟩) rfl
  d__law_deeds_by := c.def_ 11 (d := ⟨("_law_deeds_by", none), "_law_deeds_by", "_law_deeds_by", defArgs (top 9), defBody (top 9), defScope (top 9), [], []⟩) rfl
  d__law_entry_by := c.def_ 12 (d := ⟨("_law_entry_by", none), "_law_entry_by", "_law_entry_by", defArgs (top 10), defBody (top 10), defScope (top 10), [], []⟩) rfl
  d__law_entry := c.def_ 13 (d := ⟨("_law_entry", none), "_law_entry", "_law_entry", defArgs (top 11), defBody (top 11), defScope (top 11), [], []⟩) rfl
  d_law := c.def_ 14 (d := ⟨("law", none), "law", "law", defArgs (top 12), defBody (top 12), defScope (top 12), [], []⟩) rfl
local macro_rules | `(tactic| walk_at "xf") => `(tactic| first  | fail)
local macro_rules | `(tactic| walk_at "fact") => `(tactic| first | with_reducible exact Txt.c_Table (by assumption) | with_reducible exact Txt.a_Table_firsts (by assumption) | fail)
/-! ### the walk's own lines -/
local macro_rules | `(tactic| walk_at "mem") => `(tactic| first | exact List.mem_cons_self | (apply List.mem_cons_of_mem; walk_at "mem") | (apply List.mem_append_right; walk_at "mem") | (apply List.mem_append_left; walk_at "mem"))
local macro_rules | `(tactic| walk_at "at") => `(tactic| first | exact At.here | (apply At.there; walk_at "at") | (apply At.app; walk_at "at") | (apply At.appl; walk_at "at"))
local macro_rules | `(tactic| walk_at "sub") => `(tactic| first | exact Sub.all | exact Sub.here | exact Sub.one | (apply Sub.there; walk_at "sub") | (apply Sub.appl; walk_at "sub") | (apply Sub.app; walk_at "sub"))
local macro_rules | `(tactic| walk_at "own") => `(tactic| first | assumption | ((with_reducible apply Own.wr2); (focus walk_at "own"); (focus walk_at "at"); rfl) | ((with_reducible apply Own.new); (focus walk_at "own"); assumption))
local macro_rules | `(tactic| walk_at "h") => `(tactic| first | assumption | (apply Own.get; (focus walk_at "own"); walk_at "mem") | (apply Own.fr0; (focus walk_at "own"); assumption) | (rename Own _ _ _ _ => otmp; clear otmp; walk_at "h"))
local macro_rules | `(tactic| walk_at "ar") => `(tactic| first | omega | (simp only [List.length_nil, List.length_cons, List.length_append, List.length_map, List.length_set, List.length_replicate, List.length_range]; omega))
/-- one premise -/
local macro_rules | `(tactic| walk_at "c") => `(tactic| first
  | with_reducible exact rfl
  | ((with_reducible apply sl_of); rfl)
  | ((with_reducible apply sc_of); rfl)
  | ((with_reducible apply lsq_of); rfl)
  | ((with_reducible apply wp_of); rfl)
  | ((with_reducible apply ln_of); rfl)
  | ((with_reducible apply veq_of); first | rfl | exact kl | exact kr)
  | ((with_reducible apply lk_of); rfl)
  | ((with_reducible apply lkn_of); rfl)
  | ((with_reducible apply lt_of); (first | decide | walk_at "ar" | ((repeat (with_reducible apply putF_lt)); walk_at "ar")))
  | ((with_reducible apply hp_of); walk_at "h")
  | ((with_reducible apply cd_of); first | exact ⟨by decide, by decide⟩ | exact ⟨by omega, by omega⟩)
  | ((with_reducible apply at_of); first | assumption | exact atI_nat (j := 0) rfl | exact atI_nat (j := 1) rfl | exact atI_nat (j := 2) rfl | exact atI_nat (j := 3) rfl | exact atI_nat (j := 4) rfl)
  | ((with_reducible apply ix_of); first | assumption | rfl)
  | ((with_reducible apply cp_of); exact ⟨by decide, by decide, by decide⟩)
  | ((with_reducible apply cmw_of); first | assumption | (unfold CMulW; decide +kernel))
  | ((with_reducible apply cm_l); first | exact ⟨by decide, by decide⟩ | exact ⟨by omega, by omega⟩)
  | ((with_reducible apply cm_r); first | exact ⟨by decide, by decide⟩ | exact ⟨by omega, by omega⟩)
  | walk_at "fact"
  | walk_at "kit"
  | walk_at "xf"
  | walk_at "col"
  | assumption)
local macro_rules | `(tactic| walk_at "prd") => `(tactic| first | exact Paired.nil | ((with_reducible apply Paired.cons); (focus walk_at "c"); walk_at "prd"))
local macro_rules | `(tactic| walk_at "kit") => `(tactic| first
  | (with_reducible exact Paired.nil) | ((with_reducible apply Paired.cons); (focus walk_at "c"); walk_at "prd") | ((with_reducible apply kit_any); walk_at "prd")
  | with_reducible exact ClsV.ty _ | with_reducible exact ClsV.own _
  | with_reducible exact kt_int_int | with_reducible exact kt_int_bool | with_reducible exact kt_bool_int | with_reducible exact kt_bool_bool | with_reducible exact kt_list_list | with_reducible exact kt_tuple_tuple | with_reducible exact kt_NoneType_tuple | with_reducible exact kt_str_str | with_reducible exact kt_NoneType_list | with_reducible exact kt_NoneType_int | with_reducible exact kt_NoneType_bool | with_reducible exact kt_NoneType_dict | with_reducible exact kt_NoneType_str | with_reducible exact kt_str_list | with_reducible exact kt_list_str | with_reducible exact kt_str_int | with_reducible exact kt_int_str | with_reducible exact kt_int_list | with_reducible exact kt_int_tuple | with_reducible exact kt_list_tuple | with_reducible exact kt_tuple_list | with_reducible exact kt_dict_dict | with_reducible exact kt_list_dict | with_reducible exact kt_dict_list | with_reducible exact kt_int_dict | with_reducible exact kt_str_bool | with_reducible exact kt_str_tuple | with_reducible exact kt_str_dict | with_reducible exact kt_list_int | with_reducible exact kt_list_bool | with_reducible exact kt_tuple_int | with_reducible exact kt_tuple_bool | with_reducible exact kt_tuple_str | with_reducible exact kt_tuple_dict
  | ((with_reducible apply TyX.base); first | with_reducible exact TyOf.non | with_reducible exact TyOf.bl _ | with_reducible exact TyOf.int _ | with_reducible exact TyOf.str _ | ((with_reducible apply TyOf.lst); walk_at "h") | ((with_reducible apply TyOf.tup); walk_at "h") | ((with_reducible apply TyOf.dK); walk_at "h")))
/-- lists, tuples, dicts, sizes -/
local macro_rules | `(tactic| walk_at "sq") => `(tactic| first | assumption | ((with_reducible apply SqL.of); walk_at "h") | ((with_reducible apply SqT.of); walk_at "h") | ((with_reducible apply Own.sq); (focus walk_at "own"); assumption))
local macro_rules | `(tactic| walk_at "col") => `(tactic| first
  | ((with_reducible apply SqL.of); walk_at "h") | ((with_reducible apply SqT.of); walk_at "h") | ((with_reducible apply Rd.of); walk_at "h")
  | ((with_reducible apply Own.sq); (focus walk_at "own"); assumption)
  | ((with_reducible apply col_ex2); walk_at "sq") | ((with_reducible apply col_ol2); walk_at "sq") | ((with_reducible apply col_or2); walk_at "sq")
  | ((with_reducible apply sz_le); first | decide | walk_at "ar")
  | ((with_reducible apply sz_lt); first | decide | walk_at "ar")
  | ((with_reducible apply isd_k); walk_at "h")
  | ((with_reducible apply dget_ii); (focus walk_at "h"); assumption) | ((with_reducible apply dget_is); (focus walk_at "h"); assumption)
  | ((with_reducible apply dget_i); walk_at "h") | ((with_reducible apply dget_s); walk_at "h")
  | ((with_reducible apply dput_i); (focus walk_at "h"); walk_at "ar") | ((with_reducible apply dput_s); (focus walk_at "h"); walk_at "ar")
  | (apply Or.inl; apply And.intro rfl; apply col_ex; walk_at "h")
  | (apply Or.inr; apply Or.inr; apply Or.inl; apply And.intro rfl; apply Or.inl; constructor; walk_at "h")
  | with_reducible exact all_flat _ | with_reducible exact all_flatS _ | ((with_reducible apply fl_of); rfl)
  | ((with_reducible apply pos_of); first | decide | assumption | omega | decide +kernel)
  | walk_at "ar")
/-- one step -/
local macro_rules | `(tactic| walk_at "s1") => `(tactic| first
  | (apply @Exists.intro V)
  | (apply @Exists.intro Addr)
  | (apply @Exists.intro Int)
  | (apply @Exists.intro (List V))
  | (apply @Exists.intro (List (Str × V)))
  | (apply @Exists.intro (List (Key × V)))
  | (apply @Exists.intro Key)
  | (apply @Exists.intro Bool)
  | (apply @Exists.intro Str)
  | (apply @Exists.intro Value)
  | (apply @Exists.intro (Option V))
  | (apply @Exists.intro (List Int)) | (apply @Exists.intro (List Bool)) | (apply @Exists.intro Obj) | (apply @Exists.intro (List Value)) | (apply @Exists.intro Hp)
  | (apply And.intro; (focus walk_at "c")))
local macro_rules | `(tactic| walk_at "s") => `(tactic| repeat walk_at "s1")
local macro_rules | `(tactic| walk_at "b") => `(tactic| (apply Box.mk; walk_at "s"))
/-! ## Tables: what they hold -/
abbrev Fs := List (Int × Addr × List (Key × V))
def fsD (fs : Fs) : List (Key × V) := fs.map fun x => (Sum.inl x.1, V.ref x.2.1)
abbrev cel (x : Int × Addr × List (Key × V)) : Addr × HO := (x.2.1, .dK x.2.2)
def cTab (K : PySem.W.Frag) (p : Addr) (q : Addr × Addr) (fs : Fs) : Cells := (p, .ins (He.ga K "Table") q.1 [("firsts", .ref q.2)]) :: (q.2, .dK (fsD fs)) :: fs.map cel
def tent (fs : Fs) (n : Int) : Option V := (fs.find? fun x => decide (x.1 = n / 8)).bind fun x => valV x.2.2 (Sum.inl (n % 8))
structure TabOk (fs : Fs) : Prop where
  nd : (fs.map (·.1)).Nodup
  rng : ∀ x ∈ fs, 0 ≤ x.1 ∧ x.1 < 8
  ne : ∀ x ∈ fs, x.2.2 ≠ []
  ndi : ∀ x ∈ fs, (x.2.2.map (·.1)).Nodup
  rngi : ∀ x ∈ fs, ∀ k ∈ x.2.2.map (·.1), ∃ r : Int, k = Sum.inl r ∧ 0 ≤ r ∧ r < 8
theorem TabOk.nil : TabOk [] := ⟨List.nodup_nil, by simp, by simp, by simp, by simp⟩
theorem nodup_le : ∀ (m : Nat) (l : List Nat), l.Nodup → (∀ x ∈ l, x < m) → l.length ≤ m
  | 0, l, _, h => by
    cases l with
    | nil => exact Nat.le_refl 0
    | cons a r => exact absurd (h a List.mem_cons_self) (Nat.not_lt_zero _)
  | m + 1, l, hn, h => by
    have h1 := nodup_le m (l.erase m) (hn.erase m) fun x hx => by
      have h2 := h x (List.mem_of_mem_erase hx)
      have h3 : x ≠ m := fun e => by
        subst e
        exact hn.not_mem_erase hx
      omega
    by_cases hm : m ∈ l
    · rw [List.length_erase_of_mem hm] at h1
      omega
    · rw [List.erase_of_not_mem hm] at h1
      omega
theorem nodup_small {l : List Int} (hn : l.Nodup) {m : Nat} (hr : ∀ x ∈ l, 0 ≤ x ∧ x < (m : Int)) : l.length ≤ m := by
  have h := nodup_le m (l.map Int.toNat) (List.pairwise_map.mpr (List.Pairwise.imp_of_mem (fun {a b} ha hb h e => h (by
    have h1 := hr a ha
    have h2 := hr b hb
    omega)) hn)) fun y hy => by
      obtain ⟨x, hx, rfl⟩ := List.mem_map.mp hy
      have := hr x hx
      omega
  rwa [List.length_map] at h
theorem keys_ints : ∀ {l : List Key}, (∀ k ∈ l, ∃ r : Int, k = Sum.inl r ∧ 0 ≤ r ∧ r < 8) → ∃ ns : List Int, l = ns.map Sum.inl ∧ ∀ n ∈ ns, 0 ≤ n ∧ n < 8
  | [], _ => ⟨[], rfl, by simp⟩
  | k :: l, h => by
    obtain ⟨r, e, h1, h2⟩ := h k List.mem_cons_self
    obtain ⟨ns, e2, h3⟩ := keys_ints (l := l) fun k hk => h k (List.mem_cons_of_mem _ hk)
    refine ⟨r :: ns, by rw [e, e2]; rfl, fun n hn => ?_⟩
    rcases List.mem_cons.mp hn with z | z
    · rw [z]; exact ⟨h1, h2⟩
    · exact h3 n z
theorem map_inl_nodup {ns : List Int} (h : (ns.map (Sum.inl : Int → Key)).Nodup) : ns.Nodup :=
  List.Pairwise.imp (fun {a b} h e => h (by rw [e])) (List.pairwise_map.mp h)
theorem TabOk.len {fs : Fs} (h : TabOk fs) : fs.length ≤ 8 := by
  have := nodup_small (m := 8) h.nd fun x hx => by
    obtain ⟨y, hy, rfl⟩ := List.mem_map.mp hx
    exact h.rng y hy
  rwa [List.length_map] at this
theorem TabOk.leni {fs : Fs} (h : TabOk fs) {x} (hx : x ∈ fs) : x.2.2.length ≤ 8 := by
  obtain ⟨ns, e, h2⟩ := keys_ints (h.rngi x hx)
  have h3 := h.ndi x hx
  rw [e] at h3
  have := nodup_small (m := 8) (map_inl_nodup h3) h2
  have e2 := congrArg List.length e
  rw [List.length_map, List.length_map] at e2
  omega
theorem valV_fsD (fs : Fs) (q : Int) : valV (fsD fs) (Sum.inl q) = (fs.find? fun x => decide (x.1 = q)).map fun x => V.ref x.2.1 := by
  unfold fsD
  induction fs with
  | nil => rfl
  | cons x r ih =>
    rw [List.map_cons, List.find?_cons]
    by_cases e : x.1 = q
    · rw [valV_pos (by show (Sum.inl x.1 : Key) = _; rw [e]), decide_eq_true e]; rfl
    · rw [valV_neg (by show ¬ (Sum.inl x.1 : Key) = _; exact fun z => e (Sum.inl.inj z)), decide_eq_false e]; exact ih
/-- the entry at a split -/
theorem tent_mid {l r : Fs} {x : Int × Addr × List (Key × V)} (hn : ((l ++ x :: r).map (·.1)).Nodup) (n : Int) : tent (l ++ x :: r) n = if x.1 = n / 8 then valV x.2.2 (Sum.inl (n % 8)) else tent (l ++ r) n := by
  rw [List.map_append, List.map_cons] at hn
  obtain ⟨n1, n2, n3⟩ := List.nodup_append.mp hn
  unfold tent
  rw [List.find?_append, List.find?_append, List.find?_cons]
  by_cases e : x.1 = n / 8
  · have hl : l.find? (fun x => decide (x.1 = n / 8)) = none := List.find?_eq_none.mpr fun y hy q =>
      n3 y.1 (List.mem_map.mpr ⟨y, hy, rfl⟩) x.1 List.mem_cons_self ((of_decide_eq_true q).trans e.symm)
    rw [if_pos e, hl, decide_eq_true e]
    rfl
  · rw [if_neg e, decide_eq_false e]
theorem TabOk.mid {l r : Fs} {k : Int} {a : Addr} {kvs kvs' : List (Key × V)} (h : TabOk (l ++ (k, a, kvs) :: r)) (h1 : kvs' ≠ []) (h2 : (kvs'.map (·.1)).Nodup) (h3 : ∀ k ∈ kvs'.map (·.1), ∃ r : Int, k = Sum.inl r ∧ 0 ≤ r ∧ r < 8) : TabOk (l ++ (k, a, kvs') :: r) := by
  have hm : ∀ x ∈ l ++ (k, a, kvs') :: r, x = (k, a, kvs') ∨ x ∈ l ++ (k, a, kvs) :: r := fun x hx => by
    rcases List.mem_append.mp hx with z | z
    · exact .inr (List.mem_append_left _ z)
    · rcases List.mem_cons.mp z with z | z
      · exact .inl z
      · exact .inr (List.mem_append_right _ (List.mem_cons_of_mem _ z))
  have h0 : (k, a, kvs) ∈ l ++ (k, a, kvs) :: r := List.mem_append_right _ List.mem_cons_self
  refine ⟨?_, fun x hx => ?_, fun x hx => ?_, fun x hx => ?_, fun x hx => ?_⟩
  · have := h.nd
    rw [List.map_append, List.map_cons] at this ⊢
    exact this
  · rcases hm x hx with rfl | z
    · exact (h.rng _ h0 : 0 ≤ k ∧ k < 8)
    · exact h.rng x z
  · rcases hm x hx with rfl | z
    · exact h1
    · exact h.ne x z
  · rcases hm x hx with rfl | z
    · exact h2
    · exact h.ndi x z
  · rcases hm x hx with rfl | z
    · exact h3
    · exact h.rngi x z
theorem TabOk.snoc {fs : Fs} {k : Int} {a : Addr} {r : Int} {e : V} (h : TabOk fs) (hk : ¬ k ∈ fs.map (·.1)) (h1 : 0 ≤ k ∧ k < 8) (h2 : 0 ≤ r ∧ r < 8) : TabOk (fs ++ [(k, a, [(Sum.inl r, e)])]) := by
  have hm : ∀ x ∈ fs ++ [(k, a, [(Sum.inl r, e)])], x ∈ fs ∨ x = (k, a, [((Sum.inl r : Key), e)]) := fun x hx => by
    rcases List.mem_append.mp hx with z | z
    · exact .inl z
    · exact .inr (List.mem_singleton.mp z)
  refine ⟨?_, fun x hx => ?_, fun x hx => ?_, fun x hx => ?_, fun x hx => ?_⟩
  · rw [List.map_append]
    exact nd_snoc h.nd hk
  · rcases hm x hx with z | rfl
    · exact h.rng x z
    · exact h1
  · rcases hm x hx with z | rfl
    · exact h.ne x z
    · exact List.cons_ne_nil _ _
  · rcases hm x hx with z | rfl
    · exact h.ndi x z
    · simp
  · rcases hm x hx with z | rfl
    · exact h.rngi x z
    · intro q hq
      exact ⟨r, List.mem_singleton.mp hq, h2⟩
theorem TabOk.less {l r : Fs} {x} (h : TabOk (l ++ x :: r)) : TabOk (l ++ r) := by
  have hm : ∀ y ∈ l ++ r, y ∈ l ++ x :: r := fun y hy => by
    rcases List.mem_append.mp hy with z | z
    · exact List.mem_append_left _ z
    · exact List.mem_append_right _ (List.mem_cons_of_mem _ z)
  refine ⟨?_, fun y hy => h.rng y (hm y hy), fun y hy => h.ne y (hm y hy), fun y hy => h.ndi y (hm y hy), fun y hy => h.rngi y (hm y hy)⟩
  have hs : List.Sublist (l ++ r) (l ++ x :: r) := List.Sublist.append (List.Sublist.refl l) (List.sublist_cons_self x r)
  exact h.nd.sublist (hs.map _)
theorem key_not {fs : Fs} {k : Int} (h : fs.find? (fun x => decide (x.1 = k)) = none) : ¬ k ∈ fs.map (·.1) := fun m => by
  obtain ⟨x, hx, e⟩ := List.mem_map.mp m
  exact List.find?_eq_none.mp h x hx (decide_eq_true e)
theorem tent_snoc {fs : Fs} {k : Int} {a : Addr} {kvs : List (Key × V)} (h : fs.find? (fun x => decide (x.1 = k)) = none) (n : Int) : tent (fs ++ [(k, a, kvs)]) n = if k = n / 8 then valV kvs (Sum.inl (n % 8)) else tent fs n := by
  unfold tent
  rw [List.find?_append, List.find?_cons]
  by_cases e : k = n / 8
  · subst e
    rw [if_pos rfl, h, decide_eq_true rfl]
    rfl
  · rw [if_neg e, decide_eq_false e]
    cases fs.find? fun x => decide (x.1 = n / 8) <;> rfl
theorem same_page {n m : Int} : m = n ↔ (n / 8 = m / 8 ∧ n % 8 = m % 8) := by constructor <;> intro h <;> omega
theorem valV_no {κ : Type} [DecidableEq κ] {kvs : List (κ × V)} {k : κ} (h : ¬ k ∈ kvs.map (·.1)) : valV kvs k = none := by
  induction kvs with
  | nil => exact valV_nil
  | cons p r ih =>
    rw [List.map_cons, List.mem_cons] at h
    rw [valV_neg (fun e => h (.inl e.symm))]
    exact ih fun m => h (.inr m)
/-! ### the promises -/
def sp_Table___init__ (K : PySem.W.Frag) : Sp := sp1 fun self H Q _ => ∃ p dx, self = .ref p ∧ Own H H [p] [(p, .ins (He.ga K "Table") dx [])] ∧ ∀ H' q, Own H H' [p] (cTab K p q []) → Q .non H'
def sp_Table_get (K : PySem.W.Frag) : Sp := sp2 fun self page H Q _ => ∃ p q fs n, self = .ref p ∧ page = .int n ∧ Own H H (adr (cTab K p q fs)) (cTab K p q fs) ∧ Q ((tent fs n).getD .non) H
def sp_Table_lay (K : PySem.W.Frag) : Sp := sp3 fun self page entry H Q _ => ∃ p q fs n, self = .ref p ∧ page = .int n ∧ 0 ≤ n ∧ n < 64 ∧ TabOk fs ∧ Own H H (adr (cTab K p q fs)) (cTab K p q fs) ∧
  ∀ H' fs', Own H H' (adr (cTab K p q fs)) (cTab K p q fs') → TabOk fs' → (∀ m, tent fs' m = if m = n then some entry else tent fs m) → Q .non H'
def sp_Table_clear (K : PySem.W.Frag) : Sp := sp2 fun self page H Q _ => ∃ p q fs n, self = .ref p ∧ page = .int n ∧ TabOk fs ∧ Own H H (adr (cTab K p q fs)) (cTab K p q fs) ∧
  ∀ H' fs', Own H H' (adr (cTab K p q fs)) (cTab K p q fs') → TabOk fs' → (∀ m, tent fs' m = if m = n then none else tent fs m) → Q .non H'
def sp_Table_steps (K : PySem.W.Frag) : Sp := sp1 fun self H Q _ => ∃ p q fs, self = .ref p ∧ Own H H (adr (cTab K p q fs)) (cTab K p q fs) ∧ Q (.int fs.length) H
def sp_Table_pages (K : PySem.W.Frag) : Sp := sp1 fun self H Q _ => ∃ p q fs, self = .ref p ∧ TabOk fs ∧ Own H H (adr (cTab K p q fs)) (cTab K p q fs) ∧
  ∀ (H' : Hp) (a : Addr) (ns : List Int), Own H H' (adr (cTab K p q fs)) ((a, .lst (ns.map V.int)) :: cTab K p q fs) → ns.Pairwise (· < ·) → (∀ m, m ∈ ns ↔ (tent fs m).isSome = true) → Q (.ref a) H'
theorem dropK_mid {l r : Fs} {x : Int × Addr × List (Key × V)} (hn : ((l ++ x :: r).map (·.1)).Nodup) : dropK (fsD (l ++ x :: r)) (Sum.inl x.1) = fsD (l ++ r) := by
  rw [List.map_append, List.map_cons] at hn
  obtain ⟨n1, n2, n3⟩ := List.nodup_append.mp hn
  obtain ⟨n4, n5⟩ := List.nodup_cons.mp n2
  unfold dropK fsD
  rw [List.map_append, List.map_append, List.map_cons, List.filter_append, List.filter_cons, if_neg (by simp)]
  congr 1
  · refine List.filter_eq_self.mpr fun z hz => ?_
    obtain ⟨y, hy, rfl⟩ := List.mem_map.mp hz
    refine decide_eq_true fun e => n3 y.1 (List.mem_map.mpr ⟨y, hy, rfl⟩) x.1 List.mem_cons_self (Sum.inl.inj e)
  · refine List.filter_eq_self.mpr fun z hz => ?_
    obtain ⟨y, hy, rfl⟩ := List.mem_map.mp hz
    exact decide_eq_true fun e => n4 (List.mem_map.mpr ⟨y, hy, Sum.inl.inj e⟩)
theorem valV_drop {κ : Type} [DecidableEq κ] (kvs : List (κ × V)) (k j : κ) : valV (dropK kvs k) j = if j = k then none else valV kvs j := by
  induction kvs with
  | nil => unfold dropK; simp [valV_nil]
  | cons p r ih =>
    by_cases e : p.1 = k
    · rw [dropK_pos e, ih]
      by_cases q : j = k
      · rw [if_pos q, if_pos q]
      · rw [if_neg q, if_neg q, valV_neg (fun z => q (z.symm.trans e))]
    · rw [dropK_neg e]
      by_cases q : p.1 = j
      · rw [valV_pos q, valV_pos q, if_neg (fun z => e (q.trans z))]
      · rw [valV_neg q, valV_neg q, ih]
theorem dropK_none {κ : Type} [DecidableEq κ] {kvs : List (κ × V)} {k : κ} (h : valV kvs k = none) : dropK kvs k = kvs := dropK_no (valV_not h)
theorem dropK_sub {κ : Type} [DecidableEq κ] {kvs : List (κ × V)} {k : κ} : ∀ j ∈ (dropK kvs k).map (·.1), j ∈ kvs.map (·.1) := fun j hj => by
  obtain ⟨y, hy, rfl⟩ := List.mem_map.mp hj
  exact List.mem_map.mpr ⟨y, dropK_mem hy, rfl⟩
theorem sorted_lt {l k : List Int} (h : k.Perm l) (hs : k.Pairwise (· ≤ ·)) (hn : l.Nodup) : k.Pairwise (· < ·) :=
  List.Pairwise.imp_of_mem (fun {a b} _ _ h => by omega) (List.Pairwise.and hs ((h.nodup_iff).mpr hn))
theorem before {l : List Int} (h : l.Pairwise (· < ·)) {i : Nat} {y z : Int} (hy : l[i]? = some y) (hz : z ∈ l.take i) : z < y := by
  obtain ⟨hi, rfl⟩ := List.getElem?_eq_some_iff.mp hy
  obtain ⟨j, hj, rfl⟩ := List.mem_take_iff_getElem.mp hz
  exact List.pairwise_iff_getElem.mp h j i (by omega) hi (by omega)
theorem tent_key {fs : Fs} {x} (ok : TabOk fs) (hx : x ∈ fs) (m : Int) : x.1 = m / 8 → tent fs m = valV x.2.2 (Sum.inl (m % 8)) := fun e => by
  obtain ⟨l, r, rfl⟩ := List.append_of_mem hx
  rw [tent_mid ok.nd, if_pos e]
theorem tent_some {fs : Fs} {m : Int} (h : (tent fs m).isSome = true) : m / 8 ∈ fs.map (·.1) := by
  unfold tent at h
  cases e : fs.find? fun x => decide (x.1 = m / 8) with
  | none => rw [e] at h; cases h
  | some x =>
    exact List.mem_map.mpr ⟨x, List.mem_of_find?_eq_some e, by simpa using List.find?_some e⟩

/-! ### each def keeps its promise -/
theorem sc_Table___init__ : FnScope ["self"] ["self"] (defScope s_Table___init__) := ⟨rfl, rfl, rfl, by decide +kernel, rfl, by decide +kernel, by decide +kernel⟩
theorem ok_Table___init__ {P : Program} {w : World} {K : PySem.W.Frag} {mg : Str → Option Value} {base : Heap} (T : Txt K mg) : Cee P w K mg base 1 (He.fAd K ("Table", some "__init__")) ["self"] (sp_Table___init__ K) := by
  refine cee_of T.d_Table___init__ sc_Table___init__ (fun _ _ _ _ _ _ us hl => match us, hl with | [_], _ => rfl) (fun vs H Q E h => sp1_len h) (fun cdv A outer s H vs Q E hr h => ⟨_, (pss_one (ps_fld (pv 0) pe_dnewK rfl)), ?_⟩)
  obtain ⟨v0, rfl, h⟩ := h
  dsimp only [cxOf, L2.start]
  obtain ⟨p, dx, rfl, O, k⟩ := h
  intro d hd
  walk_at "s"
  exact k _ (dx, d) ((O.new hd).wr (.there .here) |>.perm (List.Perm.swap _ _ _))
theorem sc_Table_get : FnScope ["self", "page", "second"] ["self", "page"] (defScope s_Table_get) := ⟨rfl, rfl, rfl, by decide +kernel, rfl, by decide +kernel, by decide +kernel⟩
theorem ok_Table_get {P : Program} {w : World} {K : PySem.W.Frag} {mg : Str → Option Value} {base : Heap} (T : Txt K mg) : Cee P w K mg base 1 (He.fAd K ("Table", some "get")) ["self", "page"] (sp_Table_get K) := by
  refine cee_of T.d_Table_get sc_Table_get (fun _ _ _ _ _ _ us hl => match us, hl with | [_, _], _ => rfl) (fun vs H Q E h => sp2_len h) (fun cdv A outer s H vs Q E hr h => ⟨_, (pss_cons (ps_set (i := 2) sc_Table_get.nd rfl (Or.inl rfl) (pe_dget2 (hu_of hr) (pe_fld (pv 0) rfl) (pe_op op_fdiv (pv 1) (pe_gc (v := .int 8) rfl (gI T.g_STEP))) pe_non ⟨rfl, rfl, rfl, rfl⟩)) (pss_cons (ps_if (pt_cmpR op_isN (pv 2) pe_non (nomark _)) (pss_one (ps_ret pe_non)) pss_nil) (pss_one (ps_ret (pe_dget2 (hu_of hr) (pv 2) (pe_op op_mod (pv 1) (pe_gc (v := .int 8) rfl (gI T.g_STEP))) pe_non ⟨rfl, rfl, rfl, rfl⟩))))), ?_⟩)
  obtain ⟨v0, v1, rfl, h⟩ := h
  dsimp only [cxOf, L2.start]
  obtain ⟨p, q, fs, n, rfl, rfl, O, k⟩ := h
  walk_at "s"
  rw [valV_fsD]
  have hn : tent fs n = (fs.find? fun x => decide (x.1 = n / 8)).bind fun x => valV x.2.2 (Sum.inl (n % 8)) := rfl
  cases e : fs.find? fun x => decide (x.1 = n / 8) with
  | none =>
    rw [e] at hn
    rw [hn] at k
    exact k
  | some x =>
    rw [e] at hn
    have hx : (x.2.1, HO.dK x.2.2) ∈ cTab K p q fs := List.mem_cons_of_mem _ (List.mem_cons_of_mem _ (List.mem_map.mpr ⟨x, List.mem_of_find?_eq_some e, rfl⟩))
    have h1 := O.get hx
    walk_at "s"
    rw [hn] at k
    exact k
theorem sc_Table_lay : FnScope ["self", "page", "entry"] ["self", "page", "entry"] (defScope s_Table_lay) := ⟨rfl, rfl, rfl, by decide +kernel, rfl, by decide +kernel, by decide +kernel⟩
theorem ok_Table_lay {P : Program} {w : World} {K : PySem.W.Frag} {mg : Str → Option Value} {base : Heap} (T : Txt K mg) : Cee P w K mg base 1 (He.fAd K ("Table", some "lay")) ["self", "page", "entry"] (sp_Table_lay K) := by
  refine cee_of T.d_Table_lay sc_Table_lay (fun _ _ _ _ _ _ us hl => match us, hl with | [_, _, _], _ => rfl) (fun vs H Q E h => sp3_len h) (fun cdv A outer s H vs Q E hr h => ⟨_, (pss_cons (PS.box (ps_if (pt_cmp (pc_dnotin (hu_of hr) (pe_op op_fdiv (pv 1) (pe_gc (v := .int 8) rfl (gI T.g_STEP))) (pe_fld (pv 0) rfl)) (by with_unfolding_all rfl)) (pss_one (ps_dput (hu_of hr) (pe_fld (pv 0) rfl) (pe_op op_fdiv (pv 1) (pe_gc (v := .int 8) rfl (gI T.g_STEP))) pe_dnewK rfl)) pss_nil)) (pss_one (ps_dput (hu_of hr) (pe_dget (hu_of hr) (pe_fld (pv 0) rfl) (pe_op op_fdiv (pv 1) (pe_gc (v := .int 8) rfl (gI T.g_STEP))) (fun _ _ => rfl)) (pe_op op_mod (pv 1) (pe_gc (v := .int 8) rfl (gI T.g_STEP))) (pv 2) rfl))), ?_⟩)
  obtain ⟨v0, v1, v2, rfl, h⟩ := h
  dsimp only [cxOf, L2.start]
  obtain ⟨p, q, fs, n, rfl, rfl, n0, n1, ok, O, k⟩ := h
  have hlen := ok.len
  refine ⟨?_⟩
  walk_at "s"
  rw [valV_fsD]
  cases e : fs.find? fun x => decide (x.1 = n / 8) with
  | none =>
    intro d hd
    have e2 : valV (fsD fs) (Sum.inl (n / 8)) = none := by rw [valV_fsD, e]; rfl
    have hsz : (fsD fs).length < 100000 := by unfold fsD; rw [List.length_map]; omega
    have e3 : putK (fsD fs) (Sum.inl (n / 8)) (V.ref d) = fsD (fs ++ [(n / 8, d, [(Sum.inl (n % 8), v2)])]) := by
      rw [L2.putK_new _ e2]
      unfold fsD
      rw [List.map_append]
      rfl
    have e4 : valV (putK (fsD fs) (Sum.inl (n / 8)) (V.ref d)) (Sum.inl (n / 8)) = some (V.ref d) := by rw [valV_put, if_pos rfl]
    walk_at "s"
    have O1 := ((O.new (o := .dK []) hd).wr (o' := .dK (putK (fsD fs) (Sum.inl (n / 8)) (V.ref d))) (.there (.there .here))).wr (a := d) (o' := .dK (putK [] (Sum.inl (n % 8)) v2)) .here
    refine k _ (fs ++ [(n / 8, d, [(Sum.inl (n % 8), v2)])]) (O1.last.eq ?_) (ok.snoc (key_not e) (by omega) (by omega)) fun m => ?_
    · rw [e3]
      unfold cTab
      rw [List.map_append]
      rfl
    · rw [tent_snoc e]
      by_cases q : n / 8 = m / 8
      · rw [if_pos q]
        by_cases q2 : n % 8 = m % 8
        · rw [if_pos (same_page.mpr ⟨q, q2⟩), ← q2]
          exact valV_pos rfl
        · rw [if_neg (fun z => q2 (same_page.mp z).2), valV_neg (fun z => q2 (Sum.inl.inj z))]
          have : tent fs m = none := by
            unfold tent
            rw [← q, e]
            rfl
          rw [this]
          rfl
      · rw [if_neg q, if_neg (fun z => q (same_page.mp z).1)]
  | some x =>
    have hx := List.mem_of_find?_eq_some e
    have ex : x.1 = n / 8 := by simpa using List.find?_some e
    obtain ⟨l, r, rfl⟩ := List.append_of_mem hx
    obtain ⟨k0, a0, kvs⟩ := x
    subst ex
    have hl := ok.leni hx
    have e4 : valV (fsD (l ++ (n / 8, a0, kvs) :: r)) (Sum.inl (n / 8)) = some (V.ref a0) := by rw [valV_fsD, e]; rfl
    have at1 : ∀ o', At (cTab K p q (l ++ (n / 8, a0, kvs) :: r)) a0 (.dK kvs) o' ((p, .ins (He.ga K "Table") q.1 [("firsts", .ref q.2)]) :: (q.2, .dK (fsD (l ++ (n / 8, a0, kvs) :: r))) :: (l.map cel ++ (a0, o') :: r.map cel)) := fun o' => by
      unfold cTab
      rw [List.map_append, List.map_cons]
      exact .there (.there (.app .here))
    have h1 := O.get (at1 (.dK [])).mem
    have hl2 : kvs.length < 100000 := Nat.lt_of_le_of_lt hl (by decide)
    walk_at "s"
    have key : (putK kvs (Sum.inl (n % 8)) v2).map (·.1) = if (valV kvs (Sum.inl (n % 8))).isSome = true then kvs.map (·.1) else kvs.map (·.1) ++ [Sum.inl (n % 8)] := by
      unfold putK
      rw [valV_any]
      split
      · rw [List.map_map]
        refine List.map_congr_left fun z _ => ?_
        show (if z.1 = _ then (z.1, v2) else z).1 = z.1
        split <;> rfl
      · rw [List.map_append]; rfl
    refine k _ (l ++ (n / 8, a0, putK kvs (Sum.inl (n % 8)) v2) :: r) ((O.wr (at1 (.dK (putK kvs (Sum.inl (n % 8)) v2)))).eq ?_) (ok.mid (fun z => ?_) ?_ ?_) fun m => ?_
    · unfold cTab fsD
      rw [List.map_append, List.map_append, List.map_append, List.map_cons, List.map_cons, List.map_cons]
    · have := valV_put kvs (Sum.inl (n % 8) : Key) (Sum.inl (n % 8)) v2
      rw [z, if_pos rfl] at this
      cases this
    · rw [key]
      split
      · exact ok.ndi _ hx
      · rename_i hc
        refine nd_snoc (ok.ndi _ hx) (valV_not ?_)
        cases hv : valV kvs (Sum.inl (n % 8) : Key) with
        | none => rfl
        | some z => rw [hv] at hc; exact absurd rfl hc
    · rw [key]
      split
      · exact ok.rngi _ hx
      · intro z hz
        rcases List.mem_append.mp hz with y | y
        · exact ok.rngi _ hx z y
        · exact ⟨n % 8, List.mem_singleton.mp y, by omega, by omega⟩
    · rw [tent_mid (by have := ok.nd; rw [List.map_append, List.map_cons] at this ⊢; exact this), tent_mid ok.nd]
      show (if n / 8 = m / 8 then valV (putK kvs (Sum.inl (n % 8)) v2) (Sum.inl (m % 8)) else tent (l ++ r) m) = if m = n then some v2 else if n / 8 = m / 8 then valV kvs (Sum.inl (m % 8)) else tent (l ++ r) m
      by_cases q : n / 8 = m / 8
      · rw [if_pos q, if_pos q, valV_put]
        by_cases q2 : n % 8 = m % 8
        · rw [if_pos (same_page.mpr ⟨q, q2⟩), if_pos (by rw [q2])]
        · rw [if_neg (fun z => q2 (same_page.mp z).2), if_neg (fun z => q2 (Sum.inl.inj z).symm)]
      · rw [if_neg q, if_neg q, if_neg (fun z => q (same_page.mp z).1)]
theorem sc_Table_clear : FnScope ["self", "page", "second"] ["self", "page"] (defScope s_Table_clear) := ⟨rfl, rfl, rfl, by decide +kernel, rfl, by decide +kernel, by decide +kernel⟩
theorem ok_Table_clear {P : Program} {w : World} {K : PySem.W.Frag} {mg : Str → Option Value} {base : Heap} (T : Txt K mg) : Cee P w K mg base 1 (He.fAd K ("Table", some "clear")) ["self", "page"] (sp_Table_clear K) := by
  refine cee_of T.d_Table_clear sc_Table_clear (fun _ _ _ _ _ _ us hl => match us, hl with | [_, _], _ => rfl) (fun vs H Q E h => sp2_len h) (fun cdv A outer s H vs Q E hr h => ⟨_, (pss_cons (ps_set (i := 2) sc_Table_clear.nd rfl (Or.inl rfl) (pe_dget2 (hu_of hr) (pe_fld (pv 0) rfl) (pe_op op_fdiv (pv 1) (pe_gc (v := .int 8) rfl (gI T.g_STEP))) pe_non ⟨rfl, rfl, rfl, rfl⟩)) (pss_cons (ps_if (pt_cmpR op_isN (pv 2) pe_non (nomark _)) (pss_one ps_retN) pss_nil) (pss_cons (ps_expr (pe_dpop2 (pv 2) (pe_op op_mod (pv 1) (pe_gc (v := .int 8) rfl (gI T.g_STEP))) pe_non ⟨rfl, rfl, rfl, rfl⟩)) (pss_one (ps_if (pt_cmpR op_eq (pe_callB call_lenD (by rfl) T.n_len (by decide +kernel) (pa_cons (pv 2) pa_nil)) pe_int (nomark _)) (pss_one (ps_expr (pe_dpop2 (pe_fld (pv 0) rfl) (pe_op op_fdiv (pv 1) (pe_gc (v := .int 8) rfl (gI T.g_STEP))) pe_non ⟨rfl, rfl, rfl, rfl⟩))) pss_nil))))), ?_⟩)
  obtain ⟨v0, v1, rfl, h⟩ := h
  dsimp only [cxOf, L2.start]
  obtain ⟨p, q, fs, n, rfl, rfl, ok, O, k⟩ := h
  walk_at "s"
  rw [valV_fsD]
  cases e : fs.find? fun x => decide (x.1 = n / 8) with
  | none =>
    refine k H fs O ok fun m => ?_
    by_cases hm : m = n
    · subst hm
      rw [if_pos rfl]
      unfold tent
      rw [e]
      rfl
    · rw [if_neg hm]
  | some x =>
    have hx := List.mem_of_find?_eq_some e
    have ex : x.1 = n / 8 := by simpa using List.find?_some e
    obtain ⟨l, r, rfl⟩ := List.append_of_mem hx
    obtain ⟨k0, a0, kvs⟩ := x
    subst ex
    have at1 : ∀ o o', At ((p, .ins (He.ga K "Table") q.1 [("firsts", .ref q.2)]) :: (q.2, .dK (fsD (l ++ (n / 8, a0, kvs) :: r))) :: (l.map cel ++ (a0, o) :: r.map cel)) a0 o o' ((p, .ins (He.ga K "Table") q.1 [("firsts", .ref q.2)]) :: (q.2, .dK (fsD (l ++ (n / 8, a0, kvs) :: r))) :: (l.map cel ++ (a0, o') :: r.map cel)) :=
      fun o o' => .there (.there (.app .here))
    have ec : cTab K p q (l ++ (n / 8, a0, kvs) :: r) = (p, .ins (He.ga K "Table") q.1 [("firsts", .ref q.2)]) :: (q.2, .dK (fsD (l ++ (n / 8, a0, kvs) :: r))) :: (l.map cel ++ (a0, .dK kvs) :: r.map cel) := by
      unfold cTab
      rw [List.map_append, List.map_cons]
    have O1 := O.eq ec
    have h1 := O1.get (at1 (.dK kvs) (.dK [])).mem
    have e5 : (valV (fsD (l ++ (n / 8, a0, kvs) :: r)) (Sum.inl (n / 8))) = some (V.ref a0) := by rw [valV_fsD, e]; rfl
    have fin : ∀ (H2 : Hp), Own H H2 (adr (cTab K p q (l ++ (n / 8, a0, kvs) :: r))) ((p, .ins (He.ga K "Table") q.1 [("firsts", .ref q.2)]) :: (q.2, .dK (fsD (l ++ (n / 8, a0, kvs) :: r))) :: (l.map cel ++ (a0, .dK (dropK kvs (Sum.inl (n % 8)))) :: r.map cel)) →
        (dropK kvs (Sum.inl (n % 8)) ≠ [] → Q .non H2) ∧ (dropK kvs (Sum.inl (n % 8)) = [] → Q .non (upd H2 q.2 (.dK (dropK (fsD (l ++ (n / 8, a0, kvs) :: r)) (Sum.inl (n / 8)))))) := fun H2 O2 => by
      constructor
      · intro hne
        refine k H2 (l ++ (n / 8, a0, dropK kvs (Sum.inl (n % 8))) :: r) (O2.eq ?_) (ok.mid hne (nd_dropK (ok.ndi _ hx)) fun j hj => ok.rngi _ hx j (dropK_sub j hj)) fun m => ?_
        · unfold cTab fsD
          rw [List.map_append, List.map_append, List.map_append, List.map_cons, List.map_cons, List.map_cons]
        · rw [tent_mid (by have := ok.nd; rw [List.map_append, List.map_cons] at this ⊢; exact this), tent_mid ok.nd]
          show (if n / 8 = m / 8 then valV (dropK kvs (Sum.inl (n % 8))) (Sum.inl (m % 8)) else tent (l ++ r) m) = if m = n then none else if n / 8 = m / 8 then valV kvs (Sum.inl (m % 8)) else tent (l ++ r) m
          by_cases q1 : n / 8 = m / 8
          · rw [if_pos q1, if_pos q1, valV_drop]
            by_cases q2 : n % 8 = m % 8
            · rw [if_pos (same_page.mpr ⟨q1, q2⟩), if_pos (by rw [q2])]
            · rw [if_neg (fun z => q2 (same_page.mp z).2), if_neg (fun z => q2 (Sum.inl.inj z).symm)]
          · rw [if_neg q1, if_neg q1, if_neg (fun z => q1 (same_page.mp z).1)]
      · intro hnil
        rw [dropK_mid (x := (n / 8, a0, kvs)) ok.nd]
        refine k _ (l ++ r) ((O2.wr (.there .here)).drop ?_) ok.less fun m => ?_
        · unfold cTab
          rw [List.map_append]
          exact .cons₂ _ (.cons₂ _ (.append (.refl _) (.cons _ (.refl _))))
        · rw [tent_mid ok.nd]
          show tent (l ++ r) m = if m = n then none else if n / 8 = m / 8 then valV kvs (Sum.inl (m % 8)) else tent (l ++ r) m
          by_cases q1 : n / 8 = m / 8
          · have hn := ok.nd
            rw [List.map_append, List.map_cons] at hn
            obtain ⟨n1, n2, n3⟩ := List.nodup_append.mp hn
            have : tent (l ++ r) m = none := by
              unfold tent
              rw [List.find?_eq_none.mpr]
              · rfl
              · intro y hy z
                have z := of_decide_eq_true z
                rcases List.mem_append.mp hy with w | w
                · exact n3 y.1 (List.mem_map.mpr ⟨y, w, rfl⟩) _ List.mem_cons_self (z.trans q1.symm)
                · exact (List.nodup_cons.mp n2).1 (List.mem_map.mpr ⟨y, w, z.trans q1.symm⟩)
            rw [this, if_pos q1]
            by_cases q2 : m = n
            · rw [if_pos q2]
            · rw [if_neg q2]
              have h6 := valV_drop kvs (Sum.inl (n % 8) : Key) (Sum.inl (m % 8))
              rw [hnil, if_neg (fun z => q2 (same_page.mpr ⟨q1, (Sum.inl.inj z).symm⟩))] at h6
              exact h6
          · rw [if_neg q1, if_neg (fun z => q1 (same_page.mp z).1)]
    walk_at "s"
    refine ⟨fun v hv => ?_, fun hv => ?_⟩
    · have O2 := O1.wr (at1 (.dK kvs) (.dK (dropK kvs (Sum.inl (n % 8)))))
      obtain ⟨f1, f2⟩ := fin _ O2
      walk_at "s"
      refine if_ii (fun hz => ?_) (fun hz => ?_)
      · walk_at "s"
        refine ⟨fun v hv => ?_, fun hv => ?_⟩
        · exact f2 (List.length_eq_zero_iff.mp (by omega))
        · rw [e5] at hv
          cases hv
      · exact f1 fun z => hz (by rw [z]; rfl)
    · obtain ⟨f1, f2⟩ := fin _ (by rw [dropK_none hv]; exact O1)
      rw [dropK_none hv] at f1 f2
      walk_at "s"
      refine if_ii (fun hz => ?_) (fun hz => ?_)
      · walk_at "s"
        refine ⟨fun v hv => ?_, fun hv => ?_⟩
        · exact f2 (List.length_eq_zero_iff.mp (by omega))
        · rw [e5] at hv
          cases hv
      · exact f1 fun z => hz (by rw [z]; rfl)
theorem sc_Table_pages : FnScope ["self", "found", "first", "second"] ["self"] (defScope s_Table_pages) := ⟨rfl, rfl, rfl, by decide +kernel, rfl, by decide +kernel, by decide +kernel⟩
theorem ok_Table_pages {P : Program} {w : World} {K : PySem.W.Frag} {mg : Str → Option Value} {base : Heap} (T : Txt K mg) : Cee P w K mg base 1 (He.fAd K ("Table", some "pages")) ["self"] (sp_Table_pages K) := by
  refine cee_of T.d_Table_pages sc_Table_pages (fun _ _ _ _ _ _ us hl => match us, hl with | [_], _ => rfl) (fun vs H Q E h => sp1_len h) (fun cdv A outer s H vs Q E hr h => ⟨_, (pss_cons (ps_set (i := 1) sc_Table_pages.nd rfl (Or.inl rfl) (pe_lst pa_nil)) (pss_cons (ps_for (passes_of rfl) rfl (PI.box (pi_list (pe_callB (call_sortedDW rfl) (by rfl) T.n_sorted (by decide +kernel) (pa_cons (pe_fld (pv 0) rfl) pa_nil)))) (pg_name (i := 2) sc_Table_pages.nd rfl (Or.inl rfl)) (pss_one (ps_for (passes_of rfl) rfl (PI.box (pi_list (pe_callB (call_sortedDW rfl) (by rfl) T.n_sorted (by decide +kernel) (pa_cons (pe_dget (hu_of hr) (pe_fld (pv 0) rfl) (pv 2) (fun _ _ => rfl)) pa_nil)))) (pg_name (i := 3) sc_Table_pages.nd rfl (Or.inl rfl)) (pss_one (ps_expr (pe_bm PySem.F.plainAttrs_list PySem.F.slot_list_append PySem.F.type_list_append mt_append (pv 1) (pa_cons (pe_op op_add (pe_op op_mul (pv 2) (pe_gc (v := .int 8) rfl (gI T.g_STEP))) (pv 3)) pa_nil))))))) (pss_one (ps_ret (pv 1))))), ?_⟩)
  obtain ⟨v0, rfl, h⟩ := h
  dsimp only [cxOf, L2.start]
  obtain ⟨p, q, fs, rfl, ok, O, k⟩ := h
  have hlen := ok.len
  have ek : (fsD fs).map (fun x => x.1) = (fs.map (·.1)).map Sum.inl := by unfold fsD; rw [List.map_map, List.map_map]; rfl
  walk_at "s"
  intro f hf
  have O1 := O.new (o := .lst []) hf
  walk_at "s"
  intro ys a hp hs ha
  have O2 := O1.new (o := .lst (ys.map V.int)) ha
  have hlt := sorted_lt hp hs ok.nd
  walk_at "s"
  refine forL (K := K) (a := a) (xs := ys.map V.int) (fun i σ H' => ∃ v2 v3 ns, σ = [some (.ref p), some (.ref f), v2, v3] ∧ Own H H' (adr (cTab K p q fs)) ((a, .lst (ys.map V.int)) :: (f, .lst (ns.map V.int)) :: cTab K p q fs) ∧
    ns.Pairwise (· < ·) ∧ (∀ m, m ∈ ns ↔ (m / 8 ∈ ys.take i ∧ (tent fs m).isSome = true)) ∧ ns.length ≤ 8 * i) ⟨_, _, [], rfl, O2, List.Pairwise.nil, by simp, Nat.le_refl _⟩ (fun i σ H' _ ⟨_, _, _, _, O, _⟩ => SqL.of (O.get List.mem_cons_self)) ?_ ?_
  · rintro i x σ H' hx ⟨v2, v3, ns, rfl, O3, hns, hmem, hl⟩
    obtain ⟨y, hy, rfl⟩ := map_get hx
    have hi : i < ys.length := (List.getElem?_eq_some_iff.mp hy).1
    have hyl : ys.length = fs.length := by rw [hp.length_eq, List.length_map]
    obtain ⟨z, hz, rfl⟩ : ∃ z ∈ fs, z.1 = y := List.mem_map.mp (hp.mem_iff.mp (List.mem_of_getElem? hy))
    have e6 : valV (fsD fs) (Sum.inl z.1) = some (V.ref z.2.1) := by
      rw [valV_fsD]
      cases e : fs.find? fun x => decide (x.1 = z.1) with
      | none => exact absurd (decide_eq_true rfl) (List.find?_eq_none.mp e z hz)
      | some x =>
        have h2 : x.1 = z.1 := by simpa using List.find?_some e
        have h3 : x = z := by
          obtain ⟨l, r, rfl⟩ := List.append_of_mem hz
          have hn := ok.nd
          rw [List.map_append, List.map_cons] at hn
          obtain ⟨n1, n2, n3⟩ := List.nodup_append.mp hn
          rcases List.mem_append.mp (List.mem_of_find?_eq_some e) with w | w
          · exact absurd h2 (n3 x.1 (List.mem_map.mpr ⟨x, w, rfl⟩) z.1 List.mem_cons_self)
          · rcases List.mem_cons.mp w with w | w
            · exact w
            · exact absurd (List.mem_map.mpr ⟨x, w, h2⟩) (List.nodup_cons.mp n2).1
        rw [h3]; rfl
    have h1 := O3.get (a := z.2.1) (o := .dK z.2.2) (List.mem_cons_of_mem _ (List.mem_cons_of_mem _ (List.mem_cons_of_mem _ (List.mem_cons_of_mem _ (List.mem_map.mpr ⟨z, hz, rfl⟩)))))
    obtain ⟨ks, eks, hks⟩ := keys_ints (ok.rngi z hz)
    have hkn : ks.Nodup := map_inl_nodup (by rw [← eks]; exact ok.ndi z hz)
    have hkl : ks.length ≤ 8 := nodup_small hkn hks
    walk_at "s"
    intro zs b hp2 hs2 hb
    have O4 := O3.new (o := .lst (zs.map V.int)) hb
    have hlt2 := sorted_lt hp2 hs2 hkn
    have hzl : zs.length ≤ 8 := by rw [hp2.length_eq]; exact hkl
    walk_at "s"
    refine forL (K := K) (a := b) (xs := zs.map V.int) (fun j σ H' => ∃ v3 ns, σ = [some (.ref p), some (.ref f), some (.int z.1), v3] ∧ Own H H' (adr (cTab K p q fs)) ((b, .lst (zs.map V.int)) :: (a, .lst (ys.map V.int)) :: (f, .lst (ns.map V.int)) :: cTab K p q fs) ∧
      ns.Pairwise (· < ·) ∧ (∀ m, m ∈ ns ↔ ((m / 8 ∈ ys.take i ∧ (tent fs m).isSome = true) ∨ (m / 8 = z.1 ∧ m % 8 ∈ zs.take j))) ∧ ns.length ≤ 8 * i + j) ⟨_, ns, rfl, O4, hns, fun m => by rw [hmem]; simp, hl⟩ (fun i σ H' _ ⟨_, _, _, O, _⟩ => SqL.of (O.get List.mem_cons_self)) ?_ ?_
    · rintro j x σ H2 hx2 ⟨v3, ns2, rfl, O5, hns2, hmem2, hl2⟩
      obtain ⟨u, hu, rfl⟩ := map_get hx2
      have hj : j < zs.length := (List.getElem?_eq_some_iff.mp hu).1
      have hu8 := hks u (hp2.mem_iff.mp (List.mem_of_getElem? hu))
      have hsz : ns2.length < 100000 := by omega
      walk_at "s"
      refine ⟨some (.int u), ns2 ++ [z.1 * 8 + u], rfl, ?_, ?_, ?_, ?_⟩
      · have e9 : (ns2 ++ [z.1 * 8 + u]).map V.int = ns2.map V.int ++ [V.int (z.1 * 8 + u)] := List.map_append
        rw [e9]
        exact O5.wr (.there (.there .here))
      · refine List.pairwise_append.mpr ⟨hns2, List.pairwise_singleton _ _, fun a ha b hb => ?_⟩
        rw [List.mem_singleton.mp hb]
        rcases (hmem2 a).mp ha with ⟨h3, _⟩ | ⟨h3, h4⟩
        · have := before hlt hy h3
          omega
        · have := before hlt2 hu h4
          omega
      · intro m
        rw [List.mem_append, hmem2, take_succ hu, List.mem_append, List.mem_singleton, List.mem_singleton]
        constructor
        · rintro ((h | h) | h)
          · exact .inl h
          · exact .inr ⟨h.1, .inl h.2⟩
          · exact .inr ⟨by omega, .inr (by omega)⟩
        · rintro (h | ⟨h, h5 | h5⟩)
          · exact .inl (.inl h)
          · exact .inl (.inr ⟨h, h5⟩)
          · exact .inr (by omega)
      · rw [List.length_append, List.length_singleton]; omega
    · rintro σ H2 ⟨v3, ns2, rfl, O5, hns2, hmem2, hl2⟩
      rw [List.length_map] at hmem2 hl2
      refine ⟨_, _, ns2, rfl, O5.drop (List.sublist_cons_self _ _), hns2, fun m => ?_, by omega⟩
      rw [hmem2, take_succ hy, List.mem_append, List.mem_singleton, List.take_of_length_le (Nat.le_refl _)]
      constructor
      · rintro (h | ⟨h, h5⟩)
        · exact ⟨.inl h.1, h.2⟩
        · refine ⟨.inr h, ?_⟩
          rw [tent_key ok hz m h.symm]
          cases q : valV z.2.2 (Sum.inl (m % 8) : Key) with
          | some _ => rfl
          | none =>
            refine absurd ?_ (valV_not q)
            rw [eks]
            exact List.mem_map.mpr ⟨_, hp2.mem_iff.mp h5, rfl⟩
      · rintro ⟨h | h, h5⟩
        · exact .inl ⟨h, h5⟩
        · refine .inr ⟨h, ?_⟩
          rw [tent_key ok hz m h.symm] at h5
          refine hp2.mem_iff.mpr ?_
          have h6 : (Sum.inl (m % 8) : Key) ∈ z.2.2.map (·.1) := by
            by_cases q : (Sum.inl (m % 8) : Key) ∈ z.2.2.map (·.1)
            · exact q
            · rw [valV_no q] at h5; cases h5
          rw [eks] at h6
          obtain ⟨r, hr1, hr2⟩ := List.mem_map.mp h6
          rw [← Sum.inl.inj hr2]; exact hr1
  · rintro σ H' ⟨v2, v3, ns, rfl, O3, hns, hmem, hl⟩
    rw [List.length_map] at hmem hl
    walk_at "s"
    refine k H' f ns (O3.drop (List.sublist_cons_self _ _)) hns fun m => ?_
    rw [hmem, List.take_of_length_le (Nat.le_refl _)]
    exact ⟨fun h => h.2, fun h => ⟨hp.mem_iff.mpr (tent_some h), h⟩⟩

theorem nodup_sub : ∀ {l1 l2 : List Int}, l1.Nodup → (∀ x ∈ l1, x ∈ l2) → l1.length ≤ l2.length
  | [], _, _, _ => Nat.zero_le _
  | a :: r, l2, hn, h => by
    obtain ⟨n1, n2⟩ := List.nodup_cons.mp hn
    have h1 := nodup_sub (l1 := r) (l2 := l2.erase a) n2 fun x hx => (List.mem_erase_of_ne (fun e => n1 (by rw [← e]; exact hx))).mpr (h x (List.mem_cons_of_mem _ hx))
    have h2 := h a List.mem_cons_self
    rw [List.length_erase_of_mem h2] at h1
    have h3 := List.length_pos_of_mem h2
    rw [List.length_cons]
    omega
theorem key_iff {fs : Fs} (ok : TabOk fs) (i : Int) : (∀ m : Int, i * 8 ≤ m → m < i * 8 + 8 → tent fs m = none) ↔ ¬ i ∈ fs.map (·.1) := by
  constructor
  · intro h m
    obtain ⟨x, hx, rfl⟩ := List.mem_map.mp m
    obtain ⟨kv, r, e⟩ := List.exists_cons_of_ne_nil (ok.ne x hx)
    have hk : kv.1 ∈ x.2.2.map (·.1) := by rw [e]; exact List.mem_cons_self
    obtain ⟨u, e2, u0, u1⟩ := ok.rngi x hx _ hk
    have h3 := h (x.1 * 8 + u) (by omega) (by omega)
    rw [tent_key ok hx _ (by omega), show (x.1 * 8 + u) % 8 = u by omega, e, valV_pos e2] at h3
    cases h3
  · intro h m h1 h2
    cases e : tent fs m with
    | none => rfl
    | some v =>
      have := tent_some (fs := fs) (m := m) (by rw [e]; rfl)
      rw [show m / 8 = i by omega] at this
      exact absurd this h
theorem key_some {fs : Fs} (ok : TabOk fs) {k : Int} (h : k ∈ fs.map (·.1)) : ∃ m, m / 8 = k ∧ (tent fs m).isSome = true := by
  by_cases z : ∃ m, m / 8 = k ∧ (tent fs m).isSome = true
  · exact z
  · refine absurd h ((key_iff ok k).mp fun m h1 h2 => ?_)
    cases e : tent fs m with
    | none => rfl
    | some v => exact absurd ⟨m, by omega, by rw [e]; rfl⟩ z

/-! ## what the laws' own helpers promise -/
def sp__law_whole (K : PySem.W.Frag) : Sp := sp1 fun x H Q _ => ∃ i, x = .int i ∧ Q (.bl true) H
def sp__law_cell_at (K : PySem.W.Frag) : Sp := sp2 fun x k H Q _ => ∃ (a : Addr) (xs : List Int) (n : Int), x = .ref a ∧ k = .int n ∧ 0 ≤ n ∧ SqL K H a (xs.map V.int) ∧ ∀ i, Q (.int i) H
def sp__law_mix (K : PySem.W.Frag) : Sp := sp3 fun x y z H Q _ => ∃ i j m, x = .int i ∧ y = .int j ∧ z = .int m ∧ CMul i j ∧ 0 < m ∧ ∀ r, 0 ≤ r → r < m → Q (.int r) H
def sp__law_numbers (K : PySem.W.Frag) : Sp := sp2 fun x y H Q _ => ∃ (a b : Addr) (ns : List Int), x = .ref a ∧ y = .ref b ∧ H a = some (.lst (ns.map V.int)) ∧ H b = some (.lst (ns.map V.int)) ∧ Q (.bl true) H

theorem sc__law_whole : FnScope ["_law_found"] ["_law_found"] (defScope s__law_whole) := ⟨rfl, rfl, rfl, by decide +kernel, rfl, by decide +kernel, by decide +kernel⟩
theorem ok__law_whole {P : Program} {w : World} {K : PySem.W.Frag} {mg : Str → Option Value} {base : Heap} (T : Txt K mg) : Cee P w K mg base 1 (He.fAd K ("_law_whole", none)) ["_law_found"] (sp__law_whole K) := by
  refine cee_of T.d__law_whole sc__law_whole (fun _ _ _ _ _ _ us hl => match us, hl with | [_], _ => rfl) (fun vs H Q E h => sp1_len h) (fun cdv A outer s H vs Q E hr h => ⟨_, (pss_one (ps_ret (pe_and (pe_callB call_isi (by rfl) T.n_isinstance (by decide +kernel) (pa_cons (pv 0) (pa_cons (pe_bltn (v := .ty "int") rfl T.n_int (by decide +kernel) rfl) pa_nil))) (pe_one (pe_not (pe_callB call_isi (by rfl) T.n_isinstance (by decide +kernel) (pa_cons (pv 0) (pa_cons (pe_bltn (v := .ty "bool") rfl T.n_bool (by decide +kernel) rfl) pa_nil)))))))), ?_⟩)
  obtain ⟨v0, rfl, h⟩ := h
  dsimp only [cxOf, L2.start]
  obtain ⟨i, rfl, k⟩ := h
  walk_at "s"
  exact k
theorem sc__law_cell_at : FnScope ["_law_script", "_law_k"] ["_law_script", "_law_k"] (defScope s__law_cell_at) := ⟨rfl, rfl, rfl, by decide +kernel, rfl, by decide +kernel, by decide +kernel⟩
theorem ok__law_cell_at {P : Program} {w : World} {K : PySem.W.Frag} {mg : Str → Option Value} {base : Heap} (T : Txt K mg) : Cee P w K mg base 1 (He.fAd K ("_law_cell_at", none)) ["_law_script", "_law_k"] (sp__law_cell_at K) := by
  refine cee_of T.d__law_cell_at sc__law_cell_at (fun _ _ _ _ _ _ us hl => match us, hl with | [_, _], _ => rfl) (fun vs H Q E h => sp2_len h) (fun cdv A outer s H vs Q E hr h => ⟨_, (pss_cons (ps_if (pt_cmpR op_lt (pv 1) (pe_callB call_len_seq (by rfl) T.n_len (by decide +kernel) (pa_cons (pv 0) pa_nil)) (nomark _)) (pss_one (ps_ret (pe_ix ix_list (pv 0) (pv 1) (fun _ _ => rfl)))) pss_nil) (pss_one (ps_ret pe_int))), ?_⟩)
  obtain ⟨v0, v1, rfl, h⟩ := h
  dsimp only [cxOf, L2.start]
  obtain ⟨a, xs, n, rfl, rfl, n0, ha, k⟩ := h
  walk_at "s"
  refine if_d (fun h => ?_) (fun h => ?_)
  · obtain ⟨y, _, hy⟩ := at_ints n0 h
    walk_at "s"
    exact k y
  · walk_at "s"
    exact k 0
theorem sc__law_mix : FnScope ["_law_cell", "_law_factor", "_law_prime"] ["_law_cell", "_law_factor", "_law_prime"] (defScope s__law_mix) := ⟨rfl, rfl, rfl, by decide +kernel, rfl, by decide +kernel, by decide +kernel⟩
theorem ok__law_mix {P : Program} {w : World} {K : PySem.W.Frag} {mg : Str → Option Value} {base : Heap} (T : Txt K mg) : Cee P w K mg base 1 (He.fAd K ("_law_mix", none)) ["_law_cell", "_law_factor", "_law_prime"] (sp__law_mix K) := by
  refine cee_of T.d__law_mix sc__law_mix (fun _ _ _ _ _ _ us hl => match us, hl with | [_, _, _], _ => rfl) (fun vs H Q E h => sp3_len h) (fun cdv A outer s H vs Q E hr h => ⟨_, (pss_one (ps_ret (pe_op op_mod (pe_op op_mul (pv 0) (pv 1)) (pv 2)))), ?_⟩)
  obtain ⟨v0, v1, v2, rfl, h⟩ := h
  dsimp only [cxOf, L2.start]
  obtain ⟨i, j, m, rfl, rfl, rfl, hm, m0, k⟩ := h
  walk_at "s"
  exact k _ (Int.emod_nonneg _ (by omega)) (Int.emod_lt_of_pos _ m0)
theorem sc__law_numbers : FnScope ["_law_found", "_law_due", "_law_number"] ["_law_found", "_law_due"] (defScope s__law_numbers) := ⟨rfl, rfl, rfl, by decide +kernel, rfl, by decide +kernel, by decide +kernel⟩
theorem ok__law_numbers {P : Program} {w : World} {K : PySem.W.Frag} {mg : Str → Option Value} {base : Heap} (T : Txt K mg) : Cee P w K mg base 2 (He.fAd K ("_law_numbers", none)) ["_law_found", "_law_due"] (sp__law_numbers K) := by
  have c__law_whole : Cee P w K mg base 1 (He.fAd K ("_law_whole", none)) ["_law_found"] (sp__law_whole K) := ok__law_whole T
  refine cee_of T.d__law_numbers sc__law_numbers (fun _ _ _ _ _ _ us hl => match us, hl with | [_, _], _ => rfl) (fun vs H Q E h => sp2_len h) (fun cdv A outer s H vs Q E hr h => ⟨_, (pss_cons (ps_if (PW.pt (pw_or (pt_not (pt_val (pe_callB call_isi (by rfl) T.n_isinstance (by decide +kernel) (pa_cons (pv 0) (pa_cons (pe_bltn (v := .ty "list") rfl T.n_list (by decide +kernel) rfl) pa_nil))))) (pw_or1 (pt_cmpR op_ne (pe_callB call_len_seq (by rfl) T.n_len (by decide +kernel) (pa_cons (pv 0) pa_nil)) (pe_callB call_len_seq (by rfl) T.n_len (by decide +kernel) (pa_cons (pv 1) pa_nil)) (nomark _))))) (pss_one (ps_ret pe_bl)) pss_nil) (pss_cons (ps_for (passes_of rfl) rfl (PI.box (pi_list (pv 0))) (pg_name (i := 2) sc__law_numbers.nd rfl (Or.inl rfl)) (pss_one (ps_if (pt_not (pt_val (pe_f c__law_whole (hr.mono (by decide)) (takes_of rfl rfl rfl rfl) (by rfl) T.g__law_whole (pa_cons (pv 2) pa_nil)))) (pss_one (ps_ret pe_bl)) pss_nil))) (pss_one (ps_ret (pe_cmpR (op_eqD hr.units) (pv 0) (pv 1) (nomark _)))))), ?_⟩)
  obtain ⟨v0, v1, rfl, h⟩ := h
  dsimp only [cxOf, L2.start]
  obtain ⟨a, b, ns, rfl, rfl, ha, hb, k⟩ := h
  walk_at "s"
  refine if_nii (fun h => absurd rfl h) (fun _ => ?_)
  walk_at "s"
  refine forL (K := K) (a := a) (xs := ns.map V.int) (fun i σ H' => H' = H ∧ ∃ v2, σ = [some (.ref a), some (.ref b), v2]) ⟨rfl, _, rfl⟩ (fun i σ H' _ h => by rw [h.1]; exact SqL.of ha) ?_ ?_
  · rintro i x σ H' hx ⟨rfl, v2, rfl⟩
    obtain ⟨y, hy, rfl⟩ := map_get hx
    walk_at "s"
    refine ask1 ⟨y, rfl, ?_⟩
    walk_at "s"
    exact ⟨rfl, _, rfl⟩
  · rintro σ H' ⟨rfl, v2, rfl⟩
    walk_at "s"
    exact eq_ints ha hb (by rw [decide_eq_true rfl]; exact k)

/-! ## the law's deeds -/
def DeedOk (H : Hp) (v : V) : Prop := ∃ t w p n, v = .ref t ∧ H t = some (.tup [.int w, .int p, .int n]) ∧ 0 ≤ w ∧ w < 5 ∧ 0 ≤ p ∧ p < 64 ∧ 0 ≤ n ∧ n < 40
theorem DeedOk.mono {H0 H : Hp} {A : List Addr} {cs : Cells} {v : V} (h : DeedOk H0 v) (O : Own H0 H A cs) : DeedOk H v := by
  obtain ⟨t, w, p, n, e, h1, h2⟩ := h
  exact ⟨t, w, p, n, e, O.tp _ _ h1, h2⟩
def sp__law_deeds_by (K : PySem.W.Frag) : Sp := sp1 fun x H Q _ => ∃ (a : Addr) (xs : List Int), x = .ref a ∧ SqL K H a (xs.map V.int) ∧ xs.length ≤ 63 ∧
  ∀ (H' : Hp) (b : Addr) (ds : List V), Own H H' [] [(b, .lst ds)] → (∀ d ∈ ds, DeedOk H' d) → ds.length ≤ 300 → Q (.ref b) H'
theorem sc__law_deeds_by : FnScope ["_law_script", "_law_deeds", "_law_digits", "_law_cell", "_law_left", "_law_turns"] ["_law_script"] (defScope s__law_deeds_by) := ⟨rfl, rfl, rfl, by decide +kernel, rfl, by decide +kernel, by decide +kernel⟩
theorem ok__law_deeds_by {P : Program} {w : World} {K : PySem.W.Frag} {mg : Str → Option Value} {base : Heap} (T : Txt K mg) : Cee P w K mg base 2 (He.fAd K ("_law_deeds_by", none)) ["_law_script"] (sp__law_deeds_by K) := by
  have c__law_cell_at : Cee P w K mg base 1 (He.fAd K ("_law_cell_at", none)) ["_law_script", "_law_k"] (sp__law_cell_at K) := ok__law_cell_at T
  have c__law_mix : Cee P w K mg base 1 (He.fAd K ("_law_mix", none)) ["_law_cell", "_law_factor", "_law_prime"] (sp__law_mix K) := ok__law_mix T
  refine cee_of T.d__law_deeds_by sc__law_deeds_by (fun _ _ _ _ _ _ us hl => match us, hl with | [_], _ => rfl) (fun vs H Q E h => sp1_len h) (fun cdv A outer s H vs Q E hr h => ⟨_, (pss_cons (ps_set (i := 1) sc__law_deeds_by.nd rfl (Or.inl rfl) (pe_lst pa_nil)) (pss_cons (ps_set (i := 2) sc__law_deeds_by.nd rfl (Or.inl rfl) (pe_cmpR op_eq (pe_op op_mod (pe_f c__law_cell_at (hr.mono (by decide)) (takes_of rfl rfl rfl rfl) (by rfl) T.g__law_cell_at (pa_cons (pv 0) (pa_cons pe_int pa_nil))) pe_int) pe_int (nomark _))) (pss_cons (ps_for (passes_of rfl) rfl (PI.box (pi_list (pe_slice sl_list (pv 0) (po_some pe_int) po_none))) (pg_name (i := 3) sc__law_deeds_by.nd rfl (Or.inl rfl)) (pss_cons (ps_set (i := 4) sc__law_deeds_by.nd rfl (Or.inl rfl) (pe_callB (call_max2 rfl) (by rfl) T.n_max (by decide +kernel) (pa_cons (pv 3) (pa_cons (pe_un un_neg (pv 3)) pa_nil)))) (pss_cons (PS.box (ps_if (pt_not (pt_val (pv 2))) (pss_one (ps_set (i := 4) sc__law_deeds_by.nd rfl (Or.inl rfl) (pe_f c__law_mix (hr.mono (by decide)) (takes_of rfl rfl rfl rfl) (by rfl) T.g__law_mix (pa_cons (pe_op op_add (pe_f c__law_mix (hr.mono (by decide)) (takes_of rfl rfl rfl rfl) (by rfl) T.g__law_mix (pa_cons (pv 3) (pa_cons pe_int (pa_cons pe_int pa_nil)))) pe_int) (pa_cons pe_int (pa_cons pe_int pa_nil)))))) pss_nil)) (pss_cons (ps_set (i := 5) sc__law_deeds_by.nd rfl (Or.inl rfl) pe_int) (pss_one (PS.box (ps_while (passes_of rfl) (PW.pt (pw_or (pt_cmpR op_eq (pv 5) pe_int (nomark _)) (pw_or1 (PW.pt (pw_and (pt_val (pv 2)) (pw_and (pt_cmpR op_gt (pv 4) pe_int (nomark _)) (pw_and1 (pt_cmpR op_lt (pv 5) pe_int (nomark _))))))))) (pss_cons (ps_expr (pe_bm PySem.F.plainAttrs_list PySem.F.slot_list_append PySem.F.type_list_append mt_append (pv 1) (pa_cons (pe_tup (pa_cons (pe_op op_mod (pv 4) pe_int) (pa_cons (pe_op op_mod (pe_op op_fdiv (pv 4) pe_int) pe_int) (pa_cons (pe_op op_mod (pe_op op_fdiv (pv 4) pe_int) pe_int) pa_nil)))) pa_nil))) (pss_cons (ps_set (i := 4) sc__law_deeds_by.nd rfl (Or.inl rfl) (pe_op op_fdiv (pv 4) pe_int)) (pss_one (ps_aug (i := 5) sc__law_deeds_by.nd rfl (Or.inl rfl) pe_int ip_add))))))))))) (pss_one (ps_ret (pe_slice sl_list (pv 1) po_none (po_some pe_int))))))), ?_⟩)
  obtain ⟨v0, rfl, h⟩ := h
  dsimp only [cxOf, L2.start]
  obtain ⟨a, xs, rfl, ha, hl, k⟩ := h
  walk_at "s"
  intro b hb
  have O1 := (Own.start (H := H)).new (o := .lst []) hb
  walk_at "s"
  refine ask2 ⟨a, xs, 0, rfl, rfl, Int.le_refl _, O1.sq ha, fun i => ?_⟩
  walk_at "s"
  intro c hc
  have O2 := O1.new (o := .lst (cutV (xs.map V.int) (some 1) none)) hc
  have hcl := cutV_length (xs.map V.int) (some 1) none
  rw [List.length_map] at hcl
  walk_at "s"
  refine forL (K := K) (a := c) (xs := cutV (xs.map V.int) (some 1) none) (fun i σ H' => ∃ (v3 v4 v5 : Option V) (d : Bool) (ds : List V), σ = [some (.ref a), some (.ref b), some (.bl d), v3, v4, v5] ∧ Own H H' [] [(c, .lst (cutV (xs.map V.int) (some 1) none)), (b, .lst ds)] ∧
    (∀ d ∈ ds, DeedOk H' d) ∧ ds.length ≤ 60 * i) ⟨_, _, _, _, [], rfl, O2, by simp, Nat.le_refl _⟩ (fun i σ H' _ ⟨_, _, _, _, _, _, O, _⟩ => SqL.of (O.get List.mem_cons_self)) ?_ ?_
  · rintro i x σ H' hx ⟨v3, v4, v5, d, ds, rfl, O3, hds, hl3⟩
    have hi := (List.getElem?_eq_some_iff.mp hx).1
    obtain ⟨y, rfl⟩ := cut_ints hx
    walk_at "s"
    refine cutS (fun σ' H2 => H2 = H' ∧ ∃ l : Int, σ' = [some (.ref a), some (.ref b), some (.bl d), some (.int y), some (.int l), v5]) (fun nx hn => ?_) ?_
    · walk_at "s"
      refine if_nb (fun hd => ?_) (fun hd => ?_)
      · walk_at "s"
        refine ask3 ⟨_, _, _, rfl, rfl, rfl, cm_r ⟨by decide, by decide⟩, by decide, fun r r0 r1 => ?_⟩
        walk_at "s"
        refine ask3 ⟨_, _, _, rfl, rfl, rfl, cm_r ⟨by decide, by decide⟩, by decide, fun r r0 r1 => ?_⟩
        walk_at "s"
        exact hn _ _ ⟨rfl, _, rfl⟩
      · exact hn _ _ ⟨rfl, _, rfl⟩
    rintro σ H2 ⟨rfl, l, rfl⟩
    walk_at "s"
    refine whI (fun m σ H' => ∃ (l t : Int) (ds : List V), σ = [some (.ref a), some (.ref b), some (.bl d), some (.int y), some (.int l), some (.int t)] ∧ Own H H' [] [(c, .lst (cutV (xs.map V.int) (some 1) none)), (b, .lst ds)] ∧
      (∀ d ∈ ds, DeedOk H' d) ∧ 0 ≤ t ∧ t ≤ 60 ∧ (ds.length : Int) ≤ 60 * i + t ∧ m = (60 - t).toNat) _ ⟨_, 0, ds, rfl, O3, hds, Int.le_refl _, by decide, by omega, rfl⟩ ?_
    rintro m σ H'' ⟨l, t, ds2, rfl, O4, hds4, t0, t1, hl4, rfl⟩
    refine cutT (fun b H3 => H3 = H'' ∧ (b = true → t < 60) ∧ (b = false → 1 ≤ t)) (fun post hp => ?_) ?_
    · walk_at "s"
      refine if_ii (fun ht => hp _ _ ⟨rfl, fun _ => by omega, nofun⟩) (fun ht => ?_)
      walk_at "s"
      refine if_b (fun hd2 => ?_) (fun hd2 => hp _ _ ⟨rfl, nofun, fun _ => by omega⟩)
      walk_at "s"
      refine if_d (fun hz => ?_) (fun hz => hp _ _ ⟨rfl, nofun, fun _ => by omega⟩)
      walk_at "s"
      exact hp _ _ ⟨rfl, fun z => of_decide_eq_true z, fun _ => by omega⟩
    rintro bb H3 ⟨rfl, hb1, hb2⟩
    refine if_b (fun e => ?_) (fun e => ?_)
    · have ht := hb1 e
      refine whN ?_
      walk_at "s"
      intro u hu
      have O5 := O4.newT (o := .tup [.int (l % 5), .int (l / 5 % 64), .int (l / 320 % 40)]) hu
      walk_at "s"
      have O6 := (O4.self.newT (o := .tup [.int (l % 5), .int (l / 5 % 64), .int (l / 320 % 40)]) hu).wr (o' := .lst (ds2 ++ [.ref u])) (.there .here)
      refine ⟨(60 - (t + 1)).toNat, ?_, _, t + 1, ds2 ++ [.ref u], rfl, O5.wr (.there .here), ?_, ?_, ?_, ?_, rfl⟩
      · omega
      · intro d hd
        rcases List.mem_append.mp hd with hd | hd
        · exact (hds4 d hd).mono O6
        · rw [List.mem_singleton.mp hd]
          refine ⟨u, l % 5, l / 5 % 64, l / 320 % 40, rfl, ?_, by omega, by omega, by omega, by omega, by omega, by omega⟩
          rw [upd_ne (fun z => by have := O4.get (a := b) (List.mem_cons_of_mem _ List.mem_cons_self); rw [← z, hu] at this; cases this)]
          exact upd_same
      · omega
      · omega
      · rw [List.length_append, List.length_singleton]; omega
    · exact ⟨_, _, _, _, ds2, rfl, O4, hds4, by have := hb2 e; omega⟩
  · rintro σ H' ⟨v3, v4, v5, d, ds, rfl, O3, hds, hl3⟩
    walk_at "s"
    intro e he
    have O4 := (O3.new (o := .lst (cutV ds none (some 300))) he).drop (cs' := [(e, .lst (cutV ds none (some 300)))]) (.cons₂ _ (.cons _ (.cons _ (.refl _))))
    refine k _ e _ O4 ?_ (cutV_take ds 300)
    intro d hd
    exact (hds d (cutV_sub _ _ _ hd)).mono (O3.self.new he)

/-! ## data: flat things, tuples of them -/
def Flat : V → Prop
  | .non | .bl _ | .int _ => True
  | .str x => PyData.strOk x = true
  | _ => False
def fd : V → PyData
  | .bl b => .bool b
  | .int i => .int i
  | .str x => .str x
  | _ => .none
section
variable {K : PySem.W.Frag} {H : Hp} {t : Addr} {xs : List V}
theorem dp_flat {v : V} (h : Flat v) : Dp K H v (fd v) := by
  cases v with
  | non => exact .non
  | bl b => exact .bl b
  | int i => exact .int i
  | str x => exact .str x
  | _ => exact h.elim
theorem dpa_flat : ∀ {xs : List V}, (∀ x ∈ xs, Flat x) → DpAll K H xs (xs.map fd)
  | [], _ => .nil
  | x :: r, h => .cons (dp_flat (h x List.mem_cons_self)) (dpa_flat fun y hy => h y (List.mem_cons_of_mem _ hy))
theorem fd_lay {v : V} (h : Flat v) : (fd v).canLay0 = true := by
  cases v with
  | str x => exact h
  | _ => simp [fd, PyData.canLay0]
theorem fd_depth (v : V) : (fd v).depth ≤ 1 := by cases v <;> simp [fd, PyData.depth]
theorem lay_all {α : Type} {f : α → PyData} : ∀ {xs : List α}, (∀ x ∈ xs, (f x).canLay0 = true) → PyData.canLayAll0 (xs.map f) = true
  | [], _ => by simp [PyData.canLayAll0]
  | x :: r, h => by simp [PyData.canLayAll0, h x List.mem_cons_self, lay_all (xs := r) fun y hy => h y (List.mem_cons_of_mem _ hy)]
theorem depth_all {α : Type} {f : α → PyData} {n : Nat} (h : ∀ x, (f x).depth ≤ n) : ∀ xs : List α, PyData.depthAll (xs.map f) ≤ n + 1
  | [] => by simp [PyData.depthAll]
  | x :: r => by
    have h1 := depth_all h r
    have h2 := h x
    simp only [List.map_cons, PyData.depthAll]
    omega
theorem dp_tupF (h : H t = some (.tup xs)) (hf : ∀ x ∈ xs, Flat x) : Dp K H (.ref t) (.tuple (xs.map fd)) := .tup (SqT.of h) (dpa_flat hf)
theorem shaped_of {d : PyData} (h1 : d.canLay0 = true) (h2 : d.depth ≤ 64) : SeqAt.shaped d = true := by
  show (d.canLay0 && decide (d.depth ≤ 64)) = true
  rw [Bool.and_eq_true]
  exact ⟨h1, decide_eq_true h2⟩
end
/-- what a table tells, as data -/
abbrev Con := Int → Option (List V)
def dE : Option (List V) → PyData
  | none => .none
  | some xs => .tuple (xs.map fd)
theorem dE_lay {c : Option (List V)} (h : ∀ xs, c = some xs → ∀ x ∈ xs, Flat x) : (dE c).canLay0 = true := by
  cases c with
  | none => simp [dE, PyData.canLay0]
  | some xs => simp only [dE, PyData.canLay0]; exact lay_all fun x hx => fd_lay (h xs rfl x hx)
theorem dE_depth (c : Option (List V)) : (dE c).depth ≤ 3 := by
  cases c with
  | none => simp [dE, PyData.depth]
  | some xs =>
    have := depth_all (f := fd) fd_depth xs
    simp only [dE, PyData.depth]
    omega
def TC (H : Hp) (fs : Fs) (c : Con) : Prop := ∀ m, (tent fs m = none ∧ c m = none) ∨ ∃ t xs, tent fs m = some (.ref t) ∧ c m = some xs ∧ H t = some (.tup xs) ∧ ∀ x ∈ xs, Flat x
theorem TC.mono {H0 H : Hp} {A : List Addr} {cs : Cells} {fs : Fs} {c : Con} (h : TC H0 fs c) (O : Own H0 H A cs) : TC H fs c := fun m => by
  rcases h m with h | ⟨t, xs, h1, h2, h3, h4⟩
  · exact .inl h
  · exact .inr ⟨t, xs, h1, h2, O.tp _ _ h3, h4⟩
theorem TC.nil (H : Hp) : TC H [] fun _ => none := fun _ => .inl ⟨rfl, rfl⟩
theorem TC.lay {H : Hp} {fs fs' : Fs} {c : Con} {n : Int} {t : Addr} {xs : List V} (h : TC H fs c) (e : ∀ m, tent fs' m = if m = n then some (.ref t) else tent fs m) (ht : H t = some (.tup xs)) (hf : ∀ x ∈ xs, Flat x) : TC H fs' fun m => if m = n then some xs else c m := fun m => by
  by_cases z : m = n
  · exact .inr ⟨t, xs, by rw [e, if_pos z], if_pos z, ht, hf⟩
  · rcases h m with ⟨h1, h2⟩ | ⟨t, xs, h1, h2, h3⟩
    · exact .inl ⟨by rw [e, if_neg z, h1], by rw [← h2]; exact if_neg z⟩
    · exact .inr ⟨t, xs, by rw [e, if_neg z, h1], by rw [← h2]; exact if_neg z, h3⟩
theorem TC.clear {H : Hp} {fs fs' : Fs} {c : Con} {n : Int} (h : TC H fs c) (e : ∀ m, tent fs' m = if m = n then none else tent fs m) : TC H fs' fun m => if m = n then none else c m := fun m => by
  by_cases z : m = n
  · exact .inl ⟨by rw [e, if_pos z], if_pos z⟩
  · rcases h m with ⟨h1, h2⟩ | ⟨t, xs, h1, h2, h3⟩
    · exact .inl ⟨by rw [e, if_neg z, h1], by rw [← h2]; exact if_neg z⟩
    · exact .inr ⟨t, xs, by rw [e, if_neg z, h1], by rw [← h2]; exact if_neg z, h3⟩
theorem TC.some_iff {H : Hp} {fs : Fs} {c : Con} (h : TC H fs c) (m : Int) : (tent fs m).isSome = (c m).isSome := by
  rcases h m with ⟨h1, h2⟩ | ⟨t, xs, h1, h2, _⟩ <;> rw [h1, h2] <;> rfl
theorem TC.len {H H' : Hp} {fs fs' : Fs} {c : Con} (h : TC H fs c) (h' : TC H' fs' c) (ok : TabOk fs) (ok' : TabOk fs') : fs.length = fs'.length := by
  have go : ∀ {H H' : Hp} {fs fs' : Fs}, TC H fs c → TC H' fs' c → TabOk fs → TabOk fs' → fs.length ≤ fs'.length := fun {H H' fs fs'} h h' ok ok' => by
    have := nodup_sub (l1 := fs.map (·.1)) (l2 := fs'.map (·.1)) ok.nd fun k hk => by
      obtain ⟨m, hm, hs⟩ := key_some ok hk
      rw [← hm]
      exact tent_some (by rw [h'.some_iff, ← h.some_iff]; exact hs)
    simpa only [List.length_map] using this
  exact Nat.le_antisymm (go h h' ok ok') (go h' h ok' ok)
def entB (i : Int) : List V := if i % 3 = 0 then [.str "blank"] else [if i % 2 = 0 then .str "frame" else .str "slot", .int (i / 3)]
theorem entB_flat (i : Int) : ∀ x ∈ entB i, Flat x := fun x hx => by
  unfold entB at hx
  split at hx
  · rw [List.mem_singleton.mp hx]; exact (by decide +kernel : PyData.strOk "blank" = true)
  · rcases List.mem_cons.mp hx with z | z
    · rw [z]; split
      · exact (by decide +kernel : PyData.strOk "frame" = true)
      · exact (by decide +kernel : PyData.strOk "slot" = true)
    · rw [List.mem_singleton.mp z]; trivial
def sp__law_entry_by (K : PySem.W.Frag) : Sp := sp1 fun x H Q _ => ∃ i, x = .int i ∧ ∀ (H' : Hp) (t : Addr), Own H H' [] [] → H' t = some (.tup (entB i)) → Q (.ref t) H'
theorem sc__law_entry_by : FnScope ["_law_number"] ["_law_number"] (defScope s__law_entry_by) := ⟨rfl, rfl, rfl, by decide +kernel, rfl, by decide +kernel, by decide +kernel⟩
theorem ok__law_entry_by {P : Program} {w : World} {K : PySem.W.Frag} {mg : Str → Option Value} {base : Heap} (T : Txt K mg) : Cee P w K mg base 1 (He.fAd K ("_law_entry_by", none)) ["_law_number"] (sp__law_entry_by K) := by
  refine cee_of T.d__law_entry_by sc__law_entry_by (fun _ _ _ _ _ _ us hl => match us, hl with | [_], _ => rfl) (fun vs H Q E h => sp1_len h) (fun cdv A outer s H vs Q E hr h => ⟨_, (pss_cons (ps_if (pt_cmpR op_eq (pe_op op_mod (pv 0) pe_int) pe_int (nomark _)) (pss_one (ps_ret (pe_tup (pa_cons pe_str pa_nil)))) pss_nil) (pss_one (ps_ret (pe_tup (pa_cons (pe_ix ix_list (pe_lst (pa_cons pe_str (pa_cons pe_str pa_nil))) (pe_op op_mod (pv 0) pe_int) (fun _ _ => rfl)) (pa_cons (pe_op op_fdiv (pv 0) pe_int) pa_nil)))))), ?_⟩)
  obtain ⟨v0, rfl, h⟩ := h
  dsimp only [cxOf, L2.start]
  obtain ⟨i, rfl, k⟩ := h
  walk_at "s"
  refine if_ii (fun h => ?_) (fun h => ?_)
  · walk_at "s"
    intro t ht
    exact k _ t (Own.start.newT ht) (by unfold entB; rw [if_pos h]; exact upd_same)
  · walk_at "s"
    intro b hb
    have O1 := (Own.start (H := H)).new (o := .lst [V.str "frame", V.str "slot"]) hb
    have hz : atI [V.str "frame", V.str "slot"] (i % 2) = some (if i % 2 = 0 then .str "frame" else .str "slot") := by
      by_cases e : i % 2 = 0
      · rw [e]; rfl
      · rw [show i % 2 = 1 by omega]; rfl
    walk_at "s"
    intro t ht
    exact k _ t (((O1.newT ht)).drop (List.sublist_cons_self _ _)) (by unfold entB; rw [if_neg h]; exact upd_same)

/-- the law's own dict tells what c tells -/
def TD (H : Hp) (kvs : List (Key × V)) (c : Con) : Prop := ∀ m, (valV kvs (Sum.inl m) = none ∧ c m = none) ∨ ∃ t xs, valV kvs (Sum.inl m) = some (.ref t) ∧ c m = some xs ∧ H t = some (.tup xs) ∧ ∀ x ∈ xs, Flat x
theorem TD.mono {H0 H : Hp} {A : List Addr} {cs : Cells} {kvs : List (Key × V)} {c : Con} (h : TD H0 kvs c) (O : Own H0 H A cs) : TD H kvs c := fun m => by
  rcases h m with h | ⟨t, xs, h1, h2, h3, h4⟩
  · exact .inl h
  · exact .inr ⟨t, xs, h1, h2, O.tp _ _ h3, h4⟩
structure DuOk (kvs : List (Key × V)) : Prop where
  nd : (kvs.map (·.1)).Nodup
  rng : ∀ k ∈ kvs.map (·.1), ∃ r : Int, k = Sum.inl r ∧ 0 ≤ r ∧ r < 64
theorem DuOk.put {kvs : List (Key × V)} (h : DuOk kvs) {n : Int} {v : V} (h0 : 0 ≤ n) (h1 : n < 64) : DuOk (putK kvs (Sum.inl n) v) := by
  by_cases e : (Sum.inl n : Key) ∈ kvs.map (·.1)
  · have e2 : (putK kvs (Sum.inl n) v).map (·.1) = kvs.map (·.1) := by
      unfold putK
      rw [if_pos (by obtain ⟨x, hx, e⟩ := List.mem_map.mp e; exact List.any_eq_true.mpr ⟨x, hx, decide_eq_true e⟩), List.map_map]
      refine List.map_congr_left fun x _ => ?_
      show (if x.1 = Sum.inl n then (x.1, v) else x).1 = x.1
      split <;> rfl
    exact ⟨by rw [e2]; exact h.nd, by rw [e2]; exact h.rng⟩
  · rw [putK_new e]
    refine ⟨?_, fun k hk => ?_⟩
    · rw [List.map_append]
      exact nd_snoc h.nd e
    · rw [List.map_append] at hk
      rcases List.mem_append.mp hk with z | z
      · exact h.rng k z
      · rw [List.mem_singleton.mp z]
        exact ⟨n, rfl, h0, h1⟩
theorem DuOk.drop {kvs : List (Key × V)} (h : DuOk kvs) (k : Key) : DuOk (dropK kvs k) :=
  ⟨h.nd.sublist (List.filter_sublist.map _), fun j hj => h.rng j ((List.filter_sublist.map _).subset hj)⟩
theorem keys_intsN : ∀ {l : List Key}, (∀ k ∈ l, ∃ r : Int, k = Sum.inl r ∧ 0 ≤ r ∧ r < 64) → ∃ ns : List Int, l = ns.map Sum.inl ∧ ∀ n ∈ ns, 0 ≤ n ∧ n < 64
  | [], _ => ⟨[], rfl, by simp⟩
  | k :: l, h => by
    obtain ⟨r, e, h1, h2⟩ := h k List.mem_cons_self
    obtain ⟨ns, e2, h3⟩ := keys_intsN (l := l) fun k hk => h k (List.mem_cons_of_mem _ hk)
    refine ⟨r :: ns, by rw [e, e2]; rfl, fun n hn => ?_⟩
    rcases List.mem_cons.mp hn with z | z
    · rw [z]; exact ⟨h1, h2⟩
    · exact h3 n z
theorem DuOk.len {kvs : List (Key × V)} (h : DuOk kvs) : kvs.length ≤ 64 := by
  obtain ⟨ns, e, h2⟩ := keys_intsN h.rng
  have h3 := h.nd
  rw [e] at h3
  have := nodup_small (m := 64) (map_inl_nodup h3) h2
  have e2 := congrArg List.length e
  rw [List.length_map, List.length_map] at e2
  omega
theorem valV_dropK {kvs : List (Key × V)} {k j : Key} : valV (dropK kvs k) j = if j = k then none else valV kvs j := by
  induction kvs with
  | nil => show none = _; split <;> rfl
  | cons x r ih =>
    unfold dropK at ih ⊢
    rw [List.filter_cons]
    by_cases e : x.1 = k
    · rw [if_neg (by simp [e]), ih]
      by_cases z : j = k
      · rw [if_pos z, if_pos z]
      · rw [if_neg z, if_neg z, valV_neg (fun w => z (w.symm.trans e))]
    · rw [if_pos (by simp [e])]
      by_cases z : x.1 = j
      · rw [valV_pos z, valV_pos z, if_neg (fun w => e (z.trans w))]
      · rw [valV_neg z, valV_neg z, ih]
theorem drop_at (kvs : List (Key × V)) (n m : Int) : valV (dropK kvs (Sum.inl n)) (Sum.inl m) = if m = n then none else valV kvs (Sum.inl m) := by
  rw [valV_dropK]
  by_cases z : m = n
  · rw [if_pos z, if_pos (by rw [z])]
  · rw [if_neg z, if_neg (fun w => z (Sum.inl.inj w))]
theorem TD.lay {H : Hp} {kvs : List (Key × V)} {c : Con} {n : Int} {t : Addr} {xs : List V} (h : TD H kvs c) (ht : H t = some (.tup xs)) (hf : ∀ x ∈ xs, Flat x) : TD H (putK kvs (Sum.inl n) (.ref t)) fun m => if m = n then some xs else c m := fun m => by
  rw [valV_put]
  by_cases z : m = n
  · exact .inr ⟨t, xs, by rw [if_pos (by rw [z])], if_pos z, ht, hf⟩
  · rw [if_neg (fun w => z (Sum.inl.inj w))]
    rcases h m with ⟨h1, h2⟩ | ⟨t, xs, h1, h2, h3⟩
    · exact .inl ⟨h1, by rw [← h2]; exact if_neg z⟩
    · exact .inr ⟨t, xs, h1, by rw [← h2]; exact if_neg z, h3⟩
theorem TD.clear {H : Hp} {kvs kvs' : List (Key × V)} {c : Con} {n : Int} (h : TD H kvs c) (e : ∀ m, valV kvs' (Sum.inl m) = if m = n then none else valV kvs (Sum.inl m)) : TD H kvs' fun m => if m = n then none else c m := fun m => by
  rw [e]
  by_cases z : m = n
  · exact .inl ⟨by rw [if_pos z], if_pos z⟩
  · rw [if_neg z]
    rcases h m with ⟨h1, h2⟩ | ⟨t, xs, h1, h2, h3⟩
    · exact .inl ⟨h1, by rw [← h2]; exact if_neg z⟩
    · exact .inr ⟨t, xs, h1, by rw [← h2]; exact if_neg z, h3⟩
theorem pages_due {H H' : Hp} {fs : Fs} {kvs : List (Key × V)} {c : Con} (h : TC H fs c) (h' : TD H' kvs c) (ok : DuOk kvs) {ks ys ns : List Int} (hk : kvs.map (·.1) = ks.map Sum.inl) (hp : ys.Perm ks) (hs : ys.Pairwise (· ≤ ·)) (hn : ns.Pairwise (· < ·)) (hm : ∀ m, m ∈ ns ↔ (tent fs m).isSome = true) : ns = ys := by
  have nk : ks.Nodup := map_inl_nodup (by rw [← hk]; exact ok.nd)
  have ny : ys.Nodup := hp.nodup_iff.mpr nk
  refine sorted_ext hn ((hs.and ny).imp fun {a b} h => by have := h.1; have := h.2; omega) fun m => ?_
  rw [hm, h.some_iff, hp.mem_iff]
  have e : m ∈ ks ↔ (Sum.inl m : Key) ∈ kvs.map (·.1) := by
    rw [hk]
    exact ⟨fun z => List.mem_map.mpr ⟨_, z, rfl⟩, fun z => by obtain ⟨x, hx, e⟩ := List.mem_map.mp z; cases e; exact hx⟩
  rw [e]
  rcases h' m with ⟨h1, h2⟩ | ⟨t, xs, h1, h2, _⟩
  · rw [h2]
    exact ⟨nofun, fun z => absurd z (valV_not h1)⟩
  · rw [h2]
    exact ⟨fun _ => valV_in h1, fun _ => rfl⟩
/-- what is told and what is due: nothing, or tuples alike -/
def Alike (H : Hp) (x y : V) : Prop := (x = .non ∧ y = .non) ∨ ∃ t u xs, x = .ref t ∧ y = .ref u ∧ H t = some (.tup xs) ∧ H u = some (.tup xs) ∧ ∀ x ∈ xs, Flat x
theorem alike {H : Hp} {fs : Fs} {kvs : List (Key × V)} {c : Con} (h : TC H fs c) (h' : TD H kvs c) (m : Int) : Alike H ((tent fs m).getD .non) ((valV kvs (Sum.inl m)).getD .non) := by
  rcases h m with ⟨h1, h2⟩ | ⟨t, xs, h1, h2, h3, h4⟩
  · rcases h' m with ⟨g1, g2⟩ | ⟨u, ys, g1, g2, g3, g4⟩
    · exact .inl ⟨by rw [h1]; rfl, by rw [g1]; rfl⟩
    · rw [h2] at g2; cases g2
  · rcases h' m with ⟨g1, g2⟩ | ⟨u, ys, g1, g2, g3, g4⟩
    · rw [h2] at g2; cases g2
    · rw [h2] at g2; cases g2
      exact .inr ⟨t, u, xs, by rw [h1]; rfl, by rw [g1]; rfl, h3, g3, h4⟩
def sp__law_entry (K : PySem.W.Frag) : Sp := sp2 fun x y H Q _ => Alike H x y ∧ Q (.bl true) H
theorem sc__law_entry : FnScope ["_law_found", "_law_due"] ["_law_found", "_law_due"] (defScope s__law_entry) := ⟨rfl, rfl, rfl, by decide +kernel, rfl, by decide +kernel, by decide +kernel⟩
theorem ok__law_entry {P : Program} {w : World} {K : PySem.W.Frag} {mg : Str → Option Value} {base : Heap} (T : Txt K mg) : Cee P w K mg base 1 (He.fAd K ("_law_entry", none)) ["_law_found", "_law_due"] (sp__law_entry K) := by
  refine cee_of T.d__law_entry sc__law_entry (fun _ _ _ _ _ _ us hl => match us, hl with | [_, _], _ => rfl) (fun vs H Q E h => sp2_len h) (fun cdv A outer s H vs Q E hr h => ⟨_, (pss_cons (ps_if (pt_cmpR op_isN (pv 1) pe_non (nomark _)) (pss_one (ps_ret (pe_cmpR op_isN (pv 0) pe_non (nomark _)))) pss_nil) (pss_one (ps_ret (pe_and (pe_callB call_isi (by rfl) T.n_isinstance (by decide +kernel) (pa_cons (pv 0) (pa_cons (pe_bltn (v := .ty "tuple") rfl T.n_tuple (by decide +kernel) rfl) pa_nil))) (pe_one (pe_cmpR (op_eqD hr.units) (pv 0) (pv 1) (nomark _))))))), ?_⟩)
  obtain ⟨v0, v1, rfl, h⟩ := h
  dsimp only [cxOf, L2.start]
  obtain ⟨ha, k⟩ := h
  rcases ha with ⟨rfl, rfl⟩ | ⟨t, u, xs, rfl, rfl, ht, hu, hf⟩
  · walk_at "s"
    exact k
  · walk_at "s"
    have hl : (PyData.tuple (xs.map fd)).canLay0 = true := by simp only [PyData.canLay0]; exact lay_all fun x hx => fd_lay (hf x hx)
    have hs := shaped_of hl (by have := depth_all (f := fd) fd_depth xs; simp only [PyData.depth]; omega)
    refine ⟨_, _, dp_tupF ht hf, dp_tupF hu hf, hs, hs, ?_⟩
    rw [SeqAt.eqv_refl _ hl]
    exact k
def sp_law (K : PySem.W.Frag) : Sp := sp1 fun x H Q _ => ∃ (a : Addr) (xs : List Int), x = .ref a ∧ SqL K H a (xs.map V.int) ∧ xs.length ≤ 63 ∧ ∀ H', Q (.bl true) H'
theorem law_in {K : PySem.W.Frag} (H : Hp) (a : Addr) (ns : List Int) (hl : ns.length ≤ 63) (hz : ∀ z ∈ ns, Builtin.Int.intBits z ≤ 1048576) (hS : SqL K H a (ns.map V.int)) :
    ∃ (a' : Addr) (xs : List Int), V.ref a = .ref a' ∧ SqL K H a' (xs.map V.int) ∧ xs.length ≤ 63 ∧ ∀ H' : Hp, (fun (v : V) (_ : Hp) => v = .bl true) (.bl true) H' := ⟨a, ns, rfl, hS, hl, fun _ => rfl⟩
theorem sc_law : FnScope ["_law_script", "_law_table", "_law_due", "_law_what", "_law_page", "_law_number", "_law_found"] ["_law_script"] (defScope s_law) := ⟨rfl, rfl, rfl, by decide +kernel, rfl, by decide +kernel, by decide +kernel⟩
theorem ok_law {P : Program} {w : World} {K : PySem.W.Frag} {mg : Str → Option Value} {base : Heap} (T : Txt K mg) {fd : FuncData} (F : FunD K "law" "law" (defArgs s_law) (defBody s_law) (defScope s_law) [] [] (He.fAd K ("law", none)) fd) : FnOk P w K mg base (L2.CX P w) 3 (He.fAd K ("law", none)) fd ["_law_script"] (bx (sp_law K)) := by
  have c_Table___init__ : Cee P w K mg base 1 (He.fAd K ("Table", some "__init__")) ["self"] (sp_Table___init__ K) := ok_Table___init__ T
  have c__law_deeds_by : Cee P w K mg base 2 (He.fAd K ("_law_deeds_by", none)) ["_law_script"] (sp__law_deeds_by K) := ok__law_deeds_by T
  have c_Table_lay : Cee P w K mg base 1 (He.fAd K ("Table", some "lay")) ["self", "page", "entry"] (sp_Table_lay K) := ok_Table_lay T
  have c__law_entry_by : Cee P w K mg base 1 (He.fAd K ("_law_entry_by", none)) ["_law_number"] (sp__law_entry_by K) := ok__law_entry_by T
  have c_Table_clear : Cee P w K mg base 1 (He.fAd K ("Table", some "clear")) ["self", "page"] (sp_Table_clear K) := ok_Table_clear T
  have c__law_entry : Cee P w K mg base 1 (He.fAd K ("_law_entry", none)) ["_law_found", "_law_due"] (sp__law_entry K) := ok__law_entry T
  have c_Table_get : Cee P w K mg base 1 (He.fAd K ("Table", some "get")) ["self", "page"] (sp_Table_get K) := ok_Table_get T
  have c__law_numbers : Cee P w K mg base 2 (He.fAd K ("_law_numbers", none)) ["_law_found", "_law_due"] (sp__law_numbers K) := ok__law_numbers T
  have c_Table_pages : Cee P w K mg base 1 (He.fAd K ("Table", some "pages")) ["self"] (sp_Table_pages K) := ok_Table_pages T
  refine fn_of F sc_law (fun vs H Q E h => sp1_len h) (fun cdv A outer s H vs Q E hr h => ⟨_, (pss_cons (ps_set (i := 1) sc_law.nd rfl (Or.inl rfl) (pe_n0 T.m_Table c_Table___init__ (hr.mono (by decide)) (by rfl) T.g_Table)) (pss_cons (ps_set (i := 2) sc_law.nd rfl (Or.inl rfl) pe_dnewK) (pss_cons (ps_for (passes_of rfl) rfl (PI.box (pi_list (pe_f c__law_deeds_by (hr.mono (by decide)) (takes_of rfl rfl rfl rfl) (by rfl) T.g__law_deeds_by (pa_cons (pv 0) pa_nil)))) (pg_tup rfl (pgs_cons (pg_name (i := 3) sc_law.nd rfl (Or.inl rfl)) (pgs_cons (pg_name (i := 4) sc_law.nd rfl (Or.inl rfl)) (pgs_cons (pg_name (i := 5) sc_law.nd rfl (Or.inl rfl)) pgs_nil)))) (pss_cons (PS.box (ps_if (pt_cmpR op_lt (pv 3) pe_int (nomark _)) (pss_cons (ps_expr (pe_m (pv 1) T.c_Table T.m_Table_lay c_Table_lay (hr.mono (by decide)) (takes_of rfl rfl rfl rfl) (pa_cons (pv 4) (pa_cons (pe_f c__law_entry_by (hr.mono (by decide)) (takes_of rfl rfl rfl rfl) (by rfl) T.g__law_entry_by (pa_cons (pv 5) pa_nil)) pa_nil)))) (pss_one (ps_dput (hu_of hr) (pv 2) (pv 4) (pe_f c__law_entry_by (hr.mono (by decide)) (takes_of rfl rfl rfl rfl) (by rfl) T.g__law_entry_by (pa_cons (pv 5) pa_nil)) rfl))) (pss_one (ps_if (pt_cmpR op_eq (pv 3) pe_int (nomark _)) (pss_cons (ps_expr (pe_m (pv 1) T.c_Table T.m_Table_clear c_Table_clear (hr.mono (by decide)) (takes_of rfl rfl rfl rfl) (pa_cons (pv 4) pa_nil))) (pss_one (ps_expr (pe_dpop2 (pv 2) (pv 4) pe_non ⟨rfl, rfl, rfl, rfl⟩)))) pss_nil)))) (pss_cons (ps_if (pt_not (pt_val (pe_f c__law_entry (hr.mono (by decide)) (takes_of rfl rfl rfl rfl) (by rfl) T.g__law_entry (pa_cons (pe_m (pv 1) T.c_Table T.m_Table_get c_Table_get (hr.mono (by decide)) (takes_of rfl rfl rfl rfl) (pa_cons (pv 4) pa_nil)) (pa_cons (pe_dget2 (hu_of hr) (pv 2) (pv 4) pe_non ⟨rfl, rfl, rfl, rfl⟩) pa_nil))))) (pss_one (ps_ret pe_bl)) pss_nil) (pss_one (ps_if (PW.pt (pw_and (pt_cmpR op_eq (pv 3) pe_int (nomark _)) (pw_and1 (pt_not (pt_val (pe_f c__law_numbers (hr.mono (by decide)) (takes_of rfl rfl rfl rfl) (by rfl) T.g__law_numbers (pa_cons (pe_m0 (pv 1) T.c_Table T.m_Table_pages c_Table_pages (hr.mono (by decide)) (takes_of rfl rfl rfl rfl)) (pa_cons (pe_callB (call_sortedK rfl) (by rfl) T.n_sorted (by decide +kernel) (pa_cons (pe_bm0 PySem.F.plainAttrs_dict PySem.F.slot_dict_keys PySem.F.type_dict_keys mt_keys (pv 2)) pa_nil)) pa_nil)))))))) (pss_one (ps_ret pe_bl)) pss_nil))))) (pss_cons (ps_for (passes_of rfl) rfl (PI.box (pi_range1 (by rfl) T.n_range (pa_cons pe_int pa_nil))) (pg_name (i := 4) sc_law.nd rfl (Or.inl rfl)) (pss_one (ps_if (pt_not (pt_val (pe_f c__law_entry (hr.mono (by decide)) (takes_of rfl rfl rfl rfl) (by rfl) T.g__law_entry (pa_cons (pe_m (pv 1) T.c_Table T.m_Table_get c_Table_get (hr.mono (by decide)) (takes_of rfl rfl rfl rfl) (pa_cons (pv 4) pa_nil)) (pa_cons (pe_dget2 (hu_of hr) (pv 2) (pv 4) pe_non ⟨rfl, rfl, rfl, rfl⟩) pa_nil))))) (pss_one (ps_ret pe_bl)) pss_nil))) (pss_cons (ps_set (i := 6) sc_law.nd rfl (Or.inl rfl) (pe_m0 (pv 1) T.c_Table T.m_Table_pages c_Table_pages (hr.mono (by decide)) (takes_of rfl rfl rfl rfl))) (pss_cons (ps_if (pt_not (pt_val (pe_f c__law_numbers (hr.mono (by decide)) (takes_of rfl rfl rfl rfl) (by rfl) T.g__law_numbers (pa_cons (pv 6) (pa_cons (pe_callB (call_sortedK rfl) (by rfl) T.n_sorted (by decide +kernel) (pa_cons (pe_bm0 PySem.F.plainAttrs_dict PySem.F.slot_dict_keys PySem.F.type_dict_keys mt_keys (pv 2)) pa_nil)) pa_nil))))) (pss_one (ps_ret pe_bl)) pss_nil) (pss_cons (ps_expr (pe_bm PySem.F.plainAttrs_list PySem.F.slot_list_append PySem.F.type_list_append mt_append (pv 6) (pa_cons pe_int pa_nil))) (pss_one (ps_ret (pe_f c__law_numbers (hr.mono (by decide)) (takes_of rfl rfl rfl rfl) (by rfl) T.g__law_numbers (pa_cons (pe_m0 (pv 1) T.c_Table T.m_Table_pages c_Table_pages (hr.mono (by decide)) (takes_of rfl rfl rfl rfl)) (pa_cons (pe_callB (call_sortedK rfl) (by rfl) T.n_sorted (by decide +kernel) (pa_cons (pe_bm0 PySem.F.plainAttrs_dict PySem.F.slot_dict_keys PySem.F.type_dict_keys mt_keys (pv 2)) pa_nil)) pa_nil)))))))))))), ?_⟩)
  obtain ⟨v0, rfl, h⟩ := h
  dsimp only [cxOf, L2.start]
  obtain ⟨a, xs, rfl, ha, hl, k⟩ := h
  walk_at "s"
  intro p dp h1 h2 hne
  have O1 := (Own.start (H := H)).inst (C := He.ga K "Table") h1 h2 hne
  refine ask1 ⟨p, dp, rfl, O1.self, fun H2 q hO => ?_⟩
  have O2 := O1.call .all hO
  clear O1 hO
  walk_at "s"
  intro D hD
  have O3 := O2.new (o := .dK []) hD
  walk_at "s"
  refine ask1 ⟨a, xs, rfl, O3.sq ha, hl, fun H6 b ds hO2 hds hdl => ?_⟩
  have O4 := O3.callN hO2
  clear O2 O3
  walk_at "s"
  refine forL (K := K) (a := b) (xs := ds) (fun i σ H' => ∃ (fs : Fs) (kvs : List (Key × V)) (c : Con) (v3 v4 v5 v6 : Option V), σ = [some (.ref a), some (.ref p), some (.ref D), v3, v4, v5, v6] ∧ Own H H' [] ((b, .lst ds) :: (D, .dK kvs) :: cTab K p q fs) ∧ TabOk fs ∧ DuOk kvs ∧ TC H' fs c ∧ TD H' kvs c ∧ ∀ d ∈ ds, DeedOk H' d)
    ⟨[], [], fun _ => none, _, _, _, _, rfl, O4, TabOk.nil, ⟨List.nodup_nil, by simp⟩, TC.nil _, fun m => .inl ⟨rfl, rfl⟩, fun d hd => hds d hd⟩ (fun i σ H' _ ⟨_, _, _, _, _, _, _, _, O, _⟩ => SqL.of (O.get List.mem_cons_self)) ?_ ?_
  · clear O4 hO2 hds
    rintro i x σ H' hx ⟨fs, kvs, c, v3, v4, v5, v6, rfl, O, ok, du, tc, td, hds⟩
    obtain ⟨t, w, pg, n, rfl, ht, w0, w1, p0, p1, n0, n1⟩ := hds x (List.mem_of_getElem? hx)
    have hkl := du.len
    walk_at "s"
    refine cutS (fun σ' H2 => ∃ (fs : Fs) (kvs : List (Key × V)) (c : Con), σ' = [some (.ref a), some (.ref p), some (.ref D), some (.int w), some (.int pg), some (.int n), v6] ∧ Own H H2 [] ((b, .lst ds) :: (D, .dK kvs) :: cTab K p q fs) ∧ TabOk fs ∧ DuOk kvs ∧ TC H2 fs c ∧ TD H2 kvs c ∧ ∀ d ∈ ds, DeedOk H2 d) (fun nx hn => ?_) ?_
    · walk_at "s"
      refine if_d (fun hw => ?_) (fun hw => ?_)
      · walk_at "s"
        refine ask1 ⟨n, rfl, fun H5 e O5 he => ?_⟩
        have O6 := O.callN O5
        walk_at "s"
        refine ask3 ⟨p, q, fs, pg, rfl, rfl, p0, p1, ok, O6.blk (s' := []) (.there (.there .all)), fun H7 fs' O7 ok' he' => ?_⟩
        have O8 : Own H H7 [] ((b, .lst ds) :: (D, .dK kvs) :: cTab K p q fs') := O6.call (.there (.there .all)) O7
        have tc' := (((tc.mono O5).mono O7)).lay (n := pg) (t := e) (xs := entB n) he' (O7.tp _ _ he) (entB_flat n)
        walk_at "s"
        refine ask1 ⟨n, rfl, fun H9 e2 O9 he2 => ?_⟩
        have O10 := O8.callN O9
        walk_at "s"
        have O11 := O10.wr (o' := .dK (putK kvs (Sum.inl pg) (.ref e2))) (.there .here)
        have S11 := O10.self.wr (o' := .dK (putK kvs (Sum.inl pg) (.ref e2))) (.there .here)
        refine hn _ _ ⟨fs', putK kvs (Sum.inl pg) (.ref e2), _, rfl, O11, ok', du.put p0 p1, (tc'.mono O9).mono S11, ((((td.mono O5).mono O7).mono O9).mono S11).lay (S11.tp _ _ he2) (entB_flat n), fun d hd => ((((hds d hd).mono O5).mono O7).mono O9).mono S11⟩
      · walk_at "s"
        refine if_ii (fun hw2 => ?_) (fun hw2 => ?_)
        · walk_at "s"
          refine ask2 ⟨p, q, fs, pg, rfl, rfl, ok, O.blk (s' := []) (.there (.there .all)), fun H6 fs' O7 ok' he' => ?_⟩
          have O8 : Own H H6 [] ((b, .lst ds) :: (D, .dK kvs) :: cTab K p q fs') := O.call (.there (.there .all)) O7
          have tc' := (tc.mono O7).clear he'
          walk_at "s"
          refine ⟨fun v hv => ?_, fun hv => ?_⟩
          · have O9 := O8.wr (o' := .dK (dropK kvs (Sum.inl pg))) (.there .here)
            have S9 := O8.self.wr (o' := .dK (dropK kvs (Sum.inl pg))) (.there .here)
            exact hn _ _ ⟨fs', dropK kvs (Sum.inl pg), _, rfl, O9, ok', du.drop _, tc'.mono S9, ((td.mono O7).mono S9).clear (n := pg) (fun m => drop_at kvs pg m), fun d hd => ((hds d hd).mono O7).mono S9⟩
          · exact hn _ _ ⟨fs', kvs, _, rfl, O8, ok', du, tc', (td.mono O7).clear (n := pg) (fun m => (by
              by_cases z : m = pg
              · rw [if_pos z, z]; exact hv
              · rw [if_neg z])), fun d hd => (hds d hd).mono O7⟩
        · exact hn _ _ ⟨fs, kvs, c, rfl, O, ok, du, tc, td, hds⟩
    clear O ok du tc td hds hkl fs kvs c
    rintro σ H2 ⟨fs, kvs, c, rfl, O, ok, du, tc, td, hds⟩
    have hkl := du.len
    walk_at "s"
    refine ask2 ⟨p, q, fs, pg, rfl, rfl, O.blk (s' := []) (.there (.there .all)), ?_⟩
    walk_at "s"
    refine ask2 ⟨alike tc td pg, ?_⟩
    walk_at "s"
    refine if_ii (fun h => ?_) (fun h => ?_)
    · walk_at "s"
      refine ask1 ⟨p, q, fs, rfl, ok, O.blk (s' := []) (.there (.there .all)), fun H3 pa ns O3 hn1 hn2 => ?_⟩
      have O4 : Own H H3 [] ((pa, .lst (ns.map V.int)) :: (b, .lst ds) :: (D, .dK kvs) :: cTab K p q fs) := O.callE (e := [(pa, .lst (ns.map V.int))]) (.there (.there .all)) O3
      walk_at "s"
      intro r hr
      have O5 := O4.new (o := KO r D) hr
      obtain ⟨ks, hks, _⟩ := keys_intsN du.rng
      refine ⟨r, D, kvs, ks, rfl, O5.get (.head _), .inl (O5.get (.tail _ (.tail _ (.tail _ (.head _))))), hks, fun ys pb hp hs hpb => ?_⟩
      have O6 := O5.new (o := .lst (ys.map V.int)) hpb
      cases pages_due tc td du hks hp hs hn1 hn2
      walk_at "s"
      refine ask2 ⟨pa, pb, ns, rfl, rfl, O6.get (.tail _ (.tail _ (.head _))), O6.get (.head _), ?_⟩
      walk_at "s"
      have S6 := ((O.self.callE (e := [(pa, .lst (ns.map V.int))]) (.there (.there .all)) O3).new (o := KO r D) hr).new (o := .lst (ns.map V.int)) hpb
      exact ⟨fs, kvs, c, _, _, _, _, rfl, O6.drop (.cons _ (.cons _ (.cons _ (.refl _)))), ok, du, tc.mono S6, td.mono S6, fun d hd => (hds d hd).mono S6⟩
    · exact ⟨fs, kvs, c, _, _, _, _, rfl, O, ok, du, tc, td, hds⟩
  · rintro σ H' ⟨fs, kvs, c, v3, v4, v5, v6, rfl, O, ok, du, tc, td, hds⟩
    walk_at "s"
    refine forR (lo := 0) (n := 64) (fun j σ H2 => H2 = H' ∧ ∃ v4, σ = [some (.ref a), some (.ref p), some (.ref D), v3, v4, v5, v6]) ⟨rfl, _, rfl⟩ ?_ ?_
    · rintro j σ H2 hj ⟨rfl, v4, rfl⟩
      walk_at "s"
      refine ask2 ⟨p, q, fs, _, rfl, rfl, O.blk (s' := []) (.there (.there .all)), ?_⟩
      walk_at "s"
      refine ask2 ⟨alike tc td _, ?_⟩
      walk_at "s"
      exact ⟨rfl, _, rfl⟩
    · rintro σ H2 ⟨rfl, v4, rfl⟩
      walk_at "s"
      refine ask1 ⟨p, q, fs, rfl, ok, O.blk (s' := []) (.there (.there .all)), fun H3 pa ns O3 hn1 hn2 => ?_⟩
      have O4 : Own H H3 [] ((pa, .lst (ns.map V.int)) :: (b, .lst ds) :: (D, .dK kvs) :: cTab K p q fs) := O.callE (e := [(pa, .lst (ns.map V.int))]) (.there (.there .all)) O3
      walk_at "s"
      intro r hr
      have O5 := O4.new (o := KO r D) hr
      obtain ⟨ks, hks, _⟩ := keys_intsN du.rng
      refine ⟨r, D, kvs, ks, rfl, O5.get (.head _), .inl (O5.get (.tail _ (.tail _ (.tail _ (.head _))))), hks, fun ys pb hp hs hpb => ?_⟩
      have O6 := O5.new (o := .lst (ys.map V.int)) hpb
      cases pages_due tc td du hks hp hs hn1 hn2
      walk_at "s"
      refine ask2 ⟨pa, pb, ns, rfl, rfl, O6.get (.tail _ (.tail _ (.head _))), O6.get (.head _), ?_⟩
      have hnl : (ns.map V.int).length < 100000 := by
        have e1 := congrArg List.length hks
        rw [List.length_map, List.length_map] at e1
        rw [List.length_map, hp.length_eq, ← e1]
        have := du.len
        omega
      walk_at "s"
      have O7 := O6.wr (o' := .lst (ns.map V.int ++ [V.int 64])) (.there (.there .here))
      have O8 : Own H _ [] ((b, .lst ds) :: (D, .dK kvs) :: cTab K p q fs) := O7.drop (.cons _ (.cons _ (.cons _ (.refl _))))
      generalize (upd (upd (upd H3 r (KO r D)) pb (HO.lst (List.map V.int ns))) pa (HO.lst (List.map V.int ns ++ [V.int 64]))) = Hx at O8 ⊢
      clear O3 O4 O5 O6 O7 hn1 hn2 hp hs hr hpb hnl hks r pb
      refine ask1 ⟨p, q, fs, rfl, ok, O8.blk (s' := []) (.there (.there .all)), fun H4 pa ns O3 hn1 hn2 => ?_⟩
      have O4 : Own H H4 [] ((pa, .lst (ns.map V.int)) :: (b, .lst ds) :: (D, .dK kvs) :: cTab K p q fs) := O8.callE (e := [(pa, .lst (ns.map V.int))]) (.there (.there .all)) O3
      walk_at "s"
      intro r hr
      have O5 := O4.new (o := KO r D) hr
      obtain ⟨ks, hks, _⟩ := keys_intsN du.rng
      refine ⟨r, D, kvs, ks, rfl, O5.get (.head _), .inl (O5.get (.tail _ (.tail _ (.tail _ (.head _))))), hks, fun ys pb hp hs hpb => ?_⟩
      have O6 := O5.new (o := .lst (ys.map V.int)) hpb
      cases pages_due tc td du hks hp hs hn1 hn2
      walk_at "s"
      refine ask2 ⟨pa, pb, ns, rfl, rfl, O6.get (.tail _ (.tail _ (.head _))), O6.get (.head _), ?_⟩
      exact k _

end Ow
open PySem PySem.W PySem.Calls PyProof.Rows
set_option maxHeartbeats 0
set_option maxRecDepth 100000 in
theorem PySem.Challenge.cw_ownroom_k04_tables_deed_by_deed_holds : PySem.Challenge.rw_ownroom_k04_tables_deed_by_deed.Holds := by
  w_on; o_law
  refine HandSHeadRun.head_any (r := OpenLaw.row PySem.Challenge.rw_ownroom_k04_tables_deed_by_deed) (q := view (OpenLaw.row PySem.Challenge.rw_ownroom_k04_tables_deed_by_deed).prog [12]) (H := Ow.hk) (ob := Ow.ob) (M := 60000) (loose := Ow.loose) (d := HandSHeadRun.topDef (OpenLaw.row PySem.Challenge.rw_ownroom_k04_tables_deed_by_deed).prog 12) (kwd := []) Ow.ob_eq
    (by kernel_rfl) (fun s => by kernel_rfl) Ow.run (by kernel_rfl) (by kernel_rfl) (by kernel_rfl) (by rfl) (by first | assumption | decide +kernel) (by decide +kernel) ⟨rfl, rfl, rfl, rfl, rfl, by decide +kernel⟩ ?hw ?hc
  case hw => w_witness2
  case hc =>
    refine Ow.walk_end (l := PySem.Challenge.rw_ownroom_k04_tables_deed_by_deed) (n := 63) (k := 3) (x := "_law_script") rfl (by decide) (by kernel_rfl) ⟨rfl, by decide, by decide⟩ ?F
    intro w mg fa h Y G hmg0
    obtain ⟨K, KX, c⟩ := Y
    have hmg : mg ("law" : PySem.Str) = some (.ref fa) := by
      have e : (HandSHeadRun.topDef (OpenLaw.row PySem.Challenge.rw_ownroom_k04_tables_deed_by_deed).prog 12).name = ("law" : PySem.Str) := by kernel_rfl
      rw [← e]
      exact hmg0
    have T := Ow.txt_mk KX G c.t.d c.more
    have e := hmg.symm.trans T.g_law
    cases e
    obtain ⟨fd, F⟩ := T.d_law
    have b := L2.FunD.bindsA (ps := ["_law_script"]) F fun _ _ _ _ _ _ us hl => match us, hl with | [_], _ => rfl
    exact ⟨K, fd, Ow.bx (Ow.sp_law K), KX, fun s v => b s [v] rfl, fun H a ns hl hz hS => ⟨⟨_, rfl, Ow.law_in H a ns hl hz hS⟩⟩, fun base _ _ => Ow.ok_law T F⟩
