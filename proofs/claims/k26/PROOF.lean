import PyProof.Rows.All
import Wide.All
import OpenK.AllK
import Wide.FinOn
import HandS.ForMost
import HandS.ForExc
import HandS.More
import HandS.SortInts
import HandS.Conv
import HandS.Defaults
import HandS.IsInst
import HandS.ExcValue
import HandS.ExcIs
import HandS.Flow
import HandS.Codes
import HandS.TupLen
import HandS.StrMore
import HandS.SetFor
import HandS.Style
import HandS.DictTup
import HandS.ListItems
import HandS.TupAny
import HandS.Finally
import HandS.Wide
import HandS.Replace
import HandS.Zip
import HandS.Walk
import HandS.Head0
import HandS.Head1
import HandS.Head2
import HandS.HeadEnd
import HandS.HeadHook1
import HandS.HeadHook2
import HandS.HeadHook3
import HandS.HeadHook4
import HandS.EndBits
import PySem.Challenge.RW_ownroom_k26_disks_that_fall
set_option Elab.async false
set_option linter.all false
set_option maxRecDepth 100000
set_option pp.mvars false
set_option pp.deepTerms false
set_option pp.deepTerms.threshold 10
set_option pp.maxSteps 1500
set_option maxHeartbeats 4000000
namespace Ow
open PySem PySem.Spec PyProof.Rows L2
/-! ## My own layer: what a def owns (cells), a def that may be called, readings that stop at calls and loops -/
/-! ### cells -/
abbrev Cells := List (Addr × HO)
def adr (cs : Cells) : List Addr := cs.map Prod.fst
/-- from H0, of which the addresses A are ours, we have come to H; the cells cs stand there, each once; the rest of H0 is as it was, new cells were free in H0, tuples stay -/
structure Own (H0 H : Hp) (A : List Addr) (cs : Cells) : Prop where
  at_ : ∀ a o, (a, o) ∈ cs → H a = some o
  nd : (adr cs).Nodup
  fr : ∀ b o, H0 b = some o → b ∉ A → H b = some o
  nw : ∀ b, b ∈ adr cs → b ∈ A ∨ H0 b = none
  tp : ∀ b xs, H0 b = some (.tup xs) → H b = some (.tup xs)
theorem adr_cons {c : Addr × HO} {r : Cells} : adr (c :: r) = c.1 :: adr r := rfl
theorem adr_app {s r : Cells} : adr (s ++ r) = adr s ++ adr r := List.map_append
theorem Own.start {H : Hp} (h : ∀ b xs, H b = some (.tup xs) → H b = some (.tup xs) := fun _ _ h => h) : Own H H [] [] :=
  ⟨fun _ _ m => (nomatch m), List.nodup_nil, fun _ _ h _ => h, fun _ m => (nomatch m), h⟩
/-- where the cell of an address stands, and the row with another thing there -/
inductive At : Cells → Addr → HO → HO → Cells → Prop
  | here {a o o' r} : At ((a, o) :: r) a o o' ((a, o') :: r)
  | there {c r a o o' r'} : At r a o o' r' → At (c :: r) a o o' (c :: r')
  | app {s r a o o' r'} : At r a o o' r' → At (s ++ r) a o o' (s ++ r')
  | appl {s r a o o' s'} : At s a o o' s' → At (s ++ r) a o o' (s' ++ r)
theorem At.mem {cs cs' : Cells} {a : Addr} {o o' : HO} (h : At cs a o o' cs') : (a, o) ∈ cs := by
  induction h with
  | here => exact List.mem_cons_self
  | there _ ih => exact List.mem_cons_of_mem _ ih
  | app _ ih => exact List.mem_append_right _ ih
  | appl _ ih => exact List.mem_append_left _ ih
theorem At.adr {cs cs' : Cells} {a : Addr} {o o' : HO} (h : At cs a o o' cs') : adr cs' = adr cs := by
  induction h with
  | here => rfl
  | there _ ih => rw [adr_cons, adr_cons, ih]
  | app _ ih => rw [adr_app, adr_app, ih]
  | appl _ ih => rw [adr_app, adr_app, ih]
theorem At.of {cs cs' : Cells} {a : Addr} {o o' : HO} (h : At cs a o o' cs') (nd : (Ow.adr cs).Nodup) : ∀ b u, (b, u) ∈ cs' → (b = a ∧ u = o') ∨ (b ≠ a ∧ (b, u) ∈ cs) := by
  induction h with
  | here =>
    intro b u m
    rcases List.mem_cons.mp m with e | m2
    · cases e; exact .inl ⟨rfl, rfl⟩
    · refine .inr ⟨fun e => ?_, List.mem_cons_of_mem _ m2⟩
      subst e
      exact (List.nodup_cons.mp nd).1 (List.mem_map.mpr ⟨_, m2, rfl⟩)
  | @there c r a o o' r' h ih =>
    intro b u m
    obtain ⟨n1, n2⟩ := List.nodup_cons.mp nd
    rcases List.mem_cons.mp m with e | m
    · subst e
      refine .inr ⟨fun e => ?_, List.mem_cons_self⟩
      exact n1 (List.mem_map.mpr ⟨_, h.mem, e.symm⟩)
    · rcases ih n2 b u m with z | ⟨z1, z2⟩
      · exact .inl z
      · exact .inr ⟨z1, List.mem_cons_of_mem _ z2⟩
  | @app s r a o o' r' h ih =>
    intro b u m
    rw [adr_app] at nd
    obtain ⟨n1, n2, n3⟩ := List.nodup_append.mp nd
    rcases List.mem_append.mp m with m | m
    · refine .inr ⟨fun e => ?_, List.mem_append_left _ m⟩
      subst e
      exact n3 _ (List.mem_map.mpr ⟨_, m, rfl⟩) _ (List.mem_map.mpr ⟨_, h.mem, rfl⟩) rfl
    · rcases ih n2 b u m with z | ⟨z1, z2⟩
      · exact .inl z
      · exact .inr ⟨z1, List.mem_append_right _ z2⟩
  | @appl s r a o o' s' h ih =>
    intro b u m
    rw [adr_app] at nd
    obtain ⟨n1, n2, n3⟩ := List.nodup_append.mp nd
    rcases List.mem_append.mp m with m | m
    · rcases ih n1 b u m with z | ⟨z1, z2⟩
      · exact .inl z
      · exact .inr ⟨z1, List.mem_append_left _ z2⟩
    · refine .inr ⟨fun e => ?_, List.mem_append_right _ m⟩
      subst e
      exact n3 _ (List.mem_map.mpr ⟨_, h.mem, rfl⟩) _ (List.mem_map.mpr ⟨_, m, rfl⟩) rfl
def isTup : HO → Bool
  | .tup _ => true
  | _ => false
/-- a block of cells within, and the row with another block in its place -/
inductive Sub : Cells → Cells → Cells → Cells → Prop
  | all {s s'} : Sub s s s' s'
  | here {s s' r} : Sub (s ++ r) s s' (s' ++ r)
  | one {c s' r} : Sub (c :: r) [c] s' (s' ++ r)
  | two {c d s' r} : Sub (c :: d :: r) [c, d] s' (s' ++ r)
  | nil {r s'} : Sub r [] s' (s' ++ r)
  | there {c r s s' r'} : Sub r s s' r' → Sub (c :: r) s s' (c :: r')
  | app {t r s s' r'} : Sub r s s' r' → Sub (t ++ r) s s' (t ++ r')
  | appl {t r s s' t'} : Sub t s s' t' → Sub (t ++ r) s s' (t' ++ r)
theorem Sub.split {cs s s' cs' : Cells} (h : Sub cs s s' cs') : ∃ l r, cs = l ++ (s ++ r) ∧ cs' = l ++ (s' ++ r) := by
  induction h with
  | all => exact ⟨[], [], by simp, by simp⟩
  | here => exact ⟨[], _, rfl, rfl⟩
  | one => exact ⟨[], _, rfl, rfl⟩
  | two => exact ⟨[], _, rfl, rfl⟩
  | nil => exact ⟨[], _, rfl, rfl⟩
  | @there c r s s' r' _ ih =>
    obtain ⟨l, t, e1, e2⟩ := ih
    exact ⟨c :: l, t, by rw [e1]; rfl, by rw [e2]; rfl⟩
  | @app t r s s' r' _ ih =>
    obtain ⟨l, q, e1, e2⟩ := ih
    exact ⟨t ++ l, q, by rw [e1, List.append_assoc], by rw [e2, List.append_assoc]⟩
  | @appl t r s s' t' _ ih =>
    obtain ⟨l, q, e1, e2⟩ := ih
    exact ⟨l, q ++ r, by rw [e1]; simp only [List.append_assoc], by rw [e2]; simp only [List.append_assoc]⟩
section
variable {H0 H H' : Hp} {A : List Addr} {cs cs' s s' : Cells} {a p : Addr} {o o' : HO}
theorem Own.get (O : Own H0 H A cs) (m : (a, o) ∈ cs) : H a = some o := O.at_ a o m
theorem Own.tup {t : Addr} {xs : List V} (O : Own H0 H A cs) (h : H0 t = some (.tup xs)) : H t = some (.tup xs) := O.tp t xs h
/-- a cell is written -/
theorem Own.wr (O : Own H0 H A cs) (h : At cs a o o' cs') (n : isTup o = false := by rfl) : Own H0 (upd H a o') A cs' := by
  have ha := O.at_ a o h.mem
  refine ⟨fun b u m => ?_, by rw [h.adr]; exact O.nd, fun b u e hb => ?_, fun b m => O.nw b (by rw [← h.adr]; exact m), fun b xs e => ?_⟩
  · rcases h.of O.nd b u m with ⟨rfl, rfl⟩ | ⟨e, m⟩
    · exact upd_same
    · rw [upd_ne e]; exact O.at_ b u m
  · rw [upd_ne]
    · exact O.fr b u e hb
    · rintro rfl
      rcases O.nw b (List.mem_map.mpr ⟨_, h.mem, rfl⟩) with z | z
      · exact hb z
      · rw [z] at e; cases e
  · have e1 := O.tp b xs e
    rw [upd_ne]
    · exact e1
    · rintro rfl
      rw [e1] at ha
      cases ha
      cases n
/-- a new cell -/
theorem Own.new (O : Own H0 H A cs) (h : H p = none) : Own H0 (upd H p o) A ((p, o) :: cs) := by
  have hn : p ∉ adr cs := fun m => by
    obtain ⟨c, hc, e⟩ := List.mem_map.mp m
    have := O.at_ c.1 c.2 hc
    rw [e, h] at this
    cases this
  have ne : ∀ b u, H b = some u → b ≠ p := fun b u e z => by rw [z, h] at e; cases e
  by_cases hA : p ∈ A
  · refine ⟨fun b u m => ?_, List.nodup_cons.mpr ⟨hn, O.nd⟩, fun b u e hb => ?_, fun b m => ?_, fun b xs e => ?_⟩
    · rcases List.mem_cons.mp m with z | z
      · cases z; exact upd_same
      · rw [upd_ne (ne b u (O.at_ b u z))]; exact O.at_ b u z
    · rw [upd_ne (ne b u (O.fr b u e hb))]; exact O.fr b u e hb
    · rcases List.mem_cons.mp m with z | z
      · exact .inl (by rw [z]; exact hA)
      · exact O.nw b z
    · rw [upd_ne (ne b _ (O.tp b xs e))]; exact O.tp b xs e
  · have h0 : H0 p = none := by
      cases q : H0 p with
      | none => rfl
      | some u =>
        rw [O.fr p u q hA] at h
        cases h
    refine ⟨fun b u m => ?_, List.nodup_cons.mpr ⟨hn, O.nd⟩, fun b u e hb => ?_, fun b m => ?_, fun b xs e => ?_⟩
    · rcases List.mem_cons.mp m with z | z
      · cases z; exact upd_same
      · rw [upd_ne (ne b u (O.at_ b u z))]; exact O.at_ b u z
    · rw [upd_ne (ne b u (O.fr b u e hb))]; exact O.fr b u e hb
    · rcases List.mem_cons.mp m with z | z
      · exact .inr (by rw [z]; exact h0)
      · exact O.nw b z
    · rw [upd_ne (ne b _ (O.tp b xs e))]; exact O.tp b xs e
/-- a new tuple: it needs no owner -/
theorem Own.newT (O : Own H0 H A cs) (h : H p = none) : Own H0 (upd H p o) A cs :=
  have O' := O.new (o := o) h
  ⟨fun b u m => O'.at_ b u (List.mem_cons_of_mem _ m), O.nd, O'.fr, O.nw, O'.tp⟩
/-- fewer cells -/
theorem Own.drop (O : Own H0 H A cs) (h : List.Sublist cs' cs) : Own H0 H A cs' :=
  ⟨fun b u m => O.at_ b u (h.subset m), O.nd.sublist (h.map _), O.fr, fun b m => O.nw b ((h.map _).subset m), O.tp⟩
theorem Own.perm (O : Own H0 H A cs) (h : cs.Perm cs') : Own H0 H A cs' :=
  ⟨fun b u m => O.at_ b u (h.mem_iff.mpr m), (h.map _).nodup_iff.mp O.nd, O.fr, fun b m => O.nw b ((h.map _).mem_iff.mpr m), O.tp⟩
/-- a block of it, as what a callee is handed -/
theorem Own.blk (O : Own H0 H A cs) (h : Sub cs s s' cs') : Own H H (adr s) s := by
  obtain ⟨l, r, rfl, _⟩ := h.split
  have nd := O.nd
  rw [adr_app, adr_app] at nd
  exact ⟨fun b u m => O.at_ b u (List.mem_append_right _ (List.mem_append_left _ m)), (List.nodup_append.mp (List.nodup_append.mp nd).2.1).1, fun _ _ e _ => e, fun _ m => .inl m, fun _ _ e => e⟩
/-- behind the call -/
theorem Own.call (O : Own H0 H A cs) (h : Sub cs s s' cs') (C : Own H H' (adr s) s') : Own H0 H' A cs' := by
  obtain ⟨l, r, rfl, rfl⟩ := h.split
  have nd := O.nd
  simp only [adr_app] at nd
  obtain ⟨n1, n2, n3⟩ := List.nodup_append.mp nd
  obtain ⟨n4, n5, n6⟩ := List.nodup_append.mp n2
  have out : ∀ b u, ((b, u) ∈ l ∨ (b, u) ∈ r) → H' b = some u := fun b u m => by
    have hb : b ∉ adr s := fun z => by
      rcases m with m | m
      · exact n3 b (List.mem_map.mpr ⟨_, m, rfl⟩) b (List.mem_append_left _ z) rfl
      · exact n6 b z b (List.mem_map.mpr ⟨_, m, rfl⟩) rfl
    refine C.fr b u (O.at_ b u ?_) hb
    rcases m with m | m
    · exact List.mem_append_left _ m
    · exact List.mem_append_right _ (List.mem_append_right _ m)
  have sep : ∀ b, b ∈ adr s' → (b ∈ adr l ∨ b ∈ adr r) → False := fun b m z => by
    obtain ⟨u, hu⟩ : ∃ u, ((b, u) ∈ l ∨ (b, u) ∈ r) := by
      rcases z with z | z
      · obtain ⟨c, hc, e⟩ := List.mem_map.mp z
        exact ⟨c.2, .inl (by rw [← e]; exact hc)⟩
      · obtain ⟨c, hc, e⟩ := List.mem_map.mp z
        exact ⟨c.2, .inr (by rw [← e]; exact hc)⟩
    rcases C.nw b m with q | q
    · rcases z with z | z
      · exact n3 b z b (List.mem_append_left _ q) rfl
      · exact n6 b q b z rfl
    · have e : H b = some u := O.at_ b u (by
        rcases hu with m | m
        · exact List.mem_append_left _ m
        · exact List.mem_append_right _ (List.mem_append_right _ m))
      rw [q] at e
      cases e
  refine ⟨fun b u m => ?_, ?_, fun b u e hb => ?_, fun b m => ?_, fun b xs e => C.tp b xs (O.tp b xs e)⟩
  · rcases List.mem_append.mp m with m | m
    · exact out b u (.inl m)
    · rcases List.mem_append.mp m with m | m
      · exact C.at_ b u m
      · exact out b u (.inr m)
  · simp only [adr_app]
    refine List.nodup_append.mpr ⟨n1, List.nodup_append.mpr ⟨C.nd, n5, fun x hx y hy e => ?_⟩, fun x hx y hy e => ?_⟩
    · subst e
      exact sep x hx (.inr hy)
    · subst e
      rcases List.mem_append.mp hy with z | z
      · exact sep x z (.inl hx)
      · exact n3 x hx x (List.mem_append_right _ z) rfl
  · refine C.fr b u (O.fr b u e hb) fun z => ?_
    rcases O.nw b (by simp only [adr_app]; exact List.mem_append_right _ (List.mem_append_left _ z)) with q | q
    · exact hb q
    · rw [q] at e
      cases e
  · simp only [adr_app] at m
    rcases List.mem_append.mp m with m | m
    · exact O.nw b (by simp only [adr_app]; exact List.mem_append_left _ m)
    · rcases List.mem_append.mp m with m | m
      · rcases C.nw b m with z | z
        · exact O.nw b (by simp only [adr_app]; exact List.mem_append_right _ (List.mem_append_left _ z))
        · by_cases hA : b ∈ A
          · exact .inl hA
          · refine .inr ?_
            cases q : H0 b with
            | none => rfl
            | some u =>
              rw [O.fr b u q hA] at z
              cases z
      · exact O.nw b (by simp only [adr_app]; exact List.mem_append_right _ (List.mem_append_right _ m))
end
end Ow
namespace Ow
open PySem PySem.Spec PyProof.Rows L2
/-! ### where a walk stops -/
structure Box (p : Prop) : Prop where
  out : p
theorem PE.box {X : Cx} {e : Expr} {t : TE} (h : PE X e t) : PE X e (fun σ H Q => t σ H fun v H1 => Box (Q v H1)) :=
  ⟨fun pins s σ H Q I q => thn (h.run pins s σ H _ I q) fun _ _ ⟨x, H1, I1, r1, q1⟩ => ⟨x, H1, I1, r1, q1.out⟩⟩
theorem PA.box {X : Cx} {es : List Expr} {t : TA} (h : PA X es t) : PA X es (fun σ H Q => t σ H fun v H1 => Box (Q v H1)) :=
  ⟨fun pos pins s σ H Q I q => thn (h.run pos pins s σ H _ I q) fun _ _ ⟨x, H1, I1, r1, q1⟩ => ⟨x, H1, I1, r1, q1.out⟩⟩
theorem PI.box {X : Cx} {tg e : Expr} {w : TI} (h : PI X tg e w) : PI X tg e (fun σ H R => w σ H fun J H1 => Box (R J H1)) :=
  ⟨fun pins s σ H R I q => thn (h.run pins s σ H _ I q) fun _ _ h1 => thn h1 fun _ _ ⟨it, fp, tn, J, H', e, I', T, t0, f, r⟩ => ⟨it, fp, tn, J, H', e, I', T, t0, f, r.out⟩⟩
/-- a reading as it stands, not reckoned out -/
def tW (t : TS) : TS := t
theorem PS.box {X : Cx} {st : Stmt} {t : TS} (h : PS X st t) : PS X st (fun D σ H => Box (tW t D σ H)) :=
  ⟨fun pins s σ H D I q => h.run pins s σ H D I q.out⟩
theorem PE.alt {X : Cx} {e : Expr} {t u : TE} (h : PE X e t) (h' : PE X e u) : PE X e (fun σ H Q => t σ H Q ∨ u σ H Q) :=
  ⟨fun pins s σ H Q I q => q.elim (h.run pins s σ H Q I) (h'.run pins s σ H Q I)⟩
/-- a promise that a walk stops at -/
def bx (sp : Sp) : Sp := fun vs H Q E => Box (sp vs H Q E)
/-- of a def that nobody calls: nothing may be asked -/
def spWall : Sp := fun _ _ _ _ => False
/-- a def that may be called: it keeps its promise -/
structure Cee (P : Program) (w : World) (K : PySem.W.Frag) (mg : Str → Option Value) (base : Heap) (k : Nat) (f : Addr) (ps : List Str) (sp : Sp) : Prop where
  kp : PySem.W.keepIn K (.ref f) = true
  fn : ∃ fd, FnOk P w K mg base (L2.CX P w) k f fd ps (bx sp) ∧ Binds K fd ps []
section
variable {P : Program} {w : World} {K : PySem.W.Frag} {mg : Str → Option Value} {base : Heap}
theorem cee_of {x qual : Str} {params : Arguments} {body : List Stmt} {scope : Scope} {f : Addr} {N ps : List Str} {k : Nat} {sp : Sp} (F : ∃ fd, FunD K x qual params body scope [] [] f fd) (S : FnScope N ps scope)
    (hb : ∀ (kV doc pm : Value) (an : Option Addr) (cdv ct : Value) (us : List Value), us.length = ps.length → bindArgs (PySem.W.fnOf x qual params body scope .none kV doc pm an cdv ct) ⟨us, []⟩ = pure (ps.zip us))
    (len : ∀ vs H Q E, sp vs H Q E → vs.length = ps.length)
    (hbody : ∀ (cdv : Value) (A : Around) (outer : List Env) (s : Shared) (H : Hp) (vs : List V) (Q : VK) (E : XK), Room k (A.deeper (envOfC qual scope s.heap.objs.size f cdv)) → sp vs H Q E →
      ∃ t, PSs (cxOf (L2.CX P w) P w K mg base N qual scope f cdv A outer s H E) body t ∧ t { nx := fun _ H' => Q .non H', rt := Q } (start N vs) H) : Cee P w K mg base (k + 1) f ps sp := by
  obtain ⟨fd, F⟩ := F
  exact ⟨F.kp, fd, FunD.ok F S (fun vs H Q E h => len vs H Q E h.out) (fun cdv A outer s H vs Q E hr h => hbody cdv A outer s H vs Q E hr h.out), F.bindsN hb⟩
end
section
variable {X : Cx} {k : Nat} {f C : Addr} {ps : List Str} {sp : Sp} {W : WX} {x m : Str} {p pos apos : Pos} {e o : Expr} {es : List Expr} {ta : TE} {t : TA}
theorem pe_f (c : Cee X.prog X.w X.K X.mg X.base k f ps sp) (hr : Room k X.A) (tk : Takes X W) (hg : Gl X x) (hm : X.mg x = some (.ref f)) (ha : PA X (e :: es) t) (hdb : (x == ("__debug__" : Str)) = false := by decide)
    (he : starEach (e :: es) X.env = (false, eval e X.env) :: starEach es X.env := by rfl) (hpl : (backTo pos (starEach es X.env)).any (·.1) = false := by rfl) :
    PE X (.Call (.Name x p) (e :: es) [] pos) (tCallS (bx sp) (WE W) t) := by
  obtain ⟨fd, F, b⟩ := c.fn
  exact pe_callS F hr hg hm c.kp b (fun σ => passAt tk σ) ha hdb he hpl
theorem pe_f0 (c : Cee X.prog X.w X.K X.mg X.base k f ps sp) (hr : Room k X.A) (tk : Takes X W) (hg : Gl X x) (hm : X.mg x = some (.ref f)) (hdb : (x == ("__debug__" : Str)) = false := by decide) :
    PE X (.Call (.Name x p) [] [] pos) (fun σ H Q => bx sp [] H Q (WE W σ)) := by
  obtain ⟨fd, F, b⟩ := c.fn
  refine ⟨fun pins s σ H Q I h => ?_⟩
  refine wpAny_Call_Name_kw (ld_glob I hg hm ?_ hdb)
  exact PySem.W.callWith_K0 I.kIn c.kp (run_fnS (us := []) (E := WE W) F hr b (passAt tk σ) I .nil h)
/-- o.m(e, ..) -/
def tM (C : Addr) (m : Str) (sp : Sp) (W : WX) (ta : TE) (t : TA) : TE := fun σ H Q => ta σ H fun x H1 => ∃ a dx fs, x = .ref a ∧ H1 a = some (.ins C dx fs) ∧ fs.lookup m = none ∧ t σ H1 fun vs H2 => bx sp (x :: vs) H2 Q (WE W σ)
theorem pe_m {pl : Sem Bool} (ho : PE X o ta) (cl : Cls X.K C) (hm : Meth X.K C m f) (c : Cee X.prog X.w X.K X.mg X.base k f ps sp) (hr : Room k X.A) (tk : Takes X W) (ha : PA X (e :: es) t)
    (hst : starEach (e :: es) X.env = (false, eval e X.env) :: starEach es X.env := by rfl) (hpl : (backTo pos (starEach es X.env)).any (·.1) = false := by rfl)
    (ht : eval (.Call (.Attribute o m apos) (e :: es) [] pos) X.env = (do
      let ov ← eval o X.env
      standAt apos.atName
      let (f, first) ← holding [ov] (getMethod ov m pl)
      callWith pos f first (backTo pos (starEach (e :: es) X.env)) (backToKw pos (keywordEach [] X.env))) := by rfl) :
    PE X (.Call (.Attribute o m apos) (e :: es) [] pos) (tM C m sp W ta t) := by
  obtain ⟨fd, F, b⟩ := c.fn
  refine ⟨fun pins s σ H Q I h => ?_⟩
  refine PySem.W.methodCall_KW (pl := pl) (thn (ho.run pins s σ H _ I h) fun u s1 ⟨y, H1, I1, ry, a, dx, fs, ey, ea, l, q⟩ => ?_) ht
  subst ey
  obtain rfl : u = Value.ref a := ry
  refine getmeth_ok I1 ea cl hm l ?_
  refine PySem.W.callWith_K (first := [.ref a]) (h₀ := X.base) I.ok.mod.kin hm.kp (thn (ha.run pos pins s1 σ H1 _ I1 q) fun us s2 ⟨vs, H2, I2, rv, q2⟩ => ⟨I2.kIn, ?_⟩) hst hpl
  exact run_fnS (us := .ref a :: us) (vs := .ref a :: vs) (E := WE W) F hr b (passAt tk σ) I2 (.cons rfl rv) q2
def tM0 (C : Addr) (m : Str) (sp : Sp) (W : WX) (ta : TE) : TE := fun σ H Q => ta σ H fun x H1 => ∃ a dx fs, x = .ref a ∧ H1 a = some (.ins C dx fs) ∧ fs.lookup m = none ∧ bx sp [x] H1 Q (WE W σ)
theorem pe_m0 {pl : Sem Bool} (ho : PE X o ta) (cl : Cls X.K C) (hm : Meth X.K C m f) (c : Cee X.prog X.w X.K X.mg X.base k f ps sp) (hr : Room k X.A) (tk : Takes X W)
    (ht : eval (.Call (.Attribute o m apos) [] [] pos) X.env = (do
      let ov ← eval o X.env
      standAt apos.atName
      let (f, first) ← holding [ov] (getMethod ov m pl)
      callWith pos f first (backTo pos (starEach [] X.env)) (backToKw pos (keywordEach [] X.env))) := by rfl) :
    PE X (.Call (.Attribute o m apos) [] [] pos) (tM0 C m sp W ta) := by
  obtain ⟨fd, F, b⟩ := c.fn
  refine ⟨fun pins s σ H Q I h => ?_⟩
  refine PySem.W.methodCall_KW (pl := pl) (thn (ho.run pins s σ H _ I h) fun u s1 ⟨y, H1, I1, ry, a, dx, fs, ey, ea, l, q⟩ => ?_) ht
  subst ey
  obtain rfl : u = Value.ref a := ry
  refine getmeth_ok I1 ea cl hm l ?_
  exact PySem.W.callWith_K0 (first := [.ref a]) I1.kIn hm.kp (run_fnS (us := [.ref a]) (vs := [.ref a]) (E := WE W) F hr b (passAt tk σ) I1 (.cons rfl .nil) q)
/-- C(e, ..): its __init__ lets nothing out -/
theorem pe_n (M : Mk X.K C f) (c : Cee X.prog X.w X.K X.mg X.base k f ps sp) (hr : Room (k + 1) X.A) (hg : Gl X x) (hm : X.mg x = some (.ref C)) (ha : PA X (e :: es) t) (hdb : (x == ("__debug__" : Str)) = false := by decide)
    (he : starEach (e :: es) X.env = (false, eval e X.env) :: starEach es X.env := by rfl) (hpl : (backTo pos (starEach es X.env)).any (·.1) = false := by rfl) :
    PE X (.Call (.Name x p) (e :: es) [] pos) (tMake C (bx sp) [] E0 t) := by
  obtain ⟨fd, F, b⟩ := c.fn
  exact pe_make M F hr hg hm b .nil passL ha hdb he hpl
theorem pe_n0 (M : Mk X.K C f) (c : Cee X.prog X.w X.K X.mg X.base k f ps sp) (hr : Room (k + 1) X.A) (hg : Gl X x) (hm : X.mg x = some (.ref C)) (hdb : (x == ("__debug__" : Str)) = false := by decide) :
    PE X (.Call (.Name x p) [] [] pos) (tMake C (bx sp) [] E0 tNil) := by
  obtain ⟨fd, F, b⟩ := c.fn
  exact pe_make0 M F hr hg hm b .nil passL hdb
end
/-! ### what a closer knows -/
theorem sl_of {σ : List (Option V)} {i : Nat} {v : V} (h : σ[i]? = some (some v)) : σ[i]? = some (some v) := h
theorem veq_of {x y : V} (h : x = y) : x = y := h
theorem lsq_of {x y : List V} (h : x = y) : x = y := h
theorem sc_of {x y : V} (h : scal x y = true) : scal x y = true := h
theorem lk_of {fs : List (Str × V)} {f : Str} {v : V} (h : fs.lookup f = some v) : fs.lookup f = some v := h
theorem lkn_of {fs : List (Str × V)} {f : Str} (h : fs.lookup f = none) : fs.lookup f = none := h
theorem lt_of {fs : List (Str × V)} (h : fs.length < 1000) : fs.length < 1000 := h
theorem hp_of {H : Hp} {a : Addr} {o : HO} (h : H a = some o) : H a = some o := h
theorem cd_of {i j : Int} (h : 0 < j ∧ j < 1073741824) : CDiv i j := h
theorem cm_l {i j : Int} (h : -(2 ^ 64) < i ∧ i < 2 ^ 64) : CMul i j := .inl h
theorem cm_r {i j : Int} (h : -(2 ^ 64) < j ∧ j < 2 ^ 64) : CMul i j := .inr h
theorem sz_le {n : Nat} (h : n ≤ 100000) : n ≤ sizeLine := Nat.le_trans h (by decide)
theorem sz_lt {n : Nat} (h : n < 100000) : n < sizeLine := Nat.lt_of_lt_of_le h (by decide)
/-! ### tests -/
theorem if_d {p A B : Prop} [Decidable p] (h1 : p → A) (h2 : ¬ p → B) : if decide p = true then A else B := by
  by_cases h : p
  · rw [if_pos (decide_eq_true h)]; exact h1 h
  · rw [if_neg (by rw [decide_eq_false h]; exact Bool.false_ne_true)]; exact h2 h
theorem if_nd {p A B : Prop} [Decidable p] (h1 : ¬ p → A) (h2 : p → B) : if (!decide p) = true then A else B := by
  by_cases h : p
  · rw [decide_eq_true h, if_neg (by decide)]; exact h2 h
  · rw [decide_eq_false h, if_pos (by decide)]; exact h1 h
theorem if_ii {a b : Int} {A B : Prop} (h1 : a = b → A) (h2 : ¬ a = b → B) : if decide (V.int a = V.int b) = true then A else B :=
  if_d (fun h => h1 (V.int.inj h)) fun h => h2 fun e => h (by rw [e])
theorem if_nii {a b : Int} {A B : Prop} (h1 : ¬ a = b → A) (h2 : a = b → B) : if (!decide (V.int a = V.int b)) = true then A else B :=
  if_nd (fun h => h1 fun e => h (by rw [e])) fun h => h2 (V.int.inj h)
theorem if_ss {a b : Str} {A B : Prop} (h1 : a = b → A) (h2 : ¬ a = b → B) : if decide (V.str a = V.str b) = true then A else B :=
  if_d (fun h => h1 (V.str.inj h)) fun h => h2 fun e => h (by rw [e])
theorem if_nss {a b : Str} {A B : Prop} (h1 : ¬ a = b → A) (h2 : a = b → B) : if (!decide (V.str a = V.str b)) = true then A else B :=
  if_nd (fun h => h1 fun e => h (by rw [e])) fun h => h2 (V.str.inj h)
theorem if_b {b : Bool} {A B : Prop} (h1 : b = true → A) (h2 : b = false → B) : if b = true then A else B := by
  cases b with
  | true => exact h1 rfl
  | false => exact h2 rfl
theorem if_nb {b : Bool} {A B : Prop} (h1 : b = false → A) (h2 : b = true → B) : if (!b) = true then A else B := by
  cases b with
  | true => exact h2 rfl
  | false => exact h1 rfl
theorem kt_int_int {K : PySem.W.Frag} : PySem.W.kitOne K (.type "int") (.type "int") = some true := kit_ty (by decide +kernel)
theorem kt_int_bool {K : PySem.W.Frag} : PySem.W.kitOne K (.type "int") (.type "bool") = some false := kit_ty (by decide +kernel)
theorem kt_int_str {K : PySem.W.Frag} : PySem.W.kitOne K (.type "int") (.type "str") = some false := kit_ty (by decide +kernel)
theorem kt_int_list {K : PySem.W.Frag} : PySem.W.kitOne K (.type "int") (.type "list") = some false := kit_ty (by decide +kernel)
theorem kt_int_tuple {K : PySem.W.Frag} : PySem.W.kitOne K (.type "int") (.type "tuple") = some false := kit_ty (by decide +kernel)
theorem kt_int_dict {K : PySem.W.Frag} : PySem.W.kitOne K (.type "int") (.type "dict") = some false := kit_ty (by decide +kernel)
theorem kt_bool_int {K : PySem.W.Frag} : PySem.W.kitOne K (.type "bool") (.type "int") = some true := kit_ty (by decide +kernel)
theorem kt_bool_bool {K : PySem.W.Frag} : PySem.W.kitOne K (.type "bool") (.type "bool") = some true := kit_ty (by decide +kernel)
theorem kt_bool_str {K : PySem.W.Frag} : PySem.W.kitOne K (.type "bool") (.type "str") = some false := kit_ty (by decide +kernel)
theorem kt_bool_list {K : PySem.W.Frag} : PySem.W.kitOne K (.type "bool") (.type "list") = some false := kit_ty (by decide +kernel)
theorem kt_bool_tuple {K : PySem.W.Frag} : PySem.W.kitOne K (.type "bool") (.type "tuple") = some false := kit_ty (by decide +kernel)
theorem kt_bool_dict {K : PySem.W.Frag} : PySem.W.kitOne K (.type "bool") (.type "dict") = some false := kit_ty (by decide +kernel)
theorem kt_str_int {K : PySem.W.Frag} : PySem.W.kitOne K (.type "str") (.type "int") = some false := kit_ty (by decide +kernel)
theorem kt_str_bool {K : PySem.W.Frag} : PySem.W.kitOne K (.type "str") (.type "bool") = some false := kit_ty (by decide +kernel)
theorem kt_str_str {K : PySem.W.Frag} : PySem.W.kitOne K (.type "str") (.type "str") = some true := kit_ty (by decide +kernel)
theorem kt_str_list {K : PySem.W.Frag} : PySem.W.kitOne K (.type "str") (.type "list") = some false := kit_ty (by decide +kernel)
theorem kt_str_tuple {K : PySem.W.Frag} : PySem.W.kitOne K (.type "str") (.type "tuple") = some false := kit_ty (by decide +kernel)
theorem kt_str_dict {K : PySem.W.Frag} : PySem.W.kitOne K (.type "str") (.type "dict") = some false := kit_ty (by decide +kernel)
theorem kt_list_int {K : PySem.W.Frag} : PySem.W.kitOne K (.type "list") (.type "int") = some false := kit_ty (by decide +kernel)
theorem kt_list_bool {K : PySem.W.Frag} : PySem.W.kitOne K (.type "list") (.type "bool") = some false := kit_ty (by decide +kernel)
theorem kt_list_str {K : PySem.W.Frag} : PySem.W.kitOne K (.type "list") (.type "str") = some false := kit_ty (by decide +kernel)
theorem kt_list_list {K : PySem.W.Frag} : PySem.W.kitOne K (.type "list") (.type "list") = some true := kit_ty (by decide +kernel)
theorem kt_list_tuple {K : PySem.W.Frag} : PySem.W.kitOne K (.type "list") (.type "tuple") = some false := kit_ty (by decide +kernel)
theorem kt_list_dict {K : PySem.W.Frag} : PySem.W.kitOne K (.type "list") (.type "dict") = some false := kit_ty (by decide +kernel)
theorem kt_tuple_int {K : PySem.W.Frag} : PySem.W.kitOne K (.type "tuple") (.type "int") = some false := kit_ty (by decide +kernel)
theorem kt_tuple_bool {K : PySem.W.Frag} : PySem.W.kitOne K (.type "tuple") (.type "bool") = some false := kit_ty (by decide +kernel)
theorem kt_tuple_str {K : PySem.W.Frag} : PySem.W.kitOne K (.type "tuple") (.type "str") = some false := kit_ty (by decide +kernel)
theorem kt_tuple_list {K : PySem.W.Frag} : PySem.W.kitOne K (.type "tuple") (.type "list") = some false := kit_ty (by decide +kernel)
theorem kt_tuple_tuple {K : PySem.W.Frag} : PySem.W.kitOne K (.type "tuple") (.type "tuple") = some true := kit_ty (by decide +kernel)
theorem kt_tuple_dict {K : PySem.W.Frag} : PySem.W.kitOne K (.type "tuple") (.type "dict") = some false := kit_ty (by decide +kernel)
theorem kt_dict_int {K : PySem.W.Frag} : PySem.W.kitOne K (.type "dict") (.type "int") = some false := kit_ty (by decide +kernel)
theorem kt_dict_bool {K : PySem.W.Frag} : PySem.W.kitOne K (.type "dict") (.type "bool") = some false := kit_ty (by decide +kernel)
theorem kt_dict_str {K : PySem.W.Frag} : PySem.W.kitOne K (.type "dict") (.type "str") = some false := kit_ty (by decide +kernel)
theorem kt_dict_list {K : PySem.W.Frag} : PySem.W.kitOne K (.type "dict") (.type "list") = some false := kit_ty (by decide +kernel)
theorem kt_dict_tuple {K : PySem.W.Frag} : PySem.W.kitOne K (.type "dict") (.type "tuple") = some false := kit_ty (by decide +kernel)
theorem kt_dict_dict {K : PySem.W.Frag} : PySem.W.kitOne K (.type "dict") (.type "dict") = some true := kit_ty (by decide +kernel)
theorem kt_NoneType_int {K : PySem.W.Frag} : PySem.W.kitOne K (.type "NoneType") (.type "int") = some false := kit_ty (by decide +kernel)
theorem kt_NoneType_bool {K : PySem.W.Frag} : PySem.W.kitOne K (.type "NoneType") (.type "bool") = some false := kit_ty (by decide +kernel)
theorem kt_NoneType_str {K : PySem.W.Frag} : PySem.W.kitOne K (.type "NoneType") (.type "str") = some false := kit_ty (by decide +kernel)
theorem kt_NoneType_list {K : PySem.W.Frag} : PySem.W.kitOne K (.type "NoneType") (.type "list") = some false := kit_ty (by decide +kernel)
theorem kt_NoneType_tuple {K : PySem.W.Frag} : PySem.W.kitOne K (.type "NoneType") (.type "tuple") = some false := kit_ty (by decide +kernel)
theorem kt_NoneType_dict {K : PySem.W.Frag} : PySem.W.kitOne K (.type "NoneType") (.type "dict") = some false := kit_ty (by decide +kernel)
end Ow
namespace Ow
open PySem PySem.Spec PyProof.Rows L2
def XcIn (K : PySem.W.Frag) (C : Addr) : Prop := PySem.W.excIn K C He.veBase "ValueError.__new__" = true ∧ PySem.W.keepIn K (.ref C) = true ∧ PySem.W.subIn K (.ref C) (.type "BaseException") = some true ∧ PySem.W.typeIn K (.ref C) = some (.type "type")
theorem gI {mg : Str → Option Value} {x : Str} {i : Int} (h : ∃ t, mg x = some (.int i t)) : ∃ u, mg x = some u ∧ RelV (.int i) u := let ⟨t, e⟩ := h; ⟨_, e, t, rfl⟩
theorem gS {mg : Str → Option Value} {x z : Str} (h : ∃ t, mg x = some (.str z t)) : ∃ u, mg x = some u ∧ RelV (.str z) u := let ⟨t, e⟩ := h; ⟨_, e, t, rfl⟩
/-! ### promises by the number of arguments -/
def sp0 (f : Hp → VK → XK → Prop) : Sp := fun vs H Q E => vs = [] ∧ f H Q E
def sp1 (f : V → Hp → VK → XK → Prop) : Sp := fun vs H Q E => ∃ a, vs = [a] ∧ f a H Q E
def sp2 (f : V → V → Hp → VK → XK → Prop) : Sp := fun vs H Q E => ∃ a b, vs = [a, b] ∧ f a b H Q E
def sp3 (f : V → V → V → Hp → VK → XK → Prop) : Sp := fun vs H Q E => ∃ a b c, vs = [a, b, c] ∧ f a b c H Q E
def sp4 (f : V → V → V → V → Hp → VK → XK → Prop) : Sp := fun vs H Q E => ∃ a b c d, vs = [a, b, c, d] ∧ f a b c d H Q E
def sp5 (f : V → V → V → V → V → Hp → VK → XK → Prop) : Sp := fun vs H Q E => ∃ a b c d e, vs = [a, b, c, d, e] ∧ f a b c d e H Q E
section
variable {vs : List V} {H : Hp} {Q : VK} {E : XK} {a b c d e : V}
theorem sp0_len {f} (h : sp0 f vs H Q E) : vs.length = 0 := by obtain ⟨rfl, _⟩ := h; rfl
theorem sp1_len {f} (h : sp1 f vs H Q E) : vs.length = 1 := by obtain ⟨_, rfl, _⟩ := h; rfl
theorem sp2_len {f} (h : sp2 f vs H Q E) : vs.length = 2 := by obtain ⟨_, _, rfl, _⟩ := h; rfl
theorem sp3_len {f} (h : sp3 f vs H Q E) : vs.length = 3 := by obtain ⟨_, _, _, rfl, _⟩ := h; rfl
theorem sp4_len {f} (h : sp4 f vs H Q E) : vs.length = 4 := by obtain ⟨_, _, _, _, rfl, _⟩ := h; rfl
theorem sp5_len {f} (h : sp5 f vs H Q E) : vs.length = 5 := by obtain ⟨_, _, _, _, _, rfl, _⟩ := h; rfl
theorem ask0 {f} (h : f H Q E) : Box (sp0 f [] H Q E) := ⟨rfl, h⟩
theorem ask1 {f} (h : f a H Q E) : Box (sp1 f [a] H Q E) := ⟨_, rfl, h⟩
theorem ask2 {f} (h : f a b H Q E) : Box (sp2 f [a, b] H Q E) := ⟨_, _, rfl, h⟩
theorem ask3 {f} (h : f a b c H Q E) : Box (sp3 f [a, b, c] H Q E) := ⟨_, _, _, rfl, h⟩
theorem ask4 {f} (h : f a b c d H Q E) : Box (sp4 f [a, b, c, d] H Q E) := ⟨_, _, _, _, rfl, h⟩
theorem ask5 {f} (h : f a b c d e H Q E) : Box (sp5 f [a, b, c, d, e] H Q E) := ⟨_, _, _, _, _, rfl, h⟩
end
end Ow
namespace Ow
open PySem PySem.Spec PyProof.Rows L2
theorem pe_gc {X : Cx} {x : Str} {pos : Pos} {v : V} (hg : Gl X x) (hm : ∃ u, X.mg x = some u ∧ RelV v u) (hd : (x == ("__debug__" : Str)) = false := by decide) : PE X (.Name x pos) (tC v) :=
  let ⟨_, e, r⟩ := hm
  pe_glob hg e r hd
end Ow
namespace Ow
open PySem PySem.Spec PyProof.Rows L2
section
variable {H0 H : Hp} {A : List Addr} {cs : Cells} {x dx C : Addr}
/-- a new instance -/
theorem Own.inst (O : Own H0 H A cs) (h1 : H x = none) (h2 : H dx = none) (ne : dx ≠ x) : Own H0 (upd (upd H dx (.own x)) x (.ins C dx [])) A ((x, .ins C dx []) :: cs) :=
  ((O.new (o := .own x) h2).new (o := .ins C dx []) (p := x) (by rw [upd_ne ne.symm]; exact h1)).drop (List.Sublist.cons₂ _ (List.Sublist.cons _ (List.Sublist.refl _)))
theorem Own.last {c : Addr × HO} (O : Own H0 H A (c :: cs)) : Own H0 H A (cs ++ [c]) := O.perm (List.perm_append_singleton c cs).symm
theorem Own.eq {cs' : Cells} (O : Own H0 H A cs) (e : cs = cs') : Own H0 H A cs' := e ▸ O
theorem Own.adr {A' : List Addr} (O : Own H0 H A cs) (e : A = A') : Own H0 H A' cs := e ▸ O
end
/-! ### loops -/
section
variable {K : PySem.W.Frag} {a : Addr} {xs : List V} {g : TG} {tb : TS} {D : Ends} {σ : L2.St} {H : Hp}
theorem forL (Pv : Nat → L2.St → Hp → Prop) (h0 : Pv 0 σ H) (hl : ∀ i σ H, i ≤ xs.length → Pv i σ H → SqL K H a xs)
    (hs : ∀ i x σ H, xs[i]? = some x → Pv i σ H → g x σ H fun σ2 H2 => tb { D with nx := fun σ H => Box (Pv (i + 1) σ H), ct := fun σ H => Box (Pv (i + 1) σ H), bk := D.nx } σ2 H2) (hd : ∀ σ H, Pv xs.length σ H → D.nx σ H) :
    Box (∃ W : Nat → Nat → L2.St → Hp → Prop, (∃ m, W 0 m σ H) ∧ ∀ i m σ H, W i m σ H →
      ((Itl K a).stop i H ∧ D.nx σ H) ∨ ((Itl K a).go i H ∧ ∃ N : L2.St → Hp → Prop, (∀ σ' H', N σ' H' → ∃ m', m' < m ∧ W (i + 1) m' σ' H') ∧ ∀ x H', (Itl K a).yld i H x H' → g x σ H' fun σ2 H2 => tb { D with nx := N, ct := N, bk := D.nx } σ2 H2)) :=
  ⟨for_list (fun i σ H => Box (Pv i σ H)) ⟨h0⟩ (fun i σ H hi p => hl i σ H hi p.out) (fun i x σ H hx p => hs i x σ H hx p.out) (fun σ H p => hd σ H p.out)⟩
theorem forT (Pv : Nat → L2.St → Hp → Prop) (h0 : Pv 0 σ H) (hl : ∀ i σ H, i ≤ xs.length → Pv i σ H → SqT K H a xs)
    (hs : ∀ i x σ H, xs[i]? = some x → Pv i σ H → g x σ H fun σ2 H2 => tb { D with nx := fun σ H => Box (Pv (i + 1) σ H), ct := fun σ H => Box (Pv (i + 1) σ H), bk := D.nx } σ2 H2) (hd : ∀ σ H, Pv xs.length σ H → D.nx σ H) :
    Box (∃ W : Nat → Nat → L2.St → Hp → Prop, (∃ m, W 0 m σ H) ∧ ∀ i m σ H, W i m σ H →
      ((Itt K a).stop i H ∧ D.nx σ H) ∨ ((Itt K a).go i H ∧ ∃ N : L2.St → Hp → Prop, (∀ σ' H', N σ' H' → ∃ m', m' < m ∧ W (i + 1) m' σ' H') ∧ ∀ x H', (Itt K a).yld i H x H' → g x σ H' fun σ2 H2 => tb { D with nx := N, ct := N, bk := D.nx } σ2 H2)) :=
  ⟨for_tup (fun i σ H => Box (Pv i σ H)) ⟨h0⟩ (fun i σ H hi p => hl i σ H hi p.out) (fun i x σ H hx p => hs i x σ H hx p.out) (fun σ H p => hd σ H p.out)⟩
theorem forR {lo : Int} {n : Nat} (Pv : Nat → L2.St → Hp → Prop) (h0 : Pv 0 σ H)
    (hs : ∀ i σ H, i < n → Pv i σ H → g (.int (lo + i)) σ H fun σ2 H2 => tb { D with nx := fun σ H => Box (Pv (i + 1) σ H), ct := fun σ H => Box (Pv (i + 1) σ H), bk := D.nx } σ2 H2) (hd : ∀ σ H, Pv n σ H → D.nx σ H) :
    Box (∃ W : Nat → Nat → L2.St → Hp → Prop, (∃ m, W 0 m σ H) ∧ ∀ i m σ H, W i m σ H →
      ((Itr lo n).stop i H ∧ D.nx σ H) ∨ ((Itr lo n).go i H ∧ ∃ N : L2.St → Hp → Prop, (∀ σ' H', N σ' H' → ∃ m', m' < m ∧ W (i + 1) m' σ' H') ∧ ∀ x H', (Itr lo n).yld i H x H' → g x σ H' fun σ2 H2 => tb { D with nx := N, ct := N, bk := D.nx } σ2 H2)) :=
  ⟨for_range (fun i σ H => Box (Pv i σ H)) ⟨h0⟩ (fun i σ H hi p => hs i σ H hi p.out) (fun σ H p => hd σ H p.out)⟩
theorem forC {lo c : Int} {n : Nat} (Pv : Nat → L2.St → Hp → Prop) (h0 : Pv 0 σ H)
    (hs : ∀ i σ H, i < n → Pv i σ H → g (.int (lo + (i : Nat) * c)) σ H fun σ2 H2 => tb { D with nx := fun σ H => Box (Pv (i + 1) σ H), ct := fun σ H => Box (Pv (i + 1) σ H), bk := D.nx } σ2 H2) (hd : ∀ σ H, Pv n σ H → D.nx σ H) :
    Box (∃ W : Nat → Nat → L2.St → Hp → Prop, (∃ m, W 0 m σ H) ∧ ∀ i m σ H, W i m σ H →
      ((Itc lo c n).stop i H ∧ D.nx σ H) ∨ ((Itc lo c n).go i H ∧ ∃ N : L2.St → Hp → Prop, (∀ σ' H', N σ' H' → ∃ m', m' < m ∧ W (i + 1) m' σ' H') ∧ ∀ x H', (Itc lo c n).yld i H x H' → g x σ H' fun σ2 H2 => tb { D with nx := N, ct := N, bk := D.nx } σ2 H2)) :=
  ⟨for_rangeC (fun i σ H => Box (Pv i σ H)) ⟨h0⟩ (fun i σ H hi p => hs i σ H hi p.out) (fun σ H p => hd σ H p.out)⟩
/-- a while, by a word with its measure -/
theorem whI {c : TT} (W : Nat → L2.St → Hp → Prop) (m0 : Nat) (h0 : W m0 σ H) (hs : ∀ m σ H, W m σ H → c σ H fun b H1 => if b = true then ∃ N : L2.St → Hp → Prop, (∀ σ' H', N σ' H' → ∃ m', m' < m ∧ W m' σ' H') ∧ tb { D with nx := N, ct := N, bk := D.nx } σ H1 else D.nx σ H1) :
    Box (tWhile c tb D σ H) := ⟨W, ⟨m0, h0⟩, hs⟩
theorem whN {W : Nat → L2.St → Hp → Prop} {m : Nat} (h : tb { D with nx := fun σ' H' => Box (∃ m', m' < m ∧ W m' σ' H'), ct := fun σ' H' => Box (∃ m', m' < m ∧ W m' σ' H'), bk := D.nx } σ H) :
    ∃ N : L2.St → Hp → Prop, (∀ σ' H', N σ' H' → ∃ m', m' < m ∧ W m' σ' H') ∧ tb { D with nx := N, ct := N, bk := D.nx } σ H := ⟨_, fun _ _ h => h.out, h⟩
end
end Ow
namespace Ow
open PySem PySem.Spec PyProof.Rows L2
theorem if_t {b : Bool} {A B : Prop} (h : b = true) (k : A) : if b = true then A else B := by rw [if_pos h]; exact k
theorem if_f {b : Bool} {A B : Prop} (h : b = false) (k : B) : if b = true then A else B := by rw [if_neg (by rw [h]; exact Bool.false_ne_true)]; exact k
end Ow
namespace Ow
open PySem PySem.Spec PyProof.Rows L2
theorem dget_v {H : Hp} {a : Addr} {kvs : List (Key × V)} {k : Key} {v : V} (h : H a = some (.dK kvs)) (e : valV kvs k = some v) : DGet H a (kV k) (some v) := e ▸ DGet.k h
end Ow
namespace Ow
open PySem PySem.Spec PyProof.Rows L2
theorem kl {i : Int} : V.int i = kV (Sum.inl i) := rfl
theorem kr {z : Str} : V.str z = kV (Sum.inr z) := rfl
end Ow
namespace Ow
open PySem PySem.Spec PyProof.Rows L2
/-! ### lists of whole numbers, compared -/
section
variable {K : PySem.W.Frag} {H : Hp} {a b : Addr}
theorem dpa_ints : ∀ ns : List Int, DpAll K H (ns.map V.int) (ns.map PyData.int)
  | [] => .nil
  | n :: r => .cons (.int n) (dpa_ints r)
theorem dp_ints {ns : List Int} (h : H a = some (.lst (ns.map V.int))) : Dp K H (.ref a) (.list (ns.map PyData.int)) := .lst (SqL.of h) (dpa_ints ns)
theorem depth_ints : ∀ ns : List Int, PyData.depthAll (ns.map PyData.int) ≤ 1
  | [] => by simp [PyData.depthAll]
  | n :: r => by
    have := depth_ints r
    simp only [List.map_cons, PyData.depthAll, PyData.depth]
    omega
theorem lay_ints : ∀ ns : List Int, PyData.canLayAll0 (ns.map PyData.int) = true
  | [] => by simp [PyData.canLayAll0]
  | n :: r => by simp [PyData.canLayAll0, PyData.canLay0, lay_ints r]
theorem sh_ints (ns : List Int) : SeqAt.shaped (.list (ns.map PyData.int)) = true := by
  have h1 := depth_ints ns
  have h2 : PyData.depth (.list (ns.map PyData.int)) ≤ 64 := by
    simp only [PyData.depth]
    omega
  show (PyData.canLay0 (.list (ns.map PyData.int)) && decide (PyData.depth (.list (ns.map PyData.int)) ≤ 64)) = true
  rw [Bool.and_eq_true]
  exact ⟨by simp only [PyData.canLay0]; exact lay_ints ns, decide_eq_true h2⟩
theorem dist_ints : ∀ ns ms : List Int, PyData.eqvAll (ns.map PyData.int) (ms.map PyData.int) = decide (ns = ms)
  | [], [] => rfl
  | [], _ :: _ => rfl
  | _ :: _, [] => rfl
  | n :: r, m :: q => by
    rw [List.map_cons, List.map_cons, PyData.eqvAll, dist_ints r q]
    show ((n == m) && _) = _
    by_cases h : n = m
    · subst h; simp
    · rw [decide_eq_false (fun e => h (List.cons.inj e).1)]; simp [h]
theorem eqv_ints (ns ms : List Int) : PyData.eqv (.list (ns.map PyData.int)) (.list (ms.map PyData.int)) = decide (ns = ms) := dist_ints ns ms
/-- two rows of whole numbers, compared -/
theorem eq_ints {ns ms : List Int} {Q : VK} (ha : H a = some (.lst (ns.map V.int))) (hb : H b = some (.lst (ms.map V.int))) (k : Q (.bl (decide (ns = ms))) H) : rEqD K (.ref a) (.ref b) H Q :=
  ⟨_, _, dp_ints ha, dp_ints hb, sh_ints ns, sh_ints ms, by rw [eqv_ints]; exact k⟩
theorem ne_ints {ns ms : List Int} {Q : VK} (ha : H a = some (.lst (ns.map V.int))) (hb : H b = some (.lst (ms.map V.int))) (k : Q (.bl (!decide (ns = ms))) H) : rNeD K (.ref a) (.ref b) H Q :=
  ⟨_, _, dp_ints ha, dp_ints hb, sh_ints ns, sh_ints ms, by rw [eqv_ints]; exact k⟩
end
end Ow
namespace Ow
open PySem PySem.Spec PyProof.Rows L2
/-! ### the closers' own lemmas: head first -/
section
variable {K : PySem.W.Frag} {H0 H : Hp} {A : List Addr} {cs cs' : Cells} {a p : Addr} {o o' : HO} {xs : List V}
theorem Own.wr2 (O : Own H0 H A cs) (h : At cs a o o' cs') (n : isTup o = false) : Own H0 (upd H a o') A cs' := O.wr h n
theorem col_ex (h : H a = some (.lst xs)) : ∃ xs, SqL K H a xs := ⟨_, SqL.of h⟩
theorem col_ol {p : Prop} (h : H a = some (.lst xs)) : SqL K H a xs ∨ p := .inl (SqL.of h)
theorem col_or {p : Prop} (h : H a = some (.tup xs)) : p ∨ SqT K H a xs := .inr (SqT.of h)
theorem dget_ii {kvs : List (Key × V)} {i : Int} {v : V} (h : H a = some (.dK kvs)) (e : valV kvs (Sum.inl i) = some v) : DGet H a (.int i) (some v) := dget_v (k := Sum.inl i) h e
theorem dget_is {kvs : List (Key × V)} {i : Str} {v : V} (h : H a = some (.dK kvs)) (e : valV kvs (Sum.inr i) = some v) : DGet H a (.str i) (some v) := dget_v (k := Sum.inr i) h e
theorem dget_i {kvs : List (Key × V)} {i : Int} (h : H a = some (.dK kvs)) : DGet H a (.int i) (valV kvs (Sum.inl i)) := DGet.k (k := Sum.inl i) h
theorem dget_s {kvs : List (Key × V)} {i : Str} (h : H a = some (.dK kvs)) : DGet H a (.str i) (valV kvs (Sum.inr i)) := DGet.k (k := Sum.inr i) h
theorem dput_i {kvs : List (Key × V)} {i : Int} {v : V} (h : H a = some (.dK kvs)) (hl : kvs.length < 100000) : DPut H a (.int i) v (upd H a (.dK (putK kvs (Sum.inl i) v))) := DPut.k (k := Sum.inl i) h (sz_lt hl)
theorem dput_s {kvs : List (Key × V)} {i : Str} {v : V} (h : H a = some (.dK kvs)) (hl : kvs.length < 100000) : DPut H a (.str i) v (upd H a (.dK (putK kvs (Sum.inr i) v))) := DPut.k (k := Sum.inr i) h (sz_lt hl)
theorem isd_k {kvs : List (Key × V)} (h : H a = some (.dK kvs)) : IsD H a := Or.inl ⟨_, Or.inl h⟩
theorem wp_of {x y : List (Option V)} (h : x = y) : x = y := h
theorem ln_of {x y : Nat} (h : x = y) : x = y := h
theorem pos_of {m : Int} (h : 0 < m) : 0 < m := h
end
end Ow
namespace Ow
open PySem PySem.Spec PyProof.Rows L2
/-! ### items -/
theorem at_int {α : Type} {xs : List α} {n : Int} (h0 : 0 ≤ n) (h1 : n < (xs.length : Int)) : ∃ y, xs[n.toNat]? = some y ∧ atI xs n = some y := by
  have hj : n.toNat < xs.length := by omega
  refine ⟨xs[n.toNat], List.getElem?_eq_getElem hj, ?_⟩
  have := atI_nat (List.getElem?_eq_getElem hj)
  rwa [Int.toNat_of_nonneg h0] at this
theorem map_get {l : List Int} {i : Nat} {x : V} (h : (l.map V.int)[i]? = some x) : ∃ y, l[i]? = some y ∧ x = V.int y := by
  rw [List.getElem?_map] at h
  cases e : l[i]? with
  | none => rw [e] at h; cases h
  | some y => rw [e] at h; exact ⟨y, rfl, (Option.some.inj h).symm⟩
theorem at_ints {ns : List Int} {n : Int} (h0 : 0 ≤ n) (h1 : n < ((ns.map V.int).length : Int)) : ∃ y, ns[n.toNat]? = some y ∧ atI (ns.map V.int) n = some (V.int y) := by
  obtain ⟨y, h2, h3⟩ := at_int h0 h1
  obtain ⟨z, h4, rfl⟩ := map_get h2
  exact ⟨z, h4, h3⟩
end Ow
namespace Ow
open PySem PySem.Spec PyProof.Rows L2
theorem Own.fr0 {H0 H : Hp} {cs : Cells} {b : Addr} {o : HO} (O : Own H0 H [] cs) (h : H0 b = some o) : H b = some o := O.fr b o h (by simp)
/-! ### comprehensions -/
section
variable {K : PySem.W.Frag} {a : Addr} {xs : List V} {g : TG} {tt : TT} {te : TE} {vs : List Nat} {σ : L2.St} {H1 : Hp} {Q : Addr → Hp → Prop} {lo : Int} {n : Nat}
theorem lcR (Pv : Addr → Nat → Hp → Prop) (h0 : ∀ D, H1 D = none → Pv D 0 (upd H1 D (.lst [])))
    (hs : ∀ D i H, i < n → Pv D i H → g (.int (lo + i)) (wipe σ vs) H fun σ2 H2 => wipe σ2 vs = wipe σ vs ∧ tt σ2 H2 fun b H3 =>
      if b = true then te σ2 H3 fun y H4 => ∃ acc, H4 D = some (.lst acc) ∧ acc.length < sizeLine ∧ Box (Pv D (i + 1) (upd H4 D (.lst (acc ++ [y])))) else Box (Pv D (i + 1) H3)) (hd : ∀ D H, Pv D n H → Q D H) :
    Box (∀ D, H1 D = none → ∃ W : Nat → Nat → Hp → Prop, (∃ m, W 0 m (upd H1 D (.lst []))) ∧ ∀ i m H, W i m H →
      ((Itr lo n).stop i H ∧ Q D H) ∨ ((Itr lo n).go i H ∧ ∃ Nx : Hp → Prop, (∀ H', Nx H' → ∃ m', m' < m ∧ W (i + 1) m' H') ∧ ∀ x H', (Itr lo n).yld i H x H' → g x (wipe σ vs) H' fun σ2 H2 => wipe σ2 vs = wipe σ vs ∧ tt σ2 H2 fun b H3 =>
        if b = true then te σ2 H3 fun y H4 => ∃ acc, H4 D = some (.lst acc) ∧ acc.length < sizeLine ∧ Nx (upd H4 D (.lst (acc ++ [y]))) else Nx H3)) :=
  ⟨fun D hD => lc_range (fun i H => Box (Pv D i H)) ⟨h0 D hD⟩ (fun i H hi p => hs D i H hi p.out) (fun H p => hd D H p.out)⟩
theorem lcL (Pv : Addr → Nat → Hp → Prop) (h0 : ∀ D, H1 D = none → Pv D 0 (upd H1 D (.lst []))) (hl : ∀ D i H, i ≤ xs.length → Pv D i H → SqL K H a xs)
    (hs : ∀ D i x H, xs[i]? = some x → Pv D i H → g x (wipe σ vs) H fun σ2 H2 => wipe σ2 vs = wipe σ vs ∧ tt σ2 H2 fun b H3 =>
      if b = true then te σ2 H3 fun y H4 => ∃ acc, H4 D = some (.lst acc) ∧ acc.length < sizeLine ∧ Box (Pv D (i + 1) (upd H4 D (.lst (acc ++ [y])))) else Box (Pv D (i + 1) H3)) (hd : ∀ D H, Pv D xs.length H → Q D H) :
    Box (∀ D, H1 D = none → ∃ W : Nat → Nat → Hp → Prop, (∃ m, W 0 m (upd H1 D (.lst []))) ∧ ∀ i m H, W i m H →
      ((Itl K a).stop i H ∧ Q D H) ∨ ((Itl K a).go i H ∧ ∃ Nx : Hp → Prop, (∀ H', Nx H' → ∃ m', m' < m ∧ W (i + 1) m' H') ∧ ∀ x H', (Itl K a).yld i H x H' → g x (wipe σ vs) H' fun σ2 H2 => wipe σ2 vs = wipe σ vs ∧ tt σ2 H2 fun b H3 =>
        if b = true then te σ2 H3 fun y H4 => ∃ acc, H4 D = some (.lst acc) ∧ acc.length < sizeLine ∧ Nx (upd H4 D (.lst (acc ++ [y]))) else Nx H3)) :=
  ⟨fun D hD => lc_list (fun i H => Box (Pv D i H)) ⟨h0 D hD⟩ (fun i H hi p => hl D i H hi p.out) (fun i x H hx p => hs D i x H hx p.out) (fun H p => hd D H p.out)⟩
theorem lcT (Pv : Addr → Nat → Hp → Prop) (h0 : ∀ D, H1 D = none → Pv D 0 (upd H1 D (.lst []))) (hl : ∀ D i H, i ≤ xs.length → Pv D i H → SqT K H a xs)
    (hs : ∀ D i x H, xs[i]? = some x → Pv D i H → g x (wipe σ vs) H fun σ2 H2 => wipe σ2 vs = wipe σ vs ∧ tt σ2 H2 fun b H3 =>
      if b = true then te σ2 H3 fun y H4 => ∃ acc, H4 D = some (.lst acc) ∧ acc.length < sizeLine ∧ Box (Pv D (i + 1) (upd H4 D (.lst (acc ++ [y])))) else Box (Pv D (i + 1) H3)) (hd : ∀ D H, Pv D xs.length H → Q D H) :
    Box (∀ D, H1 D = none → ∃ W : Nat → Nat → Hp → Prop, (∃ m, W 0 m (upd H1 D (.lst []))) ∧ ∀ i m H, W i m H →
      ((Itt K a).stop i H ∧ Q D H) ∨ ((Itt K a).go i H ∧ ∃ Nx : Hp → Prop, (∀ H', Nx H' → ∃ m', m' < m ∧ W (i + 1) m' H') ∧ ∀ x H', (Itt K a).yld i H x H' → g x (wipe σ vs) H' fun σ2 H2 => wipe σ2 vs = wipe σ vs ∧ tt σ2 H2 fun b H3 =>
        if b = true then te σ2 H3 fun y H4 => ∃ acc, H4 D = some (.lst acc) ∧ acc.length < sizeLine ∧ Nx (upd H4 D (.lst (acc ++ [y]))) else Nx H3)) :=
  ⟨fun D hD => lc_tup (fun i H => Box (Pv D i H)) ⟨h0 D hD⟩ (fun i H hi p => hl D i H hi p.out) (fun i x H hx p => hs D i x H hx p.out) (fun H p => hd D H p.out)⟩
end
end Ow
namespace Ow
open PySem PySem.Spec PyProof.Rows L2
theorem cutV_sub (xs : List V) (lo hi : Option Int) {x : V} (h : x ∈ cutV xs lo hi) : x ∈ xs := List.mem_of_mem_drop (List.mem_of_mem_take h)
theorem cut_ints {xs : List Int} {lo hi : Option Int} {i : Nat} {x : V} (h : (cutV (xs.map V.int) lo hi)[i]? = some x) : ∃ y, x = V.int y := by
  obtain ⟨y, _, e⟩ := List.mem_map.mp (cutV_sub _ _ _ (List.mem_of_getElem? h))
  exact ⟨y, e.symm⟩
theorem cutV_take (xs : List V) (n : Nat) : (cutV xs none (some (n : Int))).length ≤ n := by
  unfold cutV
  rw [List.length_take]
  have : HT.sIx xs.length xs.length (some (n : Int)) ≤ n := by
    rw [HT.sIx_nat]
    omega
  omega
end Ow
namespace Ow
open PySem PySem.Spec PyProof.Rows L2
/-! ### where two ways meet -/
theorem cutT {c : TT} {σ : L2.St} {H : Hp} {post : Bool → Hp → Prop} (R : Bool → Hp → Prop) (h : ∀ post' : Bool → Hp → Prop, (∀ b H', R b H' → post' b H') → c σ H post') (k : ∀ b H', R b H' → post b H') : c σ H post := h post k
theorem cutI {c : TT} {a b : TS} {D : Ends} {σ : L2.St} {H : Hp} (R : Bool → Hp → Prop) (h : ∀ post' : Bool → Hp → Prop, (∀ b H', R b H' → post' b H') → c σ H post') (k : ∀ bb H', R bb H' → if bb = true then a D σ H' else b D σ H') : tIfS c a b D σ H := h _ k
theorem cutS {t : TS} {D : Ends} {σ : L2.St} {H : Hp} (R : L2.St → Hp → Prop) (h : ∀ nx' : L2.St → Hp → Prop, (∀ σ' H', R σ' H' → nx' σ' H') → t { D with nx := nx' } σ H) (k : ∀ σ' H', R σ' H' → D.nx σ' H') : Box (t D σ H) := ⟨h D.nx k⟩
end Ow
namespace Ow
open L2 in
theorem rg_mk {lo hi c : Int} (n : Nat) (h : (c ≠ 0 ∧ c.natAbs < 1073741824 ∧ PySem.Builtin.Range.small lo hi c = true ∧ PySem.Builtin.Range.rangeSize lo hi c = n) := by decide +kernel) : RgC lo hi c n := h
open L2 in
theorem Own.self {H0 H : Hp} {A : List PySem.Addr} {cs : Cells} (O : Own H0 H A cs) : Own H H (Ow.adr cs) cs := O.blk (s' := []) (cs' := []) .all
end Ow
namespace Ow
open L2 in
/-- behind a call that was handed nothing -/
theorem Own.callN {H0 H H' : Hp} {A : List PySem.Addr} {cs s' : Cells} (O : Own H0 H A cs) (C : Own H H' [] s') : Own H0 H' A (s' ++ cs) := O.call (s := []) .nil C
end Ow
namespace Ow
open PySem PySem.Spec PyProof.Rows L2
/-! ### what stands outside: the script -/
section
variable {K : PySem.W.Frag} {H0 H : Hp} {A : List Addr} {cs : Cells} {a : Addr} {xs : List V}
theorem Own.sq (O : Own H0 H [] cs) (h : SqL K H0 a xs) : SqL K H a xs := by
  rcases h with (h | ⟨o, h⟩) | h
  · exact .inl (.inl (O.fr0 h))
  · exact .inl (.inr ⟨o, O.fr0 h⟩)
  · exact .inr h
theorem Own.sqT (O : Own H0 H A cs) (h : SqT K H0 a xs) (hf : ∀ o, H0 a = some (.frz o (.tup xs)) → a ∉ A) : SqT K H a xs := by
  rcases h with (h | ⟨o, h⟩) | h
  · exact .inl (.inl (O.tup h))
  · exact .inl (.inr ⟨o, O.fr _ _ h (hf o h)⟩)
  · exact .inr h
theorem col_ex2 (h : SqL K H a xs) : ∃ xs, SqL K H a xs := ⟨_, h⟩
theorem col_ol2 {p : Prop} (h : SqL K H a xs) : SqL K H a xs ∨ p := .inl h
theorem col_or2 {p : Prop} (h : SqT K H a xs) : p ∨ SqT K H a xs := .inr h
end
end Ow
namespace Ow
open PySem PySem.Spec PyProof.Rows L2
/-! ### the end -/
theorem cx_no {P : Program} {w : World} {H : Hp} {s : Shared} {e : Value} {s' : Shared} (h : L2.CX P w [] H s (fun _ _ _ => False) e s') : False := by
  obtain ⟨_, _, _, _, _, _, _, _, _, _, _, _, h⟩ := h
  exact h
theorem walk_end {l : PySem.W.OpenLaw} {n k : Nat} {q : Program} {loose : List Str} {XP : (Str → Option Value) → Heap → Prop} {YP : World → Heap → Prop} {d : DefRec} {x : Str}
    (hn : l.most = some n) (hn2 : n ≤ sizeLine) (hdf : d.params.defaults = []) (hr : Room k callerA)
    (F : ∀ (w : World) (mg : Str → Option Value) (fa : Addr) (h : Heap), YP w h → h.Ns mainGlobals mg → mg d.name = some (.ref fa) →
      ∃ (K : PySem.W.Frag) (fd : FuncData) (sp : Sp), K.In h ∧ (∀ (s : Shared) (u : Value), BindsTo s fd ⟨[u], []⟩ [(x, u)]) ∧
        (∀ (H : Hp) (a : Addr) (ns : List Int), ns.length ≤ n → (∀ z ∈ ns, Builtin.Int.intBits z ≤ 1048576) → SqL K H a (ns.map V.int) → sp [.ref a] H (fun v _ => v = .bl true) fun _ _ _ => False) ∧
        ∀ base : Heap, K.In base → base.Ns mainGlobals mg → FnOk l.prog w K mg base (L2.CX l.prog w) k fa fd [x] sp) :
    PySem.W.WalkO q loose XP YP l.row.toRowW d [] (fun f vs => PySem.call f vs) := by
  refine Att.attach_callB hn hdf fun w s₀ s₁ mg mb fa o pm cd doc a vs ns G Y ho hd hcd hmg hobj hints hlen hbits hg => ?_
  obtain ⟨K, fd, sp, KX, hb, hsp, hF⟩ := F w mg fa _ Y G.T.g hmg
  exact law_call KX G.T.g G.T.b G.T.builtins G.T.nolimit hg hobj hints (Nat.le_trans hlen hn2) hr hF hb (fun H _ hS => hsp H a ns hlen hbits hS) fun _ _ _ h => cx_no h
theorem fn_of {P : Program} {w : World} {K : PySem.W.Frag} {mg : Str → Option Value} {base : Heap} {x qual : Str} {params : Arguments} {body : List Stmt} {scope : Scope} {f : Addr} {fd : FuncData} {N ps : List Str} {k : Nat} {sp : Sp} (F : FunD K x qual params body scope [] [] f fd) (S : FnScope N ps scope)
    (len : ∀ vs H Q E, sp vs H Q E → vs.length = ps.length)
    (hbody : ∀ (cdv : Value) (A : Around) (outer : List Env) (s : Shared) (H : Hp) (vs : List V) (Q : VK) (E : XK), Room k (A.deeper (envOfC qual scope s.heap.objs.size f cdv)) → sp vs H Q E →
      ∃ t, PSs (cxOf (L2.CX P w) P w K mg base N qual scope f cdv A outer s H E) body t ∧ t { nx := fun _ H' => Q .non H', rt := Q } (start N vs) H) : FnOk P w K mg base (L2.CX P w) (k + 1) f fd ps (bx sp) :=
  FunD.ok F S (fun vs H Q E h => len vs H Q E h.out) (fun cdv A outer s H vs Q E hr h => hbody cdv A outer s H vs Q E hr h.out)
end Ow
namespace Ow
open PySem PySem.Spec PyProof.Rows L2
/-! ### an exception that is held: known, in the suite and beyond it -/
/-- an exception object at a, of the class cls, its dict d -/
def CxO (cls : Value) (d : Option Addr) (a : Addr) : HO := .ext fun h => ∃ (o : Obj) (vs : Array Value), h.get? a = some o ∧ Zc cls d o ∧ o.data = .fields vs
section
variable {X : Cx} {pins : List (Addr × Obj)} {σ : L2.St} {H : Hp} {s : Shared} {a : Addr} {cls : Value} {d : Option Addr} {o : Obj} {vs : Array Value}
theorem hold_ok (I : Inv X pins σ H s) (e : s.heap.get? a = some o) (z : Zc cls d o) (dt : o.data = .fields vs) (na : H a = none) (n0 : X.s_0.heap.get? a = none) (nL : a ≠ X.env.locals) (np : ∀ p ∈ X.pn ++ pins, p.1 ≠ a) :
    Inv X pins σ (upd H a (CxO cls d a)) s := by
  have sk : ∀ {b : Addr} {u : HO}, H b = some u → upd H a (CxO cls d a) b = some u := fun {b u} q => by
    rw [upd_ne (fun w => by rw [w, na] at q; cases q)]
    exact q
  have nk : ∀ {b : Addr}, b ≠ a → H b = none → upd H a (CxO cls d a) b = none := fun {b} q r => by
    rw [upd_ne q]
    exact r
  refine ⟨I.ok, I.os, I.bare, ⟨I.base.keep, I.base.slot, fun b u q1 q2 q3 => nk (fun w => by rw [w, n0] at q1; cases q1) (I.base.free b u q1 q2 q3), I.base.there, fun b xs q => sk (I.base.tups b xs q), fun b o' u q => sk (I.base.frzs b o' u q), fun b ps q => ?_⟩, I.loc, I.cell, nk (Ne.symm nL) I.free, fun x c q => nk (fun w => ?_) (I.freeC x c q), fun p hp => ?_, HOk.laidN I.hok (fun _ _ w => w) na ⟨⟨o, vs, e, z, dt⟩, ⟨o, e⟩, fun _ _ ⟨o2, v2, q, r⟩ k => ⟨o2, v2, k o2 q, r⟩⟩, I.len⟩
  · obtain ⟨m, r⟩ := I.base.tbls b ps q
    exact ⟨m, sk r⟩
  · subst w
    obtain ⟨v, oc, ho, hd⟩ := I.cell x c q
    rw [e] at ho
    cases ho
    rw [dt] at hd
    cases hd
  · obtain ⟨p1, p2, p3, p4, p5⟩ := I.pin p hp
    exact ⟨p1, nk (np p hp) p2, p3, p4, p5⟩
theorem suite_in {b : Addr} (I : Inv X pins σ H s) : Inv (X.suite b (X.pn ++ pins)) [] σ H s :=
  ⟨I.ok.suite _ _, I.os, I.bare, I.base, I.loc, I.cell, I.free, I.freeC, fun p hp => I.pin p ((List.append_nil (X.pn ++ pins)) ▸ hp), I.hok, I.len⟩
theorem suite_out {b : Addr} (I : Inv (X.suite b (X.pn ++ pins)) [] σ H s) (ok : X.Ok) : Inv X pins σ H s :=
  ⟨ok, I.os, I.bare, I.base, I.loc, I.cell, I.free, I.freeC, fun p hp => I.pin p ((List.append_nil (X.pn ++ pins)).symm ▸ hp), I.hok, I.len⟩
end
/-- the wish of a try whose suite may keep the exception -/
def wHold (K : PySem.W.Frag) (c : Value) (i : Nat) (ts : TS) (Wout : WX) (D : Ends) : WX := fun cls d σ H =>
  ∃ b, PySem.W.exmOne K cls c = some b ∧ (b = true → ∀ a, H a = none → ts { nx := fun τ G => D.nx (τ.set i none) G, rt := D.rt, bk := fun τ G => D.bk (τ.set i none) G, ct := fun τ G => D.ct (τ.set i none) G } (σ.set i (some (.ref a))) (upd H a (CxO cls d a))) ∧ (b = false → Wout cls d σ H)
section
variable {X : Cx} {x n : Str} {c : Value} {i : Nat} {body suite : List Stmt} {b₀ : Stmt} {np pos pos' : Pos} {tb : WX → TS} {ts : TS} {Wout : WX}
theorem ps_tryX (hs : X.stack = X.env :: X.outer) (hf : X.env.frame = some X.env.locals) (hx : X.ex = []) (hN : X.N.Nodup) (hi : X.N[i]? = some n) (hln : X.env.kindOf n = some .local) (hc : Names X x c) (tk : Takes X Wout)
    (hb : ∀ (W : WX) (pn : List (Addr × Obj)) (xe : Value → Shared → Prop), Takes (X.tr pn xe) W → PassesOwn (model X.prog X.w) X.A X.env xe → PSs (X.tr pn xe) body (tb W))
    (hsu : ∀ (a : Addr) (pn : List (Addr × Obj)), PSs (X.suite a pn) (b₀ :: suite) ts) :
    PS X (.Try body [.ExceptHandler (some (.Name x np)) (some n) (b₀ :: suite) pos'] [] [] pos) (fun D σ H => tb (wHold X.K c i ts Wout D) D σ H) := by
  refine ⟨fun pins s σ H D I hyp => ?_⟩
  have okX := I.ok
  have frames : X.A.frames = some (X.env :: X.outer) := by rw [okX.frames, hs]
  refine wpAny_Try_except ?_
  refine wpAny_mono ((hb (wHold X.K c i ts Wout D) (X.pn ++ pins) (fun ev sA => wpAny (model X.prog X.w) X.A (noteFrame ev X.env) (fun _ sB => wpAny (model X.prog X.w) X.A (setFlight ev none) (fun _ sC =>
    wpAny (model X.prog X.w) X.A (handleBy ev X.env [.ExceptHandler (some (.Name x np)) (some n) (b₀ :: suite) pos']) (SP X pins D) X.xe sC) X.xe sB) X.xe sA) (fun u sE flies => ?_) PassesOwn.looking).run [] s σ H D (I.toTry _) hyp) (fun fl sN ends => ?_) (fun ev sA left => left)
  · obtain ⟨a, B, sI, pins1, τ, G, cls, d, rfl, JT, nb, upS, skyS, na, os, ag, b, hm, yes, no⟩ := flies
    have JX : Inv X pins τ G sI := JT.ofTry okX
    have skyX : Sky B (X.env :: X.outer) a (Zc cls d) X.env.locals sE.heap := by rw [← hs]; exact skyS
    have nB : B.get? a = none := by
      rcases skyS with w | w | w
      · exact w.2.1
      · exact w.2.1
      · exact w.2.1
    show wpAny (model X.prog X.w) X.A (noteFrame (.ref a) X.env) _ _ _
    refine Sky.land Zc.steady frames hf skyX fun g3 fl3 up3 => ?_
    have J3 : Inv X pins τ G { sE with heap := g3 } := JX.landed nb fl3.1 (upS.trans up3) os ag
    obtain ⟨q3, w3, at3, z3, dt3⟩ := fl3.there
    have outside : a ∉ frs (X.env :: X.outer) := fun hm => by
      obtain ⟨_, o', e', hnf⟩ := fl3.2.2.1.mem hm
      rw [at3] at e'
      cases e'
      exact hnf _ dt3
    have nL : a ≠ X.env.locals := fun z => outside (List.mem_filterMap.mpr ⟨X.env, .head _, by rw [hf, z]⟩)
    have nF : a ∉ X.fs := fun hm => by
      obtain ⟨ev, he, q⟩ := List.mem_filterMap.mp hm
      exact outside (List.mem_filterMap.mpr ⟨ev, .tail _ he, q⟩)
    have below : ∀ {u : Addr} {ob : Obj}, sI.heap.get? u = some ob → u ∉ frs (X.env :: X.outer) → u ≠ a := fun {u ob} q r w => by
      have k := nb u ob q (by rw [hs]; exact r)
      rw [w, nB] at k
      cases k
    have new0 : X.s_0.heap.get? a = none := by
      cases q : X.s_0.heap.get? a with
      | none => rfl
      | some ob =>
        obtain ⟨ob2, r⟩ := JX.base.there a ob q (by rw [hx]; exact fun w => nomatch w)
        exact absurd rfl (below r outside)
    have unpinned : ∀ p ∈ X.pn ++ pins, p.1 ≠ a := fun p hp => by
      obtain ⟨p1, _, p3, p4, _⟩ := JX.pin p hp
      refine below p1 fun hm => ?_
      obtain ⟨ev, he, q⟩ := List.mem_filterMap.mp hm
      rcases List.mem_cons.mp he with w | w
      · rw [w, hf] at q
        exact p3 (Option.some.inj q).symm
      · exact p4 (List.mem_filterMap.mpr ⟨ev, w, q⟩)
    have S3 := J3.suite at3 dt3 na nL nF
    refine wpAny_handleBy_cons (codeAny_handlers_test ?_) (by intro w; cases w)
    have kind : PySem.W.Looks (model X.prog X.w) g3 (typeOf (.ref a)) cls := fun A Q E t k w => wpAny_typeOf_ref (k _ _ at3) (by rw [z3.1]; exact w)
    have match_ := PySem.W.exm_one (M := model X.prog X.w) (J3.kIn) kind hm
    have named : ∀ {Q E : Value → Shared → Prop}, Q c { sE with heap := g3 } → wpAny (model X.prog X.w) (X.A.mark (some (.ref a))) (eval (.Name x np) X.env) Q E { sE with heap := g3 } := fun {Q E} w => by
      obtain ⟨hg, hdbg, m1 | ⟨m1, m2, m3⟩⟩ := hc
      · exact ld_glob (X := X.suite a ((a, q3) :: (X.pn ++ pins))) S3 hg m1 w hdbg
      · exact ld_blt (X := X.suite a ((a, q3) :: (X.pn ++ pins))) S3 hg m1 m2 w m3 hdbg
    refine named (match_.here ?_)
    cases b with
    | true =>
      refine codeAny_handlers_suite_as ?_
      refine HandSPX.lands_againZ fl3 fun g4 fl4 up4 => ?_
      have J4 : Inv X pins τ G { sE with heap := g4 } := JX.landed nb fl4.1 ((upS.trans up3).trans up4) os ag
      obtain ⟨q4, w4, at4, z4, dt4⟩ := fl4.there
      have S4 := suite_in (b := a) (hold_ok J4 at4 z4 dt4 na new0 nL unpinned)
      refine store_ok (X := X.suite a (X.pn ++ pins)) (v := .ref a) S4 hN hi (.inl hln) rfl (fun s5 S5 => ?_) (.inr hln)
      refine wpAny_mono ((hsu a (X.pn ++ pins)).run [] s5 _ _ _ S5 (yes rfl a na)) (fun fl s6 ends => ?_) (fun _ _ w => False.elim w)
      have off : ∀ {τ6 : L2.St} {G6 : Hp} {Q : Shared → Prop}, Inv (X.suite a (X.pn ++ pins)) [] τ6 G6 s6 → (∀ s7, Inv X pins (τ6.set i none) G6 s7 → Q s7) →
          wpAny (model X.prog X.w) X.A (do bindName X.env n .none; unbindBehindTheSuite X.env n pos') (fun _ s7 => Q s7) X.xe s6 := fun {τ6 G6 Q} S6 w => gone_ok (suite_out S6 okX) hN hi hln w
      cases fl with
      | next =>
        obtain ⟨_, _, S6, r⟩ := ends
        exact off S6 fun _ J7 => ⟨_, _, J7, r⟩
      | brk =>
        obtain ⟨_, _, S6, r⟩ := ends
        exact off S6 fun _ J7 => ⟨_, _, J7, r⟩
      | cont =>
        obtain ⟨_, _, S6, r⟩ := ends
        exact off S6 fun _ J7 => ⟨_, _, J7, r⟩
      | ret u =>
        obtain ⟨_, _, _, S6, r1, r2⟩ := ends
        exact off S6 fun _ J7 => ⟨_, _, _, J7, r1, r2⟩
    | false =>
      show wpAny _ X.A (handleBy (.ref a) X.env []) _ _ _
      refine wpAny_handleBy_nil ?_
      obtain ⟨_, _, _, ob, ws, T, oT, tr, hob, hzb, hdb, hfb, hrb⟩ := id fl3
      unfold PySem.passOn
      refine wpAny_bind (wpAny_field hob hdb hfb ?_)
      rw [if_neg (show ¬ ((Value.ref T == Value.none) = true) by simp)]
      have out : wpAny (model X.prog X.w) X.A (setFlight (.ref a) X.env.frame) (fun _ t4 => wpAny (model X.prog X.w) X.A (throw (.ref a) : Sem Flow) (SP X pins D) X.xe t4) X.xe { sE with heap := g3 } := by
        rw [hf]
        refine HandSPX.setFlight_upZ fl3 fun g4 in4 up4 => wpAny_throw (tk _ _ ?_)
        exact ⟨a, B, sI, pins, τ, G, cls, d, rfl, JX, nb, (upS.trans up3).trans up4, .inr (.inr (by rw [hs]; exact in4)), na, os, ag, no rfl⟩
      first
        | exact wpAny_bind (wpAny_pure (wpAny_bind out))
        | exact wpAny_bind out
  · cases fl with
    | next =>
      obtain ⟨τ, G, JT, r⟩ := ends
      exact wpAny_execs_nil ⟨τ, G, JT.ofTry okX, r⟩
    | brk =>
      obtain ⟨τ, G, JT, r⟩ := ends
      exact ⟨τ, G, JT.ofTry okX, r⟩
    | cont =>
      obtain ⟨τ, G, JT, r⟩ := ends
      exact ⟨τ, G, JT.ofTry okX, r⟩
    | ret u =>
      obtain ⟨v, τ, G, JT, r1, r2⟩ := ends
      exact ⟨v, τ, G, JT.ofTry okX, r1, r2⟩
/-- isinstance(e, c), e a held exception -/
def rIsX (K : PySem.W.Frag) : List V → Hp → VK → Prop := fun xs H Q => ∃ (a D : Addr) (c : V) (cv : Value) (b : Bool), xs = [.ref a, c] ∧ H a = some (CxO (.ref D) none a) ∧ ExcC K D ∧ ClsV c cv ∧ PySem.W.kitOne K (.ref D) cv = some b ∧ Q (.bl b) H
theorem call_isX : CallR X (.builtin "isinstance") (rIsX X.K) := by
  intro pins s σ H xs us Q I r h
  obtain ⟨a, D, cl, cv, b, rfl, ha, C, only, says, q⟩ := h
  cases r with
  | cons rx rr =>
    cases rr with
    | cons rt rr =>
      cases rr
      cases rx
      have ec := only.eq rt
      subst ec
      obtain ⟨⟨ob, vs, at_, z, dt⟩, _, _⟩ := I.hok a _ ha
      have J : PySem.W.InstAt s.heap a ob D none := by
        obtain ⟨oc, od, oda, osl⟩ := ob
        obtain ⟨h1, h2⟩ := z
        dsimp only at h1 h2 dt
        subst h1 h2 dt
        exact ⟨at_, rfl, rfl, trivial⟩
      refine PySem.W.kia_one (PySem.W.handS_kitx_exc C.hg C.hk C.hs C.hd C.ha C.hn C.ht C.hm) I.kIn J says (fun w => nomatch w) fun tk => ?_
      exact ⟨.bl b, H, I.kept (t' := tk) fun _ _ w => w, rfl, q⟩
end
end Ow
namespace Ow
open PySem PySem.Spec PyProof.Rows L2
/-- xs[i], where it is read to be put anew -/
theorem get_list {X : Cx} : PGet X (rIxL X.K) := by
  intro pins s σ H o i ov iv Q I ro ri h
  obtain ⟨p, xs, k, z, rfl, rfl, hq, he, q⟩ := h
  cases ro
  obtain ⟨t, rfl⟩ := ri
  obtain ⟨its, r, pl, hz⟩ := I.list hq
  obtain ⟨j, h1, h2, h3, h4, h5⟩ := atI_get he
  obtain ⟨w, ew, rw'⟩ := r.get h2
  have lenX := r.length
  have wide := line63
  have done : EP X pins σ Q w s := ⟨z, H, I, rw', q⟩
  by_cases h0 : 0 ≤ k
  · have hk : k.toNat = j := by
      rw [seqIndex_of h0 h5] at h1
      exact Option.some.inj h1
    exact wpAny_getItem_list pl.isList h0 (by omega) (by rw [hk]; simpa using ew) done
  · have hk : (k + (its.toArray.size : Int)).toNat = j := by
      rw [seqIndex_neg (by omega) h4] at h1
      rw [List.size_toArray, ← lenX]
      exact Option.some.inj h1
    exact wpAny_getItem_list_neg pl.isList (by omega) (by rw [List.size_toArray] <;> omega) (by omega) (by rw [hk]; simpa using ew) done
end Ow
namespace Ow
open PySem PySem.Spec PyProof.Rows L2
/-! ### facts of exceptions, by one look -/
def excB (K : PySem.W.Frag) (D : Addr) : Bool := [PySem.W.findIn K (.ref D) "__getattribute__" == some (some (.builtin "BaseException.__getattribute__")), PySem.W.findIn K (.ref D) "__getattr__" == some none, PySem.W.subIn K (.ref D) (.type "BaseException") == some true, PySem.W.hasDictIn K D,
  PySem.W.findIn K (.ref D) "__class__" == some (some (.builtin "object.__class__")), PySem.W.specialIn K (.builtin "object.__class__") "__get__" == some (some (.builtin "getset_descriptor.__get__")), PySem.W.takesIn K (.builtin "object.__class__") == some true, PySem.W.mroIn K D (.type "object") == some true].all id
theorem all_at {l : List Bool} (h : l.all id = true) (k : Nat) {b : Bool} (e : l[k]? = some b) : b = true := List.all_eq_true.mp h b (List.mem_of_getElem? e)
theorem excB_ok {K : PySem.W.Frag} {D : Addr} (h : excB K D = true) : ExcC K D :=
  ⟨eq_of_beq (all_at h 0 rfl), eq_of_beq (all_at h 1 rfl), eq_of_beq (all_at h 2 rfl), all_at h 3 rfl, eq_of_beq (all_at h 4 rfl), eq_of_beq (all_at h 5 rfl), eq_of_beq (all_at h 6 rfl), eq_of_beq (all_at h 7 rfl)⟩
end Ow
namespace Ow
open PySem PySem.Spec PyProof.Rows L2
/-! ### rows of flat things -/
theorem fl_of {v : V} (h : flatV v = true) : flatV v = true := h
theorem all_flat (ns : List Int) : (ns.map V.int).all flatV = true := List.all_eq_true.mpr fun x hx => by
  obtain ⟨y, _, rfl⟩ := List.mem_map.mp hx
  rfl
theorem all_flatS (ns : List Str) : (ns.map V.str).all flatV = true := List.all_eq_true.mpr fun x hx => by
  obtain ⟨y, _, rfl⟩ := List.mem_map.mp hx
  rfl
theorem eqV_int (i j : Int) : eqV (.int i) (.int j) = decide (i = j) := by
  show (i == j) = _
  by_cases h : i = j
  · rw [decide_eq_true h, h]; simp
  · rw [decide_eq_false h]; simp [h]
theorem inV_ints (i : Int) (ns : List Int) : inV (.int i) (ns.map V.int) = decide (i ∈ ns) := by
  unfold inV
  rw [List.any_map]
  by_cases h : i ∈ ns
  · rw [decide_eq_true h]
    exact List.any_eq_true.mpr ⟨i, h, by show eqV (.int i) (.int i) = true; rw [eqV_int]; simp⟩
  · rw [decide_eq_false h]
    refine List.any_eq_false.mpr fun x hx => ?_
    show ¬ eqV (.int x) (.int i) = true
    rw [eqV_int]
    intro z
    exact h (of_decide_eq_true z ▸ hx)
theorem rep_flat (n : Nat) (v : V) : (List.replicate ((n : Nat) : Int).toNat [v]).flatten = List.replicate n v := by
  rw [Int.toNat_natCast]
  induction n with
  | zero => rfl
  | succ n ih => rw [List.replicate_succ, List.flatten_cons, ih]; rfl
theorem rep_map {α : Type} (f : α → V) (n : Nat) (a : α) : List.replicate n (f a) = (List.replicate n a).map f := (List.map_replicate).symm
end Ow
namespace Ow
open PySem PySem.Spec PyProof.Rows L2
theorem set_split {α : Type} {cs : List α} {i : Nat} {x y : α} (h : cs[i]? = some x) : cs.set i y = cs.take i ++ y :: cs.drop (i + 1) := by
  have h1 := (List.getElem?_eq_some_iff.mp h).1
  rw [List.set_eq_take_append_cons_drop, if_pos h1]
theorem at_split {α : Type} {cs : List α} {i : Nat} {x : α} (h : cs[i]? = some x) : cs = cs.take i ++ x :: cs.drop (i + 1) := by
  obtain ⟨h1, rfl⟩ := List.getElem?_eq_some_iff.mp h
  rw [List.getElem_cons_drop h1, List.take_append_drop]
theorem set_map {α β : Type} (f : α → β) : ∀ (l : List α) (i : Nat) (a : α), (l.map f).set i (f a) = (l.set i a).map f
  | [], _, _ => rfl
  | _ :: _, 0, _ => rfl
  | x :: r, i + 1, a => by rw [List.map_cons, List.set_cons_succ, List.set_cons_succ, List.map_cons, set_map f r i a]
theorem ix_at {n i : Nat} (h : i < n) : ixN n (i : Int) = some i := by
  unfold ixN
  rw [if_pos (by omega), if_pos (by omega), Int.toNat_natCast]
/-- a thing of a row is put anew: its old cell is let go -/
theorem Own.put {α : Type} {H0 H : Hp} {A : List Addr} {pre : Cells} {l : List α} {g : α → Addr × HO} {b y : α} {j : Nat} (O : Own H0 H A (g b :: (pre ++ l.map g))) (h : l[j]? = some y) : Own H0 H A (pre ++ (l.set j b).map g) := by
  have e := at_split h
  have O1 : Own H0 H A (g b :: (pre ++ ((l.take j).map g ++ (l.drop (j + 1)).map g))) := O.drop (by
    conv => rhs; rw [e, List.map_append, List.map_cons]
    exact .cons₂ _ (.append (.refl _) (.append (.refl _) (.cons _ (.refl _)))))
  rw [set_split h, List.map_append, List.map_cons]
  refine O1.perm ?_
  rw [← List.append_assoc, ← List.append_assoc]
  exact List.perm_middle.symm
end Ow
namespace Ow
open PySem PySem.Spec PyProof.Rows L2
theorem take_succ {α : Type} {l : List α} {i : Nat} {y : α} (h : l[i]? = some y) : l.take (i + 1) = l.take i ++ [y] := by
  rw [List.take_succ, h]; rfl
theorem sorted_ext : ∀ {l k : List Int}, l.Pairwise (· < ·) → k.Pairwise (· < ·) → (∀ m, m ∈ l ↔ m ∈ k) → l = k
  | [], [], _, _, _ => rfl
  | [], y :: k, _, _, h => absurd ((h y).mpr List.mem_cons_self) (by simp)
  | x :: l, [], _, _, h => absurd ((h x).mp List.mem_cons_self) (by simp)
  | x :: l, y :: k, h1, h2, h => by
    obtain ⟨a1, a2⟩ := List.pairwise_cons.mp h1
    obtain ⟨b1, b2⟩ := List.pairwise_cons.mp h2
    have e : x = y := by
      rcases List.mem_cons.mp ((h x).mp List.mem_cons_self) with z | z
      · exact z
      · rcases List.mem_cons.mp ((h y).mpr List.mem_cons_self) with w | w
        · exact w.symm
        · have := b1 _ z
          have := a1 _ w
          omega
    subst e
    rw [sorted_ext a2 b2 fun m => ⟨fun hm => ?_, fun hm => ?_⟩]
    · rcases List.mem_cons.mp ((h m).mp (List.mem_cons_of_mem _ hm)) with z | z
      · have := a1 _ hm; omega
      · exact z
    · rcases List.mem_cons.mp ((h m).mpr (List.mem_cons_of_mem _ hm)) with z | z
      · have := b1 _ hm; omega
      · exact z
end Ow
namespace Ow
open L2 in
/-- behind a call: what it has made stands ahead -/
theorem Own.callE {H0 H H' : Hp} {A : List PySem.Addr} {cs s s' cs' e : Cells} (O : Own H0 H A cs) (h : Sub cs s s' cs') (C : Own H H' (Ow.adr s) (e ++ s')) : Own H0 H' A (e ++ cs') := by
  obtain ⟨l, r, rfl, rfl⟩ := h.split
  have O1 := O.call (cs' := l ++ ((e ++ s') ++ r)) (.app .here) C
  refine O1.perm ?_
  have e1 : l ++ ((e ++ s') ++ r) = (l ++ e) ++ (s' ++ r) := by simp only [List.append_assoc]
  have e2 : e ++ (l ++ (s' ++ r)) = (e ++ l) ++ (s' ++ r) := by simp only [List.append_assoc]
  rw [e1, e2]
  exact (List.perm_append_comm).append_right _
end Ow
namespace Ow
open PySem PySem.Spec PyProof.Rows L2
/-- a new thing, as the goal names it: it is ours from now on -/
theorem Own.nxt {H0 H : Hp} {A : List Addr} {cs : Cells} {p : Addr} {o : HO} {G : Hp → Prop} (O : Own H0 H A cs) (h : H p = none) (k : Own H0 (upd H p o) A ((p, o) :: cs) → G (upd H p o)) : G (upd H p o) := k (O.new h)
theorem Own.nxtQ {H0 H : Hp} {A : List Addr} {cs : Cells} {p : Addr} {o : HO} {Q : VK} {G : Hp → VK → Prop} (O : Own H0 H A cs) (h : H p = none) (k : Own H0 (upd H p o) A ((p, o) :: cs) → G (upd H p o) Q) : G (upd H p o) Q := k (O.new h)
end Ow
namespace Ow
open PySem PySem.Spec PyProof.Rows L2
/-! ### loops and comprehensions over anything that is walked -/
section
variable {J : It} {n : Nat} {G : Hp → Prop} {Y : Nat → Hp → V → Hp → Prop}
theorem forW (w : Walk J n G Y) {g : TG} {tb : TS} {D : Ends} {σ : L2.St} {H : Hp} (Pv : Nat → L2.St → Hp → Prop) (h0 : Pv 0 σ H) (hG : ∀ i σ H, i ≤ n → Pv i σ H → G H)
    (hs : ∀ i x σ H H', i < n → Pv i σ H → Y i H x H' → g x σ H' fun σ2 H2 => tb { D with nx := fun σ H => Box (Pv (i + 1) σ H), ct := fun σ H => Box (Pv (i + 1) σ H), bk := D.nx } σ2 H2) (hd : ∀ σ H, Pv n σ H → D.nx σ H) :
    Box (∃ W : Nat → Nat → L2.St → Hp → Prop, (∃ m, W 0 m σ H) ∧ ∀ i m σ H, W i m σ H →
      (J.stop i H ∧ D.nx σ H) ∨ (J.go i H ∧ ∃ N : L2.St → Hp → Prop, (∀ σ' H', N σ' H' → ∃ m', m' < m ∧ W (i + 1) m' σ' H') ∧ ∀ x H', J.yld i H x H' → g x σ H' fun σ2 H2 => tb { D with nx := N, ct := N, bk := D.nx } σ2 H2)) :=
  ⟨for_it w (fun i σ H => Box (Pv i σ H)) ⟨h0⟩ (fun i σ H hi p => hG i σ H hi p.out) (fun i x σ H H' hi p y => hs i x σ H H' hi p.out y) (fun σ H p => hd σ H p.out)⟩
theorem lcW (w : Walk J n G Y) {g : TG} {tt : TT} {te : TE} {vs : List Nat} {σ : L2.St} {H1 : Hp} {Q : Addr → Hp → Prop} (Pv : Addr → Nat → Hp → Prop) (h0 : ∀ D, H1 D = none → Pv D 0 (upd H1 D (.lst []))) (hG : ∀ D i H, i ≤ n → Pv D i H → G H)
    (hs : ∀ D i x H H', i < n → Pv D i H → Y i H x H' → g x (wipe σ vs) H' fun σ2 H2 => wipe σ2 vs = wipe σ vs ∧ tt σ2 H2 fun b H3 =>
      if b = true then te σ2 H3 fun y H4 => ∃ acc, H4 D = some (.lst acc) ∧ acc.length < sizeLine ∧ Box (Pv D (i + 1) (upd H4 D (.lst (acc ++ [y])))) else Box (Pv D (i + 1) H3)) (hd : ∀ D H, Pv D n H → Q D H) :
    Box (∀ D, H1 D = none → ∃ W : Nat → Nat → Hp → Prop, (∃ m, W 0 m (upd H1 D (.lst []))) ∧ ∀ i m H, W i m H →
      (J.stop i H ∧ Q D H) ∨ (J.go i H ∧ ∃ Nx : Hp → Prop, (∀ H', Nx H' → ∃ m', m' < m ∧ W (i + 1) m' H') ∧ ∀ x H', J.yld i H x H' → g x (wipe σ vs) H' fun σ2 H2 => wipe σ2 vs = wipe σ vs ∧ tt σ2 H2 fun b H3 =>
        if b = true then te σ2 H3 fun y H4 => ∃ acc, H4 D = some (.lst acc) ∧ acc.length < sizeLine ∧ Nx (upd H4 D (.lst (acc ++ [y]))) else Nx H3)) :=
  ⟨fun D hD => lc_it w (fun i H => Box (Pv D i H)) ⟨h0 D hD⟩ (fun i H hi p => hG D i H hi p.out) (fun i x H H' hi p y => hs D i x H H' hi p.out y) (fun H p => hd D H p.out)⟩
end
/-- None or a whole number -/
def oV : Option Int → V
  | none => .non
  | some i => .int i
theorem putF_lt {f : Str} {v : V} {n : Nat} : ∀ {fs : List (Str × V)}, fs.length < n → (putF f v fs).length < n + 1
  | [], h => by show 1 < n + 1; simp only [List.length_nil] at h; omega
  | (g, x) :: r, h => by
    rw [List.length_cons] at h
    unfold putF
    by_cases e : g = f
    · rw [if_pos e, List.length_cons]; omega
    · rw [if_neg e, List.length_cons]
      have := putF_lt (f := f) (v := v) (n := n - 1) (fs := r) (by omega)
      omega
theorem at_of {xs : List V} {i : Int} {v : V} (h : atI xs i = some v) : atI xs i = some v := h
theorem ix_of {n : Nat} {i : Int} {j : Nat} (h : ixN n i = some j) : ixN n i = some j := h
theorem cp_of {i j : Int} (h : CPow i j) : CPow i j := h
theorem cmw_of {i j : Int} (h : CMulW i j) : CMulW i j := h
theorem eq_oV {o : Option Int} {j : Int} : decide (oV o = V.int j) = decide (o = some j) := by
  cases o with
  | none => simp [oV]
  | some i => simp [oV]
theorem zip_all {α β γ : Type} [DecidableEq γ] (f : α → γ) (g : β → γ) : ∀ (xs : List α) (ys : List β), xs.length = ys.length → ((xs.zip ys).map fun p => decide (f p.1 = g p.2)).all id = decide (xs.map f = ys.map g)
  | [], [], _ => rfl
  | [], _ :: _, h => by cases h
  | _ :: _, [], h => by cases h
  | x :: xs, y :: ys, h => by
    have ih := zip_all f g xs ys (by simpa using h)
    simp only [List.zip_cons_cons, List.map_cons, List.all_cons, id_eq, ih, List.cons.injEq, Bool.decide_and]
theorem zip_at {α β : Type} {xs : List α} {ys : List β} {i : Nat} {x : α} {y : β} (h1 : xs[i]? = some x) (h2 : ys[i]? = some y) : (xs.zip ys)[i]? = some (x, y) := List.getElem?_zip_eq_some.mpr ⟨h1, h2⟩
/-! ### readings by name, for what stands within a comprehension -/
def rLenSq (K : PySem.W.Frag) : List V → Hp → VK → Prop := fun xs H Q => ∃ p ys, xs = [.ref p] ∧ (SqL K H p ys ∨ SqT K H p ys) ∧ Q (.int ys.length) H
def rLenV (K : PySem.W.Frag) : List V → Hp → VK → Prop := fun xs H Q => ∃ x n, xs = [x] ∧ LenV K x H n ∧ Q (.int n) H
def rListOf (K : PySem.W.Frag) : List V → Hp → VK → Prop := fun xs H Q => ∃ p ys, xs = [.ref p] ∧ (SqL K H p ys ∨ SqT K H p ys) ∧ ∀ l, H l = none → Q (.ref l) (upd H l (.lst ys))
def rTupOf (K : PySem.W.Frag) : List V → Hp → VK → Prop := fun xs H Q => ∃ p ys, xs = [.ref p] ∧ ((SqL K H p ys ∧ ∀ l, H l = none → Q (.ref l) (upd H l (.tup ys))) ∨ (SqT K H p ys ∧ Q (.ref p) H))
/-! ### rows of whole numbers, each with its place -/
abbrev Pg := Addr × List Int
abbrev pcel (x : Pg) : Addr × HO := (x.1, .lst (x.2.map V.int))
/-- the rows stand in the heap -/
def RowsAt (H : Hp) (rs : List Pg) : Prop := ∀ r ∈ rs, H r.1 = some (.lst (r.2.map V.int))
theorem RowsAt.mono {H0 H : Hp} {cs : Cells} {rs : List Pg} (h : RowsAt H0 rs) (O : Own H0 H [] cs) : RowsAt H rs := fun r hr => O.fr0 (h r hr)
theorem Own.rows {H0 H : Hp} {A : List Addr} {cs : Cells} {rs : List Pg} (O : Own H0 H A cs) (h : ∀ r ∈ rs, pcel r ∈ cs) : RowsAt H rs := fun r hr => O.get (h r hr)
theorem refs_get {rs : List Pg} {i : Nat} {x : V} (h : (rs.map fun x : Pg => V.ref x.1)[i]? = some x) : ∃ y, rs[i]? = some y ∧ x = V.ref y.1 := by
  rw [List.getElem?_map] at h
  cases e : rs[i]? with
  | none => rw [e] at h; cases h
  | some y => rw [e] at h; exact ⟨y, rfl, (Option.some.inj h).symm⟩
/-- a thing of a row is put anew, where more stands behind -/
theorem Own.put2 {α : Type} {H0 H : Hp} {A : List Addr} {pre post : Cells} {l : List α} {g : α → Addr × HO} {b y : α} {j : Nat} (O : Own H0 H A (g b :: (pre ++ (l.map g ++ post)))) (h : l[j]? = some y) : Own H0 H A (pre ++ ((l.set j b).map g ++ post)) := by
  have O1 : Own H0 H A (g b :: ((post ++ pre) ++ l.map g)) := O.perm (by
    refine .cons _ ?_
    rw [List.append_assoc, ← List.append_assoc pre]
    exact List.perm_append_comm)
  have O2 := O1.put h
  refine O2.perm ?_
  rw [List.append_assoc, ← List.append_assoc pre]
  exact List.perm_append_comm
theorem rgV0 (n : Nat) : rgV 0 (n : Int) = ((List.range n).map fun i : Nat => (i : Int)).map V.int := by
  unfold rgV
  rw [List.map_map, show ((n : Int) - 0).toNat = n by omega]
  exact List.map_congr_left fun i _ => by rw [Int.zero_add]; rfl
theorem cutV_to (xs : List V) (n : Nat) : cutV xs none (some (n : Int)) = xs.take n := by
  unfold cutV
  rw [HT.sIx_nat]
  show (xs.drop 0).take _ = _
  rw [List.drop_zero, HT.sIx_none, Nat.sub_zero]
  by_cases h : n ≤ xs.length
  · rw [show min n xs.length = n by omega]
  · rw [show min n xs.length = xs.length by omega, List.take_length, List.take_of_length_le (by omega)]
theorem cutV_from (xs : List V) (n : Nat) : cutV xs (some (n : Int)) none = xs.drop n := by
  unfold cutV
  rw [HT.sIx_nat]
  show (xs.drop (min n xs.length)).take (xs.length - min n xs.length) = _
  by_cases h : n ≤ xs.length
  · rw [show min n xs.length = n by omega, List.take_of_length_le (by rw [List.length_drop]; omega)]
  · rw [show min n xs.length = xs.length by omega, List.drop_length, List.drop_eq_nil_of_le (by omega), List.take_nil]
/-! ### held exceptions, asked about several classes -/
/-- isinstance(e, (c, ..)), e a held exception -/
def rIsXT (K : PySem.W.Frag) : List V → Hp → VK → Prop := fun xs H Q => ∃ (a D tp : Addr) (cs : List V) (us : List Value) (b : Bool), xs = [.ref a, .ref tp] ∧ H a = some (CxO (.ref D) none a) ∧ ExcC K D ∧ H tp = some (.tup cs) ∧ Paired ClsV cs us ∧ PySem.W.kitAny K (.ref D) us = some b ∧ Q (.bl b) H
theorem call_isXT {X : Cx} : CallR X (.builtin "isinstance") (rIsXT X.K) := by
  intro pins s σ H xs us Q I r h
  obtain ⟨a, D, tp, cs, ws, b, rfl, ha, C, hT, k, says, q⟩ := h
  obtain ⟨u1, u2, rfl, r1, r2⟩ := vals2 r
  cases (show u1 = Value.ref a from r1)
  cases (show u2 = Value.ref tp from r2)
  obtain ⟨⟨ob, vs, at_, z, dt⟩, _, _⟩ := I.hok a _ ha
  have J : PySem.W.InstAt s.heap a ob D none := by
    obtain ⟨oc, od, oda, osl⟩ := ob
    obtain ⟨h1, h2⟩ := z
    dsimp only at h1 h2 dt
    subst h1 h2 dt
    exact ⟨at_, rfl, rfl, trivial⟩
  obtain ⟨_, its, rv, o, h1, h2, n, h3⟩ := (show ObjOk X.prog X.w H s.heap tp (.tup cs) from I.hok tp _ hT)
  have e3 := ClsV.all k rv
  subst e3
  obtain ⟨oc, od, dt, sl⟩ := o
  simp only at h2 h3
  subst h2 h3
  refine PySem.W.kia_tup (PySem.W.handS_kitx_exc C.hg C.hk C.hs C.hd C.ha C.hn C.ht C.hm) I.kIn J h1 says (fun w => nomatch w) fun tk => ?_
  exact ⟨.bl b, H, I.kept (t' := tk) fun _ _ w => w, rfl, q⟩
theorem kit_any {K : PySem.W.Frag} {t : Value} : ∀ {us : List Value} {bs : List Bool}, Paired (fun u b => PySem.W.kitOne K t u = some b) us bs → PySem.W.kitAny K t us = some (bs.any id)
  | _, _, .nil => rfl
  | _, _, .cons (b := b) h k => by
    refine kitAny_cons h (fun e => ?_) (fun e => ?_)
    · have z := kit_any k
      rw [e]; exact z
    · rw [e]; rfl
/-! ### a dict is locked while it is walked -/
theorem lock_d {H : Hp} {d : Addr} {kvs : List (Key × V)} {t : TS} {D : Ends} {σ : L2.St} (h : H d = some (.dK kvs))
    (k : ∀ od, t ⟨fun σ' H' => H' d = some (.frz od (.dK kvs)) ∧ D.nx σ' (upd H' d (.dK kvs)), fun v H' => H' d = some (.frz od (.dK kvs)) ∧ D.rt v (upd H' d (.dK kvs)), fun σ' H' => H' d = some (.frz od (.dK kvs)) ∧ D.bk σ' (upd H' d (.dK kvs)), fun σ' H' => H' d = some (.frz od (.dK kvs)) ∧ D.ct σ' (upd H' d (.dK kvs))⟩ σ (upd H d (.frz od (.dK kvs)))) : tLock t D σ H :=
  ⟨d, _, h, True.intro, k⟩
end Ow
namespace Ow
open PySem PySem.Spec PyProof.Rows L2
def top (i : Nat) : Stmt := PySem.Challenge.pw_ownroom_k26_disks_that_fall.main.body.getD i (.Pass ⟨0, 0, 0, 0⟩)
abbrev s_Disk___init__ : Stmt := inClass (top 13) 0
abbrev s_Disk_look : Stmt := inClass (top 13) 1
abbrev s_Disk_read : Stmt := inClass (top 13) 2
abbrev s_Disk_write : Stmt := inClass (top 13) 3
abbrev s_Disk_writes : Stmt := inClass (top 13) 4
abbrev s_Disk_fall : Stmt := inClass (top 13) 5
abbrev s_Disk_rise : Stmt := inClass (top 13) 6
abbrev s_Disk_image : Stmt := inClass (top 13) 7
abbrev s__law_cell_at : Stmt := top 15
abbrev s__law_mixed : Stmt := top 16
abbrev s__law_wide : Stmt := top 17
abbrev s__law_numbers : Stmt := top 18
abbrev s__law_row_is : Stmt := top 19
abbrev s__law_rows_are : Stmt := top 20
abbrev s__law_count_is : Stmt := top 21
abbrev s__law_kind : Stmt := top 22
abbrev s__law_due : Stmt := top 23
abbrev s__law_turned : Stmt := top 24
abbrev s_law : Stmt := top 25
def fns0 : List He.DefD := [⟨("Disk", some "__init__"), "__init__", "Disk.__init__", defArgs (inClass (top 13) 0), defBody (inClass (top 13) 0), defScope (inClass (top 13) 0), [], []⟩, ⟨("Disk", some "look"), "look", "Disk.look", defArgs (inClass (top 13) 1), defBody (inClass (top 13) 1), defScope (inClass (top 13) 1), [], []⟩, ⟨("Disk", some "read"), "read", "Disk.read", defArgs (inClass (top 13) 2), defBody (inClass (top 13) 2), defScope (inClass (top 13) 2), [], []⟩, ⟨("Disk", some "write"), "write", "Disk.write", defArgs (inClass (top 13) 3), defBody (inClass (top 13) 3), defScope (inClass (top 13) 3), [], []⟩, ⟨("Disk", some "writes"), "writes", "Disk.writes", defArgs (inClass (top 13) 4), defBody (inClass (top 13) 4), defScope (inClass (top 13) 4), [], []⟩, ⟨("Disk", some "fall"), "fall", "Disk.fall", defArgs (inClass (top 13) 5), defBody (inClass (top 13) 5), defScope (inClass (top 13) 5), [], []⟩, ⟨("Disk", some "rise"), "rise", "Disk.rise", defArgs (inClass (top 13) 6), defBody (inClass (top 13) 6), defScope (inClass (top 13) 6), [], []⟩, ⟨("Disk", some "image"), "image", "Disk.image", defArgs (inClass (top 13) 7), defBody (inClass (top 13) 7), defScope (inClass (top 13) 7), [], []⟩, ⟨("_law_cell_at", none), "_law_cell_at", "_law_cell_at", defArgs (top 15), defBody (top 15), defScope (top 15), [], []⟩, ⟨("_law_mixed", none), "_law_mixed", "_law_mixed", defArgs (top 16), defBody (top 16), defScope (top 16), [], []⟩, ⟨("_law_wide", none), "_law_wide", "_law_wide", defArgs (top 17), defBody (top 17), defScope (top 17), [], []⟩, ⟨("_law_numbers", none), "_law_numbers", "_law_numbers", defArgs (top 18), defBody (top 18), defScope (top 18), [], []⟩, ⟨("_law_row_is", none), "_law_row_is", "_law_row_is", defArgs (top 19), defBody (top 19), defScope (top 19), [], []⟩, ⟨("_law_rows_are", none), "_law_rows_are", "_law_rows_are", defArgs (top 20), defBody (top 20), defScope (top 20), [], []⟩, ⟨("_law_count_is", none), "_law_count_is", "_law_count_is", defArgs (top 21), defBody (top 21), defScope (top 21), [], []⟩, ⟨("_law_kind", none), "_law_kind", "_law_kind", defArgs (top 22), defBody (top 22), defScope (top 22), [], []⟩, ⟨("_law_due", none), "_law_due", "_law_due", defArgs (top 23), defBody (top 23), defScope (top 23), [], []⟩, ⟨("_law_turned", none), "_law_turned", "_law_turned", defArgs (top 24), defBody (top 24), defScope (top 24), [], []⟩, ⟨("law", none), "law", "law", defArgs (top 25), defBody (top 25), defScope (top 25), [], []⟩]
def fns : List He.DefD := fns0
def fa0 : List He.Fa := [.glo "KernelError", .glo "NoOwner", .glo "NoTask", .glo "NoPage", .glo "NoBlock", .glo "Fallen", .glo "BadName", .glo "NoNode", .glo "NoSpace", .glo "BadCall", .int "BLOCK" 16, .glo "Disk", .glo "_law_cell_at", .glo "_law_mixed", .glo "_law_wide", .glo "_law_numbers", .glo "_law_row_is", .glo "_law_rows_are", .glo "_law_count_is", .glo "_law_kind", .glo "_law_due", .glo "_law_turned", .glo "law", .free "ValueError"]
def fa1 : List He.Fa := [.free "range", .free "all", .free "isinstance", .free "list", .free "len", .free "abs", .free "int", .free "min", .free "bool", .free "zip", .exc "KernelError", .exc "NoOwner", .exc "NoTask", .exc "NoPage", .exc "NoBlock", .exc "Fallen", .exc "BadName", .exc "NoNode", .exc "NoSpace", .exc "BadCall", .cls "Disk", .mkr "Disk", .meth "Disk" "look", .meth "Disk" "read"]
def fa2 : List He.Fa := [.meth "Disk" "write", .meth "Disk" "writes", .meth "Disk" "fall", .meth "Disk" "rise", .meth "Disk" "image", .noat "Disk" "blocks", .noat "Disk" "done", .noat "Disk" "left", .noat "Disk" "down"]
def fas : List He.Fa := fa0 ++ fa1 ++ fa2
def exL0 (K : PySem.W.Frag) : List Bool := [excB K (He.ga K "NoBlock"), (PySem.W.kitOne K (.ref (He.ga K "NoBlock")) (.ref (He.ga K "BadCall")) == some false), (PySem.W.kitOne K (.ref (He.ga K "NoBlock")) (.ref (He.ga K "BadName")) == some false), (PySem.W.kitOne K (.ref (He.ga K "NoBlock")) (.ref (He.ga K "NoNode")) == some false), (PySem.W.kitOne K (.ref (He.ga K "NoBlock")) (.ref (He.ga K "NoOwner")) == some false), (PySem.W.kitOne K (.ref (He.ga K "NoBlock")) (.ref (He.ga K "NoPage")) == some false), (PySem.W.kitOne K (.ref (He.ga K "NoBlock")) (.ref (He.ga K "NoSpace")) == some false), (PySem.W.kitOne K (.ref (He.ga K "NoBlock")) (.ref (He.ga K "NoTask")) == some false), (PySem.W.kitOne K (.ref (He.ga K "NoBlock")) (.type "ValueError") == some true), (PySem.W.kitOne K (.ref (He.ga K "NoBlock")) (.ref (He.ga K "NoBlock")) == some true), (PySem.W.kitOne K (.ref (He.ga K "NoBlock")) (.ref (He.ga K "Fallen")) == some false), (PySem.W.exmOne K (.ref (He.ga K "NoBlock")) (.ref (He.ga K "KernelError")) == some true)]
def exL1 (K : PySem.W.Frag) : List Bool := [excB K (He.ga K "Fallen"), (PySem.W.kitOne K (.ref (He.ga K "Fallen")) (.ref (He.ga K "BadCall")) == some false), (PySem.W.kitOne K (.ref (He.ga K "Fallen")) (.ref (He.ga K "BadName")) == some false), (PySem.W.kitOne K (.ref (He.ga K "Fallen")) (.ref (He.ga K "NoNode")) == some false), (PySem.W.kitOne K (.ref (He.ga K "Fallen")) (.ref (He.ga K "NoOwner")) == some false), (PySem.W.kitOne K (.ref (He.ga K "Fallen")) (.ref (He.ga K "NoPage")) == some false), (PySem.W.kitOne K (.ref (He.ga K "Fallen")) (.ref (He.ga K "NoSpace")) == some false), (PySem.W.kitOne K (.ref (He.ga K "Fallen")) (.ref (He.ga K "NoTask")) == some false), (PySem.W.kitOne K (.ref (He.ga K "Fallen")) (.type "ValueError") == some true), (PySem.W.kitOne K (.ref (He.ga K "Fallen")) (.ref (He.ga K "NoBlock")) == some false), (PySem.W.kitOne K (.ref (He.ga K "Fallen")) (.ref (He.ga K "Fallen")) == some true), (PySem.W.exmOne K (.ref (He.ga K "Fallen")) (.ref (He.ga K "KernelError")) == some true)]
def exL (K : PySem.W.Frag) : List Bool := [(exL0 K).all id, (exL1 K).all id]
def exB (K : PySem.W.Frag) : Bool := (exL K).all id
abbrev hk : PySem.W.Hook := He.hookX 5 fas fns [] [] exB
def ob (s : PySem.W.SharedT) : He.AlX := He.obsX 5 fas fns [] [] exB (HandSHeadRun.getT s)
theorem ob_eq (s : PySem.W.SharedT) : ob s = hk.obs s.abs := He.obsX_eq (HandSHeadRun.getT_eq s)
def loose0 : List PySem.Str := ["KernelError", "NoOwner", "NoTask", "NoPage", "NoBlock", "Fallen", "BadName", "NoNode", "NoSpace", "BadCall", "BLOCK", "Disk", "_law_cell_at", "_law_mixed", "_law_wide", "_law_numbers", "_law_row_is", "_law_rows_are", "_law_count_is", "_law_kind", "_law_due", "_law_turned"]
def loose : List PySem.Str := loose0
abbrev R : PySem.W.OpenRow := PySem.W.OpenLaw.row PySem.Challenge.rw_ownroom_k26_disks_that_fall
theorem run (w : World) : HandSHeadRun.RunEq R (PySem.W.view R.prog [25]) hk ob 60000 loose w := by
  intro os
  kernel_rfl
structure Txt (K : PySem.W.Frag) (mg : Str → Option Value) : Prop where
  g_KernelError : mg "KernelError" = some (.ref (He.ga K "KernelError"))
  g_NoOwner : mg "NoOwner" = some (.ref (He.ga K "NoOwner"))
  g_NoTask : mg "NoTask" = some (.ref (He.ga K "NoTask"))
  g_NoPage : mg "NoPage" = some (.ref (He.ga K "NoPage"))
  g_NoBlock : mg "NoBlock" = some (.ref (He.ga K "NoBlock"))
  g_Fallen : mg "Fallen" = some (.ref (He.ga K "Fallen"))
  g_BadName : mg "BadName" = some (.ref (He.ga K "BadName"))
  g_NoNode : mg "NoNode" = some (.ref (He.ga K "NoNode"))
  g_NoSpace : mg "NoSpace" = some (.ref (He.ga K "NoSpace"))
  g_BadCall : mg "BadCall" = some (.ref (He.ga K "BadCall"))
  g_BLOCK : ∃ t, mg "BLOCK" = some (.int 16 t)
  g_Disk : mg "Disk" = some (.ref (He.ga K "Disk"))
  g__law_cell_at : mg "_law_cell_at" = some (.ref (He.ga K "_law_cell_at"))
  g__law_mixed : mg "_law_mixed" = some (.ref (He.ga K "_law_mixed"))
  g__law_wide : mg "_law_wide" = some (.ref (He.ga K "_law_wide"))
  g__law_numbers : mg "_law_numbers" = some (.ref (He.ga K "_law_numbers"))
  g__law_row_is : mg "_law_row_is" = some (.ref (He.ga K "_law_row_is"))
  g__law_rows_are : mg "_law_rows_are" = some (.ref (He.ga K "_law_rows_are"))
  g__law_count_is : mg "_law_count_is" = some (.ref (He.ga K "_law_count_is"))
  g__law_kind : mg "_law_kind" = some (.ref (He.ga K "_law_kind"))
  g__law_due : mg "_law_due" = some (.ref (He.ga K "_law_due"))
  g__law_turned : mg "_law_turned" = some (.ref (He.ga K "_law_turned"))
  g_law : mg "law" = some (.ref (He.ga K "law"))
  n_ValueError : mg "ValueError" = none
  n_range : mg "range" = none
  n_all : mg "all" = none
  n_isinstance : mg "isinstance" = none
  n_list : mg "list" = none
  n_len : mg "len" = none
  n_abs : mg "abs" = none
  n_int : mg "int" = none
  n_min : mg "min" = none
  n_bool : mg "bool" = none
  n_zip : mg "zip" = none
  x_KernelError : XcIn K (He.ga K "KernelError")
  x_NoOwner : XcIn K (He.ga K "NoOwner")
  x_NoTask : XcIn K (He.ga K "NoTask")
  x_NoPage : XcIn K (He.ga K "NoPage")
  x_NoBlock : XcIn K (He.ga K "NoBlock")
  x_Fallen : XcIn K (He.ga K "Fallen")
  x_BadName : XcIn K (He.ga K "BadName")
  x_NoNode : XcIn K (He.ga K "NoNode")
  x_NoSpace : XcIn K (He.ga K "NoSpace")
  x_BadCall : XcIn K (He.ga K "BadCall")
  c_Disk : Cls K (He.ga K "Disk")
  m_Disk : Mk K (He.ga K "Disk") (He.ma K (He.ga K "Disk") "__init__")
  m_Disk_look : Meth K (He.ga K "Disk") "look" (He.ma K (He.ga K "Disk") "look")
  m_Disk_read : Meth K (He.ga K "Disk") "read" (He.ma K (He.ga K "Disk") "read")
  m_Disk_write : Meth K (He.ga K "Disk") "write" (He.ma K (He.ga K "Disk") "write")
  m_Disk_writes : Meth K (He.ga K "Disk") "writes" (He.ma K (He.ga K "Disk") "writes")
  m_Disk_fall : Meth K (He.ga K "Disk") "fall" (He.ma K (He.ga K "Disk") "fall")
  m_Disk_rise : Meth K (He.ga K "Disk") "rise" (He.ma K (He.ga K "Disk") "rise")
  m_Disk_image : Meth K (He.ga K "Disk") "image" (He.ma K (He.ga K "Disk") "image")
  a_Disk_blocks : NoAttr K (He.ga K "Disk") "blocks"
  a_Disk_done : NoAttr K (He.ga K "Disk") "done"
  a_Disk_left : NoAttr K (He.ga K "Disk") "left"
  a_Disk_down : NoAttr K (He.ga K "Disk") "down"
  e_NoBlock : ExcC K (He.ga K "NoBlock")
  k_NoBlock_BadCall : PySem.W.kitOne K (.ref (He.ga K "NoBlock")) (.ref (He.ga K "BadCall")) = some false
  k_NoBlock_BadName : PySem.W.kitOne K (.ref (He.ga K "NoBlock")) (.ref (He.ga K "BadName")) = some false
  k_NoBlock_NoNode : PySem.W.kitOne K (.ref (He.ga K "NoBlock")) (.ref (He.ga K "NoNode")) = some false
  k_NoBlock_NoOwner : PySem.W.kitOne K (.ref (He.ga K "NoBlock")) (.ref (He.ga K "NoOwner")) = some false
  k_NoBlock_NoPage : PySem.W.kitOne K (.ref (He.ga K "NoBlock")) (.ref (He.ga K "NoPage")) = some false
  k_NoBlock_NoSpace : PySem.W.kitOne K (.ref (He.ga K "NoBlock")) (.ref (He.ga K "NoSpace")) = some false
  k_NoBlock_NoTask : PySem.W.kitOne K (.ref (He.ga K "NoBlock")) (.ref (He.ga K "NoTask")) = some false
  k_NoBlock_ValueError : PySem.W.kitOne K (.ref (He.ga K "NoBlock")) (.type "ValueError") = some true
  k_NoBlock_NoBlock : PySem.W.kitOne K (.ref (He.ga K "NoBlock")) (.ref (He.ga K "NoBlock")) = some true
  k_NoBlock_Fallen : PySem.W.kitOne K (.ref (He.ga K "NoBlock")) (.ref (He.ga K "Fallen")) = some false
  y_NoBlock_KernelError : PySem.W.exmOne K (.ref (He.ga K "NoBlock")) (.ref (He.ga K "KernelError")) = some true
  e_Fallen : ExcC K (He.ga K "Fallen")
  k_Fallen_BadCall : PySem.W.kitOne K (.ref (He.ga K "Fallen")) (.ref (He.ga K "BadCall")) = some false
  k_Fallen_BadName : PySem.W.kitOne K (.ref (He.ga K "Fallen")) (.ref (He.ga K "BadName")) = some false
  k_Fallen_NoNode : PySem.W.kitOne K (.ref (He.ga K "Fallen")) (.ref (He.ga K "NoNode")) = some false
  k_Fallen_NoOwner : PySem.W.kitOne K (.ref (He.ga K "Fallen")) (.ref (He.ga K "NoOwner")) = some false
  k_Fallen_NoPage : PySem.W.kitOne K (.ref (He.ga K "Fallen")) (.ref (He.ga K "NoPage")) = some false
  k_Fallen_NoSpace : PySem.W.kitOne K (.ref (He.ga K "Fallen")) (.ref (He.ga K "NoSpace")) = some false
  k_Fallen_NoTask : PySem.W.kitOne K (.ref (He.ga K "Fallen")) (.ref (He.ga K "NoTask")) = some false
  k_Fallen_ValueError : PySem.W.kitOne K (.ref (He.ga K "Fallen")) (.type "ValueError") = some true
  k_Fallen_NoBlock : PySem.W.kitOne K (.ref (He.ga K "Fallen")) (.ref (He.ga K "NoBlock")) = some false
  k_Fallen_Fallen : PySem.W.kitOne K (.ref (He.ga K "Fallen")) (.ref (He.ga K "Fallen")) = some true
  y_Fallen_KernelError : PySem.W.exmOne K (.ref (He.ga K "Fallen")) (.ref (He.ga K "KernelError")) = some true
  d_Disk___init__ : ∃ fd, FunD K "__init__" "Disk.__init__" (defArgs s_Disk___init__) (defBody s_Disk___init__) (defScope s_Disk___init__) [] [] (He.fAd K ("Disk", some "__init__")) fd
  d_Disk_look : ∃ fd, FunD K "look" "Disk.look" (defArgs s_Disk_look) (defBody s_Disk_look) (defScope s_Disk_look) [] [] (He.fAd K ("Disk", some "look")) fd
  d_Disk_read : ∃ fd, FunD K "read" "Disk.read" (defArgs s_Disk_read) (defBody s_Disk_read) (defScope s_Disk_read) [] [] (He.fAd K ("Disk", some "read")) fd
  d_Disk_write : ∃ fd, FunD K "write" "Disk.write" (defArgs s_Disk_write) (defBody s_Disk_write) (defScope s_Disk_write) [] [] (He.fAd K ("Disk", some "write")) fd
  d_Disk_writes : ∃ fd, FunD K "writes" "Disk.writes" (defArgs s_Disk_writes) (defBody s_Disk_writes) (defScope s_Disk_writes) [] [] (He.fAd K ("Disk", some "writes")) fd
  d_Disk_fall : ∃ fd, FunD K "fall" "Disk.fall" (defArgs s_Disk_fall) (defBody s_Disk_fall) (defScope s_Disk_fall) [] [] (He.fAd K ("Disk", some "fall")) fd
  d_Disk_rise : ∃ fd, FunD K "rise" "Disk.rise" (defArgs s_Disk_rise) (defBody s_Disk_rise) (defScope s_Disk_rise) [] [] (He.fAd K ("Disk", some "rise")) fd
  d_Disk_image : ∃ fd, FunD K "image" "Disk.image" (defArgs s_Disk_image) (defBody s_Disk_image) (defScope s_Disk_image) [] [] (He.fAd K ("Disk", some "image")) fd
  d__law_cell_at : ∃ fd, FunD K "_law_cell_at" "_law_cell_at" (defArgs s__law_cell_at) (defBody s__law_cell_at) (defScope s__law_cell_at) [] [] (He.fAd K ("_law_cell_at", none)) fd
  d__law_mixed : ∃ fd, FunD K "_law_mixed" "_law_mixed" (defArgs s__law_mixed) (defBody s__law_mixed) (defScope s__law_mixed) [] [] (He.fAd K ("_law_mixed", none)) fd
  d__law_wide : ∃ fd, FunD K "_law_wide" "_law_wide" (defArgs s__law_wide) (defBody s__law_wide) (defScope s__law_wide) [] [] (He.fAd K ("_law_wide", none)) fd
  d__law_numbers : ∃ fd, FunD K "_law_numbers" "_law_numbers" (defArgs s__law_numbers) (defBody s__law_numbers) (defScope s__law_numbers) [] [] (He.fAd K ("_law_numbers", none)) fd
  d__law_row_is : ∃ fd, FunD K "_law_row_is" "_law_row_is" (defArgs s__law_row_is) (defBody s__law_row_is) (defScope s__law_row_is) [] [] (He.fAd K ("_law_row_is", none)) fd
  d__law_rows_are : ∃ fd, FunD K "_law_rows_are" "_law_rows_are" (defArgs s__law_rows_are) (defBody s__law_rows_are) (defScope s__law_rows_are) [] [] (He.fAd K ("_law_rows_are", none)) fd
  d__law_count_is : ∃ fd, FunD K "_law_count_is" "_law_count_is" (defArgs s__law_count_is) (defBody s__law_count_is) (defScope s__law_count_is) [] [] (He.fAd K ("_law_count_is", none)) fd
  d__law_kind : ∃ fd, FunD K "_law_kind" "_law_kind" (defArgs s__law_kind) (defBody s__law_kind) (defScope s__law_kind) [] [] (He.fAd K ("_law_kind", none)) fd
  d__law_due : ∃ fd, FunD K "_law_due" "_law_due" (defArgs s__law_due) (defBody s__law_due) (defScope s__law_due) [] [] (He.fAd K ("_law_due", none)) fd
  d__law_turned : ∃ fd, FunD K "_law_turned" "_law_turned" (defArgs s__law_turned) (defBody s__law_turned) (defScope s__law_turned) [] [] (He.fAd K ("_law_turned", none)) fd
  d_law : ∃ fd, FunD K "law" "law" (defArgs s_law) (defBody s_law) (defScope s_law) [] [] (He.fAd K ("law", none)) fd

theorem txt_mk {K : PySem.W.Frag} {h : Heap} {mg : Str → Option Value} (X : K.In h) (G : h.Ns mainGlobals mg) (c : He.SaysD fas fns K) (m : exB K = true) : Txt K mg where
  g_KernelError := He.glo_ok X G (c.fact 0 (f := .glo "KernelError") rfl)
  g_NoOwner := He.glo_ok X G (c.fact 1 (f := .glo "NoOwner") rfl)
  g_NoTask := He.glo_ok X G (c.fact 2 (f := .glo "NoTask") rfl)
  g_NoPage := He.glo_ok X G (c.fact 3 (f := .glo "NoPage") rfl)
  g_NoBlock := He.glo_ok X G (c.fact 4 (f := .glo "NoBlock") rfl)
  g_Fallen := He.glo_ok X G (c.fact 5 (f := .glo "Fallen") rfl)
  g_BadName := He.glo_ok X G (c.fact 6 (f := .glo "BadName") rfl)
  g_NoNode := He.glo_ok X G (c.fact 7 (f := .glo "NoNode") rfl)
  g_NoSpace := He.glo_ok X G (c.fact 8 (f := .glo "NoSpace") rfl)
  g_BadCall := He.glo_ok X G (c.fact 9 (f := .glo "BadCall") rfl)
  g_BLOCK := He.int_ok X G (c.fact 10 (f := .int "BLOCK" 16) rfl)
  g_Disk := He.glo_ok X G (c.fact 11 (f := .glo "Disk") rfl)
  g__law_cell_at := He.glo_ok X G (c.fact 12 (f := .glo "_law_cell_at") rfl)
  g__law_mixed := He.glo_ok X G (c.fact 13 (f := .glo "_law_mixed") rfl)
  g__law_wide := He.glo_ok X G (c.fact 14 (f := .glo "_law_wide") rfl)
  g__law_numbers := He.glo_ok X G (c.fact 15 (f := .glo "_law_numbers") rfl)
  g__law_row_is := He.glo_ok X G (c.fact 16 (f := .glo "_law_row_is") rfl)
  g__law_rows_are := He.glo_ok X G (c.fact 17 (f := .glo "_law_rows_are") rfl)
  g__law_count_is := He.glo_ok X G (c.fact 18 (f := .glo "_law_count_is") rfl)
  g__law_kind := He.glo_ok X G (c.fact 19 (f := .glo "_law_kind") rfl)
  g__law_due := He.glo_ok X G (c.fact 20 (f := .glo "_law_due") rfl)
  g__law_turned := He.glo_ok X G (c.fact 21 (f := .glo "_law_turned") rfl)
  g_law := He.glo_ok X G (c.fact 22 (f := .glo "law") rfl)
  n_ValueError := He.free_ok X G (c.fact 23 (f := .free "ValueError") rfl)
  n_range := He.free_ok X G (c.fact 24 (f := .free "range") rfl)
  n_all := He.free_ok X G (c.fact 25 (f := .free "all") rfl)
  n_isinstance := He.free_ok X G (c.fact 26 (f := .free "isinstance") rfl)
  n_list := He.free_ok X G (c.fact 27 (f := .free "list") rfl)
  n_len := He.free_ok X G (c.fact 28 (f := .free "len") rfl)
  n_abs := He.free_ok X G (c.fact 29 (f := .free "abs") rfl)
  n_int := He.free_ok X G (c.fact 30 (f := .free "int") rfl)
  n_min := He.free_ok X G (c.fact 31 (f := .free "min") rfl)
  n_bool := He.free_ok X G (c.fact 32 (f := .free "bool") rfl)
  n_zip := He.free_ok X G (c.fact 33 (f := .free "zip") rfl)
  x_KernelError := He.exc_ok (c.fact 34 (f := .exc "KernelError") rfl)
  x_NoOwner := He.exc_ok (c.fact 35 (f := .exc "NoOwner") rfl)
  x_NoTask := He.exc_ok (c.fact 36 (f := .exc "NoTask") rfl)
  x_NoPage := He.exc_ok (c.fact 37 (f := .exc "NoPage") rfl)
  x_NoBlock := He.exc_ok (c.fact 38 (f := .exc "NoBlock") rfl)
  x_Fallen := He.exc_ok (c.fact 39 (f := .exc "Fallen") rfl)
  x_BadName := He.exc_ok (c.fact 40 (f := .exc "BadName") rfl)
  x_NoNode := He.exc_ok (c.fact 41 (f := .exc "NoNode") rfl)
  x_NoSpace := He.exc_ok (c.fact 42 (f := .exc "NoSpace") rfl)
  x_BadCall := He.exc_ok (c.fact 43 (f := .exc "BadCall") rfl)
  c_Disk := He.cls_ok (c.fact 44 (f := .cls "Disk") rfl)
  m_Disk := He.mkr_ok (c.fact 45 (f := .mkr "Disk") rfl)
  m_Disk_look := He.meth_ok (c.fact 46 (f := .meth "Disk" "look") rfl)
  m_Disk_read := He.meth_ok (c.fact 47 (f := .meth "Disk" "read") rfl)
  m_Disk_write := He.meth_ok (c.fact 48 (f := .meth "Disk" "write") rfl)
  m_Disk_writes := He.meth_ok (c.fact 49 (f := .meth "Disk" "writes") rfl)
  m_Disk_fall := He.meth_ok (c.fact 50 (f := .meth "Disk" "fall") rfl)
  m_Disk_rise := He.meth_ok (c.fact 51 (f := .meth "Disk" "rise") rfl)
  m_Disk_image := He.meth_ok (c.fact 52 (f := .meth "Disk" "image") rfl)
  a_Disk_blocks := He.noat_ok (c.fact 53 (f := .noat "Disk" "blocks") rfl)
  a_Disk_done := He.noat_ok (c.fact 54 (f := .noat "Disk" "done") rfl)
  a_Disk_left := He.noat_ok (c.fact 55 (f := .noat "Disk" "left") rfl)
  a_Disk_down := He.noat_ok (c.fact 56 (f := .noat "Disk" "down") rfl)
  e_NoBlock := excB_ok (all_at (all_at m 0 rfl) 0 rfl)
  k_NoBlock_BadCall := eq_of_beq (all_at (all_at m 0 rfl) 1 rfl)
  k_NoBlock_BadName := eq_of_beq (all_at (all_at m 0 rfl) 2 rfl)
  k_NoBlock_NoNode := eq_of_beq (all_at (all_at m 0 rfl) 3 rfl)
  k_NoBlock_NoOwner := eq_of_beq (all_at (all_at m 0 rfl) 4 rfl)
  k_NoBlock_NoPage := eq_of_beq (all_at (all_at m 0 rfl) 5 rfl)
  k_NoBlock_NoSpace := eq_of_beq (all_at (all_at m 0 rfl) 6 rfl)
  k_NoBlock_NoTask := eq_of_beq (all_at (all_at m 0 rfl) 7 rfl)
  k_NoBlock_ValueError := eq_of_beq (all_at (all_at m 0 rfl) 8 rfl)
  k_NoBlock_NoBlock := eq_of_beq (all_at (all_at m 0 rfl) 9 rfl)
  k_NoBlock_Fallen := eq_of_beq (all_at (all_at m 0 rfl) 10 rfl)
  y_NoBlock_KernelError := eq_of_beq (all_at (all_at m 0 rfl) 11 rfl)
  e_Fallen := excB_ok (all_at (all_at m 1 rfl) 0 rfl)
  k_Fallen_BadCall := eq_of_beq (all_at (all_at m 1 rfl) 1 rfl)
  k_Fallen_BadName := eq_of_beq (all_at (all_at m 1 rfl) 2 rfl)
  k_Fallen_NoNode := eq_of_beq (all_at (all_at m 1 rfl) 3 rfl)
  k_Fallen_NoOwner := eq_of_beq (all_at (all_at m 1 rfl) 4 rfl)
  k_Fallen_NoPage := eq_of_beq (all_at (all_at m 1 rfl) 5 rfl)
  k_Fallen_NoSpace := eq_of_beq (all_at (all_at m 1 rfl) 6 rfl)
  k_Fallen_NoTask := eq_of_beq (all_at (all_at m 1 rfl) 7 rfl)
  k_Fallen_ValueError := eq_of_beq (all_at (all_at m 1 rfl) 8 rfl)
  k_Fallen_NoBlock := eq_of_beq (all_at (all_at m 1 rfl) 9 rfl)
  k_Fallen_Fallen := eq_of_beq (all_at (all_at m 1 rfl) 10 rfl)
  y_Fallen_KernelError := eq_of_beq (all_at (all_at m 1 rfl) 11 rfl)
  d_Disk___init__ := c.def_ 0 (d := ⟨("Disk", some "__init__"), "__init__", "Disk.__init__", defArgs (inClass (top 13) 0), defBody (inClass (top 13) 0), defScope (inClass (top 13) 0), [], []⟩) rfl
  d_Disk_look := c.def_ 1 (d := ⟨("Disk", some "look"), "look", "Disk.look", defArgs (inClass (top 13) 1), defBody (inClass (top 13) 1), defScope (inClass (top 13) 1), [], []⟩) rfl
  d_Disk_read := c.def_ 2 (d := ⟨("Disk", some "read"), "read", "Disk.read", defArgs (inClass (top 13) 2), defBody (inClass (top 13) 2), defScope (inClass (top 13) 2), [], []⟩) rfl
  d_Disk_write := c.def_ 3 (d := ⟨("Disk", some "write"), "write", "Disk.write", defArgs (inClass (top 13) 3), defBody (inClass (top 13) 3), defScope (inClass (top 13) 3), [], []⟩) rfl
  d_Disk_writes := c.def_ 4 (d := ⟨("Disk", some "writes"), "writes", "Disk.writes", defArgs (inClass (top 13) 4), defBody (inClass (top 13) 4), defScope (inClass (top 13) 4), [], []⟩) rfl
  d_Disk_fall := c.def_ 5 (d := ⟨("Disk", some "fall"), "fall", "Disk.fall", defArgs (inClass (top 13) 5), defBody (inClass (top 13) 5), defScope (inClass (top 13) 5), [], []⟩) rfl
  d_Disk_rise := c.def_ 6 (d := ⟨("Disk", some "rise"), "rise", "Disk.rise", defArgs (inClass (top 13) 6), defBody (inClass (top 13) 6), defScope (inClass (top 13) 6), [], []⟩) rfl
  d_Disk_image := c.def_ 7 (d := ⟨("Disk", some "image"), "image", "Disk.image", defArgs (inClass (top 13) 7), defBody (inClass (top 13) 7), defScope (inClass (top 13) 7), [], []⟩) rfl
  d__law_cell_at := c.def_ 8 (d := ⟨("_law_cell_at", none), "_law_cell_at", "_law_cell_at", defArgs (top 15), defBody (top 15), defScope (top 15), [], []⟩) rfl
  d__law_mixed := c.def_ 9 (d := ⟨("_law_mixed", none), "_law_mixed", "_law_mixed", defArgs (top 16), defBody (top 16), defScope (top 16), [], []⟩) rfl
  d__law_wide := c.def_ 10 (d := ⟨("_law_wide", none), "_law_wide", "_law_wide", defArgs (top 17), defBody (top 17), defScope (top 17), [], []⟩) rfl
  d__law_numbers := c.def_ 11 (d := ⟨("_law_numbers", none), "_law_numbers", "_law_numbers", defArgs (top 18), defBody (top 18), defScope (top 18), [], []⟩) rfl
  d__law_row_is := c.def_ 12 (d := ⟨("_law_row_is", none), "_law_row_is", "_law_row_is", defArgs (top 19), defBody (top 19), defScope (top 19), [], []⟩) rfl
  d__law_rows_are := c.def_ 13 (d := ⟨("_law_rows_are", none), "_law_rows_are", "_law_rows_are", defArgs (top 20), defBody (top 20), defScope (top 20), [], []⟩) rfl
  d__law_count_is := c.def_ 14 (d := ⟨("_law_count_is", none), "_law_count_is", "_law_count_is", defArgs (top 21), defBody (top 21), defScope (top 21), [], []⟩) rfl
  d__law_kind := c.def_ 15 (d := ⟨("_law_kind", none), "_law_kind", "_law_kind", defArgs (top 22), defBody (top 22), defScope (top 22), [], []⟩) rfl
  d__law_due := c.def_ 16 (d := ⟨("_law_due", none), "_law_due", "_law_due", defArgs (top 23), defBody (top 23), defScope (top 23), [], []⟩) rfl
  d__law_turned := c.def_ 17 (d := ⟨("_law_turned", none), "_law_turned", "_law_turned", defArgs (top 24), defBody (top 24), defScope (top 24), [], []⟩) rfl
  d_law := c.def_ 18 (d := ⟨("law", none), "law", "law", defArgs (top 25), defBody (top 25), defScope (top 25), [], []⟩) rfl
local macro_rules | `(tactic| walk_at "xf") => `(tactic| first | with_reducible exact Txt.e_NoBlock (by assumption) | with_reducible exact Txt.k_NoBlock_BadCall (by assumption) | with_reducible exact Txt.k_NoBlock_BadName (by assumption) | with_reducible exact Txt.k_NoBlock_NoNode (by assumption) | with_reducible exact Txt.k_NoBlock_NoOwner (by assumption) | with_reducible exact Txt.k_NoBlock_NoPage (by assumption) | with_reducible exact Txt.k_NoBlock_NoSpace (by assumption) | with_reducible exact Txt.k_NoBlock_NoTask (by assumption) | with_reducible exact Txt.k_NoBlock_ValueError (by assumption) | with_reducible exact Txt.k_NoBlock_NoBlock (by assumption) | with_reducible exact Txt.k_NoBlock_Fallen (by assumption) | with_reducible exact Txt.y_NoBlock_KernelError (by assumption) | with_reducible exact Txt.e_Fallen (by assumption) | with_reducible exact Txt.k_Fallen_BadCall (by assumption) | with_reducible exact Txt.k_Fallen_BadName (by assumption) | with_reducible exact Txt.k_Fallen_NoNode (by assumption) | with_reducible exact Txt.k_Fallen_NoOwner (by assumption) | with_reducible exact Txt.k_Fallen_NoPage (by assumption) | with_reducible exact Txt.k_Fallen_NoSpace (by assumption) | with_reducible exact Txt.k_Fallen_NoTask (by assumption) | with_reducible exact Txt.k_Fallen_ValueError (by assumption) | with_reducible exact Txt.k_Fallen_NoBlock (by assumption) | with_reducible exact Txt.k_Fallen_Fallen (by assumption) | with_reducible exact Txt.y_Fallen_KernelError (by assumption) | fail)
local macro_rules | `(tactic| walk_at "fact") => `(tactic| first | with_reducible exact Txt.c_Disk (by assumption) | with_reducible exact Txt.a_Disk_blocks (by assumption) | with_reducible exact Txt.a_Disk_done (by assumption) | with_reducible exact Txt.a_Disk_left (by assumption) | with_reducible exact Txt.a_Disk_down (by assumption) | fail)
/-! ### the walk's own lines -/
local macro_rules | `(tactic| walk_at "mem") => `(tactic| first | exact List.mem_cons_self | (apply List.mem_cons_of_mem; walk_at "mem") | (apply List.mem_append_right; walk_at "mem") | (apply List.mem_append_left; walk_at "mem"))
local macro_rules | `(tactic| walk_at "at") => `(tactic| first | exact At.here | (apply At.there; walk_at "at") | (apply At.app; walk_at "at") | (apply At.appl; walk_at "at"))
local macro_rules | `(tactic| walk_at "sub") => `(tactic| first | exact Sub.all | exact Sub.here | exact Sub.one | (apply Sub.there; walk_at "sub") | (apply Sub.appl; walk_at "sub") | (apply Sub.app; walk_at "sub"))
local macro_rules | `(tactic| walk_at "own") => `(tactic| first | assumption | ((with_reducible apply Own.wr2); (focus walk_at "own"); (focus walk_at "at"); rfl) | ((with_reducible apply Own.new); (focus walk_at "own"); assumption))
local macro_rules | `(tactic| walk_at "h") => `(tactic| first | assumption | (apply Own.get; (focus walk_at "own"); walk_at "mem") | (apply Own.fr0; (focus walk_at "own"); assumption) | (rename Own _ _ _ _ => otmp; clear otmp; walk_at "h"))
local macro_rules | `(tactic| walk_at "ar") => `(tactic| first | omega | (simp only [List.length_nil, List.length_cons, List.length_append, List.length_map, List.length_set]; omega))
/-- one premise -/
local macro_rules | `(tactic| walk_at "c") => `(tactic| first
  | with_reducible exact rfl
  | ((with_reducible apply sl_of); rfl)
  | ((with_reducible apply sc_of); rfl)
  | ((with_reducible apply lsq_of); rfl)
  | ((with_reducible apply wp_of); rfl)
  | ((with_reducible apply ln_of); rfl)
  | ((with_reducible apply veq_of); first | rfl | exact kl | exact kr)
  | ((with_reducible apply lk_of); rfl)
  | ((with_reducible apply lkn_of); rfl)
  | ((with_reducible apply lt_of); (first | decide | walk_at "ar" | ((repeat (with_reducible apply putF_lt)); walk_at "ar")))
  | ((with_reducible apply hp_of); walk_at "h")
  | ((with_reducible apply cd_of); first | exact ⟨by decide, by decide⟩ | exact ⟨by omega, by omega⟩)
  | ((with_reducible apply at_of); first | assumption | exact atI_nat (j := 0) rfl | exact atI_nat (j := 1) rfl | exact atI_nat (j := 2) rfl | exact atI_nat (j := 3) rfl | exact atI_nat (j := 4) rfl)
  | ((with_reducible apply ix_of); first | assumption | rfl)
  | ((with_reducible apply cp_of); exact ⟨by decide, by decide, by decide⟩)
  | ((with_reducible apply cmw_of); first | assumption | (unfold CMulW; decide +kernel))
  | ((with_reducible apply cm_l); first | exact ⟨by decide, by decide⟩ | exact ⟨by omega, by omega⟩)
  | ((with_reducible apply cm_r); exact ⟨by decide, by decide⟩)
  | walk_at "fact"
  | walk_at "kit"
  | walk_at "xf"
  | walk_at "col"
  | assumption)
local macro_rules | `(tactic| walk_at "prd") => `(tactic| first | exact Paired.nil | ((with_reducible apply Paired.cons); (focus walk_at "c"); walk_at "prd"))
local macro_rules | `(tactic| walk_at "kit") => `(tactic| first
  | (with_reducible exact Paired.nil) | ((with_reducible apply Paired.cons); (focus walk_at "c"); walk_at "prd") | ((with_reducible apply kit_any); walk_at "prd")
  | with_reducible exact ClsV.ty _ | with_reducible exact ClsV.own _
  | with_reducible exact kt_int_int | with_reducible exact kt_int_bool | with_reducible exact kt_bool_int | with_reducible exact kt_bool_bool | with_reducible exact kt_list_list | with_reducible exact kt_tuple_tuple | with_reducible exact kt_NoneType_tuple | with_reducible exact kt_str_str | with_reducible exact kt_NoneType_list | with_reducible exact kt_NoneType_int | with_reducible exact kt_NoneType_bool | with_reducible exact kt_NoneType_dict | with_reducible exact kt_NoneType_str | with_reducible exact kt_str_list | with_reducible exact kt_list_str | with_reducible exact kt_str_int | with_reducible exact kt_int_str | with_reducible exact kt_int_list | with_reducible exact kt_int_tuple | with_reducible exact kt_list_tuple | with_reducible exact kt_tuple_list | with_reducible exact kt_dict_dict | with_reducible exact kt_list_dict | with_reducible exact kt_dict_list | with_reducible exact kt_int_dict | with_reducible exact kt_str_bool | with_reducible exact kt_str_tuple | with_reducible exact kt_str_dict | with_reducible exact kt_list_int | with_reducible exact kt_list_bool | with_reducible exact kt_tuple_int | with_reducible exact kt_tuple_bool | with_reducible exact kt_tuple_str | with_reducible exact kt_tuple_dict
  | ((with_reducible apply TyX.base); first | with_reducible exact TyOf.non | with_reducible exact TyOf.bl _ | with_reducible exact TyOf.int _ | with_reducible exact TyOf.str _ | ((with_reducible apply TyOf.lst); walk_at "h") | ((with_reducible apply TyOf.tup); walk_at "h") | ((with_reducible apply TyOf.dK); walk_at "h")))
/-- lists, tuples, dicts, sizes -/
local macro_rules | `(tactic| walk_at "sq") => `(tactic| first | assumption | ((with_reducible apply SqL.of); walk_at "h") | ((with_reducible apply SqT.of); walk_at "h") | ((with_reducible apply Own.sq); (focus walk_at "own"); assumption))
local macro_rules | `(tactic| walk_at "col") => `(tactic| first
  | ((with_reducible apply SqL.of); walk_at "h") | ((with_reducible apply SqT.of); walk_at "h") | ((with_reducible apply Rd.of); walk_at "h")
  | ((with_reducible apply Own.sq); (focus walk_at "own"); assumption)
  | ((with_reducible apply col_ex2); walk_at "sq") | ((with_reducible apply col_ol2); walk_at "sq") | ((with_reducible apply col_or2); walk_at "sq")
  | ((with_reducible apply sz_le); first | decide | walk_at "ar")
  | ((with_reducible apply sz_lt); first | decide | walk_at "ar")
  | ((with_reducible apply isd_k); walk_at "h")
  | ((with_reducible apply dget_ii); (focus walk_at "h"); assumption) | ((with_reducible apply dget_is); (focus walk_at "h"); assumption)
  | ((with_reducible apply dget_i); walk_at "h") | ((with_reducible apply dget_s); walk_at "h")
  | ((with_reducible apply dput_i); (focus walk_at "h"); walk_at "ar") | ((with_reducible apply dput_s); (focus walk_at "h"); walk_at "ar")
  | (apply Or.inl; apply And.intro rfl; apply col_ex; walk_at "h")
  | (apply Or.inr; apply Or.inr; apply Or.inl; apply And.intro rfl; apply Or.inl; constructor; walk_at "h")
  | with_reducible exact all_flat _ | with_reducible exact all_flatS _ | ((with_reducible apply fl_of); rfl)
  | ((with_reducible apply pos_of); first | decide | assumption | omega | decide +kernel)
  | walk_at "ar")
/-- one step -/
local macro_rules | `(tactic| walk_at "s1") => `(tactic| first
  | (apply @Exists.intro V)
  | (apply @Exists.intro Addr)
  | (apply @Exists.intro Int)
  | (apply @Exists.intro (List V))
  | (apply @Exists.intro (List (Str × V)))
  | (apply @Exists.intro (List (Key × V)))
  | (apply @Exists.intro Key)
  | (apply @Exists.intro Bool)
  | (apply @Exists.intro Str)
  | (apply @Exists.intro Value)
  | (apply @Exists.intro (Option V))
  | (apply @Exists.intro (List Int)) | (apply @Exists.intro (List Bool)) | (apply @Exists.intro (List Value)) | (apply @Exists.intro Hp)
  | (apply And.intro; (focus walk_at "c")))
local macro_rules | `(tactic| walk_at "s") => `(tactic| repeat walk_at "s1")
local macro_rules | `(tactic| walk_at "b") => `(tactic| (apply Box.mk; walk_at "s"))
/-! ## Disks: what they hold -/
structure Dk where
  dx : Addr
  bl : Addr
  bs : List Pg
  done : Int
  left : Option Int
  down : Bool
/-- a disk at p: its dict, the list of its blocks, the blocks -/
def cDk (K : PySem.W.Frag) (p : Addr) (d : Dk) : Cells :=
  (p, .ins (He.ga K "Disk") d.dx [("blocks", .ref d.bl), ("done", .int d.done), ("left", oV d.left), ("down", .bl d.down)]) :: (d.bl, .lst (d.bs.map fun x => V.ref x.1)) :: d.bs.map pcel
def nought : List Int := List.replicate 16 0
abbrev Dk.rows (d : Dk) : List (List Int) := d.bs.map (·.2)
abbrev Dk.has (d : Dk) (i : Int) : Prop := 0 ≤ i ∧ i < d.bs.length
abbrev Dk.falls (d : Dk) : Prop := d.down = true ∨ d.left = some 0
def sp_Disk___init__ (K : PySem.W.Frag) : Sp := sp2 fun self many H Q _ => ∃ (p dx : Addr) (n : Nat), self = .ref p ∧ many = .int n ∧ n ≤ 1000 ∧ Own H H [p] [(p, .ins (He.ga K "Disk") dx [])] ∧
  ∀ (H' : Hp) (bl : Addr) (bs : List Pg), Own H H' [p] (cDk K p ⟨dx, bl, bs, 0, none, false⟩) → bs.map (·.2) = List.replicate n nought → Q .non H'
def sp_Disk_look (K : PySem.W.Frag) : Sp := sp2 fun self page H Q E => ∃ p d i, self = .ref p ∧ page = .int i ∧ Own H H (adr (cDk K p d)) (cDk K p d) ∧ (d.has i → Q .non H) ∧ (¬ d.has i → E (.ref (He.ga K "NoBlock")) none H)
def sp_Disk_read (K : PySem.W.Frag) : Sp := sp2 fun self page H Q E => ∃ p d i, self = .ref p ∧ page = .int i ∧ d.bs.length ≤ 1000 ∧ Own H H (adr (cDk K p d)) (cDk K p d) ∧ (¬ d.has i → E (.ref (He.ga K "NoBlock")) none H) ∧ (d.has i → d.down = true → E (.ref (He.ga K "Fallen")) none H) ∧
  (d.has i → d.down = false → ∀ x, d.bs[i.toNat]? = some x → ∀ H' c, Own H H' [] [(c, .lst (x.2.map V.int))] → Q (.ref c) H')
def sp_Disk_write (K : PySem.W.Frag) : Sp := sp3 fun self page cells H Q E => ∃ p d i a ns, self = .ref p ∧ page = .int i ∧ cells = .ref a ∧ H a = some (.lst (ns.map V.int)) ∧ d.bs.length ≤ 1000 ∧ Own H H (adr (cDk K p d)) (cDk K p d) ∧ (¬ d.has i → E (.ref (He.ga K "NoBlock")) none H) ∧
  (d.has i → d.falls → ∀ H', Own H H' (adr (cDk K p d)) (cDk K p { d with down := true }) → E (.ref (He.ga K "Fallen")) none H') ∧
  (d.has i → ¬ d.falls → ∀ H' c, Own H H' (adr (cDk K p d)) (cDk K p ⟨d.dx, d.bl, d.bs.set i.toNat (c, ns), d.done + 1, d.left.map (· - 1), d.down⟩) → Q .non H')
def sp_Disk_writes (K : PySem.W.Frag) : Sp := sp1 fun self H Q _ => ∃ p d, self = .ref p ∧ Own H H (adr (cDk K p d)) (cDk K p d) ∧ Q (.int d.done) H
def sp_Disk_fall (K : PySem.W.Frag) : Sp := sp2 fun self after H Q _ => ∃ p d i, self = .ref p ∧ after = .int i ∧ Own H H (adr (cDk K p d)) (cDk K p d) ∧ ∀ H', Own H H' (adr (cDk K p d)) (cDk K p { d with left := some i }) → Q .non H'
def sp_Disk_rise (K : PySem.W.Frag) : Sp := sp1 fun self H Q _ => ∃ p d, self = .ref p ∧ Own H H (adr (cDk K p d)) (cDk K p d) ∧ ∀ H', Own H H' (adr (cDk K p d)) (cDk K p { d with left := none, down := false }) → Q .non H'
def sp_Disk_image (K : PySem.W.Frag) : Sp := sp1 fun self H Q _ => ∃ p d, self = .ref p ∧ d.bs.length ≤ 1000 ∧ Own H H (adr (cDk K p d)) (cDk K p d) ∧
  ∀ H' b (rs : List Pg), Own H H' [] ((b, .lst (rs.map fun x : Pg => V.ref x.1)) :: rs.map pcel) → rs.map (·.2) = d.rows → Q (.ref b) H'
theorem sc_Disk___init__ : FnScope ["self", "many", "block"] ["self", "many"] (defScope s_Disk___init__) := ⟨rfl, rfl, rfl, by decide +kernel, rfl, by decide +kernel, by decide +kernel⟩
theorem ok_Disk___init__ {P : Program} {w : World} {K : PySem.W.Frag} {mg : Str → Option Value} {base : Heap} (T : Txt K mg) : Cee P w K mg base 1 (He.fAd K ("Disk", some "__init__")) ["self", "many"] (sp_Disk___init__ K) := by
  refine cee_of T.d_Disk___init__ sc_Disk___init__ (fun _ _ _ _ _ _ us hl => match us, hl with | [_, _], _ => rfl) (fun vs H Q E h => sp2_len h) (fun cdv A outer s H vs Q E hr h => ⟨_, (pss_cons (ps_fld (pv 0) (pe_lc (own := [("block", 2)]) (by rfl) sc_Disk___init__.nd (PI.box (pi_range1 (by rfl) T.n_range (pa_cons (pv 1) pa_nil))) (blkOk_by (own := [("block", 2)]) (N := ["self", "many", "block"]) (sc := defScope s_Disk___init__) (by decide +kernel)) (fun _ _ _ _ _ => (pg_name (i := 2) sc_Disk___init__.nd rfl (Or.inl rfl))) (fun _ _ _ _ _ => pts_nil) (fun _ _ _ _ _ => (pe_op op_rep (pe_lst (pa_cons pe_int pa_nil)) (pe_gc (v := .int 16) rfl (gI T.g_BLOCK))))) rfl) (pss_cons (ps_fld (pv 0) pe_int rfl) (pss_cons (ps_fld (pv 0) pe_non rfl) (pss_one (ps_fld (pv 0) pe_bl rfl))))), ?_⟩)
  obtain ⟨v0, v1, rfl, h⟩ := h
  dsimp only [cxOf, L2.start]
  obtain ⟨p, dx, n, rfl, rfl, hn, O, k⟩ := h
  walk_at "s"
  refine lcR (lo := 0) (n := ((n : Nat) : Int).toNat) (fun D j H2 => ∃ cs : List Pg, cs.map (·.2) = List.replicate j nought ∧ Own H H2 [p] ((p, .ins (He.ga K "Disk") dx []) :: (D, .lst (cs.map fun x => V.ref x.1)) :: cs.map pcel)) ?_ ?_ ?_
  · intro D hD
    exact ⟨[], rfl, (O.new (o := .lst []) hD).perm (List.Perm.swap _ _ _)⟩
  · rintro D j H2 hj ⟨cs, hl, O5⟩
    have hlj := congrArg List.length hl
    rw [List.length_map, List.length_replicate] at hlj
    walk_at "s"
    intro c hc
    have O6 := O5.new (o := .lst [V.int 0]) hc
    have hsz : ([V.int 0] : List V).length * (16 : Int).toNat ≤ sizeLine := sz_le (by decide)
    walk_at "s"
    intro e he
    have O7 := O6.new (o := .lst (nought.map V.int)) he
    have hlen : (cs.map fun x : Pg => V.ref x.1).length < 100000 := by rw [List.length_map]; omega
    walk_at "s"
    refine ⟨cs ++ [(e, nought)], by rw [List.map_append, hl, List.replicate_succ']; rfl, ?_⟩
    have O8 := ((O7.drop (cs' := (e, .lst (nought.map V.int)) :: (p, .ins (He.ga K "Disk") dx []) :: (D, .lst (cs.map fun x => V.ref x.1)) :: cs.map pcel) (.cons₂ _ (.cons _ (.refl _)))).wr (o' := .lst ((cs.map fun x => V.ref x.1) ++ [.ref e])) (.there (.there .here))).last
    rw [List.map_append, List.map_append]
    exact O8
  · rintro D H2 ⟨cs, hl, O5⟩
    walk_at "s"
    exact k _ D cs (by walk_at "own") (by rw [hl, Int.toNat_natCast])
theorem sc_Disk_look : FnScope ["self", "n"] ["self", "n"] (defScope s_Disk_look) := ⟨rfl, rfl, rfl, by decide +kernel, rfl, by decide +kernel, by decide +kernel⟩
theorem ok_Disk_look {P : Program} {w : World} {K : PySem.W.Frag} {mg : Str → Option Value} {base : Heap} (T : Txt K mg) : Cee P w K mg base 1 (He.fAd K ("Disk", some "look")) ["self", "n"] (sp_Disk_look K) := by
  refine cee_of T.d_Disk_look sc_Disk_look (fun _ _ _ _ _ _ us hl => match us, hl with | [_, _], _ => rfl) (fun vs H Q E h => sp2_len h) (fun cdv A outer s H vs Q E hr h => ⟨_, (pss_one (ps_if (pt_not (pt_chain op_le op_lt pe_int (pv 1) (pe_callB call_len_seq (by rfl) T.n_len (by decide +kernel) (pa_cons (pe_fld (pv 0) rfl) pa_nil)))) (pss_one (ps_raise rfl (takes_of rfl rfl rfl rfl) (pmk_own PySem.F.excBase_ValueError T.x_NoBlock.1 T.g_NoBlock T.x_NoBlock.2.1 (raises_own T.x_NoBlock.2.2.1 T.x_NoBlock.2.2.2) rfl))) pss_nil)), ?_⟩)
  obtain ⟨v0, v1, rfl, h⟩ := h
  dsimp only [cxOf, L2.start]
  obtain ⟨p, d, i, rfl, rfl, O, k, e⟩ := h
  walk_at "s"
  refine if_d (fun h0 => ?_) (fun h0 => ?_)
  · walk_at "s"
    refine if_nd (fun h1 => ?_) (fun h1 => ?_)
    · exact e fun h => h1 (by rw [List.length_map]; exact h.2)
    · exact k ⟨h0, by rw [List.length_map] at h1; exact h1⟩
  · walk_at "s"
    exact e fun h => h0 h.1
theorem sc_Disk_read : FnScope ["self", "n"] ["self", "n"] (defScope s_Disk_read) := ⟨rfl, rfl, rfl, by decide +kernel, rfl, by decide +kernel, by decide +kernel⟩
theorem ok_Disk_read {P : Program} {w : World} {K : PySem.W.Frag} {mg : Str → Option Value} {base : Heap} (T : Txt K mg) : Cee P w K mg base 2 (He.fAd K ("Disk", some "read")) ["self", "n"] (sp_Disk_read K) := by
  have c_Disk_look : Cee P w K mg base 1 (He.fAd K ("Disk", some "look")) ["self", "n"] (sp_Disk_look K) := ok_Disk_look T
  refine cee_of T.d_Disk_read sc_Disk_read (fun _ _ _ _ _ _ us hl => match us, hl with | [_, _], _ => rfl) (fun vs H Q E h => sp2_len h) (fun cdv A outer s H vs Q E hr h => ⟨_, (pss_cons (ps_expr (pe_m (pv 0) T.c_Disk T.m_Disk_look c_Disk_look (hr.mono (by decide)) (takes_of rfl rfl rfl rfl) (pa_cons (pv 1) pa_nil))) (pss_cons (ps_if (pt_val (pe_fld (pv 0) rfl)) (pss_one (ps_raise rfl (takes_of rfl rfl rfl rfl) (pmk_own PySem.F.excBase_ValueError T.x_Fallen.1 T.g_Fallen T.x_Fallen.2.1 (raises_own T.x_Fallen.2.2.1 T.x_Fallen.2.2.2) rfl))) pss_nil) (pss_one (ps_ret (pe_callTy call_list_of (by rfl) T.n_list (by decide +kernel) (pa_cons (pe_ix ix_list (pe_fld (pv 0) rfl) (pv 1) (fun _ _ => rfl)) pa_nil)))))), ?_⟩)
  obtain ⟨v0, v1, rfl, h⟩ := h
  dsimp only [cxOf, L2.start]
  obtain ⟨p, d, i, rfl, rfl, hl, O, e1, e2, k⟩ := h
  walk_at "s"
  refine ask2 ⟨p, d, i, rfl, rfl, O, fun hi => ?_, e1⟩
  walk_at "s"
  refine if_b (fun hd => ?_) (fun hd => ?_)
  · exact e2 hi hd
  · obtain ⟨x, hx⟩ : ∃ x, d.bs[i.toNat]? = some x := ⟨d.bs[i.toNat]'(by omega), List.getElem?_eq_getElem (by omega)⟩
    have hm : (x.1, HO.lst (x.2.map V.int)) ∈ cDk K p d := .tail _ (.tail _ (List.mem_map.mpr ⟨x, List.mem_of_getElem? hx, rfl⟩))
    have hh := O.get hm
    have hat := atI_nat (xs := d.bs.map fun x : Pg => V.ref x.1) (j := i.toNat) (v := .ref x.1) (by rw [List.getElem?_map, hx]; rfl)
    rw [Int.toNat_of_nonneg hi.1] at hat
    walk_at "s"
    intro l hl2
    exact k hi hd x hx _ l (Own.start.new hl2)
theorem sc_Disk_write : FnScope ["self", "n", "numbers"] ["self", "n", "numbers"] (defScope s_Disk_write) := ⟨rfl, rfl, rfl, by decide +kernel, rfl, by decide +kernel, by decide +kernel⟩
theorem ok_Disk_write {P : Program} {w : World} {K : PySem.W.Frag} {mg : Str → Option Value} {base : Heap} (T : Txt K mg) : Cee P w K mg base 2 (He.fAd K ("Disk", some "write")) ["self", "n", "numbers"] (sp_Disk_write K) := by
  have c_Disk_look : Cee P w K mg base 1 (He.fAd K ("Disk", some "look")) ["self", "n"] (sp_Disk_look K) := ok_Disk_look T
  refine cee_of T.d_Disk_write sc_Disk_write (fun _ _ _ _ _ _ us hl => match us, hl with | [_, _, _], _ => rfl) (fun vs H Q E h => sp3_len h) (fun cdv A outer s H vs Q E hr h => ⟨_, (pss_cons (ps_expr (pe_m (pv 0) T.c_Disk T.m_Disk_look c_Disk_look (hr.mono (by decide)) (takes_of rfl rfl rfl rfl) (pa_cons (pv 1) pa_nil))) (pss_cons (PS.box (ps_if (PW.pt (pw_or (pt_val (pe_fld (pv 0) rfl)) (pw_or1 (pt_cmpR op_eq (pe_fld (pv 0) rfl) pe_int (nomark _))))) (pss_cons (ps_fld (pv 0) pe_bl rfl) (pss_one (ps_raise rfl (takes_of rfl rfl rfl rfl) (pmk_own PySem.F.excBase_ValueError T.x_Fallen.1 T.g_Fallen T.x_Fallen.2.1 (raises_own T.x_Fallen.2.2.1 T.x_Fallen.2.2.2) rfl)))) pss_nil)) (pss_cons (PS.box (ps_if (pt_cmpR op_notN (pe_fld (pv 0) rfl) pe_non (nomark _)) (pss_one (ps_fldaug (pv 0) pe_int in_sub)) pss_nil)) (pss_cons (ps_asg (pe_callTy call_list_of (by rfl) T.n_list (by decide +kernel) (pa_cons (pv 2) pa_nil)) (pg_sub (pe_fld (pv 0) rfl) (pv 1) set_list)) (pss_one (ps_fldaug (pv 0) pe_int in_add)))))), ?_⟩)
  obtain ⟨v0, v1, v2, rfl, h⟩ := h
  dsimp only [cxOf, L2.start]
  obtain ⟨p, d, i, a, ns, rfl, rfl, rfl, ha, hl, O, e1, e2, k⟩ := h
  walk_at "s"
  refine ask2 ⟨p, d, i, rfl, rfl, O, fun hi => ?_, e1⟩
  obtain ⟨dx, bl, bs, done, left, down⟩ := d
  obtain ⟨hi0, hi1⟩ := hi
  have hi : Dk.has ⟨dx, bl, bs, done, left, down⟩ i := ⟨hi0, hi1⟩
  dsimp only at hi1 hl
  have hx : ∃ x, bs[i.toNat]? = some x := ⟨bs[i.toNat]'(by omega), List.getElem?_eq_getElem _⟩
  obtain ⟨x, hx⟩ := hx
  have hix := ix_at (n := (bs.map fun x : Pg => V.ref x.1).length) (i := i.toNat) (by rw [List.length_map]; omega)
  rw [Int.toNat_of_nonneg hi0] at hix
  walk_at "s"
  apply Box.mk
  walk_at "s"
  refine if_b (fun hd => ?_) (fun hd => ?_)
  · walk_at "s"
    exact e2 hi (.inl hd) _ (by walk_at "own")
  · rcases left with _ | l
    · walk_at "s"
      refine if_f rfl ?_
      apply Box.mk
      walk_at "s"
      intro c hc
      have O1 := O.new (o := .lst (ns.map V.int)) hc
      walk_at "s"
      refine k hi (fun z => by rcases z with z | z; exact absurd (hd.symm.trans z) (by decide); cases z) _ c ?_
      have O3 := (O1.wr (o' := .lst ((bs.map fun x : Pg => V.ref x.1).set i.toNat (.ref c))) (.there (.there .here))).wr (o' := .ins (He.ga K "Disk") dx [("blocks", .ref bl), ("done", .int (done + 1)), ("left", .non), ("down", .bl down)]) (.there .here)
      refine (Own.put (g := pcel) (b := (c, ns)) (pre := [(p, .ins (He.ga K "Disk") dx [("blocks", .ref bl), ("done", .int (done + 1)), ("left", .non), ("down", .bl down)]), (bl, .lst ((bs.map fun x : Pg => V.ref x.1).set i.toNat (.ref c)))]) O3 hx).eq ?_
      rw [set_map (fun x : Pg => V.ref x.1) bs i.toNat (c, ns)]
      rfl
    · walk_at "s"
      refine if_ii (fun h0 => ?_) (fun h0 => ?_)
      · walk_at "s"
        exact e2 hi (.inr (by rw [h0])) _ (by walk_at "own")
      · apply Box.mk
        have hne : a ≠ p := fun z => by have h2 := O.get (.head _); rw [← z, ha] at h2; cases h2
        have ha1 : (upd H p (.ins (He.ga K "Disk") dx [("blocks", .ref bl), ("done", .int done), ("left", .int (l - 1)), ("down", .bl down)])) a = some (.lst (ns.map V.int)) := (upd_ne hne).trans ha
        walk_at "s"
        intro c hc
        have O1 := (O.wr (o' := .ins (He.ga K "Disk") dx [("blocks", .ref bl), ("done", .int done), ("left", .int (l - 1)), ("down", .bl down)]) .here).new (o := .lst (ns.map V.int)) hc
        walk_at "s"
        refine k hi (fun z => by rcases z with z | z; exact absurd (hd.symm.trans z) (by decide); exact h0 (Option.some.inj z)) _ c ?_
        have O3 := (O1.wr (o' := .lst ((bs.map fun x : Pg => V.ref x.1).set i.toNat (.ref c))) (.there (.there .here))).wr (o' := .ins (He.ga K "Disk") dx [("blocks", .ref bl), ("done", .int (done + 1)), ("left", .int (l - 1)), ("down", .bl down)]) (.there .here)
        refine (Own.put (g := pcel) (b := (c, ns)) (pre := [(p, .ins (He.ga K "Disk") dx [("blocks", .ref bl), ("done", .int (done + 1)), ("left", .int (l - 1)), ("down", .bl down)]), (bl, .lst ((bs.map fun x : Pg => V.ref x.1).set i.toNat (.ref c)))]) O3 hx).eq ?_
        rw [set_map (fun x : Pg => V.ref x.1) bs i.toNat (c, ns)]
        rfl
theorem sc_Disk_writes : FnScope ["self"] ["self"] (defScope s_Disk_writes) := ⟨rfl, rfl, rfl, by decide +kernel, rfl, by decide +kernel, by decide +kernel⟩
theorem ok_Disk_writes {P : Program} {w : World} {K : PySem.W.Frag} {mg : Str → Option Value} {base : Heap} (T : Txt K mg) : Cee P w K mg base 1 (He.fAd K ("Disk", some "writes")) ["self"] (sp_Disk_writes K) := by
  refine cee_of T.d_Disk_writes sc_Disk_writes (fun _ _ _ _ _ _ us hl => match us, hl with | [_], _ => rfl) (fun vs H Q E h => sp1_len h) (fun cdv A outer s H vs Q E hr h => ⟨_, (pss_one (ps_ret (pe_fld (pv 0) rfl))), ?_⟩)
  obtain ⟨v0, rfl, h⟩ := h
  dsimp only [cxOf, L2.start]
  obtain ⟨p, d, rfl, O, k⟩ := h
  walk_at "s"
  exact k
theorem sc_Disk_fall : FnScope ["self", "after"] ["self", "after"] (defScope s_Disk_fall) := ⟨rfl, rfl, rfl, by decide +kernel, rfl, by decide +kernel, by decide +kernel⟩
theorem ok_Disk_fall {P : Program} {w : World} {K : PySem.W.Frag} {mg : Str → Option Value} {base : Heap} (T : Txt K mg) : Cee P w K mg base 1 (He.fAd K ("Disk", some "fall")) ["self", "after"] (sp_Disk_fall K) := by
  refine cee_of T.d_Disk_fall sc_Disk_fall (fun _ _ _ _ _ _ us hl => match us, hl with | [_, _], _ => rfl) (fun vs H Q E h => sp2_len h) (fun cdv A outer s H vs Q E hr h => ⟨_, (pss_one (ps_fld (pv 0) (pv 1) rfl)), ?_⟩)
  obtain ⟨v0, v1, rfl, h⟩ := h
  dsimp only [cxOf, L2.start]
  obtain ⟨p, d, i, rfl, rfl, O, k⟩ := h
  walk_at "s"
  exact k _ (O.wr .here)
theorem sc_Disk_rise : FnScope ["self"] ["self"] (defScope s_Disk_rise) := ⟨rfl, rfl, rfl, by decide +kernel, rfl, by decide +kernel, by decide +kernel⟩
theorem ok_Disk_rise {P : Program} {w : World} {K : PySem.W.Frag} {mg : Str → Option Value} {base : Heap} (T : Txt K mg) : Cee P w K mg base 1 (He.fAd K ("Disk", some "rise")) ["self"] (sp_Disk_rise K) := by
  refine cee_of T.d_Disk_rise sc_Disk_rise (fun _ _ _ _ _ _ us hl => match us, hl with | [_], _ => rfl) (fun vs H Q E h => sp1_len h) (fun cdv A outer s H vs Q E hr h => ⟨_, (pss_cons (ps_fld (pv 0) pe_non rfl) (pss_one (ps_fld (pv 0) pe_bl rfl))), ?_⟩)
  obtain ⟨v0, rfl, h⟩ := h
  dsimp only [cxOf, L2.start]
  obtain ⟨p, d, rfl, O, k⟩ := h
  walk_at "s"
  exact k _ (by walk_at "own")
theorem sc_Disk_image : FnScope ["self", "block"] ["self"] (defScope s_Disk_image) := ⟨rfl, rfl, rfl, by decide +kernel, rfl, by decide +kernel, by decide +kernel⟩
theorem ok_Disk_image {P : Program} {w : World} {K : PySem.W.Frag} {mg : Str → Option Value} {base : Heap} (T : Txt K mg) : Cee P w K mg base 1 (He.fAd K ("Disk", some "image")) ["self"] (sp_Disk_image K) := by
  refine cee_of T.d_Disk_image sc_Disk_image (fun _ _ _ _ _ _ us hl => match us, hl with | [_], _ => rfl) (fun vs H Q E h => sp1_len h) (fun cdv A outer s H vs Q E hr h => ⟨_, (pss_one (ps_ret (pe_lc (own := [("block", 1)]) (by rfl) sc_Disk_image.nd (PI.box (pi_list (pe_fld (pv 0) rfl))) (blkOk_by (own := [("block", 1)]) (N := ["self", "block"]) (sc := defScope s_Disk_image) (by decide +kernel)) (fun _ _ _ _ _ => (pg_name (i := 1) sc_Disk_image.nd rfl (Or.inl rfl))) (fun _ _ _ _ _ => pts_nil) (fun _ _ _ _ _ => (pe_callTy (show CallR _ (.type "list") (rListOf K) from call_list_of) (by rfl) T.n_list (by decide +kernel) (pa_cons (pv 1) pa_nil)))))), ?_⟩)
  obtain ⟨v0, rfl, h⟩ := h
  dsimp only [cxOf, L2.start]
  obtain ⟨p, d, rfl, hl, O, k⟩ := h
  have hr := O.rows (rs := d.bs) fun r hr => .tail _ (.tail _ (List.mem_map.mpr ⟨r, hr, rfl⟩))
  walk_at "s"
  refine lcL (K := K) (a := d.bl) (xs := d.bs.map fun x : Pg => V.ref x.1) (fun D j H2 => ∃ rs : List Pg, rs.map (·.2) = (d.bs.take j).map (·.2) ∧ Own H H2 [] ((D, .lst (rs.map fun x => V.ref x.1)) :: rs.map pcel)) (fun D hD => ⟨[], rfl, (Own.start (H := H)).new hD⟩) (fun D j H2 _ ⟨_, _, O1⟩ => SqL.of (O1.fr0 (O.get (.tail _ (.head _))))) ?_ ?_
  · rintro D j x H2 hx ⟨rs, hrs, O1⟩
    obtain ⟨y, hy, rfl⟩ := refs_get hx
    have hyr := hr.mono O1 y (List.mem_of_getElem? hy)
    have hjl := (List.getElem?_eq_some_iff.mp hy).1
    have hrl := congrArg List.length hrs
    rw [List.length_map, List.length_map, List.length_take] at hrl
    walk_at "s"
    intro l hl2
    have O2 := O1.new (o := .lst (y.2.map V.int)) hl2
    have hlen : (rs.map fun x : Pg => V.ref x.1).length < 100000 := by rw [List.length_map]; omega
    walk_at "s"
    refine ⟨rs ++ [(l, y.2)], ?_, ?_⟩
    · rw [take_succ hy, List.map_append, List.map_append, hrs]; rfl
    · have O3 := (O2.wr (o' := .lst ((rs.map fun x : Pg => V.ref x.1) ++ [.ref l])) (.there .here)).last
      rw [List.map_append, List.map_append]
      exact O3
  · rintro D H2 ⟨rs, hrs, O1⟩
    rw [List.length_map, List.take_length] at hrs
    exact k _ D rs O1 hrs

/-! ## what the disk laws' own helpers promise -/
def sp__law_cell_at (K : PySem.W.Frag) : Sp := sp2 fun x k H Q _ => ∃ (a : Addr) (xs : List Int) (n : Int), x = .ref a ∧ k = .int n ∧ 0 ≤ n ∧ SqL K H a (xs.map V.int) ∧ Q (.int ((xs[n.toNat]?).getD 0)) H
def sp__law_mixed (K : PySem.W.Frag) : Sp := sp2 fun x k H Q _ => ∃ i j : Int, x = .int i ∧ k = .int j ∧ ∀ r, Q (.int r) H
def sp__law_wide (K : PySem.W.Frag) : Sp := sp2 fun x k H Q _ => ∃ (a : Addr) (xs : List Int) (n : Int), x = .ref a ∧ k = .int n ∧ 0 ≤ n ∧ SqL K H a (xs.map V.int) ∧ ∀ r, Q (.int r) H
def sp__law_numbers (K : PySem.W.Frag) : Sp := sp1 fun x H Q _ => ∃ i : Int, x = .int i ∧ ∀ H' a (ns : List Int), ns.length = 16 → Own H H' [] [(a, .lst (ns.map V.int))] → Q (.ref a) H'
def sp__law_row_is (K : PySem.W.Frag) : Sp := sp2 fun x y H Q _ => ∃ (a b : Addr) (ns ms : List Int), x = .ref a ∧ y = .ref b ∧ ns.length ≤ 1000 ∧ H a = some (.lst (ns.map V.int)) ∧ H b = some (.lst (ms.map V.int)) ∧ ∀ H', Own H H' [] [] → Q (.bl (decide (ns = ms))) H'
def sp__law_rows_are (K : PySem.W.Frag) : Sp := sp2 fun x y H Q _ => ∃ (a b : Addr) (rs ss : List Pg), x = .ref a ∧ y = .ref b ∧ rs.length ≤ 1000 ∧ (∀ r ∈ rs, r.2.length ≤ 1000) ∧ H a = some (.lst (rs.map fun x => V.ref x.1)) ∧ H b = some (.lst (ss.map fun x => V.ref x.1)) ∧ RowsAt H rs ∧ RowsAt H ss ∧ ∀ H', Own H H' [] [] → Q (.bl (decide (rs.map (·.2) = ss.map (·.2)))) H'
def sp__law_count_is (K : PySem.W.Frag) : Sp := sp2 fun x y H Q _ => ∃ (o : Option Int) (j : Int), x = oV o ∧ y = .int j ∧ Q (.bl (decide (o = some j))) H
theorem sc__law_cell_at : FnScope ["_law_script", "_law_k"] ["_law_script", "_law_k"] (defScope s__law_cell_at) := ⟨rfl, rfl, rfl, by decide +kernel, rfl, by decide +kernel, by decide +kernel⟩
theorem ok__law_cell_at {P : Program} {w : World} {K : PySem.W.Frag} {mg : Str → Option Value} {base : Heap} (T : Txt K mg) : Cee P w K mg base 1 (He.fAd K ("_law_cell_at", none)) ["_law_script", "_law_k"] (sp__law_cell_at K) := by
  refine cee_of T.d__law_cell_at sc__law_cell_at (fun _ _ _ _ _ _ us hl => match us, hl with | [_, _], _ => rfl) (fun vs H Q E h => sp2_len h) (fun cdv A outer s H vs Q E hr h => ⟨_, (pss_cons (ps_if (pt_cmpR op_lt (pv 1) (pe_callB call_len_seq (by rfl) T.n_len (by decide +kernel) (pa_cons (pv 0) pa_nil)) (nomark _)) (pss_one (ps_ret (pe_ix ix_list (pv 0) (pv 1) (fun _ _ => rfl)))) pss_nil) (pss_one (ps_ret pe_int))), ?_⟩)
  obtain ⟨v0, v1, rfl, h⟩ := h
  dsimp only [cxOf, L2.start]
  obtain ⟨a, xs, n, rfl, rfl, n0, ha, k⟩ := h
  walk_at "s"
  refine if_d (fun h => ?_) (fun h => ?_)
  · obtain ⟨y, hz, hy⟩ := at_ints n0 h
    walk_at "s"
    rw [hz] at k
    exact k
  · rw [List.getElem?_eq_none (by rw [List.length_map] at h; omega)] at k
    walk_at "s"
    exact k
theorem sc__law_mixed : FnScope ["_law_cell", "_law_k", "_law_once"] ["_law_cell", "_law_k"] (defScope s__law_mixed) := ⟨rfl, rfl, rfl, by decide +kernel, rfl, by decide +kernel, by decide +kernel⟩
theorem ok__law_mixed {P : Program} {w : World} {K : PySem.W.Frag} {mg : Str → Option Value} {base : Heap} (T : Txt K mg) : Cee P w K mg base 1 (He.fAd K ("_law_mixed", none)) ["_law_cell", "_law_k"] (sp__law_mixed K) := by
  refine cee_of T.d__law_mixed sc__law_mixed (fun _ _ _ _ _ _ us hl => match us, hl with | [_, _], _ => rfl) (fun vs H Q E h => sp2_len h) (fun cdv A outer s H vs Q E hr h => ⟨_, (pss_cons (ps_set (i := 2) sc__law_mixed.nd rfl (Or.inl rfl) (pe_op op_mod (pe_op op_mul (pe_op op_add (pe_op op_add (pe_op op_mul (pe_op op_mod (pv 0) pe_int) pe_int) (pe_op op_mul pe_int (pv 1))) pe_int) pe_int) pe_int)) (pss_one (ps_ret (pe_op op_fdiv (pe_op op_mod (pe_op op_mul (pv 2) (pe_op op_add (pe_op op_add (pe_op op_mod (pv 2) pe_int) (pv 1)) pe_int)) pe_int) pe_int)))), ?_⟩)
  obtain ⟨v0, v1, rfl, h⟩ := h
  dsimp only [cxOf, L2.start]
  obtain ⟨i, j, rfl, rfl, k⟩ := h
  walk_at "s"
  exact k _
theorem sc__law_wide : FnScope ["_law_script", "_law_k", "_law_cell", "_law_own", "_law_plain", "_law_number", "_law_j"] ["_law_script", "_law_k"] (defScope s__law_wide) := ⟨rfl, rfl, rfl, by decide +kernel, rfl, by decide +kernel, by decide +kernel⟩
theorem ok__law_wide {P : Program} {w : World} {K : PySem.W.Frag} {mg : Str → Option Value} {base : Heap} (T : Txt K mg) : Cee P w K mg base 2 (He.fAd K ("_law_wide", none)) ["_law_script", "_law_k"] (sp__law_wide K) := by
  have c__law_cell_at : Cee P w K mg base 1 (He.fAd K ("_law_cell_at", none)) ["_law_script", "_law_k"] (sp__law_cell_at K) := ok__law_cell_at T
  have c__law_mixed : Cee P w K mg base 1 (He.fAd K ("_law_mixed", none)) ["_law_cell", "_law_k"] (sp__law_mixed K) := ok__law_mixed T
  refine cee_of T.d__law_wide sc__law_wide (fun _ _ _ _ _ _ us hl => match us, hl with | [_, _], _ => rfl) (fun vs H Q E h => sp2_len h) (fun cdv A outer s H vs Q E hr h => ⟨_, (pss_cons (ps_set (i := 2) sc__law_wide.nd rfl (Or.inl rfl) (pe_f c__law_cell_at (hr.mono (by decide)) (takes_of rfl rfl rfl rfl) (by rfl) T.g__law_cell_at (pa_cons (pv 0) (pa_cons (pv 1) pa_nil)))) (pss_cons (ps_set (i := 3) sc__law_wide.nd rfl (Or.inl rfl) (pe_op op_mod (pe_callB call_abs (by rfl) T.n_abs (by decide +kernel) (pa_cons (pv 2) pa_nil)) (pe_op op_mulW (pe_op op_pow pe_int pe_int) (pe_op op_pow pe_int pe_int)))) (pss_cons (ps_set (i := 4) sc__law_wide.nd rfl (Or.inl rfl) (pe_cmpR op_eq (pe_op op_mod (pe_f c__law_cell_at (hr.mono (by decide)) (takes_of rfl rfl rfl rfl) (by rfl) T.g__law_cell_at (pa_cons (pv 0) (pa_cons pe_int pa_nil))) pe_int) pe_int (nomark _))) (pss_cons (PS.box (ps_if (PW.pt (pw_and (pt_val (pv 4)) (pw_and1 (pt_cmpR op_ge (pv 3) (pe_op op_pow pe_int pe_int) (nomark _))))) (pss_one (ps_ret (pv 3))) pss_nil)) (pss_cons (ps_set (i := 5) sc__law_wide.nd rfl (Or.inl rfl) pe_int) (pss_cons (ps_for (passes_of rfl) rfl (PI.box (pi_range1 (by rfl) T.n_range (pa_cons pe_int pa_nil))) (pg_name (i := 6) sc__law_wide.nd rfl (Or.inl rfl)) (pss_one (ps_set (i := 5) sc__law_wide.nd rfl (Or.inl rfl) (pe_op op_add (pe_op op_mul (pv 5) pe_int) (pe_op op_mod (pe_f c__law_mixed (hr.mono (by decide)) (takes_of rfl rfl rfl rfl) (by rfl) T.g__law_mixed (pa_cons (pv 2) (pa_cons (pe_op op_add (pe_op op_mul pe_int (pv 1)) (pv 6)) pa_nil))) pe_int))))) (pss_cons (ps_if (pt_val (pv 4)) (pss_one (ps_ret (pe_op op_add (pe_op op_mulW (pv 5) (pe_op op_pow pe_int pe_int)) (pv 3)))) pss_nil) (pss_one (ps_ret (pv 5)))))))))), ?_⟩)
  obtain ⟨v0, v1, rfl, h⟩ := h
  dsimp only [cxOf, L2.start]
  obtain ⟨a, xs, n, rfl, rfl, n0, ha, k⟩ := h
  walk_at "s"
  refine ask2 ⟨a, xs, n, rfl, rfl, n0, ha, ?_⟩
  walk_at "s"
  refine ask2 ⟨a, xs, 0, rfl, rfl, Int.le_refl _, ha, ?_⟩
  generalize (xs[n.toNat]?).getD 0 = c
  generalize (xs[(0 : Int).toNat]?).getD 0 = c0
  walk_at "s"
  refine cutS (fun σ' H2 => H2 = H ∧ ∃ (b : Bool), σ' = [some (.ref a), some (.int n), some (.int c), some (.int ((if c < 0 then -c else c) % (10 ^ (60 : Int).toNat * 10 ^ (60 : Int).toNat))), some (.bl b), none, none]) (fun nx hn => ?_) ?_
  · walk_at "s"
    refine if_b (fun h => ?_) (fun h => ?_)
    · walk_at "s"
      refine if_d (fun h2 => ?_) (fun h2 => ?_)
      · walk_at "s"
        exact k _
      · exact hn _ _ ⟨rfl, _, rfl⟩
    · exact hn _ _ ⟨rfl, _, rfl⟩
  rintro σ' H2 ⟨rfl, b, rfl⟩
  have ho : ∃ m : Int, 0 ≤ m ∧ (if c < 0 then -c else c) % (10 ^ (60 : Int).toNat * 10 ^ (60 : Int).toNat) = m := ⟨_, Int.emod_nonneg _ (by decide +kernel), rfl⟩
  obtain ⟨m, hm, e⟩ := ho
  rw [e]
  walk_at "s"
  refine forR (lo := 0) (n := 14) (fun j σ H' => ∃ (x : Int) (v6 : Option V), σ = [some (.ref a), some (.int n), some (.int c), some (.int m), some (.bl b), some (.int x), v6] ∧ 0 ≤ x ∧ x < 536870912 ^ j ∧ H' = H2) ⟨0, _, rfl, Int.le_refl _, by decide, rfl⟩ ?_ ?_
  · rintro j σ H' hj ⟨x, v6, rfl, x0, x1, rfl⟩
    walk_at "s"
    refine ask2 ⟨_, _, rfl, rfl, fun r => ?_⟩
    walk_at "s"
    refine ⟨_, _, rfl, by omega, ?_, rfl⟩
    rw [Int.pow_succ]
    have h2 := Int.emod_lt_of_pos r (b := 536870912) (by decide)
    have h3 : (x + 1) * 536870912 ≤ 536870912 ^ j * 536870912 := Int.mul_le_mul_of_nonneg_right (by omega) (by decide)
    omega
  · rintro σ H' ⟨x, v6, rfl, x0, x1, rfl⟩
    have hw : CMulW x (10 ^ (40 : Int).toNat) := wide_mul (a := 407) (b := 140) (wide_le (j := 536870912 ^ 14) x0 (Int.le_of_lt x1) (by decide +kernel)) (by decide +kernel) (by decide) (by decide) (by decide)
    walk_at "s"
    refine if_b (fun h => ?_) (fun h => ?_)
    · walk_at "s"
      exact k _
    · walk_at "s"
      exact k _
theorem sc__law_numbers : FnScope ["_law_number", "_law_base", "_law_row", "_law_place"] ["_law_number"] (defScope s__law_numbers) := ⟨rfl, rfl, rfl, by decide +kernel, rfl, by decide +kernel, by decide +kernel⟩
theorem ok__law_numbers {P : Program} {w : World} {K : PySem.W.Frag} {mg : Str → Option Value} {base : Heap} (T : Txt K mg) : Cee P w K mg base 1 (He.fAd K ("_law_numbers", none)) ["_law_number"] (sp__law_numbers K) := by
  refine cee_of T.d__law_numbers sc__law_numbers (fun _ _ _ _ _ _ us hl => match us, hl with | [_], _ => rfl) (fun vs H Q E h => sp1_len h) (fun cdv A outer s H vs Q E hr h => ⟨_, (pss_cons (ps_set (i := 1) sc__law_numbers.nd rfl (Or.inl rfl) (pe_ix ix_list (pe_lst (pa_cons pe_int (pa_cons pe_int (pa_cons pe_int pa_nil)))) (pe_op op_mod (pv 0) pe_int) (fun _ _ => rfl))) (pss_cons (ps_set (i := 0) sc__law_numbers.nd rfl (Or.inl rfl) (pe_op op_fdiv (pv 0) pe_int)) (pss_cons (ps_set (i := 2) sc__law_numbers.nd rfl (Or.inl rfl) (pe_lst pa_nil)) (pss_cons (ps_for (passes_of rfl) rfl (PI.box (pi_range1 (by rfl) T.n_range (pa_cons pe_int pa_nil))) (pg_name (i := 3) sc__law_numbers.nd rfl (Or.inl rfl)) (pss_cons (ps_expr (pe_bm PySem.F.plainAttrs_list PySem.F.slot_list_append PySem.F.type_list_append mt_append (pv 2) (pa_cons (pe_op op_mod (pv 0) (pv 1)) pa_nil))) (pss_one (ps_set (i := 0) sc__law_numbers.nd rfl (Or.inl rfl) (pe_op op_fdiv (pv 0) (pv 1)))))) (pss_one (ps_ret (pv 2))))))), ?_⟩)
  obtain ⟨v0, rfl, h⟩ := h
  dsimp only [cxOf, L2.start]
  obtain ⟨i, rfl, k⟩ := h
  walk_at "s"
  intro b hb
  have O0 := (Own.start (H := H)).new (o := .lst [V.int 2, V.int 256, V.int 65536]) hb
  obtain ⟨y, hy, hat⟩ := at_ints (ns := [2, 256, 65536]) (n := i % 3) (by omega) (by show _ < (3 : Int); omega)
  walk_at "s"
  intro a ha
  have O1 := (O0.new (o := .lst []) ha).drop (cs' := [(a, .lst [])]) (.cons₂ _ (.cons _ (.refl _)))
  walk_at "s"
  refine forR (lo := 0) (n := 16) (fun j σ H' => ∃ (m : Int) (v3 : Option V) (ns : List Int), σ = [some (.int m), some (.int y), some (.ref a), v3] ∧ ns.length = j ∧ Own H H' [] [(a, .lst (ns.map V.int))]) ⟨_, _, [], rfl, rfl, O1⟩ ?_ ?_
  · rintro j σ H' hj ⟨m, v3, ns, rfl, hl, O⟩
    have hy2 : 0 < y ∧ y < 1073741824 := by
      have h := List.mem_of_getElem? hy
      simp only [List.mem_cons, List.not_mem_nil, or_false] at h
      omega
    have hlen : (ns.map V.int).length < 100000 := by rw [List.length_map]; omega
    walk_at "s"
    refine ⟨_, _, ns ++ [m % y], rfl, by rw [List.length_append, hl]; rfl, ?_⟩
    rw [List.map_append]
    exact O.wr .here
  · rintro σ H' ⟨m, v3, ns, rfl, hl, O⟩
    walk_at "s"
    exact k _ a ns hl O
theorem sc__law_row_is : FnScope ["_law_found", "_law_due_here", "_law_one", "_law_other"] ["_law_found", "_law_due_here"] (defScope s__law_row_is) := ⟨rfl, rfl, rfl, by decide +kernel, rfl, by decide +kernel, by decide +kernel⟩
theorem ok__law_row_is {P : Program} {w : World} {K : PySem.W.Frag} {mg : Str → Option Value} {base : Heap} (T : Txt K mg) : Cee P w K mg base 1 (He.fAd K ("_law_row_is", none)) ["_law_found", "_law_due_here"] (sp__law_row_is K) := by
  refine cee_of T.d__law_row_is sc__law_row_is (fun _ _ _ _ _ _ us hl => match us, hl with | [_, _], _ => rfl) (fun vs H Q E h => sp2_len h) (fun cdv A outer s H vs Q E hr h => ⟨_, (pss_cons (PS.box (ps_if (PW.pt (pw_or (pt_not (pt_val (pe_callB call_isi (by rfl) T.n_isinstance (by decide +kernel) (pa_cons (pv 0) (pa_cons (pe_bltn (v := .ty "list") rfl T.n_list (by decide +kernel) rfl) pa_nil))))) (pw_or1 (pt_cmpR op_ne (pe_callB call_len_seq (by rfl) T.n_len (by decide +kernel) (pa_cons (pv 0) pa_nil)) (pe_callB call_len_seq (by rfl) T.n_len (by decide +kernel) (pa_cons (pv 1) pa_nil)) (nomark _))))) (pss_one (ps_ret pe_bl)) pss_nil)) (pss_one (ps_ret (pe_callB (cr_all rfl) (by rfl) T.n_all (by decide +kernel) (pa_cons (pe_lc (own := [("_law_one", 2), ("_law_other", 3)]) (by rfl) sc__law_row_is.nd (PI.box (pi_zip (by rfl) T.n_zip (pa_cons (pv 0) (pa_cons (pv 1) pa_nil)))) (blkOk_by (own := [("_law_one", 2), ("_law_other", 3)]) (N := ["_law_found", "_law_due_here", "_law_one", "_law_other"]) (sc := defScope s__law_row_is) (by decide +kernel)) (fun _ _ _ _ _ => (show PG _ _ (gTup K 2 (gCons (gName 2) (gCons (gName 3) gNil))) from (pg_tup rfl (pgs_cons (pg_name (i := 2) sc__law_row_is.nd rfl (Or.inl rfl)) (pgs_cons (pg_name (i := 3) sc__law_row_is.nd rfl (Or.inl rfl)) pgs_nil))))) (fun _ _ _ _ _ => pts_nil) (fun _ _ _ _ _ => (pe_and (pe_callB (show CallR _ (.builtin "isinstance") (rIsi K) from call_isi) (by rfl) T.n_isinstance (by decide +kernel) (pa_cons (pv 2) (pa_cons (pe_bltn (v := .ty "int") rfl T.n_int (by decide +kernel) rfl) pa_nil))) (pe_and (pe_not (pe_callB (show CallR _ (.builtin "isinstance") (rIsi K) from call_isi) (by rfl) T.n_isinstance (by decide +kernel) (pa_cons (pv 2) (pa_cons (pe_bltn (v := .ty "bool") rfl T.n_bool (by decide +kernel) rfl) pa_nil)))) (pe_one (pe_cmpR op_eq (pv 2) (pv 3) (nomark _))))))) pa_nil))))), ?_⟩)
  obtain ⟨v0, v1, rfl, h⟩ := h
  dsimp only [cxOf, L2.start]
  obtain ⟨a, b, ns, ms, rfl, rfl, hl, ha, hb, k⟩ := h
  walk_at "b"
  refine if_nii (fun h => ?_) (fun h => ?_)
  · walk_at "s"
    rw [decide_eq_false (fun z => h (by rw [z]))] at k
    exact k _ Own.start
  · have hlen : ns.length = ms.length := by simp only [List.length_map] at h; omega
    walk_at "s"
    refine lcW (walk_zip (K := K) (a := a) (b := b) (xs := ns.map V.int) (ys := ms.map V.int) (n := ns.length) (by simp only [List.length_map]; omega)) (fun D j H2 => Own H H2 [] [(D, .lst ((((ns.zip ms).take j).map fun p => decide (id p.1 = id p.2)).map V.bl))]) (fun D hD => Own.start.new hD) (fun D j H2 _ O => ⟨SqL.of (O.fr0 ha), SqL.of (O.fr0 hb)⟩) ?_ ?_
    · rintro D j x H2 H3 hj O ⟨T, u, v, rfl, hT, rfl, hu, hv⟩
      obtain ⟨x, hx, rfl⟩ := map_get hu
      obtain ⟨y, hy, rfl⟩ := map_get hv
      have O1 := O.newT (o := .tup [V.int x, V.int y]) hT
      have hT1 : (upd H2 T (.tup [V.int x, V.int y])) T = some (.tup [V.int x, V.int y]) := upd_same
      have hlz : (((((ns.zip ms).take j).map fun p => decide (id p.1 = id p.2))).map V.bl).length < 100000 := by simp only [List.length_map, List.length_take, List.length_zip]; omega
      walk_at "s"
      rw [take_succ (zip_at hx hy), List.map_append, List.map_append]
      have e : decide (V.int x = V.int y) = decide (id x = id y) := by simp
      rw [e]
      exact ⟨O1.wr .here⟩
    · rintro D H2 O
      rw [List.take_of_length_le (by rw [List.length_zip]; omega)] at O
      walk_at "s"
      rw [zip_all id id ns ms hlen, List.map_id, List.map_id]
      exact k _ (O.drop (List.nil_sublist _))
theorem sc__law_rows_are : FnScope ["_law_found", "_law_due_here", "_law_one", "_law_other"] ["_law_found", "_law_due_here"] (defScope s__law_rows_are) := ⟨rfl, rfl, rfl, by decide +kernel, rfl, by decide +kernel, by decide +kernel⟩
theorem ok__law_rows_are {P : Program} {w : World} {K : PySem.W.Frag} {mg : Str → Option Value} {base : Heap} (T : Txt K mg) : Cee P w K mg base 2 (He.fAd K ("_law_rows_are", none)) ["_law_found", "_law_due_here"] (sp__law_rows_are K) := by
  have c__law_row_is : Cee P w K mg base 1 (He.fAd K ("_law_row_is", none)) ["_law_found", "_law_due_here"] (sp__law_row_is K) := ok__law_row_is T
  refine cee_of T.d__law_rows_are sc__law_rows_are (fun _ _ _ _ _ _ us hl => match us, hl with | [_, _], _ => rfl) (fun vs H Q E h => sp2_len h) (fun cdv A outer s H vs Q E hr h => ⟨_, (pss_cons (PS.box (ps_if (PW.pt (pw_or (pt_not (pt_val (pe_callB call_isi (by rfl) T.n_isinstance (by decide +kernel) (pa_cons (pv 0) (pa_cons (pe_bltn (v := .ty "list") rfl T.n_list (by decide +kernel) rfl) pa_nil))))) (pw_or1 (pt_cmpR op_ne (pe_callB call_len_seq (by rfl) T.n_len (by decide +kernel) (pa_cons (pv 0) pa_nil)) (pe_callB call_len_seq (by rfl) T.n_len (by decide +kernel) (pa_cons (pv 1) pa_nil)) (nomark _))))) (pss_one (ps_ret pe_bl)) pss_nil)) (pss_one (ps_ret (pe_callB (cr_all rfl) (by rfl) T.n_all (by decide +kernel) (pa_cons (pe_lc (own := [("_law_one", 2), ("_law_other", 3)]) (by rfl) sc__law_rows_are.nd (PI.box (pi_zip (by rfl) T.n_zip (pa_cons (pv 0) (pa_cons (pv 1) pa_nil)))) (blkOk_by (own := [("_law_one", 2), ("_law_other", 3)]) (N := ["_law_found", "_law_due_here", "_law_one", "_law_other"]) (sc := defScope s__law_rows_are) (by decide +kernel)) (fun _ _ _ _ _ => (show PG _ _ (gTup K 2 (gCons (gName 2) (gCons (gName 3) gNil))) from (pg_tup rfl (pgs_cons (pg_name (i := 2) sc__law_rows_are.nd rfl (Or.inl rfl)) (pgs_cons (pg_name (i := 3) sc__law_rows_are.nd rfl (Or.inl rfl)) pgs_nil))))) (fun _ _ _ _ _ => pts_nil) (fun _ _ _ _ _ => (pe_f c__law_row_is (hr.mono (by decide)) takes0 (by rfl) T.g__law_row_is (pa_cons (pv 2) (pa_cons (pv 3) pa_nil))))) pa_nil))))), ?_⟩)
  obtain ⟨v0, v1, rfl, h⟩ := h
  dsimp only [cxOf, L2.start]
  obtain ⟨a, b, rs, ss, rfl, rfl, hl, hl2, ha, hb, hr, hs, k⟩ := h
  walk_at "b"
  refine if_nii (fun h => ?_) (fun h => ?_)
  · walk_at "s"
    rw [decide_eq_false (fun z => h (by have := congrArg List.length z; simp only [List.length_map] at this ⊢; rw [this]))] at k
    exact k _ Own.start
  · have hlen : rs.length = ss.length := by simp only [List.length_map] at h; omega
    walk_at "s"
    refine lcW (walk_zip (K := K) (a := a) (b := b) (xs := rs.map fun x : Pg => V.ref x.1) (ys := ss.map fun x : Pg => V.ref x.1) (n := rs.length) (by simp only [List.length_map]; omega)) (fun D j H2 => Own H H2 [] [(D, .lst ((((rs.zip ss).take j).map fun p => decide (p.1.2 = p.2.2)).map V.bl))]) (fun D hD => Own.start.new hD) (fun D j H2 _ O => ⟨SqL.of (O.fr0 ha), SqL.of (O.fr0 hb)⟩) ?_ ?_
    · rintro D j x H2 H3 hj O ⟨T, u, v, rfl, hT, rfl, hu, hv⟩
      obtain ⟨x, hx, rfl⟩ := refs_get hu
      obtain ⟨y, hy, rfl⟩ := refs_get hv
      have O1 := O.newT (o := .tup [V.ref x.1, V.ref y.1]) hT
      have hT1 : (upd H2 T (.tup [V.ref x.1, V.ref y.1])) T = some (.tup [V.ref x.1, V.ref y.1]) := upd_same
      have hlz : (((((rs.zip ss).take j).map fun p => decide (p.1.2 = p.2.2))).map V.bl).length < 100000 := by simp only [List.length_map, List.length_take, List.length_zip]; omega
      walk_at "s"
      refine ask2 ⟨x.1, y.1, x.2, y.2, rfl, rfl, hl2 x (List.mem_of_getElem? hx), O1.fr0 (hr x (List.mem_of_getElem? hx)), O1.fr0 (hs y (List.mem_of_getElem? hy)), fun H4 O2 => ?_⟩
      have O3 := O1.callN O2
      walk_at "s"
      rw [take_succ (zip_at hx hy), List.map_append, List.map_append]
      exact ⟨O3.wr .here⟩
    · rintro D H2 O
      rw [List.take_of_length_le (by rw [List.length_zip]; omega)] at O
      walk_at "s"
      rw [zip_all (fun x : Pg => x.2) (fun x : Pg => x.2) rs ss hlen]
      exact k _ (O.drop (List.nil_sublist _))
theorem sc__law_count_is : FnScope ["_law_found", "_law_due_here"] ["_law_found", "_law_due_here"] (defScope s__law_count_is) := ⟨rfl, rfl, rfl, by decide +kernel, rfl, by decide +kernel, by decide +kernel⟩
theorem ok__law_count_is {P : Program} {w : World} {K : PySem.W.Frag} {mg : Str → Option Value} {base : Heap} (T : Txt K mg) : Cee P w K mg base 1 (He.fAd K ("_law_count_is", none)) ["_law_found", "_law_due_here"] (sp__law_count_is K) := by
  refine cee_of T.d__law_count_is sc__law_count_is (fun _ _ _ _ _ _ us hl => match us, hl with | [_, _], _ => rfl) (fun vs H Q E h => sp2_len h) (fun cdv A outer s H vs Q E hr h => ⟨_, (pss_one (ps_ret (pe_and (pe_callB call_isi (by rfl) T.n_isinstance (by decide +kernel) (pa_cons (pv 0) (pa_cons (pe_bltn (v := .ty "int") rfl T.n_int (by decide +kernel) rfl) pa_nil))) (pe_and (pe_not (pe_callB call_isi (by rfl) T.n_isinstance (by decide +kernel) (pa_cons (pv 0) (pa_cons (pe_bltn (v := .ty "bool") rfl T.n_bool (by decide +kernel) rfl) pa_nil)))) (pe_one (pe_cmpR op_eq (pv 0) (pv 1) (nomark _))))))), ?_⟩)
  obtain ⟨v0, v1, rfl, h⟩ := h
  dsimp only [cxOf, L2.start]
  obtain ⟨o, j, rfl, rfl, k⟩ := h
  rcases o with _ | i <;> dsimp only [oV]
  · walk_at "s"
    refine if_f rfl ?_
    exact k
  · walk_at "s"
    rw [show decide (V.int i = V.int j) = decide (some i = some j) from eq_oV (o := some i)]
    exact k

/-! ## a disk without places -/
structure DS where
  rows : List (List Int)
  done : Int
  left : Option Int
  down : Bool
def Dk.abs (d : Dk) : DS := ⟨d.rows, d.done, d.left, d.down⟩
/-- a list of rows -/
def cLR (b : Addr) (rs : List Pg) : Cells := (b, .lst (rs.map fun x => V.ref x.1)) :: rs.map pcel

abbrev DS.has (s : DS) (i : Int) : Prop := 0 ≤ i ∧ i < s.rows.length
/-- a read (none) or a write of a block: what it leaves, and the word it is refused with -/
def DS.step (s : DS) (i : Int) : Option (List Int) → DS × Str
  | none => (s, if s.has i then (if s.down = true then "fallen" else "") else "block")
  | some ns => if s.has i then (if s.down = true ∨ s.left = some 0 then ({ s with down := true }, "fallen") else (⟨s.rows.set i.toNat ns, s.done + 1, s.left.map (· - 1), s.down⟩, "")) else (s, "block")
section
variable {s : DS} {i : Int} {r : Option (List Int)} {ns : List Int}
theorem step_no (h : ¬ s.has i) : s.step i r = (s, ("block" : Str)) := by
  cases r with
  | none => exact congrArg (Prod.mk s) (if_neg h)
  | some ns => exact if_neg h
theorem step_down (h : s.has i) (hd : s.down = true) : s.step i r = (s, ("fallen" : Str)) := by
  cases r with
  | none => exact congrArg (Prod.mk s) ((if_pos h).trans (if_pos hd))
  | some ns =>
    refine ((if_pos h).trans (if_pos (.inl hd))).trans ?_
    obtain ⟨a, b, c, d⟩ := s
    dsimp only at hd
    rw [hd]
theorem step_read (h : s.has i) (hd : s.down = false) : s.step i none = (s, ("" : Str)) := congrArg (Prod.mk s) ((if_pos h).trans (if_neg (by rw [hd]; decide)))
theorem step_fall (h : s.has i) (hl : s.left = some 0) : s.step i (some ns) = (({ s with down := true } : DS), ("fallen" : Str)) := (if_pos h).trans (if_pos (.inr hl))
theorem step_write (h : s.has i) (hd : ¬ (s.down = true ∨ s.left = some 0)) : s.step i (some ns) = ((⟨s.rows.set i.toNat ns, s.done + 1, s.left.map (· - 1), s.down⟩ : DS), ("" : Str)) := (if_pos h).trans (if_neg hd)
end
/-- a row that is handed in, or None -/
def RowV (H : Hp) (z : V) (r : Option (List Int)) : Prop := (z = .non ∧ r = none) ∨ ∃ a ns, z = .ref a ∧ r = some ns ∧ H a = some (.lst (ns.map V.int))
/-- the law's own -/
structure St6 where
  s : Addr
  b : Addr
  rs : List Pg
  m : Int
  left : Int
  fl : Bool
def St6.lst (t : St6) : Addr × HO := (t.s, .lst [.ref t.b, .int t.m, .int t.left, .bl t.fl])
def St6.cells (t : St6) : Cells := t.lst :: cLR t.b t.rs
def St6.abs (t : St6) : DS := ⟨t.rs.map (·.2), t.m, if t.left = -1 then none else some t.left, t.fl⟩
def sp__law_kind (K : PySem.W.Frag) : Sp := sp3 fun x y z H Q _ => ∃ (p : Addr) (d : Dk) (i : Int) (r : Option (List Int)), x = .ref p ∧ y = .int i ∧ RowV H z r ∧ d.bs.length ≤ 1000 ∧ Own H H (adr (cDk K p d)) (cDk K p d) ∧
  ∀ (H' : Hp) (d' : Dk), Own H H' (adr (cDk K p d)) (cDk K p d') → d'.abs = (d.abs.step i r).1 → Q (.str (d.abs.step i r).2) H'
def sp__law_due (K : PySem.W.Frag) : Sp := sp3 fun x y z H Q _ => ∃ (t : St6) (i : Int) (r : Option (List Int)) (e : Cells), x = .ref t.s ∧ y = .int i ∧ t.rs.length ≤ 1000 ∧ -1 ≤ t.left ∧ ((z = .non ∧ r = none ∧ e = []) ∨ ∃ a ns, z = .ref a ∧ r = some ns ∧ e = [(a, .lst (ns.map V.int))]) ∧ Own H H (adr (e ++ t.cells)) (e ++ t.cells) ∧
  ∀ (H' : Hp) (t' : St6), Own H H' (adr (e ++ t.cells)) t'.cells → t'.s = t.s → -1 ≤ t'.left → t'.abs = (t.abs.step i r).1 → Q (.str (t.abs.step i r).2) H'
def sp__law_turned (K : PySem.W.Frag) : Sp := sp3 fun x y z H Q _ => ∃ (p : Addr) (d : Dk) (t : St6) (i : Int), x = .ref p ∧ y = .ref t.s ∧ z = .int i ∧ -1 ≤ t.left ∧ d.abs = t.abs ∧ Own H H (adr (t.cells ++ cDk K p d)) (t.cells ++ cDk K p d) ∧
  ∀ (H' : Hp) (t' : St6) (d' : Dk), Own H H' (adr (t.cells ++ cDk K p d)) (t'.cells ++ cDk K p d') → t'.s = t.s → t'.rs = t.rs → -1 ≤ t'.left → d'.abs = t'.abs → Q .non H'
theorem sc__law_kind : FnScope ["_law_disk", "_law_n", "_law_row", "_law_caught", "error"] ["_law_disk", "_law_n", "_law_row"] (defScope s__law_kind) := ⟨rfl, rfl, rfl, by decide +kernel, rfl, by decide +kernel, by decide +kernel⟩
theorem ok__law_kind {P : Program} {w : World} {K : PySem.W.Frag} {mg : Str → Option Value} {base : Heap} (T : Txt K mg) : Cee P w K mg base 3 (He.fAd K ("_law_kind", none)) ["_law_disk", "_law_n", "_law_row"] (sp__law_kind K) := by
  have c_Disk_read : Cee P w K mg base 2 (He.fAd K ("Disk", some "read")) ["self", "n"] (sp_Disk_read K) := ok_Disk_read T
  have c_Disk_write : Cee P w K mg base 2 (He.fAd K ("Disk", some "write")) ["self", "n", "numbers"] (sp_Disk_write K) := ok_Disk_write T
  refine cee_of T.d__law_kind sc__law_kind (fun _ _ _ _ _ _ us hl => match us, hl with | [_, _, _], _ => rfl) (fun vs H Q E h => sp3_len h) (fun cdv A outer s H vs Q E hr h => ⟨_, (pss_cons (ps_set (i := 3) sc__law_kind.nd rfl (Or.inl rfl) pe_non) (pss_cons (PS.box (ps_tryX (i := 4) rfl rfl rfl sc__law_kind.nd rfl rfl ⟨rfl, by decide, .inl T.g_KernelError⟩ (takes_of rfl rfl rfl rfl) (fun W pn xe tk pe => (pss_one (ps_if (pt_cmpR op_isN (pv 2) pe_non (nomark _)) (pss_one (ps_expr (pe_m (pv 0) T.c_Disk T.m_Disk_read c_Disk_read (hr.mono (by decide)) tk (pa_cons (pv 1) pa_nil)))) (pss_one (ps_expr (pe_m (pv 0) T.c_Disk T.m_Disk_write c_Disk_write (hr.mono (by decide)) tk (pa_cons (pv 1) (pa_cons (pv 2) pa_nil)))))))) (fun a pn => (pss_one (ps_set (i := 3) sc__law_kind.nd rfl (Or.inl rfl) (pv 4)))))) (pss_cons (ps_if (pt_cmpR op_isN (pv 3) pe_non (nomark _)) (pss_one (ps_ret pe_str)) pss_nil) (pss_cons (ps_if (pt_val (pe_callB call_isXT (by rfl) T.n_isinstance (by decide +kernel) (pa_cons (pv 3) (pa_cons (pe_tup (pa_cons (pe_glob (v := .ref (He.ga K "BadCall")) rfl T.g_BadCall rfl) (pa_cons (pe_glob (v := .ref (He.ga K "BadName")) rfl T.g_BadName rfl) (pa_cons (pe_glob (v := .ref (He.ga K "NoNode")) rfl T.g_NoNode rfl) (pa_cons (pe_glob (v := .ref (He.ga K "NoOwner")) rfl T.g_NoOwner rfl) (pa_cons (pe_glob (v := .ref (He.ga K "NoPage")) rfl T.g_NoPage rfl) (pa_cons (pe_glob (v := .ref (He.ga K "NoSpace")) rfl T.g_NoSpace rfl) (pa_cons (pe_glob (v := .ref (He.ga K "NoTask")) rfl T.g_NoTask rfl) pa_nil)))))))) pa_nil)))) (pss_one (ps_ret pe_str)) pss_nil) (pss_cons (PS.box (ps_if (PW.pt (pw_or (pt_not (pt_val (pe_callB call_isX (by rfl) T.n_isinstance (by decide +kernel) (pa_cons (pv 3) (pa_cons (pe_bltn (v := .ty "ValueError") rfl T.n_ValueError (by decide +kernel) rfl) pa_nil))))) (pw_or1 (pt_cmpR op_eq (pe_callB call_isX (by rfl) T.n_isinstance (by decide +kernel) (pa_cons (pv 3) (pa_cons (pe_glob (v := .ref (He.ga K "NoBlock")) rfl T.g_NoBlock rfl) pa_nil))) (pe_callB call_isX (by rfl) T.n_isinstance (by decide +kernel) (pa_cons (pv 3) (pa_cons (pe_glob (v := .ref (He.ga K "Fallen")) rfl T.g_Fallen rfl) pa_nil))) (nomark _))))) (pss_one (ps_ret pe_str)) pss_nil)) (pss_one (ps_ret (pe_ix ix_list (pe_lst (pa_cons pe_str (pa_cons pe_str pa_nil))) (pe_callTy call_int1 (by rfl) T.n_int (by decide +kernel) (pa_cons (pe_callB call_isX (by rfl) T.n_isinstance (by decide +kernel) (pa_cons (pv 3) (pa_cons (pe_glob (v := .ref (He.ga K "NoBlock")) rfl T.g_NoBlock rfl) pa_nil))) pa_nil)) (fun _ _ => rfl))))))))), ?_⟩)
  obtain ⟨v0, v1, v2, rfl, h⟩ := h
  dsimp only [cxOf, L2.start]
  obtain ⟨p, d, i, r, rfl, rfl, hz, hl, O, k⟩ := h
  have hlen : d.abs.rows.length = d.bs.length := List.length_map _
  walk_at "s"
  refine cutS (fun σ' H2 => ∃ d', d'.abs = (d.abs.step i r).1 ∧ (((d.abs.step i r).2 = "" ∧ σ' = [some (.ref p), some (.int i), some v2, some .non, none] ∧ Own H H2 (adr (cDk K p d)) (cDk K p d')) ∨
    ∃ (w : Str) (a : Addr), (w = "NoBlock" ∧ (d.abs.step i r).2 = "block" ∨ w = "Fallen" ∧ (d.abs.step i r).2 = "fallen") ∧ σ' = [some (.ref p), some (.int i), some v2, some (.ref a), none] ∧ Own H H2 (adr (cDk K p d)) ((a, CxO (.ref (He.ga K w)) none a) :: cDk K p d'))) (fun nx hn => ?_) ?_
  · rcases hz with ⟨rfl, rfl⟩ | ⟨a, ns, rfl, rfl, ha⟩
    · walk_at "s"
      refine ask2 ⟨p, d, i, rfl, rfl, hl, O, fun hi => ?_, fun hi hd => ?_, fun hi hd x hx H2 c O2 => ?_⟩
      · walk_at "s"
        refine ⟨fun _ e he => ?_, nofun⟩
        walk_at "s"
        refine hn _ _ ⟨d, rfl, .inr ⟨_, e, .inl ⟨rfl, ?_⟩, rfl, O.new he⟩⟩
        exact if_neg (fun h => hi ⟨h.1, by rw [← hlen]; exact h.2⟩)
      · walk_at "s"
        refine ⟨fun _ e he => ?_, nofun⟩
        walk_at "s"
        refine hn _ _ ⟨d, rfl, .inr ⟨_, e, .inr ⟨rfl, ?_⟩, rfl, O.new he⟩⟩
        exact (if_pos ⟨hi.1, by rw [hlen]; exact hi.2⟩).trans (if_pos hd)
      · refine hn _ _ ⟨d, rfl, .inl ⟨?_, rfl, (O.callN O2).drop (.cons _ (.refl _))⟩⟩
        exact (if_pos ⟨hi.1, by rw [hlen]; exact hi.2⟩).trans (if_neg (by show ¬ d.down = true; rw [hd]; decide))
    · walk_at "s"
      refine ask3 ⟨p, d, i, a, ns, rfl, rfl, rfl, ha, hl, O, fun hi => ?_, fun hi hd H2 O2 => ?_, fun hi hd H2 c O2 => ?_⟩
      · have e1 : d.abs.step i (some ns) = (d.abs, ("block" : Str)) := if_neg (fun h => hi ⟨h.1, by rw [← hlen]; exact h.2⟩)
        walk_at "s"
        refine ⟨fun _ e he => ?_, nofun⟩
        walk_at "s"
        exact hn _ _ ⟨d, by rw [e1], .inr ⟨_, e, .inl ⟨rfl, by rw [e1]⟩, rfl, O.new he⟩⟩
      · have e1 : d.abs.step i (some ns) = (({ d.abs with down := true } : DS), ("fallen" : Str)) := (if_pos ⟨hi.1, by rw [hlen]; exact hi.2⟩).trans (if_pos (show d.abs.down = true ∨ d.abs.left = some 0 from hd))
        walk_at "s"
        refine ⟨fun _ e he => ?_, nofun⟩
        walk_at "s"
        refine hn _ _ ⟨{ d with down := true }, by rw [e1]; rfl, .inr ⟨_, e, .inr ⟨rfl, by rw [e1]⟩, rfl, O2.new he⟩⟩
      · have e1 : d.abs.step i (some ns) = ((⟨d.abs.rows.set i.toNat ns, d.abs.done + 1, d.abs.left.map (· - 1), d.abs.down⟩ : DS), ("" : Str)) := (if_pos ⟨hi.1, by rw [hlen]; exact hi.2⟩).trans (if_neg (show ¬ (d.abs.down = true ∨ d.abs.left = some 0) from hd))
        refine hn _ _ ⟨_, ?_, .inl ⟨by rw [e1], rfl, O2⟩⟩
        rw [e1]
        show (⟨(d.bs.set i.toNat (c, ns)).map (·.2), _, _, _⟩ : DS) = _
        rw [List.map_set]
        rfl
  rintro σ' H2 ⟨d', hd', ⟨hw, rfl, O2⟩ | ⟨w, a, hw, rfl, O2⟩⟩
  · walk_at "s"
    rw [hw] at k
    exact if_d (fun _ => k _ d' O2 hd') (fun h => absurd rfl h)
  · have tps : ∀ t, H2 t = none → (upd H2 t (.tup [.ref (He.ga K "BadCall"), .ref (He.ga K "BadName"), .ref (He.ga K "NoNode"), .ref (He.ga K "NoOwner"), .ref (He.ga K "NoPage"), .ref (He.ga K "NoSpace"), .ref (He.ga K "NoTask")])) t = some (.tup [.ref (He.ga K "BadCall"), .ref (He.ga K "BadName"), .ref (He.ga K "NoNode"), .ref (He.ga K "NoOwner"), .ref (He.ga K "NoPage"), .ref (He.ga K "NoSpace"), .ref (He.ga K "NoTask")]) := fun t _ => upd_same
    rcases hw with ⟨rfl, hw⟩ | ⟨rfl, hw⟩ <;> rw [hw] at k
    · walk_at "s"
      intro t ht
      have O3 := O2.newT (o := .tup [.ref (He.ga K "BadCall"), .ref (He.ga K "BadName"), .ref (He.ga K "NoNode"), .ref (He.ga K "NoOwner"), .ref (He.ga K "NoPage"), .ref (He.ga K "NoSpace"), .ref (He.ga K "NoTask")]) ht
      have ht2 := tps t ht
      walk_at "s"
      refine if_f rfl ?_
      walk_at "b"
      intro l hl2
      have O4 := O3.new (o := .lst [.str "fallen", .str "block"]) hl2
      have hat : atI [V.str "fallen", V.str "block"] 1 = some (.str "block") := atI_nat (j := 1) rfl
      walk_at "s"
      refine .inr ⟨_, rfl, ?_⟩
      walk_at "s"
      exact k _ d' (O4.drop (.cons _ (.cons _ (.refl _)))) hd'
    · walk_at "s"
      intro t ht
      have O3 := O2.newT (o := .tup [.ref (He.ga K "BadCall"), .ref (He.ga K "BadName"), .ref (He.ga K "NoNode"), .ref (He.ga K "NoOwner"), .ref (He.ga K "NoPage"), .ref (He.ga K "NoSpace"), .ref (He.ga K "NoTask")]) ht
      have ht2 := tps t ht
      walk_at "s"
      refine if_f rfl ?_
      walk_at "b"
      intro l hl2
      have O4 := O3.new (o := .lst [.str "fallen", .str "block"]) hl2
      have hat : atI [V.str "fallen", V.str "block"] 0 = some (.str "fallen") := atI_nat (j := 0) rfl
      walk_at "s"
      refine .inr ⟨_, rfl, ?_⟩
      walk_at "s"
      exact k _ d' (O4.drop (.cons _ (.cons _ (.refl _)))) hd'
theorem sc__law_due : FnScope ["_law_state", "_law_n", "_law_row"] ["_law_state", "_law_n", "_law_row"] (defScope s__law_due) := ⟨rfl, rfl, rfl, by decide +kernel, rfl, by decide +kernel, by decide +kernel⟩
theorem ok__law_due {P : Program} {w : World} {K : PySem.W.Frag} {mg : Str → Option Value} {base : Heap} (T : Txt K mg) : Cee P w K mg base 1 (He.fAd K ("_law_due", none)) ["_law_state", "_law_n", "_law_row"] (sp__law_due K) := by
  refine cee_of T.d__law_due sc__law_due (fun _ _ _ _ _ _ us hl => match us, hl with | [_, _, _], _ => rfl) (fun vs H Q E h => sp3_len h) (fun cdv A outer s H vs Q E hr h => ⟨_, (pss_cons (PS.box (ps_if (pt_not (pt_chain op_le op_lt pe_int (pv 1) (pe_callB call_len_seq (by rfl) T.n_len (by decide +kernel) (pa_cons (pe_ix ix_list (pv 0) pe_int (fun _ _ => rfl)) pa_nil)))) (pss_one (ps_ret pe_str)) pss_nil)) (pss_cons (ps_if (pt_val (pe_ix ix_list (pv 0) pe_int (fun _ _ => rfl))) (pss_one (ps_ret pe_str)) pss_nil) (pss_cons (ps_if (pt_cmpR op_isN (pv 2) pe_non (nomark _)) (pss_one (ps_ret pe_str)) pss_nil) (pss_cons (ps_if (pt_cmpR op_eq (pe_ix ix_list (pv 0) pe_int (fun _ _ => rfl)) pe_int (nomark _)) (pss_cons (ps_asg pe_bl (pg_sub (pv 0) pe_int set_list)) (pss_one (ps_ret pe_str))) pss_nil) (pss_cons (PS.box (ps_if (pt_cmpR op_gt (pe_ix ix_list (pv 0) pe_int (fun _ _ => rfl)) pe_int (nomark _)) (pss_one (ps_asg (pe_op op_sub (pe_ix ix_list (pv 0) pe_int (fun _ _ => rfl)) pe_int) (pg_sub (pv 0) pe_int set_list))) pss_nil)) (pss_cons (ps_asg (pv 2) (pg_sub (pe_ix ix_list (pv 0) pe_int (fun _ _ => rfl)) (pv 1) set_list)) (pss_cons (ps_asg (pe_op op_add (pe_ix ix_list (pv 0) pe_int (fun _ _ => rfl)) pe_int) (pg_sub (pv 0) pe_int set_list)) (pss_one (ps_ret pe_str))))))))), ?_⟩)
  obtain ⟨v0, v1, v2, rfl, h⟩ := h
  dsimp only [cxOf, L2.start]
  obtain ⟨⟨s, b, rs, m, left, fl⟩, i, r, e, rfl, rfl, hl, hle, hz, O, k⟩ := h
  unfold St6.cells St6.lst at O k
  dsimp only at O k hl hle
  have hlen : (St6.abs ⟨s, b, rs, m, left, fl⟩).rows.length = rs.length := List.length_map _
  have Oc := O.drop (List.sublist_append_right _ _)
  have hs := Oc.get (a := s) (.head _)
  have hb := Oc.get (a := b) (.tail _ (.head _))
  walk_at "b"
  refine if_d (fun h0 => ?_) (fun h0 => ?_)
  · walk_at "s"
    refine if_nd (fun h1 => ?_) (fun h1 => ?_)
    · walk_at "s"
      have e1 := step_no (s := St6.abs ⟨s, b, rs, m, left, fl⟩) (i := i) (r := r) (fun h => h1 (by rw [List.length_map, ← hlen]; exact h.2))
      rw [e1] at k
      exact k _ ⟨s, b, rs, m, left, fl⟩ Oc rfl hle rfl
    · rw [List.length_map] at h1
      have hi : (St6.abs ⟨s, b, rs, m, left, fl⟩).has i := ⟨h0, by rw [hlen]; exact h1⟩
      walk_at "s"
      refine if_b (fun hf => ?_) (fun hf => ?_)
      · walk_at "s"
        rw [step_down hi hf] at k
        exact k _ ⟨s, b, rs, m, left, fl⟩ Oc rfl hle rfl
      · subst hf
        rcases hz with ⟨rfl, rfl, rfl⟩ | ⟨a, ns, rfl, rfl, rfl⟩
        · walk_at "s"
          rw [step_read hi rfl] at k
          exact k _ ⟨s, b, rs, m, left, false⟩ Oc rfl hle rfl
        · walk_at "s"
          refine if_ii (fun hz => ?_) (fun hz => ?_)
          · subst hz
            walk_at "s"
            rw [step_fall hi rfl] at k
            exact k _ ⟨s, b, rs, m, 0, true⟩ (Oc.wr (o' := .lst [.ref b, .int m, .int 0, .bl true]) .here) rfl hle rfl
          · have hdn : ¬ ((St6.abs ⟨s, b, rs, m, left, false⟩).down = true ∨ (St6.abs ⟨s, b, rs, m, left, false⟩).left = some 0) := by
              rintro (h | h)
              · cases h
              · simp only [St6.abs] at h
                split at h
                · cases h
                · exact hz (Option.some.inj h)
            rw [step_write hi hdn] at k
            walk_at "s"
            refine cutS (fun σ' H2 => σ' = [some (.ref s), some (.int i), some (.ref a)] ∧ Own H H2 (adr ([(a, .lst (ns.map V.int))] ++ (s, .lst [.ref b, .int m, .int left, .bl false]) :: cLR b rs)) ([(a, .lst (ns.map V.int))] ++ (s, .lst [.ref b, .int m, .int (if left > 0 then left - 1 else left), .bl false]) :: cLR b rs)) (fun nx hnx => ?_) ?_
            · walk_at "s"
              refine if_d (fun h => ?_) (fun h => ?_)
              · walk_at "s"
                refine hnx _ _ ⟨rfl, ?_⟩
                rw [if_pos h]
                exact O.wr (.there .here)
              · refine hnx _ _ ⟨rfl, ?_⟩
                rw [if_neg h]
                exact O
            rintro σ' H2 ⟨rfl, O2⟩
            have hix := ix_at (n := (rs.map fun x : Pg => V.ref x.1).length) (i := i.toNat) (by rw [List.length_map]; omega)
            rw [Int.toNat_of_nonneg h0] at hix
            generalize hl2 : (if left > 0 then left - 1 else left) = left2 at O2
            obtain ⟨y, hy⟩ : ∃ y, rs[i.toNat]? = some y := ⟨rs[i.toNat]'(by omega), List.getElem?_eq_getElem _⟩
            have hs2 := O2.get (a := s) (.tail _ (.head _))
            have hb2 := O2.get (a := b) (.tail _ (.tail _ (.head _)))
            clear O Oc hs hb
            walk_at "s"
            have O3 := (O2.wr (o' := .lst ((rs.map fun x : Pg => V.ref x.1).set i.toNat (.ref a))) (.there (.there .here))).wr (o' := .lst [.ref b, .int (m + 1), .int left2, .bl false]) (.there .here)
            have O4 := Own.put2 (g := pcel) (b := (a, ns)) (pre := [(s, .lst [.ref b, .int (m + 1), .int left2, .bl false]), (b, .lst ((rs.map fun x : Pg => V.ref x.1).set i.toNat (.ref a)))]) (post := []) (l := rs) (O3.eq (by rw [List.append_nil]; rfl)) hy
            refine k _ ⟨s, b, rs.set i.toNat (a, ns), m + 1, left2, false⟩ (O4.eq ?_) rfl (by show -1 ≤ left2; omega) ?_
            · rw [set_map (fun x : Pg => V.ref x.1) rs i.toNat (a, ns), List.append_nil]
              rfl
            · show (⟨(rs.set i.toNat (a, ns)).map (·.2), m + 1, _, false⟩ : DS) = ⟨(rs.map (·.2)).set i.toNat ns, m + 1, _, false⟩
              rw [List.map_set]
              congr 1
              show (if left2 = -1 then none else some left2) = (if left = -1 then none else some left).map (· - 1)
              by_cases hm : left = -1
              · rw [if_pos hm, if_pos (by omega)]; rfl
              · rw [if_neg hm, if_neg (by omega)]
                show some left2 = some (left - 1)
                rw [← hl2, if_pos (by omega)]
  · walk_at "s"
    have e1 := step_no (s := St6.abs ⟨s, b, rs, m, left, fl⟩) (i := i) (r := r) (fun h => h0 h.1)
    rw [e1] at k
    exact k _ ⟨s, b, rs, m, left, fl⟩ Oc rfl hle rfl
theorem sc__law_turned : FnScope ["_law_disk", "_law_state", "_law_number"] ["_law_disk", "_law_state", "_law_number"] (defScope s__law_turned) := ⟨rfl, rfl, rfl, by decide +kernel, rfl, by decide +kernel, by decide +kernel⟩
theorem ok__law_turned {P : Program} {w : World} {K : PySem.W.Frag} {mg : Str → Option Value} {base : Heap} (T : Txt K mg) : Cee P w K mg base 2 (He.fAd K ("_law_turned", none)) ["_law_disk", "_law_state", "_law_number"] (sp__law_turned K) := by
  have c_Disk_fall : Cee P w K mg base 1 (He.fAd K ("Disk", some "fall")) ["self", "after"] (sp_Disk_fall K) := ok_Disk_fall T
  have c_Disk_rise : Cee P w K mg base 1 (He.fAd K ("Disk", some "rise")) ["self"] (sp_Disk_rise K) := ok_Disk_rise T
  refine cee_of T.d__law_turned sc__law_turned (fun _ _ _ _ _ _ us hl => match us, hl with | [_, _, _], _ => rfl) (fun vs H Q E h => sp3_len h) (fun cdv A outer s H vs Q E hr h => ⟨_, (pss_one (ps_if (pt_cmpR op_eq (pe_op op_mod (pv 2) pe_int) pe_int (nomark _)) (pss_cons (ps_asg (pe_op op_mod (pe_op op_fdiv (pv 2) pe_int) pe_int) (pg_sub (pv 1) pe_int set_list)) (pss_one (ps_expr (pe_m (pv 0) T.c_Disk T.m_Disk_fall c_Disk_fall (hr.mono (by decide)) (takes_of rfl rfl rfl rfl) (pa_cons (pe_ix ix_list (pv 1) pe_int (fun _ _ => rfl)) pa_nil))))) (pss_one (ps_if (pt_cmpR op_eq (pe_op op_mod (pv 2) pe_int) pe_int (nomark _)) (pss_cons (ps_asg (pe_un un_neg pe_int) (pg_sub (pv 1) pe_int set_list)) (pss_cons (ps_asg pe_bl (pg_sub (pv 1) pe_int set_list)) (pss_one (ps_expr (pe_m0 (pv 0) T.c_Disk T.m_Disk_rise c_Disk_rise (hr.mono (by decide)) (takes_of rfl rfl rfl rfl)))))) pss_nil)))), ?_⟩)
  obtain ⟨v0, v1, v2, rfl, h⟩ := h
  dsimp only [cxOf, L2.start]
  obtain ⟨p, d, ⟨s, b, rs, m, left, fl⟩, i, rfl, rfl, rfl, hle, hab, O, k⟩ := h
  unfold St6.cells St6.lst at O k
  dsimp only at O k hle
  walk_at "s"
  refine if_ii (fun h => ?_) (fun h => ?_)
  · walk_at "s"
    refine ask2 ⟨p, d, i / 8 % 7, rfl, rfl, (O.wr (o' := .lst [.ref b, .int m, .int (i / 8 % 7), .bl fl]) .here).blk (s' := []) (.there (.app .all)), fun H2 O2 => ?_⟩
    refine k _ ⟨s, b, rs, m, i / 8 % 7, fl⟩ _ ((O.wr (o' := .lst [.ref b, .int m, .int (i / 8 % 7), .bl fl]) .here).call (.there (.app .all)) O2) rfl rfl (by show -1 ≤ i / 8 % 7; omega) ?_
    have h1 : d.rows = rs.map (·.2) := congrArg DS.rows hab
    have h2 : d.done = m := congrArg DS.done hab
    have h3 : d.down = fl := congrArg DS.down hab
    show (⟨d.rows, d.done, some (i / 8 % 7), d.down⟩ : DS) = ⟨rs.map (·.2), m, if i / 8 % 7 = -1 then none else some (i / 8 % 7), fl⟩
    rw [h1, h2, h3, if_neg (by omega)]
  · walk_at "s"
    refine if_ii (fun h => ?_) (fun h => ?_)
    · walk_at "s"
      have O1 := (O.wr (o' := .lst [.ref b, .int m, .int (-1), .bl fl]) .here).wr (o' := .lst [.ref b, .int m, .int (-1), .bl false]) .here
      refine ask1 ⟨p, d, rfl, O1.blk (s' := []) (.there (.app .all)), fun H2 O2 => ?_⟩
      refine k _ ⟨s, b, rs, m, -1, false⟩ _ (O1.call (.there (.app .all)) O2) rfl rfl (Int.le_refl _) ?_
      have h1 : d.rows = rs.map (·.2) := congrArg DS.rows hab
      have h2 : d.done = m := congrArg DS.done hab
      show (⟨d.rows, d.done, none, false⟩ : DS) = ⟨rs.map (·.2), m, if (-1 : Int) = -1 then none else some (-1), false⟩
      rw [h1, h2, if_pos rfl]
    · exact k _ ⟨s, b, rs, m, left, fl⟩ d O rfl rfl hle hab
structure DS.Ok (s : DS) (n : Nat) : Prop where
  len : s.rows.length = n
  wide : ∀ r ∈ s.rows, r.length = 16
theorem step_ok {s : DS} {n : Nat} {i : Int} {r : Option (List Int)} (h : s.Ok n) (hr : ∀ ns, r = some ns → ns.length = 16) : (s.step i r).1.Ok n := by
  by_cases hi : s.has i
  · cases r with
    | none => exact h
    | some ns =>
      by_cases hd : s.down = true ∨ s.left = some 0
      · unfold DS.step
        dsimp only
        rw [if_pos hi, if_pos hd]
        exact ⟨h.len, h.wide⟩
      · rw [step_write hi hd]
        refine ⟨by show (s.rows.set _ _).length = n; rw [List.length_set]; exact h.len, fun r hr2 => ?_⟩
        rcases List.mem_or_eq_of_mem_set hr2 with z | z
        · exact h.wide r z
        · rw [z]; exact hr ns rfl
  · rw [step_no hi]; exact h

def sp_law (K : PySem.W.Frag) : Sp := sp1 fun x H Q _ => ∃ (a : Addr) (xs : List Int), x = .ref a ∧ SqL K H a (xs.map V.int) ∧ xs.length ≤ 63 ∧ ∀ H', Q (.bl true) H'
theorem law_in {K : PySem.W.Frag} (H : Hp) (a : Addr) (ns : List Int) (hl : ns.length ≤ 63) (hz : ∀ z ∈ ns, Builtin.Int.intBits z ≤ 1048576) (hS : SqL K H a (ns.map V.int)) :
    ∃ (a' : Addr) (xs : List Int), V.ref a = .ref a' ∧ SqL K H a' (xs.map V.int) ∧ xs.length ≤ 63 ∧ ∀ H' : Hp, (fun (v : V) (_ : Hp) => v = .bl true) (.bl true) H' := ⟨a, ns, rfl, hS, hl, fun _ => rfl⟩
theorem sc_law : FnScope ["_law_script", "_law_many", "_law_disk", "_law_other", "_law_state", "_law_block", "_law_k", "_law_number", "_law_n", "_law_row"] ["_law_script"] (defScope s_law) := ⟨rfl, rfl, rfl, by decide +kernel, rfl, by decide +kernel, by decide +kernel⟩
theorem ok_law {P : Program} {w : World} {K : PySem.W.Frag} {mg : Str → Option Value} {base : Heap} (T : Txt K mg) {fd : FuncData} (F : FunD K "law" "law" (defArgs s_law) (defBody s_law) (defScope s_law) [] [] (He.fAd K ("law", none)) fd) : FnOk P w K mg base (L2.CX P w) 4 (He.fAd K ("law", none)) fd ["_law_script"] (bx (sp_law K)) := by
  have c__law_wide : Cee P w K mg base 2 (He.fAd K ("_law_wide", none)) ["_law_script", "_law_k"] (sp__law_wide K) := ok__law_wide T
  have c_Disk___init__ : Cee P w K mg base 1 (He.fAd K ("Disk", some "__init__")) ["self", "many"] (sp_Disk___init__ K) := ok_Disk___init__ T
  have c__law_turned : Cee P w K mg base 2 (He.fAd K ("_law_turned", none)) ["_law_disk", "_law_state", "_law_number"] (sp__law_turned K) := ok__law_turned T
  have c__law_numbers : Cee P w K mg base 1 (He.fAd K ("_law_numbers", none)) ["_law_number"] (sp__law_numbers K) := ok__law_numbers T
  have c__law_kind : Cee P w K mg base 3 (He.fAd K ("_law_kind", none)) ["_law_disk", "_law_n", "_law_row"] (sp__law_kind K) := ok__law_kind T
  have c__law_due : Cee P w K mg base 1 (He.fAd K ("_law_due", none)) ["_law_state", "_law_n", "_law_row"] (sp__law_due K) := ok__law_due T
  have c_Disk_write : Cee P w K mg base 2 (He.fAd K ("Disk", some "write")) ["self", "n", "numbers"] (sp_Disk_write K) := ok_Disk_write T
  have c__law_rows_are : Cee P w K mg base 2 (He.fAd K ("_law_rows_are", none)) ["_law_found", "_law_due_here"] (sp__law_rows_are K) := ok__law_rows_are T
  have c_Disk_read : Cee P w K mg base 2 (He.fAd K ("Disk", some "read")) ["self", "n"] (sp_Disk_read K) := ok_Disk_read T
  have c__law_count_is : Cee P w K mg base 1 (He.fAd K ("_law_count_is", none)) ["_law_found", "_law_due_here"] (sp__law_count_is K) := ok__law_count_is T
  have c_Disk_writes : Cee P w K mg base 1 (He.fAd K ("Disk", some "writes")) ["self"] (sp_Disk_writes K) := ok_Disk_writes T
  have c_Disk_image : Cee P w K mg base 1 (He.fAd K ("Disk", some "image")) ["self"] (sp_Disk_image K) := ok_Disk_image T
  refine fn_of F sc_law (fun vs H Q E h => sp1_len h) (fun cdv A outer s H vs Q E hr h => ⟨_, (pss_cons (ps_set (i := 1) sc_law.nd rfl (Or.inl rfl) (pe_op op_add pe_int (pe_op op_mod (pe_op op_fdiv (pe_f c__law_wide (hr.mono (by decide)) (takes_of rfl rfl rfl rfl) (by rfl) T.g__law_wide (pa_cons (pv 0) (pa_cons pe_int pa_nil))) pe_int) pe_int))) (pss_cons (ps_set (i := 2) sc_law.nd rfl (Or.inl rfl) (pe_n T.m_Disk c_Disk___init__ (hr.mono (by decide)) (by rfl) T.g_Disk (pa_cons (pv 1) pa_nil))) (pss_cons (ps_set (i := 3) sc_law.nd rfl (Or.inl rfl) (pe_n T.m_Disk c_Disk___init__ (hr.mono (by decide)) (by rfl) T.g_Disk (pa_cons pe_int pa_nil))) (pss_cons (ps_set (i := 4) sc_law.nd rfl (Or.inl rfl) (pe_lst (pa_cons (pe_lc (own := [("_law_block", 5)]) (by rfl) sc_law.nd (PI.box (pi_range1 (by rfl) T.n_range (pa_cons (pv 1) pa_nil))) (blkOk_by (own := [("_law_block", 5)]) (N := ["_law_script", "_law_many", "_law_disk", "_law_other", "_law_state", "_law_block", "_law_k", "_law_number", "_law_n", "_law_row"]) (sc := defScope s_law) (by decide +kernel)) (fun _ _ _ _ _ => (pg_name (i := 5) sc_law.nd rfl (Or.inl rfl))) (fun _ _ _ _ _ => pts_nil) (fun _ _ _ _ _ => (pe_op op_rep (pe_lst (pa_cons pe_int pa_nil)) pe_int))) (pa_cons pe_int (pa_cons (pe_un un_neg pe_int) (pa_cons pe_bl pa_nil)))))) (pss_cons (ps_for (passes_of rfl) rfl (PI.box (pi_range2 (by rfl) T.n_range (pa_cons pe_int (pa_cons (pe_callB (call_min2 rfl) (by rfl) T.n_min (by decide +kernel) (pa_cons (pe_callB call_len_seq (by rfl) T.n_len (by decide +kernel) (pa_cons (pv 0) pa_nil)) (pa_cons pe_int pa_nil))) pa_nil)))) (pg_name (i := 6) sc_law.nd rfl (Or.inl rfl)) (pss_cons (ps_set (i := 7) sc_law.nd rfl (Or.inl rfl) (pe_f c__law_wide (hr.mono (by decide)) (takes_of rfl rfl rfl rfl) (by rfl) T.g__law_wide (pa_cons (pv 0) (pa_cons (pv 6) pa_nil)))) (pss_cons (ps_set (i := 8) sc_law.nd rfl (Or.inl rfl) (pe_op op_mod (pe_op op_fdiv (pv 7) pe_int) (pv 1))) (pss_cons (PS.box (ps_if (pt_cmpR op_eq (pe_op op_mod (pe_op op_fdiv (pe_op op_fdiv (pv 7) pe_int) (pv 1)) pe_int) pe_int (nomark _)) (pss_one (ps_set (i := 8) sc_law.nd rfl (Or.inl rfl) (pe_ix ix_list (pe_lst (pa_cons (pe_un un_neg pe_int) (pa_cons (pv 1) (pa_cons (pe_op op_add (pv 1) pe_int) (pa_cons (pe_un un_neg (pv 1)) pa_nil))))) (pe_op op_mod (pe_op op_fdiv (pe_op op_fdiv (pe_op op_fdiv (pv 7) pe_int) (pv 1)) pe_int) pe_int) (fun _ _ => rfl)))) pss_nil)) (pss_cons (PS.box (ps_if (pt_cmpR op_gt (pe_op op_mod (pv 7) pe_int) pe_int (nomark _)) (pss_cons (ps_expr (pe_f c__law_turned (hr.mono (by decide)) (takes_of rfl rfl rfl rfl) (by rfl) T.g__law_turned (pa_cons (pv 2) (pa_cons (pv 4) (pa_cons (pv 7) pa_nil))))) (pss_one (ps_set (i := 8) sc_law.nd rfl (Or.inl rfl) (pe_op op_mod (pe_op op_fdiv (pv 7) pe_int) (pv 1))))) pss_nil)) (pss_cons (ps_set (i := 9) sc_law.nd rfl (Or.inl rfl) pe_non) (pss_cons (PS.box (ps_if (pt_cmpR op_lt (pe_op op_mod (pv 7) pe_int) pe_int (nomark _)) (pss_one (ps_set (i := 9) sc_law.nd rfl (Or.inl rfl) (pe_f c__law_numbers (hr.mono (by decide)) (takes_of rfl rfl rfl rfl) (by rfl) T.g__law_numbers (pa_cons (pe_op op_fdiv (pe_op op_fdiv (pe_op op_fdiv (pv 7) pe_int) (pv 1)) pe_int) pa_nil)))) pss_nil)) (pss_cons (ps_if (pt_cmpR op_ne (pe_f c__law_kind (hr.mono (by decide)) (takes_of rfl rfl rfl rfl) (by rfl) T.g__law_kind (pa_cons (pv 2) (pa_cons (pv 8) (pa_cons (pv 9) pa_nil)))) (pe_f c__law_due (hr.mono (by decide)) (takes_of rfl rfl rfl rfl) (by rfl) T.g__law_due (pa_cons (pv 4) (pa_cons (pv 8) (pa_cons (pv 9) pa_nil)))) (nomark _)) (pss_one (ps_ret pe_bl)) pss_nil) (pss_cons (ps_expr (pe_m (pv 3) T.c_Disk T.m_Disk_write c_Disk_write (hr.mono (by decide)) (takes_of rfl rfl rfl rfl) (pa_cons pe_int (pa_cons (pe_op op_rep (pe_lst (pa_cons (pv 6) pa_nil)) pe_int) pa_nil)))) (pss_cons (PS.box (ps_if (PW.pt (pw_or (pt_not (pt_val (pe_f c__law_rows_are (hr.mono (by decide)) (takes_of rfl rfl rfl rfl) (by rfl) T.g__law_rows_are (pa_cons (pe_lst (pa_cons (pe_m (pv 3) T.c_Disk T.m_Disk_read c_Disk_read (hr.mono (by decide)) (takes_of rfl rfl rfl rfl) (pa_cons pe_int pa_nil)) pa_nil)) (pa_cons (pe_lst (pa_cons (pe_op op_rep (pe_lst (pa_cons (pv 6) pa_nil)) pe_int) pa_nil)) pa_nil))))) (pw_or1 (pt_not (pt_val (pe_f c__law_count_is (hr.mono (by decide)) (takes_of rfl rfl rfl rfl) (by rfl) T.g__law_count_is (pa_cons (pe_m0 (pv 3) T.c_Disk T.m_Disk_writes c_Disk_writes (hr.mono (by decide)) (takes_of rfl rfl rfl rfl)) (pa_cons (pv 6) pa_nil)))))))) (pss_one (ps_ret pe_bl)) pss_nil)) (pss_one (ps_if (PW.pt (pw_or (pt_not (pt_val (pe_f c__law_rows_are (hr.mono (by decide)) (takes_of rfl rfl rfl rfl) (by rfl) T.g__law_rows_are (pa_cons (pe_m0 (pv 2) T.c_Disk T.m_Disk_image c_Disk_image (hr.mono (by decide)) (takes_of rfl rfl rfl rfl)) (pa_cons (pe_ix ix_list (pv 4) pe_int (fun _ _ => rfl)) pa_nil))))) (pw_or1 (pt_not (pt_val (pe_f c__law_count_is (hr.mono (by decide)) (takes_of rfl rfl rfl rfl) (by rfl) T.g__law_count_is (pa_cons (pe_m0 (pv 2) T.c_Disk T.m_Disk_writes c_Disk_writes (hr.mono (by decide)) (takes_of rfl rfl rfl rfl)) (pa_cons (pe_ix ix_list (pv 4) pe_int (fun _ _ => rfl)) pa_nil)))))))) (pss_one (ps_ret pe_bl)) pss_nil)))))))))))) (pss_one (ps_ret pe_bl))))))), ?_⟩)
  obtain ⟨v0, rfl, h⟩ := h
  dsimp only [cxOf, L2.start]
  obtain ⟨a, xs, rfl, ha, hl, k⟩ := h
  walk_at "s"
  refine ask2 ⟨a, xs, 0, rfl, rfl, Int.le_refl _, ha, fun w => ?_⟩
  obtain ⟨n, hn0, hn1, hn⟩ : ∃ n : Nat, 29 ≤ n ∧ n ≤ 44 ∧ (29 + w / 2 % 16 : Int) = n := ⟨(29 + w / 2 % 16 : Int).toNat, by omega, by omega, by omega⟩
  walk_at "s"
  dsimp only
  rw [hn]
  walk_at "s"
  intro p dp h1 h2 hne
  have O1 := (Own.start (H := H)).inst (C := He.ga K "Disk") h1 h2 hne
  refine ask2 ⟨p, dp, n, rfl, rfl, by omega, O1.self, fun H2 bl bs hO hbs => ?_⟩
  have O2 : Own H H2 [] (cDk K p ⟨dp, bl, bs, 0, none, false⟩) := O1.call .all hO
  clear O1 hO
  walk_at "s"
  intro p2 dp2 h1 h2 hne
  have O3 := O2.inst (C := He.ga K "Disk") h1 h2 hne
  refine ask2 ⟨p2, dp2, 29, rfl, rfl, by omega, O3.blk (s' := []) .one, fun H3 bl2 bs2 hO hbs2 => ?_⟩
  have O4 : Own H H3 [] (cDk K p2 ⟨dp2, bl2, bs2, 0, none, false⟩ ++ cDk K p ⟨dp, bl, bs, 0, none, false⟩) := O3.call .one hO
  clear O2 O3 hO
  have hl2 := congrArg List.length hbs2
  rw [List.length_map, List.length_replicate] at hl2
  walk_at "s"
  refine lcR (lo := 0) (n := ((n : Nat) : Int).toNat) (fun D j H2 => ∃ cs : List Pg, cs.map (·.2) = List.replicate j nought ∧ Own H H2 [] ((D, .lst (cs.map fun x => V.ref x.1)) :: (cs.map pcel ++ (cDk K p2 ⟨dp2, bl2, bs2, 0, none, false⟩ ++ cDk K p ⟨dp, bl, bs, 0, none, false⟩)))) ?_ ?_ ?_
  · intro D hD
    exact ⟨[], rfl, O4.new (o := .lst []) hD⟩
  · rintro D j H2 hj ⟨cs, hl, O5⟩
    have hlj := congrArg List.length hl
    rw [List.length_map, List.length_replicate] at hlj
    walk_at "s"
    intro c hc
    have O6 := O5.new (o := .lst [V.int 0]) hc
    have hsz : ([V.int 0] : List V).length * (16 : Int).toNat ≤ sizeLine := sz_le (by decide)
    walk_at "s"
    intro e he
    have O8 := O6.new (o := .lst (nought.map V.int)) he
    have hlen : (cs.map fun x : Pg => V.ref x.1).length < 100000 := by rw [List.length_map]; omega
    walk_at "s"
    refine ⟨cs ++ [(e, nought)], by rw [List.map_append, hl, List.replicate_succ']; rfl, ?_⟩
    have O9 := (O8.drop (cs' := (e, .lst (nought.map V.int)) :: (D, .lst (cs.map fun x => V.ref x.1)) :: (cs.map pcel ++ (cDk K p2 ⟨dp2, bl2, bs2, 0, none, false⟩ ++ cDk K p ⟨dp, bl, bs, 0, none, false⟩))) (.cons₂ _ (.cons _ (.refl _)))).wr (o' := .lst ((cs.map fun x => V.ref x.1) ++ [.ref e])) (.there .here)
    refine O9.perm ?_
    rw [List.map_append, List.map_append, List.append_assoc]
    exact (List.Perm.swap _ _ _).trans (.cons _ List.perm_middle.symm)
  rintro b H7 ⟨rs, hrs, O8⟩
  rw [Int.toNat_natCast] at hrs
  walk_at "s"
  intro s hs
  have O9 := O8.new (o := .lst [.ref b, .int 0, .int (-1), .bl false]) hs
  have O10 : Own H _ [] ((St6.mk s b rs 0 (-1) false).cells ++ cDk K p ⟨dp, bl, bs, 0, none, false⟩ ++ cDk K p2 ⟨dp2, bl2, bs2, 0, none, false⟩) := O9.perm (by
    show List.Perm (_ :: _ :: (_ ++ _)) (_ :: _ :: (_ ++ _ ++ _))
    rw [List.append_assoc]
    exact .cons _ (.cons _ (.append_left _ List.perm_append_comm)))
  have habs : (Dk.mk dp bl bs 0 none false).abs = (St6.mk s b rs 0 (-1) false).abs := by
    show (⟨bs.map (·.2), 0, none, false⟩ : DS) = ⟨rs.map (·.2), 0, if (-1 : Int) = -1 then none else some (-1), false⟩
    rw [hbs, hrs, if_pos rfl]
  have hok : (St6.mk s b rs 0 (-1) false).abs.Ok n := by
    show DS.Ok ⟨rs.map (·.2), 0, _, false⟩ n
    rw [hrs]
    exact ⟨List.length_replicate, fun r h => by rw [List.eq_of_mem_replicate h]; rfl⟩
  clear O4 O8 O9 hrs hbs hbs2
  walk_at "s"
  refine forR (lo := 1) (fun j σ H' => ∃ (t : St6) (d o : Dk) (v6 v7 v8 v9 : Option V), σ = [some (.ref a), some (.int n), some (.ref p), some (.ref p2), some (.ref s), none, v6, v7, v8, v9] ∧ t.s = s ∧ -1 ≤ t.left ∧ d.abs = t.abs ∧ t.abs.Ok n ∧ o.done = j ∧ o.left = none ∧ o.down = false ∧ o.bs.length = 29 ∧
    Own H H' [] (t.cells ++ cDk K p d ++ cDk K p2 o)) ⟨_, _, _, _, _, _, _, rfl, rfl, Int.le_refl _, habs, hok, rfl, rfl, rfl, hl2, O10⟩ ?_ ?_
  · clear O10 habs hok hs
    rintro j σ H' hj ⟨t, d, o, v6, v7, v8, v9, rfl, rfl, hle, habs, hok, o1, o2, o3, o4, O⟩
    walk_at "s"
    refine ask2 ⟨a, xs, _, rfl, rfl, by omega, O.sq ha, fun r => ?_⟩
    walk_at "s"
    refine cutS (fun σ' H2 => ∃ i : Int, σ' = [some (.ref a), some (.int n), some (.ref p), some (.ref p2), some (.ref t.s), none, some (.int (1 + j)), some (.int r), some (.int i), v9] ∧ Own H H2 [] (t.cells ++ cDk K p d ++ cDk K p2 o)) (fun nx hnx => ?_) ?_
    · walk_at "s"
      refine if_ii (fun h => ?_) (fun h => ?_)
      · walk_at "s"
        intro l hl
        have O2 := O.new (o := .lst [.int (-1), .int n, .int (n + 7), .int (-n)]) hl
        obtain ⟨y, hy, hat⟩ := at_ints (ns := [-1, n, n + 7, -n]) (n := r / 8 / n / 8 % 4) (by omega) (by show _ < (4 : Int); omega)
        walk_at "s"
        exact hnx _ _ ⟨_, rfl, O2.drop (.cons _ (.refl _))⟩
      · exact hnx _ _ ⟨_, rfl, O⟩
    clear O
    rintro σ' H2 ⟨i, rfl, O⟩
    walk_at "s"
    refine cutS (fun σ' H2 => ∃ (i : Int) (t2 : St6) (d2 : Dk), σ' = [some (.ref a), some (.int n), some (.ref p), some (.ref p2), some (.ref t.s), none, some (.int (1 + j)), some (.int r), some (.int i), v9] ∧ t2.s = t.s ∧ t2.rs = t.rs ∧ -1 ≤ t2.left ∧ d2.abs = t2.abs ∧ Own H H2 [] (t2.cells ++ cDk K p d2 ++ cDk K p2 o)) (fun nx hnx => ?_) ?_
    · walk_at "s"
      refine if_d (fun h => ?_) (fun h => ?_)
      · walk_at "s"
        refine ask3 ⟨p, d, t, r, rfl, rfl, rfl, hle, habs, O.blk (s := t.cells ++ cDk K p d) (s' := []) .here, fun H3 t' d' O3 h1 h2 h3 h4 => ?_⟩
        walk_at "s"
        exact hnx _ _ ⟨_, t', d', rfl, h1, h2, h3, h4, O.call .here O3⟩
      · exact hnx _ _ ⟨_, t, d, rfl, rfl, rfl, hle, habs, O⟩
    clear O i
    rintro σ' H3 ⟨i, t2, d2, rfl, h1, h2, hle2, habs2, O⟩
    have hok2 : t2.abs.Ok n := ⟨by show (t2.rs.map (·.2)).length = n; rw [h2]; exact hok.len, by show ∀ r ∈ t2.rs.map (·.2), _; rw [h2]; exact hok.wide⟩
    rw [← h1]
    walk_at "s"
    refine cutS (fun σ' H2 => ∃ (z : V) (r2 : Option (List Int)) (e : Cells), ((z = .non ∧ r2 = none ∧ e = []) ∨ ∃ a ns, z = .ref a ∧ r2 = some ns ∧ e = [(a, .lst (ns.map V.int))]) ∧ (∀ ns, r2 = some ns → ns.length = 16) ∧ σ' = [some (.ref a), some (.int n), some (.ref p), some (.ref p2), some (.ref t2.s), none, some (.int (1 + j)), some (.int r), some (.int i), some z] ∧ Own H H2 [] (e ++ t2.cells ++ cDk K p d2 ++ cDk K p2 o)) (fun nx hnx => ?_) ?_
    · walk_at "s"
      refine if_d (fun h => ?_) (fun h => ?_)
      · walk_at "s"
        refine ask1 ⟨_, rfl, fun H3 c ns hns O3 => ?_⟩
        walk_at "s"
        exact hnx _ _ ⟨_, _, _, .inr ⟨c, ns, rfl, rfl, rfl⟩, fun ns' h => by cases h; exact hns, rfl, O.callN O3⟩
      · exact hnx _ _ ⟨_, _, _, .inl ⟨rfl, rfl, rfl⟩, nofun, rfl, O⟩
    clear O
    rintro σ' H4 ⟨z, r2, e, hz, hr2, rfl, O⟩
    have hdl : d2.bs.length = n := by
      have e1 : d2.rows = t2.rs.map (·.2) := congrArg DS.rows habs2
      have e2 := congrArg List.length e1
      rw [List.length_map] at e2
      exact e2.trans hok2.len
    have hrl : t2.rs.length = n := (List.length_map (f := fun x : Pg => x.2) (as := t2.rs)).symm.trans hok2.len
    walk_at "s"
    refine ask3 ⟨p, d2, i, r2, rfl, rfl, ?_, by omega, O.blk (s' := []) (.appl (.app .all)), fun H5 d5 O5 h5 => ?_⟩
    · rcases hz with ⟨rfl, rfl, rfl⟩ | ⟨a, ns, rfl, rfl, rfl⟩
      · exact .inl ⟨rfl, rfl⟩
      · exact .inr ⟨a, ns, rfl, rfl, O.get (.head _)⟩
    have O6 : Own H H5 [] (e ++ t2.cells ++ cDk K p d5 ++ cDk K p2 o) := O.call (.appl (.app .all)) O5
    clear O O5
    walk_at "s"
    refine ask3 ⟨t2, i, r2, e, rfl, rfl, by omega, hle2, hz, O6.blk (s := e ++ t2.cells) (s' := []) (.appl .here), fun H7 t7 O7 h7 hle7 h8 => ?_⟩
    have O8 : Own H H7 [] (t7.cells ++ cDk K p d5 ++ cDk K p2 o) := O6.call (s := e ++ t2.cells) (.appl .here) O7
    clear O6 O7
    have habs7 : d5.abs = t7.abs := by rw [h5, h8, habs2]
    have hok7 : t7.abs.Ok n := by rw [h8]; exact step_ok hok2 hr2
    rw [habs2]
    walk_at "s"
    refine if_nss (fun h => absurd rfl h) (fun _ => ?_)
    walk_at "s"
    intro l1 hl1
    have O9 := O8.new (o := .lst [.int (1 + j)]) hl1
    have hsz : ([V.int (1 + j)] : List V).length * (16 : Int).toNat ≤ sizeLine := sz_le (by show 1 * 16 ≤ 100000; decide)
    walk_at "s"
    intro l2 hl2
    rw [show (List.replicate (16 : Int).toNat [V.int (1 + j)]).flatten = (List.replicate 16 (1 + j : Int)).map V.int from rfl]
    have O10 := (O9.new (o := .lst ((List.replicate 16 (1 + j : Int)).map V.int)) hl2).drop (cs' := (l2, .lst ((List.replicate 16 (1 + j : Int)).map V.int)) :: (t7.cells ++ cDk K p d5 ++ cDk K p2 o)) (.cons₂ _ (.cons _ (.refl _)))
    clear O8 O9
    refine ask3 ⟨p2, o, 28, l2, _, rfl, rfl, rfl, O10.get (.head _), by omega, O10.blk (s' := []) (.there (.app .all)), fun h => absurd ⟨by decide, by rw [o4]; decide⟩ h, fun _ h => absurd h (by rw [Dk.falls, o2, o3]; simp), fun _ _ H11 c O11 => ?_⟩
    have O12 : Own H H11 [] (_ :: (t7.cells ++ cDk K p d5 ++ cDk K p2 _)) := O10.call (.there (.app .all)) O11
    have hb : (o.bs.set (28 : Int).toNat (c, List.replicate 16 (1 + j : Int)))[28]? = some (c, List.replicate 16 (1 + j : Int)) := List.getElem?_set_self (by rw [o4]; decide)
    have hbl : (o.bs.set (28 : Int).toNat (c, List.replicate 16 (1 + j : Int))).length = 29 := by rw [List.length_set]; exact o4
    have hol : o.left.map (· - 1) = none := by rw [o2]; rfl
    generalize ho5 : (⟨o.dx, o.bl, o.bs.set (28 : Int).toNat (c, List.replicate 16 (1 + j : Int)), o.done + 1, o.left.map (· - 1), o.down⟩ : Dk) = o5 at O12
    have p1 : o5.done = 1 + j := by rw [← ho5]; show o.done + 1 = _; rw [o1]; omega
    have p2' : o5.left = none := by rw [← ho5]; exact hol
    have p3 : o5.down = false := by rw [← ho5]; exact o3
    have p4 : o5.bs.length = 29 := by rw [← ho5]; exact hbl
    have p5 : o5.bs[(28 : Int).toNat]? = some (c, List.replicate 16 (1 + j : Int)) := by rw [← ho5]; exact hb
    clear O10 O11 hb hbl hol ho5
    have O13 := O12.drop (.cons _ (.refl _))
    clear O12
    walk_at "b"
    refine ask2 ⟨p2, o5, 28, rfl, rfl, by omega, O13.blk (s' := []) (.app .all), fun h => absurd ⟨by decide, by rw [p4]; decide⟩ h, fun _ h => absurd (p3.symm.trans h) (by decide), fun _ _ x hx H14 c2 O14 => ?_⟩
    cases p5.symm.trans hx
    have O15 := O13.callN O14
    walk_at "s"
    intro l3 hl3
    have O16 := O15.new (o := .lst [.ref c2]) hl3
    walk_at "s"
    intro l4 hl4
    have O17 := O16.new (o := .lst [.int (1 + j)]) hl4
    walk_at "s"
    intro l5 hl5
    rw [show (List.replicate (16 : Int).toNat [V.int (1 + j)]).flatten = (List.replicate 16 (1 + j : Int)).map V.int from rfl]
    have O18 := O17.new (o := .lst ((List.replicate 16 (1 + j : Int)).map V.int)) hl5
    walk_at "s"
    intro l6 hl6
    have O19 := O18.new (o := .lst [.ref l5]) hl6
    walk_at "s"
    refine ask2 ⟨l3, l6, [(c2, List.replicate 16 (1 + j : Int))], [(l5, List.replicate 16 (1 + j : Int))], rfl, rfl, by show 1 ≤ 1000; decide, ?_, O19.get (.tail _ (.tail _ (.tail _ (.head _)))), O19.get (.head _), ?_, ?_, fun H20 O20 => ?_⟩
    · intro r hr; rw [List.mem_singleton.mp hr]; show (List.replicate 16 (1 + j : Int)).length ≤ 1000; rw [List.length_replicate]; decide
    · intro r hr; rw [List.mem_singleton.mp hr]; exact O19.get (.tail _ (.tail _ (.tail _ (.tail _ (.head _)))))
    · intro r hr; rw [List.mem_singleton.mp hr]; exact O19.get (.tail _ (.head _))
    rw [decide_eq_true (show List.map (fun x : Pg => x.2) [(c2, List.replicate 16 (1 + j : Int))] = List.map (fun x : Pg => x.2) [(l5, List.replicate 16 (1 + j : Int))] from rfl)]
    have O21 : Own H H20 [] (t7.cells ++ cDk K p d5 ++ cDk K p2 o5) := (O19.callN O20).drop (.cons _ (.cons _ (.cons _ (.cons _ (.cons _ (.refl _))))))
    clear O13 O14 O15 O16 O17 O18 O19 O20
    walk_at "s"
    refine ask1 ⟨p2, o5, rfl, O21.blk (s' := []) (.app .all), ?_⟩
    walk_at "s"
    refine ask2 ⟨some o5.done, 1 + j, rfl, rfl, ?_⟩
    rw [p1, decide_eq_true rfl]
    walk_at "s"
    have h5l : d5.bs.length = n := by
      have e1 : d5.rows = t7.rs.map (·.2) := congrArg DS.rows habs7
      have e2 := congrArg List.length e1
      rw [List.length_map] at e2
      exact e2.trans hok7.len
    refine ask1 ⟨p, d5, rfl, by omega, O21.blk (s' := []) (.appl (.app .all)), fun H22 b22 rs22 O22 h22 => ?_⟩
    have O23 := O21.callN O22
    have h22l := congrArg List.length h22
    simp only [List.length_map] at h22l
    have hsame : rs22.map (·.2) = t7.rs.map (·.2) := h22.trans (congrArg DS.rows habs7)
    have hts := O21.get (a := t7.s) (List.mem_append_left _ (List.mem_append_left _ (.head _)))
    have htb := O21.get (a := t7.b) (List.mem_append_left _ (List.mem_append_left _ (.tail _ (.head _))))
    have htr := O21.rows (rs := t7.rs) fun r h => List.mem_append_left _ (List.mem_append_left _ (.tail _ (.tail _ (List.mem_map.mpr ⟨r, h, rfl⟩))))
    have hts2 := O22.fr0 hts
    have htm : t7.m = d5.done := (congrArg DS.done habs7).symm
    rw [h7] at hts2
    walk_at "s"
    have hwide : ∀ r ∈ rs22, r.2.length ≤ 1000 := fun r hr => by
      have h1 : r.2 ∈ t7.rs.map (·.2) := hsame ▸ List.mem_map.mpr ⟨r, hr, rfl⟩
      rw [hok7.wide r.2 h1]; decide
    refine ask2 ⟨b22, t7.b, rs22, t7.rs, rfl, rfl, by omega, hwide, O23.get (.head _), O22.fr0 htb, O23.rows fun r h => .tail _ (List.mem_append_left _ (List.mem_map.mpr ⟨r, h, rfl⟩)), htr.mono O22, fun H24 O24 => ?_⟩
    rw [decide_eq_true hsame]
    have O25 : Own H H24 [] (t7.cells ++ cDk K p d5 ++ cDk K p2 o5) := (O23.callN O24).drop (by
      refine .cons _ ?_
      exact List.sublist_append_right _ _)
    have hts3 := O24.fr0 hts2
    walk_at "s"
    refine ask1 ⟨p, d5, rfl, O25.blk (s' := []) (.appl (.app .all)), ?_⟩
    walk_at "s"
    refine ask2 ⟨some d5.done, t7.m, rfl, rfl, ?_⟩
    rw [htm, decide_eq_true rfl]
    walk_at "s"
    exact ⟨t7, d5, o5, _, _, _, _, rfl, h7, hle7, habs7, hok7, by rw [p1]; omega, p2', p3, p4, O25⟩
  rintro σ H' ⟨_, _, _, v6, v7, v8, v9, rfl, _⟩
  walk_at "s"
  exact k _

end Ow
open PySem PySem.W PySem.Calls PyProof.Rows
set_option maxHeartbeats 0
set_option maxRecDepth 100000 in
theorem PySem.Challenge.cw_ownroom_k26_disks_that_fall_holds : PySem.Challenge.rw_ownroom_k26_disks_that_fall.Holds := by
  w_on; o_law
  refine HandSHeadRun.head_any (r := OpenLaw.row PySem.Challenge.rw_ownroom_k26_disks_that_fall) (q := view (OpenLaw.row PySem.Challenge.rw_ownroom_k26_disks_that_fall).prog [25]) (H := Ow.hk) (ob := Ow.ob) (M := 60000) (loose := Ow.loose) (d := HandSHeadRun.topDef (OpenLaw.row PySem.Challenge.rw_ownroom_k26_disks_that_fall).prog 25) (kwd := []) Ow.ob_eq
    (by kernel_rfl) (fun s => by kernel_rfl) Ow.run (by kernel_rfl) (by kernel_rfl) (by kernel_rfl) (by rfl) (by first | assumption | decide +kernel) (by decide +kernel) ⟨rfl, rfl, rfl, rfl, rfl, by decide +kernel⟩ ?hw ?hc
  case hw => w_witness2
  case hc =>
    refine Ow.walk_end (l := PySem.Challenge.rw_ownroom_k26_disks_that_fall) (n := 63) (k := 4) (x := "_law_script") rfl (by decide) (by kernel_rfl) ⟨rfl, by decide, by decide⟩ ?F
    intro w mg fa h Y G hmg0
    obtain ⟨K, KX, c⟩ := Y
    have hmg : mg ("law" : PySem.Str) = some (.ref fa) := by
      have e : (HandSHeadRun.topDef (OpenLaw.row PySem.Challenge.rw_ownroom_k26_disks_that_fall).prog 25).name = ("law" : PySem.Str) := by kernel_rfl
      rw [← e]
      exact hmg0
    have T := Ow.txt_mk KX G c.t.d c.more
    have e := hmg.symm.trans T.g_law
    cases e
    obtain ⟨fd, F⟩ := T.d_law
    have b := L2.FunD.bindsA (ps := ["_law_script"]) F fun _ _ _ _ _ _ us hl => match us, hl with | [_], _ => rfl
    exact ⟨K, fd, Ow.bx (Ow.sp_law K), KX, fun s v => b s [v] rfl, fun H a ns hl hz hS => ⟨⟨_, rfl, Ow.law_in H a ns hl hz hS⟩⟩, fun base _ _ => Ow.ok_law T F⟩
