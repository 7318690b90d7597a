import PyProof.Rows.All
import Wide.All
import OpenK.AllK
import Wide.FinOn
import HandS.ForMost
import HandS.ForExc
import HandS.More
import HandS.SortInts
import HandS.Conv
import HandS.Defaults
import HandS.IsInst
import HandS.ExcValue
import HandS.ExcIs
import HandS.Flow
import HandS.Codes
import HandS.TupLen
import HandS.StrMore
import HandS.SetFor
import HandS.Style
import HandS.DictTup
import HandS.ListItems
import HandS.TupAny
import HandS.Finally
import HandS.Wide
import HandS.Replace
import HandS.Zip
import HandS.Walk
import HandS.Head0
import HandS.Head1
import HandS.Head2
import HandS.HeadEnd
import HandS.HeadHook1
import HandS.HeadHook2
import HandS.HeadHook3
import HandS.HeadHook4
import HandS.EndBits
import PySem.Challenge.RW_ownroom_k01_stores_deed_by_deed
set_option Elab.async false
set_option linter.all false
set_option maxRecDepth 100000
set_option pp.mvars false
set_option pp.deepTerms false
set_option pp.deepTerms.threshold 10
set_option pp.maxSteps 1500
set_option maxHeartbeats 4000000
namespace Ow
open PySem PySem.Spec PyProof.Rows L2
/-! ## My own layer: what a def owns (cells), a def that may be called, readings that stop at calls and loops -/
/-! ### cells -/
abbrev Cells := List (Addr × HO)
def adr (cs : Cells) : List Addr := cs.map Prod.fst
/-- from H0, of which the addresses A are ours, we have come to H; the cells cs stand there, each once; the rest of H0 is as it was, new cells were free in H0, tuples stay -/
structure Own (H0 H : Hp) (A : List Addr) (cs : Cells) : Prop where
  at_ : ∀ a o, (a, o) ∈ cs → H a = some o
  nd : (adr cs).Nodup
  fr : ∀ b o, H0 b = some o → b ∉ A → H b = some o
  nw : ∀ b, b ∈ adr cs → b ∈ A ∨ H0 b = none
  tp : ∀ b xs, H0 b = some (.tup xs) → H b = some (.tup xs)
theorem adr_cons {c : Addr × HO} {r : Cells} : adr (c :: r) = c.1 :: adr r := rfl
theorem adr_app {s r : Cells} : adr (s ++ r) = adr s ++ adr r := List.map_append
theorem Own.start {H : Hp} (h : ∀ b xs, H b = some (.tup xs) → H b = some (.tup xs) := fun _ _ h => h) : Own H H [] [] :=
  ⟨fun _ _ m => (nomatch m), List.nodup_nil, fun _ _ h _ => h, fun _ m => (nomatch m), h⟩
/-- where the cell of an address stands, and the row with another thing there -/
inductive At : Cells → Addr → HO → HO → Cells → Prop
  | here {a o o' r} : At ((a, o) :: r) a o o' ((a, o') :: r)
  | there {c r a o o' r'} : At r a o o' r' → At (c :: r) a o o' (c :: r')
  | app {s r a o o' r'} : At r a o o' r' → At (s ++ r) a o o' (s ++ r')
  | appl {s r a o o' s'} : At s a o o' s' → At (s ++ r) a o o' (s' ++ r)
theorem At.mem {cs cs' : Cells} {a : Addr} {o o' : HO} (h : At cs a o o' cs') : (a, o) ∈ cs := by
  induction h with
  | here => exact List.mem_cons_self
  | there _ ih => exact List.mem_cons_of_mem _ ih
  | app _ ih => exact List.mem_append_right _ ih
  | appl _ ih => exact List.mem_append_left _ ih
theorem At.adr {cs cs' : Cells} {a : Addr} {o o' : HO} (h : At cs a o o' cs') : adr cs' = adr cs := by
  induction h with
  | here => rfl
  | there _ ih => rw [adr_cons, adr_cons, ih]
  | app _ ih => rw [adr_app, adr_app, ih]
  | appl _ ih => rw [adr_app, adr_app, ih]
theorem At.of {cs cs' : Cells} {a : Addr} {o o' : HO} (h : At cs a o o' cs') (nd : (Ow.adr cs).Nodup) : ∀ b u, (b, u) ∈ cs' → (b = a ∧ u = o') ∨ (b ≠ a ∧ (b, u) ∈ cs) := by
  induction h with
  | here =>
    intro b u m
    rcases List.mem_cons.mp m with e | m2
    · cases e; exact .inl ⟨rfl, rfl⟩
    · refine .inr ⟨fun e => ?_, List.mem_cons_of_mem _ m2⟩
      subst e
      exact (List.nodup_cons.mp nd).1 (List.mem_map.mpr ⟨_, m2, rfl⟩)
  | @there c r a o o' r' h ih =>
    intro b u m
    obtain ⟨n1, n2⟩ := List.nodup_cons.mp nd
    rcases List.mem_cons.mp m with e | m
    · subst e
      refine .inr ⟨fun e => ?_, List.mem_cons_self⟩
      exact n1 (List.mem_map.mpr ⟨_, h.mem, e.symm⟩)
    · rcases ih n2 b u m with z | ⟨z1, z2⟩
      · exact .inl z
      · exact .inr ⟨z1, List.mem_cons_of_mem _ z2⟩
  | @app s r a o o' r' h ih =>
    intro b u m
    rw [adr_app] at nd
    obtain ⟨n1, n2, n3⟩ := List.nodup_append.mp nd
    rcases List.mem_append.mp m with m | m
    · refine .inr ⟨fun e => ?_, List.mem_append_left _ m⟩
      subst e
      exact n3 _ (List.mem_map.mpr ⟨_, m, rfl⟩) _ (List.mem_map.mpr ⟨_, h.mem, rfl⟩) rfl
    · rcases ih n2 b u m with z | ⟨z1, z2⟩
      · exact .inl z
      · exact .inr ⟨z1, List.mem_append_right _ z2⟩
  | @appl s r a o o' s' h ih =>
    intro b u m
    rw [adr_app] at nd
    obtain ⟨n1, n2, n3⟩ := List.nodup_append.mp nd
    rcases List.mem_append.mp m with m | m
    · rcases ih n1 b u m with z | ⟨z1, z2⟩
      · exact .inl z
      · exact .inr ⟨z1, List.mem_append_left _ z2⟩
    · refine .inr ⟨fun e => ?_, List.mem_append_right _ m⟩
      subst e
      exact n3 _ (List.mem_map.mpr ⟨_, h.mem, rfl⟩) _ (List.mem_map.mpr ⟨_, m, rfl⟩) rfl
def isTup : HO → Bool
  | .tup _ => true
  | _ => false
/-- a block of cells within, and the row with another block in its place -/
inductive Sub : Cells → Cells → Cells → Cells → Prop
  | all {s s'} : Sub s s s' s'
  | here {s s' r} : Sub (s ++ r) s s' (s' ++ r)
  | one {c s' r} : Sub (c :: r) [c] s' (s' ++ r)
  | two {c d s' r} : Sub (c :: d :: r) [c, d] s' (s' ++ r)
  | nil {r s'} : Sub r [] s' (s' ++ r)
  | there {c r s s' r'} : Sub r s s' r' → Sub (c :: r) s s' (c :: r')
  | app {t r s s' r'} : Sub r s s' r' → Sub (t ++ r) s s' (t ++ r')
  | appl {t r s s' t'} : Sub t s s' t' → Sub (t ++ r) s s' (t' ++ r)
theorem Sub.split {cs s s' cs' : Cells} (h : Sub cs s s' cs') : ∃ l r, cs = l ++ (s ++ r) ∧ cs' = l ++ (s' ++ r) := by
  induction h with
  | all => exact ⟨[], [], by simp, by simp⟩
  | here => exact ⟨[], _, rfl, rfl⟩
  | one => exact ⟨[], _, rfl, rfl⟩
  | two => exact ⟨[], _, rfl, rfl⟩
  | nil => exact ⟨[], _, rfl, rfl⟩
  | @there c r s s' r' _ ih =>
    obtain ⟨l, t, e1, e2⟩ := ih
    exact ⟨c :: l, t, by rw [e1]; rfl, by rw [e2]; rfl⟩
  | @app t r s s' r' _ ih =>
    obtain ⟨l, q, e1, e2⟩ := ih
    exact ⟨t ++ l, q, by rw [e1, List.append_assoc], by rw [e2, List.append_assoc]⟩
  | @appl t r s s' t' _ ih =>
    obtain ⟨l, q, e1, e2⟩ := ih
    exact ⟨l, q ++ r, by rw [e1]; simp only [List.append_assoc], by rw [e2]; simp only [List.append_assoc]⟩
section
variable {H0 H H' : Hp} {A : List Addr} {cs cs' s s' : Cells} {a p : Addr} {o o' : HO}
theorem Own.get (O : Own H0 H A cs) (m : (a, o) ∈ cs) : H a = some o := O.at_ a o m
theorem Own.tup {t : Addr} {xs : List V} (O : Own H0 H A cs) (h : H0 t = some (.tup xs)) : H t = some (.tup xs) := O.tp t xs h
/-- a cell is written -/
theorem Own.wr (O : Own H0 H A cs) (h : At cs a o o' cs') (n : isTup o = false := by rfl) : Own H0 (upd H a o') A cs' := by
  have ha := O.at_ a o h.mem
  refine ⟨fun b u m => ?_, by rw [h.adr]; exact O.nd, fun b u e hb => ?_, fun b m => O.nw b (by rw [← h.adr]; exact m), fun b xs e => ?_⟩
  · rcases h.of O.nd b u m with ⟨rfl, rfl⟩ | ⟨e, m⟩
    · exact upd_same
    · rw [upd_ne e]; exact O.at_ b u m
  · rw [upd_ne]
    · exact O.fr b u e hb
    · rintro rfl
      rcases O.nw b (List.mem_map.mpr ⟨_, h.mem, rfl⟩) with z | z
      · exact hb z
      · rw [z] at e; cases e
  · have e1 := O.tp b xs e
    rw [upd_ne]
    · exact e1
    · rintro rfl
      rw [e1] at ha
      cases ha
      cases n
/-- a new cell -/
theorem Own.new (O : Own H0 H A cs) (h : H p = none) : Own H0 (upd H p o) A ((p, o) :: cs) := by
  have hn : p ∉ adr cs := fun m => by
    obtain ⟨c, hc, e⟩ := List.mem_map.mp m
    have := O.at_ c.1 c.2 hc
    rw [e, h] at this
    cases this
  have ne : ∀ b u, H b = some u → b ≠ p := fun b u e z => by rw [z, h] at e; cases e
  by_cases hA : p ∈ A
  · refine ⟨fun b u m => ?_, List.nodup_cons.mpr ⟨hn, O.nd⟩, fun b u e hb => ?_, fun b m => ?_, fun b xs e => ?_⟩
    · rcases List.mem_cons.mp m with z | z
      · cases z; exact upd_same
      · rw [upd_ne (ne b u (O.at_ b u z))]; exact O.at_ b u z
    · rw [upd_ne (ne b u (O.fr b u e hb))]; exact O.fr b u e hb
    · rcases List.mem_cons.mp m with z | z
      · exact .inl (by rw [z]; exact hA)
      · exact O.nw b z
    · rw [upd_ne (ne b _ (O.tp b xs e))]; exact O.tp b xs e
  · have h0 : H0 p = none := by
      cases q : H0 p with
      | none => rfl
      | some u =>
        rw [O.fr p u q hA] at h
        cases h
    refine ⟨fun b u m => ?_, List.nodup_cons.mpr ⟨hn, O.nd⟩, fun b u e hb => ?_, fun b m => ?_, fun b xs e => ?_⟩
    · rcases List.mem_cons.mp m with z | z
      · cases z; exact upd_same
      · rw [upd_ne (ne b u (O.at_ b u z))]; exact O.at_ b u z
    · rw [upd_ne (ne b u (O.fr b u e hb))]; exact O.fr b u e hb
    · rcases List.mem_cons.mp m with z | z
      · exact .inr (by rw [z]; exact h0)
      · exact O.nw b z
    · rw [upd_ne (ne b _ (O.tp b xs e))]; exact O.tp b xs e
/-- a new tuple: it needs no owner -/
theorem Own.newT (O : Own H0 H A cs) (h : H p = none) : Own H0 (upd H p o) A cs :=
  have O' := O.new (o := o) h
  ⟨fun b u m => O'.at_ b u (List.mem_cons_of_mem _ m), O.nd, O'.fr, O.nw, O'.tp⟩
/-- fewer cells -/
theorem Own.drop (O : Own H0 H A cs) (h : List.Sublist cs' cs) : Own H0 H A cs' :=
  ⟨fun b u m => O.at_ b u (h.subset m), O.nd.sublist (h.map _), O.fr, fun b m => O.nw b ((h.map _).subset m), O.tp⟩
theorem Own.perm (O : Own H0 H A cs) (h : cs.Perm cs') : Own H0 H A cs' :=
  ⟨fun b u m => O.at_ b u (h.mem_iff.mpr m), (h.map _).nodup_iff.mp O.nd, O.fr, fun b m => O.nw b ((h.map _).mem_iff.mpr m), O.tp⟩
/-- a block of it, as what a callee is handed -/
theorem Own.blk (O : Own H0 H A cs) (h : Sub cs s s' cs') : Own H H (adr s) s := by
  obtain ⟨l, r, rfl, _⟩ := h.split
  have nd := O.nd
  rw [adr_app, adr_app] at nd
  exact ⟨fun b u m => O.at_ b u (List.mem_append_right _ (List.mem_append_left _ m)), (List.nodup_append.mp (List.nodup_append.mp nd).2.1).1, fun _ _ e _ => e, fun _ m => .inl m, fun _ _ e => e⟩
/-- behind the call -/
theorem Own.call (O : Own H0 H A cs) (h : Sub cs s s' cs') (C : Own H H' (adr s) s') : Own H0 H' A cs' := by
  obtain ⟨l, r, rfl, rfl⟩ := h.split
  have nd := O.nd
  simp only [adr_app] at nd
  obtain ⟨n1, n2, n3⟩ := List.nodup_append.mp nd
  obtain ⟨n4, n5, n6⟩ := List.nodup_append.mp n2
  have out : ∀ b u, ((b, u) ∈ l ∨ (b, u) ∈ r) → H' b = some u := fun b u m => by
    have hb : b ∉ adr s := fun z => by
      rcases m with m | m
      · exact n3 b (List.mem_map.mpr ⟨_, m, rfl⟩) b (List.mem_append_left _ z) rfl
      · exact n6 b z b (List.mem_map.mpr ⟨_, m, rfl⟩) rfl
    refine C.fr b u (O.at_ b u ?_) hb
    rcases m with m | m
    · exact List.mem_append_left _ m
    · exact List.mem_append_right _ (List.mem_append_right _ m)
  have sep : ∀ b, b ∈ adr s' → (b ∈ adr l ∨ b ∈ adr r) → False := fun b m z => by
    obtain ⟨u, hu⟩ : ∃ u, ((b, u) ∈ l ∨ (b, u) ∈ r) := by
      rcases z with z | z
      · obtain ⟨c, hc, e⟩ := List.mem_map.mp z
        exact ⟨c.2, .inl (by rw [← e]; exact hc)⟩
      · obtain ⟨c, hc, e⟩ := List.mem_map.mp z
        exact ⟨c.2, .inr (by rw [← e]; exact hc)⟩
    rcases C.nw b m with q | q
    · rcases z with z | z
      · exact n3 b z b (List.mem_append_left _ q) rfl
      · exact n6 b q b z rfl
    · have e : H b = some u := O.at_ b u (by
        rcases hu with m | m
        · exact List.mem_append_left _ m
        · exact List.mem_append_right _ (List.mem_append_right _ m))
      rw [q] at e
      cases e
  refine ⟨fun b u m => ?_, ?_, fun b u e hb => ?_, fun b m => ?_, fun b xs e => C.tp b xs (O.tp b xs e)⟩
  · rcases List.mem_append.mp m with m | m
    · exact out b u (.inl m)
    · rcases List.mem_append.mp m with m | m
      · exact C.at_ b u m
      · exact out b u (.inr m)
  · simp only [adr_app]
    refine List.nodup_append.mpr ⟨n1, List.nodup_append.mpr ⟨C.nd, n5, fun x hx y hy e => ?_⟩, fun x hx y hy e => ?_⟩
    · subst e
      exact sep x hx (.inr hy)
    · subst e
      rcases List.mem_append.mp hy with z | z
      · exact sep x z (.inl hx)
      · exact n3 x hx x (List.mem_append_right _ z) rfl
  · refine C.fr b u (O.fr b u e hb) fun z => ?_
    rcases O.nw b (by simp only [adr_app]; exact List.mem_append_right _ (List.mem_append_left _ z)) with q | q
    · exact hb q
    · rw [q] at e
      cases e
  · simp only [adr_app] at m
    rcases List.mem_append.mp m with m | m
    · exact O.nw b (by simp only [adr_app]; exact List.mem_append_left _ m)
    · rcases List.mem_append.mp m with m | m
      · rcases C.nw b m with z | z
        · exact O.nw b (by simp only [adr_app]; exact List.mem_append_right _ (List.mem_append_left _ z))
        · by_cases hA : b ∈ A
          · exact .inl hA
          · refine .inr ?_
            cases q : H0 b with
            | none => rfl
            | some u =>
              rw [O.fr b u q hA] at z
              cases z
      · exact O.nw b (by simp only [adr_app]; exact List.mem_append_right _ (List.mem_append_right _ m))
end
end Ow
namespace Ow
open PySem PySem.Spec PyProof.Rows L2
/-! ### where a walk stops -/
structure Box (p : Prop) : Prop where
  out : p
theorem PE.box {X : Cx} {e : Expr} {t : TE} (h : PE X e t) : PE X e (fun σ H Q => t σ H fun v H1 => Box (Q v H1)) :=
  ⟨fun pins s σ H Q I q => thn (h.run pins s σ H _ I q) fun _ _ ⟨x, H1, I1, r1, q1⟩ => ⟨x, H1, I1, r1, q1.out⟩⟩
theorem PA.box {X : Cx} {es : List Expr} {t : TA} (h : PA X es t) : PA X es (fun σ H Q => t σ H fun v H1 => Box (Q v H1)) :=
  ⟨fun pos pins s σ H Q I q => thn (h.run pos pins s σ H _ I q) fun _ _ ⟨x, H1, I1, r1, q1⟩ => ⟨x, H1, I1, r1, q1.out⟩⟩
theorem PI.box {X : Cx} {tg e : Expr} {w : TI} (h : PI X tg e w) : PI X tg e (fun σ H R => w σ H fun J H1 => Box (R J H1)) :=
  ⟨fun pins s σ H R I q => thn (h.run pins s σ H _ I q) fun _ _ h1 => thn h1 fun _ _ ⟨it, fp, tn, J, H', e, I', T, t0, f, r⟩ => ⟨it, fp, tn, J, H', e, I', T, t0, f, r.out⟩⟩
/-- a reading as it stands, not reckoned out -/
def tW (t : TS) : TS := t
theorem PS.box {X : Cx} {st : Stmt} {t : TS} (h : PS X st t) : PS X st (fun D σ H => Box (tW t D σ H)) :=
  ⟨fun pins s σ H D I q => h.run pins s σ H D I q.out⟩
theorem PE.alt {X : Cx} {e : Expr} {t u : TE} (h : PE X e t) (h' : PE X e u) : PE X e (fun σ H Q => t σ H Q ∨ u σ H Q) :=
  ⟨fun pins s σ H Q I q => q.elim (h.run pins s σ H Q I) (h'.run pins s σ H Q I)⟩
/-- a promise that a walk stops at -/
def bx (sp : Sp) : Sp := fun vs H Q E => Box (sp vs H Q E)
/-- of a def that nobody calls: nothing may be asked -/
def spWall : Sp := fun _ _ _ _ => False
/-- a def that may be called: it keeps its promise -/
structure Cee (P : Program) (w : World) (K : PySem.W.Frag) (mg : Str → Option Value) (base : Heap) (k : Nat) (f : Addr) (ps : List Str) (sp : Sp) : Prop where
  kp : PySem.W.keepIn K (.ref f) = true
  fn : ∃ fd, FnOk P w K mg base (L2.CX P w) k f fd ps (bx sp) ∧ Binds K fd ps []
section
variable {P : Program} {w : World} {K : PySem.W.Frag} {mg : Str → Option Value} {base : Heap}
theorem cee_of {x qual : Str} {params : Arguments} {body : List Stmt} {scope : Scope} {f : Addr} {N ps : List Str} {k : Nat} {sp : Sp} (F : ∃ fd, FunD K x qual params body scope [] [] f fd) (S : FnScope N ps scope)
    (hb : ∀ (kV doc pm : Value) (an : Option Addr) (cdv ct : Value) (us : List Value), us.length = ps.length → bindArgs (PySem.W.fnOf x qual params body scope .none kV doc pm an cdv ct) ⟨us, []⟩ = pure (ps.zip us))
    (len : ∀ vs H Q E, sp vs H Q E → vs.length = ps.length)
    (hbody : ∀ (cdv : Value) (A : Around) (outer : List Env) (s : Shared) (H : Hp) (vs : List V) (Q : VK) (E : XK), Room k (A.deeper (envOfC qual scope s.heap.objs.size f cdv)) → sp vs H Q E →
      ∃ t, PSs (cxOf (L2.CX P w) P w K mg base N qual scope f cdv A outer s H E) body t ∧ t { nx := fun _ H' => Q .non H', rt := Q } (start N vs) H) : Cee P w K mg base (k + 1) f ps sp := by
  obtain ⟨fd, F⟩ := F
  exact ⟨F.kp, fd, FunD.ok F S (fun vs H Q E h => len vs H Q E h.out) (fun cdv A outer s H vs Q E hr h => hbody cdv A outer s H vs Q E hr h.out), F.bindsN hb⟩
end
section
variable {X : Cx} {k : Nat} {f C : Addr} {ps : List Str} {sp : Sp} {W : WX} {x m : Str} {p pos apos : Pos} {e o : Expr} {es : List Expr} {ta : TE} {t : TA}
theorem pe_f (c : Cee X.prog X.w X.K X.mg X.base k f ps sp) (hr : Room k X.A) (tk : Takes X W) (hg : Gl X x) (hm : X.mg x = some (.ref f)) (ha : PA X (e :: es) t) (hdb : (x == ("__debug__" : Str)) = false := by decide)
    (he : starEach (e :: es) X.env = (false, eval e X.env) :: starEach es X.env := by rfl) (hpl : (backTo pos (starEach es X.env)).any (·.1) = false := by rfl) :
    PE X (.Call (.Name x p) (e :: es) [] pos) (tCallS (bx sp) (WE W) t) := by
  obtain ⟨fd, F, b⟩ := c.fn
  exact pe_callS F hr hg hm c.kp b (fun σ => passAt tk σ) ha hdb he hpl
theorem pe_f0 (c : Cee X.prog X.w X.K X.mg X.base k f ps sp) (hr : Room k X.A) (tk : Takes X W) (hg : Gl X x) (hm : X.mg x = some (.ref f)) (hdb : (x == ("__debug__" : Str)) = false := by decide) :
    PE X (.Call (.Name x p) [] [] pos) (fun σ H Q => bx sp [] H Q (WE W σ)) := by
  obtain ⟨fd, F, b⟩ := c.fn
  refine ⟨fun pins s σ H Q I h => ?_⟩
  refine wpAny_Call_Name_kw (ld_glob I hg hm ?_ hdb)
  exact PySem.W.callWith_K0 I.kIn c.kp (run_fnS (us := []) (E := WE W) F hr b (passAt tk σ) I .nil h)
/-- o.m(e, ..) -/
def tM (C : Addr) (m : Str) (sp : Sp) (W : WX) (ta : TE) (t : TA) : TE := fun σ H Q => ta σ H fun x H1 => ∃ a dx fs, x = .ref a ∧ H1 a = some (.ins C dx fs) ∧ fs.lookup m = none ∧ t σ H1 fun vs H2 => bx sp (x :: vs) H2 Q (WE W σ)
theorem pe_m {pl : Sem Bool} (ho : PE X o ta) (cl : Cls X.K C) (hm : Meth X.K C m f) (c : Cee X.prog X.w X.K X.mg X.base k f ps sp) (hr : Room k X.A) (tk : Takes X W) (ha : PA X (e :: es) t)
    (hst : starEach (e :: es) X.env = (false, eval e X.env) :: starEach es X.env := by rfl) (hpl : (backTo pos (starEach es X.env)).any (·.1) = false := by rfl)
    (ht : eval (.Call (.Attribute o m apos) (e :: es) [] pos) X.env = (do
      let ov ← eval o X.env
      standAt apos.atName
      let (f, first) ← holding [ov] (getMethod ov m pl)
      callWith pos f first (backTo pos (starEach (e :: es) X.env)) (backToKw pos (keywordEach [] X.env))) := by rfl) :
    PE X (.Call (.Attribute o m apos) (e :: es) [] pos) (tM C m sp W ta t) := by
  obtain ⟨fd, F, b⟩ := c.fn
  refine ⟨fun pins s σ H Q I h => ?_⟩
  refine PySem.W.methodCall_KW (pl := pl) (thn (ho.run pins s σ H _ I h) fun u s1 ⟨y, H1, I1, ry, a, dx, fs, ey, ea, l, q⟩ => ?_) ht
  subst ey
  obtain rfl : u = Value.ref a := ry
  refine getmeth_ok I1 ea cl hm l ?_
  refine PySem.W.callWith_K (first := [.ref a]) (h₀ := X.base) I.ok.mod.kin hm.kp (thn (ha.run pos pins s1 σ H1 _ I1 q) fun us s2 ⟨vs, H2, I2, rv, q2⟩ => ⟨I2.kIn, ?_⟩) hst hpl
  exact run_fnS (us := .ref a :: us) (vs := .ref a :: vs) (E := WE W) F hr b (passAt tk σ) I2 (.cons rfl rv) q2
def tM0 (C : Addr) (m : Str) (sp : Sp) (W : WX) (ta : TE) : TE := fun σ H Q => ta σ H fun x H1 => ∃ a dx fs, x = .ref a ∧ H1 a = some (.ins C dx fs) ∧ fs.lookup m = none ∧ bx sp [x] H1 Q (WE W σ)
theorem pe_m0 {pl : Sem Bool} (ho : PE X o ta) (cl : Cls X.K C) (hm : Meth X.K C m f) (c : Cee X.prog X.w X.K X.mg X.base k f ps sp) (hr : Room k X.A) (tk : Takes X W)
    (ht : eval (.Call (.Attribute o m apos) [] [] pos) X.env = (do
      let ov ← eval o X.env
      standAt apos.atName
      let (f, first) ← holding [ov] (getMethod ov m pl)
      callWith pos f first (backTo pos (starEach [] X.env)) (backToKw pos (keywordEach [] X.env))) := by rfl) :
    PE X (.Call (.Attribute o m apos) [] [] pos) (tM0 C m sp W ta) := by
  obtain ⟨fd, F, b⟩ := c.fn
  refine ⟨fun pins s σ H Q I h => ?_⟩
  refine PySem.W.methodCall_KW (pl := pl) (thn (ho.run pins s σ H _ I h) fun u s1 ⟨y, H1, I1, ry, a, dx, fs, ey, ea, l, q⟩ => ?_) ht
  subst ey
  obtain rfl : u = Value.ref a := ry
  refine getmeth_ok I1 ea cl hm l ?_
  exact PySem.W.callWith_K0 (first := [.ref a]) I1.kIn hm.kp (run_fnS (us := [.ref a]) (vs := [.ref a]) (E := WE W) F hr b (passAt tk σ) I1 (.cons rfl .nil) q)
/-- C(e, ..): its __init__ lets nothing out -/
theorem pe_n (M : Mk X.K C f) (c : Cee X.prog X.w X.K X.mg X.base k f ps sp) (hr : Room (k + 1) X.A) (hg : Gl X x) (hm : X.mg x = some (.ref C)) (ha : PA X (e :: es) t) (hdb : (x == ("__debug__" : Str)) = false := by decide)
    (he : starEach (e :: es) X.env = (false, eval e X.env) :: starEach es X.env := by rfl) (hpl : (backTo pos (starEach es X.env)).any (·.1) = false := by rfl) :
    PE X (.Call (.Name x p) (e :: es) [] pos) (tMake C (bx sp) [] E0 t) := by
  obtain ⟨fd, F, b⟩ := c.fn
  exact pe_make M F hr hg hm b .nil passL ha hdb he hpl
theorem pe_n0 (M : Mk X.K C f) (c : Cee X.prog X.w X.K X.mg X.base k f ps sp) (hr : Room (k + 1) X.A) (hg : Gl X x) (hm : X.mg x = some (.ref C)) (hdb : (x == ("__debug__" : Str)) = false := by decide) :
    PE X (.Call (.Name x p) [] [] pos) (tMake C (bx sp) [] E0 tNil) := by
  obtain ⟨fd, F, b⟩ := c.fn
  exact pe_make0 M F hr hg hm b .nil passL hdb
end
/-! ### what a closer knows -/
theorem sl_of {σ : List (Option V)} {i : Nat} {v : V} (h : σ[i]? = some (some v)) : σ[i]? = some (some v) := h
theorem veq_of {x y : V} (h : x = y) : x = y := h
theorem lsq_of {x y : List V} (h : x = y) : x = y := h
theorem sc_of {x y : V} (h : scal x y = true) : scal x y = true := h
theorem lk_of {fs : List (Str × V)} {f : Str} {v : V} (h : fs.lookup f = some v) : fs.lookup f = some v := h
theorem lkn_of {fs : List (Str × V)} {f : Str} (h : fs.lookup f = none) : fs.lookup f = none := h
theorem lt_of {fs : List (Str × V)} (h : fs.length < 1000) : fs.length < 1000 := h
theorem hp_of {H : Hp} {a : Addr} {o : HO} (h : H a = some o) : H a = some o := h
theorem cd_of {i j : Int} (h : 0 < j ∧ j < 1073741824) : CDiv i j := h
theorem cm_l {i j : Int} (h : -(2 ^ 64) < i ∧ i < 2 ^ 64) : CMul i j := .inl h
theorem cm_r {i j : Int} (h : -(2 ^ 64) < j ∧ j < 2 ^ 64) : CMul i j := .inr h
theorem sz_le {n : Nat} (h : n ≤ 100000) : n ≤ sizeLine := Nat.le_trans h (by decide)
theorem sz_lt {n : Nat} (h : n < 100000) : n < sizeLine := Nat.lt_of_lt_of_le h (by decide)
/-! ### tests -/
theorem if_d {p A B : Prop} [Decidable p] (h1 : p → A) (h2 : ¬ p → B) : if decide p = true then A else B := by
  by_cases h : p
  · rw [if_pos (decide_eq_true h)]; exact h1 h
  · rw [if_neg (by rw [decide_eq_false h]; exact Bool.false_ne_true)]; exact h2 h
theorem if_nd {p A B : Prop} [Decidable p] (h1 : ¬ p → A) (h2 : p → B) : if (!decide p) = true then A else B := by
  by_cases h : p
  · rw [decide_eq_true h, if_neg (by decide)]; exact h2 h
  · rw [decide_eq_false h, if_pos (by decide)]; exact h1 h
theorem if_ii {a b : Int} {A B : Prop} (h1 : a = b → A) (h2 : ¬ a = b → B) : if decide (V.int a = V.int b) = true then A else B :=
  if_d (fun h => h1 (V.int.inj h)) fun h => h2 fun e => h (by rw [e])
theorem if_nii {a b : Int} {A B : Prop} (h1 : ¬ a = b → A) (h2 : a = b → B) : if (!decide (V.int a = V.int b)) = true then A else B :=
  if_nd (fun h => h1 fun e => h (by rw [e])) fun h => h2 (V.int.inj h)
theorem if_ss {a b : Str} {A B : Prop} (h1 : a = b → A) (h2 : ¬ a = b → B) : if decide (V.str a = V.str b) = true then A else B :=
  if_d (fun h => h1 (V.str.inj h)) fun h => h2 fun e => h (by rw [e])
theorem if_nss {a b : Str} {A B : Prop} (h1 : ¬ a = b → A) (h2 : a = b → B) : if (!decide (V.str a = V.str b)) = true then A else B :=
  if_nd (fun h => h1 fun e => h (by rw [e])) fun h => h2 (V.str.inj h)
theorem if_b {b : Bool} {A B : Prop} (h1 : b = true → A) (h2 : b = false → B) : if b = true then A else B := by
  cases b with
  | true => exact h1 rfl
  | false => exact h2 rfl
theorem if_nb {b : Bool} {A B : Prop} (h1 : b = false → A) (h2 : b = true → B) : if (!b) = true then A else B := by
  cases b with
  | true => exact h2 rfl
  | false => exact h1 rfl
theorem kt_int_int {K : PySem.W.Frag} : PySem.W.kitOne K (.type "int") (.type "int") = some true := kit_ty (by decide +kernel)
theorem kt_int_bool {K : PySem.W.Frag} : PySem.W.kitOne K (.type "int") (.type "bool") = some false := kit_ty (by decide +kernel)
theorem kt_int_str {K : PySem.W.Frag} : PySem.W.kitOne K (.type "int") (.type "str") = some false := kit_ty (by decide +kernel)
theorem kt_int_list {K : PySem.W.Frag} : PySem.W.kitOne K (.type "int") (.type "list") = some false := kit_ty (by decide +kernel)
theorem kt_int_tuple {K : PySem.W.Frag} : PySem.W.kitOne K (.type "int") (.type "tuple") = some false := kit_ty (by decide +kernel)
theorem kt_int_dict {K : PySem.W.Frag} : PySem.W.kitOne K (.type "int") (.type "dict") = some false := kit_ty (by decide +kernel)
theorem kt_bool_int {K : PySem.W.Frag} : PySem.W.kitOne K (.type "bool") (.type "int") = some true := kit_ty (by decide +kernel)
theorem kt_bool_bool {K : PySem.W.Frag} : PySem.W.kitOne K (.type "bool") (.type "bool") = some true := kit_ty (by decide +kernel)
theorem kt_bool_str {K : PySem.W.Frag} : PySem.W.kitOne K (.type "bool") (.type "str") = some false := kit_ty (by decide +kernel)
theorem kt_bool_list {K : PySem.W.Frag} : PySem.W.kitOne K (.type "bool") (.type "list") = some false := kit_ty (by decide +kernel)
theorem kt_bool_tuple {K : PySem.W.Frag} : PySem.W.kitOne K (.type "bool") (.type "tuple") = some false := kit_ty (by decide +kernel)
theorem kt_bool_dict {K : PySem.W.Frag} : PySem.W.kitOne K (.type "bool") (.type "dict") = some false := kit_ty (by decide +kernel)
theorem kt_str_int {K : PySem.W.Frag} : PySem.W.kitOne K (.type "str") (.type "int") = some false := kit_ty (by decide +kernel)
theorem kt_str_bool {K : PySem.W.Frag} : PySem.W.kitOne K (.type "str") (.type "bool") = some false := kit_ty (by decide +kernel)
theorem kt_str_str {K : PySem.W.Frag} : PySem.W.kitOne K (.type "str") (.type "str") = some true := kit_ty (by decide +kernel)
theorem kt_str_list {K : PySem.W.Frag} : PySem.W.kitOne K (.type "str") (.type "list") = some false := kit_ty (by decide +kernel)
theorem kt_str_tuple {K : PySem.W.Frag} : PySem.W.kitOne K (.type "str") (.type "tuple") = some false := kit_ty (by decide +kernel)
theorem kt_str_dict {K : PySem.W.Frag} : PySem.W.kitOne K (.type "str") (.type "dict") = some false := kit_ty (by decide +kernel)
theorem kt_list_int {K : PySem.W.Frag} : PySem.W.kitOne K (.type "list") (.type "int") = some false := kit_ty (by decide +kernel)
theorem kt_list_bool {K : PySem.W.Frag} : PySem.W.kitOne K (.type "list") (.type "bool") = some false := kit_ty (by decide +kernel)
theorem kt_list_str {K : PySem.W.Frag} : PySem.W.kitOne K (.type "list") (.type "str") = some false := kit_ty (by decide +kernel)
theorem kt_list_list {K : PySem.W.Frag} : PySem.W.kitOne K (.type "list") (.type "list") = some true := kit_ty (by decide +kernel)
theorem kt_list_tuple {K : PySem.W.Frag} : PySem.W.kitOne K (.type "list") (.type "tuple") = some false := kit_ty (by decide +kernel)
theorem kt_list_dict {K : PySem.W.Frag} : PySem.W.kitOne K (.type "list") (.type "dict") = some false := kit_ty (by decide +kernel)
theorem kt_tuple_int {K : PySem.W.Frag} : PySem.W.kitOne K (.type "tuple") (.type "int") = some false := kit_ty (by decide +kernel)
theorem kt_tuple_bool {K : PySem.W.Frag} : PySem.W.kitOne K (.type "tuple") (.type "bool") = some false := kit_ty (by decide +kernel)
theorem kt_tuple_str {K : PySem.W.Frag} : PySem.W.kitOne K (.type "tuple") (.type "str") = some false := kit_ty (by decide +kernel)
theorem kt_tuple_list {K : PySem.W.Frag} : PySem.W.kitOne K (.type "tuple") (.type "list") = some false := kit_ty (by decide +kernel)
theorem kt_tuple_tuple {K : PySem.W.Frag} : PySem.W.kitOne K (.type "tuple") (.type "tuple") = some true := kit_ty (by decide +kernel)
theorem kt_tuple_dict {K : PySem.W.Frag} : PySem.W.kitOne K (.type "tuple") (.type "dict") = some false := kit_ty (by decide +kernel)
theorem kt_dict_int {K : PySem.W.Frag} : PySem.W.kitOne K (.type "dict") (.type "int") = some false := kit_ty (by decide +kernel)
theorem kt_dict_bool {K : PySem.W.Frag} : PySem.W.kitOne K (.type "dict") (.type "bool") = some false := kit_ty (by decide +kernel)
theorem kt_dict_str {K : PySem.W.Frag} : PySem.W.kitOne K (.type "dict") (.type "str") = some false := kit_ty (by decide +kernel)
theorem kt_dict_list {K : PySem.W.Frag} : PySem.W.kitOne K (.type "dict") (.type "list") = some false := kit_ty (by decide +kernel)
theorem kt_dict_tuple {K : PySem.W.Frag} : PySem.W.kitOne K (.type "dict") (.type "tuple") = some false := kit_ty (by decide +kernel)
theorem kt_dict_dict {K : PySem.W.Frag} : PySem.W.kitOne K (.type "dict") (.type "dict") = some true := kit_ty (by decide +kernel)
theorem kt_NoneType_int {K : PySem.W.Frag} : PySem.W.kitOne K (.type "NoneType") (.type "int") = some false := kit_ty (by decide +kernel)
theorem kt_NoneType_bool {K : PySem.W.Frag} : PySem.W.kitOne K (.type "NoneType") (.type "bool") = some false := kit_ty (by decide +kernel)
theorem kt_NoneType_str {K : PySem.W.Frag} : PySem.W.kitOne K (.type "NoneType") (.type "str") = some false := kit_ty (by decide +kernel)
theorem kt_NoneType_list {K : PySem.W.Frag} : PySem.W.kitOne K (.type "NoneType") (.type "list") = some false := kit_ty (by decide +kernel)
theorem kt_NoneType_tuple {K : PySem.W.Frag} : PySem.W.kitOne K (.type "NoneType") (.type "tuple") = some false := kit_ty (by decide +kernel)
theorem kt_NoneType_dict {K : PySem.W.Frag} : PySem.W.kitOne K (.type "NoneType") (.type "dict") = some false := kit_ty (by decide +kernel)
end Ow
namespace Ow
open PySem PySem.Spec PyProof.Rows L2
def XcIn (K : PySem.W.Frag) (C : Addr) : Prop := PySem.W.excIn K C He.veBase "ValueError.__new__" = true ∧ PySem.W.keepIn K (.ref C) = true ∧ PySem.W.subIn K (.ref C) (.type "BaseException") = some true ∧ PySem.W.typeIn K (.ref C) = some (.type "type")
theorem gI {mg : Str → Option Value} {x : Str} {i : Int} (h : ∃ t, mg x = some (.int i t)) : ∃ u, mg x = some u ∧ RelV (.int i) u := let ⟨t, e⟩ := h; ⟨_, e, t, rfl⟩
theorem gS {mg : Str → Option Value} {x z : Str} (h : ∃ t, mg x = some (.str z t)) : ∃ u, mg x = some u ∧ RelV (.str z) u := let ⟨t, e⟩ := h; ⟨_, e, t, rfl⟩
/-! ### promises by the number of arguments -/
def sp0 (f : Hp → VK → XK → Prop) : Sp := fun vs H Q E => vs = [] ∧ f H Q E
def sp1 (f : V → Hp → VK → XK → Prop) : Sp := fun vs H Q E => ∃ a, vs = [a] ∧ f a H Q E
def sp2 (f : V → V → Hp → VK → XK → Prop) : Sp := fun vs H Q E => ∃ a b, vs = [a, b] ∧ f a b H Q E
def sp3 (f : V → V → V → Hp → VK → XK → Prop) : Sp := fun vs H Q E => ∃ a b c, vs = [a, b, c] ∧ f a b c H Q E
def sp4 (f : V → V → V → V → Hp → VK → XK → Prop) : Sp := fun vs H Q E => ∃ a b c d, vs = [a, b, c, d] ∧ f a b c d H Q E
def sp5 (f : V → V → V → V → V → Hp → VK → XK → Prop) : Sp := fun vs H Q E => ∃ a b c d e, vs = [a, b, c, d, e] ∧ f a b c d e H Q E
section
variable {vs : List V} {H : Hp} {Q : VK} {E : XK} {a b c d e : V}
theorem sp0_len {f} (h : sp0 f vs H Q E) : vs.length = 0 := by obtain ⟨rfl, _⟩ := h; rfl
theorem sp1_len {f} (h : sp1 f vs H Q E) : vs.length = 1 := by obtain ⟨_, rfl, _⟩ := h; rfl
theorem sp2_len {f} (h : sp2 f vs H Q E) : vs.length = 2 := by obtain ⟨_, _, rfl, _⟩ := h; rfl
theorem sp3_len {f} (h : sp3 f vs H Q E) : vs.length = 3 := by obtain ⟨_, _, _, rfl, _⟩ := h; rfl
theorem sp4_len {f} (h : sp4 f vs H Q E) : vs.length = 4 := by obtain ⟨_, _, _, _, rfl, _⟩ := h; rfl
theorem sp5_len {f} (h : sp5 f vs H Q E) : vs.length = 5 := by obtain ⟨_, _, _, _, _, rfl, _⟩ := h; rfl
theorem ask0 {f} (h : f H Q E) : Box (sp0 f [] H Q E) := ⟨rfl, h⟩
theorem ask1 {f} (h : f a H Q E) : Box (sp1 f [a] H Q E) := ⟨_, rfl, h⟩
theorem ask2 {f} (h : f a b H Q E) : Box (sp2 f [a, b] H Q E) := ⟨_, _, rfl, h⟩
theorem ask3 {f} (h : f a b c H Q E) : Box (sp3 f [a, b, c] H Q E) := ⟨_, _, _, rfl, h⟩
theorem ask4 {f} (h : f a b c d H Q E) : Box (sp4 f [a, b, c, d] H Q E) := ⟨_, _, _, _, rfl, h⟩
theorem ask5 {f} (h : f a b c d e H Q E) : Box (sp5 f [a, b, c, d, e] H Q E) := ⟨_, _, _, _, _, rfl, h⟩
end
end Ow
namespace Ow
open PySem PySem.Spec PyProof.Rows L2
theorem pe_gc {X : Cx} {x : Str} {pos : Pos} {v : V} (hg : Gl X x) (hm : ∃ u, X.mg x = some u ∧ RelV v u) (hd : (x == ("__debug__" : Str)) = false := by decide) : PE X (.Name x pos) (tC v) :=
  let ⟨_, e, r⟩ := hm
  pe_glob hg e r hd
end Ow
namespace Ow
open PySem PySem.Spec PyProof.Rows L2
section
variable {H0 H : Hp} {A : List Addr} {cs : Cells} {x dx C : Addr}
/-- a new instance -/
theorem Own.inst (O : Own H0 H A cs) (h1 : H x = none) (h2 : H dx = none) (ne : dx ≠ x) : Own H0 (upd (upd H dx (.own x)) x (.ins C dx [])) A ((x, .ins C dx []) :: cs) :=
  ((O.new (o := .own x) h2).new (o := .ins C dx []) (p := x) (by rw [upd_ne ne.symm]; exact h1)).drop (List.Sublist.cons₂ _ (List.Sublist.cons _ (List.Sublist.refl _)))
theorem Own.last {c : Addr × HO} (O : Own H0 H A (c :: cs)) : Own H0 H A (cs ++ [c]) := O.perm (List.perm_append_singleton c cs).symm
theorem Own.eq {cs' : Cells} (O : Own H0 H A cs) (e : cs = cs') : Own H0 H A cs' := e ▸ O
theorem Own.adr {A' : List Addr} (O : Own H0 H A cs) (e : A = A') : Own H0 H A' cs := e ▸ O
end
/-! ### loops -/
section
variable {K : PySem.W.Frag} {a : Addr} {xs : List V} {g : TG} {tb : TS} {D : Ends} {σ : L2.St} {H : Hp}
theorem forL (Pv : Nat → L2.St → Hp → Prop) (h0 : Pv 0 σ H) (hl : ∀ i σ H, i ≤ xs.length → Pv i σ H → SqL K H a xs)
    (hs : ∀ i x σ H, xs[i]? = some x → Pv i σ H → g x σ H fun σ2 H2 => tb { D with nx := fun σ H => Box (Pv (i + 1) σ H), ct := fun σ H => Box (Pv (i + 1) σ H), bk := D.nx } σ2 H2) (hd : ∀ σ H, Pv xs.length σ H → D.nx σ H) :
    Box (∃ W : Nat → Nat → L2.St → Hp → Prop, (∃ m, W 0 m σ H) ∧ ∀ i m σ H, W i m σ H →
      ((Itl K a).stop i H ∧ D.nx σ H) ∨ ((Itl K a).go i H ∧ ∃ N : L2.St → Hp → Prop, (∀ σ' H', N σ' H' → ∃ m', m' < m ∧ W (i + 1) m' σ' H') ∧ ∀ x H', (Itl K a).yld i H x H' → g x σ H' fun σ2 H2 => tb { D with nx := N, ct := N, bk := D.nx } σ2 H2)) :=
  ⟨for_list (fun i σ H => Box (Pv i σ H)) ⟨h0⟩ (fun i σ H hi p => hl i σ H hi p.out) (fun i x σ H hx p => hs i x σ H hx p.out) (fun σ H p => hd σ H p.out)⟩
theorem forT (Pv : Nat → L2.St → Hp → Prop) (h0 : Pv 0 σ H) (hl : ∀ i σ H, i ≤ xs.length → Pv i σ H → SqT K H a xs)
    (hs : ∀ i x σ H, xs[i]? = some x → Pv i σ H → g x σ H fun σ2 H2 => tb { D with nx := fun σ H => Box (Pv (i + 1) σ H), ct := fun σ H => Box (Pv (i + 1) σ H), bk := D.nx } σ2 H2) (hd : ∀ σ H, Pv xs.length σ H → D.nx σ H) :
    Box (∃ W : Nat → Nat → L2.St → Hp → Prop, (∃ m, W 0 m σ H) ∧ ∀ i m σ H, W i m σ H →
      ((Itt K a).stop i H ∧ D.nx σ H) ∨ ((Itt K a).go i H ∧ ∃ N : L2.St → Hp → Prop, (∀ σ' H', N σ' H' → ∃ m', m' < m ∧ W (i + 1) m' σ' H') ∧ ∀ x H', (Itt K a).yld i H x H' → g x σ H' fun σ2 H2 => tb { D with nx := N, ct := N, bk := D.nx } σ2 H2)) :=
  ⟨for_tup (fun i σ H => Box (Pv i σ H)) ⟨h0⟩ (fun i σ H hi p => hl i σ H hi p.out) (fun i x σ H hx p => hs i x σ H hx p.out) (fun σ H p => hd σ H p.out)⟩
theorem forR {lo : Int} {n : Nat} (Pv : Nat → L2.St → Hp → Prop) (h0 : Pv 0 σ H)
    (hs : ∀ i σ H, i < n → Pv i σ H → g (.int (lo + i)) σ H fun σ2 H2 => tb { D with nx := fun σ H => Box (Pv (i + 1) σ H), ct := fun σ H => Box (Pv (i + 1) σ H), bk := D.nx } σ2 H2) (hd : ∀ σ H, Pv n σ H → D.nx σ H) :
    Box (∃ W : Nat → Nat → L2.St → Hp → Prop, (∃ m, W 0 m σ H) ∧ ∀ i m σ H, W i m σ H →
      ((Itr lo n).stop i H ∧ D.nx σ H) ∨ ((Itr lo n).go i H ∧ ∃ N : L2.St → Hp → Prop, (∀ σ' H', N σ' H' → ∃ m', m' < m ∧ W (i + 1) m' σ' H') ∧ ∀ x H', (Itr lo n).yld i H x H' → g x σ H' fun σ2 H2 => tb { D with nx := N, ct := N, bk := D.nx } σ2 H2)) :=
  ⟨for_range (fun i σ H => Box (Pv i σ H)) ⟨h0⟩ (fun i σ H hi p => hs i σ H hi p.out) (fun σ H p => hd σ H p.out)⟩
theorem forC {lo c : Int} {n : Nat} (Pv : Nat → L2.St → Hp → Prop) (h0 : Pv 0 σ H)
    (hs : ∀ i σ H, i < n → Pv i σ H → g (.int (lo + (i : Nat) * c)) σ H fun σ2 H2 => tb { D with nx := fun σ H => Box (Pv (i + 1) σ H), ct := fun σ H => Box (Pv (i + 1) σ H), bk := D.nx } σ2 H2) (hd : ∀ σ H, Pv n σ H → D.nx σ H) :
    Box (∃ W : Nat → Nat → L2.St → Hp → Prop, (∃ m, W 0 m σ H) ∧ ∀ i m σ H, W i m σ H →
      ((Itc lo c n).stop i H ∧ D.nx σ H) ∨ ((Itc lo c n).go i H ∧ ∃ N : L2.St → Hp → Prop, (∀ σ' H', N σ' H' → ∃ m', m' < m ∧ W (i + 1) m' σ' H') ∧ ∀ x H', (Itc lo c n).yld i H x H' → g x σ H' fun σ2 H2 => tb { D with nx := N, ct := N, bk := D.nx } σ2 H2)) :=
  ⟨for_rangeC (fun i σ H => Box (Pv i σ H)) ⟨h0⟩ (fun i σ H hi p => hs i σ H hi p.out) (fun σ H p => hd σ H p.out)⟩
/-- a while, by a word with its measure -/
theorem whI {c : TT} (W : Nat → L2.St → Hp → Prop) (m0 : Nat) (h0 : W m0 σ H) (hs : ∀ m σ H, W m σ H → c σ H fun b H1 => if b = true then ∃ N : L2.St → Hp → Prop, (∀ σ' H', N σ' H' → ∃ m', m' < m ∧ W m' σ' H') ∧ tb { D with nx := N, ct := N, bk := D.nx } σ H1 else D.nx σ H1) :
    Box (tWhile c tb D σ H) := ⟨W, ⟨m0, h0⟩, hs⟩
theorem whN {W : Nat → L2.St → Hp → Prop} {m : Nat} (h : tb { D with nx := fun σ' H' => Box (∃ m', m' < m ∧ W m' σ' H'), ct := fun σ' H' => Box (∃ m', m' < m ∧ W m' σ' H'), bk := D.nx } σ H) :
    ∃ N : L2.St → Hp → Prop, (∀ σ' H', N σ' H' → ∃ m', m' < m ∧ W m' σ' H') ∧ tb { D with nx := N, ct := N, bk := D.nx } σ H := ⟨_, fun _ _ h => h.out, h⟩
end
end Ow
namespace Ow
open PySem PySem.Spec PyProof.Rows L2
theorem if_t {b : Bool} {A B : Prop} (h : b = true) (k : A) : if b = true then A else B := by rw [if_pos h]; exact k
theorem if_f {b : Bool} {A B : Prop} (h : b = false) (k : B) : if b = true then A else B := by rw [if_neg (by rw [h]; exact Bool.false_ne_true)]; exact k
end Ow
namespace Ow
open PySem PySem.Spec PyProof.Rows L2
theorem dget_v {H : Hp} {a : Addr} {kvs : List (Key × V)} {k : Key} {v : V} (h : H a = some (.dK kvs)) (e : valV kvs k = some v) : DGet H a (kV k) (some v) := e ▸ DGet.k h
end Ow
namespace Ow
open PySem PySem.Spec PyProof.Rows L2
theorem kl {i : Int} : V.int i = kV (Sum.inl i) := rfl
theorem kr {z : Str} : V.str z = kV (Sum.inr z) := rfl
end Ow
namespace Ow
open PySem PySem.Spec PyProof.Rows L2
/-! ### lists of whole numbers, compared -/
section
variable {K : PySem.W.Frag} {H : Hp} {a b : Addr}
theorem dpa_ints : ∀ ns : List Int, DpAll K H (ns.map V.int) (ns.map PyData.int)
  | [] => .nil
  | n :: r => .cons (.int n) (dpa_ints r)
theorem dp_ints {ns : List Int} (h : H a = some (.lst (ns.map V.int))) : Dp K H (.ref a) (.list (ns.map PyData.int)) := .lst (SqL.of h) (dpa_ints ns)
theorem depth_ints : ∀ ns : List Int, PyData.depthAll (ns.map PyData.int) ≤ 1
  | [] => by simp [PyData.depthAll]
  | n :: r => by
    have := depth_ints r
    simp only [List.map_cons, PyData.depthAll, PyData.depth]
    omega
theorem lay_ints : ∀ ns : List Int, PyData.canLayAll0 (ns.map PyData.int) = true
  | [] => by simp [PyData.canLayAll0]
  | n :: r => by simp [PyData.canLayAll0, PyData.canLay0, lay_ints r]
theorem sh_ints (ns : List Int) : SeqAt.shaped (.list (ns.map PyData.int)) = true := by
  have h1 := depth_ints ns
  have h2 : PyData.depth (.list (ns.map PyData.int)) ≤ 64 := by
    simp only [PyData.depth]
    omega
  show (PyData.canLay0 (.list (ns.map PyData.int)) && decide (PyData.depth (.list (ns.map PyData.int)) ≤ 64)) = true
  rw [Bool.and_eq_true]
  exact ⟨by simp only [PyData.canLay0]; exact lay_ints ns, decide_eq_true h2⟩
theorem dist_ints : ∀ ns ms : List Int, PyData.eqvAll (ns.map PyData.int) (ms.map PyData.int) = decide (ns = ms)
  | [], [] => rfl
  | [], _ :: _ => rfl
  | _ :: _, [] => rfl
  | n :: r, m :: q => by
    rw [List.map_cons, List.map_cons, PyData.eqvAll, dist_ints r q]
    show ((n == m) && _) = _
    by_cases h : n = m
    · subst h; simp
    · rw [decide_eq_false (fun e => h (List.cons.inj e).1)]; simp [h]
theorem eqv_ints (ns ms : List Int) : PyData.eqv (.list (ns.map PyData.int)) (.list (ms.map PyData.int)) = decide (ns = ms) := dist_ints ns ms
/-- two rows of whole numbers, compared -/
theorem eq_ints {ns ms : List Int} {Q : VK} (ha : H a = some (.lst (ns.map V.int))) (hb : H b = some (.lst (ms.map V.int))) (k : Q (.bl (decide (ns = ms))) H) : rEqD K (.ref a) (.ref b) H Q :=
  ⟨_, _, dp_ints ha, dp_ints hb, sh_ints ns, sh_ints ms, by rw [eqv_ints]; exact k⟩
theorem ne_ints {ns ms : List Int} {Q : VK} (ha : H a = some (.lst (ns.map V.int))) (hb : H b = some (.lst (ms.map V.int))) (k : Q (.bl (!decide (ns = ms))) H) : rNeD K (.ref a) (.ref b) H Q :=
  ⟨_, _, dp_ints ha, dp_ints hb, sh_ints ns, sh_ints ms, by rw [eqv_ints]; exact k⟩
end
end Ow
namespace Ow
open PySem PySem.Spec PyProof.Rows L2
/-! ### the closers' own lemmas: head first -/
section
variable {K : PySem.W.Frag} {H0 H : Hp} {A : List Addr} {cs cs' : Cells} {a p : Addr} {o o' : HO} {xs : List V}
theorem Own.wr2 (O : Own H0 H A cs) (h : At cs a o o' cs') (n : isTup o = false) : Own H0 (upd H a o') A cs' := O.wr h n
theorem col_ex (h : H a = some (.lst xs)) : ∃ xs, SqL K H a xs := ⟨_, SqL.of h⟩
theorem col_ol {p : Prop} (h : H a = some (.lst xs)) : SqL K H a xs ∨ p := .inl (SqL.of h)
theorem col_or {p : Prop} (h : H a = some (.tup xs)) : p ∨ SqT K H a xs := .inr (SqT.of h)
theorem dget_ii {kvs : List (Key × V)} {i : Int} {v : V} (h : H a = some (.dK kvs)) (e : valV kvs (Sum.inl i) = some v) : DGet H a (.int i) (some v) := dget_v (k := Sum.inl i) h e
theorem dget_is {kvs : List (Key × V)} {i : Str} {v : V} (h : H a = some (.dK kvs)) (e : valV kvs (Sum.inr i) = some v) : DGet H a (.str i) (some v) := dget_v (k := Sum.inr i) h e
theorem dget_i {kvs : List (Key × V)} {i : Int} (h : H a = some (.dK kvs)) : DGet H a (.int i) (valV kvs (Sum.inl i)) := DGet.k (k := Sum.inl i) h
theorem dget_s {kvs : List (Key × V)} {i : Str} (h : H a = some (.dK kvs)) : DGet H a (.str i) (valV kvs (Sum.inr i)) := DGet.k (k := Sum.inr i) h
theorem dput_i {kvs : List (Key × V)} {i : Int} {v : V} (h : H a = some (.dK kvs)) (hl : kvs.length < 100000) : DPut H a (.int i) v (upd H a (.dK (putK kvs (Sum.inl i) v))) := DPut.k (k := Sum.inl i) h (sz_lt hl)
theorem dput_s {kvs : List (Key × V)} {i : Str} {v : V} (h : H a = some (.dK kvs)) (hl : kvs.length < 100000) : DPut H a (.str i) v (upd H a (.dK (putK kvs (Sum.inr i) v))) := DPut.k (k := Sum.inr i) h (sz_lt hl)
theorem isd_k {kvs : List (Key × V)} (h : H a = some (.dK kvs)) : IsD H a := Or.inl ⟨_, Or.inl h⟩
theorem wp_of {x y : List (Option V)} (h : x = y) : x = y := h
theorem ln_of {x y : Nat} (h : x = y) : x = y := h
theorem pos_of {m : Int} (h : 0 < m) : 0 < m := h
end
end Ow
namespace Ow
open PySem PySem.Spec PyProof.Rows L2
/-! ### items -/
theorem at_int {α : Type} {xs : List α} {n : Int} (h0 : 0 ≤ n) (h1 : n < (xs.length : Int)) : ∃ y, xs[n.toNat]? = some y ∧ atI xs n = some y := by
  have hj : n.toNat < xs.length := by omega
  refine ⟨xs[n.toNat], List.getElem?_eq_getElem hj, ?_⟩
  have := atI_nat (List.getElem?_eq_getElem hj)
  rwa [Int.toNat_of_nonneg h0] at this
theorem map_get {l : List Int} {i : Nat} {x : V} (h : (l.map V.int)[i]? = some x) : ∃ y, l[i]? = some y ∧ x = V.int y := by
  rw [List.getElem?_map] at h
  cases e : l[i]? with
  | none => rw [e] at h; cases h
  | some y => rw [e] at h; exact ⟨y, rfl, (Option.some.inj h).symm⟩
theorem at_ints {ns : List Int} {n : Int} (h0 : 0 ≤ n) (h1 : n < ((ns.map V.int).length : Int)) : ∃ y, ns[n.toNat]? = some y ∧ atI (ns.map V.int) n = some (V.int y) := by
  obtain ⟨y, h2, h3⟩ := at_int h0 h1
  obtain ⟨z, h4, rfl⟩ := map_get h2
  exact ⟨z, h4, h3⟩
end Ow
namespace Ow
open PySem PySem.Spec PyProof.Rows L2
theorem Own.fr0 {H0 H : Hp} {cs : Cells} {b : Addr} {o : HO} (O : Own H0 H [] cs) (h : H0 b = some o) : H b = some o := O.fr b o h (by simp)
/-! ### comprehensions -/
section
variable {K : PySem.W.Frag} {a : Addr} {xs : List V} {g : TG} {tt : TT} {te : TE} {vs : List Nat} {σ : L2.St} {H1 : Hp} {Q : Addr → Hp → Prop} {lo : Int} {n : Nat}
theorem lcR (Pv : Addr → Nat → Hp → Prop) (h0 : ∀ D, H1 D = none → Pv D 0 (upd H1 D (.lst [])))
    (hs : ∀ D i H, i < n → Pv D i H → g (.int (lo + i)) (wipe σ vs) H fun σ2 H2 => wipe σ2 vs = wipe σ vs ∧ tt σ2 H2 fun b H3 =>
      if b = true then te σ2 H3 fun y H4 => ∃ acc, H4 D = some (.lst acc) ∧ acc.length < sizeLine ∧ Box (Pv D (i + 1) (upd H4 D (.lst (acc ++ [y])))) else Box (Pv D (i + 1) H3)) (hd : ∀ D H, Pv D n H → Q D H) :
    Box (∀ D, H1 D = none → ∃ W : Nat → Nat → Hp → Prop, (∃ m, W 0 m (upd H1 D (.lst []))) ∧ ∀ i m H, W i m H →
      ((Itr lo n).stop i H ∧ Q D H) ∨ ((Itr lo n).go i H ∧ ∃ Nx : Hp → Prop, (∀ H', Nx H' → ∃ m', m' < m ∧ W (i + 1) m' H') ∧ ∀ x H', (Itr lo n).yld i H x H' → g x (wipe σ vs) H' fun σ2 H2 => wipe σ2 vs = wipe σ vs ∧ tt σ2 H2 fun b H3 =>
        if b = true then te σ2 H3 fun y H4 => ∃ acc, H4 D = some (.lst acc) ∧ acc.length < sizeLine ∧ Nx (upd H4 D (.lst (acc ++ [y]))) else Nx H3)) :=
  ⟨fun D hD => lc_range (fun i H => Box (Pv D i H)) ⟨h0 D hD⟩ (fun i H hi p => hs D i H hi p.out) (fun H p => hd D H p.out)⟩
theorem lcL (Pv : Addr → Nat → Hp → Prop) (h0 : ∀ D, H1 D = none → Pv D 0 (upd H1 D (.lst []))) (hl : ∀ D i H, i ≤ xs.length → Pv D i H → SqL K H a xs)
    (hs : ∀ D i x H, xs[i]? = some x → Pv D i H → g x (wipe σ vs) H fun σ2 H2 => wipe σ2 vs = wipe σ vs ∧ tt σ2 H2 fun b H3 =>
      if b = true then te σ2 H3 fun y H4 => ∃ acc, H4 D = some (.lst acc) ∧ acc.length < sizeLine ∧ Box (Pv D (i + 1) (upd H4 D (.lst (acc ++ [y])))) else Box (Pv D (i + 1) H3)) (hd : ∀ D H, Pv D xs.length H → Q D H) :
    Box (∀ D, H1 D = none → ∃ W : Nat → Nat → Hp → Prop, (∃ m, W 0 m (upd H1 D (.lst []))) ∧ ∀ i m H, W i m H →
      ((Itl K a).stop i H ∧ Q D H) ∨ ((Itl K a).go i H ∧ ∃ Nx : Hp → Prop, (∀ H', Nx H' → ∃ m', m' < m ∧ W (i + 1) m' H') ∧ ∀ x H', (Itl K a).yld i H x H' → g x (wipe σ vs) H' fun σ2 H2 => wipe σ2 vs = wipe σ vs ∧ tt σ2 H2 fun b H3 =>
        if b = true then te σ2 H3 fun y H4 => ∃ acc, H4 D = some (.lst acc) ∧ acc.length < sizeLine ∧ Nx (upd H4 D (.lst (acc ++ [y]))) else Nx H3)) :=
  ⟨fun D hD => lc_list (fun i H => Box (Pv D i H)) ⟨h0 D hD⟩ (fun i H hi p => hl D i H hi p.out) (fun i x H hx p => hs D i x H hx p.out) (fun H p => hd D H p.out)⟩
theorem lcT (Pv : Addr → Nat → Hp → Prop) (h0 : ∀ D, H1 D = none → Pv D 0 (upd H1 D (.lst []))) (hl : ∀ D i H, i ≤ xs.length → Pv D i H → SqT K H a xs)
    (hs : ∀ D i x H, xs[i]? = some x → Pv D i H → g x (wipe σ vs) H fun σ2 H2 => wipe σ2 vs = wipe σ vs ∧ tt σ2 H2 fun b H3 =>
      if b = true then te σ2 H3 fun y H4 => ∃ acc, H4 D = some (.lst acc) ∧ acc.length < sizeLine ∧ Box (Pv D (i + 1) (upd H4 D (.lst (acc ++ [y])))) else Box (Pv D (i + 1) H3)) (hd : ∀ D H, Pv D xs.length H → Q D H) :
    Box (∀ D, H1 D = none → ∃ W : Nat → Nat → Hp → Prop, (∃ m, W 0 m (upd H1 D (.lst []))) ∧ ∀ i m H, W i m H →
      ((Itt K a).stop i H ∧ Q D H) ∨ ((Itt K a).go i H ∧ ∃ Nx : Hp → Prop, (∀ H', Nx H' → ∃ m', m' < m ∧ W (i + 1) m' H') ∧ ∀ x H', (Itt K a).yld i H x H' → g x (wipe σ vs) H' fun σ2 H2 => wipe σ2 vs = wipe σ vs ∧ tt σ2 H2 fun b H3 =>
        if b = true then te σ2 H3 fun y H4 => ∃ acc, H4 D = some (.lst acc) ∧ acc.length < sizeLine ∧ Nx (upd H4 D (.lst (acc ++ [y]))) else Nx H3)) :=
  ⟨fun D hD => lc_tup (fun i H => Box (Pv D i H)) ⟨h0 D hD⟩ (fun i H hi p => hl D i H hi p.out) (fun i x H hx p => hs D i x H hx p.out) (fun H p => hd D H p.out)⟩
end
end Ow
namespace Ow
open PySem PySem.Spec PyProof.Rows L2
theorem cutV_sub (xs : List V) (lo hi : Option Int) {x : V} (h : x ∈ cutV xs lo hi) : x ∈ xs := List.mem_of_mem_drop (List.mem_of_mem_take h)
theorem cut_ints {xs : List Int} {lo hi : Option Int} {i : Nat} {x : V} (h : (cutV (xs.map V.int) lo hi)[i]? = some x) : ∃ y, x = V.int y := by
  obtain ⟨y, _, e⟩ := List.mem_map.mp (cutV_sub _ _ _ (List.mem_of_getElem? h))
  exact ⟨y, e.symm⟩
theorem cutV_take (xs : List V) (n : Nat) : (cutV xs none (some (n : Int))).length ≤ n := by
  unfold cutV
  rw [List.length_take]
  have : HT.sIx xs.length xs.length (some (n : Int)) ≤ n := by
    rw [HT.sIx_nat]
    omega
  omega
end Ow
namespace Ow
open PySem PySem.Spec PyProof.Rows L2
/-! ### where two ways meet -/
theorem cutT {c : TT} {σ : L2.St} {H : Hp} {post : Bool → Hp → Prop} (R : Bool → Hp → Prop) (h : ∀ post' : Bool → Hp → Prop, (∀ b H', R b H' → post' b H') → c σ H post') (k : ∀ b H', R b H' → post b H') : c σ H post := h post k
theorem cutI {c : TT} {a b : TS} {D : Ends} {σ : L2.St} {H : Hp} (R : Bool → Hp → Prop) (h : ∀ post' : Bool → Hp → Prop, (∀ b H', R b H' → post' b H') → c σ H post') (k : ∀ bb H', R bb H' → if bb = true then a D σ H' else b D σ H') : tIfS c a b D σ H := h _ k
theorem cutS {t : TS} {D : Ends} {σ : L2.St} {H : Hp} (R : L2.St → Hp → Prop) (h : ∀ nx' : L2.St → Hp → Prop, (∀ σ' H', R σ' H' → nx' σ' H') → t { D with nx := nx' } σ H) (k : ∀ σ' H', R σ' H' → D.nx σ' H') : Box (t D σ H) := ⟨h D.nx k⟩
end Ow
namespace Ow
open L2 in
theorem rg_mk {lo hi c : Int} (n : Nat) (h : (c ≠ 0 ∧ c.natAbs < 1073741824 ∧ PySem.Builtin.Range.small lo hi c = true ∧ PySem.Builtin.Range.rangeSize lo hi c = n) := by decide +kernel) : RgC lo hi c n := h
open L2 in
theorem Own.self {H0 H : Hp} {A : List PySem.Addr} {cs : Cells} (O : Own H0 H A cs) : Own H H (Ow.adr cs) cs := O.blk (s' := []) (cs' := []) .all
end Ow
namespace Ow
open L2 in
/-- behind a call that was handed nothing -/
theorem Own.callN {H0 H H' : Hp} {A : List PySem.Addr} {cs s' : Cells} (O : Own H0 H A cs) (C : Own H H' [] s') : Own H0 H' A (s' ++ cs) := O.call (s := []) .nil C
end Ow
namespace Ow
open PySem PySem.Spec PyProof.Rows L2
/-! ### what stands outside: the script -/
section
variable {K : PySem.W.Frag} {H0 H : Hp} {A : List Addr} {cs : Cells} {a : Addr} {xs : List V}
theorem Own.sq (O : Own H0 H [] cs) (h : SqL K H0 a xs) : SqL K H a xs := by
  rcases h with (h | ⟨o, h⟩) | h
  · exact .inl (.inl (O.fr0 h))
  · exact .inl (.inr ⟨o, O.fr0 h⟩)
  · exact .inr h
theorem Own.sqT (O : Own H0 H A cs) (h : SqT K H0 a xs) (hf : ∀ o, H0 a = some (.frz o (.tup xs)) → a ∉ A) : SqT K H a xs := by
  rcases h with (h | ⟨o, h⟩) | h
  · exact .inl (.inl (O.tup h))
  · exact .inl (.inr ⟨o, O.fr _ _ h (hf o h)⟩)
  · exact .inr h
theorem col_ex2 (h : SqL K H a xs) : ∃ xs, SqL K H a xs := ⟨_, h⟩
theorem col_ol2 {p : Prop} (h : SqL K H a xs) : SqL K H a xs ∨ p := .inl h
theorem col_or2 {p : Prop} (h : SqT K H a xs) : p ∨ SqT K H a xs := .inr h
end
end Ow
namespace Ow
open PySem PySem.Spec PyProof.Rows L2
/-! ### the end -/
theorem cx_no {P : Program} {w : World} {H : Hp} {s : Shared} {e : Value} {s' : Shared} (h : L2.CX P w [] H s (fun _ _ _ => False) e s') : False := by
  obtain ⟨_, _, _, _, _, _, _, _, _, _, _, _, h⟩ := h
  exact h
theorem walk_end {l : PySem.W.OpenLaw} {n k : Nat} {q : Program} {loose : List Str} {XP : (Str → Option Value) → Heap → Prop} {YP : World → Heap → Prop} {d : DefRec} {x : Str}
    (hn : l.most = some n) (hn2 : n ≤ sizeLine) (hdf : d.params.defaults = []) (hr : Room k callerA)
    (F : ∀ (w : World) (mg : Str → Option Value) (fa : Addr) (h : Heap), YP w h → h.Ns mainGlobals mg → mg d.name = some (.ref fa) →
      ∃ (K : PySem.W.Frag) (fd : FuncData) (sp : Sp), K.In h ∧ (∀ (s : Shared) (u : Value), BindsTo s fd ⟨[u], []⟩ [(x, u)]) ∧
        (∀ (H : Hp) (a : Addr) (ns : List Int), ns.length ≤ n → (∀ z ∈ ns, Builtin.Int.intBits z ≤ 1048576) → SqL K H a (ns.map V.int) → sp [.ref a] H (fun v _ => v = .bl true) fun _ _ _ => False) ∧
        ∀ base : Heap, K.In base → base.Ns mainGlobals mg → FnOk l.prog w K mg base (L2.CX l.prog w) k fa fd [x] sp) :
    PySem.W.WalkO q loose XP YP l.row.toRowW d [] (fun f vs => PySem.call f vs) := by
  refine Att.attach_callB hn hdf fun w s₀ s₁ mg mb fa o pm cd doc a vs ns G Y ho hd hcd hmg hobj hints hlen hbits hg => ?_
  obtain ⟨K, fd, sp, KX, hb, hsp, hF⟩ := F w mg fa _ Y G.T.g hmg
  exact law_call KX G.T.g G.T.b G.T.builtins G.T.nolimit hg hobj hints (Nat.le_trans hlen hn2) hr hF hb (fun H _ hS => hsp H a ns hlen hbits hS) fun _ _ _ h => cx_no h
theorem fn_of {P : Program} {w : World} {K : PySem.W.Frag} {mg : Str → Option Value} {base : Heap} {x qual : Str} {params : Arguments} {body : List Stmt} {scope : Scope} {f : Addr} {fd : FuncData} {N ps : List Str} {k : Nat} {sp : Sp} (F : FunD K x qual params body scope [] [] f fd) (S : FnScope N ps scope)
    (len : ∀ vs H Q E, sp vs H Q E → vs.length = ps.length)
    (hbody : ∀ (cdv : Value) (A : Around) (outer : List Env) (s : Shared) (H : Hp) (vs : List V) (Q : VK) (E : XK), Room k (A.deeper (envOfC qual scope s.heap.objs.size f cdv)) → sp vs H Q E →
      ∃ t, PSs (cxOf (L2.CX P w) P w K mg base N qual scope f cdv A outer s H E) body t ∧ t { nx := fun _ H' => Q .non H', rt := Q } (start N vs) H) : FnOk P w K mg base (L2.CX P w) (k + 1) f fd ps (bx sp) :=
  FunD.ok F S (fun vs H Q E h => len vs H Q E h.out) (fun cdv A outer s H vs Q E hr h => hbody cdv A outer s H vs Q E hr h.out)
end Ow
namespace Ow
open PySem PySem.Spec PyProof.Rows L2
/-! ### an exception that is held: known, in the suite and beyond it -/
/-- an exception object at a, of the class cls, its dict d -/
def CxO (cls : Value) (d : Option Addr) (a : Addr) : HO := .ext fun h => ∃ (o : Obj) (vs : Array Value), h.get? a = some o ∧ Zc cls d o ∧ o.data = .fields vs
section
variable {X : Cx} {pins : List (Addr × Obj)} {σ : L2.St} {H : Hp} {s : Shared} {a : Addr} {cls : Value} {d : Option Addr} {o : Obj} {vs : Array Value}
theorem hold_ok (I : Inv X pins σ H s) (e : s.heap.get? a = some o) (z : Zc cls d o) (dt : o.data = .fields vs) (na : H a = none) (n0 : X.s_0.heap.get? a = none) (nL : a ≠ X.env.locals) (np : ∀ p ∈ X.pn ++ pins, p.1 ≠ a) :
    Inv X pins σ (upd H a (CxO cls d a)) s := by
  have sk : ∀ {b : Addr} {u : HO}, H b = some u → upd H a (CxO cls d a) b = some u := fun {b u} q => by
    rw [upd_ne (fun w => by rw [w, na] at q; cases q)]
    exact q
  have nk : ∀ {b : Addr}, b ≠ a → H b = none → upd H a (CxO cls d a) b = none := fun {b} q r => by
    rw [upd_ne q]
    exact r
  refine ⟨I.ok, I.os, I.bare, ⟨I.base.keep, I.base.slot, fun b u q1 q2 q3 => nk (fun w => by rw [w, n0] at q1; cases q1) (I.base.free b u q1 q2 q3), I.base.there, fun b xs q => sk (I.base.tups b xs q), fun b o' u q => sk (I.base.frzs b o' u q), fun b ps q => ?_⟩, I.loc, I.cell, nk (Ne.symm nL) I.free, fun x c q => nk (fun w => ?_) (I.freeC x c q), fun p hp => ?_, HOk.laidN I.hok (fun _ _ w => w) na ⟨⟨o, vs, e, z, dt⟩, ⟨o, e⟩, fun _ _ ⟨o2, v2, q, r⟩ k => ⟨o2, v2, k o2 q, r⟩⟩, I.len⟩
  · obtain ⟨m, r⟩ := I.base.tbls b ps q
    exact ⟨m, sk r⟩
  · subst w
    obtain ⟨v, oc, ho, hd⟩ := I.cell x c q
    rw [e] at ho
    cases ho
    rw [dt] at hd
    cases hd
  · obtain ⟨p1, p2, p3, p4, p5⟩ := I.pin p hp
    exact ⟨p1, nk (np p hp) p2, p3, p4, p5⟩
theorem suite_in {b : Addr} (I : Inv X pins σ H s) : Inv (X.suite b (X.pn ++ pins)) [] σ H s :=
  ⟨I.ok.suite _ _, I.os, I.bare, I.base, I.loc, I.cell, I.free, I.freeC, fun p hp => I.pin p ((List.append_nil (X.pn ++ pins)) ▸ hp), I.hok, I.len⟩
theorem suite_out {b : Addr} (I : Inv (X.suite b (X.pn ++ pins)) [] σ H s) (ok : X.Ok) : Inv X pins σ H s :=
  ⟨ok, I.os, I.bare, I.base, I.loc, I.cell, I.free, I.freeC, fun p hp => I.pin p ((List.append_nil (X.pn ++ pins)).symm ▸ hp), I.hok, I.len⟩
end
/-- the wish of a try whose suite may keep the exception -/
def wHold (K : PySem.W.Frag) (c : Value) (i : Nat) (ts : TS) (Wout : WX) (D : Ends) : WX := fun cls d σ H =>
  ∃ b, PySem.W.exmOne K cls c = some b ∧ (b = true → ∀ a, H a = none → ts { nx := fun τ G => D.nx (τ.set i none) G, rt := D.rt, bk := fun τ G => D.bk (τ.set i none) G, ct := fun τ G => D.ct (τ.set i none) G } (σ.set i (some (.ref a))) (upd H a (CxO cls d a))) ∧ (b = false → Wout cls d σ H)
section
variable {X : Cx} {x n : Str} {c : Value} {i : Nat} {body suite : List Stmt} {b₀ : Stmt} {np pos pos' : Pos} {tb : WX → TS} {ts : TS} {Wout : WX}
theorem ps_tryX (hs : X.stack = X.env :: X.outer) (hf : X.env.frame = some X.env.locals) (hx : X.ex = []) (hN : X.N.Nodup) (hi : X.N[i]? = some n) (hln : X.env.kindOf n = some .local) (hc : Names X x c) (tk : Takes X Wout)
    (hb : ∀ (W : WX) (pn : List (Addr × Obj)) (xe : Value → Shared → Prop), Takes (X.tr pn xe) W → PassesOwn (model X.prog X.w) X.A X.env xe → PSs (X.tr pn xe) body (tb W))
    (hsu : ∀ (a : Addr) (pn : List (Addr × Obj)), PSs (X.suite a pn) (b₀ :: suite) ts) :
    PS X (.Try body [.ExceptHandler (some (.Name x np)) (some n) (b₀ :: suite) pos'] [] [] pos) (fun D σ H => tb (wHold X.K c i ts Wout D) D σ H) := by
  refine ⟨fun pins s σ H D I hyp => ?_⟩
  have okX := I.ok
  have frames : X.A.frames = some (X.env :: X.outer) := by rw [okX.frames, hs]
  refine wpAny_Try_except ?_
  refine wpAny_mono ((hb (wHold X.K c i ts Wout D) (X.pn ++ pins) (fun ev sA => wpAny (model X.prog X.w) X.A (noteFrame ev X.env) (fun _ sB => wpAny (model X.prog X.w) X.A (setFlight ev none) (fun _ sC =>
    wpAny (model X.prog X.w) X.A (handleBy ev X.env [.ExceptHandler (some (.Name x np)) (some n) (b₀ :: suite) pos']) (SP X pins D) X.xe sC) X.xe sB) X.xe sA) (fun u sE flies => ?_) PassesOwn.looking).run [] s σ H D (I.toTry _) hyp) (fun fl sN ends => ?_) (fun ev sA left => left)
  · obtain ⟨a, B, sI, pins1, τ, G, cls, d, rfl, JT, nb, upS, skyS, na, os, ag, b, hm, yes, no⟩ := flies
    have JX : Inv X pins τ G sI := JT.ofTry okX
    have skyX : Sky B (X.env :: X.outer) a (Zc cls d) X.env.locals sE.heap := by rw [← hs]; exact skyS
    have nB : B.get? a = none := by
      rcases skyS with w | w | w
      · exact w.2.1
      · exact w.2.1
      · exact w.2.1
    show wpAny (model X.prog X.w) X.A (noteFrame (.ref a) X.env) _ _ _
    refine Sky.land Zc.steady frames hf skyX fun g3 fl3 up3 => ?_
    have J3 : Inv X pins τ G { sE with heap := g3 } := JX.landed nb fl3.1 (upS.trans up3) os ag
    obtain ⟨q3, w3, at3, z3, dt3⟩ := fl3.there
    have outside : a ∉ frs (X.env :: X.outer) := fun hm => by
      obtain ⟨_, o', e', hnf⟩ := fl3.2.2.1.mem hm
      rw [at3] at e'
      cases e'
      exact hnf _ dt3
    have nL : a ≠ X.env.locals := fun z => outside (List.mem_filterMap.mpr ⟨X.env, .head _, by rw [hf, z]⟩)
    have nF : a ∉ X.fs := fun hm => by
      obtain ⟨ev, he, q⟩ := List.mem_filterMap.mp hm
      exact outside (List.mem_filterMap.mpr ⟨ev, .tail _ he, q⟩)
    have below : ∀ {u : Addr} {ob : Obj}, sI.heap.get? u = some ob → u ∉ frs (X.env :: X.outer) → u ≠ a := fun {u ob} q r w => by
      have k := nb u ob q (by rw [hs]; exact r)
      rw [w, nB] at k
      cases k
    have new0 : X.s_0.heap.get? a = none := by
      cases q : X.s_0.heap.get? a with
      | none => rfl
      | some ob =>
        obtain ⟨ob2, r⟩ := JX.base.there a ob q (by rw [hx]; exact fun w => nomatch w)
        exact absurd rfl (below r outside)
    have unpinned : ∀ p ∈ X.pn ++ pins, p.1 ≠ a := fun p hp => by
      obtain ⟨p1, _, p3, p4, _⟩ := JX.pin p hp
      refine below p1 fun hm => ?_
      obtain ⟨ev, he, q⟩ := List.mem_filterMap.mp hm
      rcases List.mem_cons.mp he with w | w
      · rw [w, hf] at q
        exact p3 (Option.some.inj q).symm
      · exact p4 (List.mem_filterMap.mpr ⟨ev, w, q⟩)
    have S3 := J3.suite at3 dt3 na nL nF
    refine wpAny_handleBy_cons (codeAny_handlers_test ?_) (by intro w; cases w)
    have kind : PySem.W.Looks (model X.prog X.w) g3 (typeOf (.ref a)) cls := fun A Q E t k w => wpAny_typeOf_ref (k _ _ at3) (by rw [z3.1]; exact w)
    have match_ := PySem.W.exm_one (M := model X.prog X.w) (J3.kIn) kind hm
    have named : ∀ {Q E : Value → Shared → Prop}, Q c { sE with heap := g3 } → wpAny (model X.prog X.w) (X.A.mark (some (.ref a))) (eval (.Name x np) X.env) Q E { sE with heap := g3 } := fun {Q E} w => by
      obtain ⟨hg, hdbg, m1 | ⟨m1, m2, m3⟩⟩ := hc
      · exact ld_glob (X := X.suite a ((a, q3) :: (X.pn ++ pins))) S3 hg m1 w hdbg
      · exact ld_blt (X := X.suite a ((a, q3) :: (X.pn ++ pins))) S3 hg m1 m2 w m3 hdbg
    refine named (match_.here ?_)
    cases b with
    | true =>
      refine codeAny_handlers_suite_as ?_
      refine HandSPX.lands_againZ fl3 fun g4 fl4 up4 => ?_
      have J4 : Inv X pins τ G { sE with heap := g4 } := JX.landed nb fl4.1 ((upS.trans up3).trans up4) os ag
      obtain ⟨q4, w4, at4, z4, dt4⟩ := fl4.there
      have S4 := suite_in (b := a) (hold_ok J4 at4 z4 dt4 na new0 nL unpinned)
      refine store_ok (X := X.suite a (X.pn ++ pins)) (v := .ref a) S4 hN hi (.inl hln) rfl (fun s5 S5 => ?_) (.inr hln)
      refine wpAny_mono ((hsu a (X.pn ++ pins)).run [] s5 _ _ _ S5 (yes rfl a na)) (fun fl s6 ends => ?_) (fun _ _ w => False.elim w)
      have off : ∀ {τ6 : L2.St} {G6 : Hp} {Q : Shared → Prop}, Inv (X.suite a (X.pn ++ pins)) [] τ6 G6 s6 → (∀ s7, Inv X pins (τ6.set i none) G6 s7 → Q s7) →
          wpAny (model X.prog X.w) X.A (do bindName X.env n .none; unbindBehindTheSuite X.env n pos') (fun _ s7 => Q s7) X.xe s6 := fun {τ6 G6 Q} S6 w => gone_ok (suite_out S6 okX) hN hi hln w
      cases fl with
      | next =>
        obtain ⟨_, _, S6, r⟩ := ends
        exact off S6 fun _ J7 => ⟨_, _, J7, r⟩
      | brk =>
        obtain ⟨_, _, S6, r⟩ := ends
        exact off S6 fun _ J7 => ⟨_, _, J7, r⟩
      | cont =>
        obtain ⟨_, _, S6, r⟩ := ends
        exact off S6 fun _ J7 => ⟨_, _, J7, r⟩
      | ret u =>
        obtain ⟨_, _, _, S6, r1, r2⟩ := ends
        exact off S6 fun _ J7 => ⟨_, _, _, J7, r1, r2⟩
    | false =>
      show wpAny _ X.A (handleBy (.ref a) X.env []) _ _ _
      refine wpAny_handleBy_nil ?_
      obtain ⟨_, _, _, ob, ws, T, oT, tr, hob, hzb, hdb, hfb, hrb⟩ := id fl3
      unfold PySem.passOn
      refine wpAny_bind (wpAny_field hob hdb hfb ?_)
      rw [if_neg (show ¬ ((Value.ref T == Value.none) = true) by simp)]
      have out : wpAny (model X.prog X.w) X.A (setFlight (.ref a) X.env.frame) (fun _ t4 => wpAny (model X.prog X.w) X.A (throw (.ref a) : Sem Flow) (SP X pins D) X.xe t4) X.xe { sE with heap := g3 } := by
        rw [hf]
        refine HandSPX.setFlight_upZ fl3 fun g4 in4 up4 => wpAny_throw (tk _ _ ?_)
        exact ⟨a, B, sI, pins, τ, G, cls, d, rfl, JX, nb, (upS.trans up3).trans up4, .inr (.inr (by rw [hs]; exact in4)), na, os, ag, no rfl⟩
      first
        | exact wpAny_bind (wpAny_pure (wpAny_bind out))
        | exact wpAny_bind out
  · cases fl with
    | next =>
      obtain ⟨τ, G, JT, r⟩ := ends
      exact wpAny_execs_nil ⟨τ, G, JT.ofTry okX, r⟩
    | brk =>
      obtain ⟨τ, G, JT, r⟩ := ends
      exact ⟨τ, G, JT.ofTry okX, r⟩
    | cont =>
      obtain ⟨τ, G, JT, r⟩ := ends
      exact ⟨τ, G, JT.ofTry okX, r⟩
    | ret u =>
      obtain ⟨v, τ, G, JT, r1, r2⟩ := ends
      exact ⟨v, τ, G, JT.ofTry okX, r1, r2⟩
/-- isinstance(e, c), e a held exception -/
def rIsX (K : PySem.W.Frag) : List V → Hp → VK → Prop := fun xs H Q => ∃ (a D : Addr) (c : V) (cv : Value) (b : Bool), xs = [.ref a, c] ∧ H a = some (CxO (.ref D) none a) ∧ ExcC K D ∧ ClsV c cv ∧ PySem.W.kitOne K (.ref D) cv = some b ∧ Q (.bl b) H
theorem call_isX : CallR X (.builtin "isinstance") (rIsX X.K) := by
  intro pins s σ H xs us Q I r h
  obtain ⟨a, D, cl, cv, b, rfl, ha, C, only, says, q⟩ := h
  cases r with
  | cons rx rr =>
    cases rr with
    | cons rt rr =>
      cases rr
      cases rx
      have ec := only.eq rt
      subst ec
      obtain ⟨⟨ob, vs, at_, z, dt⟩, _, _⟩ := I.hok a _ ha
      have J : PySem.W.InstAt s.heap a ob D none := by
        obtain ⟨oc, od, oda, osl⟩ := ob
        obtain ⟨h1, h2⟩ := z
        dsimp only at h1 h2 dt
        subst h1 h2 dt
        exact ⟨at_, rfl, rfl, trivial⟩
      refine PySem.W.kia_one (PySem.W.handS_kitx_exc C.hg C.hk C.hs C.hd C.ha C.hn C.ht C.hm) I.kIn J says (fun w => nomatch w) fun tk => ?_
      exact ⟨.bl b, H, I.kept (t' := tk) fun _ _ w => w, rfl, q⟩
end
end Ow
namespace Ow
open PySem PySem.Spec PyProof.Rows L2
/-- xs[i], where it is read to be put anew -/
theorem get_list {X : Cx} : PGet X (rIxL X.K) := by
  intro pins s σ H o i ov iv Q I ro ri h
  obtain ⟨p, xs, k, z, rfl, rfl, hq, he, q⟩ := h
  cases ro
  obtain ⟨t, rfl⟩ := ri
  obtain ⟨its, r, pl, hz⟩ := I.list hq
  obtain ⟨j, h1, h2, h3, h4, h5⟩ := atI_get he
  obtain ⟨w, ew, rw'⟩ := r.get h2
  have lenX := r.length
  have wide := line63
  have done : EP X pins σ Q w s := ⟨z, H, I, rw', q⟩
  by_cases h0 : 0 ≤ k
  · have hk : k.toNat = j := by
      rw [seqIndex_of h0 h5] at h1
      exact Option.some.inj h1
    exact wpAny_getItem_list pl.isList h0 (by omega) (by rw [hk]; simpa using ew) done
  · have hk : (k + (its.toArray.size : Int)).toNat = j := by
      rw [seqIndex_neg (by omega) h4] at h1
      rw [List.size_toArray, ← lenX]
      exact Option.some.inj h1
    exact wpAny_getItem_list_neg pl.isList (by omega) (by rw [List.size_toArray] <;> omega) (by omega) (by rw [hk]; simpa using ew) done
end Ow
namespace Ow
open PySem PySem.Spec PyProof.Rows L2
/-! ### facts of exceptions, by one look -/
def excB (K : PySem.W.Frag) (D : Addr) : Bool := [PySem.W.findIn K (.ref D) "__getattribute__" == some (some (.builtin "BaseException.__getattribute__")), PySem.W.findIn K (.ref D) "__getattr__" == some none, PySem.W.subIn K (.ref D) (.type "BaseException") == some true, PySem.W.hasDictIn K D,
  PySem.W.findIn K (.ref D) "__class__" == some (some (.builtin "object.__class__")), PySem.W.specialIn K (.builtin "object.__class__") "__get__" == some (some (.builtin "getset_descriptor.__get__")), PySem.W.takesIn K (.builtin "object.__class__") == some true, PySem.W.mroIn K D (.type "object") == some true].all id
theorem all_at {l : List Bool} (h : l.all id = true) (k : Nat) {b : Bool} (e : l[k]? = some b) : b = true := List.all_eq_true.mp h b (List.mem_of_getElem? e)
theorem excB_ok {K : PySem.W.Frag} {D : Addr} (h : excB K D = true) : ExcC K D :=
  ⟨eq_of_beq (all_at h 0 rfl), eq_of_beq (all_at h 1 rfl), eq_of_beq (all_at h 2 rfl), all_at h 3 rfl, eq_of_beq (all_at h 4 rfl), eq_of_beq (all_at h 5 rfl), eq_of_beq (all_at h 6 rfl), eq_of_beq (all_at h 7 rfl)⟩
end Ow
namespace Ow
open PySem PySem.Spec PyProof.Rows L2
/-! ### rows of flat things -/
theorem fl_of {v : V} (h : flatV v = true) : flatV v = true := h
theorem all_flat (ns : List Int) : (ns.map V.int).all flatV = true := List.all_eq_true.mpr fun x hx => by
  obtain ⟨y, _, rfl⟩ := List.mem_map.mp hx
  rfl
theorem all_flatS (ns : List Str) : (ns.map V.str).all flatV = true := List.all_eq_true.mpr fun x hx => by
  obtain ⟨y, _, rfl⟩ := List.mem_map.mp hx
  rfl
theorem eqV_int (i j : Int) : eqV (.int i) (.int j) = decide (i = j) := by
  show (i == j) = _
  by_cases h : i = j
  · rw [decide_eq_true h, h]; simp
  · rw [decide_eq_false h]; simp [h]
theorem inV_ints (i : Int) (ns : List Int) : inV (.int i) (ns.map V.int) = decide (i ∈ ns) := by
  unfold inV
  rw [List.any_map]
  by_cases h : i ∈ ns
  · rw [decide_eq_true h]
    exact List.any_eq_true.mpr ⟨i, h, by show eqV (.int i) (.int i) = true; rw [eqV_int]; simp⟩
  · rw [decide_eq_false h]
    refine List.any_eq_false.mpr fun x hx => ?_
    show ¬ eqV (.int x) (.int i) = true
    rw [eqV_int]
    intro z
    exact h (of_decide_eq_true z ▸ hx)
theorem rep_flat (n : Nat) (v : V) : (List.replicate ((n : Nat) : Int).toNat [v]).flatten = List.replicate n v := by
  rw [Int.toNat_natCast]
  induction n with
  | zero => rfl
  | succ n ih => rw [List.replicate_succ, List.flatten_cons, ih]; rfl
theorem rep_map {α : Type} (f : α → V) (n : Nat) (a : α) : List.replicate n (f a) = (List.replicate n a).map f := (List.map_replicate).symm
end Ow
namespace Ow
open PySem PySem.Spec PyProof.Rows L2
theorem set_split {α : Type} {cs : List α} {i : Nat} {x y : α} (h : cs[i]? = some x) : cs.set i y = cs.take i ++ y :: cs.drop (i + 1) := by
  have h1 := (List.getElem?_eq_some_iff.mp h).1
  rw [List.set_eq_take_append_cons_drop, if_pos h1]
theorem at_split {α : Type} {cs : List α} {i : Nat} {x : α} (h : cs[i]? = some x) : cs = cs.take i ++ x :: cs.drop (i + 1) := by
  obtain ⟨h1, rfl⟩ := List.getElem?_eq_some_iff.mp h
  rw [List.getElem_cons_drop h1, List.take_append_drop]
theorem set_map {α β : Type} (f : α → β) : ∀ (l : List α) (i : Nat) (a : α), (l.map f).set i (f a) = (l.set i a).map f
  | [], _, _ => rfl
  | _ :: _, 0, _ => rfl
  | x :: r, i + 1, a => by rw [List.map_cons, List.set_cons_succ, List.set_cons_succ, List.map_cons, set_map f r i a]
theorem ix_at {n i : Nat} (h : i < n) : ixN n (i : Int) = some i := by
  unfold ixN
  rw [if_pos (by omega), if_pos (by omega), Int.toNat_natCast]
/-- a thing of a row is put anew: its old cell is let go -/
theorem Own.put {α : Type} {H0 H : Hp} {A : List Addr} {pre : Cells} {l : List α} {g : α → Addr × HO} {b y : α} {j : Nat} (O : Own H0 H A (g b :: (pre ++ l.map g))) (h : l[j]? = some y) : Own H0 H A (pre ++ (l.set j b).map g) := by
  have e := at_split h
  have O1 : Own H0 H A (g b :: (pre ++ ((l.take j).map g ++ (l.drop (j + 1)).map g))) := O.drop (by
    conv => rhs; rw [e, List.map_append, List.map_cons]
    exact .cons₂ _ (.append (.refl _) (.append (.refl _) (.cons _ (.refl _)))))
  rw [set_split h, List.map_append, List.map_cons]
  refine O1.perm ?_
  rw [← List.append_assoc, ← List.append_assoc]
  exact List.perm_middle.symm
end Ow
namespace Ow
open PySem PySem.Spec PyProof.Rows L2
theorem take_succ {α : Type} {l : List α} {i : Nat} {y : α} (h : l[i]? = some y) : l.take (i + 1) = l.take i ++ [y] := by
  rw [List.take_succ, h]; rfl
theorem sorted_ext : ∀ {l k : List Int}, l.Pairwise (· < ·) → k.Pairwise (· < ·) → (∀ m, m ∈ l ↔ m ∈ k) → l = k
  | [], [], _, _, _ => rfl
  | [], y :: k, _, _, h => absurd ((h y).mpr List.mem_cons_self) (by simp)
  | x :: l, [], _, _, h => absurd ((h x).mp List.mem_cons_self) (by simp)
  | x :: l, y :: k, h1, h2, h => by
    obtain ⟨a1, a2⟩ := List.pairwise_cons.mp h1
    obtain ⟨b1, b2⟩ := List.pairwise_cons.mp h2
    have e : x = y := by
      rcases List.mem_cons.mp ((h x).mp List.mem_cons_self) with z | z
      · exact z
      · rcases List.mem_cons.mp ((h y).mpr List.mem_cons_self) with w | w
        · exact w.symm
        · have := b1 _ z
          have := a1 _ w
          omega
    subst e
    rw [sorted_ext a2 b2 fun m => ⟨fun hm => ?_, fun hm => ?_⟩]
    · rcases List.mem_cons.mp ((h m).mp (List.mem_cons_of_mem _ hm)) with z | z
      · have := a1 _ hm; omega
      · exact z
    · rcases List.mem_cons.mp ((h m).mpr (List.mem_cons_of_mem _ hm)) with z | z
      · have := b1 _ hm; omega
      · exact z
end Ow
namespace Ow
open L2 in
/-- behind a call: what it has made stands ahead -/
theorem Own.callE {H0 H H' : Hp} {A : List PySem.Addr} {cs s s' cs' e : Cells} (O : Own H0 H A cs) (h : Sub cs s s' cs') (C : Own H H' (Ow.adr s) (e ++ s')) : Own H0 H' A (e ++ cs') := by
  obtain ⟨l, r, rfl, rfl⟩ := h.split
  have O1 := O.call (cs' := l ++ ((e ++ s') ++ r)) (.app .here) C
  refine O1.perm ?_
  have e1 : l ++ ((e ++ s') ++ r) = (l ++ e) ++ (s' ++ r) := by simp only [List.append_assoc]
  have e2 : e ++ (l ++ (s' ++ r)) = (e ++ l) ++ (s' ++ r) := by simp only [List.append_assoc]
  rw [e1, e2]
  exact (List.perm_append_comm).append_right _
end Ow
namespace Ow
open PySem PySem.Spec PyProof.Rows L2
/-- a new thing, as the goal names it: it is ours from now on -/
theorem Own.nxt {H0 H : Hp} {A : List Addr} {cs : Cells} {p : Addr} {o : HO} {G : Hp → Prop} (O : Own H0 H A cs) (h : H p = none) (k : Own H0 (upd H p o) A ((p, o) :: cs) → G (upd H p o)) : G (upd H p o) := k (O.new h)
theorem Own.nxtQ {H0 H : Hp} {A : List Addr} {cs : Cells} {p : Addr} {o : HO} {Q : VK} {G : Hp → VK → Prop} (O : Own H0 H A cs) (h : H p = none) (k : Own H0 (upd H p o) A ((p, o) :: cs) → G (upd H p o) Q) : G (upd H p o) Q := k (O.new h)
end Ow
namespace Ow
open PySem PySem.Spec PyProof.Rows L2
/-! ### loops and comprehensions over anything that is walked -/
section
variable {J : It} {n : Nat} {G : Hp → Prop} {Y : Nat → Hp → V → Hp → Prop}
theorem forW (w : Walk J n G Y) {g : TG} {tb : TS} {D : Ends} {σ : L2.St} {H : Hp} (Pv : Nat → L2.St → Hp → Prop) (h0 : Pv 0 σ H) (hG : ∀ i σ H, i ≤ n → Pv i σ H → G H)
    (hs : ∀ i x σ H H', i < n → Pv i σ H → Y i H x H' → g x σ H' fun σ2 H2 => tb { D with nx := fun σ H => Box (Pv (i + 1) σ H), ct := fun σ H => Box (Pv (i + 1) σ H), bk := D.nx } σ2 H2) (hd : ∀ σ H, Pv n σ H → D.nx σ H) :
    Box (∃ W : Nat → Nat → L2.St → Hp → Prop, (∃ m, W 0 m σ H) ∧ ∀ i m σ H, W i m σ H →
      (J.stop i H ∧ D.nx σ H) ∨ (J.go i H ∧ ∃ N : L2.St → Hp → Prop, (∀ σ' H', N σ' H' → ∃ m', m' < m ∧ W (i + 1) m' σ' H') ∧ ∀ x H', J.yld i H x H' → g x σ H' fun σ2 H2 => tb { D with nx := N, ct := N, bk := D.nx } σ2 H2)) :=
  ⟨for_it w (fun i σ H => Box (Pv i σ H)) ⟨h0⟩ (fun i σ H hi p => hG i σ H hi p.out) (fun i x σ H H' hi p y => hs i x σ H H' hi p.out y) (fun σ H p => hd σ H p.out)⟩
theorem lcW (w : Walk J n G Y) {g : TG} {tt : TT} {te : TE} {vs : List Nat} {σ : L2.St} {H1 : Hp} {Q : Addr → Hp → Prop} (Pv : Addr → Nat → Hp → Prop) (h0 : ∀ D, H1 D = none → Pv D 0 (upd H1 D (.lst []))) (hG : ∀ D i H, i ≤ n → Pv D i H → G H)
    (hs : ∀ D i x H H', i < n → Pv D i H → Y i H x H' → g x (wipe σ vs) H' fun σ2 H2 => wipe σ2 vs = wipe σ vs ∧ tt σ2 H2 fun b H3 =>
      if b = true then te σ2 H3 fun y H4 => ∃ acc, H4 D = some (.lst acc) ∧ acc.length < sizeLine ∧ Box (Pv D (i + 1) (upd H4 D (.lst (acc ++ [y])))) else Box (Pv D (i + 1) H3)) (hd : ∀ D H, Pv D n H → Q D H) :
    Box (∀ D, H1 D = none → ∃ W : Nat → Nat → Hp → Prop, (∃ m, W 0 m (upd H1 D (.lst []))) ∧ ∀ i m H, W i m H →
      (J.stop i H ∧ Q D H) ∨ (J.go i H ∧ ∃ Nx : Hp → Prop, (∀ H', Nx H' → ∃ m', m' < m ∧ W (i + 1) m' H') ∧ ∀ x H', J.yld i H x H' → g x (wipe σ vs) H' fun σ2 H2 => wipe σ2 vs = wipe σ vs ∧ tt σ2 H2 fun b H3 =>
        if b = true then te σ2 H3 fun y H4 => ∃ acc, H4 D = some (.lst acc) ∧ acc.length < sizeLine ∧ Nx (upd H4 D (.lst (acc ++ [y]))) else Nx H3)) :=
  ⟨fun D hD => lc_it w (fun i H => Box (Pv D i H)) ⟨h0 D hD⟩ (fun i H hi p => hG D i H hi p.out) (fun i x H H' hi p y => hs D i x H H' hi p.out y) (fun H p => hd D H p.out)⟩
end
/-- None or a whole number -/
def oV : Option Int → V
  | none => .non
  | some i => .int i
theorem putF_lt {f : Str} {v : V} {n : Nat} : ∀ {fs : List (Str × V)}, fs.length < n → (putF f v fs).length < n + 1
  | [], h => by show 1 < n + 1; simp only [List.length_nil] at h; omega
  | (g, x) :: r, h => by
    rw [List.length_cons] at h
    unfold putF
    by_cases e : g = f
    · rw [if_pos e, List.length_cons]; omega
    · rw [if_neg e, List.length_cons]
      have := putF_lt (f := f) (v := v) (n := n - 1) (fs := r) (by omega)
      omega
theorem at_of {xs : List V} {i : Int} {v : V} (h : atI xs i = some v) : atI xs i = some v := h
theorem ix_of {n : Nat} {i : Int} {j : Nat} (h : ixN n i = some j) : ixN n i = some j := h
theorem cp_of {i j : Int} (h : CPow i j) : CPow i j := h
theorem cmw_of {i j : Int} (h : CMulW i j) : CMulW i j := h
theorem eq_oV {o : Option Int} {j : Int} : decide (oV o = V.int j) = decide (o = some j) := by
  cases o with
  | none => simp [oV]
  | some i => simp [oV]
theorem zip_all {α β γ : Type} [DecidableEq γ] (f : α → γ) (g : β → γ) : ∀ (xs : List α) (ys : List β), xs.length = ys.length → ((xs.zip ys).map fun p => decide (f p.1 = g p.2)).all id = decide (xs.map f = ys.map g)
  | [], [], _ => rfl
  | [], _ :: _, h => by cases h
  | _ :: _, [], h => by cases h
  | x :: xs, y :: ys, h => by
    have ih := zip_all f g xs ys (by simpa using h)
    simp only [List.zip_cons_cons, List.map_cons, List.all_cons, id_eq, ih, List.cons.injEq, Bool.decide_and]
theorem zip_at {α β : Type} {xs : List α} {ys : List β} {i : Nat} {x : α} {y : β} (h1 : xs[i]? = some x) (h2 : ys[i]? = some y) : (xs.zip ys)[i]? = some (x, y) := List.getElem?_zip_eq_some.mpr ⟨h1, h2⟩
/-! ### readings by name, for what stands within a comprehension -/
def rLenSq (K : PySem.W.Frag) : List V → Hp → VK → Prop := fun xs H Q => ∃ p ys, xs = [.ref p] ∧ (SqL K H p ys ∨ SqT K H p ys) ∧ Q (.int ys.length) H
def rLenV (K : PySem.W.Frag) : List V → Hp → VK → Prop := fun xs H Q => ∃ x n, xs = [x] ∧ LenV K x H n ∧ Q (.int n) H
def rListOf (K : PySem.W.Frag) : List V → Hp → VK → Prop := fun xs H Q => ∃ p ys, xs = [.ref p] ∧ (SqL K H p ys ∨ SqT K H p ys) ∧ ∀ l, H l = none → Q (.ref l) (upd H l (.lst ys))
def rTupOf (K : PySem.W.Frag) : List V → Hp → VK → Prop := fun xs H Q => ∃ p ys, xs = [.ref p] ∧ ((SqL K H p ys ∧ ∀ l, H l = none → Q (.ref l) (upd H l (.tup ys))) ∨ (SqT K H p ys ∧ Q (.ref p) H))
/-! ### rows of whole numbers, each with its place -/
abbrev Pg := Addr × List Int
abbrev pcel (x : Pg) : Addr × HO := (x.1, .lst (x.2.map V.int))
/-- the rows stand in the heap -/
def RowsAt (H : Hp) (rs : List Pg) : Prop := ∀ r ∈ rs, H r.1 = some (.lst (r.2.map V.int))
theorem RowsAt.mono {H0 H : Hp} {cs : Cells} {rs : List Pg} (h : RowsAt H0 rs) (O : Own H0 H [] cs) : RowsAt H rs := fun r hr => O.fr0 (h r hr)
theorem Own.rows {H0 H : Hp} {A : List Addr} {cs : Cells} {rs : List Pg} (O : Own H0 H A cs) (h : ∀ r ∈ rs, pcel r ∈ cs) : RowsAt H rs := fun r hr => O.get (h r hr)
theorem refs_get {rs : List Pg} {i : Nat} {x : V} (h : (rs.map fun x : Pg => V.ref x.1)[i]? = some x) : ∃ y, rs[i]? = some y ∧ x = V.ref y.1 := by
  rw [List.getElem?_map] at h
  cases e : rs[i]? with
  | none => rw [e] at h; cases h
  | some y => rw [e] at h; exact ⟨y, rfl, (Option.some.inj h).symm⟩
/-- a thing of a row is put anew, where more stands behind -/
theorem Own.put2 {α : Type} {H0 H : Hp} {A : List Addr} {pre post : Cells} {l : List α} {g : α → Addr × HO} {b y : α} {j : Nat} (O : Own H0 H A (g b :: (pre ++ (l.map g ++ post)))) (h : l[j]? = some y) : Own H0 H A (pre ++ ((l.set j b).map g ++ post)) := by
  have O1 : Own H0 H A (g b :: ((post ++ pre) ++ l.map g)) := O.perm (by
    refine .cons _ ?_
    rw [List.append_assoc, ← List.append_assoc pre]
    exact List.perm_append_comm)
  have O2 := O1.put h
  refine O2.perm ?_
  rw [List.append_assoc, ← List.append_assoc pre]
  exact List.perm_append_comm
theorem rgV0 (n : Nat) : rgV 0 (n : Int) = ((List.range n).map fun i : Nat => (i : Int)).map V.int := by
  unfold rgV
  rw [List.map_map, show ((n : Int) - 0).toNat = n by omega]
  exact List.map_congr_left fun i _ => by rw [Int.zero_add]; rfl
theorem cutV_to (xs : List V) (n : Nat) : cutV xs none (some (n : Int)) = xs.take n := by
  unfold cutV
  rw [HT.sIx_nat]
  show (xs.drop 0).take _ = _
  rw [List.drop_zero, HT.sIx_none, Nat.sub_zero]
  by_cases h : n ≤ xs.length
  · rw [show min n xs.length = n by omega]
  · rw [show min n xs.length = xs.length by omega, List.take_length, List.take_of_length_le (by omega)]
theorem cutV_from (xs : List V) (n : Nat) : cutV xs (some (n : Int)) none = xs.drop n := by
  unfold cutV
  rw [HT.sIx_nat]
  show (xs.drop (min n xs.length)).take (xs.length - min n xs.length) = _
  by_cases h : n ≤ xs.length
  · rw [show min n xs.length = n by omega, List.take_of_length_le (by rw [List.length_drop]; omega)]
  · rw [show min n xs.length = xs.length by omega, List.drop_length, List.drop_eq_nil_of_le (by omega), List.take_nil]
/-! ### lists of texts, compared -/
section
variable {K : PySem.W.Frag} {H : Hp} {a b : Addr}
theorem dpa_strs : ∀ ns : List Str, DpAll K H (ns.map V.str) (ns.map PyData.str)
  | [] => .nil
  | n :: r => .cons (.str n) (dpa_strs r)
theorem depth_strs : ∀ ns : List Str, PyData.depthAll (ns.map PyData.str) ≤ 1
  | [] => by simp [PyData.depthAll]
  | n :: r => by
    have := depth_strs r
    simp only [List.map_cons, PyData.depthAll, PyData.depth]
    omega
theorem lay_strs : ∀ ns : List Str, (ns.all PyData.strOk = true) → PyData.canLayAll0 (ns.map PyData.str) = true
  | [], _ => by simp [PyData.canLayAll0]
  | n :: r, h => by
    rw [List.all_cons, Bool.and_eq_true] at h
    simp [PyData.canLayAll0, PyData.canLay0, lay_strs r h.2, h.1]
theorem sh_strs (ns : List Str) (h : ns.all PyData.strOk = true) : SeqAt.shaped (.list (ns.map PyData.str)) = true := by
  have h1 := depth_strs ns
  have h2 : PyData.depth (.list (ns.map PyData.str)) ≤ 64 := by
    simp only [PyData.depth]
    omega
  show (PyData.canLay0 (.list (ns.map PyData.str)) && decide (PyData.depth (.list (ns.map PyData.str)) ≤ 64)) = true
  rw [Bool.and_eq_true]
  exact ⟨by simp only [PyData.canLay0]; exact lay_strs ns h, decide_eq_true h2⟩
theorem dist_strs : ∀ ns ms : List Str, PyData.eqvAll (ns.map PyData.str) (ms.map PyData.str) = decide (ns = ms)
  | [], [] => rfl
  | [], _ :: _ => rfl
  | _ :: _, [] => rfl
  | n :: r, m :: q => by
    rw [List.map_cons, List.map_cons, PyData.eqvAll, dist_strs r q]
    show ((n == m) && _) = _
    by_cases h : n = m
    · subst h; simp
    · rw [decide_eq_false (fun e => h (List.cons.inj e).1)]; simp [h]
theorem eq_strs {ns ms : List Str} {Q : VK} (h1 : ns.all PyData.strOk = true) (h2 : ms.all PyData.strOk = true) (ha : H a = some (.lst (ns.map V.str))) (hb : H b = some (.lst (ms.map V.str))) (k : Q (.bl (decide (ns = ms))) H) : rEqD K (.ref a) (.ref b) H Q :=
  ⟨_, _, .lst (SqL.of ha) (dpa_strs ns), .lst (SqL.of hb) (dpa_strs ms), sh_strs ns h1, sh_strs ms h2, by rw [show PyData.eqv (.list (ns.map PyData.str)) (.list (ms.map PyData.str)) = decide (ns = ms) from dist_strs ns ms]; exact k⟩
end
/-! ### held exceptions, asked about several classes -/
/-- isinstance(e, (c, ..)), e a held exception -/
def rIsXT (K : PySem.W.Frag) : List V → Hp → VK → Prop := fun xs H Q => ∃ (a D tp : Addr) (cs : List V) (us : List Value) (b : Bool), xs = [.ref a, .ref tp] ∧ H a = some (CxO (.ref D) none a) ∧ ExcC K D ∧ H tp = some (.tup cs) ∧ Paired ClsV cs us ∧ PySem.W.kitAny K (.ref D) us = some b ∧ Q (.bl b) H
theorem call_isXT {X : Cx} : CallR X (.builtin "isinstance") (rIsXT X.K) := by
  intro pins s σ H xs us Q I r h
  obtain ⟨a, D, tp, cs, ws, b, rfl, ha, C, hT, k, says, q⟩ := h
  obtain ⟨u1, u2, rfl, r1, r2⟩ := vals2 r
  cases (show u1 = Value.ref a from r1)
  cases (show u2 = Value.ref tp from r2)
  obtain ⟨⟨ob, vs, at_, z, dt⟩, _, _⟩ := I.hok a _ ha
  have J : PySem.W.InstAt s.heap a ob D none := by
    obtain ⟨oc, od, oda, osl⟩ := ob
    obtain ⟨h1, h2⟩ := z
    dsimp only at h1 h2 dt
    subst h1 h2 dt
    exact ⟨at_, rfl, rfl, trivial⟩
  obtain ⟨_, its, rv, o, h1, h2, n, h3⟩ := (show ObjOk X.prog X.w H s.heap tp (.tup cs) from I.hok tp _ hT)
  have e3 := ClsV.all k rv
  subst e3
  obtain ⟨oc, od, dt, sl⟩ := o
  simp only at h2 h3
  subst h2 h3
  refine PySem.W.kia_tup (PySem.W.handS_kitx_exc C.hg C.hk C.hs C.hd C.ha C.hn C.ht C.hm) I.kIn J h1 says (fun w => nomatch w) fun tk => ?_
  exact ⟨.bl b, H, I.kept (t' := tk) fun _ _ w => w, rfl, q⟩
theorem kit_any {K : PySem.W.Frag} {t : Value} : ∀ {us : List Value} {bs : List Bool}, Paired (fun u b => PySem.W.kitOne K t u = some b) us bs → PySem.W.kitAny K t us = some (bs.any id)
  | _, _, .nil => rfl
  | _, _, .cons (b := b) h k => by
    refine kitAny_cons h (fun e => ?_) (fun e => ?_)
    · have z := kit_any k
      rw [e]; exact z
    · rw [e]; rfl
/-! ### a dict is locked while it is walked -/
theorem lock_d {H : Hp} {d : Addr} {kvs : List (Key × V)} {t : TS} {D : Ends} {σ : L2.St} (h : H d = some (.dK kvs))
    (k : ∀ od, t ⟨fun σ' H' => H' d = some (.frz od (.dK kvs)) ∧ D.nx σ' (upd H' d (.dK kvs)), fun v H' => H' d = some (.frz od (.dK kvs)) ∧ D.rt v (upd H' d (.dK kvs)), fun σ' H' => H' d = some (.frz od (.dK kvs)) ∧ D.bk σ' (upd H' d (.dK kvs)), fun σ' H' => H' d = some (.frz od (.dK kvs)) ∧ D.ct σ' (upd H' d (.dK kvs))⟩ σ (upd H d (.frz od (.dK kvs)))) : tLock t D σ H :=
  ⟨d, _, h, True.intro, k⟩
end Ow
namespace Ow
open PySem PySem.Spec PyProof.Rows L2
def top (i : Nat) : Stmt := PySem.Challenge.pw_ownroom_k01_stores_deed_by_deed.main.body.getD i (.Pass ⟨0, 0, 0, 0⟩)
abbrev s_BadRow___init__ : Stmt := inClass (top 27) 0
abbrev s_Store___init__ : Stmt := inClass (top 30) 0
abbrev s_Store_take : Stmt := inClass (top 30) 1
abbrev s_Store_look_taken : Stmt := inClass (top 30) 2
abbrev s_Store_more : Stmt := inClass (top 30) 3
abbrev s_Store_less : Stmt := inClass (top 30) 4
abbrev s_Store_count : Stmt := inClass (top 30) 5
abbrev s_Store_cells : Stmt := inClass (top 30) 6
abbrev s_Store_put : Stmt := inClass (top 30) 7
abbrev s_Store_free : Stmt := inClass (top 30) 8
abbrev s__law_whole : Stmt := top 32
abbrev s__law_cell_at : Stmt := top 33
abbrev s__law_mix : Stmt := top 34
abbrev s__law_numbers : Stmt := top 35
abbrev s__law_only : Stmt := top 36
abbrev s__law_deeds_by : Stmt := top 37
abbrev s__law_is : Stmt := top 38
abbrev s__law_taken_down : Stmt := top 39
abbrev s__law_done : Stmt := top 40
abbrev s__law_refused : Stmt := top 41
abbrev s__law_deed : Stmt := top 42
abbrev s_law : Stmt := top 43
def fns0 : List He.DefD := [⟨("BadRow", some "__init__"), "__init__", "BadRow.__init__", defArgs (inClass (top 27) 0), defBody (inClass (top 27) 0), defScope (inClass (top 27) 0), [], []⟩, ⟨("Store", some "__init__"), "__init__", "Store.__init__", defArgs (inClass (top 30) 0), defBody (inClass (top 30) 0), defScope (inClass (top 30) 0), [], []⟩, ⟨("Store", some "take"), "take", "Store.take", defArgs (inClass (top 30) 1), defBody (inClass (top 30) 1), defScope (inClass (top 30) 1), [], []⟩, ⟨("Store", some "look_taken"), "look_taken", "Store.look_taken", defArgs (inClass (top 30) 2), defBody (inClass (top 30) 2), defScope (inClass (top 30) 2), [], []⟩, ⟨("Store", some "more"), "more", "Store.more", defArgs (inClass (top 30) 3), defBody (inClass (top 30) 3), defScope (inClass (top 30) 3), [], []⟩, ⟨("Store", some "less"), "less", "Store.less", defArgs (inClass (top 30) 4), defBody (inClass (top 30) 4), defScope (inClass (top 30) 4), [], []⟩, ⟨("Store", some "count"), "count", "Store.count", defArgs (inClass (top 30) 5), defBody (inClass (top 30) 5), defScope (inClass (top 30) 5), [], []⟩, ⟨("Store", some "cells"), "cells", "Store.cells", defArgs (inClass (top 30) 6), defBody (inClass (top 30) 6), defScope (inClass (top 30) 6), [], []⟩, ⟨("Store", some "put"), "put", "Store.put", defArgs (inClass (top 30) 7), defBody (inClass (top 30) 7), defScope (inClass (top 30) 7), [], []⟩, ⟨("Store", some "free"), "free", "Store.free", defArgs (inClass (top 30) 8), defBody (inClass (top 30) 8), defScope (inClass (top 30) 8), [], []⟩, ⟨("_law_whole", none), "_law_whole", "_law_whole", defArgs (top 32), defBody (top 32), defScope (top 32), [], []⟩, ⟨("_law_cell_at", none), "_law_cell_at", "_law_cell_at", defArgs (top 33), defBody (top 33), defScope (top 33), [], []⟩, ⟨("_law_mix", none), "_law_mix", "_law_mix", defArgs (top 34), defBody (top 34), defScope (top 34), [], []⟩, ⟨("_law_numbers", none), "_law_numbers", "_law_numbers", defArgs (top 35), defBody (top 35), defScope (top 35), [], []⟩, ⟨("_law_only", none), "_law_only", "_law_only", defArgs (top 36), defBody (top 36), defScope (top 36), [], []⟩, ⟨("_law_deeds_by", none), "_law_deeds_by", "_law_deeds_by", defArgs (top 37), defBody (top 37), defScope (top 37), [], []⟩, ⟨("_law_is", none), "_law_is", "_law_is", defArgs (top 38), defBody (top 38), defScope (top 38), [], []⟩, ⟨("_law_taken_down", none), "_law_taken_down", "_law_taken_down", defArgs (top 39), defBody (top 39), defScope (top 39), [], []⟩, ⟨("_law_done", none), "_law_done", "_law_done", defArgs (top 40), defBody (top 40), defScope (top 40), [], []⟩, ⟨("_law_refused", none), "_law_refused", "_law_refused", defArgs (top 41), defBody (top 41), defScope (top 41), [], []⟩, ⟨("_law_deed", none), "_law_deed", "_law_deed", defArgs (top 42), defBody (top 42), defScope (top 42), [], []⟩, ⟨("law", none), "law", "law", defArgs (top 43), defBody (top 43), defScope (top 43), [], []⟩]
def fns : List He.DefD := fns0
def fa0 : List He.Fa := [.glo "KernelError", .glo "NoOwner", .glo "NoTask", .glo "NoPage", .glo "NoRoom", .glo "Taken", .glo "NoBlock", .glo "Fallen", .glo "BadName", .glo "NoName", .glo "NotDir", .glo "IsDir", .glo "NotEmpty", .glo "Inside", .glo "NoNode", .glo "NoSpace", .glo "TooMany", .glo "TooBig", .glo "NotHeld", .glo "NotAllowed", .glo "NoHandle", .glo "BadMode", .glo "Again", .glo "Broken"]
def fa1 : List He.Fa := [.glo "NoChild", .glo "BadCall", .glo "BadRow", .int "PAGE_SIZE" 8, .glo "Store", .glo "_law_whole", .glo "_law_cell_at", .glo "_law_mix", .glo "_law_numbers", .glo "_law_only", .glo "_law_deeds_by", .glo "_law_is", .glo "_law_taken_down", .glo "_law_done", .glo "_law_refused", .glo "_law_deed", .glo "law", .free "ValueError", .free "range", .free "list", .free "isinstance", .free "int", .free "len", .free "max"]
def fa2 : List He.Fa := [.free "bool", .exc "KernelError", .exc "NoOwner", .exc "NoTask", .exc "NoPage", .exc "NoRoom", .exc "Taken", .exc "NoBlock", .exc "Fallen", .exc "BadName", .exc "NoName", .exc "NotDir", .exc "IsDir", .exc "NotEmpty", .exc "Inside", .exc "NoNode", .exc "NoSpace", .exc "TooMany", .exc "TooBig", .exc "NotHeld", .exc "NotAllowed", .exc "NoHandle", .exc "BadMode", .exc "Again"]
def fa3 : List He.Fa := [.exc "Broken", .exc "NoChild", .exc "BadCall", .cls "Store", .mkr "Store", .meth "Store" "take", .meth "Store" "look_taken", .meth "Store" "more", .meth "Store" "less", .meth "Store" "count", .meth "Store" "cells", .meth "Store" "put", .meth "Store" "free", .noat "Store" "owners", .noat "Store" "contents"]
def fas : List He.Fa := fa0 ++ fa1 ++ fa2 ++ fa3
def exL0 (K : PySem.W.Frag) : List Bool := [excB K (He.ga K "NoOwner"), (PySem.W.kitOne K (.ref (He.ga K "NoOwner")) (.ref (He.ga K "Again")) == some false), (PySem.W.kitOne K (.ref (He.ga K "NoOwner")) (.ref (He.ga K "BadCall")) == some false), (PySem.W.kitOne K (.ref (He.ga K "NoOwner")) (.ref (He.ga K "BadMode")) == some false), (PySem.W.kitOne K (.ref (He.ga K "NoOwner")) (.ref (He.ga K "BadName")) == some false), (PySem.W.kitOne K (.ref (He.ga K "NoOwner")) (.ref (He.ga K "BadRow")) == some false), (PySem.W.kitOne K (.ref (He.ga K "NoOwner")) (.ref (He.ga K "Broken")) == some false), (PySem.W.kitOne K (.ref (He.ga K "NoOwner")) (.ref (He.ga K "Fallen")) == some false), (PySem.W.kitOne K (.ref (He.ga K "NoOwner")) (.ref (He.ga K "Inside")) == some false), (PySem.W.kitOne K (.ref (He.ga K "NoOwner")) (.ref (He.ga K "IsDir")) == some false), (PySem.W.kitOne K (.ref (He.ga K "NoOwner")) (.ref (He.ga K "NoBlock")) == some false), (PySem.W.kitOne K (.ref (He.ga K "NoOwner")) (.ref (He.ga K "NoChild")) == some false)]
def exL1 (K : PySem.W.Frag) : List Bool := [(PySem.W.kitOne K (.ref (He.ga K "NoOwner")) (.ref (He.ga K "NoHandle")) == some false), (PySem.W.kitOne K (.ref (He.ga K "NoOwner")) (.ref (He.ga K "NoName")) == some false), (PySem.W.kitOne K (.ref (He.ga K "NoOwner")) (.ref (He.ga K "NoNode")) == some false), (PySem.W.kitOne K (.ref (He.ga K "NoOwner")) (.ref (He.ga K "NoOwner")) == some true), (PySem.W.kitOne K (.ref (He.ga K "NoOwner")) (.ref (He.ga K "NoPage")) == some false), (PySem.W.kitOne K (.ref (He.ga K "NoOwner")) (.ref (He.ga K "NoRoom")) == some false), (PySem.W.kitOne K (.ref (He.ga K "NoOwner")) (.ref (He.ga K "NoSpace")) == some false), (PySem.W.kitOne K (.ref (He.ga K "NoOwner")) (.ref (He.ga K "NoTask")) == some false), (PySem.W.kitOne K (.ref (He.ga K "NoOwner")) (.ref (He.ga K "NotAllowed")) == some false), (PySem.W.kitOne K (.ref (He.ga K "NoOwner")) (.ref (He.ga K "NotDir")) == some false), (PySem.W.kitOne K (.ref (He.ga K "NoOwner")) (.ref (He.ga K "NotEmpty")) == some false), (PySem.W.kitOne K (.ref (He.ga K "NoOwner")) (.ref (He.ga K "NotHeld")) == some false)]
def exL2 (K : PySem.W.Frag) : List Bool := [(PySem.W.kitOne K (.ref (He.ga K "NoOwner")) (.ref (He.ga K "Taken")) == some false), (PySem.W.kitOne K (.ref (He.ga K "NoOwner")) (.ref (He.ga K "TooBig")) == some false), (PySem.W.kitOne K (.ref (He.ga K "NoOwner")) (.ref (He.ga K "TooMany")) == some false), (PySem.W.kitOne K (.ref (He.ga K "NoOwner")) (.ref (He.ga K "KernelError")) == some true), (PySem.W.kitOne K (.ref (He.ga K "NoOwner")) (.type "ValueError") == some true), (PySem.W.exmOne K (.ref (He.ga K "NoOwner")) (.ref (He.ga K "KernelError")) == some true)]
def exL (K : PySem.W.Frag) : List Bool := [(exL0 K).all id, (exL1 K).all id, (exL2 K).all id]
def exB (K : PySem.W.Frag) : Bool := (exL K).all id
abbrev hk : PySem.W.Hook := He.hookX 5 fas fns [] [] exB
def ob (s : PySem.W.SharedT) : He.AlX := He.obsX 5 fas fns [] [] exB (HandSHeadRun.getT s)
theorem ob_eq (s : PySem.W.SharedT) : ob s = hk.obs s.abs := He.obsX_eq (HandSHeadRun.getT_eq s)
def loose0 : List PySem.Str := ["KernelError", "NoOwner", "NoTask", "NoPage", "NoRoom", "Taken", "NoBlock", "Fallen", "BadName", "NoName", "NotDir", "IsDir", "NotEmpty", "Inside", "NoNode", "NoSpace", "TooMany", "TooBig", "NotHeld", "NotAllowed", "NoHandle", "BadMode", "Again", "Broken"]
def loose1 : List PySem.Str := ["NoChild", "BadCall", "BadRow", "PAGE_SIZE", "Store", "_law_whole", "_law_cell_at", "_law_mix", "_law_numbers", "_law_only", "_law_deeds_by", "_law_is", "_law_taken_down", "_law_done", "_law_refused", "_law_deed"]
def loose : List PySem.Str := loose0 ++ loose1
abbrev R : PySem.W.OpenRow := PySem.W.OpenLaw.row PySem.Challenge.rw_ownroom_k01_stores_deed_by_deed
theorem run (w : World) : HandSHeadRun.RunEq R (PySem.W.view R.prog [43]) hk ob 60000 loose w := by
  intro os
  kernel_rfl
structure Txt (K : PySem.W.Frag) (mg : Str → Option Value) : Prop where
  g_KernelError : mg "KernelError" = some (.ref (He.ga K "KernelError"))
  g_NoOwner : mg "NoOwner" = some (.ref (He.ga K "NoOwner"))
  g_NoTask : mg "NoTask" = some (.ref (He.ga K "NoTask"))
  g_NoPage : mg "NoPage" = some (.ref (He.ga K "NoPage"))
  g_NoRoom : mg "NoRoom" = some (.ref (He.ga K "NoRoom"))
  g_Taken : mg "Taken" = some (.ref (He.ga K "Taken"))
  g_NoBlock : mg "NoBlock" = some (.ref (He.ga K "NoBlock"))
  g_Fallen : mg "Fallen" = some (.ref (He.ga K "Fallen"))
  g_BadName : mg "BadName" = some (.ref (He.ga K "BadName"))
  g_NoName : mg "NoName" = some (.ref (He.ga K "NoName"))
  g_NotDir : mg "NotDir" = some (.ref (He.ga K "NotDir"))
  g_IsDir : mg "IsDir" = some (.ref (He.ga K "IsDir"))
  g_NotEmpty : mg "NotEmpty" = some (.ref (He.ga K "NotEmpty"))
  g_Inside : mg "Inside" = some (.ref (He.ga K "Inside"))
  g_NoNode : mg "NoNode" = some (.ref (He.ga K "NoNode"))
  g_NoSpace : mg "NoSpace" = some (.ref (He.ga K "NoSpace"))
  g_TooMany : mg "TooMany" = some (.ref (He.ga K "TooMany"))
  g_TooBig : mg "TooBig" = some (.ref (He.ga K "TooBig"))
  g_NotHeld : mg "NotHeld" = some (.ref (He.ga K "NotHeld"))
  g_NotAllowed : mg "NotAllowed" = some (.ref (He.ga K "NotAllowed"))
  g_NoHandle : mg "NoHandle" = some (.ref (He.ga K "NoHandle"))
  g_BadMode : mg "BadMode" = some (.ref (He.ga K "BadMode"))
  g_Again : mg "Again" = some (.ref (He.ga K "Again"))
  g_Broken : mg "Broken" = some (.ref (He.ga K "Broken"))
  g_NoChild : mg "NoChild" = some (.ref (He.ga K "NoChild"))
  g_BadCall : mg "BadCall" = some (.ref (He.ga K "BadCall"))
  g_BadRow : mg "BadRow" = some (.ref (He.ga K "BadRow"))
  g_PAGE_SIZE : ∃ t, mg "PAGE_SIZE" = some (.int 8 t)
  g_Store : mg "Store" = some (.ref (He.ga K "Store"))
  g__law_whole : mg "_law_whole" = some (.ref (He.ga K "_law_whole"))
  g__law_cell_at : mg "_law_cell_at" = some (.ref (He.ga K "_law_cell_at"))
  g__law_mix : mg "_law_mix" = some (.ref (He.ga K "_law_mix"))
  g__law_numbers : mg "_law_numbers" = some (.ref (He.ga K "_law_numbers"))
  g__law_only : mg "_law_only" = some (.ref (He.ga K "_law_only"))
  g__law_deeds_by : mg "_law_deeds_by" = some (.ref (He.ga K "_law_deeds_by"))
  g__law_is : mg "_law_is" = some (.ref (He.ga K "_law_is"))
  g__law_taken_down : mg "_law_taken_down" = some (.ref (He.ga K "_law_taken_down"))
  g__law_done : mg "_law_done" = some (.ref (He.ga K "_law_done"))
  g__law_refused : mg "_law_refused" = some (.ref (He.ga K "_law_refused"))
  g__law_deed : mg "_law_deed" = some (.ref (He.ga K "_law_deed"))
  g_law : mg "law" = some (.ref (He.ga K "law"))
  n_ValueError : mg "ValueError" = none
  n_range : mg "range" = none
  n_list : mg "list" = none
  n_isinstance : mg "isinstance" = none
  n_int : mg "int" = none
  n_len : mg "len" = none
  n_max : mg "max" = none
  n_bool : mg "bool" = none
  x_KernelError : XcIn K (He.ga K "KernelError")
  x_NoOwner : XcIn K (He.ga K "NoOwner")
  x_NoTask : XcIn K (He.ga K "NoTask")
  x_NoPage : XcIn K (He.ga K "NoPage")
  x_NoRoom : XcIn K (He.ga K "NoRoom")
  x_Taken : XcIn K (He.ga K "Taken")
  x_NoBlock : XcIn K (He.ga K "NoBlock")
  x_Fallen : XcIn K (He.ga K "Fallen")
  x_BadName : XcIn K (He.ga K "BadName")
  x_NoName : XcIn K (He.ga K "NoName")
  x_NotDir : XcIn K (He.ga K "NotDir")
  x_IsDir : XcIn K (He.ga K "IsDir")
  x_NotEmpty : XcIn K (He.ga K "NotEmpty")
  x_Inside : XcIn K (He.ga K "Inside")
  x_NoNode : XcIn K (He.ga K "NoNode")
  x_NoSpace : XcIn K (He.ga K "NoSpace")
  x_TooMany : XcIn K (He.ga K "TooMany")
  x_TooBig : XcIn K (He.ga K "TooBig")
  x_NotHeld : XcIn K (He.ga K "NotHeld")
  x_NotAllowed : XcIn K (He.ga K "NotAllowed")
  x_NoHandle : XcIn K (He.ga K "NoHandle")
  x_BadMode : XcIn K (He.ga K "BadMode")
  x_Again : XcIn K (He.ga K "Again")
  x_Broken : XcIn K (He.ga K "Broken")
  x_NoChild : XcIn K (He.ga K "NoChild")
  x_BadCall : XcIn K (He.ga K "BadCall")
  c_Store : Cls K (He.ga K "Store")
  m_Store : Mk K (He.ga K "Store") (He.ma K (He.ga K "Store") "__init__")
  m_Store_take : Meth K (He.ga K "Store") "take" (He.ma K (He.ga K "Store") "take")
  m_Store_look_taken : Meth K (He.ga K "Store") "look_taken" (He.ma K (He.ga K "Store") "look_taken")
  m_Store_more : Meth K (He.ga K "Store") "more" (He.ma K (He.ga K "Store") "more")
  m_Store_less : Meth K (He.ga K "Store") "less" (He.ma K (He.ga K "Store") "less")
  m_Store_count : Meth K (He.ga K "Store") "count" (He.ma K (He.ga K "Store") "count")
  m_Store_cells : Meth K (He.ga K "Store") "cells" (He.ma K (He.ga K "Store") "cells")
  m_Store_put : Meth K (He.ga K "Store") "put" (He.ma K (He.ga K "Store") "put")
  m_Store_free : Meth K (He.ga K "Store") "free" (He.ma K (He.ga K "Store") "free")
  a_Store_owners : NoAttr K (He.ga K "Store") "owners"
  a_Store_contents : NoAttr K (He.ga K "Store") "contents"
  e_NoOwner : ExcC K (He.ga K "NoOwner")
  k_NoOwner_Again : PySem.W.kitOne K (.ref (He.ga K "NoOwner")) (.ref (He.ga K "Again")) = some false
  k_NoOwner_BadCall : PySem.W.kitOne K (.ref (He.ga K "NoOwner")) (.ref (He.ga K "BadCall")) = some false
  k_NoOwner_BadMode : PySem.W.kitOne K (.ref (He.ga K "NoOwner")) (.ref (He.ga K "BadMode")) = some false
  k_NoOwner_BadName : PySem.W.kitOne K (.ref (He.ga K "NoOwner")) (.ref (He.ga K "BadName")) = some false
  k_NoOwner_BadRow : PySem.W.kitOne K (.ref (He.ga K "NoOwner")) (.ref (He.ga K "BadRow")) = some false
  k_NoOwner_Broken : PySem.W.kitOne K (.ref (He.ga K "NoOwner")) (.ref (He.ga K "Broken")) = some false
  k_NoOwner_Fallen : PySem.W.kitOne K (.ref (He.ga K "NoOwner")) (.ref (He.ga K "Fallen")) = some false
  k_NoOwner_Inside : PySem.W.kitOne K (.ref (He.ga K "NoOwner")) (.ref (He.ga K "Inside")) = some false
  k_NoOwner_IsDir : PySem.W.kitOne K (.ref (He.ga K "NoOwner")) (.ref (He.ga K "IsDir")) = some false
  k_NoOwner_NoBlock : PySem.W.kitOne K (.ref (He.ga K "NoOwner")) (.ref (He.ga K "NoBlock")) = some false
  k_NoOwner_NoChild : PySem.W.kitOne K (.ref (He.ga K "NoOwner")) (.ref (He.ga K "NoChild")) = some false
  k_NoOwner_NoHandle : PySem.W.kitOne K (.ref (He.ga K "NoOwner")) (.ref (He.ga K "NoHandle")) = some false
  k_NoOwner_NoName : PySem.W.kitOne K (.ref (He.ga K "NoOwner")) (.ref (He.ga K "NoName")) = some false
  k_NoOwner_NoNode : PySem.W.kitOne K (.ref (He.ga K "NoOwner")) (.ref (He.ga K "NoNode")) = some false
  k_NoOwner_NoOwner : PySem.W.kitOne K (.ref (He.ga K "NoOwner")) (.ref (He.ga K "NoOwner")) = some true
  k_NoOwner_NoPage : PySem.W.kitOne K (.ref (He.ga K "NoOwner")) (.ref (He.ga K "NoPage")) = some false
  k_NoOwner_NoRoom : PySem.W.kitOne K (.ref (He.ga K "NoOwner")) (.ref (He.ga K "NoRoom")) = some false
  k_NoOwner_NoSpace : PySem.W.kitOne K (.ref (He.ga K "NoOwner")) (.ref (He.ga K "NoSpace")) = some false
  k_NoOwner_NoTask : PySem.W.kitOne K (.ref (He.ga K "NoOwner")) (.ref (He.ga K "NoTask")) = some false
  k_NoOwner_NotAllowed : PySem.W.kitOne K (.ref (He.ga K "NoOwner")) (.ref (He.ga K "NotAllowed")) = some false
  k_NoOwner_NotDir : PySem.W.kitOne K (.ref (He.ga K "NoOwner")) (.ref (He.ga K "NotDir")) = some false
  k_NoOwner_NotEmpty : PySem.W.kitOne K (.ref (He.ga K "NoOwner")) (.ref (He.ga K "NotEmpty")) = some false
  k_NoOwner_NotHeld : PySem.W.kitOne K (.ref (He.ga K "NoOwner")) (.ref (He.ga K "NotHeld")) = some false
  k_NoOwner_Taken : PySem.W.kitOne K (.ref (He.ga K "NoOwner")) (.ref (He.ga K "Taken")) = some false
  k_NoOwner_TooBig : PySem.W.kitOne K (.ref (He.ga K "NoOwner")) (.ref (He.ga K "TooBig")) = some false
  k_NoOwner_TooMany : PySem.W.kitOne K (.ref (He.ga K "NoOwner")) (.ref (He.ga K "TooMany")) = some false
  k_NoOwner_KernelError : PySem.W.kitOne K (.ref (He.ga K "NoOwner")) (.ref (He.ga K "KernelError")) = some true
  k_NoOwner_ValueError : PySem.W.kitOne K (.ref (He.ga K "NoOwner")) (.type "ValueError") = some true
  y_NoOwner_KernelError : PySem.W.exmOne K (.ref (He.ga K "NoOwner")) (.ref (He.ga K "KernelError")) = some true
  d_BadRow___init__ : ∃ fd, FunD K "__init__" "BadRow.__init__" (defArgs s_BadRow___init__) (defBody s_BadRow___init__) (defScope s_BadRow___init__) [] [] (He.fAd K ("BadRow", some "__init__")) fd
  d_Store___init__ : ∃ fd, FunD K "__init__" "Store.__init__" (defArgs s_Store___init__) (defBody s_Store___init__) (defScope s_Store___init__) [] [] (He.fAd K ("Store", some "__init__")) fd
  d_Store_take : ∃ fd, FunD K "take" "Store.take" (defArgs s_Store_take) (defBody s_Store_take) (defScope s_Store_take) [] [] (He.fAd K ("Store", some "take")) fd
  d_Store_look_taken : ∃ fd, FunD K "look_taken" "Store.look_taken" (defArgs s_Store_look_taken) (defBody s_Store_look_taken) (defScope s_Store_look_taken) [] [] (He.fAd K ("Store", some "look_taken")) fd
  d_Store_more : ∃ fd, FunD K "more" "Store.more" (defArgs s_Store_more) (defBody s_Store_more) (defScope s_Store_more) [] [] (He.fAd K ("Store", some "more")) fd
  d_Store_less : ∃ fd, FunD K "less" "Store.less" (defArgs s_Store_less) (defBody s_Store_less) (defScope s_Store_less) [] [] (He.fAd K ("Store", some "less")) fd
  d_Store_count : ∃ fd, FunD K "count" "Store.count" (defArgs s_Store_count) (defBody s_Store_count) (defScope s_Store_count) [] [] (He.fAd K ("Store", some "count")) fd
  d_Store_cells : ∃ fd, FunD K "cells" "Store.cells" (defArgs s_Store_cells) (defBody s_Store_cells) (defScope s_Store_cells) [] [] (He.fAd K ("Store", some "cells")) fd
  d_Store_put : ∃ fd, FunD K "put" "Store.put" (defArgs s_Store_put) (defBody s_Store_put) (defScope s_Store_put) [] [] (He.fAd K ("Store", some "put")) fd
  d_Store_free : ∃ fd, FunD K "free" "Store.free" (defArgs s_Store_free) (defBody s_Store_free) (defScope s_Store_free) [] [] (He.fAd K ("Store", some "free")) fd
  d__law_whole : ∃ fd, FunD K "_law_whole" "_law_whole" (defArgs s__law_whole) (defBody s__law_whole) (defScope s__law_whole) [] [] (He.fAd K ("_law_whole", none)) fd
  d__law_cell_at : ∃ fd, FunD K "_law_cell_at" "_law_cell_at" (defArgs s__law_cell_at) (defBody s__law_cell_at) (defScope s__law_cell_at) [] [] (He.fAd K ("_law_cell_at", none)) fd
  d__law_mix : ∃ fd, FunD K "_law_mix" "_law_mix" (defArgs s__law_mix) (defBody s__law_mix) (defScope s__law_mix) [] [] (He.fAd K ("_law_mix", none)) fd
  d__law_numbers : ∃ fd, FunD K "_law_numbers" "_law_numbers" (defArgs s__law_numbers) (defBody s__law_numbers) (defScope s__law_numbers) [] [] (He.fAd K ("_law_numbers", none)) fd
  d__law_only : ∃ fd, FunD K "_law_only" "_law_only" (defArgs s__law_only) (defBody s__law_only) (defScope s__law_only) [] [] (He.fAd K ("_law_only", none)) fd
  d__law_deeds_by : ∃ fd, FunD K "_law_deeds_by" "_law_deeds_by" (defArgs s__law_deeds_by) (defBody s__law_deeds_by) (defScope s__law_deeds_by) [] [] (He.fAd K ("_law_deeds_by", none)) fd
  d__law_is : ∃ fd, FunD K "_law_is" "_law_is" (defArgs s__law_is) (defBody s__law_is) (defScope s__law_is) [] [] (He.fAd K ("_law_is", none)) fd
  d__law_taken_down : ∃ fd, FunD K "_law_taken_down" "_law_taken_down" (defArgs s__law_taken_down) (defBody s__law_taken_down) (defScope s__law_taken_down) [] [] (He.fAd K ("_law_taken_down", none)) fd
  d__law_done : ∃ fd, FunD K "_law_done" "_law_done" (defArgs s__law_done) (defBody s__law_done) (defScope s__law_done) [] [] (He.fAd K ("_law_done", none)) fd
  d__law_refused : ∃ fd, FunD K "_law_refused" "_law_refused" (defArgs s__law_refused) (defBody s__law_refused) (defScope s__law_refused) [] [] (He.fAd K ("_law_refused", none)) fd
  d__law_deed : ∃ fd, FunD K "_law_deed" "_law_deed" (defArgs s__law_deed) (defBody s__law_deed) (defScope s__law_deed) [] [] (He.fAd K ("_law_deed", none)) fd
  d_law : ∃ fd, FunD K "law" "law" (defArgs s_law) (defBody s_law) (defScope s_law) [] [] (He.fAd K ("law", none)) fd

theorem txt_mk {K : PySem.W.Frag} {h : Heap} {mg : Str → Option Value} (X : K.In h) (G : h.Ns mainGlobals mg) (c : He.SaysD fas fns K) (m : exB K = true) : Txt K mg where
  g_KernelError := He.glo_ok X G (c.fact 0 (f := .glo "KernelError") rfl)
  g_NoOwner := He.glo_ok X G (c.fact 1 (f := .glo "NoOwner") rfl)
  g_NoTask := He.glo_ok X G (c.fact 2 (f := .glo "NoTask") rfl)
  g_NoPage := He.glo_ok X G (c.fact 3 (f := .glo "NoPage") rfl)
  g_NoRoom := He.glo_ok X G (c.fact 4 (f := .glo "NoRoom") rfl)
  g_Taken := He.glo_ok X G (c.fact 5 (f := .glo "Taken") rfl)
  g_NoBlock := He.glo_ok X G (c.fact 6 (f := .glo "NoBlock") rfl)
  g_Fallen := He.glo_ok X G (c.fact 7 (f := .glo "Fallen") rfl)
  g_BadName := He.glo_ok X G (c.fact 8 (f := .glo "BadName") rfl)
  g_NoName := He.glo_ok X G (c.fact 9 (f := .glo "NoName") rfl)
  g_NotDir := He.glo_ok X G (c.fact 10 (f := .glo "NotDir") rfl)
  g_IsDir := He.glo_ok X G (c.fact 11 (f := .glo "IsDir") rfl)
  g_NotEmpty := He.glo_ok X G (c.fact 12 (f := .glo "NotEmpty") rfl)
  g_Inside := He.glo_ok X G (c.fact 13 (f := .glo "Inside") rfl)
  g_NoNode := He.glo_ok X G (c.fact 14 (f := .glo "NoNode") rfl)
  g_NoSpace := He.glo_ok X G (c.fact 15 (f := .glo "NoSpace") rfl)
  g_TooMany := He.glo_ok X G (c.fact 16 (f := .glo "TooMany") rfl)
  g_TooBig := He.glo_ok X G (c.fact 17 (f := .glo "TooBig") rfl)
  g_NotHeld := He.glo_ok X G (c.fact 18 (f := .glo "NotHeld") rfl)
  g_NotAllowed := He.glo_ok X G (c.fact 19 (f := .glo "NotAllowed") rfl)
  g_NoHandle := He.glo_ok X G (c.fact 20 (f := .glo "NoHandle") rfl)
  g_BadMode := He.glo_ok X G (c.fact 21 (f := .glo "BadMode") rfl)
  g_Again := He.glo_ok X G (c.fact 22 (f := .glo "Again") rfl)
  g_Broken := He.glo_ok X G (c.fact 23 (f := .glo "Broken") rfl)
  g_NoChild := He.glo_ok X G (c.fact 24 (f := .glo "NoChild") rfl)
  g_BadCall := He.glo_ok X G (c.fact 25 (f := .glo "BadCall") rfl)
  g_BadRow := He.glo_ok X G (c.fact 26 (f := .glo "BadRow") rfl)
  g_PAGE_SIZE := He.int_ok X G (c.fact 27 (f := .int "PAGE_SIZE" 8) rfl)
  g_Store := He.glo_ok X G (c.fact 28 (f := .glo "Store") rfl)
  g__law_whole := He.glo_ok X G (c.fact 29 (f := .glo "_law_whole") rfl)
  g__law_cell_at := He.glo_ok X G (c.fact 30 (f := .glo "_law_cell_at") rfl)
  g__law_mix := He.glo_ok X G (c.fact 31 (f := .glo "_law_mix") rfl)
  g__law_numbers := He.glo_ok X G (c.fact 32 (f := .glo "_law_numbers") rfl)
  g__law_only := He.glo_ok X G (c.fact 33 (f := .glo "_law_only") rfl)
  g__law_deeds_by := He.glo_ok X G (c.fact 34 (f := .glo "_law_deeds_by") rfl)
  g__law_is := He.glo_ok X G (c.fact 35 (f := .glo "_law_is") rfl)
  g__law_taken_down := He.glo_ok X G (c.fact 36 (f := .glo "_law_taken_down") rfl)
  g__law_done := He.glo_ok X G (c.fact 37 (f := .glo "_law_done") rfl)
  g__law_refused := He.glo_ok X G (c.fact 38 (f := .glo "_law_refused") rfl)
  g__law_deed := He.glo_ok X G (c.fact 39 (f := .glo "_law_deed") rfl)
  g_law := He.glo_ok X G (c.fact 40 (f := .glo "law") rfl)
  n_ValueError := He.free_ok X G (c.fact 41 (f := .free "ValueError") rfl)
  n_range := He.free_ok X G (c.fact 42 (f := .free "range") rfl)
  n_list := He.free_ok X G (c.fact 43 (f := .free "list") rfl)
  n_isinstance := He.free_ok X G (c.fact 44 (f := .free "isinstance") rfl)
  n_int := He.free_ok X G (c.fact 45 (f := .free "int") rfl)
  n_len := He.free_ok X G (c.fact 46 (f := .free "len") rfl)
  n_max := He.free_ok X G (c.fact 47 (f := .free "max") rfl)
  n_bool := He.free_ok X G (c.fact 48 (f := .free "bool") rfl)
  x_KernelError := He.exc_ok (c.fact 49 (f := .exc "KernelError") rfl)
  x_NoOwner := He.exc_ok (c.fact 50 (f := .exc "NoOwner") rfl)
  x_NoTask := He.exc_ok (c.fact 51 (f := .exc "NoTask") rfl)
  x_NoPage := He.exc_ok (c.fact 52 (f := .exc "NoPage") rfl)
  x_NoRoom := He.exc_ok (c.fact 53 (f := .exc "NoRoom") rfl)
  x_Taken := He.exc_ok (c.fact 54 (f := .exc "Taken") rfl)
  x_NoBlock := He.exc_ok (c.fact 55 (f := .exc "NoBlock") rfl)
  x_Fallen := He.exc_ok (c.fact 56 (f := .exc "Fallen") rfl)
  x_BadName := He.exc_ok (c.fact 57 (f := .exc "BadName") rfl)
  x_NoName := He.exc_ok (c.fact 58 (f := .exc "NoName") rfl)
  x_NotDir := He.exc_ok (c.fact 59 (f := .exc "NotDir") rfl)
  x_IsDir := He.exc_ok (c.fact 60 (f := .exc "IsDir") rfl)
  x_NotEmpty := He.exc_ok (c.fact 61 (f := .exc "NotEmpty") rfl)
  x_Inside := He.exc_ok (c.fact 62 (f := .exc "Inside") rfl)
  x_NoNode := He.exc_ok (c.fact 63 (f := .exc "NoNode") rfl)
  x_NoSpace := He.exc_ok (c.fact 64 (f := .exc "NoSpace") rfl)
  x_TooMany := He.exc_ok (c.fact 65 (f := .exc "TooMany") rfl)
  x_TooBig := He.exc_ok (c.fact 66 (f := .exc "TooBig") rfl)
  x_NotHeld := He.exc_ok (c.fact 67 (f := .exc "NotHeld") rfl)
  x_NotAllowed := He.exc_ok (c.fact 68 (f := .exc "NotAllowed") rfl)
  x_NoHandle := He.exc_ok (c.fact 69 (f := .exc "NoHandle") rfl)
  x_BadMode := He.exc_ok (c.fact 70 (f := .exc "BadMode") rfl)
  x_Again := He.exc_ok (c.fact 71 (f := .exc "Again") rfl)
  x_Broken := He.exc_ok (c.fact 72 (f := .exc "Broken") rfl)
  x_NoChild := He.exc_ok (c.fact 73 (f := .exc "NoChild") rfl)
  x_BadCall := He.exc_ok (c.fact 74 (f := .exc "BadCall") rfl)
  c_Store := He.cls_ok (c.fact 75 (f := .cls "Store") rfl)
  m_Store := He.mkr_ok (c.fact 76 (f := .mkr "Store") rfl)
  m_Store_take := He.meth_ok (c.fact 77 (f := .meth "Store" "take") rfl)
  m_Store_look_taken := He.meth_ok (c.fact 78 (f := .meth "Store" "look_taken") rfl)
  m_Store_more := He.meth_ok (c.fact 79 (f := .meth "Store" "more") rfl)
  m_Store_less := He.meth_ok (c.fact 80 (f := .meth "Store" "less") rfl)
  m_Store_count := He.meth_ok (c.fact 81 (f := .meth "Store" "count") rfl)
  m_Store_cells := He.meth_ok (c.fact 82 (f := .meth "Store" "cells") rfl)
  m_Store_put := He.meth_ok (c.fact 83 (f := .meth "Store" "put") rfl)
  m_Store_free := He.meth_ok (c.fact 84 (f := .meth "Store" "free") rfl)
  a_Store_owners := He.noat_ok (c.fact 85 (f := .noat "Store" "owners") rfl)
  a_Store_contents := He.noat_ok (c.fact 86 (f := .noat "Store" "contents") rfl)
  e_NoOwner := excB_ok (all_at (all_at m 0 rfl) 0 rfl)
  k_NoOwner_Again := eq_of_beq (all_at (all_at m 0 rfl) 1 rfl)
  k_NoOwner_BadCall := eq_of_beq (all_at (all_at m 0 rfl) 2 rfl)
  k_NoOwner_BadMode := eq_of_beq (all_at (all_at m 0 rfl) 3 rfl)
  k_NoOwner_BadName := eq_of_beq (all_at (all_at m 0 rfl) 4 rfl)
  k_NoOwner_BadRow := eq_of_beq (all_at (all_at m 0 rfl) 5 rfl)
  k_NoOwner_Broken := eq_of_beq (all_at (all_at m 0 rfl) 6 rfl)
  k_NoOwner_Fallen := eq_of_beq (all_at (all_at m 0 rfl) 7 rfl)
  k_NoOwner_Inside := eq_of_beq (all_at (all_at m 0 rfl) 8 rfl)
  k_NoOwner_IsDir := eq_of_beq (all_at (all_at m 0 rfl) 9 rfl)
  k_NoOwner_NoBlock := eq_of_beq (all_at (all_at m 0 rfl) 10 rfl)
  k_NoOwner_NoChild := eq_of_beq (all_at (all_at m 0 rfl) 11 rfl)
  k_NoOwner_NoHandle := eq_of_beq (all_at (all_at m 1 rfl) 0 rfl)
  k_NoOwner_NoName := eq_of_beq (all_at (all_at m 1 rfl) 1 rfl)
  k_NoOwner_NoNode := eq_of_beq (all_at (all_at m 1 rfl) 2 rfl)
  k_NoOwner_NoOwner := eq_of_beq (all_at (all_at m 1 rfl) 3 rfl)
  k_NoOwner_NoPage := eq_of_beq (all_at (all_at m 1 rfl) 4 rfl)
  k_NoOwner_NoRoom := eq_of_beq (all_at (all_at m 1 rfl) 5 rfl)
  k_NoOwner_NoSpace := eq_of_beq (all_at (all_at m 1 rfl) 6 rfl)
  k_NoOwner_NoTask := eq_of_beq (all_at (all_at m 1 rfl) 7 rfl)
  k_NoOwner_NotAllowed := eq_of_beq (all_at (all_at m 1 rfl) 8 rfl)
  k_NoOwner_NotDir := eq_of_beq (all_at (all_at m 1 rfl) 9 rfl)
  k_NoOwner_NotEmpty := eq_of_beq (all_at (all_at m 1 rfl) 10 rfl)
  k_NoOwner_NotHeld := eq_of_beq (all_at (all_at m 1 rfl) 11 rfl)
  k_NoOwner_Taken := eq_of_beq (all_at (all_at m 2 rfl) 0 rfl)
  k_NoOwner_TooBig := eq_of_beq (all_at (all_at m 2 rfl) 1 rfl)
  k_NoOwner_TooMany := eq_of_beq (all_at (all_at m 2 rfl) 2 rfl)
  k_NoOwner_KernelError := eq_of_beq (all_at (all_at m 2 rfl) 3 rfl)
  k_NoOwner_ValueError := eq_of_beq (all_at (all_at m 2 rfl) 4 rfl)
  y_NoOwner_KernelError := eq_of_beq (all_at (all_at m 2 rfl) 5 rfl)
  d_BadRow___init__ := c.def_ 0 (d := ⟨("BadRow", some "__init__"), "__init__", "BadRow.__init__", defArgs (inClass (top 27) 0), defBody (inClass (top 27) 0), defScope (inClass (top 27) 0), [], []⟩) rfl
  d_Store___init__ := c.def_ 1 (d := ⟨("Store", some "__init__"), "__init__", "Store.__init__", defArgs (inClass (top 30) 0), defBody (inClass (top 30) 0), defScope (inClass (top 30) 0), [], []⟩) rfl
  d_Store_take := c.def_ 2 (d := ⟨("Store", some "take"), "take", "Store.take", defArgs (inClass (top 30) 1), defBody (inClass (top 30) 1), defScope (inClass (top 30) 1), [], []⟩) rfl
  d_Store_look_taken := c.def_ 3 (d := ⟨("Store", some "look_taken"), "look_taken", "Store.look_taken", defArgs (inClass (top 30) 2), defBody (inClass (top 30) 2), defScope (inClass (top 30) 2), [], []⟩) rfl
  d_Store_more := c.def_ 4 (d := ⟨("Store", some "more"), "more", "Store.more", defArgs (inClass (top 30) 3), defBody (inClass (top 30) 3), defScope (inClass (top 30) 3), [], []⟩) rfl
  d_Store_less := c.def_ 5 (d := ⟨("Store", some "less"), "less", "Store.less", defArgs (inClass (top 30) 4), defBody (inClass (top 30) 4), defScope (inClass (top 30) 4), [], []⟩) rfl
  d_Store_count := c.def_ 6 (d := ⟨("Store", some "count"), "count", "Store.count", defArgs (inClass (top 30) 5), defBody (inClass (top 30) 5), defScope (inClass (top 30) 5), [], []⟩) rfl
  d_Store_cells := c.def_ 7 (d := ⟨("Store", some "cells"), "cells", "Store.cells", defArgs (inClass (top 30) 6), defBody (inClass (top 30) 6), defScope (inClass (top 30) 6), [], []⟩) rfl
  d_Store_put := c.def_ 8 (d := ⟨("Store", some "put"), "put", "Store.put", defArgs (inClass (top 30) 7), defBody (inClass (top 30) 7), defScope (inClass (top 30) 7), [], []⟩) rfl
  d_Store_free := c.def_ 9 (d := ⟨("Store", some "free"), "free", "Store.free", defArgs (inClass (top 30) 8), defBody (inClass (top 30) 8), defScope (inClass (top 30) 8), [], []⟩) rfl
  d__law_whole := c.def_ 10 (d := ⟨("_law_whole", none), "_law_whole", "_law_whole", defArgs (top 32), defBody (top 32), defScope (top 32), [], []⟩) rfl
  d__law_cell_at := c.def_ 11 (d := ⟨("_law_cell_at", none), "_law_cell_at", "_law_cell_at", defArgs (top 33), defBody (top 33), defScope (top 33), [], []⟩) rfl
  d__law_mix := c.def_ 12 (d := ⟨("_law_mix", none), "_law_mix", "_law_mix", defArgs (top 34), defBody (top 34), defScope (top 34), [], []⟩) rfl
  d__law_numbers := c.def_ 13 (d := ⟨("_law_numbers", none), "_law_numbers", "_law_numbers", defArgs (top 35), defBody (top 35), defScope (top 35), [], []⟩) rfl
  d__law_only := c.def_ 14 (d := ⟨("_law_only", none), "_law_only", "_law_only", defArgs (top 36), defBody (top 36), defScope (top 36), [], []⟩) rfl
  d__law_deeds_by := c.def_ 15 (d := ⟨("_law_deeds_by", none), "_law_deeds_by", "_law_deeds_by", defArgs (top 37), defBody (top 37), defScope (top 37), [], []⟩) rfl
  d__law_is := c.def_ 16 (d := ⟨("_law_is", none), "_law_is", "_law_is", defArgs (top 38), defBody (top 38), defScope (top 38), [], []⟩) rfl
  d__law_taken_down := c.def_ 17 (d := ⟨("_law_taken_down", none), "_law_taken_down", "_law_taken_down", defArgs (top 39), defBody (top 39), defScope (top 39), [], []⟩) rfl
  d__law_done := c.def_ 18 (d := ⟨("_law_done", none), "_law_done", "_law_done", defArgs (top 40), defBody (top 40), defScope (top 40), [], []⟩) rfl
  d__law_refused := c.def_ 19 (d := ⟨("_law_refused", none), "_law_refused", "_law_refused", defArgs (top 41), defBody (top 41), defScope (top 41), [], []⟩) rfl
  d__law_deed := c.def_ 20 (d := ⟨("_law_deed", none), "_law_deed", "_law_deed", defArgs (top 42), defBody (top 42), defScope (top 42), [], []⟩) rfl
  d_law := c.def_ 21 (d := ⟨("law", none), "law", "law", defArgs (top 43), defBody (top 43), defScope (top 43), [], []⟩) rfl
local macro_rules | `(tactic| walk_at "xf") => `(tactic| first | with_reducible exact Txt.e_NoOwner (by assumption) | with_reducible exact Txt.k_NoOwner_Again (by assumption) | with_reducible exact Txt.k_NoOwner_BadCall (by assumption) | with_reducible exact Txt.k_NoOwner_BadMode (by assumption) | with_reducible exact Txt.k_NoOwner_BadName (by assumption) | with_reducible exact Txt.k_NoOwner_BadRow (by assumption) | with_reducible exact Txt.k_NoOwner_Broken (by assumption) | with_reducible exact Txt.k_NoOwner_Fallen (by assumption) | with_reducible exact Txt.k_NoOwner_Inside (by assumption) | with_reducible exact Txt.k_NoOwner_IsDir (by assumption) | with_reducible exact Txt.k_NoOwner_NoBlock (by assumption) | with_reducible exact Txt.k_NoOwner_NoChild (by assumption) | with_reducible exact Txt.k_NoOwner_NoHandle (by assumption) | with_reducible exact Txt.k_NoOwner_NoName (by assumption) | with_reducible exact Txt.k_NoOwner_NoNode (by assumption) | with_reducible exact Txt.k_NoOwner_NoOwner (by assumption) | with_reducible exact Txt.k_NoOwner_NoPage (by assumption) | with_reducible exact Txt.k_NoOwner_NoRoom (by assumption) | with_reducible exact Txt.k_NoOwner_NoSpace (by assumption) | with_reducible exact Txt.k_NoOwner_NoTask (by assumption) | with_reducible exact Txt.k_NoOwner_NotAllowed (by assumption) | with_reducible exact Txt.k_NoOwner_NotDir (by assumption) | with_reducible exact Txt.k_NoOwner_NotEmpty (by assumption) | with_reducible exact Txt.k_NoOwner_NotHeld (by assumption) | with_reducible exact Txt.k_NoOwner_Taken (by assumption) | with_reducible exact Txt.k_NoOwner_TooBig (by assumption) | with_reducible exact Txt.k_NoOwner_TooMany (by assumption) | with_reducible exact Txt.k_NoOwner_KernelError (by assumption) | with_reducible exact Txt.k_NoOwner_ValueError (by assumption) | with_reducible exact Txt.y_NoOwner_KernelError (by assumption) | fail)
local macro_rules | `(tactic| walk_at "fact") => `(tactic| first | with_reducible exact Txt.c_Store (by assumption) | with_reducible exact Txt.a_Store_owners (by assumption) | with_reducible exact Txt.a_Store_contents (by assumption) | fail)
/-! ### the walk's own lines -/
local macro_rules | `(tactic| walk_at "mem") => `(tactic| first | exact List.mem_cons_self | (apply List.mem_cons_of_mem; walk_at "mem") | (apply List.mem_append_right; walk_at "mem") | (apply List.mem_append_left; walk_at "mem"))
local macro_rules | `(tactic| walk_at "at") => `(tactic| first | exact At.here | (apply At.there; walk_at "at") | (apply At.app; walk_at "at") | (apply At.appl; walk_at "at"))
local macro_rules | `(tactic| walk_at "sub") => `(tactic| first | exact Sub.all | exact Sub.here | exact Sub.one | (apply Sub.there; walk_at "sub") | (apply Sub.appl; walk_at "sub") | (apply Sub.app; walk_at "sub"))
local macro_rules | `(tactic| walk_at "own") => `(tactic| first | assumption | ((with_reducible apply Own.wr2); (focus walk_at "own"); (focus walk_at "at"); rfl) | ((with_reducible apply Own.new); (focus walk_at "own"); assumption))
local macro_rules | `(tactic| walk_at "h") => `(tactic| first | assumption | (apply Own.get; (focus walk_at "own"); walk_at "mem") | (apply Own.fr0; (focus walk_at "own"); assumption) | (rename Own _ _ _ _ => otmp; clear otmp; walk_at "h"))
local macro_rules | `(tactic| walk_at "ar") => `(tactic| first | omega | (simp only [List.length_nil, List.length_cons, List.length_append, List.length_map, List.length_set]; omega))
/-- one premise -/
local macro_rules | `(tactic| walk_at "c") => `(tactic| first
  | with_reducible exact rfl
  | ((with_reducible apply sl_of); rfl)
  | ((with_reducible apply sc_of); rfl)
  | ((with_reducible apply lsq_of); rfl)
  | ((with_reducible apply wp_of); rfl)
  | ((with_reducible apply ln_of); rfl)
  | ((with_reducible apply veq_of); first | rfl | exact kl | exact kr)
  | ((with_reducible apply lk_of); rfl)
  | ((with_reducible apply lkn_of); rfl)
  | ((with_reducible apply lt_of); (first | decide | walk_at "ar" | ((repeat (with_reducible apply putF_lt)); walk_at "ar")))
  | ((with_reducible apply hp_of); walk_at "h")
  | ((with_reducible apply cd_of); first | exact ⟨by decide, by decide⟩ | exact ⟨by omega, by omega⟩)
  | ((with_reducible apply at_of); first | assumption | exact atI_nat (j := 0) rfl | exact atI_nat (j := 1) rfl | exact atI_nat (j := 2) rfl | exact atI_nat (j := 3) rfl | exact atI_nat (j := 4) rfl)
  | ((with_reducible apply ix_of); first | assumption | rfl)
  | ((with_reducible apply cp_of); exact ⟨by decide, by decide, by decide⟩)
  | ((with_reducible apply cmw_of); first | assumption | (unfold CMulW; decide +kernel))
  | ((with_reducible apply cm_l); first | exact ⟨by decide, by decide⟩ | exact ⟨by omega, by omega⟩)
  | ((with_reducible apply cm_r); exact ⟨by decide, by decide⟩)
  | walk_at "fact"
  | walk_at "kit"
  | walk_at "xf"
  | walk_at "col"
  | assumption)
local macro_rules | `(tactic| walk_at "prd") => `(tactic| first | exact Paired.nil | ((with_reducible apply Paired.cons); (focus walk_at "c"); walk_at "prd"))
local macro_rules | `(tactic| walk_at "kit") => `(tactic| first
  | (with_reducible exact Paired.nil) | ((with_reducible apply Paired.cons); (focus walk_at "c"); walk_at "prd") | ((with_reducible apply kit_any); walk_at "prd")
  | with_reducible exact ClsV.ty _ | with_reducible exact ClsV.own _
  | with_reducible exact kt_int_int | with_reducible exact kt_int_bool | with_reducible exact kt_bool_int | with_reducible exact kt_bool_bool | with_reducible exact kt_list_list | with_reducible exact kt_tuple_tuple | with_reducible exact kt_NoneType_tuple | with_reducible exact kt_str_str | with_reducible exact kt_NoneType_list | with_reducible exact kt_NoneType_int | with_reducible exact kt_NoneType_bool | with_reducible exact kt_NoneType_dict | with_reducible exact kt_NoneType_str | with_reducible exact kt_str_list | with_reducible exact kt_list_str | with_reducible exact kt_str_int | with_reducible exact kt_int_str | with_reducible exact kt_int_list | with_reducible exact kt_int_tuple | with_reducible exact kt_list_tuple | with_reducible exact kt_tuple_list | with_reducible exact kt_dict_dict | with_reducible exact kt_list_dict | with_reducible exact kt_dict_list | with_reducible exact kt_int_dict | with_reducible exact kt_str_bool | with_reducible exact kt_str_tuple | with_reducible exact kt_str_dict | with_reducible exact kt_list_int | with_reducible exact kt_list_bool | with_reducible exact kt_tuple_int | with_reducible exact kt_tuple_bool | with_reducible exact kt_tuple_str | with_reducible exact kt_tuple_dict
  | ((with_reducible apply TyX.base); first | with_reducible exact TyOf.non | with_reducible exact TyOf.bl _ | with_reducible exact TyOf.int _ | with_reducible exact TyOf.str _ | ((with_reducible apply TyOf.lst); walk_at "h") | ((with_reducible apply TyOf.tup); walk_at "h") | ((with_reducible apply TyOf.dK); walk_at "h")))
/-- lists, tuples, dicts, sizes -/
local macro_rules | `(tactic| walk_at "sq") => `(tactic| first | assumption | ((with_reducible apply SqL.of); walk_at "h") | ((with_reducible apply SqT.of); walk_at "h") | ((with_reducible apply Own.sq); (focus walk_at "own"); assumption))
local macro_rules | `(tactic| walk_at "col") => `(tactic| first
  | ((with_reducible apply SqL.of); walk_at "h") | ((with_reducible apply SqT.of); walk_at "h") | ((with_reducible apply Rd.of); walk_at "h")
  | ((with_reducible apply Own.sq); (focus walk_at "own"); assumption)
  | ((with_reducible apply col_ex2); walk_at "sq") | ((with_reducible apply col_ol2); walk_at "sq") | ((with_reducible apply col_or2); walk_at "sq")
  | ((with_reducible apply sz_le); first | decide | walk_at "ar")
  | ((with_reducible apply sz_lt); first | decide | walk_at "ar")
  | ((with_reducible apply isd_k); walk_at "h")
  | ((with_reducible apply dget_ii); (focus walk_at "h"); assumption) | ((with_reducible apply dget_is); (focus walk_at "h"); assumption)
  | ((with_reducible apply dget_i); walk_at "h") | ((with_reducible apply dget_s); walk_at "h")
  | ((with_reducible apply dput_i); (focus walk_at "h"); walk_at "ar") | ((with_reducible apply dput_s); (focus walk_at "h"); walk_at "ar")
  | (apply Or.inl; apply And.intro rfl; apply col_ex; walk_at "h")
  | (apply Or.inr; apply Or.inr; apply Or.inl; apply And.intro rfl; apply Or.inl; constructor; walk_at "h")
  | with_reducible exact all_flat _ | with_reducible exact all_flatS _ | ((with_reducible apply fl_of); rfl)
  | ((with_reducible apply pos_of); first | decide | assumption | omega | decide +kernel)
  | walk_at "ar")
/-- one step -/
local macro_rules | `(tactic| walk_at "s1") => `(tactic| first
  | (apply @Exists.intro V)
  | (apply @Exists.intro Addr)
  | (apply @Exists.intro Int)
  | (apply @Exists.intro (List V))
  | (apply @Exists.intro (List (Str × V)))
  | (apply @Exists.intro (List (Key × V)))
  | (apply @Exists.intro Key)
  | (apply @Exists.intro Bool)
  | (apply @Exists.intro Str)
  | (apply @Exists.intro Value)
  | (apply @Exists.intro (Option V))
  | (apply @Exists.intro (List Int)) | (apply @Exists.intro (List Bool)) | (apply @Exists.intro (List Value)) | (apply @Exists.intro Hp)
  | (apply And.intro; (focus walk_at "c")))
local macro_rules | `(tactic| walk_at "s") => `(tactic| repeat walk_at "s1")
local macro_rules | `(tactic| walk_at "b") => `(tactic| (apply Box.mk; walk_at "s"))
/-! ## Stores: what they hold -/
/-- a store: at p, its dict and two lists at q, the owners' counts os, the pages cs -/
def cSto (K : PySem.W.Frag) (p : Addr) (q : Addr × Addr × Addr) (os : List Int) (cs : List Pg) : Cells :=
  (p, .ins (He.ga K "Store") q.1 [("owners", .ref q.2.1), ("contents", .ref q.2.2)]) :: (q.2.1, .lst (os.map V.int)) :: (q.2.2, .lst (cs.map fun x => V.ref x.1)) :: cs.map pcel
/-- how many owners page i has -/
def cntS (os : List Int) (i : Int) : Int := if 0 ≤ i ∧ i < os.length then (os[i.toNat]?).getD 0 else 0
theorem cntS_nat {os : List Int} {i : Nat} {x : Int} (h : os[i]? = some x) : cntS os i = x := by
  have := (List.getElem?_eq_some_iff.mp h).1
  unfold cntS
  rw [if_pos ⟨by omega, by omega⟩, Int.toNat_natCast, h]
  rfl
theorem cntS_pos {os : List Int} {i : Int} (h : cntS os i ≠ 0) : ∃ (n : Nat) (x : Int), i = n ∧ os[n]? = some x ∧ cntS os i = x := by
  unfold cntS at h ⊢
  by_cases z : 0 ≤ i ∧ i < os.length
  · rw [if_pos z] at h ⊢
    have hn : i.toNat < os.length := by omega
    refine ⟨i.toNat, os[i.toNat], by omega, List.getElem?_eq_getElem hn, ?_⟩
    rw [List.getElem?_eq_getElem hn]
    rfl
  · rw [if_neg z] at h
    exact absurd rfl h
def zeros : List Int := List.replicate 8 0
theorem idx_find : ∀ {os : List Int}, (0 : Int) ∈ os → ∃ j : Nat, os[j]? = some 0 ∧ ∀ m : Nat, m < j → ∀ x, os[m]? = some x → x ≠ 0
  | x :: r, h => by
    by_cases e : x = 0
    · exact ⟨0, by rw [e]; rfl, fun m hm => absurd hm (Nat.not_lt_zero _)⟩
    · obtain ⟨j, h1, h2⟩ := idx_find (os := r) ((List.mem_cons.mp h).resolve_left (fun z => e z.symm))
      refine ⟨j + 1, h1, fun m hm y hy => ?_⟩
      cases m with
      | zero => cases hy; exact e
      | succ m => exact h2 m (by omega) y hy
/-- what a store's counts and pages keep -/
structure StoOk (os : List Int) (cs : List Pg) : Prop where
  len : os.length = cs.length
  few : os.length ≤ 1000
def sp_Store___init__ (K : PySem.W.Frag) : Sp := sp2 fun self many H Q _ => ∃ (p dx : Addr) (n : Nat), self = .ref p ∧ many = .int n ∧ n ≤ 1000 ∧ Own H H [p] [(p, .ins (He.ga K "Store") dx [])] ∧
  ∀ (H' : Hp) (q : Addr × Addr × Addr) (cs : List Pg), Own H H' [p] (cSto K p q (List.replicate n 0) cs) → cs.length = n → (∀ x ∈ cs, x.2 = zeros) → Q .non H'
def sp_Store_take (K : PySem.W.Frag) : Sp := sp1 fun self H Q _ => ∃ p q os cs, self = .ref p ∧ StoOk os cs ∧ Own H H (adr (cSto K p q os cs)) (cSto K p q os cs) ∧
  ((0 : Int) ∉ os → Q .non H) ∧
  ∀ (j : Nat), os[j]? = some 0 → (∀ m : Nat, m < j → ∀ x, os[m]? = some x → x ≠ 0) → ∀ (H' : Hp) (c : Addr), Own H H' (adr (cSto K p q os cs)) (cSto K p q (os.set j 1) (cs.set j (c, zeros))) → Q (.int j) H'
def sp_Store_count (K : PySem.W.Frag) : Sp := sp2 fun self page H Q _ => ∃ p q os cs i, self = .ref p ∧ page = .int i ∧ Own H H (adr (cSto K p q os cs)) (cSto K p q os cs) ∧ Q (.int (cntS os i)) H
def sp_Store_look_taken (K : PySem.W.Frag) : Sp := sp2 fun self page H Q E => ∃ p q os cs i, self = .ref p ∧ page = .int i ∧ Own H H (adr (cSto K p q os cs)) (cSto K p q os cs) ∧ (cntS os i ≠ 0 → Q .non H) ∧ (cntS os i = 0 → E (.ref (He.ga K "NoOwner")) none H)
def sp_Store_more (K : PySem.W.Frag) : Sp := sp2 fun self page H Q E => ∃ p q os cs i, self = .ref p ∧ page = .int i ∧ Own H H (adr (cSto K p q os cs)) (cSto K p q os cs) ∧
  (cntS os i ≠ 0 → ∀ H', Own H H' (adr (cSto K p q os cs)) (cSto K p q (os.set i.toNat (cntS os i + 1)) cs) → Q .non H') ∧ (cntS os i = 0 → E (.ref (He.ga K "NoOwner")) none H)
def sp_Store_less (K : PySem.W.Frag) : Sp := sp2 fun self page H Q E => ∃ p q os cs i, self = .ref p ∧ page = .int i ∧ Own H H (adr (cSto K p q os cs)) (cSto K p q os cs) ∧
  (cntS os i ≠ 0 → ∀ H', Own H H' (adr (cSto K p q os cs)) (cSto K p q (os.set i.toNat (cntS os i - 1)) cs) → Q .non H') ∧ (cntS os i = 0 → E (.ref (He.ga K "NoOwner")) none H)
def sp_Store_cells (K : PySem.W.Frag) : Sp := sp2 fun self page H Q E => ∃ p q os cs i, self = .ref p ∧ page = .int i ∧ StoOk os cs ∧ Own H H (adr (cSto K p q os cs)) (cSto K p q os cs) ∧
  (cntS os i ≠ 0 → ∀ x, cs[i.toNat]? = some x → ∀ H' c, Own H H' (adr (cSto K p q os cs)) ((c, .lst (x.2.map V.int)) :: cSto K p q os cs) → Q (.ref c) H') ∧ (cntS os i = 0 → E (.ref (He.ga K "NoOwner")) none H)
def sp_Store_put (K : PySem.W.Frag) : Sp := sp3 fun self page cells H Q E => ∃ p q os cs i a ns, self = .ref p ∧ page = .int i ∧ cells = .ref a ∧ H a = some (.lst (ns.map V.int)) ∧ StoOk os cs ∧ Own H H (adr (cSto K p q os cs)) (cSto K p q os cs) ∧
  (cntS os i ≠ 0 → ∀ H' c, Own H H' (adr (cSto K p q os cs)) (cSto K p q os (cs.set i.toNat (c, ns))) → Q .non H') ∧ (cntS os i = 0 → E (.ref (He.ga K "NoOwner")) none H)
def sp_Store_free (K : PySem.W.Frag) : Sp := sp1 fun self H Q _ => ∃ p q os cs, self = .ref p ∧ Own H H (adr (cSto K p q os cs)) (cSto K p q os cs) ∧ Q (.int (os.count 0 : Nat)) H

theorem sc_Store___init__ : FnScope ["self", "many", "page"] ["self", "many"] (defScope s_Store___init__) := ⟨rfl, rfl, rfl, by decide +kernel, rfl, by decide +kernel, by decide +kernel⟩
theorem ok_Store___init__ {P : Program} {w : World} {K : PySem.W.Frag} {mg : Str → Option Value} {base : Heap} (T : Txt K mg) : Cee P w K mg base 1 (He.fAd K ("Store", some "__init__")) ["self", "many"] (sp_Store___init__ K) := by
  refine cee_of T.d_Store___init__ sc_Store___init__ (fun _ _ _ _ _ _ us hl => match us, hl with | [_, _], _ => rfl) (fun vs H Q E h => sp2_len h) (fun cdv A outer s H vs Q E hr h => ⟨_, (pss_cons (ps_fld (pv 0) (pe_op op_rep (pe_lst (pa_cons pe_int pa_nil)) (pv 1)) rfl) (pss_one (ps_fld (pv 0) (pe_lc (own := [("page", 2)]) (by rfl) sc_Store___init__.nd (PI.box (pi_range1 (by rfl) T.n_range (pa_cons (pv 1) pa_nil))) (blkOk_by (own := [("page", 2)]) (N := ["self", "many", "page"]) (sc := defScope s_Store___init__) (by decide +kernel)) (fun _ _ _ _ _ => (pg_name (i := 2) sc_Store___init__.nd rfl (Or.inl rfl))) (fun _ _ _ _ _ => pts_nil) (fun _ _ _ _ _ => (pe_op op_rep (pe_lst (pa_cons pe_int pa_nil)) (pe_gc (v := .int 8) rfl (gI T.g_PAGE_SIZE))))) rfl))), ?_⟩)
  obtain ⟨v0, v1, rfl, h⟩ := h
  dsimp only [cxOf, L2.start]
  obtain ⟨p, dx, n, rfl, rfl, hn, O, k⟩ := h
  have hsz : ([V.int 0] : List V).length * ((n : Nat) : Int).toNat ≤ sizeLine := sz_le (by simp; omega)
  walk_at "s"
  intro a ha
  have O1 := O.new (o := .lst [V.int 0]) ha
  walk_at "s"
  intro b hb
  rw [rep_flat, rep_map V.int n 0]
  have O2 := O1.new (o := .lst ((List.replicate n 0).map V.int)) hb
  have O3 : Own H _ [p] ((p, .ins (He.ga K "Store") dx []) :: (b, .lst ((List.replicate n 0).map V.int)) :: []) := (O2.drop (cs' := [(b, .lst ((List.replicate n 0).map V.int)), (p, .ins (He.ga K "Store") dx [])]) (.cons₂ _ (.cons _ (.refl _)))).perm (List.Perm.swap _ _ _)
  walk_at "s"
  have O4 := O3.wr (o' := .ins (He.ga K "Store") dx [("owners", .ref b)]) .here
  refine lcR (lo := 0) (n := ((n : Nat) : Int).toNat) (fun D j H2 => ∃ cs : List Pg, cs.length = j ∧ (∀ x ∈ cs, x.2 = zeros) ∧ Own H H2 [p] ((p, .ins (He.ga K "Store") dx [("owners", .ref b)]) :: (b, .lst ((List.replicate n 0).map V.int)) :: (D, .lst (cs.map fun x => V.ref x.1)) :: cs.map pcel)) ?_ ?_ ?_
  · intro D hD
    refine ⟨[], rfl, by simp, (O4.new (o := .lst []) hD).perm ?_⟩
    exact (List.Perm.swap _ _ _).trans ((List.Perm.swap _ _ _).cons _)
  · rintro D j H2 hj ⟨cs, hl, hz, O5⟩
    walk_at "s"
    intro c hc
    have O6 := O5.new (o := .lst [V.int 0]) hc
    have hsz : ([V.int 0] : List V).length * (8 : Int).toNat ≤ sizeLine := sz_le (by decide)
    walk_at "s"
    intro d hd
    have O7 := O6.new (o := .lst (zeros.map V.int)) hd
    have hlen : (cs.map fun x : Pg => V.ref x.1).length < 100000 := by rw [List.length_map]; omega
    walk_at "s"
    refine ⟨cs ++ [(d, zeros)], by rw [List.length_append, hl]; rfl, fun x hx => ?_, ?_⟩
    · rcases List.mem_append.mp hx with z | z
      · exact hz x z
      · rw [List.mem_singleton.mp z]
    · have O8 := ((O7.drop (cs' := (d, .lst (zeros.map V.int)) :: (p, .ins (He.ga K "Store") dx [("owners", .ref b)]) :: (b, .lst ((List.replicate n 0).map V.int)) :: (D, .lst (cs.map fun x => V.ref x.1)) :: cs.map pcel) (.cons₂ _ (.cons _ (.refl _)))).wr (o' := .lst ((cs.map fun x => V.ref x.1) ++ [.ref d])) (.there (.there (.there .here)))).last
      rw [List.map_append, List.map_append]
      exact O8
  · rintro D H2 ⟨cs, hl, hz, O5⟩
    walk_at "s"
    exact k _ (dx, b, D) cs (O5.wr .here) (by rw [hl, Int.toNat_natCast]) hz
theorem sc_Store_take : FnScope ["self", "page"] ["self"] (defScope s_Store_take) := ⟨rfl, rfl, rfl, by decide +kernel, rfl, by decide +kernel, by decide +kernel⟩
theorem ok_Store_take {P : Program} {w : World} {K : PySem.W.Frag} {mg : Str → Option Value} {base : Heap} (T : Txt K mg) : Cee P w K mg base 1 (He.fAd K ("Store", some "take")) ["self"] (sp_Store_take K) := by
  refine cee_of T.d_Store_take sc_Store_take (fun _ _ _ _ _ _ us hl => match us, hl with | [_], _ => rfl) (fun vs H Q E h => sp1_len h) (fun cdv A outer s H vs Q E hr h => ⟨_, (pss_cons (ps_if (pt_cmpR op_notIn_seq pe_int (pe_fld (pv 0) rfl) (by with_unfolding_all rfl)) (pss_one (ps_ret pe_non)) pss_nil) (pss_cons (ps_set (i := 1) sc_Store_take.nd rfl (Or.inl rfl) (pe_bm PySem.F.plainAttrs_list PySem.F.slot_list_index PySem.F.type_list_index mt_index (pe_fld (pv 0) rfl) (pa_cons pe_int pa_nil))) (pss_cons (ps_asg pe_int (pg_sub (pe_fld (pv 0) rfl) (pv 1) set_list)) (pss_cons (ps_asg (pe_op op_rep (pe_lst (pa_cons pe_int pa_nil)) (pe_gc (v := .int 8) rfl (gI T.g_PAGE_SIZE))) (pg_sub (pe_fld (pv 0) rfl) (pv 1) set_list)) (pss_one (ps_ret (pv 1))))))), ?_⟩)
  obtain ⟨v0, rfl, h⟩ := h
  dsimp only [cxOf, L2.start]
  obtain ⟨p, q, os, cs, rfl, ok, O, k0, k1⟩ := h
  have hl := ok.len
  have hf := ok.few
  walk_at "s"
  rw [inV_ints]
  refine if_nd (fun h => ?_) (fun h => ?_)
  · walk_at "s"
    exact k0 h
  · obtain ⟨j, hj, hm⟩ := idx_find h
    have hjl := (List.getElem?_eq_some_iff.mp hj).1
    have h0 : (os.map V.int)[j]? = some (V.int 0) := by rw [List.getElem?_map, hj]; rfl
    have hm2 : ∀ (m : Nat) (z' : V), m < j → (os.map V.int)[m]? = some z' → eqV z' (V.int 0) = false := fun m z' h1 h2 => by
      obtain ⟨y, hy, rfl⟩ := map_get h2
      rw [eqV_int]
      exact decide_eq_false (hm m h1 y hy)
    have hix := ix_at (n := (os.map V.int).length) (i := j) (by rw [List.length_map]; exact hjl)
    have hix2 := ix_at (n := (cs.map fun x : Pg => V.ref x.1).length) (i := j) (by rw [List.length_map]; omega)
    walk_at "s"
    refine ⟨eqV_int 0 0, hm2, ?_⟩
    walk_at "s"
    intro c hc
    have O1 := O.wr (o' := .lst ((os.map V.int).set j (.int 1))) (.there .here)
    have O2 := O1.new (o := .lst [V.int 0]) hc
    have hsz : ([V.int 0] : List V).length * (8 : Int).toNat ≤ sizeLine := sz_le (by decide)
    walk_at "s"
    intro d hd
    have O3 := O2.new (o := .lst (zeros.map V.int)) hd
    walk_at "s"
    have hy : cs[j]? = some cs[j] := List.getElem?_eq_getElem (by omega)
    have O4 := (O3.wr (o' := .lst ((cs.map fun x : Pg => V.ref x.1).set j (.ref d))) (.there (.there (.there (.there .here))))).drop (cs' := pcel (d, zeros) :: ([(p, .ins (He.ga K "Store") q.1 [("owners", .ref q.2.1), ("contents", .ref q.2.2)]), (q.2.1, .lst ((os.map V.int).set j (.int 1))), (q.2.2, .lst ((cs.map fun x : Pg => V.ref x.1).set j (.ref d)))] ++ cs.map pcel)) (.cons₂ _ (.cons _ (.refl _)))
    refine k1 j hj hm _ d ((O4.put hy).eq ?_)
    rw [set_map V.int, set_map (fun x : Pg => V.ref x.1) cs j (d, zeros)]
    rfl
theorem sc_Store_count : FnScope ["self", "page"] ["self", "page"] (defScope s_Store_count) := ⟨rfl, rfl, rfl, by decide +kernel, rfl, by decide +kernel, by decide +kernel⟩
theorem ok_Store_count {P : Program} {w : World} {K : PySem.W.Frag} {mg : Str → Option Value} {base : Heap} (T : Txt K mg) : Cee P w K mg base 1 (He.fAd K ("Store", some "count")) ["self", "page"] (sp_Store_count K) := by
  refine cee_of T.d_Store_count sc_Store_count (fun _ _ _ _ _ _ us hl => match us, hl with | [_, _], _ => rfl) (fun vs H Q E h => sp2_len h) (fun cdv A outer s H vs Q E hr h => ⟨_, (pss_cons (ps_if (pt_not (pt_chain op_le op_lt pe_int (pv 1) (pe_callB call_len_seq (by rfl) T.n_len (by decide +kernel) (pa_cons (pe_fld (pv 0) rfl) pa_nil)))) (pss_one (ps_ret pe_int)) pss_nil) (pss_one (ps_ret (pe_ix ix_list (pe_fld (pv 0) rfl) (pv 1) (fun _ _ => rfl))))), ?_⟩)
  obtain ⟨v0, v1, rfl, h⟩ := h
  dsimp only [cxOf, L2.start]
  obtain ⟨p, q, os, cs, i, rfl, rfl, O, k⟩ := h
  walk_at "s"
  refine if_d (fun h0 => ?_) (fun h0 => ?_)
  · walk_at "s"
    refine if_nd (fun h => ?_) (fun h => ?_)
    · walk_at "s"
      have : cntS os i = 0 := by unfold cntS; rw [if_neg (by rw [List.length_map] at h; omega)]
      rw [this] at k
      exact k
    · obtain ⟨y, hy, hy2⟩ := at_ints (ns := os) h0 h
      walk_at "s"
      have : cntS os i = y := by rw [← cntS_nat hy, Int.toNat_of_nonneg h0]
      rw [this] at k
      exact k
  · walk_at "s"
    have : cntS os i = 0 := by unfold cntS; rw [if_neg (by omega)]
    rw [this] at k
    exact k
theorem sc_Store_look_taken : FnScope ["self", "page"] ["self", "page"] (defScope s_Store_look_taken) := ⟨rfl, rfl, rfl, by decide +kernel, rfl, by decide +kernel, by decide +kernel⟩
theorem ok_Store_look_taken {P : Program} {w : World} {K : PySem.W.Frag} {mg : Str → Option Value} {base : Heap} (T : Txt K mg) : Cee P w K mg base 2 (He.fAd K ("Store", some "look_taken")) ["self", "page"] (sp_Store_look_taken K) := by
  have c_Store_count : Cee P w K mg base 1 (He.fAd K ("Store", some "count")) ["self", "page"] (sp_Store_count K) := ok_Store_count T
  refine cee_of T.d_Store_look_taken sc_Store_look_taken (fun _ _ _ _ _ _ us hl => match us, hl with | [_, _], _ => rfl) (fun vs H Q E h => sp2_len h) (fun cdv A outer s H vs Q E hr h => ⟨_, (pss_one (ps_if (pt_cmpR op_eq (pe_m (pv 0) T.c_Store T.m_Store_count c_Store_count (hr.mono (by decide)) (takes_of rfl rfl rfl rfl) (pa_cons (pv 1) pa_nil)) pe_int (nomark _)) (pss_one (ps_raise rfl (takes_of rfl rfl rfl rfl) (pmk_own PySem.F.excBase_ValueError T.x_NoOwner.1 T.g_NoOwner T.x_NoOwner.2.1 (raises_own T.x_NoOwner.2.2.1 T.x_NoOwner.2.2.2) rfl))) pss_nil)), ?_⟩)
  obtain ⟨v0, v1, rfl, h⟩ := h
  dsimp only [cxOf, L2.start]
  obtain ⟨p, q, os, cs, i, rfl, rfl, O, k, e⟩ := h
  walk_at "s"
  refine ask2 ⟨p, q, os, cs, i, rfl, rfl, O, ?_⟩
  walk_at "s"
  refine if_ii (fun h => e h) (fun h => ?_)
  exact k h
theorem sc_Store_more : FnScope ["self", "page"] ["self", "page"] (defScope s_Store_more) := ⟨rfl, rfl, rfl, by decide +kernel, rfl, by decide +kernel, by decide +kernel⟩
theorem ok_Store_more {P : Program} {w : World} {K : PySem.W.Frag} {mg : Str → Option Value} {base : Heap} (T : Txt K mg) : Cee P w K mg base 3 (He.fAd K ("Store", some "more")) ["self", "page"] (sp_Store_more K) := by
  have c_Store_look_taken : Cee P w K mg base 2 (He.fAd K ("Store", some "look_taken")) ["self", "page"] (sp_Store_look_taken K) := ok_Store_look_taken T
  refine cee_of T.d_Store_more sc_Store_more (fun _ _ _ _ _ _ us hl => match us, hl with | [_, _], _ => rfl) (fun vs H Q E h => sp2_len h) (fun cdv A outer s H vs Q E hr h => ⟨_, (pss_cons (ps_expr (pe_m (pv 0) T.c_Store T.m_Store_look_taken c_Store_look_taken (hr.mono (by decide)) (takes_of rfl rfl rfl rfl) (pa_cons (pv 1) pa_nil))) (pss_one (ps_augS (pe_fld (pv 0) rfl) (pv 1) get_list pe_int ip_add set_list))), ?_⟩)
  obtain ⟨v0, v1, rfl, h⟩ := h
  dsimp only [cxOf, L2.start]
  obtain ⟨p, q, os, cs, i, rfl, rfl, O, k, e⟩ := h
  walk_at "s"
  refine ask2 ⟨p, q, os, cs, i, rfl, rfl, O, fun h => ?_, e⟩
  obtain ⟨n, x, rfl, hx, hc⟩ := cntS_pos h
  have hat := atI_nat (xs := os.map V.int) (j := n) (v := .int x) (by rw [List.getElem?_map, hx]; rfl)
  have hix := ix_at (n := (os.map V.int).length) (i := n) (by rw [List.length_map]; exact (List.getElem?_eq_some_iff.mp hx).1)
  walk_at "s"
  refine k h _ ?_
  rw [hc, Int.toNat_natCast]
  exact (O.wr (o' := .lst ((os.map V.int).set n (.int (x + 1)))) (.there .here)).eq (by rw [set_map]; rfl)
theorem sc_Store_less : FnScope ["self", "page"] ["self", "page"] (defScope s_Store_less) := ⟨rfl, rfl, rfl, by decide +kernel, rfl, by decide +kernel, by decide +kernel⟩
theorem ok_Store_less {P : Program} {w : World} {K : PySem.W.Frag} {mg : Str → Option Value} {base : Heap} (T : Txt K mg) : Cee P w K mg base 3 (He.fAd K ("Store", some "less")) ["self", "page"] (sp_Store_less K) := by
  have c_Store_look_taken : Cee P w K mg base 2 (He.fAd K ("Store", some "look_taken")) ["self", "page"] (sp_Store_look_taken K) := ok_Store_look_taken T
  refine cee_of T.d_Store_less sc_Store_less (fun _ _ _ _ _ _ us hl => match us, hl with | [_, _], _ => rfl) (fun vs H Q E h => sp2_len h) (fun cdv A outer s H vs Q E hr h => ⟨_, (pss_cons (ps_expr (pe_m (pv 0) T.c_Store T.m_Store_look_taken c_Store_look_taken (hr.mono (by decide)) (takes_of rfl rfl rfl rfl) (pa_cons (pv 1) pa_nil))) (pss_one (ps_augS (pe_fld (pv 0) rfl) (pv 1) get_list pe_int ip_sub set_list))), ?_⟩)
  obtain ⟨v0, v1, rfl, h⟩ := h
  dsimp only [cxOf, L2.start]
  obtain ⟨p, q, os, cs, i, rfl, rfl, O, k, e⟩ := h
  walk_at "s"
  refine ask2 ⟨p, q, os, cs, i, rfl, rfl, O, fun h => ?_, e⟩
  obtain ⟨n, x, rfl, hx, hc⟩ := cntS_pos h
  have hat := atI_nat (xs := os.map V.int) (j := n) (v := .int x) (by rw [List.getElem?_map, hx]; rfl)
  have hix := ix_at (n := (os.map V.int).length) (i := n) (by rw [List.length_map]; exact (List.getElem?_eq_some_iff.mp hx).1)
  walk_at "s"
  refine k h _ ?_
  rw [hc, Int.toNat_natCast]
  exact (O.wr (o' := .lst ((os.map V.int).set n (.int (x - 1)))) (.there .here)).eq (by rw [set_map]; rfl)
theorem sc_Store_free : FnScope ["self"] ["self"] (defScope s_Store_free) := ⟨rfl, rfl, rfl, by decide +kernel, rfl, by decide +kernel, by decide +kernel⟩
theorem ok_Store_free {P : Program} {w : World} {K : PySem.W.Frag} {mg : Str → Option Value} {base : Heap} (T : Txt K mg) : Cee P w K mg base 1 (He.fAd K ("Store", some "free")) ["self"] (sp_Store_free K) := by
  refine cee_of T.d_Store_free sc_Store_free (fun _ _ _ _ _ _ us hl => match us, hl with | [_], _ => rfl) (fun vs H Q E h => sp1_len h) (fun cdv A outer s H vs Q E hr h => ⟨_, (pss_one (ps_ret (pe_bm PySem.F.plainAttrs_list PySem.F.slot_list_count PySem.F.type_list_count mt_lcount (pe_fld (pv 0) rfl) (pa_cons pe_int pa_nil)))), ?_⟩)
  obtain ⟨v0, rfl, h⟩ := h
  dsimp only [cxOf, L2.start]
  obtain ⟨p, q, os, cs, rfl, O, k⟩ := h
  walk_at "s"
  exact k
theorem sc_Store_cells : FnScope ["self", "page"] ["self", "page"] (defScope s_Store_cells) := ⟨rfl, rfl, rfl, by decide +kernel, rfl, by decide +kernel, by decide +kernel⟩
theorem ok_Store_cells {P : Program} {w : World} {K : PySem.W.Frag} {mg : Str → Option Value} {base : Heap} (T : Txt K mg) : Cee P w K mg base 3 (He.fAd K ("Store", some "cells")) ["self", "page"] (sp_Store_cells K) := by
  have c_Store_look_taken : Cee P w K mg base 2 (He.fAd K ("Store", some "look_taken")) ["self", "page"] (sp_Store_look_taken K) := ok_Store_look_taken T
  refine cee_of T.d_Store_cells sc_Store_cells (fun _ _ _ _ _ _ us hl => match us, hl with | [_, _], _ => rfl) (fun vs H Q E h => sp2_len h) (fun cdv A outer s H vs Q E hr h => ⟨_, (pss_cons (ps_expr (pe_m (pv 0) T.c_Store T.m_Store_look_taken c_Store_look_taken (hr.mono (by decide)) (takes_of rfl rfl rfl rfl) (pa_cons (pv 1) pa_nil))) (pss_one (ps_ret (pe_callTy call_list_of (by rfl) T.n_list (by decide +kernel) (pa_cons (pe_ix ix_list (pe_fld (pv 0) rfl) (pv 1) (fun _ _ => rfl)) pa_nil))))), ?_⟩)
  obtain ⟨v0, v1, rfl, h⟩ := h
  dsimp only [cxOf, L2.start]
  obtain ⟨p, q, os, cs, i, rfl, rfl, ok, O, k, e⟩ := h
  have hl := ok.len
  have hf := ok.few
  walk_at "s"
  refine ask2 ⟨p, q, os, cs, i, rfl, rfl, O, fun h => ?_, e⟩
  obtain ⟨n, x, rfl, hx, hc⟩ := cntS_pos h
  have hn := (List.getElem?_eq_some_iff.mp hx).1
  have hy : cs[n]? = some cs[n] := List.getElem?_eq_getElem (by omega)
  generalize cs[n] = y at hy
  have hat := atI_nat (xs := cs.map fun x : Pg => V.ref x.1) (j := n) (v := .ref y.1) (by rw [List.getElem?_map, hy]; rfl)
  have hm : (y.1, HO.lst (y.2.map V.int)) ∈ cSto K p q os cs := .tail _ (.tail _ (.tail _ (List.mem_map.mpr ⟨y, List.mem_of_getElem? hy, rfl⟩)))
  have hh := O.get hm
  walk_at "s"
  intro l hl2
  exact k h y (by rw [Int.toNat_natCast]; exact hy) _ l (O.new hl2)
theorem sc_Store_put : FnScope ["self", "page", "cells"] ["self", "page", "cells"] (defScope s_Store_put) := ⟨rfl, rfl, rfl, by decide +kernel, rfl, by decide +kernel, by decide +kernel⟩
theorem ok_Store_put {P : Program} {w : World} {K : PySem.W.Frag} {mg : Str → Option Value} {base : Heap} (T : Txt K mg) : Cee P w K mg base 3 (He.fAd K ("Store", some "put")) ["self", "page", "cells"] (sp_Store_put K) := by
  have c_Store_look_taken : Cee P w K mg base 2 (He.fAd K ("Store", some "look_taken")) ["self", "page"] (sp_Store_look_taken K) := ok_Store_look_taken T
  refine cee_of T.d_Store_put sc_Store_put (fun _ _ _ _ _ _ us hl => match us, hl with | [_, _, _], _ => rfl) (fun vs H Q E h => sp3_len h) (fun cdv A outer s H vs Q E hr h => ⟨_, (pss_cons (ps_expr (pe_m (pv 0) T.c_Store T.m_Store_look_taken c_Store_look_taken (hr.mono (by decide)) (takes_of rfl rfl rfl rfl) (pa_cons (pv 1) pa_nil))) (pss_one (ps_asg (pe_callTy call_list_of (by rfl) T.n_list (by decide +kernel) (pa_cons (pv 2) pa_nil)) (pg_sub (pe_fld (pv 0) rfl) (pv 1) set_list)))), ?_⟩)
  obtain ⟨v0, v1, v2, rfl, h⟩ := h
  dsimp only [cxOf, L2.start]
  obtain ⟨p, q, os, cs, i, a, ns, rfl, rfl, rfl, ha, ok, O, k, e⟩ := h
  have hl := ok.len
  have hf := ok.few
  walk_at "s"
  refine ask2 ⟨p, q, os, cs, i, rfl, rfl, O, fun h => ?_, e⟩
  obtain ⟨n, x, rfl, hx, hc⟩ := cntS_pos h
  have hn := (List.getElem?_eq_some_iff.mp hx).1
  have hy : cs[n]? = some cs[n] := List.getElem?_eq_getElem (by omega)
  have hix2 := ix_at (n := (cs.map fun x : Pg => V.ref x.1).length) (i := n) (by rw [List.length_map]; omega)
  walk_at "s"
  intro d hd
  have O3 := O.new (o := .lst (ns.map V.int)) hd
  walk_at "s"
  have O4 := (O3.wr (o' := .lst ((cs.map fun x : Pg => V.ref x.1).set n (.ref d))) (.there (.there (.there .here))))
  refine k h _ d ((Own.put (g := pcel) (b := (d, ns)) (pre := [(p, .ins (He.ga K "Store") q.1 [("owners", .ref q.2.1), ("contents", .ref q.2.2)]), (q.2.1, .lst (os.map V.int)), (q.2.2, .lst ((cs.map fun x : Pg => V.ref x.1).set n (.ref d)))]) O4 hy).eq ?_)
  rw [set_map (fun x : Pg => V.ref x.1) cs n (d, ns), Int.toNat_natCast]
  rfl

/-! ## what the laws' own helpers promise -/
def sp__law_whole (K : PySem.W.Frag) : Sp := sp1 fun x H Q _ => ∃ i, x = .int i ∧ Q (.bl true) H
def sp__law_cell_at (K : PySem.W.Frag) : Sp := sp2 fun x k H Q _ => ∃ (a : Addr) (xs : List Int) (n : Int), x = .ref a ∧ k = .int n ∧ 0 ≤ n ∧ SqL K H a (xs.map V.int) ∧ ∀ i, Q (.int i) H
def sp__law_mix (K : PySem.W.Frag) : Sp := sp3 fun x y z H Q _ => ∃ i j m, x = .int i ∧ y = .int j ∧ z = .int m ∧ CMul i j ∧ 0 < m ∧ ∀ r, 0 ≤ r → r < m → Q (.int r) H
def sp__law_numbers (K : PySem.W.Frag) : Sp := sp2 fun x y H Q _ => ∃ (a b : Addr) (ns : List Int), x = .ref a ∧ y = .ref b ∧ H a = some (.lst (ns.map V.int)) ∧ H b = some (.lst (ns.map V.int)) ∧ Q (.bl true) H

theorem sc__law_whole : FnScope ["_law_found"] ["_law_found"] (defScope s__law_whole) := ⟨rfl, rfl, rfl, by decide +kernel, rfl, by decide +kernel, by decide +kernel⟩
theorem ok__law_whole {P : Program} {w : World} {K : PySem.W.Frag} {mg : Str → Option Value} {base : Heap} (T : Txt K mg) : Cee P w K mg base 1 (He.fAd K ("_law_whole", none)) ["_law_found"] (sp__law_whole K) := by
  refine cee_of T.d__law_whole sc__law_whole (fun _ _ _ _ _ _ us hl => match us, hl with | [_], _ => rfl) (fun vs H Q E h => sp1_len h) (fun cdv A outer s H vs Q E hr h => ⟨_, (pss_one (ps_ret (pe_and (pe_callB call_isi (by rfl) T.n_isinstance (by decide +kernel) (pa_cons (pv 0) (pa_cons (pe_bltn (v := .ty "int") rfl T.n_int (by decide +kernel) rfl) pa_nil))) (pe_one (pe_not (pe_callB call_isi (by rfl) T.n_isinstance (by decide +kernel) (pa_cons (pv 0) (pa_cons (pe_bltn (v := .ty "bool") rfl T.n_bool (by decide +kernel) rfl) pa_nil)))))))), ?_⟩)
  obtain ⟨v0, rfl, h⟩ := h
  dsimp only [cxOf, L2.start]
  obtain ⟨i, rfl, k⟩ := h
  walk_at "s"
  exact k
theorem sc__law_cell_at : FnScope ["_law_script", "_law_k"] ["_law_script", "_law_k"] (defScope s__law_cell_at) := ⟨rfl, rfl, rfl, by decide +kernel, rfl, by decide +kernel, by decide +kernel⟩
theorem ok__law_cell_at {P : Program} {w : World} {K : PySem.W.Frag} {mg : Str → Option Value} {base : Heap} (T : Txt K mg) : Cee P w K mg base 1 (He.fAd K ("_law_cell_at", none)) ["_law_script", "_law_k"] (sp__law_cell_at K) := by
  refine cee_of T.d__law_cell_at sc__law_cell_at (fun _ _ _ _ _ _ us hl => match us, hl with | [_, _], _ => rfl) (fun vs H Q E h => sp2_len h) (fun cdv A outer s H vs Q E hr h => ⟨_, (pss_cons (ps_if (pt_cmpR op_lt (pv 1) (pe_callB call_len_seq (by rfl) T.n_len (by decide +kernel) (pa_cons (pv 0) pa_nil)) (nomark _)) (pss_one (ps_ret (pe_ix ix_list (pv 0) (pv 1) (fun _ _ => rfl)))) pss_nil) (pss_one (ps_ret pe_int))), ?_⟩)
  obtain ⟨v0, v1, rfl, h⟩ := h
  dsimp only [cxOf, L2.start]
  obtain ⟨a, xs, n, rfl, rfl, n0, ha, k⟩ := h
  walk_at "s"
  refine if_d (fun h => ?_) (fun h => ?_)
  · obtain ⟨y, _, hy⟩ := at_ints n0 h
    walk_at "s"
    exact k y
  · walk_at "s"
    exact k 0
theorem sc__law_mix : FnScope ["_law_cell", "_law_factor", "_law_prime"] ["_law_cell", "_law_factor", "_law_prime"] (defScope s__law_mix) := ⟨rfl, rfl, rfl, by decide +kernel, rfl, by decide +kernel, by decide +kernel⟩
theorem ok__law_mix {P : Program} {w : World} {K : PySem.W.Frag} {mg : Str → Option Value} {base : Heap} (T : Txt K mg) : Cee P w K mg base 1 (He.fAd K ("_law_mix", none)) ["_law_cell", "_law_factor", "_law_prime"] (sp__law_mix K) := by
  refine cee_of T.d__law_mix sc__law_mix (fun _ _ _ _ _ _ us hl => match us, hl with | [_, _, _], _ => rfl) (fun vs H Q E h => sp3_len h) (fun cdv A outer s H vs Q E hr h => ⟨_, (pss_one (ps_ret (pe_op op_mod (pe_op op_mul (pv 0) (pv 1)) (pv 2)))), ?_⟩)
  obtain ⟨v0, v1, v2, rfl, h⟩ := h
  dsimp only [cxOf, L2.start]
  obtain ⟨i, j, m, rfl, rfl, rfl, hm, m0, k⟩ := h
  walk_at "s"
  exact k _ (Int.emod_nonneg _ (by omega)) (Int.emod_lt_of_pos _ m0)
theorem sc__law_numbers : FnScope ["_law_found", "_law_due", "_law_number"] ["_law_found", "_law_due"] (defScope s__law_numbers) := ⟨rfl, rfl, rfl, by decide +kernel, rfl, by decide +kernel, by decide +kernel⟩
theorem ok__law_numbers {P : Program} {w : World} {K : PySem.W.Frag} {mg : Str → Option Value} {base : Heap} (T : Txt K mg) : Cee P w K mg base 2 (He.fAd K ("_law_numbers", none)) ["_law_found", "_law_due"] (sp__law_numbers K) := by
  have c__law_whole : Cee P w K mg base 1 (He.fAd K ("_law_whole", none)) ["_law_found"] (sp__law_whole K) := ok__law_whole T
  refine cee_of T.d__law_numbers sc__law_numbers (fun _ _ _ _ _ _ us hl => match us, hl with | [_, _], _ => rfl) (fun vs H Q E h => sp2_len h) (fun cdv A outer s H vs Q E hr h => ⟨_, (pss_cons (ps_if (PW.pt (pw_or (pt_not (pt_val (pe_callB call_isi (by rfl) T.n_isinstance (by decide +kernel) (pa_cons (pv 0) (pa_cons (pe_bltn (v := .ty "list") rfl T.n_list (by decide +kernel) rfl) pa_nil))))) (pw_or1 (pt_cmpR op_ne (pe_callB call_len_seq (by rfl) T.n_len (by decide +kernel) (pa_cons (pv 0) pa_nil)) (pe_callB call_len_seq (by rfl) T.n_len (by decide +kernel) (pa_cons (pv 1) pa_nil)) (nomark _))))) (pss_one (ps_ret pe_bl)) pss_nil) (pss_cons (ps_for (passes_of rfl) rfl (PI.box (pi_list (pv 0))) (pg_name (i := 2) sc__law_numbers.nd rfl (Or.inl rfl)) (pss_one (ps_if (pt_not (pt_val (pe_f c__law_whole (hr.mono (by decide)) (takes_of rfl rfl rfl rfl) (by rfl) T.g__law_whole (pa_cons (pv 2) pa_nil)))) (pss_one (ps_ret pe_bl)) pss_nil))) (pss_one (ps_ret (pe_cmpR (op_eqD hr.units) (pv 0) (pv 1) (nomark _)))))), ?_⟩)
  obtain ⟨v0, v1, rfl, h⟩ := h
  dsimp only [cxOf, L2.start]
  obtain ⟨a, b, ns, rfl, rfl, ha, hb, k⟩ := h
  walk_at "s"
  refine if_nii (fun h => absurd rfl h) (fun _ => ?_)
  walk_at "s"
  refine forL (K := K) (a := a) (xs := ns.map V.int) (fun i σ H' => H' = H ∧ ∃ v2, σ = [some (.ref a), some (.ref b), v2]) ⟨rfl, _, rfl⟩ (fun i σ H' _ h => by rw [h.1]; exact SqL.of ha) ?_ ?_
  · rintro i x σ H' hx ⟨rfl, v2, rfl⟩
    obtain ⟨y, hy, rfl⟩ := map_get hx
    walk_at "s"
    refine ask1 ⟨y, rfl, ?_⟩
    walk_at "s"
    exact ⟨rfl, _, rfl⟩
  · rintro σ H' ⟨rfl, v2, rfl⟩
    walk_at "s"
    exact eq_ints ha hb (by rw [decide_eq_true rfl]; exact k)

/-! ## the law's deeds -/
def DeedOk (many : Int) (H : Hp) (v : V) : Prop := ∃ t w p n, v = .ref t ∧ H t = some (.tup [.int w, .int p, .int n]) ∧ 0 ≤ w ∧ w < 7 ∧ -1 ≤ p ∧ p < many + 2 ∧ 0 ≤ n ∧ n < 256
theorem DeedOk.mono {H0 H : Hp} {A : List Addr} {cs : Cells} {v : V} {many : Int} (h : DeedOk many H0 v) (O : Own H0 H A cs) : DeedOk many H v := by
  obtain ⟨t, w, p, n, e, h1, h2⟩ := h
  exact ⟨t, w, p, n, e, O.tp _ _ h1, h2⟩
def sp__law_deeds_by (K : PySem.W.Frag) : Sp := sp2 fun x y H Q _ => ∃ (a : Addr) (xs : List Int) (many : Nat), x = .ref a ∧ y = .int many ∧ many ≤ 60 ∧ SqL K H a (xs.map V.int) ∧ xs.length ≤ 63 ∧
  ∀ (H' : Hp) (b : Addr) (ds : List V), Own H H' [] [(b, .lst ds)] → (∀ d ∈ ds, DeedOk many H' d) → ds.length ≤ 300 → Q (.ref b) H'
theorem sc__law_deeds_by : FnScope ["_law_script", "_law_many", "_law_deeds", "_law_digits", "_law_cell", "_law_left", "_law_turns", "_law_page"] ["_law_script", "_law_many"] (defScope s__law_deeds_by) := ⟨rfl, rfl, rfl, by decide +kernel, rfl, by decide +kernel, by decide +kernel⟩
theorem ok__law_deeds_by {P : Program} {w : World} {K : PySem.W.Frag} {mg : Str → Option Value} {base : Heap} (T : Txt K mg) : Cee P w K mg base 2 (He.fAd K ("_law_deeds_by", none)) ["_law_script", "_law_many"] (sp__law_deeds_by K) := by
  have c__law_cell_at : Cee P w K mg base 1 (He.fAd K ("_law_cell_at", none)) ["_law_script", "_law_k"] (sp__law_cell_at K) := ok__law_cell_at T
  have c__law_mix : Cee P w K mg base 1 (He.fAd K ("_law_mix", none)) ["_law_cell", "_law_factor", "_law_prime"] (sp__law_mix K) := ok__law_mix T
  refine cee_of T.d__law_deeds_by sc__law_deeds_by (fun _ _ _ _ _ _ us hl => match us, hl with | [_, _], _ => rfl) (fun vs H Q E h => sp2_len h) (fun cdv A outer s H vs Q E hr h => ⟨_, (pss_cons (ps_set (i := 2) sc__law_deeds_by.nd rfl (Or.inl rfl) (pe_lst pa_nil)) (pss_cons (ps_set (i := 3) sc__law_deeds_by.nd rfl (Or.inl rfl) (pe_cmpR op_eq (pe_op op_mod (pe_f c__law_cell_at (hr.mono (by decide)) (takes_of rfl rfl rfl rfl) (by rfl) T.g__law_cell_at (pa_cons (pv 0) (pa_cons pe_int pa_nil))) pe_int) pe_int (nomark _))) (pss_cons (ps_for (passes_of rfl) rfl (PI.box (pi_list (pe_slice sl_list (pv 0) (po_some pe_int) po_none))) (pg_name (i := 4) sc__law_deeds_by.nd rfl (Or.inl rfl)) (pss_cons (ps_set (i := 5) sc__law_deeds_by.nd rfl (Or.inl rfl) (pe_callB (call_max2 rfl) (by rfl) T.n_max (by decide +kernel) (pa_cons (pv 4) (pa_cons (pe_un un_neg (pv 4)) pa_nil)))) (pss_cons (PS.box (ps_if (pt_not (pt_val (pv 3))) (pss_one (ps_set (i := 5) sc__law_deeds_by.nd rfl (Or.inl rfl) (pe_f c__law_mix (hr.mono (by decide)) (takes_of rfl rfl rfl rfl) (by rfl) T.g__law_mix (pa_cons (pe_op op_add (pe_f c__law_mix (hr.mono (by decide)) (takes_of rfl rfl rfl rfl) (by rfl) T.g__law_mix (pa_cons (pv 4) (pa_cons pe_int (pa_cons pe_int pa_nil)))) pe_int) (pa_cons pe_int (pa_cons pe_int pa_nil)))))) pss_nil)) (pss_cons (ps_set (i := 6) sc__law_deeds_by.nd rfl (Or.inl rfl) pe_int) (pss_one (PS.box (ps_while (passes_of rfl) (PW.pt (pw_or (pt_cmpR op_eq (pv 6) pe_int (nomark _)) (pw_or1 (PW.pt (pw_and (pt_val (pv 3)) (pw_and (pt_cmpR op_gt (pv 5) pe_int (nomark _)) (pw_and1 (pt_cmpR op_lt (pv 6) pe_int (nomark _))))))))) (pss_cons (ps_set (i := 7) sc__law_deeds_by.nd rfl (Or.inl rfl) (pe_op op_sub (pe_op op_mod (pe_op op_fdiv (pv 5) pe_int) (pe_op op_add (pv 1) pe_int)) pe_int)) (pss_cons (ps_expr (pe_bm PySem.F.plainAttrs_list PySem.F.slot_list_append PySem.F.type_list_append mt_append (pv 2) (pa_cons (pe_tup (pa_cons (pe_op op_mod (pv 5) pe_int) (pa_cons (pv 7) (pa_cons (pe_op op_mod (pe_op op_fdiv (pe_op op_fdiv (pv 5) pe_int) (pe_op op_add (pv 1) pe_int)) pe_int) pa_nil)))) pa_nil))) (pss_cons (ps_set (i := 5) sc__law_deeds_by.nd rfl (Or.inl rfl) (pe_op op_fdiv (pe_op op_fdiv (pe_op op_fdiv (pv 5) pe_int) (pe_op op_add (pv 1) pe_int)) pe_int)) (pss_one (ps_aug (i := 6) sc__law_deeds_by.nd rfl (Or.inl rfl) pe_int ip_add)))))))))))) (pss_one (ps_ret (pe_slice sl_list (pv 2) po_none (po_some pe_int))))))), ?_⟩)
  obtain ⟨v0, v1, rfl, h⟩ := h
  dsimp only [cxOf, L2.start]
  obtain ⟨a, xs, many, rfl, rfl, hmany, ha, hl, k⟩ := h
  walk_at "s"
  intro b hb
  have O1 := (Own.start (H := H)).new (o := .lst []) hb
  walk_at "s"
  refine ask2 ⟨a, xs, 0, rfl, rfl, Int.le_refl _, O1.sq ha, fun i => ?_⟩
  walk_at "s"
  intro c hc
  have O2 := O1.new (o := .lst (cutV (xs.map V.int) (some 1) none)) hc
  have hcl := cutV_length (xs.map V.int) (some 1) none
  rw [List.length_map] at hcl
  walk_at "s"
  refine forL (K := K) (a := c) (xs := cutV (xs.map V.int) (some 1) none) (fun i σ H' => ∃ (v3 v4 v5 v6 : Option V) (d : Bool) (ds : List V), σ = [some (.ref a), some (.int many), some (.ref b), some (.bl d), v3, v4, v5, v6] ∧ Own H H' [] [(c, .lst (cutV (xs.map V.int) (some 1) none)), (b, .lst ds)] ∧
    (∀ d ∈ ds, DeedOk many H' d) ∧ ds.length ≤ 60 * i) ⟨_, _, _, _, _, [], rfl, O2, by simp, Nat.le_refl _⟩ (fun i σ H' _ ⟨_, _, _, _, _, _, _, O, _⟩ => SqL.of (O.get List.mem_cons_self)) ?_ ?_
  · rintro i x σ H' hx ⟨v3, v4, v5, v6, d, ds, rfl, O3, hds, hl3⟩
    have hi := (List.getElem?_eq_some_iff.mp hx).1
    obtain ⟨y, rfl⟩ := cut_ints hx
    walk_at "s"
    refine cutS (fun σ' H2 => H2 = H' ∧ ∃ l : Int, σ' = [some (.ref a), some (.int many), some (.ref b), some (.bl d), some (.int y), some (.int l), v5, v6]) (fun nx hn => ?_) ?_
    · walk_at "s"
      refine if_nb (fun hd => ?_) (fun hd => ?_)
      · walk_at "s"
        refine ask3 ⟨_, _, _, rfl, rfl, rfl, cm_r ⟨by decide, by decide⟩, by decide, fun r r0 r1 => ?_⟩
        walk_at "s"
        refine ask3 ⟨_, _, _, rfl, rfl, rfl, cm_r ⟨by decide, by decide⟩, by decide, fun r r0 r1 => ?_⟩
        walk_at "s"
        exact hn _ _ ⟨rfl, _, rfl⟩
      · exact hn _ _ ⟨rfl, _, rfl⟩
    rintro σ H2 ⟨rfl, l, rfl⟩
    walk_at "s"
    refine whI (fun m σ H' => ∃ (l t : Int) (w6 : Option V) (ds : List V), σ = [some (.ref a), some (.int many), some (.ref b), some (.bl d), some (.int y), some (.int l), some (.int t), w6] ∧ Own H H' [] [(c, .lst (cutV (xs.map V.int) (some 1) none)), (b, .lst ds)] ∧
      (∀ d ∈ ds, DeedOk many H' d) ∧ 0 ≤ t ∧ t ≤ 60 ∧ (ds.length : Int) ≤ 60 * i + t ∧ m = (60 - t).toNat) _ ⟨_, 0, _, ds, rfl, O3, hds, Int.le_refl _, by decide, by omega, rfl⟩ ?_
    rintro m σ H'' ⟨l, t, w6, ds2, rfl, O4, hds4, t0, t1, hl4, rfl⟩
    refine cutT (fun b H3 => H3 = H'' ∧ (b = true → t < 60) ∧ (b = false → 1 ≤ t)) (fun post hp => ?_) ?_
    · walk_at "s"
      refine if_ii (fun ht => hp _ _ ⟨rfl, fun _ => by omega, nofun⟩) (fun ht => ?_)
      walk_at "s"
      refine if_b (fun hd2 => ?_) (fun hd2 => hp _ _ ⟨rfl, nofun, fun _ => by omega⟩)
      walk_at "s"
      refine if_d (fun hz => ?_) (fun hz => hp _ _ ⟨rfl, nofun, fun _ => by omega⟩)
      walk_at "s"
      exact hp _ _ ⟨rfl, fun z => of_decide_eq_true z, fun _ => by omega⟩
    rintro bb H3 ⟨rfl, hb1, hb2⟩
    refine if_b (fun e => ?_) (fun e => ?_)
    · have ht := hb1 e
      refine whN ?_
      walk_at "s"
      intro u hu
      have O5 := O4.newT (o := .tup [.int (l % 7), .int (l / 7 % (many + 3) - 1), .int (l / 7 / (many + 3) % 256)]) hu
      walk_at "s"
      have O6 := (O4.self.newT (o := .tup [.int (l % 7), .int (l / 7 % (many + 3) - 1), .int (l / 7 / (many + 3) % 256)]) hu).wr (o' := .lst (ds2 ++ [.ref u])) (.there .here)
      refine ⟨(60 - (t + 1)).toNat, ?_, _, t + 1, _, ds2 ++ [.ref u], rfl, O5.wr (.there .here), ?_, ?_, ?_, ?_, rfl⟩
      · omega
      · intro d hd
        rcases List.mem_append.mp hd with hd | hd
        · exact (hds4 d hd).mono O6
        · rw [List.mem_singleton.mp hd]
          have hp0 := Int.emod_nonneg (l / 7) (b := (many : Int) + 3) (by omega)
          have hp1 := Int.emod_lt_of_pos (l / 7) (b := (many : Int) + 3) (by omega)
          refine ⟨u, l % 7, l / 7 % (many + 3) - 1, l / 7 / (many + 3) % 256, rfl, ?_, by omega, by omega, by omega, by omega, by omega, by omega⟩
          rw [upd_ne (fun z => by have := O4.get (a := b) (List.mem_cons_of_mem _ List.mem_cons_self); rw [← z, hu] at this; cases this)]
          exact upd_same
      · omega
      · omega
      · rw [List.length_append, List.length_singleton]; omega
    · exact ⟨_, _, _, _, _, ds2, rfl, O4, hds4, by have := hb2 e; omega⟩
  · rintro σ H' ⟨v3, v4, v5, v6, d, ds, rfl, O3, hds, hl3⟩
    walk_at "s"
    intro e he
    have O4 := (O3.new (o := .lst (cutV ds none (some 300))) he).drop (cs' := [(e, .lst (cutV ds none (some 300)))]) (.cons₂ _ (.cons _ (.cons _ (.refl _))))
    refine k _ e _ O4 ?_ (cutV_take ds 300)
    intro d hd
    exact (hds d (cutV_sub _ _ _ hd)).mono (O3.self.new he)

theorem eqD_int {K : PySem.W.Frag} {H : Hp} {i j : Int} {Q : VK} (k : Q (.bl (decide (i = j))) H) : rEqD K (.int i) (.int j) H Q :=
  ⟨.int i, .int j, .int i, .int j, by simp [SeqAt.shaped, PyData.canLay0, PyData.depth], by simp [SeqAt.shaped, PyData.canLay0, PyData.depth], by
    have e : PyData.eqv (.int i) (.int j) = decide (i = j) := by
      show (i == j) = _
      by_cases h : i = j
      · rw [decide_eq_true h, h]; simp
      · rw [decide_eq_false h]; simp [h]
    rw [e]
    exact k⟩
def sp__law_is (K : PySem.W.Frag) : Sp := sp2 fun x y H Q _ => ((x = .non ∧ y = .non) ∨ ∃ i, x = .int i ∧ y = .int i) ∧ Q (.bl true) H
def sp__law_only (K : PySem.W.Frag) : Sp := sp2 fun x y H Q _ => ∃ a, x = .ref a ∧ y = .str "NoOwner" ∧ H a = some (CxO (.ref (He.ga K "NoOwner")) none a) ∧ ∀ H', Own H H' [] [] → Q (.bl true) H'
def onlyS : List Str := ["Again", "BadCall", "BadMode", "BadName", "BadRow", "Broken", "Fallen", "Inside", "IsDir", "NoBlock", "NoChild", "NoHandle", "NoName", "NoNode", "NoOwner", "NoPage", "NoRoom", "NoSpace", "NoTask", "NotAllowed", "NotDir", "NotEmpty", "NotHeld", "Taken", "TooBig", "TooMany"]
def onlyN : List V := onlyS.map V.str
def onlyT : List V := (List.range 26).map fun j => V.bl (decide (j = 14))
theorem sc__law_is : FnScope ["_law_found", "_law_due"] ["_law_found", "_law_due"] (defScope s__law_is) := ⟨rfl, rfl, rfl, by decide +kernel, rfl, by decide +kernel, by decide +kernel⟩
theorem ok__law_is {P : Program} {w : World} {K : PySem.W.Frag} {mg : Str → Option Value} {base : Heap} (T : Txt K mg) : Cee P w K mg base 2 (He.fAd K ("_law_is", none)) ["_law_found", "_law_due"] (sp__law_is K) := by
  have c__law_whole : Cee P w K mg base 1 (He.fAd K ("_law_whole", none)) ["_law_found"] (sp__law_whole K) := ok__law_whole T
  refine cee_of T.d__law_is sc__law_is (fun _ _ _ _ _ _ us hl => match us, hl with | [_, _], _ => rfl) (fun vs H Q E h => sp2_len h) (fun cdv A outer s H vs Q E hr h => ⟨_, (pss_cons (ps_if (pt_cmpR op_isN (pv 1) pe_non (nomark _)) (pss_one (ps_ret (pe_cmpR op_isN (pv 0) pe_non (nomark _)))) pss_nil) (pss_one (ps_ret (pe_and (pe_f c__law_whole (hr.mono (by decide)) (takes_of rfl rfl rfl rfl) (by rfl) T.g__law_whole (pa_cons (pv 0) pa_nil)) (pe_one (pe_cmpR (op_eqD hr.units) (pv 0) (pv 1) (nomark _))))))), ?_⟩)
  obtain ⟨v0, v1, rfl, h⟩ := h
  dsimp only [cxOf, L2.start]
  obtain ⟨h | ⟨i, rfl, rfl⟩, k⟩ := h
  · obtain ⟨rfl, rfl⟩ := h
    walk_at "s"
    exact k
  · walk_at "s"
    refine ask1 ⟨i, rfl, ?_⟩
    walk_at "s"
    exact eqD_int (by rw [decide_eq_true rfl]; exact k)
theorem sc__law_only : FnScope ["_law_caught", "_law_due", "_law_names", "_law_told", "_law_k"] ["_law_caught", "_law_due"] (defScope s__law_only) := ⟨rfl, rfl, rfl, by decide +kernel, rfl, by decide +kernel, by decide +kernel⟩
theorem ok__law_only {P : Program} {w : World} {K : PySem.W.Frag} {mg : Str → Option Value} {base : Heap} (T : Txt K mg) : Cee P w K mg base 1 (He.fAd K ("_law_only", none)) ["_law_caught", "_law_due"] (sp__law_only K) := by
  refine cee_of T.d__law_only sc__law_only (fun _ _ _ _ _ _ us hl => match us, hl with | [_, _], _ => rfl) (fun vs H Q E h => sp2_len h) (fun cdv A outer s H vs Q E hr h => ⟨_, (pss_cons (ps_set (i := 2) sc__law_only.nd rfl (Or.inr rfl) (pe_lst (pa_cons pe_str (pa_cons pe_str (pa_cons pe_str (pa_cons pe_str (pa_cons pe_str (pa_cons pe_str (pa_cons pe_str (pa_cons pe_str (pa_cons pe_str (pa_cons pe_str pa_nil)))))))))))) (pss_cons (ps_set (i := 2) sc__law_only.nd rfl (Or.inr rfl) (pe_op op_cat (pv 2) (pe_lst (pa_cons pe_str (pa_cons pe_str (pa_cons pe_str (pa_cons pe_str (pa_cons pe_str (pa_cons pe_str (pa_cons pe_str (pa_cons pe_str (pa_cons pe_str pa_nil)))))))))))) (pss_cons (ps_set (i := 2) sc__law_only.nd rfl (Or.inr rfl) (pe_op op_cat (pv 2) (pe_lst (pa_cons pe_str (pa_cons pe_str (pa_cons pe_str (pa_cons pe_str (pa_cons pe_str (pa_cons pe_str (pa_cons pe_str pa_nil)))))))))) (pss_cons (ps_set (i := 3) sc__law_only.nd rfl (Or.inr rfl) (pe_lst (pa_cons (pe_callB call_isX (by rfl) T.n_isinstance (by decide +kernel) (pa_cons (pv 0) (pa_cons (pe_glob (v := .ref (He.ga K "Again")) rfl T.g_Again rfl) pa_nil))) (pa_cons (pe_callB call_isX (by rfl) T.n_isinstance (by decide +kernel) (pa_cons (pv 0) (pa_cons (pe_glob (v := .ref (He.ga K "BadCall")) rfl T.g_BadCall rfl) pa_nil))) (pa_cons (pe_callB call_isX (by rfl) T.n_isinstance (by decide +kernel) (pa_cons (pv 0) (pa_cons (pe_glob (v := .ref (He.ga K "BadMode")) rfl T.g_BadMode rfl) pa_nil))) pa_nil))))) (pss_cons (ps_set (i := 3) sc__law_only.nd rfl (Or.inr rfl) (pe_op op_cat (pv 3) (pe_lst (pa_cons (pe_callB call_isX (by rfl) T.n_isinstance (by decide +kernel) (pa_cons (pv 0) (pa_cons (pe_glob (v := .ref (He.ga K "BadName")) rfl T.g_BadName rfl) pa_nil))) (pa_cons (pe_callB call_isX (by rfl) T.n_isinstance (by decide +kernel) (pa_cons (pv 0) (pa_cons (pe_glob (v := .ref (He.ga K "BadRow")) rfl T.g_BadRow rfl) pa_nil))) (pa_cons (pe_callB call_isX (by rfl) T.n_isinstance (by decide +kernel) (pa_cons (pv 0) (pa_cons (pe_glob (v := .ref (He.ga K "Broken")) rfl T.g_Broken rfl) pa_nil))) pa_nil)))))) (pss_cons (ps_set (i := 3) sc__law_only.nd rfl (Or.inr rfl) (pe_op op_cat (pv 3) (pe_lst (pa_cons (pe_callB call_isX (by rfl) T.n_isinstance (by decide +kernel) (pa_cons (pv 0) (pa_cons (pe_glob (v := .ref (He.ga K "Fallen")) rfl T.g_Fallen rfl) pa_nil))) (pa_cons (pe_callB call_isX (by rfl) T.n_isinstance (by decide +kernel) (pa_cons (pv 0) (pa_cons (pe_glob (v := .ref (He.ga K "Inside")) rfl T.g_Inside rfl) pa_nil))) (pa_cons (pe_callB call_isX (by rfl) T.n_isinstance (by decide +kernel) (pa_cons (pv 0) (pa_cons (pe_glob (v := .ref (He.ga K "IsDir")) rfl T.g_IsDir rfl) pa_nil))) pa_nil)))))) (pss_cons (ps_set (i := 3) sc__law_only.nd rfl (Or.inr rfl) (pe_op op_cat (pv 3) (pe_lst (pa_cons (pe_callB call_isX (by rfl) T.n_isinstance (by decide +kernel) (pa_cons (pv 0) (pa_cons (pe_glob (v := .ref (He.ga K "NoBlock")) rfl T.g_NoBlock rfl) pa_nil))) (pa_cons (pe_callB call_isX (by rfl) T.n_isinstance (by decide +kernel) (pa_cons (pv 0) (pa_cons (pe_glob (v := .ref (He.ga K "NoChild")) rfl T.g_NoChild rfl) pa_nil))) (pa_cons (pe_callB call_isX (by rfl) T.n_isinstance (by decide +kernel) (pa_cons (pv 0) (pa_cons (pe_glob (v := .ref (He.ga K "NoHandle")) rfl T.g_NoHandle rfl) pa_nil))) pa_nil)))))) (pss_cons (ps_set (i := 3) sc__law_only.nd rfl (Or.inr rfl) (pe_op op_cat (pv 3) (pe_lst (pa_cons (pe_callB call_isX (by rfl) T.n_isinstance (by decide +kernel) (pa_cons (pv 0) (pa_cons (pe_glob (v := .ref (He.ga K "NoName")) rfl T.g_NoName rfl) pa_nil))) (pa_cons (pe_callB call_isX (by rfl) T.n_isinstance (by decide +kernel) (pa_cons (pv 0) (pa_cons (pe_glob (v := .ref (He.ga K "NoNode")) rfl T.g_NoNode rfl) pa_nil))) (pa_cons (pe_callB call_isX (by rfl) T.n_isinstance (by decide +kernel) (pa_cons (pv 0) (pa_cons (pe_glob (v := .ref (He.ga K "NoOwner")) rfl T.g_NoOwner rfl) pa_nil))) pa_nil)))))) (pss_cons (ps_set (i := 3) sc__law_only.nd rfl (Or.inr rfl) (pe_op op_cat (pv 3) (pe_lst (pa_cons (pe_callB call_isX (by rfl) T.n_isinstance (by decide +kernel) (pa_cons (pv 0) (pa_cons (pe_glob (v := .ref (He.ga K "NoPage")) rfl T.g_NoPage rfl) pa_nil))) (pa_cons (pe_callB call_isX (by rfl) T.n_isinstance (by decide +kernel) (pa_cons (pv 0) (pa_cons (pe_glob (v := .ref (He.ga K "NoRoom")) rfl T.g_NoRoom rfl) pa_nil))) (pa_cons (pe_callB call_isX (by rfl) T.n_isinstance (by decide +kernel) (pa_cons (pv 0) (pa_cons (pe_glob (v := .ref (He.ga K "NoSpace")) rfl T.g_NoSpace rfl) pa_nil))) pa_nil)))))) (pss_cons (ps_set (i := 3) sc__law_only.nd rfl (Or.inr rfl) (pe_op op_cat (pv 3) (pe_lst (pa_cons (pe_callB call_isX (by rfl) T.n_isinstance (by decide +kernel) (pa_cons (pv 0) (pa_cons (pe_glob (v := .ref (He.ga K "NoTask")) rfl T.g_NoTask rfl) pa_nil))) (pa_cons (pe_callB call_isX (by rfl) T.n_isinstance (by decide +kernel) (pa_cons (pv 0) (pa_cons (pe_glob (v := .ref (He.ga K "NotAllowed")) rfl T.g_NotAllowed rfl) pa_nil))) (pa_cons (pe_callB call_isX (by rfl) T.n_isinstance (by decide +kernel) (pa_cons (pv 0) (pa_cons (pe_glob (v := .ref (He.ga K "NotDir")) rfl T.g_NotDir rfl) pa_nil))) pa_nil)))))) (pss_cons (ps_set (i := 3) sc__law_only.nd rfl (Or.inr rfl) (pe_op op_cat (pv 3) (pe_lst (pa_cons (pe_callB call_isX (by rfl) T.n_isinstance (by decide +kernel) (pa_cons (pv 0) (pa_cons (pe_glob (v := .ref (He.ga K "NotEmpty")) rfl T.g_NotEmpty rfl) pa_nil))) (pa_cons (pe_callB call_isX (by rfl) T.n_isinstance (by decide +kernel) (pa_cons (pv 0) (pa_cons (pe_glob (v := .ref (He.ga K "NotHeld")) rfl T.g_NotHeld rfl) pa_nil))) (pa_cons (pe_callB call_isX (by rfl) T.n_isinstance (by decide +kernel) (pa_cons (pv 0) (pa_cons (pe_glob (v := .ref (He.ga K "Taken")) rfl T.g_Taken rfl) pa_nil))) pa_nil)))))) (pss_cons (ps_set (i := 3) sc__law_only.nd rfl (Or.inr rfl) (pe_op op_cat (pv 3) (pe_lst (pa_cons (pe_callB call_isX (by rfl) T.n_isinstance (by decide +kernel) (pa_cons (pv 0) (pa_cons (pe_glob (v := .ref (He.ga K "TooBig")) rfl T.g_TooBig rfl) pa_nil))) (pa_cons (pe_callB call_isX (by rfl) T.n_isinstance (by decide +kernel) (pa_cons (pv 0) (pa_cons (pe_glob (v := .ref (He.ga K "TooMany")) rfl T.g_TooMany rfl) pa_nil))) pa_nil))))) (pss_cons (ps_if (PW.pt (pw_or (pt_not (pt_val (pe_callB call_isX (by rfl) T.n_isinstance (by decide +kernel) (pa_cons (pv 0) (pa_cons (pe_glob (v := .ref (He.ga K "KernelError")) rfl T.g_KernelError rfl) pa_nil))))) (pw_or1 (pt_not (pt_val (pe_callB call_isX (by rfl) T.n_isinstance (by decide +kernel) (pa_cons (pv 0) (pa_cons (pe_bltn (v := .ty "ValueError") rfl T.n_ValueError (by decide +kernel) rfl) pa_nil)))))))) (pss_one (ps_ret pe_bl)) pss_nil) (pss_one (ps_ret (pe_cmpR (op_eqD hr.units) (pe_lc (own := [("_law_k", 4)]) (by rfl) sc__law_only.nd (PI.box (pi_range1 (by rfl) T.n_range (pa_cons (pe_callB call_len_seq (by rfl) T.n_len (by decide +kernel) (pa_cons (pv 2) pa_nil)) pa_nil))) (blkOk_by (own := [("_law_k", 4)]) (N := ["_law_caught", "_law_due", "_law_names", "_law_told", "_law_k"]) (sc := defScope s__law_only) (by decide +kernel)) (fun _ _ _ _ _ => (pg_name (i := 4) sc__law_only.nd rfl (Or.inl rfl))) (fun _ _ _ _ _ => (pts_one (pt_val (pe_ix (show IxR _ (rIxL K) from ix_list) (pv 3) (pv 4) (fun _ _ => rfl))))) (fun _ _ _ _ _ => (pe_ix (show IxR _ (rIxL K) from ix_list) (pv 2) (pv 4) (fun _ _ => rfl)))) (pe_lst (pa_cons (pv 1) pa_nil)) (nomark _))))))))))))))))), ?_⟩)
  obtain ⟨v0, v1, rfl, h⟩ := h
  dsimp only [cxOf, L2.start]
  obtain ⟨a, rfl, rfl, ha, k⟩ := h
  have O0 := Own.start (H := H)
  walk_at "s"
  intro b1 h1
  refine O0.nxt h1 fun O1 => ?_
  walk_at "s"
  intro b2 h2
  refine O1.nxtQ h2 fun O2 => ?_
  walk_at "s"
  intro b3 h3
  refine O2.nxt h3 fun O3 => ?_
  clear O1 O2
  walk_at "s"
  intro b4 h4
  refine O3.nxtQ h4 fun O4 => ?_
  walk_at "s"
  intro b5 h5
  refine O4.nxt h5 fun O5 => ?_
  have O6 := O5.drop (cs' := [_]) (.cons₂ _ (.cons _ (.cons _ (.cons _ (.cons _ (.refl _))))))
  clear O3 O4 O5
  walk_at "s"
  intro b6 h6
  refine O6.nxt h6 fun P0 => ?_
  walk_at "s"
  intro c0 g0
  refine P0.nxtQ g0 fun Q1 => ?_
  walk_at "s"
  intro d0 k0
  refine Q1.nxt k0 fun Q2 => ?_
  have P1 := Q2.drop (cs' := [_, _]) (.cons₂ _ (.cons _ (.cons _ (.cons₂ _ (.refl _)))))
  clear P0 Q1 Q2
  walk_at "s"
  intro c1 g1
  refine P1.nxtQ g1 fun Q1 => ?_
  walk_at "s"
  intro d1 k1
  refine Q1.nxt k1 fun Q2 => ?_
  have P2 := Q2.drop (cs' := [_, _]) (.cons₂ _ (.cons _ (.cons _ (.cons₂ _ (.refl _)))))
  clear P1 Q1 Q2
  walk_at "s"
  intro c2 g2
  refine P2.nxtQ g2 fun Q1 => ?_
  walk_at "s"
  intro d2 k2
  refine Q1.nxt k2 fun Q2 => ?_
  have P3 := Q2.drop (cs' := [_, _]) (.cons₂ _ (.cons _ (.cons _ (.cons₂ _ (.refl _)))))
  clear P2 Q1 Q2
  walk_at "s"
  intro c3 g3
  refine P3.nxtQ g3 fun Q1 => ?_
  walk_at "s"
  intro d3 k3
  refine Q1.nxt k3 fun Q2 => ?_
  have P4 := Q2.drop (cs' := [_, _]) (.cons₂ _ (.cons _ (.cons _ (.cons₂ _ (.refl _)))))
  clear P3 Q1 Q2
  walk_at "s"
  intro c4 g4
  refine P4.nxtQ g4 fun Q1 => ?_
  walk_at "s"
  intro d4 k4
  refine Q1.nxt k4 fun Q2 => ?_
  have P5 := Q2.drop (cs' := [_, _]) (.cons₂ _ (.cons _ (.cons _ (.cons₂ _ (.refl _)))))
  clear P4 Q1 Q2
  walk_at "s"
  intro c5 g5
  refine P5.nxtQ g5 fun Q1 => ?_
  walk_at "s"
  intro d5 k5
  refine Q1.nxt k5 fun Q2 => ?_
  have P6 := Q2.drop (cs' := [_, _]) (.cons₂ _ (.cons _ (.cons _ (.cons₂ _ (.refl _)))))
  clear P5 Q1 Q2
  walk_at "s"
  intro c6 g6
  refine P6.nxtQ g6 fun Q1 => ?_
  walk_at "s"
  intro d6 k6
  refine Q1.nxt k6 fun Q2 => ?_
  have P7 := Q2.drop (cs' := [_, _]) (.cons₂ _ (.cons _ (.cons _ (.cons₂ _ (.refl _)))))
  clear P6 Q1 Q2
  walk_at "s"
  intro c7 g7
  refine P7.nxtQ g7 fun Q1 => ?_
  walk_at "s"
  intro d7 k7
  refine Q1.nxt k7 fun Q2 => ?_
  have P8 := Q2.drop (cs' := [_, _]) (.cons₂ _ (.cons _ (.cons _ (.cons₂ _ (.refl _)))))
  clear P7 Q1 Q2
  walk_at "s"
  have hN : ∀ j : Nat, j < 26 → atI onlyN (0 + (j : Int)) = some (.str (onlyS.getD j "")) := fun j hj => (by decide +kernel : ∀ j : Fin 26, atI onlyN (0 + ((j.1 : Nat) : Int)) = some (V.str (onlyS.getD j.1 ""))) ⟨j, hj⟩
  have hT : ∀ j : Nat, j < 26 → atI onlyT (0 + (j : Int)) = some (.bl (decide (j = 14))) := fun j hj => (by decide +kernel : ∀ j : Fin 26, atI onlyT (0 + ((j.1 : Nat) : Int)) = some (V.bl (decide (j.1 = 14)))) ⟨j, hj⟩
  have P9 : Own H _ [] [(d7, .lst onlyT), (b5, .lst onlyN)] := P8
  refine lcR (lo := 0) (n := 26) (fun D j H2 => Own H H2 [] [(D, .lst (if j ≤ 14 then [] else [.str "NoOwner"])), (d7, .lst onlyT), (b5, .lst onlyN)]) (fun D hD => P9.new hD) ?_ ?_
  · rintro D j H2 hj O2
    have h1 := hN j hj
    have h2 := hT j hj
    have hl : (if j ≤ 14 then ([] : List V) else [.str "NoOwner"]).length < 100000 := by split <;> decide
    walk_at "s"
    refine if_d (fun hj => ?_) (fun hj => ?_)
    · subst hj
      walk_at "s"
      exact ⟨O2.wr .here⟩
    · refine ⟨?_⟩
      by_cases hlt : j ≤ 13
      · rw [if_pos (by omega)]
        rw [if_pos (by omega)] at O2
        exact O2
      · rw [if_neg (by omega)]
        rw [if_neg (by omega)] at O2
        exact O2
  · rintro D H2 O2
    walk_at "s"
    intro z hz
    have O3 := O2.new (o := .lst ([("NoOwner" : Str)].map V.str)) hz
    exact eq_strs (ns := ["NoOwner"]) (ms := ["NoOwner"]) (by decide +kernel) (by decide +kernel) (O3.get (.tail _ (.head _))) (O3.get (.head _)) (by rw [decide_eq_true rfl]; exact k _ (O3.drop (List.nil_sublist _)))

def NonNeg (os : List Int) : Prop := ∀ x ∈ os, 0 ≤ x
theorem NonNeg.set {os : List Int} (h : NonNeg os) (i : Nat) {x : Int} (hx : 0 ≤ x) : NonNeg (os.set i x) := fun y hy => by
  rcases List.mem_or_eq_of_mem_set hy with z | z
  · exact h y z
  · rw [z]; exact hx
theorem cntS_set {os : List Int} {i : Nat} (h : i < os.length) (x : Int) (j : Int) : cntS (os.set i x) j = if j = i then x else cntS os j := by
  unfold cntS
  rw [List.length_set]
  by_cases z : 0 ≤ j ∧ j < os.length
  · rw [if_pos z, if_pos z]
    by_cases e : j = i
    · subst e
      rw [if_pos rfl, Int.toNat_natCast, List.getElem?_set_self h]
      rfl
    · rw [if_neg e, List.getElem?_set_ne (by omega)]
  · rw [if_neg z, if_neg z, if_neg (by omega)]
theorem NonNeg.cnt {os : List Int} (h : NonNeg os) (i : Int) : 0 ≤ cntS os i := by
  by_cases z : cntS os i = 0
  · omega
  · obtain ⟨n, x, _, hx, e⟩ := cntS_pos z
    rw [e]
    exact h x (List.mem_of_getElem? hx)
theorem NonNeg.rep (n : Nat) : NonNeg (List.replicate n 0) := fun x hx => by rw [List.eq_of_mem_replicate hx]; exact Int.le_refl _
theorem cntS_rep (n : Nat) (i : Int) : cntS (List.replicate n 0) i = 0 := by
  by_cases z : cntS (List.replicate n 0) i = 0
  · exact z
  · obtain ⟨k, x, _, hx, e⟩ := cntS_pos z
    rw [e]
    exact List.eq_of_mem_replicate (List.mem_of_getElem? hx)

/-- the store, the law's own counts and contents -/
structure S1 where
  p : Addr
  q : Addr × Addr × Addr
  os : List Int
  cs : List Pg
  c : Addr
  e : Addr
  rs : List Pg
def S1.cells (K : PySem.W.Frag) (t : S1) : Cells := (t.c, .lst (t.os.map V.int)) :: ((t.e, .lst (t.rs.map fun x => V.ref x.1)) :: t.rs.map pcel ++ cSto K t.p t.q t.os t.cs)
structure S1.Ok (t : S1) (n : Nat) : Prop where
  sto : StoOk t.os t.cs
  len : t.os.length = n
  rlen : t.rs.length = n
  nn : NonNeg t.os
  same : ∀ (i : Nat) (x y : Pg), t.os[i]? ≠ some 0 → t.cs[i]? = some x → t.rs[i]? = some y → y.2 = x.2
  wide : ∀ x ∈ t.cs, x.2.length ≤ 1000
abbrev S1.Eq (t u : S1) : Prop := u.p = t.p ∧ u.c = t.c ∧ u.e = t.e
def vals (v : Int) : List Int := [v, 255 - v, 0, v / 2, 1, 2, 255, v]
def sp__law_taken_down (K : PySem.W.Frag) : Sp := sp3 fun x y z H Q _ => ∃ (t : S1) (n : Nat), x = .ref t.p ∧ y = .ref t.c ∧ z = .ref t.e ∧ t.Ok n ∧ n ≤ 60 ∧ Own H H (adr (t.cells K)) (t.cells K) ∧
  ∀ (H' : Hp) (u : S1), Own H H' (adr (t.cells K)) (u.cells K) → u.Ok n → t.Eq u → Q (.bl true) H'
def sp__law_done (K : PySem.W.Frag) : Sp := sp4 fun x y z w H Q E => ∃ (p : Addr) (q : Addr × Addr × Addr) (os : List Int) (cs : List Pg) (m i v : Int), x = .ref p ∧ y = .int m ∧ z = .int i ∧ w = .int v ∧ (m = 1 ∨ m = 2 ∨ m = 3 ∨ m = 4) ∧ StoOk os cs ∧ Own H H (adr (cSto K p q os cs)) (cSto K p q os cs) ∧
  (cntS os i = 0 → ∀ H', Own H H' [] [] → E (.ref (He.ga K "NoOwner")) none H') ∧
  (cntS os i ≠ 0 → m = 1 → ∀ H', Own H H' (adr (cSto K p q os cs)) (cSto K p q (os.set i.toNat (cntS os i + 1)) cs) → Q .non H') ∧
  (cntS os i ≠ 0 → m = 2 → ∀ H', Own H H' (adr (cSto K p q os cs)) (cSto K p q (os.set i.toNat (cntS os i - 1)) cs) → Q .non H') ∧
  (cntS os i ≠ 0 → m = 3 → ∀ H' c, Own H H' (adr (cSto K p q os cs)) (cSto K p q os (cs.set i.toNat (c, vals v))) → Q .non H') ∧
  (cntS os i ≠ 0 → m = 4 → ∀ H' c x, cs[i.toNat]? = some x → Own H H' (adr (cSto K p q os cs)) ((c, .lst (x.2.map V.int)) :: cSto K p q os cs) → Q (.ref c) H')
def sp__law_refused (K : PySem.W.Frag) : Sp := sp4 fun x y z w H Q E => ∃ (p : Addr) (q : Addr × Addr × Addr) (os : List Int) (cs : List Pg) (m i v : Int), x = .ref p ∧ y = .int m ∧ z = .int i ∧ w = .int v ∧ (m = 1 ∨ m = 2 ∨ m = 3 ∨ m = 4) ∧ StoOk os cs ∧ cntS os i = 0 ∧ Own H H (adr (cSto K p q os cs)) (cSto K p q os cs) ∧ ∀ H', Own H H' [] [] → Q (.bl true) H'
def sp__law_deed (K : PySem.W.Frag) : Sp := sp4 fun x y z w H Q _ => ∃ (t : S1) (n : Nat) (d : Addr) (m i v : Int), x = .ref t.p ∧ y = .ref d ∧ z = .ref t.c ∧ w = .ref t.e ∧ H d = some (.tup [.int m, .int i, .int v]) ∧ 0 ≤ m ∧ m < 7 ∧ t.Ok n ∧ n ≤ 60 ∧ Own H H (adr (t.cells K)) (t.cells K) ∧
  ∀ (H' : Hp) (u : S1), Own H H' (adr (t.cells K)) (u.cells K) → u.Ok n → t.Eq u → Q (.bl true) H'
theorem sc__law_taken_down : FnScope ["_law_store", "_law_counts", "_law_contents", "_law_page"] ["_law_store", "_law_counts", "_law_contents"] (defScope s__law_taken_down) := ⟨rfl, rfl, rfl, by decide +kernel, rfl, by decide +kernel, by decide +kernel⟩
theorem ok__law_taken_down {P : Program} {w : World} {K : PySem.W.Frag} {mg : Str → Option Value} {base : Heap} (T : Txt K mg) : Cee P w K mg base 3 (He.fAd K ("_law_taken_down", none)) ["_law_store", "_law_counts", "_law_contents"] (sp__law_taken_down K) := by
  have c_Store_take : Cee P w K mg base 1 (He.fAd K ("Store", some "take")) ["self"] (sp_Store_take K) := ok_Store_take T
  have c__law_is : Cee P w K mg base 2 (He.fAd K ("_law_is", none)) ["_law_found", "_law_due"] (sp__law_is K) := ok__law_is T
  refine cee_of T.d__law_taken_down sc__law_taken_down (fun _ _ _ _ _ _ us hl => match us, hl with | [_, _, _], _ => rfl) (fun vs H Q E h => sp3_len h) (fun cdv A outer s H vs Q E hr h => ⟨_, (pss_cons (ps_set (i := 3) sc__law_taken_down.nd rfl (Or.inl rfl) pe_int) (pss_cons (PS.box (ps_while (passes_of rfl) (PW.pt (pw_and (pt_cmpR op_lt (pv 3) (pe_callB call_len_seq (by rfl) T.n_len (by decide +kernel) (pa_cons (pv 1) pa_nil)) (nomark _)) (pw_and1 (pt_cmpR op_gt (pe_ix ix_list (pv 1) (pv 3) (fun _ _ => rfl)) pe_int (nomark _))))) (pss_one (ps_aug (i := 3) sc__law_taken_down.nd rfl (Or.inl rfl) pe_int ip_add)))) (pss_cons (ps_if (pt_cmpR op_eq (pv 3) (pe_callB call_len_seq (by rfl) T.n_len (by decide +kernel) (pa_cons (pv 1) pa_nil)) (nomark _)) (pss_one (ps_ret (pe_cmpR op_isN (pe_m0 (pv 0) T.c_Store T.m_Store_take c_Store_take (hr.mono (by decide)) (takes_of rfl rfl rfl rfl)) pe_non (nomark _)))) pss_nil) (pss_cons (ps_asg pe_int (pg_sub (pv 1) (pv 3) set_list)) (pss_cons (ps_asg (pe_lst (pa_cons pe_int (pa_cons pe_int (pa_cons pe_int (pa_cons pe_int (pa_cons pe_int (pa_cons pe_int (pa_cons pe_int (pa_cons pe_int pa_nil))))))))) (pg_sub (pv 2) (pv 3) set_list)) (pss_one (ps_ret (pe_f c__law_is (hr.mono (by decide)) (takes_of rfl rfl rfl rfl) (by rfl) T.g__law_is (pa_cons (pe_m0 (pv 0) T.c_Store T.m_Store_take c_Store_take (hr.mono (by decide)) (takes_of rfl rfl rfl rfl)) (pa_cons (pv 3) pa_nil)))))))))), ?_⟩)
  obtain ⟨v0, v1, v2, rfl, h⟩ := h
  dsimp only [cxOf, L2.start]
  obtain ⟨t, n, rfl, rfl, rfl, ok, hn, O, k⟩ := h
  obtain ⟨p, q, os, cs, c, e, rs⟩ := t
  unfold S1.cells at O k
  dsimp only at O k
  have hl : os.length = n := ok.len
  have hrl : rs.length = n := ok.rlen
  have hcl : os.length = cs.length := ok.sto.len
  walk_at "s"
  refine whI (fun m σ H' => ∃ j : Nat, σ = [some (.ref p), some (.ref c), some (.ref e), some (.int j)] ∧ H' = H ∧ j ≤ n ∧ (∀ i : Nat, i < j → os[i]? ≠ some 0) ∧ m = n - j) _ ⟨0, rfl, rfl, by omega, by omega, rfl⟩ ?_
  rintro m σ H' ⟨j, rfl, rfl, hj, hlt, rfl⟩
  walk_at "s"
  refine if_d (fun h => ?_) (fun h => ?_)
  · rw [List.length_map] at h
    obtain ⟨y, hy, hat⟩ := at_ints (ns := os) (n := (j : Int)) (by omega) (by rw [List.length_map]; exact h)
    rw [Int.toNat_natCast] at hy
    have hy0 := ok.nn y (List.mem_of_getElem? hy)
    walk_at "s"
    refine if_d (fun h2 => ?_) (fun h2 => ?_)
    · refine whN ?_
      walk_at "s"
      refine ⟨n - (j + 1), by omega, j + 1, rfl, rfl, by omega, fun i hi => ?_, rfl⟩
      by_cases e : i = j
      · subst e; rw [hy]; intro z; cases z; omega
      · exact hlt i (by omega)
    · have hy00 : y = 0 := by omega
      subst hy00
      walk_at "s"
      refine if_ii (fun z => ?_) (fun _ => ?_)
      · rw [List.length_map] at z; omega
      have hix := ix_at (n := (os.map V.int).length) (i := j) (by rw [List.length_map]; omega)
      have hix2 := ix_at (n := (rs.map fun x : Pg => V.ref x.1).length) (i := j) (by rw [List.length_map]; omega)
      obtain ⟨r, hr⟩ : ∃ r, rs[j]? = some r := ⟨rs[j]'(by omega), List.getElem?_eq_getElem _⟩
      walk_at "s"
      intro l hl2
      have O1 := (O.wr (o' := .lst ((os.map V.int).set j (.int 1))) .here).new (o := .lst (zeros.map V.int)) hl2
      have O2 := Own.put2 (g := pcel) (b := (l, zeros)) (pre := [(c, .lst ((os.map V.int).set j (.int 1))), (e, .lst ((rs.map fun x : Pg => V.ref x.1).set j (.ref l)))]) (O1.wr (o' := .lst ((rs.map fun x : Pg => V.ref x.1).set j (.ref l))) (.there (.there .here))) hr
      have hpp := O2.get (a := p) (List.mem_append_right _ (List.mem_append_right _ (.head _)))
      walk_at "s"
      refine ask1 ⟨p, q, os, cs, rfl, ok.sto, O2.blk (s' := []) (.app (.app .all)), fun hz => absurd (List.mem_of_getElem? hy) hz, fun i hi him H6 c6 O6 => ?_⟩
      have hij : i = j := by
        by_cases h1 : i < j
        · exact absurd hi (hlt i h1)
        · by_cases h3 : j < i
          · exact absurd rfl (him j h3 0 hy)
          · omega
      subst hij
      have O7 := O2.call (.app (.app .all)) O6
      walk_at "s"
      refine ask2 ⟨.inr ⟨_, rfl, rfl⟩, ?_⟩
      refine k _ ⟨p, q, os.set i 1, cs.set i (c6, zeros), c, e, rs.set i (l, zeros)⟩ (O7.eq (by rw [set_map V.int, set_map (fun x : Pg => V.ref x.1) rs i (l, zeros)]; rfl)) ⟨⟨by rw [List.length_set, List.length_set]; exact hcl, by rw [List.length_set]; exact ok.sto.few⟩, by show (os.set i 1).length = n; rw [List.length_set]; exact hl, by show (rs.set i _).length = n; rw [List.length_set]; exact hrl, ok.nn.set i (by decide), fun m x y h1 h2 h3 => ?_, fun x hx => ?_⟩ ⟨rfl, rfl, rfl⟩
      · dsimp only at h1 h2 h3
        by_cases hm : m = i
        · subst hm
          rw [List.getElem?_set_self (by omega)] at h2 h3
          cases h2; cases h3; rfl
        · rw [List.getElem?_set_ne (Ne.symm hm)] at h1 h2 h3
          exact ok.same m x y h1 h2 h3
      · rcases List.mem_or_eq_of_mem_set hx with w | w
        · exact ok.wide x w
        · rw [w]; show 8 ≤ 1000; decide
  · rw [List.length_map] at h
    have hjn : j = n := by omega
    subst hjn
    walk_at "s"
    refine if_ii (fun _ => ?_) (fun z => absurd (by rw [List.length_map, hl]) z)
    walk_at "s"
    refine ask1 ⟨p, q, os, cs, rfl, ok.sto, O.blk (s' := []) (.there (.there (.app .all))), fun hz => ?_, fun i hi _ => absurd hi (hlt i (by have := (List.getElem?_eq_some_iff.mp hi).1; omega))⟩
    walk_at "s"
    exact k _ ⟨p, q, os, cs, c, e, rs⟩ O ok ⟨rfl, rfl, rfl⟩
theorem sc__law_done : FnScope ["_law_store", "_law_what", "_law_page", "_law_value"] ["_law_store", "_law_what", "_law_page", "_law_value"] (defScope s__law_done) := ⟨rfl, rfl, rfl, by decide +kernel, rfl, by decide +kernel, by decide +kernel⟩
theorem ok__law_done {P : Program} {w : World} {K : PySem.W.Frag} {mg : Str → Option Value} {base : Heap} (T : Txt K mg) : Cee P w K mg base 4 (He.fAd K ("_law_done", none)) ["_law_store", "_law_what", "_law_page", "_law_value"] (sp__law_done K) := by
  have c_Store_more : Cee P w K mg base 3 (He.fAd K ("Store", some "more")) ["self", "page"] (sp_Store_more K) := ok_Store_more T
  have c_Store_less : Cee P w K mg base 3 (He.fAd K ("Store", some "less")) ["self", "page"] (sp_Store_less K) := ok_Store_less T
  have c_Store_put : Cee P w K mg base 3 (He.fAd K ("Store", some "put")) ["self", "page", "cells"] (sp_Store_put K) := ok_Store_put T
  have c_Store_cells : Cee P w K mg base 3 (He.fAd K ("Store", some "cells")) ["self", "page"] (sp_Store_cells K) := ok_Store_cells T
  refine cee_of T.d__law_done sc__law_done (fun _ _ _ _ _ _ us hl => match us, hl with | [_, _, _, _], _ => rfl) (fun vs H Q E h => sp4_len h) (fun cdv A outer s H vs Q E hr h => ⟨_, (pss_cons (ps_if (pt_cmpR op_eq (pv 1) pe_int (nomark _)) (pss_one (ps_ret (pe_m (pv 0) T.c_Store T.m_Store_more c_Store_more (hr.mono (by decide)) (takes_of rfl rfl rfl rfl) (pa_cons (pv 2) pa_nil)))) pss_nil) (pss_cons (ps_if (pt_cmpR op_eq (pv 1) pe_int (nomark _)) (pss_one (ps_ret (pe_m (pv 0) T.c_Store T.m_Store_less c_Store_less (hr.mono (by decide)) (takes_of rfl rfl rfl rfl) (pa_cons (pv 2) pa_nil)))) pss_nil) (pss_cons (ps_if (pt_cmpR op_eq (pv 1) pe_int (nomark _)) (pss_one (ps_ret (pe_m (pv 0) T.c_Store T.m_Store_put c_Store_put (hr.mono (by decide)) (takes_of rfl rfl rfl rfl) (pa_cons (pv 2) (pa_cons (pe_lst (pa_cons (pv 3) (pa_cons (pe_op op_sub pe_int (pv 3)) (pa_cons pe_int (pa_cons (pe_op op_fdiv (pv 3) pe_int) (pa_cons pe_int (pa_cons pe_int (pa_cons pe_int (pa_cons (pv 3) pa_nil))))))))) pa_nil))))) pss_nil) (pss_one (ps_ret (pe_m (pv 0) T.c_Store T.m_Store_cells c_Store_cells (hr.mono (by decide)) (takes_of rfl rfl rfl rfl) (pa_cons (pv 2) pa_nil))))))), ?_⟩)
  obtain ⟨v0, v1, v2, v3, rfl, h⟩ := h
  dsimp only [cxOf, L2.start]
  obtain ⟨p, q, os, cs, m, i, v, rfl, rfl, rfl, rfl, hm, ok, O, e, k1, k2, k3, k4⟩ := h
  rcases hm with rfl | rfl | rfl | rfl
  · walk_at "s"
    exact ask2 ⟨p, q, os, cs, i, rfl, rfl, O, fun h => k1 h rfl, fun h => e h _ Own.start⟩
  · walk_at "s"
    exact ask2 ⟨p, q, os, cs, i, rfl, rfl, O, fun h => k2 h rfl, fun h => e h _ Own.start⟩
  · walk_at "s"
    intro l hl
    have O1 := O.new (o := .lst ((vals v).map V.int)) hl
    exact ask3 ⟨p, q, os, cs, i, l, vals v, rfl, rfl, rfl, O1.get (.head _), ok, O1.blk (s' := []) (.there .all), fun h H' c O2 => k3 h rfl H' c ((O1.call (.there .all) O2).drop (.cons _ (.refl _))), fun h => e h _ (Own.start.newT hl)⟩
  · walk_at "s"
    exact ask2 ⟨p, q, os, cs, i, rfl, rfl, ok, O, fun h x hx H' c O2 => k4 h rfl H' c x hx O2, fun h => e h _ Own.start⟩
theorem sc__law_refused : FnScope ["_law_store", "_law_what", "_law_page", "_law_value", "_law_caught", "refused"] ["_law_store", "_law_what", "_law_page", "_law_value"] (defScope s__law_refused) := ⟨rfl, rfl, rfl, by decide +kernel, rfl, by decide +kernel, by decide +kernel⟩
theorem ok__law_refused {P : Program} {w : World} {K : PySem.W.Frag} {mg : Str → Option Value} {base : Heap} (T : Txt K mg) : Cee P w K mg base 5 (He.fAd K ("_law_refused", none)) ["_law_store", "_law_what", "_law_page", "_law_value"] (sp__law_refused K) := by
  have c__law_done : Cee P w K mg base 4 (He.fAd K ("_law_done", none)) ["_law_store", "_law_what", "_law_page", "_law_value"] (sp__law_done K) := ok__law_done T
  have c__law_only : Cee P w K mg base 1 (He.fAd K ("_law_only", none)) ["_law_caught", "_law_due"] (sp__law_only K) := ok__law_only T
  refine cee_of T.d__law_refused sc__law_refused (fun _ _ _ _ _ _ us hl => match us, hl with | [_, _, _, _], _ => rfl) (fun vs H Q E h => sp4_len h) (fun cdv A outer s H vs Q E hr h => ⟨_, (pss_cons (ps_set (i := 4) sc__law_refused.nd rfl (Or.inl rfl) pe_non) (pss_cons (ps_tryX (i := 5) rfl rfl rfl sc__law_refused.nd rfl rfl ⟨rfl, by decide, .inl T.g_KernelError⟩ (takes_of rfl rfl rfl rfl) (fun W pn xe tk pe => (pss_one (ps_expr (pe_f c__law_done (hr.mono (by decide)) tk (by rfl) T.g__law_done (pa_cons (pv 0) (pa_cons (pv 1) (pa_cons (pv 2) (pa_cons (pv 3) pa_nil)))))))) (fun a pn => (pss_one (ps_set (i := 4) sc__law_refused.nd rfl (Or.inl rfl) (pv 5))))) (pss_one (ps_ret (pe_f c__law_only (hr.mono (by decide)) (takes_of rfl rfl rfl rfl) (by rfl) T.g__law_only (pa_cons (pv 4) (pa_cons pe_str pa_nil))))))), ?_⟩)
  obtain ⟨v0, v1, v2, v3, rfl, h⟩ := h
  dsimp only [cxOf, L2.start]
  obtain ⟨p, q, os, cs, m, i, v, rfl, rfl, rfl, rfl, hm, ok, h0, O, k⟩ := h
  walk_at "s"
  refine ask4 ⟨p, q, os, cs, m, i, v, rfl, rfl, rfl, rfl, hm, ok, O, fun _ H2 O2 => ?_, fun h => absurd h0 h, fun h => absurd h0 h, fun h => absurd h0 h, fun h => absurd h0 h⟩
  walk_at "s"
  refine ⟨fun _ a ha => ?_, nofun⟩
  have O3 := O2.new (o := CxO (.ref (He.ga K "NoOwner")) none a) ha
  walk_at "s"
  refine ask2 ⟨a, rfl, rfl, O3.get (.head _), fun H4 O4 => ?_⟩
  exact k _ ((O3.callN O4).drop (List.nil_sublist _))
theorem sc__law_deed : FnScope ["_law_store", "_law_deed_here", "_law_counts", "_law_contents", "_law_what", "_law_page", "_law_value", "_law_count", "_law_there", "_law_found"] ["_law_store", "_law_deed_here", "_law_counts", "_law_contents"] (defScope s__law_deed) := ⟨rfl, rfl, rfl, by decide +kernel, rfl, by decide +kernel, by decide +kernel⟩
theorem ok__law_deed {P : Program} {w : World} {K : PySem.W.Frag} {mg : Str → Option Value} {base : Heap} (T : Txt K mg) : Cee P w K mg base 6 (He.fAd K ("_law_deed", none)) ["_law_store", "_law_deed_here", "_law_counts", "_law_contents"] (sp__law_deed K) := by
  have c__law_taken_down : Cee P w K mg base 3 (He.fAd K ("_law_taken_down", none)) ["_law_store", "_law_counts", "_law_contents"] (sp__law_taken_down K) := ok__law_taken_down T
  have c__law_is : Cee P w K mg base 2 (He.fAd K ("_law_is", none)) ["_law_found", "_law_due"] (sp__law_is K) := ok__law_is T
  have c_Store_free : Cee P w K mg base 1 (He.fAd K ("Store", some "free")) ["self"] (sp_Store_free K) := ok_Store_free T
  have c_Store_count : Cee P w K mg base 1 (He.fAd K ("Store", some "count")) ["self", "page"] (sp_Store_count K) := ok_Store_count T
  have c__law_refused : Cee P w K mg base 5 (He.fAd K ("_law_refused", none)) ["_law_store", "_law_what", "_law_page", "_law_value"] (sp__law_refused K) := ok__law_refused T
  have c__law_done : Cee P w K mg base 4 (He.fAd K ("_law_done", none)) ["_law_store", "_law_what", "_law_page", "_law_value"] (sp__law_done K) := ok__law_done T
  have c__law_numbers : Cee P w K mg base 2 (He.fAd K ("_law_numbers", none)) ["_law_found", "_law_due"] (sp__law_numbers K) := ok__law_numbers T
  refine cee_of T.d__law_deed sc__law_deed (fun _ _ _ _ _ _ us hl => match us, hl with | [_, _, _, _], _ => rfl) (fun vs H Q E h => sp4_len h) (fun cdv A outer s H vs Q E hr h => ⟨_, (pss_cons (ps_asg (pv 1) (pg_tup rfl (pgs_cons (pg_name (i := 4) sc__law_deed.nd rfl (Or.inl rfl)) (pgs_cons (pg_name (i := 5) sc__law_deed.nd rfl (Or.inl rfl)) (pgs_cons (pg_name (i := 6) sc__law_deed.nd rfl (Or.inl rfl)) pgs_nil))))) (pss_cons (ps_if (pt_cmpR op_eq (pv 4) pe_int (nomark _)) (pss_one (ps_ret (pe_f c__law_taken_down (hr.mono (by decide)) (takes_of rfl rfl rfl rfl) (by rfl) T.g__law_taken_down (pa_cons (pv 0) (pa_cons (pv 2) (pa_cons (pv 3) pa_nil)))))) pss_nil) (pss_cons (ps_if (pt_cmpR op_eq (pv 4) pe_int (nomark _)) (pss_one (ps_ret (pe_f c__law_is (hr.mono (by decide)) (takes_of rfl rfl rfl rfl) (by rfl) T.g__law_is (pa_cons (pe_m0 (pv 0) T.c_Store T.m_Store_free c_Store_free (hr.mono (by decide)) (takes_of rfl rfl rfl rfl)) (pa_cons (pe_callB call_len_seq (by rfl) T.n_len (by decide +kernel) (pa_cons (pe_lc (own := [("_law_count", 7)]) (by rfl) sc__law_deed.nd (PI.box (pi_list (pv 2))) (blkOk_by (own := [("_law_count", 7)]) (N := ["_law_store", "_law_deed_here", "_law_counts", "_law_contents", "_law_what", "_law_page", "_law_value", "_law_count", "_law_there", "_law_found"]) (sc := defScope s__law_deed) (by decide +kernel)) (fun _ _ _ _ _ => (pg_name (i := 7) sc__law_deed.nd rfl (Or.inl rfl))) (fun _ _ _ _ _ => (pts_one (pt_cmpR op_eq (pv 7) pe_int (nomark _)))) (fun _ _ _ _ _ => (pv 7))) pa_nil)) pa_nil))))) pss_nil) (pss_cons (PS.box (ps_set (i := 8) sc__law_deed.nd rfl (Or.inl rfl) (pe_and (pe_chain op_le op_lt pe_int (pv 5) (pe_callB call_len_seq (by rfl) T.n_len (by decide +kernel) (pa_cons (pv 2) pa_nil))) (pe_one (pe_cmpR op_gt (pe_ix ix_list (pv 2) (pv 5) (fun _ _ => rfl)) pe_int (nomark _)))))) (pss_cons (ps_if (pt_cmpR op_eq (pv 4) pe_int (nomark _)) (pss_one (ps_ret (pe_f c__law_is (hr.mono (by decide)) (takes_of rfl rfl rfl rfl) (by rfl) T.g__law_is (pa_cons (pe_m (pv 0) T.c_Store T.m_Store_count c_Store_count (hr.mono (by decide)) (takes_of rfl rfl rfl rfl) (pa_cons (pv 5) pa_nil)) (pa_cons (pe_ifExp (pt_val (pv 8)) (pe_ix ix_list (pv 2) (pv 5) (fun _ _ => rfl)) pe_int) pa_nil))))) pss_nil) (pss_cons (ps_if (pt_not (pt_val (pv 8))) (pss_one (ps_ret (pe_f c__law_refused (hr.mono (by decide)) (takes_of rfl rfl rfl rfl) (by rfl) T.g__law_refused (pa_cons (pv 0) (pa_cons (pv 4) (pa_cons (pv 5) (pa_cons (pv 6) pa_nil))))))) pss_nil) (pss_cons (ps_set (i := 9) sc__law_deed.nd rfl (Or.inl rfl) (pe_f c__law_done (hr.mono (by decide)) (takes_of rfl rfl rfl rfl) (by rfl) T.g__law_done (pa_cons (pv 0) (pa_cons (pv 4) (pa_cons (pv 5) (pa_cons (pv 6) pa_nil)))))) (pss_cons (ps_if (pt_cmpR op_eq (pv 4) pe_int (nomark _)) (pss_one (ps_ret (pe_f c__law_numbers (hr.mono (by decide)) (takes_of rfl rfl rfl rfl) (by rfl) T.g__law_numbers (pa_cons (pv 9) (pa_cons (pe_ix ix_list (pv 3) (pv 5) (fun _ _ => rfl)) pa_nil))))) pss_nil) (pss_cons (PS.box (ps_if (pt_cmpR op_eq (pv 4) pe_int (nomark _)) (pss_one (ps_asg (pe_lst (pa_cons (pv 6) (pa_cons (pe_op op_sub pe_int (pv 6)) (pa_cons pe_int (pa_cons (pe_op op_fdiv (pv 6) pe_int) (pa_cons pe_int (pa_cons pe_int (pa_cons pe_int (pa_cons (pv 6) pa_nil))))))))) (pg_sub (pv 3) (pv 5) set_list))) (pss_one (ps_augS (pv 2) (pv 5) get_list (pe_op op_sub pe_int (pe_op op_mul pe_int (pv 4))) ip_add set_list)))) (pss_one (ps_ret pe_bl))))))))))), ?_⟩)
  obtain ⟨v0, v1, v2, v3, rfl, h⟩ := h
  dsimp only [cxOf, L2.start]
  obtain ⟨t, n, d, m, i, v, rfl, rfl, rfl, rfl, hd, m0, m1, ok, hn, O, k⟩ := h
  obtain ⟨p, q, os, cs, c, e, rs⟩ := t
  unfold S1.cells at O k
  dsimp only at O k
  have hl : os.length = n := ok.len
  have hrl : rs.length = n := ok.rlen
  have hcl : os.length = cs.length := ok.sto.len
  walk_at "s"
  refine if_ii (fun h => ?_) (fun h => ?_)
  · walk_at "s"
    exact ask3 ⟨⟨p, q, os, cs, c, e, rs⟩, n, rfl, rfl, rfl, ok, hn, O, k⟩
  walk_at "s"
  refine if_ii (fun h6 => ?_) (fun h6 => ?_)
  · walk_at "s"
    refine ask1 ⟨p, q, os, cs, rfl, O.blk (s' := []) (.there (.there (.app .all))), ?_⟩
    walk_at "s"
    refine lcL (K := K) (a := c) (xs := os.map V.int) (fun D j H2 => Own H H2 [] [(D, .lst (((os.take j).filter (· == 0)).map V.int))]) (fun D hD => Own.start.new hD) (fun D j H2 _ O2 => SqL.of (O2.fr0 (O.get (.head _)))) ?_ ?_
    · rintro D j x H2 hx O2
      obtain ⟨y, hy, rfl⟩ := map_get hx
      have hlen : (((os.take j).filter (· == 0)).map V.int).length < 100000 := by
        rw [List.length_map]
        have := List.length_filter_le (· == (0 : Int)) (os.take j)
        rw [List.length_take] at this
        omega
      walk_at "s"
      rw [take_succ hy, List.filter_append]
      refine if_ii (fun hy0 => ?_) (fun hy0 => ?_)
      · subst hy0
        walk_at "s"
        rw [List.map_append]
        exact ⟨O2.wr .here⟩
      · rw [List.filter_cons_of_neg (by simpa using hy0), List.filter_nil, List.append_nil]
        exact ⟨O2⟩
    · rintro D H2 O2
      rw [List.length_map, List.take_length] at O2
      walk_at "s"
      refine ask2 ⟨.inr ⟨_, rfl, ?_⟩, ?_⟩
      · rw [List.length_map, List.count_eq_length_filter]
      · exact k _ ⟨p, q, os, cs, c, e, rs⟩ ((O.callN O2).drop (.cons _ (.refl _))) ok ⟨rfl, rfl, rfl⟩
  walk_at "s"
  refine cutS (fun σ' H2 => H2 = H ∧ σ' = [some (.ref p), some (.ref d), some (.ref c), some (.ref e), some (.int m), some (.int i), some (.int v), none, some (.bl (decide (cntS os i > 0))), none]) (fun nx hn => ?_) ?_
  · walk_at "s"
    refine if_d (fun h0 => ?_) (fun h0 => ?_)
    · walk_at "s"
      refine if_d (fun h1 => ?_) (fun h1 => ?_)
      · obtain ⟨y, hy, hat⟩ := at_ints (ns := os) (n := i) h0 h1
        have hc : cntS os i = y := by rw [← cntS_nat hy, Int.toNat_of_nonneg h0]
        rw [hc] at hn
        walk_at "s"
        exact hn _ _ ⟨rfl, rfl⟩
      · rw [List.length_map] at h1
        have hc : cntS os i = 0 := by unfold cntS; rw [if_neg (fun h => h1 h.2)]
        rw [hc] at hn
        walk_at "s"
        exact hn _ _ ⟨rfl, rfl⟩
    · have hc : cntS os i = 0 := by unfold cntS; rw [if_neg (fun h => h0 h.1)]
      rw [hc] at hn
      walk_at "s"
      exact hn _ _ ⟨rfl, rfl⟩
  rintro σ' H2 ⟨rfl, rfl⟩
  have hnn : 0 ≤ cntS os i := ok.nn.cnt i
  walk_at "s"
  refine if_ii (fun h5 => ?_) (fun h5 => ?_)
  · walk_at "s"
    refine ask2 ⟨p, q, os, cs, i, rfl, rfl, O.blk (s' := []) (.there (.there (.app .all))), ?_⟩
    walk_at "s"
    refine if_d (fun hc => ?_) (fun hc => ?_)
    · obtain ⟨j, x, rfl, hx, hxc⟩ := cntS_pos (show cntS os i ≠ 0 by omega)
      have hatc := atI_nat (xs := os.map V.int) (j := j) (v := .int x) (by rw [List.getElem?_map, hx]; rfl)
      walk_at "s"
      refine ask2 ⟨.inr ⟨x, by rw [hxc], rfl⟩, ?_⟩
      exact k _ ⟨p, q, os, cs, c, e, rs⟩ O ok ⟨rfl, rfl, rfl⟩
    · walk_at "s"
      refine ask2 ⟨.inr ⟨0, by rw [show cntS os i = 0 by omega], rfl⟩, ?_⟩
      exact k _ ⟨p, q, os, cs, c, e, rs⟩ O ok ⟨rfl, rfl, rfl⟩
  have hm5 : m = 1 ∨ m = 2 ∨ m = 3 ∨ m = 4 := by omega
  walk_at "s"
  refine if_nd (fun hc => ?_) (fun hc => ?_)
  · walk_at "s"
    refine ask4 ⟨p, q, os, cs, m, i, v, rfl, rfl, rfl, rfl, hm5, ok.sto, by omega, O.blk (s' := []) (.there (.there (.app .all))), fun H3 O3 => ?_⟩
    exact k _ ⟨p, q, os, cs, c, e, rs⟩ (O.callN O3) ok ⟨rfl, rfl, rfl⟩
  have hne : cntS os i ≠ 0 := by omega
  obtain ⟨j, x, rfl, hx, hxc⟩ := cntS_pos hne
  have hjl := (List.getElem?_eq_some_iff.mp hx).1
  obtain ⟨r, hr⟩ : ∃ r, rs[j]? = some r := ⟨rs[j]'(by omega), List.getElem?_eq_getElem _⟩
  obtain ⟨z, hz⟩ : ∃ z, cs[j]? = some z := ⟨cs[j]'(by omega), List.getElem?_eq_getElem _⟩
  have hatr := atI_nat (xs := rs.map fun x : Pg => V.ref x.1) (j := j) (v := .ref r.1) (by rw [List.getElem?_map, hr]; rfl)
  have hatc := atI_nat (xs := os.map V.int) (j := j) (v := .int x) (by rw [List.getElem?_map, hx]; rfl)
  have hixc := ix_at (n := (os.map V.int).length) (i := j) (by rw [List.length_map]; omega)
  have hixr := ix_at (n := (rs.map fun x : Pg => V.ref x.1).length) (i := j) (by rw [List.length_map]; omega)
  have fin : ∀ (y : Int), 0 ≤ y → ∀ H', Own H2 H' (adr ((c, .lst (os.map V.int)) :: ((e, .lst (rs.map fun x => V.ref x.1)) :: rs.map pcel ++ cSto K p q os cs))) ((c, .lst ((os.map V.int).set j (.int y))) :: ((e, .lst (rs.map fun x => V.ref x.1)) :: rs.map pcel ++ cSto K p q (os.set j y) cs)) → Q (.bl true) H' := fun y hy H' O' => by
    refine k _ ⟨p, q, os.set j y, cs, c, e, rs⟩ (O'.eq (by rw [set_map V.int])) ⟨⟨by rw [List.length_set]; exact hcl, by rw [List.length_set]; exact ok.sto.few⟩, by show (os.set j y).length = n; rw [List.length_set]; exact hl, hrl, ok.nn.set j hy, fun m x' y' h1 h2 h3 => ?_, ok.wide⟩ ⟨rfl, rfl, rfl⟩
    dsimp only at h1 h2 h3
    by_cases hm : m = j
    · subst hm
      exact ok.same m x' y' (by rw [hx]; intro w; cases w; exact hne hxc) h2 h3
    · rw [List.getElem?_set_ne (Ne.symm hm)] at h1
      exact ok.same m x' y' h1 h2 h3
  walk_at "s"
  refine ask4 ⟨p, q, os, cs, m, j, v, rfl, rfl, rfl, rfl, hm5, ok.sto, O.blk (s' := []) (.there (.there (.app .all))), fun h => absurd h hne, fun _ hm H3 O3 => ?_, fun _ hm H3 O3 => ?_, fun _ hm H3 c3 O3 => ?_, fun _ hm H3 c3 x3 hx3 O3 => ?_⟩
  · subst hm
    have O4 := O.call (.there (.there (.app .all))) O3
    rw [Int.toNat_natCast, hxc] at O4
    have hcc := O4.get (a := c) (.head _)
    walk_at "s"
    refine if_ii (fun z => absurd z (by decide)) (fun _ => ?_)
    walk_at "b"
    exact fin (x + 1) (by omega) _ ((O4.wr (o' := .lst ((os.map V.int).set j (.int (x + (3 - 2 * 1))))) .here).eq (by rw [show x + (3 - 2 * 1) = x + 1 by omega]; rfl))
  · subst hm
    have O4 := O.call (.there (.there (.app .all))) O3
    rw [Int.toNat_natCast, hxc] at O4
    have hcc := O4.get (a := c) (.head _)
    walk_at "s"
    refine if_ii (fun z => absurd z (by decide)) (fun _ => ?_)
    walk_at "b"
    exact fin (x - 1) (by omega) _ ((O4.wr (o' := .lst ((os.map V.int).set j (.int (x + (3 - 2 * 2))))) .here).eq (by rw [show x + (3 - 2 * 2) = x - 1 by omega]; rfl))
  · subst hm
    have O4 := O.call (.there (.there (.app .all))) O3
    rw [Int.toNat_natCast] at O4
    walk_at "s"
    refine if_ii (fun z => absurd z (by decide)) (fun _ => ?_)
    walk_at "b"
    intro l hl2
    have O5 := O4.new (o := .lst ((vals v).map V.int)) hl2
    have O6 := Own.put2 (g := pcel) (b := (l, vals v)) (pre := [(c, .lst (os.map V.int)), (e, .lst ((rs.map fun x : Pg => V.ref x.1).set j (.ref l)))]) (O5.wr (o' := .lst ((rs.map fun x : Pg => V.ref x.1).set j (.ref l))) (.there (.there .here))) hr
    walk_at "s"
    refine k _ ⟨p, q, os, cs.set j (c3, vals v), c, e, rs.set j (l, vals v)⟩ (O6.eq (by rw [set_map (fun x : Pg => V.ref x.1) rs j (l, vals v)]; rfl)) ⟨⟨by rw [List.length_set]; exact hcl, ok.sto.few⟩, hl, by show (rs.set j _).length = n; rw [List.length_set]; exact hrl, ok.nn, fun m x' y' h1 h2 h3 => ?_, fun x' hx' => ?_⟩ ⟨rfl, rfl, rfl⟩
    · dsimp only at h1 h2 h3
      by_cases hm : m = j
      · subst hm
        rw [List.getElem?_set_self (by omega)] at h2 h3
        cases h2; cases h3; rfl
      · rw [List.getElem?_set_ne (Ne.symm hm)] at h2 h3
        exact ok.same m x' y' h1 h2 h3
    · rcases List.mem_or_eq_of_mem_set hx' with w | w
      · exact ok.wide x' w
      · rw [w]; show 8 ≤ 1000; decide
  · subst hm
    have O4 := O.callE (e := [(c3, .lst (x3.2.map V.int))]) (.there (.there (.app .all))) O3
    rw [Int.toNat_natCast, hz] at hx3
    cases hx3
    have hrz : r.2 = z.2 := ok.same j z r (by rw [hx]; intro w; cases w; exact hne hxc) hz hr
    have hrh := O4.get (a := r.1) (.tail _ (.tail _ (.tail _ (List.mem_append_left _ (List.mem_map.mpr ⟨r, List.mem_of_getElem? hr, rfl⟩)))))
    walk_at "s"
    refine ask2 ⟨c3, r.1, z.2, rfl, rfl, O4.get (.head _), by rw [← hrz]; exact hrh, ?_⟩
    exact k _ ⟨p, q, os, cs, c, e, rs⟩ (O4.drop (.cons _ (.refl _))) ok ⟨rfl, rfl, rfl⟩

def sp_law (K : PySem.W.Frag) : Sp := sp1 fun x H Q _ => ∃ (a : Addr) (xs : List Int), x = .ref a ∧ SqL K H a (xs.map V.int) ∧ xs.length ≤ 63 ∧ ∀ H', Q (.bl true) H'
theorem law_in {K : PySem.W.Frag} (H : Hp) (a : Addr) (ns : List Int) (hl : ns.length ≤ 63) (hz : ∀ z ∈ ns, Builtin.Int.intBits z ≤ 1048576) (hS : SqL K H a (ns.map V.int)) :
    ∃ (a' : Addr) (xs : List Int), V.ref a = .ref a' ∧ SqL K H a' (xs.map V.int) ∧ xs.length ≤ 63 ∧ ∀ H' : Hp, (fun (v : V) (_ : Hp) => v = .bl true) (.bl true) H' := ⟨a, ns, rfl, hS, hl, fun _ => rfl⟩
theorem many_at (i : Int) : ∃ n : Nat, n ≤ 60 ∧ atI [V.int 2, V.int 5, V.int 9, V.int 1, V.int 0, V.int 60, V.int 17, V.int 3] (i / 2 % 8) = some (.int n) := by
  obtain ⟨y, hy, e⟩ := at_ints (ns := [2, 5, 9, 1, 0, 60, 17, 3]) (n := i / 2 % 8) (by omega) (by show _ < (8 : Int); omega)
  have h := List.mem_of_getElem? hy
  simp only [List.mem_cons, List.not_mem_nil, or_false] at h
  refine ⟨y.toNat, by omega, ?_⟩
  rw [Int.toNat_of_nonneg (by omega)]
  exact e
theorem sc_law : FnScope ["_law_script", "_law_many", "_law_store", "_law_counts", "_law_page", "_law_contents", "_law_deed_here", "_law_due", "_law_count"] ["_law_script"] (defScope s_law) := ⟨rfl, rfl, rfl, by decide +kernel, rfl, by decide +kernel, by decide +kernel⟩
theorem ok_law {P : Program} {w : World} {K : PySem.W.Frag} {mg : Str → Option Value} {base : Heap} (T : Txt K mg) {fd : FuncData} (F : FunD K "law" "law" (defArgs s_law) (defBody s_law) (defScope s_law) [] [] (He.fAd K ("law", none)) fd) : FnOk P w K mg base (L2.CX P w) 7 (He.fAd K ("law", none)) fd ["_law_script"] (bx (sp_law K)) := by
  have c__law_cell_at : Cee P w K mg base 1 (He.fAd K ("_law_cell_at", none)) ["_law_script", "_law_k"] (sp__law_cell_at K) := ok__law_cell_at T
  have c_Store___init__ : Cee P w K mg base 1 (He.fAd K ("Store", some "__init__")) ["self", "many"] (sp_Store___init__ K) := ok_Store___init__ T
  have c__law_deeds_by : Cee P w K mg base 2 (He.fAd K ("_law_deeds_by", none)) ["_law_script", "_law_many"] (sp__law_deeds_by K) := ok__law_deeds_by T
  have c__law_deed : Cee P w K mg base 6 (He.fAd K ("_law_deed", none)) ["_law_store", "_law_deed_here", "_law_counts", "_law_contents"] (sp__law_deed K) := ok__law_deed T
  have c__law_is : Cee P w K mg base 2 (He.fAd K ("_law_is", none)) ["_law_found", "_law_due"] (sp__law_is K) := ok__law_is T
  have c_Store_count : Cee P w K mg base 1 (He.fAd K ("Store", some "count")) ["self", "page"] (sp_Store_count K) := ok_Store_count T
  have c__law_numbers : Cee P w K mg base 2 (He.fAd K ("_law_numbers", none)) ["_law_found", "_law_due"] (sp__law_numbers K) := ok__law_numbers T
  have c_Store_cells : Cee P w K mg base 3 (He.fAd K ("Store", some "cells")) ["self", "page"] (sp_Store_cells K) := ok_Store_cells T
  have c_Store_free : Cee P w K mg base 1 (He.fAd K ("Store", some "free")) ["self"] (sp_Store_free K) := ok_Store_free T
  refine fn_of F sc_law (fun vs H Q E h => sp1_len h) (fun cdv A outer s H vs Q E hr h => ⟨_, (pss_cons (ps_set (i := 1) sc_law.nd rfl (Or.inl rfl) (pe_ix ix_list (pe_lst (pa_cons pe_int (pa_cons pe_int (pa_cons pe_int (pa_cons pe_int (pa_cons pe_int (pa_cons pe_int (pa_cons pe_int (pa_cons pe_int pa_nil))))))))) (pe_op op_mod (pe_op op_fdiv (pe_f c__law_cell_at (hr.mono (by decide)) (takes_of rfl rfl rfl rfl) (by rfl) T.g__law_cell_at (pa_cons (pv 0) (pa_cons pe_int pa_nil))) pe_int) pe_int) (fun _ _ => rfl))) (pss_cons (ps_set (i := 2) sc_law.nd rfl (Or.inl rfl) (pe_n T.m_Store c_Store___init__ (hr.mono (by decide)) (by rfl) T.g_Store (pa_cons (pv 1) pa_nil))) (pss_cons (ps_setLc (i := 3) (own := [("_law_page", 4)]) (by rfl) sc_law.nd rfl rfl (sw_true rfl rfl rfl (by decide +kernel)) (PI.box (pi_range1 (by rfl) T.n_range (pa_cons (pv 1) pa_nil))) (blkOk_by (own := [("_law_page", 4)]) (N := ["_law_script", "_law_many", "_law_store", "_law_counts", "_law_page", "_law_contents", "_law_deed_here", "_law_due", "_law_count"]) (sc := defScope s_law) (by decide +kernel)) (fun _ _ _ _ _ => (pg_name (i := 4) sc_law.nd rfl (Or.inl rfl))) (fun _ _ _ _ _ => pts_nil) (fun _ _ _ _ _ => pe_int)) (pss_cons (ps_setLc (i := 5) (own := [("_law_page", 4)]) (by rfl) sc_law.nd rfl rfl (sw_true rfl rfl rfl (by decide +kernel)) (PI.box (pi_range1 (by rfl) T.n_range (pa_cons (pv 1) pa_nil))) (blkOk_by (own := [("_law_page", 4)]) (N := ["_law_script", "_law_many", "_law_store", "_law_counts", "_law_page", "_law_contents", "_law_deed_here", "_law_due", "_law_count"]) (sc := defScope s_law) (by decide +kernel)) (fun _ _ _ _ _ => (pg_name (i := 4) sc_law.nd rfl (Or.inl rfl))) (fun _ _ _ _ _ => pts_nil) (fun _ _ _ _ _ => (pe_lst (pa_cons pe_int (pa_cons pe_int (pa_cons pe_int (pa_cons pe_int (pa_cons pe_int (pa_cons pe_int (pa_cons pe_int (pa_cons pe_int pa_nil))))))))))) (pss_cons (ps_for (passes_of rfl) rfl (PI.box (pi_list (pe_f c__law_deeds_by (hr.mono (by decide)) (takes_of rfl rfl rfl rfl) (by rfl) T.g__law_deeds_by (pa_cons (pv 0) (pa_cons (pv 1) pa_nil))))) (pg_name (i := 6) sc_law.nd rfl (Or.inl rfl)) (pss_one (ps_if (pt_not (pt_val (pe_f c__law_deed (hr.mono (by decide)) (takes_of rfl rfl rfl rfl) (by rfl) T.g__law_deed (pa_cons (pv 2) (pa_cons (pv 6) (pa_cons (pv 3) (pa_cons (pv 5) pa_nil))))))) (pss_one (ps_ret pe_bl)) pss_nil))) (pss_cons (ps_for (passes_of rfl) rfl (PI.box (pi_range2 (by rfl) T.n_range (pa_cons (pe_un un_neg pe_int) (pa_cons (pe_op op_add (pv 1) pe_int) pa_nil)))) (pg_name (i := 4) sc_law.nd rfl (Or.inl rfl)) (pss_cons (ps_set (i := 7) sc_law.nd rfl (Or.inl rfl) pe_int) (pss_cons (PS.box (ps_if (pt_chain op_le op_lt pe_int (pv 4) (pv 1)) (pss_one (ps_set (i := 7) sc_law.nd rfl (Or.inl rfl) (pe_ix ix_list (pv 3) (pv 4) (fun _ _ => rfl)))) pss_nil)) (pss_cons (ps_if (pt_not (pt_val (pe_f c__law_is (hr.mono (by decide)) (takes_of rfl rfl rfl rfl) (by rfl) T.g__law_is (pa_cons (pe_m (pv 2) T.c_Store T.m_Store_count c_Store_count (hr.mono (by decide)) (takes_of rfl rfl rfl rfl) (pa_cons (pv 4) pa_nil)) (pa_cons (pv 7) pa_nil))))) (pss_one (ps_ret pe_bl)) pss_nil) (pss_one (ps_if (PW.pt (pw_and (pt_cmpR op_gt (pv 7) pe_int (nomark _)) (pw_and1 (pt_not (pt_val (pe_f c__law_numbers (hr.mono (by decide)) (takes_of rfl rfl rfl rfl) (by rfl) T.g__law_numbers (pa_cons (pe_m (pv 2) T.c_Store T.m_Store_cells c_Store_cells (hr.mono (by decide)) (takes_of rfl rfl rfl rfl) (pa_cons (pv 4) pa_nil)) (pa_cons (pe_ix ix_list (pv 5) (pv 4) (fun _ _ => rfl)) pa_nil)))))))) (pss_one (ps_ret pe_bl)) pss_nil)))))) (pss_one (ps_ret (pe_f c__law_is (hr.mono (by decide)) (takes_of rfl rfl rfl rfl) (by rfl) T.g__law_is (pa_cons (pe_m0 (pv 2) T.c_Store T.m_Store_free c_Store_free (hr.mono (by decide)) (takes_of rfl rfl rfl rfl)) (pa_cons (pe_callB call_len_seq (by rfl) T.n_len (by decide +kernel) (pa_cons (pe_lc (own := [("_law_count", 8)]) (by rfl) sc_law.nd (PI.box (pi_list (pv 3))) (blkOk_by (own := [("_law_count", 8)]) (N := ["_law_script", "_law_many", "_law_store", "_law_counts", "_law_page", "_law_contents", "_law_deed_here", "_law_due", "_law_count"]) (sc := defScope s_law) (by decide +kernel)) (fun _ _ _ _ _ => (pg_name (i := 8) sc_law.nd rfl (Or.inl rfl))) (fun _ _ _ _ _ => (pts_one (pt_cmpR op_eq (pv 8) pe_int (nomark _)))) (fun _ _ _ _ _ => (pv 8))) pa_nil)) pa_nil))))))))))), ?_⟩)
  obtain ⟨v0, rfl, h⟩ := h
  dsimp only [cxOf, L2.start]
  obtain ⟨a, xs, rfl, ha, hl, k⟩ := h
  walk_at "s"
  intro b hb
  have O1 := (Own.start (H := H)).new (o := .lst [V.int 2, V.int 5, V.int 9, V.int 1, V.int 0, V.int 60, V.int 17, V.int 3]) hb
  walk_at "s"
  refine ask2 ⟨a, xs, 0, rfl, rfl, Int.le_refl _, O1.sq ha, fun i => ?_⟩
  obtain ⟨n, hn, hat⟩ := many_at i
  walk_at "s"
  intro p dp h1 h2 hne
  have O2 := O1.inst (C := He.ga K "Store") h1 h2 hne
  refine ask2 ⟨p, dp, n, rfl, rfl, by omega, O2.blk (s' := []) .one, fun H2 q cs hO hcl hcz => ?_⟩
  have O3 : Own H H2 [] (cSto K p q (List.replicate n 0) cs ++ [(b, _)]) := O2.call .one hO
  have O4 := O3.drop (List.sublist_append_left _ _)
  clear O1 O2 O3 hO
  walk_at "s"
  refine lcR (lo := 0) (n := ((n : Nat) : Int).toNat) (fun D j H2 => Own H H2 [] ((D, .lst ((List.replicate j (0 : Int)).map V.int)) :: cSto K p q (List.replicate n 0) cs)) (fun D hD => O4.new hD) ?_ ?_
  · rintro D j H2 hj O5
    have hlen : ((List.replicate j (0 : Int)).map V.int).length < 100000 := by rw [List.length_map, List.length_replicate]; omega
    walk_at "s"
    rw [List.replicate_succ', List.map_append]
    exact ⟨O5.wr .here⟩
  rintro c H3 O5
  rw [Int.toNat_natCast] at O5
  walk_at "s"
  refine lcR (lo := 0) (n := ((n : Nat) : Int).toNat) (fun D j H2 => ∃ rs : List Pg, rs.map (·.2) = List.replicate j zeros ∧ Own H H2 [] ((D, .lst (rs.map fun x => V.ref x.1)) :: (rs.map pcel ++ (c, .lst ((List.replicate n (0 : Int)).map V.int)) :: cSto K p q (List.replicate n 0) cs)) ) (fun D hD => ⟨[], rfl, O5.new hD⟩) ?_ ?_
  · rintro D j H2 hj ⟨rs, hrs, O6⟩
    have hlj := congrArg List.length hrs
    rw [List.length_map, List.length_replicate] at hlj
    have hlen : (rs.map fun x : Pg => V.ref x.1).length < 100000 := by rw [List.length_map]; omega
    walk_at "s"
    intro l hl2
    have O7 := O6.new (o := .lst (zeros.map V.int)) hl2
    walk_at "s"
    refine ⟨rs ++ [(l, zeros)], by rw [List.map_append, hrs, List.replicate_succ']; rfl, ?_⟩
    have O8 := O7.wr (o' := .lst ((rs.map fun x => V.ref x.1) ++ [.ref l])) (.there .here)
    refine O8.perm ?_
    rw [List.map_append, List.map_append, List.append_assoc]
    exact (List.Perm.swap _ _ _).trans (.cons _ List.perm_middle.symm)
  rintro e H4 ⟨rs, hrs, O6⟩
  rw [Int.toNat_natCast] at hrs
  have hrl := congrArg List.length hrs
  rw [List.length_map, List.length_replicate] at hrl
  have O7 : Own H H4 [] (S1.cells K ⟨p, q, List.replicate n 0, cs, c, e, rs⟩) := O6.perm (by
    show List.Perm (_ :: (_ ++ _ :: _)) (_ :: (_ :: (_ ++ _)))
    exact (List.Perm.cons _ List.perm_middle).trans (List.Perm.swap _ _ _))
  have ok0 : S1.Ok ⟨p, q, List.replicate n 0, cs, c, e, rs⟩ n := ⟨⟨by rw [List.length_replicate, hcl], by rw [List.length_replicate]; omega⟩, List.length_replicate, hrl, NonNeg.rep n, fun i x y h1 h2 h3 => by
    have h4 : y.2 ∈ rs.map (·.2) := List.mem_map.mpr ⟨y, List.mem_of_getElem? h3, rfl⟩
    rw [hrs] at h4
    rw [List.eq_of_mem_replicate h4, hcz x (List.mem_of_getElem? h2)], fun x hx => by rw [hcz x hx]; decide⟩
  clear O4 O5 O6
  walk_at "s"
  refine ask2 ⟨a, xs, n, rfl, rfl, hn, O7.sq ha, hl, fun H5 d ds hO hds hdl => ?_⟩
  have O8 : Own H H5 [] ((d, .lst ds) :: S1.cells K ⟨p, q, List.replicate n 0, cs, c, e, rs⟩) := O7.callN hO
  walk_at "s"
  refine forL (K := K) (a := d) (xs := ds) (fun j σ H' => ∃ (t : S1) (v4 v6 v7 : Option V), σ = [some (.ref a), some (.int n), some (.ref p), some (.ref c), v4, some (.ref e), v6, v7, none] ∧ Own H H' [] ((d, .lst ds) :: S1.cells K t) ∧ t.Ok n ∧ (t.p = p ∧ t.c = c ∧ t.e = e) ∧ (∀ d ∈ ds, DeedOk n H' d))
    ⟨_, _, _, _, rfl, O8, ok0, ⟨rfl, rfl, rfl⟩, hds⟩ (fun i σ H' _ ⟨_, _, _, _, _, O, _⟩ => SqL.of (O.get List.mem_cons_self)) ?_ ?_
  · clear O8 ok0 hO hds
    rintro j x σ H' hx ⟨t, v4, v6, v7, rfl, O, ok, ⟨rfl, rfl, rfl⟩, hds⟩
    obtain ⟨T, w, pg, m, rfl, ht, w0, w1, p0, p1, m0, m1⟩ := hds x (List.mem_of_getElem? hx)
    walk_at "s"
    refine ask4 ⟨t, n, T, w, pg, m, rfl, rfl, rfl, rfl, ht, w0, w1, ok, hn, O.blk (s' := []) (.there .all), fun H6 u O6 ok6 hu => ?_⟩
    walk_at "s"
    exact ⟨u, _, _, _, rfl, O.call (.there .all) O6, ok6, hu, fun d hd => (hds d hd).mono O6⟩
  clear O8 ok0 hO hds O7
  rintro σ H6 ⟨⟨p', q', os, cs', c', e', rs'⟩, v4, v6, v7, rfl, O8, ok, ⟨h1, h2, h3⟩, _⟩
  dsimp only at h1 h2 h3
  subst h1 h2 h3
  unfold S1.cells at O8
  dsimp only at O8
  have O9 : Own H H6 [] ((c', .lst (os.map V.int)) :: ((e', .lst (rs'.map fun x => V.ref x.1)) :: rs'.map pcel ++ cSto K p' q' os cs')) := O8.drop (.cons _ (.refl _))
  clear O8
  have hol : os.length = n := ok.len
  have hrl2 : rs'.length = n := ok.rlen
  have hcl2 : cs'.length = n := by rw [← ok.sto.len]; exact hol
  walk_at "s"
  refine forR (lo := -1) (fun j σ H' => ∃ (v4 v7 : Option V), σ = [some (.ref a), some (.int n), some (.ref p'), some (.ref c'), v4, some (.ref e'), v6, v7, none] ∧ Own H H' [] ((c', .lst (os.map V.int)) :: ((e', .lst (rs'.map fun x => V.ref x.1)) :: rs'.map pcel ++ cSto K p' q' os cs'))) ⟨_, _, rfl, O9⟩ ?_ ?_
  · clear O9
    rintro j σ H' hj ⟨v4, v7, rfl, O11⟩
    have hrw := O11.rows (rs := rs') fun r h => .tail _ (.tail _ (List.mem_append_left _ (List.mem_map.mpr ⟨r, h, rfl⟩)))
    walk_at "s"
    refine cutS (fun σ' H2 => H2 = H' ∧ σ' = [some (.ref a), some (.int n), some (.ref p'), some (.ref c'), some (.int (-1 + j)), some (.ref e'), v6, some (.int (cntS os (-1 + j))), none]) (fun nx hnx => ?_) ?_
    · have hz : ¬ (0 ≤ (-1 + j : Int) ∧ (-1 + j : Int) < n) → cntS os (-1 + j) = 0 := fun h => by unfold cntS; rw [if_neg (by rw [hol]; exact h)]
      walk_at "s"
      refine if_d (fun h0 => ?_) (fun h0 => ?_)
      · walk_at "s"
        refine if_d (fun h1 => ?_) (fun h1 => ?_)
        · obtain ⟨y, hy, hat⟩ := at_ints (ns := os) (n := -1 + j) h0 (by rw [List.length_map, hol]; exact h1)
          have hc : cntS os (-1 + j) = y := by rw [← cntS_nat hy, Int.toNat_of_nonneg h0]
          rw [hc] at hnx
          walk_at "s"
          exact hnx _ _ ⟨rfl, rfl⟩
        · rw [hz (fun h => h1 h.2)] at hnx
          walk_at "s"
          exact hnx _ _ ⟨rfl, rfl⟩
      · rw [hz (fun h => h0 h.1)] at hnx
        walk_at "s"
        exact hnx _ _ ⟨rfl, rfl⟩
    rintro σ' H2 ⟨rfl, rfl⟩
    walk_at "s"
    refine ask2 ⟨p', q', os, cs', _, rfl, rfl, O11.blk (s' := []) (.there (.there (.app .all))), ?_⟩
    walk_at "s"
    refine ask2 ⟨.inr ⟨_, rfl, rfl⟩, ?_⟩
    walk_at "s"
    refine if_d (fun hc => ?_) (fun hc => ?_)
    · obtain ⟨i, x, hi, hx, hxc⟩ := cntS_pos (show cntS os (-1 + j) ≠ 0 by omega)
      have hil := (List.getElem?_eq_some_iff.mp hx).1
      obtain ⟨r, hr⟩ : ∃ r, rs'[i]? = some r := ⟨rs'[i]'(by omega), List.getElem?_eq_getElem _⟩
      obtain ⟨z, hz⟩ : ∃ z, cs'[i]? = some z := ⟨cs'[i]'(by omega), List.getElem?_eq_getElem _⟩
      have hatr := atI_nat (xs := rs'.map fun x : Pg => V.ref x.1) (j := i) (v := .ref r.1) (by rw [List.getElem?_map, hr]; rfl)
      rw [← hi] at hatr
      have hrz : r.2 = z.2 := ok.same i z r (by rw [hx]; intro w; cases w; omega) hz hr
      walk_at "s"
      refine ask2 ⟨p', q', os, cs', _, rfl, rfl, ok.sto, O11.blk (s' := []) (.there (.there (.app .all))), fun _ x' hx' H12 c12 O12 => ?_, fun w => absurd w (by omega)⟩
      rw [hi, Int.toNat_natCast, hz] at hx'
      cases hx'
      have O13 := O11.callE (e := [(c12, .lst (z.2.map V.int))]) (.there (.there (.app .all))) O12
      have hrh := O13.get (a := r.1) (.tail _ (.tail _ (.tail _ (List.mem_append_left _ (List.mem_map.mpr ⟨r, List.mem_of_getElem? hr, rfl⟩)))))
      walk_at "s"
      refine ask2 ⟨c12, r.1, z.2, rfl, rfl, O13.get (.head _), by rw [← hrz]; exact hrh, ?_⟩
      walk_at "s"
      exact ⟨_, _, rfl, O13.drop (.cons _ (.refl _))⟩
    · exact ⟨_, _, rfl, O11⟩
  rintro σ H7 ⟨v4, v7, rfl, O11⟩
  have hcO2 := O11.get (a := c') (.head _)
  walk_at "s"
  refine ask1 ⟨p', q', os, cs', rfl, O11.blk (s' := []) (.there (.there (.app .all))), ?_⟩
  walk_at "s"
  refine lcL (K := K) (a := c') (xs := os.map V.int) (fun D j H2 => Own H7 H2 [] [(D, .lst (((os.take j).filter (· == 0)).map V.int))]) (fun D hD => Own.start.new hD) (fun D j H2 _ O2 => SqL.of (O2.fr0 hcO2)) ?_ ?_
  · rintro D j x H2 hx O2
    obtain ⟨y, hy, rfl⟩ := map_get hx
    have hlen : (((os.take j).filter (· == 0)).map V.int).length < 100000 := by
      rw [List.length_map]
      have := List.length_filter_le (· == (0 : Int)) (os.take j)
      rw [List.length_take] at this
      omega
    walk_at "s"
    rw [take_succ hy, List.filter_append]
    refine if_ii (fun hy0 => ?_) (fun hy0 => ?_)
    · subst hy0
      walk_at "s"
      rw [List.map_append]
      exact ⟨O2.wr .here⟩
    · rw [List.filter_cons_of_neg (by simpa using hy0), List.filter_nil, List.append_nil]
      exact ⟨O2⟩
  · rintro D H2 O2
    rw [List.length_map, List.take_length] at O2
    walk_at "s"
    refine ask2 ⟨.inr ⟨_, rfl, ?_⟩, k _⟩
    rw [List.length_map, List.count_eq_length_filter]

end Ow
open PySem PySem.W PySem.Calls PyProof.Rows
set_option maxHeartbeats 0
set_option maxRecDepth 100000 in
theorem PySem.Challenge.cw_ownroom_k01_stores_deed_by_deed_holds : PySem.Challenge.rw_ownroom_k01_stores_deed_by_deed.Holds := by
  w_on; o_law
  refine HandSHeadRun.head_any (r := OpenLaw.row PySem.Challenge.rw_ownroom_k01_stores_deed_by_deed) (q := view (OpenLaw.row PySem.Challenge.rw_ownroom_k01_stores_deed_by_deed).prog [43]) (H := Ow.hk) (ob := Ow.ob) (M := 60000) (loose := Ow.loose) (d := HandSHeadRun.topDef (OpenLaw.row PySem.Challenge.rw_ownroom_k01_stores_deed_by_deed).prog 43) (kwd := []) Ow.ob_eq
    (by kernel_rfl) (fun s => by kernel_rfl) Ow.run (by kernel_rfl) (by kernel_rfl) (by kernel_rfl) (by rfl) (by first | assumption | decide +kernel) (by decide +kernel) ⟨rfl, rfl, rfl, rfl, rfl, by decide +kernel⟩ ?hw ?hc
  case hw => w_witness2
  case hc =>
    refine Ow.walk_end (l := PySem.Challenge.rw_ownroom_k01_stores_deed_by_deed) (n := 63) (k := 7) (x := "_law_script") rfl (by decide) (by kernel_rfl) ⟨rfl, by decide, by decide⟩ ?F
    intro w mg fa h Y G hmg0
    obtain ⟨K, KX, c⟩ := Y
    have hmg : mg ("law" : PySem.Str) = some (.ref fa) := by
      have e : (HandSHeadRun.topDef (OpenLaw.row PySem.Challenge.rw_ownroom_k01_stores_deed_by_deed).prog 43).name = ("law" : PySem.Str) := by kernel_rfl
      rw [← e]
      exact hmg0
    have T := Ow.txt_mk KX G c.t.d c.more
    have e := hmg.symm.trans T.g_law
    cases e
    obtain ⟨fd, F⟩ := T.d_law
    have b := L2.FunD.bindsA (ps := ["_law_script"]) F fun _ _ _ _ _ _ us hl => match us, hl with | [_], _ => rfl
    exact ⟨K, fd, Ow.bx (Ow.sp_law K), KX, fun s v => b s [v] rfl, fun H a ns hl hz hS => ⟨⟨_, rfl, Ow.law_in H a ns hl hz hS⟩⟩, fun base _ _ => Ow.ok_law T F⟩
