import PyProof.Rows.All
import Wide.All
import OpenK.AllK
import Wide.FinOn
import HandS.ForMost
import HandS.ForExc
import HandS.More
import HandS.SortInts
import HandS.Conv
import HandS.Defaults
import HandS.IsInst
import HandS.ExcValue
import HandS.ExcIs
import HandS.Flow
import HandS.Codes
import HandS.TupLen
import HandS.StrMore
import HandS.SetFor
import HandS.Style
import HandS.DictTup
import HandS.ListItems
import HandS.TupAny
import HandS.Finally
import HandS.Wide
import HandS.Replace
import HandS.Zip
import HandS.Walk
import HandS.DeepEq
import HandS.Head0
import HandS.Head1
import HandS.Head2
import HandS.HeadEnd
import HandS.HeadHook1
import HandS.HeadHook2
import HandS.HeadHook3
import HandS.HeadHook4
import HandS.EndBits
import PySem.Challenge.RW_ownroom_k28_each_fall_of_a_commit
set_option Elab.async false
set_option linter.all false
set_option maxRecDepth 100000
set_option pp.mvars false
set_option pp.deepTerms false
set_option pp.deepTerms.threshold 10
set_option pp.maxSteps 1500
set_option maxHeartbeats 4000000
namespace Ow
open PySem PySem.Spec PyProof.Rows L2
/-! ## My own layer: what a def owns (cells), a def that may be called, readings that stop at calls and loops -/
/-! ### cells -/
abbrev Cells := List (Addr × HO)
def adr (cs : Cells) : List Addr := cs.map Prod.fst
/-- from H0, of which the addresses A are ours, we have come to H; the cells cs stand there, each once; the rest of H0 is as it was, new cells were free in H0, tuples stay -/
structure Own (H0 H : Hp) (A : List Addr) (cs : Cells) : Prop where
  at_ : ∀ a o, (a, o) ∈ cs → H a = some o
  nd : (adr cs).Nodup
  fr : ∀ b o, H0 b = some o → b ∉ A → H b = some o
  nw : ∀ b, b ∈ adr cs → b ∈ A ∨ H0 b = none
  tp : ∀ b xs, H0 b = some (.tup xs) → H b = some (.tup xs)
theorem adr_cons {c : Addr × HO} {r : Cells} : adr (c :: r) = c.1 :: adr r := rfl
theorem adr_app {s r : Cells} : adr (s ++ r) = adr s ++ adr r := List.map_append
theorem Own.start {H : Hp} (h : ∀ b xs, H b = some (.tup xs) → H b = some (.tup xs) := fun _ _ h => h) : Own H H [] [] :=
  ⟨fun _ _ m => (nomatch m), List.nodup_nil, fun _ _ h _ => h, fun _ m => (nomatch m), h⟩
/-- where the cell of an address stands, and the row with another thing there -/
inductive At : Cells → Addr → HO → HO → Cells → Prop
  | here {a o o' r} : At ((a, o) :: r) a o o' ((a, o') :: r)
  | there {c r a o o' r'} : At r a o o' r' → At (c :: r) a o o' (c :: r')
  | app {s r a o o' r'} : At r a o o' r' → At (s ++ r) a o o' (s ++ r')
  | appl {s r a o o' s'} : At s a o o' s' → At (s ++ r) a o o' (s' ++ r)
theorem At.mem {cs cs' : Cells} {a : Addr} {o o' : HO} (h : At cs a o o' cs') : (a, o) ∈ cs := by
  induction h with
  | here => exact List.mem_cons_self
  | there _ ih => exact List.mem_cons_of_mem _ ih
  | app _ ih => exact List.mem_append_right _ ih
  | appl _ ih => exact List.mem_append_left _ ih
theorem At.adr {cs cs' : Cells} {a : Addr} {o o' : HO} (h : At cs a o o' cs') : adr cs' = adr cs := by
  induction h with
  | here => rfl
  | there _ ih => rw [adr_cons, adr_cons, ih]
  | app _ ih => rw [adr_app, adr_app, ih]
  | appl _ ih => rw [adr_app, adr_app, ih]
theorem At.of {cs cs' : Cells} {a : Addr} {o o' : HO} (h : At cs a o o' cs') (nd : (Ow.adr cs).Nodup) : ∀ b u, (b, u) ∈ cs' → (b = a ∧ u = o') ∨ (b ≠ a ∧ (b, u) ∈ cs) := by
  induction h with
  | here =>
    intro b u m
    rcases List.mem_cons.mp m with e | m2
    · cases e; exact .inl ⟨rfl, rfl⟩
    · refine .inr ⟨fun e => ?_, List.mem_cons_of_mem _ m2⟩
      subst e
      exact (List.nodup_cons.mp nd).1 (List.mem_map.mpr ⟨_, m2, rfl⟩)
  | @there c r a o o' r' h ih =>
    intro b u m
    obtain ⟨n1, n2⟩ := List.nodup_cons.mp nd
    rcases List.mem_cons.mp m with e | m
    · subst e
      refine .inr ⟨fun e => ?_, List.mem_cons_self⟩
      exact n1 (List.mem_map.mpr ⟨_, h.mem, e.symm⟩)
    · rcases ih n2 b u m with z | ⟨z1, z2⟩
      · exact .inl z
      · exact .inr ⟨z1, List.mem_cons_of_mem _ z2⟩
  | @app s r a o o' r' h ih =>
    intro b u m
    rw [adr_app] at nd
    obtain ⟨n1, n2, n3⟩ := List.nodup_append.mp nd
    rcases List.mem_append.mp m with m | m
    · refine .inr ⟨fun e => ?_, List.mem_append_left _ m⟩
      subst e
      exact n3 _ (List.mem_map.mpr ⟨_, m, rfl⟩) _ (List.mem_map.mpr ⟨_, h.mem, rfl⟩) rfl
    · rcases ih n2 b u m with z | ⟨z1, z2⟩
      · exact .inl z
      · exact .inr ⟨z1, List.mem_append_right _ z2⟩
  | @appl s r a o o' s' h ih =>
    intro b u m
    rw [adr_app] at nd
    obtain ⟨n1, n2, n3⟩ := List.nodup_append.mp nd
    rcases List.mem_append.mp m with m | m
    · rcases ih n1 b u m with z | ⟨z1, z2⟩
      · exact .inl z
      · exact .inr ⟨z1, List.mem_append_left _ z2⟩
    · refine .inr ⟨fun e => ?_, List.mem_append_right _ m⟩
      subst e
      exact n3 _ (List.mem_map.mpr ⟨_, h.mem, rfl⟩) _ (List.mem_map.mpr ⟨_, m, rfl⟩) rfl
def isTup : HO → Bool
  | .tup _ => true
  | _ => false
/-- a block of cells within, and the row with another block in its place -/
inductive Sub : Cells → Cells → Cells → Cells → Prop
  | all {s s'} : Sub s s s' s'
  | here {s s' r} : Sub (s ++ r) s s' (s' ++ r)
  | one {c s' r} : Sub (c :: r) [c] s' (s' ++ r)
  | two {c d s' r} : Sub (c :: d :: r) [c, d] s' (s' ++ r)
  | nil {r s'} : Sub r [] s' (s' ++ r)
  | there {c r s s' r'} : Sub r s s' r' → Sub (c :: r) s s' (c :: r')
  | app {t r s s' r'} : Sub r s s' r' → Sub (t ++ r) s s' (t ++ r')
  | appl {t r s s' t'} : Sub t s s' t' → Sub (t ++ r) s s' (t' ++ r)
theorem Sub.split {cs s s' cs' : Cells} (h : Sub cs s s' cs') : ∃ l r, cs = l ++ (s ++ r) ∧ cs' = l ++ (s' ++ r) := by
  induction h with
  | all => exact ⟨[], [], by simp, by simp⟩
  | here => exact ⟨[], _, rfl, rfl⟩
  | one => exact ⟨[], _, rfl, rfl⟩
  | two => exact ⟨[], _, rfl, rfl⟩
  | nil => exact ⟨[], _, rfl, rfl⟩
  | @there c r s s' r' _ ih =>
    obtain ⟨l, t, e1, e2⟩ := ih
    exact ⟨c :: l, t, by rw [e1]; rfl, by rw [e2]; rfl⟩
  | @app t r s s' r' _ ih =>
    obtain ⟨l, q, e1, e2⟩ := ih
    exact ⟨t ++ l, q, by rw [e1, List.append_assoc], by rw [e2, List.append_assoc]⟩
  | @appl t r s s' t' _ ih =>
    obtain ⟨l, q, e1, e2⟩ := ih
    exact ⟨l, q ++ r, by rw [e1]; simp only [List.append_assoc], by rw [e2]; simp only [List.append_assoc]⟩
section
variable {H0 H H' : Hp} {A : List Addr} {cs cs' s s' : Cells} {a p : Addr} {o o' : HO}
theorem Own.get (O : Own H0 H A cs) (m : (a, o) ∈ cs) : H a = some o := O.at_ a o m
theorem Own.tup {t : Addr} {xs : List V} (O : Own H0 H A cs) (h : H0 t = some (.tup xs)) : H t = some (.tup xs) := O.tp t xs h
/-- a cell is written -/
theorem Own.wr (O : Own H0 H A cs) (h : At cs a o o' cs') (n : isTup o = false := by rfl) : Own H0 (upd H a o') A cs' := by
  have ha := O.at_ a o h.mem
  refine ⟨fun b u m => ?_, by rw [h.adr]; exact O.nd, fun b u e hb => ?_, fun b m => O.nw b (by rw [← h.adr]; exact m), fun b xs e => ?_⟩
  · rcases h.of O.nd b u m with ⟨rfl, rfl⟩ | ⟨e, m⟩
    · exact upd_same
    · rw [upd_ne e]; exact O.at_ b u m
  · rw [upd_ne]
    · exact O.fr b u e hb
    · rintro rfl
      rcases O.nw b (List.mem_map.mpr ⟨_, h.mem, rfl⟩) with z | z
      · exact hb z
      · rw [z] at e; cases e
  · have e1 := O.tp b xs e
    rw [upd_ne]
    · exact e1
    · rintro rfl
      rw [e1] at ha
      cases ha
      cases n
/-- a new cell -/
theorem Own.new (O : Own H0 H A cs) (h : H p = none) : Own H0 (upd H p o) A ((p, o) :: cs) := by
  have hn : p ∉ adr cs := fun m => by
    obtain ⟨c, hc, e⟩ := List.mem_map.mp m
    have := O.at_ c.1 c.2 hc
    rw [e, h] at this
    cases this
  have ne : ∀ b u, H b = some u → b ≠ p := fun b u e z => by rw [z, h] at e; cases e
  by_cases hA : p ∈ A
  · refine ⟨fun b u m => ?_, List.nodup_cons.mpr ⟨hn, O.nd⟩, fun b u e hb => ?_, fun b m => ?_, fun b xs e => ?_⟩
    · rcases List.mem_cons.mp m with z | z
      · cases z; exact upd_same
      · rw [upd_ne (ne b u (O.at_ b u z))]; exact O.at_ b u z
    · rw [upd_ne (ne b u (O.fr b u e hb))]; exact O.fr b u e hb
    · rcases List.mem_cons.mp m with z | z
      · exact .inl (by rw [z]; exact hA)
      · exact O.nw b z
    · rw [upd_ne (ne b _ (O.tp b xs e))]; exact O.tp b xs e
  · have h0 : H0 p = none := by
      cases q : H0 p with
      | none => rfl
      | some u =>
        rw [O.fr p u q hA] at h
        cases h
    refine ⟨fun b u m => ?_, List.nodup_cons.mpr ⟨hn, O.nd⟩, fun b u e hb => ?_, fun b m => ?_, fun b xs e => ?_⟩
    · rcases List.mem_cons.mp m with z | z
      · cases z; exact upd_same
      · rw [upd_ne (ne b u (O.at_ b u z))]; exact O.at_ b u z
    · rw [upd_ne (ne b u (O.fr b u e hb))]; exact O.fr b u e hb
    · rcases List.mem_cons.mp m with z | z
      · exact .inr (by rw [z]; exact h0)
      · exact O.nw b z
    · rw [upd_ne (ne b _ (O.tp b xs e))]; exact O.tp b xs e
/-- a new tuple: it needs no owner -/
theorem Own.newT (O : Own H0 H A cs) (h : H p = none) : Own H0 (upd H p o) A cs :=
  have O' := O.new (o := o) h
  ⟨fun b u m => O'.at_ b u (List.mem_cons_of_mem _ m), O.nd, O'.fr, O.nw, O'.tp⟩
/-- fewer cells -/
theorem Own.drop (O : Own H0 H A cs) (h : List.Sublist cs' cs) : Own H0 H A cs' :=
  ⟨fun b u m => O.at_ b u (h.subset m), O.nd.sublist (h.map _), O.fr, fun b m => O.nw b ((h.map _).subset m), O.tp⟩
theorem Own.perm (O : Own H0 H A cs) (h : cs.Perm cs') : Own H0 H A cs' :=
  ⟨fun b u m => O.at_ b u (h.mem_iff.mpr m), (h.map _).nodup_iff.mp O.nd, O.fr, fun b m => O.nw b ((h.map _).mem_iff.mpr m), O.tp⟩
/-- a block of it, as what a callee is handed -/
theorem Own.blk (O : Own H0 H A cs) (h : Sub cs s s' cs') : Own H H (adr s) s := by
  obtain ⟨l, r, rfl, _⟩ := h.split
  have nd := O.nd
  rw [adr_app, adr_app] at nd
  exact ⟨fun b u m => O.at_ b u (List.mem_append_right _ (List.mem_append_left _ m)), (List.nodup_append.mp (List.nodup_append.mp nd).2.1).1, fun _ _ e _ => e, fun _ m => .inl m, fun _ _ e => e⟩
/-- behind the call -/
theorem Own.call (O : Own H0 H A cs) (h : Sub cs s s' cs') (C : Own H H' (adr s) s') : Own H0 H' A cs' := by
  obtain ⟨l, r, rfl, rfl⟩ := h.split
  have nd := O.nd
  simp only [adr_app] at nd
  obtain ⟨n1, n2, n3⟩ := List.nodup_append.mp nd
  obtain ⟨n4, n5, n6⟩ := List.nodup_append.mp n2
  have out : ∀ b u, ((b, u) ∈ l ∨ (b, u) ∈ r) → H' b = some u := fun b u m => by
    have hb : b ∉ adr s := fun z => by
      rcases m with m | m
      · exact n3 b (List.mem_map.mpr ⟨_, m, rfl⟩) b (List.mem_append_left _ z) rfl
      · exact n6 b z b (List.mem_map.mpr ⟨_, m, rfl⟩) rfl
    refine C.fr b u (O.at_ b u ?_) hb
    rcases m with m | m
    · exact List.mem_append_left _ m
    · exact List.mem_append_right _ (List.mem_append_right _ m)
  have sep : ∀ b, b ∈ adr s' → (b ∈ adr l ∨ b ∈ adr r) → False := fun b m z => by
    obtain ⟨u, hu⟩ : ∃ u, ((b, u) ∈ l ∨ (b, u) ∈ r) := by
      rcases z with z | z
      · obtain ⟨c, hc, e⟩ := List.mem_map.mp z
        exact ⟨c.2, .inl (by rw [← e]; exact hc)⟩
      · obtain ⟨c, hc, e⟩ := List.mem_map.mp z
        exact ⟨c.2, .inr (by rw [← e]; exact hc)⟩
    rcases C.nw b m with q | q
    · rcases z with z | z
      · exact n3 b z b (List.mem_append_left _ q) rfl
      · exact n6 b q b z rfl
    · have e : H b = some u := O.at_ b u (by
        rcases hu with m | m
        · exact List.mem_append_left _ m
        · exact List.mem_append_right _ (List.mem_append_right _ m))
      rw [q] at e
      cases e
  refine ⟨fun b u m => ?_, ?_, fun b u e hb => ?_, fun b m => ?_, fun b xs e => C.tp b xs (O.tp b xs e)⟩
  · rcases List.mem_append.mp m with m | m
    · exact out b u (.inl m)
    · rcases List.mem_append.mp m with m | m
      · exact C.at_ b u m
      · exact out b u (.inr m)
  · simp only [adr_app]
    refine List.nodup_append.mpr ⟨n1, List.nodup_append.mpr ⟨C.nd, n5, fun x hx y hy e => ?_⟩, fun x hx y hy e => ?_⟩
    · subst e
      exact sep x hx (.inr hy)
    · subst e
      rcases List.mem_append.mp hy with z | z
      · exact sep x z (.inl hx)
      · exact n3 x hx x (List.mem_append_right _ z) rfl
  · refine C.fr b u (O.fr b u e hb) fun z => ?_
    rcases O.nw b (by simp only [adr_app]; exact List.mem_append_right _ (List.mem_append_left _ z)) with q | q
    · exact hb q
    · rw [q] at e
      cases e
  · simp only [adr_app] at m
    rcases List.mem_append.mp m with m | m
    · exact O.nw b (by simp only [adr_app]; exact List.mem_append_left _ m)
    · rcases List.mem_append.mp m with m | m
      · rcases C.nw b m with z | z
        · exact O.nw b (by simp only [adr_app]; exact List.mem_append_right _ (List.mem_append_left _ z))
        · by_cases hA : b ∈ A
          · exact .inl hA
          · refine .inr ?_
            cases q : H0 b with
            | none => rfl
            | some u =>
              rw [O.fr b u q hA] at z
              cases z
      · exact O.nw b (by simp only [adr_app]; exact List.mem_append_right _ (List.mem_append_right _ m))
end
end Ow
namespace Ow
open PySem PySem.Spec PyProof.Rows L2
/-! ### where a walk stops -/
structure Box (p : Prop) : Prop where
  out : p
theorem PE.box {X : Cx} {e : Expr} {t : TE} (h : PE X e t) : PE X e (fun σ H Q => t σ H fun v H1 => Box (Q v H1)) :=
  ⟨fun pins s σ H Q I q => thn (h.run pins s σ H _ I q) fun _ _ ⟨x, H1, I1, r1, q1⟩ => ⟨x, H1, I1, r1, q1.out⟩⟩
theorem PA.box {X : Cx} {es : List Expr} {t : TA} (h : PA X es t) : PA X es (fun σ H Q => t σ H fun v H1 => Box (Q v H1)) :=
  ⟨fun pos pins s σ H Q I q => thn (h.run pos pins s σ H _ I q) fun _ _ ⟨x, H1, I1, r1, q1⟩ => ⟨x, H1, I1, r1, q1.out⟩⟩
theorem PI.box {X : Cx} {tg e : Expr} {w : TI} (h : PI X tg e w) : PI X tg e (fun σ H R => w σ H fun J H1 => Box (R J H1)) :=
  ⟨fun pins s σ H R I q => thn (h.run pins s σ H _ I q) fun _ _ h1 => thn h1 fun _ _ ⟨it, fp, tn, J, H', e, I', T, t0, f, r⟩ => ⟨it, fp, tn, J, H', e, I', T, t0, f, r.out⟩⟩
/-- a reading as it stands, not reckoned out -/
def tW (t : TS) : TS := t
theorem PS.box {X : Cx} {st : Stmt} {t : TS} (h : PS X st t) : PS X st (fun D σ H => Box (tW t D σ H)) :=
  ⟨fun pins s σ H D I q => h.run pins s σ H D I q.out⟩
theorem PE.alt {X : Cx} {e : Expr} {t u : TE} (h : PE X e t) (h' : PE X e u) : PE X e (fun σ H Q => t σ H Q ∨ u σ H Q) :=
  ⟨fun pins s σ H Q I q => q.elim (h.run pins s σ H Q I) (h'.run pins s σ H Q I)⟩
/-- a promise that a walk stops at -/
def bx (sp : Sp) : Sp := fun vs H Q E => Box (sp vs H Q E)
/-- of a def that nobody calls: nothing may be asked -/
def spWall : Sp := fun _ _ _ _ => False
/-- a def that may be called: it keeps its promise -/
structure Cee (P : Program) (w : World) (K : PySem.W.Frag) (mg : Str → Option Value) (base : Heap) (k : Nat) (f : Addr) (ps : List Str) (sp : Sp) : Prop where
  kp : PySem.W.keepIn K (.ref f) = true
  fn : ∃ fd, FnOk P w K mg base (L2.CX P w) k f fd ps (bx sp) ∧ Binds K fd ps []
section
variable {P : Program} {w : World} {K : PySem.W.Frag} {mg : Str → Option Value} {base : Heap}
theorem cee_of {x qual : Str} {params : Arguments} {body : List Stmt} {scope : Scope} {f : Addr} {N ps : List Str} {k : Nat} {sp : Sp} (F : ∃ fd, FunD K x qual params body scope [] [] f fd) (S : FnScope N ps scope)
    (hb : ∀ (kV doc pm : Value) (an : Option Addr) (cdv ct : Value) (us : List Value), us.length = ps.length → bindArgs (PySem.W.fnOf x qual params body scope .none kV doc pm an cdv ct) ⟨us, []⟩ = pure (ps.zip us))
    (len : ∀ vs H Q E, sp vs H Q E → vs.length = ps.length)
    (hbody : ∀ (cdv : Value) (A : Around) (outer : List Env) (s : Shared) (H : Hp) (vs : List V) (Q : VK) (E : XK), Room k (A.deeper (envOfC qual scope s.heap.objs.size f cdv)) → sp vs H Q E →
      ∃ t, PSs (cxOf (L2.CX P w) P w K mg base N qual scope f cdv A outer s H E) body t ∧ t { nx := fun _ H' => Q .non H', rt := Q } (start N vs) H) : Cee P w K mg base (k + 1) f ps sp := by
  obtain ⟨fd, F⟩ := F
  exact ⟨F.kp, fd, FunD.ok F S (fun vs H Q E h => len vs H Q E h.out) (fun cdv A outer s H vs Q E hr h => hbody cdv A outer s H vs Q E hr h.out), F.bindsN hb⟩
end
section
variable {X : Cx} {k : Nat} {f C : Addr} {ps : List Str} {sp : Sp} {W : WX} {x m : Str} {p pos apos : Pos} {e o : Expr} {es : List Expr} {ta : TE} {t : TA}
theorem pe_f (c : Cee X.prog X.w X.K X.mg X.base k f ps sp) (hr : Room k X.A) (tk : Takes X W) (hg : Gl X x) (hm : X.mg x = some (.ref f)) (ha : PA X (e :: es) t) (hdb : (x == ("__debug__" : Str)) = false := by decide)
    (he : starEach (e :: es) X.env = (false, eval e X.env) :: starEach es X.env := by rfl) (hpl : (backTo pos (starEach es X.env)).any (·.1) = false := by rfl) :
    PE X (.Call (.Name x p) (e :: es) [] pos) (tCallS (bx sp) (WE W) t) := by
  obtain ⟨fd, F, b⟩ := c.fn
  exact pe_callS F hr hg hm c.kp b (fun σ => passAt tk σ) ha hdb he hpl
theorem pe_f0 (c : Cee X.prog X.w X.K X.mg X.base k f ps sp) (hr : Room k X.A) (tk : Takes X W) (hg : Gl X x) (hm : X.mg x = some (.ref f)) (hdb : (x == ("__debug__" : Str)) = false := by decide) :
    PE X (.Call (.Name x p) [] [] pos) (fun σ H Q => bx sp [] H Q (WE W σ)) := by
  obtain ⟨fd, F, b⟩ := c.fn
  refine ⟨fun pins s σ H Q I h => ?_⟩
  refine wpAny_Call_Name_kw (ld_glob I hg hm ?_ hdb)
  exact PySem.W.callWith_K0 I.kIn c.kp (run_fnS (us := []) (E := WE W) F hr b (passAt tk σ) I .nil h)
/-- o.m(e, ..) -/
def tM (C : Addr) (m : Str) (sp : Sp) (W : WX) (ta : TE) (t : TA) : TE := fun σ H Q => ta σ H fun x H1 => ∃ a dx fs, x = .ref a ∧ H1 a = some (.ins C dx fs) ∧ fs.lookup m = none ∧ t σ H1 fun vs H2 => bx sp (x :: vs) H2 Q (WE W σ)
theorem pe_m {pl : Sem Bool} (ho : PE X o ta) (cl : Cls X.K C) (hm : Meth X.K C m f) (c : Cee X.prog X.w X.K X.mg X.base k f ps sp) (hr : Room k X.A) (tk : Takes X W) (ha : PA X (e :: es) t)
    (hst : starEach (e :: es) X.env = (false, eval e X.env) :: starEach es X.env := by rfl) (hpl : (backTo pos (starEach es X.env)).any (·.1) = false := by rfl)
    (ht : eval (.Call (.Attribute o m apos) (e :: es) [] pos) X.env = (do
      let ov ← eval o X.env
      standAt apos.atName
      let (f, first) ← holding [ov] (getMethod ov m pl)
      callWith pos f first (backTo pos (starEach (e :: es) X.env)) (backToKw pos (keywordEach [] X.env))) := by rfl) :
    PE X (.Call (.Attribute o m apos) (e :: es) [] pos) (tM C m sp W ta t) := by
  obtain ⟨fd, F, b⟩ := c.fn
  refine ⟨fun pins s σ H Q I h => ?_⟩
  refine PySem.W.methodCall_KW (pl := pl) (thn (ho.run pins s σ H _ I h) fun u s1 ⟨y, H1, I1, ry, a, dx, fs, ey, ea, l, q⟩ => ?_) ht
  subst ey
  obtain rfl : u = Value.ref a := ry
  refine getmeth_ok I1 ea cl hm l ?_
  refine PySem.W.callWith_K (first := [.ref a]) (h₀ := X.base) I.ok.mod.kin hm.kp (thn (ha.run pos pins s1 σ H1 _ I1 q) fun us s2 ⟨vs, H2, I2, rv, q2⟩ => ⟨I2.kIn, ?_⟩) hst hpl
  exact run_fnS (us := .ref a :: us) (vs := .ref a :: vs) (E := WE W) F hr b (passAt tk σ) I2 (.cons rfl rv) q2
def tM0 (C : Addr) (m : Str) (sp : Sp) (W : WX) (ta : TE) : TE := fun σ H Q => ta σ H fun x H1 => ∃ a dx fs, x = .ref a ∧ H1 a = some (.ins C dx fs) ∧ fs.lookup m = none ∧ bx sp [x] H1 Q (WE W σ)
theorem pe_m0 {pl : Sem Bool} (ho : PE X o ta) (cl : Cls X.K C) (hm : Meth X.K C m f) (c : Cee X.prog X.w X.K X.mg X.base k f ps sp) (hr : Room k X.A) (tk : Takes X W)
    (ht : eval (.Call (.Attribute o m apos) [] [] pos) X.env = (do
      let ov ← eval o X.env
      standAt apos.atName
      let (f, first) ← holding [ov] (getMethod ov m pl)
      callWith pos f first (backTo pos (starEach [] X.env)) (backToKw pos (keywordEach [] X.env))) := by rfl) :
    PE X (.Call (.Attribute o m apos) [] [] pos) (tM0 C m sp W ta) := by
  obtain ⟨fd, F, b⟩ := c.fn
  refine ⟨fun pins s σ H Q I h => ?_⟩
  refine PySem.W.methodCall_KW (pl := pl) (thn (ho.run pins s σ H _ I h) fun u s1 ⟨y, H1, I1, ry, a, dx, fs, ey, ea, l, q⟩ => ?_) ht
  subst ey
  obtain rfl : u = Value.ref a := ry
  refine getmeth_ok I1 ea cl hm l ?_
  exact PySem.W.callWith_K0 (first := [.ref a]) I1.kIn hm.kp (run_fnS (us := [.ref a]) (vs := [.ref a]) (E := WE W) F hr b (passAt tk σ) I1 (.cons rfl .nil) q)
/-- C(e, ..): its __init__ lets nothing out -/
theorem pe_n (M : Mk X.K C f) (c : Cee X.prog X.w X.K X.mg X.base k f ps sp) (hr : Room (k + 1) X.A) (hg : Gl X x) (hm : X.mg x = some (.ref C)) (ha : PA X (e :: es) t) (hdb : (x == ("__debug__" : Str)) = false := by decide)
    (he : starEach (e :: es) X.env = (false, eval e X.env) :: starEach es X.env := by rfl) (hpl : (backTo pos (starEach es X.env)).any (·.1) = false := by rfl) :
    PE X (.Call (.Name x p) (e :: es) [] pos) (tMake C (bx sp) [] E0 t) := by
  obtain ⟨fd, F, b⟩ := c.fn
  exact pe_make M F hr hg hm b .nil passL ha hdb he hpl
theorem pe_n0 (M : Mk X.K C f) (c : Cee X.prog X.w X.K X.mg X.base k f ps sp) (hr : Room (k + 1) X.A) (hg : Gl X x) (hm : X.mg x = some (.ref C)) (hdb : (x == ("__debug__" : Str)) = false := by decide) :
    PE X (.Call (.Name x p) [] [] pos) (tMake C (bx sp) [] E0 tNil) := by
  obtain ⟨fd, F, b⟩ := c.fn
  exact pe_make0 M F hr hg hm b .nil passL hdb
end
/-! ### what a closer knows -/
theorem sl_of {σ : List (Option V)} {i : Nat} {v : V} (h : σ[i]? = some (some v)) : σ[i]? = some (some v) := h
theorem veq_of {x y : V} (h : x = y) : x = y := h
theorem lsq_of {x y : List V} (h : x = y) : x = y := h
theorem sc_of {x y : V} (h : scal x y = true) : scal x y = true := h
theorem lk_of {fs : List (Str × V)} {f : Str} {v : V} (h : fs.lookup f = some v) : fs.lookup f = some v := h
theorem lkn_of {fs : List (Str × V)} {f : Str} (h : fs.lookup f = none) : fs.lookup f = none := h
theorem lt_of {fs : List (Str × V)} (h : fs.length < 1000) : fs.length < 1000 := h
theorem hp_of {H : Hp} {a : Addr} {o : HO} (h : H a = some o) : H a = some o := h
theorem cd_of {i j : Int} (h : 0 < j ∧ j < 1073741824) : CDiv i j := h
theorem cm_l {i j : Int} (h : -(2 ^ 64) < i ∧ i < 2 ^ 64) : CMul i j := .inl h
theorem cm_r {i j : Int} (h : -(2 ^ 64) < j ∧ j < 2 ^ 64) : CMul i j := .inr h
theorem sz_le {n : Nat} (h : n ≤ 100000) : n ≤ sizeLine := Nat.le_trans h (by decide)
theorem sz_lt {n : Nat} (h : n < 100000) : n < sizeLine := Nat.lt_of_lt_of_le h (by decide)
/-! ### tests -/
theorem if_d {p A B : Prop} [Decidable p] (h1 : p → A) (h2 : ¬ p → B) : if decide p = true then A else B := by
  by_cases h : p
  · rw [if_pos (decide_eq_true h)]; exact h1 h
  · rw [if_neg (by rw [decide_eq_false h]; exact Bool.false_ne_true)]; exact h2 h
theorem if_nd {p A B : Prop} [Decidable p] (h1 : ¬ p → A) (h2 : p → B) : if (!decide p) = true then A else B := by
  by_cases h : p
  · rw [decide_eq_true h, if_neg (by decide)]; exact h2 h
  · rw [decide_eq_false h, if_pos (by decide)]; exact h1 h
theorem if_ii {a b : Int} {A B : Prop} (h1 : a = b → A) (h2 : ¬ a = b → B) : if decide (V.int a = V.int b) = true then A else B :=
  if_d (fun h => h1 (V.int.inj h)) fun h => h2 fun e => h (by rw [e])
theorem if_nii {a b : Int} {A B : Prop} (h1 : ¬ a = b → A) (h2 : a = b → B) : if (!decide (V.int a = V.int b)) = true then A else B :=
  if_nd (fun h => h1 fun e => h (by rw [e])) fun h => h2 (V.int.inj h)
theorem if_ss {a b : Str} {A B : Prop} (h1 : a = b → A) (h2 : ¬ a = b → B) : if decide (V.str a = V.str b) = true then A else B :=
  if_d (fun h => h1 (V.str.inj h)) fun h => h2 fun e => h (by rw [e])
theorem if_nss {a b : Str} {A B : Prop} (h1 : ¬ a = b → A) (h2 : a = b → B) : if (!decide (V.str a = V.str b)) = true then A else B :=
  if_nd (fun h => h1 fun e => h (by rw [e])) fun h => h2 (V.str.inj h)
theorem if_b {b : Bool} {A B : Prop} (h1 : b = true → A) (h2 : b = false → B) : if b = true then A else B := by
  cases b with
  | true => exact h1 rfl
  | false => exact h2 rfl
theorem if_nb {b : Bool} {A B : Prop} (h1 : b = false → A) (h2 : b = true → B) : if (!b) = true then A else B := by
  cases b with
  | true => exact h2 rfl
  | false => exact h1 rfl
theorem kt_int_int {K : PySem.W.Frag} : PySem.W.kitOne K (.type "int") (.type "int") = some true := kit_ty (by decide +kernel)
theorem kt_int_bool {K : PySem.W.Frag} : PySem.W.kitOne K (.type "int") (.type "bool") = some false := kit_ty (by decide +kernel)
theorem kt_int_str {K : PySem.W.Frag} : PySem.W.kitOne K (.type "int") (.type "str") = some false := kit_ty (by decide +kernel)
theorem kt_int_list {K : PySem.W.Frag} : PySem.W.kitOne K (.type "int") (.type "list") = some false := kit_ty (by decide +kernel)
theorem kt_int_tuple {K : PySem.W.Frag} : PySem.W.kitOne K (.type "int") (.type "tuple") = some false := kit_ty (by decide +kernel)
theorem kt_int_dict {K : PySem.W.Frag} : PySem.W.kitOne K (.type "int") (.type "dict") = some false := kit_ty (by decide +kernel)
theorem kt_bool_int {K : PySem.W.Frag} : PySem.W.kitOne K (.type "bool") (.type "int") = some true := kit_ty (by decide +kernel)
theorem kt_bool_bool {K : PySem.W.Frag} : PySem.W.kitOne K (.type "bool") (.type "bool") = some true := kit_ty (by decide +kernel)
theorem kt_bool_str {K : PySem.W.Frag} : PySem.W.kitOne K (.type "bool") (.type "str") = some false := kit_ty (by decide +kernel)
theorem kt_bool_list {K : PySem.W.Frag} : PySem.W.kitOne K (.type "bool") (.type "list") = some false := kit_ty (by decide +kernel)
theorem kt_bool_tuple {K : PySem.W.Frag} : PySem.W.kitOne K (.type "bool") (.type "tuple") = some false := kit_ty (by decide +kernel)
theorem kt_bool_dict {K : PySem.W.Frag} : PySem.W.kitOne K (.type "bool") (.type "dict") = some false := kit_ty (by decide +kernel)
theorem kt_str_int {K : PySem.W.Frag} : PySem.W.kitOne K (.type "str") (.type "int") = some false := kit_ty (by decide +kernel)
theorem kt_str_bool {K : PySem.W.Frag} : PySem.W.kitOne K (.type "str") (.type "bool") = some false := kit_ty (by decide +kernel)
theorem kt_str_str {K : PySem.W.Frag} : PySem.W.kitOne K (.type "str") (.type "str") = some true := kit_ty (by decide +kernel)
theorem kt_str_list {K : PySem.W.Frag} : PySem.W.kitOne K (.type "str") (.type "list") = some false := kit_ty (by decide +kernel)
theorem kt_str_tuple {K : PySem.W.Frag} : PySem.W.kitOne K (.type "str") (.type "tuple") = some false := kit_ty (by decide +kernel)
theorem kt_str_dict {K : PySem.W.Frag} : PySem.W.kitOne K (.type "str") (.type "dict") = some false := kit_ty (by decide +kernel)
theorem kt_list_int {K : PySem.W.Frag} : PySem.W.kitOne K (.type "list") (.type "int") = some false := kit_ty (by decide +kernel)
theorem kt_list_bool {K : PySem.W.Frag} : PySem.W.kitOne K (.type "list") (.type "bool") = some false := kit_ty (by decide +kernel)
theorem kt_list_str {K : PySem.W.Frag} : PySem.W.kitOne K (.type "list") (.type "str") = some false := kit_ty (by decide +kernel)
theorem kt_list_list {K : PySem.W.Frag} : PySem.W.kitOne K (.type "list") (.type "list") = some true := kit_ty (by decide +kernel)
theorem kt_list_tuple {K : PySem.W.Frag} : PySem.W.kitOne K (.type "list") (.type "tuple") = some false := kit_ty (by decide +kernel)
theorem kt_list_dict {K : PySem.W.Frag} : PySem.W.kitOne K (.type "list") (.type "dict") = some false := kit_ty (by decide +kernel)
theorem kt_tuple_int {K : PySem.W.Frag} : PySem.W.kitOne K (.type "tuple") (.type "int") = some false := kit_ty (by decide +kernel)
theorem kt_tuple_bool {K : PySem.W.Frag} : PySem.W.kitOne K (.type "tuple") (.type "bool") = some false := kit_ty (by decide +kernel)
theorem kt_tuple_str {K : PySem.W.Frag} : PySem.W.kitOne K (.type "tuple") (.type "str") = some false := kit_ty (by decide +kernel)
theorem kt_tuple_list {K : PySem.W.Frag} : PySem.W.kitOne K (.type "tuple") (.type "list") = some false := kit_ty (by decide +kernel)
theorem kt_tuple_tuple {K : PySem.W.Frag} : PySem.W.kitOne K (.type "tuple") (.type "tuple") = some true := kit_ty (by decide +kernel)
theorem kt_tuple_dict {K : PySem.W.Frag} : PySem.W.kitOne K (.type "tuple") (.type "dict") = some false := kit_ty (by decide +kernel)
theorem kt_dict_int {K : PySem.W.Frag} : PySem.W.kitOne K (.type "dict") (.type "int") = some false := kit_ty (by decide +kernel)
theorem kt_dict_bool {K : PySem.W.Frag} : PySem.W.kitOne K (.type "dict") (.type "bool") = some false := kit_ty (by decide +kernel)
theorem kt_dict_str {K : PySem.W.Frag} : PySem.W.kitOne K (.type "dict") (.type "str") = some false := kit_ty (by decide +kernel)
theorem kt_dict_list {K : PySem.W.Frag} : PySem.W.kitOne K (.type "dict") (.type "list") = some false := kit_ty (by decide +kernel)
theorem kt_dict_tuple {K : PySem.W.Frag} : PySem.W.kitOne K (.type "dict") (.type "tuple") = some false := kit_ty (by decide +kernel)
theorem kt_dict_dict {K : PySem.W.Frag} : PySem.W.kitOne K (.type "dict") (.type "dict") = some true := kit_ty (by decide +kernel)
theorem kt_NoneType_int {K : PySem.W.Frag} : PySem.W.kitOne K (.type "NoneType") (.type "int") = some false := kit_ty (by decide +kernel)
theorem kt_NoneType_bool {K : PySem.W.Frag} : PySem.W.kitOne K (.type "NoneType") (.type "bool") = some false := kit_ty (by decide +kernel)
theorem kt_NoneType_str {K : PySem.W.Frag} : PySem.W.kitOne K (.type "NoneType") (.type "str") = some false := kit_ty (by decide +kernel)
theorem kt_NoneType_list {K : PySem.W.Frag} : PySem.W.kitOne K (.type "NoneType") (.type "list") = some false := kit_ty (by decide +kernel)
theorem kt_NoneType_tuple {K : PySem.W.Frag} : PySem.W.kitOne K (.type "NoneType") (.type "tuple") = some false := kit_ty (by decide +kernel)
theorem kt_NoneType_dict {K : PySem.W.Frag} : PySem.W.kitOne K (.type "NoneType") (.type "dict") = some false := kit_ty (by decide +kernel)
end Ow
namespace Ow
open PySem PySem.Spec PyProof.Rows L2
def XcIn (K : PySem.W.Frag) (C : Addr) : Prop := PySem.W.excIn K C He.veBase "ValueError.__new__" = true ∧ PySem.W.keepIn K (.ref C) = true ∧ PySem.W.subIn K (.ref C) (.type "BaseException") = some true ∧ PySem.W.typeIn K (.ref C) = some (.type "type")
theorem gI {mg : Str → Option Value} {x : Str} {i : Int} (h : ∃ t, mg x = some (.int i t)) : ∃ u, mg x = some u ∧ RelV (.int i) u := let ⟨t, e⟩ := h; ⟨_, e, t, rfl⟩
theorem gS {mg : Str → Option Value} {x z : Str} (h : ∃ t, mg x = some (.str z t)) : ∃ u, mg x = some u ∧ RelV (.str z) u := let ⟨t, e⟩ := h; ⟨_, e, t, rfl⟩
/-! ### promises by the number of arguments -/
def sp0 (f : Hp → VK → XK → Prop) : Sp := fun vs H Q E => vs = [] ∧ f H Q E
def sp1 (f : V → Hp → VK → XK → Prop) : Sp := fun vs H Q E => ∃ a, vs = [a] ∧ f a H Q E
def sp2 (f : V → V → Hp → VK → XK → Prop) : Sp := fun vs H Q E => ∃ a b, vs = [a, b] ∧ f a b H Q E
def sp3 (f : V → V → V → Hp → VK → XK → Prop) : Sp := fun vs H Q E => ∃ a b c, vs = [a, b, c] ∧ f a b c H Q E
def sp4 (f : V → V → V → V → Hp → VK → XK → Prop) : Sp := fun vs H Q E => ∃ a b c d, vs = [a, b, c, d] ∧ f a b c d H Q E
def sp5 (f : V → V → V → V → V → Hp → VK → XK → Prop) : Sp := fun vs H Q E => ∃ a b c d e, vs = [a, b, c, d, e] ∧ f a b c d e H Q E
section
variable {vs : List V} {H : Hp} {Q : VK} {E : XK} {a b c d e : V}
theorem sp0_len {f} (h : sp0 f vs H Q E) : vs.length = 0 := by obtain ⟨rfl, _⟩ := h; rfl
theorem sp1_len {f} (h : sp1 f vs H Q E) : vs.length = 1 := by obtain ⟨_, rfl, _⟩ := h; rfl
theorem sp2_len {f} (h : sp2 f vs H Q E) : vs.length = 2 := by obtain ⟨_, _, rfl, _⟩ := h; rfl
theorem sp3_len {f} (h : sp3 f vs H Q E) : vs.length = 3 := by obtain ⟨_, _, _, rfl, _⟩ := h; rfl
theorem sp4_len {f} (h : sp4 f vs H Q E) : vs.length = 4 := by obtain ⟨_, _, _, _, rfl, _⟩ := h; rfl
theorem sp5_len {f} (h : sp5 f vs H Q E) : vs.length = 5 := by obtain ⟨_, _, _, _, _, rfl, _⟩ := h; rfl
theorem ask0 {f} (h : f H Q E) : Box (sp0 f [] H Q E) := ⟨rfl, h⟩
theorem ask1 {f} (h : f a H Q E) : Box (sp1 f [a] H Q E) := ⟨_, rfl, h⟩
theorem ask2 {f} (h : f a b H Q E) : Box (sp2 f [a, b] H Q E) := ⟨_, _, rfl, h⟩
theorem ask3 {f} (h : f a b c H Q E) : Box (sp3 f [a, b, c] H Q E) := ⟨_, _, _, rfl, h⟩
theorem ask4 {f} (h : f a b c d H Q E) : Box (sp4 f [a, b, c, d] H Q E) := ⟨_, _, _, _, rfl, h⟩
theorem ask5 {f} (h : f a b c d e H Q E) : Box (sp5 f [a, b, c, d, e] H Q E) := ⟨_, _, _, _, _, rfl, h⟩
end
end Ow
namespace Ow
open PySem PySem.Spec PyProof.Rows L2
theorem pe_gc {X : Cx} {x : Str} {pos : Pos} {v : V} (hg : Gl X x) (hm : ∃ u, X.mg x = some u ∧ RelV v u) (hd : (x == ("__debug__" : Str)) = false := by decide) : PE X (.Name x pos) (tC v) :=
  let ⟨_, e, r⟩ := hm
  pe_glob hg e r hd
end Ow
namespace Ow
open PySem PySem.Spec PyProof.Rows L2
section
variable {H0 H : Hp} {A : List Addr} {cs : Cells} {x dx C : Addr}
/-- a new instance -/
theorem Own.inst (O : Own H0 H A cs) (h1 : H x = none) (h2 : H dx = none) (ne : dx ≠ x) : Own H0 (upd (upd H dx (.own x)) x (.ins C dx [])) A ((x, .ins C dx []) :: cs) :=
  ((O.new (o := .own x) h2).new (o := .ins C dx []) (p := x) (by rw [upd_ne ne.symm]; exact h1)).drop (List.Sublist.cons₂ _ (List.Sublist.cons _ (List.Sublist.refl _)))
theorem Own.last {c : Addr × HO} (O : Own H0 H A (c :: cs)) : Own H0 H A (cs ++ [c]) := O.perm (List.perm_append_singleton c cs).symm
theorem Own.eq {cs' : Cells} (O : Own H0 H A cs) (e : cs = cs') : Own H0 H A cs' := e ▸ O
theorem Own.adr {A' : List Addr} (O : Own H0 H A cs) (e : A = A') : Own H0 H A' cs := e ▸ O
end
/-! ### loops -/
section
variable {K : PySem.W.Frag} {a : Addr} {xs : List V} {g : TG} {tb : TS} {D : Ends} {σ : L2.St} {H : Hp}
theorem forL (Pv : Nat → L2.St → Hp → Prop) (h0 : Pv 0 σ H) (hl : ∀ i σ H, i ≤ xs.length → Pv i σ H → SqL K H a xs)
    (hs : ∀ i x σ H, xs[i]? = some x → Pv i σ H → g x σ H fun σ2 H2 => tb { D with nx := fun σ H => Box (Pv (i + 1) σ H), ct := fun σ H => Box (Pv (i + 1) σ H), bk := D.nx } σ2 H2) (hd : ∀ σ H, Pv xs.length σ H → D.nx σ H) :
    Box (∃ W : Nat → Nat → L2.St → Hp → Prop, (∃ m, W 0 m σ H) ∧ ∀ i m σ H, W i m σ H →
      ((Itl K a).stop i H ∧ D.nx σ H) ∨ ((Itl K a).go i H ∧ ∃ N : L2.St → Hp → Prop, (∀ σ' H', N σ' H' → ∃ m', m' < m ∧ W (i + 1) m' σ' H') ∧ ∀ x H', (Itl K a).yld i H x H' → g x σ H' fun σ2 H2 => tb { D with nx := N, ct := N, bk := D.nx } σ2 H2)) :=
  ⟨for_list (fun i σ H => Box (Pv i σ H)) ⟨h0⟩ (fun i σ H hi p => hl i σ H hi p.out) (fun i x σ H hx p => hs i x σ H hx p.out) (fun σ H p => hd σ H p.out)⟩
theorem forT (Pv : Nat → L2.St → Hp → Prop) (h0 : Pv 0 σ H) (hl : ∀ i σ H, i ≤ xs.length → Pv i σ H → SqT K H a xs)
    (hs : ∀ i x σ H, xs[i]? = some x → Pv i σ H → g x σ H fun σ2 H2 => tb { D with nx := fun σ H => Box (Pv (i + 1) σ H), ct := fun σ H => Box (Pv (i + 1) σ H), bk := D.nx } σ2 H2) (hd : ∀ σ H, Pv xs.length σ H → D.nx σ H) :
    Box (∃ W : Nat → Nat → L2.St → Hp → Prop, (∃ m, W 0 m σ H) ∧ ∀ i m σ H, W i m σ H →
      ((Itt K a).stop i H ∧ D.nx σ H) ∨ ((Itt K a).go i H ∧ ∃ N : L2.St → Hp → Prop, (∀ σ' H', N σ' H' → ∃ m', m' < m ∧ W (i + 1) m' σ' H') ∧ ∀ x H', (Itt K a).yld i H x H' → g x σ H' fun σ2 H2 => tb { D with nx := N, ct := N, bk := D.nx } σ2 H2)) :=
  ⟨for_tup (fun i σ H => Box (Pv i σ H)) ⟨h0⟩ (fun i σ H hi p => hl i σ H hi p.out) (fun i x σ H hx p => hs i x σ H hx p.out) (fun σ H p => hd σ H p.out)⟩
theorem forR {lo : Int} {n : Nat} (Pv : Nat → L2.St → Hp → Prop) (h0 : Pv 0 σ H)
    (hs : ∀ i σ H, i < n → Pv i σ H → g (.int (lo + i)) σ H fun σ2 H2 => tb { D with nx := fun σ H => Box (Pv (i + 1) σ H), ct := fun σ H => Box (Pv (i + 1) σ H), bk := D.nx } σ2 H2) (hd : ∀ σ H, Pv n σ H → D.nx σ H) :
    Box (∃ W : Nat → Nat → L2.St → Hp → Prop, (∃ m, W 0 m σ H) ∧ ∀ i m σ H, W i m σ H →
      ((Itr lo n).stop i H ∧ D.nx σ H) ∨ ((Itr lo n).go i H ∧ ∃ N : L2.St → Hp → Prop, (∀ σ' H', N σ' H' → ∃ m', m' < m ∧ W (i + 1) m' σ' H') ∧ ∀ x H', (Itr lo n).yld i H x H' → g x σ H' fun σ2 H2 => tb { D with nx := N, ct := N, bk := D.nx } σ2 H2)) :=
  ⟨for_range (fun i σ H => Box (Pv i σ H)) ⟨h0⟩ (fun i σ H hi p => hs i σ H hi p.out) (fun σ H p => hd σ H p.out)⟩
theorem forC {lo c : Int} {n : Nat} (Pv : Nat → L2.St → Hp → Prop) (h0 : Pv 0 σ H)
    (hs : ∀ i σ H, i < n → Pv i σ H → g (.int (lo + (i : Nat) * c)) σ H fun σ2 H2 => tb { D with nx := fun σ H => Box (Pv (i + 1) σ H), ct := fun σ H => Box (Pv (i + 1) σ H), bk := D.nx } σ2 H2) (hd : ∀ σ H, Pv n σ H → D.nx σ H) :
    Box (∃ W : Nat → Nat → L2.St → Hp → Prop, (∃ m, W 0 m σ H) ∧ ∀ i m σ H, W i m σ H →
      ((Itc lo c n).stop i H ∧ D.nx σ H) ∨ ((Itc lo c n).go i H ∧ ∃ N : L2.St → Hp → Prop, (∀ σ' H', N σ' H' → ∃ m', m' < m ∧ W (i + 1) m' σ' H') ∧ ∀ x H', (Itc lo c n).yld i H x H' → g x σ H' fun σ2 H2 => tb { D with nx := N, ct := N, bk := D.nx } σ2 H2)) :=
  ⟨for_rangeC (fun i σ H => Box (Pv i σ H)) ⟨h0⟩ (fun i σ H hi p => hs i σ H hi p.out) (fun σ H p => hd σ H p.out)⟩
/-- a while, by a word with its measure -/
theorem whI {c : TT} (W : Nat → L2.St → Hp → Prop) (m0 : Nat) (h0 : W m0 σ H) (hs : ∀ m σ H, W m σ H → c σ H fun b H1 => if b = true then ∃ N : L2.St → Hp → Prop, (∀ σ' H', N σ' H' → ∃ m', m' < m ∧ W m' σ' H') ∧ tb { D with nx := N, ct := N, bk := D.nx } σ H1 else D.nx σ H1) :
    Box (tWhile c tb D σ H) := ⟨W, ⟨m0, h0⟩, hs⟩
theorem whN {W : Nat → L2.St → Hp → Prop} {m : Nat} (h : tb { D with nx := fun σ' H' => Box (∃ m', m' < m ∧ W m' σ' H'), ct := fun σ' H' => Box (∃ m', m' < m ∧ W m' σ' H'), bk := D.nx } σ H) :
    ∃ N : L2.St → Hp → Prop, (∀ σ' H', N σ' H' → ∃ m', m' < m ∧ W m' σ' H') ∧ tb { D with nx := N, ct := N, bk := D.nx } σ H := ⟨_, fun _ _ h => h.out, h⟩
end
end Ow
namespace Ow
open PySem PySem.Spec PyProof.Rows L2
theorem if_t {b : Bool} {A B : Prop} (h : b = true) (k : A) : if b = true then A else B := by rw [if_pos h]; exact k
theorem if_f {b : Bool} {A B : Prop} (h : b = false) (k : B) : if b = true then A else B := by rw [if_neg (by rw [h]; exact Bool.false_ne_true)]; exact k
end Ow
namespace Ow
open PySem PySem.Spec PyProof.Rows L2
theorem dget_v {H : Hp} {a : Addr} {kvs : List (Key × V)} {k : Key} {v : V} (h : H a = some (.dK kvs)) (e : valV kvs k = some v) : DGet H a (kV k) (some v) := e ▸ DGet.k h
end Ow
namespace Ow
open PySem PySem.Spec PyProof.Rows L2
theorem kl {i : Int} : V.int i = kV (Sum.inl i) := rfl
theorem kr {z : Str} : V.str z = kV (Sum.inr z) := rfl
end Ow
namespace Ow
open PySem PySem.Spec PyProof.Rows L2
/-! ### lists of whole numbers, compared -/
section
variable {K : PySem.W.Frag} {H : Hp} {a b : Addr}
theorem dpa_ints : ∀ ns : List Int, DpAll K H (ns.map V.int) (ns.map PyData.int)
  | [] => .nil
  | n :: r => .cons (.int n) (dpa_ints r)
theorem dp_ints {ns : List Int} (h : H a = some (.lst (ns.map V.int))) : Dp K H (.ref a) (.list (ns.map PyData.int)) := .lst (SqL.of h) (dpa_ints ns)
theorem depth_ints : ∀ ns : List Int, PyData.depthAll (ns.map PyData.int) ≤ 1
  | [] => by simp [PyData.depthAll]
  | n :: r => by
    have := depth_ints r
    simp only [List.map_cons, PyData.depthAll, PyData.depth]
    omega
theorem lay_ints : ∀ ns : List Int, PyData.canLayAll0 (ns.map PyData.int) = true
  | [] => by simp [PyData.canLayAll0]
  | n :: r => by simp [PyData.canLayAll0, PyData.canLay0, lay_ints r]
theorem sh_ints (ns : List Int) : SeqAt.shaped (.list (ns.map PyData.int)) = true := by
  have h1 := depth_ints ns
  have h2 : PyData.depth (.list (ns.map PyData.int)) ≤ 64 := by
    simp only [PyData.depth]
    omega
  show (PyData.canLay0 (.list (ns.map PyData.int)) && decide (PyData.depth (.list (ns.map PyData.int)) ≤ 64)) = true
  rw [Bool.and_eq_true]
  exact ⟨by simp only [PyData.canLay0]; exact lay_ints ns, decide_eq_true h2⟩
theorem dist_ints : ∀ ns ms : List Int, PyData.eqvAll (ns.map PyData.int) (ms.map PyData.int) = decide (ns = ms)
  | [], [] => rfl
  | [], _ :: _ => rfl
  | _ :: _, [] => rfl
  | n :: r, m :: q => by
    rw [List.map_cons, List.map_cons, PyData.eqvAll, dist_ints r q]
    show ((n == m) && _) = _
    by_cases h : n = m
    · subst h; simp
    · rw [decide_eq_false (fun e => h (List.cons.inj e).1)]; simp [h]
theorem eqv_ints (ns ms : List Int) : PyData.eqv (.list (ns.map PyData.int)) (.list (ms.map PyData.int)) = decide (ns = ms) := dist_ints ns ms
/-- two rows of whole numbers, compared -/
theorem eq_ints {ns ms : List Int} {Q : VK} (ha : H a = some (.lst (ns.map V.int))) (hb : H b = some (.lst (ms.map V.int))) (k : Q (.bl (decide (ns = ms))) H) : rEqD K (.ref a) (.ref b) H Q :=
  ⟨_, _, dp_ints ha, dp_ints hb, sh_ints ns, sh_ints ms, by rw [eqv_ints]; exact k⟩
theorem ne_ints {ns ms : List Int} {Q : VK} (ha : H a = some (.lst (ns.map V.int))) (hb : H b = some (.lst (ms.map V.int))) (k : Q (.bl (!decide (ns = ms))) H) : rNeD K (.ref a) (.ref b) H Q :=
  ⟨_, _, dp_ints ha, dp_ints hb, sh_ints ns, sh_ints ms, by rw [eqv_ints]; exact k⟩
end
end Ow
namespace Ow
open PySem PySem.Spec PyProof.Rows L2
/-! ### the closers' own lemmas: head first -/
section
variable {K : PySem.W.Frag} {H0 H : Hp} {A : List Addr} {cs cs' : Cells} {a p : Addr} {o o' : HO} {xs : List V}
theorem Own.wr2 (O : Own H0 H A cs) (h : At cs a o o' cs') (n : isTup o = false) : Own H0 (upd H a o') A cs' := O.wr h n
theorem col_ex (h : H a = some (.lst xs)) : ∃ xs, SqL K H a xs := ⟨_, SqL.of h⟩
theorem col_ol {p : Prop} (h : H a = some (.lst xs)) : SqL K H a xs ∨ p := .inl (SqL.of h)
theorem col_or {p : Prop} (h : H a = some (.tup xs)) : p ∨ SqT K H a xs := .inr (SqT.of h)
theorem dget_ii {kvs : List (Key × V)} {i : Int} {v : V} (h : H a = some (.dK kvs)) (e : valV kvs (Sum.inl i) = some v) : DGet H a (.int i) (some v) := dget_v (k := Sum.inl i) h e
theorem dget_is {kvs : List (Key × V)} {i : Str} {v : V} (h : H a = some (.dK kvs)) (e : valV kvs (Sum.inr i) = some v) : DGet H a (.str i) (some v) := dget_v (k := Sum.inr i) h e
theorem dget_i {kvs : List (Key × V)} {i : Int} (h : H a = some (.dK kvs)) : DGet H a (.int i) (valV kvs (Sum.inl i)) := DGet.k (k := Sum.inl i) h
theorem dget_s {kvs : List (Key × V)} {i : Str} (h : H a = some (.dK kvs)) : DGet H a (.str i) (valV kvs (Sum.inr i)) := DGet.k (k := Sum.inr i) h
theorem dput_i {kvs : List (Key × V)} {i : Int} {v : V} (h : H a = some (.dK kvs)) (hl : kvs.length < 100000) : DPut H a (.int i) v (upd H a (.dK (putK kvs (Sum.inl i) v))) := DPut.k (k := Sum.inl i) h (sz_lt hl)
theorem dput_s {kvs : List (Key × V)} {i : Str} {v : V} (h : H a = some (.dK kvs)) (hl : kvs.length < 100000) : DPut H a (.str i) v (upd H a (.dK (putK kvs (Sum.inr i) v))) := DPut.k (k := Sum.inr i) h (sz_lt hl)
theorem isd_k {kvs : List (Key × V)} (h : H a = some (.dK kvs)) : IsD H a := Or.inl ⟨_, Or.inl h⟩
theorem wp_of {x y : List (Option V)} (h : x = y) : x = y := h
theorem ln_of {x y : Nat} (h : x = y) : x = y := h
theorem pos_of {m : Int} (h : 0 < m) : 0 < m := h
end
end Ow
namespace Ow
open PySem PySem.Spec PyProof.Rows L2
/-! ### items -/
theorem at_int {α : Type} {xs : List α} {n : Int} (h0 : 0 ≤ n) (h1 : n < (xs.length : Int)) : ∃ y, xs[n.toNat]? = some y ∧ atI xs n = some y := by
  have hj : n.toNat < xs.length := by omega
  refine ⟨xs[n.toNat], List.getElem?_eq_getElem hj, ?_⟩
  have := atI_nat (List.getElem?_eq_getElem hj)
  rwa [Int.toNat_of_nonneg h0] at this
theorem map_get {l : List Int} {i : Nat} {x : V} (h : (l.map V.int)[i]? = some x) : ∃ y, l[i]? = some y ∧ x = V.int y := by
  rw [List.getElem?_map] at h
  cases e : l[i]? with
  | none => rw [e] at h; cases h
  | some y => rw [e] at h; exact ⟨y, rfl, (Option.some.inj h).symm⟩
theorem at_ints {ns : List Int} {n : Int} (h0 : 0 ≤ n) (h1 : n < ((ns.map V.int).length : Int)) : ∃ y, ns[n.toNat]? = some y ∧ atI (ns.map V.int) n = some (V.int y) := by
  obtain ⟨y, h2, h3⟩ := at_int h0 h1
  obtain ⟨z, h4, rfl⟩ := map_get h2
  exact ⟨z, h4, h3⟩
end Ow
namespace Ow
open PySem PySem.Spec PyProof.Rows L2
theorem Own.fr0 {H0 H : Hp} {cs : Cells} {b : Addr} {o : HO} (O : Own H0 H [] cs) (h : H0 b = some o) : H b = some o := O.fr b o h (by simp)
/-! ### comprehensions -/
section
variable {K : PySem.W.Frag} {a : Addr} {xs : List V} {g : TG} {tt : TT} {te : TE} {vs : List Nat} {σ : L2.St} {H1 : Hp} {Q : Addr → Hp → Prop} {lo : Int} {n : Nat}
theorem lcR (Pv : Addr → Nat → Hp → Prop) (h0 : ∀ D, H1 D = none → Pv D 0 (upd H1 D (.lst [])))
    (hs : ∀ D i H, i < n → Pv D i H → g (.int (lo + i)) (wipe σ vs) H fun σ2 H2 => wipe σ2 vs = wipe σ vs ∧ tt σ2 H2 fun b H3 =>
      if b = true then te σ2 H3 fun y H4 => ∃ acc, H4 D = some (.lst acc) ∧ acc.length < sizeLine ∧ Box (Pv D (i + 1) (upd H4 D (.lst (acc ++ [y])))) else Box (Pv D (i + 1) H3)) (hd : ∀ D H, Pv D n H → Q D H) :
    Box (∀ D, H1 D = none → ∃ W : Nat → Nat → Hp → Prop, (∃ m, W 0 m (upd H1 D (.lst []))) ∧ ∀ i m H, W i m H →
      ((Itr lo n).stop i H ∧ Q D H) ∨ ((Itr lo n).go i H ∧ ∃ Nx : Hp → Prop, (∀ H', Nx H' → ∃ m', m' < m ∧ W (i + 1) m' H') ∧ ∀ x H', (Itr lo n).yld i H x H' → g x (wipe σ vs) H' fun σ2 H2 => wipe σ2 vs = wipe σ vs ∧ tt σ2 H2 fun b H3 =>
        if b = true then te σ2 H3 fun y H4 => ∃ acc, H4 D = some (.lst acc) ∧ acc.length < sizeLine ∧ Nx (upd H4 D (.lst (acc ++ [y]))) else Nx H3)) :=
  ⟨fun D hD => lc_range (fun i H => Box (Pv D i H)) ⟨h0 D hD⟩ (fun i H hi p => hs D i H hi p.out) (fun H p => hd D H p.out)⟩
theorem lcL (Pv : Addr → Nat → Hp → Prop) (h0 : ∀ D, H1 D = none → Pv D 0 (upd H1 D (.lst []))) (hl : ∀ D i H, i ≤ xs.length → Pv D i H → SqL K H a xs)
    (hs : ∀ D i x H, xs[i]? = some x → Pv D i H → g x (wipe σ vs) H fun σ2 H2 => wipe σ2 vs = wipe σ vs ∧ tt σ2 H2 fun b H3 =>
      if b = true then te σ2 H3 fun y H4 => ∃ acc, H4 D = some (.lst acc) ∧ acc.length < sizeLine ∧ Box (Pv D (i + 1) (upd H4 D (.lst (acc ++ [y])))) else Box (Pv D (i + 1) H3)) (hd : ∀ D H, Pv D xs.length H → Q D H) :
    Box (∀ D, H1 D = none → ∃ W : Nat → Nat → Hp → Prop, (∃ m, W 0 m (upd H1 D (.lst []))) ∧ ∀ i m H, W i m H →
      ((Itl K a).stop i H ∧ Q D H) ∨ ((Itl K a).go i H ∧ ∃ Nx : Hp → Prop, (∀ H', Nx H' → ∃ m', m' < m ∧ W (i + 1) m' H') ∧ ∀ x H', (Itl K a).yld i H x H' → g x (wipe σ vs) H' fun σ2 H2 => wipe σ2 vs = wipe σ vs ∧ tt σ2 H2 fun b H3 =>
        if b = true then te σ2 H3 fun y H4 => ∃ acc, H4 D = some (.lst acc) ∧ acc.length < sizeLine ∧ Nx (upd H4 D (.lst (acc ++ [y]))) else Nx H3)) :=
  ⟨fun D hD => lc_list (fun i H => Box (Pv D i H)) ⟨h0 D hD⟩ (fun i H hi p => hl D i H hi p.out) (fun i x H hx p => hs D i x H hx p.out) (fun H p => hd D H p.out)⟩
theorem lcT (Pv : Addr → Nat → Hp → Prop) (h0 : ∀ D, H1 D = none → Pv D 0 (upd H1 D (.lst []))) (hl : ∀ D i H, i ≤ xs.length → Pv D i H → SqT K H a xs)
    (hs : ∀ D i x H, xs[i]? = some x → Pv D i H → g x (wipe σ vs) H fun σ2 H2 => wipe σ2 vs = wipe σ vs ∧ tt σ2 H2 fun b H3 =>
      if b = true then te σ2 H3 fun y H4 => ∃ acc, H4 D = some (.lst acc) ∧ acc.length < sizeLine ∧ Box (Pv D (i + 1) (upd H4 D (.lst (acc ++ [y])))) else Box (Pv D (i + 1) H3)) (hd : ∀ D H, Pv D xs.length H → Q D H) :
    Box (∀ D, H1 D = none → ∃ W : Nat → Nat → Hp → Prop, (∃ m, W 0 m (upd H1 D (.lst []))) ∧ ∀ i m H, W i m H →
      ((Itt K a).stop i H ∧ Q D H) ∨ ((Itt K a).go i H ∧ ∃ Nx : Hp → Prop, (∀ H', Nx H' → ∃ m', m' < m ∧ W (i + 1) m' H') ∧ ∀ x H', (Itt K a).yld i H x H' → g x (wipe σ vs) H' fun σ2 H2 => wipe σ2 vs = wipe σ vs ∧ tt σ2 H2 fun b H3 =>
        if b = true then te σ2 H3 fun y H4 => ∃ acc, H4 D = some (.lst acc) ∧ acc.length < sizeLine ∧ Nx (upd H4 D (.lst (acc ++ [y]))) else Nx H3)) :=
  ⟨fun D hD => lc_tup (fun i H => Box (Pv D i H)) ⟨h0 D hD⟩ (fun i H hi p => hl D i H hi p.out) (fun i x H hx p => hs D i x H hx p.out) (fun H p => hd D H p.out)⟩
end
end Ow
namespace Ow
open PySem PySem.Spec PyProof.Rows L2
theorem cutV_sub (xs : List V) (lo hi : Option Int) {x : V} (h : x ∈ cutV xs lo hi) : x ∈ xs := List.mem_of_mem_drop (List.mem_of_mem_take h)
theorem cut_ints {xs : List Int} {lo hi : Option Int} {i : Nat} {x : V} (h : (cutV (xs.map V.int) lo hi)[i]? = some x) : ∃ y, x = V.int y := by
  obtain ⟨y, _, e⟩ := List.mem_map.mp (cutV_sub _ _ _ (List.mem_of_getElem? h))
  exact ⟨y, e.symm⟩
theorem cutV_take (xs : List V) (n : Nat) : (cutV xs none (some (n : Int))).length ≤ n := by
  unfold cutV
  rw [List.length_take]
  have : HT.sIx xs.length xs.length (some (n : Int)) ≤ n := by
    rw [HT.sIx_nat]
    omega
  omega
end Ow
namespace Ow
open PySem PySem.Spec PyProof.Rows L2
/-! ### where two ways meet -/
theorem cutT {c : TT} {σ : L2.St} {H : Hp} {post : Bool → Hp → Prop} (R : Bool → Hp → Prop) (h : ∀ post' : Bool → Hp → Prop, (∀ b H', R b H' → post' b H') → c σ H post') (k : ∀ b H', R b H' → post b H') : c σ H post := h post k
theorem cutI {c : TT} {a b : TS} {D : Ends} {σ : L2.St} {H : Hp} (R : Bool → Hp → Prop) (h : ∀ post' : Bool → Hp → Prop, (∀ b H', R b H' → post' b H') → c σ H post') (k : ∀ bb H', R bb H' → if bb = true then a D σ H' else b D σ H') : tIfS c a b D σ H := h _ k
theorem cutS {t : TS} {D : Ends} {σ : L2.St} {H : Hp} (R : L2.St → Hp → Prop) (h : ∀ nx' : L2.St → Hp → Prop, (∀ σ' H', R σ' H' → nx' σ' H') → t { D with nx := nx' } σ H) (k : ∀ σ' H', R σ' H' → D.nx σ' H') : Box (t D σ H) := ⟨h D.nx k⟩
end Ow
namespace Ow
open L2 in
theorem rg_mk {lo hi c : Int} (n : Nat) (h : (c ≠ 0 ∧ c.natAbs < 1073741824 ∧ PySem.Builtin.Range.small lo hi c = true ∧ PySem.Builtin.Range.rangeSize lo hi c = n) := by decide +kernel) : RgC lo hi c n := h
open L2 in
theorem Own.self {H0 H : Hp} {A : List PySem.Addr} {cs : Cells} (O : Own H0 H A cs) : Own H H (Ow.adr cs) cs := O.blk (s' := []) (cs' := []) .all
end Ow
namespace Ow
open L2 in
/-- behind a call that was handed nothing -/
theorem Own.callN {H0 H H' : Hp} {A : List PySem.Addr} {cs s' : Cells} (O : Own H0 H A cs) (C : Own H H' [] s') : Own H0 H' A (s' ++ cs) := O.call (s := []) .nil C
end Ow
namespace Ow
open PySem PySem.Spec PyProof.Rows L2
/-! ### what stands outside: the script -/
section
variable {K : PySem.W.Frag} {H0 H : Hp} {A : List Addr} {cs : Cells} {a : Addr} {xs : List V}
theorem Own.sq (O : Own H0 H [] cs) (h : SqL K H0 a xs) : SqL K H a xs := by
  rcases h with (h | ⟨o, h⟩) | h
  · exact .inl (.inl (O.fr0 h))
  · exact .inl (.inr ⟨o, O.fr0 h⟩)
  · exact .inr h
theorem Own.sqT (O : Own H0 H A cs) (h : SqT K H0 a xs) (hf : ∀ o, H0 a = some (.frz o (.tup xs)) → a ∉ A) : SqT K H a xs := by
  rcases h with (h | ⟨o, h⟩) | h
  · exact .inl (.inl (O.tup h))
  · exact .inl (.inr ⟨o, O.fr _ _ h (hf o h)⟩)
  · exact .inr h
theorem col_ex2 (h : SqL K H a xs) : ∃ xs, SqL K H a xs := ⟨_, h⟩
theorem col_ol2 {p : Prop} (h : SqL K H a xs) : SqL K H a xs ∨ p := .inl h
theorem col_or2 {p : Prop} (h : SqT K H a xs) : p ∨ SqT K H a xs := .inr h
end
end Ow
namespace Ow
open PySem PySem.Spec PyProof.Rows L2
/-! ### the end -/
theorem cx_no {P : Program} {w : World} {H : Hp} {s : Shared} {e : Value} {s' : Shared} (h : L2.CX P w [] H s (fun _ _ _ => False) e s') : False := by
  obtain ⟨_, _, _, _, _, _, _, _, _, _, _, _, h⟩ := h
  exact h
theorem walk_end {l : PySem.W.OpenLaw} {n k : Nat} {q : Program} {loose : List Str} {XP : (Str → Option Value) → Heap → Prop} {YP : World → Heap → Prop} {d : DefRec} {x : Str}
    (hn : l.most = some n) (hn2 : n ≤ sizeLine) (hdf : d.params.defaults = []) (hr : Room k callerA)
    (F : ∀ (w : World) (mg : Str → Option Value) (fa : Addr) (h : Heap), YP w h → h.Ns mainGlobals mg → mg d.name = some (.ref fa) →
      ∃ (K : PySem.W.Frag) (fd : FuncData) (sp : Sp), K.In h ∧ (∀ (s : Shared) (u : Value), BindsTo s fd ⟨[u], []⟩ [(x, u)]) ∧
        (∀ (H : Hp) (a : Addr) (ns : List Int), ns.length ≤ n → (∀ z ∈ ns, Builtin.Int.intBits z ≤ 1048576) → SqL K H a (ns.map V.int) → sp [.ref a] H (fun v _ => v = .bl true) fun _ _ _ => False) ∧
        ∀ base : Heap, K.In base → base.Ns mainGlobals mg → FnOk l.prog w K mg base (L2.CX l.prog w) k fa fd [x] sp) :
    PySem.W.WalkO q loose XP YP l.row.toRowW d [] (fun f vs => PySem.call f vs) := by
  refine Att.attach_callB hn hdf fun w s₀ s₁ mg mb fa o pm cd doc a vs ns G Y ho hd hcd hmg hobj hints hlen hbits hg => ?_
  obtain ⟨K, fd, sp, KX, hb, hsp, hF⟩ := F w mg fa _ Y G.T.g hmg
  exact law_call KX G.T.g G.T.b G.T.builtins G.T.nolimit hg hobj hints (Nat.le_trans hlen hn2) hr hF hb (fun H _ hS => hsp H a ns hlen hbits hS) fun _ _ _ h => cx_no h
theorem fn_of {P : Program} {w : World} {K : PySem.W.Frag} {mg : Str → Option Value} {base : Heap} {x qual : Str} {params : Arguments} {body : List Stmt} {scope : Scope} {f : Addr} {fd : FuncData} {N ps : List Str} {k : Nat} {sp : Sp} (F : FunD K x qual params body scope [] [] f fd) (S : FnScope N ps scope)
    (len : ∀ vs H Q E, sp vs H Q E → vs.length = ps.length)
    (hbody : ∀ (cdv : Value) (A : Around) (outer : List Env) (s : Shared) (H : Hp) (vs : List V) (Q : VK) (E : XK), Room k (A.deeper (envOfC qual scope s.heap.objs.size f cdv)) → sp vs H Q E →
      ∃ t, PSs (cxOf (L2.CX P w) P w K mg base N qual scope f cdv A outer s H E) body t ∧ t { nx := fun _ H' => Q .non H', rt := Q } (start N vs) H) : FnOk P w K mg base (L2.CX P w) (k + 1) f fd ps (bx sp) :=
  FunD.ok F S (fun vs H Q E h => len vs H Q E h.out) (fun cdv A outer s H vs Q E hr h => hbody cdv A outer s H vs Q E hr h.out)
end Ow
namespace Ow
open PySem PySem.Spec PyProof.Rows L2
/-! ### an exception that is held: known, in the suite and beyond it -/
/-- an exception object at a, of the class cls, its dict d -/
def CxO (cls : Value) (d : Option Addr) (a : Addr) : HO := .ext fun h => ∃ (o : Obj) (vs : Array Value), h.get? a = some o ∧ Zc cls d o ∧ o.data = .fields vs
section
variable {X : Cx} {pins : List (Addr × Obj)} {σ : L2.St} {H : Hp} {s : Shared} {a : Addr} {cls : Value} {d : Option Addr} {o : Obj} {vs : Array Value}
theorem hold_ok (I : Inv X pins σ H s) (e : s.heap.get? a = some o) (z : Zc cls d o) (dt : o.data = .fields vs) (na : H a = none) (n0 : X.s_0.heap.get? a = none) (nL : a ≠ X.env.locals) (np : ∀ p ∈ X.pn ++ pins, p.1 ≠ a) :
    Inv X pins σ (upd H a (CxO cls d a)) s := by
  have sk : ∀ {b : Addr} {u : HO}, H b = some u → upd H a (CxO cls d a) b = some u := fun {b u} q => by
    rw [upd_ne (fun w => by rw [w, na] at q; cases q)]
    exact q
  have nk : ∀ {b : Addr}, b ≠ a → H b = none → upd H a (CxO cls d a) b = none := fun {b} q r => by
    rw [upd_ne q]
    exact r
  refine ⟨I.ok, I.os, I.bare, ⟨I.base.keep, I.base.slot, fun b u q1 q2 q3 => nk (fun w => by rw [w, n0] at q1; cases q1) (I.base.free b u q1 q2 q3), I.base.there, fun b xs q => sk (I.base.tups b xs q), fun b o' u q => sk (I.base.frzs b o' u q), fun b ps q => ?_⟩, I.loc, I.cell, nk (Ne.symm nL) I.free, fun x c q => nk (fun w => ?_) (I.freeC x c q), fun p hp => ?_, HOk.laidN I.hok (fun _ _ w => w) na ⟨⟨o, vs, e, z, dt⟩, ⟨o, e⟩, fun _ _ ⟨o2, v2, q, r⟩ k => ⟨o2, v2, k o2 q, r⟩⟩, I.len⟩
  · obtain ⟨m, r⟩ := I.base.tbls b ps q
    exact ⟨m, sk r⟩
  · subst w
    obtain ⟨v, oc, ho, hd⟩ := I.cell x c q
    rw [e] at ho
    cases ho
    rw [dt] at hd
    cases hd
  · obtain ⟨p1, p2, p3, p4, p5⟩ := I.pin p hp
    exact ⟨p1, nk (np p hp) p2, p3, p4, p5⟩
theorem suite_in {b : Addr} (I : Inv X pins σ H s) : Inv (X.suite b (X.pn ++ pins)) [] σ H s :=
  ⟨I.ok.suite _ _, I.os, I.bare, I.base, I.loc, I.cell, I.free, I.freeC, fun p hp => I.pin p ((List.append_nil (X.pn ++ pins)) ▸ hp), I.hok, I.len⟩
theorem suite_out {b : Addr} (I : Inv (X.suite b (X.pn ++ pins)) [] σ H s) (ok : X.Ok) : Inv X pins σ H s :=
  ⟨ok, I.os, I.bare, I.base, I.loc, I.cell, I.free, I.freeC, fun p hp => I.pin p ((List.append_nil (X.pn ++ pins)).symm ▸ hp), I.hok, I.len⟩
end
/-- the wish of a try whose suite may keep the exception -/
def wHold (K : PySem.W.Frag) (c : Value) (i : Nat) (ts : TS) (Wout : WX) (D : Ends) : WX := fun cls d σ H =>
  ∃ b, PySem.W.exmOne K cls c = some b ∧ (b = true → ∀ a, H a = none → ts { nx := fun τ G => D.nx (τ.set i none) G, rt := D.rt, bk := fun τ G => D.bk (τ.set i none) G, ct := fun τ G => D.ct (τ.set i none) G } (σ.set i (some (.ref a))) (upd H a (CxO cls d a))) ∧ (b = false → Wout cls d σ H)
section
variable {X : Cx} {x n : Str} {c : Value} {i : Nat} {body suite : List Stmt} {b₀ : Stmt} {np pos pos' : Pos} {tb : WX → TS} {ts : TS} {Wout : WX}
theorem ps_tryX (hs : X.stack = X.env :: X.outer) (hf : X.env.frame = some X.env.locals) (hx : X.ex = []) (hN : X.N.Nodup) (hi : X.N[i]? = some n) (hln : X.env.kindOf n = some .local) (hc : Names X x c) (tk : Takes X Wout)
    (hb : ∀ (W : WX) (pn : List (Addr × Obj)) (xe : Value → Shared → Prop), Takes (X.tr pn xe) W → PassesOwn (model X.prog X.w) X.A X.env xe → PSs (X.tr pn xe) body (tb W))
    (hsu : ∀ (a : Addr) (pn : List (Addr × Obj)), PSs (X.suite a pn) (b₀ :: suite) ts) :
    PS X (.Try body [.ExceptHandler (some (.Name x np)) (some n) (b₀ :: suite) pos'] [] [] pos) (fun D σ H => tb (wHold X.K c i ts Wout D) D σ H) := by
  refine ⟨fun pins s σ H D I hyp => ?_⟩
  have okX := I.ok
  have frames : X.A.frames = some (X.env :: X.outer) := by rw [okX.frames, hs]
  refine wpAny_Try_except ?_
  refine wpAny_mono ((hb (wHold X.K c i ts Wout D) (X.pn ++ pins) (fun ev sA => wpAny (model X.prog X.w) X.A (noteFrame ev X.env) (fun _ sB => wpAny (model X.prog X.w) X.A (setFlight ev none) (fun _ sC =>
    wpAny (model X.prog X.w) X.A (handleBy ev X.env [.ExceptHandler (some (.Name x np)) (some n) (b₀ :: suite) pos']) (SP X pins D) X.xe sC) X.xe sB) X.xe sA) (fun u sE flies => ?_) PassesOwn.looking).run [] s σ H D (I.toTry _) hyp) (fun fl sN ends => ?_) (fun ev sA left => left)
  · obtain ⟨a, B, sI, pins1, τ, G, cls, d, rfl, JT, nb, upS, skyS, na, os, ag, b, hm, yes, no⟩ := flies
    have JX : Inv X pins τ G sI := JT.ofTry okX
    have skyX : Sky B (X.env :: X.outer) a (Zc cls d) X.env.locals sE.heap := by rw [← hs]; exact skyS
    have nB : B.get? a = none := by
      rcases skyS with w | w | w
      · exact w.2.1
      · exact w.2.1
      · exact w.2.1
    show wpAny (model X.prog X.w) X.A (noteFrame (.ref a) X.env) _ _ _
    refine Sky.land Zc.steady frames hf skyX fun g3 fl3 up3 => ?_
    have J3 : Inv X pins τ G { sE with heap := g3 } := JX.landed nb fl3.1 (upS.trans up3) os ag
    obtain ⟨q3, w3, at3, z3, dt3⟩ := fl3.there
    have outside : a ∉ frs (X.env :: X.outer) := fun hm => by
      obtain ⟨_, o', e', hnf⟩ := fl3.2.2.1.mem hm
      rw [at3] at e'
      cases e'
      exact hnf _ dt3
    have nL : a ≠ X.env.locals := fun z => outside (List.mem_filterMap.mpr ⟨X.env, .head _, by rw [hf, z]⟩)
    have nF : a ∉ X.fs := fun hm => by
      obtain ⟨ev, he, q⟩ := List.mem_filterMap.mp hm
      exact outside (List.mem_filterMap.mpr ⟨ev, .tail _ he, q⟩)
    have below : ∀ {u : Addr} {ob : Obj}, sI.heap.get? u = some ob → u ∉ frs (X.env :: X.outer) → u ≠ a := fun {u ob} q r w => by
      have k := nb u ob q (by rw [hs]; exact r)
      rw [w, nB] at k
      cases k
    have new0 : X.s_0.heap.get? a = none := by
      cases q : X.s_0.heap.get? a with
      | none => rfl
      | some ob =>
        obtain ⟨ob2, r⟩ := JX.base.there a ob q (by rw [hx]; exact fun w => nomatch w)
        exact absurd rfl (below r outside)
    have unpinned : ∀ p ∈ X.pn ++ pins, p.1 ≠ a := fun p hp => by
      obtain ⟨p1, _, p3, p4, _⟩ := JX.pin p hp
      refine below p1 fun hm => ?_
      obtain ⟨ev, he, q⟩ := List.mem_filterMap.mp hm
      rcases List.mem_cons.mp he with w | w
      · rw [w, hf] at q
        exact p3 (Option.some.inj q).symm
      · exact p4 (List.mem_filterMap.mpr ⟨ev, w, q⟩)
    have S3 := J3.suite at3 dt3 na nL nF
    refine wpAny_handleBy_cons (codeAny_handlers_test ?_) (by intro w; cases w)
    have kind : PySem.W.Looks (model X.prog X.w) g3 (typeOf (.ref a)) cls := fun A Q E t k w => wpAny_typeOf_ref (k _ _ at3) (by rw [z3.1]; exact w)
    have match_ := PySem.W.exm_one (M := model X.prog X.w) (J3.kIn) kind hm
    have named : ∀ {Q E : Value → Shared → Prop}, Q c { sE with heap := g3 } → wpAny (model X.prog X.w) (X.A.mark (some (.ref a))) (eval (.Name x np) X.env) Q E { sE with heap := g3 } := fun {Q E} w => by
      obtain ⟨hg, hdbg, m1 | ⟨m1, m2, m3⟩⟩ := hc
      · exact ld_glob (X := X.suite a ((a, q3) :: (X.pn ++ pins))) S3 hg m1 w hdbg
      · exact ld_blt (X := X.suite a ((a, q3) :: (X.pn ++ pins))) S3 hg m1 m2 w m3 hdbg
    refine named (match_.here ?_)
    cases b with
    | true =>
      refine codeAny_handlers_suite_as ?_
      refine HandSPX.lands_againZ fl3 fun g4 fl4 up4 => ?_
      have J4 : Inv X pins τ G { sE with heap := g4 } := JX.landed nb fl4.1 ((upS.trans up3).trans up4) os ag
      obtain ⟨q4, w4, at4, z4, dt4⟩ := fl4.there
      have S4 := suite_in (b := a) (hold_ok J4 at4 z4 dt4 na new0 nL unpinned)
      refine store_ok (X := X.suite a (X.pn ++ pins)) (v := .ref a) S4 hN hi (.inl hln) rfl (fun s5 S5 => ?_) (.inr hln)
      refine wpAny_mono ((hsu a (X.pn ++ pins)).run [] s5 _ _ _ S5 (yes rfl a na)) (fun fl s6 ends => ?_) (fun _ _ w => False.elim w)
      have off : ∀ {τ6 : L2.St} {G6 : Hp} {Q : Shared → Prop}, Inv (X.suite a (X.pn ++ pins)) [] τ6 G6 s6 → (∀ s7, Inv X pins (τ6.set i none) G6 s7 → Q s7) →
          wpAny (model X.prog X.w) X.A (do bindName X.env n .none; unbindBehindTheSuite X.env n pos') (fun _ s7 => Q s7) X.xe s6 := fun {τ6 G6 Q} S6 w => gone_ok (suite_out S6 okX) hN hi hln w
      cases fl with
      | next =>
        obtain ⟨_, _, S6, r⟩ := ends
        exact off S6 fun _ J7 => ⟨_, _, J7, r⟩
      | brk =>
        obtain ⟨_, _, S6, r⟩ := ends
        exact off S6 fun _ J7 => ⟨_, _, J7, r⟩
      | cont =>
        obtain ⟨_, _, S6, r⟩ := ends
        exact off S6 fun _ J7 => ⟨_, _, J7, r⟩
      | ret u =>
        obtain ⟨_, _, _, S6, r1, r2⟩ := ends
        exact off S6 fun _ J7 => ⟨_, _, _, J7, r1, r2⟩
    | false =>
      show wpAny _ X.A (handleBy (.ref a) X.env []) _ _ _
      refine wpAny_handleBy_nil ?_
      obtain ⟨_, _, _, ob, ws, T, oT, tr, hob, hzb, hdb, hfb, hrb⟩ := id fl3
      unfold PySem.passOn
      refine wpAny_bind (wpAny_field hob hdb hfb ?_)
      rw [if_neg (show ¬ ((Value.ref T == Value.none) = true) by simp)]
      have out : wpAny (model X.prog X.w) X.A (setFlight (.ref a) X.env.frame) (fun _ t4 => wpAny (model X.prog X.w) X.A (throw (.ref a) : Sem Flow) (SP X pins D) X.xe t4) X.xe { sE with heap := g3 } := by
        rw [hf]
        refine HandSPX.setFlight_upZ fl3 fun g4 in4 up4 => wpAny_throw (tk _ _ ?_)
        exact ⟨a, B, sI, pins, τ, G, cls, d, rfl, JX, nb, (upS.trans up3).trans up4, .inr (.inr (by rw [hs]; exact in4)), na, os, ag, no rfl⟩
      first
        | exact wpAny_bind (wpAny_pure (wpAny_bind out))
        | exact wpAny_bind out
  · cases fl with
    | next =>
      obtain ⟨τ, G, JT, r⟩ := ends
      exact wpAny_execs_nil ⟨τ, G, JT.ofTry okX, r⟩
    | brk =>
      obtain ⟨τ, G, JT, r⟩ := ends
      exact ⟨τ, G, JT.ofTry okX, r⟩
    | cont =>
      obtain ⟨τ, G, JT, r⟩ := ends
      exact ⟨τ, G, JT.ofTry okX, r⟩
    | ret u =>
      obtain ⟨v, τ, G, JT, r1, r2⟩ := ends
      exact ⟨v, τ, G, JT.ofTry okX, r1, r2⟩
/-- isinstance(e, c), e a held exception -/
def rIsX (K : PySem.W.Frag) : List V → Hp → VK → Prop := fun xs H Q => ∃ (a D : Addr) (c : V) (cv : Value) (b : Bool), xs = [.ref a, c] ∧ H a = some (CxO (.ref D) none a) ∧ ExcC K D ∧ ClsV c cv ∧ PySem.W.kitOne K (.ref D) cv = some b ∧ Q (.bl b) H
theorem call_isX : CallR X (.builtin "isinstance") (rIsX X.K) := by
  intro pins s σ H xs us Q I r h
  obtain ⟨a, D, cl, cv, b, rfl, ha, C, only, says, q⟩ := h
  cases r with
  | cons rx rr =>
    cases rr with
    | cons rt rr =>
      cases rr
      cases rx
      have ec := only.eq rt
      subst ec
      obtain ⟨⟨ob, vs, at_, z, dt⟩, _, _⟩ := I.hok a _ ha
      have J : PySem.W.InstAt s.heap a ob D none := by
        obtain ⟨oc, od, oda, osl⟩ := ob
        obtain ⟨h1, h2⟩ := z
        dsimp only at h1 h2 dt
        subst h1 h2 dt
        exact ⟨at_, rfl, rfl, trivial⟩
      refine PySem.W.kia_one (PySem.W.handS_kitx_exc C.hg C.hk C.hs C.hd C.ha C.hn C.ht C.hm) I.kIn J says (fun w => nomatch w) fun tk => ?_
      exact ⟨.bl b, H, I.kept (t' := tk) fun _ _ w => w, rfl, q⟩
end
end Ow
namespace Ow
open PySem PySem.Spec PyProof.Rows L2
/-- xs[i], where it is read to be put anew -/
theorem get_list {X : Cx} : PGet X (rIxL X.K) := by
  intro pins s σ H o i ov iv Q I ro ri h
  obtain ⟨p, xs, k, z, rfl, rfl, hq, he, q⟩ := h
  cases ro
  obtain ⟨t, rfl⟩ := ri
  obtain ⟨its, r, pl, hz⟩ := I.list hq
  obtain ⟨j, h1, h2, h3, h4, h5⟩ := atI_get he
  obtain ⟨w, ew, rw'⟩ := r.get h2
  have lenX := r.length
  have wide := line63
  have done : EP X pins σ Q w s := ⟨z, H, I, rw', q⟩
  by_cases h0 : 0 ≤ k
  · have hk : k.toNat = j := by
      rw [seqIndex_of h0 h5] at h1
      exact Option.some.inj h1
    exact wpAny_getItem_list pl.isList h0 (by omega) (by rw [hk]; simpa using ew) done
  · have hk : (k + (its.toArray.size : Int)).toNat = j := by
      rw [seqIndex_neg (by omega) h4] at h1
      rw [List.size_toArray, ← lenX]
      exact Option.some.inj h1
    exact wpAny_getItem_list_neg pl.isList (by omega) (by rw [List.size_toArray] <;> omega) (by omega) (by rw [hk]; simpa using ew) done
end Ow
namespace Ow
open PySem PySem.Spec PyProof.Rows L2
/-! ### facts of exceptions, by one look -/
def excB (K : PySem.W.Frag) (D : Addr) : Bool := [PySem.W.findIn K (.ref D) "__getattribute__" == some (some (.builtin "BaseException.__getattribute__")), PySem.W.findIn K (.ref D) "__getattr__" == some none, PySem.W.subIn K (.ref D) (.type "BaseException") == some true, PySem.W.hasDictIn K D,
  PySem.W.findIn K (.ref D) "__class__" == some (some (.builtin "object.__class__")), PySem.W.specialIn K (.builtin "object.__class__") "__get__" == some (some (.builtin "getset_descriptor.__get__")), PySem.W.takesIn K (.builtin "object.__class__") == some true, PySem.W.mroIn K D (.type "object") == some true].all id
theorem all_at {l : List Bool} (h : l.all id = true) (k : Nat) {b : Bool} (e : l[k]? = some b) : b = true := List.all_eq_true.mp h b (List.mem_of_getElem? e)
theorem excB_ok {K : PySem.W.Frag} {D : Addr} (h : excB K D = true) : ExcC K D :=
  ⟨eq_of_beq (all_at h 0 rfl), eq_of_beq (all_at h 1 rfl), eq_of_beq (all_at h 2 rfl), all_at h 3 rfl, eq_of_beq (all_at h 4 rfl), eq_of_beq (all_at h 5 rfl), eq_of_beq (all_at h 6 rfl), eq_of_beq (all_at h 7 rfl)⟩
end Ow
namespace Ow
open PySem PySem.Spec PyProof.Rows L2
/-! ### rows of flat things -/
theorem fl_of {v : V} (h : flatV v = true) : flatV v = true := h
theorem all_flat (ns : List Int) : (ns.map V.int).all flatV = true := List.all_eq_true.mpr fun x hx => by
  obtain ⟨y, _, rfl⟩ := List.mem_map.mp hx
  rfl
theorem all_flatS (ns : List Str) : (ns.map V.str).all flatV = true := List.all_eq_true.mpr fun x hx => by
  obtain ⟨y, _, rfl⟩ := List.mem_map.mp hx
  rfl
theorem eqV_int (i j : Int) : eqV (.int i) (.int j) = decide (i = j) := by
  show (i == j) = _
  by_cases h : i = j
  · rw [decide_eq_true h, h]; simp
  · rw [decide_eq_false h]; simp [h]
theorem inV_ints (i : Int) (ns : List Int) : inV (.int i) (ns.map V.int) = decide (i ∈ ns) := by
  unfold inV
  rw [List.any_map]
  by_cases h : i ∈ ns
  · rw [decide_eq_true h]
    exact List.any_eq_true.mpr ⟨i, h, by show eqV (.int i) (.int i) = true; rw [eqV_int]; simp⟩
  · rw [decide_eq_false h]
    refine List.any_eq_false.mpr fun x hx => ?_
    show ¬ eqV (.int x) (.int i) = true
    rw [eqV_int]
    intro z
    exact h (of_decide_eq_true z ▸ hx)
theorem rep_flat (n : Nat) (v : V) : (List.replicate ((n : Nat) : Int).toNat [v]).flatten = List.replicate n v := by
  rw [Int.toNat_natCast]
  induction n with
  | zero => rfl
  | succ n ih => rw [List.replicate_succ, List.flatten_cons, ih]; rfl
theorem rep_map {α : Type} (f : α → V) (n : Nat) (a : α) : List.replicate n (f a) = (List.replicate n a).map f := (List.map_replicate).symm
end Ow
namespace Ow
open PySem PySem.Spec PyProof.Rows L2
theorem set_split {α : Type} {cs : List α} {i : Nat} {x y : α} (h : cs[i]? = some x) : cs.set i y = cs.take i ++ y :: cs.drop (i + 1) := by
  have h1 := (List.getElem?_eq_some_iff.mp h).1
  rw [List.set_eq_take_append_cons_drop, if_pos h1]
theorem at_split {α : Type} {cs : List α} {i : Nat} {x : α} (h : cs[i]? = some x) : cs = cs.take i ++ x :: cs.drop (i + 1) := by
  obtain ⟨h1, rfl⟩ := List.getElem?_eq_some_iff.mp h
  rw [List.getElem_cons_drop h1, List.take_append_drop]
theorem set_map {α β : Type} (f : α → β) : ∀ (l : List α) (i : Nat) (a : α), (l.map f).set i (f a) = (l.set i a).map f
  | [], _, _ => rfl
  | _ :: _, 0, _ => rfl
  | x :: r, i + 1, a => by rw [List.map_cons, List.set_cons_succ, List.set_cons_succ, List.map_cons, set_map f r i a]
theorem ix_at {n i : Nat} (h : i < n) : ixN n (i : Int) = some i := by
  unfold ixN
  rw [if_pos (by omega), if_pos (by omega), Int.toNat_natCast]
/-- a thing of a row is put anew: its old cell is let go -/
theorem Own.put {α : Type} {H0 H : Hp} {A : List Addr} {pre : Cells} {l : List α} {g : α → Addr × HO} {b y : α} {j : Nat} (O : Own H0 H A (g b :: (pre ++ l.map g))) (h : l[j]? = some y) : Own H0 H A (pre ++ (l.set j b).map g) := by
  have e := at_split h
  have O1 : Own H0 H A (g b :: (pre ++ ((l.take j).map g ++ (l.drop (j + 1)).map g))) := O.drop (by
    conv => rhs; rw [e, List.map_append, List.map_cons]
    exact .cons₂ _ (.append (.refl _) (.append (.refl _) (.cons _ (.refl _)))))
  rw [set_split h, List.map_append, List.map_cons]
  refine O1.perm ?_
  rw [← List.append_assoc, ← List.append_assoc]
  exact List.perm_middle.symm
end Ow
namespace Ow
open PySem PySem.Spec PyProof.Rows L2
theorem take_succ {α : Type} {l : List α} {i : Nat} {y : α} (h : l[i]? = some y) : l.take (i + 1) = l.take i ++ [y] := by
  rw [List.take_succ, h]; rfl
theorem sorted_ext : ∀ {l k : List Int}, l.Pairwise (· < ·) → k.Pairwise (· < ·) → (∀ m, m ∈ l ↔ m ∈ k) → l = k
  | [], [], _, _, _ => rfl
  | [], y :: k, _, _, h => absurd ((h y).mpr List.mem_cons_self) (by simp)
  | x :: l, [], _, _, h => absurd ((h x).mp List.mem_cons_self) (by simp)
  | x :: l, y :: k, h1, h2, h => by
    obtain ⟨a1, a2⟩ := List.pairwise_cons.mp h1
    obtain ⟨b1, b2⟩ := List.pairwise_cons.mp h2
    have e : x = y := by
      rcases List.mem_cons.mp ((h x).mp List.mem_cons_self) with z | z
      · exact z
      · rcases List.mem_cons.mp ((h y).mpr List.mem_cons_self) with w | w
        · exact w.symm
        · have := b1 _ z
          have := a1 _ w
          omega
    subst e
    rw [sorted_ext a2 b2 fun m => ⟨fun hm => ?_, fun hm => ?_⟩]
    · rcases List.mem_cons.mp ((h m).mp (List.mem_cons_of_mem _ hm)) with z | z
      · have := a1 _ hm; omega
      · exact z
    · rcases List.mem_cons.mp ((h m).mpr (List.mem_cons_of_mem _ hm)) with z | z
      · have := b1 _ hm; omega
      · exact z
end Ow
namespace Ow
open L2 in
/-- behind a call: what it has made stands ahead -/
theorem Own.callE {H0 H H' : Hp} {A : List PySem.Addr} {cs s s' cs' e : Cells} (O : Own H0 H A cs) (h : Sub cs s s' cs') (C : Own H H' (Ow.adr s) (e ++ s')) : Own H0 H' A (e ++ cs') := by
  obtain ⟨l, r, rfl, rfl⟩ := h.split
  have O1 := O.call (cs' := l ++ ((e ++ s') ++ r)) (.app .here) C
  refine O1.perm ?_
  have e1 : l ++ ((e ++ s') ++ r) = (l ++ e) ++ (s' ++ r) := by simp only [List.append_assoc]
  have e2 : e ++ (l ++ (s' ++ r)) = (e ++ l) ++ (s' ++ r) := by simp only [List.append_assoc]
  rw [e1, e2]
  exact (List.perm_append_comm).append_right _
end Ow
namespace Ow
open PySem PySem.Spec PyProof.Rows L2
/-- a new thing, as the goal names it: it is ours from now on -/
theorem Own.nxt {H0 H : Hp} {A : List Addr} {cs : Cells} {p : Addr} {o : HO} {G : Hp → Prop} (O : Own H0 H A cs) (h : H p = none) (k : Own H0 (upd H p o) A ((p, o) :: cs) → G (upd H p o)) : G (upd H p o) := k (O.new h)
theorem Own.nxtQ {H0 H : Hp} {A : List Addr} {cs : Cells} {p : Addr} {o : HO} {Q : VK} {G : Hp → VK → Prop} (O : Own H0 H A cs) (h : H p = none) (k : Own H0 (upd H p o) A ((p, o) :: cs) → G (upd H p o) Q) : G (upd H p o) Q := k (O.new h)
end Ow
namespace Ow
open PySem PySem.Spec PyProof.Rows L2
/-! ### loops and comprehensions over anything that is walked -/
section
variable {J : It} {n : Nat} {G : Hp → Prop} {Y : Nat → Hp → V → Hp → Prop}
theorem forW (w : Walk J n G Y) {g : TG} {tb : TS} {D : Ends} {σ : L2.St} {H : Hp} (Pv : Nat → L2.St → Hp → Prop) (h0 : Pv 0 σ H) (hG : ∀ i σ H, i ≤ n → Pv i σ H → G H)
    (hs : ∀ i x σ H H', i < n → Pv i σ H → Y i H x H' → g x σ H' fun σ2 H2 => tb { D with nx := fun σ H => Box (Pv (i + 1) σ H), ct := fun σ H => Box (Pv (i + 1) σ H), bk := D.nx } σ2 H2) (hd : ∀ σ H, Pv n σ H → D.nx σ H) :
    Box (∃ W : Nat → Nat → L2.St → Hp → Prop, (∃ m, W 0 m σ H) ∧ ∀ i m σ H, W i m σ H →
      (J.stop i H ∧ D.nx σ H) ∨ (J.go i H ∧ ∃ N : L2.St → Hp → Prop, (∀ σ' H', N σ' H' → ∃ m', m' < m ∧ W (i + 1) m' σ' H') ∧ ∀ x H', J.yld i H x H' → g x σ H' fun σ2 H2 => tb { D with nx := N, ct := N, bk := D.nx } σ2 H2)) :=
  ⟨for_it w (fun i σ H => Box (Pv i σ H)) ⟨h0⟩ (fun i σ H hi p => hG i σ H hi p.out) (fun i x σ H H' hi p y => hs i x σ H H' hi p.out y) (fun σ H p => hd σ H p.out)⟩
theorem lcW (w : Walk J n G Y) {g : TG} {tt : TT} {te : TE} {vs : List Nat} {σ : L2.St} {H1 : Hp} {Q : Addr → Hp → Prop} (Pv : Addr → Nat → Hp → Prop) (h0 : ∀ D, H1 D = none → Pv D 0 (upd H1 D (.lst []))) (hG : ∀ D i H, i ≤ n → Pv D i H → G H)
    (hs : ∀ D i x H H', i < n → Pv D i H → Y i H x H' → g x (wipe σ vs) H' fun σ2 H2 => wipe σ2 vs = wipe σ vs ∧ tt σ2 H2 fun b H3 =>
      if b = true then te σ2 H3 fun y H4 => ∃ acc, H4 D = some (.lst acc) ∧ acc.length < sizeLine ∧ Box (Pv D (i + 1) (upd H4 D (.lst (acc ++ [y])))) else Box (Pv D (i + 1) H3)) (hd : ∀ D H, Pv D n H → Q D H) :
    Box (∀ D, H1 D = none → ∃ W : Nat → Nat → Hp → Prop, (∃ m, W 0 m (upd H1 D (.lst []))) ∧ ∀ i m H, W i m H →
      (J.stop i H ∧ Q D H) ∨ (J.go i H ∧ ∃ Nx : Hp → Prop, (∀ H', Nx H' → ∃ m', m' < m ∧ W (i + 1) m' H') ∧ ∀ x H', J.yld i H x H' → g x (wipe σ vs) H' fun σ2 H2 => wipe σ2 vs = wipe σ vs ∧ tt σ2 H2 fun b H3 =>
        if b = true then te σ2 H3 fun y H4 => ∃ acc, H4 D = some (.lst acc) ∧ acc.length < sizeLine ∧ Nx (upd H4 D (.lst (acc ++ [y]))) else Nx H3)) :=
  ⟨fun D hD => lc_it w (fun i H => Box (Pv D i H)) ⟨h0 D hD⟩ (fun i H hi p => hG D i H hi p.out) (fun i x H H' hi p y => hs D i x H H' hi p.out y) (fun H p => hd D H p.out)⟩
end
/-- None or a whole number -/
def oV : Option Int → V
  | none => .non
  | some i => .int i
theorem putF_lt {f : Str} {v : V} {n : Nat} : ∀ {fs : List (Str × V)}, fs.length < n → (putF f v fs).length < n + 1
  | [], h => by show 1 < n + 1; simp only [List.length_nil] at h; omega
  | (g, x) :: r, h => by
    rw [List.length_cons] at h
    unfold putF
    by_cases e : g = f
    · rw [if_pos e, List.length_cons]; omega
    · rw [if_neg e, List.length_cons]
      have := putF_lt (f := f) (v := v) (n := n - 1) (fs := r) (by omega)
      omega
theorem at_of {xs : List V} {i : Int} {v : V} (h : atI xs i = some v) : atI xs i = some v := h
theorem ix_of {n : Nat} {i : Int} {j : Nat} (h : ixN n i = some j) : ixN n i = some j := h
theorem cp_of {i j : Int} (h : CPow i j) : CPow i j := h
theorem cmw_of {i j : Int} (h : CMulW i j) : CMulW i j := h
theorem eq_oV {o : Option Int} {j : Int} : decide (oV o = V.int j) = decide (o = some j) := by
  cases o with
  | none => simp [oV]
  | some i => simp [oV]
theorem zip_all {α β γ : Type} [DecidableEq γ] (f : α → γ) (g : β → γ) : ∀ (xs : List α) (ys : List β), xs.length = ys.length → ((xs.zip ys).map fun p => decide (f p.1 = g p.2)).all id = decide (xs.map f = ys.map g)
  | [], [], _ => rfl
  | [], _ :: _, h => by cases h
  | _ :: _, [], h => by cases h
  | x :: xs, y :: ys, h => by
    have ih := zip_all f g xs ys (by simpa using h)
    simp only [List.zip_cons_cons, List.map_cons, List.all_cons, id_eq, ih, List.cons.injEq, Bool.decide_and]
theorem zip_at {α β : Type} {xs : List α} {ys : List β} {i : Nat} {x : α} {y : β} (h1 : xs[i]? = some x) (h2 : ys[i]? = some y) : (xs.zip ys)[i]? = some (x, y) := List.getElem?_zip_eq_some.mpr ⟨h1, h2⟩
/-! ### readings by name, for what stands within a comprehension -/
def rLenSq (K : PySem.W.Frag) : List V → Hp → VK → Prop := fun xs H Q => ∃ p ys, xs = [.ref p] ∧ (SqL K H p ys ∨ SqT K H p ys) ∧ Q (.int ys.length) H
def rLenV (K : PySem.W.Frag) : List V → Hp → VK → Prop := fun xs H Q => ∃ x n, xs = [x] ∧ LenV K x H n ∧ Q (.int n) H
def rListOf (K : PySem.W.Frag) : List V → Hp → VK → Prop := fun xs H Q => ∃ p ys, xs = [.ref p] ∧ (SqL K H p ys ∨ SqT K H p ys) ∧ ∀ l, H l = none → Q (.ref l) (upd H l (.lst ys))
def rTupOf (K : PySem.W.Frag) : List V → Hp → VK → Prop := fun xs H Q => ∃ p ys, xs = [.ref p] ∧ ((SqL K H p ys ∧ ∀ l, H l = none → Q (.ref l) (upd H l (.tup ys))) ∨ (SqT K H p ys ∧ Q (.ref p) H))
/-! ### rows of whole numbers, each with its place -/
abbrev Pg := Addr × List Int
abbrev pcel (x : Pg) : Addr × HO := (x.1, .lst (x.2.map V.int))
/-- the rows stand in the heap -/
def RowsAt (H : Hp) (rs : List Pg) : Prop := ∀ r ∈ rs, H r.1 = some (.lst (r.2.map V.int))
theorem RowsAt.mono {H0 H : Hp} {cs : Cells} {rs : List Pg} (h : RowsAt H0 rs) (O : Own H0 H [] cs) : RowsAt H rs := fun r hr => O.fr0 (h r hr)
theorem Own.rows {H0 H : Hp} {A : List Addr} {cs : Cells} {rs : List Pg} (O : Own H0 H A cs) (h : ∀ r ∈ rs, pcel r ∈ cs) : RowsAt H rs := fun r hr => O.get (h r hr)
theorem refs_get {rs : List Pg} {i : Nat} {x : V} (h : (rs.map fun x : Pg => V.ref x.1)[i]? = some x) : ∃ y, rs[i]? = some y ∧ x = V.ref y.1 := by
  rw [List.getElem?_map] at h
  cases e : rs[i]? with
  | none => rw [e] at h; cases h
  | some y => rw [e] at h; exact ⟨y, rfl, (Option.some.inj h).symm⟩
/-- a thing of a row is put anew, where more stands behind -/
theorem Own.put2 {α : Type} {H0 H : Hp} {A : List Addr} {pre post : Cells} {l : List α} {g : α → Addr × HO} {b y : α} {j : Nat} (O : Own H0 H A (g b :: (pre ++ (l.map g ++ post)))) (h : l[j]? = some y) : Own H0 H A (pre ++ ((l.set j b).map g ++ post)) := by
  have O1 : Own H0 H A (g b :: ((post ++ pre) ++ l.map g)) := O.perm (by
    refine .cons _ ?_
    rw [List.append_assoc, ← List.append_assoc pre]
    exact List.perm_append_comm)
  have O2 := O1.put h
  refine O2.perm ?_
  rw [List.append_assoc, ← List.append_assoc pre]
  exact List.perm_append_comm
theorem rgV0 (n : Nat) : rgV 0 (n : Int) = ((List.range n).map fun i : Nat => (i : Int)).map V.int := by
  unfold rgV
  rw [List.map_map, show ((n : Int) - 0).toNat = n by omega]
  exact List.map_congr_left fun i _ => by rw [Int.zero_add]; rfl
theorem cutV_to (xs : List V) (n : Nat) : cutV xs none (some (n : Int)) = xs.take n := by
  unfold cutV
  rw [HT.sIx_nat]
  show (xs.drop 0).take _ = _
  rw [List.drop_zero, HT.sIx_none, Nat.sub_zero]
  by_cases h : n ≤ xs.length
  · rw [show min n xs.length = n by omega]
  · rw [show min n xs.length = xs.length by omega, List.take_length, List.take_of_length_le (by omega)]
theorem cutV_from (xs : List V) (n : Nat) : cutV xs (some (n : Int)) none = xs.drop n := by
  unfold cutV
  rw [HT.sIx_nat]
  show (xs.drop (min n xs.length)).take (xs.length - min n xs.length) = _
  by_cases h : n ≤ xs.length
  · rw [show min n xs.length = n by omega, List.take_of_length_le (by rw [List.length_drop]; omega)]
  · rw [show min n xs.length = xs.length by omega, List.drop_length, List.drop_eq_nil_of_le (by omega), List.take_nil]
theorem cutV_mid (xs : List V) (a b : Nat) (h : a ≤ b) (hb : b ≤ xs.length) : cutV xs (some (a : Int)) (some (b : Int)) = (xs.drop a).take (b - a) := by
  unfold cutV
  rw [HT.sIx_nat, HT.sIx_nat, show min a xs.length = a by omega, show min b xs.length = b by omega]
/-- cells that were handed and stand as they stood need not be told -/
theorem Own.back {H0 H : Hp} {cs bs : Cells} (O : Own H0 H (Ow.adr bs) (cs ++ bs)) (h : ∀ a o, (a, o) ∈ bs → H0 a = some o) : Own H0 H [] cs := by
  have nd := O.nd
  rw [adr_app] at nd
  obtain ⟨n1, n2, n3⟩ := List.nodup_append.mp nd
  refine ⟨fun a o m => O.at_ a o (List.mem_append_left _ m), n1, fun b o e _ => ?_, fun b m => ?_, O.tp⟩
  · by_cases hb : b ∈ Ow.adr bs
    · obtain ⟨c, hc, rfl⟩ := List.mem_map.mp hb
      have e2 := h c.1 c.2 hc
      rw [e] at e2
      cases e2
      exact O.at_ _ _ (List.mem_append_right _ hc)
    · exact O.fr b o e hb
  · rcases O.nw b (by rw [adr_app]; exact List.mem_append_left _ m) with z | z
    · exact absurd rfl (n3 b m b z)
    · exact .inr z
/-- a dict is written: a key that is not there comes last -/
theorem putK_new {kvs : List (Key × V)} {k : Key} {v : V} (h : k ∉ kvs.map (·.1)) : putK kvs k v = kvs ++ [(k, v)] := by
  unfold putK
  rw [if_neg]
  intro e
  obtain ⟨x, hx, e⟩ := List.any_eq_true.mp e
  exact h (List.mem_map.mpr ⟨x, hx, of_decide_eq_true e⟩)
theorem mergeK_app : ∀ {more acc : List (Key × V)}, ((acc ++ more).map (·.1)).Nodup → mergeK acc more = acc ++ more
  | [], acc, _ => (List.append_nil acc).symm
  | (k, v) :: r, acc, h => by
    have h1 : k ∉ acc.map (·.1) := by
      rw [List.map_append] at h
      intro z
      exact (List.nodup_append.mp h).2.2 k z k (by simp) rfl
    show mergeK (putK acc k v) r = _
    rw [putK_new h1, mergeK_app (by rw [List.append_assoc]; exact h), List.append_assoc]
    rfl
theorem Own.sep {H0 H : Hp} {A : List Addr} {X Y : Cells} {a : Addr} (O : Own H0 H A (X ++ Y)) (h : a ∈ Ow.adr X) : a ∉ Ow.adr Y := fun z => by
  have nd := O.nd
  rw [adr_app] at nd
  exact (List.nodup_append.mp nd).2.2 a h a z rfl
theorem atI_last {xs : List V} {v : V} (h : xs[xs.length - 1]? = some v) : atI xs (-1) = some v := by
  have hl := (List.getElem?_eq_some_iff.mp h).1
  have e : ixN xs.length (-1) = some (xs.length - 1) := by
    unfold ixN
    rw [if_neg (by decide), if_pos (by omega)]
    congr 1
    omega
  unfold atI
  rw [e]
  exact h
/-! ### dicts of lists, compared -/
section
open PySem.Calls PyProof.V
variable {prog : Program} {w : World} {κ : Type} [DecidableEq κ] {knd : KeyKind prog w κ} {A : Around} {s : Shared}
theorem neP_dicts {a b : Addr} {ka kb : List (κ × Value)} {r : Bool} (ha : (a == sysModules) = false) (hb : (b == sysModules) = false) (da : s.heap.DictOf knd a ka) (db : s.heap.DictOf knd b kb) (hu : A.units < cLine)
    (hits : ka.length = kb.length → PySem.W.KeqHitsP prog w A.in1 s kb ka r) (E Q : Value → Shared → Prop) (h : Q (.bool (!(ka.length == kb.length && r))) s) : wpAny (model prog w) A (compareOp .NotEq (.ref a) (.ref b)) Q E s := by
  refine wpAny_richCompare_same_room (op := .NotEq) da.typeIs db.typeIs PySem.F.slot_dict_ne (wpAny_call_entry PySem.F.slot_dict_ne da.typeIs PySem.F.entry_dict_ne ?_ (PySem.F.args_dict_ne_2 _ _)) hu
  show wpAny _ _ (Builtin.Dict.dictSlotArgs "__ne__" ⟨[.ref a, .ref b], []⟩ >>= _) _ _ s
  refine wpAny_bind ?_
  unfold Builtin.Dict.dictSlotArgs
  refine wpAny_bind (wpAny_notOrdered_dict da.typeIs ?_)
  show wpAny _ _ (pure (Value.ref a, Value.ref b)) _ _ s
  refine wpAny_pure ?_
  refine wpAny_bind (wpAny_isInstance (T := "dict") db.typeIs PySem.F.sub_dict_dict ?_)
  simp only [Bool.not_true, Bool.false_eq_true, if_false]
  refine wpAny_bind (wpAny_pure (wpAny_bind (wpAny_pure ?_)))
  refine wpAny_bind (PySem.W.samePairsP ha hb da db hits ?_)
  refine wpAny_pure ⟨_, rfl, ?_, ?_⟩
  · exact fun x => nomatch x
  · simpa using h
end
/-- d != e, two dicts: of unlike lengths, or equal -/
def rNeDV (K : PySem.W.Frag) : R2 := fun x y H Q => ∃ a b ks ls, x = .ref a ∧ y = .ref b ∧ H a = some (.dK ks) ∧ H b = some (.dK ls) ∧
  ((ks.length ≠ ls.length ∧ Q (.bl true) H) ∨ (ks.length = ls.length ∧ (∀ p ∈ ks, ∃ u, valV ls p.1 = some u ∧ EqV K H 2 p.2 u) ∧ Q (.bl false) H))
theorem op_neDV {X : Cx} (hu : X.A.units + 64 < cLine) : OpR X (compareOp .NotEq) (rNeDV X.K) := by
  intro pins s σ H x y v u Q I rx ry h
  obtain ⟨a, b, ks, ls, rfl, rfl, ea, eb, h⟩ := h
  obtain rfl : v = Value.ref a := rx
  obtain rfl : u = Value.ref b := ry
  obtain ⟨_, ya, va, ra, da⟩ := (show ObjOk X.prog X.w H s.heap a (.dK ks) from I.hok a _ ea)
  obtain ⟨_, yb, vb, rb, db⟩ := (show ObjOk X.prog X.w H s.heap b (.dK ls) from I.hok b _ eb)
  have e1 : va.length = ks.length := ra.length.symm
  have e2 : vb.length = ls.length := rb.length.symm
  rcases h with ⟨hne, q⟩ | ⟨hl, hp, q⟩
  · refine neP_dicts (knd := mixKind X.prog X.w) (r := false) ya yb da db (by omega) (fun z => absurd (by omega) hne) _ _ ?_
    rw [show (!(va.length == vb.length && false)) = true by simp]
    exact ⟨.bl true, H, I, rfl, q⟩
  · refine neP_dicts (knd := mixKind X.prog X.w) (r := true) ya yb da db (by omega) (fun _ => hits_run (eqV_run I 2 X.A.in1 (by show X.A.units + 1 + 2 < cLine; omega)) rb ra hp) _ _ ?_
    rw [show (!(va.length == vb.length && true)) = false by rw [e1, e2, hl]; simp]
    exact ⟨.bl false, H, I, rfl, q⟩
theorem paired_ints {K : PySem.W.Frag} {H : Hp} : ∀ ns : List Int, Paired (EqV K H 1) (ns.map V.int) (ns.map V.int)
  | [] => .nil
  | n :: r => .cons (.inl ⟨rfl, rfl⟩) (paired_ints r)
theorem eqV_ints {K : PySem.W.Frag} {H : Hp} {a b : Addr} {ns : List Int} (ha : H a = some (.lst (ns.map V.int))) (hb : H b = some (.lst (ns.map V.int))) : EqV K H 2 (.ref a) (.ref b) :=
  .inr (.inr (.inl ⟨a, b, _, _, rfl, rfl, SqL.of ha, SqL.of hb, paired_ints ns⟩))
/-! ### lists of texts, compared -/
section
variable {K : PySem.W.Frag} {H : Hp} {a b : Addr}
theorem dpa_strs : ∀ ns : List Str, DpAll K H (ns.map V.str) (ns.map PyData.str)
  | [] => .nil
  | n :: r => .cons (.str n) (dpa_strs r)
theorem depth_strs : ∀ ns : List Str, PyData.depthAll (ns.map PyData.str) ≤ 1
  | [] => by simp [PyData.depthAll]
  | n :: r => by
    have := depth_strs r
    simp only [List.map_cons, PyData.depthAll, PyData.depth]
    omega
theorem lay_strs : ∀ ns : List Str, (ns.all PyData.strOk = true) → PyData.canLayAll0 (ns.map PyData.str) = true
  | [], _ => by simp [PyData.canLayAll0]
  | n :: r, h => by
    rw [List.all_cons, Bool.and_eq_true] at h
    simp [PyData.canLayAll0, PyData.canLay0, lay_strs r h.2, h.1]
theorem sh_strs (ns : List Str) (h : ns.all PyData.strOk = true) : SeqAt.shaped (.list (ns.map PyData.str)) = true := by
  have h1 := depth_strs ns
  have h2 : PyData.depth (.list (ns.map PyData.str)) ≤ 64 := by
    simp only [PyData.depth]
    omega
  show (PyData.canLay0 (.list (ns.map PyData.str)) && decide (PyData.depth (.list (ns.map PyData.str)) ≤ 64)) = true
  rw [Bool.and_eq_true]
  exact ⟨by simp only [PyData.canLay0]; exact lay_strs ns h, decide_eq_true h2⟩
theorem dist_strs : ∀ ns ms : List Str, PyData.eqvAll (ns.map PyData.str) (ms.map PyData.str) = decide (ns = ms)
  | [], [] => rfl
  | [], _ :: _ => rfl
  | _ :: _, [] => rfl
  | n :: r, m :: q => by
    rw [List.map_cons, List.map_cons, PyData.eqvAll, dist_strs r q]
    show ((n == m) && _) = _
    by_cases h : n = m
    · subst h; simp
    · rw [decide_eq_false (fun e => h (List.cons.inj e).1)]; simp [h]
theorem eq_strs {ns ms : List Str} {Q : VK} (h1 : ns.all PyData.strOk = true) (h2 : ms.all PyData.strOk = true) (ha : H a = some (.lst (ns.map V.str))) (hb : H b = some (.lst (ms.map V.str))) (k : Q (.bl (decide (ns = ms))) H) : rEqD K (.ref a) (.ref b) H Q :=
  ⟨_, _, .lst (SqL.of ha) (dpa_strs ns), .lst (SqL.of hb) (dpa_strs ms), sh_strs ns h1, sh_strs ms h2, by rw [show PyData.eqv (.list (ns.map PyData.str)) (.list (ms.map PyData.str)) = decide (ns = ms) from dist_strs ns ms]; exact k⟩
end
/-! ### held exceptions, asked about several classes -/
/-- isinstance(e, (c, ..)), e a held exception -/
def rIsXT (K : PySem.W.Frag) : List V → Hp → VK → Prop := fun xs H Q => ∃ (a D tp : Addr) (cs : List V) (us : List Value) (b : Bool), xs = [.ref a, .ref tp] ∧ H a = some (CxO (.ref D) none a) ∧ ExcC K D ∧ H tp = some (.tup cs) ∧ Paired ClsV cs us ∧ PySem.W.kitAny K (.ref D) us = some b ∧ Q (.bl b) H
theorem call_isXT {X : Cx} : CallR X (.builtin "isinstance") (rIsXT X.K) := by
  intro pins s σ H xs us Q I r h
  obtain ⟨a, D, tp, cs, ws, b, rfl, ha, C, hT, k, says, q⟩ := h
  obtain ⟨u1, u2, rfl, r1, r2⟩ := vals2 r
  cases (show u1 = Value.ref a from r1)
  cases (show u2 = Value.ref tp from r2)
  obtain ⟨⟨ob, vs, at_, z, dt⟩, _, _⟩ := I.hok a _ ha
  have J : PySem.W.InstAt s.heap a ob D none := by
    obtain ⟨oc, od, oda, osl⟩ := ob
    obtain ⟨h1, h2⟩ := z
    dsimp only at h1 h2 dt
    subst h1 h2 dt
    exact ⟨at_, rfl, rfl, trivial⟩
  obtain ⟨_, its, rv, o, h1, h2, n, h3⟩ := (show ObjOk X.prog X.w H s.heap tp (.tup cs) from I.hok tp _ hT)
  have e3 := ClsV.all k rv
  subst e3
  obtain ⟨oc, od, dt, sl⟩ := o
  simp only at h2 h3
  subst h2 h3
  refine PySem.W.kia_tup (PySem.W.handS_kitx_exc C.hg C.hk C.hs C.hd C.ha C.hn C.ht C.hm) I.kIn J h1 says (fun w => nomatch w) fun tk => ?_
  exact ⟨.bl b, H, I.kept (t' := tk) fun _ _ w => w, rfl, q⟩
theorem kit_any {K : PySem.W.Frag} {t : Value} : ∀ {us : List Value} {bs : List Bool}, Paired (fun u b => PySem.W.kitOne K t u = some b) us bs → PySem.W.kitAny K t us = some (bs.any id)
  | _, _, .nil => rfl
  | _, _, .cons (b := b) h k => by
    refine kitAny_cons h (fun e => ?_) (fun e => ?_)
    · have z := kit_any k
      rw [e]; exact z
    · rw [e]; rfl
/-! ### a dict is locked while it is walked -/
theorem lock_d {H : Hp} {d : Addr} {kvs : List (Key × V)} {t : TS} {D : Ends} {σ : L2.St} (h : H d = some (.dK kvs))
    (k : ∀ od, t ⟨fun σ' H' => H' d = some (.frz od (.dK kvs)) ∧ D.nx σ' (upd H' d (.dK kvs)), fun v H' => H' d = some (.frz od (.dK kvs)) ∧ D.rt v (upd H' d (.dK kvs)), fun σ' H' => H' d = some (.frz od (.dK kvs)) ∧ D.bk σ' (upd H' d (.dK kvs)), fun σ' H' => H' d = some (.frz od (.dK kvs)) ∧ D.ct σ' (upd H' d (.dK kvs))⟩ σ (upd H d (.frz od (.dK kvs)))) : tLock t D σ H :=
  ⟨d, _, h, True.intro, k⟩
end Ow
namespace Ow
open PySem PySem.Spec PyProof.Rows L2
def top (i : Nat) : Stmt := PySem.Challenge.pw_ownroom_k28_each_fall_of_a_commit.main.body.getD i (.Pass ⟨0, 0, 0, 0⟩)
abbrev s_send_home : Stmt := top 4
abbrev s_mark : Stmt := top 5
abbrev s_commit : Stmt := top 6
abbrev s_recover : Stmt := top 7
abbrev s_Disk___init__ : Stmt := inClass (top 14) 0
abbrev s_Disk_look : Stmt := inClass (top 14) 1
abbrev s_Disk_read : Stmt := inClass (top 14) 2
abbrev s_Disk_write : Stmt := inClass (top 14) 3
abbrev s_Disk_writes : Stmt := inClass (top 14) 4
abbrev s_Disk_fall : Stmt := inClass (top 14) 5
abbrev s_Disk_rise : Stmt := inClass (top 14) 6
abbrev s_Disk_image : Stmt := inClass (top 14) 7
abbrev s__law_cell_at : Stmt := top 16
abbrev s__law_mixed : Stmt := top 17
abbrev s__law_wide : Stmt := top 18
abbrev s__law_numbers : Stmt := top 19
abbrev s__law_row_is : Stmt := top 20
abbrev s__law_rows_are : Stmt := top 21
abbrev s__law_count_is : Stmt := top 22
abbrev s__law_rows : Stmt := top 23
abbrev s__law_disk : Stmt := top 24
abbrev s__law_carried : Stmt := top 25
abbrev s__law_changes : Stmt := top 26
abbrev s__law_changed : Stmt := top 27
abbrev s__law_handed : Stmt := top 28
abbrev s__law_fell : Stmt := top 29
abbrev s__law_mended : Stmt := top 30
abbrev s__law_made : Stmt := top 31
abbrev s__law_falls : Stmt := top 32
abbrev s__law_all_falls : Stmt := top 33
abbrev s_law : Stmt := top 34
def fns0 : List He.DefD := [⟨("send_home", none), "send_home", "send_home", defArgs (top 4), defBody (top 4), defScope (top 4), [], []⟩, ⟨("mark", none), "mark", "mark", defArgs (top 5), defBody (top 5), defScope (top 5), [], []⟩, ⟨("commit", none), "commit", "commit", defArgs (top 6), defBody (top 6), defScope (top 6), [], []⟩, ⟨("recover", none), "recover", "recover", defArgs (top 7), defBody (top 7), defScope (top 7), [], []⟩, ⟨("Disk", some "__init__"), "__init__", "Disk.__init__", defArgs (inClass (top 14) 0), defBody (inClass (top 14) 0), defScope (inClass (top 14) 0), [], []⟩, ⟨("Disk", some "look"), "look", "Disk.look", defArgs (inClass (top 14) 1), defBody (inClass (top 14) 1), defScope (inClass (top 14) 1), [], []⟩, ⟨("Disk", some "read"), "read", "Disk.read", defArgs (inClass (top 14) 2), defBody (inClass (top 14) 2), defScope (inClass (top 14) 2), [], []⟩, ⟨("Disk", some "write"), "write", "Disk.write", defArgs (inClass (top 14) 3), defBody (inClass (top 14) 3), defScope (inClass (top 14) 3), [], []⟩, ⟨("Disk", some "writes"), "writes", "Disk.writes", defArgs (inClass (top 14) 4), defBody (inClass (top 14) 4), defScope (inClass (top 14) 4), [], []⟩, ⟨("Disk", some "fall"), "fall", "Disk.fall", defArgs (inClass (top 14) 5), defBody (inClass (top 14) 5), defScope (inClass (top 14) 5), [], []⟩, ⟨("Disk", some "rise"), "rise", "Disk.rise", defArgs (inClass (top 14) 6), defBody (inClass (top 14) 6), defScope (inClass (top 14) 6), [], []⟩, ⟨("Disk", some "image"), "image", "Disk.image", defArgs (inClass (top 14) 7), defBody (inClass (top 14) 7), defScope (inClass (top 14) 7), [], []⟩, ⟨("_law_cell_at", none), "_law_cell_at", "_law_cell_at", defArgs (top 16), defBody (top 16), defScope (top 16), [], []⟩, ⟨("_law_mixed", none), "_law_mixed", "_law_mixed", defArgs (top 17), defBody (top 17), defScope (top 17), [], []⟩, ⟨("_law_wide", none), "_law_wide", "_law_wide", defArgs (top 18), defBody (top 18), defScope (top 18), [], []⟩, ⟨("_law_numbers", none), "_law_numbers", "_law_numbers", defArgs (top 19), defBody (top 19), defScope (top 19), [], []⟩, ⟨("_law_row_is", none), "_law_row_is", "_law_row_is", defArgs (top 20), defBody (top 20), defScope (top 20), [], []⟩, ⟨("_law_rows_are", none), "_law_rows_are", "_law_rows_are", defArgs (top 21), defBody (top 21), defScope (top 21), [], []⟩, ⟨("_law_count_is", none), "_law_count_is", "_law_count_is", defArgs (top 22), defBody (top 22), defScope (top 22), [], []⟩, ⟨("_law_rows", none), "_law_rows", "_law_rows", defArgs (top 23), defBody (top 23), defScope (top 23), [], []⟩, ⟨("_law_disk", none), "_law_disk", "_law_disk", defArgs (top 24), defBody (top 24), defScope (top 24), [], []⟩, ⟨("_law_carried", none), "_law_carried", "_law_carried", defArgs (top 25), defBody (top 25), defScope (top 25), [], []⟩, ⟨("_law_changes", none), "_law_changes", "_law_changes", defArgs (top 26), defBody (top 26), defScope (top 26), [], []⟩, ⟨("_law_changed", none), "_law_changed", "_law_changed", defArgs (top 27), defBody (top 27), defScope (top 27), [], []⟩]
def fns1 : List He.DefD := [⟨("_law_handed", none), "_law_handed", "_law_handed", defArgs (top 28), defBody (top 28), defScope (top 28), [], []⟩, ⟨("_law_fell", none), "_law_fell", "_law_fell", defArgs (top 29), defBody (top 29), defScope (top 29), [], []⟩, ⟨("_law_mended", none), "_law_mended", "_law_mended", defArgs (top 30), defBody (top 30), defScope (top 30), [], []⟩, ⟨("_law_made", none), "_law_made", "_law_made", defArgs (top 31), defBody (top 31), defScope (top 31), [], []⟩, ⟨("_law_falls", none), "_law_falls", "_law_falls", defArgs (top 32), defBody (top 32), defScope (top 32), [], []⟩, ⟨("_law_all_falls", none), "_law_all_falls", "_law_all_falls", defArgs (top 33), defBody (top 33), defScope (top 33), [], []⟩, ⟨("law", none), "law", "law", defArgs (top 34), defBody (top 34), defScope (top 34), [], []⟩]
def fns : List He.DefD := fns0 ++ fns1
def fa0 : List He.Fa := [.int "MARK" 0, .int "HOMES" 1, .int "COPIES" 3, .glo "send_home", .glo "mark", .glo "commit", .glo "recover", .glo "KernelError", .glo "NoBlock", .glo "Fallen", .int "BLOCK" 16, .glo "Disk", .glo "_law_cell_at", .glo "_law_mixed", .glo "_law_wide", .glo "_law_numbers", .glo "_law_row_is", .glo "_law_rows_are", .glo "_law_count_is", .glo "_law_rows", .glo "_law_disk", .glo "_law_carried", .glo "_law_changes", .glo "_law_changed"]
def fa1 : List He.Fa := [.glo "_law_handed", .glo "_law_fell", .glo "_law_mended", .glo "_law_made", .glo "_law_falls", .glo "_law_all_falls", .glo "law", .free "ValueError", .free "enumerate", .free "sorted", .free "range", .free "all", .free "list", .free "dict", .free "len", .free "abs", .free "isinstance", .free "int", .free "bool", .free "min", .free "zip", .exc "KernelError", .exc "NoBlock", .exc "Fallen"]
def fa2 : List He.Fa := [.cls "Disk", .mkr "Disk", .meth "Disk" "look", .meth "Disk" "read", .meth "Disk" "write", .meth "Disk" "writes", .meth "Disk" "fall", .meth "Disk" "rise", .meth "Disk" "image", .noat "Disk" "blocks", .noat "Disk" "done", .noat "Disk" "left", .noat "Disk" "down"]
def fas : List He.Fa := fa0 ++ fa1 ++ fa2
def exL0 (K : PySem.W.Frag) : List Bool := [excB K (He.ga K "NoBlock"), (PySem.W.exmOne K (.ref (He.ga K "NoBlock")) (.ref (He.ga K "Fallen")) == some false), excB K (He.ga K "Fallen"), (PySem.W.exmOne K (.ref (He.ga K "Fallen")) (.ref (He.ga K "Fallen")) == some true)]
def exL (K : PySem.W.Frag) : List Bool := [(exL0 K).all id]
def exB (K : PySem.W.Frag) : Bool := (exL K).all id
abbrev hk : PySem.W.Hook := He.hookX 5 fas fns [] [] exB
def ob (s : PySem.W.SharedT) : He.AlX := He.obsX 5 fas fns [] [] exB (HandSHeadRun.getT s)
theorem ob_eq (s : PySem.W.SharedT) : ob s = hk.obs s.abs := He.obsX_eq (HandSHeadRun.getT_eq s)
def loose0 : List PySem.Str := ["MARK", "HOMES", "COPIES", "send_home", "mark", "commit", "recover", "KernelError", "NoBlock", "Fallen", "BLOCK", "Disk", "_law_cell_at", "_law_mixed", "_law_wide", "_law_numbers", "_law_row_is", "_law_rows_are", "_law_count_is", "_law_rows", "_law_disk", "_law_carried", "_law_changes", "_law_changed"]
def loose1 : List PySem.Str := ["_law_handed", "_law_fell", "_law_mended", "_law_made", "_law_falls", "_law_all_falls"]
def loose : List PySem.Str := loose0 ++ loose1
abbrev R : PySem.W.OpenRow := PySem.W.OpenLaw.row PySem.Challenge.rw_ownroom_k28_each_fall_of_a_commit
theorem run (w : World) : HandSHeadRun.RunEq R (PySem.W.view R.prog [34]) hk ob 60000 loose w := by
  intro os
  kernel_rfl
structure Txt (K : PySem.W.Frag) (mg : Str → Option Value) : Prop where
  g_MARK : ∃ t, mg "MARK" = some (.int 0 t)
  g_HOMES : ∃ t, mg "HOMES" = some (.int 1 t)
  g_COPIES : ∃ t, mg "COPIES" = some (.int 3 t)
  g_send_home : mg "send_home" = some (.ref (He.ga K "send_home"))
  g_mark : mg "mark" = some (.ref (He.ga K "mark"))
  g_commit : mg "commit" = some (.ref (He.ga K "commit"))
  g_recover : mg "recover" = some (.ref (He.ga K "recover"))
  g_KernelError : mg "KernelError" = some (.ref (He.ga K "KernelError"))
  g_NoBlock : mg "NoBlock" = some (.ref (He.ga K "NoBlock"))
  g_Fallen : mg "Fallen" = some (.ref (He.ga K "Fallen"))
  g_BLOCK : ∃ t, mg "BLOCK" = some (.int 16 t)
  g_Disk : mg "Disk" = some (.ref (He.ga K "Disk"))
  g__law_cell_at : mg "_law_cell_at" = some (.ref (He.ga K "_law_cell_at"))
  g__law_mixed : mg "_law_mixed" = some (.ref (He.ga K "_law_mixed"))
  g__law_wide : mg "_law_wide" = some (.ref (He.ga K "_law_wide"))
  g__law_numbers : mg "_law_numbers" = some (.ref (He.ga K "_law_numbers"))
  g__law_row_is : mg "_law_row_is" = some (.ref (He.ga K "_law_row_is"))
  g__law_rows_are : mg "_law_rows_are" = some (.ref (He.ga K "_law_rows_are"))
  g__law_count_is : mg "_law_count_is" = some (.ref (He.ga K "_law_count_is"))
  g__law_rows : mg "_law_rows" = some (.ref (He.ga K "_law_rows"))
  g__law_disk : mg "_law_disk" = some (.ref (He.ga K "_law_disk"))
  g__law_carried : mg "_law_carried" = some (.ref (He.ga K "_law_carried"))
  g__law_changes : mg "_law_changes" = some (.ref (He.ga K "_law_changes"))
  g__law_changed : mg "_law_changed" = some (.ref (He.ga K "_law_changed"))
  g__law_handed : mg "_law_handed" = some (.ref (He.ga K "_law_handed"))
  g__law_fell : mg "_law_fell" = some (.ref (He.ga K "_law_fell"))
  g__law_mended : mg "_law_mended" = some (.ref (He.ga K "_law_mended"))
  g__law_made : mg "_law_made" = some (.ref (He.ga K "_law_made"))
  g__law_falls : mg "_law_falls" = some (.ref (He.ga K "_law_falls"))
  g__law_all_falls : mg "_law_all_falls" = some (.ref (He.ga K "_law_all_falls"))
  g_law : mg "law" = some (.ref (He.ga K "law"))
  n_ValueError : mg "ValueError" = none
  n_enumerate : mg "enumerate" = none
  n_sorted : mg "sorted" = none
  n_range : mg "range" = none
  n_all : mg "all" = none
  n_list : mg "list" = none
  n_dict : mg "dict" = none
  n_len : mg "len" = none
  n_abs : mg "abs" = none
  n_isinstance : mg "isinstance" = none
  n_int : mg "int" = none
  n_bool : mg "bool" = none
  n_min : mg "min" = none
  n_zip : mg "zip" = none
  x_KernelError : XcIn K (He.ga K "KernelError")
  x_NoBlock : XcIn K (He.ga K "NoBlock")
  x_Fallen : XcIn K (He.ga K "Fallen")
  c_Disk : Cls K (He.ga K "Disk")
  m_Disk : Mk K (He.ga K "Disk") (He.ma K (He.ga K "Disk") "__init__")
  m_Disk_look : Meth K (He.ga K "Disk") "look" (He.ma K (He.ga K "Disk") "look")
  m_Disk_read : Meth K (He.ga K "Disk") "read" (He.ma K (He.ga K "Disk") "read")
  m_Disk_write : Meth K (He.ga K "Disk") "write" (He.ma K (He.ga K "Disk") "write")
  m_Disk_writes : Meth K (He.ga K "Disk") "writes" (He.ma K (He.ga K "Disk") "writes")
  m_Disk_fall : Meth K (He.ga K "Disk") "fall" (He.ma K (He.ga K "Disk") "fall")
  m_Disk_rise : Meth K (He.ga K "Disk") "rise" (He.ma K (He.ga K "Disk") "rise")
  m_Disk_image : Meth K (He.ga K "Disk") "image" (He.ma K (He.ga K "Disk") "image")
  a_Disk_blocks : NoAttr K (He.ga K "Disk") "blocks"
  a_Disk_done : NoAttr K (He.ga K "Disk") "done"
  a_Disk_left : NoAttr K (He.ga K "Disk") "left"
  a_Disk_down : NoAttr K (He.ga K "Disk") "down"
  e_NoBlock : ExcC K (He.ga K "NoBlock")
  y_NoBlock_Fallen : PySem.W.exmOne K (.ref (He.ga K "NoBlock")) (.ref (He.ga K "Fallen")) = some false
  e_Fallen : ExcC K (He.ga K "Fallen")
  y_Fallen_Fallen : PySem.W.exmOne K (.ref (He.ga K "Fallen")) (.ref (He.ga K "Fallen")) = some true
  d_send_home : ∃ fd, FunD K "send_home" "send_home" (defArgs s_send_home) (defBody s_send_home) (defScope s_send_home) [] [] (He.fAd K ("send_home", none)) fd
  d_mark : ∃ fd, FunD K "mark" "mark" (defArgs s_mark) (defBody s_mark) (defScope s_mark) [] [] (He.fAd K ("mark", none)) fd
  d_commit : ∃ fd, FunD K "commit" "commit" (defArgs s_commit) (defBody s_commit) (defScope s_commit) [] [] (He.fAd K ("commit", none)) fd
  d_recover : ∃ fd, FunD K "recover" "recover" (defArgs s_recover) (defBody s_recover) (defScope s_recover) [] [] (He.fAd K ("recover", none)) fd
  d_Disk___init__ : ∃ fd, FunD K "__init__" "Disk.__init__" (defArgs s_Disk___init__) (defBody s_Disk___init__) (defScope s_Disk___init__) [] [] (He.fAd K ("Disk", some "__init__")) fd
  d_Disk_look : ∃ fd, FunD K "look" "Disk.look" (defArgs s_Disk_look) (defBody s_Disk_look) (defScope s_Disk_look) [] [] (He.fAd K ("Disk", some "look")) fd
  d_Disk_read : ∃ fd, FunD K "read" "Disk.read" (defArgs s_Disk_read) (defBody s_Disk_read) (defScope s_Disk_read) [] [] (He.fAd K ("Disk", some "read")) fd
  d_Disk_write : ∃ fd, FunD K "write" "Disk.write" (defArgs s_Disk_write) (defBody s_Disk_write) (defScope s_Disk_write) [] [] (He.fAd K ("Disk", some "write")) fd
  d_Disk_writes : ∃ fd, FunD K "writes" "Disk.writes" (defArgs s_Disk_writes) (defBody s_Disk_writes) (defScope s_Disk_writes) [] [] (He.fAd K ("Disk", some "writes")) fd
  d_Disk_fall : ∃ fd, FunD K "fall" "Disk.fall" (defArgs s_Disk_fall) (defBody s_Disk_fall) (defScope s_Disk_fall) [] [] (He.fAd K ("Disk", some "fall")) fd
  d_Disk_rise : ∃ fd, FunD K "rise" "Disk.rise" (defArgs s_Disk_rise) (defBody s_Disk_rise) (defScope s_Disk_rise) [] [] (He.fAd K ("Disk", some "rise")) fd
  d_Disk_image : ∃ fd, FunD K "image" "Disk.image" (defArgs s_Disk_image) (defBody s_Disk_image) (defScope s_Disk_image) [] [] (He.fAd K ("Disk", some "image")) fd
  d__law_cell_at : ∃ fd, FunD K "_law_cell_at" "_law_cell_at" (defArgs s__law_cell_at) (defBody s__law_cell_at) (defScope s__law_cell_at) [] [] (He.fAd K ("_law_cell_at", none)) fd
  d__law_mixed : ∃ fd, FunD K "_law_mixed" "_law_mixed" (defArgs s__law_mixed) (defBody s__law_mixed) (defScope s__law_mixed) [] [] (He.fAd K ("_law_mixed", none)) fd
  d__law_wide : ∃ fd, FunD K "_law_wide" "_law_wide" (defArgs s__law_wide) (defBody s__law_wide) (defScope s__law_wide) [] [] (He.fAd K ("_law_wide", none)) fd
  d__law_numbers : ∃ fd, FunD K "_law_numbers" "_law_numbers" (defArgs s__law_numbers) (defBody s__law_numbers) (defScope s__law_numbers) [] [] (He.fAd K ("_law_numbers", none)) fd
  d__law_row_is : ∃ fd, FunD K "_law_row_is" "_law_row_is" (defArgs s__law_row_is) (defBody s__law_row_is) (defScope s__law_row_is) [] [] (He.fAd K ("_law_row_is", none)) fd
  d__law_rows_are : ∃ fd, FunD K "_law_rows_are" "_law_rows_are" (defArgs s__law_rows_are) (defBody s__law_rows_are) (defScope s__law_rows_are) [] [] (He.fAd K ("_law_rows_are", none)) fd
  d__law_count_is : ∃ fd, FunD K "_law_count_is" "_law_count_is" (defArgs s__law_count_is) (defBody s__law_count_is) (defScope s__law_count_is) [] [] (He.fAd K ("_law_count_is", none)) fd
  d__law_rows : ∃ fd, FunD K "_law_rows" "_law_rows" (defArgs s__law_rows) (defBody s__law_rows) (defScope s__law_rows) [] [] (He.fAd K ("_law_rows", none)) fd
  d__law_disk : ∃ fd, FunD K "_law_disk" "_law_disk" (defArgs s__law_disk) (defBody s__law_disk) (defScope s__law_disk) [] [] (He.fAd K ("_law_disk", none)) fd
  d__law_carried : ∃ fd, FunD K "_law_carried" "_law_carried" (defArgs s__law_carried) (defBody s__law_carried) (defScope s__law_carried) [] [] (He.fAd K ("_law_carried", none)) fd
  d__law_changes : ∃ fd, FunD K "_law_changes" "_law_changes" (defArgs s__law_changes) (defBody s__law_changes) (defScope s__law_changes) [] [] (He.fAd K ("_law_changes", none)) fd
  d__law_changed : ∃ fd, FunD K "_law_changed" "_law_changed" (defArgs s__law_changed) (defBody s__law_changed) (defScope s__law_changed) [] [] (He.fAd K ("_law_changed", none)) fd
  d__law_handed : ∃ fd, FunD K "_law_handed" "_law_handed" (defArgs s__law_handed) (defBody s__law_handed) (defScope s__law_handed) [] [] (He.fAd K ("_law_handed", none)) fd
  d__law_fell : ∃ fd, FunD K "_law_fell" "_law_fell" (defArgs s__law_fell) (defBody s__law_fell) (defScope s__law_fell) [] [] (He.fAd K ("_law_fell", none)) fd
  d__law_mended : ∃ fd, FunD K "_law_mended" "_law_mended" (defArgs s__law_mended) (defBody s__law_mended) (defScope s__law_mended) [] [] (He.fAd K ("_law_mended", none)) fd
  d__law_made : ∃ fd, FunD K "_law_made" "_law_made" (defArgs s__law_made) (defBody s__law_made) (defScope s__law_made) [] [] (He.fAd K ("_law_made", none)) fd
  d__law_falls : ∃ fd, FunD K "_law_falls" "_law_falls" (defArgs s__law_falls) (defBody s__law_falls) (defScope s__law_falls) [] [] (He.fAd K ("_law_falls", none)) fd
  d__law_all_falls : ∃ fd, FunD K "_law_all_falls" "_law_all_falls" (defArgs s__law_all_falls) (defBody s__law_all_falls) (defScope s__law_all_falls) [] [] (He.fAd K ("_law_all_falls", none)) fd
  d_law : ∃ fd, FunD K "law" "law" (defArgs s_law) (defBody s_law) (defScope s_law) [] [] (He.fAd K ("law", none)) fd

theorem txt_mk {K : PySem.W.Frag} {h : Heap} {mg : Str → Option Value} (X : K.In h) (G : h.Ns mainGlobals mg) (c : He.SaysD fas fns K) (m : exB K = true) : Txt K mg where
  g_MARK := He.int_ok X G (c.fact 0 (f := .int "MARK" 0) rfl)
  g_HOMES := He.int_ok X G (c.fact 1 (f := .int "HOMES" 1) rfl)
  g_COPIES := He.int_ok X G (c.fact 2 (f := .int "COPIES" 3) rfl)
  g_send_home := He.glo_ok X G (c.fact 3 (f := .glo "send_home") rfl)
  g_mark := He.glo_ok X G (c.fact 4 (f := .glo "mark") rfl)
  g_commit := He.glo_ok X G (c.fact 5 (f := .glo "commit") rfl)
  g_recover := He.glo_ok X G (c.fact 6 (f := .glo "recover") rfl)
  g_KernelError := He.glo_ok X G (c.fact 7 (f := .glo "KernelError") rfl)
  g_NoBlock := He.glo_ok X G (c.fact 8 (f := .glo "NoBlock") rfl)
  g_Fallen := He.glo_ok X G (c.fact 9 (f := .glo "Fallen") rfl)
  g_BLOCK := He.int_ok X G (c.fact 10 (f := .int "BLOCK" 16) rfl)
  g_Disk := He.glo_ok X G (c.fact 11 (f := .glo "Disk") rfl)
  g__law_cell_at := He.glo_ok X G (c.fact 12 (f := .glo "_law_cell_at") rfl)
  g__law_mixed := He.glo_ok X G (c.fact 13 (f := .glo "_law_mixed") rfl)
  g__law_wide := He.glo_ok X G (c.fact 14 (f := .glo "_law_wide") rfl)
  g__law_numbers := He.glo_ok X G (c.fact 15 (f := .glo "_law_numbers") rfl)
  g__law_row_is := He.glo_ok X G (c.fact 16 (f := .glo "_law_row_is") rfl)
  g__law_rows_are := He.glo_ok X G (c.fact 17 (f := .glo "_law_rows_are") rfl)
  g__law_count_is := He.glo_ok X G (c.fact 18 (f := .glo "_law_count_is") rfl)
  g__law_rows := He.glo_ok X G (c.fact 19 (f := .glo "_law_rows") rfl)
  g__law_disk := He.glo_ok X G (c.fact 20 (f := .glo "_law_disk") rfl)
  g__law_carried := He.glo_ok X G (c.fact 21 (f := .glo "_law_carried") rfl)
  g__law_changes := He.glo_ok X G (c.fact 22 (f := .glo "_law_changes") rfl)
  g__law_changed := He.glo_ok X G (c.fact 23 (f := .glo "_law_changed") rfl)
  g__law_handed := He.glo_ok X G (c.fact 24 (f := .glo "_law_handed") rfl)
  g__law_fell := He.glo_ok X G (c.fact 25 (f := .glo "_law_fell") rfl)
  g__law_mended := He.glo_ok X G (c.fact 26 (f := .glo "_law_mended") rfl)
  g__law_made := He.glo_ok X G (c.fact 27 (f := .glo "_law_made") rfl)
  g__law_falls := He.glo_ok X G (c.fact 28 (f := .glo "_law_falls") rfl)
  g__law_all_falls := He.glo_ok X G (c.fact 29 (f := .glo "_law_all_falls") rfl)
  g_law := He.glo_ok X G (c.fact 30 (f := .glo "law") rfl)
  n_ValueError := He.free_ok X G (c.fact 31 (f := .free "ValueError") rfl)
  n_enumerate := He.free_ok X G (c.fact 32 (f := .free "enumerate") rfl)
  n_sorted := He.free_ok X G (c.fact 33 (f := .free "sorted") rfl)
  n_range := He.free_ok X G (c.fact 34 (f := .free "range") rfl)
  n_all := He.free_ok X G (c.fact 35 (f := .free "all") rfl)
  n_list := He.free_ok X G (c.fact 36 (f := .free "list") rfl)
  n_dict := He.free_ok X G (c.fact 37 (f := .free "dict") rfl)
  n_len := He.free_ok X G (c.fact 38 (f := .free "len") rfl)
  n_abs := He.free_ok X G (c.fact 39 (f := .free "abs") rfl)
  n_isinstance := He.free_ok X G (c.fact 40 (f := .free "isinstance") rfl)
  n_int := He.free_ok X G (c.fact 41 (f := .free "int") rfl)
  n_bool := He.free_ok X G (c.fact 42 (f := .free "bool") rfl)
  n_min := He.free_ok X G (c.fact 43 (f := .free "min") rfl)
  n_zip := He.free_ok X G (c.fact 44 (f := .free "zip") rfl)
  x_KernelError := He.exc_ok (c.fact 45 (f := .exc "KernelError") rfl)
  x_NoBlock := He.exc_ok (c.fact 46 (f := .exc "NoBlock") rfl)
  x_Fallen := He.exc_ok (c.fact 47 (f := .exc "Fallen") rfl)
  c_Disk := He.cls_ok (c.fact 48 (f := .cls "Disk") rfl)
  m_Disk := He.mkr_ok (c.fact 49 (f := .mkr "Disk") rfl)
  m_Disk_look := He.meth_ok (c.fact 50 (f := .meth "Disk" "look") rfl)
  m_Disk_read := He.meth_ok (c.fact 51 (f := .meth "Disk" "read") rfl)
  m_Disk_write := He.meth_ok (c.fact 52 (f := .meth "Disk" "write") rfl)
  m_Disk_writes := He.meth_ok (c.fact 53 (f := .meth "Disk" "writes") rfl)
  m_Disk_fall := He.meth_ok (c.fact 54 (f := .meth "Disk" "fall") rfl)
  m_Disk_rise := He.meth_ok (c.fact 55 (f := .meth "Disk" "rise") rfl)
  m_Disk_image := He.meth_ok (c.fact 56 (f := .meth "Disk" "image") rfl)
  a_Disk_blocks := He.noat_ok (c.fact 57 (f := .noat "Disk" "blocks") rfl)
  a_Disk_done := He.noat_ok (c.fact 58 (f := .noat "Disk" "done") rfl)
  a_Disk_left := He.noat_ok (c.fact 59 (f := .noat "Disk" "left") rfl)
  a_Disk_down := He.noat_ok (c.fact 60 (f := .noat "Disk" "down") rfl)
  e_NoBlock := excB_ok (all_at (all_at m 0 rfl) 0 rfl)
  y_NoBlock_Fallen := eq_of_beq (all_at (all_at m 0 rfl) 1 rfl)
  e_Fallen := excB_ok (all_at (all_at m 0 rfl) 2 rfl)
  y_Fallen_Fallen := eq_of_beq (all_at (all_at m 0 rfl) 3 rfl)
  d_send_home := c.def_ 0 (d := ⟨("send_home", none), "send_home", "send_home", defArgs (top 4), defBody (top 4), defScope (top 4), [], []⟩) rfl
  d_mark := c.def_ 1 (d := ⟨("mark", none), "mark", "mark", defArgs (top 5), defBody (top 5), defScope (top 5), [], []⟩) rfl
  d_commit := c.def_ 2 (d := ⟨("commit", none), "commit", "commit", defArgs (top 6), defBody (top 6), defScope (top 6), [], []⟩) rfl
  d_recover := c.def_ 3 (d := ⟨("recover", none), "recover", "recover", defArgs (top 7), defBody (top 7), defScope (top 7), [], []⟩) rfl
  d_Disk___init__ := c.def_ 4 (d := ⟨("Disk", some "__init__"), "__init__", "Disk.__init__", defArgs (inClass (top 14) 0), defBody (inClass (top 14) 0), defScope (inClass (top 14) 0), [], []⟩) rfl
  d_Disk_look := c.def_ 5 (d := ⟨("Disk", some "look"), "look", "Disk.look", defArgs (inClass (top 14) 1), defBody (inClass (top 14) 1), defScope (inClass (top 14) 1), [], []⟩) rfl
  d_Disk_read := c.def_ 6 (d := ⟨("Disk", some "read"), "read", "Disk.read", defArgs (inClass (top 14) 2), defBody (inClass (top 14) 2), defScope (inClass (top 14) 2), [], []⟩) rfl
  d_Disk_write := c.def_ 7 (d := ⟨("Disk", some "write"), "write", "Disk.write", defArgs (inClass (top 14) 3), defBody (inClass (top 14) 3), defScope (inClass (top 14) 3), [], []⟩) rfl
  d_Disk_writes := c.def_ 8 (d := ⟨("Disk", some "writes"), "writes", "Disk.writes", defArgs (inClass (top 14) 4), defBody (inClass (top 14) 4), defScope (inClass (top 14) 4), [], []⟩) rfl
  d_Disk_fall := c.def_ 9 (d := ⟨("Disk", some "fall"), "fall", "Disk.fall", defArgs (inClass (top 14) 5), defBody (inClass (top 14) 5), defScope (inClass (top 14) 5), [], []⟩) rfl
  d_Disk_rise := c.def_ 10 (d := ⟨("Disk", some "rise"), "rise", "Disk.rise", defArgs (inClass (top 14) 6), defBody (inClass (top 14) 6), defScope (inClass (top 14) 6), [], []⟩) rfl
  d_Disk_image := c.def_ 11 (d := ⟨("Disk", some "image"), "image", "Disk.image", defArgs (inClass (top 14) 7), defBody (inClass (top 14) 7), defScope (inClass (top 14) 7), [], []⟩) rfl
  d__law_cell_at := c.def_ 12 (d := ⟨("_law_cell_at", none), "_law_cell_at", "_law_cell_at", defArgs (top 16), defBody (top 16), defScope (top 16), [], []⟩) rfl
  d__law_mixed := c.def_ 13 (d := ⟨("_law_mixed", none), "_law_mixed", "_law_mixed", defArgs (top 17), defBody (top 17), defScope (top 17), [], []⟩) rfl
  d__law_wide := c.def_ 14 (d := ⟨("_law_wide", none), "_law_wide", "_law_wide", defArgs (top 18), defBody (top 18), defScope (top 18), [], []⟩) rfl
  d__law_numbers := c.def_ 15 (d := ⟨("_law_numbers", none), "_law_numbers", "_law_numbers", defArgs (top 19), defBody (top 19), defScope (top 19), [], []⟩) rfl
  d__law_row_is := c.def_ 16 (d := ⟨("_law_row_is", none), "_law_row_is", "_law_row_is", defArgs (top 20), defBody (top 20), defScope (top 20), [], []⟩) rfl
  d__law_rows_are := c.def_ 17 (d := ⟨("_law_rows_are", none), "_law_rows_are", "_law_rows_are", defArgs (top 21), defBody (top 21), defScope (top 21), [], []⟩) rfl
  d__law_count_is := c.def_ 18 (d := ⟨("_law_count_is", none), "_law_count_is", "_law_count_is", defArgs (top 22), defBody (top 22), defScope (top 22), [], []⟩) rfl
  d__law_rows := c.def_ 19 (d := ⟨("_law_rows", none), "_law_rows", "_law_rows", defArgs (top 23), defBody (top 23), defScope (top 23), [], []⟩) rfl
  d__law_disk := c.def_ 20 (d := ⟨("_law_disk", none), "_law_disk", "_law_disk", defArgs (top 24), defBody (top 24), defScope (top 24), [], []⟩) rfl
  d__law_carried := c.def_ 21 (d := ⟨("_law_carried", none), "_law_carried", "_law_carried", defArgs (top 25), defBody (top 25), defScope (top 25), [], []⟩) rfl
  d__law_changes := c.def_ 22 (d := ⟨("_law_changes", none), "_law_changes", "_law_changes", defArgs (top 26), defBody (top 26), defScope (top 26), [], []⟩) rfl
  d__law_changed := c.def_ 23 (d := ⟨("_law_changed", none), "_law_changed", "_law_changed", defArgs (top 27), defBody (top 27), defScope (top 27), [], []⟩) rfl
  d__law_handed := c.def_ 24 (d := ⟨("_law_handed", none), "_law_handed", "_law_handed", defArgs (top 28), defBody (top 28), defScope (top 28), [], []⟩) rfl
  d__law_fell := c.def_ 25 (d := ⟨("_law_fell", none), "_law_fell", "_law_fell", defArgs (top 29), defBody (top 29), defScope (top 29), [], []⟩) rfl
  d__law_mended := c.def_ 26 (d := ⟨("_law_mended", none), "_law_mended", "_law_mended", defArgs (top 30), defBody (top 30), defScope (top 30), [], []⟩) rfl
  d__law_made := c.def_ 27 (d := ⟨("_law_made", none), "_law_made", "_law_made", defArgs (top 31), defBody (top 31), defScope (top 31), [], []⟩) rfl
  d__law_falls := c.def_ 28 (d := ⟨("_law_falls", none), "_law_falls", "_law_falls", defArgs (top 32), defBody (top 32), defScope (top 32), [], []⟩) rfl
  d__law_all_falls := c.def_ 29 (d := ⟨("_law_all_falls", none), "_law_all_falls", "_law_all_falls", defArgs (top 33), defBody (top 33), defScope (top 33), [], []⟩) rfl
  d_law := c.def_ 30 (d := ⟨("law", none), "law", "law", defArgs (top 34), defBody (top 34), defScope (top 34), [], []⟩) rfl
local macro_rules | `(tactic| walk_at "xf") => `(tactic| first | with_reducible exact Txt.e_NoBlock (by assumption) | with_reducible exact Txt.y_NoBlock_Fallen (by assumption) | with_reducible exact Txt.e_Fallen (by assumption) | with_reducible exact Txt.y_Fallen_Fallen (by assumption) | fail)
local macro_rules | `(tactic| walk_at "fact") => `(tactic| first | with_reducible exact Txt.c_Disk (by assumption) | with_reducible exact Txt.a_Disk_blocks (by assumption) | with_reducible exact Txt.a_Disk_done (by assumption) | with_reducible exact Txt.a_Disk_left (by assumption) | with_reducible exact Txt.a_Disk_down (by assumption) | fail)
/-! ### the walk's own lines -/
local macro_rules | `(tactic| walk_at "mem") => `(tactic| first | exact List.mem_cons_self | (apply List.mem_cons_of_mem; walk_at "mem") | (apply List.mem_append_right; walk_at "mem") | (apply List.mem_append_left; walk_at "mem"))
local macro_rules | `(tactic| walk_at "at") => `(tactic| first | exact At.here | (apply At.there; walk_at "at") | (apply At.app; walk_at "at") | (apply At.appl; walk_at "at"))
local macro_rules | `(tactic| walk_at "sub") => `(tactic| first | exact Sub.all | exact Sub.here | exact Sub.one | (apply Sub.there; walk_at "sub") | (apply Sub.appl; walk_at "sub") | (apply Sub.app; walk_at "sub"))
local macro_rules | `(tactic| walk_at "own") => `(tactic| first | assumption | ((with_reducible apply Own.wr2); (focus walk_at "own"); (focus walk_at "at"); rfl) | ((with_reducible apply Own.new); (focus walk_at "own"); assumption))
local macro_rules | `(tactic| walk_at "h") => `(tactic| first | assumption | (apply Own.get; (focus walk_at "own"); walk_at "mem") | (apply Own.fr0; (focus walk_at "own"); assumption) | (rename Own _ _ _ _ => otmp; clear otmp; walk_at "h"))
local macro_rules | `(tactic| walk_at "ar") => `(tactic| first | omega | (simp only [List.length_nil, List.length_cons, List.length_append, List.length_map, List.length_set, List.length_replicate, List.length_range]; omega))
/-- one premise -/
local macro_rules | `(tactic| walk_at "c") => `(tactic| first
  | with_reducible exact rfl
  | ((with_reducible apply sl_of); rfl)
  | ((with_reducible apply sc_of); rfl)
  | ((with_reducible apply lsq_of); rfl)
  | ((with_reducible apply wp_of); rfl)
  | ((with_reducible apply ln_of); rfl)
  | ((with_reducible apply veq_of); first | rfl | exact kl | exact kr)
  | ((with_reducible apply lk_of); rfl)
  | ((with_reducible apply lkn_of); rfl)
  | ((with_reducible apply lt_of); (first | decide | walk_at "ar" | ((repeat (with_reducible apply putF_lt)); walk_at "ar")))
  | ((with_reducible apply hp_of); walk_at "h")
  | ((with_reducible apply cd_of); first | exact ⟨by decide, by decide⟩ | exact ⟨by omega, by omega⟩)
  | ((with_reducible apply at_of); first | assumption | exact atI_nat (j := 0) rfl | exact atI_nat (j := 1) rfl | exact atI_nat (j := 2) rfl | exact atI_nat (j := 3) rfl | exact atI_nat (j := 4) rfl)
  | ((with_reducible apply ix_of); first | assumption | rfl)
  | ((with_reducible apply cp_of); exact ⟨by decide, by decide, by decide⟩)
  | ((with_reducible apply cmw_of); first | assumption | (unfold CMulW; decide +kernel))
  | ((with_reducible apply cm_l); first | exact ⟨by decide, by decide⟩ | exact ⟨by omega, by omega⟩)
  | ((with_reducible apply cm_r); first | exact ⟨by decide, by decide⟩ | exact ⟨by omega, by omega⟩)
  | walk_at "fact"
  | walk_at "kit"
  | walk_at "xf"
  | walk_at "col"
  | assumption)
local macro_rules | `(tactic| walk_at "prd") => `(tactic| first | exact Paired.nil | ((with_reducible apply Paired.cons); (focus walk_at "c"); walk_at "prd"))
local macro_rules | `(tactic| walk_at "kit") => `(tactic| first
  | (with_reducible exact Paired.nil) | ((with_reducible apply Paired.cons); (focus walk_at "c"); walk_at "prd") | ((with_reducible apply kit_any); walk_at "prd")
  | with_reducible exact ClsV.ty _ | with_reducible exact ClsV.own _
  | with_reducible exact kt_int_int | with_reducible exact kt_int_bool | with_reducible exact kt_bool_int | with_reducible exact kt_bool_bool | with_reducible exact kt_list_list | with_reducible exact kt_tuple_tuple | with_reducible exact kt_NoneType_tuple | with_reducible exact kt_str_str | with_reducible exact kt_NoneType_list | with_reducible exact kt_NoneType_int | with_reducible exact kt_NoneType_bool | with_reducible exact kt_NoneType_dict | with_reducible exact kt_NoneType_str | with_reducible exact kt_str_list | with_reducible exact kt_list_str | with_reducible exact kt_str_int | with_reducible exact kt_int_str | with_reducible exact kt_int_list | with_reducible exact kt_int_tuple | with_reducible exact kt_list_tuple | with_reducible exact kt_tuple_list | with_reducible exact kt_dict_dict | with_reducible exact kt_list_dict | with_reducible exact kt_dict_list | with_reducible exact kt_int_dict | with_reducible exact kt_str_bool | with_reducible exact kt_str_tuple | with_reducible exact kt_str_dict | with_reducible exact kt_list_int | with_reducible exact kt_list_bool | with_reducible exact kt_tuple_int | with_reducible exact kt_tuple_bool | with_reducible exact kt_tuple_str | with_reducible exact kt_tuple_dict
  | ((with_reducible apply TyX.base); first | with_reducible exact TyOf.non | with_reducible exact TyOf.bl _ | with_reducible exact TyOf.int _ | with_reducible exact TyOf.str _ | ((with_reducible apply TyOf.lst); walk_at "h") | ((with_reducible apply TyOf.tup); walk_at "h") | ((with_reducible apply TyOf.dK); walk_at "h")))
/-- lists, tuples, dicts, sizes -/
local macro_rules | `(tactic| walk_at "sq") => `(tactic| first | assumption | ((with_reducible apply SqL.of); walk_at "h") | ((with_reducible apply SqT.of); walk_at "h") | ((with_reducible apply Own.sq); (focus walk_at "own"); assumption))
local macro_rules | `(tactic| walk_at "col") => `(tactic| first
  | ((with_reducible apply SqL.of); walk_at "h") | ((with_reducible apply SqT.of); walk_at "h") | ((with_reducible apply Rd.of); walk_at "h")
  | ((with_reducible apply Own.sq); (focus walk_at "own"); assumption)
  | ((with_reducible apply col_ex2); walk_at "sq") | ((with_reducible apply col_ol2); walk_at "sq") | ((with_reducible apply col_or2); walk_at "sq")
  | ((with_reducible apply sz_le); first | decide | walk_at "ar")
  | ((with_reducible apply sz_lt); first | decide | walk_at "ar")
  | ((with_reducible apply isd_k); walk_at "h")
  | ((with_reducible apply dget_ii); (focus walk_at "h"); assumption) | ((with_reducible apply dget_is); (focus walk_at "h"); assumption)
  | ((with_reducible apply dget_i); walk_at "h") | ((with_reducible apply dget_s); walk_at "h")
  | ((with_reducible apply dput_i); (focus walk_at "h"); walk_at "ar") | ((with_reducible apply dput_s); (focus walk_at "h"); walk_at "ar")
  | (apply Or.inl; apply And.intro rfl; apply col_ex; walk_at "h")
  | (apply Or.inr; apply Or.inr; apply Or.inl; apply And.intro rfl; apply Or.inl; constructor; walk_at "h")
  | with_reducible exact all_flat _ | with_reducible exact all_flatS _ | ((with_reducible apply fl_of); rfl)
  | ((with_reducible apply pos_of); first | decide | assumption | omega | decide +kernel)
  | walk_at "ar")
/-- one step -/
local macro_rules | `(tactic| walk_at "s1") => `(tactic| first
  | (apply @Exists.intro V)
  | (apply @Exists.intro Addr)
  | (apply @Exists.intro Int)
  | (apply @Exists.intro (List V))
  | (apply @Exists.intro (List (Str × V)))
  | (apply @Exists.intro (List (Key × V)))
  | (apply @Exists.intro Key)
  | (apply @Exists.intro Bool)
  | (apply @Exists.intro Str)
  | (apply @Exists.intro Value)
  | (apply @Exists.intro (Option V))
  | (apply @Exists.intro (List Int)) | (apply @Exists.intro (List Bool)) | (apply @Exists.intro Obj) | (apply @Exists.intro (List Value)) | (apply @Exists.intro Hp)
  | (apply And.intro; (focus walk_at "c")))
local macro_rules | `(tactic| walk_at "s") => `(tactic| repeat walk_at "s1")
local macro_rules | `(tactic| walk_at "b") => `(tactic| (apply Box.mk; walk_at "s"))
/-! ## Disks: what they hold -/
structure Dk where
  dx : Addr
  bl : Addr
  bs : List Pg
  done : Int
  left : Option Int
  down : Bool
/-- a disk at p: its dict, the list of its blocks, the blocks -/
def cDk (K : PySem.W.Frag) (p : Addr) (d : Dk) : Cells :=
  (p, .ins (He.ga K "Disk") d.dx [("blocks", .ref d.bl), ("done", .int d.done), ("left", oV d.left), ("down", .bl d.down)]) :: (d.bl, .lst (d.bs.map fun x => V.ref x.1)) :: d.bs.map pcel
def nought : List Int := List.replicate 16 0
abbrev Dk.rows (d : Dk) : List (List Int) := d.bs.map (·.2)
abbrev Dk.has (d : Dk) (i : Int) : Prop := 0 ≤ i ∧ i < d.bs.length
abbrev Dk.falls (d : Dk) : Prop := d.down = true ∨ d.left = some 0
def sp_Disk___init__ (K : PySem.W.Frag) : Sp := sp2 fun self many H Q _ => ∃ (p dx : Addr) (n : Nat), self = .ref p ∧ many = .int n ∧ n ≤ 1000 ∧ Own H H [p] [(p, .ins (He.ga K "Disk") dx [])] ∧
  ∀ (H' : Hp) (bl : Addr) (bs : List Pg), Own H H' [p] (cDk K p ⟨dx, bl, bs, 0, none, false⟩) → bs.map (·.2) = List.replicate n nought → Q .non H'
def sp_Disk_look (K : PySem.W.Frag) : Sp := sp2 fun self page H Q E => ∃ p d i, self = .ref p ∧ page = .int i ∧ Own H H (adr (cDk K p d)) (cDk K p d) ∧ (d.has i → Q .non H) ∧ (¬ d.has i → E (.ref (He.ga K "NoBlock")) none H)
def sp_Disk_read (K : PySem.W.Frag) : Sp := sp2 fun self page H Q E => ∃ p d i, self = .ref p ∧ page = .int i ∧ d.bs.length ≤ 1000 ∧ Own H H (adr (cDk K p d)) (cDk K p d) ∧ (¬ d.has i → E (.ref (He.ga K "NoBlock")) none H) ∧ (d.has i → d.down = true → E (.ref (He.ga K "Fallen")) none H) ∧
  (d.has i → d.down = false → ∀ x, d.bs[i.toNat]? = some x → ∀ H' c, Own H H' [] [(c, .lst (x.2.map V.int))] → Q (.ref c) H')
def sp_Disk_write (K : PySem.W.Frag) : Sp := sp3 fun self page cells H Q E => ∃ p d i a ns, self = .ref p ∧ page = .int i ∧ cells = .ref a ∧ H a = some (.lst (ns.map V.int)) ∧ d.bs.length ≤ 1000 ∧ Own H H (adr (cDk K p d)) (cDk K p d) ∧ (¬ d.has i → E (.ref (He.ga K "NoBlock")) none H) ∧
  (d.has i → d.falls → ∀ H', Own H H' (adr (cDk K p d)) (cDk K p { d with down := true }) → E (.ref (He.ga K "Fallen")) none H') ∧
  (d.has i → ¬ d.falls → ∀ H' c, Own H H' (adr (cDk K p d)) (cDk K p ⟨d.dx, d.bl, d.bs.set i.toNat (c, ns), d.done + 1, d.left.map (· - 1), d.down⟩) → Q .non H')
def sp_Disk_writes (K : PySem.W.Frag) : Sp := sp1 fun self H Q _ => ∃ p d, self = .ref p ∧ Own H H (adr (cDk K p d)) (cDk K p d) ∧ Q (.int d.done) H
def sp_Disk_fall (K : PySem.W.Frag) : Sp := sp2 fun self after H Q _ => ∃ p d i, self = .ref p ∧ after = .int i ∧ Own H H (adr (cDk K p d)) (cDk K p d) ∧ ∀ H', Own H H' (adr (cDk K p d)) (cDk K p { d with left := some i }) → Q .non H'
def sp_Disk_rise (K : PySem.W.Frag) : Sp := sp1 fun self H Q _ => ∃ p d, self = .ref p ∧ Own H H (adr (cDk K p d)) (cDk K p d) ∧ ∀ H', Own H H' (adr (cDk K p d)) (cDk K p { d with left := none, down := false }) → Q .non H'
def sp_Disk_image (K : PySem.W.Frag) : Sp := sp1 fun self H Q _ => ∃ p d, self = .ref p ∧ d.bs.length ≤ 1000 ∧ Own H H (adr (cDk K p d)) (cDk K p d) ∧
  ∀ H' b (rs : List Pg), Own H H' [] ((b, .lst (rs.map fun x : Pg => V.ref x.1)) :: rs.map pcel) → rs.map (·.2) = d.rows → Q (.ref b) H'
theorem sc_Disk___init__ : FnScope ["self", "many", "block"] ["self", "many"] (defScope s_Disk___init__) := ⟨rfl, rfl, rfl, by decide +kernel, rfl, by decide +kernel, by decide +kernel⟩
theorem ok_Disk___init__ {P : Program} {w : World} {K : PySem.W.Frag} {mg : Str → Option Value} {base : Heap} (T : Txt K mg) : Cee P w K mg base 1 (He.fAd K ("Disk", some "__init__")) ["self", "many"] (sp_Disk___init__ K) := by
  refine cee_of T.d_Disk___init__ sc_Disk___init__ (fun _ _ _ _ _ _ us hl => match us, hl with | [_, _], _ => rfl) (fun vs H Q E h => sp2_len h) (fun cdv A outer s H vs Q E hr h => ⟨_, (pss_cons (ps_fld (pv 0) (pe_lc (own := [("block", 2)]) (by rfl) sc_Disk___init__.nd (PI.box (pi_range1 (by rfl) T.n_range (pa_cons (pv 1) pa_nil))) (blkOk_by (own := [("block", 2)]) (N := ["self", "many", "block"]) (sc := defScope s_Disk___init__) (by decide +kernel)) (fun _ _ _ _ _ => (pg_name (i := 2) sc_Disk___init__.nd rfl (Or.inl rfl))) (fun _ _ _ _ _ => pts_nil) (fun _ _ _ _ _ => (pe_op op_rep (pe_lst (pa_cons pe_int pa_nil)) (pe_gc (v := .int 16) rfl (gI T.g_BLOCK))))) rfl) (pss_cons (ps_fld (pv 0) pe_int rfl) (pss_cons (ps_fld (pv 0) pe_non rfl) (pss_one (ps_fld (pv 0) pe_bl rfl))))), ?_⟩)
  obtain ⟨v0, v1, rfl, h⟩ := h
  dsimp only [cxOf, L2.start]
  obtain ⟨p, dx, n, rfl, rfl, hn, O, k⟩ := h
  walk_at "s"
  refine lcR (lo := 0) (n := ((n : Nat) : Int).toNat) (fun D j H2 => ∃ cs : List Pg, cs.map (·.2) = List.replicate j nought ∧ Own H H2 [p] ((p, .ins (He.ga K "Disk") dx []) :: (D, .lst (cs.map fun x => V.ref x.1)) :: cs.map pcel)) ?_ ?_ ?_
  · intro D hD
    exact ⟨[], rfl, (O.new (o := .lst []) hD).perm (List.Perm.swap _ _ _)⟩
  · rintro D j H2 hj ⟨cs, hl, O5⟩
    have hlj := congrArg List.length hl
    rw [List.length_map, List.length_replicate] at hlj
    walk_at "s"
    intro c hc
    have O6 := O5.new (o := .lst [V.int 0]) hc
    have hsz : ([V.int 0] : List V).length * (16 : Int).toNat ≤ sizeLine := sz_le (by decide)
    walk_at "s"
    intro e he
    have O7 := O6.new (o := .lst (nought.map V.int)) he
    have hlen : (cs.map fun x : Pg => V.ref x.1).length < 100000 := by rw [List.length_map]; omega
    walk_at "s"
    refine ⟨cs ++ [(e, nought)], by rw [List.map_append, hl, List.replicate_succ']; rfl, ?_⟩
    have O8 := ((O7.drop (cs' := (e, .lst (nought.map V.int)) :: (p, .ins (He.ga K "Disk") dx []) :: (D, .lst (cs.map fun x => V.ref x.1)) :: cs.map pcel) (.cons₂ _ (.cons _ (.refl _)))).wr (o' := .lst ((cs.map fun x => V.ref x.1) ++ [.ref e])) (.there (.there .here))).last
    rw [List.map_append, List.map_append]
    exact O8
  · rintro D H2 ⟨cs, hl, O5⟩
    walk_at "s"
    exact k _ D cs (by walk_at "own") (by rw [hl, Int.toNat_natCast])
theorem sc_Disk_look : FnScope ["self", "n"] ["self", "n"] (defScope s_Disk_look) := ⟨rfl, rfl, rfl, by decide +kernel, rfl, by decide +kernel, by decide +kernel⟩
theorem ok_Disk_look {P : Program} {w : World} {K : PySem.W.Frag} {mg : Str → Option Value} {base : Heap} (T : Txt K mg) : Cee P w K mg base 1 (He.fAd K ("Disk", some "look")) ["self", "n"] (sp_Disk_look K) := by
  refine cee_of T.d_Disk_look sc_Disk_look (fun _ _ _ _ _ _ us hl => match us, hl with | [_, _], _ => rfl) (fun vs H Q E h => sp2_len h) (fun cdv A outer s H vs Q E hr h => ⟨_, (pss_one (ps_if (pt_not (pt_chain op_le op_lt pe_int (pv 1) (pe_callB call_len_seq (by rfl) T.n_len (by decide +kernel) (pa_cons (pe_fld (pv 0) rfl) pa_nil)))) (pss_one (ps_raise rfl (takes_of rfl rfl rfl rfl) (pmk_own PySem.F.excBase_ValueError T.x_NoBlock.1 T.g_NoBlock T.x_NoBlock.2.1 (raises_own T.x_NoBlock.2.2.1 T.x_NoBlock.2.2.2) rfl))) pss_nil)), ?_⟩)
  obtain ⟨v0, v1, rfl, h⟩ := h
  dsimp only [cxOf, L2.start]
  obtain ⟨p, d, i, rfl, rfl, O, k, e⟩ := h
  walk_at "s"
  refine if_d (fun h0 => ?_) (fun h0 => ?_)
  · walk_at "s"
    refine if_nd (fun h1 => ?_) (fun h1 => ?_)
    · exact e fun h => h1 (by rw [List.length_map]; exact h.2)
    · exact k ⟨h0, by rw [List.length_map] at h1; exact h1⟩
  · walk_at "s"
    exact e fun h => h0 h.1
theorem sc_Disk_read : FnScope ["self", "n"] ["self", "n"] (defScope s_Disk_read) := ⟨rfl, rfl, rfl, by decide +kernel, rfl, by decide +kernel, by decide +kernel⟩
theorem ok_Disk_read {P : Program} {w : World} {K : PySem.W.Frag} {mg : Str → Option Value} {base : Heap} (T : Txt K mg) : Cee P w K mg base 2 (He.fAd K ("Disk", some "read")) ["self", "n"] (sp_Disk_read K) := by
  have c_Disk_look : Cee P w K mg base 1 (He.fAd K ("Disk", some "look")) ["self", "n"] (sp_Disk_look K) := ok_Disk_look T
  refine cee_of T.d_Disk_read sc_Disk_read (fun _ _ _ _ _ _ us hl => match us, hl with | [_, _], _ => rfl) (fun vs H Q E h => sp2_len h) (fun cdv A outer s H vs Q E hr h => ⟨_, (pss_cons (ps_expr (pe_m (pv 0) T.c_Disk T.m_Disk_look c_Disk_look (hr.mono (by decide)) (takes_of rfl rfl rfl rfl) (pa_cons (pv 1) pa_nil))) (pss_cons (ps_if (pt_val (pe_fld (pv 0) rfl)) (pss_one (ps_raise rfl (takes_of rfl rfl rfl rfl) (pmk_own PySem.F.excBase_ValueError T.x_Fallen.1 T.g_Fallen T.x_Fallen.2.1 (raises_own T.x_Fallen.2.2.1 T.x_Fallen.2.2.2) rfl))) pss_nil) (pss_one (ps_ret (pe_callTy call_list_of (by rfl) T.n_list (by decide +kernel) (pa_cons (pe_ix ix_list (pe_fld (pv 0) rfl) (pv 1) (fun _ _ => rfl)) pa_nil)))))), ?_⟩)
  obtain ⟨v0, v1, rfl, h⟩ := h
  dsimp only [cxOf, L2.start]
  obtain ⟨p, d, i, rfl, rfl, hl, O, e1, e2, k⟩ := h
  walk_at "s"
  refine ask2 ⟨p, d, i, rfl, rfl, O, fun hi => ?_, e1⟩
  walk_at "s"
  refine if_b (fun hd => ?_) (fun hd => ?_)
  · exact e2 hi hd
  · obtain ⟨x, hx⟩ : ∃ x, d.bs[i.toNat]? = some x := ⟨d.bs[i.toNat]'(by omega), List.getElem?_eq_getElem (by omega)⟩
    have hm : (x.1, HO.lst (x.2.map V.int)) ∈ cDk K p d := .tail _ (.tail _ (List.mem_map.mpr ⟨x, List.mem_of_getElem? hx, rfl⟩))
    have hh := O.get hm
    have hat := atI_nat (xs := d.bs.map fun x : Pg => V.ref x.1) (j := i.toNat) (v := .ref x.1) (by rw [List.getElem?_map, hx]; rfl)
    rw [Int.toNat_of_nonneg hi.1] at hat
    walk_at "s"
    intro l hl2
    exact k hi hd x hx _ l (Own.start.new hl2)
theorem sc_Disk_write : FnScope ["self", "n", "numbers"] ["self", "n", "numbers"] (defScope s_Disk_write) := ⟨rfl, rfl, rfl, by decide +kernel, rfl, by decide +kernel, by decide +kernel⟩
theorem ok_Disk_write {P : Program} {w : World} {K : PySem.W.Frag} {mg : Str → Option Value} {base : Heap} (T : Txt K mg) : Cee P w K mg base 2 (He.fAd K ("Disk", some "write")) ["self", "n", "numbers"] (sp_Disk_write K) := by
  have c_Disk_look : Cee P w K mg base 1 (He.fAd K ("Disk", some "look")) ["self", "n"] (sp_Disk_look K) := ok_Disk_look T
  refine cee_of T.d_Disk_write sc_Disk_write (fun _ _ _ _ _ _ us hl => match us, hl with | [_, _, _], _ => rfl) (fun vs H Q E h => sp3_len h) (fun cdv A outer s H vs Q E hr h => ⟨_, (pss_cons (ps_expr (pe_m (pv 0) T.c_Disk T.m_Disk_look c_Disk_look (hr.mono (by decide)) (takes_of rfl rfl rfl rfl) (pa_cons (pv 1) pa_nil))) (pss_cons (PS.box (ps_if (PW.pt (pw_or (pt_val (pe_fld (pv 0) rfl)) (pw_or1 (pt_cmpR op_eq (pe_fld (pv 0) rfl) pe_int (nomark _))))) (pss_cons (ps_fld (pv 0) pe_bl rfl) (pss_one (ps_raise rfl (takes_of rfl rfl rfl rfl) (pmk_own PySem.F.excBase_ValueError T.x_Fallen.1 T.g_Fallen T.x_Fallen.2.1 (raises_own T.x_Fallen.2.2.1 T.x_Fallen.2.2.2) rfl)))) pss_nil)) (pss_cons (PS.box (ps_if (pt_cmpR op_notN (pe_fld (pv 0) rfl) pe_non (nomark _)) (pss_one (ps_fldaug (pv 0) pe_int in_sub)) pss_nil)) (pss_cons (ps_asg (pe_callTy call_list_of (by rfl) T.n_list (by decide +kernel) (pa_cons (pv 2) pa_nil)) (pg_sub (pe_fld (pv 0) rfl) (pv 1) set_list)) (pss_one (ps_fldaug (pv 0) pe_int in_add)))))), ?_⟩)
  obtain ⟨v0, v1, v2, rfl, h⟩ := h
  dsimp only [cxOf, L2.start]
  obtain ⟨p, d, i, a, ns, rfl, rfl, rfl, ha, hl, O, e1, e2, k⟩ := h
  walk_at "s"
  refine ask2 ⟨p, d, i, rfl, rfl, O, fun hi => ?_, e1⟩
  obtain ⟨dx, bl, bs, done, left, down⟩ := d
  obtain ⟨hi0, hi1⟩ := hi
  have hi : Dk.has ⟨dx, bl, bs, done, left, down⟩ i := ⟨hi0, hi1⟩
  dsimp only at hi1 hl
  have hx : ∃ x, bs[i.toNat]? = some x := ⟨bs[i.toNat]'(by omega), List.getElem?_eq_getElem _⟩
  obtain ⟨x, hx⟩ := hx
  have hix := ix_at (n := (bs.map fun x : Pg => V.ref x.1).length) (i := i.toNat) (by rw [List.length_map]; omega)
  rw [Int.toNat_of_nonneg hi0] at hix
  walk_at "s"
  apply Box.mk
  walk_at "s"
  refine if_b (fun hd => ?_) (fun hd => ?_)
  · walk_at "s"
    exact e2 hi (.inl hd) _ (by walk_at "own")
  · rcases left with _ | l
    · walk_at "s"
      refine if_f rfl ?_
      apply Box.mk
      walk_at "s"
      intro c hc
      have O1 := O.new (o := .lst (ns.map V.int)) hc
      walk_at "s"
      refine k hi (fun z => by rcases z with z | z; exact absurd (hd.symm.trans z) (by decide); cases z) _ c ?_
      have O3 := (O1.wr (o' := .lst ((bs.map fun x : Pg => V.ref x.1).set i.toNat (.ref c))) (.there (.there .here))).wr (o' := .ins (He.ga K "Disk") dx [("blocks", .ref bl), ("done", .int (done + 1)), ("left", .non), ("down", .bl down)]) (.there .here)
      refine (Own.put (g := pcel) (b := (c, ns)) (pre := [(p, .ins (He.ga K "Disk") dx [("blocks", .ref bl), ("done", .int (done + 1)), ("left", .non), ("down", .bl down)]), (bl, .lst ((bs.map fun x : Pg => V.ref x.1).set i.toNat (.ref c)))]) O3 hx).eq ?_
      rw [set_map (fun x : Pg => V.ref x.1) bs i.toNat (c, ns)]
      rfl
    · walk_at "s"
      refine if_ii (fun h0 => ?_) (fun h0 => ?_)
      · walk_at "s"
        exact e2 hi (.inr (by rw [h0])) _ (by walk_at "own")
      · apply Box.mk
        have hne : a ≠ p := fun z => by have h2 := O.get (.head _); rw [← z, ha] at h2; cases h2
        have ha1 : (upd H p (.ins (He.ga K "Disk") dx [("blocks", .ref bl), ("done", .int done), ("left", .int (l - 1)), ("down", .bl down)])) a = some (.lst (ns.map V.int)) := (upd_ne hne).trans ha
        walk_at "s"
        intro c hc
        have O1 := (O.wr (o' := .ins (He.ga K "Disk") dx [("blocks", .ref bl), ("done", .int done), ("left", .int (l - 1)), ("down", .bl down)]) .here).new (o := .lst (ns.map V.int)) hc
        walk_at "s"
        refine k hi (fun z => by rcases z with z | z; exact absurd (hd.symm.trans z) (by decide); exact h0 (Option.some.inj z)) _ c ?_
        have O3 := (O1.wr (o' := .lst ((bs.map fun x : Pg => V.ref x.1).set i.toNat (.ref c))) (.there (.there .here))).wr (o' := .ins (He.ga K "Disk") dx [("blocks", .ref bl), ("done", .int (done + 1)), ("left", .int (l - 1)), ("down", .bl down)]) (.there .here)
        refine (Own.put (g := pcel) (b := (c, ns)) (pre := [(p, .ins (He.ga K "Disk") dx [("blocks", .ref bl), ("done", .int (done + 1)), ("left", .int (l - 1)), ("down", .bl down)]), (bl, .lst ((bs.map fun x : Pg => V.ref x.1).set i.toNat (.ref c)))]) O3 hx).eq ?_
        rw [set_map (fun x : Pg => V.ref x.1) bs i.toNat (c, ns)]
        rfl
theorem sc_Disk_writes : FnScope ["self"] ["self"] (defScope s_Disk_writes) := ⟨rfl, rfl, rfl, by decide +kernel, rfl, by decide +kernel, by decide +kernel⟩
theorem ok_Disk_writes {P : Program} {w : World} {K : PySem.W.Frag} {mg : Str → Option Value} {base : Heap} (T : Txt K mg) : Cee P w K mg base 1 (He.fAd K ("Disk", some "writes")) ["self"] (sp_Disk_writes K) := by
  refine cee_of T.d_Disk_writes sc_Disk_writes (fun _ _ _ _ _ _ us hl => match us, hl with | [_], _ => rfl) (fun vs H Q E h => sp1_len h) (fun cdv A outer s H vs Q E hr h => ⟨_, (pss_one (ps_ret (pe_fld (pv 0) rfl))), ?_⟩)
  obtain ⟨v0, rfl, h⟩ := h
  dsimp only [cxOf, L2.start]
  obtain ⟨p, d, rfl, O, k⟩ := h
  walk_at "s"
  exact k
theorem sc_Disk_fall : FnScope ["self", "after"] ["self", "after"] (defScope s_Disk_fall) := ⟨rfl, rfl, rfl, by decide +kernel, rfl, by decide +kernel, by decide +kernel⟩
theorem ok_Disk_fall {P : Program} {w : World} {K : PySem.W.Frag} {mg : Str → Option Value} {base : Heap} (T : Txt K mg) : Cee P w K mg base 1 (He.fAd K ("Disk", some "fall")) ["self", "after"] (sp_Disk_fall K) := by
  refine cee_of T.d_Disk_fall sc_Disk_fall (fun _ _ _ _ _ _ us hl => match us, hl with | [_, _], _ => rfl) (fun vs H Q E h => sp2_len h) (fun cdv A outer s H vs Q E hr h => ⟨_, (pss_one (ps_fld (pv 0) (pv 1) rfl)), ?_⟩)
  obtain ⟨v0, v1, rfl, h⟩ := h
  dsimp only [cxOf, L2.start]
  obtain ⟨p, d, i, rfl, rfl, O, k⟩ := h
  walk_at "s"
  exact k _ (O.wr .here)
theorem sc_Disk_rise : FnScope ["self"] ["self"] (defScope s_Disk_rise) := ⟨rfl, rfl, rfl, by decide +kernel, rfl, by decide +kernel, by decide +kernel⟩
theorem ok_Disk_rise {P : Program} {w : World} {K : PySem.W.Frag} {mg : Str → Option Value} {base : Heap} (T : Txt K mg) : Cee P w K mg base 1 (He.fAd K ("Disk", some "rise")) ["self"] (sp_Disk_rise K) := by
  refine cee_of T.d_Disk_rise sc_Disk_rise (fun _ _ _ _ _ _ us hl => match us, hl with | [_], _ => rfl) (fun vs H Q E h => sp1_len h) (fun cdv A outer s H vs Q E hr h => ⟨_, (pss_cons (ps_fld (pv 0) pe_non rfl) (pss_one (ps_fld (pv 0) pe_bl rfl))), ?_⟩)
  obtain ⟨v0, rfl, h⟩ := h
  dsimp only [cxOf, L2.start]
  obtain ⟨p, d, rfl, O, k⟩ := h
  walk_at "s"
  exact k _ (by walk_at "own")
theorem sc_Disk_image : FnScope ["self", "block"] ["self"] (defScope s_Disk_image) := ⟨rfl, rfl, rfl, by decide +kernel, rfl, by decide +kernel, by decide +kernel⟩
theorem ok_Disk_image {P : Program} {w : World} {K : PySem.W.Frag} {mg : Str → Option Value} {base : Heap} (T : Txt K mg) : Cee P w K mg base 1 (He.fAd K ("Disk", some "image")) ["self"] (sp_Disk_image K) := by
  refine cee_of T.d_Disk_image sc_Disk_image (fun _ _ _ _ _ _ us hl => match us, hl with | [_], _ => rfl) (fun vs H Q E h => sp1_len h) (fun cdv A outer s H vs Q E hr h => ⟨_, (pss_one (ps_ret (pe_lc (own := [("block", 1)]) (by rfl) sc_Disk_image.nd (PI.box (pi_list (pe_fld (pv 0) rfl))) (blkOk_by (own := [("block", 1)]) (N := ["self", "block"]) (sc := defScope s_Disk_image) (by decide +kernel)) (fun _ _ _ _ _ => (pg_name (i := 1) sc_Disk_image.nd rfl (Or.inl rfl))) (fun _ _ _ _ _ => pts_nil) (fun _ _ _ _ _ => (pe_callTy (show CallR _ (.type "list") (rListOf K) from call_list_of) (by rfl) T.n_list (by decide +kernel) (pa_cons (pv 1) pa_nil)))))), ?_⟩)
  obtain ⟨v0, rfl, h⟩ := h
  dsimp only [cxOf, L2.start]
  obtain ⟨p, d, rfl, hl, O, k⟩ := h
  have hr := O.rows (rs := d.bs) fun r hr => .tail _ (.tail _ (List.mem_map.mpr ⟨r, hr, rfl⟩))
  walk_at "s"
  refine lcL (K := K) (a := d.bl) (xs := d.bs.map fun x : Pg => V.ref x.1) (fun D j H2 => ∃ rs : List Pg, rs.map (·.2) = (d.bs.take j).map (·.2) ∧ Own H H2 [] ((D, .lst (rs.map fun x => V.ref x.1)) :: rs.map pcel)) (fun D hD => ⟨[], rfl, (Own.start (H := H)).new hD⟩) (fun D j H2 _ ⟨_, _, O1⟩ => SqL.of (O1.fr0 (O.get (.tail _ (.head _))))) ?_ ?_
  · rintro D j x H2 hx ⟨rs, hrs, O1⟩
    obtain ⟨y, hy, rfl⟩ := refs_get hx
    have hyr := hr.mono O1 y (List.mem_of_getElem? hy)
    have hjl := (List.getElem?_eq_some_iff.mp hy).1
    have hrl := congrArg List.length hrs
    rw [List.length_map, List.length_map, List.length_take] at hrl
    walk_at "s"
    intro l hl2
    have O2 := O1.new (o := .lst (y.2.map V.int)) hl2
    have hlen : (rs.map fun x : Pg => V.ref x.1).length < 100000 := by rw [List.length_map]; omega
    walk_at "s"
    refine ⟨rs ++ [(l, y.2)], ?_, ?_⟩
    · rw [take_succ hy, List.map_append, List.map_append, hrs]; rfl
    · have O3 := (O2.wr (o' := .lst ((rs.map fun x : Pg => V.ref x.1) ++ [.ref l])) (.there .here)).last
      rw [List.map_append, List.map_append]
      exact O3
  · rintro D H2 ⟨rs, hrs, O1⟩
    rw [List.length_map, List.take_length] at hrs
    exact k _ D rs O1 hrs

/-! ## what the disk laws' own helpers promise -/
def sp__law_cell_at (K : PySem.W.Frag) : Sp := sp2 fun x k H Q _ => ∃ (a : Addr) (xs : List Int) (n : Int), x = .ref a ∧ k = .int n ∧ 0 ≤ n ∧ SqL K H a (xs.map V.int) ∧ Q (.int ((xs[n.toNat]?).getD 0)) H
def sp__law_mixed (K : PySem.W.Frag) : Sp := sp2 fun x k H Q _ => ∃ i j : Int, x = .int i ∧ k = .int j ∧ ∀ r, Q (.int r) H
def sp__law_wide (K : PySem.W.Frag) : Sp := sp2 fun x k H Q _ => ∃ (a : Addr) (xs : List Int) (n : Int), x = .ref a ∧ k = .int n ∧ 0 ≤ n ∧ SqL K H a (xs.map V.int) ∧ ∀ r, Q (.int r) H
def sp__law_numbers (K : PySem.W.Frag) : Sp := sp1 fun x H Q _ => ∃ i : Int, x = .int i ∧ ∀ H' a (ns : List Int), ns.length = 16 → Own H H' [] [(a, .lst (ns.map V.int))] → Q (.ref a) H'
def sp__law_row_is (K : PySem.W.Frag) : Sp := sp2 fun x y H Q _ => ∃ (a b : Addr) (ns ms : List Int), x = .ref a ∧ y = .ref b ∧ ns.length ≤ 1000 ∧ H a = some (.lst (ns.map V.int)) ∧ H b = some (.lst (ms.map V.int)) ∧ ∀ H', Own H H' [] [] → Q (.bl (decide (ns = ms))) H'
def sp__law_rows_are (K : PySem.W.Frag) : Sp := sp2 fun x y H Q _ => ∃ (a b : Addr) (rs ss : List Pg), x = .ref a ∧ y = .ref b ∧ rs.length ≤ 1000 ∧ (∀ r ∈ rs, r.2.length ≤ 1000) ∧ H a = some (.lst (rs.map fun x => V.ref x.1)) ∧ H b = some (.lst (ss.map fun x => V.ref x.1)) ∧ RowsAt H rs ∧ RowsAt H ss ∧ ∀ H', Own H H' [] [] → Q (.bl (decide (rs.map (·.2) = ss.map (·.2)))) H'
def sp__law_count_is (K : PySem.W.Frag) : Sp := sp2 fun x y H Q _ => ∃ (o : Option Int) (j : Int), x = oV o ∧ y = .int j ∧ Q (.bl (decide (o = some j))) H
theorem sc__law_cell_at : FnScope ["_law_script", "_law_k"] ["_law_script", "_law_k"] (defScope s__law_cell_at) := ⟨rfl, rfl, rfl, by decide +kernel, rfl, by decide +kernel, by decide +kernel⟩
theorem ok__law_cell_at {P : Program} {w : World} {K : PySem.W.Frag} {mg : Str → Option Value} {base : Heap} (T : Txt K mg) : Cee P w K mg base 1 (He.fAd K ("_law_cell_at", none)) ["_law_script", "_law_k"] (sp__law_cell_at K) := by
  refine cee_of T.d__law_cell_at sc__law_cell_at (fun _ _ _ _ _ _ us hl => match us, hl with | [_, _], _ => rfl) (fun vs H Q E h => sp2_len h) (fun cdv A outer s H vs Q E hr h => ⟨_, (pss_cons (ps_if (pt_cmpR op_lt (pv 1) (pe_callB call_len_seq (by rfl) T.n_len (by decide +kernel) (pa_cons (pv 0) pa_nil)) (nomark _)) (pss_one (ps_ret (pe_ix ix_list (pv 0) (pv 1) (fun _ _ => rfl)))) pss_nil) (pss_one (ps_ret pe_int))), ?_⟩)
  obtain ⟨v0, v1, rfl, h⟩ := h
  dsimp only [cxOf, L2.start]
  obtain ⟨a, xs, n, rfl, rfl, n0, ha, k⟩ := h
  walk_at "s"
  refine if_d (fun h => ?_) (fun h => ?_)
  · obtain ⟨y, hz, hy⟩ := at_ints n0 h
    walk_at "s"
    rw [hz] at k
    exact k
  · rw [List.getElem?_eq_none (by rw [List.length_map] at h; omega)] at k
    walk_at "s"
    exact k
theorem sc__law_mixed : FnScope ["_law_cell", "_law_k", "_law_once"] ["_law_cell", "_law_k"] (defScope s__law_mixed) := ⟨rfl, rfl, rfl, by decide +kernel, rfl, by decide +kernel, by decide +kernel⟩
theorem ok__law_mixed {P : Program} {w : World} {K : PySem.W.Frag} {mg : Str → Option Value} {base : Heap} (T : Txt K mg) : Cee P w K mg base 1 (He.fAd K ("_law_mixed", none)) ["_law_cell", "_law_k"] (sp__law_mixed K) := by
  refine cee_of T.d__law_mixed sc__law_mixed (fun _ _ _ _ _ _ us hl => match us, hl with | [_, _], _ => rfl) (fun vs H Q E h => sp2_len h) (fun cdv A outer s H vs Q E hr h => ⟨_, (pss_cons (ps_set (i := 2) sc__law_mixed.nd rfl (Or.inl rfl) (pe_op op_mod (pe_op op_mul (pe_op op_add (pe_op op_add (pe_op op_mul (pe_op op_mod (pv 0) pe_int) pe_int) (pe_op op_mul pe_int (pv 1))) pe_int) pe_int) pe_int)) (pss_one (ps_ret (pe_op op_fdiv (pe_op op_mod (pe_op op_mul (pv 2) (pe_op op_add (pe_op op_add (pe_op op_mod (pv 2) pe_int) (pv 1)) pe_int)) pe_int) pe_int)))), ?_⟩)
  obtain ⟨v0, v1, rfl, h⟩ := h
  dsimp only [cxOf, L2.start]
  obtain ⟨i, j, rfl, rfl, k⟩ := h
  walk_at "s"
  exact k _
theorem sc__law_wide : FnScope ["_law_script", "_law_k", "_law_cell", "_law_own", "_law_plain", "_law_number", "_law_j"] ["_law_script", "_law_k"] (defScope s__law_wide) := ⟨rfl, rfl, rfl, by decide +kernel, rfl, by decide +kernel, by decide +kernel⟩
theorem ok__law_wide {P : Program} {w : World} {K : PySem.W.Frag} {mg : Str → Option Value} {base : Heap} (T : Txt K mg) : Cee P w K mg base 2 (He.fAd K ("_law_wide", none)) ["_law_script", "_law_k"] (sp__law_wide K) := by
  have c__law_cell_at : Cee P w K mg base 1 (He.fAd K ("_law_cell_at", none)) ["_law_script", "_law_k"] (sp__law_cell_at K) := ok__law_cell_at T
  have c__law_mixed : Cee P w K mg base 1 (He.fAd K ("_law_mixed", none)) ["_law_cell", "_law_k"] (sp__law_mixed K) := ok__law_mixed T
  refine cee_of T.d__law_wide sc__law_wide (fun _ _ _ _ _ _ us hl => match us, hl with | [_, _], _ => rfl) (fun vs H Q E h => sp2_len h) (fun cdv A outer s H vs Q E hr h => ⟨_, (pss_cons (ps_set (i := 2) sc__law_wide.nd rfl (Or.inl rfl) (pe_f c__law_cell_at (hr.mono (by decide)) (takes_of rfl rfl rfl rfl) (by rfl) T.g__law_cell_at (pa_cons (pv 0) (pa_cons (pv 1) pa_nil)))) (pss_cons (ps_set (i := 3) sc__law_wide.nd rfl (Or.inl rfl) (pe_op op_mod (pe_callB call_abs (by rfl) T.n_abs (by decide +kernel) (pa_cons (pv 2) pa_nil)) (pe_op op_mulW (pe_op op_pow pe_int pe_int) (pe_op op_pow pe_int pe_int)))) (pss_cons (ps_set (i := 4) sc__law_wide.nd rfl (Or.inl rfl) (pe_cmpR op_eq (pe_op op_mod (pe_f c__law_cell_at (hr.mono (by decide)) (takes_of rfl rfl rfl rfl) (by rfl) T.g__law_cell_at (pa_cons (pv 0) (pa_cons pe_int pa_nil))) pe_int) pe_int (nomark _))) (pss_cons (PS.box (ps_if (PW.pt (pw_and (pt_val (pv 4)) (pw_and1 (pt_cmpR op_ge (pv 3) (pe_op op_pow pe_int pe_int) (nomark _))))) (pss_one (ps_ret (pv 3))) pss_nil)) (pss_cons (ps_set (i := 5) sc__law_wide.nd rfl (Or.inl rfl) pe_int) (pss_cons (ps_for (passes_of rfl) rfl (PI.box (pi_range1 (by rfl) T.n_range (pa_cons pe_int pa_nil))) (pg_name (i := 6) sc__law_wide.nd rfl (Or.inl rfl)) (pss_one (ps_set (i := 5) sc__law_wide.nd rfl (Or.inl rfl) (pe_op op_add (pe_op op_mul (pv 5) pe_int) (pe_op op_mod (pe_f c__law_mixed (hr.mono (by decide)) (takes_of rfl rfl rfl rfl) (by rfl) T.g__law_mixed (pa_cons (pv 2) (pa_cons (pe_op op_add (pe_op op_mul pe_int (pv 1)) (pv 6)) pa_nil))) pe_int))))) (pss_cons (ps_if (pt_val (pv 4)) (pss_one (ps_ret (pe_op op_add (pe_op op_mulW (pv 5) (pe_op op_pow pe_int pe_int)) (pv 3)))) pss_nil) (pss_one (ps_ret (pv 5)))))))))), ?_⟩)
  obtain ⟨v0, v1, rfl, h⟩ := h
  dsimp only [cxOf, L2.start]
  obtain ⟨a, xs, n, rfl, rfl, n0, ha, k⟩ := h
  walk_at "s"
  refine ask2 ⟨a, xs, n, rfl, rfl, n0, ha, ?_⟩
  walk_at "s"
  refine ask2 ⟨a, xs, 0, rfl, rfl, Int.le_refl _, ha, ?_⟩
  generalize (xs[n.toNat]?).getD 0 = c
  generalize (xs[(0 : Int).toNat]?).getD 0 = c0
  walk_at "s"
  refine cutS (fun σ' H2 => H2 = H ∧ ∃ (b : Bool), σ' = [some (.ref a), some (.int n), some (.int c), some (.int ((if c < 0 then -c else c) % (10 ^ (60 : Int).toNat * 10 ^ (60 : Int).toNat))), some (.bl b), none, none]) (fun nx hn => ?_) ?_
  · walk_at "s"
    refine if_b (fun h => ?_) (fun h => ?_)
    · walk_at "s"
      refine if_d (fun h2 => ?_) (fun h2 => ?_)
      · walk_at "s"
        exact k _
      · exact hn _ _ ⟨rfl, _, rfl⟩
    · exact hn _ _ ⟨rfl, _, rfl⟩
  rintro σ' H2 ⟨rfl, b, rfl⟩
  have ho : ∃ m : Int, 0 ≤ m ∧ (if c < 0 then -c else c) % (10 ^ (60 : Int).toNat * 10 ^ (60 : Int).toNat) = m := ⟨_, Int.emod_nonneg _ (by decide +kernel), rfl⟩
  obtain ⟨m, hm, e⟩ := ho
  rw [e]
  walk_at "s"
  refine forR (lo := 0) (n := 14) (fun j σ H' => ∃ (x : Int) (v6 : Option V), σ = [some (.ref a), some (.int n), some (.int c), some (.int m), some (.bl b), some (.int x), v6] ∧ 0 ≤ x ∧ x < 536870912 ^ j ∧ H' = H2) ⟨0, _, rfl, Int.le_refl _, by decide, rfl⟩ ?_ ?_
  · rintro j σ H' hj ⟨x, v6, rfl, x0, x1, rfl⟩
    walk_at "s"
    refine ask2 ⟨_, _, rfl, rfl, fun r => ?_⟩
    walk_at "s"
    refine ⟨_, _, rfl, by omega, ?_, rfl⟩
    rw [Int.pow_succ]
    have h2 := Int.emod_lt_of_pos r (b := 536870912) (by decide)
    have h3 : (x + 1) * 536870912 ≤ 536870912 ^ j * 536870912 := Int.mul_le_mul_of_nonneg_right (by omega) (by decide)
    omega
  · rintro σ H' ⟨x, v6, rfl, x0, x1, rfl⟩
    have hw : CMulW x (10 ^ (40 : Int).toNat) := wide_mul (a := 407) (b := 140) (wide_le (j := 536870912 ^ 14) x0 (Int.le_of_lt x1) (by decide +kernel)) (by decide +kernel) (by decide) (by decide) (by decide)
    walk_at "s"
    refine if_b (fun h => ?_) (fun h => ?_)
    · walk_at "s"
      exact k _
    · walk_at "s"
      exact k _
theorem sc__law_numbers : FnScope ["_law_number", "_law_base", "_law_row", "_law_place"] ["_law_number"] (defScope s__law_numbers) := ⟨rfl, rfl, rfl, by decide +kernel, rfl, by decide +kernel, by decide +kernel⟩
theorem ok__law_numbers {P : Program} {w : World} {K : PySem.W.Frag} {mg : Str → Option Value} {base : Heap} (T : Txt K mg) : Cee P w K mg base 1 (He.fAd K ("_law_numbers", none)) ["_law_number"] (sp__law_numbers K) := by
  refine cee_of T.d__law_numbers sc__law_numbers (fun _ _ _ _ _ _ us hl => match us, hl with | [_], _ => rfl) (fun vs H Q E h => sp1_len h) (fun cdv A outer s H vs Q E hr h => ⟨_, (pss_cons (ps_set (i := 1) sc__law_numbers.nd rfl (Or.inl rfl) (pe_ix ix_list (pe_lst (pa_cons pe_int (pa_cons pe_int (pa_cons pe_int pa_nil)))) (pe_op op_mod (pv 0) pe_int) (fun _ _ => rfl))) (pss_cons (ps_set (i := 0) sc__law_numbers.nd rfl (Or.inl rfl) (pe_op op_fdiv (pv 0) pe_int)) (pss_cons (ps_set (i := 2) sc__law_numbers.nd rfl (Or.inl rfl) (pe_lst pa_nil)) (pss_cons (ps_for (passes_of rfl) rfl (PI.box (pi_range1 (by rfl) T.n_range (pa_cons pe_int pa_nil))) (pg_name (i := 3) sc__law_numbers.nd rfl (Or.inl rfl)) (pss_cons (ps_expr (pe_bm PySem.F.plainAttrs_list PySem.F.slot_list_append PySem.F.type_list_append mt_append (pv 2) (pa_cons (pe_op op_mod (pv 0) (pv 1)) pa_nil))) (pss_one (ps_set (i := 0) sc__law_numbers.nd rfl (Or.inl rfl) (pe_op op_fdiv (pv 0) (pv 1)))))) (pss_one (ps_ret (pv 2))))))), ?_⟩)
  obtain ⟨v0, rfl, h⟩ := h
  dsimp only [cxOf, L2.start]
  obtain ⟨i, rfl, k⟩ := h
  walk_at "s"
  intro b hb
  have O0 := (Own.start (H := H)).new (o := .lst [V.int 2, V.int 256, V.int 65536]) hb
  obtain ⟨y, hy, hat⟩ := at_ints (ns := [2, 256, 65536]) (n := i % 3) (by omega) (by show _ < (3 : Int); omega)
  walk_at "s"
  intro a ha
  have O1 := (O0.new (o := .lst []) ha).drop (cs' := [(a, .lst [])]) (.cons₂ _ (.cons _ (.refl _)))
  walk_at "s"
  refine forR (lo := 0) (n := 16) (fun j σ H' => ∃ (m : Int) (v3 : Option V) (ns : List Int), σ = [some (.int m), some (.int y), some (.ref a), v3] ∧ ns.length = j ∧ Own H H' [] [(a, .lst (ns.map V.int))]) ⟨_, _, [], rfl, rfl, O1⟩ ?_ ?_
  · rintro j σ H' hj ⟨m, v3, ns, rfl, hl, O⟩
    have hy2 : 0 < y ∧ y < 1073741824 := by
      have h := List.mem_of_getElem? hy
      simp only [List.mem_cons, List.not_mem_nil, or_false] at h
      omega
    have hlen : (ns.map V.int).length < 100000 := by rw [List.length_map]; omega
    walk_at "s"
    refine ⟨_, _, ns ++ [m % y], rfl, by rw [List.length_append, hl]; rfl, ?_⟩
    rw [List.map_append]
    exact O.wr .here
  · rintro σ H' ⟨m, v3, ns, rfl, hl, O⟩
    walk_at "s"
    exact k _ a ns hl O
theorem sc__law_row_is : FnScope ["_law_found", "_law_due", "_law_one", "_law_other"] ["_law_found", "_law_due"] (defScope s__law_row_is) := ⟨rfl, rfl, rfl, by decide +kernel, rfl, by decide +kernel, by decide +kernel⟩
theorem ok__law_row_is {P : Program} {w : World} {K : PySem.W.Frag} {mg : Str → Option Value} {base : Heap} (T : Txt K mg) : Cee P w K mg base 1 (He.fAd K ("_law_row_is", none)) ["_law_found", "_law_due"] (sp__law_row_is K) := by
  refine cee_of T.d__law_row_is sc__law_row_is (fun _ _ _ _ _ _ us hl => match us, hl with | [_, _], _ => rfl) (fun vs H Q E h => sp2_len h) (fun cdv A outer s H vs Q E hr h => ⟨_, (pss_cons (PS.box (ps_if (PW.pt (pw_or (pt_not (pt_val (pe_callB call_isi (by rfl) T.n_isinstance (by decide +kernel) (pa_cons (pv 0) (pa_cons (pe_bltn (v := .ty "list") rfl T.n_list (by decide +kernel) rfl) pa_nil))))) (pw_or1 (pt_cmpR op_ne (pe_callB call_len_seq (by rfl) T.n_len (by decide +kernel) (pa_cons (pv 0) pa_nil)) (pe_callB call_len_seq (by rfl) T.n_len (by decide +kernel) (pa_cons (pv 1) pa_nil)) (nomark _))))) (pss_one (ps_ret pe_bl)) pss_nil)) (pss_one (ps_ret (pe_callB (cr_all rfl) (by rfl) T.n_all (by decide +kernel) (pa_cons (pe_lc (own := [("_law_one", 2), ("_law_other", 3)]) (by rfl) sc__law_row_is.nd (PI.box (pi_zip (by rfl) T.n_zip (pa_cons (pv 0) (pa_cons (pv 1) pa_nil)))) (blkOk_by (own := [("_law_one", 2), ("_law_other", 3)]) (N := ["_law_found", "_law_due", "_law_one", "_law_other"]) (sc := defScope s__law_row_is) (by decide +kernel)) (fun _ _ _ _ _ => (show PG _ _ (gTup K 2 (gCons (gName 2) (gCons (gName 3) gNil))) from (pg_tup rfl (pgs_cons (pg_name (i := 2) sc__law_row_is.nd rfl (Or.inl rfl)) (pgs_cons (pg_name (i := 3) sc__law_row_is.nd rfl (Or.inl rfl)) pgs_nil))))) (fun _ _ _ _ _ => pts_nil) (fun _ _ _ _ _ => (pe_and (pe_callB (show CallR _ (.builtin "isinstance") (rIsi K) from call_isi) (by rfl) T.n_isinstance (by decide +kernel) (pa_cons (pv 2) (pa_cons (pe_bltn (v := .ty "int") rfl T.n_int (by decide +kernel) rfl) pa_nil))) (pe_and (pe_not (pe_callB (show CallR _ (.builtin "isinstance") (rIsi K) from call_isi) (by rfl) T.n_isinstance (by decide +kernel) (pa_cons (pv 2) (pa_cons (pe_bltn (v := .ty "bool") rfl T.n_bool (by decide +kernel) rfl) pa_nil)))) (pe_one (pe_cmpR op_eq (pv 2) (pv 3) (nomark _))))))) pa_nil))))), ?_⟩)
  obtain ⟨v0, v1, rfl, h⟩ := h
  dsimp only [cxOf, L2.start]
  obtain ⟨a, b, ns, ms, rfl, rfl, hl, ha, hb, k⟩ := h
  walk_at "b"
  refine if_nii (fun h => ?_) (fun h => ?_)
  · walk_at "s"
    rw [decide_eq_false (fun z => h (by rw [z]))] at k
    exact k _ Own.start
  · have hlen : ns.length = ms.length := by simp only [List.length_map] at h; omega
    walk_at "s"
    refine lcW (walk_zip (K := K) (a := a) (b := b) (xs := ns.map V.int) (ys := ms.map V.int) (n := ns.length) (by simp only [List.length_map]; omega)) (fun D j H2 => Own H H2 [] [(D, .lst ((((ns.zip ms).take j).map fun p => decide (id p.1 = id p.2)).map V.bl))]) (fun D hD => Own.start.new hD) (fun D j H2 _ O => ⟨SqL.of (O.fr0 ha), SqL.of (O.fr0 hb)⟩) ?_ ?_
    · rintro D j x H2 H3 hj O ⟨T, u, v, rfl, hT, rfl, hu, hv⟩
      obtain ⟨x, hx, rfl⟩ := map_get hu
      obtain ⟨y, hy, rfl⟩ := map_get hv
      have O1 := O.newT (o := .tup [V.int x, V.int y]) hT
      have hT1 : (upd H2 T (.tup [V.int x, V.int y])) T = some (.tup [V.int x, V.int y]) := upd_same
      have hlz : (((((ns.zip ms).take j).map fun p => decide (id p.1 = id p.2))).map V.bl).length < 100000 := by simp only [List.length_map, List.length_take, List.length_zip]; omega
      walk_at "s"
      rw [take_succ (zip_at hx hy), List.map_append, List.map_append]
      have e : decide (V.int x = V.int y) = decide (id x = id y) := by simp
      rw [e]
      exact ⟨O1.wr .here⟩
    · rintro D H2 O
      rw [List.take_of_length_le (by rw [List.length_zip]; omega)] at O
      walk_at "s"
      rw [zip_all id id ns ms hlen, List.map_id, List.map_id]
      exact k _ (O.drop (List.nil_sublist _))
theorem sc__law_rows_are : FnScope ["_law_found", "_law_due", "_law_one", "_law_other"] ["_law_found", "_law_due"] (defScope s__law_rows_are) := ⟨rfl, rfl, rfl, by decide +kernel, rfl, by decide +kernel, by decide +kernel⟩
theorem ok__law_rows_are {P : Program} {w : World} {K : PySem.W.Frag} {mg : Str → Option Value} {base : Heap} (T : Txt K mg) : Cee P w K mg base 2 (He.fAd K ("_law_rows_are", none)) ["_law_found", "_law_due"] (sp__law_rows_are K) := by
  have c__law_row_is : Cee P w K mg base 1 (He.fAd K ("_law_row_is", none)) ["_law_found", "_law_due"] (sp__law_row_is K) := ok__law_row_is T
  refine cee_of T.d__law_rows_are sc__law_rows_are (fun _ _ _ _ _ _ us hl => match us, hl with | [_, _], _ => rfl) (fun vs H Q E h => sp2_len h) (fun cdv A outer s H vs Q E hr h => ⟨_, (pss_cons (PS.box (ps_if (PW.pt (pw_or (pt_not (pt_val (pe_callB call_isi (by rfl) T.n_isinstance (by decide +kernel) (pa_cons (pv 0) (pa_cons (pe_bltn (v := .ty "list") rfl T.n_list (by decide +kernel) rfl) pa_nil))))) (pw_or1 (pt_cmpR op_ne (pe_callB call_len_seq (by rfl) T.n_len (by decide +kernel) (pa_cons (pv 0) pa_nil)) (pe_callB call_len_seq (by rfl) T.n_len (by decide +kernel) (pa_cons (pv 1) pa_nil)) (nomark _))))) (pss_one (ps_ret pe_bl)) pss_nil)) (pss_one (ps_ret (pe_callB (cr_all rfl) (by rfl) T.n_all (by decide +kernel) (pa_cons (pe_lc (own := [("_law_one", 2), ("_law_other", 3)]) (by rfl) sc__law_rows_are.nd (PI.box (pi_zip (by rfl) T.n_zip (pa_cons (pv 0) (pa_cons (pv 1) pa_nil)))) (blkOk_by (own := [("_law_one", 2), ("_law_other", 3)]) (N := ["_law_found", "_law_due", "_law_one", "_law_other"]) (sc := defScope s__law_rows_are) (by decide +kernel)) (fun _ _ _ _ _ => (show PG _ _ (gTup K 2 (gCons (gName 2) (gCons (gName 3) gNil))) from (pg_tup rfl (pgs_cons (pg_name (i := 2) sc__law_rows_are.nd rfl (Or.inl rfl)) (pgs_cons (pg_name (i := 3) sc__law_rows_are.nd rfl (Or.inl rfl)) pgs_nil))))) (fun _ _ _ _ _ => pts_nil) (fun _ _ _ _ _ => (pe_f c__law_row_is (hr.mono (by decide)) takes0 (by rfl) T.g__law_row_is (pa_cons (pv 2) (pa_cons (pv 3) pa_nil))))) pa_nil))))), ?_⟩)
  obtain ⟨v0, v1, rfl, h⟩ := h
  dsimp only [cxOf, L2.start]
  obtain ⟨a, b, rs, ss, rfl, rfl, hl, hl2, ha, hb, hr, hs, k⟩ := h
  walk_at "b"
  refine if_nii (fun h => ?_) (fun h => ?_)
  · walk_at "s"
    rw [decide_eq_false (fun z => h (by have := congrArg List.length z; simp only [List.length_map] at this ⊢; rw [this]))] at k
    exact k _ Own.start
  · have hlen : rs.length = ss.length := by simp only [List.length_map] at h; omega
    walk_at "s"
    refine lcW (walk_zip (K := K) (a := a) (b := b) (xs := rs.map fun x : Pg => V.ref x.1) (ys := ss.map fun x : Pg => V.ref x.1) (n := rs.length) (by simp only [List.length_map]; omega)) (fun D j H2 => Own H H2 [] [(D, .lst ((((rs.zip ss).take j).map fun p => decide (p.1.2 = p.2.2)).map V.bl))]) (fun D hD => Own.start.new hD) (fun D j H2 _ O => ⟨SqL.of (O.fr0 ha), SqL.of (O.fr0 hb)⟩) ?_ ?_
    · rintro D j x H2 H3 hj O ⟨T, u, v, rfl, hT, rfl, hu, hv⟩
      obtain ⟨x, hx, rfl⟩ := refs_get hu
      obtain ⟨y, hy, rfl⟩ := refs_get hv
      have O1 := O.newT (o := .tup [V.ref x.1, V.ref y.1]) hT
      have hT1 : (upd H2 T (.tup [V.ref x.1, V.ref y.1])) T = some (.tup [V.ref x.1, V.ref y.1]) := upd_same
      have hlz : (((((rs.zip ss).take j).map fun p => decide (p.1.2 = p.2.2))).map V.bl).length < 100000 := by simp only [List.length_map, List.length_take, List.length_zip]; omega
      walk_at "s"
      refine ask2 ⟨x.1, y.1, x.2, y.2, rfl, rfl, hl2 x (List.mem_of_getElem? hx), O1.fr0 (hr x (List.mem_of_getElem? hx)), O1.fr0 (hs y (List.mem_of_getElem? hy)), fun H4 O2 => ?_⟩
      have O3 := O1.callN O2
      walk_at "s"
      rw [take_succ (zip_at hx hy), List.map_append, List.map_append]
      exact ⟨O3.wr .here⟩
    · rintro D H2 O
      rw [List.take_of_length_le (by rw [List.length_zip]; omega)] at O
      walk_at "s"
      rw [zip_all (fun x : Pg => x.2) (fun x : Pg => x.2) rs ss hlen]
      exact k _ (O.drop (List.nil_sublist _))
theorem sc__law_count_is : FnScope ["_law_found", "_law_due"] ["_law_found", "_law_due"] (defScope s__law_count_is) := ⟨rfl, rfl, rfl, by decide +kernel, rfl, by decide +kernel, by decide +kernel⟩
theorem ok__law_count_is {P : Program} {w : World} {K : PySem.W.Frag} {mg : Str → Option Value} {base : Heap} (T : Txt K mg) : Cee P w K mg base 1 (He.fAd K ("_law_count_is", none)) ["_law_found", "_law_due"] (sp__law_count_is K) := by
  refine cee_of T.d__law_count_is sc__law_count_is (fun _ _ _ _ _ _ us hl => match us, hl with | [_, _], _ => rfl) (fun vs H Q E h => sp2_len h) (fun cdv A outer s H vs Q E hr h => ⟨_, (pss_one (ps_ret (pe_and (pe_callB call_isi (by rfl) T.n_isinstance (by decide +kernel) (pa_cons (pv 0) (pa_cons (pe_bltn (v := .ty "int") rfl T.n_int (by decide +kernel) rfl) pa_nil))) (pe_and (pe_not (pe_callB call_isi (by rfl) T.n_isinstance (by decide +kernel) (pa_cons (pv 0) (pa_cons (pe_bltn (v := .ty "bool") rfl T.n_bool (by decide +kernel) rfl) pa_nil)))) (pe_one (pe_cmpR op_eq (pv 0) (pv 1) (nomark _))))))), ?_⟩)
  obtain ⟨v0, v1, rfl, h⟩ := h
  dsimp only [cxOf, L2.start]
  obtain ⟨o, j, rfl, rfl, k⟩ := h
  rcases o with _ | i <;> dsimp only [oV]
  · walk_at "s"
    refine if_f rfl ?_
    exact k
  · walk_at "s"
    rw [show decide (V.int i = V.int j) = decide (some i = some j) from eq_oV (o := some i)]
    exact k

/-! ## a disk without places -/
structure DS where
  rows : List (List Int)
  done : Int
  left : Option Int
  down : Bool
def Dk.abs (d : Dk) : DS := ⟨d.rows, d.done, d.left, d.down⟩
/-- a list of rows -/
def cLR (b : Addr) (rs : List Pg) : Cells := (b, .lst (rs.map fun x => V.ref x.1)) :: rs.map pcel

/-! ## rows of writes, without places -/
abbrev Wr := Nat × List Int
abbrev DS.falls (s : DS) : Prop := s.down = true ∨ s.left = some 0
def DS.fallen (s : DS) : DS := { s with down := true }
def DS.wr (s : DS) (w : Wr) : DS := ⟨s.rows.set w.1 w.2, s.done + 1, s.left.map (· - 1), s.down⟩
def runW (s : DS) : List Wr → DS × Bool
  | [] => (s, false)
  | w :: r => if s.falls then (s.fallen, true) else runW (s.wr w) r
theorem runW_app (s : DS) : ∀ (a b : List Wr), runW s (a ++ b) = if (runW s a).2 = true then runW s a else runW (runW s a).1 b := by
  intro a
  induction a generalizing s with
  | nil => intro b; rfl
  | cons w r ih =>
    intro b
    have e : ∀ l, runW s (w :: l) = if s.falls then (s.fallen, true) else runW (s.wr w) l := fun _ => rfl
    rw [List.cons_append, e, e]
    by_cases h : s.falls
    · rw [if_pos h, if_pos h]; rfl
    · rw [if_neg h, if_neg h]; exact ih _ b
theorem runW_go {s t : DS} {a b : List Wr} (h : runW s a = (t, false)) : runW s (a ++ b) = runW t b := by rw [runW_app, h]; rfl
theorem runW_stop {s t : DS} {a b : List Wr} (h : runW s a = (t, true)) : runW s (a ++ b) = (t, true) := by rw [runW_app, h]; rfl
theorem runW_one {s : DS} {w : Wr} (h : ¬ s.falls) : runW s [w] = (s.wr w, false) := by unfold runW; rw [if_neg h]; rfl
theorem runW_fall {s : DS} {w : Wr} {r : List Wr} (h : s.falls) : runW s (w :: r) = (s.fallen, true) := by unfold runW; rw [if_pos h]
theorem runW_len (s : DS) (a : List Wr) : (runW s a).1.rows.length = s.rows.length := by
  induction a generalizing s with
  | nil => rfl
  | cons w r ih =>
    unfold runW
    by_cases h : s.falls
    · rw [if_pos h]; rfl
    · rw [if_neg h, ih]; exact List.length_set
theorem runW_up {s t : DS} {a : List Wr} (h : runW s a = (t, false)) (hd : s.down = false) : t.down = false := by
  induction a generalizing s with
  | nil => cases h; exact hd
  | cons w r ih =>
    unfold runW at h
    by_cases hf : s.falls
    · rw [if_pos hf] at h; cases h
    · rw [if_neg hf] at h; exact ih h hd
/-- a block that no write names stays -/
theorem runW_at (s : DS) (a : List Wr) (i : Nat) (h : ∀ w ∈ a, w.1 ≠ i) : (runW s a).1.rows[i]? = s.rows[i]? := by
  induction a generalizing s with
  | nil => rfl
  | cons w r ih =>
    unfold runW
    by_cases hf : s.falls
    · rw [if_pos hf]; rfl
    · rw [if_neg hf, ih (s.wr w) fun w hw => h w (.tail _ hw)]
      exact List.getElem?_set_ne (h w (.head _))
/-- what is sent home -/
def sendW (rows : List (List Int)) (hs : List Int) : List Wr := hs.zipIdx.map fun x => (x.1.toNat, (rows[3 + x.2]?).getD [])
def pad (m : Int) : List Int := m :: List.replicate 15 0
theorem sendW_len (rows : List (List Int)) (hs : List Int) : (sendW rows hs).length = hs.length := by unfold sendW; rw [List.length_map, List.length_zipIdx]
theorem sendW_at {rows : List (List Int)} {hs : List Int} {i : Nat} {h : Int} (hi : hs[i]? = some h) : (sendW rows hs)[i]? = some (h.toNat, (rows[3 + i]?).getD []) := by
  unfold sendW
  rw [List.getElem?_map, List.getElem?_zipIdx, hi, Nat.zero_add]
  rfl
theorem Dk.lenr (d : Dk) : d.abs.rows.length = d.bs.length := List.length_map _
theorem Dk.at_row {d : Dk} {i : Nat} {x : Pg} (h : d.bs[i]? = some x) : d.abs.rows[i]? = some x.2 := by
  show (d.bs.map (·.2))[i]? = _
  rw [List.getElem?_map, h]; rfl
/-- a disk's write, in these words -/
theorem Dk.wr_abs (d : Dk) (i : Nat) (c : Addr) (ns : List Int) : (Dk.mk d.dx d.bl (d.bs.set i (c, ns)) (d.done + 1) (d.left.map (· - 1)) d.down).abs = d.abs.wr (i, ns) := by
  show (⟨(d.bs.set i (c, ns)).map (·.2), _, _, _⟩ : DS) = _
  rw [List.map_set]
  rfl
def sp_send_home (K : PySem.W.Frag) : Sp := sp2 fun x y H Q E => ∃ (p h : Addr) (d : Dk) (hs : List Int), x = .ref p ∧ y = .ref h ∧ hs.length ≤ 24 ∧ (∀ z ∈ hs, 27 ≤ z ∧ z < d.bs.length) ∧ 28 ≤ d.bs.length ∧ d.bs.length ≤ 1000 ∧ d.down = false ∧ H h = some (.lst (hs.map V.int)) ∧ h ∉ adr (cDk K p d) ∧ Own H H (adr (cDk K p d)) (cDk K p d) ∧
  (∀ (H' : Hp) (d' : Dk), Own H H' (adr (cDk K p d)) (cDk K p d') → runW d.abs (sendW d.abs.rows hs) = (d'.abs, false) → Q .non H') ∧
  (∀ (H' : Hp) (d' : Dk), Own H H' (adr (cDk K p d)) (cDk K p d') → runW d.abs (sendW d.abs.rows hs) = (d'.abs, true) → E (.ref (He.ga K "Fallen")) none H')
def sp_mark (K : PySem.W.Frag) : Sp := sp2 fun x y H Q E => ∃ (p : Addr) (d : Dk) (m : Int), x = .ref p ∧ y = .int m ∧ 28 ≤ d.bs.length ∧ d.bs.length ≤ 1000 ∧ Own H H (adr (cDk K p d)) (cDk K p d) ∧
  (∀ (H' : Hp) (d' : Dk), Own H H' (adr (cDk K p d)) (cDk K p d') → runW d.abs [(0, pad m)] = (d'.abs, false) → Q .non H') ∧
  (∀ (H' : Hp) (d' : Dk), Own H H' (adr (cDk K p d)) (cDk K p d') → runW d.abs [(0, pad m)] = (d'.abs, true) → E (.ref (He.ga K "Fallen")) none H')
theorem runW_next {s t : DS} {W : List Wr} {j : Nat} {w : Wr} (h : runW s (W.take j) = (t, false)) (hw : W[j]? = some w) : (t.falls → runW s W = (t.fallen, true)) ∧ (¬ t.falls → runW s (W.take (j + 1)) = (t.wr w, false)) := by
  refine ⟨fun hf => ?_, fun hf => ?_⟩
  · conv => lhs; rw [at_split hw]
    rw [runW_go h, runW_fall hf]
  · rw [take_succ hw, runW_go h, runW_one hf]
theorem Own.out {H0 H : Hp} {A : List Addr} {cs : Cells} {b : Addr} {o : HO} (O : Own H0 H A cs) (h : H0 b = some o) (hb : b ∉ A) : H b = some o := O.fr b o h hb
theorem sc_send_home : FnScope ["disk", "homes", "place", "home"] ["disk", "homes"] (defScope s_send_home) := ⟨rfl, rfl, rfl, by decide +kernel, rfl, by decide +kernel, by decide +kernel⟩
theorem ok_send_home {P : Program} {w : World} {K : PySem.W.Frag} {mg : Str → Option Value} {base : Heap} (T : Txt K mg) : Cee P w K mg base 3 (He.fAd K ("send_home", none)) ["disk", "homes"] (sp_send_home K) := by
  have c_Disk_write : Cee P w K mg base 2 (He.fAd K ("Disk", some "write")) ["self", "n", "numbers"] (sp_Disk_write K) := ok_Disk_write T
  have c_Disk_read : Cee P w K mg base 2 (He.fAd K ("Disk", some "read")) ["self", "n"] (sp_Disk_read K) := ok_Disk_read T
  refine cee_of T.d_send_home sc_send_home (fun _ _ _ _ _ _ us hl => match us, hl with | [_, _], _ => rfl) (fun vs H Q E h => sp2_len h) (fun cdv A outer s H vs Q E hr h => ⟨_, (pss_one (ps_for (passes_of rfl) rfl (PI.box (pi_enum (by rfl) T.n_enumerate (pa_cons (pv 1) pa_nil))) (pg_tup rfl (pgs_cons (pg_name (i := 2) sc_send_home.nd rfl (Or.inl rfl)) (pgs_cons (pg_name (i := 3) sc_send_home.nd rfl (Or.inl rfl)) pgs_nil))) (pss_one (ps_expr (pe_m (pv 0) T.c_Disk T.m_Disk_write c_Disk_write (hr.mono (by decide)) (takes_of rfl rfl rfl rfl) (pa_cons (pv 3) (pa_cons (pe_m (pv 0) T.c_Disk T.m_Disk_read c_Disk_read (hr.mono (by decide)) (takes_of rfl rfl rfl rfl) (pa_cons (pe_op op_add (pe_gc (v := .int 3) rfl (gI T.g_COPIES)) (pv 2)) pa_nil)) pa_nil))))))), ?_⟩)
  obtain ⟨v0, v1, rfl, h⟩ := h
  dsimp only [cxOf, L2.start]
  obtain ⟨p, h, d, hs, rfl, rfl, hl, hr, hb0, hb1, hd, hh, hnp, O, k, e⟩ := h
  walk_at "s"
  refine forW (walk_enum (K := K) (a := h) (xs := hs.map V.int)) (fun j σ H' => ∃ (d' : Dk) (v2 v3 : Option V), σ = [some (.ref p), some (.ref h), v2, v3] ∧ Own H H' (adr (cDk K p d)) (cDk K p d') ∧ runW d.abs ((sendW d.abs.rows hs).take j) = (d'.abs, false)) ⟨d, _, _, rfl, O, rfl⟩ (fun j σ H' _ ⟨_, _, _, _, O', _⟩ => SqL.of (O'.out hh hnp)) ?_ ?_
  · rintro j x σ H' H2 hj ⟨d', v2, v3, rfl, O', hrun⟩ ⟨T, u, v, rfl, hT, rfl, hu, hv⟩
    cases hu
    obtain ⟨z, hz, rfl⟩ := map_get hv
    have O2 := O'.newT (o := .tup [V.int j, V.int z]) hT
    have hT1 : (upd H' T (.tup [V.int j, V.int z])) T = some (.tup [V.int j, V.int z]) := upd_same
    have hlen : d'.bs.length = d.bs.length := by rw [← Dk.lenr, ← Dk.lenr, ← show (runW d.abs ((sendW d.abs.rows hs).take j)).1 = d'.abs by rw [hrun]]; exact runW_len _ _
    have hup : d'.down = false := runW_up hrun hd
    have hjl : j < hs.length := (List.getElem?_eq_some_iff.mp hz).1
    obtain ⟨z0, z1⟩ := hr z (List.mem_of_getElem? hz)
    obtain ⟨b, hb⟩ : ∃ b, d'.bs[3 + j]? = some b := ⟨d'.bs[3 + j]'(by omega), List.getElem?_eq_getElem _⟩
    have hsame : d.abs.rows[3 + j]? = some b.2 := by
      rw [← Dk.at_row hb, ← show (runW d.abs ((sendW d.abs.rows hs).take j)).1 = d'.abs by rw [hrun]]
      refine (runW_at _ _ _ fun w hw => ?_).symm
      have hw2 := List.mem_of_mem_take hw
      unfold sendW at hw2
      obtain ⟨y, hy, rfl⟩ := List.mem_map.mp hw2
      have := (hr y.1 (List.fst_mem_of_mem_zipIdx hy)).1
      dsimp only
      omega
    obtain ⟨n1, n2⟩ := runW_next hrun (sendW_at (rows := d.abs.rows) hz)
    rw [hsame] at n2
    walk_at "s"
    refine ask2 ⟨p, d', _, rfl, rfl, by omega, O2.self, fun w => absurd ⟨by omega, by omega⟩ w, fun _ w => absurd (hup.symm.trans w) (by decide), fun _ _ x hx H3 c O3 => ?_⟩
    rw [show (3 + (j : Int)).toNat = 3 + j by omega, hb] at hx
    cases hx
    have O4 := O2.callN O3
    walk_at "s"
    refine ask3 ⟨p, d', z, c, b.2, rfl, rfl, rfl, O4.get (.head _), by omega, O4.blk (s' := []) (.there .all), fun w => absurd ⟨by omega, by omega⟩ w, fun _ hf H5 O5 => ?_, fun _ hf H5 c5 O5 => ?_⟩
    · exact e _ _ ((O4.call (.there .all) O5).drop (.cons _ (.refl _))) (n1 hf)
    · walk_at "s"
      refine ⟨_, _, _, rfl, (O4.call (.there .all) O5).drop (.cons _ (.refl _)), ?_⟩
      rw [n2 hf, Dk.wr_abs]
      rfl
  · rintro σ H' ⟨d', v2, v3, rfl, O', hrun⟩
    rw [List.length_map, ← sendW_len d.abs.rows hs, List.take_length] at hrun
    exact k _ _ O' hrun
theorem sc_mark : FnScope ["disk", "many"] ["disk", "many"] (defScope s_mark) := ⟨rfl, rfl, rfl, by decide +kernel, rfl, by decide +kernel, by decide +kernel⟩
theorem ok_mark {P : Program} {w : World} {K : PySem.W.Frag} {mg : Str → Option Value} {base : Heap} (T : Txt K mg) : Cee P w K mg base 3 (He.fAd K ("mark", none)) ["disk", "many"] (sp_mark K) := by
  have c_Disk_write : Cee P w K mg base 2 (He.fAd K ("Disk", some "write")) ["self", "n", "numbers"] (sp_Disk_write K) := ok_Disk_write T
  refine cee_of T.d_mark sc_mark (fun _ _ _ _ _ _ us hl => match us, hl with | [_, _], _ => rfl) (fun vs H Q E h => sp2_len h) (fun cdv A outer s H vs Q E hr h => ⟨_, (pss_one (ps_expr (pe_m (pv 0) T.c_Disk T.m_Disk_write c_Disk_write (hr.mono (by decide)) (takes_of rfl rfl rfl rfl) (pa_cons (pe_gc (v := .int 0) rfl (gI T.g_MARK)) (pa_cons (pe_op op_cat (pe_lst (pa_cons (pv 1) pa_nil)) (pe_op op_rep (pe_lst (pa_cons pe_int pa_nil)) pe_int)) pa_nil))))), ?_⟩)
  obtain ⟨v0, v1, rfl, h⟩ := h
  dsimp only [cxOf, L2.start]
  obtain ⟨p, d, m, rfl, rfl, hb0, hb1, O, k, e⟩ := h
  walk_at "s"
  intro l1 h1
  have O1 := O.new (o := .lst [.int m]) h1
  walk_at "s"
  intro l2 h2
  have O2 := O1.new (o := .lst [.int 0]) h2
  have hsz : ([V.int 0] : List V).length * (15 : Int).toNat ≤ sizeLine := sz_le (by decide)
  walk_at "s"
  intro l3 h3
  rw [show (List.replicate (15 : Int).toNat [V.int 0]).flatten = (List.replicate 15 (0 : Int)).map V.int from rfl]
  have O3 := O2.new (o := .lst ((List.replicate 15 (0 : Int)).map V.int)) h3
  have hsz2 : ([V.int m] ++ (List.replicate 15 (0 : Int)).map V.int).length ≤ 100000 := by simp
  walk_at "s"
  intro l4 h4
  have O4 := O3.new (o := .lst ((pad m).map V.int)) h4
  refine ask3 ⟨p, d, 0, l4, pad m, rfl, rfl, rfl, O4.get (.head _), by omega, O4.blk (s' := []) (.there (.there (.there (.there .all)))), fun w => absurd ⟨by omega, by omega⟩ w, fun _ hf H5 O5 => ?_, fun _ hf H5 c5 O5 => ?_⟩
  · exact e _ _ ((O4.call (.there (.there (.there (.there .all)))) O5).drop (.cons _ (.cons _ (.cons _ (.cons _ (.refl _)))))) (runW_fall hf)
  · refine k _ _ ((O4.call (.there (.there (.there (.there .all)))) O5).drop (.cons _ (.cons _ (.cons _ (.cons _ (.refl _)))))) ?_
    rw [Dk.wr_abs]
    exact runW_one hf
/-- the writes of a commit of the blocks hs, rising, to the rows f -/
def copyW (hs : List Int) (f : Int → List Int) : List Wr := hs.zipIdx.map fun x => (3 + x.2, f x.1)
def row32 (hs : List Int) : List Int := hs ++ List.replicate 32 0
def commitW (hs : List Int) (f : Int → List Int) : List Wr :=
  copyW hs f ++ ([(1, (row32 hs).take 16)] ++ ([(2, ((row32 hs).drop 16).take 16)] ++ ([(0, pad hs.length)] ++ (hs.map (fun h => (h.toNat, f h)) ++ [(0, pad 0)]))))
def sp_commit (K : PySem.W.Frag) : Sp := sp2 fun x y H Q E => ∃ (p c : Addr) (d : Dk) (kvs : List (Key × V)) (ks : List Int) (f : Int → List Int), x = .ref p ∧ y = .ref c ∧ ks.length ≤ 24 ∧ (∀ z ∈ ks, 28 ≤ z ∧ z < d.bs.length) ∧ 28 ≤ d.bs.length ∧ d.bs.length ≤ 1000 ∧ d.down = false ∧ H c = some (.dK kvs) ∧ kvs.map (·.1) = ks.map Sum.inl ∧
  (∀ z ∈ ks, ∃ a, valV kvs (Sum.inl z) = some (.ref a) ∧ a ∉ adr (cDk K p d) ∧ H a = some (.lst ((f z).map V.int))) ∧ c ∉ adr (cDk K p d) ∧ Own H H (adr (cDk K p d)) (cDk K p d) ∧
  (∀ (H' : Hp) (d' : Dk) (hs : List Int), hs.Perm ks → hs.Pairwise (· ≤ ·) → Own H H' (adr (cDk K p d)) (cDk K p d') → runW d.abs (commitW hs f) = (d'.abs, false) → Q .non H') ∧
  (∀ (H' : Hp) (d' : Dk) (hs : List Int), hs.Perm ks → hs.Pairwise (· ≤ ·) → Own H H' (adr (cDk K p d)) (cDk K p d') → runW d.abs (commitW hs f) = (d'.abs, true) → E (.ref (He.ga K "Fallen")) none H')
/-- the writes of a recover -/
def recovW (rows : List (List Int)) (m : Nat) : List Wr := sendW rows (((rows[1]?).getD [] ++ (rows[2]?).getD []).take m) ++ [(0, pad 0)]
/-- the mark of a disk -/
def markOf (s : DS) : Int := (((s.rows[0]?).getD [])[0]?).getD 0
/-- rows of sixteen; where there is a mark, the blocks that it names are none of the journal's -/
structure JOk (s : DS) : Prop where
  len : 28 ≤ s.rows.length
  few : s.rows.length ≤ 1000
  wide : ∀ r ∈ s.rows, r.length = 16
  m0 : 0 ≤ markOf s
  m1 : markOf s ≤ 24
  homes : ∀ z : Int, z ∈ ((s.rows[1]?).getD [] ++ (s.rows[2]?).getD []).take (markOf s).toNat → 28 ≤ z ∧ z < s.rows.length
def sp_recover (K : PySem.W.Frag) : Sp := sp1 fun x H Q E => ∃ (p : Addr) (d : Dk), x = .ref p ∧ JOk d.abs ∧ d.down = false ∧ Own H H (adr (cDk K p d)) (cDk K p d) ∧
  (markOf d.abs = 0 → ∀ H', Own H H' [] [] → Q (.int 0) H') ∧
  (markOf d.abs ≠ 0 → ∀ (H' : Hp) (d' : Dk), Own H H' (adr (cDk K p d)) (cDk K p d') → runW d.abs (recovW d.abs.rows (markOf d.abs).toNat) = (d'.abs, false) → Q (.int (markOf d.abs)) H') ∧
  (markOf d.abs ≠ 0 → ∀ (H' : Hp) (d' : Dk), Own H H' (adr (cDk K p d)) (cDk K p d') → runW d.abs (recovW d.abs.rows (markOf d.abs).toNat) = (d'.abs, true) → E (.ref (He.ga K "Fallen")) none H')
theorem runW_lenEq {s t : DS} {a : List Wr} {b : Bool} (h : runW s a = (t, b)) : t.rows.length = s.rows.length := by
  have := runW_len s a
  rw [h] at this
  exact this
theorem copyW_at {hs : List Int} {f : Int → List Int} {i : Nat} {h : Int} (hi : hs[i]? = some h) : (copyW hs f)[i]? = some (3 + i, f h) := by
  unfold copyW
  rw [List.getElem?_map, List.getElem?_zipIdx, hi, Nat.zero_add]
  rfl
theorem copyW_len (hs : List Int) (f : Int → List Int) : (copyW hs f).length = hs.length := by unfold copyW; rw [List.length_map, List.length_zipIdx]
theorem runW_wrote {s t : DS} {a : List Wr} (h : runW s a = (t, false)) (nd : (a.map (·.1)).Nodup) : ∀ w ∈ a, w.1 < s.rows.length → t.rows[w.1]? = some w.2 := by
  induction a generalizing s with
  | nil => intro w hw; cases hw
  | cons v r ih =>
    have e : runW s (v :: r) = if s.falls then (s.fallen, true) else runW (s.wr v) r := rfl
    rw [e] at h
    by_cases hf : s.falls
    · rw [if_pos hf] at h; cases h
    · rw [if_neg hf] at h
      rw [List.map_cons] at nd
      obtain ⟨n1, n2⟩ := List.nodup_cons.mp nd
      intro w hw hl
      rcases List.mem_cons.mp hw with rfl | hw
      · rw [← show (runW (s.wr w) r).1 = t by rw [h], runW_at _ _ _ fun u hu z => n1 (List.mem_map.mpr ⟨u, hu, z⟩)]
        exact List.getElem?_set_self hl
      · exact ih h n2 w hw (by show w.1 < (s.rows.set _ _).length; rw [List.length_set]; exact hl)
theorem copyW_fst (hs : List Int) (f : Int → List Int) : (copyW hs f).map (·.1) = (List.range hs.length).map (3 + ·) := by
  refine List.ext_getElem? fun i => ?_
  rw [List.getElem?_map, List.getElem?_map]
  by_cases h : i < hs.length
  · rw [copyW_at (List.getElem?_eq_getElem h), List.getElem?_range h]; rfl
  · rw [List.getElem?_eq_none (by rw [copyW_len]; omega), List.getElem?_eq_none (by rw [List.length_range]; omega)]; rfl
theorem copyW_nd (hs : List Int) (f : Int → List Int) : ((copyW hs f).map (·.1)).Nodup := by
  rw [copyW_fst]
  exact List.Pairwise.map _ (fun a b h => by omega) List.nodup_range
/-- where the copies stand, what is sent home is what is due -/
theorem sendW_due {rows : List (List Int)} {hs : List Int} {f : Int → List Int} (h : ∀ i z, hs[i]? = some z → rows[3 + i]? = some (f z)) : sendW rows hs = hs.map fun z => (z.toNat, f z) := by
  refine List.ext_getElem? fun i => ?_
  by_cases hi : i < hs.length
  · have e := List.getElem?_eq_getElem hi
    rw [sendW_at e, h i _ e, List.getElem?_map, e]; rfl
  · rw [List.getElem?_eq_none (by rw [sendW_len]; omega), List.getElem?_eq_none (by rw [List.length_map]; omega)]
theorem sc_commit : FnScope ["disk", "changes", "homes", "place", "home", "row"] ["disk", "changes"] (defScope s_commit) := ⟨rfl, rfl, rfl, by decide +kernel, rfl, by decide +kernel, by decide +kernel⟩
theorem ok_commit {P : Program} {w : World} {K : PySem.W.Frag} {mg : Str → Option Value} {base : Heap} (T : Txt K mg) : Cee P w K mg base 4 (He.fAd K ("commit", none)) ["disk", "changes"] (sp_commit K) := by
  have c_Disk_write : Cee P w K mg base 2 (He.fAd K ("Disk", some "write")) ["self", "n", "numbers"] (sp_Disk_write K) := ok_Disk_write T
  have c_mark : Cee P w K mg base 3 (He.fAd K ("mark", none)) ["disk", "many"] (sp_mark K) := ok_mark T
  have c_send_home : Cee P w K mg base 3 (He.fAd K ("send_home", none)) ["disk", "homes"] (sp_send_home K) := ok_send_home T
  refine cee_of T.d_commit sc_commit (fun _ _ _ _ _ _ us hl => match us, hl with | [_, _], _ => rfl) (fun vs H Q E h => sp2_len h) (fun cdv A outer s H vs Q E hr h => ⟨_, (pss_cons (ps_set (i := 2) sc_commit.nd rfl (Or.inl rfl) (pe_callB (call_sortedDI rfl) (by rfl) T.n_sorted (by decide +kernel) (pa_cons (pv 1) pa_nil))) (pss_cons (ps_for (passes_of rfl) rfl (PI.box (pi_enum (by rfl) T.n_enumerate (pa_cons (pv 2) pa_nil))) (pg_tup rfl (pgs_cons (pg_name (i := 3) sc_commit.nd rfl (Or.inl rfl)) (pgs_cons (pg_name (i := 4) sc_commit.nd rfl (Or.inl rfl)) pgs_nil))) (pss_one (ps_expr (pe_m (pv 0) T.c_Disk T.m_Disk_write c_Disk_write (hr.mono (by decide)) (takes_of rfl rfl rfl rfl) (pa_cons (pe_op op_add (pe_gc (v := .int 3) rfl (gI T.g_COPIES)) (pv 3)) (pa_cons (pe_dget (hu_of hr) (pv 1) (pv 4) (fun _ _ => rfl)) pa_nil)))))) (pss_cons (ps_set (i := 5) sc_commit.nd rfl (Or.inl rfl) (pe_op op_cat (pv 2) (pe_op op_rep (pe_lst (pa_cons pe_int pa_nil)) pe_int))) (pss_cons (ps_expr (pe_m (pv 0) T.c_Disk T.m_Disk_write c_Disk_write (hr.mono (by decide)) (takes_of rfl rfl rfl rfl) (pa_cons (pe_gc (v := .int 1) rfl (gI T.g_HOMES)) (pa_cons (pe_slice sl_list (pv 5) po_none (po_some pe_int)) pa_nil)))) (pss_cons (ps_expr (pe_m (pv 0) T.c_Disk T.m_Disk_write c_Disk_write (hr.mono (by decide)) (takes_of rfl rfl rfl rfl) (pa_cons (pe_op op_add (pe_gc (v := .int 1) rfl (gI T.g_HOMES)) pe_int) (pa_cons (pe_slice sl_list (pv 5) (po_some pe_int) (po_some pe_int)) pa_nil)))) (pss_cons (ps_expr (pe_f c_mark (hr.mono (by decide)) (takes_of rfl rfl rfl rfl) (by rfl) T.g_mark (pa_cons (pv 0) (pa_cons (pe_callB call_len_seq (by rfl) T.n_len (by decide +kernel) (pa_cons (pv 2) pa_nil)) pa_nil)))) (pss_cons (ps_expr (pe_f c_send_home (hr.mono (by decide)) (takes_of rfl rfl rfl rfl) (by rfl) T.g_send_home (pa_cons (pv 0) (pa_cons (pv 2) pa_nil)))) (pss_one (ps_expr (pe_f c_mark (hr.mono (by decide)) (takes_of rfl rfl rfl rfl) (by rfl) T.g_mark (pa_cons (pv 0) (pa_cons pe_int pa_nil)))))))))))), ?_⟩)
  obtain ⟨v0, v1, rfl, h⟩ := h
  dsimp only [cxOf, L2.start]
  obtain ⟨p, c, d, kvs, ks, f, rfl, rfl, hl, hr, hb0, hb1, hd, hc, hks, hrow, hcn, O, k, e⟩ := h
  have hl64 : ks.length < 64 := by omega
  walk_at "s"
  intro hs s hperm hsort hs0
  have k2 := fun H' d' => k H' d' hs hperm hsort
  have e2 := fun H' d' => e H' d' hs hperm hsort
  have hsl : hs.length ≤ 24 := by rw [hperm.length_eq]; exact hl
  have hsr : ∀ z ∈ hs, 28 ≤ z ∧ z < d.bs.length := fun z hz => hr z (hperm.mem_iff.mp hz)
  have hsrow : ∀ z ∈ hs, ∃ a, valV kvs (Sum.inl z) = some (.ref a) ∧ a ∉ adr (cDk K p d) ∧ H a = some (.lst ((f z).map V.int)) := fun z hz => hrow z (hperm.mem_iff.mp hz)
  have O1 := O.new (o := .lst (hs.map V.int)) hs0
  clear k e
  walk_at "s"
  refine forW (walk_enum (K := K) (a := s) (xs := hs.map V.int)) (fun j σ H' => ∃ (d' : Dk) (v3 v4 v5 : Option V), σ = [some (.ref p), some (.ref c), some (.ref s), v3, v4, v5] ∧ Own H H' (adr (cDk K p d)) ((s, .lst (hs.map V.int)) :: cDk K p d') ∧ runW d.abs ((copyW hs f).take j) = (d'.abs, false)) ⟨d, _, _, _, rfl, O1, rfl⟩ (fun j σ H' _ ⟨_, _, _, _, _, O', _⟩ => SqL.of (O'.get (.head _))) ?_ ?_
  · rintro j x σ H' H2 hj ⟨d', v3, v4, v5, rfl, O', hrun⟩ ⟨T, u, v, rfl, hT, rfl, hu, hv⟩
    cases hu
    obtain ⟨z, hz, rfl⟩ := map_get hv
    have O2 := O'.newT (o := .tup [V.int j, V.int z]) hT
    have hT1 : (upd H' T (.tup [V.int j, V.int z])) T = some (.tup [V.int j, V.int z]) := upd_same
    have hlen : d'.bs.length = d.bs.length := by rw [← Dk.lenr, ← Dk.lenr]; exact runW_lenEq hrun
    have hjl : j < hs.length := (List.getElem?_eq_some_iff.mp hz).1
    obtain ⟨a, ha, hna, hah⟩ := hsrow z (List.mem_of_getElem? hz)
    have hc2 := O2.out hc hcn
    have ha2 := O2.out hah hna
    obtain ⟨n1, n2⟩ := runW_next hrun (copyW_at (f := f) hz)
    walk_at "s"
    refine ask3 ⟨p, d', 3 + j, a, f z, rfl, rfl, rfl, ha2, by omega, O2.blk (s' := []) (.there .all), fun w => absurd ⟨by omega, by omega⟩ w, fun _ hf H5 O5 => ?_, fun _ hf H5 c5 O5 => ?_⟩
    · refine e2 _ _ ((O2.call (.there .all) O5).drop (.cons _ (.refl _))) ?_
      unfold commitW
      exact runW_stop (n1 hf)
    · walk_at "s"
      refine ⟨_, _, _, _, rfl, O2.call (.there .all) O5, ?_⟩
      rw [n2 hf, Dk.wr_abs, show (3 + (j : Int)).toNat = 3 + j by omega]
  rintro σ H' ⟨d1, v3, v4, v5, rfl, O2, R1⟩
  rw [List.length_map, ← copyW_len hs f, List.take_length] at R1
  have l1 : d1.bs.length = d.bs.length := by rw [← Dk.lenr, ← Dk.lenr]; exact runW_lenEq R1
  clear O O1
  walk_at "s"
  intro t1 ht1
  have O3 := O2.new (o := .lst [.int 0]) ht1
  have hsz : ([V.int 0] : List V).length * (32 : Int).toNat ≤ sizeLine := sz_le (by decide)
  walk_at "s"
  intro t2 ht2
  rw [show (List.replicate (32 : Int).toNat [V.int 0]).flatten = (List.replicate 32 (0 : Int)).map V.int from rfl]
  have O4 := O3.new (o := .lst ((List.replicate 32 (0 : Int)).map V.int)) ht2
  walk_at "s"
  intro t3 ht3
  rw [show hs.map V.int ++ (List.replicate 32 (0 : Int)).map V.int = (row32 hs).map V.int by rw [row32, List.map_append]]
  have O5 := (O4.new (o := .lst ((row32 hs).map V.int)) ht3).drop (cs' := (t3, .lst ((row32 hs).map V.int)) :: (s, .lst (hs.map V.int)) :: cDk K p d1) (.cons₂ _ (.cons _ (.cons _ (.refl _))))
  have h32 : 32 ≤ ((row32 hs).map V.int).length := by rw [List.length_map, row32, List.length_append, List.length_replicate]; omega
  clear O2 O3 O4
  walk_at "s"
  intro t4 ht4
  rw [show cutV ((row32 hs).map V.int) none (some 16) = ((row32 hs).take 16).map V.int by rw [List.map_take]; exact cutV_to _ 16]
  have O6 := O5.new (o := .lst (((row32 hs).take 16).map V.int)) ht4
  walk_at "s"
  refine ask3 ⟨p, d1, 1, t4, _, rfl, rfl, rfl, O6.get (.head _), by omega, O6.blk (s' := []) (.there (.there (.there .all))), fun w => absurd ⟨by omega, by omega⟩ w, fun _ hf H7 O7 => ?_, fun _ hf H7 c7 O7 => ?_⟩
  · refine e2 _ _ ((O6.call (.there (.there (.there .all))) O7).drop (.cons _ (.cons _ (.cons _ (.refl _))))) ?_
    unfold commitW
    rw [runW_go R1]
    exact runW_fall hf
  have R2 := runW_one (s := d1.abs) (w := (1, (row32 hs).take 16)) hf
  have O8 := (O6.call (.there (.there (.there .all))) O7).drop (.cons _ (.refl _))
  rw [← Dk.wr_abs d1 1 c7] at R2
  rw [show (1 : Int).toNat = 1 from rfl] at O8
  generalize (⟨d1.dx, d1.bl, d1.bs.set 1 (c7, (row32 hs).take 16), d1.done + 1, d1.left.map (· - 1), d1.down⟩ : Dk) = d2 at O8 R2
  have l2 : d2.bs.length = d.bs.length := by rw [← l1, ← Dk.lenr, ← Dk.lenr]; exact runW_lenEq R2
  clear O5 O6 O7
  walk_at "s"
  intro t5 ht5
  rw [show cutV ((row32 hs).map V.int) (some 16) (some 32) = (((row32 hs).drop 16).take 16).map V.int by rw [List.map_take, List.map_drop]; exact cutV_mid _ 16 32 (by decide) h32]
  have O6 := O8.new (o := .lst ((((row32 hs).drop 16).take 16).map V.int)) ht5
  walk_at "s"
  refine ask3 ⟨p, d2, 2, t5, _, rfl, rfl, rfl, O6.get (.head _), by omega, O6.blk (s' := []) (.there (.there (.there .all))), fun w => absurd ⟨by omega, by omega⟩ w, fun _ hf H7 O7 => ?_, fun _ hf H7 c7 O7 => ?_⟩
  · refine e2 _ _ ((O6.call (.there (.there (.there .all))) O7).drop (.cons _ (.cons _ (.cons _ (.refl _))))) ?_
    unfold commitW
    rw [runW_go R1, runW_go R2]
    exact runW_fall hf
  have R3 := runW_one (s := d2.abs) (w := (2, ((row32 hs).drop 16).take 16)) hf
  have O9 := (O6.call (.there (.there (.there .all))) O7).drop (.cons _ (.cons _ (.refl _)))
  rw [← Dk.wr_abs d2 2 c7] at R3
  rw [show (2 : Int).toNat = 2 from rfl] at O9
  generalize (⟨d2.dx, d2.bl, d2.bs.set 2 (c7, ((row32 hs).drop 16).take 16), d2.done + 1, d2.left.map (· - 1), d2.down⟩ : Dk) = d3 at O9 R3
  have l3 : d3.bs.length = d.bs.length := by rw [← l2, ← Dk.lenr, ← Dk.lenr]; exact runW_lenEq R3
  clear O6 O7 O8
  walk_at "s"
  refine ask2 ⟨p, d3, hs.length, rfl, by rw [List.length_map], by omega, by omega, O9.blk (s' := []) (.there .all), fun H10 d4 O10 R4 => ?_, fun H10 d4 O10 R4 => ?_⟩
  · have O11 := O9.call (.there .all) O10
    have l4 : d4.bs.length = d.bs.length := by rw [← l3, ← Dk.lenr, ← Dk.lenr]; exact runW_lenEq R4
    have hup : d4.down = false := runW_up R4 (runW_up R3 (runW_up R2 (runW_up R1 hd)))
    have hdue : sendW d4.abs.rows hs = hs.map fun z => (z.toNat, f z) := sendW_due fun i z hz => by
      have hil := (List.getElem?_eq_some_iff.mp hz).1
      have w0 := runW_wrote R1 (copyW_nd hs f) (3 + i, f z) (List.mem_of_getElem? (copyW_at hz)) (by rw [Dk.lenr]; show 3 + i < _; omega)
      rw [← show (runW d3.abs [(0, pad hs.length)]).1 = d4.abs by rw [R4], runW_at _ _ _ (by intro w hw; rw [List.mem_singleton.mp hw]; show 0 ≠ 3 + i; omega),
        ← show (runW d2.abs [(2, ((row32 hs).drop 16).take 16)]).1 = d3.abs by rw [R3], runW_at _ _ _ (by intro w hw; rw [List.mem_singleton.mp hw]; show 2 ≠ 3 + i; omega),
        ← show (runW d1.abs [(1, (row32 hs).take 16)]).1 = d2.abs by rw [R2], runW_at _ _ _ (by intro w hw; rw [List.mem_singleton.mp hw]; show 1 ≠ 3 + i; omega)]
      exact w0
    have hsn : s ∉ adr (cDk K p d4) := (List.nodup_cons.mp O11.nd).1
    walk_at "s"
    refine ask2 ⟨p, s, d4, hs, rfl, rfl, hsl, fun z hz => ⟨by have := (hsr z hz).1; omega, by rw [l4]; exact (hsr z hz).2⟩, by omega, by omega, hup, O11.get (.head _), hsn, O11.blk (s' := []) (.there .all), fun H12 d5 O12 R5 => ?_, fun H12 d5 O12 R5 => ?_⟩ <;> rw [hdue] at R5
    · have O13 := O11.call (.there .all) O12
      have l5 : d5.bs.length = d.bs.length := by rw [← l4, ← Dk.lenr, ← Dk.lenr]; exact runW_lenEq R5
      walk_at "s"
      refine ask2 ⟨p, d5, 0, rfl, rfl, by omega, by omega, O13.blk (s' := []) (.there .all), fun H14 d6 O14 R6 => ?_, fun H14 d6 O14 R6 => ?_⟩
      · refine k2 _ _ ((O13.call (.there .all) O14).drop (.cons _ (.refl _))) ?_
        unfold commitW
        rw [runW_go R1, runW_go R2, runW_go R3, runW_go R4, runW_go R5]
        exact R6
      · refine e2 _ _ ((O13.call (.there .all) O14).drop (.cons _ (.refl _))) ?_
        unfold commitW
        rw [runW_go R1, runW_go R2, runW_go R3, runW_go R4, runW_go R5]
        exact R6
    · refine e2 _ _ ((O11.call (.there .all) O12).drop (.cons _ (.refl _))) ?_
      unfold commitW
      rw [runW_go R1, runW_go R2, runW_go R3, runW_go R4]
      exact runW_stop R5
  · refine e2 _ _ ((O9.call (.there .all) O10).drop (.cons _ (.refl _))) ?_
    unfold commitW
    rw [runW_go R1, runW_go R2, runW_go R3]
    exact runW_stop R4
theorem sc_recover : FnScope ["disk", "many", "homes"] ["disk"] (defScope s_recover) := ⟨rfl, rfl, rfl, by decide +kernel, rfl, by decide +kernel, by decide +kernel⟩
theorem ok_recover {P : Program} {w : World} {K : PySem.W.Frag} {mg : Str → Option Value} {base : Heap} (T : Txt K mg) : Cee P w K mg base 4 (He.fAd K ("recover", none)) ["disk"] (sp_recover K) := by
  have c_Disk_read : Cee P w K mg base 2 (He.fAd K ("Disk", some "read")) ["self", "n"] (sp_Disk_read K) := ok_Disk_read T
  have c_send_home : Cee P w K mg base 3 (He.fAd K ("send_home", none)) ["disk", "homes"] (sp_send_home K) := ok_send_home T
  have c_mark : Cee P w K mg base 3 (He.fAd K ("mark", none)) ["disk", "many"] (sp_mark K) := ok_mark T
  refine cee_of T.d_recover sc_recover (fun _ _ _ _ _ _ us hl => match us, hl with | [_], _ => rfl) (fun vs H Q E h => sp1_len h) (fun cdv A outer s H vs Q E hr h => ⟨_, (pss_cons (ps_set (i := 1) sc_recover.nd rfl (Or.inl rfl) (pe_ix ix_list (pe_m (pv 0) T.c_Disk T.m_Disk_read c_Disk_read (hr.mono (by decide)) (takes_of rfl rfl rfl rfl) (pa_cons (pe_gc (v := .int 0) rfl (gI T.g_MARK)) pa_nil)) pe_int (fun _ _ => rfl))) (pss_cons (PS.box (ps_if (pt_cmpR op_gt (pv 1) pe_int (nomark _)) (pss_cons (ps_set (i := 2) sc_recover.nd rfl (Or.inl rfl) (pe_op op_cat (pe_m (pv 0) T.c_Disk T.m_Disk_read c_Disk_read (hr.mono (by decide)) (takes_of rfl rfl rfl rfl) (pa_cons (pe_gc (v := .int 1) rfl (gI T.g_HOMES)) pa_nil)) (pe_m (pv 0) T.c_Disk T.m_Disk_read c_Disk_read (hr.mono (by decide)) (takes_of rfl rfl rfl rfl) (pa_cons (pe_op op_add (pe_gc (v := .int 1) rfl (gI T.g_HOMES)) pe_int) pa_nil)))) (pss_cons (ps_expr (pe_f c_send_home (hr.mono (by decide)) (takes_of rfl rfl rfl rfl) (by rfl) T.g_send_home (pa_cons (pv 0) (pa_cons (pe_slice sl_list (pv 2) po_none (po_some (pv 1))) pa_nil)))) (pss_one (ps_expr (pe_f c_mark (hr.mono (by decide)) (takes_of rfl rfl rfl rfl) (by rfl) T.g_mark (pa_cons (pv 0) (pa_cons pe_int pa_nil))))))) pss_nil)) (pss_one (ps_ret (pv 1))))), ?_⟩)
  obtain ⟨v0, rfl, h⟩ := h
  dsimp only [cxOf, L2.start]
  obtain ⟨p, d, rfl, J, hd, O, k0, k, e⟩ := h
  have hlen : d.bs.length = d.abs.rows.length := d.lenr.symm
  have hJ0 := J.len
  have hJ1 := J.few
  obtain ⟨b0, hb0⟩ : ∃ b, d.bs[0]? = some b := ⟨d.bs[0]'(by omega), List.getElem?_eq_getElem _⟩
  obtain ⟨b1, hb1⟩ : ∃ b, d.bs[1]? = some b := ⟨d.bs[1]'(by omega), List.getElem?_eq_getElem _⟩
  obtain ⟨b2, hb2⟩ : ∃ b, d.bs[2]? = some b := ⟨d.bs[2]'(by omega), List.getElem?_eq_getElem _⟩
  have w0 := J.wide b0.2 (List.mem_of_getElem? (Dk.at_row hb0))
  have w1 := J.wide b1.2 (List.mem_of_getElem? (Dk.at_row hb1))
  have w2 := J.wide b2.2 (List.mem_of_getElem? (Dk.at_row hb2))
  obtain ⟨m, hm⟩ : ∃ m, b0.2[0]? = some m := ⟨b0.2[0]'(by omega), List.getElem?_eq_getElem _⟩
  have hmark : markOf d.abs = m := by unfold markOf; rw [Dk.at_row hb0]; show ((b0.2)[0]?).getD 0 = m; rw [hm]; rfl
  have hm0 := J.m0
  have hm1 := J.m1
  rw [hmark] at k0 k e hm0 hm1
  have hat : atI (b0.2.map V.int) 0 = some (.int m) := atI_nat (j := 0) (by rw [List.getElem?_map, hm]; rfl)
  walk_at "s"
  refine ask2 ⟨p, d, 0, rfl, rfl, by omega, O, fun w => absurd ⟨by omega, by omega⟩ w, fun _ w => absurd (hd.symm.trans w) (by decide), fun _ _ x hx H2 c2 O2 => ?_⟩
  cases hb0.symm.trans hx
  walk_at "s"
  refine cutS (fun σ' H3 => ∃ v2 : Option V, σ' = [some (.ref p), some (.int m), v2] ∧ ((m = 0 ∧ Own H H3 [] []) ∨ (m ≠ 0 ∧ ∃ d', Own H H3 (adr (cDk K p d)) (cDk K p d') ∧ runW d.abs (recovW d.abs.rows m.toNat) = (d'.abs, false)))) (fun nx hn => ?_) ?_
  · walk_at "s"
    refine if_d (fun h0 => ?_) (fun h0 => ?_)
    · have hm00 : m ≠ 0 := by omega
      have O3 := O.callN O2
      walk_at "s"
      refine ask2 ⟨p, d, 1, rfl, rfl, by omega, O3.blk (s' := []) (.there .all), fun w => absurd ⟨by omega, by omega⟩ w, fun _ w => absurd (hd.symm.trans w) (by decide), fun _ _ x hx H4 c4 O4 => ?_⟩
      cases hb1.symm.trans hx
      have O5 := O3.callN O4
      walk_at "s"
      refine ask2 ⟨p, d, 2, rfl, rfl, by omega, O5.blk (s' := []) (.there (.there .all)), fun w => absurd ⟨by omega, by omega⟩ w, fun _ w => absurd (hd.symm.trans w) (by decide), fun _ _ x hx H6 c6 O6 => ?_⟩
      cases hb2.symm.trans hx
      have O7 := O5.callN O6
      have hcat : (b1.2.map V.int).length + (b2.2.map V.int).length ≤ 100000 := by simp only [List.length_map]; omega
      walk_at "s"
      intro t1 ht1
      rw [← List.map_append]
      have O8 := O7.new (o := .lst ((b1.2 ++ b2.2).map V.int)) ht1
      walk_at "s"
      intro t2 ht2
      have hcut : cutV ((b1.2 ++ b2.2).map V.int) none (some m) = ((b1.2 ++ b2.2).take m.toNat).map V.int := by
        rw [List.map_take]
        conv => lhs; rw [← Int.toNat_of_nonneg hm0]
        exact cutV_to _ _
      rw [hcut]
      have O9 := (O8.new (o := .lst (((b1.2 ++ b2.2).take m.toNat).map V.int)) ht2).drop (cs' := (t2, .lst (((b1.2 ++ b2.2).take m.toNat).map V.int)) :: cDk K p d) (.cons₂ _ (.cons _ (.cons _ (.cons _ (.cons _ (.refl _))))))
      have hhs : ((d.abs.rows[1]?).getD [] ++ (d.abs.rows[2]?).getD []).take m.toNat = (b1.2 ++ b2.2).take m.toNat := by
        rw [Dk.at_row hb1, Dk.at_row hb2]; rfl
      have hhomes := J.homes
      rw [hmark, hhs, ← hlen] at hhomes
      have htn : t2 ∉ adr (cDk K p d) := (List.nodup_cons.mp O9.nd).1
      have hrec : recovW d.abs.rows m.toNat = sendW d.abs.rows ((b1.2 ++ b2.2).take m.toNat) ++ [(0, pad 0)] := by unfold recovW; rw [hhs]
      rw [hrec] at hn
      have e3 := e hm00
      rw [hrec] at e3
      refine ask2 ⟨p, t2, d, _, rfl, rfl, by rw [List.length_take]; omega, fun z hz => ⟨by have := (hhomes z hz).1; omega, (hhomes z hz).2⟩, by omega, by omega, hd, O9.get (.head _), htn, O9.blk (s' := []) (.there .all), fun H10 d5 O10 R5 => ?_, fun H10 d5 O10 R5 => ?_⟩
      · have O11 := O9.call (.there .all) O10
        have l5 : d5.bs.length = d.bs.length := by rw [← Dk.lenr, ← Dk.lenr]; exact runW_lenEq R5
        walk_at "s"
        refine ask2 ⟨p, d5, 0, rfl, rfl, by omega, by omega, O11.blk (s' := []) (.there .all), fun H14 d6 O14 R6 => ?_, fun H14 d6 O14 R6 => ?_⟩
        · refine hn _ _ ⟨_, rfl, .inr ⟨hm00, d6, (O11.call (.there .all) O14).drop (.cons _ (.refl _)), ?_⟩⟩
          rw [runW_go R5]
          exact R6
        · refine e3 _ _ ((O11.call (.there .all) O14).drop (.cons _ (.refl _))) ?_
          rw [runW_go R5]
          exact R6
      · exact e3 _ _ ((O9.call (.there .all) O10).drop (.cons _ (.refl _))) (runW_stop R5)
    · exact hn _ _ ⟨_, rfl, .inl ⟨by omega, O2.drop (List.nil_sublist _)⟩⟩
  rintro σ' H3 ⟨v2, rfl, ⟨h0, O3⟩ | ⟨h0, d', O3, R⟩⟩
  · walk_at "s"
    rw [h0]
    exact k0 h0 _ O3
  · walk_at "s"
    exact k h0 _ _ O3 R

/-! ## helpers of the laws over journals -/
/-- a dict of blocks' rows -/
abbrev Ch := List (Int × Pg)
def cCh (c : Addr) (ch : Ch) : Cells := (c, .dK (ch.map fun x => (Sum.inl x.1, V.ref x.2.1))) :: ch.map fun x => pcel x.2
abbrev Ch.kvs (ch : Ch) : List (Key × V) := ch.map fun x => (Sum.inl x.1, V.ref x.2.1)
abbrev Ch.pure (ch : Ch) : List (Int × List Int) := ch.map fun x => (x.1, x.2.2)
/-- a row that is due: the dict's, or the one that stands there -/
def rowOf (ps : List (Int × List Int)) (k : Int) (r : List Int) : List Int := (ps.lookup k).getD r
def changedR (rows : List (List Int)) (ps : List (Int × List Int)) : List (List Int) := rows.mapIdx fun i r => rowOf ps (28 + i) r
structure ChOk (ps : List (Int × List Int)) (n : Nat) : Prop where
  nd : (ps.map (·.1)).Nodup
  one : 1 ≤ ps.length
  few : ps.length ≤ 24
  key : ∀ k : Int, k ∈ ps.map (·.1) → 28 ≤ k ∧ k < 28 + n
  wide : ∀ x ∈ ps, x.2.length = 16
theorem Ch.look (ch : Ch) (k : Int) : valV ch.kvs (Sum.inl k) = (ch.lookup k).map fun p => V.ref p.1 := by
  induction ch with
  | nil => rfl
  | cons x r ih =>
    obtain ⟨k', p⟩ := x
    rw [List.lookup_cons]
    by_cases e : k' = k
    · subst e
      rw [show (k' == k') = true by simp]
      exact valV_pos rfl
    · rw [show (k == k') = false by simpa using fun z => e z.symm]
      exact (valV_neg (fun z => e (Sum.inl.inj z))).trans ih
theorem Ch.look_pure (ch : Ch) (k : Int) : ch.pure.lookup k = (ch.lookup k).map (·.2) := by
  induction ch with
  | nil => rfl
  | cons x r ih =>
    obtain ⟨k', p⟩ := x
    show List.lookup k ((k', p.2) :: Ch.pure r) = _
    rw [List.lookup_cons, List.lookup_cons]
    cases k == k' with
    | true => rfl
    | false => exact ih
theorem Ch.look_mem {ch : Ch} {k : Int} {p : Pg} (h : ch.lookup k = some p) : (k, p) ∈ ch := by
  induction ch with
  | nil => cases h
  | cons x r ih =>
    obtain ⟨k', p'⟩ := x
    rw [List.lookup_cons] at h
    cases e : k == k' with
    | true =>
      rw [e] at h
      cases h
      rw [eq_of_beq e]
      exact .head _
    | false =>
      rw [e] at h
      exact .tail _ (ih h)
theorem er_map {α β : Type} (f : α → β) : ∀ (l : List α) (i : Nat), (l.map f).eraseIdx i = (l.eraseIdx i).map f
  | [], _ => rfl
  | _ :: _, 0 => rfl
  | x :: r, i + 1 => by rw [List.map_cons, List.eraseIdx_cons_succ, List.eraseIdx_cons_succ, List.map_cons, er_map f r i]
def sp__law_rows (K : PySem.W.Frag) : Sp := sp2 fun x y H Q _ => ∃ (a : Addr) (xs : List Int) (m : Nat), x = .ref a ∧ y = .int m ∧ 0 < m ∧ m ≤ 29 ∧ SqL K H a (xs.map V.int) ∧
  ∀ (H' : Hp) (b : Addr) (rs : List Pg), Own H H' [] (cLR b rs) → 2 ≤ rs.length → rs.length ≤ 30 → (∀ r ∈ rs, r.2.length = 16) → Q (.ref b) H'
def sp__law_disk (K : PySem.W.Frag) : Sp := sp1 fun x H Q _ => ∃ (b : Addr) (rs : List Pg), x = .ref b ∧ rs.length ≤ 900 ∧ (∀ r ∈ rs, r.2.length = 16) ∧ H b = some (.lst (rs.map fun x => V.ref x.1)) ∧ RowsAt H rs ∧
  ∀ (H' : Hp) (p : Addr) (d : Dk), Own H H' [] (cDk K p d) → d.abs.rows = List.replicate 28 nought ++ rs.map (·.2) → d.left = none → d.down = false → Q (.ref p) H'
def sp__law_changes (K : PySem.W.Frag) : Sp := sp2 fun x y H Q _ => ∃ (i : Int) (b : Addr) (rs : List Pg), x = .int i ∧ y = .ref b ∧ 1 ≤ rs.length ∧ rs.length ≤ 900 ∧ H b = some (.lst (rs.map fun x => V.ref x.1)) ∧
  ∀ (H' : Hp) (c : Addr) (ch : Ch), Own H H' [] (cCh c ch) → ChOk ch.pure rs.length → Q (.ref c) H'
def sp__law_changed (K : PySem.W.Frag) : Sp := sp2 fun x y H Q _ => ∃ (b c : Addr) (rs : List Pg) (ch : Ch), x = .ref b ∧ y = .ref c ∧ rs.length ≤ 900 ∧ H b = some (.lst (rs.map fun x => V.ref x.1)) ∧ H c = some (.dK ch.kvs) ∧
  ∀ (H' : Hp) (D : Addr) (rs' : List Pg), Own H H' [] [(D, .lst (rs'.map fun x => V.ref x.1))] → rs'.map (·.2) = changedR (rs.map (·.2)) ch.pure → (∀ r ∈ rs', r ∈ rs ∨ r ∈ ch.map (·.2)) → Q (.ref D) H'
def sp__law_handed (K : PySem.W.Frag) : Sp := sp1 fun x H Q _ => ∃ (c : Addr) (ch : Ch), x = .ref c ∧ ch.length ≤ 900 ∧ (ch.pure.map (·.1)).Nodup ∧ H c = some (.dK ch.kvs) ∧ RowsAt H (ch.map (·.2)) ∧
  ∀ (H' : Hp) (c' : Addr) (ch' : Ch), Own H H' [] (cCh c' ch') → ch'.pure = ch.pure → Q (.ref c') H'
theorem sc__law_rows : FnScope ["_law_script", "_law_most", "_law_number", "_law_many", "_law_factor", "_law_rows_here", "_law_block", "_law_place"] ["_law_script", "_law_most"] (defScope s__law_rows) := ⟨rfl, rfl, rfl, by decide +kernel, rfl, by decide +kernel, by decide +kernel⟩
theorem ok__law_rows {P : Program} {w : World} {K : PySem.W.Frag} {mg : Str → Option Value} {base : Heap} (T : Txt K mg) : Cee P w K mg base 3 (He.fAd K ("_law_rows", none)) ["_law_script", "_law_most"] (sp__law_rows K) := by
  have c__law_wide : Cee P w K mg base 2 (He.fAd K ("_law_wide", none)) ["_law_script", "_law_k"] (sp__law_wide K) := ok__law_wide T
  refine cee_of T.d__law_rows sc__law_rows (fun _ _ _ _ _ _ us hl => match us, hl with | [_, _], _ => rfl) (fun vs H Q E h => sp2_len h) (fun cdv A outer s H vs Q E hr h => ⟨_, (pss_cons (ps_set (i := 2) sc__law_rows.nd rfl (Or.inr rfl) (pe_op op_fdiv (pe_f c__law_wide (hr.mono (by decide)) (takes_of rfl rfl rfl rfl) (by rfl) T.g__law_wide (pa_cons (pv 0) (pa_cons pe_int pa_nil))) pe_int)) (pss_cons (ps_set (i := 3) sc__law_rows.nd rfl (Or.inl rfl) (pe_op op_add pe_int (pe_op op_mod (pv 2) (pv 1)))) (pss_cons (ps_set (i := 4) sc__law_rows.nd rfl (Or.inr rfl) (pe_op op_add pe_int (pe_op op_mod (pe_op op_fdiv (pv 2) (pv 1)) pe_int))) (pss_cons (ps_set (i := 5) sc__law_rows.nd rfl (Or.inl rfl) (pe_lst pa_nil)) (pss_cons (ps_for (passes_of rfl) rfl (PI.box (pi_range1 (by rfl) T.n_range (pa_cons (pv 3) pa_nil))) (pg_name (i := 6) sc__law_rows.nd rfl (Or.inr rfl)) (pss_one (ps_expr (pe_bm PySem.F.plainAttrs_list PySem.F.slot_list_append PySem.F.type_list_append mt_append (pv 5) (pa_cons (pe_lc (own := [("_law_place", 7)]) (by rfl) sc__law_rows.nd (PI.box (pi_range1 (by rfl) T.n_range (pa_cons pe_int pa_nil))) (blkOk_by (own := [("_law_place", 7)]) (N := ["_law_script", "_law_most", "_law_number", "_law_many", "_law_factor", "_law_rows_here", "_law_block", "_law_place"]) (sc := defScope s__law_rows) (by decide +kernel)) (fun _ _ _ _ _ => (pg_name (i := 7) sc__law_rows.nd rfl (Or.inl rfl))) (fun _ _ _ _ _ => pts_nil) (fun _ _ _ _ _ => (pe_op op_mod (pe_op op_add (pe_op op_mul (pe_op op_mul (pv 4) (pe_op op_add (pv 6) pe_int)) (pe_op op_add (pv 7) pe_int)) (pe_op op_mod (pv 2) pe_int)) pe_int))) pa_nil))))) (pss_one (ps_ret (pv 5)))))))), ?_⟩)
  obtain ⟨v0, v1, rfl, h⟩ := h
  dsimp only [cxOf, L2.start]
  obtain ⟨a, xs, m, rfl, rfl, m0, m1, ha, k⟩ := h
  walk_at "s"
  refine ask2 ⟨a, xs, 0, rfl, rfl, Int.le_refl _, ha, fun w => ?_⟩
  have hm0 := Int.emod_nonneg (w / 2) (b := (m : Int)) (by omega)
  have hm1 := Int.emod_lt_of_pos (w / 2) (b := (m : Int)) (by omega)
  obtain ⟨n, hn0, hn1, hn⟩ : ∃ n : Nat, 2 ≤ n ∧ n ≤ 30 ∧ (2 + w / 2 % m : Int) = n := ⟨(2 + w / 2 % m : Int).toNat, by omega, by omega, by omega⟩
  obtain ⟨f, hf0, hf1, hf⟩ : ∃ f : Int, 1 ≤ f ∧ f ≤ 65521 ∧ (1 + w / 2 / m % 65521 : Int) = f := ⟨_, by omega, by omega, rfl⟩
  walk_at "s"
  dsimp only
  rw [hn, hf]
  intro b hb
  have O1 := (Own.start (H := H)).new (o := .lst []) hb
  walk_at "s"
  refine forR (lo := 0) (fun j σ H' => ∃ (rs : List Pg) (v6 v7 : Option V), σ = [some (.ref a), some (.int m), some (.int (w / 2)), some (.int n), some (.int f), some (.ref b), v6, v7] ∧ rs.length = j ∧ (∀ r ∈ rs, r.2.length = 16) ∧ Own H H' [] (cLR b rs)) ⟨[], _, _, rfl, rfl, by simp, O1⟩ ?_ ?_
  · rintro j σ H' hj ⟨rs, v6, v7, rfl, hl, hw, O⟩
    walk_at "s"
    refine lcR (lo := 0) (n := 16) (fun D i H2 => ∃ ns : List Int, ns.length = i ∧ Own H H2 [] ((D, .lst (ns.map V.int)) :: cLR b rs)) (fun D hD => ⟨[], rfl, O.new hD⟩) ?_ ?_
    · rintro D i H2 hi ⟨ns, hns, O2⟩
      have hlen : (ns.map V.int).length < 100000 := by rw [List.length_map]; omega
      walk_at "s"
      refine ⟨ns ++ [(f * (0 + j + 1) * (0 + i + 3) + w / 2 % 17) % 65536], by rw [List.length_append, hns]; rfl, ?_⟩
      rw [List.map_append]
      exact O2.wr .here
    · rintro D H2 ⟨ns, hns, O2⟩
      have hlen : (rs.map fun x : Pg => V.ref x.1).length < 100000 := by rw [List.length_map]; omega
      walk_at "s"
      refine ⟨rs ++ [(D, ns)], _, _, rfl, by rw [List.length_append, hl]; rfl, fun r hr => ?_, ?_⟩
      · rcases List.mem_append.mp hr with z | z
        · exact hw r z
        · rw [List.mem_singleton.mp z]; exact hns
      · have O3 := (O2.wr (o' := .lst ((rs.map fun x : Pg => V.ref x.1) ++ [.ref D])) (.there .here)).last
        unfold cLR
        rw [List.map_append, List.map_append]
        exact O3
  · rintro σ H' ⟨rs, v6, v7, rfl, hl, hw, O⟩
    walk_at "s"
    exact k _ b rs O (by omega) (by omega) hw
theorem sc__law_changes : FnScope ["_law_number", "_law_rows_here", "_law_left", "_law_many", "_law_changes_here", "_law_turn", "_law_block"] ["_law_number", "_law_rows_here"] (defScope s__law_changes) := ⟨rfl, rfl, rfl, by decide +kernel, rfl, by decide +kernel, by decide +kernel⟩
theorem ok__law_changes {P : Program} {w : World} {K : PySem.W.Frag} {mg : Str → Option Value} {base : Heap} (T : Txt K mg) : Cee P w K mg base 2 (He.fAd K ("_law_changes", none)) ["_law_number", "_law_rows_here"] (sp__law_changes K) := by
  have c__law_numbers : Cee P w K mg base 1 (He.fAd K ("_law_numbers", none)) ["_law_number"] (sp__law_numbers K) := ok__law_numbers T
  refine cee_of T.d__law_changes sc__law_changes (fun _ _ _ _ _ _ us hl => match us, hl with | [_, _], _ => rfl) (fun vs H Q E h => sp2_len h) (fun cdv A outer s H vs Q E hr h => ⟨_, (pss_cons (ps_set (i := 2) sc__law_changes.nd rfl (Or.inl rfl) (pe_listRg rfl (by rfl) T.n_list (prg_1 (by rfl) T.n_range (pe_callB call_len_seq (by rfl) T.n_len (by decide +kernel) (pa_cons (pv 1) pa_nil))))) (pss_cons (ps_set (i := 3) sc__law_changes.nd rfl (Or.inl rfl) (pe_op op_add pe_int (pe_op op_mod (pv 0) (pe_callB (call_min2 rfl) (by rfl) T.n_min (by decide +kernel) (pa_cons pe_int (pa_cons (pe_callB call_len_seq (by rfl) T.n_len (by decide +kernel) (pa_cons (pv 2) pa_nil)) pa_nil)))))) (pss_cons (PS.box (ps_if (pt_cmpR op_eq (pe_op op_mod (pe_op op_fdiv (pv 0) pe_int) pe_int) pe_int (nomark _)) (pss_one (ps_set (i := 3) sc__law_changes.nd rfl (Or.inl rfl) (pe_op op_add pe_int (pe_op op_mod (pe_op op_fdiv (pv 0) pe_int) (pe_callB (call_min2 rfl) (by rfl) T.n_min (by decide +kernel) (pa_cons pe_int (pa_cons (pe_callB call_len_seq (by rfl) T.n_len (by decide +kernel) (pa_cons (pv 2) pa_nil)) pa_nil))))))) pss_nil)) (pss_cons (ps_set (i := 0) sc__law_changes.nd rfl (Or.inl rfl) (pe_op op_fdiv (pv 0) pe_int)) (pss_cons (ps_set (i := 4) sc__law_changes.nd rfl (Or.inl rfl) pe_dnewK) (pss_cons (ps_for (passes_of rfl) rfl (PI.box (pi_range1 (by rfl) T.n_range (pa_cons (pv 3) pa_nil))) (pg_name (i := 5) sc__law_changes.nd rfl (Or.inl rfl)) (pss_cons (ps_set (i := 6) sc__law_changes.nd rfl (Or.inl rfl) (pe_bm PySem.F.plainAttrs_list PySem.F.slot_list_pop PySem.F.type_list_pop mt_popAt (pv 2) (pa_cons (pe_op op_mod (pv 0) (pe_callB call_len_seq (by rfl) T.n_len (by decide +kernel) (pa_cons (pv 2) pa_nil))) pa_nil))) (pss_cons (ps_set (i := 0) sc__law_changes.nd rfl (Or.inl rfl) (pe_op op_fdiv (pv 0) (pe_op op_add (pe_callB call_len_seq (by rfl) T.n_len (by decide +kernel) (pa_cons (pv 2) pa_nil)) pe_int))) (pss_one (ps_dput (hu_of hr) (pv 4) (pe_op op_add pe_int (pv 6)) (pe_f c__law_numbers (hr.mono (by decide)) (takes_of rfl rfl rfl rfl) (by rfl) T.g__law_numbers (pa_cons (pe_op op_add (pe_op op_add (pv 0) (pe_op op_mul (pe_op op_mul pe_int (pv 5)) (pv 5))) (pe_op op_mul pe_int (pv 5))) pa_nil)) rfl))))) (pss_one (ps_ret (pv 4))))))))), ?_⟩)
  obtain ⟨v0, v1, rfl, h⟩ := h
  dsimp only [cxOf, L2.start]
  obtain ⟨i, b, rs, rfl, rfl, hl0, hl1, hb, k⟩ := h
  walk_at "s"
  rw [List.length_map]
  refine ⟨RgOk.of_le (by omega) (by omega) (by omega) (by omega), ?_⟩
  intro l hl
  rw [rgV0]
  have O1 := (Own.start (H := H)).new (o := .lst (((List.range rs.length).map fun i : Nat => (i : Int)).map V.int)) hl
  have hpos : 0 < (if (((((List.range rs.length).map fun i : Nat => (i : Int)).map V.int).length : Nat) : Int) < 24 then (((((List.range rs.length).map fun i : Nat => (i : Int)).map V.int).length : Nat) : Int) else 24) := by
    simp only [List.length_map, List.length_range]; split <;> omega
  have hmin : ∀ (x c : Int) (e : Int), 1 ≤ c → c ≤ 24 → e = (rs.length : Nat) → ∃ m : Nat, 1 ≤ m ∧ m ≤ 24 ∧ m ≤ rs.length ∧ (1 + x % (if e < c then e else c)) = m := fun x c e h1 h2 h3 => by
    subst h3
    by_cases h : (rs.length : Int) < c
    · rw [if_pos h]
      have := Int.emod_nonneg x (b := (rs.length : Int)) (by omega)
      have := Int.emod_lt_of_pos x (b := (rs.length : Int)) (by omega)
      exact ⟨(1 + x % (rs.length : Int)).toNat, by omega, by omega, by omega, by omega⟩
    · rw [if_neg h]
      have := Int.emod_nonneg x (b := c) (by omega)
      have := Int.emod_lt_of_pos x (b := c) (by omega)
      exact ⟨(1 + x % c).toNat, by omega, by omega, by omega, by omega⟩
  have hlr : (((((List.range rs.length).map fun i : Nat => (i : Int)).map V.int).length : Nat) : Int) = (rs.length : Nat) := by rw [List.length_map, List.length_map, List.length_range]
  obtain ⟨m0, hm0, hm1, hm2, hm⟩ := hmin i 24 _ (by decide) (by decide) hlr
  have hpos3 : 0 < (if (((((List.range rs.length).map fun i : Nat => (i : Int)).map V.int).length : Nat) : Int) < 3 then (((((List.range rs.length).map fun i : Nat => (i : Int)).map V.int).length : Nat) : Int) else 3) := by
    simp only [List.length_map, List.length_range]; split <;> omega
  walk_at "s"
  dsimp only
  rw [hm]
  walk_at "s"
  refine cutS (fun σ' H2 => Own H H2 [] [(l, .lst (((List.range rs.length).map fun i : Nat => (i : Int)).map V.int))] ∧ ∃ m : Nat, 1 ≤ m ∧ m ≤ 24 ∧ m ≤ rs.length ∧ σ' = [some (.int i), some (.ref b), some (.ref l), some (.int m), none, none, none]) (fun nx hnx => ?_) ?_
  · walk_at "s"
    refine if_ii (fun h => ?_) (fun h => ?_)
    · obtain ⟨m3, hm3, hm4, hm5, hm6⟩ := hmin (i / 72) 3 _ (by decide) (by decide) hlr
      walk_at "s"
      dsimp only
      rw [hm6]
      exact hnx _ _ ⟨O1, m3, hm3, hm4, hm5, rfl⟩
    · exact hnx _ _ ⟨O1, m0, hm0, hm1, hm2, rfl⟩
  clear hm hm0 hm1 hm2 m0 O1
  rintro σ' H2 ⟨O1, m, hm0, hm1, hm2, rfl⟩
  walk_at "s"
  intro c hc
  have O2 := O1.new (o := .dK []) hc
  walk_at "s"
  refine forR (lo := 0) (n := ((m : Nat) : Int).toNat) (fun j σ H' => ∃ (num : Int) (ls : List Int) (ch : Ch) (v5 v6 : Option V), σ = [some (.int num), some (.ref b), some (.ref l), some (.int m), some (.ref c), v5, v6] ∧ Own H H' [] (cCh c ch ++ [(l, .lst (ls.map V.int))]) ∧ ch.length = j ∧ ls.length + j = rs.length ∧ ls.Nodup ∧ (∀ x ∈ ls, 0 ≤ x ∧ x < rs.length) ∧ (ch.pure.map (·.1)).Nodup ∧ (∀ k : Int, k ∈ ch.pure.map (·.1) → 28 ≤ k ∧ k < 28 + (rs.length : Nat)) ∧ (∀ x ∈ ls, 28 + x ∉ ch.pure.map (·.1)) ∧ (∀ x ∈ ch.pure, x.2.length = 16))
    ⟨_, _, [], _, _, rfl, O2, rfl, by rw [List.length_map, List.length_range]; rfl, ?_, ?_, List.nodup_nil, by simp, by simp, by simp⟩ ?_ ?_
  · exact List.nodup_range.map _ (fun a b h z => h (by omega))
  · intro x hx
    obtain ⟨y, hy, rfl⟩ := List.mem_map.mp hx
    have := List.mem_range.mp hy
    omega
  · rintro j σ H' hj ⟨num, ls, ch, v5, v6, rfl, O, h1, h2, h3, h4, h5, h6, h7, h8⟩
    have hlp : 0 < ls.length := by omega
    have hq0 := Int.emod_nonneg num (b := (ls.length : Int)) (by omega)
    have hq1 := Int.emod_lt_of_pos num (b := (ls.length : Int)) (by omega)
    obtain ⟨q, hq⟩ : ∃ q : Nat, num % (ls.length : Int) = q := ⟨(num % (ls.length : Int)).toNat, by omega⟩
    obtain ⟨y, hy⟩ : ∃ y, ls[q]? = some y := ⟨ls[q]'(by omega), List.getElem?_eq_getElem _⟩
    have hpl : (0 : Int) < ((ls.map V.int).length : Nat) := by rw [List.length_map]; omega
    have hsq : seqIndex? (num % ((ls.map V.int).length : Nat)) (ls.map V.int).length = some q := by
      rw [List.length_map, hq]
      have := seqIndex_of (k := (q : Int)) (n := ls.length) (by omega) (by omega)
      rwa [Int.toNat_natCast] at this
    have hyq : (ls.map V.int)[q]? = some (V.int y) := by rw [List.getElem?_map, hy]; rfl
    have hem : (ls.map V.int).eraseIdx q = (ls.eraseIdx q).map V.int := er_map V.int ls q
    have hel : (ls.eraseIdx q).length + 1 = ls.length := by rw [List.length_eraseIdx_of_lt (by omega)]; omega
    have hdv2 : 0 < (((((ls.map V.int).eraseIdx q).length : Nat) : Int) + 1) ∧ (((((ls.map V.int).eraseIdx q).length : Nat) : Int) + 1) < 1073741824 := by rw [hem, List.length_map]; omega
    walk_at "s"
    rw [hem]
    have O1 := O.wr (o' := .lst ((ls.eraseIdx q).map V.int)) (.app .here)
    refine ask1 ⟨_, rfl, fun H3 r ns hns O3 => ?_⟩
    have O4 : Own H H3 [] ((r, .lst (ns.map V.int)) :: (cCh c ch ++ [(l, .lst ((ls.eraseIdx q).map V.int))])) := O1.callN O3
    have hlk : ch.kvs.length < 100000 := by rw [List.length_map]; omega
    walk_at "s"
    have hym := List.mem_of_getElem? hy
    have hnk : (Sum.inl (28 + y) : Key) ∉ ch.kvs.map (·.1) := by
      intro z
      rw [List.map_map] at z
      obtain ⟨x, hx, e⟩ := List.mem_map.mp z
      exact h7 y hym (List.mem_map.mpr ⟨(x.1, x.2.2), List.mem_map.mpr ⟨x, hx, rfl⟩, Sum.inl.inj e⟩)
    rw [putK_new hnk]
    have O5 := O4.wr (o' := .dK (ch.kvs ++ [(Sum.inl (28 + y), V.ref r)])) (.there (.appl .here))
    have hpure : Ch.pure (ch ++ [(28 + y, (r, ns))]) = ch.pure ++ [(28 + y, ns)] := by show List.map _ (_ ++ _) = _; rw [List.map_append]; rfl
    have hmem : ∀ x ∈ ls.eraseIdx q, x ∈ ls := fun x hx => List.mem_of_mem_eraseIdx hx
    refine ⟨_, ls.eraseIdx q, ch ++ [(28 + y, (r, ns))], _, _, rfl, ?_, by rw [List.length_append, h1]; rfl, by omega, h3.eraseIdx q, fun x hx => h4 x (hmem x hx), ?_, ?_, ?_, ?_⟩
    · refine O5.perm ?_
      unfold cCh
      rw [List.map_append, List.map_append]
      refine (List.Perm.swap _ _ _).trans (.cons _ ?_)
      show List.Perm (_ :: (_ ++ _)) ((_ ++ [_]) ++ _)
      rw [List.append_assoc]
      exact List.perm_middle.symm
    · rw [hpure, List.map_append]
      refine List.nodup_append.mpr ⟨h5, by simp, fun a ha b hb e => ?_⟩
      rw [List.map_singleton, List.mem_singleton] at hb
      subst e hb
      exact h7 y hym ha
    · intro k hk
      rw [hpure, List.map_append] at hk
      rcases List.mem_append.mp hk with z | z
      · exact h6 k z
      · rw [List.map_singleton, List.mem_singleton] at z
        have := h4 y hym
        omega
    · intro x hx z
      rw [hpure, List.map_append] at z
      rcases List.mem_append.mp z with z | z
      · exact h7 x (hmem x hx) z
      · rw [List.map_singleton, List.mem_singleton] at z
        have hxy : x = y := by omega
        subst hxy
        obtain ⟨i2, hi2⟩ := List.getElem?_of_mem hx
        rw [List.getElem?_eraseIdx] at hi2
        by_cases c1 : i2 < q
        · rw [if_pos c1] at hi2
          have := (List.getElem?_inj (by omega) h3).mp (hi2.trans hy.symm)
          omega
        · rw [if_neg c1] at hi2
          have hl2 := (List.getElem?_eq_some_iff.mp hi2).1
          have := (List.getElem?_inj (by omega) h3).mp (hi2.trans hy.symm)
          omega
    · intro x hx
      rw [hpure] at hx
      rcases List.mem_append.mp hx with z | z
      · exact h8 x z
      · rw [List.mem_singleton.mp z]; exact hns
  · rintro σ H' ⟨num, ls, ch, v5, v6, rfl, O, h1, h2, h3, h4, h5, h6, h7, h8⟩
    walk_at "s"
    rw [Int.toNat_natCast] at h1
    exact k _ c ch (O.drop (List.sublist_append_left _ _)) ⟨h5, by rw [List.length_map]; omega, by rw [List.length_map]; omega, h6, h8⟩
theorem sc__law_changed : FnScope ["_law_rows_here", "_law_changes_here", "_law_block", "_law_row"] ["_law_rows_here", "_law_changes_here"] (defScope s__law_changed) := ⟨rfl, rfl, rfl, by decide +kernel, rfl, by decide +kernel, by decide +kernel⟩
theorem ok__law_changed {P : Program} {w : World} {K : PySem.W.Frag} {mg : Str → Option Value} {base : Heap} (T : Txt K mg) : Cee P w K mg base 1 (He.fAd K ("_law_changed", none)) ["_law_rows_here", "_law_changes_here"] (sp__law_changed K) := by
  refine cee_of T.d__law_changed sc__law_changed (fun _ _ _ _ _ _ us hl => match us, hl with | [_, _], _ => rfl) (fun vs H Q E h => sp2_len h) (fun cdv A outer s H vs Q E hr h => ⟨_, (pss_one (ps_ret (pe_lc (own := [("_law_block", 2), ("_law_row", 3)]) (by rfl) sc__law_changed.nd (PI.box (pi_enum (by rfl) T.n_enumerate (pa_cons (pv 0) pa_nil))) (blkOk_by (own := [("_law_block", 2), ("_law_row", 3)]) (N := ["_law_rows_here", "_law_changes_here", "_law_block", "_law_row"]) (sc := defScope s__law_changed) (by decide +kernel)) (fun _ _ _ _ _ => (show PG _ _ (gTup K 2 (gCons (gName 2) (gCons (gName 3) gNil))) from (pg_tup rfl (pgs_cons (pg_name (i := 2) sc__law_changed.nd rfl (Or.inl rfl)) (pgs_cons (pg_name (i := 3) sc__law_changed.nd rfl (Or.inl rfl)) pgs_nil))))) (fun _ _ _ _ _ => pts_nil) (fun _ _ _ _ _ => (pe_dget2 (hu_of hr) (pv 1) (pe_op op_add pe_int (pv 2)) (pv 3) ⟨rfl, rfl, rfl, rfl⟩))))), ?_⟩)
  obtain ⟨v0, v1, rfl, h⟩ := h
  dsimp only [cxOf, L2.start]
  obtain ⟨b, c, rs, ch, rfl, rfl, hl, hb, hc, k⟩ := h
  walk_at "s"
  refine lcW (walk_enum (K := K) (a := b) (xs := rs.map fun x : Pg => V.ref x.1)) (fun D j H2 => ∃ rs' : List Pg, Own H H2 [] [(D, .lst (rs'.map fun x => V.ref x.1))] ∧ rs'.map (·.2) = (changedR (rs.map (·.2)) ch.pure).take j ∧ (∀ r ∈ rs', r ∈ rs ∨ r ∈ ch.map (·.2))) (fun D hD => ⟨[], Own.start.new hD, rfl, by simp⟩) (fun D j H2 _ ⟨_, O, _⟩ => SqL.of (O.fr0 hb)) ?_ ?_
  · rintro D j x H2 H3 hj ⟨rs', O, hrs', hmem⟩ ⟨T, u, v, rfl, hT, rfl, hu, hv⟩
    cases hu
    obtain ⟨r, hr1, rfl⟩ := refs_get hv
    have O2 := O.newT (o := .tup [V.int j, V.ref r.1]) hT
    have hT1 : (upd H2 T (.tup [V.int j, V.ref r.1])) T = some (.tup [V.int j, V.ref r.1]) := upd_same
    have hc2 := O2.fr0 hc
    have hrl := congrArg List.length hrs'
    rw [List.length_map, List.length_take] at hrl
    have hjl : j < rs.length := (List.getElem?_eq_some_iff.mp hr1).1
    have hlen : (rs'.map fun x : Pg => V.ref x.1).length < 100000 := by rw [List.length_map]; omega
    walk_at "s"
    rw [Ch.look]
    have e0 : ((ch.lookup (28 + (j : Int))).map fun p : Pg => V.ref p.1).getD (V.ref r.1) = V.ref ((ch.lookup (28 + (j : Int))).getD r).1 := by cases ch.lookup (28 + (j : Int)) <;> rfl
    rw [e0]
    refine ⟨rs' ++ [(ch.lookup (28 + (j : Int))).getD r], ?_, ?_, fun q hq => ?_⟩
    · rw [List.map_append]
      exact O2.wr .here
    · have e1 : (changedR (rs.map (·.2)) ch.pure)[j]? = some ((ch.lookup (28 + (j : Int))).getD r).2 := by
        unfold changedR
        rw [List.getElem?_mapIdx, List.getElem?_map, hr1]
        show some (rowOf ch.pure (28 + (j : Int)) r.2) = _
        unfold rowOf
        rw [Ch.look_pure]
        cases ch.lookup (28 + (j : Int)) <;> rfl
      rw [take_succ e1, List.map_append, hrs']
      rfl
    · rcases List.mem_append.mp hq with z | z
      · exact hmem q z
      · rw [List.mem_singleton.mp z]
        cases e2 : ch.lookup (28 + (j : Int)) with
        | none => exact .inl (List.mem_of_getElem? hr1)
        | some p => exact .inr (List.mem_map.mpr ⟨_, Ch.look_mem e2, rfl⟩)
  · rintro D H2 ⟨rs', O, hrs', hmem⟩
    walk_at "s"
    refine k _ D rs' O ?_ hmem
    rw [hrs', List.take_of_length_le (by unfold changedR; rw [List.length_mapIdx, List.length_map, List.length_map]; omega)]
theorem sc__law_handed : FnScope ["_law_changes_here", "_law_block", "_law_row"] ["_law_changes_here"] (defScope s__law_handed) := ⟨rfl, rfl, rfl, by decide +kernel, rfl, by decide +kernel, by decide +kernel⟩
theorem ok__law_handed {P : Program} {w : World} {K : PySem.W.Frag} {mg : Str → Option Value} {base : Heap} (T : Txt K mg) : Cee P w K mg base 1 (He.fAd K ("_law_handed", none)) ["_law_changes_here"] (sp__law_handed K) := by
  refine cee_of T.d__law_handed sc__law_handed (fun _ _ _ _ _ _ us hl => match us, hl with | [_], _ => rfl) (fun vs H Q E h => sp1_len h) (fun cdv A outer s H vs Q E hr h => ⟨_, (pss_one (ps_ret (pe_callTy (call_dictP rfl) (by rfl) T.n_dict (by decide +kernel) (pa_cons (pe_lock (pe_lc (own := [("_law_block", 1), ("_law_row", 2)]) (by rfl) sc__law_handed.nd (PI.box (pi_items (pv 0))) (blkOk_by (own := [("_law_block", 1), ("_law_row", 2)]) (N := ["_law_changes_here", "_law_block", "_law_row"]) (sc := defScope s__law_handed) (by decide +kernel)) (fun _ _ _ _ _ => (show PG _ _ (gTup K 2 (gCons (gName 1) (gCons (gName 2) gNil))) from (pg_tup rfl (pgs_cons (pg_name (i := 1) sc__law_handed.nd rfl (Or.inl rfl)) (pgs_cons (pg_name (i := 2) sc__law_handed.nd rfl (Or.inl rfl)) pgs_nil))))) (fun _ _ _ _ _ => pts_nil) (fun _ _ _ _ _ => (pe_tup (pa_cons (pv 1) (pa_cons (pe_callTy (show CallR _ (.type "list") (rListOf K) from call_list_of) (by rfl) T.n_list (by decide +kernel) (pa_cons (pv 2) pa_nil)) pa_nil)))))) pa_nil)))), ?_⟩)
  obtain ⟨v0, rfl, h⟩ := h
  dsimp only [cxOf, L2.start]
  obtain ⟨c, ch, rfl, hl, hnd, hc, hr, k⟩ := h
  walk_at "s"
  refine ⟨_, hc, True.intro, fun od => ?_⟩
  have O0 : Own H H [c] [(c, .dK ch.kvs)] := ⟨fun a o m => by cases List.mem_singleton.mp m; exact hc, by simp [Ow.adr], fun _ _ h _ => h, fun b m => .inl m, fun _ _ h => h⟩
  have O1 := O0.wr (o' := .frz od (.dK ch.kvs)) .here
  walk_at "s"
  refine lcW (walk_items (d := c) (o := od) (kvs := ch.kvs)) (fun D j H2 => ∃ (qs : List Addr) (ch' : Ch), Own H H2 [c] ((D, .lst (qs.map V.ref)) :: ((ch'.map fun x => pcel x.2) ++ [(c, .frz od (.dK ch.kvs))])) ∧ ch'.pure = ch.pure.take j ∧ Paired (fun q (x : Int × Pg) => H2 q = some (.tup [.int x.1, .ref x.2.1])) qs ch') (fun D hD => ⟨[], [], O1.new hD, rfl, .nil⟩) (fun D j H2 _ ⟨_, _, O, _⟩ => O.get (.tail _ (List.mem_append_right _ (.head _)))) ?_ ?_
  · rintro D j x H2 H3 hj ⟨qs, ch', O, hp, hpair⟩ ⟨T, u, v, rfl, hT, rfl, hu, hv⟩
    obtain ⟨y, hy⟩ : ∃ y, ch[j]? = some y := ⟨ch[j]'(by simpa using hj), List.getElem?_eq_getElem _⟩
    simp only [List.getElem?_map, hy, Option.map_some, Option.some.injEq] at hu hv
    subst hu hv
    have hym := List.mem_of_getElem? hy
    have O2 := O.newT (o := .tup [V.int y.1, V.ref y.2.1]) hT
    have hT1 : (upd H2 T (.tup [V.int y.1, V.ref y.2.1])) T = some (.tup [V.int y.1, V.ref y.2.1]) := upd_same
    have hyh := O2.out (hr y.2 (List.mem_map.mpr ⟨y, hym, rfl⟩)) (b := y.2.1) (by intro z; rw [List.mem_singleton] at z; have h1 := hr y.2 (List.mem_map.mpr ⟨y, hym, rfl⟩); rw [z, hc] at h1; cases h1)
    have hpl := congrArg List.length hp
    rw [List.length_map, List.length_take, List.length_map] at hpl
    have hql : qs.length = ch'.length := hpair.length
    have hlen : (qs.map V.ref).length < 100000 := by rw [List.length_map]; omega
    walk_at "s"
    intro l hl2
    have O3 := O2.new (o := .lst (y.2.2.map V.int)) hl2
    walk_at "s"
    intro t ht
    have O4 := O3.newT (o := .tup [.int y.1, .ref l]) ht
    have S4 := ((O.self.newT (o := .tup [V.int y.1, V.ref y.2.1]) hT).new (o := .lst (y.2.2.map V.int)) hl2).newT (o := .tup [.int y.1, .ref l]) ht
    walk_at "s"
    have O5 := O4.wr (o' := .lst (qs.map V.ref ++ [.ref t])) (.there .here)
    have S5 := S4.wr (o' := .lst (qs.map V.ref ++ [.ref t])) (.there .here)
    refine ⟨qs ++ [t], ch' ++ [(y.1, (l, y.2.2))], ?_, ?_, ?_⟩
    · rw [List.map_append, List.map_append]
      refine O5.perm ((List.Perm.swap _ _ _).trans (.cons _ ?_))
      rw [List.append_assoc]
      exact List.perm_middle.symm
    · show (ch' ++ [(y.1, (l, y.2.2))]).map (fun x : Int × Pg => (x.1, x.2.2)) = _
      rw [List.map_append, show ch'.map (fun x : Int × Pg => (x.1, x.2.2)) = ch.pure.take j from hp, take_succ (show ch.pure[j]? = some (y.1, y.2.2) by rw [List.getElem?_map, hy]; rfl)]
      rfl
    · refine (Paired.mapP hpair fun a b h => S5.tp _ _ h).snoc ?_
      have h1 := O4.get (a := D) (.tail _ (.head _))
      rw [upd_ne (fun z => by rw [z] at ht; have h2 := O3.get (a := D) (.tail _ (.head _)); cases h2.symm.trans ht)]
      exact upd_same
  · rintro D H2 ⟨qs, ch', O, hp, hpair⟩
    rw [List.length_map, List.take_of_length_le (by rw [List.length_map]; omega)] at hp
    have hcf := O.get (a := c) (.tail _ (List.mem_append_right _ (.head _)))
    have O2 := O.wr (o' := .dK ch.kvs) (.there (.app .here))
    have S2 := O.self.wr (o' := .dK ch.kvs) (.there (.app .here))
    have hP : Paired (fun p (kv : Key × V) => SqT K (upd H2 c (.dK ch.kvs)) p [kV kv.1, kv.2]) qs ch'.kvs := by
      have h1 := Paired.mapP hpair fun a b h => S2.tp _ _ h
      clear O O2 S2 hpair hp
      induction h1 with
      | nil => exact .nil
      | cons a b ih => exact .cons (SqT.of a) ih
    have hnd : (ch'.kvs.map (·.1)).Nodup := by
      have h1 : ch'.kvs.map (·.1) = (ch.pure.map (·.1)).map Sum.inl := by
        rw [← hp, List.map_map, List.map_map, List.map_map]
        rfl
      rw [h1]
      exact hnd.map _ (fun a b h z => h (Sum.inl.inj z))
    have hlD := O2.get (a := D) (.head _)
    walk_at "s"
    refine ⟨qs, ch'.kvs, rfl, SqL.of hlD, hP, fun q hq => ?_⟩
    rw [mergeK_app (acc := []) hnd]
    refine k _ q ch' ?_ hp
    have O3 := O2.new (o := .dK ch'.kvs) hq
    have O4 : Own H _ [c] ((q, .dK ch'.kvs) :: ((ch'.map fun x => pcel x.2) ++ [(c, .dK ch.kvs)])) := O3.drop (.cons₂ _ (.cons _ (.refl _)))
    exact Own.back (bs := [(c, .dK ch.kvs)]) (cs := cCh q ch') O4 (fun a o m => by cases List.mem_singleton.mp m; exact hc)

theorem sc__law_disk : FnScope ["_law_rows_here", "_law_disk_here", "_law_block", "_law_row"] ["_law_rows_here"] (defScope s__law_disk) := ⟨rfl, rfl, rfl, by decide +kernel, rfl, by decide +kernel, by decide +kernel⟩
theorem ok__law_disk {P : Program} {w : World} {K : PySem.W.Frag} {mg : Str → Option Value} {base : Heap} (T : Txt K mg) : Cee P w K mg base 3 (He.fAd K ("_law_disk", none)) ["_law_rows_here"] (sp__law_disk K) := by
  have c_Disk___init__ : Cee P w K mg base 1 (He.fAd K ("Disk", some "__init__")) ["self", "many"] (sp_Disk___init__ K) := ok_Disk___init__ T
  have c_Disk_write : Cee P w K mg base 2 (He.fAd K ("Disk", some "write")) ["self", "n", "numbers"] (sp_Disk_write K) := ok_Disk_write T
  refine cee_of T.d__law_disk sc__law_disk (fun _ _ _ _ _ _ us hl => match us, hl with | [_], _ => rfl) (fun vs H Q E h => sp1_len h) (fun cdv A outer s H vs Q E hr h => ⟨_, (pss_cons (ps_set (i := 1) sc__law_disk.nd rfl (Or.inl rfl) (pe_n T.m_Disk c_Disk___init__ (hr.mono (by decide)) (by rfl) T.g_Disk (pa_cons (pe_op op_add pe_int (pe_callB call_len_seq (by rfl) T.n_len (by decide +kernel) (pa_cons (pv 0) pa_nil))) pa_nil))) (pss_cons (ps_for (passes_of rfl) rfl (PI.box (pi_enum (by rfl) T.n_enumerate (pa_cons (pv 0) pa_nil))) (pg_tup rfl (pgs_cons (pg_name (i := 2) sc__law_disk.nd rfl (Or.inl rfl)) (pgs_cons (pg_name (i := 3) sc__law_disk.nd rfl (Or.inl rfl)) pgs_nil))) (pss_one (ps_if (pt_cmpR (op_neD hr.units) (pv 3) (pe_op op_rep (pe_lst (pa_cons pe_int pa_nil)) pe_int) (nomark _)) (pss_one (ps_expr (pe_m (pv 1) T.c_Disk T.m_Disk_write c_Disk_write (hr.mono (by decide)) (takes_of rfl rfl rfl rfl) (pa_cons (pe_op op_add pe_int (pv 2)) (pa_cons (pe_callTy call_list_of (by rfl) T.n_list (by decide +kernel) (pa_cons (pv 3) pa_nil)) pa_nil))))) pss_nil))) (pss_one (ps_ret (pv 1))))), ?_⟩)
  obtain ⟨v0, rfl, h⟩ := h
  dsimp only [cxOf, L2.start]
  obtain ⟨b, rs, rfl, hl, hw, hb, hr, k⟩ := h
  walk_at "s"
  intro p dp h1 h2 hne
  have O1 := (Own.start (H := H)).inst (C := He.ga K "Disk") h1 h2 hne
  refine ask2 ⟨p, dp, 28 + rs.length, rfl, ?_, by omega, O1.self, fun H2 bl bs hO hbs => ?_⟩
  · show V.int (28 + ((rs.map fun x : Pg => V.ref x.1).length : Nat)) = _
    rw [List.length_map]
    exact congrArg V.int (by omega)
  have O2 : Own H H2 [] (cDk K p ⟨dp, bl, bs, 0, none, false⟩) := O1.call .all hO
  clear O1 hO
  walk_at "s"
  refine forW (walk_enum (K := K) (a := b) (xs := rs.map fun x : Pg => V.ref x.1)) (fun j σ H' => ∃ (d : Dk) (v2 v3 : Option V), σ = [some (.ref b), some (.ref p), v2, v3] ∧ Own H H' [] (cDk K p d) ∧ d.left = none ∧ d.down = false ∧ d.bs.length = 28 + rs.length ∧ ∀ i : Nat, d.abs.rows[i]? = if i < 28 then some nought else if i < 28 + j then (rs[i - 28]?).map (·.2) else if i < 28 + rs.length then some nought else none)
    ⟨⟨dp, bl, bs, 0, none, false⟩, _, _, rfl, O2, rfl, rfl, ?_, ?_⟩ (fun j σ H' _ ⟨_, _, _, _, O', _⟩ => SqL.of (O'.fr0 hb)) ?_ ?_
  · have := congrArg List.length hbs
    rw [List.length_map, List.length_replicate] at this
    exact this
  · intro i
    show (bs.map (·.2))[i]? = _
    rw [hbs, List.getElem?_replicate]
    by_cases c1 : i < 28
    · rw [if_pos (by omega), if_pos c1]
    · rw [if_neg c1, if_neg (show ¬ i < 28 + 0 by omega)]
  · rintro j x σ H' H2 hj ⟨d, v2, v3, rfl, O', hleft, hdown, hdl, hrows⟩ ⟨T, u, v, rfl, hT, rfl, hu, hv⟩
    cases hu
    obtain ⟨r, hr1, rfl⟩ := refs_get hv
    have hrm := List.mem_of_getElem? hr1
    have O2 := O'.newT (o := .tup [V.int j, V.ref r.1]) hT
    have hT1 : (upd H' T (.tup [V.int j, V.ref r.1])) T = some (.tup [V.int j, V.ref r.1]) := upd_same
    have hrh := O2.fr0 (hr r hrm)
    have hjl : j < rs.length := (List.getElem?_eq_some_iff.mp hr1).1
    walk_at "s"
    intro z hz
    have O3 := O2.new (o := .lst [.int 0]) hz
    walk_at "s"
    intro z2 hz2
    have O4 := O3.new (o := .lst (List.replicate (Int.toNat 16) [V.int 0]).flatten) hz2
    have O5 := O4.drop (cs' := cDk K p d) (.cons _ (.cons _ (.refl _)))
    have hrh2 := O5.fr0 (hr r hrm)
    refine ne_ints (ns := r.2) (ms := nought) hrh2 (O4.get (.head _)) ?_
    refine ⟨_, rfl, ?_⟩
    by_cases hz0 : r.2 = nought
    · rw [decide_eq_true hz0]
      walk_at "s"
      refine ⟨d, _, _, rfl, O5, hleft, hdown, hdl, fun i => ?_⟩
      refine (hrows i).trans ?_
      by_cases c2 : i < 28
      · rw [if_pos c2, if_pos c2]
      · rw [if_neg c2, if_neg c2]
        by_cases c1 : 28 + j = i
        · subst c1
          rw [if_neg (by omega), if_pos (by omega), if_pos (by omega), show 28 + j - 28 = j by omega, hr1]
          exact congrArg some hz0.symm
        · by_cases c3 : i < 28 + j
          · rw [if_pos c3, if_pos (by omega)]
          · rw [if_neg c3, if_neg (show ¬ i < 28 + (j + 1) by omega)]
    · rw [decide_eq_false hz0]
      walk_at "s"
      intro c hc
      have O3 := O5.new (o := .lst (r.2.map V.int)) hc
      refine ask3 ⟨p, d, 28 + j, c, r.2, rfl, rfl, rfl, O3.get (.head _), by omega, O3.blk (s' := []) (.there .all), fun w => absurd ⟨by omega, by omega⟩ w, fun _ w => absurd w (by rw [Dk.falls, hleft, hdown]; simp), fun _ _ H5 c5 O55 => ?_⟩
      have O6 := (O3.call (.there .all) O55).drop (.cons _ (.refl _))
      walk_at "s"
      refine ⟨_, _, _, rfl, O6, by show d.left.map (· - 1) = none; rw [hleft]; rfl, hdown, by show (d.bs.set _ _).length = _; rw [List.length_set]; exact hdl, fun i => ?_⟩
      show ((d.bs.set (28 + (j : Int)).toNat (c5, r.2)).map (·.2))[i]? = _
      rw [List.map_set, List.getElem?_set, show (28 + (j : Int)).toNat = 28 + j by omega]
      by_cases c1 : 28 + j = i
      · subst c1
        rw [if_pos rfl, if_pos (by rw [List.length_map]; omega), if_neg (by omega), if_pos (by omega), show 28 + j - 28 = j by omega, hr1]
        rfl
      · rw [if_neg c1]
        refine (hrows i).trans ?_
        by_cases c2 : i < 28
        · rw [if_pos c2, if_pos c2]
        · rw [if_neg c2, if_neg c2]
          by_cases c3 : i < 28 + j
          · rw [if_pos c3, if_pos (by omega)]
          · rw [if_neg c3, if_neg (show ¬ i < 28 + (j + 1) by omega)]
  · rintro σ H' ⟨d, v2, v3, rfl, O', hleft, hdown, hdl, hrows⟩
    walk_at "s"
    refine k _ p d O' (List.ext_getElem? fun i => ?_) hleft hdown
    rw [hrows i, List.length_map, List.getElem?_append, List.length_replicate, List.getElem?_replicate, List.getElem?_map]
    by_cases c1 : i < 28
    · rw [if_pos c1, if_pos c1, if_pos c1]
    · rw [if_neg c1, if_neg c1]
      by_cases c2 : i < 28 + rs.length
      · rw [if_pos c2]
      · rw [if_neg c2, if_neg c2, List.getElem?_eq_none (by omega)]
        rfl

/-! ## what commits and recovers leave, in plain words -/
def markR (rows : List (List Int)) : Int := (((rows[0]?).getD [])[0]?).getD 0
theorem markOf_eq (s : DS) : markOf s = markR s.rows := rfl
/-- no mark, the blocks from 28 on are these -/
structure Clean (rows old : List (List Int)) : Prop where
  mark : markR rows = 0
  len : rows.length = 28 + old.length
  rest : ∀ i : Nat, i < old.length → rows[28 + i]? = old[i]?
  wide : ∀ r ∈ rows, r.length = 16
/-- a mark of the blocks hs, which are to be f; the others are these -/
structure Marked (rows old : List (List Int)) (hs : List Int) (f : Int → List Int) : Prop where
  mark : markR rows = hs.length
  homes : ((rows[1]?).getD [] ++ (rows[2]?).getD []).take hs.length = hs
  copies : ∀ (i : Nat) (h : Int), hs[i]? = some h → rows[3 + i]? = some (f h)
  len : rows.length = 28 + old.length
  rest : ∀ i : Nat, i < old.length → (28 + (i : Int)) ∉ hs → rows[28 + i]? = old[i]?
  wide : ∀ r ∈ rows, r.length = 16
structure HsOk (hs : List Int) (n : Nat) (f : Int → List Int) : Prop where
  nd : hs.Nodup
  pos : 1 ≤ hs.length
  few : hs.length ≤ 24
  rng : ∀ h ∈ hs, 28 ≤ h ∧ h < 28 + (n : Int)
  fw : ∀ h ∈ hs, (f h).length = 16
/-- the blocks behind a commit -/
def chg (old : List (List Int)) (hs : List Int) (f : Int → List Int) : List (List Int) := old.mapIdx fun i r => if (28 + (i : Int)) ∈ hs then f (28 + (i : Int)) else r
theorem chg_len (old : List (List Int)) (hs : List Int) (f : Int → List Int) : (chg old hs f).length = old.length := by unfold chg; rw [List.length_mapIdx]
theorem chg_at {old : List (List Int)} {hs : List Int} {f : Int → List Int} {i : Nat} (h : i < old.length) : (chg old hs f)[i]? = if (28 + (i : Int)) ∈ hs then some (f (28 + (i : Int))) else old[i]? := by
  unfold chg
  rw [List.getElem?_mapIdx, List.getElem?_eq_getElem h]
  by_cases c : (28 + (i : Int)) ∈ hs
  · rw [if_pos c, Option.map_some, if_pos c]
  · rw [if_neg c, Option.map_some, if_neg c]
theorem runW_inv (P : List (List Int) → Prop) {s : DS} {W : List Wr} (h0 : P s.rows) (hs : ∀ rows w, w ∈ W → P rows → P (rows.set w.1 w.2)) : P (runW s W).1.rows := by
  induction W generalizing s with
  | nil => exact h0
  | cons w r ih =>
    have e : runW s (w :: r) = if s.falls then (s.fallen, true) else runW (s.wr w) r := rfl
    rw [e]
    by_cases hf : s.falls
    · rw [if_pos hf]; exact h0
    · rw [if_neg hf]; exact ih (hs _ w (.head _) h0) fun rows v hv => hs rows v (.tail _ hv)
theorem set_ne {rows : List (List Int)} {i j : Nat} {r : List Int} (h : i ≠ j) : (rows.set i r)[j]? = rows[j]? := List.getElem?_set_ne h
theorem markR_set {rows : List (List Int)} {i : Nat} {r : List Int} (h : i ≠ 0) : markR (rows.set i r) = markR rows := by unfold markR; rw [set_ne h]
theorem markR_mark {rows : List (List Int)} {m : Int} (h : 0 < rows.length) : markR (rows.set 0 (pad m)) = m := by
  unfold markR
  rw [List.getElem?_set_self h]
  rfl
theorem wide_set {rows : List (List Int)} {i : Nat} {r : List Int} (h : ∀ r ∈ rows, r.length = 16) (hr : r.length = 16) : ∀ q ∈ rows.set i r, q.length = 16 := fun q hq => by
  rcases List.mem_or_eq_of_mem_set hq with z | z
  · exact h q z
  · rw [z]; exact hr
theorem Clean.set {rows old : List (List Int)} (h : Clean rows old) {i : Nat} {r : List Int} (h0 : 0 < i) (h1 : i < 28) (hr : r.length = 16) : Clean (rows.set i r) old :=
  ⟨by rw [markR_set (by omega)]; exact h.mark, by rw [List.length_set]; exact h.len, fun j hj => by rw [set_ne (by omega)]; exact h.rest j hj, wide_set h.wide hr⟩
section
variable {hs : List Int} {f : Int → List Int} {s t : DS} {old : List (List Int)} {b : Bool}
theorem Marked.set {rows : List (List Int)} (h : Marked rows old hs f) (ok : HsOk hs old.length f) {z : Int} (hz : z ∈ hs) : Marked (rows.set z.toNat (f z)) old hs f := by
  have h1 := (ok.rng z hz).1
  have hf := ok.few
  refine ⟨by rw [markR_set (by omega)]; exact h.mark, by rw [set_ne (by omega), set_ne (by omega)]; exact h.homes, fun i w hi => ?_, by rw [List.length_set]; exact h.len, fun i hi hn => ?_, wide_set h.wide (ok.fw z hz)⟩
  · have := (List.getElem?_eq_some_iff.mp hi).1
    rw [set_ne (by omega)]
    exact h.copies i w hi
  · rw [set_ne (fun e => hn (by rw [show (28 + (i : Int)) = z by omega]; exact hz))]
    exact h.rest i hi hn
theorem home_run (M : Marked s.rows old hs f) (ok : HsOk hs old.length f) (h : runW s (hs.map (fun z => (z.toNat, f z)) ++ [(0, pad 0)]) = (t, b)) :
    (b = true → Marked t.rows old hs f) ∧ (b = false → Clean t.rows (chg old hs f)) := by
  obtain ⟨s3, b3, R3⟩ : ∃ s3 b3, runW s (hs.map fun z => (z.toNat, f z)) = (s3, b3) := ⟨_, _, rfl⟩
  have M3 : Marked s3.rows old hs f := by
    have := runW_inv (fun rows => Marked rows old hs f) (W := hs.map fun z => (z.toNat, f z)) M (fun rows w hw hM => by
      obtain ⟨z, hz, rfl⟩ := List.mem_map.mp hw
      exact hM.set ok hz)
    rw [R3] at this
    exact this
  cases b3 with
  | true =>
    rw [runW_stop R3] at h
    cases h
    exact ⟨fun _ => M3, nofun⟩
  | false =>
    rw [runW_go R3] at h
    by_cases hf : s3.falls
    · rw [runW_fall hf] at h
      cases h
      exact ⟨fun _ => M3, nofun⟩
    · rw [runW_one hf] at h
      cases h
      refine ⟨nofun, fun _ => ?_⟩
      show Clean (s3.rows.set 0 (pad 0)) _
      have hl := M3.len
      refine ⟨markR_mark (by omega), by rw [List.length_set, chg_len]; exact hl, fun i hi => ?_, wide_set M3.wide rfl⟩
      rw [chg_len] at hi
      rw [set_ne (by omega), chg_at hi]
      by_cases c : (28 + (i : Int)) ∈ hs
      · rw [if_pos c]
        have hnd : ((hs.map fun z => ((z.toNat, f z) : Wr)).map (·.1)).Nodup := by
          rw [List.map_map]
          refine (List.Pairwise.imp_of_mem (fun {x y} hx hy h => ?_) ok.nd).map _ (fun _ _ h => h)
          have h1 := (ok.rng x hx).1
          have h2 := (ok.rng y hy).1
          show x.toNat ≠ y.toNat
          omega
        have := runW_wrote R3 hnd ((28 + (i : Int)).toNat, f (28 + (i : Int))) (List.mem_map.mpr ⟨_, c, rfl⟩) (by show (28 + (i : Int)).toNat < _; have := M.len; omega)
        rw [show (28 + (i : Int)).toNat = 28 + i by omega] at this
        exact this
      · rw [if_neg c]
        exact M3.rest i hi c
theorem recov_run (M : Marked s.rows old hs f) (ok : HsOk hs old.length f) (h : runW s (recovW s.rows (markOf s).toNat) = (t, b)) :
    (b = true → Marked t.rows old hs f) ∧ (b = false → Clean t.rows (chg old hs f)) := by
  have e : recovW s.rows (markOf s).toNat = hs.map (fun z => (z.toNat, f z)) ++ [(0, pad 0)] := by
    unfold recovW
    rw [markOf_eq, M.mark, Int.toNat_natCast, M.homes, sendW_due M.copies]
  rw [e] at h
  exact home_run M ok h
theorem commit_run (C : Clean s.rows old) (ok : HsOk hs old.length f) (h : runW s (commitW hs f) = (t, b)) :
    (b = true → Clean t.rows old ∨ Marked t.rows old hs f) ∧ (b = false → Clean t.rows (chg old hs f)) := by
  have hfew := ok.few
  have hl := C.len
  have e : commitW hs f = (copyW hs f ++ [(1, (row32 hs).take 16), (2, ((row32 hs).drop 16).take 16)]) ++ ([(0, pad hs.length)] ++ (hs.map (fun z => (z.toNat, f z)) ++ [(0, pad 0)])) := by
    unfold commitW
    simp only [List.append_assoc, List.cons_append, List.nil_append]
  rw [e] at h
  have h32 : (row32 hs).length = hs.length + 32 := by unfold row32; rw [List.length_append, List.length_replicate]
  obtain ⟨s1, b1, R1⟩ : ∃ s1 b1, runW s (copyW hs f ++ [(1, (row32 hs).take 16), (2, ((row32 hs).drop 16).take 16)]) = (s1, b1) := ⟨_, _, rfl⟩
  have C1 : Clean s1.rows old := by
    have := runW_inv (fun rows => Clean rows old) (W := copyW hs f ++ [(1, (row32 hs).take 16), (2, ((row32 hs).drop 16).take 16)]) C (fun rows w hw hC => by
      rcases List.mem_append.mp hw with z | z
      · unfold copyW at z
        obtain ⟨y, hy, rfl⟩ := List.mem_map.mp z
        have h1 := List.snd_lt_of_mem_zipIdx hy
        exact hC.set (by show 0 < 3 + y.2; omega) (by show 3 + y.2 < 28; omega) (ok.fw _ (List.fst_mem_of_mem_zipIdx hy))
      · simp only [List.mem_cons, List.not_mem_nil, or_false] at z
        rcases z with rfl | rfl
        · exact hC.set (by show 0 < 1; decide) (by show 1 < 28; decide) (by rw [List.length_take]; omega)
        · exact hC.set (by show 0 < 2; decide) (by show 2 < 28; decide) (by rw [List.length_take, List.length_drop]; omega))
    rw [R1] at this
    exact this
  cases b1 with
  | true =>
    rw [runW_stop R1] at h
    cases h
    exact ⟨fun _ => .inl C1, nofun⟩
  | false =>
    rw [runW_go R1] at h
    by_cases hf : s1.falls
    · rw [show runW s1 ([(0, pad hs.length)] ++ (hs.map (fun z => (z.toNat, f z)) ++ [(0, pad 0)])) = (s1.fallen, true) from runW_fall hf] at h
      cases h
      exact ⟨fun _ => .inl C1, nofun⟩
    · rw [runW_go (runW_one hf)] at h
      have hnd : ((copyW hs f ++ [(1, (row32 hs).take 16), (2, ((row32 hs).drop 16).take 16)]).map fun w : Wr => w.1).Nodup := by
        rw [List.map_append, copyW_fst]
        refine List.nodup_append.mpr ⟨List.Pairwise.map _ (fun a b h => by omega) List.nodup_range, by show [1, 2].Nodup; decide, fun a ha b hb e => ?_⟩
        obtain ⟨y, _, rfl⟩ := List.mem_map.mp ha
        simp only [List.map_cons, List.map_nil, List.mem_cons, List.not_mem_nil, or_false] at hb
        omega
      have w1 := runW_wrote R1 hnd (1, (row32 hs).take 16) (List.mem_append_right _ (.head _)) (by show 1 < _; omega)
      have w2 := runW_wrote R1 hnd (2, ((row32 hs).drop 16).take 16) (List.mem_append_right _ (.tail _ (.head _))) (by show 2 < _; omega)
      have M2 : Marked (s1.wr (0, pad hs.length)).rows old hs f := by
        have hl1 := C1.len
        show Marked (s1.rows.set 0 (pad hs.length)) old hs f
        refine ⟨markR_mark (by omega), ?_, fun i z hi => ?_, by rw [List.length_set]; exact hl1, fun i hi _ => by rw [set_ne (by omega)]; exact C1.rest i hi, wide_set C1.wide rfl⟩
        · rw [set_ne (by decide), set_ne (by decide)]
          dsimp only at w1 w2
          rw [w1, w2]
          show ((row32 hs).take 16 ++ ((row32 hs).drop 16).take 16).take hs.length = hs
          rw [← List.take_add, List.take_take, show min hs.length (16 + 16) = hs.length by omega]
          unfold row32
          exact List.take_left' rfl
        · have hil := (List.getElem?_eq_some_iff.mp hi).1
          rw [set_ne (by omega)]
          exact runW_wrote R1 hnd (3 + i, f z) (List.mem_append_left _ (List.mem_of_getElem? (copyW_at hi))) (by show 3 + i < _; omega)
      obtain ⟨x, y⟩ := home_run M2 ok h
      exact ⟨fun z => .inr (x z), y⟩
end
/-- without a fall ahead all is done -/
theorem runW_all {s : DS} (hl : s.left = none) (hd : s.down = false) : ∀ W : List Wr, ∃ t, runW s W = (t, false) ∧ t.left = none ∧ t.down = false ∧ t.done = s.done + W.length := by
  intro W
  induction W generalizing s with
  | nil => exact ⟨s, rfl, hl, hd, by simp⟩
  | cons w r ih =>
    have hf : ¬ s.falls := by unfold DS.falls; rw [hl, hd]; simp
    have e : runW s (w :: r) = if s.falls then (s.fallen, true) else runW (s.wr w) r := rfl
    obtain ⟨t, h1, h2, h3, h4⟩ := ih (s := s.wr w) (by show s.left.map _ = none; rw [hl]; rfl) hd
    refine ⟨t, by rw [e, if_neg hf]; exact h1, h2, h3, ?_⟩
    rw [h4, List.length_cons]
    show s.done + 1 + _ = _
    omega
/-- behind so many writes more it falls -/
theorem runW_left {s t : DS} {k : Int} {b : Bool} (hl : s.left = some k) (hk : 0 ≤ k) (hd : s.down = false) {W : List Wr} (h : runW s W = (t, b)) : b = decide (k < W.length) := by
  induction W generalizing s k with
  | nil =>
    cases h
    exact (decide_eq_false (by simp only [List.length_nil]; omega)).symm
  | cons w r ih =>
    have e : runW s (w :: r) = if s.falls then (s.fallen, true) else runW (s.wr w) r := rfl
    rw [e] at h
    by_cases hf : s.falls
    · rw [if_pos hf] at h
      cases h
      rcases hf with z | z
      · rw [hd] at z; cases z
      · rw [hl] at z
        cases z
        exact (decide_eq_true (by simp only [List.length_cons]; omega)).symm
    · rw [if_neg hf] at h
      have hk0 : k ≠ 0 := fun z => hf (.inr (by rw [hl, z]))
      rw [ih (s := s.wr w) (k := k - 1) (by show s.left.map _ = _; rw [hl]; rfl) (by omega) hd h, List.length_cons]
      by_cases c : k < (r.length : Int) + 1
      · rw [decide_eq_true (by omega), decide_eq_true (by omega)]
      · rw [decide_eq_false (by omega), decide_eq_false (by omega)]
theorem Clean.drop {rows old : List (List Int)} (h : Clean rows old) : rows.drop 28 = old := by
  refine List.ext_getElem? fun i => ?_
  rw [List.getElem?_drop]
  by_cases c : i < old.length
  · exact h.rest i c
  · rw [List.getElem?_eq_none (by have := h.len; omega), List.getElem?_eq_none (by omega)]
theorem Clean.jok {s : DS} {old : List (List Int)} (h : Clean s.rows old) (hl : old.length ≤ 900) : JOk s :=
  ⟨by have := h.len; omega, by have := h.len; omega, h.wide, by rw [markOf_eq, h.mark]; decide, by rw [markOf_eq, h.mark]; decide, fun z hz => by rw [markOf_eq, h.mark] at hz; simp at hz⟩
theorem Marked.jok {s : DS} {old : List (List Int)} {hs : List Int} {f : Int → List Int} (h : Marked s.rows old hs f) (ok : HsOk hs old.length f) (hl : old.length ≤ 900) : JOk s :=
  ⟨by have := h.len; omega, by have := h.len; omega, h.wide, by rw [markOf_eq, h.mark]; omega, by rw [markOf_eq, h.mark]; have := ok.few; omega, fun z hz => by
    rw [markOf_eq, h.mark, Int.toNat_natCast, h.homes] at hz
    have := ok.rng z hz
    have := h.len
    omega⟩
/-- the blocks due, by a dict's pairs -/
def fOf (ps : List (Int × List Int)) (k : Int) : List Int := rowOf ps k []
theorem lookup_mem {ps : List (Int × List Int)} {k : Int} {r : List Int} (h : ps.lookup k = some r) : (k, r) ∈ ps := by
  induction ps with
  | nil => cases h
  | cons x q ih =>
    obtain ⟨k', p'⟩ := x
    rw [List.lookup_cons] at h
    cases e : k == k' with
    | true => rw [e] at h; cases h; rw [eq_of_beq e]; exact .head _
    | false => rw [e] at h; exact .tail _ (ih h)
theorem lookup_some {ps : List (Int × List Int)} {k : Int} (h : k ∈ ps.map (·.1)) : ∃ r, ps.lookup k = some r := by
  induction ps with
  | nil => cases h
  | cons x q ih =>
    obtain ⟨k', p'⟩ := x
    rw [List.lookup_cons]
    cases e : k == k' with
    | true => exact ⟨_, rfl⟩
    | false =>
      refine ih ?_
      rcases List.mem_cons.mp h with z | z
      · rw [z] at e; simp at e
      · exact z
theorem lookup_none {ps : List (Int × List Int)} {k : Int} (h : k ∉ ps.map (·.1)) : ps.lookup k = none := by
  cases e : ps.lookup k with
  | none => rfl
  | some r => exact absurd (List.mem_map.mpr ⟨_, lookup_mem e, rfl⟩) h
theorem lookup_nd {ps : List (Int × List Int)} {k : Int} {r : List Int} (nd : (ps.map (·.1)).Nodup) (h : (k, r) ∈ ps) : ps.lookup k = some r := by
  induction ps with
  | nil => cases h
  | cons x q ih =>
    obtain ⟨k', p'⟩ := x
    rw [List.map_cons] at nd
    obtain ⟨n1, n2⟩ := List.nodup_cons.mp nd
    rw [List.lookup_cons]
    rcases List.mem_cons.mp h with z | z
    · cases z; simp
    · have hne : k ≠ k' := fun e => n1 (e ▸ List.mem_map.mpr ⟨_, z, rfl⟩)
      rw [show (k == k') = false by simpa using hne]
      exact ih n2 z
theorem Ch.has {ch ch' : Ch} (hp : ch'.pure = ch.pure) {z : Int} (hz : z ∈ ch.pure.map (·.1)) : ∃ q, ch'.lookup z = some q ∧ q.2 = fOf ch.pure z ∧ (z, q) ∈ ch' := by
  obtain ⟨r, hr⟩ := lookup_some hz
  have e := Ch.look_pure ch' z
  rw [hp, hr] at e
  cases e2 : ch'.lookup z with
  | none => rw [e2] at e; cases e
  | some q =>
    rw [e2] at e
    refine ⟨q, rfl, ?_, Ch.look_mem e2⟩
    unfold fOf rowOf
    rw [hr]
    exact (Option.some.inj e).symm
theorem ChOk.hs {ps : List (Int × List Int)} {n : Nat} (h : ChOk ps n) {hs : List Int} (hp : hs.Perm (ps.map (·.1))) : HsOk hs n (fOf ps) := by
  refine ⟨hp.nodup_iff.mpr h.nd, ?_, ?_, fun z hz => ?_, fun z hz => ?_⟩
  · rw [hp.length_eq, List.length_map]; exact h.one
  · rw [hp.length_eq, List.length_map]; exact h.few
  · exact h.key z (hp.mem_iff.mp hz)
  · obtain ⟨r, hr⟩ := lookup_some (hp.mem_iff.mp hz)
    unfold fOf rowOf
    rw [hr]
    exact h.wide _ (lookup_mem hr)
theorem ChOk.chg {ps : List (Int × List Int)} {hs : List Int} (hp : hs.Perm (ps.map (·.1))) (old : List (List Int)) : chg old hs (fOf ps) = changedR old ps := by
  unfold Ow.chg changedR
  refine List.ext_getElem? fun i => ?_
  rw [List.getElem?_mapIdx, List.getElem?_mapIdx]
  cases old[i]? with
  | none => rfl
  | some r =>
    rw [Option.map_some, Option.map_some]
    congr 1
    by_cases c : (28 + (i : Int)) ∈ hs
    · obtain ⟨q, hq⟩ := lookup_some (hp.mem_iff.mp c)
      rw [if_pos c]
      unfold fOf rowOf
      rw [hq]
      rfl
    · rw [if_neg c]
      unfold rowOf
      rw [lookup_none (fun z => c (hp.mem_iff.mpr z))]
      rfl

/-- the writes of a recover, none where there is no mark -/
def recW (s : DS) : List Wr := if markOf s = 0 then [] else recovW s.rows (markOf s).toNat
/-- what recovers keep: P of the rows -/
structure Keeps (P : List (List Int) → Prop) : Prop where
  ok : ∀ s : DS, P s.rows → JOk s
  run : ∀ (s t : DS) (b : Bool), P s.rows → runW s (recW s) = (t, b) → P t.rows ∧ (b = false → markOf t = 0)
/-- what a commit is handed -/
structure Handed (K : PySem.W.Frag) (H : Hp) (p : Addr) (d : Dk) (c : Addr) (ks : List Int) (f : Int → List Int) (kvs : List (Key × V)) : Prop where
  few : ks.length ≤ 24
  rng : ∀ z ∈ ks, 28 ≤ z ∧ z < d.bs.length
  at_ : H c = some (.dK kvs)
  keys : kvs.map (·.1) = ks.map Sum.inl
  rows : ∀ z ∈ ks, ∃ a, valV kvs (Sum.inl z) = some (.ref a) ∧ a ∉ adr (cDk K p d) ∧ H a = some (.lst ((f z).map V.int))
  out : c ∉ adr (cDk K p d)
def sp__law_fell (K : PySem.W.Frag) : Sp := sp2 fun x y H Q _ => ∃ (p : Addr) (d : Dk) (Wc : List Wr → Prop), x = .ref p ∧ 28 ≤ d.bs.length ∧ d.bs.length ≤ 1000 ∧ d.down = false ∧ Own H H (adr (cDk K p d)) (cDk K p d) ∧
  ((y = .non ∧ JOk d.abs ∧ Wc (recW d.abs)) ∨ (∃ c ks f kvs, y = .ref c ∧ Handed K H p d c ks f kvs ∧ ∀ hs, hs.Perm ks → hs.Pairwise (· ≤ ·) → Wc (commitW hs f))) ∧
  ∀ (H' : Hp) (d' : Dk) (W : List Wr) (b : Bool), Wc W → Own H H' (adr (cDk K p d)) (cDk K p d') → runW d.abs W = (d'.abs, b) → Q (.bl b) H'
def sp__law_mended (K : PySem.W.Frag) : Sp := sp1 fun x H Q _ => ∃ (p : Addr) (d : Dk) (P : List (List Int) → Prop), x = .ref p ∧ d.left = none ∧ d.down = false ∧ Keeps P ∧ P d.abs.rows ∧ Own H H (adr (cDk K p d)) (cDk K p d) ∧
  ∀ (H' : Hp) (d' : Dk), Own H H' (adr (cDk K p d)) (cDk K p d') → runW d.abs (recW d.abs) = (d'.abs, false) → P d'.abs.rows → markOf d'.abs = 0 → d'.left = none → d'.down = false → Q (.int (markOf d.abs)) H'
theorem sc__law_fell : FnScope ["_law_disk_here", "_law_changes_here", "_law_fell_here"] ["_law_disk_here", "_law_changes_here"] (defScope s__law_fell) := ⟨rfl, rfl, rfl, by decide +kernel, rfl, by decide +kernel, by decide +kernel⟩
theorem ok__law_fell {P : Program} {w : World} {K : PySem.W.Frag} {mg : Str → Option Value} {base : Heap} (T : Txt K mg) : Cee P w K mg base 5 (He.fAd K ("_law_fell", none)) ["_law_disk_here", "_law_changes_here"] (sp__law_fell K) := by
  have c_recover : Cee P w K mg base 4 (He.fAd K ("recover", none)) ["disk"] (sp_recover K) := ok_recover T
  have c_commit : Cee P w K mg base 4 (He.fAd K ("commit", none)) ["disk", "changes"] (sp_commit K) := ok_commit T
  refine cee_of T.d__law_fell sc__law_fell (fun _ _ _ _ _ _ us hl => match us, hl with | [_, _], _ => rfl) (fun vs H Q E h => sp2_len h) (fun cdv A outer s H vs Q E hr h => ⟨_, (pss_cons (ps_set (i := 2) sc__law_fell.nd rfl (Or.inl rfl) pe_bl) (pss_cons (PS.box (ps_try_only rfl rfl ⟨rfl, by decide, .inl T.g_Fallen⟩ (takes_of rfl rfl rfl rfl) (fun W pn xe tk pe => (pss_one (ps_if (pt_cmpR op_isN (pv 1) pe_non (nomark _)) (pss_one (ps_expr (pe_f c_recover (hr.mono (by decide)) tk (by rfl) T.g_recover (pa_cons (pv 0) pa_nil)))) (pss_one (ps_expr (pe_f c_commit (hr.mono (by decide)) tk (by rfl) T.g_commit (pa_cons (pv 0) (pa_cons (pv 1) pa_nil)))))))) (fun a oe cls d pn hz hf => (pss_one (ps_set (i := 2) sc__law_fell.nd rfl (Or.inl rfl) pe_bl))))) (pss_one (ps_ret (pv 2))))), ?_⟩)
  obtain ⟨v0, v1, rfl, h⟩ := h
  dsimp only [cxOf, L2.start]
  obtain ⟨p, d, Wc, rfl, hb0, hb1, hd, O, hy, k⟩ := h
  walk_at "s"
  refine cutS (fun σ' H2 => ∃ (d' : Dk) (W : List Wr) (b : Bool), Wc W ∧ σ' = [some (.ref p), some v1, some (.bl b)] ∧ Own H H2 (adr (cDk K p d)) (cDk K p d') ∧ runW d.abs W = (d'.abs, b)) (fun nx hn => ?_) ?_
  · rcases hy with ⟨rfl, J, hW⟩ | ⟨c, ks, f, kvs, rfl, hh, hW⟩
    · walk_at "s"
      refine ask1 ⟨p, d, rfl, J, hd, O, fun hm H2 O2 => ?_, fun hm H2 d2 O2 R => ?_, fun hm H2 d2 O2 R => ?_⟩
      · exact hn _ _ ⟨d, _, false, hW, rfl, O.callN O2, by unfold recW; rw [if_pos hm]; rfl⟩
      · exact hn _ _ ⟨d2, _, false, hW, rfl, O2, by unfold recW; rw [if_neg hm]; exact R⟩
      · walk_at "s"
        refine ⟨fun _ e he => ?_, nofun⟩
        walk_at "s"
        exact hn _ _ ⟨d2, _, true, hW, rfl, O2, by unfold recW; rw [if_neg hm]; exact R⟩
    · walk_at "s"
      refine ask2 ⟨p, c, d, kvs, ks, f, rfl, rfl, hh.few, hh.rng, hb0, hb1, hd, hh.at_, hh.keys, hh.rows, hh.out, O, fun H2 d2 hs hp hq O2 R => ?_, fun H2 d2 hs hp hq O2 R => ?_⟩
      · exact hn _ _ ⟨d2, _, false, hW hs hp hq, rfl, O2, R⟩
      · walk_at "s"
        refine ⟨fun _ e he => ?_, nofun⟩
        walk_at "s"
        exact hn _ _ ⟨d2, _, true, hW hs hp hq, rfl, O2, R⟩
  rintro σ' H2 ⟨d', W, b, hW, rfl, O2, R⟩
  walk_at "s"
  exact k _ d' W b hW O2 R
theorem sc__law_mended : FnScope ["_law_disk_here", "_law_told", "_law_kept"] ["_law_disk_here"] (defScope s__law_mended) := ⟨rfl, rfl, rfl, by decide +kernel, rfl, by decide +kernel, by decide +kernel⟩
theorem ok__law_mended {P : Program} {w : World} {K : PySem.W.Frag} {mg : Str → Option Value} {base : Heap} (T : Txt K mg) : Cee P w K mg base 5 (He.fAd K ("_law_mended", none)) ["_law_disk_here"] (sp__law_mended K) := by
  have c_recover : Cee P w K mg base 4 (He.fAd K ("recover", none)) ["disk"] (sp_recover K) := ok_recover T
  have c_Disk_image : Cee P w K mg base 1 (He.fAd K ("Disk", some "image")) ["self"] (sp_Disk_image K) := ok_Disk_image T
  have c__law_count_is : Cee P w K mg base 1 (He.fAd K ("_law_count_is", none)) ["_law_found", "_law_due"] (sp__law_count_is K) := ok__law_count_is T
  have c__law_rows_are : Cee P w K mg base 2 (He.fAd K ("_law_rows_are", none)) ["_law_found", "_law_due"] (sp__law_rows_are K) := ok__law_rows_are T
  refine cee_of T.d__law_mended sc__law_mended (fun _ _ _ _ _ _ us hl => match us, hl with | [_], _ => rfl) (fun vs H Q E h => sp1_len h) (fun cdv A outer s H vs Q E hr h => ⟨_, (pss_cons (ps_set (i := 1) sc__law_mended.nd rfl (Or.inl rfl) (pe_f c_recover (hr.mono (by decide)) (takes_of rfl rfl rfl rfl) (by rfl) T.g_recover (pa_cons (pv 0) pa_nil))) (pss_cons (ps_set (i := 2) sc__law_mended.nd rfl (Or.inl rfl) (pe_slice sl_list (pe_m0 (pv 0) T.c_Disk T.m_Disk_image c_Disk_image (hr.mono (by decide)) (takes_of rfl rfl rfl rfl)) (po_some pe_int) po_none)) (pss_cons (PS.box (ps_if (PW.pt (pw_or (pt_not (pt_val (pe_f c__law_count_is (hr.mono (by decide)) (takes_of rfl rfl rfl rfl) (by rfl) T.g__law_count_is (pa_cons (pe_f c_recover (hr.mono (by decide)) (takes_of rfl rfl rfl rfl) (by rfl) T.g_recover (pa_cons (pv 0) pa_nil)) (pa_cons pe_int pa_nil))))) (pw_or1 (pt_not (pt_val (pe_f c__law_rows_are (hr.mono (by decide)) (takes_of rfl rfl rfl rfl) (by rfl) T.g__law_rows_are (pa_cons (pe_slice sl_list (pe_m0 (pv 0) T.c_Disk T.m_Disk_image c_Disk_image (hr.mono (by decide)) (takes_of rfl rfl rfl rfl)) (po_some pe_int) po_none) (pa_cons (pv 2) pa_nil)))))))) (pss_one (ps_ret pe_non)) pss_nil)) (pss_one (ps_ret (pv 1)))))), ?_⟩)
  obtain ⟨v0, rfl, h⟩ := h
  dsimp only [cxOf, L2.start]
  obtain ⟨p, d, P, rfl, hl, hd, hP, hPd, O, k⟩ := h
  have J := hP.ok _ hPd
  have hdl : d.bs.length ≤ 1000 := by rw [← Dk.lenr]; exact J.few
  obtain ⟨t, R, t1, t2, _⟩ := runW_all (s := d.abs) hl hd (recW d.abs)
  have main : ∀ H2 d2, Own H H2 (adr (cDk K p d)) (cDk K p d2) → runW d.abs (recW d.abs) = (d2.abs, false) → d2.left = none ∧ d2.down = false ∧ P d2.abs.rows ∧ markOf d2.abs = 0 ∧ JOk d2.abs := fun H2 d2 _ R2 => by
    have e : d2.abs = t := (Prod.mk.inj (R2.symm.trans R)).1
    obtain ⟨h1, h2⟩ := hP.run _ _ _ hPd R2
    subst e
    exact ⟨t1, t2, h1, h2 rfl, hP.ok _ h1⟩
  have hno : ∀ (H2 : Hp) (d2 : Dk), runW d.abs (recW d.abs) = (d2.abs, true) → False := fun _ _ z => by cases z.symm.trans R
  walk_at "s"
  refine ask1 ⟨p, d, rfl, J, hd, O, fun hm H2 O2 => ?_, fun hm H2 d2 O2 R => ?_, fun hm H2 d2 O2 R => (hno H2 d2 (by unfold recW; rw [if_neg hm]; exact R)).elim⟩
  · have R2 : runW d.abs (recW d.abs) = (d.abs, false) := by unfold recW; rw [if_pos hm]; rfl
    have O3 : Own H H2 (adr (cDk K p d)) (cDk K p d) := O.callN O2
    obtain ⟨l2, w2, p2, m2, j2⟩ := main H2 d O3 R2
    have hl2 : d.bs.length ≤ 1000 := by rw [← Dk.lenr]; exact j2.few
    walk_at "s"
    refine ask1 ⟨p, d, rfl, hl2, O3.self, fun H4 b4 rs4 O4 h4 => ?_⟩
    have O5 := O3.callN O4
    walk_at "s"
    intro t4 ht4
    rw [show cutV (rs4.map fun x : Pg => V.ref x.1) (some 28) none = (rs4.drop 28).map fun x : Pg => V.ref x.1 by rw [List.map_drop]; exact cutV_from _ 28]
    have O6 := O5.new (o := .lst ((rs4.drop 28).map fun x : Pg => V.ref x.1)) ht4
    walk_at "b"
    refine ask1 ⟨p, d, rfl, j2, w2, O6.blk (s' := []) (.there (.there (.app .all))), fun _ H7 O7 => ?_, fun z => absurd m2 z, fun z => absurd m2 z⟩
    have O8 := O6.callN O7
    walk_at "s"
    refine ask2 ⟨some 0, 0, rfl, rfl, ?_⟩
    walk_at "s"
    refine ask1 ⟨p, d, rfl, hl2, O8.blk (s' := []) (.there (.there (.app .all))), fun H9 b9 rs9 O9 h9 => ?_⟩
    have O10 := O8.callN O9
    walk_at "s"
    intro t9 ht9
    rw [show cutV (rs9.map fun x : Pg => V.ref x.1) (some 28) none = (rs9.drop 28).map fun x : Pg => V.ref x.1 by rw [List.map_drop]; exact cutV_from _ 28]
    have O11 := O10.new (o := .lst ((rs9.drop 28).map fun x : Pg => V.ref x.1)) ht9
    have h9l := congrArg List.length h9
    rw [List.length_map, List.length_map] at h9l
    walk_at "s"
    refine ask2 ⟨t9, t4, rs9.drop 28, rs4.drop 28, rfl, rfl, by rw [List.length_drop]; omega, fun r hr => ?_, O11.get (.head _), O11.get (.tail _ (.tail _ (List.mem_append_right _ (.head _)))), O11.rows fun r h => .tail _ (.tail _ (List.mem_append_left _ (List.mem_map.mpr ⟨r, List.mem_of_mem_drop h, rfl⟩))), O11.rows fun r h => .tail _ (.tail _ (List.mem_append_right _ (.tail _ (.tail _ (List.mem_append_left _ (List.mem_map.mpr ⟨r, List.mem_of_mem_drop h, rfl⟩)))))), fun H12 O12 => ?_⟩
    · have h1 : r.2 ∈ d.abs.rows := (show rs9.map (·.2) = d.abs.rows from h9) ▸ List.mem_map.mpr ⟨r, List.mem_of_mem_drop hr, rfl⟩
      rw [j2.wide _ h1]; decide
    rw [decide_eq_true (show (rs9.drop 28).map (·.2) = (rs4.drop 28).map (·.2) by rw [List.map_drop, List.map_drop, h9, h4])]
    walk_at "s"
    have O13 := O11.callN O12
    rw [hm] at k
    refine k H12 d (O13.drop ?_) R2 p2 m2 l2 w2
    refine .cons _ (.cons _ (List.Sublist.trans ?_ (List.sublist_append_right _ _)))
    exact .cons _ (.cons _ (List.sublist_append_right _ _))
  · have R2 : runW d.abs (recW d.abs) = (d2.abs, false) := by unfold recW; rw [if_neg hm]; exact R
    obtain ⟨l2, w2, p2, m2, j2⟩ := main H2 d2 O2 R2
    have hl2 : d2.bs.length ≤ 1000 := by rw [← Dk.lenr]; exact j2.few
    walk_at "s"
    refine ask1 ⟨p, d2, rfl, hl2, O2.self, fun H4 b4 rs4 O4 h4 => ?_⟩
    have O5 := O2.callN O4
    walk_at "s"
    intro t4 ht4
    rw [show cutV (rs4.map fun x : Pg => V.ref x.1) (some 28) none = (rs4.drop 28).map fun x : Pg => V.ref x.1 by rw [List.map_drop]; exact cutV_from _ 28]
    have O6 := O5.new (o := .lst ((rs4.drop 28).map fun x : Pg => V.ref x.1)) ht4
    walk_at "b"
    refine ask1 ⟨p, d2, rfl, j2, w2, O6.blk (s' := []) (.there (.there (.app .all))), fun _ H7 O7 => ?_, fun z => absurd m2 z, fun z => absurd m2 z⟩
    have O8 := O6.callN O7
    walk_at "s"
    refine ask2 ⟨some 0, 0, rfl, rfl, ?_⟩
    walk_at "s"
    refine ask1 ⟨p, d2, rfl, hl2, O8.blk (s' := []) (.there (.there (.app .all))), fun H9 b9 rs9 O9 h9 => ?_⟩
    have O10 := O8.callN O9
    walk_at "s"
    intro t9 ht9
    rw [show cutV (rs9.map fun x : Pg => V.ref x.1) (some 28) none = (rs9.drop 28).map fun x : Pg => V.ref x.1 by rw [List.map_drop]; exact cutV_from _ 28]
    have O11 := O10.new (o := .lst ((rs9.drop 28).map fun x : Pg => V.ref x.1)) ht9
    have h9l := congrArg List.length h9
    rw [List.length_map, List.length_map] at h9l
    walk_at "s"
    refine ask2 ⟨t9, t4, rs9.drop 28, rs4.drop 28, rfl, rfl, by rw [List.length_drop]; omega, fun r hr => ?_, O11.get (.head _), O11.get (.tail _ (.tail _ (List.mem_append_right _ (.head _)))), O11.rows fun r h => .tail _ (.tail _ (List.mem_append_left _ (List.mem_map.mpr ⟨r, List.mem_of_mem_drop h, rfl⟩))), O11.rows fun r h => .tail _ (.tail _ (List.mem_append_right _ (.tail _ (.tail _ (List.mem_append_left _ (List.mem_map.mpr ⟨r, List.mem_of_mem_drop h, rfl⟩)))))), fun H12 O12 => ?_⟩
    · have h1 : r.2 ∈ d2.abs.rows := (show rs9.map (·.2) = d2.abs.rows from h9) ▸ List.mem_map.mpr ⟨r, List.mem_of_mem_drop hr, rfl⟩
      rw [j2.wide _ h1]; decide
    rw [decide_eq_true (show (rs9.drop 28).map (·.2) = (rs4.drop 28).map (·.2) by rw [List.map_drop, List.map_drop, h9, h4])]
    walk_at "s"
    have O13 := O11.callN O12
    refine k H12 d2 (O13.drop ?_) R2 p2 m2 l2 w2
    refine .cons _ (.cons _ (List.Sublist.trans ?_ (List.sublist_append_right _ _)))
    exact .cons _ (.cons _ (List.sublist_append_right _ _))

/-- the blocks of old, or a mark, or all changed -/
abbrev PhP (old : List (List Int)) (hs : List Int) (f : Int → List Int) : List (List Int) → Prop := fun rows => Clean rows old ∨ Marked rows old hs f ∨ Clean rows (chg old hs f)
theorem recW_clean {s : DS} {old : List (List Int)} (C : Clean s.rows old) : recW s = [] := if_pos C.mark
theorem recW_marked {s : DS} {old : List (List Int)} {hs : List Int} {f : Int → List Int} (M : Marked s.rows old hs f) (ok : HsOk hs old.length f) : recW s = recovW s.rows (markOf s).toNat := if_neg (by rw [markOf_eq, M.mark]; have := ok.pos; omega)
theorem keeps_ph {old : List (List Int)} {hs : List Int} {f : Int → List Int} (ok : HsOk hs old.length f) (hl : old.length ≤ 900) : Keeps (PhP old hs f) := by
  refine ⟨fun s h => ?_, fun s t b h R => ?_⟩
  · rcases h with C | M | C
    · exact C.jok hl
    · exact M.jok ok hl
    · exact C.jok (by rw [chg_len]; exact hl)
  · rcases h with C | M | C
    · rw [recW_clean C] at R
      cases R
      exact ⟨.inl C, fun _ => C.mark⟩
    · rw [recW_marked M ok] at R
      obtain ⟨h1, h2⟩ := recov_run M ok R
      cases b with
      | true => exact ⟨.inr (.inl (h1 rfl)), nofun⟩
      | false => exact ⟨.inr (.inr (h2 rfl)), fun _ => (h2 rfl).mark⟩
    · rw [recW_clean C] at R
      cases R
      exact ⟨.inr (.inr C), fun _ => C.mark⟩
/-- what a recover tells that does not fall, and what stands then -/
theorem told_ph {old : List (List Int)} {hs : List Int} {f : Int → List Int} (ok : HsOk hs old.length f) {s t : DS} (h : PhP old hs f s.rows) (R : runW s (recW s) = (t, false)) :
    (markOf s = 0 ∧ t = s ∧ (Clean t.rows old ∨ Clean t.rows (chg old hs f))) ∨ (markOf s = hs.length ∧ Clean t.rows (chg old hs f)) := by
  rcases h with C | M | C
  · rw [recW_clean C] at R
    cases R
    exact .inl ⟨C.mark, rfl, .inl C⟩
  · rw [recW_marked M ok] at R
    exact .inr ⟨M.mark, (recov_run M ok R).2 rfl⟩
  · rw [recW_clean C] at R
    cases R
    exact .inl ⟨C.mark, rfl, .inr C⟩

def sp__law_carried (K : PySem.W.Frag) : Sp := sp1 fun x H Q _ => ∃ (p : Addr) (d : Dk), x = .ref p ∧ d.bs.length ≤ 1000 ∧ (∀ r ∈ d.abs.rows, r.length = 16) ∧ Own H H (adr (cDk K p d)) (cDk K p d) ∧
  ∀ (H' : Hp) (p' : Addr) (d' : Dk), Own H H' [] (cDk K p' d') → d'.abs.rows = d.abs.rows → d'.left = none → d'.down = false → Q (.ref p') H'
theorem sc__law_carried : FnScope ["_law_disk_here", "_law_image", "_law_other", "_law_n", "_law_numbers_here"] ["_law_disk_here"] (defScope s__law_carried) := ⟨rfl, rfl, rfl, by decide +kernel, rfl, by decide +kernel, by decide +kernel⟩
theorem ok__law_carried {P : Program} {w : World} {K : PySem.W.Frag} {mg : Str → Option Value} {base : Heap} (T : Txt K mg) : Cee P w K mg base 3 (He.fAd K ("_law_carried", none)) ["_law_disk_here"] (sp__law_carried K) := by
  have c_Disk_image : Cee P w K mg base 1 (He.fAd K ("Disk", some "image")) ["self"] (sp_Disk_image K) := ok_Disk_image T
  have c_Disk___init__ : Cee P w K mg base 1 (He.fAd K ("Disk", some "__init__")) ["self", "many"] (sp_Disk___init__ K) := ok_Disk___init__ T
  have c_Disk_write : Cee P w K mg base 2 (He.fAd K ("Disk", some "write")) ["self", "n", "numbers"] (sp_Disk_write K) := ok_Disk_write T
  refine cee_of T.d__law_carried sc__law_carried (fun _ _ _ _ _ _ us hl => match us, hl with | [_], _ => rfl) (fun vs H Q E h => sp1_len h) (fun cdv A outer s H vs Q E hr h => ⟨_, (pss_cons (ps_set (i := 1) sc__law_carried.nd rfl (Or.inl rfl) (pe_m0 (pv 0) T.c_Disk T.m_Disk_image c_Disk_image (hr.mono (by decide)) (takes_of rfl rfl rfl rfl))) (pss_cons (ps_set (i := 2) sc__law_carried.nd rfl (Or.inl rfl) (pe_n T.m_Disk c_Disk___init__ (hr.mono (by decide)) (by rfl) T.g_Disk (pa_cons (pe_callB call_len_seq (by rfl) T.n_len (by decide +kernel) (pa_cons (pv 1) pa_nil)) pa_nil))) (pss_cons (ps_for (passes_of rfl) rfl (PI.box (pi_enum (by rfl) T.n_enumerate (pa_cons (pv 1) pa_nil))) (pg_tup rfl (pgs_cons (pg_name (i := 3) sc__law_carried.nd rfl (Or.inl rfl)) (pgs_cons (pg_name (i := 4) sc__law_carried.nd rfl (Or.inl rfl)) pgs_nil))) (pss_one (ps_if (pt_cmpR (op_neD hr.units) (pv 4) (pe_op op_rep (pe_lst (pa_cons pe_int pa_nil)) pe_int) (nomark _)) (pss_one (ps_expr (pe_m (pv 2) T.c_Disk T.m_Disk_write c_Disk_write (hr.mono (by decide)) (takes_of rfl rfl rfl rfl) (pa_cons (pv 3) (pa_cons (pe_callTy call_list_of (by rfl) T.n_list (by decide +kernel) (pa_cons (pv 4) pa_nil)) pa_nil))))) pss_nil))) (pss_one (ps_ret (pv 2)))))), ?_⟩)
  obtain ⟨v0, rfl, h⟩ := h
  dsimp only [cxOf, L2.start]
  obtain ⟨p0, d0, rfl, hl, hw, O0, k⟩ := h
  walk_at "s"
  refine ask1 ⟨p0, d0, rfl, hl, O0, fun H1 b rs O1 hrs => ?_⟩
  have hrl : rs.length = d0.bs.length := by have := congrArg List.length hrs; rw [List.length_map, List.length_map] at this; exact this
  have hb := O1.get (a := b) (.head _)
  have hr : RowsAt H1 rs := O1.rows fun r h => .tail _ (List.mem_map.mpr ⟨r, h, rfl⟩)
  walk_at "s"
  intro p dp h1 h2 hne
  have O2 := O1.inst (C := He.ga K "Disk") h1 h2 hne
  refine ask2 ⟨p, dp, rs.length, rfl, ?_, by omega, O2.blk (s := [(p, .ins (He.ga K "Disk") dp [])]) (s' := []) (cs' := (b, .lst (rs.map fun x => V.ref x.1)) :: rs.map pcel) .one, fun H3 bl bs hO hbs => ?_⟩
  · show V.int (((rs.map fun x : Pg => V.ref x.1).length : Nat)) = _
    rw [List.length_map]
  have O3 : Own H H3 [] (cDk K p ⟨dp, bl, bs, 0, none, false⟩ ++ ((b, .lst (rs.map fun x => V.ref x.1)) :: rs.map pcel)) := O2.call (s := [(p, .ins (He.ga K "Disk") dp [])]) (cs' := cDk K p ⟨dp, bl, bs, 0, none, false⟩ ++ ((b, .lst (rs.map fun x => V.ref x.1)) :: rs.map pcel)) .one hO
  clear O2 hO
  walk_at "s"
  refine forW (walk_enum (K := K) (a := b) (xs := rs.map fun x : Pg => V.ref x.1)) (fun j σ H' => ∃ (d : Dk) (v3 v4 : Option V), σ = [some (.ref p0), some (.ref b), some (.ref p), v3, v4] ∧ Own H H' [] (cDk K p d ++ ((b, .lst (rs.map fun x => V.ref x.1)) :: rs.map pcel)) ∧ d.left = none ∧ d.down = false ∧ d.bs.length = rs.length ∧ ∀ i : Nat, d.abs.rows[i]? = if i < j then (rs[i]?).map (·.2) else if i < rs.length then some nought else none)
    ⟨⟨dp, bl, bs, 0, none, false⟩, _, _, rfl, O3, rfl, rfl, ?_, ?_⟩ (fun j σ H' _ ⟨_, _, _, _, O', _⟩ => SqL.of (O'.get (List.mem_append_right _ (.head _)))) ?_ ?_
  · have := congrArg List.length hbs
    rw [List.length_map, List.length_replicate] at this
    exact this
  · intro i
    show (bs.map (·.2))[i]? = _
    rw [hbs, List.getElem?_replicate, if_neg (Nat.not_lt_zero i)]
  · clear hb hr O1 O3
    rintro j x σ H' H2 hj ⟨d, v3, v4, rfl, O', hleft, hdown, hdl, hrows⟩ ⟨T, u, v, rfl, hT, rfl, hu, hv⟩
    cases hu
    obtain ⟨r, hr1, rfl⟩ := refs_get hv
    have hrm := List.mem_of_getElem? hr1
    have O2 := O'.newT (o := .tup [V.int j, V.ref r.1]) hT
    have hT1 : (upd H' T (.tup [V.int j, V.ref r.1])) T = some (.tup [V.int j, V.ref r.1]) := upd_same
    have hrh := O2.get (a := r.1) (o := .lst (r.2.map V.int)) (List.mem_append_right _ (.tail _ (List.mem_map.mpr ⟨r, hrm, rfl⟩)))
    have hjl : j < rs.length := (List.getElem?_eq_some_iff.mp hr1).1
    walk_at "s"
    intro z hz
    have O3 := O2.new (o := .lst [.int 0]) hz
    walk_at "s"
    intro z2 hz2
    have O4 := O3.new (o := .lst (List.replicate (Int.toNat 16) [V.int 0]).flatten) hz2
    have O5 := O4.drop (cs' := cDk K p d ++ ((b, .lst (rs.map fun x => V.ref x.1)) :: rs.map pcel)) (.cons _ (.cons _ (.refl _)))
    have hrh2 := O5.get (a := r.1) (o := .lst (r.2.map V.int)) (List.mem_append_right _ (.tail _ (List.mem_map.mpr ⟨r, hrm, rfl⟩)))
    refine ne_ints (ns := r.2) (ms := nought) hrh2 (O4.get (.head _)) ?_
    refine ⟨_, rfl, ?_⟩
    by_cases hz0 : r.2 = nought
    · rw [decide_eq_true hz0]
      walk_at "s"
      refine ⟨d, _, _, rfl, O5, hleft, hdown, hdl, fun i => ?_⟩
      refine (hrows i).trans ?_
      by_cases c1 : j = i
      · subst c1
        rw [if_neg (by omega), if_pos hjl, if_pos (by omega), hr1]
        exact congrArg some hz0.symm
      · by_cases c3 : i < j
        · rw [if_pos c3, if_pos (by omega)]
        · rw [if_neg c3, if_neg (show ¬ i < j + 1 by omega)]
    · rw [decide_eq_false hz0]
      walk_at "s"
      intro c hc
      have O3 := O5.new (o := .lst (r.2.map V.int)) hc
      refine ask3 ⟨p, d, j, c, r.2, rfl, rfl, rfl, O3.get (.head _), by omega, O3.blk (s' := []) (.there .here), fun w => absurd ⟨by omega, by omega⟩ w, fun _ w => absurd w (by rw [Dk.falls, hleft, hdown]; simp), fun _ _ H5 c5 O55 => ?_⟩
      have O6 := (O3.call (.there .here) O55).drop (.cons _ (.refl _))
      walk_at "s"
      refine ⟨_, _, _, rfl, O6, by show d.left.map (· - 1) = none; rw [hleft]; rfl, hdown, by show (d.bs.set _ _).length = _; rw [List.length_set]; exact hdl, fun i => ?_⟩
      show ((d.bs.set (j : Int).toNat (c5, r.2)).map (·.2))[i]? = _
      rw [List.map_set, List.getElem?_set, Int.toNat_natCast]
      by_cases c1 : j = i
      · subst c1
        rw [if_pos rfl, if_pos (by rw [List.length_map]; omega), if_pos (by omega), hr1]
        rfl
      · rw [if_neg c1]
        refine (hrows i).trans ?_
        by_cases c3 : i < j
        · rw [if_pos c3, if_pos (by omega)]
        · rw [if_neg c3, if_neg (show ¬ i < j + 1 by omega)]
  · rintro σ H' ⟨d, v3, v4, rfl, O', hleft, hdown, hdl, hrows⟩
    walk_at "s"
    refine k _ p d (O'.drop (List.sublist_append_left _ _)) ?_ hleft hdown
    refine Eq.trans (b := rs.map (·.2)) (List.ext_getElem? fun i => ?_) hrs
    rw [hrows i, List.length_map, List.getElem?_map]
    by_cases c2 : i < rs.length
    · rw [if_pos c2]
    · rw [if_neg c2, if_neg c2, List.getElem?_eq_none (by omega)]
      rfl

/-- the rows that a disk has behind its fall -/
theorem runW_rows {s s' : DS} (hr : s.rows = s'.rows) (hl : s.left = s'.left) (hd : s.down = s'.down) (W : List Wr) : (runW s W).1.rows = (runW s' W).1.rows := by
  induction W generalizing s s' with
  | nil => exact hr
  | cons w r ih =>
    have e : runW s (w :: r) = if s.falls then (s.fallen, true) else runW (s.wr w) r := rfl
    have e' : runW s' (w :: r) = if s'.falls then (s'.fallen, true) else runW (s'.wr w) r := rfl
    have hf : s.falls ↔ s'.falls := by unfold DS.falls; rw [hl, hd]
    rw [e, e']
    by_cases c : s.falls
    · rw [if_pos c, if_pos (hf.mp c)]; exact hr
    · rw [if_neg c, if_neg (fun z => c (hf.mpr z))]
      exact ih (by show s.rows.set _ _ = s'.rows.set _ _; rw [hr]) (by show s.left.map _ = s'.left.map _; rw [hl]) hd
theorem recW_rows {s s' : DS} (hr : s.rows = s'.rows) : recW s = recW s' := by
  unfold recW
  rw [markOf_eq, markOf_eq, hr]
theorem sorted_one {a b ks : List Int} (ha : a.Perm ks) (hb : b.Perm ks) (sa : a.Pairwise (· ≤ ·)) (sb : b.Pairwise (· ≤ ·)) : a = b :=
  List.Perm.eq_of_pairwise (le := (· ≤ ·)) (fun _ _ _ _ h1 h2 => Int.le_antisymm h1 h2) sa sb (ha.trans hb.symm)
/-- the disk made: noughts and the rows, behind the commit ahead if there is one -/
def MadeAt (old : List (List Int)) (ps : List (Int × List Int)) (rows : List (List Int)) : Prop := (ps = [] ∧ rows = List.replicate 28 nought ++ old) ∨ (ChOk ps old.length ∧ ∃ hs, hs.Perm (ps.map (·.1)) ∧ hs.Pairwise (· ≤ ·) ∧ rows = (runW ⟨List.replicate 28 nought ++ old, 0, none, false⟩ (commitW hs (fOf ps))).1.rows)
def sp__law_made (K : PySem.W.Frag) : Sp := sp2 fun x y H Q _ => ∃ (b c : Addr) (rs : List Pg) (ch : Ch), x = .ref b ∧ y = .ref c ∧ rs.length ≤ 900 ∧ (∀ r ∈ rs, r.2.length = 16) ∧ (ch = [] ∨ ChOk ch.pure rs.length) ∧ H b = some (.lst (rs.map fun x => V.ref x.1)) ∧ RowsAt H rs ∧ H c = some (.dK ch.kvs) ∧ RowsAt H (ch.map (·.2)) ∧
  ∀ (H' : Hp) (p : Addr) (d : Dk), Own H H' [] (cDk K p d) → MadeAt (rs.map (·.2)) ch.pure d.abs.rows → d.left = none → d.down = false → Q (.ref p) H'
theorem sc__law_made : FnScope ["_law_rows_here", "_law_ahead", "_law_disk_here"] ["_law_rows_here", "_law_ahead"] (defScope s__law_made) := ⟨rfl, rfl, rfl, by decide +kernel, rfl, by decide +kernel, by decide +kernel⟩
theorem ok__law_made {P : Program} {w : World} {K : PySem.W.Frag} {mg : Str → Option Value} {base : Heap} (T : Txt K mg) : Cee P w K mg base 5 (He.fAd K ("_law_made", none)) ["_law_rows_here", "_law_ahead"] (sp__law_made K) := by
  have c__law_disk : Cee P w K mg base 3 (He.fAd K ("_law_disk", none)) ["_law_rows_here"] (sp__law_disk K) := ok__law_disk T
  have c_commit : Cee P w K mg base 4 (He.fAd K ("commit", none)) ["disk", "changes"] (sp_commit K) := ok_commit T
  have c__law_handed : Cee P w K mg base 1 (He.fAd K ("_law_handed", none)) ["_law_changes_here"] (sp__law_handed K) := ok__law_handed T
  refine cee_of T.d__law_made sc__law_made (fun _ _ _ _ _ _ us hl => match us, hl with | [_, _], _ => rfl) (fun vs H Q E h => sp2_len h) (fun cdv A outer s H vs Q E hr h => ⟨_, (pss_cons (ps_set (i := 2) sc__law_made.nd rfl (Or.inl rfl) (pe_f c__law_disk (hr.mono (by decide)) (takes_of rfl rfl rfl rfl) (by rfl) T.g__law_disk (pa_cons (pv 0) pa_nil))) (pss_cons (PS.box (ps_if (pt_cmpR (op_neDV hr.units) (pv 1) pe_dnewK (nomark _)) (pss_one (ps_expr (pe_f c_commit (hr.mono (by decide)) (takes_of rfl rfl rfl rfl) (by rfl) T.g_commit (pa_cons (pv 2) (pa_cons (pe_f c__law_handed (hr.mono (by decide)) (takes_of rfl rfl rfl rfl) (by rfl) T.g__law_handed (pa_cons (pv 1) pa_nil)) pa_nil))))) pss_nil)) (pss_one (ps_ret (pv 2))))), ?_⟩)
  obtain ⟨v0, v1, rfl, h⟩ := h
  dsimp only [cxOf, L2.start]
  obtain ⟨b, c, rs, ch, rfl, rfl, hl, hw, hch, hb, hr, hc, hcr, k⟩ := h
  walk_at "s"
  refine ask1 ⟨b, rs, rfl, hl, hw, hb, hr, fun H2 p d O2 hd1 hd2 hd3 => ?_⟩
  have hdl : d.bs.length = 28 + rs.length := by rw [← Dk.lenr, hd1, List.length_append, List.length_replicate, List.length_map]
  have hc2 := O2.fr0 hc
  walk_at "s"
  refine cutS (fun σ' H2 => ∃ d' : Dk, σ' = [some (.ref b), some (.ref c), some (.ref p)] ∧ Own H H2 [] (cDk K p d') ∧ MadeAt (rs.map (·.2)) ch.pure d'.abs.rows ∧ d'.left = none ∧ d'.down = false) (fun nx hn => ?_) ?_
  rotate_left
  · rintro σ' H3 ⟨d', rfl, O3, hM, hl3, hd3⟩
    walk_at "s"
    exact k _ p d' O3 hM hl3 hd3
  walk_at "s"
  intro z hz
  have O3 := O2.new (o := .dK []) hz
  have hc3 := O3.fr0 hc
  have hz3 := O3.get (a := z) (.head _)
  by_cases he : ch = []
  · subst he
    refine ⟨c, z, _, _, rfl, rfl, hc3, hz3, .inr ⟨rfl, nofun, ?_⟩⟩
    walk_at "s"
    exact hn _ _ ⟨d, rfl, O3.drop (.cons _ (.refl _)), .inl ⟨rfl, hd1⟩, hd2, hd3⟩
  · refine ⟨c, z, _, _, rfl, rfl, hc3, hz3, .inl ⟨fun w => he (List.length_eq_zero_iff.mp (by rw [List.length_map] at w; exact w)), ?_⟩⟩
    walk_at "s"
    have ok : ChOk ch.pure rs.length := hch.resolve_left he
    have hcl : ch.length ≤ 24 := by have := ok.few; rw [List.length_map] at this; exact this
    refine ask1 ⟨c, ch, rfl, by omega, ok.nd, hc3, fun r h => O3.fr0 (hcr r h), fun H5 c' ch' O5 hp => ?_⟩
    have O6 : Own H H5 [] (cCh c' ch' ++ cDk K p d) := (O3.callN O5).drop (.append (.refl _) (.cons _ (.refl _)))
    walk_at "s"
    refine ask2 ⟨p, c', d, ch'.kvs, ch.pure.map (·.1), fOf ch.pure, rfl, rfl, by rw [List.length_map]; exact ok.few, fun z hz => ⟨(ok.key z hz).1, by have := (ok.key z hz).2; omega⟩, by omega, by omega, hd3, O6.get (.head _), ?_, fun z hz => ?_, O6.sep (.head _), O6.blk (s' := []) (.app .all), fun H8 d8 hs hperm hsort O8 R => ?_, fun H8 d8 hs hperm _ O8 R => ?_⟩
    · rw [← hp, List.map_map, List.map_map, List.map_map]; rfl
    · obtain ⟨q, h1, h2, h3⟩ := Ch.has hp hz
      refine ⟨q.1, by rw [Ch.look, h1]; rfl, O6.sep (.tail _ (List.mem_map.mpr ⟨pcel q, List.mem_map.mpr ⟨_, h3, rfl⟩, rfl⟩)), ?_⟩
      rw [← h2]
      exact O6.get (.tail _ (List.mem_append_left _ (List.mem_map.mpr ⟨_, h3, rfl⟩)))
    · obtain ⟨t, R2, ht2, ht3, _⟩ := runW_all (s := d.abs) hd2 hd3 (commitW hs (fOf ch.pure))
      have e7 : d8.abs = t := (Prod.mk.inj (R.symm.trans R2)).1
      subst e7
      walk_at "s"
      refine hn _ _ ⟨d8, rfl, (O6.call (.app .all) O8).drop (List.sublist_append_right _ _), .inr ⟨by rw [List.length_map]; exact ok, hs, hperm, hsort, ?_⟩, ht2, ht3⟩
      have e := congrArg (fun x : DS × Bool => x.1.rows) R
      exact e.symm.trans (runW_rows (s := d.abs) (s' := ⟨List.replicate 28 nought ++ rs.map (·.2), 0, none, false⟩) hd1 hd2 hd3 _)
    · obtain ⟨t, R2, _⟩ := runW_all (s := d.abs) hd2 hd3 (commitW hs (fOf ch.pure))
      cases R.symm.trans R2

def sp__law_falls (K : PySem.W.Frag) : Sp := sp2 fun x y H Q _ => ∃ (b : Addr) (rs : List Pg) (m : Nat), x = .ref b ∧ y = .int m ∧ m ≤ 100 ∧ rs.length ≤ 900 ∧ H b = some (.lst (rs.map fun x => V.ref x.1)) ∧
  ∀ (H' : Hp) (a : Addr) (ns : List Int), Own H H' [] [(a, .lst (ns.map V.int))] → ns.length ≤ 101 → (∀ z ∈ ns, 0 ≤ z ∧ z ≤ m) → Q (.ref a) H'
theorem sc__law_falls : FnScope ["_law_rows_here", "_law_many", "_law_some", "_law_after"] ["_law_rows_here", "_law_many"] (defScope s__law_falls) := ⟨rfl, rfl, rfl, by decide +kernel, rfl, by decide +kernel, by decide +kernel⟩
theorem ok__law_falls {P : Program} {w : World} {K : PySem.W.Frag} {mg : Str → Option Value} {base : Heap} (T : Txt K mg) : Cee P w K mg base 1 (He.fAd K ("_law_falls", none)) ["_law_rows_here", "_law_many"] (sp__law_falls K) := by
  refine cee_of T.d__law_falls sc__law_falls (fun _ _ _ _ _ _ us hl => match us, hl with | [_, _], _ => rfl) (fun vs H Q E h => sp2_len h) (fun cdv A outer s H vs Q E hr h => ⟨_, (pss_cons (ps_set (i := 2) sc__law_falls.nd rfl (Or.inr rfl) (pe_lst (pa_cons pe_int (pa_cons pe_int (pa_cons (pe_op op_fdiv (pv 1) pe_int) (pa_cons (pe_op op_sub (pv 1) pe_int) (pa_cons (pe_op op_sub (pv 1) pe_int) (pa_cons (pv 1) pa_nil)))))))) (pss_one (ps_ret (pe_lc (own := [("_law_after", 3)]) (by rfl) sc__law_falls.nd (PI.box (pi_range1 (by rfl) T.n_range (pa_cons (pe_op op_add (pv 1) pe_int) pa_nil))) (blkOk_by (own := [("_law_after", 3)]) (N := ["_law_rows_here", "_law_many", "_law_some", "_law_after"]) (sc := defScope s__law_falls) (by decide +kernel)) (fun _ _ _ _ _ => (pg_name (i := 3) sc__law_falls.nd rfl (Or.inl rfl))) (fun _ _ _ _ _ => (pts_one (PW.pt (pw_or (pt_cmpR op_lt (pe_callB (show CallR _ (.builtin "len") (rLenSq K) from call_len_seq) (by rfl) T.n_len (by decide +kernel) (pa_cons (pv 0) pa_nil)) pe_int (nomark _)) (pw_or (pt_cmpR op_eq (pe_op op_mod (pv 3) pe_int) pe_int (nomark _)) (pw_or1 (pt_cmpR (show OpR _ _ (rIn K false) from op_in_seq) (pv 3) (pv 2) (by with_unfolding_all rfl)))))))) (fun _ _ _ _ _ => (pv 3)))))), ?_⟩)
  obtain ⟨v0, v1, rfl, h⟩ := h
  dsimp only [cxOf, L2.start]
  obtain ⟨b, rs, m, rfl, rfl, hm, hl, hb, k⟩ := h
  walk_at "s"
  intro z hz
  have O1 := (Own.start (H := H)).new (o := .lst ([0, 1, (m : Int) / 2, m - 2, m - 1, m].map V.int)) hz
  have hb1 := O1.fr0 hb
  have hz1 := O1.get (a := z) (.head _)
  walk_at "s"
  refine lcR (fun D i H' => ∃ ns : List Int, Own H H' [] [(D, .lst (ns.map V.int)), (z, .lst ([0, 1, (m : Int) / 2, m - 2, m - 1, m].map V.int))] ∧ ns.length ≤ i ∧ ∀ x ∈ ns, 0 ≤ x ∧ x ≤ m) (fun D hD => ⟨[], O1.new hD, Nat.le_refl _, nofun⟩) ?_ ?_
  · rintro D i H' hi ⟨ns, O, hnl, hns⟩
    have hb2 := O.fr0 hb
    have hz2 := O.get (a := z) (.tail _ (.head _))
    have hD := O.get (a := D) (.head _)
    have hput : ∃ ns' : List Int, Own H (upd H' D (.lst (ns.map V.int ++ [V.int (0 + i)]))) [] [(D, .lst (ns'.map V.int)), (z, .lst ([0, 1, (m : Int) / 2, m - 2, m - 1, m].map V.int))] ∧ ns'.length ≤ i + 1 ∧ ∀ x ∈ ns', 0 ≤ x ∧ x ≤ m := by
      refine ⟨ns ++ [0 + (i : Int)], ?_, by rw [List.length_append]; show ns.length + 1 ≤ _; omega, fun x hx => ?_⟩
      · rw [List.map_append]; exact O.wr .here
      · rcases List.mem_append.mp hx with h | h
        · exact hns x h
        · cases List.mem_singleton.mp h
          omega
    have hskip : ∃ ns : List Int, Own H H' [] [(D, .lst (ns.map V.int)), (z, .lst ([0, 1, (m : Int) / 2, m - 2, m - 1, m].map V.int))] ∧ ns.length ≤ i + 1 ∧ ∀ x ∈ ns, 0 ≤ x ∧ x ≤ m := ⟨ns, O, by omega, hns⟩
    walk_at "s"
    dsimp only
    refine if_d (fun h1 => ?_) (fun h1 => ?_)
    · walk_at "s"
      exact ⟨hput⟩
    walk_at "s"
    refine if_ii (fun h2 => ?_) (fun h2 => ?_)
    · walk_at "s"
      exact ⟨hput⟩
    walk_at "s"
    dsimp only
    rw [if_neg Bool.false_ne_true]
    split
    · walk_at "s"
      exact ⟨hput⟩
    · exact ⟨hskip⟩
  · rintro D H' ⟨ns, O, hnl, hns⟩
    walk_at "s"
    exact k _ D ns (O.drop (.cons₂ _ (.cons _ (.refl _)))) (by omega) hns

local macro_rules | `(tactic| walk_at "st") => `(tactic| (dsimp only [Bool.not_true, Bool.not_false]; (repeat (first | rw [if_neg Bool.false_ne_true] | rw [if_pos (rfl : true = true)])); walk_at "s"))
theorem clean_new {rs : List (List Int)} (hw : ∀ r ∈ rs, r.length = 16) : Clean (List.replicate 28 nought ++ rs) rs := by
  refine ⟨rfl, by rw [List.length_append, List.length_replicate], fun i hi => ?_, fun r hr => ?_⟩
  · rw [List.getElem?_append_right (by rw [List.length_replicate]; omega), List.length_replicate, Nat.add_sub_cancel_left]
  · rcases List.mem_append.mp hr with z | z
    · rw [List.eq_of_mem_replicate z]; rfl
    · exact hw r z
theorem MadeAt.one {old : List (List Int)} {ps : List (Int × List Int)} {r1 r2 : List (List Int)} (h1 : MadeAt old ps r1) (h2 : MadeAt old ps r2) : r1 = r2 := by
  rcases h1 with ⟨rfl, e1⟩ | ⟨ok1, a, p1, s1, e1⟩
  · rcases h2 with ⟨_, e2⟩ | ⟨ok2, b, p2, s2, e2⟩
    · exact e1.trans e2.symm
    · exact absurd ok2.one (by decide)
  · rcases h2 with ⟨rfl, e2⟩ | ⟨ok2, b, p2, s2, e2⟩
    · exact absurd ok1.one (by decide)
    · cases sorted_one p1 p2 s1 s2
      exact e1.trans e2.symm
theorem changedR_nil (old : List (List Int)) : changedR old [] = old := by
  unfold changedR rowOf
  refine List.ext_getElem? fun i => ?_
  rw [List.getElem?_mapIdx]
  cases old[i]? <;> rfl
theorem MadeAt.clean {old : List (List Int)} {ps : List (Int × List Int)} {r : List (List Int)} (h : MadeAt old ps r) (hw : ∀ r ∈ old, r.length = 16) : Clean r (changedR old ps) := by
  rcases h with ⟨rfl, rfl⟩ | ⟨ok, hs, hp, _, rfl⟩
  · rw [changedR_nil]
    exact clean_new hw
  · obtain ⟨t, R, _⟩ := runW_all (s := ⟨List.replicate 28 nought ++ old, 0, none, false⟩) rfl rfl (commitW hs (fOf ps))
    have h2 := (commit_run (s := ⟨List.replicate 28 nought ++ old, 0, none, false⟩) (clean_new hw) (ok.hs hp) R).2 rfl
    rw [ChOk.chg hp] at h2
    rw [R]
    exact h2
theorem rows_ask {K : PySem.W.Frag} {H Hx : Hp} {CS : Cells} {Q : VK} {E : XK} {X Y : Addr} {xs ys : List Pg} (O : Own H Hx [] CS) (hx : Hx X = some (.lst (xs.map fun x => V.ref x.1)) ∧ RowsAt Hx xs) (hy : Hx Y = some (.lst (ys.map fun x => V.ref x.1)) ∧ RowsAt Hx ys) (hl : xs.length ≤ 1000) (hw : ∀ r ∈ xs, r.2.length ≤ 1000) (k : ∀ H', Own H H' [] CS → Q (.bl (decide (xs.map (·.2) = ys.map (·.2)))) H') : Box (sp__law_rows_are K [.ref X, .ref Y] Hx Q E) :=
  ask2 ⟨X, Y, xs, ys, rfl, rfl, hl, hw, hx.1, hy.1, hx.2, hy.2, fun H' O' => k H' (O.callN O')⟩
theorem Clean.wideO {rows old : List (List Int)} (h : Clean rows old) : ∀ r ∈ old, r.length = 16 := fun r hr => h.wide r (List.mem_of_mem_drop (i := 28) (by rw [h.drop]; exact hr))
def sp__law_all_falls (K : PySem.W.Frag) : Sp := sp3 fun x y z H Q _ => ∃ (b c1 c2 : Addr) (rs : List Pg) (ch1 ch2 : Ch), x = .ref b ∧ y = .ref c1 ∧ z = .ref c2 ∧ rs.length ≤ 900 ∧ (∀ r ∈ rs, r.2.length = 16) ∧ (ch1 = [] ∨ ChOk ch1.pure rs.length) ∧ ChOk ch2.pure rs.length ∧ H b = some (.lst (rs.map fun x => V.ref x.1)) ∧ RowsAt H rs ∧ H c1 = some (.dK ch1.kvs) ∧ RowsAt H (ch1.map (·.2)) ∧ H c2 = some (.dK ch2.kvs) ∧ RowsAt H (ch2.map (·.2)) ∧ ∀ H' : Hp, Own H H' [] [] → Q (.bl true) H'
theorem sc__law_all_falls : FnScope ["_law_rows_here", "_law_ahead", "_law_changes_here", "_law_probe", "_law_begin", "_law_many", "_law_old", "_law_due", "_law_after", "_law_disk_here", "_law_fell_here", "_law_before", "_law_told", "_law_found"] ["_law_rows_here", "_law_ahead", "_law_changes_here"] (defScope s__law_all_falls) := ⟨rfl, rfl, rfl, by decide +kernel, rfl, by decide +kernel, by decide +kernel⟩
theorem ok__law_all_falls {P : Program} {w : World} {K : PySem.W.Frag} {mg : Str → Option Value} {base : Heap} (T : Txt K mg) : Cee P w K mg base 6 (He.fAd K ("_law_all_falls", none)) ["_law_rows_here", "_law_ahead", "_law_changes_here"] (sp__law_all_falls K) := by
  have c__law_made : Cee P w K mg base 5 (He.fAd K ("_law_made", none)) ["_law_rows_here", "_law_ahead"] (sp__law_made K) := ok__law_made T
  have c_Disk_writes : Cee P w K mg base 1 (He.fAd K ("Disk", some "writes")) ["self"] (sp_Disk_writes K) := ok_Disk_writes T
  have c_commit : Cee P w K mg base 4 (He.fAd K ("commit", none)) ["disk", "changes"] (sp_commit K) := ok_commit T
  have c__law_handed : Cee P w K mg base 1 (He.fAd K ("_law_handed", none)) ["_law_changes_here"] (sp__law_handed K) := ok__law_handed T
  have c__law_changed : Cee P w K mg base 1 (He.fAd K ("_law_changed", none)) ["_law_rows_here", "_law_changes_here"] (sp__law_changed K) := ok__law_changed T
  have c__law_falls : Cee P w K mg base 1 (He.fAd K ("_law_falls", none)) ["_law_rows_here", "_law_many"] (sp__law_falls K) := ok__law_falls T
  have c_Disk_fall : Cee P w K mg base 1 (He.fAd K ("Disk", some "fall")) ["self", "after"] (sp_Disk_fall K) := ok_Disk_fall T
  have c__law_fell : Cee P w K mg base 5 (He.fAd K ("_law_fell", none)) ["_law_disk_here", "_law_changes_here"] (sp__law_fell K) := ok__law_fell T
  have c__law_carried : Cee P w K mg base 3 (He.fAd K ("_law_carried", none)) ["_law_disk_here"] (sp__law_carried K) := ok__law_carried T
  have c_Disk_rise : Cee P w K mg base 1 (He.fAd K ("Disk", some "rise")) ["self"] (sp_Disk_rise K) := ok_Disk_rise T
  have c_Disk_image : Cee P w K mg base 1 (He.fAd K ("Disk", some "image")) ["self"] (sp_Disk_image K) := ok_Disk_image T
  have c__law_mended : Cee P w K mg base 5 (He.fAd K ("_law_mended", none)) ["_law_disk_here"] (sp__law_mended K) := ok__law_mended T
  have c__law_count_is : Cee P w K mg base 1 (He.fAd K ("_law_count_is", none)) ["_law_found", "_law_due"] (sp__law_count_is K) := ok__law_count_is T
  have c__law_rows_are : Cee P w K mg base 2 (He.fAd K ("_law_rows_are", none)) ["_law_found", "_law_due"] (sp__law_rows_are K) := ok__law_rows_are T
  refine cee_of T.d__law_all_falls sc__law_all_falls (fun _ _ _ _ _ _ us hl => match us, hl with | [_, _, _], _ => rfl) (fun vs H Q E h => sp3_len h) (fun cdv A outer s H vs Q E hr h => ⟨_, (pss_cons (ps_set (i := 3) sc__law_all_falls.nd rfl (Or.inl rfl) (pe_f c__law_made (hr.mono (by decide)) (takes_of rfl rfl rfl rfl) (by rfl) T.g__law_made (pa_cons (pv 0) (pa_cons (pv 1) pa_nil)))) (pss_cons (ps_set (i := 4) sc__law_all_falls.nd rfl (Or.inl rfl) (pe_m0 (pv 3) T.c_Disk T.m_Disk_writes c_Disk_writes (hr.mono (by decide)) (takes_of rfl rfl rfl rfl))) (pss_cons (ps_expr (pe_f c_commit (hr.mono (by decide)) (takes_of rfl rfl rfl rfl) (by rfl) T.g_commit (pa_cons (pv 3) (pa_cons (pe_f c__law_handed (hr.mono (by decide)) (takes_of rfl rfl rfl rfl) (by rfl) T.g__law_handed (pa_cons (pv 2) pa_nil)) pa_nil)))) (pss_cons (ps_set (i := 5) sc__law_all_falls.nd rfl (Or.inl rfl) (pe_op op_sub (pe_m0 (pv 3) T.c_Disk T.m_Disk_writes c_Disk_writes (hr.mono (by decide)) (takes_of rfl rfl rfl rfl)) (pv 4))) (pss_cons (ps_set (i := 6) sc__law_all_falls.nd rfl (Or.inl rfl) (pe_f c__law_changed (hr.mono (by decide)) (takes_of rfl rfl rfl rfl) (by rfl) T.g__law_changed (pa_cons (pv 0) (pa_cons (pv 1) pa_nil)))) (pss_cons (ps_set (i := 7) sc__law_all_falls.nd rfl (Or.inl rfl) (pe_f c__law_changed (hr.mono (by decide)) (takes_of rfl rfl rfl rfl) (by rfl) T.g__law_changed (pa_cons (pv 6) (pa_cons (pv 2) pa_nil)))) (pss_cons (ps_for (passes_of rfl) rfl (PI.box (pi_list (pe_f c__law_falls (hr.mono (by decide)) (takes_of rfl rfl rfl rfl) (by rfl) T.g__law_falls (pa_cons (pv 0) (pa_cons (pv 5) pa_nil))))) (pg_name (i := 8) sc__law_all_falls.nd rfl (Or.inl rfl)) (pss_cons (ps_set (i := 9) sc__law_all_falls.nd rfl (Or.inl rfl) (pe_f c__law_made (hr.mono (by decide)) (takes_of rfl rfl rfl rfl) (by rfl) T.g__law_made (pa_cons (pv 0) (pa_cons (pv 1) pa_nil)))) (pss_cons (ps_expr (pe_m (pv 9) T.c_Disk T.m_Disk_fall c_Disk_fall (hr.mono (by decide)) (takes_of rfl rfl rfl rfl) (pa_cons (pv 8) pa_nil))) (pss_cons (ps_set (i := 10) sc__law_all_falls.nd rfl (Or.inl rfl) (pe_f c__law_fell (hr.mono (by decide)) (takes_of rfl rfl rfl rfl) (by rfl) T.g__law_fell (pa_cons (pv 9) (pa_cons (pe_f c__law_handed (hr.mono (by decide)) (takes_of rfl rfl rfl rfl) (by rfl) T.g__law_handed (pa_cons (pv 2) pa_nil)) pa_nil)))) (pss_cons (ps_if (pt_cmpR op_ne (pv 10) (pe_cmpR op_lt (pv 8) (pv 5) (nomark _)) (nomark _)) (pss_one (ps_ret pe_bl)) pss_nil) (pss_cons (PS.box (ps_if (pt_cmpR op_eq (pe_op op_mod (pv 8) pe_int) pe_int (nomark _)) (pss_one (ps_set (i := 9) sc__law_all_falls.nd rfl (Or.inl rfl) (pe_f c__law_carried (hr.mono (by decide)) (takes_of rfl rfl rfl rfl) (by rfl) T.g__law_carried (pa_cons (pv 9) pa_nil)))) pss_nil)) (pss_cons (ps_expr (pe_m0 (pv 9) T.c_Disk T.m_Disk_rise c_Disk_rise (hr.mono (by decide)) (takes_of rfl rfl rfl rfl))) (pss_cons (ps_set (i := 11) sc__law_all_falls.nd rfl (Or.inl rfl) (pe_slice sl_list (pe_m0 (pv 9) T.c_Disk T.m_Disk_image c_Disk_image (hr.mono (by decide)) (takes_of rfl rfl rfl rfl)) (po_some pe_int) po_none)) (pss_cons (ps_set (i := 12) sc__law_all_falls.nd rfl (Or.inl rfl) (pe_f c__law_mended (hr.mono (by decide)) (takes_of rfl rfl rfl rfl) (by rfl) T.g__law_mended (pa_cons (pv 9) pa_nil))) (pss_cons (ps_set (i := 13) sc__law_all_falls.nd rfl (Or.inl rfl) (pe_slice sl_list (pe_m0 (pv 9) T.c_Disk T.m_Disk_image c_Disk_image (hr.mono (by decide)) (takes_of rfl rfl rfl rfl)) (po_some pe_int) po_none)) (pss_cons (PS.box (ps_if (PW.pt (pw_and (pt_not (pt_val (pe_f c__law_count_is (hr.mono (by decide)) (takes_of rfl rfl rfl rfl) (by rfl) T.g__law_count_is (pa_cons (pv 12) (pa_cons pe_int pa_nil))))) (pw_and1 (pt_not (PW.pt (pw_and (pt_val (pv 10)) (pw_and1 (pt_val (pe_f c__law_count_is (hr.mono (by decide)) (takes_of rfl rfl rfl rfl) (by rfl) T.g__law_count_is (pa_cons (pv 12) (pa_cons (pe_callB call_lenD (by rfl) T.n_len (by decide +kernel) (pa_cons (pv 2) pa_nil)) pa_nil))))))))))) (pss_one (ps_ret pe_bl)) pss_nil)) (pss_cons (PS.box (ps_if (PW.pt (pw_and (pt_val (pe_f c__law_count_is (hr.mono (by decide)) (takes_of rfl rfl rfl rfl) (by rfl) T.g__law_count_is (pa_cons (pv 12) (pa_cons pe_int pa_nil)))) (pw_and (pt_val (pe_f c__law_rows_are (hr.mono (by decide)) (takes_of rfl rfl rfl rfl) (by rfl) T.g__law_rows_are (pa_cons (pv 13) (pa_cons (pv 7) pa_nil)))) (pw_and1 (pt_not (pt_val (pe_f c__law_rows_are (hr.mono (by decide)) (takes_of rfl rfl rfl rfl) (by rfl) T.g__law_rows_are (pa_cons (pv 11) (pa_cons (pv 7) pa_nil))))))))) (pss_one (ps_ret pe_bl)) pss_nil)) (pss_one (ps_if (PW.pt (pw_and (pt_not (pt_val (pe_f c__law_rows_are (hr.mono (by decide)) (takes_of rfl rfl rfl rfl) (by rfl) T.g__law_rows_are (pa_cons (pv 13) (pa_cons (pv 7) pa_nil))))) (pw_and1 (PW.pt (pw_or (pt_not (pt_val (pv 10))) (pw_or (pt_cmpR op_ne (pv 12) pe_int (nomark _)) (pw_or1 (pt_not (pt_val (pe_f c__law_rows_are (hr.mono (by decide)) (takes_of rfl rfl rfl rfl) (by rfl) T.g__law_rows_are (pa_cons (pv 13) (pa_cons (pv 6) pa_nil)))))))))))) (pss_one (ps_ret pe_bl)) pss_nil)))))))))))))) (pss_one (ps_ret pe_bl))))))))), ?_⟩)
  obtain ⟨v0, v1, v2, rfl, h⟩ := h
  dsimp only [cxOf, L2.start]
  obtain ⟨b, c1, c2, rs, ch1, ch2, rfl, rfl, rfl, hl, hw, hch1, ok, hb, hr, hc1, hcr1, hc2, hcr2, k⟩ := h
  have hold : ∀ r ∈ rs.map (·.2), r.length = 16 := fun r h => by obtain ⟨q, hq, rfl⟩ := List.mem_map.mp h; exact hw q hq
  have hcl : ch2.length ≤ 24 := by have := ok.few; rw [List.length_map] at this; exact this
  walk_at "s"
  refine ask2 ⟨b, c1, rs, ch1, rfl, rfl, hl, hw, hch1, hb, hr, hc1, hcr1, fun H2 p0 d0 O2 hM0 hl0 hd0 => ?_⟩
  have C0 := hM0.clean hold
  have hd0l : d0.bs.length = 28 + rs.length := by
    rw [← Dk.lenr, C0.len]
    unfold changedR
    rw [List.length_mapIdx, List.length_map]
  walk_at "s"
  refine ask1 ⟨p0, d0, rfl, O2.blk (s' := []) .all, ?_⟩
  walk_at "s"
  refine ask1 ⟨c2, ch2, rfl, by omega, ok.nd, O2.fr0 hc2, fun r h => O2.fr0 (hcr2 r h), fun H3 c' ch' O3 hp => ?_⟩
  have O4 : Own H H3 [] (cCh c' ch' ++ cDk K p0 d0) := O2.callN O3
  walk_at "s"
  refine ask2 ⟨p0, c', d0, ch'.kvs, ch2.pure.map (·.1), fOf ch2.pure, rfl, rfl, by rw [List.length_map]; exact ok.few, fun z hz => ⟨(ok.key z hz).1, by have := (ok.key z hz).2; omega⟩, by omega, by omega, hd0, O4.get (.head _), ?_, fun z hz => ?_, O4.sep (.head _), O4.blk (s' := []) (.app .all), fun H5 d5 hs hperm hsort O5 R5 => ?_, fun H5 d5 hs hperm _ O5 R => ?_⟩
  · rw [← hp, List.map_map, List.map_map, List.map_map]; rfl
  · obtain ⟨q, h1, h2, h3⟩ := Ch.has hp hz
    refine ⟨q.1, by rw [Ch.look, h1]; rfl, O4.sep (.tail _ (List.mem_map.mpr ⟨pcel q, List.mem_map.mpr ⟨_, h3, rfl⟩, rfl⟩)), ?_⟩
    rw [← h2]
    exact O4.get (.tail _ (List.mem_append_left _ (List.mem_map.mpr ⟨_, h3, rfl⟩)))
  rotate_left
  · obtain ⟨t, R2, _⟩ := runW_all (s := d0.abs) hl0 hd0 (commitW hs (fOf ch2.pure))
    cases R.symm.trans R2
  obtain ⟨t, R2, _, _, hn5⟩ := runW_all (s := d0.abs) hl0 hd0 (commitW hs (fOf ch2.pure))
  have e7 : d5.abs = t := (Prod.mk.inj (R5.symm.trans R2)).1
  subst e7
  have hn5 : d5.done = d0.done + (commitW hs (fOf ch2.pure)).length := hn5
  have O6 : Own H H5 [] (cCh c' ch' ++ cDk K p0 d5) := O4.call (.app .all) O5
  walk_at "s"
  refine ask1 ⟨p0, d5, rfl, O6.blk (s' := []) (.app .all), ?_⟩
  walk_at "s"
  have hclw : (commitW hs (fOf ch2.pure)).length ≤ 100 := by
    have h1 : hs.length ≤ 24 := by rw [hperm.length_eq, List.length_map]; exact ok.few
    unfold commitW
    simp only [List.length_append, List.length_cons, List.length_nil, copyW_len, List.length_map]
    omega
  have hmany : d5.done - d0.done = ((commitW hs (fOf ch2.pure)).length : Int) := by omega
  refine ask2 ⟨b, c1, rs, ch1, rfl, rfl, hl, O6.fr0 hb, O6.fr0 hc1, fun H7 D1 rs1 O7 hs1 hm1 => ?_⟩
  have O8 := O6.callN O7
  have hl1 : rs1.length = rs.length := by
    have := congrArg List.length hs1
    rw [List.length_map] at this
    unfold changedR at this
    rw [List.length_mapIdx, List.length_map] at this
    omega
  walk_at "s"
  refine ask2 ⟨D1, c2, rs1, ch2, rfl, rfl, by omega, O8.get (.head _), O8.fr0 hc2, fun H9 D2 rs2 O9 hs2 hm2 => ?_⟩
  have O10 := O8.callN O9
  have hl2 : rs2.length = rs.length := by
    have := congrArg List.length hs2
    rw [List.length_map] at this
    unfold changedR at this
    rw [List.length_mapIdx, List.length_map] at this
    omega
  have O11 : Own H H9 [] [(D2, .lst (rs2.map fun x => V.ref x.1)), (D1, .lst (rs1.map fun x => V.ref x.1))] := O10.drop (.cons₂ _ (.cons₂ _ (List.nil_sublist _)))
  clear O2 O3 O4 O5 O6 O7 O8 O9 O10
  walk_at "s"
  refine ask2 ⟨b, rs, (commitW hs (fOf ch2.pure)).length, rfl, by dsimp only; rw [hmany], hclw, hl, O11.fr0 hb, fun H12 la ns O12 hnl hnr => ?_⟩
  have O13 : Own H H12 [] [(la, .lst (ns.map V.int)), (D2, .lst (rs2.map fun x => V.ref x.1)), (D1, .lst (rs1.map fun x => V.ref x.1))] := O11.callN O12
  clear O11 O12
  obtain ⟨mid, hmid⟩ : ∃ mid, mid = changedR (rs.map (·.2)) ch1.pure := ⟨_, rfl⟩
  rw [← hmid] at C0 hs1
  have hmidl : mid.length = rs.length := by rw [hmid]; unfold changedR; rw [List.length_mapIdx, List.length_map]
  have hso : HsOk hs mid.length (fOf ch2.pure) := by rw [hmidl]; exact ok.hs hperm
  have hK := keeps_ph hso (by rw [hmidl]; exact hl)
  have hlen : hs.length = ch2.length := by rw [hperm.length_eq, List.length_map, List.length_map]
  have hpos := hso.pos
  have hrr1 : RowsAt H rs1 := fun r h => by
    rcases hm1 r h with z | z
    · exact hr r z
    · exact hcr1 r z
  have hrr2 : RowsAt H rs2 := fun r h => by
    rcases hm2 r h with z | z
    · exact hrr1 r z
    · exact hcr2 r z
  walk_at "s"
  refine forL (K := K) (a := la) (xs := ns.map V.int) (fun j σ H' => ∃ v8 v9 v10 v11 v12 v13 : Option V, σ = [some (.ref b), some (.ref c1), some (.ref c2), some (.ref p0), some (.int d0.done), some (.int (d5.done - d0.done)), some (.ref D1), some (.ref D2), v8, v9, v10, v11, v12, v13] ∧ Own H H' [] [(la, .lst (ns.map V.int)), (D2, .lst (rs2.map fun x => V.ref x.1)), (D1, .lst (rs1.map fun x => V.ref x.1))]) ⟨_, _, _, _, _, _, rfl, O13⟩ (fun i σ H' _ ⟨_, _, _, _, _, _, _, O⟩ => SqL.of (O.get (.head _))) ?_ ?_
  · clear O13 R5 R2
    rintro j x σ H' hx ⟨v8, v9, v10, v11, v12, v13, rfl, O⟩
    obtain ⟨y, hy, rfl⟩ := map_get hx
    obtain ⟨hy0, hy1⟩ := hnr y (List.mem_of_getElem? hy)
    walk_at "s"
    refine ask2 ⟨b, c1, rs, ch1, rfl, rfl, hl, hw, hch1, O.fr0 hb, fun r h => O.fr0 (hr r h), O.fr0 hc1, fun r h => O.fr0 (hcr1 r h), fun H3 p d O3 hM hl2 hd2 => ?_⟩
    have Cd : Clean d.abs.rows mid := hmid ▸ hM.clean hold
    have hdl : d.bs.length = 28 + rs.length := by rw [← Dk.lenr, Cd.len, hmidl]
    have O4 := O.callN O3
    walk_at "s"
    refine ask2 ⟨p, d, y, rfl, rfl, O4.blk (s' := []) .here, fun H5 O5 => ?_⟩
    have O6 : Own H H5 [] (cDk K p { d with left := some y } ++ [(la, .lst (ns.map V.int)), (D2, .lst (rs2.map fun x => V.ref x.1)), (D1, .lst (rs1.map fun x => V.ref x.1))]) := O4.call .here O5
    walk_at "s"
    refine ask1 ⟨c2, ch2, rfl, by omega, ok.nd, O6.fr0 hc2, fun r h => O6.fr0 (hcr2 r h), fun H7 c' ch' O7 hp => ?_⟩
    have O8 : Own H H7 [] (cCh c' ch' ++ (cDk K p { d with left := some y } ++ [(la, .lst (ns.map V.int)), (D2, .lst (rs2.map fun x => V.ref x.1)), (D1, .lst (rs1.map fun x => V.ref x.1))])) := O6.callN O7
    clear O3 O4 O5 O6 O7
    have hsub : List.Sublist (adr (cDk K p { d with left := some y })) (adr (cDk K p { d with left := some y } ++ [(la, .lst (ns.map V.int)), (D2, .lst (rs2.map fun x => V.ref x.1)), (D1, .lst (rs1.map fun x => V.ref x.1))])) := List.Sublist.map _ (List.sublist_append_left _ _)
    walk_at "s"
    refine ask2 ⟨p, { d with left := some y }, fun W => ∃ hs, hs.Perm (ch2.pure.map (·.1)) ∧ hs.Pairwise (· ≤ ·) ∧ W = commitW hs (fOf ch2.pure), rfl, by show 28 ≤ d.bs.length; omega, by show d.bs.length ≤ 1000; omega, hd2, O8.blk (s' := []) (.app .here), .inr ⟨c', ch2.pure.map (·.1), fOf ch2.pure, ch'.kvs, rfl, ⟨by rw [List.length_map]; exact ok.few, fun z hz => ⟨(ok.key z hz).1, by show z < (d.bs.length : Int); have := (ok.key z hz).2; omega⟩, O8.get (.head _), ?_, fun z hz => ?_, fun z => O8.sep (.head _) (hsub.subset z)⟩, fun hs h hq => ⟨hs, h, hq, rfl⟩⟩, fun H9 d9 W bl hW O9 R => ?_⟩
    · rw [← hp, List.map_map, List.map_map, List.map_map]; rfl
    · obtain ⟨q, h1, h2, h3⟩ := Ch.has hp hz
      refine ⟨q.1, by rw [Ch.look, h1]; rfl, fun w => O8.sep (.tail _ (List.mem_map.mpr ⟨pcel q, List.mem_map.mpr ⟨_, h3, rfl⟩, rfl⟩)) (hsub.subset w), ?_⟩
      rw [← h2]
      exact O8.get (.tail _ (List.mem_append_left _ (List.mem_map.mpr ⟨_, h3, rfl⟩)))
    obtain ⟨hs', hperm', hsort', rfl⟩ := hW
    cases sorted_one hperm' hperm hsort' hsort
    have hbl : bl = decide (y < d5.done - d0.done) := by rw [hmany]; exact runW_left (s := Dk.abs { d with left := some y }) (k := y) rfl hy0 hd2 R
    obtain ⟨r1, r2⟩ := commit_run (s := Dk.abs { d with left := some y }) Cd hso R
    have hP9 : PhP mid hs (fOf ch2.pure) d9.abs.rows := by
      cases bl with
      | true =>
        rcases r1 rfl with h | h
        · exact .inl h
        · exact .inr (.inl h)
      | false => exact .inr (.inr (r2 rfl))
    have O10 : Own H H9 [] (cDk K p d9 ++ [(la, .lst (ns.map V.int)), (D2, .lst (rs2.map fun x => V.ref x.1)), (D1, .lst (rs1.map fun x => V.ref x.1))]) := (O8.call (.app .here) O9).drop (List.sublist_append_right _ _)
    clear O8 O9 r1 hsub R
    subst hbl
    walk_at "s"
    dsimp only
    rw [if_neg (by simp)]
    generalize decide (y < d5.done - d0.done) = bl at r2 ⊢
    walk_at "s"
    refine cutS (fun σ' H2 => ∃ (p' : Addr) (d' : Dk) (v11 v12 v13 : Option V), σ' = [some (.ref b), some (.ref c1), some (.ref c2), some (.ref p0), some (.int d0.done), some (.int (d5.done - d0.done)), some (.ref D1), some (.ref D2), some (.int y), some (.ref p'), some (.bl bl), v11, v12, v13] ∧ Own H H2 [] (cDk K p' d' ++ [(la, .lst (ns.map V.int)), (D2, .lst (rs2.map fun x => V.ref x.1)), (D1, .lst (rs1.map fun x => V.ref x.1))]) ∧ d'.abs.rows = d9.abs.rows) (fun nx hn => ?_) ?_
    · walk_at "s"
      refine if_ii (fun hj2 => ?_) (fun hj2 => ?_)
      · have J4 := hK.ok _ hP9
        have hJ1 := J4.few
        rw [Dk.lenr] at hJ1
        walk_at "s"
        refine ask1 ⟨p, d9, rfl, hJ1, J4.wide, O10.blk (s' := []) .here, fun H7 p' d' O7 he hl' hd' => ?_⟩
        walk_at "s"
        exact hn _ _ ⟨p', d', _, _, _, rfl, (O10.callN O7).drop (.append (.refl _) (List.sublist_append_right _ _)), he⟩
      · exact hn _ _ ⟨p, d9, _, _, _, rfl, O10, rfl⟩
    clear O10
    rintro σ' H6 ⟨q, f0, v11, v12, v13, rfl, O7, he⟩
    walk_at "s"
    refine ask1 ⟨q, f0, rfl, O7.blk (s' := []) .here, fun H8 O8 => ?_⟩
    have O80 : Own H H8 [] (cDk K q { f0 with left := none, down := false } ++ [(la, .lst (ns.map V.int)), (D2, .lst (rs2.map fun x => V.ref x.1)), (D1, .lst (rs1.map fun x => V.ref x.1))]) := O7.call .here O8
    obtain ⟨f, hf⟩ : ∃ f : Dk, f = { f0 with left := none, down := false } := ⟨_, rfl⟩
    rw [← hf] at O80
    have hlf : f.left = none := by rw [hf]
    have hdf : f.down = false := by rw [hf]
    have hef : f.abs.rows = d9.abs.rows := by rw [hf]; exact he
    clear O7 O8 he hf
    have O8 := O80
    clear O80
    have hPf : PhP mid hs (fOf ch2.pure) f.abs.rows := by rw [hef]; exact hP9
    have Jf := hK.ok _ hPf
    have hJ1 := Jf.few
    rw [Dk.lenr] at hJ1
    have hfell : bl = false → Clean f.abs.rows (chg mid hs (fOf ch2.pure)) := fun w => by rw [hef]; exact r2 w
    clear r2 hP9 hef
    walk_at "s"
    refine ask1 ⟨q, f, rfl, hJ1, O8.blk (s' := []) .here, fun H9 b9 rs9 O9 h9 => ?_⟩
    have O10 := O8.callN O9
    walk_at "s"
    intro t1 ht1
    rw [show cutV (rs9.map fun x : Pg => V.ref x.1) (some 28) none = (rs9.drop 28).map fun x : Pg => V.ref x.1 by rw [List.map_drop]; exact cutV_from _ 28]
    have O11 := O10.new (o := .lst ((rs9.drop 28).map fun x : Pg => V.ref x.1)) ht1
    walk_at "s"
    refine ask1 ⟨q, f, _, rfl, hlf, hdf, hK, hPf, O11.blk (s' := []) (by walk_at "sub"), fun H12 g O12 R hPg hmg hlg hdg => ?_⟩
    have O13 : Own H H12 [] ((t1, .lst ((rs9.drop 28).map fun x => V.ref x.1)) :: (((b9, .lst (rs9.map fun x => V.ref x.1)) :: rs9.map pcel) ++ (cDk K q g ++ [(la, .lst (ns.map V.int)), (D2, .lst (rs2.map fun x => V.ref x.1)), (D1, .lst (rs1.map fun x => V.ref x.1))]))) := O11.call (.there (.app .here)) O12
    clear O8 O9 O10 O11 O12
    have Jg := hK.ok _ hPg
    have hJg := Jg.few
    rw [Dk.lenr] at hJg
    walk_at "s"
    refine ask1 ⟨q, g, rfl, hJg, O13.blk (s' := []) (.there (.app .here)), fun H14 b14 rs14 O14 h14 => ?_⟩
    have O15 := O13.callN O14
    walk_at "s"
    intro t2 ht2
    rw [show cutV (rs14.map fun x : Pg => V.ref x.1) (some 28) none = (rs14.drop 28).map fun x : Pg => V.ref x.1 by rw [List.map_drop]; exact cutV_from _ 28]
    have O16 := O15.new (o := .lst ((rs14.drop 28).map fun x : Pg => V.ref x.1)) ht2
    clear O13 O14 O15
    have told := told_ph hso hPf R
    obtain ⟨CS, hCS⟩ : ∃ CS, CS = (t2, HO.lst ((rs14.drop 28).map fun x => V.ref x.1)) :: (((b14, HO.lst (rs14.map fun x => V.ref x.1)) :: rs14.map pcel) ++ ((t1, HO.lst ((rs9.drop 28).map fun x => V.ref x.1)) :: (((b9, HO.lst (rs9.map fun x => V.ref x.1)) :: rs9.map pcel) ++ (cDk K q g ++ [(la, .lst (ns.map V.int)), (D2, .lst (rs2.map fun x => V.ref x.1)), (D1, .lst (rs1.map fun x => V.ref x.1))])))) := ⟨_, rfl⟩
    have O : Own H _ [] CS := hCS ▸ O16
    have hG : ∀ Hx, Own H Hx [] CS → Hx t2 = some (.lst ((rs14.drop 28).map fun x => V.ref x.1)) ∧ RowsAt Hx (rs14.drop 28) := fun Hx O => by
      rw [hCS] at O
      exact ⟨O.get (.head _), O.rows fun r h => .tail _ (List.mem_append_left _ (.tail _ (List.mem_map.mpr ⟨r, List.mem_of_mem_drop h, rfl⟩)))⟩
    have hB : ∀ Hx, Own H Hx [] CS → Hx t1 = some (.lst ((rs9.drop 28).map fun x => V.ref x.1)) ∧ RowsAt Hx (rs9.drop 28) := fun Hx O => by
      rw [hCS] at O
      exact ⟨O.get (.tail _ (List.mem_append_right _ (.head _))), O.rows fun r h => .tail _ (List.mem_append_right _ (.tail _ (List.mem_append_left _ (.tail _ (List.mem_map.mpr ⟨r, List.mem_of_mem_drop h, rfl⟩)))))⟩
    have hOD : ∀ Hx, Own H Hx [] CS → Own H Hx [] [(la, .lst (ns.map V.int)), (D2, .lst (rs2.map fun x => V.ref x.1)), (D1, .lst (rs1.map fun x => V.ref x.1))] := fun Hx O => by
      rw [hCS] at O
      refine O.drop (.cons _ (List.Sublist.trans ?_ (List.sublist_append_right _ _)))
      exact .cons _ (List.Sublist.trans (List.sublist_append_right _ _) (List.sublist_append_right _ _))
    have hDu : ∀ Hx, Own H Hx [] CS → Hx D2 = some (.lst (rs2.map fun x => V.ref x.1)) ∧ RowsAt Hx rs2 := fun Hx O => ⟨(hOD Hx O).get (.tail _ (.head _)), fun r h => O.fr0 (hrr2 r h)⟩
    have hRw : ∀ Hx, Own H Hx [] CS → Hx D1 = some (.lst (rs1.map fun x => V.ref x.1)) ∧ RowsAt Hx rs1 := fun Hx O => ⟨(hOD Hx O).get (.tail _ (.tail _ (.head _))), fun r h => O.fr0 (hrr1 r h)⟩
    have lG : (rs14.drop 28).length ≤ 1000 := by
      have := congrArg List.length h14
      rw [List.length_map, List.length_map] at this
      rw [List.length_drop]; omega
    have lB : (rs9.drop 28).length ≤ 1000 := by
      have := congrArg List.length h9
      rw [List.length_map, List.length_map] at this
      rw [List.length_drop]; omega
    have wG : ∀ r ∈ rs14.drop 28, r.2.length ≤ 1000 := fun r h => by
      have h1 : r.2 ∈ g.rows := h14 ▸ List.mem_map.mpr ⟨r, List.mem_of_mem_drop h, rfl⟩
      rw [Jg.wide _ h1]; decide
    have wB : ∀ r ∈ rs9.drop 28, r.2.length ≤ 1000 := fun r h => by
      have h1 : r.2 ∈ f.rows := h9 ▸ List.mem_map.mpr ⟨r, List.mem_of_mem_drop h, rfl⟩
      rw [Jf.wide _ h1]; decide
    have eG : (rs14.drop 28).map (·.2) = g.abs.rows.drop 28 := by rw [List.map_drop, h14]; rfl
    have eB : (rs9.drop 28).map (·.2) = f.abs.rows.drop 28 := by rw [List.map_drop, h9]; rfl
    have eD : rs2.map (·.2) = chg mid hs (fOf ch2.pure) := by rw [hs2, hs1]; exact (ChOk.chg hperm _).symm
    clear hCS O16
    generalize (upd H14 t2 (HO.lst ((rs14.drop 28).map fun x => V.ref x.1))) = Hx at O ⊢
    rcases told with ⟨hm, htf, hC⟩ | ⟨hm, hC⟩
    · rw [hm]
      have eBG : (rs9.drop 28).map (·.2) = (rs14.drop 28).map (·.2) := by rw [eB, eG, htf]
      walk_at "b"
      refine ask2 ⟨some 0, 0, rfl, rfl, ?_⟩
      rw [decide_eq_true rfl]
      walk_at "st"
      walk_at "b"
      refine ask2 ⟨some 0, 0, rfl, rfl, ?_⟩
      rw [decide_eq_true rfl]
      walk_at "st"
      refine rows_ask O (hG _ O) (hDu _ O) lG wG fun H17 O => ?_
      by_cases e : (rs14.drop 28).map (·.2) = rs2.map (·.2)
      · rw [decide_eq_true e]
        walk_at "st"
        refine rows_ask O (hB _ O) (hDu _ O) lB wB fun H18 O => ?_
        rw [decide_eq_true (eBG.trans e)]
        walk_at "st"
        refine rows_ask O (hG _ O) (hDu _ O) lG wG fun H19 O => ?_
        rw [decide_eq_true e]
        walk_at "st"
        exact ⟨_, _, _, _, _, _, rfl, hOD _ O⟩
      · have hbl : bl = true := by
          cases bl with
          | true => rfl
          | false =>
            have h := hfell rfl
            rw [← htf] at h
            exact absurd (eG.trans (h.drop.trans eD.symm)) e
        subst hbl
        rw [decide_eq_false e]
        walk_at "st"
        refine rows_ask O (hG _ O) (hDu _ O) lG wG fun H18 O => ?_
        rw [decide_eq_false e]
        walk_at "st"
        have e2 : (rs14.drop 28).map (·.2) = rs1.map (·.2) := by
          rcases hC with C | C
          · exact eG.trans (C.drop.trans hs1.symm)
          · exact absurd (eG.trans (C.drop.trans eD.symm)) e
        refine rows_ask O (hG _ O) (hRw _ O) lG wG fun H19 O => ?_
        rw [decide_eq_true e2]
        walk_at "st"
        exact ⟨_, _, _, _, _, _, rfl, hOD _ O⟩
    · rw [hm]
      have e : (rs14.drop 28).map (·.2) = rs2.map (·.2) := eG.trans (hC.drop.trans eD.symm)
      have hbl : bl = true := by
        cases bl with
        | true => rfl
        | false =>
          have h := (hfell rfl).mark
          rw [← markOf_eq] at h
          omega
      subst hbl
      walk_at "b"
      refine ask2 ⟨some (hs.length : Nat), 0, rfl, rfl, ?_⟩
      rw [decide_eq_false (fun z => by have := Option.some.inj z; omega)]
      walk_at "st"
      refine ask2 ⟨some (hs.length : Nat), (ch2.kvs.length : Nat), rfl, rfl, ?_⟩
      rw [decide_eq_true (by rw [List.length_map, hlen])]
      walk_at "st"
      walk_at "b"
      refine ask2 ⟨some (hs.length : Nat), 0, rfl, rfl, ?_⟩
      rw [decide_eq_false (fun z => by have := Option.some.inj z; omega)]
      walk_at "st"
      refine rows_ask O (hG _ O) (hDu _ O) lG wG fun H17 O => ?_
      rw [decide_eq_true e]
      walk_at "st"
      exact ⟨_, _, _, _, _, _, rfl, hOD _ O⟩
  · rintro σ H' ⟨v8, v9, v10, v11, v12, v13, rfl, O⟩
    walk_at "s"
    exact k _ (O.drop (List.nil_sublist _))

def sp_law (K : PySem.W.Frag) : Sp := sp1 fun x H Q _ => ∃ (a : Addr) (xs : List Int), x = .ref a ∧ SqL K H a (xs.map V.int) ∧ xs.length ≤ 63 ∧ ∀ H', Q (.bl true) H'
theorem law_in {K : PySem.W.Frag} (H : Hp) (a : Addr) (ns : List Int) (hl : ns.length ≤ 63) (hz : ∀ z ∈ ns, Builtin.Int.intBits z ≤ 1048576) (hS : SqL K H a (ns.map V.int)) :
    ∃ (a' : Addr) (xs : List Int), V.ref a = .ref a' ∧ SqL K H a' (xs.map V.int) ∧ xs.length ≤ 63 ∧ ∀ H' : Hp, (fun (v : V) (_ : Hp) => v = .bl true) (.bl true) H' := ⟨a, ns, rfl, hS, hl, fun _ => rfl⟩
theorem sc_law : FnScope ["_law_script", "_law_rows_here", "_law_great", "_law_block", "_law_k", "_law_ahead"] ["_law_script"] (defScope s_law) := ⟨rfl, rfl, rfl, by decide +kernel, rfl, by decide +kernel, by decide +kernel⟩
theorem ok_law {P : Program} {w : World} {K : PySem.W.Frag} {mg : Str → Option Value} {base : Heap} (T : Txt K mg) {fd : FuncData} (F : FunD K "law" "law" (defArgs s_law) (defBody s_law) (defScope s_law) [] [] (He.fAd K ("law", none)) fd) : FnOk P w K mg base (L2.CX P w) 7 (He.fAd K ("law", none)) fd ["_law_script"] (bx (sp_law K)) := by
  have c__law_rows : Cee P w K mg base 3 (He.fAd K ("_law_rows", none)) ["_law_script", "_law_most"] (sp__law_rows K) := ok__law_rows T
  have c__law_cell_at : Cee P w K mg base 1 (He.fAd K ("_law_cell_at", none)) ["_law_script", "_law_k"] (sp__law_cell_at K) := ok__law_cell_at T
  have c__law_changes : Cee P w K mg base 2 (He.fAd K ("_law_changes", none)) ["_law_number", "_law_rows_here"] (sp__law_changes K) := ok__law_changes T
  have c__law_wide : Cee P w K mg base 2 (He.fAd K ("_law_wide", none)) ["_law_script", "_law_k"] (sp__law_wide K) := ok__law_wide T
  have c__law_all_falls : Cee P w K mg base 6 (He.fAd K ("_law_all_falls", none)) ["_law_rows_here", "_law_ahead", "_law_changes_here"] (sp__law_all_falls K) := ok__law_all_falls T
  refine fn_of F sc_law (fun vs H Q E h => sp1_len h) (fun cdv A outer s H vs Q E hr h => ⟨_, (pss_cons (ps_set (i := 1) sc_law.nd rfl (Or.inl rfl) (pe_f c__law_rows (hr.mono (by decide)) (takes_of rfl rfl rfl rfl) (by rfl) T.g__law_rows (pa_cons (pv 0) (pa_cons pe_int pa_nil)))) (pss_cons (ps_set (i := 2) sc_law.nd rfl (Or.inl rfl) (pe_cmpR op_eq (pe_op op_mod (pe_op op_fdiv (pe_f c__law_cell_at (hr.mono (by decide)) (takes_of rfl rfl rfl rfl) (by rfl) T.g__law_cell_at (pa_cons (pv 0) (pa_cons pe_int pa_nil))) pe_int) pe_int) pe_int (nomark _))) (pss_cons (PS.box (ps_if (pt_val (pv 2)) (pss_one (ps_set (i := 1) sc_law.nd rfl (Or.inl rfl) (pe_op op_cat (pe_lc (own := [("_law_block", 3)]) (by rfl) sc_law.nd (PI.box (pi_range1 (by rfl) T.n_range (pa_cons pe_int pa_nil))) (blkOk_by (own := [("_law_block", 3)]) (N := ["_law_script", "_law_rows_here", "_law_great", "_law_block", "_law_k", "_law_ahead"]) (sc := defScope s_law) (by decide +kernel)) (fun _ _ _ _ _ => (pg_name (i := 3) sc_law.nd rfl (Or.inl rfl))) (fun _ _ _ _ _ => pts_nil) (fun _ _ _ _ _ => (pe_op op_rep (pe_lst (pa_cons pe_int pa_nil)) pe_int))) (pv 1)))) pss_nil)) (pss_cons (ps_for (passes_of rfl) rfl (PI.box (pi_range2 (by rfl) T.n_range (pa_cons pe_int (pa_cons (pe_ix ix_list (pe_lst (pa_cons pe_int (pa_cons pe_int pa_nil))) (pe_callTy call_int1 (by rfl) T.n_int (by decide +kernel) (pa_cons (pv 2) pa_nil)) (fun _ _ => rfl)) pa_nil)))) (pg_name (i := 4) sc_law.nd rfl (Or.inl rfl)) (pss_cons (ps_set (i := 5) sc_law.nd rfl (Or.inl rfl) pe_dnewK) (pss_cons (PS.box (ps_if (pt_cmpR op_eq (pe_op op_mod (pe_op op_fdiv (pe_f c__law_cell_at (hr.mono (by decide)) (takes_of rfl rfl rfl rfl) (by rfl) T.g__law_cell_at (pa_cons (pv 0) (pa_cons pe_int pa_nil))) pe_int) pe_int) pe_int (nomark _)) (pss_one (ps_set (i := 5) sc_law.nd rfl (Or.inl rfl) (pe_f c__law_changes (hr.mono (by decide)) (takes_of rfl rfl rfl rfl) (by rfl) T.g__law_changes (pa_cons (pe_f c__law_wide (hr.mono (by decide)) (takes_of rfl rfl rfl rfl) (by rfl) T.g__law_wide (pa_cons (pv 0) (pa_cons (pe_op op_add (pv 4) pe_int) pa_nil))) (pa_cons (pv 1) pa_nil))))) pss_nil)) (pss_one (ps_if (pt_not (pt_val (pe_f c__law_all_falls (hr.mono (by decide)) (takes_of rfl rfl rfl rfl) (by rfl) T.g__law_all_falls (pa_cons (pv 1) (pa_cons (pv 5) (pa_cons (pe_f c__law_changes (hr.mono (by decide)) (takes_of rfl rfl rfl rfl) (by rfl) T.g__law_changes (pa_cons (pe_f c__law_wide (hr.mono (by decide)) (takes_of rfl rfl rfl rfl) (by rfl) T.g__law_wide (pa_cons (pv 0) (pa_cons (pv 4) pa_nil))) (pa_cons (pv 1) pa_nil))) pa_nil)))))) (pss_one (ps_ret pe_bl)) pss_nil))))) (pss_one (ps_ret pe_bl)))))), ?_⟩)
  obtain ⟨v0, rfl, h⟩ := h
  dsimp only [cxOf, L2.start]
  obtain ⟨a, xs, rfl, ha, hl, k⟩ := h
  walk_at "s"
  refine ask2 ⟨a, xs, 25, rfl, rfl, by decide, by decide, ha, fun H1 b rs O1 hr0 hr1 hrw => ?_⟩
  walk_at "s"
  refine ask2 ⟨a, xs, 0, rfl, rfl, by decide, O1.sq ha, ?_⟩
  walk_at "s"
  generalize (xs[(0 : Int).toNat]?).getD 0 = c0
  refine cutS (fun σ' H2 => ∃ (b : Addr) (rs : List Pg) (gr : Bool) (v3 v4 v5 : Option V), σ' = [some (.ref a), some (.ref b), some (.bl gr), v3, v4, v5] ∧ Own H H2 [] (cLR b rs) ∧ 2 ≤ rs.length ∧ rs.length ≤ 300 ∧ ∀ r ∈ rs, r.2.length = 16) (fun nx hn => ?_) ?_
  · walk_at "s"
    refine if_ii (fun h => ?_) (fun h => ?_)
    · walk_at "s"
      refine lcR (lo := 0) (n := 186) (fun D j H2 => ∃ cs : List Pg, cs.map (·.2) = List.replicate j nought ∧ Own H H2 [] ((D, .lst (cs.map fun x => V.ref x.1)) :: (cs.map pcel ++ cLR b rs))) (fun D hD => ⟨[], rfl, O1.new hD⟩) ?_ ?_
      · rintro D j H2 hj ⟨cs, hl, O5⟩
        have hlj := congrArg List.length hl
        rw [List.length_map, List.length_replicate] at hlj
        walk_at "s"
        intro c hc
        have O6 := O5.new (o := .lst [V.int 0]) hc
        have hsz : ([V.int 0] : List V).length * (16 : Int).toNat ≤ sizeLine := sz_le (by decide)
        walk_at "s"
        intro e he
        have O7 := O6.new (o := .lst (nought.map V.int)) he
        have hlen : (cs.map fun x : Pg => V.ref x.1).length < 100000 := by rw [List.length_map]; omega
        walk_at "s"
        refine ⟨cs ++ [(e, nought)], by rw [List.map_append, hl, List.replicate_succ']; rfl, ?_⟩
        have O8 := ((O7.drop (cs' := (e, .lst (nought.map V.int)) :: (D, .lst (cs.map fun x => V.ref x.1)) :: (cs.map pcel ++ cLR b rs)) (.cons₂ _ (.cons _ (.refl _)))).wr (o' := .lst ((cs.map fun x => V.ref x.1) ++ [.ref e])) (.there .here))
        rw [List.map_append, List.map_append]
        refine O8.perm ((List.Perm.swap _ _ _).trans (.cons _ ?_))
        rw [List.append_assoc]
        exact List.perm_middle.symm
      · rintro D H2 ⟨cs, hl, O5⟩
        have hlj := congrArg List.length hl
        rw [List.length_map, List.length_replicate] at hlj
        have hcat : (cs.map fun x : Pg => V.ref x.1).length + (rs.map fun x : Pg => V.ref x.1).length ≤ 100000 := by simp only [List.length_map]; omega
        walk_at "s"
        intro e he
        have O6 := O5.new (o := .lst ((cs.map fun x : Pg => V.ref x.1) ++ rs.map fun x : Pg => V.ref x.1)) he
        walk_at "s"
        refine hn _ _ ⟨e, cs ++ rs, _, _, _, _, rfl, ?_, by rw [List.length_append]; omega, by rw [List.length_append]; omega, fun r hr => ?_⟩
        · unfold cLR
          rw [List.map_append, List.map_append]
          refine O6.drop (.cons₂ _ (.cons _ (.append (.refl _) (.cons _ (.refl _)))))
        · rcases List.mem_append.mp hr with z | z
          · have : r.2 ∈ List.replicate 186 nought := hl ▸ List.mem_map.mpr ⟨r, z, rfl⟩
            rw [List.eq_of_mem_replicate this]; rfl
          · exact hrw r z
    · exact hn _ _ ⟨b, rs, _, _, _, _, rfl, O1, hr0, by omega, hrw⟩
  clear O1 hr0 hr1 hrw rs b
  rintro σ' H2 ⟨b, rs, gr, v3, v4, v5, rfl, O1, hr0, hr1, hrw⟩
  walk_at "s"
  intro l hl3
  have O2 := O1.new (o := .lst [V.int 3, V.int 2]) hl3
  refine ⟨_, rfl, .inr ⟨gr, rfl, ?_⟩⟩
  obtain ⟨y, hy, hat⟩ := at_ints (ns := [3, 2]) (n := if gr = true then 1 else 0) (by split <;> decide) (by split <;> decide)
  have hy2 : y = 3 ∨ y = 2 := by
    have h := List.mem_of_getElem? hy
    simpa only [List.mem_cons, List.not_mem_nil, or_false] using h
  walk_at "s"
  have O3 : Own H _ [] (cLR b rs) := O2.drop (.cons _ (.refl _))
  refine forR (lo := 1) (fun j σ H' => ∃ v3 v4 v5 : Option V, σ = [some (.ref a), some (.ref b), some (.bl gr), v3, v4, v5] ∧ Own H H' [] (cLR b rs)) ⟨_, _, _, rfl, O3⟩ ?_ ?_
  · clear O1 O2 O3 hl3 hy hat
    rintro j σ H' hj ⟨v3, v4, v5, rfl, O⟩
    walk_at "s"
    intro c hc
    have O1 := O.new (o := .dK []) hc
    walk_at "s"
    refine cutS (fun σ' H2 => ∃ (c : Addr) (ch : Ch), σ' = [some (.ref a), some (.ref b), some (.bl gr), v3, some (.int (1 + j)), some (.ref c)] ∧ Own H H2 [] (cCh c ch ++ cLR b rs) ∧ (ch = [] ∨ ChOk ch.pure rs.length)) (fun nx hn => ?_) ?_
    · walk_at "s"
      refine ask2 ⟨a, xs, 0, rfl, rfl, by decide, O1.sq ha, ?_⟩
      walk_at "s"
      refine if_ii (fun h => ?_) (fun h => ?_)
      · walk_at "s"
        refine ask2 ⟨a, xs, _, rfl, rfl, by omega, O1.sq ha, fun r => ?_⟩
        walk_at "s"
        refine ask2 ⟨r, b, rs, rfl, rfl, by omega, by omega, O1.get (.tail _ (.head _)), fun H3 c3 ch O3 ok => ?_⟩
        walk_at "s"
        exact hn _ _ ⟨c3, ch, rfl, (O1.callN O3).drop (.append (.refl _) (.cons _ (.refl _))), .inr ok⟩
      · exact hn _ _ ⟨c, [], rfl, O1, .inl rfl⟩
    clear O1 O hc
    rintro σ' H3 ⟨c, ch, rfl, O, hch⟩
    walk_at "s"
    refine ask2 ⟨a, xs, _, rfl, rfl, by omega, O.sq ha, fun r => ?_⟩
    walk_at "s"
    refine ask2 ⟨r, b, rs, rfl, rfl, by omega, by omega, O.get (List.mem_append_right _ (.head _)), fun H4 c2 ch2 O4 ok => ?_⟩
    have O5 := O.callN O4
    walk_at "s"
    refine ask3 ⟨b, c, c2, rs, ch, ch2, rfl, rfl, rfl, by omega, hrw, hch, ok, O5.get (List.mem_append_right _ (List.mem_append_right _ (.head _))), O5.rows fun r h => List.mem_append_right _ (List.mem_append_right _ (.tail _ (List.mem_map.mpr ⟨r, h, rfl⟩))), O5.get (List.mem_append_right _ (List.mem_append_left _ (.head _))), O5.rows fun q h => List.mem_append_right _ (List.mem_append_left _ (.tail _ (by obtain ⟨x, hx, rfl⟩ := List.mem_map.mp h; exact List.mem_map.mpr ⟨x, hx, rfl⟩))), O5.get (List.mem_append_left _ (.head _)), O5.rows fun q h => List.mem_append_left _ (.tail _ (by obtain ⟨x, hx, rfl⟩ := List.mem_map.mp h; exact List.mem_map.mpr ⟨x, hx, rfl⟩)), fun H9 O9 => ?_⟩
    walk_at "s"
    exact ⟨_, _, _, rfl, (O5.callN O9).drop ((List.sublist_append_right _ _).trans (List.sublist_append_right _ _))⟩
  · rintro σ H' ⟨v3, v4, v5, rfl, O⟩
    walk_at "s"
    exact k _

end Ow
open PySem PySem.W PySem.Calls PyProof.Rows
set_option maxHeartbeats 0
set_option maxRecDepth 100000 in
theorem PySem.Challenge.cw_ownroom_k28_each_fall_of_a_commit_holds : PySem.Challenge.rw_ownroom_k28_each_fall_of_a_commit.Holds := by
  w_on; o_law
  refine HandSHeadRun.head_any (r := OpenLaw.row PySem.Challenge.rw_ownroom_k28_each_fall_of_a_commit) (q := view (OpenLaw.row PySem.Challenge.rw_ownroom_k28_each_fall_of_a_commit).prog [34]) (H := Ow.hk) (ob := Ow.ob) (M := 60000) (loose := Ow.loose) (d := HandSHeadRun.topDef (OpenLaw.row PySem.Challenge.rw_ownroom_k28_each_fall_of_a_commit).prog 34) (kwd := []) Ow.ob_eq
    (by kernel_rfl) (fun s => by kernel_rfl) Ow.run (by kernel_rfl) (by kernel_rfl) (by kernel_rfl) (by rfl) (by first | assumption | decide +kernel) (by decide +kernel) ⟨rfl, rfl, rfl, rfl, rfl, by decide +kernel⟩ ?hw ?hc
  case hw => w_witness2
  case hc =>
    refine Ow.walk_end (l := PySem.Challenge.rw_ownroom_k28_each_fall_of_a_commit) (n := 63) (k := 7) (x := "_law_script") rfl (by decide) (by kernel_rfl) ⟨rfl, by decide, by decide⟩ ?F
    intro w mg fa h Y G hmg0
    obtain ⟨K, KX, c⟩ := Y
    have hmg : mg ("law" : PySem.Str) = some (.ref fa) := by
      have e : (HandSHeadRun.topDef (OpenLaw.row PySem.Challenge.rw_ownroom_k28_each_fall_of_a_commit).prog 34).name = ("law" : PySem.Str) := by kernel_rfl
      rw [← e]
      exact hmg0
    have T := Ow.txt_mk KX G c.t.d c.more
    have e := hmg.symm.trans T.g_law
    cases e
    obtain ⟨fd, F⟩ := T.d_law
    have b := L2.FunD.bindsA (ps := ["_law_script"]) F fun _ _ _ _ _ _ us hl => match us, hl with | [_], _ => rfl
    exact ⟨K, fd, Ow.bx (Ow.sp_law K), KX, fun s v => b s [v] rfl, fun H a ns hl hz hS => ⟨⟨_, rfl, Ow.law_in H a ns hl hz hS⟩⟩, fun base _ _ => Ow.ok_law T F⟩
