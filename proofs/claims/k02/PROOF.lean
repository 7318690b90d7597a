import PyProof.Rows.All
import Wide.All
import OpenK.AllK
import Wide.FinOn
import HandS.ForMost
import HandS.ForExc
import HandS.More
import HandS.SortInts
import HandS.Conv
import HandS.Defaults
import HandS.IsInst
import HandS.ExcValue
import HandS.ExcIs
import HandS.Flow
import HandS.Codes
import HandS.TupLen
import HandS.StrMore
import HandS.SetFor
import HandS.Style
import HandS.DictTup
import HandS.ListItems
import HandS.TupAny
import HandS.Finally
import HandS.Wide
import HandS.Replace
import HandS.Zip
import HandS.Head0
import HandS.Head1
import HandS.Head2
import HandS.HeadEnd
import HandS.HeadHook1
import HandS.HeadHook2
import HandS.HeadHook3
import HandS.HeadHook4
import HandS.EndBits
import PySem.Challenge.RW_ownroom_k02_stores_keep_their_own
set_option Elab.async false
set_option linter.all false
set_option maxRecDepth 100000
set_option pp.mvars false
set_option pp.deepTerms false
set_option pp.deepTerms.threshold 10
set_option pp.maxSteps 1500
set_option maxHeartbeats 4000000
namespace Ow
open PySem PySem.Spec PyProof.Rows L2
/-! ## My own layer: what a def owns (cells), a def that may be called, readings that stop at calls and loops -/
/-! ### cells -/
abbrev Cells := List (Addr × HO)
def adr (cs : Cells) : List Addr := cs.map Prod.fst
/-- from H0, of which the addresses A are ours, we have come to H; the cells cs stand there, each once; the rest of H0 is as it was, new cells were free in H0, tuples stay -/
structure Own (H0 H : Hp) (A : List Addr) (cs : Cells) : Prop where
  at_ : ∀ a o, (a, o) ∈ cs → H a = some o
  nd : (adr cs).Nodup
  fr : ∀ b o, H0 b = some o → b ∉ A → H b = some o
  nw : ∀ b, b ∈ adr cs → b ∈ A ∨ H0 b = none
  tp : ∀ b xs, H0 b = some (.tup xs) → H b = some (.tup xs)
theorem adr_cons {c : Addr × HO} {r : Cells} : adr (c :: r) = c.1 :: adr r := rfl
theorem adr_app {s r : Cells} : adr (s ++ r) = adr s ++ adr r := List.map_append
theorem Own.start {H : Hp} (h : ∀ b xs, H b = some (.tup xs) → H b = some (.tup xs) := fun _ _ h => h) : Own H H [] [] :=
  ⟨fun _ _ m => (nomatch m), List.nodup_nil, fun _ _ h _ => h, fun _ m => (nomatch m), h⟩
/-- where the cell of an address stands, and the row with another thing there -/
inductive At : Cells → Addr → HO → HO → Cells → Prop
  | here {a o o' r} : At ((a, o) :: r) a o o' ((a, o') :: r)
  | there {c r a o o' r'} : At r a o o' r' → At (c :: r) a o o' (c :: r')
  | app {s r a o o' r'} : At r a o o' r' → At (s ++ r) a o o' (s ++ r')
  | appl {s r a o o' s'} : At s a o o' s' → At (s ++ r) a o o' (s' ++ r)
theorem At.mem {cs cs' : Cells} {a : Addr} {o o' : HO} (h : At cs a o o' cs') : (a, o) ∈ cs := by
  induction h with
  | here => exact List.mem_cons_self
  | there _ ih => exact List.mem_cons_of_mem _ ih
  | app _ ih => exact List.mem_append_right _ ih
  | appl _ ih => exact List.mem_append_left _ ih
theorem At.adr {cs cs' : Cells} {a : Addr} {o o' : HO} (h : At cs a o o' cs') : adr cs' = adr cs := by
  induction h with
  | here => rfl
  | there _ ih => rw [adr_cons, adr_cons, ih]
  | app _ ih => rw [adr_app, adr_app, ih]
  | appl _ ih => rw [adr_app, adr_app, ih]
theorem At.of {cs cs' : Cells} {a : Addr} {o o' : HO} (h : At cs a o o' cs') (nd : (Ow.adr cs).Nodup) : ∀ b u, (b, u) ∈ cs' → (b = a ∧ u = o') ∨ (b ≠ a ∧ (b, u) ∈ cs) := by
  induction h with
  | here =>
    intro b u m
    rcases List.mem_cons.mp m with e | m2
    · cases e; exact .inl ⟨rfl, rfl⟩
    · refine .inr ⟨fun e => ?_, List.mem_cons_of_mem _ m2⟩
      subst e
      exact (List.nodup_cons.mp nd).1 (List.mem_map.mpr ⟨_, m2, rfl⟩)
  | @there c r a o o' r' h ih =>
    intro b u m
    obtain ⟨n1, n2⟩ := List.nodup_cons.mp nd
    rcases List.mem_cons.mp m with e | m
    · subst e
      refine .inr ⟨fun e => ?_, List.mem_cons_self⟩
      exact n1 (List.mem_map.mpr ⟨_, h.mem, e.symm⟩)
    · rcases ih n2 b u m with z | ⟨z1, z2⟩
      · exact .inl z
      · exact .inr ⟨z1, List.mem_cons_of_mem _ z2⟩
  | @app s r a o o' r' h ih =>
    intro b u m
    rw [adr_app] at nd
    obtain ⟨n1, n2, n3⟩ := List.nodup_append.mp nd
    rcases List.mem_append.mp m with m | m
    · refine .inr ⟨fun e => ?_, List.mem_append_left _ m⟩
      subst e
      exact n3 _ (List.mem_map.mpr ⟨_, m, rfl⟩) _ (List.mem_map.mpr ⟨_, h.mem, rfl⟩) rfl
    · rcases ih n2 b u m with z | ⟨z1, z2⟩
      · exact .inl z
      · exact .inr ⟨z1, List.mem_append_right _ z2⟩
  | @appl s r a o o' s' h ih =>
    intro b u m
    rw [adr_app] at nd
    obtain ⟨n1, n2, n3⟩ := List.nodup_append.mp nd
    rcases List.mem_append.mp m with m | m
    · rcases ih n1 b u m with z | ⟨z1, z2⟩
      · exact .inl z
      · exact .inr ⟨z1, List.mem_append_left _ z2⟩
    · refine .inr ⟨fun e => ?_, List.mem_append_right _ m⟩
      subst e
      exact n3 _ (List.mem_map.mpr ⟨_, h.mem, rfl⟩) _ (List.mem_map.mpr ⟨_, m, rfl⟩) rfl
def isTup : HO → Bool
  | .tup _ => true
  | _ => false
/-- a block of cells within, and the row with another block in its place -/
inductive Sub : Cells → Cells → Cells → Cells → Prop
  | all {s s'} : Sub s s s' s'
  | here {s s' r} : Sub (s ++ r) s s' (s' ++ r)
  | one {c s' r} : Sub (c :: r) [c] s' (s' ++ r)
  | two {c d s' r} : Sub (c :: d :: r) [c, d] s' (s' ++ r)
  | nil {r s'} : Sub r [] s' (s' ++ r)
  | there {c r s s' r'} : Sub r s s' r' → Sub (c :: r) s s' (c :: r')
  | app {t r s s' r'} : Sub r s s' r' → Sub (t ++ r) s s' (t ++ r')
  | appl {t r s s' t'} : Sub t s s' t' → Sub (t ++ r) s s' (t' ++ r)
theorem Sub.split {cs s s' cs' : Cells} (h : Sub cs s s' cs') : ∃ l r, cs = l ++ (s ++ r) ∧ cs' = l ++ (s' ++ r) := by
  induction h with
  | all => exact ⟨[], [], by simp, by simp⟩
  | here => exact ⟨[], _, rfl, rfl⟩
  | one => exact ⟨[], _, rfl, rfl⟩
  | two => exact ⟨[], _, rfl, rfl⟩
  | nil => exact ⟨[], _, rfl, rfl⟩
  | @there c r s s' r' _ ih =>
    obtain ⟨l, t, e1, e2⟩ := ih
    exact ⟨c :: l, t, by rw [e1]; rfl, by rw [e2]; rfl⟩
  | @app t r s s' r' _ ih =>
    obtain ⟨l, q, e1, e2⟩ := ih
    exact ⟨t ++ l, q, by rw [e1, List.append_assoc], by rw [e2, List.append_assoc]⟩
  | @appl t r s s' t' _ ih =>
    obtain ⟨l, q, e1, e2⟩ := ih
    exact ⟨l, q ++ r, by rw [e1]; simp only [List.append_assoc], by rw [e2]; simp only [List.append_assoc]⟩
section
variable {H0 H H' : Hp} {A : List Addr} {cs cs' s s' : Cells} {a p : Addr} {o o' : HO}
theorem Own.get (O : Own H0 H A cs) (m : (a, o) ∈ cs) : H a = some o := O.at_ a o m
theorem Own.tup {t : Addr} {xs : List V} (O : Own H0 H A cs) (h : H0 t = some (.tup xs)) : H t = some (.tup xs) := O.tp t xs h
/-- a cell is written -/
theorem Own.wr (O : Own H0 H A cs) (h : At cs a o o' cs') (n : isTup o = false := by rfl) : Own H0 (upd H a o') A cs' := by
  have ha := O.at_ a o h.mem
  refine ⟨fun b u m => ?_, by rw [h.adr]; exact O.nd, fun b u e hb => ?_, fun b m => O.nw b (by rw [← h.adr]; exact m), fun b xs e => ?_⟩
  · rcases h.of O.nd b u m with ⟨rfl, rfl⟩ | ⟨e, m⟩
    · exact upd_same
    · rw [upd_ne e]; exact O.at_ b u m
  · rw [upd_ne]
    · exact O.fr b u e hb
    · rintro rfl
      rcases O.nw b (List.mem_map.mpr ⟨_, h.mem, rfl⟩) with z | z
      · exact hb z
      · rw [z] at e; cases e
  · have e1 := O.tp b xs e
    rw [upd_ne]
    · exact e1
    · rintro rfl
      rw [e1] at ha
      cases ha
      cases n
/-- a new cell -/
theorem Own.new (O : Own H0 H A cs) (h : H p = none) : Own H0 (upd H p o) A ((p, o) :: cs) := by
  have hn : p ∉ adr cs := fun m => by
    obtain ⟨c, hc, e⟩ := List.mem_map.mp m
    have := O.at_ c.1 c.2 hc
    rw [e, h] at this
    cases this
  have ne : ∀ b u, H b = some u → b ≠ p := fun b u e z => by rw [z, h] at e; cases e
  by_cases hA : p ∈ A
  · refine ⟨fun b u m => ?_, List.nodup_cons.mpr ⟨hn, O.nd⟩, fun b u e hb => ?_, fun b m => ?_, fun b xs e => ?_⟩
    · rcases List.mem_cons.mp m with z | z
      · cases z; exact upd_same
      · rw [upd_ne (ne b u (O.at_ b u z))]; exact O.at_ b u z
    · rw [upd_ne (ne b u (O.fr b u e hb))]; exact O.fr b u e hb
    · rcases List.mem_cons.mp m with z | z
      · exact .inl (by rw [z]; exact hA)
      · exact O.nw b z
    · rw [upd_ne (ne b _ (O.tp b xs e))]; exact O.tp b xs e
  · have h0 : H0 p = none := by
      cases q : H0 p with
      | none => rfl
      | some u =>
        rw [O.fr p u q hA] at h
        cases h
    refine ⟨fun b u m => ?_, List.nodup_cons.mpr ⟨hn, O.nd⟩, fun b u e hb => ?_, fun b m => ?_, fun b xs e => ?_⟩
    · rcases List.mem_cons.mp m with z | z
      · cases z; exact upd_same
      · rw [upd_ne (ne b u (O.at_ b u z))]; exact O.at_ b u z
    · rw [upd_ne (ne b u (O.fr b u e hb))]; exact O.fr b u e hb
    · rcases List.mem_cons.mp m with z | z
      · exact .inr (by rw [z]; exact h0)
      · exact O.nw b z
    · rw [upd_ne (ne b _ (O.tp b xs e))]; exact O.tp b xs e
/-- a new tuple: it needs no owner -/
theorem Own.newT (O : Own H0 H A cs) (h : H p = none) : Own H0 (upd H p o) A cs :=
  have O' := O.new (o := o) h
  ⟨fun b u m => O'.at_ b u (List.mem_cons_of_mem _ m), O.nd, O'.fr, O.nw, O'.tp⟩
/-- fewer cells -/
theorem Own.drop (O : Own H0 H A cs) (h : List.Sublist cs' cs) : Own H0 H A cs' :=
  ⟨fun b u m => O.at_ b u (h.subset m), O.nd.sublist (h.map _), O.fr, fun b m => O.nw b ((h.map _).subset m), O.tp⟩
theorem Own.perm (O : Own H0 H A cs) (h : cs.Perm cs') : Own H0 H A cs' :=
  ⟨fun b u m => O.at_ b u (h.mem_iff.mpr m), (h.map _).nodup_iff.mp O.nd, O.fr, fun b m => O.nw b ((h.map _).mem_iff.mpr m), O.tp⟩
/-- a block of it, as what a callee is handed -/
theorem Own.blk (O : Own H0 H A cs) (h : Sub cs s s' cs') : Own H H (adr s) s := by
  obtain ⟨l, r, rfl, _⟩ := h.split
  have nd := O.nd
  rw [adr_app, adr_app] at nd
  exact ⟨fun b u m => O.at_ b u (List.mem_append_right _ (List.mem_append_left _ m)), (List.nodup_append.mp (List.nodup_append.mp nd).2.1).1, fun _ _ e _ => e, fun _ m => .inl m, fun _ _ e => e⟩
/-- behind the call -/
theorem Own.call (O : Own H0 H A cs) (h : Sub cs s s' cs') (C : Own H H' (adr s) s') : Own H0 H' A cs' := by
  obtain ⟨l, r, rfl, rfl⟩ := h.split
  have nd := O.nd
  simp only [adr_app] at nd
  obtain ⟨n1, n2, n3⟩ := List.nodup_append.mp nd
  obtain ⟨n4, n5, n6⟩ := List.nodup_append.mp n2
  have out : ∀ b u, ((b, u) ∈ l ∨ (b, u) ∈ r) → H' b = some u := fun b u m => by
    have hb : b ∉ adr s := fun z => by
      rcases m with m | m
      · exact n3 b (List.mem_map.mpr ⟨_, m, rfl⟩) b (List.mem_append_left _ z) rfl
      · exact n6 b z b (List.mem_map.mpr ⟨_, m, rfl⟩) rfl
    refine C.fr b u (O.at_ b u ?_) hb
    rcases m with m | m
    · exact List.mem_append_left _ m
    · exact List.mem_append_right _ (List.mem_append_right _ m)
  have sep : ∀ b, b ∈ adr s' → (b ∈ adr l ∨ b ∈ adr r) → False := fun b m z => by
    obtain ⟨u, hu⟩ : ∃ u, ((b, u) ∈ l ∨ (b, u) ∈ r) := by
      rcases z with z | z
      · obtain ⟨c, hc, e⟩ := List.mem_map.mp z
        exact ⟨c.2, .inl (by rw [← e]; exact hc)⟩
      · obtain ⟨c, hc, e⟩ := List.mem_map.mp z
        exact ⟨c.2, .inr (by rw [← e]; exact hc)⟩
    rcases C.nw b m with q | q
    · rcases z with z | z
      · exact n3 b z b (List.mem_append_left _ q) rfl
      · exact n6 b q b z rfl
    · have e : H b = some u := O.at_ b u (by
        rcases hu with m | m
        · exact List.mem_append_left _ m
        · exact List.mem_append_right _ (List.mem_append_right _ m))
      rw [q] at e
      cases e
  refine ⟨fun b u m => ?_, ?_, fun b u e hb => ?_, fun b m => ?_, fun b xs e => C.tp b xs (O.tp b xs e)⟩
  · rcases List.mem_append.mp m with m | m
    · exact out b u (.inl m)
    · rcases List.mem_append.mp m with m | m
      · exact C.at_ b u m
      · exact out b u (.inr m)
  · simp only [adr_app]
    refine List.nodup_append.mpr ⟨n1, List.nodup_append.mpr ⟨C.nd, n5, fun x hx y hy e => ?_⟩, fun x hx y hy e => ?_⟩
    · subst e
      exact sep x hx (.inr hy)
    · subst e
      rcases List.mem_append.mp hy with z | z
      · exact sep x z (.inl hx)
      · exact n3 x hx x (List.mem_append_right _ z) rfl
  · refine C.fr b u (O.fr b u e hb) fun z => ?_
    rcases O.nw b (by simp only [adr_app]; exact List.mem_append_right _ (List.mem_append_left _ z)) with q | q
    · exact hb q
    · rw [q] at e
      cases e
  · simp only [adr_app] at m
    rcases List.mem_append.mp m with m | m
    · exact O.nw b (by simp only [adr_app]; exact List.mem_append_left _ m)
    · rcases List.mem_append.mp m with m | m
      · rcases C.nw b m with z | z
        · exact O.nw b (by simp only [adr_app]; exact List.mem_append_right _ (List.mem_append_left _ z))
        · by_cases hA : b ∈ A
          · exact .inl hA
          · refine .inr ?_
            cases q : H0 b with
            | none => rfl
            | some u =>
              rw [O.fr b u q hA] at z
              cases z
      · exact O.nw b (by simp only [adr_app]; exact List.mem_append_right _ (List.mem_append_right _ m))
end
end Ow
namespace Ow
open PySem PySem.Spec PyProof.Rows L2
/-! ### where a walk stops -/
structure Box (p : Prop) : Prop where
  out : p
theorem PE.box {X : Cx} {e : Expr} {t : TE} (h : PE X e t) : PE X e (fun σ H Q => t σ H fun v H1 => Box (Q v H1)) :=
  ⟨fun pins s σ H Q I q => thn (h.run pins s σ H _ I q) fun _ _ ⟨x, H1, I1, r1, q1⟩ => ⟨x, H1, I1, r1, q1.out⟩⟩
theorem PA.box {X : Cx} {es : List Expr} {t : TA} (h : PA X es t) : PA X es (fun σ H Q => t σ H fun v H1 => Box (Q v H1)) :=
  ⟨fun pos pins s σ H Q I q => thn (h.run pos pins s σ H _ I q) fun _ _ ⟨x, H1, I1, r1, q1⟩ => ⟨x, H1, I1, r1, q1.out⟩⟩
theorem PI.box {X : Cx} {tg e : Expr} {w : TI} (h : PI X tg e w) : PI X tg e (fun σ H R => w σ H fun J H1 => Box (R J H1)) :=
  ⟨fun pins s σ H R I q => thn (h.run pins s σ H _ I q) fun _ _ h1 => thn h1 fun _ _ ⟨it, fp, tn, J, H', e, I', T, t0, f, r⟩ => ⟨it, fp, tn, J, H', e, I', T, t0, f, r.out⟩⟩
theorem PS.box {X : Cx} {st : Stmt} {t : TS} (h : PS X st t) : PS X st (fun D σ H => Box (t D σ H)) :=
  ⟨fun pins s σ H D I q => h.run pins s σ H D I q.out⟩
theorem PE.alt {X : Cx} {e : Expr} {t u : TE} (h : PE X e t) (h' : PE X e u) : PE X e (fun σ H Q => t σ H Q ∨ u σ H Q) :=
  ⟨fun pins s σ H Q I q => q.elim (h.run pins s σ H Q I) (h'.run pins s σ H Q I)⟩
/-- a promise that a walk stops at -/
def bx (sp : Sp) : Sp := fun vs H Q E => Box (sp vs H Q E)
/-- of a def that nobody calls: nothing may be asked -/
def spWall : Sp := fun _ _ _ _ => False
/-- a def that may be called: it keeps its promise -/
structure Cee (P : Program) (w : World) (K : PySem.W.Frag) (mg : Str → Option Value) (base : Heap) (k : Nat) (f : Addr) (ps : List Str) (sp : Sp) : Prop where
  kp : PySem.W.keepIn K (.ref f) = true
  fn : ∃ fd, FnOk P w K mg base (L2.CX P w) k f fd ps (bx sp) ∧ Binds K fd ps []
section
variable {P : Program} {w : World} {K : PySem.W.Frag} {mg : Str → Option Value} {base : Heap}
theorem cee_of {x qual : Str} {params : Arguments} {body : List Stmt} {scope : Scope} {f : Addr} {N ps : List Str} {k : Nat} {sp : Sp} (F : ∃ fd, FunD K x qual params body scope [] [] f fd) (S : FnScope N ps scope)
    (hb : ∀ (kV doc pm : Value) (an : Option Addr) (cdv ct : Value) (us : List Value), us.length = ps.length → bindArgs (PySem.W.fnOf x qual params body scope .none kV doc pm an cdv ct) ⟨us, []⟩ = pure (ps.zip us))
    (len : ∀ vs H Q E, sp vs H Q E → vs.length = ps.length)
    (hbody : ∀ (cdv : Value) (A : Around) (outer : List Env) (s : Shared) (H : Hp) (vs : List V) (Q : VK) (E : XK), Room k (A.deeper (envOfC qual scope s.heap.objs.size f cdv)) → sp vs H Q E →
      ∃ t, PSs (cxOf (L2.CX P w) P w K mg base N qual scope f cdv A outer s H E) body t ∧ t { nx := fun _ H' => Q .non H', rt := Q } (start N vs) H) : Cee P w K mg base (k + 1) f ps sp := by
  obtain ⟨fd, F⟩ := F
  exact ⟨F.kp, fd, FunD.ok F S (fun vs H Q E h => len vs H Q E h.out) (fun cdv A outer s H vs Q E hr h => hbody cdv A outer s H vs Q E hr h.out), F.bindsN hb⟩
end
section
variable {X : Cx} {k : Nat} {f C : Addr} {ps : List Str} {sp : Sp} {W : WX} {x m : Str} {p pos apos : Pos} {e o : Expr} {es : List Expr} {ta : TE} {t : TA}
theorem pe_f (c : Cee X.prog X.w X.K X.mg X.base k f ps sp) (hr : Room k X.A) (tk : Takes X W) (hg : Gl X x) (hm : X.mg x = some (.ref f)) (ha : PA X (e :: es) t) (hdb : (x == ("__debug__" : Str)) = false := by decide)
    (he : starEach (e :: es) X.env = (false, eval e X.env) :: starEach es X.env := by rfl) (hpl : (backTo pos (starEach es X.env)).any (·.1) = false := by rfl) :
    PE X (.Call (.Name x p) (e :: es) [] pos) (tCallS (bx sp) (WE W) t) := by
  obtain ⟨fd, F, b⟩ := c.fn
  exact pe_callS F hr hg hm c.kp b (fun σ => passAt tk σ) ha hdb he hpl
theorem pe_f0 (c : Cee X.prog X.w X.K X.mg X.base k f ps sp) (hr : Room k X.A) (tk : Takes X W) (hg : Gl X x) (hm : X.mg x = some (.ref f)) (hdb : (x == ("__debug__" : Str)) = false := by decide) :
    PE X (.Call (.Name x p) [] [] pos) (fun σ H Q => bx sp [] H Q (WE W σ)) := by
  obtain ⟨fd, F, b⟩ := c.fn
  refine ⟨fun pins s σ H Q I h => ?_⟩
  refine wpAny_Call_Name_kw (ld_glob I hg hm ?_ hdb)
  exact PySem.W.callWith_K0 I.kIn c.kp (run_fnS (us := []) (E := WE W) F hr b (passAt tk σ) I .nil h)
/-- o.m(e, ..) -/
def tM (C : Addr) (m : Str) (sp : Sp) (W : WX) (ta : TE) (t : TA) : TE := fun σ H Q => ta σ H fun x H1 => ∃ a dx fs, x = .ref a ∧ H1 a = some (.ins C dx fs) ∧ fs.lookup m = none ∧ t σ H1 fun vs H2 => bx sp (x :: vs) H2 Q (WE W σ)
theorem pe_m {pl : Sem Bool} (ho : PE X o ta) (cl : Cls X.K C) (hm : Meth X.K C m f) (c : Cee X.prog X.w X.K X.mg X.base k f ps sp) (hr : Room k X.A) (tk : Takes X W) (ha : PA X (e :: es) t)
    (hst : starEach (e :: es) X.env = (false, eval e X.env) :: starEach es X.env := by rfl) (hpl : (backTo pos (starEach es X.env)).any (·.1) = false := by rfl)
    (ht : eval (.Call (.Attribute o m apos) (e :: es) [] pos) X.env = (do
      let ov ← eval o X.env
      standAt apos.atName
      let (f, first) ← holding [ov] (getMethod ov m pl)
      callWith pos f first (backTo pos (starEach (e :: es) X.env)) (backToKw pos (keywordEach [] X.env))) := by rfl) :
    PE X (.Call (.Attribute o m apos) (e :: es) [] pos) (tM C m sp W ta t) := by
  obtain ⟨fd, F, b⟩ := c.fn
  refine ⟨fun pins s σ H Q I h => ?_⟩
  refine PySem.W.methodCall_KW (pl := pl) (thn (ho.run pins s σ H _ I h) fun u s1 ⟨y, H1, I1, ry, a, dx, fs, ey, ea, l, q⟩ => ?_) ht
  subst ey
  obtain rfl : u = Value.ref a := ry
  refine getmeth_ok I1 ea cl hm l ?_
  refine PySem.W.callWith_K (first := [.ref a]) (h₀ := X.base) I.ok.mod.kin hm.kp (thn (ha.run pos pins s1 σ H1 _ I1 q) fun us s2 ⟨vs, H2, I2, rv, q2⟩ => ⟨I2.kIn, ?_⟩) hst hpl
  exact run_fnS (us := .ref a :: us) (vs := .ref a :: vs) (E := WE W) F hr b (passAt tk σ) I2 (.cons rfl rv) q2
def tM0 (C : Addr) (m : Str) (sp : Sp) (W : WX) (ta : TE) : TE := fun σ H Q => ta σ H fun x H1 => ∃ a dx fs, x = .ref a ∧ H1 a = some (.ins C dx fs) ∧ fs.lookup m = none ∧ bx sp [x] H1 Q (WE W σ)
theorem pe_m0 {pl : Sem Bool} (ho : PE X o ta) (cl : Cls X.K C) (hm : Meth X.K C m f) (c : Cee X.prog X.w X.K X.mg X.base k f ps sp) (hr : Room k X.A) (tk : Takes X W)
    (ht : eval (.Call (.Attribute o m apos) [] [] pos) X.env = (do
      let ov ← eval o X.env
      standAt apos.atName
      let (f, first) ← holding [ov] (getMethod ov m pl)
      callWith pos f first (backTo pos (starEach [] X.env)) (backToKw pos (keywordEach [] X.env))) := by rfl) :
    PE X (.Call (.Attribute o m apos) [] [] pos) (tM0 C m sp W ta) := by
  obtain ⟨fd, F, b⟩ := c.fn
  refine ⟨fun pins s σ H Q I h => ?_⟩
  refine PySem.W.methodCall_KW (pl := pl) (thn (ho.run pins s σ H _ I h) fun u s1 ⟨y, H1, I1, ry, a, dx, fs, ey, ea, l, q⟩ => ?_) ht
  subst ey
  obtain rfl : u = Value.ref a := ry
  refine getmeth_ok I1 ea cl hm l ?_
  exact PySem.W.callWith_K0 (first := [.ref a]) I1.kIn hm.kp (run_fnS (us := [.ref a]) (vs := [.ref a]) (E := WE W) F hr b (passAt tk σ) I1 (.cons rfl .nil) q)
/-- C(e, ..): its __init__ lets nothing out -/
theorem pe_n (M : Mk X.K C f) (c : Cee X.prog X.w X.K X.mg X.base k f ps sp) (hr : Room (k + 1) X.A) (hg : Gl X x) (hm : X.mg x = some (.ref C)) (ha : PA X (e :: es) t) (hdb : (x == ("__debug__" : Str)) = false := by decide)
    (he : starEach (e :: es) X.env = (false, eval e X.env) :: starEach es X.env := by rfl) (hpl : (backTo pos (starEach es X.env)).any (·.1) = false := by rfl) :
    PE X (.Call (.Name x p) (e :: es) [] pos) (tMake C (bx sp) [] E0 t) := by
  obtain ⟨fd, F, b⟩ := c.fn
  exact pe_make M F hr hg hm b .nil passL ha hdb he hpl
theorem pe_n0 (M : Mk X.K C f) (c : Cee X.prog X.w X.K X.mg X.base k f ps sp) (hr : Room (k + 1) X.A) (hg : Gl X x) (hm : X.mg x = some (.ref C)) (hdb : (x == ("__debug__" : Str)) = false := by decide) :
    PE X (.Call (.Name x p) [] [] pos) (tMake C (bx sp) [] E0 tNil) := by
  obtain ⟨fd, F, b⟩ := c.fn
  exact pe_make0 M F hr hg hm b .nil passL hdb
end
/-! ### what a closer knows -/
theorem sl_of {σ : List (Option V)} {i : Nat} {v : V} (h : σ[i]? = some (some v)) : σ[i]? = some (some v) := h
theorem veq_of {x y : V} (h : x = y) : x = y := h
theorem lsq_of {x y : List V} (h : x = y) : x = y := h
theorem sc_of {x y : V} (h : scal x y = true) : scal x y = true := h
theorem lk_of {fs : List (Str × V)} {f : Str} {v : V} (h : fs.lookup f = some v) : fs.lookup f = some v := h
theorem lkn_of {fs : List (Str × V)} {f : Str} (h : fs.lookup f = none) : fs.lookup f = none := h
theorem lt_of {fs : List (Str × V)} (h : fs.length < 1000) : fs.length < 1000 := h
theorem hp_of {H : Hp} {a : Addr} {o : HO} (h : H a = some o) : H a = some o := h
theorem cd_of {i j : Int} (h : 0 < j ∧ j < 1073741824) : CDiv i j := h
theorem cm_l {i j : Int} (h : -(2 ^ 64) < i ∧ i < 2 ^ 64) : CMul i j := .inl h
theorem cm_r {i j : Int} (h : -(2 ^ 64) < j ∧ j < 2 ^ 64) : CMul i j := .inr h
theorem sz_le {n : Nat} (h : n ≤ 100000) : n ≤ sizeLine := Nat.le_trans h (by decide)
theorem sz_lt {n : Nat} (h : n < 100000) : n < sizeLine := Nat.lt_of_lt_of_le h (by decide)
/-! ### tests -/
theorem if_d {p A B : Prop} [Decidable p] (h1 : p → A) (h2 : ¬ p → B) : if decide p = true then A else B := by
  by_cases h : p
  · rw [if_pos (decide_eq_true h)]; exact h1 h
  · rw [if_neg (by rw [decide_eq_false h]; exact Bool.false_ne_true)]; exact h2 h
theorem if_nd {p A B : Prop} [Decidable p] (h1 : ¬ p → A) (h2 : p → B) : if (!decide p) = true then A else B := by
  by_cases h : p
  · rw [decide_eq_true h, if_neg (by decide)]; exact h2 h
  · rw [decide_eq_false h, if_pos (by decide)]; exact h1 h
theorem if_ii {a b : Int} {A B : Prop} (h1 : a = b → A) (h2 : ¬ a = b → B) : if decide (V.int a = V.int b) = true then A else B :=
  if_d (fun h => h1 (V.int.inj h)) fun h => h2 fun e => h (by rw [e])
theorem if_nii {a b : Int} {A B : Prop} (h1 : ¬ a = b → A) (h2 : a = b → B) : if (!decide (V.int a = V.int b)) = true then A else B :=
  if_nd (fun h => h1 fun e => h (by rw [e])) fun h => h2 (V.int.inj h)
theorem if_ss {a b : Str} {A B : Prop} (h1 : a = b → A) (h2 : ¬ a = b → B) : if decide (V.str a = V.str b) = true then A else B :=
  if_d (fun h => h1 (V.str.inj h)) fun h => h2 fun e => h (by rw [e])
theorem if_nss {a b : Str} {A B : Prop} (h1 : ¬ a = b → A) (h2 : a = b → B) : if (!decide (V.str a = V.str b)) = true then A else B :=
  if_nd (fun h => h1 fun e => h (by rw [e])) fun h => h2 (V.str.inj h)
theorem if_b {b : Bool} {A B : Prop} (h1 : b = true → A) (h2 : b = false → B) : if b = true then A else B := by
  cases b with
  | true => exact h1 rfl
  | false => exact h2 rfl
theorem if_nb {b : Bool} {A B : Prop} (h1 : b = false → A) (h2 : b = true → B) : if (!b) = true then A else B := by
  cases b with
  | true => exact h2 rfl
  | false => exact h1 rfl
theorem kt_int_int {K : PySem.W.Frag} : PySem.W.kitOne K (.type "int") (.type "int") = some true := kit_ty (by decide +kernel)
theorem kt_int_bool {K : PySem.W.Frag} : PySem.W.kitOne K (.type "int") (.type "bool") = some false := kit_ty (by decide +kernel)
theorem kt_int_str {K : PySem.W.Frag} : PySem.W.kitOne K (.type "int") (.type "str") = some false := kit_ty (by decide +kernel)
theorem kt_int_list {K : PySem.W.Frag} : PySem.W.kitOne K (.type "int") (.type "list") = some false := kit_ty (by decide +kernel)
theorem kt_int_tuple {K : PySem.W.Frag} : PySem.W.kitOne K (.type "int") (.type "tuple") = some false := kit_ty (by decide +kernel)
theorem kt_int_dict {K : PySem.W.Frag} : PySem.W.kitOne K (.type "int") (.type "dict") = some false := kit_ty (by decide +kernel)
theorem kt_bool_int {K : PySem.W.Frag} : PySem.W.kitOne K (.type "bool") (.type "int") = some true := kit_ty (by decide +kernel)
theorem kt_bool_bool {K : PySem.W.Frag} : PySem.W.kitOne K (.type "bool") (.type "bool") = some true := kit_ty (by decide +kernel)
theorem kt_bool_str {K : PySem.W.Frag} : PySem.W.kitOne K (.type "bool") (.type "str") = some false := kit_ty (by decide +kernel)
theorem kt_bool_list {K : PySem.W.Frag} : PySem.W.kitOne K (.type "bool") (.type "list") = some false := kit_ty (by decide +kernel)
theorem kt_bool_tuple {K : PySem.W.Frag} : PySem.W.kitOne K (.type "bool") (.type "tuple") = some false := kit_ty (by decide +kernel)
theorem kt_bool_dict {K : PySem.W.Frag} : PySem.W.kitOne K (.type "bool") (.type "dict") = some false := kit_ty (by decide +kernel)
theorem kt_str_int {K : PySem.W.Frag} : PySem.W.kitOne K (.type "str") (.type "int") = some false := kit_ty (by decide +kernel)
theorem kt_str_bool {K : PySem.W.Frag} : PySem.W.kitOne K (.type "str") (.type "bool") = some false := kit_ty (by decide +kernel)
theorem kt_str_str {K : PySem.W.Frag} : PySem.W.kitOne K (.type "str") (.type "str") = some true := kit_ty (by decide +kernel)
theorem kt_str_list {K : PySem.W.Frag} : PySem.W.kitOne K (.type "str") (.type "list") = some false := kit_ty (by decide +kernel)
theorem kt_str_tuple {K : PySem.W.Frag} : PySem.W.kitOne K (.type "str") (.type "tuple") = some false := kit_ty (by decide +kernel)
theorem kt_str_dict {K : PySem.W.Frag} : PySem.W.kitOne K (.type "str") (.type "dict") = some false := kit_ty (by decide +kernel)
theorem kt_list_int {K : PySem.W.Frag} : PySem.W.kitOne K (.type "list") (.type "int") = some false := kit_ty (by decide +kernel)
theorem kt_list_bool {K : PySem.W.Frag} : PySem.W.kitOne K (.type "list") (.type "bool") = some false := kit_ty (by decide +kernel)
theorem kt_list_str {K : PySem.W.Frag} : PySem.W.kitOne K (.type "list") (.type "str") = some false := kit_ty (by decide +kernel)
theorem kt_list_list {K : PySem.W.Frag} : PySem.W.kitOne K (.type "list") (.type "list") = some true := kit_ty (by decide +kernel)
theorem kt_list_tuple {K : PySem.W.Frag} : PySem.W.kitOne K (.type "list") (.type "tuple") = some false := kit_ty (by decide +kernel)
theorem kt_list_dict {K : PySem.W.Frag} : PySem.W.kitOne K (.type "list") (.type "dict") = some false := kit_ty (by decide +kernel)
theorem kt_tuple_int {K : PySem.W.Frag} : PySem.W.kitOne K (.type "tuple") (.type "int") = some false := kit_ty (by decide +kernel)
theorem kt_tuple_bool {K : PySem.W.Frag} : PySem.W.kitOne K (.type "tuple") (.type "bool") = some false := kit_ty (by decide +kernel)
theorem kt_tuple_str {K : PySem.W.Frag} : PySem.W.kitOne K (.type "tuple") (.type "str") = some false := kit_ty (by decide +kernel)
theorem kt_tuple_list {K : PySem.W.Frag} : PySem.W.kitOne K (.type "tuple") (.type "list") = some false := kit_ty (by decide +kernel)
theorem kt_tuple_tuple {K : PySem.W.Frag} : PySem.W.kitOne K (.type "tuple") (.type "tuple") = some true := kit_ty (by decide +kernel)
theorem kt_tuple_dict {K : PySem.W.Frag} : PySem.W.kitOne K (.type "tuple") (.type "dict") = some false := kit_ty (by decide +kernel)
theorem kt_dict_int {K : PySem.W.Frag} : PySem.W.kitOne K (.type "dict") (.type "int") = some false := kit_ty (by decide +kernel)
theorem kt_dict_bool {K : PySem.W.Frag} : PySem.W.kitOne K (.type "dict") (.type "bool") = some false := kit_ty (by decide +kernel)
theorem kt_dict_str {K : PySem.W.Frag} : PySem.W.kitOne K (.type "dict") (.type "str") = some false := kit_ty (by decide +kernel)
theorem kt_dict_list {K : PySem.W.Frag} : PySem.W.kitOne K (.type "dict") (.type "list") = some false := kit_ty (by decide +kernel)
theorem kt_dict_tuple {K : PySem.W.Frag} : PySem.W.kitOne K (.type "dict") (.type "tuple") = some false := kit_ty (by decide +kernel)
theorem kt_dict_dict {K : PySem.W.Frag} : PySem.W.kitOne K (.type "dict") (.type "dict") = some true := kit_ty (by decide +kernel)
theorem kt_NoneType_int {K : PySem.W.Frag} : PySem.W.kitOne K (.type "NoneType") (.type "int") = some false := kit_ty (by decide +kernel)
theorem kt_NoneType_bool {K : PySem.W.Frag} : PySem.W.kitOne K (.type "NoneType") (.type "bool") = some false := kit_ty (by decide +kernel)
theorem kt_NoneType_str {K : PySem.W.Frag} : PySem.W.kitOne K (.type "NoneType") (.type "str") = some false := kit_ty (by decide +kernel)
theorem kt_NoneType_list {K : PySem.W.Frag} : PySem.W.kitOne K (.type "NoneType") (.type "list") = some false := kit_ty (by decide +kernel)
theorem kt_NoneType_tuple {K : PySem.W.Frag} : PySem.W.kitOne K (.type "NoneType") (.type "tuple") = some false := kit_ty (by decide +kernel)
theorem kt_NoneType_dict {K : PySem.W.Frag} : PySem.W.kitOne K (.type "NoneType") (.type "dict") = some false := kit_ty (by decide +kernel)
end Ow
namespace Ow
open PySem PySem.Spec PyProof.Rows L2
def XcIn (K : PySem.W.Frag) (C : Addr) : Prop := PySem.W.excIn K C He.veBase "ValueError.__new__" = true ∧ PySem.W.keepIn K (.ref C) = true ∧ PySem.W.subIn K (.ref C) (.type "BaseException") = some true ∧ PySem.W.typeIn K (.ref C) = some (.type "type")
theorem gI {mg : Str → Option Value} {x : Str} {i : Int} (h : ∃ t, mg x = some (.int i t)) : ∃ u, mg x = some u ∧ RelV (.int i) u := let ⟨t, e⟩ := h; ⟨_, e, t, rfl⟩
theorem gS {mg : Str → Option Value} {x z : Str} (h : ∃ t, mg x = some (.str z t)) : ∃ u, mg x = some u ∧ RelV (.str z) u := let ⟨t, e⟩ := h; ⟨_, e, t, rfl⟩
/-! ### promises by the number of arguments -/
def sp0 (f : Hp → VK → XK → Prop) : Sp := fun vs H Q E => vs = [] ∧ f H Q E
def sp1 (f : V → Hp → VK → XK → Prop) : Sp := fun vs H Q E => ∃ a, vs = [a] ∧ f a H Q E
def sp2 (f : V → V → Hp → VK → XK → Prop) : Sp := fun vs H Q E => ∃ a b, vs = [a, b] ∧ f a b H Q E
def sp3 (f : V → V → V → Hp → VK → XK → Prop) : Sp := fun vs H Q E => ∃ a b c, vs = [a, b, c] ∧ f a b c H Q E
def sp4 (f : V → V → V → V → Hp → VK → XK → Prop) : Sp := fun vs H Q E => ∃ a b c d, vs = [a, b, c, d] ∧ f a b c d H Q E
def sp5 (f : V → V → V → V → V → Hp → VK → XK → Prop) : Sp := fun vs H Q E => ∃ a b c d e, vs = [a, b, c, d, e] ∧ f a b c d e H Q E
section
variable {vs : List V} {H : Hp} {Q : VK} {E : XK} {a b c d e : V}
theorem sp0_len {f} (h : sp0 f vs H Q E) : vs.length = 0 := by obtain ⟨rfl, _⟩ := h; rfl
theorem sp1_len {f} (h : sp1 f vs H Q E) : vs.length = 1 := by obtain ⟨_, rfl, _⟩ := h; rfl
theorem sp2_len {f} (h : sp2 f vs H Q E) : vs.length = 2 := by obtain ⟨_, _, rfl, _⟩ := h; rfl
theorem sp3_len {f} (h : sp3 f vs H Q E) : vs.length = 3 := by obtain ⟨_, _, _, rfl, _⟩ := h; rfl
theorem sp4_len {f} (h : sp4 f vs H Q E) : vs.length = 4 := by obtain ⟨_, _, _, _, rfl, _⟩ := h; rfl
theorem sp5_len {f} (h : sp5 f vs H Q E) : vs.length = 5 := by obtain ⟨_, _, _, _, _, rfl, _⟩ := h; rfl
theorem ask0 {f} (h : f H Q E) : Box (sp0 f [] H Q E) := ⟨rfl, h⟩
theorem ask1 {f} (h : f a H Q E) : Box (sp1 f [a] H Q E) := ⟨_, rfl, h⟩
theorem ask2 {f} (h : f a b H Q E) : Box (sp2 f [a, b] H Q E) := ⟨_, _, rfl, h⟩
theorem ask3 {f} (h : f a b c H Q E) : Box (sp3 f [a, b, c] H Q E) := ⟨_, _, _, rfl, h⟩
theorem ask4 {f} (h : f a b c d H Q E) : Box (sp4 f [a, b, c, d] H Q E) := ⟨_, _, _, _, rfl, h⟩
theorem ask5 {f} (h : f a b c d e H Q E) : Box (sp5 f [a, b, c, d, e] H Q E) := ⟨_, _, _, _, _, rfl, h⟩
end
end Ow
namespace Ow
open PySem PySem.Spec PyProof.Rows L2
theorem pe_gc {X : Cx} {x : Str} {pos : Pos} {v : V} (hg : Gl X x) (hm : ∃ u, X.mg x = some u ∧ RelV v u) (hd : (x == ("__debug__" : Str)) = false := by decide) : PE X (.Name x pos) (tC v) :=
  let ⟨_, e, r⟩ := hm
  pe_glob hg e r hd
end Ow
namespace Ow
open PySem PySem.Spec PyProof.Rows L2
section
variable {H0 H : Hp} {A : List Addr} {cs : Cells} {x dx C : Addr}
/-- a new instance -/
theorem Own.inst (O : Own H0 H A cs) (h1 : H x = none) (h2 : H dx = none) (ne : dx ≠ x) : Own H0 (upd (upd H dx (.own x)) x (.ins C dx [])) A ((x, .ins C dx []) :: cs) :=
  ((O.new (o := .own x) h2).new (o := .ins C dx []) (p := x) (by rw [upd_ne ne.symm]; exact h1)).drop (List.Sublist.cons₂ _ (List.Sublist.cons _ (List.Sublist.refl _)))
theorem Own.last {c : Addr × HO} (O : Own H0 H A (c :: cs)) : Own H0 H A (cs ++ [c]) := O.perm (List.perm_append_singleton c cs).symm
theorem Own.eq {cs' : Cells} (O : Own H0 H A cs) (e : cs = cs') : Own H0 H A cs' := e ▸ O
theorem Own.adr {A' : List Addr} (O : Own H0 H A cs) (e : A = A') : Own H0 H A' cs := e ▸ O
end
/-! ### loops -/
section
variable {K : PySem.W.Frag} {a : Addr} {xs : List V} {g : TG} {tb : TS} {D : Ends} {σ : L2.St} {H : Hp}
theorem forL (Pv : Nat → L2.St → Hp → Prop) (h0 : Pv 0 σ H) (hl : ∀ i σ H, i ≤ xs.length → Pv i σ H → SqL K H a xs)
    (hs : ∀ i x σ H, xs[i]? = some x → Pv i σ H → g x σ H fun σ2 H2 => tb { D with nx := fun σ H => Box (Pv (i + 1) σ H), ct := fun σ H => Box (Pv (i + 1) σ H), bk := D.nx } σ2 H2) (hd : ∀ σ H, Pv xs.length σ H → D.nx σ H) :
    Box (∃ W : Nat → Nat → L2.St → Hp → Prop, (∃ m, W 0 m σ H) ∧ ∀ i m σ H, W i m σ H →
      ((Itl K a).stop i H ∧ D.nx σ H) ∨ ((Itl K a).go i H ∧ ∃ N : L2.St → Hp → Prop, (∀ σ' H', N σ' H' → ∃ m', m' < m ∧ W (i + 1) m' σ' H') ∧ ∀ x H', (Itl K a).yld i H x H' → g x σ H' fun σ2 H2 => tb { D with nx := N, ct := N, bk := D.nx } σ2 H2)) :=
  ⟨for_list (fun i σ H => Box (Pv i σ H)) ⟨h0⟩ (fun i σ H hi p => hl i σ H hi p.out) (fun i x σ H hx p => hs i x σ H hx p.out) (fun σ H p => hd σ H p.out)⟩
theorem forT (Pv : Nat → L2.St → Hp → Prop) (h0 : Pv 0 σ H) (hl : ∀ i σ H, i ≤ xs.length → Pv i σ H → SqT K H a xs)
    (hs : ∀ i x σ H, xs[i]? = some x → Pv i σ H → g x σ H fun σ2 H2 => tb { D with nx := fun σ H => Box (Pv (i + 1) σ H), ct := fun σ H => Box (Pv (i + 1) σ H), bk := D.nx } σ2 H2) (hd : ∀ σ H, Pv xs.length σ H → D.nx σ H) :
    Box (∃ W : Nat → Nat → L2.St → Hp → Prop, (∃ m, W 0 m σ H) ∧ ∀ i m σ H, W i m σ H →
      ((Itt K a).stop i H ∧ D.nx σ H) ∨ ((Itt K a).go i H ∧ ∃ N : L2.St → Hp → Prop, (∀ σ' H', N σ' H' → ∃ m', m' < m ∧ W (i + 1) m' σ' H') ∧ ∀ x H', (Itt K a).yld i H x H' → g x σ H' fun σ2 H2 => tb { D with nx := N, ct := N, bk := D.nx } σ2 H2)) :=
  ⟨for_tup (fun i σ H => Box (Pv i σ H)) ⟨h0⟩ (fun i σ H hi p => hl i σ H hi p.out) (fun i x σ H hx p => hs i x σ H hx p.out) (fun σ H p => hd σ H p.out)⟩
theorem forR {lo : Int} {n : Nat} (Pv : Nat → L2.St → Hp → Prop) (h0 : Pv 0 σ H)
    (hs : ∀ i σ H, i < n → Pv i σ H → g (.int (lo + i)) σ H fun σ2 H2 => tb { D with nx := fun σ H => Box (Pv (i + 1) σ H), ct := fun σ H => Box (Pv (i + 1) σ H), bk := D.nx } σ2 H2) (hd : ∀ σ H, Pv n σ H → D.nx σ H) :
    Box (∃ W : Nat → Nat → L2.St → Hp → Prop, (∃ m, W 0 m σ H) ∧ ∀ i m σ H, W i m σ H →
      ((Itr lo n).stop i H ∧ D.nx σ H) ∨ ((Itr lo n).go i H ∧ ∃ N : L2.St → Hp → Prop, (∀ σ' H', N σ' H' → ∃ m', m' < m ∧ W (i + 1) m' σ' H') ∧ ∀ x H', (Itr lo n).yld i H x H' → g x σ H' fun σ2 H2 => tb { D with nx := N, ct := N, bk := D.nx } σ2 H2)) :=
  ⟨for_range (fun i σ H => Box (Pv i σ H)) ⟨h0⟩ (fun i σ H hi p => hs i σ H hi p.out) (fun σ H p => hd σ H p.out)⟩
theorem forC {lo c : Int} {n : Nat} (Pv : Nat → L2.St → Hp → Prop) (h0 : Pv 0 σ H)
    (hs : ∀ i σ H, i < n → Pv i σ H → g (.int (lo + (i : Nat) * c)) σ H fun σ2 H2 => tb { D with nx := fun σ H => Box (Pv (i + 1) σ H), ct := fun σ H => Box (Pv (i + 1) σ H), bk := D.nx } σ2 H2) (hd : ∀ σ H, Pv n σ H → D.nx σ H) :
    Box (∃ W : Nat → Nat → L2.St → Hp → Prop, (∃ m, W 0 m σ H) ∧ ∀ i m σ H, W i m σ H →
      ((Itc lo c n).stop i H ∧ D.nx σ H) ∨ ((Itc lo c n).go i H ∧ ∃ N : L2.St → Hp → Prop, (∀ σ' H', N σ' H' → ∃ m', m' < m ∧ W (i + 1) m' σ' H') ∧ ∀ x H', (Itc lo c n).yld i H x H' → g x σ H' fun σ2 H2 => tb { D with nx := N, ct := N, bk := D.nx } σ2 H2)) :=
  ⟨for_rangeC (fun i σ H => Box (Pv i σ H)) ⟨h0⟩ (fun i σ H hi p => hs i σ H hi p.out) (fun σ H p => hd σ H p.out)⟩
/-- a while, by a word with its measure -/
theorem whI {c : TT} (W : Nat → L2.St → Hp → Prop) (m0 : Nat) (h0 : W m0 σ H) (hs : ∀ m σ H, W m σ H → c σ H fun b H1 => if b = true then ∃ N : L2.St → Hp → Prop, (∀ σ' H', N σ' H' → ∃ m', m' < m ∧ W m' σ' H') ∧ tb { D with nx := N, ct := N, bk := D.nx } σ H1 else D.nx σ H1) :
    Box (tWhile c tb D σ H) := ⟨W, ⟨m0, h0⟩, hs⟩
theorem whN {W : Nat → L2.St → Hp → Prop} {m : Nat} (h : tb { D with nx := fun σ' H' => Box (∃ m', m' < m ∧ W m' σ' H'), ct := fun σ' H' => Box (∃ m', m' < m ∧ W m' σ' H'), bk := D.nx } σ H) :
    ∃ N : L2.St → Hp → Prop, (∀ σ' H', N σ' H' → ∃ m', m' < m ∧ W m' σ' H') ∧ tb { D with nx := N, ct := N, bk := D.nx } σ H := ⟨_, fun _ _ h => h.out, h⟩
end
end Ow
namespace Ow
open PySem PySem.Spec PyProof.Rows L2
theorem if_t {b : Bool} {A B : Prop} (h : b = true) (k : A) : if b = true then A else B := by rw [if_pos h]; exact k
theorem if_f {b : Bool} {A B : Prop} (h : b = false) (k : B) : if b = true then A else B := by rw [if_neg (by rw [h]; exact Bool.false_ne_true)]; exact k
end Ow
namespace Ow
open PySem PySem.Spec PyProof.Rows L2
theorem dget_v {H : Hp} {a : Addr} {kvs : List (Key × V)} {k : Key} {v : V} (h : H a = some (.dK kvs)) (e : valV kvs k = some v) : DGet H a (kV k) (some v) := e ▸ DGet.k h
end Ow
namespace Ow
open PySem PySem.Spec PyProof.Rows L2
theorem kl {i : Int} : V.int i = kV (Sum.inl i) := rfl
theorem kr {z : Str} : V.str z = kV (Sum.inr z) := rfl
end Ow
namespace Ow
open PySem PySem.Spec PyProof.Rows L2
/-! ### lists of whole numbers, compared -/
section
variable {K : PySem.W.Frag} {H : Hp} {a b : Addr}
theorem dpa_ints : ∀ ns : List Int, DpAll K H (ns.map V.int) (ns.map PyData.int)
  | [] => .nil
  | n :: r => .cons (.int n) (dpa_ints r)
theorem dp_ints {ns : List Int} (h : H a = some (.lst (ns.map V.int))) : Dp K H (.ref a) (.list (ns.map PyData.int)) := .lst (SqL.of h) (dpa_ints ns)
theorem depth_ints : ∀ ns : List Int, PyData.depthAll (ns.map PyData.int) ≤ 1
  | [] => by simp [PyData.depthAll]
  | n :: r => by
    have := depth_ints r
    simp only [List.map_cons, PyData.depthAll, PyData.depth]
    omega
theorem lay_ints : ∀ ns : List Int, PyData.canLayAll0 (ns.map PyData.int) = true
  | [] => by simp [PyData.canLayAll0]
  | n :: r => by simp [PyData.canLayAll0, PyData.canLay0, lay_ints r]
theorem sh_ints (ns : List Int) : SeqAt.shaped (.list (ns.map PyData.int)) = true := by
  have h1 := depth_ints ns
  have h2 : PyData.depth (.list (ns.map PyData.int)) ≤ 64 := by
    simp only [PyData.depth]
    omega
  show (PyData.canLay0 (.list (ns.map PyData.int)) && decide (PyData.depth (.list (ns.map PyData.int)) ≤ 64)) = true
  rw [Bool.and_eq_true]
  exact ⟨by simp only [PyData.canLay0]; exact lay_ints ns, decide_eq_true h2⟩
theorem dist_ints : ∀ ns ms : List Int, PyData.eqvAll (ns.map PyData.int) (ms.map PyData.int) = decide (ns = ms)
  | [], [] => rfl
  | [], _ :: _ => rfl
  | _ :: _, [] => rfl
  | n :: r, m :: q => by
    rw [List.map_cons, List.map_cons, PyData.eqvAll, dist_ints r q]
    show ((n == m) && _) = _
    by_cases h : n = m
    · subst h; simp
    · rw [decide_eq_false (fun e => h (List.cons.inj e).1)]; simp [h]
theorem eqv_ints (ns ms : List Int) : PyData.eqv (.list (ns.map PyData.int)) (.list (ms.map PyData.int)) = decide (ns = ms) := dist_ints ns ms
/-- two rows of whole numbers, compared -/
theorem eq_ints {ns ms : List Int} {Q : VK} (ha : H a = some (.lst (ns.map V.int))) (hb : H b = some (.lst (ms.map V.int))) (k : Q (.bl (decide (ns = ms))) H) : rEqD K (.ref a) (.ref b) H Q :=
  ⟨_, _, dp_ints ha, dp_ints hb, sh_ints ns, sh_ints ms, by rw [eqv_ints]; exact k⟩
theorem ne_ints {ns ms : List Int} {Q : VK} (ha : H a = some (.lst (ns.map V.int))) (hb : H b = some (.lst (ms.map V.int))) (k : Q (.bl (!decide (ns = ms))) H) : rNeD K (.ref a) (.ref b) H Q :=
  ⟨_, _, dp_ints ha, dp_ints hb, sh_ints ns, sh_ints ms, by rw [eqv_ints]; exact k⟩
end
end Ow
namespace Ow
open PySem PySem.Spec PyProof.Rows L2
/-! ### the closers' own lemmas: head first -/
section
variable {K : PySem.W.Frag} {H0 H : Hp} {A : List Addr} {cs cs' : Cells} {a p : Addr} {o o' : HO} {xs : List V}
theorem Own.wr2 (O : Own H0 H A cs) (h : At cs a o o' cs') (n : isTup o = false) : Own H0 (upd H a o') A cs' := O.wr h n
theorem col_ex (h : H a = some (.lst xs)) : ∃ xs, SqL K H a xs := ⟨_, SqL.of h⟩
theorem col_ol {p : Prop} (h : H a = some (.lst xs)) : SqL K H a xs ∨ p := .inl (SqL.of h)
theorem col_or {p : Prop} (h : H a = some (.tup xs)) : p ∨ SqT K H a xs := .inr (SqT.of h)
theorem dget_ii {kvs : List (Key × V)} {i : Int} {v : V} (h : H a = some (.dK kvs)) (e : valV kvs (Sum.inl i) = some v) : DGet H a (.int i) (some v) := dget_v (k := Sum.inl i) h e
theorem dget_is {kvs : List (Key × V)} {i : Str} {v : V} (h : H a = some (.dK kvs)) (e : valV kvs (Sum.inr i) = some v) : DGet H a (.str i) (some v) := dget_v (k := Sum.inr i) h e
theorem dget_i {kvs : List (Key × V)} {i : Int} (h : H a = some (.dK kvs)) : DGet H a (.int i) (valV kvs (Sum.inl i)) := DGet.k (k := Sum.inl i) h
theorem dget_s {kvs : List (Key × V)} {i : Str} (h : H a = some (.dK kvs)) : DGet H a (.str i) (valV kvs (Sum.inr i)) := DGet.k (k := Sum.inr i) h
theorem dput_i {kvs : List (Key × V)} {i : Int} {v : V} (h : H a = some (.dK kvs)) (hl : kvs.length < 100000) : DPut H a (.int i) v (upd H a (.dK (putK kvs (Sum.inl i) v))) := DPut.k (k := Sum.inl i) h (sz_lt hl)
theorem dput_s {kvs : List (Key × V)} {i : Str} {v : V} (h : H a = some (.dK kvs)) (hl : kvs.length < 100000) : DPut H a (.str i) v (upd H a (.dK (putK kvs (Sum.inr i) v))) := DPut.k (k := Sum.inr i) h (sz_lt hl)
theorem isd_k {kvs : List (Key × V)} (h : H a = some (.dK kvs)) : IsD H a := Or.inl ⟨_, Or.inl h⟩
theorem wp_of {x y : List (Option V)} (h : x = y) : x = y := h
theorem ln_of {x y : Nat} (h : x = y) : x = y := h
theorem pos_of {m : Int} (h : 0 < m) : 0 < m := h
end
end Ow
namespace Ow
open PySem PySem.Spec PyProof.Rows L2
/-! ### items -/
theorem at_int {α : Type} {xs : List α} {n : Int} (h0 : 0 ≤ n) (h1 : n < (xs.length : Int)) : ∃ y, xs[n.toNat]? = some y ∧ atI xs n = some y := by
  have hj : n.toNat < xs.length := by omega
  refine ⟨xs[n.toNat], List.getElem?_eq_getElem hj, ?_⟩
  have := atI_nat (List.getElem?_eq_getElem hj)
  rwa [Int.toNat_of_nonneg h0] at this
theorem map_get {l : List Int} {i : Nat} {x : V} (h : (l.map V.int)[i]? = some x) : ∃ y, l[i]? = some y ∧ x = V.int y := by
  rw [List.getElem?_map] at h
  cases e : l[i]? with
  | none => rw [e] at h; cases h
  | some y => rw [e] at h; exact ⟨y, rfl, (Option.some.inj h).symm⟩
theorem at_ints {ns : List Int} {n : Int} (h0 : 0 ≤ n) (h1 : n < ((ns.map V.int).length : Int)) : ∃ y, ns[n.toNat]? = some y ∧ atI (ns.map V.int) n = some (V.int y) := by
  obtain ⟨y, h2, h3⟩ := at_int h0 h1
  obtain ⟨z, h4, rfl⟩ := map_get h2
  exact ⟨z, h4, h3⟩
end Ow
namespace Ow
open PySem PySem.Spec PyProof.Rows L2
theorem Own.fr0 {H0 H : Hp} {cs : Cells} {b : Addr} {o : HO} (O : Own H0 H [] cs) (h : H0 b = some o) : H b = some o := O.fr b o h (by simp)
/-! ### comprehensions -/
section
variable {K : PySem.W.Frag} {a : Addr} {xs : List V} {g : TG} {tt : TT} {te : TE} {vs : List Nat} {σ : L2.St} {H1 : Hp} {Q : Addr → Hp → Prop} {lo : Int} {n : Nat}
theorem lcR (Pv : Addr → Nat → Hp → Prop) (h0 : ∀ D, H1 D = none → Pv D 0 (upd H1 D (.lst [])))
    (hs : ∀ D i H, i < n → Pv D i H → g (.int (lo + i)) (wipe σ vs) H fun σ2 H2 => wipe σ2 vs = wipe σ vs ∧ tt σ2 H2 fun b H3 =>
      if b = true then te σ2 H3 fun y H4 => ∃ acc, H4 D = some (.lst acc) ∧ acc.length < sizeLine ∧ Box (Pv D (i + 1) (upd H4 D (.lst (acc ++ [y])))) else Box (Pv D (i + 1) H3)) (hd : ∀ D H, Pv D n H → Q D H) :
    Box (∀ D, H1 D = none → ∃ W : Nat → Nat → Hp → Prop, (∃ m, W 0 m (upd H1 D (.lst []))) ∧ ∀ i m H, W i m H →
      ((Itr lo n).stop i H ∧ Q D H) ∨ ((Itr lo n).go i H ∧ ∃ Nx : Hp → Prop, (∀ H', Nx H' → ∃ m', m' < m ∧ W (i + 1) m' H') ∧ ∀ x H', (Itr lo n).yld i H x H' → g x (wipe σ vs) H' fun σ2 H2 => wipe σ2 vs = wipe σ vs ∧ tt σ2 H2 fun b H3 =>
        if b = true then te σ2 H3 fun y H4 => ∃ acc, H4 D = some (.lst acc) ∧ acc.length < sizeLine ∧ Nx (upd H4 D (.lst (acc ++ [y]))) else Nx H3)) :=
  ⟨fun D hD => lc_range (fun i H => Box (Pv D i H)) ⟨h0 D hD⟩ (fun i H hi p => hs D i H hi p.out) (fun H p => hd D H p.out)⟩
theorem lcL (Pv : Addr → Nat → Hp → Prop) (h0 : ∀ D, H1 D = none → Pv D 0 (upd H1 D (.lst []))) (hl : ∀ D i H, i ≤ xs.length → Pv D i H → SqL K H a xs)
    (hs : ∀ D i x H, xs[i]? = some x → Pv D i H → g x (wipe σ vs) H fun σ2 H2 => wipe σ2 vs = wipe σ vs ∧ tt σ2 H2 fun b H3 =>
      if b = true then te σ2 H3 fun y H4 => ∃ acc, H4 D = some (.lst acc) ∧ acc.length < sizeLine ∧ Box (Pv D (i + 1) (upd H4 D (.lst (acc ++ [y])))) else Box (Pv D (i + 1) H3)) (hd : ∀ D H, Pv D xs.length H → Q D H) :
    Box (∀ D, H1 D = none → ∃ W : Nat → Nat → Hp → Prop, (∃ m, W 0 m (upd H1 D (.lst []))) ∧ ∀ i m H, W i m H →
      ((Itl K a).stop i H ∧ Q D H) ∨ ((Itl K a).go i H ∧ ∃ Nx : Hp → Prop, (∀ H', Nx H' → ∃ m', m' < m ∧ W (i + 1) m' H') ∧ ∀ x H', (Itl K a).yld i H x H' → g x (wipe σ vs) H' fun σ2 H2 => wipe σ2 vs = wipe σ vs ∧ tt σ2 H2 fun b H3 =>
        if b = true then te σ2 H3 fun y H4 => ∃ acc, H4 D = some (.lst acc) ∧ acc.length < sizeLine ∧ Nx (upd H4 D (.lst (acc ++ [y]))) else Nx H3)) :=
  ⟨fun D hD => lc_list (fun i H => Box (Pv D i H)) ⟨h0 D hD⟩ (fun i H hi p => hl D i H hi p.out) (fun i x H hx p => hs D i x H hx p.out) (fun H p => hd D H p.out)⟩
theorem lcT (Pv : Addr → Nat → Hp → Prop) (h0 : ∀ D, H1 D = none → Pv D 0 (upd H1 D (.lst []))) (hl : ∀ D i H, i ≤ xs.length → Pv D i H → SqT K H a xs)
    (hs : ∀ D i x H, xs[i]? = some x → Pv D i H → g x (wipe σ vs) H fun σ2 H2 => wipe σ2 vs = wipe σ vs ∧ tt σ2 H2 fun b H3 =>
      if b = true then te σ2 H3 fun y H4 => ∃ acc, H4 D = some (.lst acc) ∧ acc.length < sizeLine ∧ Box (Pv D (i + 1) (upd H4 D (.lst (acc ++ [y])))) else Box (Pv D (i + 1) H3)) (hd : ∀ D H, Pv D xs.length H → Q D H) :
    Box (∀ D, H1 D = none → ∃ W : Nat → Nat → Hp → Prop, (∃ m, W 0 m (upd H1 D (.lst []))) ∧ ∀ i m H, W i m H →
      ((Itt K a).stop i H ∧ Q D H) ∨ ((Itt K a).go i H ∧ ∃ Nx : Hp → Prop, (∀ H', Nx H' → ∃ m', m' < m ∧ W (i + 1) m' H') ∧ ∀ x H', (Itt K a).yld i H x H' → g x (wipe σ vs) H' fun σ2 H2 => wipe σ2 vs = wipe σ vs ∧ tt σ2 H2 fun b H3 =>
        if b = true then te σ2 H3 fun y H4 => ∃ acc, H4 D = some (.lst acc) ∧ acc.length < sizeLine ∧ Nx (upd H4 D (.lst (acc ++ [y]))) else Nx H3)) :=
  ⟨fun D hD => lc_tup (fun i H => Box (Pv D i H)) ⟨h0 D hD⟩ (fun i H hi p => hl D i H hi p.out) (fun i x H hx p => hs D i x H hx p.out) (fun H p => hd D H p.out)⟩
end
end Ow
namespace Ow
open PySem PySem.Spec PyProof.Rows L2
theorem cutV_sub (xs : List V) (lo hi : Option Int) {x : V} (h : x ∈ cutV xs lo hi) : x ∈ xs := List.mem_of_mem_drop (List.mem_of_mem_take h)
theorem cut_ints {xs : List Int} {lo hi : Option Int} {i : Nat} {x : V} (h : (cutV (xs.map V.int) lo hi)[i]? = some x) : ∃ y, x = V.int y := by
  obtain ⟨y, _, e⟩ := List.mem_map.mp (cutV_sub _ _ _ (List.mem_of_getElem? h))
  exact ⟨y, e.symm⟩
theorem cutV_take (xs : List V) (n : Nat) : (cutV xs none (some (n : Int))).length ≤ n := by
  unfold cutV
  rw [List.length_take]
  have : HT.sIx xs.length xs.length (some (n : Int)) ≤ n := by
    rw [HT.sIx_nat]
    omega
  omega
end Ow
namespace Ow
open PySem PySem.Spec PyProof.Rows L2
/-! ### where two ways meet -/
theorem cutT {c : TT} {σ : L2.St} {H : Hp} {post : Bool → Hp → Prop} (R : Bool → Hp → Prop) (h : ∀ post' : Bool → Hp → Prop, (∀ b H', R b H' → post' b H') → c σ H post') (k : ∀ b H', R b H' → post b H') : c σ H post := h post k
theorem cutI {c : TT} {a b : TS} {D : Ends} {σ : L2.St} {H : Hp} (R : Bool → Hp → Prop) (h : ∀ post' : Bool → Hp → Prop, (∀ b H', R b H' → post' b H') → c σ H post') (k : ∀ bb H', R bb H' → if bb = true then a D σ H' else b D σ H') : tIfS c a b D σ H := h _ k
theorem cutS {t : TS} {D : Ends} {σ : L2.St} {H : Hp} (R : L2.St → Hp → Prop) (h : ∀ nx' : L2.St → Hp → Prop, (∀ σ' H', R σ' H' → nx' σ' H') → t { D with nx := nx' } σ H) (k : ∀ σ' H', R σ' H' → D.nx σ' H') : Box (t D σ H) := ⟨h D.nx k⟩
end Ow
namespace Ow
open L2 in
theorem rg_mk {lo hi c : Int} (n : Nat) (h : (c ≠ 0 ∧ c.natAbs < 1073741824 ∧ PySem.Builtin.Range.small lo hi c = true ∧ PySem.Builtin.Range.rangeSize lo hi c = n) := by decide +kernel) : RgC lo hi c n := h
open L2 in
theorem Own.self {H0 H : Hp} {A : List PySem.Addr} {cs : Cells} (O : Own H0 H A cs) : Own H H (Ow.adr cs) cs := O.blk (s' := []) (cs' := []) .all
end Ow
namespace Ow
open L2 in
/-- behind a call that was handed nothing -/
theorem Own.callN {H0 H H' : Hp} {A : List PySem.Addr} {cs s' : Cells} (O : Own H0 H A cs) (C : Own H H' [] s') : Own H0 H' A (s' ++ cs) := O.call (s := []) .nil C
end Ow
namespace Ow
open PySem PySem.Spec PyProof.Rows L2
/-! ### what stands outside: the script -/
section
variable {K : PySem.W.Frag} {H0 H : Hp} {A : List Addr} {cs : Cells} {a : Addr} {xs : List V}
theorem Own.sq (O : Own H0 H [] cs) (h : SqL K H0 a xs) : SqL K H a xs := by
  rcases h with (h | ⟨o, h⟩) | h
  · exact .inl (.inl (O.fr0 h))
  · exact .inl (.inr ⟨o, O.fr0 h⟩)
  · exact .inr h
theorem Own.sqT (O : Own H0 H A cs) (h : SqT K H0 a xs) (hf : ∀ o, H0 a = some (.frz o (.tup xs)) → a ∉ A) : SqT K H a xs := by
  rcases h with (h | ⟨o, h⟩) | h
  · exact .inl (.inl (O.tup h))
  · exact .inl (.inr ⟨o, O.fr _ _ h (hf o h)⟩)
  · exact .inr h
theorem col_ex2 (h : SqL K H a xs) : ∃ xs, SqL K H a xs := ⟨_, h⟩
theorem col_ol2 {p : Prop} (h : SqL K H a xs) : SqL K H a xs ∨ p := .inl h
theorem col_or2 {p : Prop} (h : SqT K H a xs) : p ∨ SqT K H a xs := .inr h
end
end Ow
namespace Ow
open PySem PySem.Spec PyProof.Rows L2
/-! ### the end -/
theorem cx_no {P : Program} {w : World} {H : Hp} {s : Shared} {e : Value} {s' : Shared} (h : L2.CX P w [] H s (fun _ _ _ => False) e s') : False := by
  obtain ⟨_, _, _, _, _, _, _, _, _, _, _, _, h⟩ := h
  exact h
theorem walk_end {l : PySem.W.OpenLaw} {n k : Nat} {q : Program} {loose : List Str} {XP : (Str → Option Value) → Heap → Prop} {YP : World → Heap → Prop} {d : DefRec} {x : Str}
    (hn : l.most = some n) (hn2 : n ≤ sizeLine) (hdf : d.params.defaults = []) (hr : Room k callerA)
    (F : ∀ (w : World) (mg : Str → Option Value) (fa : Addr) (h : Heap), YP w h → h.Ns mainGlobals mg → mg d.name = some (.ref fa) →
      ∃ (K : PySem.W.Frag) (fd : FuncData) (sp : Sp), K.In h ∧ (∀ (s : Shared) (u : Value), BindsTo s fd ⟨[u], []⟩ [(x, u)]) ∧
        (∀ (H : Hp) (a : Addr) (ns : List Int), ns.length ≤ n → (∀ z ∈ ns, Builtin.Int.intBits z ≤ 1048576) → SqL K H a (ns.map V.int) → sp [.ref a] H (fun v _ => v = .bl true) fun _ _ _ => False) ∧
        ∀ base : Heap, K.In base → base.Ns mainGlobals mg → FnOk l.prog w K mg base (L2.CX l.prog w) k fa fd [x] sp) :
    PySem.W.WalkO q loose XP YP l.row.toRowW d [] (fun f vs => PySem.call f vs) := by
  refine Att.attach_callB hn hdf fun w s₀ s₁ mg mb fa o pm cd doc a vs ns G Y ho hd hcd hmg hobj hints hlen hbits hg => ?_
  obtain ⟨K, fd, sp, KX, hb, hsp, hF⟩ := F w mg fa _ Y G.T.g hmg
  exact law_call KX G.T.g G.T.b G.T.builtins G.T.nolimit hg hobj hints (Nat.le_trans hlen hn2) hr hF hb (fun H _ hS => hsp H a ns hlen hbits hS) fun _ _ _ h => cx_no h
theorem fn_of {P : Program} {w : World} {K : PySem.W.Frag} {mg : Str → Option Value} {base : Heap} {x qual : Str} {params : Arguments} {body : List Stmt} {scope : Scope} {f : Addr} {fd : FuncData} {N ps : List Str} {k : Nat} {sp : Sp} (F : FunD K x qual params body scope [] [] f fd) (S : FnScope N ps scope)
    (len : ∀ vs H Q E, sp vs H Q E → vs.length = ps.length)
    (hbody : ∀ (cdv : Value) (A : Around) (outer : List Env) (s : Shared) (H : Hp) (vs : List V) (Q : VK) (E : XK), Room k (A.deeper (envOfC qual scope s.heap.objs.size f cdv)) → sp vs H Q E →
      ∃ t, PSs (cxOf (L2.CX P w) P w K mg base N qual scope f cdv A outer s H E) body t ∧ t { nx := fun _ H' => Q .non H', rt := Q } (start N vs) H) : FnOk P w K mg base (L2.CX P w) (k + 1) f fd ps (bx sp) :=
  FunD.ok F S (fun vs H Q E h => len vs H Q E h.out) (fun cdv A outer s H vs Q E hr h => hbody cdv A outer s H vs Q E hr h.out)
end Ow
namespace Ow
open PySem PySem.Spec PyProof.Rows L2
/-! ### an exception that is held: known, in the suite and beyond it -/
/-- an exception object at a, of the class cls, its dict d -/
def CxO (cls : Value) (d : Option Addr) (a : Addr) : HO := .ext fun h => ∃ (o : Obj) (vs : Array Value), h.get? a = some o ∧ Zc cls d o ∧ o.data = .fields vs
section
variable {X : Cx} {pins : List (Addr × Obj)} {σ : L2.St} {H : Hp} {s : Shared} {a : Addr} {cls : Value} {d : Option Addr} {o : Obj} {vs : Array Value}
theorem hold_ok (I : Inv X pins σ H s) (e : s.heap.get? a = some o) (z : Zc cls d o) (dt : o.data = .fields vs) (na : H a = none) (n0 : X.s_0.heap.get? a = none) (nL : a ≠ X.env.locals) (np : ∀ p ∈ X.pn ++ pins, p.1 ≠ a) :
    Inv X pins σ (upd H a (CxO cls d a)) s := by
  have sk : ∀ {b : Addr} {u : HO}, H b = some u → upd H a (CxO cls d a) b = some u := fun {b u} q => by
    rw [upd_ne (fun w => by rw [w, na] at q; cases q)]
    exact q
  have nk : ∀ {b : Addr}, b ≠ a → H b = none → upd H a (CxO cls d a) b = none := fun {b} q r => by
    rw [upd_ne q]
    exact r
  refine ⟨I.ok, I.os, I.bare, ⟨I.base.keep, I.base.slot, fun b u q1 q2 q3 => nk (fun w => by rw [w, n0] at q1; cases q1) (I.base.free b u q1 q2 q3), I.base.there, fun b xs q => sk (I.base.tups b xs q), fun b o' u q => sk (I.base.frzs b o' u q), fun b ps q => ?_⟩, I.loc, I.cell, nk (Ne.symm nL) I.free, fun x c q => nk (fun w => ?_) (I.freeC x c q), fun p hp => ?_, HOk.laidN I.hok (fun _ _ w => w) na ⟨⟨o, vs, e, z, dt⟩, ⟨o, e⟩, fun _ _ ⟨o2, v2, q, r⟩ k => ⟨o2, v2, k o2 q, r⟩⟩, I.len⟩
  · obtain ⟨m, r⟩ := I.base.tbls b ps q
    exact ⟨m, sk r⟩
  · subst w
    obtain ⟨v, oc, ho, hd⟩ := I.cell x c q
    rw [e] at ho
    cases ho
    rw [dt] at hd
    cases hd
  · obtain ⟨p1, p2, p3, p4, p5⟩ := I.pin p hp
    exact ⟨p1, nk (np p hp) p2, p3, p4, p5⟩
theorem suite_in {b : Addr} (I : Inv X pins σ H s) : Inv (X.suite b (X.pn ++ pins)) [] σ H s :=
  ⟨I.ok.suite _ _, I.os, I.bare, I.base, I.loc, I.cell, I.free, I.freeC, fun p hp => I.pin p ((List.append_nil (X.pn ++ pins)) ▸ hp), I.hok, I.len⟩
theorem suite_out {b : Addr} (I : Inv (X.suite b (X.pn ++ pins)) [] σ H s) (ok : X.Ok) : Inv X pins σ H s :=
  ⟨ok, I.os, I.bare, I.base, I.loc, I.cell, I.free, I.freeC, fun p hp => I.pin p ((List.append_nil (X.pn ++ pins)).symm ▸ hp), I.hok, I.len⟩
end
/-- the wish of a try whose suite may keep the exception -/
def wHold (K : PySem.W.Frag) (c : Value) (i : Nat) (ts : TS) (Wout : WX) (D : Ends) : WX := fun cls d σ H =>
  ∃ b, PySem.W.exmOne K cls c = some b ∧ (b = true → ∀ a, H a = none → ts { nx := fun τ G => D.nx (τ.set i none) G, rt := D.rt, bk := fun τ G => D.bk (τ.set i none) G, ct := fun τ G => D.ct (τ.set i none) G } (σ.set i (some (.ref a))) (upd H a (CxO cls d a))) ∧ (b = false → Wout cls d σ H)
section
variable {X : Cx} {x n : Str} {c : Value} {i : Nat} {body suite : List Stmt} {b₀ : Stmt} {np pos pos' : Pos} {tb : WX → TS} {ts : TS} {Wout : WX}
theorem ps_tryX (hs : X.stack = X.env :: X.outer) (hf : X.env.frame = some X.env.locals) (hx : X.ex = []) (hN : X.N.Nodup) (hi : X.N[i]? = some n) (hln : X.env.kindOf n = some .local) (hc : Names X x c) (tk : Takes X Wout)
    (hb : ∀ (W : WX) (pn : List (Addr × Obj)) (xe : Value → Shared → Prop), Takes (X.tr pn xe) W → PassesOwn (model X.prog X.w) X.A X.env xe → PSs (X.tr pn xe) body (tb W))
    (hsu : ∀ (a : Addr) (pn : List (Addr × Obj)), PSs (X.suite a pn) (b₀ :: suite) ts) :
    PS X (.Try body [.ExceptHandler (some (.Name x np)) (some n) (b₀ :: suite) pos'] [] [] pos) (fun D σ H => tb (wHold X.K c i ts Wout D) D σ H) := by
  refine ⟨fun pins s σ H D I hyp => ?_⟩
  have okX := I.ok
  have frames : X.A.frames = some (X.env :: X.outer) := by rw [okX.frames, hs]
  refine wpAny_Try_except ?_
  refine wpAny_mono ((hb (wHold X.K c i ts Wout D) (X.pn ++ pins) (fun ev sA => wpAny (model X.prog X.w) X.A (noteFrame ev X.env) (fun _ sB => wpAny (model X.prog X.w) X.A (setFlight ev none) (fun _ sC =>
    wpAny (model X.prog X.w) X.A (handleBy ev X.env [.ExceptHandler (some (.Name x np)) (some n) (b₀ :: suite) pos']) (SP X pins D) X.xe sC) X.xe sB) X.xe sA) (fun u sE flies => ?_) PassesOwn.looking).run [] s σ H D (I.toTry _) hyp) (fun fl sN ends => ?_) (fun ev sA left => left)
  · obtain ⟨a, B, sI, pins1, τ, G, cls, d, rfl, JT, nb, upS, skyS, na, os, ag, b, hm, yes, no⟩ := flies
    have JX : Inv X pins τ G sI := JT.ofTry okX
    have skyX : Sky B (X.env :: X.outer) a (Zc cls d) X.env.locals sE.heap := by rw [← hs]; exact skyS
    have nB : B.get? a = none := by
      rcases skyS with w | w | w
      · exact w.2.1
      · exact w.2.1
      · exact w.2.1
    show wpAny (model X.prog X.w) X.A (noteFrame (.ref a) X.env) _ _ _
    refine Sky.land Zc.steady frames hf skyX fun g3 fl3 up3 => ?_
    have J3 : Inv X pins τ G { sE with heap := g3 } := JX.landed nb fl3.1 (upS.trans up3) os ag
    obtain ⟨q3, w3, at3, z3, dt3⟩ := fl3.there
    have outside : a ∉ frs (X.env :: X.outer) := fun hm => by
      obtain ⟨_, o', e', hnf⟩ := fl3.2.2.1.mem hm
      rw [at3] at e'
      cases e'
      exact hnf _ dt3
    have nL : a ≠ X.env.locals := fun z => outside (List.mem_filterMap.mpr ⟨X.env, .head _, by rw [hf, z]⟩)
    have nF : a ∉ X.fs := fun hm => by
      obtain ⟨ev, he, q⟩ := List.mem_filterMap.mp hm
      exact outside (List.mem_filterMap.mpr ⟨ev, .tail _ he, q⟩)
    have below : ∀ {u : Addr} {ob : Obj}, sI.heap.get? u = some ob → u ∉ frs (X.env :: X.outer) → u ≠ a := fun {u ob} q r w => by
      have k := nb u ob q (by rw [hs]; exact r)
      rw [w, nB] at k
      cases k
    have new0 : X.s_0.heap.get? a = none := by
      cases q : X.s_0.heap.get? a with
      | none => rfl
      | some ob =>
        obtain ⟨ob2, r⟩ := JX.base.there a ob q (by rw [hx]; exact fun w => nomatch w)
        exact absurd rfl (below r outside)
    have unpinned : ∀ p ∈ X.pn ++ pins, p.1 ≠ a := fun p hp => by
      obtain ⟨p1, _, p3, p4, _⟩ := JX.pin p hp
      refine below p1 fun hm => ?_
      obtain ⟨ev, he, q⟩ := List.mem_filterMap.mp hm
      rcases List.mem_cons.mp he with w | w
      · rw [w, hf] at q
        exact p3 (Option.some.inj q).symm
      · exact p4 (List.mem_filterMap.mpr ⟨ev, w, q⟩)
    have S3 := J3.suite at3 dt3 na nL nF
    refine wpAny_handleBy_cons (codeAny_handlers_test ?_) (by intro w; cases w)
    have kind : PySem.W.Looks (model X.prog X.w) g3 (typeOf (.ref a)) cls := fun A Q E t k w => wpAny_typeOf_ref (k _ _ at3) (by rw [z3.1]; exact w)
    have match_ := PySem.W.exm_one (M := model X.prog X.w) (J3.kIn) kind hm
    have named : ∀ {Q E : Value → Shared → Prop}, Q c { sE with heap := g3 } → wpAny (model X.prog X.w) (X.A.mark (some (.ref a))) (eval (.Name x np) X.env) Q E { sE with heap := g3 } := fun {Q E} w => by
      obtain ⟨hg, hdbg, m1 | ⟨m1, m2, m3⟩⟩ := hc
      · exact ld_glob (X := X.suite a ((a, q3) :: (X.pn ++ pins))) S3 hg m1 w hdbg
      · exact ld_blt (X := X.suite a ((a, q3) :: (X.pn ++ pins))) S3 hg m1 m2 w m3 hdbg
    refine named (match_.here ?_)
    cases b with
    | true =>
      refine codeAny_handlers_suite_as ?_
      refine HandSPX.lands_againZ fl3 fun g4 fl4 up4 => ?_
      have J4 : Inv X pins τ G { sE with heap := g4 } := JX.landed nb fl4.1 ((upS.trans up3).trans up4) os ag
      obtain ⟨q4, w4, at4, z4, dt4⟩ := fl4.there
      have S4 := suite_in (b := a) (hold_ok J4 at4 z4 dt4 na new0 nL unpinned)
      refine store_ok (X := X.suite a (X.pn ++ pins)) (v := .ref a) S4 hN hi (.inl hln) rfl (fun s5 S5 => ?_) (.inr hln)
      refine wpAny_mono ((hsu a (X.pn ++ pins)).run [] s5 _ _ _ S5 (yes rfl a na)) (fun fl s6 ends => ?_) (fun _ _ w => False.elim w)
      have off : ∀ {τ6 : L2.St} {G6 : Hp} {Q : Shared → Prop}, Inv (X.suite a (X.pn ++ pins)) [] τ6 G6 s6 → (∀ s7, Inv X pins (τ6.set i none) G6 s7 → Q s7) →
          wpAny (model X.prog X.w) X.A (do bindName X.env n .none; unbindBehindTheSuite X.env n pos') (fun _ s7 => Q s7) X.xe s6 := fun {τ6 G6 Q} S6 w => gone_ok (suite_out S6 okX) hN hi hln w
      cases fl with
      | next =>
        obtain ⟨_, _, S6, r⟩ := ends
        exact off S6 fun _ J7 => ⟨_, _, J7, r⟩
      | brk =>
        obtain ⟨_, _, S6, r⟩ := ends
        exact off S6 fun _ J7 => ⟨_, _, J7, r⟩
      | cont =>
        obtain ⟨_, _, S6, r⟩ := ends
        exact off S6 fun _ J7 => ⟨_, _, J7, r⟩
      | ret u =>
        obtain ⟨_, _, _, S6, r1, r2⟩ := ends
        exact off S6 fun _ J7 => ⟨_, _, _, J7, r1, r2⟩
    | false =>
      show wpAny _ X.A (handleBy (.ref a) X.env []) _ _ _
      refine wpAny_handleBy_nil ?_
      obtain ⟨_, _, _, ob, ws, T, oT, tr, hob, hzb, hdb, hfb, hrb⟩ := id fl3
      unfold PySem.passOn
      refine wpAny_bind (wpAny_field hob hdb hfb ?_)
      rw [if_neg (show ¬ ((Value.ref T == Value.none) = true) by simp)]
      have out : wpAny (model X.prog X.w) X.A (setFlight (.ref a) X.env.frame) (fun _ t4 => wpAny (model X.prog X.w) X.A (throw (.ref a) : Sem Flow) (SP X pins D) X.xe t4) X.xe { sE with heap := g3 } := by
        rw [hf]
        refine HandSPX.setFlight_upZ fl3 fun g4 in4 up4 => wpAny_throw (tk _ _ ?_)
        exact ⟨a, B, sI, pins, τ, G, cls, d, rfl, JX, nb, (upS.trans up3).trans up4, .inr (.inr (by rw [hs]; exact in4)), na, os, ag, no rfl⟩
      first
        | exact wpAny_bind (wpAny_pure (wpAny_bind out))
        | exact wpAny_bind out
  · cases fl with
    | next =>
      obtain ⟨τ, G, JT, r⟩ := ends
      exact wpAny_execs_nil ⟨τ, G, JT.ofTry okX, r⟩
    | brk =>
      obtain ⟨τ, G, JT, r⟩ := ends
      exact ⟨τ, G, JT.ofTry okX, r⟩
    | cont =>
      obtain ⟨τ, G, JT, r⟩ := ends
      exact ⟨τ, G, JT.ofTry okX, r⟩
    | ret u =>
      obtain ⟨v, τ, G, JT, r1, r2⟩ := ends
      exact ⟨v, τ, G, JT.ofTry okX, r1, r2⟩
/-- isinstance(e, c), e a held exception -/
def rIsX (K : PySem.W.Frag) : List V → Hp → VK → Prop := fun xs H Q => ∃ (a D : Addr) (c : V) (cv : Value) (b : Bool), xs = [.ref a, c] ∧ H a = some (CxO (.ref D) none a) ∧ ExcC K D ∧ ClsV c cv ∧ PySem.W.kitOne K (.ref D) cv = some b ∧ Q (.bl b) H
theorem call_isX : CallR X (.builtin "isinstance") (rIsX X.K) := by
  intro pins s σ H xs us Q I r h
  obtain ⟨a, D, cl, cv, b, rfl, ha, C, only, says, q⟩ := h
  cases r with
  | cons rx rr =>
    cases rr with
    | cons rt rr =>
      cases rr
      cases rx
      have ec := only.eq rt
      subst ec
      obtain ⟨⟨ob, vs, at_, z, dt⟩, _, _⟩ := I.hok a _ ha
      have J : PySem.W.InstAt s.heap a ob D none := by
        obtain ⟨oc, od, oda, osl⟩ := ob
        obtain ⟨h1, h2⟩ := z
        dsimp only at h1 h2 dt
        subst h1 h2 dt
        exact ⟨at_, rfl, rfl, trivial⟩
      refine PySem.W.kia_one (PySem.W.handS_kitx_exc C.hg C.hk C.hs C.hd C.ha C.hn C.ht C.hm) I.kIn J says (fun w => nomatch w) fun tk => ?_
      exact ⟨.bl b, H, I.kept (t' := tk) fun _ _ w => w, rfl, q⟩
end
end Ow
namespace Ow
open PySem PySem.Spec PyProof.Rows L2
/-- xs[i], where it is read to be put anew -/
theorem get_list {X : Cx} : PGet X (rIxL X.K) := by
  intro pins s σ H o i ov iv Q I ro ri h
  obtain ⟨p, xs, k, z, rfl, rfl, hq, he, q⟩ := h
  cases ro
  obtain ⟨t, rfl⟩ := ri
  obtain ⟨its, r, pl, hz⟩ := I.list hq
  obtain ⟨j, h1, h2, h3, h4, h5⟩ := atI_get he
  obtain ⟨w, ew, rw'⟩ := r.get h2
  have lenX := r.length
  have wide := line63
  have done : EP X pins σ Q w s := ⟨z, H, I, rw', q⟩
  by_cases h0 : 0 ≤ k
  · have hk : k.toNat = j := by
      rw [seqIndex_of h0 h5] at h1
      exact Option.some.inj h1
    exact wpAny_getItem_list pl.isList h0 (by omega) (by rw [hk]; simpa using ew) done
  · have hk : (k + (its.toArray.size : Int)).toNat = j := by
      rw [seqIndex_neg (by omega) h4] at h1
      rw [List.size_toArray, ← lenX]
      exact Option.some.inj h1
    exact wpAny_getItem_list_neg pl.isList (by omega) (by rw [List.size_toArray] <;> omega) (by omega) (by rw [hk]; simpa using ew) done
end Ow
namespace Ow
open PySem PySem.Spec PyProof.Rows L2
/-! ### facts of exceptions, by one look -/
def excB (K : PySem.W.Frag) (D : Addr) : Bool := [PySem.W.findIn K (.ref D) "__getattribute__" == some (some (.builtin "BaseException.__getattribute__")), PySem.W.findIn K (.ref D) "__getattr__" == some none, PySem.W.subIn K (.ref D) (.type "BaseException") == some true, PySem.W.hasDictIn K D,
  PySem.W.findIn K (.ref D) "__class__" == some (some (.builtin "object.__class__")), PySem.W.specialIn K (.builtin "object.__class__") "__get__" == some (some (.builtin "getset_descriptor.__get__")), PySem.W.takesIn K (.builtin "object.__class__") == some true, PySem.W.mroIn K D (.type "object") == some true].all id
theorem all_at {l : List Bool} (h : l.all id = true) (k : Nat) {b : Bool} (e : l[k]? = some b) : b = true := List.all_eq_true.mp h b (List.mem_of_getElem? e)
theorem excB_ok {K : PySem.W.Frag} {D : Addr} (h : excB K D = true) : ExcC K D :=
  ⟨eq_of_beq (all_at h 0 rfl), eq_of_beq (all_at h 1 rfl), eq_of_beq (all_at h 2 rfl), all_at h 3 rfl, eq_of_beq (all_at h 4 rfl), eq_of_beq (all_at h 5 rfl), eq_of_beq (all_at h 6 rfl), eq_of_beq (all_at h 7 rfl)⟩
end Ow
namespace Ow
open PySem PySem.Spec PyProof.Rows L2
/-! ### rows of flat things -/
theorem fl_of {v : V} (h : flatV v = true) : flatV v = true := h
theorem all_flat (ns : List Int) : (ns.map V.int).all flatV = true := List.all_eq_true.mpr fun x hx => by
  obtain ⟨y, _, rfl⟩ := List.mem_map.mp hx
  rfl
theorem all_flatS (ns : List Str) : (ns.map V.str).all flatV = true := List.all_eq_true.mpr fun x hx => by
  obtain ⟨y, _, rfl⟩ := List.mem_map.mp hx
  rfl
theorem eqV_int (i j : Int) : eqV (.int i) (.int j) = decide (i = j) := by
  show (i == j) = _
  by_cases h : i = j
  · rw [decide_eq_true h, h]; simp
  · rw [decide_eq_false h]; simp [h]
theorem inV_ints (i : Int) (ns : List Int) : inV (.int i) (ns.map V.int) = decide (i ∈ ns) := by
  unfold inV
  rw [List.any_map]
  by_cases h : i ∈ ns
  · rw [decide_eq_true h]
    exact List.any_eq_true.mpr ⟨i, h, by show eqV (.int i) (.int i) = true; rw [eqV_int]; simp⟩
  · rw [decide_eq_false h]
    refine List.any_eq_false.mpr fun x hx => ?_
    show ¬ eqV (.int x) (.int i) = true
    rw [eqV_int]
    intro z
    exact h (of_decide_eq_true z ▸ hx)
theorem rep_flat (n : Nat) (v : V) : (List.replicate ((n : Nat) : Int).toNat [v]).flatten = List.replicate n v := by
  rw [Int.toNat_natCast]
  induction n with
  | zero => rfl
  | succ n ih => rw [List.replicate_succ, List.flatten_cons, ih]; rfl
theorem rep_map {α : Type} (f : α → V) (n : Nat) (a : α) : List.replicate n (f a) = (List.replicate n a).map f := (List.map_replicate).symm
end Ow
namespace Ow
open PySem PySem.Spec PyProof.Rows L2
theorem set_split {α : Type} {cs : List α} {i : Nat} {x y : α} (h : cs[i]? = some x) : cs.set i y = cs.take i ++ y :: cs.drop (i + 1) := by
  have h1 := (List.getElem?_eq_some_iff.mp h).1
  rw [List.set_eq_take_append_cons_drop, if_pos h1]
theorem at_split {α : Type} {cs : List α} {i : Nat} {x : α} (h : cs[i]? = some x) : cs = cs.take i ++ x :: cs.drop (i + 1) := by
  obtain ⟨h1, rfl⟩ := List.getElem?_eq_some_iff.mp h
  rw [List.getElem_cons_drop h1, List.take_append_drop]
theorem set_map {α β : Type} (f : α → β) : ∀ (l : List α) (i : Nat) (a : α), (l.map f).set i (f a) = (l.set i a).map f
  | [], _, _ => rfl
  | _ :: _, 0, _ => rfl
  | x :: r, i + 1, a => by rw [List.map_cons, List.set_cons_succ, List.set_cons_succ, List.map_cons, set_map f r i a]
theorem ix_at {n i : Nat} (h : i < n) : ixN n (i : Int) = some i := by
  unfold ixN
  rw [if_pos (by omega), if_pos (by omega), Int.toNat_natCast]
/-- a thing of a row is put anew: its old cell is let go -/
theorem Own.put {α : Type} {H0 H : Hp} {A : List Addr} {pre : Cells} {l : List α} {g : α → Addr × HO} {b y : α} {j : Nat} (O : Own H0 H A (g b :: (pre ++ l.map g))) (h : l[j]? = some y) : Own H0 H A (pre ++ (l.set j b).map g) := by
  have e := at_split h
  have O1 : Own H0 H A (g b :: (pre ++ ((l.take j).map g ++ (l.drop (j + 1)).map g))) := O.drop (by
    conv => rhs; rw [e, List.map_append, List.map_cons]
    exact .cons₂ _ (.append (.refl _) (.append (.refl _) (.cons _ (.refl _)))))
  rw [set_split h, List.map_append, List.map_cons]
  refine O1.perm ?_
  rw [← List.append_assoc, ← List.append_assoc]
  exact List.perm_middle.symm
end Ow
namespace Ow
open PySem PySem.Spec PyProof.Rows L2
theorem take_succ {α : Type} {l : List α} {i : Nat} {y : α} (h : l[i]? = some y) : l.take (i + 1) = l.take i ++ [y] := by
  rw [List.take_succ, h]; rfl
theorem sorted_ext : ∀ {l k : List Int}, l.Pairwise (· < ·) → k.Pairwise (· < ·) → (∀ m, m ∈ l ↔ m ∈ k) → l = k
  | [], [], _, _, _ => rfl
  | [], y :: k, _, _, h => absurd ((h y).mpr List.mem_cons_self) (by simp)
  | x :: l, [], _, _, h => absurd ((h x).mp List.mem_cons_self) (by simp)
  | x :: l, y :: k, h1, h2, h => by
    obtain ⟨a1, a2⟩ := List.pairwise_cons.mp h1
    obtain ⟨b1, b2⟩ := List.pairwise_cons.mp h2
    have e : x = y := by
      rcases List.mem_cons.mp ((h x).mp List.mem_cons_self) with z | z
      · exact z
      · rcases List.mem_cons.mp ((h y).mpr List.mem_cons_self) with w | w
        · exact w.symm
        · have := b1 _ z
          have := a1 _ w
          omega
    subst e
    rw [sorted_ext a2 b2 fun m => ⟨fun hm => ?_, fun hm => ?_⟩]
    · rcases List.mem_cons.mp ((h m).mp (List.mem_cons_of_mem _ hm)) with z | z
      · have := a1 _ hm; omega
      · exact z
    · rcases List.mem_cons.mp ((h m).mpr (List.mem_cons_of_mem _ hm)) with z | z
      · have := b1 _ hm; omega
      · exact z
end Ow
namespace Ow
open L2 in
/-- behind a call: what it has made stands ahead -/
theorem Own.callE {H0 H H' : Hp} {A : List PySem.Addr} {cs s s' cs' e : Cells} (O : Own H0 H A cs) (h : Sub cs s s' cs') (C : Own H H' (Ow.adr s) (e ++ s')) : Own H0 H' A (e ++ cs') := by
  obtain ⟨l, r, rfl, rfl⟩ := h.split
  have O1 := O.call (cs' := l ++ ((e ++ s') ++ r)) (.app .here) C
  refine O1.perm ?_
  have e1 : l ++ ((e ++ s') ++ r) = (l ++ e) ++ (s' ++ r) := by simp only [List.append_assoc]
  have e2 : e ++ (l ++ (s' ++ r)) = (e ++ l) ++ (s' ++ r) := by simp only [List.append_assoc]
  rw [e1, e2]
  exact (List.perm_append_comm).append_right _
end Ow
namespace Ow
open PySem PySem.Spec PyProof.Rows L2
def top (i : Nat) : Stmt := PySem.Challenge.pw_ownroom_k02_stores_keep_their_own.main.body.getD i (.Pass ⟨0, 0, 0, 0⟩)
abbrev s__wall : Stmt := top 0
abbrev s_Store___init__ : Stmt := inClass (top 6) 0
abbrev s_Store_take : Stmt := inClass (top 6) 1
abbrev s_Store_look_taken : Stmt := inClass (top 6) 2
abbrev s_Store_more : Stmt := inClass (top 6) 3
abbrev s_Store_less : Stmt := inClass (top 6) 4
abbrev s_Store_count : Stmt := inClass (top 6) 5
abbrev s_Store_cells : Stmt := inClass (top 6) 6
abbrev s_Store_put : Stmt := inClass (top 6) 7
abbrev s_Store_free : Stmt := inClass (top 6) 8
abbrev s__law_whole : Stmt := top 8
abbrev s__law_cell_at : Stmt := top 9
abbrev s__law_mix : Stmt := top 10
abbrev s__law_numbers : Stmt := top 11
abbrev s__law_cells_by : Stmt := top 12
abbrev s__law_all_right : Stmt := top 13
abbrev s_law : Stmt := top 14
def fns0 : List He.DefD := [⟨("_wall", none), "_wall", "_wall", defArgs (top 0), defBody (top 0), defScope (top 0), [], []⟩, ⟨("Store", some "__init__"), "__init__", "Store.__init__", defArgs (inClass (top 6) 0), defBody (inClass (top 6) 0), defScope (inClass (top 6) 0), [], []⟩, ⟨("Store", some "take"), "take", "Store.take", defArgs (inClass (top 6) 1), defBody (inClass (top 6) 1), defScope (inClass (top 6) 1), [], []⟩, ⟨("Store", some "look_taken"), "look_taken", "Store.look_taken", defArgs (inClass (top 6) 2), defBody (inClass (top 6) 2), defScope (inClass (top 6) 2), [], []⟩, ⟨("Store", some "more"), "more", "Store.more", defArgs (inClass (top 6) 3), defBody (inClass (top 6) 3), defScope (inClass (top 6) 3), [], []⟩, ⟨("Store", some "less"), "less", "Store.less", defArgs (inClass (top 6) 4), defBody (inClass (top 6) 4), defScope (inClass (top 6) 4), [], []⟩, ⟨("Store", some "count"), "count", "Store.count", defArgs (inClass (top 6) 5), defBody (inClass (top 6) 5), defScope (inClass (top 6) 5), [], []⟩, ⟨("Store", some "cells"), "cells", "Store.cells", defArgs (inClass (top 6) 6), defBody (inClass (top 6) 6), defScope (inClass (top 6) 6), [], []⟩, ⟨("Store", some "put"), "put", "Store.put", defArgs (inClass (top 6) 7), defBody (inClass (top 6) 7), defScope (inClass (top 6) 7), [], []⟩, ⟨("Store", some "free"), "free", "Store.free", defArgs (inClass (top 6) 8), defBody (inClass (top 6) 8), defScope (inClass (top 6) 8), [], []⟩, ⟨("_law_whole", none), "_law_whole", "_law_whole", defArgs (top 8), defBody (top 8), defScope (top 8), [], []⟩, ⟨("_law_cell_at", none), "_law_cell_at", "_law_cell_at", defArgs (top 9), defBody (top 9), defScope (top 9), [], []⟩, ⟨("_law_mix", none), "_law_mix", "_law_mix", defArgs (top 10), defBody (top 10), defScope (top 10), [], []⟩, ⟨("_law_numbers", none), "_law_numbers", "_law_numbers", defArgs (top 11), defBody (top 11), defScope (top 11), [], []⟩, ⟨("_law_cells_by", none), "_law_cells_by", "_law_cells_by", defArgs (top 12), defBody (top 12), defScope (top 12), [], []⟩, ⟨("_law_all_right", none), "_law_all_right", "_law_all_right", defArgs (top 13), defBody (top 13), defScope (top 13), [], []⟩, ⟨("law", none), "law", "law", defArgs (top 14), defBody (top 14), defScope (top 14), [], []⟩]
def fns : List He.DefD := fns0
def fa0 : List He.Fa := [.glo "_wall", .glo "KernelError", .glo "NoOwner", .int "PAGE_SIZE" 8, .glo "Store", .glo "_law_whole", .glo "_law_cell_at", .glo "_law_mix", .glo "_law_numbers", .glo "_law_cells_by", .glo "_law_all_right", .glo "law", .free "ValueError", .free "max", .free "range", .free "list", .free "isinstance", .free "int", .free "len", .free "bool", .exc "KernelError", .exc "NoOwner", .cls "Store", .mkr "Store"]
def fa1 : List He.Fa := [.meth "Store" "take", .meth "Store" "look_taken", .meth "Store" "more", .meth "Store" "less", .meth "Store" "count", .meth "Store" "cells", .meth "Store" "put", .meth "Store" "free", .noat "Store" "owners", .noat "Store" "contents"]
def fas : List He.Fa := fa0 ++ fa1
def exL (K : PySem.W.Frag) : List Bool := []
def exB (K : PySem.W.Frag) : Bool := (exL K).all id
abbrev hk : PySem.W.Hook := He.hookX 5 fas fns [] [] exB
def ob (s : PySem.W.SharedT) : He.AlX := He.obsX 5 fas fns [] [] exB (HandSHeadRun.getT s)
theorem ob_eq (s : PySem.W.SharedT) : ob s = hk.obs s.abs := He.obsX_eq (HandSHeadRun.getT_eq s)
def loose0 : List PySem.Str := ["_wall", "KernelError", "NoOwner", "PAGE_SIZE", "Store", "_law_whole", "_law_cell_at", "_law_mix", "_law_numbers", "_law_cells_by", "_law_all_right"]
def loose : List PySem.Str := loose0
abbrev R : PySem.W.OpenRow := PySem.W.OpenLaw.row PySem.Challenge.rw_ownroom_k02_stores_keep_their_own
theorem run (w : World) : HandSHeadRun.RunEq R (PySem.W.view R.prog [14]) hk ob 60000 loose w := by
  intro os
  kernel_rfl
structure Txt (K : PySem.W.Frag) (mg : Str → Option Value) : Prop where
  g__wall : mg "_wall" = some (.ref (He.ga K "_wall"))
  g_KernelError : mg "KernelError" = some (.ref (He.ga K "KernelError"))
  g_NoOwner : mg "NoOwner" = some (.ref (He.ga K "NoOwner"))
  g_PAGE_SIZE : ∃ t, mg "PAGE_SIZE" = some (.int 8 t)
  g_Store : mg "Store" = some (.ref (He.ga K "Store"))
  g__law_whole : mg "_law_whole" = some (.ref (He.ga K "_law_whole"))
  g__law_cell_at : mg "_law_cell_at" = some (.ref (He.ga K "_law_cell_at"))
  g__law_mix : mg "_law_mix" = some (.ref (He.ga K "_law_mix"))
  g__law_numbers : mg "_law_numbers" = some (.ref (He.ga K "_law_numbers"))
  g__law_cells_by : mg "_law_cells_by" = some (.ref (He.ga K "_law_cells_by"))
  g__law_all_right : mg "_law_all_right" = some (.ref (He.ga K "_law_all_right"))
  g_law : mg "law" = some (.ref (He.ga K "law"))
  n_ValueError : mg "ValueError" = none
  n_max : mg "max" = none
  n_range : mg "range" = none
  n_list : mg "list" = none
  n_isinstance : mg "isinstance" = none
  n_int : mg "int" = none
  n_len : mg "len" = none
  n_bool : mg "bool" = none
  x_KernelError : XcIn K (He.ga K "KernelError")
  x_NoOwner : XcIn K (He.ga K "NoOwner")
  c_Store : Cls K (He.ga K "Store")
  m_Store : Mk K (He.ga K "Store") (He.ma K (He.ga K "Store") "__init__")
  m_Store_take : Meth K (He.ga K "Store") "take" (He.ma K (He.ga K "Store") "take")
  m_Store_look_taken : Meth K (He.ga K "Store") "look_taken" (He.ma K (He.ga K "Store") "look_taken")
  m_Store_more : Meth K (He.ga K "Store") "more" (He.ma K (He.ga K "Store") "more")
  m_Store_less : Meth K (He.ga K "Store") "less" (He.ma K (He.ga K "Store") "less")
  m_Store_count : Meth K (He.ga K "Store") "count" (He.ma K (He.ga K "Store") "count")
  m_Store_cells : Meth K (He.ga K "Store") "cells" (He.ma K (He.ga K "Store") "cells")
  m_Store_put : Meth K (He.ga K "Store") "put" (He.ma K (He.ga K "Store") "put")
  m_Store_free : Meth K (He.ga K "Store") "free" (He.ma K (He.ga K "Store") "free")
  a_Store_owners : NoAttr K (He.ga K "Store") "owners"
  a_Store_contents : NoAttr K (He.ga K "Store") "contents"
  d__wall : ∃ fd, FunD K "_wall" "_wall" (defArgs s__wall) (defBody s__wall) (defScope s__wall) [] [] (He.fAd K ("_wall", none)) fd
  d_Store___init__ : ∃ fd, FunD K "__init__" "Store.__init__" (defArgs s_Store___init__) (defBody s_Store___init__) (defScope s_Store___init__) [] [] (He.fAd K ("Store", some "__init__")) fd
  d_Store_take : ∃ fd, FunD K "take" "Store.take" (defArgs s_Store_take) (defBody s_Store_take) (defScope s_Store_take) [] [] (He.fAd K ("Store", some "take")) fd
  d_Store_look_taken : ∃ fd, FunD K "look_taken" "Store.look_taken" (defArgs s_Store_look_taken) (defBody s_Store_look_taken) (defScope s_Store_look_taken) [] [] (He.fAd K ("Store", some "look_taken")) fd
  d_Store_more : ∃ fd, FunD K "more" "Store.more" (defArgs s_Store_more) (defBody s_Store_more) (defScope s_Store_more) [] [] (He.fAd K ("Store", some "more")) fd
  d_Store_less : ∃ fd, FunD K "less" "Store.less" (defArgs s_Store_less) (defBody s_Store_less) (defScope s_Store_less) [] [] (He.fAd K ("Store", some "less")) fd
  d_Store_count : ∃ fd, FunD K "count" "Store.count" (defArgs s_Store_count) (defBody s_Store_count) (defScope s_Store_count) [] [] (He.fAd K ("Store", some "count")) fd
  d_Store_cells : ∃ fd, FunD K "cells" "Store.cells" (defArgs s_Store_cells) (defBody s_Store_cells) (defScope s_Store_cells) [] [] (He.fAd K ("Store", some "cells")) fd
  d_Store_put : ∃ fd, FunD K "put" "Store.put" (defArgs s_Store_put) (defBody s_Store_put) (defScope s_Store_put) [] [] (He.fAd K ("Store", some "put")) fd
  d_Store_free : ∃ fd, FunD K "free" "Store.free" (defArgs s_Store_free) (defBody s_Store_free) (defScope s_Store_free) [] [] (He.fAd K ("Store", some "free")) fd
  d__law_whole : ∃ fd, FunD K "_law_whole" "_law_whole" (defArgs s__law_whole) (defBody s__law_whole) (defScope s__law_whole) [] [] (He.fAd K ("_law_whole", none)) fd
  d__law_cell_at : ∃ fd, FunD K "_law_cell_at" "_law_cell_at" (defArgs s__law_cell_at) (defBody s__law_cell_at) (defScope s__law_cell_at) [] [] (He.fAd K ("_law_cell_at", none)) fd
  d__law_mix : ∃ fd, FunD K "_law_mix" "_law_mix" (defArgs s__law_mix) (defBody s__law_mix) (defScope s__law_mix) [] [] (He.fAd K ("_law_mix", none)) fd
  d__law_numbers : ∃ fd, FunD K "_law_numbers" "_law_numbers" (defArgs s__law_numbers) (defBody s__law_numbers) (defScope s__law_numbers) [] [] (He.fAd K ("_law_numbers", none)) fd
  d__law_cells_by : ∃ fd, FunD K "_law_cells_by" "_law_cells_by" (defArgs s__law_cells_by) (defBody s__law_cells_by) (defScope s__law_cells_by) [] [] (He.fAd K ("_law_cells_by", none)) fd
  d__law_all_right : ∃ fd, FunD K "_law_all_right" "_law_all_right" (defArgs s__law_all_right) (defBody s__law_all_right) (defScope s__law_all_right) [] [] (He.fAd K ("_law_all_right", none)) fd
  d_law : ∃ fd, FunD K "law" "law" (defArgs s_law) (defBody s_law) (defScope s_law) [] [] (He.fAd K ("law", none)) fd
theorem sc_Store_more : FnScope ["self", "page"] ["self", "page"] (defScope s_Store_more) := ⟨rfl, rfl, rfl, by decide +kernel, rfl, by decide +kernel, by decide +kernel⟩
theorem okW_Store_more {P : Program} {w : World} {K : PySem.W.Frag} {mg : Str → Option Value} {base : Heap} (T : Txt K mg) : Cee P w K mg base 1 (He.fAd K ("Store", some "more")) ["self", "page"] spWall :=
  cee_of T.d_Store_more sc_Store_more (fun _ _ _ _ _ _ us hl => match us, hl with | [_, _], _ => rfl) (fun vs H Q E h => h.elim) (fun cdv A outer s H vs Q E hr h => h.elim)
theorem txt_mk {K : PySem.W.Frag} {h : Heap} {mg : Str → Option Value} (X : K.In h) (G : h.Ns mainGlobals mg) (c : He.SaysD fas fns K) (m : exB K = true) : Txt K mg where
  g__wall := He.glo_ok X G (c.fact 0 (f := .glo "_wall") rfl)
  g_KernelError := He.glo_ok X G (c.fact 1 (f := .glo "KernelError") rfl)
  g_NoOwner := He.glo_ok X G (c.fact 2 (f := .glo "NoOwner") rfl)
  g_PAGE_SIZE := He.int_ok X G (c.fact 3 (f := .int "PAGE_SIZE" 8) rfl)
  g_Store := He.glo_ok X G (c.fact 4 (f := .glo "Store") rfl)
  g__law_whole := He.glo_ok X G (c.fact 5 (f := .glo "_law_whole") rfl)
  g__law_cell_at := He.glo_ok X G (c.fact 6 (f := .glo "_law_cell_at") rfl)
  g__law_mix := He.glo_ok X G (c.fact 7 (f := .glo "_law_mix") rfl)
  g__law_numbers := He.glo_ok X G (c.fact 8 (f := .glo "_law_numbers") rfl)
  g__law_cells_by := He.glo_ok X G (c.fact 9 (f := .glo "_law_cells_by") rfl)
  g__law_all_right := He.glo_ok X G (c.fact 10 (f := .glo "_law_all_right") rfl)
  g_law := He.glo_ok X G (c.fact 11 (f := .glo "law") rfl)
  n_ValueError := He.free_ok X G (c.fact 12 (f := .free "ValueError") rfl)
  n_max := He.free_ok X G (c.fact 13 (f := .free "max") rfl)
  n_range := He.free_ok X G (c.fact 14 (f := .free "range") rfl)
  n_list := He.free_ok X G (c.fact 15 (f := .free "list") rfl)
  n_isinstance := He.free_ok X G (c.fact 16 (f := .free "isinstance") rfl)
  n_int := He.free_ok X G (c.fact 17 (f := .free "int") rfl)
  n_len := He.free_ok X G (c.fact 18 (f := .free "len") rfl)
  n_bool := He.free_ok X G (c.fact 19 (f := .free "bool") rfl)
  x_KernelError := He.exc_ok (c.fact 20 (f := .exc "KernelError") rfl)
  x_NoOwner := He.exc_ok (c.fact 21 (f := .exc "NoOwner") rfl)
  c_Store := He.cls_ok (c.fact 22 (f := .cls "Store") rfl)
  m_Store := He.mkr_ok (c.fact 23 (f := .mkr "Store") rfl)
  m_Store_take := He.meth_ok (c.fact 24 (f := .meth "Store" "take") rfl)
  m_Store_look_taken := He.meth_ok (c.fact 25 (f := .meth "Store" "look_taken") rfl)
  m_Store_more := He.meth_ok (c.fact 26 (f := .meth "Store" "more") rfl)
  m_Store_less := He.meth_ok (c.fact 27 (f := .meth "Store" "less") rfl)
  m_Store_count := He.meth_ok (c.fact 28 (f := .meth "Store" "count") rfl)
  m_Store_cells := He.meth_ok (c.fact 29 (f := .meth "Store" "cells") rfl)
  m_Store_put := He.meth_ok (c.fact 30 (f := .meth "Store" "put") rfl)
  m_Store_free := He.meth_ok (c.fact 31 (f := .meth "Store" "free") rfl)
  a_Store_owners := He.noat_ok (c.fact 32 (f := .noat "Store" "owners") rfl)
  a_Store_contents := He.noat_ok (c.fact 33 (f := .noat "Store" "contents") rfl)
  d__wall := c.def_ 0 (d := ⟨("_wall", none), "_wall", "_wall", defArgs (top 0), defBody (top 0), defScope (top 0), [], []⟩) rfl
  d_Store___init__ := c.def_ 1 (d := ⟨("Store", some "__init__"), "__init__", "Store.__init__", defArgs (inClass (top 6) 0), defBody (inClass (top 6) 0), defScope (inClass (top 6) 0), [], []⟩) rfl
  d_Store_take := c.def_ 2 (d := ⟨("Store", some "take"), "take", "Store.take", defArgs (inClass (top 6) 1), defBody (inClass (top 6) 1), defScope (inClass (top 6) 1), [], []⟩) rfl
  d_Store_look_taken := c.def_ 3 (d := ⟨("Store", some "look_taken"), "look_taken", "Store.look_taken", defArgs (inClass (top 6) 2), defBody (inClass (top 6) 2), defScope (inClass (top 6) 2), [], []⟩) rfl
  d_Store_more := c.def_ 4 (d := ⟨("Store", some "more"), "more", "Store.more", defArgs (inClass (top 6) 3), defBody (inClass (top 6) 3), defScope (inClass (top 6) 3), [], []⟩) rfl
  d_Store_less := c.def_ 5 (d := ⟨("Store", some "less"), "less", "Store.less", defArgs (inClass (top 6) 4), defBody (inClass (top 6) 4), defScope (inClass (top 6) 4), [], []⟩) rfl
  d_Store_count := c.def_ 6 (d := ⟨("Store", some "count"), "count", "Store.count", defArgs (inClass (top 6) 5), defBody (inClass (top 6) 5), defScope (inClass (top 6) 5), [], []⟩) rfl
  d_Store_cells := c.def_ 7 (d := ⟨("Store", some "cells"), "cells", "Store.cells", defArgs (inClass (top 6) 6), defBody (inClass (top 6) 6), defScope (inClass (top 6) 6), [], []⟩) rfl
  d_Store_put := c.def_ 8 (d := ⟨("Store", some "put"), "put", "Store.put", defArgs (inClass (top 6) 7), defBody (inClass (top 6) 7), defScope (inClass (top 6) 7), [], []⟩) rfl
  d_Store_free := c.def_ 9 (d := ⟨("Store", some "free"), "free", "Store.free", defArgs (inClass (top 6) 8), defBody (inClass (top 6) 8), defScope (inClass (top 6) 8), [], []⟩) rfl
  d__law_whole := c.def_ 10 (d := ⟨("_law_whole", none), "_law_whole", "_law_whole", defArgs (top 8), defBody (top 8), defScope (top 8), [], []⟩) rfl
  d__law_cell_at := c.def_ 11 (d := ⟨("_law_cell_at", none), "_law_cell_at", "_law_cell_at", defArgs (top 9), defBody (top 9), defScope (top 9), [], []⟩) rfl
  d__law_mix := c.def_ 12 (d := ⟨("_law_mix", none), "_law_mix", "_law_mix", defArgs (top 10), defBody (top 10), defScope (top 10), [], []⟩) rfl
  d__law_numbers := c.def_ 13 (d := ⟨("_law_numbers", none), "_law_numbers", "_law_numbers", defArgs (top 11), defBody (top 11), defScope (top 11), [], []⟩) rfl
  d__law_cells_by := c.def_ 14 (d := ⟨("_law_cells_by", none), "_law_cells_by", "_law_cells_by", defArgs (top 12), defBody (top 12), defScope (top 12), [], []⟩) rfl
  d__law_all_right := c.def_ 15 (d := ⟨("_law_all_right", none), "_law_all_right", "_law_all_right", defArgs (top 13), defBody (top 13), defScope (top 13), [], []⟩) rfl
  d_law := c.def_ 16 (d := ⟨("law", none), "law", "law", defArgs (top 14), defBody (top 14), defScope (top 14), [], []⟩) rfl
local macro_rules | `(tactic| walk_at "xf") => `(tactic| first  | fail)
local macro_rules | `(tactic| walk_at "fact") => `(tactic| first | with_reducible exact Txt.c_Store (by assumption) | with_reducible exact Txt.a_Store_owners (by assumption) | with_reducible exact Txt.a_Store_contents (by assumption) | fail)
/-! ### the walk's own lines -/
local macro_rules | `(tactic| walk_at "mem") => `(tactic| first | exact List.mem_cons_self | (apply List.mem_cons_of_mem; walk_at "mem") | (apply List.mem_append_right; walk_at "mem") | (apply List.mem_append_left; walk_at "mem"))
local macro_rules | `(tactic| walk_at "at") => `(tactic| first | exact At.here | (apply At.there; walk_at "at") | (apply At.app; walk_at "at") | (apply At.appl; walk_at "at"))
local macro_rules | `(tactic| walk_at "sub") => `(tactic| first | exact Sub.all | exact Sub.here | exact Sub.one | (apply Sub.there; walk_at "sub") | (apply Sub.appl; walk_at "sub") | (apply Sub.app; walk_at "sub"))
local macro_rules | `(tactic| walk_at "own") => `(tactic| first | assumption | ((with_reducible apply Own.wr2); (focus walk_at "own"); (focus walk_at "at"); rfl) | ((with_reducible apply Own.new); (focus walk_at "own"); assumption))
local macro_rules | `(tactic| walk_at "h") => `(tactic| first | assumption | (apply Own.get; (focus walk_at "own"); walk_at "mem") | (apply Own.fr0; (focus walk_at "own"); assumption))
local macro_rules | `(tactic| walk_at "ar") => `(tactic| first | omega | (simp only [List.length_nil, List.length_cons, List.length_append, List.length_map, List.length_set]; omega))
/-- one premise -/
local macro_rules | `(tactic| walk_at "c") => `(tactic| first
  | with_reducible exact rfl
  | ((with_reducible apply sl_of); rfl)
  | ((with_reducible apply sc_of); rfl)
  | ((with_reducible apply lsq_of); rfl)
  | ((with_reducible apply wp_of); rfl)
  | ((with_reducible apply ln_of); rfl)
  | ((with_reducible apply veq_of); first | rfl | exact kl | exact kr)
  | ((with_reducible apply lk_of); rfl)
  | ((with_reducible apply lkn_of); rfl)
  | ((with_reducible apply lt_of); (first | decide | walk_at "ar"))
  | ((with_reducible apply hp_of); walk_at "h")
  | ((with_reducible apply cd_of); first | exact ⟨by decide, by decide⟩ | exact ⟨by omega, by omega⟩)
  | ((with_reducible apply cm_l); first | exact ⟨by decide, by decide⟩ | exact ⟨by omega, by omega⟩)
  | ((with_reducible apply cm_r); exact ⟨by decide, by decide⟩)
  | walk_at "fact"
  | walk_at "kit"
  | walk_at "xf"
  | walk_at "col"
  | assumption)
local macro_rules | `(tactic| walk_at "kit") => `(tactic| first
  | with_reducible exact ClsV.ty _ | with_reducible exact ClsV.own _
  | with_reducible exact kt_int_int | with_reducible exact kt_int_bool | with_reducible exact kt_bool_int | with_reducible exact kt_bool_bool | with_reducible exact kt_list_list | with_reducible exact kt_tuple_tuple | with_reducible exact kt_NoneType_tuple | with_reducible exact kt_str_str | with_reducible exact kt_NoneType_list | with_reducible exact kt_NoneType_int | with_reducible exact kt_NoneType_bool | with_reducible exact kt_NoneType_dict | with_reducible exact kt_NoneType_str | with_reducible exact kt_str_list | with_reducible exact kt_list_str | with_reducible exact kt_str_int | with_reducible exact kt_int_str | with_reducible exact kt_int_list | with_reducible exact kt_int_tuple | with_reducible exact kt_list_tuple | with_reducible exact kt_tuple_list | with_reducible exact kt_dict_dict | with_reducible exact kt_list_dict | with_reducible exact kt_dict_list | with_reducible exact kt_int_dict | with_reducible exact kt_str_bool | with_reducible exact kt_str_tuple | with_reducible exact kt_str_dict | with_reducible exact kt_list_int | with_reducible exact kt_list_bool | with_reducible exact kt_tuple_int | with_reducible exact kt_tuple_bool | with_reducible exact kt_tuple_str | with_reducible exact kt_tuple_dict
  | ((with_reducible apply TyX.base); first | with_reducible exact TyOf.non | with_reducible exact TyOf.bl _ | with_reducible exact TyOf.int _ | with_reducible exact TyOf.str _ | ((with_reducible apply TyOf.lst); walk_at "h") | ((with_reducible apply TyOf.tup); walk_at "h") | ((with_reducible apply TyOf.dK); walk_at "h")))
/-- lists, tuples, dicts, sizes -/
local macro_rules | `(tactic| walk_at "sq") => `(tactic| first | assumption | ((with_reducible apply SqL.of); walk_at "h") | ((with_reducible apply SqT.of); walk_at "h") | ((with_reducible apply Own.sq); (focus walk_at "own"); assumption))
local macro_rules | `(tactic| walk_at "col") => `(tactic| first
  | ((with_reducible apply SqL.of); walk_at "h") | ((with_reducible apply SqT.of); walk_at "h") | ((with_reducible apply Rd.of); walk_at "h")
  | ((with_reducible apply Own.sq); (focus walk_at "own"); assumption)
  | ((with_reducible apply col_ex2); walk_at "sq") | ((with_reducible apply col_ol2); walk_at "sq") | ((with_reducible apply col_or2); walk_at "sq")
  | ((with_reducible apply sz_le); first | decide | walk_at "ar")
  | ((with_reducible apply sz_lt); first | decide | walk_at "ar")
  | ((with_reducible apply isd_k); walk_at "h")
  | ((with_reducible apply dget_ii); (focus walk_at "h"); assumption) | ((with_reducible apply dget_is); (focus walk_at "h"); assumption)
  | ((with_reducible apply dget_i); walk_at "h") | ((with_reducible apply dget_s); walk_at "h")
  | ((with_reducible apply dput_i); (focus walk_at "h"); walk_at "ar") | ((with_reducible apply dput_s); (focus walk_at "h"); walk_at "ar")
  | (apply Or.inl; apply And.intro rfl; apply col_ex; walk_at "h")
  | (apply Or.inr; apply Or.inr; apply Or.inl; apply And.intro rfl; apply Or.inl; constructor; walk_at "h")
  | with_reducible exact all_flat _ | with_reducible exact all_flatS _ | ((with_reducible apply fl_of); rfl)
  | ((with_reducible apply pos_of); first | decide | assumption | omega)
  | walk_at "ar")
/-- one step -/
local macro_rules | `(tactic| walk_at "s1") => `(tactic| first
  | (apply @Exists.intro V)
  | (apply @Exists.intro Addr)
  | (apply @Exists.intro Int)
  | (apply @Exists.intro (List V))
  | (apply @Exists.intro (List (Str × V)))
  | (apply @Exists.intro (List (Key × V)))
  | (apply @Exists.intro Key)
  | (apply @Exists.intro Bool)
  | (apply @Exists.intro Str)
  | (apply @Exists.intro Value)
  | (apply @Exists.intro (Option V))
  | (apply @Exists.intro (List Int)) | (apply @Exists.intro Hp)
  | (apply And.intro; (focus walk_at "c")))
local macro_rules | `(tactic| walk_at "s") => `(tactic| repeat walk_at "s1")
/-! ## Stores: what they hold -/
abbrev Pg := Addr × List Int
abbrev pcel (x : Pg) : Addr × HO := (x.1, .lst (x.2.map V.int))
/-- a store: at p, its dict and two lists at q, the owners' counts os, the pages cs -/
def cSto (K : PySem.W.Frag) (p : Addr) (q : Addr × Addr × Addr) (os : List Int) (cs : List Pg) : Cells :=
  (p, .ins (He.ga K "Store") q.1 [("owners", .ref q.2.1), ("contents", .ref q.2.2)]) :: (q.2.1, .lst (os.map V.int)) :: (q.2.2, .lst (cs.map fun x => V.ref x.1)) :: cs.map pcel
/-- how many owners page i has -/
def cntS (os : List Int) (i : Int) : Int := if 0 ≤ i ∧ i < os.length then (os[i.toNat]?).getD 0 else 0
theorem cntS_nat {os : List Int} {i : Nat} {x : Int} (h : os[i]? = some x) : cntS os i = x := by
  have := (List.getElem?_eq_some_iff.mp h).1
  unfold cntS
  rw [if_pos ⟨by omega, by omega⟩, Int.toNat_natCast, h]
  rfl
theorem cntS_pos {os : List Int} {i : Int} (h : cntS os i ≠ 0) : ∃ (n : Nat) (x : Int), i = n ∧ os[n]? = some x ∧ cntS os i = x := by
  unfold cntS at h ⊢
  by_cases z : 0 ≤ i ∧ i < os.length
  · rw [if_pos z] at h ⊢
    have hn : i.toNat < os.length := by omega
    refine ⟨i.toNat, os[i.toNat], by omega, List.getElem?_eq_getElem hn, ?_⟩
    rw [List.getElem?_eq_getElem hn]
    rfl
  · rw [if_neg z] at h
    exact absurd rfl h
def zeros : List Int := List.replicate 8 0
theorem idx_find : ∀ {os : List Int}, (0 : Int) ∈ os → ∃ j : Nat, os[j]? = some 0 ∧ ∀ m : Nat, m < j → ∀ x, os[m]? = some x → x ≠ 0
  | x :: r, h => by
    by_cases e : x = 0
    · exact ⟨0, by rw [e]; rfl, fun m hm => absurd hm (Nat.not_lt_zero _)⟩
    · obtain ⟨j, h1, h2⟩ := idx_find (os := r) ((List.mem_cons.mp h).resolve_left (fun z => e z.symm))
      refine ⟨j + 1, h1, fun m hm y hy => ?_⟩
      cases m with
      | zero => cases hy; exact e
      | succ m => exact h2 m (by omega) y hy
/-- what a store's counts and pages keep -/
structure StoOk (os : List Int) (cs : List Pg) : Prop where
  len : os.length = cs.length
  few : os.length ≤ 1000
def sp_Store___init__ (K : PySem.W.Frag) : Sp := sp2 fun self many H Q _ => ∃ (p dx : Addr) (n : Nat), self = .ref p ∧ many = .int n ∧ n ≤ 1000 ∧ Own H H [p] [(p, .ins (He.ga K "Store") dx [])] ∧
  ∀ (H' : Hp) (q : Addr × Addr × Addr) (cs : List Pg), Own H H' [p] (cSto K p q (List.replicate n 0) cs) → cs.length = n → (∀ x ∈ cs, x.2 = zeros) → Q .non H'
def sp_Store_take (K : PySem.W.Frag) : Sp := sp1 fun self H Q _ => ∃ p q os cs, self = .ref p ∧ StoOk os cs ∧ Own H H (adr (cSto K p q os cs)) (cSto K p q os cs) ∧
  ((0 : Int) ∉ os → Q .non H) ∧
  ∀ (j : Nat), os[j]? = some 0 → (∀ m : Nat, m < j → ∀ x, os[m]? = some x → x ≠ 0) → ∀ (H' : Hp) (c : Addr), Own H H' (adr (cSto K p q os cs)) (cSto K p q (os.set j 1) (cs.set j (c, zeros))) → Q (.int j) H'
def sp_Store_count (K : PySem.W.Frag) : Sp := sp2 fun self page H Q _ => ∃ p q os cs i, self = .ref p ∧ page = .int i ∧ Own H H (adr (cSto K p q os cs)) (cSto K p q os cs) ∧ Q (.int (cntS os i)) H
def sp_Store_look_taken (K : PySem.W.Frag) : Sp := sp2 fun self page H Q E => ∃ p q os cs i, self = .ref p ∧ page = .int i ∧ Own H H (adr (cSto K p q os cs)) (cSto K p q os cs) ∧ (cntS os i ≠ 0 → Q .non H) ∧ (cntS os i = 0 → E (.ref (He.ga K "NoOwner")) none H)
def sp_Store_more (K : PySem.W.Frag) : Sp := sp2 fun self page H Q E => ∃ p q os cs i, self = .ref p ∧ page = .int i ∧ Own H H (adr (cSto K p q os cs)) (cSto K p q os cs) ∧
  (cntS os i ≠ 0 → ∀ H', Own H H' (adr (cSto K p q os cs)) (cSto K p q (os.set i.toNat (cntS os i + 1)) cs) → Q .non H') ∧ (cntS os i = 0 → E (.ref (He.ga K "NoOwner")) none H)
def sp_Store_less (K : PySem.W.Frag) : Sp := sp2 fun self page H Q E => ∃ p q os cs i, self = .ref p ∧ page = .int i ∧ Own H H (adr (cSto K p q os cs)) (cSto K p q os cs) ∧
  (cntS os i ≠ 0 → ∀ H', Own H H' (adr (cSto K p q os cs)) (cSto K p q (os.set i.toNat (cntS os i - 1)) cs) → Q .non H') ∧ (cntS os i = 0 → E (.ref (He.ga K "NoOwner")) none H)
def sp_Store_cells (K : PySem.W.Frag) : Sp := sp2 fun self page H Q E => ∃ p q os cs i, self = .ref p ∧ page = .int i ∧ StoOk os cs ∧ Own H H (adr (cSto K p q os cs)) (cSto K p q os cs) ∧
  (cntS os i ≠ 0 → ∀ x, cs[i.toNat]? = some x → ∀ H' c, Own H H' (adr (cSto K p q os cs)) ((c, .lst (x.2.map V.int)) :: cSto K p q os cs) → Q (.ref c) H') ∧ (cntS os i = 0 → E (.ref (He.ga K "NoOwner")) none H)
def sp_Store_put (K : PySem.W.Frag) : Sp := sp3 fun self page cells H Q E => ∃ p q os cs i a ns, self = .ref p ∧ page = .int i ∧ cells = .ref a ∧ H a = some (.lst (ns.map V.int)) ∧ StoOk os cs ∧ Own H H (adr (cSto K p q os cs)) (cSto K p q os cs) ∧
  (cntS os i ≠ 0 → ∀ H' c, Own H H' (adr (cSto K p q os cs)) (cSto K p q os (cs.set i.toNat (c, ns))) → Q .non H') ∧ (cntS os i = 0 → E (.ref (He.ga K "NoOwner")) none H)
def sp_Store_free (K : PySem.W.Frag) : Sp := sp1 fun self H Q _ => ∃ p q os cs, self = .ref p ∧ Own H H (adr (cSto K p q os cs)) (cSto K p q os cs) ∧ Q (.int (os.count 0 : Nat)) H

theorem sc_Store___init__ : FnScope ["self", "many", "page"] ["self", "many"] (defScope s_Store___init__) := ⟨rfl, rfl, rfl, by decide +kernel, rfl, by decide +kernel, by decide +kernel⟩
theorem ok_Store___init__ {P : Program} {w : World} {K : PySem.W.Frag} {mg : Str → Option Value} {base : Heap} (T : Txt K mg) : Cee P w K mg base 1 (He.fAd K ("Store", some "__init__")) ["self", "many"] (sp_Store___init__ K) := by
  refine cee_of T.d_Store___init__ sc_Store___init__ (fun _ _ _ _ _ _ us hl => match us, hl with | [_, _], _ => rfl) (fun vs H Q E h => sp2_len h) (fun cdv A outer s H vs Q E hr h => ⟨_, (pss_cons (ps_fld (pv 0) (pe_op op_rep (pe_lst (pa_cons pe_int pa_nil)) (pv 1)) rfl) (pss_one (ps_fld (pv 0) (pe_lc (own := [("page", 2)]) (by rfl) sc_Store___init__.nd (PI.box (pi_range1 (by rfl) T.n_range (pa_cons (pv 1) pa_nil))) (blkOk_by (own := [("page", 2)]) (N := ["self", "many", "page"]) (sc := defScope s_Store___init__) (by decide +kernel)) (fun _ _ _ _ _ => (pg_name (i := 2) sc_Store___init__.nd rfl (Or.inl rfl))) (fun _ _ _ _ _ => pts_nil) (fun _ _ _ _ _ => (pe_op op_rep (pe_lst (pa_cons pe_int pa_nil)) (pe_gc (v := .int 8) rfl (gI T.g_PAGE_SIZE))))) rfl))), ?_⟩)
  obtain ⟨v0, v1, rfl, h⟩ := h
  dsimp only [cxOf, L2.start]
  obtain ⟨p, dx, n, rfl, rfl, hn, O, k⟩ := h
  have hsz : ([V.int 0] : List V).length * ((n : Nat) : Int).toNat ≤ sizeLine := sz_le (by simp; omega)
  walk_at "s"
  intro a ha
  have O1 := O.new (o := .lst [V.int 0]) ha
  walk_at "s"
  intro b hb
  rw [rep_flat, rep_map V.int n 0]
  have O2 := O1.new (o := .lst ((List.replicate n 0).map V.int)) hb
  have O3 : Own H _ [p] ((p, .ins (He.ga K "Store") dx []) :: (b, .lst ((List.replicate n 0).map V.int)) :: []) := (O2.drop (cs' := [(b, .lst ((List.replicate n 0).map V.int)), (p, .ins (He.ga K "Store") dx [])]) (.cons₂ _ (.cons _ (.refl _)))).perm (List.Perm.swap _ _ _)
  walk_at "s"
  have O4 := O3.wr (o' := .ins (He.ga K "Store") dx [("owners", .ref b)]) .here
  refine lcR (lo := 0) (n := ((n : Nat) : Int).toNat) (fun D j H2 => ∃ cs : List Pg, cs.length = j ∧ (∀ x ∈ cs, x.2 = zeros) ∧ Own H H2 [p] ((p, .ins (He.ga K "Store") dx [("owners", .ref b)]) :: (b, .lst ((List.replicate n 0).map V.int)) :: (D, .lst (cs.map fun x => V.ref x.1)) :: cs.map pcel)) ?_ ?_ ?_
  · intro D hD
    refine ⟨[], rfl, by simp, (O4.new (o := .lst []) hD).perm ?_⟩
    exact (List.Perm.swap _ _ _).trans ((List.Perm.swap _ _ _).cons _)
  · rintro D j H2 hj ⟨cs, hl, hz, O5⟩
    walk_at "s"
    intro c hc
    have O6 := O5.new (o := .lst [V.int 0]) hc
    have hsz : ([V.int 0] : List V).length * (8 : Int).toNat ≤ sizeLine := sz_le (by decide)
    walk_at "s"
    intro d hd
    have O7 := O6.new (o := .lst (zeros.map V.int)) hd
    have hlen : (cs.map fun x : Pg => V.ref x.1).length < 100000 := by rw [List.length_map]; omega
    walk_at "s"
    refine ⟨cs ++ [(d, zeros)], by rw [List.length_append, hl]; rfl, fun x hx => ?_, ?_⟩
    · rcases List.mem_append.mp hx with z | z
      · exact hz x z
      · rw [List.mem_singleton.mp z]
    · have O8 := ((O7.drop (cs' := (d, .lst (zeros.map V.int)) :: (p, .ins (He.ga K "Store") dx [("owners", .ref b)]) :: (b, .lst ((List.replicate n 0).map V.int)) :: (D, .lst (cs.map fun x => V.ref x.1)) :: cs.map pcel) (.cons₂ _ (.cons _ (.refl _)))).wr (o' := .lst ((cs.map fun x => V.ref x.1) ++ [.ref d])) (.there (.there (.there .here)))).last
      rw [List.map_append, List.map_append]
      exact O8
  · rintro D H2 ⟨cs, hl, hz, O5⟩
    walk_at "s"
    exact k _ (dx, b, D) cs (O5.wr .here) (by rw [hl, Int.toNat_natCast]) hz
theorem sc_Store_take : FnScope ["self", "page"] ["self"] (defScope s_Store_take) := ⟨rfl, rfl, rfl, by decide +kernel, rfl, by decide +kernel, by decide +kernel⟩
theorem ok_Store_take {P : Program} {w : World} {K : PySem.W.Frag} {mg : Str → Option Value} {base : Heap} (T : Txt K mg) : Cee P w K mg base 1 (He.fAd K ("Store", some "take")) ["self"] (sp_Store_take K) := by
  refine cee_of T.d_Store_take sc_Store_take (fun _ _ _ _ _ _ us hl => match us, hl with | [_], _ => rfl) (fun vs H Q E h => sp1_len h) (fun cdv A outer s H vs Q E hr h => ⟨_, (pss_cons (ps_if (pt_cmpR op_notIn_seq pe_int (pe_fld (pv 0) rfl) (by with_unfolding_all rfl)) (pss_one (ps_ret pe_non)) pss_nil) (pss_cons (ps_set (i := 1) sc_Store_take.nd rfl (Or.inl rfl) (pe_bm PySem.F.plainAttrs_list PySem.F.slot_list_index PySem.F.type_list_index mt_index (pe_fld (pv 0) rfl) (pa_cons pe_int pa_nil))) (pss_cons (ps_asg pe_int (pg_sub (pe_fld (pv 0) rfl) (pv 1) set_list)) (pss_cons (ps_asg (pe_op op_rep (pe_lst (pa_cons pe_int pa_nil)) (pe_gc (v := .int 8) rfl (gI T.g_PAGE_SIZE))) (pg_sub (pe_fld (pv 0) rfl) (pv 1) set_list)) (pss_one (ps_ret (pv 1))))))), ?_⟩)
  obtain ⟨v0, rfl, h⟩ := h
  dsimp only [cxOf, L2.start]
  obtain ⟨p, q, os, cs, rfl, ok, O, k0, k1⟩ := h
  have hl := ok.len
  have hf := ok.few
  walk_at "s"
  rw [inV_ints]
  refine if_nd (fun h => ?_) (fun h => ?_)
  · walk_at "s"
    exact k0 h
  · obtain ⟨j, hj, hm⟩ := idx_find h
    have hjl := (List.getElem?_eq_some_iff.mp hj).1
    have h0 : (os.map V.int)[j]? = some (V.int 0) := by rw [List.getElem?_map, hj]; rfl
    have hm2 : ∀ (m : Nat) (z' : V), m < j → (os.map V.int)[m]? = some z' → eqV z' (V.int 0) = false := fun m z' h1 h2 => by
      obtain ⟨y, hy, rfl⟩ := map_get h2
      rw [eqV_int]
      exact decide_eq_false (hm m h1 y hy)
    have hix := ix_at (n := (os.map V.int).length) (i := j) (by rw [List.length_map]; exact hjl)
    have hix2 := ix_at (n := (cs.map fun x : Pg => V.ref x.1).length) (i := j) (by rw [List.length_map]; omega)
    walk_at "s"
    refine ⟨eqV_int 0 0, hm2, ?_⟩
    walk_at "s"
    intro c hc
    have O1 := O.wr (o' := .lst ((os.map V.int).set j (.int 1))) (.there .here)
    have O2 := O1.new (o := .lst [V.int 0]) hc
    have hsz : ([V.int 0] : List V).length * (8 : Int).toNat ≤ sizeLine := sz_le (by decide)
    walk_at "s"
    intro d hd
    have O3 := O2.new (o := .lst (zeros.map V.int)) hd
    walk_at "s"
    have hy : cs[j]? = some cs[j] := List.getElem?_eq_getElem (by omega)
    have O4 := (O3.wr (o' := .lst ((cs.map fun x : Pg => V.ref x.1).set j (.ref d))) (.there (.there (.there (.there .here))))).drop (cs' := pcel (d, zeros) :: ([(p, .ins (He.ga K "Store") q.1 [("owners", .ref q.2.1), ("contents", .ref q.2.2)]), (q.2.1, .lst ((os.map V.int).set j (.int 1))), (q.2.2, .lst ((cs.map fun x : Pg => V.ref x.1).set j (.ref d)))] ++ cs.map pcel)) (.cons₂ _ (.cons _ (.refl _)))
    refine k1 j hj hm _ d ((O4.put hy).eq ?_)
    rw [set_map V.int, set_map (fun x : Pg => V.ref x.1) cs j (d, zeros)]
    rfl
theorem sc_Store_count : FnScope ["self", "page"] ["self", "page"] (defScope s_Store_count) := ⟨rfl, rfl, rfl, by decide +kernel, rfl, by decide +kernel, by decide +kernel⟩
theorem ok_Store_count {P : Program} {w : World} {K : PySem.W.Frag} {mg : Str → Option Value} {base : Heap} (T : Txt K mg) : Cee P w K mg base 1 (He.fAd K ("Store", some "count")) ["self", "page"] (sp_Store_count K) := by
  refine cee_of T.d_Store_count sc_Store_count (fun _ _ _ _ _ _ us hl => match us, hl with | [_, _], _ => rfl) (fun vs H Q E h => sp2_len h) (fun cdv A outer s H vs Q E hr h => ⟨_, (pss_cons (ps_if (pt_not (pt_chain op_le op_lt pe_int (pv 1) (pe_callB call_len_seq (by rfl) T.n_len (by decide +kernel) (pa_cons (pe_fld (pv 0) rfl) pa_nil)))) (pss_one (ps_ret pe_int)) pss_nil) (pss_one (ps_ret (pe_ix ix_list (pe_fld (pv 0) rfl) (pv 1) (fun _ _ => rfl))))), ?_⟩)
  obtain ⟨v0, v1, rfl, h⟩ := h
  dsimp only [cxOf, L2.start]
  obtain ⟨p, q, os, cs, i, rfl, rfl, O, k⟩ := h
  walk_at "s"
  refine if_d (fun h0 => ?_) (fun h0 => ?_)
  · walk_at "s"
    refine if_nd (fun h => ?_) (fun h => ?_)
    · walk_at "s"
      have : cntS os i = 0 := by unfold cntS; rw [if_neg (by rw [List.length_map] at h; omega)]
      rw [this] at k
      exact k
    · obtain ⟨y, hy, hy2⟩ := at_ints (ns := os) h0 h
      walk_at "s"
      have : cntS os i = y := by rw [← cntS_nat hy, Int.toNat_of_nonneg h0]
      rw [this] at k
      exact k
  · walk_at "s"
    have : cntS os i = 0 := by unfold cntS; rw [if_neg (by omega)]
    rw [this] at k
    exact k
theorem sc_Store_look_taken : FnScope ["self", "page"] ["self", "page"] (defScope s_Store_look_taken) := ⟨rfl, rfl, rfl, by decide +kernel, rfl, by decide +kernel, by decide +kernel⟩
theorem ok_Store_look_taken {P : Program} {w : World} {K : PySem.W.Frag} {mg : Str → Option Value} {base : Heap} (T : Txt K mg) : Cee P w K mg base 2 (He.fAd K ("Store", some "look_taken")) ["self", "page"] (sp_Store_look_taken K) := by
  have c_Store_count : Cee P w K mg base 1 (He.fAd K ("Store", some "count")) ["self", "page"] (sp_Store_count K) := ok_Store_count T
  refine cee_of T.d_Store_look_taken sc_Store_look_taken (fun _ _ _ _ _ _ us hl => match us, hl with | [_, _], _ => rfl) (fun vs H Q E h => sp2_len h) (fun cdv A outer s H vs Q E hr h => ⟨_, (pss_one (ps_if (pt_cmpR op_eq (pe_m (pv 0) T.c_Store T.m_Store_count c_Store_count (hr.mono (by decide)) (takes_of rfl rfl rfl rfl) (pa_cons (pv 1) pa_nil)) pe_int (nomark _)) (pss_one (ps_raise rfl (takes_of rfl rfl rfl rfl) (pmk_own PySem.F.excBase_ValueError T.x_NoOwner.1 T.g_NoOwner T.x_NoOwner.2.1 (raises_own T.x_NoOwner.2.2.1 T.x_NoOwner.2.2.2) rfl))) pss_nil)), ?_⟩)
  obtain ⟨v0, v1, rfl, h⟩ := h
  dsimp only [cxOf, L2.start]
  obtain ⟨p, q, os, cs, i, rfl, rfl, O, k, e⟩ := h
  walk_at "s"
  refine ask2 ⟨p, q, os, cs, i, rfl, rfl, O, ?_⟩
  walk_at "s"
  refine if_ii (fun h => e h) (fun h => ?_)
  exact k h
theorem sc_Store_less : FnScope ["self", "page"] ["self", "page"] (defScope s_Store_less) := ⟨rfl, rfl, rfl, by decide +kernel, rfl, by decide +kernel, by decide +kernel⟩
theorem ok_Store_less {P : Program} {w : World} {K : PySem.W.Frag} {mg : Str → Option Value} {base : Heap} (T : Txt K mg) : Cee P w K mg base 3 (He.fAd K ("Store", some "less")) ["self", "page"] (sp_Store_less K) := by
  have c_Store_look_taken : Cee P w K mg base 2 (He.fAd K ("Store", some "look_taken")) ["self", "page"] (sp_Store_look_taken K) := ok_Store_look_taken T
  refine cee_of T.d_Store_less sc_Store_less (fun _ _ _ _ _ _ us hl => match us, hl with | [_, _], _ => rfl) (fun vs H Q E h => sp2_len h) (fun cdv A outer s H vs Q E hr h => ⟨_, (pss_cons (ps_expr (pe_m (pv 0) T.c_Store T.m_Store_look_taken c_Store_look_taken (hr.mono (by decide)) (takes_of rfl rfl rfl rfl) (pa_cons (pv 1) pa_nil))) (pss_one (ps_augS (pe_fld (pv 0) rfl) (pv 1) get_list pe_int ip_sub set_list))), ?_⟩)
  obtain ⟨v0, v1, rfl, h⟩ := h
  dsimp only [cxOf, L2.start]
  obtain ⟨p, q, os, cs, i, rfl, rfl, O, k, e⟩ := h
  walk_at "s"
  refine ask2 ⟨p, q, os, cs, i, rfl, rfl, O, fun h => ?_, e⟩
  obtain ⟨n, x, rfl, hx, hc⟩ := cntS_pos h
  have hat := atI_nat (xs := os.map V.int) (j := n) (v := .int x) (by rw [List.getElem?_map, hx]; rfl)
  have hix := ix_at (n := (os.map V.int).length) (i := n) (by rw [List.length_map]; exact (List.getElem?_eq_some_iff.mp hx).1)
  walk_at "s"
  refine k h _ ?_
  rw [hc, Int.toNat_natCast]
  exact (O.wr (o' := .lst ((os.map V.int).set n (.int (x - 1)))) (.there .here)).eq (by rw [set_map]; rfl)
theorem sc_Store_free : FnScope ["self"] ["self"] (defScope s_Store_free) := ⟨rfl, rfl, rfl, by decide +kernel, rfl, by decide +kernel, by decide +kernel⟩
theorem ok_Store_free {P : Program} {w : World} {K : PySem.W.Frag} {mg : Str → Option Value} {base : Heap} (T : Txt K mg) : Cee P w K mg base 1 (He.fAd K ("Store", some "free")) ["self"] (sp_Store_free K) := by
  refine cee_of T.d_Store_free sc_Store_free (fun _ _ _ _ _ _ us hl => match us, hl with | [_], _ => rfl) (fun vs H Q E h => sp1_len h) (fun cdv A outer s H vs Q E hr h => ⟨_, (pss_one (ps_ret (pe_bm PySem.F.plainAttrs_list PySem.F.slot_list_count PySem.F.type_list_count mt_lcount (pe_fld (pv 0) rfl) (pa_cons pe_int pa_nil)))), ?_⟩)
  obtain ⟨v0, rfl, h⟩ := h
  dsimp only [cxOf, L2.start]
  obtain ⟨p, q, os, cs, rfl, O, k⟩ := h
  walk_at "s"
  exact k
theorem sc_Store_cells : FnScope ["self", "page"] ["self", "page"] (defScope s_Store_cells) := ⟨rfl, rfl, rfl, by decide +kernel, rfl, by decide +kernel, by decide +kernel⟩
theorem ok_Store_cells {P : Program} {w : World} {K : PySem.W.Frag} {mg : Str → Option Value} {base : Heap} (T : Txt K mg) : Cee P w K mg base 3 (He.fAd K ("Store", some "cells")) ["self", "page"] (sp_Store_cells K) := by
  have c_Store_look_taken : Cee P w K mg base 2 (He.fAd K ("Store", some "look_taken")) ["self", "page"] (sp_Store_look_taken K) := ok_Store_look_taken T
  refine cee_of T.d_Store_cells sc_Store_cells (fun _ _ _ _ _ _ us hl => match us, hl with | [_, _], _ => rfl) (fun vs H Q E h => sp2_len h) (fun cdv A outer s H vs Q E hr h => ⟨_, (pss_cons (ps_expr (pe_m (pv 0) T.c_Store T.m_Store_look_taken c_Store_look_taken (hr.mono (by decide)) (takes_of rfl rfl rfl rfl) (pa_cons (pv 1) pa_nil))) (pss_one (ps_ret (pe_callTy call_list_of (by rfl) T.n_list (by decide +kernel) (pa_cons (pe_ix ix_list (pe_fld (pv 0) rfl) (pv 1) (fun _ _ => rfl)) pa_nil))))), ?_⟩)
  obtain ⟨v0, v1, rfl, h⟩ := h
  dsimp only [cxOf, L2.start]
  obtain ⟨p, q, os, cs, i, rfl, rfl, ok, O, k, e⟩ := h
  have hl := ok.len
  have hf := ok.few
  walk_at "s"
  refine ask2 ⟨p, q, os, cs, i, rfl, rfl, O, fun h => ?_, e⟩
  obtain ⟨n, x, rfl, hx, hc⟩ := cntS_pos h
  have hn := (List.getElem?_eq_some_iff.mp hx).1
  have hy : cs[n]? = some cs[n] := List.getElem?_eq_getElem (by omega)
  generalize cs[n] = y at hy
  have hat := atI_nat (xs := cs.map fun x : Pg => V.ref x.1) (j := n) (v := .ref y.1) (by rw [List.getElem?_map, hy]; rfl)
  have hm : (y.1, HO.lst (y.2.map V.int)) ∈ cSto K p q os cs := .tail _ (.tail _ (.tail _ (List.mem_map.mpr ⟨y, List.mem_of_getElem? hy, rfl⟩)))
  have hh := O.get hm
  walk_at "s"
  intro l hl2
  exact k h y (by rw [Int.toNat_natCast]; exact hy) _ l (O.new hl2)
theorem sc_Store_put : FnScope ["self", "page", "cells"] ["self", "page", "cells"] (defScope s_Store_put) := ⟨rfl, rfl, rfl, by decide +kernel, rfl, by decide +kernel, by decide +kernel⟩
theorem ok_Store_put {P : Program} {w : World} {K : PySem.W.Frag} {mg : Str → Option Value} {base : Heap} (T : Txt K mg) : Cee P w K mg base 3 (He.fAd K ("Store", some "put")) ["self", "page", "cells"] (sp_Store_put K) := by
  have c_Store_look_taken : Cee P w K mg base 2 (He.fAd K ("Store", some "look_taken")) ["self", "page"] (sp_Store_look_taken K) := ok_Store_look_taken T
  refine cee_of T.d_Store_put sc_Store_put (fun _ _ _ _ _ _ us hl => match us, hl with | [_, _, _], _ => rfl) (fun vs H Q E h => sp3_len h) (fun cdv A outer s H vs Q E hr h => ⟨_, (pss_cons (ps_expr (pe_m (pv 0) T.c_Store T.m_Store_look_taken c_Store_look_taken (hr.mono (by decide)) (takes_of rfl rfl rfl rfl) (pa_cons (pv 1) pa_nil))) (pss_one (ps_asg (pe_callTy call_list_of (by rfl) T.n_list (by decide +kernel) (pa_cons (pv 2) pa_nil)) (pg_sub (pe_fld (pv 0) rfl) (pv 1) set_list)))), ?_⟩)
  obtain ⟨v0, v1, v2, rfl, h⟩ := h
  dsimp only [cxOf, L2.start]
  obtain ⟨p, q, os, cs, i, a, ns, rfl, rfl, rfl, ha, ok, O, k, e⟩ := h
  have hl := ok.len
  have hf := ok.few
  walk_at "s"
  refine ask2 ⟨p, q, os, cs, i, rfl, rfl, O, fun h => ?_, e⟩
  obtain ⟨n, x, rfl, hx, hc⟩ := cntS_pos h
  have hn := (List.getElem?_eq_some_iff.mp hx).1
  have hy : cs[n]? = some cs[n] := List.getElem?_eq_getElem (by omega)
  have hix2 := ix_at (n := (cs.map fun x : Pg => V.ref x.1).length) (i := n) (by rw [List.length_map]; omega)
  walk_at "s"
  intro d hd
  have O3 := O.new (o := .lst (ns.map V.int)) hd
  walk_at "s"
  have O4 := (O3.wr (o' := .lst ((cs.map fun x : Pg => V.ref x.1).set n (.ref d))) (.there (.there (.there .here))))
  refine k h _ d ((Own.put (g := pcel) (b := (d, ns)) (pre := [(p, .ins (He.ga K "Store") q.1 [("owners", .ref q.2.1), ("contents", .ref q.2.2)]), (q.2.1, .lst (os.map V.int)), (q.2.2, .lst ((cs.map fun x : Pg => V.ref x.1).set n (.ref d)))]) O4 hy).eq ?_)
  rw [set_map (fun x : Pg => V.ref x.1) cs n (d, ns), Int.toNat_natCast]
  rfl

/-! ## what the laws' own helpers promise -/
def sp__law_whole (K : PySem.W.Frag) : Sp := sp1 fun x H Q _ => ∃ i, x = .int i ∧ Q (.bl true) H
def sp__law_cell_at (K : PySem.W.Frag) : Sp := sp2 fun x k H Q _ => ∃ (a : Addr) (xs : List Int) (n : Int), x = .ref a ∧ k = .int n ∧ 0 ≤ n ∧ SqL K H a (xs.map V.int) ∧ Q (.int ((xs[n.toNat]?).getD 0)) H
def sp__law_mix (K : PySem.W.Frag) : Sp := sp3 fun x y z H Q _ => ∃ i j m, x = .int i ∧ y = .int j ∧ z = .int m ∧ CMul i j ∧ 0 < m ∧ Q (.int (i * j % m)) H
def sp__law_numbers (K : PySem.W.Frag) : Sp := sp2 fun x y H Q _ => ∃ (a b : Addr) (ns : List Int), x = .ref a ∧ y = .ref b ∧ H a = some (.lst (ns.map V.int)) ∧ H b = some (.lst (ns.map V.int)) ∧ Q (.bl true) H

theorem sc__law_whole : FnScope ["_law_found"] ["_law_found"] (defScope s__law_whole) := ⟨rfl, rfl, rfl, by decide +kernel, rfl, by decide +kernel, by decide +kernel⟩
theorem ok__law_whole {P : Program} {w : World} {K : PySem.W.Frag} {mg : Str → Option Value} {base : Heap} (T : Txt K mg) : Cee P w K mg base 1 (He.fAd K ("_law_whole", none)) ["_law_found"] (sp__law_whole K) := by
  refine cee_of T.d__law_whole sc__law_whole (fun _ _ _ _ _ _ us hl => match us, hl with | [_], _ => rfl) (fun vs H Q E h => sp1_len h) (fun cdv A outer s H vs Q E hr h => ⟨_, (pss_one (ps_ret (pe_and (pe_callB call_isi (by rfl) T.n_isinstance (by decide +kernel) (pa_cons (pv 0) (pa_cons (pe_bltn (v := .ty "int") rfl T.n_int (by decide +kernel) rfl) pa_nil))) (pe_one (pe_not (pe_callB call_isi (by rfl) T.n_isinstance (by decide +kernel) (pa_cons (pv 0) (pa_cons (pe_bltn (v := .ty "bool") rfl T.n_bool (by decide +kernel) rfl) pa_nil)))))))), ?_⟩)
  obtain ⟨v0, rfl, h⟩ := h
  dsimp only [cxOf, L2.start]
  obtain ⟨i, rfl, k⟩ := h
  walk_at "s"
  exact k
theorem sc__law_cell_at : FnScope ["_law_script", "_law_k"] ["_law_script", "_law_k"] (defScope s__law_cell_at) := ⟨rfl, rfl, rfl, by decide +kernel, rfl, by decide +kernel, by decide +kernel⟩
theorem ok__law_cell_at {P : Program} {w : World} {K : PySem.W.Frag} {mg : Str → Option Value} {base : Heap} (T : Txt K mg) : Cee P w K mg base 1 (He.fAd K ("_law_cell_at", none)) ["_law_script", "_law_k"] (sp__law_cell_at K) := by
  refine cee_of T.d__law_cell_at sc__law_cell_at (fun _ _ _ _ _ _ us hl => match us, hl with | [_, _], _ => rfl) (fun vs H Q E h => sp2_len h) (fun cdv A outer s H vs Q E hr h => ⟨_, (pss_cons (ps_if (pt_cmpR op_lt (pv 1) (pe_callB call_len_seq (by rfl) T.n_len (by decide +kernel) (pa_cons (pv 0) pa_nil)) (nomark _)) (pss_one (ps_ret (pe_ix ix_list (pv 0) (pv 1) (fun _ _ => rfl)))) pss_nil) (pss_one (ps_ret pe_int))), ?_⟩)
  obtain ⟨v0, v1, rfl, h⟩ := h
  dsimp only [cxOf, L2.start]
  obtain ⟨a, xs, n, rfl, rfl, n0, ha, k⟩ := h
  walk_at "s"
  refine if_d (fun h => ?_) (fun h => ?_)
  · obtain ⟨y, hz, hy⟩ := at_ints n0 h
    walk_at "s"
    rw [hz] at k
    exact k
  · rw [List.getElem?_eq_none (by rw [List.length_map] at h; omega)] at k
    walk_at "s"
    exact k
theorem sc__law_mix : FnScope ["_law_cell", "_law_factor", "_law_prime"] ["_law_cell", "_law_factor", "_law_prime"] (defScope s__law_mix) := ⟨rfl, rfl, rfl, by decide +kernel, rfl, by decide +kernel, by decide +kernel⟩
theorem ok__law_mix {P : Program} {w : World} {K : PySem.W.Frag} {mg : Str → Option Value} {base : Heap} (T : Txt K mg) : Cee P w K mg base 1 (He.fAd K ("_law_mix", none)) ["_law_cell", "_law_factor", "_law_prime"] (sp__law_mix K) := by
  refine cee_of T.d__law_mix sc__law_mix (fun _ _ _ _ _ _ us hl => match us, hl with | [_, _, _], _ => rfl) (fun vs H Q E h => sp3_len h) (fun cdv A outer s H vs Q E hr h => ⟨_, (pss_one (ps_ret (pe_op op_mod (pe_op op_mul (pv 0) (pv 1)) (pv 2)))), ?_⟩)
  obtain ⟨v0, v1, v2, rfl, h⟩ := h
  dsimp only [cxOf, L2.start]
  obtain ⟨i, j, m, rfl, rfl, rfl, hm, m0, k⟩ := h
  walk_at "s"
  exact k
theorem sc__law_numbers : FnScope ["_law_found", "_law_due", "_law_number"] ["_law_found", "_law_due"] (defScope s__law_numbers) := ⟨rfl, rfl, rfl, by decide +kernel, rfl, by decide +kernel, by decide +kernel⟩
theorem ok__law_numbers {P : Program} {w : World} {K : PySem.W.Frag} {mg : Str → Option Value} {base : Heap} (T : Txt K mg) : Cee P w K mg base 2 (He.fAd K ("_law_numbers", none)) ["_law_found", "_law_due"] (sp__law_numbers K) := by
  have c__law_whole : Cee P w K mg base 1 (He.fAd K ("_law_whole", none)) ["_law_found"] (sp__law_whole K) := ok__law_whole T
  refine cee_of T.d__law_numbers sc__law_numbers (fun _ _ _ _ _ _ us hl => match us, hl with | [_, _], _ => rfl) (fun vs H Q E h => sp2_len h) (fun cdv A outer s H vs Q E hr h => ⟨_, (pss_cons (ps_if (PW.pt (pw_or (pt_not (pt_val (pe_callB call_isi (by rfl) T.n_isinstance (by decide +kernel) (pa_cons (pv 0) (pa_cons (pe_bltn (v := .ty "list") rfl T.n_list (by decide +kernel) rfl) pa_nil))))) (pw_or1 (pt_cmpR op_ne (pe_callB call_len_seq (by rfl) T.n_len (by decide +kernel) (pa_cons (pv 0) pa_nil)) (pe_callB call_len_seq (by rfl) T.n_len (by decide +kernel) (pa_cons (pv 1) pa_nil)) (nomark _))))) (pss_one (ps_ret pe_bl)) pss_nil) (pss_cons (ps_for (passes_of rfl) rfl (PI.box (pi_list (pv 0))) (pg_name (i := 2) sc__law_numbers.nd rfl (Or.inl rfl)) (pss_one (ps_if (pt_not (pt_val (pe_f c__law_whole (hr.mono (by decide)) (takes_of rfl rfl rfl rfl) (by rfl) T.g__law_whole (pa_cons (pv 2) pa_nil)))) (pss_one (ps_ret pe_bl)) pss_nil))) (pss_one (ps_ret (pe_cmpR (op_eqD hr.units) (pv 0) (pv 1) (nomark _)))))), ?_⟩)
  obtain ⟨v0, v1, rfl, h⟩ := h
  dsimp only [cxOf, L2.start]
  obtain ⟨a, b, ns, rfl, rfl, ha, hb, k⟩ := h
  walk_at "s"
  refine if_nii (fun h => absurd rfl h) (fun _ => ?_)
  walk_at "s"
  refine forL (K := K) (a := a) (xs := ns.map V.int) (fun i σ H' => H' = H ∧ ∃ v2, σ = [some (.ref a), some (.ref b), v2]) ⟨rfl, _, rfl⟩ (fun i σ H' _ h => by rw [h.1]; exact SqL.of ha) ?_ ?_
  · rintro i x σ H' hx ⟨rfl, v2, rfl⟩
    obtain ⟨y, hy, rfl⟩ := map_get hx
    walk_at "s"
    refine ask1 ⟨y, rfl, ?_⟩
    walk_at "s"
    exact ⟨rfl, _, rfl⟩
  · rintro σ H' ⟨rfl, v2, rfl⟩
    walk_at "s"
    exact eq_ints ha hb (by rw [decide_eq_true rfl]; exact k)

def cellsF (c : Int) : List Int := if c % 3 = 1 then (List.range 8).map fun k : Nat => (c + (0 + (k : Int)) * (0 + k)) * 48271 % 2147483647 % 256 else (List.range 8).map fun k : Nat => (if -c > c then -c else c) / 256 ^ k % 256
theorem cellsF_len (c : Int) : (cellsF c).length = 8 := by
  unfold cellsF
  split <;> rw [List.length_map, List.length_range]
def sp__law_cells_by (K : PySem.W.Frag) : Sp := sp1 fun x H Q _ => ∃ c, x = .int c ∧ ∀ H' a, Own H H' [] [(a, .lst ((cellsF c).map V.int))] → Q (.ref a) H'
theorem map_range_succ {α : Type} (f : Nat → α) (j : Nat) : (List.range (j + 1)).map f = (List.range j).map f ++ [f j] := by rw [List.range_succ, List.map_append]; rfl
theorem sc__law_cells_by : FnScope ["_law_cell", "_law_left", "_law_cells", "_law_k"] ["_law_cell"] (defScope s__law_cells_by) := ⟨rfl, rfl, rfl, by decide +kernel, rfl, by decide +kernel, by decide +kernel⟩
theorem ok__law_cells_by {P : Program} {w : World} {K : PySem.W.Frag} {mg : Str → Option Value} {base : Heap} (T : Txt K mg) : Cee P w K mg base 2 (He.fAd K ("_law_cells_by", none)) ["_law_cell"] (sp__law_cells_by K) := by
  have c__law_mix : Cee P w K mg base 1 (He.fAd K ("_law_mix", none)) ["_law_cell", "_law_factor", "_law_prime"] (sp__law_mix K) := ok__law_mix T
  refine cee_of T.d__law_cells_by sc__law_cells_by (fun _ _ _ _ _ _ us hl => match us, hl with | [_], _ => rfl) (fun vs H Q E h => sp1_len h) (fun cdv A outer s H vs Q E hr h => ⟨_, (pss_cons (ps_set (i := 1) sc__law_cells_by.nd rfl (Or.inl rfl) (pe_callB (call_max2 rfl) (by rfl) T.n_max (by decide +kernel) (pa_cons (pv 0) (pa_cons (pe_un un_neg (pv 0)) pa_nil)))) (pss_cons (ps_set (i := 2) sc__law_cells_by.nd rfl (Or.inl rfl) (pe_lst pa_nil)) (pss_cons (ps_for (passes_of rfl) rfl (PI.box (pi_range1 (by rfl) T.n_range (pa_cons pe_int pa_nil))) (pg_name (i := 3) sc__law_cells_by.nd rfl (Or.inl rfl)) (pss_cons (ps_expr (pe_bm PySem.F.plainAttrs_list PySem.F.slot_list_append PySem.F.type_list_append mt_append (pv 2) (pa_cons (pe_op op_mod (pv 1) pe_int) pa_nil))) (pss_one (ps_set (i := 1) sc__law_cells_by.nd rfl (Or.inl rfl) (pe_op op_fdiv (pv 1) pe_int))))) (pss_cons (PS.box (ps_if (pt_cmpR op_eq (pe_op op_mod (pv 0) pe_int) pe_int (nomark _)) (pss_one (ps_setLc (i := 2) (own := [("_law_k", 3)]) (by rfl) sc__law_cells_by.nd rfl rfl (sw_true rfl rfl rfl (by decide +kernel)) (PI.box (pi_range1 (by rfl) T.n_range (pa_cons pe_int pa_nil))) (blkOk_by (own := [("_law_k", 3)]) (N := ["_law_cell", "_law_left", "_law_cells", "_law_k"]) (sc := defScope s__law_cells_by) (by decide +kernel)) (fun _ _ _ _ _ => (pg_name (i := 3) sc__law_cells_by.nd rfl (Or.inl rfl))) (fun _ _ _ _ _ => pts_nil) (fun _ _ _ _ _ => (pe_op op_mod (pe_f c__law_mix (hr.mono (by decide)) takes0 (by rfl) T.g__law_mix (pa_cons (pe_op op_add (pv 0) (pe_op op_mul (pv 3) (pv 3))) (pa_cons pe_int (pa_cons pe_int pa_nil)))) pe_int)))) pss_nil)) (pss_one (ps_ret (pv 2))))))), ?_⟩)
  obtain ⟨v0, rfl, h⟩ := h
  dsimp only [cxOf, L2.start]
  obtain ⟨c, rfl, k⟩ := h
  walk_at "s"
  intro a ha
  have O1 := (Own.start (H := H)).new (o := .lst []) ha
  walk_at "s"
  refine forR (lo := 0) (n := 8) (fun j σ H' => ∃ v3, σ = [some (.int c), some (.int ((if -c > c then -c else c) / 256 ^ j)), some (.ref a), v3] ∧ Own H H' [] [(a, .lst (((List.range j).map fun k : Nat => (if -c > c then -c else c) / 256 ^ k % 256).map V.int))]) ⟨none, by rw [Int.pow_zero, Int.ediv_one]; rfl, O1⟩ ?_ ?_
  · rintro j σ H' hj ⟨v3, rfl, O⟩
    have hlen : (((List.range j).map fun k : Nat => (if -c > c then -c else c) / 256 ^ k % 256).map V.int).length < 100000 := by simp only [List.length_map, List.length_range]; omega
    walk_at "s"
    refine ⟨some (.int (0 + j)), ?_, ?_⟩
    · rw [Int.pow_succ, ← Int.ediv_ediv_of_nonneg (Int.le_of_lt (Int.pow_pos (by decide)))]; rfl
    · rw [map_range_succ, List.map_append]
      exact O.wr .here
  rintro σ H' ⟨v3, rfl, O⟩
  walk_at "s"
  refine cutS (fun σ' H2 => ∃ b : Addr, σ'[2]? = some (some (.ref b)) ∧ Own H H2 [] [(b, .lst ((cellsF c).map V.int))]) (fun nx hn => ?_) ?_
  · walk_at "s"
    refine if_ii (fun h => ?_) (fun h => ?_)
    · walk_at "s"
      refine lcR (lo := 0) (n := 8) (fun D j H2 => Own H H2 [] ((D, .lst (((List.range j).map fun k : Nat => (c + (0 + (k : Int)) * (0 + k)) * 48271 % 2147483647 % 256).map V.int)) :: [(a, .lst (((List.range 8).map fun k : Nat => (if -c > c then -c else c) / 256 ^ k % 256).map V.int))])) (fun D hD => O.new hD) ?_ ?_
      · rintro D j H2 hj O2
        have hlen : (((List.range j).map fun k : Nat => (c + (0 + (k : Int)) * (0 + k)) * 48271 % 2147483647 % 256).map V.int).length < 100000 := by simp only [List.length_map, List.length_range]; omega
        walk_at "s"
        refine ask3 ⟨_, _, _, rfl, rfl, rfl, cm_r ⟨by decide, by decide⟩, by decide, ?_⟩
        walk_at "s"
        rw [map_range_succ, List.map_append]
        exact ⟨O2.wr .here⟩
      · rintro D H2 O2
        refine hn _ _ ⟨D, rfl, ?_⟩
        unfold cellsF
        rw [if_pos h]
        exact O2.drop (.cons₂ _ (.cons _ (.refl _)))
    · refine hn _ _ ⟨a, rfl, ?_⟩
      unfold cellsF
      rw [if_neg h]
      exact O
  · rintro σ' H2 ⟨b, hb, O2⟩
    exact ⟨_, hb, k _ b O2⟩
/-- what a list of lists holds -/
def cDue (d : Addr) (es : List Pg) : Cells := (d, .lst (es.map fun x => V.ref x.1)) :: es.map pcel
/-- a store and what is due of it -/
structure Bth where
  p : Addr
  q : Addr × Addr × Addr
  d : Addr
  os : List Int
  cs : List Pg
  es : List Pg
def Bth.cells (K : PySem.W.Frag) (b : Bth) : Cells := cSto K b.p b.q b.os b.cs ++ cDue b.d b.es
/-- all its pages are taken, the store has what is due -/
structure Bth.Ok (b : Bth) (n : Nat) : Prop where
  ok : StoOk b.os b.cs
  len : b.os.length = n
  one : ∀ i : Nat, i < n → b.os[i]? = some 1
  same : b.es.map (·.2) = b.cs.map (·.2)
  eight : ∀ x ∈ b.cs, x.2.length = 8
theorem Bth.Ok.at {b : Bth} {n : Nat} (h : b.Ok n) {i : Nat} (hi : i < n) : ∃ x y : Pg, b.cs[i]? = some x ∧ b.es[i]? = some y ∧ y.2 = x.2 ∧ cntS b.os i = 1 := by
  have h1 := h.ok.len
  have h2 := congrArg List.length h.same
  simp only [List.length_map] at h2
  have h3 := h.len
  have hx : b.cs[i]? = some b.cs[i] := List.getElem?_eq_getElem (by omega)
  have hy : b.es[i]? = some b.es[i] := List.getElem?_eq_getElem (by omega)
  refine ⟨_, _, hx, hy, ?_, cntS_nat (h.one i hi)⟩
  have := congrArg (fun l => l[i]?) h.same
  simp only [List.getElem?_map, hx, hy, Option.map_some] at this
  exact Option.some.inj this
theorem Bth.Ok.elen {b : Bth} {n : Nat} (h : b.Ok n) : b.es.length = n := by
  have h1 := h.ok.len
  have h2 := congrArg List.length h.same
  simp only [List.length_map] at h2
  have h3 := h.len
  omega
def sp__law_all_right (K : PySem.W.Frag) : Sp := sp2 fun x y H Q _ => ∃ (t d : Addr) (b0 b1 : Bth) (n : Nat), x = .ref t ∧ y = .ref d ∧ n ≤ 8 ∧ b0.Ok n ∧ b1.Ok n ∧
  Own H H (adr ((t, .lst [.ref b0.p, .ref b1.p]) :: (d, .lst [.ref b0.d, .ref b1.d]) :: (b0.cells K ++ b1.cells K))) ((t, .lst [.ref b0.p, .ref b1.p]) :: (d, .lst [.ref b0.d, .ref b1.d]) :: (b0.cells K ++ b1.cells K)) ∧
  ∀ H', Own H H' (adr ((t, .lst [.ref b0.p, .ref b1.p]) :: (d, .lst [.ref b0.d, .ref b1.d]) :: (b0.cells K ++ b1.cells K))) ((t, .lst [.ref b0.p, .ref b1.p]) :: (d, .lst [.ref b0.d, .ref b1.d]) :: (b0.cells K ++ b1.cells K)) → Q (.bl true) H'
theorem sc__law_all_right : FnScope ["_law_stores", "_law_due", "_law_k", "_law_page", "_law_found"] ["_law_stores", "_law_due"] (defScope s__law_all_right) := ⟨rfl, rfl, rfl, by decide +kernel, rfl, by decide +kernel, by decide +kernel⟩
theorem ok__law_all_right {P : Program} {w : World} {K : PySem.W.Frag} {mg : Str → Option Value} {base : Heap} (T : Txt K mg) : Cee P w K mg base 4 (He.fAd K ("_law_all_right", none)) ["_law_stores", "_law_due"] (sp__law_all_right K) := by
  have c_Store_cells : Cee P w K mg base 3 (He.fAd K ("Store", some "cells")) ["self", "page"] (sp_Store_cells K) := ok_Store_cells T
  have c__law_numbers : Cee P w K mg base 2 (He.fAd K ("_law_numbers", none)) ["_law_found", "_law_due"] (sp__law_numbers K) := ok__law_numbers T
  refine cee_of T.d__law_all_right sc__law_all_right (fun _ _ _ _ _ _ us hl => match us, hl with | [_, _], _ => rfl) (fun vs H Q E h => sp2_len h) (fun cdv A outer s H vs Q E hr h => ⟨_, (pss_cons (ps_for (passes_of rfl) rfl (PI.box (pi_range1 (by rfl) T.n_range (pa_cons pe_int pa_nil))) (pg_name (i := 2) sc__law_all_right.nd rfl (Or.inl rfl)) (pss_one (ps_for (passes_of rfl) rfl (PI.box (pi_range1 (by rfl) T.n_range (pa_cons (pe_callB call_len_seq (by rfl) T.n_len (by decide +kernel) (pa_cons (pe_ix ix_list (pv 1) (pv 2) (fun _ _ => rfl)) pa_nil)) pa_nil))) (pg_name (i := 3) sc__law_all_right.nd rfl (Or.inl rfl)) (pss_cons (ps_set (i := 4) sc__law_all_right.nd rfl (Or.inl rfl) (pe_m (pe_ix ix_list (pv 0) (pv 2) (fun _ _ => rfl)) T.c_Store T.m_Store_cells c_Store_cells (hr.mono (by decide)) (takes_of rfl rfl rfl rfl) (pa_cons (pv 3) pa_nil))) (pss_cons (ps_if (pt_not (pt_val (pe_f c__law_numbers (hr.mono (by decide)) (takes_of rfl rfl rfl rfl) (by rfl) T.g__law_numbers (pa_cons (pv 4) (pa_cons (pe_ix ix_list (pe_ix ix_list (pv 1) (pv 2) (fun _ _ => rfl)) (pv 3) (fun _ _ => rfl)) pa_nil))))) (pss_one (ps_ret pe_bl)) pss_nil) (pss_cons (ps_asg (pe_op op_sub pe_int (pe_ix ix_list (pv 4) pe_int (fun _ _ => rfl))) (pg_sub (pv 4) pe_int set_list)) (pss_cons (ps_expr (pe_bm PySem.F.plainAttrs_list PySem.F.slot_list_append PySem.F.type_list_append mt_append (pv 4) (pa_cons pe_int pa_nil))) (pss_one (ps_if (pt_not (pt_val (pe_f c__law_numbers (hr.mono (by decide)) (takes_of rfl rfl rfl rfl) (by rfl) T.g__law_numbers (pa_cons (pe_m (pe_ix ix_list (pv 0) (pv 2) (fun _ _ => rfl)) T.c_Store T.m_Store_cells c_Store_cells (hr.mono (by decide)) (takes_of rfl rfl rfl rfl) (pa_cons (pv 3) pa_nil)) (pa_cons (pe_ix ix_list (pe_ix ix_list (pv 1) (pv 2) (fun _ _ => rfl)) (pv 3) (fun _ _ => rfl)) pa_nil))))) (pss_one (ps_ret pe_bl)) pss_nil))))))))) (pss_one (ps_ret pe_bl))), ?_⟩)
  obtain ⟨v0, v1, rfl, h⟩ := h
  dsimp only [cxOf, L2.start]
  obtain ⟨t, d, b0, b1, n, rfl, rfl, hn, ok0, ok1, O, k⟩ := h
  walk_at "s"
  refine forR (lo := 0) (n := 2) (fun i σ H' => ∃ v2 v3 v4, σ = [some (.ref t), some (.ref d), v2, v3, v4] ∧ Own H H' (adr ((t, .lst [.ref b0.p, .ref b1.p]) :: (d, .lst [.ref b0.d, .ref b1.d]) :: (b0.cells K ++ b1.cells K))) ((t, .lst [.ref b0.p, .ref b1.p]) :: (d, .lst [.ref b0.d, .ref b1.d]) :: (b0.cells K ++ b1.cells K))) ⟨none, none, none, rfl, O⟩ ?_ ?_
  · rintro i σ H' hi ⟨v2, v3, v4, rfl, O1⟩
    obtain ⟨b, hb, hp, hd, hm⟩ : ∃ b : Bth, b.Ok n ∧ atI [V.ref b0.p, V.ref b1.p] (0 + (i : Int)) = some (.ref b.p) ∧ atI [V.ref b0.d, V.ref b1.d] (0 + (i : Int)) = some (.ref b.d) ∧ (∀ c ∈ b.cells K, c ∈ b0.cells K ++ b1.cells K) ∧ Sub (b0.cells K ++ b1.cells K) (b.cells K) (b.cells K) (b0.cells K ++ b1.cells K) := by
      obtain rfl | rfl : i = 0 ∨ i = 1 := by omega
      · exact ⟨b0, ok0, rfl, rfl, fun c h => List.mem_append_left _ h, .here⟩
      · exact ⟨b1, ok1, rfl, rfl, fun c h => List.mem_append_right _ h, .app .all⟩
    obtain ⟨hm, hs⟩ := hm
    have hsto : Sub (b0.cells K ++ b1.cells K) (cSto K b.p b.q b.os b.cs) (cSto K b.p b.q b.os b.cs) (b0.cells K ++ b1.cells K) := by
      obtain ⟨l, r, e1, e2⟩ := hs.split
      rw [e1]
      unfold Bth.cells
      rw [List.append_assoc]
      exact .app .here
    have hw := O1.self
    have hel := hb.elen
    have hdm : (b.d, HO.lst (b.es.map fun x => V.ref x.1)) ∈ b.cells K := List.mem_append_right _ (.head _)
    have hdh := O1.get (.tail _ (.tail _ (hm _ hdm)))
    walk_at "s"
    refine forR (lo := 0) (n := ((((b.es.map fun x : Pg => V.ref x.1).length : Nat) : Int)).toNat) (fun j σ H2 => ∃ v3 v4, σ = [some (.ref t), some (.ref d), some (.int (0 + (i : Int))), v3, v4] ∧ Own H H2 (adr ((t, .lst [.ref b0.p, .ref b1.p]) :: (d, .lst [.ref b0.d, .ref b1.d]) :: (b0.cells K ++ b1.cells K))) ((t, .lst [.ref b0.p, .ref b1.p]) :: (d, .lst [.ref b0.d, .ref b1.d]) :: (b0.cells K ++ b1.cells K))) ⟨v3, v4, rfl, O1⟩ ?_ ?_
    · rintro j σ H2 hj ⟨v3, v4, rfl, O2⟩
      have hjn : j < n := by rw [List.length_map] at hj; omega
      obtain ⟨x, y, hx, hy, hxy, hc1⟩ := hb.at hjn
      have hdh2 := O2.get (.tail _ (.tail _ (hm _ hdm)))
      have hat := atI_nat (xs := b.es.map fun x : Pg => V.ref x.1) (j := j) (v := .ref y.1) (by rw [List.getElem?_map, hy]; rfl)
      have hat0 : atI (b.es.map fun x : Pg => V.ref x.1) (0 + (j : Int)) = some (.ref y.1) := by rw [Int.zero_add]; exact hat
      have hym : (y.1, HO.lst (y.2.map V.int)) ∈ b.cells K := List.mem_append_right _ (.tail _ (List.mem_map.mpr ⟨y, List.mem_of_getElem? hy, rfl⟩))
      have hpm : (b.p, HO.ins (He.ga K "Store") b.q.1 [("owners", .ref b.q.2.1), ("contents", .ref b.q.2.2)]) ∈ b.cells K := List.mem_append_left _ (.head _)
      have hph2 := O2.get (.tail _ (.tail _ (hm _ hpm)))
      walk_at "s"
      refine ask2 ⟨b.p, b.q, b.os, b.cs, _, rfl, rfl, hb.ok, O2.blk (.there (.there hsto)), fun hne x' hx' H3 c O3 => ?_, fun z => absurd z (by rw [Int.zero_add, hc1]; decide)⟩
      rw [Int.zero_add, Int.toNat_natCast, hx] at hx'
      cases hx'
      have O4 := O2.callE (e := [(c, .lst (x.2.map V.int))]) (.there (.there hsto)) O3
      have hdh3 := O4.get (.tail _ (.tail _ (.tail _ (hm _ hdm))))
      have hph3 := O4.get (.tail _ (.tail _ (.tail _ (hm _ hpm))))
      walk_at "s"
      refine ask2 ⟨c, y.1, x.2, rfl, rfl, O4.get (.head _), by rw [← hxy]; exact O4.get (.tail _ (.tail _ (.tail _ (hm _ hym)))), ?_⟩
      have h8 := hb.eight x (List.mem_of_getElem? hx)
      obtain ⟨z, _, hz⟩ := at_ints (ns := x.2) (n := 0) (Int.le_refl _) (by rw [List.length_map, h8]; decide)
      have hix0 : ixN (x.2.map V.int).length 0 = some 0 := ix_at (i := 0) (by rw [List.length_map, h8]; decide)
      have hlc : ((x.2.map V.int).set 0 (.int (256 - z))).length < 100000 := by rw [List.length_set, List.length_map, h8]; decide
      have O5 := (O4.wr (a := c) (o' := .lst ((x.2.map V.int).set 0 (.int (256 - z)))) .here).wr (a := c) (o' := .lst ((x.2.map V.int).set 0 (.int (256 - z)) ++ [.int 7])) .here
      have hph5 := O5.get (.tail _ (.tail _ (.tail _ (hm _ hpm))))
      walk_at "s"
      refine ask2 ⟨b.p, b.q, b.os, b.cs, _, rfl, rfl, hb.ok, O5.blk (.there (.there (.there hsto))), fun hne x' hx' H6 c6 O6 => ?_, fun z => absurd z (by rw [Int.zero_add, hc1]; decide)⟩
      rw [Int.zero_add, Int.toNat_natCast, hx] at hx'
      cases hx'
      have O7 := O5.callE (e := [(c6, .lst (x.2.map V.int))]) (.there (.there (.there hsto))) O6
      have hdh7 := O7.get (.tail _ (.tail _ (.tail _ (.tail _ (hm _ hdm)))))
      walk_at "s"
      refine ask2 ⟨c6, y.1, x.2, rfl, rfl, O7.get (.head _), by rw [← hxy]; exact O7.get (.tail _ (.tail _ (.tail _ (.tail _ (hm _ hym))))), ?_⟩
      walk_at "s"
      exact ⟨_, _, rfl, O7.drop (.cons _ (.cons _ (.refl _)))⟩
    · rintro σ H2 ⟨v3, v4, rfl, O2⟩
      exact ⟨_, _, _, rfl, O2⟩
  · rintro σ H' ⟨v2, v3, v4, rfl, O1⟩
    walk_at "s"
    exact k _ O1
section
variable {H0 H : Hp} {A : List Addr} {cs cs' : Cells} {d e : Addr} {es : List Pg} {ns : List Int}
theorem due_in (O : Own H0 H A ((e, .lst (ns.map V.int)) :: cs)) {es' : List Pg} (h : Sub cs (cDue d es) (cDue d es') cs') {H' : Hp} (C : Own H H' (adr ((e, .lst (ns.map V.int)) :: cDue d es)) (cDue d es')) : Own H0 H' A cs' := by
  obtain ⟨l, r, rfl, rfl⟩ := h.split
  have O1 : Own H0 H A (l ++ (((e, .lst (ns.map V.int)) :: cDue d es) ++ r)) := O.perm List.perm_middle.symm
  exact O1.call (.app .here) C
theorem due_put (O : Own H0 H A ((e, .lst (ns.map V.int)) :: cs)) {j : Nat} {y : Pg} (hy : es[j]? = some y) (h : Sub cs (cDue d es) (cDue d (es.set j (e, ns))) cs') : Own H0 (upd H d (.lst ((es.map fun x => V.ref x.1).set j (.ref e)))) A cs' := by
  refine due_in O h ?_
  have B : Own H H (adr ((e, .lst (ns.map V.int)) :: cDue d es)) ((e, .lst (ns.map V.int)) :: cDue d es) := by
    obtain ⟨l, r, rfl, _⟩ := h.split
    have O1 : Own H0 H A (l ++ (((e, .lst (ns.map V.int)) :: cDue d es) ++ r)) := O.perm List.perm_middle.symm
    exact O1.blk (s' := []) (.app .here)
  have B1 := B.wr (o' := .lst ((es.map fun x => V.ref x.1).set j (.ref e))) (.there .here)
  refine (Own.put (g := pcel) (b := (e, ns)) (pre := [(d, .lst ((es.map fun x => V.ref x.1).set j (.ref e)))]) B1 hy).eq ?_
  rw [set_map (fun x : Pg => V.ref x.1) es j (e, ns)]
  rfl
theorem due_app (O : Own H0 H A ((e, .lst (ns.map V.int)) :: cs)) (h : Sub cs (cDue d es) (cDue d (es ++ [(e, ns)])) cs') : Own H0 (upd H d (.lst ((es.map fun x => V.ref x.1) ++ [.ref e]))) A cs' := by
  refine due_in O h ?_
  have B : Own H H (adr ((e, .lst (ns.map V.int)) :: cDue d es)) ((e, .lst (ns.map V.int)) :: cDue d es) := by
    obtain ⟨l, r, rfl, _⟩ := h.split
    have O1 : Own H0 H A (l ++ (((e, .lst (ns.map V.int)) :: cDue d es) ++ r)) := O.perm List.perm_middle.symm
    exact O1.blk (s' := []) (.app .here)
  have B1 := (B.wr (o' := .lst ((es.map fun x => V.ref x.1) ++ [.ref e])) (.there .here)).last
  refine B1.eq ?_
  unfold cDue
  rw [List.map_append, List.map_append]
  rfl
end
/-- j pages of n are taken yet, all blank -/
structure Bth.Part (b : Bth) (n j : Nat) : Prop where
  ok : StoOk b.os b.cs
  len : b.os.length = n
  one : ∀ i : Nat, i < n → b.os[i]? = some (if i < j then 1 else 0)
  el : b.es.length = j
  ez : ∀ x ∈ b.es, x.2 = zeros
  cz : ∀ x ∈ b.cs, x.2 = zeros
theorem all_zeros : ∀ {l : List Pg}, (∀ x ∈ l, x.2 = zeros) → l.map (·.2) = List.replicate l.length zeros
  | [], _ => rfl
  | x :: r, h => by rw [List.map_cons, h x List.mem_cons_self, all_zeros (l := r) fun y hy => h y (List.mem_cons_of_mem _ hy)]; rfl
theorem Bth.Part.full {b : Bth} {n : Nat} (h : b.Part n n) : b.Ok n := by
  refine ⟨h.ok, h.len, fun i hi => by rw [h.one i hi, if_pos hi], ?_, fun x hx => by rw [h.cz x hx]; rfl⟩
  rw [all_zeros h.ez, all_zeros h.cz, h.el, ← h.ok.len, h.len]
theorem Bth.Part.take {b : Bth} {n j : Nat} (h : b.Part n j) (hj : j < n) {i : Nat} (hi : b.os[i]? = some 0) (hm : ∀ m : Nat, m < i → ∀ x, b.os[m]? = some x → x ≠ 0) (c e : Addr) :
    i = j ∧ Bth.Part { b with os := b.os.set i 1, cs := b.cs.set i (c, zeros), es := b.es ++ [(e, zeros)] } n (j + 1) := by
  have hil := (List.getElem?_eq_some_iff.mp hi).1
  have hl := h.len
  have e1 : i = j := by
    have h1 := h.one i (by omega)
    rw [hi] at h1
    by_cases z : i < j
    · rw [if_pos z] at h1; cases h1
    · by_cases y : j < i
      · have h2 := h.one j hj
        rw [if_neg (Nat.lt_irrefl j)] at h2
        exact absurd rfl (hm j y 0 h2)
      · omega
  subst e1
  refine ⟨rfl, ⟨by dsimp only; rw [List.length_set, List.length_set]; exact h.ok.len, by dsimp only; rw [List.length_set]; exact h.ok.few⟩, by dsimp only; rw [List.length_set]; exact hl, fun k hk => ?_, by dsimp only; rw [List.length_append, h.el]; rfl, fun x hx => ?_, fun x hx => ?_⟩
  · dsimp only
    by_cases z : k = i
    · rw [z, List.getElem?_set_self hil, if_pos (Nat.lt_succ_self i)]
    · rw [List.getElem?_set_ne (Ne.symm z), h.one k hk]
      by_cases y : k < i
      · rw [if_pos y, if_pos (by omega)]
      · rw [if_neg y, if_neg (by omega)]
  · rcases List.mem_append.mp hx with z | z
    · exact h.ez x z
    · rw [List.mem_singleton.mp z]
  · rcases List.mem_or_eq_of_mem_set hx with z | z
    · exact h.cz x z
    · rw [z]
/-- what is put into page i -/
theorem Bth.Ok.put {b : Bth} {n : Nat} (h : b.Ok n) {i : Nat} (hi : i < n) (c e : Addr) {ns : List Int} (h8 : ns.length = 8) : Bth.Ok { b with cs := b.cs.set i (c, ns), es := b.es.set i (e, ns) } n := by
  refine ⟨⟨by dsimp only; rw [List.length_set]; exact h.ok.len, h.ok.few⟩, h.len, h.one, ?_, fun x hx => ?_⟩
  · dsimp only
    rw [← set_map (fun x : Pg => x.2) b.es i (e, ns), ← set_map (fun x : Pg => x.2) b.cs i (c, ns), h.same]
  · rcases List.mem_or_eq_of_mem_set hx with z | z
    · exact h.eight x z
    · rw [z]; exact h8
theorem Bth.Ok.again {b : Bth} {n : Nat} (h : b.Ok n) {i : Nat} (hi : i < n) {k : Nat} (hk : (b.os.set i 0)[k]? = some 0) : k = i ∧ (b.os.set i 0).set i 1 = b.os := by
  have hl := h.len
  have e : k = i := by
    by_cases z : k = i
    · exact z
    · rw [List.getElem?_set_ne (Ne.symm z)] at hk
      have hkl := (List.getElem?_eq_some_iff.mp hk).1
      rw [h.one k (by omega)] at hk
      cases hk
  refine ⟨e, ?_⟩
  rw [List.set_set]
  refine List.ext_getElem? fun m => ?_
  by_cases z : m = i
  · rw [z, List.getElem?_set_self (by omega), h.one i hi]
  · rw [List.getElem?_set_ne (Ne.symm z)]
def sp_law (K : PySem.W.Frag) : Sp := sp1 fun x H Q _ => ∃ (a : Addr) (xs : List Int), x = .ref a ∧ SqL K H a (xs.map V.int) ∧ xs.length ≤ 63 ∧ ∀ H', Q (.bl true) H'
theorem law_in {K : PySem.W.Frag} (H : Hp) (a : Addr) (ns : List Int) (hl : ns.length ≤ 63) (hz : ∀ z ∈ ns, Builtin.Int.intBits z ≤ 1048576) (hS : SqL K H a (ns.map V.int)) :
    ∃ (a' : Addr) (xs : List Int), V.ref a = .ref a' ∧ SqL K H a' (xs.map V.int) ∧ xs.length ≤ 63 ∧ ∀ H' : Hp, (fun (v : V) (_ : Hp) => v = .bl true) (.bl true) H' := ⟨a, ns, rfl, hS, hl, fun _ => rfl⟩
theorem sc_law : FnScope ["_law_script", "_law_many", "_law_stores", "_law_due", "_law_k", "_law_page", "_law_cell", "_law_mixed", "_law_handed"] ["_law_script"] (defScope s_law) := ⟨rfl, rfl, rfl, by decide +kernel, rfl, by decide +kernel, by decide +kernel⟩
theorem ok_law {P : Program} {w : World} {K : PySem.W.Frag} {mg : Str → Option Value} {base : Heap} (T : Txt K mg) {fd : FuncData} (F : FunD K "law" "law" (defArgs s_law) (defBody s_law) (defScope s_law) [] [] (He.fAd K ("law", none)) fd) : FnOk P w K mg base (L2.CX P w) 5 (He.fAd K ("law", none)) fd ["_law_script"] (bx (sp_law K)) := by
  have c__law_cell_at : Cee P w K mg base 1 (He.fAd K ("_law_cell_at", none)) ["_law_script", "_law_k"] (sp__law_cell_at K) := ok__law_cell_at T
  have c_Store___init__ : Cee P w K mg base 1 (He.fAd K ("Store", some "__init__")) ["self", "many"] (sp_Store___init__ K) := ok_Store___init__ T
  have c_Store_take : Cee P w K mg base 1 (He.fAd K ("Store", some "take")) ["self"] (sp_Store_take K) := ok_Store_take T
  have c__law_mix : Cee P w K mg base 1 (He.fAd K ("_law_mix", none)) ["_law_cell", "_law_factor", "_law_prime"] (sp__law_mix K) := ok__law_mix T
  have c__law_cells_by : Cee P w K mg base 2 (He.fAd K ("_law_cells_by", none)) ["_law_cell"] (sp__law_cells_by K) := ok__law_cells_by T
  have c_Store_less : Cee P w K mg base 3 (He.fAd K ("Store", some "less")) ["self", "page"] (sp_Store_less K) := ok_Store_less T
  have c_Store_put : Cee P w K mg base 3 (He.fAd K ("Store", some "put")) ["self", "page", "cells"] (sp_Store_put K) := ok_Store_put T
  have c__law_all_right : Cee P w K mg base 4 (He.fAd K ("_law_all_right", none)) ["_law_stores", "_law_due"] (sp__law_all_right K) := ok__law_all_right T
  refine fn_of F sc_law (fun vs H Q E h => sp1_len h) (fun cdv A outer s H vs Q E hr h => ⟨_, (pss_cons (ps_set (i := 1) sc_law.nd rfl (Or.inl rfl) (pe_op op_add pe_int (pe_op op_mod (pe_f c__law_cell_at (hr.mono (by decide)) (takes_of rfl rfl rfl rfl) (by rfl) T.g__law_cell_at (pa_cons (pv 0) (pa_cons pe_int pa_nil))) pe_int))) (pss_cons (ps_set (i := 2) sc_law.nd rfl (Or.inl rfl) (pe_lst (pa_cons (pe_n T.m_Store c_Store___init__ (hr.mono (by decide)) (by rfl) T.g_Store (pa_cons (pv 1) pa_nil)) (pa_cons (pe_n T.m_Store c_Store___init__ (hr.mono (by decide)) (by rfl) T.g_Store (pa_cons (pv 1) pa_nil)) pa_nil)))) (pss_cons (ps_set (i := 3) sc_law.nd rfl (Or.inl rfl) (pe_lst (pa_cons (pe_lst pa_nil) (pa_cons (pe_lst pa_nil) pa_nil)))) (pss_cons (ps_for (passes_of rfl) rfl (PI.box (pi_range1 (by rfl) T.n_range (pa_cons pe_int pa_nil))) (pg_name (i := 4) sc_law.nd rfl (Or.inl rfl)) (pss_one (ps_for (passes_of rfl) rfl (PI.box (pi_range1 (by rfl) T.n_range (pa_cons (pv 1) pa_nil))) (pg_name (i := 5) sc_law.nd rfl (Or.inl rfl)) (pss_cons (ps_if (pt_cmpR op_ne (pe_m0 (pe_ix ix_list (pv 2) (pv 4) (fun _ _ => rfl)) T.c_Store T.m_Store_take c_Store_take (hr.mono (by decide)) (takes_of rfl rfl rfl rfl)) (pv 5) (nomark _)) (pss_one (ps_ret pe_bl)) pss_nil) (pss_one (ps_expr (pe_bm PySem.F.plainAttrs_list PySem.F.slot_list_append PySem.F.type_list_append mt_append (pe_ix ix_list (pv 3) (pv 4) (fun _ _ => rfl)) (pa_cons (pe_lst (pa_cons pe_int (pa_cons pe_int (pa_cons pe_int (pa_cons pe_int (pa_cons pe_int (pa_cons pe_int (pa_cons pe_int (pa_cons pe_int pa_nil))))))))) pa_nil)))))))) (pss_cons (ps_for (passes_of rfl) rfl (PI.box (pi_list (pv 0))) (pg_name (i := 6) sc_law.nd rfl (Or.inl rfl)) (pss_cons (ps_set (i := 7) sc_law.nd rfl (Or.inl rfl) (pe_f c__law_mix (hr.mono (by decide)) (takes_of rfl rfl rfl rfl) (by rfl) T.g__law_mix (pa_cons (pv 6) (pa_cons pe_int (pa_cons pe_int pa_nil))))) (pss_cons (ps_set (i := 4) sc_law.nd rfl (Or.inl rfl) (pe_op op_mod (pv 7) pe_int)) (pss_cons (ps_set (i := 5) sc_law.nd rfl (Or.inl rfl) (pe_op op_mod (pe_op op_fdiv (pv 7) pe_int) (pv 1))) (pss_cons (ps_set (i := 8) sc_law.nd rfl (Or.inl rfl) (pe_f c__law_cells_by (hr.mono (by decide)) (takes_of rfl rfl rfl rfl) (by rfl) T.g__law_cells_by (pa_cons (pv 6) pa_nil))) (pss_cons (PS.box (ps_if (pt_cmpR op_eq (pe_op op_mod (pe_op op_fdiv (pv 7) pe_int) pe_int) pe_int (nomark _)) (pss_cons (ps_expr (pe_m (pe_ix ix_list (pv 2) (pv 4) (fun _ _ => rfl)) T.c_Store T.m_Store_less c_Store_less (hr.mono (by decide)) (takes_of rfl rfl rfl rfl) (pa_cons (pv 5) pa_nil))) (pss_cons (ps_if (pt_cmpR op_ne (pe_m0 (pe_ix ix_list (pv 2) (pv 4) (fun _ _ => rfl)) T.c_Store T.m_Store_take c_Store_take (hr.mono (by decide)) (takes_of rfl rfl rfl rfl)) (pv 5) (nomark _)) (pss_one (ps_ret pe_bl)) pss_nil) (pss_one (ps_asg (pe_lst (pa_cons pe_int (pa_cons pe_int (pa_cons pe_int (pa_cons pe_int (pa_cons pe_int (pa_cons pe_int (pa_cons pe_int (pa_cons pe_int pa_nil))))))))) (pg_sub (pe_ix ix_list (pv 3) (pv 4) (fun _ _ => rfl)) (pv 5) set_list))))) (pss_cons (ps_expr (pe_m (pe_ix ix_list (pv 2) (pv 4) (fun _ _ => rfl)) T.c_Store T.m_Store_put c_Store_put (hr.mono (by decide)) (takes_of rfl rfl rfl rfl) (pa_cons (pv 5) (pa_cons (pv 8) pa_nil)))) (pss_one (ps_asg (pe_f c__law_cells_by (hr.mono (by decide)) (takes_of rfl rfl rfl rfl) (by rfl) T.g__law_cells_by (pa_cons (pv 6) pa_nil)) (pg_sub (pe_ix ix_list (pv 3) (pv 4) (fun _ _ => rfl)) (pv 5) set_list)))))) (pss_cons (ps_expr (pe_bm PySem.F.plainAttrs_list PySem.F.slot_list_append PySem.F.type_list_append mt_append (pv 8) (pa_cons pe_int pa_nil))) (pss_cons (ps_asg pe_int (pg_sub (pv 8) pe_int set_list)) (pss_one (ps_if (PW.pt (pw_and (pt_cmpR op_lt (pe_callB call_len_seq (by rfl) T.n_len (by decide +kernel) (pa_cons (pv 0) pa_nil)) pe_int (nomark _)) (pw_and1 (pt_not (pt_val (pe_f c__law_all_right (hr.mono (by decide)) (takes_of rfl rfl rfl rfl) (by rfl) T.g__law_all_right (pa_cons (pv 2) (pa_cons (pv 3) pa_nil)))))))) (pss_one (ps_ret pe_bl)) pss_nil)))))))))) (pss_one (ps_ret (pe_f c__law_all_right (hr.mono (by decide)) (takes_of rfl rfl rfl rfl) (by rfl) T.g__law_all_right (pa_cons (pv 2) (pa_cons (pv 3) pa_nil)))))))))), ?_⟩)
  obtain ⟨v0, rfl, h⟩ := h
  dsimp only [cxOf, L2.start]
  obtain ⟨a, xs, rfl, ha, hl, k⟩ := h
  walk_at "s"
  refine ask2 ⟨a, xs, 0, rfl, rfl, Int.le_refl _, ha, ?_⟩
  generalize (xs[(0 : Int).toNat]?).getD 0 = c0
  obtain ⟨n, hn, hn1⟩ : ∃ n : Nat, 1 + c0 % 8 = n ∧ 1 ≤ n ∧ n ≤ 8 := ⟨(1 + c0 % 8).toNat, by omega, by omega⟩
  walk_at "s"
  dsimp only
  rw [hn]
  walk_at "s"
  intro p0 dp0 h1 h2 hne
  have O1 := (Own.start (H := H)).inst (C := He.ga K "Store") h1 h2 hne
  refine ask2 ⟨p0, dp0, n, rfl, rfl, by omega, O1.self, fun H2 q0 cs0 hO hcl0 hcz0 => ?_⟩
  have O2 := O1.call .all hO
  clear O1 hO
  walk_at "s"
  intro p1 dp1 h1 h2 hne
  have O3 := O2.inst (C := He.ga K "Store") h1 h2 hne
  refine ask2 ⟨p1, dp1, n, rfl, rfl, by omega, O3.blk (s' := []) .one, fun H3 q1 cs1 hO hcl1 hcz1 => ?_⟩
  have O4 := O3.call .one hO
  clear O2 O3 hO
  walk_at "s"
  intro t ht
  have O5 := O4.new (o := .lst [.ref p0, .ref p1]) ht
  walk_at "s"
  intro d0 hd0
  have O6 := O5.new (o := .lst []) hd0
  walk_at "s"
  intro d1 hd1
  have O7 := O6.new (o := .lst []) hd1
  walk_at "s"
  intro d hd
  have O8 := O7.new (o := .lst [.ref d0, .ref d1]) hd
  have O9 : Own H _ [] ((t, .lst [.ref p0, .ref p1]) :: (d, .lst [.ref d0, .ref d1]) :: ((cSto K p0 q0 (List.replicate n 0) cs0 ++ cDue d0 []) ++ (cSto K p1 q1 (List.replicate n 0) cs1 ++ cDue d1 []))) := O8.perm (by
    refine (List.perm_middle (l₁ := [_, _, _])).trans (.cons _ (.cons _ ((List.Perm.swap _ _ _).trans (List.Perm.symm ?_))))
    show ((cSto K p0 q0 (List.replicate n 0) cs0 ++ [(d0, HO.lst [])]) ++ (cSto K p1 q1 (List.replicate n 0) cs1 ++ [(d1, HO.lst [])])).Perm _
    rw [List.append_assoc]
    refine List.perm_middle.trans (.cons _ ?_)
    show (cSto K p0 q0 (List.replicate n 0) cs0 ++ (cSto K p1 q1 (List.replicate n 0) cs1 ++ [(d1, HO.lst [])])).Perm ((d1, HO.lst []) :: (cSto K p1 q1 (List.replicate n 0) cs1 ++ cSto K p0 q0 (List.replicate n 0) cs0))
    rw [← List.append_assoc]
    exact (List.perm_append_singleton _ _).trans (.cons _ List.perm_append_comm))
  clear O4 O5 O6 O7 O8
  have part : ∀ (p : Addr) (q : Addr × Addr × Addr) (d : Addr) (cs : List Pg), cs.length = n → (∀ x ∈ cs, x.2 = zeros) → Bth.Part ⟨p, q, d, List.replicate n 0, cs, []⟩ n 0 := fun p q d cs e z =>
    ⟨⟨by dsimp only; rw [List.length_replicate, e], by dsimp only; rw [List.length_replicate]; omega⟩, List.length_replicate, fun i hi => by rw [if_neg (Nat.not_lt_zero i)]; exact List.getElem?_replicate_of_lt hi, rfl, fun x hx => (nomatch hx), z⟩
  walk_at "s"
  refine forR (lo := 0) (n := 2) (fun i σ H' => ∃ (b0 b1 : Bth) (v4 v5 : Option V), σ = [some (.ref a), some (.int n), some (.ref t), some (.ref d), v4, v5, none, none, none] ∧ b0.p = p0 ∧ b1.p = p1 ∧ b0.d = d0 ∧ b1.d = d1 ∧ b0.Part n (if i = 0 then 0 else n) ∧ b1.Part n (if i = 2 then n else 0) ∧
    Own H H' [] ((t, .lst [.ref p0, .ref p1]) :: (d, .lst [.ref d0, .ref d1]) :: (b0.cells K ++ b1.cells K))) ⟨⟨p0, q0, d0, List.replicate n 0, cs0, []⟩, ⟨p1, q1, d1, List.replicate n 0, cs1, []⟩, none, none, rfl, rfl, rfl, rfl, rfl, part _ _ _ _ hcl0 hcz0, part _ _ _ _ hcl1 hcz1, O9⟩ ?_ ?_
  · clear O9 hcl0 hcz0 hcl1 hcz1 part
    rintro i σ H' hi ⟨b0, b1, v4, v5, rfl, rfl, rfl, rfl, rfl, hb0, hb1, O⟩
    obtain rfl | rfl : i = 0 ∨ i = 1 := by omega
    · walk_at "s"
      refine forR (lo := 0) (n := ((n : Nat) : Int).toNat) (fun j σ H' => ∃ (b : Bth) (v5 : Option V), σ = [some (.ref a), some (.int n), some (.ref t), some (.ref d), some (.int (0 + ((0 : Nat) : Int))), v5, none, none, none] ∧ b.p = b0.p ∧ b.d = b0.d ∧ b.Part n j ∧
        Own H H' [] ((t, .lst [.ref b0.p, .ref b1.p]) :: (d, .lst [.ref b0.d, .ref b1.d]) :: (b.cells K ++ b1.cells K))) ⟨b0, v5, rfl, rfl, rfl, hb0, O⟩ ?_ ?_
      · clear O hb0
        rintro j σ H' hj ⟨b, v5, rfl, e1, e2, hb, O⟩
        rw [Int.toNat_natCast] at hj
        have hat : atI [V.ref b0.p, V.ref b1.p] (0 + ((0 : Nat) : Int)) = some (.ref b.p) := by rw [e1]; rfl
        have hat2 : atI [V.ref b0.d, V.ref b1.d] (0 + ((0 : Nat) : Int)) = some (.ref b.d) := by rw [e2]; rfl
        have hph := O.get (a := b.p) (o := .ins (He.ga K "Store") b.q.1 [("owners", .ref b.q.2.1), ("contents", .ref b.q.2.2)]) (.tail _ (.tail _ (List.mem_append_left _ (List.mem_append_left _ (.head _)))))
        walk_at "s"
        refine ask1 ⟨b.p, b.q, b.os, b.cs, rfl, hb.ok, O.blk (s' := []) (.there (.there (.appl .here))), fun hz => ?_, fun m hm hmm H6 c O6 => ?_⟩
        · have h1 := hb.one j hj
          rw [if_neg (Nat.lt_irrefl j)] at h1
          exact absurd (List.mem_of_getElem? h1) hz
        · obtain ⟨rfl, hbt⟩ := hb.take hj hm hmm c 0
          have O7 := O.call (.there (.there (.appl .here))) O6
          walk_at "s"
          refine if_nii (fun z => absurd (by omega) z) (fun _ => ?_)
          have hdh := O7.get (a := b.d) (o := .lst (b.es.map fun x => V.ref x.1)) (.tail _ (.tail _ (List.mem_append_left _ (List.mem_append_right _ (.head _)))))
          have hlen : (b.es.map fun x : Pg => V.ref x.1).length < 100000 := by rw [List.length_map, hb.el]; omega
          walk_at "s"
          intro e he
          have O8 := O7.new (o := .lst (zeros.map V.int)) he
          walk_at "s"
          have O9 := due_app (e := e) (ns := zeros) (es := b.es) O8 (.there (.there (.appl (.app .all))))
          obtain ⟨_, hbt⟩ := hb.take hj hm hmm c e
          exact ⟨{ b with os := b.os.set m 1, cs := b.cs.set m (c, zeros), es := b.es ++ [(e, zeros)] }, _, rfl, e1, e2, hbt, O9⟩
      · rintro σ H' ⟨b, v5, rfl, e1, e2, hb, O⟩
        rw [Int.toNat_natCast] at hb
        exact ⟨b, b1, _, _, rfl, e1, rfl, e2, rfl, hb, hb1, O⟩
    · walk_at "s"
      refine forR (lo := 0) (n := ((n : Nat) : Int).toNat) (fun j σ H' => ∃ (b : Bth) (v5 : Option V), σ = [some (.ref a), some (.int n), some (.ref t), some (.ref d), some (.int (0 + ((1 : Nat) : Int))), v5, none, none, none] ∧ b.p = b1.p ∧ b.d = b1.d ∧ b.Part n j ∧
        Own H H' [] ((t, .lst [.ref b0.p, .ref b1.p]) :: (d, .lst [.ref b0.d, .ref b1.d]) :: (b0.cells K ++ b.cells K))) ⟨b1, v5, rfl, rfl, rfl, hb1, O⟩ ?_ ?_
      · clear O hb1
        rintro j σ H' hj ⟨b, v5, rfl, e1, e2, hb, O⟩
        rw [Int.toNat_natCast] at hj
        have hat : atI [V.ref b0.p, V.ref b1.p] (0 + ((1 : Nat) : Int)) = some (.ref b.p) := by rw [e1]; rfl
        have hat2 : atI [V.ref b0.d, V.ref b1.d] (0 + ((1 : Nat) : Int)) = some (.ref b.d) := by rw [e2]; rfl
        have hph := O.get (a := b.p) (o := .ins (He.ga K "Store") b.q.1 [("owners", .ref b.q.2.1), ("contents", .ref b.q.2.2)]) (.tail _ (.tail _ (List.mem_append_right _ (List.mem_append_left _ (.head _)))))
        walk_at "s"
        refine ask1 ⟨b.p, b.q, b.os, b.cs, rfl, hb.ok, O.blk (s' := []) (.there (.there (.app .here))), fun hz => ?_, fun m hm hmm H6 c O6 => ?_⟩
        · have h1 := hb.one j hj
          rw [if_neg (Nat.lt_irrefl j)] at h1
          exact absurd (List.mem_of_getElem? h1) hz
        · obtain ⟨rfl, hbt⟩ := hb.take hj hm hmm c 0
          have O7 := O.call (.there (.there (.app .here))) O6
          walk_at "s"
          refine if_nii (fun z => absurd (by omega) z) (fun _ => ?_)
          have hdh := O7.get (a := b.d) (o := .lst (b.es.map fun x => V.ref x.1)) (.tail _ (.tail _ (List.mem_append_right _ (List.mem_append_right _ (.head _)))))
          have hlen : (b.es.map fun x : Pg => V.ref x.1).length < 100000 := by rw [List.length_map, hb.el]; omega
          walk_at "s"
          intro e he
          have O8 := O7.new (o := .lst (zeros.map V.int)) he
          walk_at "s"
          have O9 := due_app (e := e) (ns := zeros) (es := b.es) O8 (.there (.there (.app (.app .all))))
          obtain ⟨_, hbt⟩ := hb.take hj hm hmm c e
          exact ⟨{ b with os := b.os.set m 1, cs := b.cs.set m (c, zeros), es := b.es ++ [(e, zeros)] }, _, rfl, e1, e2, hbt, O9⟩
      · rintro σ H' ⟨b, v5, rfl, e1, e2, hb, O⟩
        rw [Int.toNat_natCast] at hb
        exact ⟨b0, b, _, _, rfl, rfl, e1, rfl, e2, hb0, hb, O⟩
  clear O9 hcl0 hcz0 hcl1 hcz1 part
  rintro σ H' ⟨b0, b1, v4, v5, rfl, rfl, rfl, rfl, rfl, hb0, hb1, O⟩
  have hk0 := hb0.full
  have hk1 := hb1.full
  clear hb0 hb1
  walk_at "s"
  have eqs : ∀ x : Bth, x = { p := x.p, q := x.q, d := x.d, os := x.os, cs := x.cs, es := x.es } := fun _ => rfl
  refine forL (K := K) (a := a) (xs := xs.map V.int) (fun i σ H' => ∃ (c0 c1 : Bth) (v4 v5 v6 v7 v8 : Option V), σ = [some (.ref a), some (.int n), some (.ref t), some (.ref d), v4, v5, v6, v7, v8] ∧ c0.p = b0.p ∧ c1.p = b1.p ∧ c0.d = b0.d ∧ c1.d = b1.d ∧ c0.Ok n ∧ c1.Ok n ∧
    Own H H' [] ((t, .lst [.ref b0.p, .ref b1.p]) :: (d, .lst [.ref b0.d, .ref b1.d]) :: (c0.cells K ++ c1.cells K))) ⟨b0, b1, v4, v5, none, none, none, rfl, rfl, rfl, rfl, rfl, hk0, hk1, O⟩ (fun i σ H' _ ⟨_, _, _, _, _, _, _, _, _, _, _, _, _, _, O⟩ => O.sq ha) ?_ ?_
  · clear O hk0 hk1
    rintro i x σ H' hx ⟨c0, c1, v4, v5, v6, v7, v8, rfl, e0, e1, f0, f1, hk0, hk1, O⟩
    obtain ⟨z, _, rfl⟩ := map_get hx
    walk_at "s"
    refine ask3 ⟨_, _, _, rfl, rfl, rfl, cm_r ⟨by decide, by decide⟩, by decide, ?_⟩
    generalize hr : z * 16807 % 2147483399 = r
    have r0 : 0 ≤ r := by rw [← hr]; exact Int.emod_nonneg _ (by decide)
    walk_at "s"
    refine ask1 ⟨z, rfl, fun H6 hnd O6 => ?_⟩
    have O7 := O.callN O6
    obtain ⟨pg, hpg, hpn⟩ : ∃ pg : Nat, r / 2 % n = pg ∧ pg < n := ⟨(r / 2 % n).toNat, by have := Int.emod_nonneg (r / 2) (b := (n : Int)) (by omega); omega, by have := Int.emod_lt_of_pos (r / 2) (b := (n : Int)) (by omega); have := Int.emod_nonneg (r / 2) (b := (n : Int)) (by omega); omega⟩
    dsimp only
    rw [hpg]
    obtain h2 | h2 : r % 2 = 0 ∨ r % 2 = 1 := by omega
    · rw [h2]
      have hat : atI [V.ref b0.p, V.ref b1.p] 0 = some (.ref c0.p) := by rw [e0]; rfl
      have hat2 : atI [V.ref b0.d, V.ref b1.d] 0 = some (.ref c0.d) := by rw [f0]; rfl
      have hph := O7.get (a := c0.p) (o := .ins (He.ga K "Store") c0.q.1 [("owners", .ref c0.q.2.1), ("contents", .ref c0.q.2.2)]) (.tail _ (.tail _ (.tail _ (List.mem_append_left _ (List.mem_append_left _ (.head _))))))
      have hel := hk0.elen
      have hcl := hk0.ok.len
      have hol := hk0.len
      obtain ⟨x, y, hx1, hy1, hxy, hc1⟩ := hk0.at hpn
      have hixe := ix_at (n := (c0.es.map fun x : Pg => V.ref x.1).length) (i := pg) (by rw [List.length_map]; omega)
      refine cutS (fun σ' H2 => ∃ c0 c1 : Bth, σ' = [some (.ref a), some (.int n), some (.ref t), some (.ref d), some (.int 0), some (.int pg), some (.int z), some (.int r), some (.ref hnd)] ∧ c0.p = b0.p ∧ c1.p = b1.p ∧ c0.d = b0.d ∧ c1.d = b1.d ∧ c0.Ok n ∧ c1.Ok n ∧
        Own H H2 [] ((hnd, .lst ((cellsF z).map V.int)) :: (t, .lst [.ref b0.p, .ref b1.p]) :: (d, .lst [.ref b0.d, .ref b1.d]) :: (c0.cells K ++ c1.cells K))) (fun nx hn => ?_) ?_
      · walk_at "s"
        refine if_ii (fun hq => ?_) (fun hq => ?_)
        · walk_at "s"
          refine ask2 ⟨c0.p, c0.q, c0.os, c0.cs, pg, rfl, rfl, O7.blk (s' := []) (.there (.there (.there (.appl .here)))), fun _ H8 O8 => ?_, fun z => absurd z (by rw [hc1]; decide)⟩
          have O9 := O7.call (.there (.there (.there (.appl .here)))) O8
          rw [hc1, Int.toNat_natCast] at O9
          have hph9 := O9.get (a := c0.p) (o := .ins (He.ga K "Store") c0.q.1 [("owners", .ref c0.q.2.1), ("contents", .ref c0.q.2.2)]) (.tail _ (.tail _ (.tail _ (List.mem_append_left _ (List.mem_append_left _ (.head _))))))
          walk_at "s"
          refine ask1 ⟨c0.p, c0.q, c0.os.set pg 0, c0.cs, rfl, ⟨by rw [List.length_set]; exact hcl, by rw [List.length_set]; exact hk0.ok.few⟩, O9.blk (s' := []) (.there (.there (.there (.appl .here)))), fun hz => ?_, fun m hm hmm H10 c O10 => ?_⟩
          · exact absurd (List.mem_of_getElem? (List.getElem?_set_self (by omega))) hz
          · obtain ⟨rfl, hos⟩ := hk0.again hpn hm
            have O11 := O9.call (.there (.there (.there (.appl .here)))) O10
            rw [hos] at O11
            have hdh := O11.get (a := c0.d) (o := .lst (c0.es.map fun x => V.ref x.1)) (.tail _ (.tail _ (.tail _ (List.mem_append_left _ (List.mem_append_right _ (.head _))))))
            walk_at "s"
            refine if_nii (fun z => absurd rfl z) (fun _ => ?_)
            walk_at "s"
            intro e he
            have O12 := O11.new (o := .lst (zeros.map V.int)) he
            walk_at "s"
            have O13 := due_put (e := e) (ns := zeros) O12 hy1 (.there (.there (.there (.appl (.app .all)))))
            exact hn _ _ ⟨{ c0 with os := c0.os, cs := c0.cs.set m (c, zeros), es := c0.es.set m (e, zeros) }, c1, rfl, e0, e1, f0, f1, (hk0.put hpn c e rfl), hk1, O13⟩
        · walk_at "s"
          refine ask3 ⟨c0.p, c0.q, c0.os, c0.cs, pg, hnd, cellsF z, rfl, rfl, rfl, O7.get (.head _), hk0.ok, O7.blk (s' := []) (.there (.there (.there (.appl .here)))), fun _ H8 c O8 => ?_, fun z => absurd z (by rw [hc1]; decide)⟩
          have O9 := O7.call (.there (.there (.there (.appl .here)))) O8
          rw [Int.toNat_natCast] at O9
          walk_at "s"
          refine ask1 ⟨z, rfl, fun H10 e O10 => ?_⟩
          have O11 := O9.callN O10
          have hdh := O11.get (a := c0.d) (o := .lst (c0.es.map fun x => V.ref x.1)) (.tail _ (.tail _ (.tail _ (.tail _ (List.mem_append_left _ (List.mem_append_right _ (.head _)))))))
          walk_at "s"
          have O13 := due_put (e := e) (ns := cellsF z) O11 hy1 (.there (.there (.there (.appl (.app .all)))))
          exact hn _ _ ⟨{ c0 with os := c0.os, cs := c0.cs.set pg (c, cellsF z), es := c0.es.set pg (e, cellsF z) }, c1, rfl, e0, e1, f0, f1, (hk0.put hpn c e (cellsF_len z)), hk1, O13⟩
      rintro σ H8 ⟨c0, c1, rfl, e0, e1, f0, f1, hk0, hk1, O8⟩
      have hl8 : ((cellsF z).map V.int).length < 100000 := by rw [List.length_map, cellsF_len]; decide
      have hix0 : ixN ((cellsF z).map V.int ++ [V.int 9]).length 0 = some 0 := ix_at (i := 0) (by rw [List.length_append]; exact Nat.lt_of_lt_of_le (by decide) (Nat.le_add_left _ _))
      walk_at "s"
      have O9 := (O8.wr (a := hnd) (o' := .lst ((cellsF z).map V.int ++ [.int 9])) .here).wr (a := hnd) (o' := .lst (((cellsF z).map V.int ++ [V.int 9]).set 0 (V.int 300))) .here
      refine if_d (fun h => ?_) (fun h => ?_)
      · walk_at "s"
        refine ask2 ⟨t, d, c0, c1, n, rfl, rfl, hn1.2, hk0, hk1, by rw [e0, e1, f0, f1]; exact O9.blk (s' := []) (.there .all), fun H9 O10 => ?_⟩
        rw [e0, e1, f0, f1] at O10
        walk_at "s"
        exact ⟨c0, c1, _, _, _, _, _, rfl, e0, e1, f0, f1, hk0, hk1, (O9.call (.there .all) O10).drop (List.sublist_cons_self _ _)⟩
      · walk_at "s"
        exact ⟨c0, c1, _, _, _, _, _, rfl, e0, e1, f0, f1, hk0, hk1, O9.drop (List.sublist_cons_self _ _)⟩
    · rw [h2]
      have hat : atI [V.ref b0.p, V.ref b1.p] 1 = some (.ref c1.p) := by rw [e1]; rfl
      have hat2 : atI [V.ref b0.d, V.ref b1.d] 1 = some (.ref c1.d) := by rw [f1]; rfl
      have hph := O7.get (a := c1.p) (o := .ins (He.ga K "Store") c1.q.1 [("owners", .ref c1.q.2.1), ("contents", .ref c1.q.2.2)]) (.tail _ (.tail _ (.tail _ (List.mem_append_right _ (List.mem_append_left _ (.head _))))))
      have hel := hk1.elen
      have hcl := hk1.ok.len
      have hol := hk1.len
      obtain ⟨x, y, hx1, hy1, hxy, hc1⟩ := hk1.at hpn
      have hixe := ix_at (n := (c1.es.map fun x : Pg => V.ref x.1).length) (i := pg) (by rw [List.length_map]; omega)
      refine cutS (fun σ' H2 => ∃ c0 c1 : Bth, σ' = [some (.ref a), some (.int n), some (.ref t), some (.ref d), some (.int 1), some (.int pg), some (.int z), some (.int r), some (.ref hnd)] ∧ c0.p = b0.p ∧ c1.p = b1.p ∧ c0.d = b0.d ∧ c1.d = b1.d ∧ c0.Ok n ∧ c1.Ok n ∧
        Own H H2 [] ((hnd, .lst ((cellsF z).map V.int)) :: (t, .lst [.ref b0.p, .ref b1.p]) :: (d, .lst [.ref b0.d, .ref b1.d]) :: (c0.cells K ++ c1.cells K))) (fun nx hn => ?_) ?_
      · walk_at "s"
        refine if_ii (fun hq => ?_) (fun hq => ?_)
        · walk_at "s"
          refine ask2 ⟨c1.p, c1.q, c1.os, c1.cs, pg, rfl, rfl, O7.blk (s' := []) (.there (.there (.there (.app .here)))), fun _ H8 O8 => ?_, fun z => absurd z (by rw [hc1]; decide)⟩
          have O9 := O7.call (.there (.there (.there (.app .here)))) O8
          rw [hc1, Int.toNat_natCast] at O9
          have hph9 := O9.get (a := c1.p) (o := .ins (He.ga K "Store") c1.q.1 [("owners", .ref c1.q.2.1), ("contents", .ref c1.q.2.2)]) (.tail _ (.tail _ (.tail _ (List.mem_append_right _ (List.mem_append_left _ (.head _))))))
          walk_at "s"
          refine ask1 ⟨c1.p, c1.q, c1.os.set pg 0, c1.cs, rfl, ⟨by rw [List.length_set]; exact hcl, by rw [List.length_set]; exact hk1.ok.few⟩, O9.blk (s' := []) (.there (.there (.there (.app .here)))), fun hz => ?_, fun m hm hmm H10 c O10 => ?_⟩
          · exact absurd (List.mem_of_getElem? (List.getElem?_set_self (by omega))) hz
          · obtain ⟨rfl, hos⟩ := hk1.again hpn hm
            have O11 := O9.call (.there (.there (.there (.app .here)))) O10
            rw [hos] at O11
            have hdh := O11.get (a := c1.d) (o := .lst (c1.es.map fun x => V.ref x.1)) (.tail _ (.tail _ (.tail _ (List.mem_append_right _ (List.mem_append_right _ (.head _))))))
            walk_at "s"
            refine if_nii (fun z => absurd rfl z) (fun _ => ?_)
            walk_at "s"
            intro e he
            have O12 := O11.new (o := .lst (zeros.map V.int)) he
            walk_at "s"
            have O13 := due_put (e := e) (ns := zeros) O12 hy1 (.there (.there (.there (.app (.app .all)))))
            exact hn _ _ ⟨c0, { c1 with os := c1.os, cs := c1.cs.set m (c, zeros), es := c1.es.set m (e, zeros) }, rfl, e0, e1, f0, f1, hk0, (hk1.put hpn c e rfl), O13⟩
        · walk_at "s"
          refine ask3 ⟨c1.p, c1.q, c1.os, c1.cs, pg, hnd, cellsF z, rfl, rfl, rfl, O7.get (.head _), hk1.ok, O7.blk (s' := []) (.there (.there (.there (.app .here)))), fun _ H8 c O8 => ?_, fun z => absurd z (by rw [hc1]; decide)⟩
          have O9 := O7.call (.there (.there (.there (.app .here)))) O8
          rw [Int.toNat_natCast] at O9
          walk_at "s"
          refine ask1 ⟨z, rfl, fun H10 e O10 => ?_⟩
          have O11 := O9.callN O10
          have hdh := O11.get (a := c1.d) (o := .lst (c1.es.map fun x => V.ref x.1)) (.tail _ (.tail _ (.tail _ (.tail _ (List.mem_append_right _ (List.mem_append_right _ (.head _)))))))
          walk_at "s"
          have O13 := due_put (e := e) (ns := cellsF z) O11 hy1 (.there (.there (.there (.app (.app .all)))))
          exact hn _ _ ⟨c0, { c1 with os := c1.os, cs := c1.cs.set pg (c, cellsF z), es := c1.es.set pg (e, cellsF z) }, rfl, e0, e1, f0, f1, hk0, (hk1.put hpn c e (cellsF_len z)), O13⟩
      rintro σ H8 ⟨c0, c1, rfl, e0, e1, f0, f1, hk0, hk1, O8⟩
      have hl8 : ((cellsF z).map V.int).length < 100000 := by rw [List.length_map, cellsF_len]; decide
      have hix0 : ixN ((cellsF z).map V.int ++ [V.int 9]).length 0 = some 0 := ix_at (i := 0) (by rw [List.length_append]; exact Nat.lt_of_lt_of_le (by decide) (Nat.le_add_left _ _))
      walk_at "s"
      have O9 := (O8.wr (a := hnd) (o' := .lst ((cellsF z).map V.int ++ [.int 9])) .here).wr (a := hnd) (o' := .lst (((cellsF z).map V.int ++ [V.int 9]).set 0 (V.int 300))) .here
      refine if_d (fun h => ?_) (fun h => ?_)
      · walk_at "s"
        refine ask2 ⟨t, d, c0, c1, n, rfl, rfl, hn1.2, hk0, hk1, by rw [e0, e1, f0, f1]; exact O9.blk (s' := []) (.there .all), fun H9 O10 => ?_⟩
        rw [e0, e1, f0, f1] at O10
        walk_at "s"
        exact ⟨c0, c1, _, _, _, _, _, rfl, e0, e1, f0, f1, hk0, hk1, (O9.call (.there .all) O10).drop (List.sublist_cons_self _ _)⟩
      · walk_at "s"
        exact ⟨c0, c1, _, _, _, _, _, rfl, e0, e1, f0, f1, hk0, hk1, O9.drop (List.sublist_cons_self _ _)⟩
  rintro σ H' ⟨c0, c1, v4, v5, v6, v7, v8, rfl, e0, e1, f0, f1, hk0, hk1, O⟩
  walk_at "s"
  refine ask2 ⟨t, d, c0, c1, n, rfl, rfl, hn1.2, hk0, hk1, by rw [e0, e1, f0, f1]; exact O.self, fun H9 _ => k _⟩

end Ow
open PySem PySem.W PySem.Calls PyProof.Rows
set_option maxHeartbeats 0
set_option maxRecDepth 100000 in
theorem PySem.Challenge.cw_ownroom_k02_stores_keep_their_own_holds : PySem.Challenge.rw_ownroom_k02_stores_keep_their_own.Holds := by
  w_on; o_law
  refine HandSHeadRun.head_any (r := OpenLaw.row PySem.Challenge.rw_ownroom_k02_stores_keep_their_own) (q := view (OpenLaw.row PySem.Challenge.rw_ownroom_k02_stores_keep_their_own).prog [14]) (H := Ow.hk) (ob := Ow.ob) (M := 60000) (loose := Ow.loose) (d := HandSHeadRun.topDef (OpenLaw.row PySem.Challenge.rw_ownroom_k02_stores_keep_their_own).prog 14) (kwd := []) Ow.ob_eq
    (by kernel_rfl) (fun s => by kernel_rfl) Ow.run (by kernel_rfl) (by kernel_rfl) (by kernel_rfl) (by rfl) (by first | assumption | decide +kernel) (by decide +kernel) ⟨rfl, rfl, rfl, rfl, rfl, by decide +kernel⟩ ?hw ?hc
  case hw => w_witness2
  case hc =>
    refine Ow.walk_end (l := PySem.Challenge.rw_ownroom_k02_stores_keep_their_own) (n := 63) (k := 5) (x := "_law_script") rfl (by decide) (by kernel_rfl) ⟨rfl, by decide, by decide⟩ ?F
    intro w mg fa h Y G hmg0
    obtain ⟨K, KX, c⟩ := Y
    have hmg : mg ("law" : PySem.Str) = some (.ref fa) := by
      have e : (HandSHeadRun.topDef (OpenLaw.row PySem.Challenge.rw_ownroom_k02_stores_keep_their_own).prog 14).name = ("law" : PySem.Str) := by kernel_rfl
      rw [← e]
      exact hmg0
    have T := Ow.txt_mk KX G c.t.d c.more
    have e := hmg.symm.trans T.g_law
    cases e
    obtain ⟨fd, F⟩ := T.d_law
    have b := L2.FunD.bindsA (ps := ["_law_script"]) F fun _ _ _ _ _ _ us hl => match us, hl with | [_], _ => rfl
    exact ⟨K, fd, Ow.bx (Ow.sp_law K), KX, fun s v => b s [v] rfl, fun H a ns hl hz hS => ⟨⟨_, rfl, Ow.law_in H a ns hl hz hS⟩⟩, fun base _ _ => Ow.ok_law T F⟩
