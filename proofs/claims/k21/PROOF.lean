import PyProof.Rows.All
import Wide.All
import OpenK.AllK
import Wide.FinOn
import HandS.ForMost
import HandS.ForExc
import HandS.More
import HandS.SortInts
import HandS.Conv
import HandS.Defaults
import HandS.IsInst
import HandS.ExcValue
import HandS.ExcIs
import HandS.Flow
import HandS.Codes
import HandS.TupLen
import HandS.StrMore
import HandS.SetFor
import HandS.Style
import HandS.DictTup
import HandS.ListItems
import HandS.TupAny
import HandS.Finally
import HandS.Wide
import HandS.Replace
import HandS.Zip
import HandS.Walk
import HandS.DeepEq
import HandS.Head0
import HandS.Head1
import HandS.Head2
import HandS.HeadEnd
import HandS.HeadHook1
import HandS.HeadHook2
import HandS.HeadHook3
import HandS.HeadHook4
import HandS.EndBits
import HandS.HotCalls
import HandS.ExcCtx
import PyProof.LongRange
import PySem.Challenge.RW_ownroom_k21_plain_rooms_refused
set_option Elab.async false
set_option linter.all false
set_option maxRecDepth 100000
set_option pp.mvars false
set_option pp.deepTerms false
set_option pp.deepTerms.threshold 10
set_option pp.maxSteps 1500
set_option maxHeartbeats 4000000
namespace Ow
open PySem PySem.Spec PyProof.Rows L2
theorem passLN {X : Cx} : Passes (L2N.CX X.prog X.w) X E0 := fun pins σ H s e s' I h => by
  obtain ⟨a, B, H', cls, d, e1, e2, e3, e4, e5, e6, e7, z⟩ := h
  exact z.elim
theorem takes0N {X : Cx} : L2N.Takes X (fun cls d σ H => False) := fun u s' h => by
  obtain ⟨a, B, sI, pins, σ, H, cls, d, e1, e2, e3, e4, e5, e6, e7, e8, z⟩ := h
  exact z.elim
end Ow
namespace Ow
open PySem PySem.Spec PyProof.Rows L2
/-! ## My own layer: what a def owns (cells), a def that may be called, readings that stop at calls and loops -/
/-! ### cells -/
abbrev Cells := List (Addr × HO)
def adr (cs : Cells) : List Addr := cs.map Prod.fst
/-- from H0, of which the addresses A are ours, we have come to H; the cells cs stand there, each once; the rest of H0 is as it was, new cells were free in H0, tuples stay -/
structure Own (H0 H : Hp) (A : List Addr) (cs : Cells) : Prop where
  at_ : ∀ a o, (a, o) ∈ cs → H a = some o
  nd : (adr cs).Nodup
  fr : ∀ b o, H0 b = some o → b ∉ A → H b = some o
  nw : ∀ b, b ∈ adr cs → b ∈ A ∨ H0 b = none
  tp : ∀ b xs, H0 b = some (.tup xs) → H b = some (.tup xs)
theorem adr_cons {c : Addr × HO} {r : Cells} : adr (c :: r) = c.1 :: adr r := rfl
theorem adr_app {s r : Cells} : adr (s ++ r) = adr s ++ adr r := List.map_append
theorem Own.start {H : Hp} (h : ∀ b xs, H b = some (.tup xs) → H b = some (.tup xs) := fun _ _ h => h) : Own H H [] [] :=
  ⟨fun _ _ m => (nomatch m), List.nodup_nil, fun _ _ h _ => h, fun _ m => (nomatch m), h⟩
/-- where the cell of an address stands, and the row with another thing there -/
inductive At : Cells → Addr → HO → HO → Cells → Prop
  | here {a o o' r} : At ((a, o) :: r) a o o' ((a, o') :: r)
  | there {c r a o o' r'} : At r a o o' r' → At (c :: r) a o o' (c :: r')
  | app {s r a o o' r'} : At r a o o' r' → At (s ++ r) a o o' (s ++ r')
  | appl {s r a o o' s'} : At s a o o' s' → At (s ++ r) a o o' (s' ++ r)
theorem At.mem {cs cs' : Cells} {a : Addr} {o o' : HO} (h : At cs a o o' cs') : (a, o) ∈ cs := by
  induction h with
  | here => exact List.mem_cons_self
  | there _ ih => exact List.mem_cons_of_mem _ ih
  | app _ ih => exact List.mem_append_right _ ih
  | appl _ ih => exact List.mem_append_left _ ih
theorem At.adr {cs cs' : Cells} {a : Addr} {o o' : HO} (h : At cs a o o' cs') : adr cs' = adr cs := by
  induction h with
  | here => rfl
  | there _ ih => rw [adr_cons, adr_cons, ih]
  | app _ ih => rw [adr_app, adr_app, ih]
  | appl _ ih => rw [adr_app, adr_app, ih]
theorem At.of {cs cs' : Cells} {a : Addr} {o o' : HO} (h : At cs a o o' cs') (nd : (Ow.adr cs).Nodup) : ∀ b u, (b, u) ∈ cs' → (b = a ∧ u = o') ∨ (b ≠ a ∧ (b, u) ∈ cs) := by
  induction h with
  | here =>
    intro b u m
    rcases List.mem_cons.mp m with e | m2
    · cases e; exact .inl ⟨rfl, rfl⟩
    · refine .inr ⟨fun e => ?_, List.mem_cons_of_mem _ m2⟩
      subst e
      exact (List.nodup_cons.mp nd).1 (List.mem_map.mpr ⟨_, m2, rfl⟩)
  | @there c r a o o' r' h ih =>
    intro b u m
    obtain ⟨n1, n2⟩ := List.nodup_cons.mp nd
    rcases List.mem_cons.mp m with e | m
    · subst e
      refine .inr ⟨fun e => ?_, List.mem_cons_self⟩
      exact n1 (List.mem_map.mpr ⟨_, h.mem, e.symm⟩)
    · rcases ih n2 b u m with z | ⟨z1, z2⟩
      · exact .inl z
      · exact .inr ⟨z1, List.mem_cons_of_mem _ z2⟩
  | @app s r a o o' r' h ih =>
    intro b u m
    rw [adr_app] at nd
    obtain ⟨n1, n2, n3⟩ := List.nodup_append.mp nd
    rcases List.mem_append.mp m with m | m
    · refine .inr ⟨fun e => ?_, List.mem_append_left _ m⟩
      subst e
      exact n3 _ (List.mem_map.mpr ⟨_, m, rfl⟩) _ (List.mem_map.mpr ⟨_, h.mem, rfl⟩) rfl
    · rcases ih n2 b u m with z | ⟨z1, z2⟩
      · exact .inl z
      · exact .inr ⟨z1, List.mem_append_right _ z2⟩
  | @appl s r a o o' s' h ih =>
    intro b u m
    rw [adr_app] at nd
    obtain ⟨n1, n2, n3⟩ := List.nodup_append.mp nd
    rcases List.mem_append.mp m with m | m
    · rcases ih n1 b u m with z | ⟨z1, z2⟩
      · exact .inl z
      · exact .inr ⟨z1, List.mem_append_left _ z2⟩
    · refine .inr ⟨fun e => ?_, List.mem_append_right _ m⟩
      subst e
      exact n3 _ (List.mem_map.mpr ⟨_, h.mem, rfl⟩) _ (List.mem_map.mpr ⟨_, m, rfl⟩) rfl
def isTup : HO → Bool
  | .tup _ => true
  | _ => false
/-- a block of cells within, and the row with another block in its place -/
inductive Sub : Cells → Cells → Cells → Cells → Prop
  | all {s s'} : Sub s s s' s'
  | here {s s' r} : Sub (s ++ r) s s' (s' ++ r)
  | one {c s' r} : Sub (c :: r) [c] s' (s' ++ r)
  | two {c d s' r} : Sub (c :: d :: r) [c, d] s' (s' ++ r)
  | nil {r s'} : Sub r [] s' (s' ++ r)
  | there {c r s s' r'} : Sub r s s' r' → Sub (c :: r) s s' (c :: r')
  | app {t r s s' r'} : Sub r s s' r' → Sub (t ++ r) s s' (t ++ r')
  | appl {t r s s' t'} : Sub t s s' t' → Sub (t ++ r) s s' (t' ++ r)
theorem Sub.split {cs s s' cs' : Cells} (h : Sub cs s s' cs') : ∃ l r, cs = l ++ (s ++ r) ∧ cs' = l ++ (s' ++ r) := by
  induction h with
  | all => exact ⟨[], [], by simp, by simp⟩
  | here => exact ⟨[], _, rfl, rfl⟩
  | one => exact ⟨[], _, rfl, rfl⟩
  | two => exact ⟨[], _, rfl, rfl⟩
  | nil => exact ⟨[], _, rfl, rfl⟩
  | @there c r s s' r' _ ih =>
    obtain ⟨l, t, e1, e2⟩ := ih
    exact ⟨c :: l, t, by rw [e1]; rfl, by rw [e2]; rfl⟩
  | @app t r s s' r' _ ih =>
    obtain ⟨l, q, e1, e2⟩ := ih
    exact ⟨t ++ l, q, by rw [e1, List.append_assoc], by rw [e2, List.append_assoc]⟩
  | @appl t r s s' t' _ ih =>
    obtain ⟨l, q, e1, e2⟩ := ih
    exact ⟨l, q ++ r, by rw [e1]; simp only [List.append_assoc], by rw [e2]; simp only [List.append_assoc]⟩
section
variable {H0 H H' : Hp} {A : List Addr} {cs cs' s s' : Cells} {a p : Addr} {o o' : HO}
theorem Own.get (O : Own H0 H A cs) (m : (a, o) ∈ cs) : H a = some o := O.at_ a o m
theorem Own.tup {t : Addr} {xs : List V} (O : Own H0 H A cs) (h : H0 t = some (.tup xs)) : H t = some (.tup xs) := O.tp t xs h
/-- a cell is written -/
theorem Own.wr (O : Own H0 H A cs) (h : At cs a o o' cs') (n : isTup o = false := by rfl) : Own H0 (upd H a o') A cs' := by
  have ha := O.at_ a o h.mem
  refine ⟨fun b u m => ?_, by rw [h.adr]; exact O.nd, fun b u e hb => ?_, fun b m => O.nw b (by rw [← h.adr]; exact m), fun b xs e => ?_⟩
  · rcases h.of O.nd b u m with ⟨rfl, rfl⟩ | ⟨e, m⟩
    · exact upd_same
    · rw [upd_ne e]; exact O.at_ b u m
  · rw [upd_ne]
    · exact O.fr b u e hb
    · rintro rfl
      rcases O.nw b (List.mem_map.mpr ⟨_, h.mem, rfl⟩) with z | z
      · exact hb z
      · rw [z] at e; cases e
  · have e1 := O.tp b xs e
    rw [upd_ne]
    · exact e1
    · rintro rfl
      rw [e1] at ha
      cases ha
      cases n
/-- a new cell -/
theorem Own.new (O : Own H0 H A cs) (h : H p = none) : Own H0 (upd H p o) A ((p, o) :: cs) := by
  have hn : p ∉ adr cs := fun m => by
    obtain ⟨c, hc, e⟩ := List.mem_map.mp m
    have := O.at_ c.1 c.2 hc
    rw [e, h] at this
    cases this
  have ne : ∀ b u, H b = some u → b ≠ p := fun b u e z => by rw [z, h] at e; cases e
  by_cases hA : p ∈ A
  · refine ⟨fun b u m => ?_, List.nodup_cons.mpr ⟨hn, O.nd⟩, fun b u e hb => ?_, fun b m => ?_, fun b xs e => ?_⟩
    · rcases List.mem_cons.mp m with z | z
      · cases z; exact upd_same
      · rw [upd_ne (ne b u (O.at_ b u z))]; exact O.at_ b u z
    · rw [upd_ne (ne b u (O.fr b u e hb))]; exact O.fr b u e hb
    · rcases List.mem_cons.mp m with z | z
      · exact .inl (by rw [z]; exact hA)
      · exact O.nw b z
    · rw [upd_ne (ne b _ (O.tp b xs e))]; exact O.tp b xs e
  · have h0 : H0 p = none := by
      cases q : H0 p with
      | none => rfl
      | some u =>
        rw [O.fr p u q hA] at h
        cases h
    refine ⟨fun b u m => ?_, List.nodup_cons.mpr ⟨hn, O.nd⟩, fun b u e hb => ?_, fun b m => ?_, fun b xs e => ?_⟩
    · rcases List.mem_cons.mp m with z | z
      · cases z; exact upd_same
      · rw [upd_ne (ne b u (O.at_ b u z))]; exact O.at_ b u z
    · rw [upd_ne (ne b u (O.fr b u e hb))]; exact O.fr b u e hb
    · rcases List.mem_cons.mp m with z | z
      · exact .inr (by rw [z]; exact h0)
      · exact O.nw b z
    · rw [upd_ne (ne b _ (O.tp b xs e))]; exact O.tp b xs e
/-- a new tuple: it needs no owner -/
theorem Own.newT (O : Own H0 H A cs) (h : H p = none) : Own H0 (upd H p o) A cs :=
  have O' := O.new (o := o) h
  ⟨fun b u m => O'.at_ b u (List.mem_cons_of_mem _ m), O.nd, O'.fr, O.nw, O'.tp⟩
/-- fewer cells -/
theorem Own.drop (O : Own H0 H A cs) (h : List.Sublist cs' cs) : Own H0 H A cs' :=
  ⟨fun b u m => O.at_ b u (h.subset m), O.nd.sublist (h.map _), O.fr, fun b m => O.nw b ((h.map _).subset m), O.tp⟩
theorem Own.perm (O : Own H0 H A cs) (h : cs.Perm cs') : Own H0 H A cs' :=
  ⟨fun b u m => O.at_ b u (h.mem_iff.mpr m), (h.map _).nodup_iff.mp O.nd, O.fr, fun b m => O.nw b ((h.map _).mem_iff.mpr m), O.tp⟩
/-- a block of it, as what a callee is handed -/
theorem Own.blk (O : Own H0 H A cs) (h : Sub cs s s' cs') : Own H H (adr s) s := by
  obtain ⟨l, r, rfl, _⟩ := h.split
  have nd := O.nd
  rw [adr_app, adr_app] at nd
  exact ⟨fun b u m => O.at_ b u (List.mem_append_right _ (List.mem_append_left _ m)), (List.nodup_append.mp (List.nodup_append.mp nd).2.1).1, fun _ _ e _ => e, fun _ m => .inl m, fun _ _ e => e⟩
/-- behind the call -/
theorem Own.call (O : Own H0 H A cs) (h : Sub cs s s' cs') (C : Own H H' (adr s) s') : Own H0 H' A cs' := by
  obtain ⟨l, r, rfl, rfl⟩ := h.split
  have nd := O.nd
  simp only [adr_app] at nd
  obtain ⟨n1, n2, n3⟩ := List.nodup_append.mp nd
  obtain ⟨n4, n5, n6⟩ := List.nodup_append.mp n2
  have out : ∀ b u, ((b, u) ∈ l ∨ (b, u) ∈ r) → H' b = some u := fun b u m => by
    have hb : b ∉ adr s := fun z => by
      rcases m with m | m
      · exact n3 b (List.mem_map.mpr ⟨_, m, rfl⟩) b (List.mem_append_left _ z) rfl
      · exact n6 b z b (List.mem_map.mpr ⟨_, m, rfl⟩) rfl
    refine C.fr b u (O.at_ b u ?_) hb
    rcases m with m | m
    · exact List.mem_append_left _ m
    · exact List.mem_append_right _ (List.mem_append_right _ m)
  have sep : ∀ b, b ∈ adr s' → (b ∈ adr l ∨ b ∈ adr r) → False := fun b m z => by
    obtain ⟨u, hu⟩ : ∃ u, ((b, u) ∈ l ∨ (b, u) ∈ r) := by
      rcases z with z | z
      · obtain ⟨c, hc, e⟩ := List.mem_map.mp z
        exact ⟨c.2, .inl (by rw [← e]; exact hc)⟩
      · obtain ⟨c, hc, e⟩ := List.mem_map.mp z
        exact ⟨c.2, .inr (by rw [← e]; exact hc)⟩
    rcases C.nw b m with q | q
    · rcases z with z | z
      · exact n3 b z b (List.mem_append_left _ q) rfl
      · exact n6 b q b z rfl
    · have e : H b = some u := O.at_ b u (by
        rcases hu with m | m
        · exact List.mem_append_left _ m
        · exact List.mem_append_right _ (List.mem_append_right _ m))
      rw [q] at e
      cases e
  refine ⟨fun b u m => ?_, ?_, fun b u e hb => ?_, fun b m => ?_, fun b xs e => C.tp b xs (O.tp b xs e)⟩
  · rcases List.mem_append.mp m with m | m
    · exact out b u (.inl m)
    · rcases List.mem_append.mp m with m | m
      · exact C.at_ b u m
      · exact out b u (.inr m)
  · simp only [adr_app]
    refine List.nodup_append.mpr ⟨n1, List.nodup_append.mpr ⟨C.nd, n5, fun x hx y hy e => ?_⟩, fun x hx y hy e => ?_⟩
    · subst e
      exact sep x hx (.inr hy)
    · subst e
      rcases List.mem_append.mp hy with z | z
      · exact sep x z (.inl hx)
      · exact n3 x hx x (List.mem_append_right _ z) rfl
  · refine C.fr b u (O.fr b u e hb) fun z => ?_
    rcases O.nw b (by simp only [adr_app]; exact List.mem_append_right _ (List.mem_append_left _ z)) with q | q
    · exact hb q
    · rw [q] at e
      cases e
  · simp only [adr_app] at m
    rcases List.mem_append.mp m with m | m
    · exact O.nw b (by simp only [adr_app]; exact List.mem_append_left _ m)
    · rcases List.mem_append.mp m with m | m
      · rcases C.nw b m with z | z
        · exact O.nw b (by simp only [adr_app]; exact List.mem_append_right _ (List.mem_append_left _ z))
        · by_cases hA : b ∈ A
          · exact .inl hA
          · refine .inr ?_
            cases q : H0 b with
            | none => rfl
            | some u =>
              rw [O.fr b u q hA] at z
              cases z
      · exact O.nw b (by simp only [adr_app]; exact List.mem_append_right _ (List.mem_append_right _ m))
end
end Ow
namespace Ow
open PySem PySem.Spec PyProof.Rows L2
/-! ### where a walk stops -/
structure Box (p : Prop) : Prop where
  out : p
theorem PE.box {X : Cx} {e : Expr} {t : TE} (h : PE X e t) : PE X e (fun σ H Q => t σ H fun v H1 => Box (Q v H1)) :=
  ⟨fun pins s σ H Q I q => thn (h.run pins s σ H _ I q) fun _ _ ⟨x, H1, I1, r1, q1⟩ => ⟨x, H1, I1, r1, q1.out⟩⟩
theorem PA.box {X : Cx} {es : List Expr} {t : TA} (h : PA X es t) : PA X es (fun σ H Q => t σ H fun v H1 => Box (Q v H1)) :=
  ⟨fun pos pins s σ H Q I q => thn (h.run pos pins s σ H _ I q) fun _ _ ⟨x, H1, I1, r1, q1⟩ => ⟨x, H1, I1, r1, q1.out⟩⟩
theorem PI.box {X : Cx} {tg e : Expr} {w : TI} (h : PI X tg e w) : PI X tg e (fun σ H R => w σ H fun J H1 => Box (R J H1)) :=
  ⟨fun pins s σ H R I q => thn (h.run pins s σ H _ I q) fun _ _ h1 => thn h1 fun _ _ ⟨it, fp, tn, J, H', e, I', T, t0, f, r⟩ => ⟨it, fp, tn, J, H', e, I', T, t0, f, r.out⟩⟩
/-- a reading as it stands, not reckoned out -/
def tW (t : TS) : TS := t
theorem PS.box {X : Cx} {st : Stmt} {t : TS} (h : PS X st t) : PS X st (fun D σ H => Box (tW t D σ H)) :=
  ⟨fun pins s σ H D I q => h.run pins s σ H D I q.out⟩
theorem PE.alt {X : Cx} {e : Expr} {t u : TE} (h : PE X e t) (h' : PE X e u) : PE X e (fun σ H Q => t σ H Q ∨ u σ H Q) :=
  ⟨fun pins s σ H Q I q => q.elim (h.run pins s σ H Q I) (h'.run pins s σ H Q I)⟩
/-- a promise that a walk stops at -/
def bx (sp : Sp) : Sp := fun vs H Q E => Box (sp vs H Q E)
/-- of a def that nobody calls: nothing may be asked -/
def spWall : Sp := fun _ _ _ _ => False
/-- a def that may be called: it keeps its promise -/
structure Cee (P : Program) (w : World) (K : PySem.W.Frag) (mg : Str → Option Value) (base : Heap) (k : Nat) (f : Addr) (ps : List Str) (sp : Sp) : Prop where
  kp : PySem.W.keepIn K (.ref f) = true
  fn : ∃ fd, FnOk P w K mg base (L2N.CX P w) k f fd ps (bx sp) ∧ Binds K fd ps []
section
variable {P : Program} {w : World} {K : PySem.W.Frag} {mg : Str → Option Value} {base : Heap}
theorem cee_of {x qual : Str} {params : Arguments} {body : List Stmt} {scope : Scope} {f : Addr} {N ps : List Str} {k : Nat} {sp : Sp} (F : ∃ fd, FunD K x qual params body scope [] [] f fd) (S : FnScope N ps scope)
    (hb : ∀ (kV doc pm : Value) (an : Option Addr) (cdv ct : Value) (us : List Value), us.length = ps.length → bindArgs (PySem.W.fnOf x qual params body scope .none kV doc pm an cdv ct) ⟨us, []⟩ = pure (ps.zip us))
    (len : ∀ vs H Q E, sp vs H Q E → vs.length = ps.length)
    (hbody : ∀ (cdv : Value) (A : Around) (outer : List Env) (s : Shared) (H : Hp) (vs : List V) (Q : VK) (E : XK), Room k (A.deeper (envOfC qual scope s.heap.objs.size f cdv)) → sp vs H Q E →
      ∃ t, PSs (cxOf (L2N.CX P w) P w K mg base N qual scope f cdv A outer s H E) body t ∧ t { nx := fun _ H' => Q .non H', rt := Q } (start N vs) H) : Cee P w K mg base (k + 1) f ps sp := by
  obtain ⟨fd, F⟩ := F
  exact ⟨F.kp, fd, FunD.ok F S (fun vs H Q E h => len vs H Q E h.out) (fun cdv A outer s H vs Q E hr h => hbody cdv A outer s H vs Q E hr h.out), F.bindsN hb⟩
end
section
variable {X : Cx} {k : Nat} {f C : Addr} {ps : List Str} {sp : Sp} {W : WX} {x m : Str} {p pos apos : Pos} {e o : Expr} {es : List Expr} {ta : TE} {t : TA}
theorem pe_f (c : Cee X.prog X.w X.K X.mg X.base k f ps sp) (hr : Room k X.A) (tk : L2N.Takes X W) (hg : Gl X x) (hm : X.mg x = some (.ref f)) (ha : PA X (e :: es) t) (hdb : (x == ("__debug__" : Str)) = false := by decide)
    (he : starEach (e :: es) X.env = (false, eval e X.env) :: starEach es X.env := by rfl) (hpl : (backTo pos (starEach es X.env)).any (·.1) = false := by rfl) :
    PE X (.Call (.Name x p) (e :: es) [] pos) (tCallS (bx sp) (WE W) t) := by
  obtain ⟨fd, F, b⟩ := c.fn
  exact pe_callS F hr hg hm c.kp b (fun σ => L2N.passAt tk σ) ha hdb he hpl
theorem pe_f0 (c : Cee X.prog X.w X.K X.mg X.base k f ps sp) (hr : Room k X.A) (tk : L2N.Takes X W) (hg : Gl X x) (hm : X.mg x = some (.ref f)) (hdb : (x == ("__debug__" : Str)) = false := by decide) :
    PE X (.Call (.Name x p) [] [] pos) (fun σ H Q => bx sp [] H Q (WE W σ)) := by
  obtain ⟨fd, F, b⟩ := c.fn
  refine ⟨fun pins s σ H Q I h => ?_⟩
  refine wpAny_Call_Name_kw (ld_glob I hg hm ?_ hdb)
  exact PySem.W.callWith_K0 I.kIn c.kp (run_fnS (us := []) (E := WE W) F hr b (L2N.passAt tk σ) I .nil h)
/-- o.m(e, ..) -/
def tM (C : Addr) (m : Str) (sp : Sp) (W : WX) (ta : TE) (t : TA) : TE := fun σ H Q => ta σ H fun x H1 => ∃ a dx fs, x = .ref a ∧ H1 a = some (.ins C dx fs) ∧ fs.lookup m = none ∧ t σ H1 fun vs H2 => bx sp (x :: vs) H2 Q (WE W σ)
theorem pe_m {pl : Sem Bool} (ho : PE X o ta) (cl : Cls X.K C) (hm : Meth X.K C m f) (c : Cee X.prog X.w X.K X.mg X.base k f ps sp) (hr : Room k X.A) (tk : L2N.Takes X W) (ha : PA X (e :: es) t)
    (hst : starEach (e :: es) X.env = (false, eval e X.env) :: starEach es X.env := by rfl) (hpl : (backTo pos (starEach es X.env)).any (·.1) = false := by rfl)
    (ht : eval (.Call (.Attribute o m apos) (e :: es) [] pos) X.env = (do
      let ov ← eval o X.env
      standAt apos.atName
      let (f, first) ← holding [ov] (getMethod ov m pl)
      callWith pos f first (backTo pos (starEach (e :: es) X.env)) (backToKw pos (keywordEach [] X.env))) := by rfl) :
    PE X (.Call (.Attribute o m apos) (e :: es) [] pos) (tM C m sp W ta t) := by
  obtain ⟨fd, F, b⟩ := c.fn
  refine ⟨fun pins s σ H Q I h => ?_⟩
  refine PySem.W.methodCall_KW (pl := pl) (thn (ho.run pins s σ H _ I h) fun u s1 ⟨y, H1, I1, ry, a, dx, fs, ey, ea, l, q⟩ => ?_) ht
  subst ey
  obtain rfl : u = Value.ref a := ry
  refine getmeth_ok I1 ea cl hm l ?_
  refine PySem.W.callWith_K (first := [.ref a]) (h₀ := X.base) I.ok.mod.kin hm.kp (thn (ha.run pos pins s1 σ H1 _ I1 q) fun us s2 ⟨vs, H2, I2, rv, q2⟩ => ⟨I2.kIn, ?_⟩) hst hpl
  exact run_fnS (us := .ref a :: us) (vs := .ref a :: vs) (E := WE W) F hr b (L2N.passAt tk σ) I2 (.cons rfl rv) q2
def tM0 (C : Addr) (m : Str) (sp : Sp) (W : WX) (ta : TE) : TE := fun σ H Q => ta σ H fun x H1 => ∃ a dx fs, x = .ref a ∧ H1 a = some (.ins C dx fs) ∧ fs.lookup m = none ∧ bx sp [x] H1 Q (WE W σ)
theorem pe_m0 {pl : Sem Bool} (ho : PE X o ta) (cl : Cls X.K C) (hm : Meth X.K C m f) (c : Cee X.prog X.w X.K X.mg X.base k f ps sp) (hr : Room k X.A) (tk : L2N.Takes X W)
    (ht : eval (.Call (.Attribute o m apos) [] [] pos) X.env = (do
      let ov ← eval o X.env
      standAt apos.atName
      let (f, first) ← holding [ov] (getMethod ov m pl)
      callWith pos f first (backTo pos (starEach [] X.env)) (backToKw pos (keywordEach [] X.env))) := by rfl) :
    PE X (.Call (.Attribute o m apos) [] [] pos) (tM0 C m sp W ta) := by
  obtain ⟨fd, F, b⟩ := c.fn
  refine ⟨fun pins s σ H Q I h => ?_⟩
  refine PySem.W.methodCall_KW (pl := pl) (thn (ho.run pins s σ H _ I h) fun u s1 ⟨y, H1, I1, ry, a, dx, fs, ey, ea, l, q⟩ => ?_) ht
  subst ey
  obtain rfl : u = Value.ref a := ry
  refine getmeth_ok I1 ea cl hm l ?_
  exact PySem.W.callWith_K0 (first := [.ref a]) I1.kIn hm.kp (run_fnS (us := [.ref a]) (vs := [.ref a]) (E := WE W) F hr b (L2N.passAt tk σ) I1 (.cons rfl .nil) q)
/-- C(e, ..): its __init__ lets nothing out -/
theorem pe_n (M : Mk X.K C f) (c : Cee X.prog X.w X.K X.mg X.base k f ps sp) (hr : Room (k + 1) X.A) (hg : Gl X x) (hm : X.mg x = some (.ref C)) (ha : PA X (e :: es) t) (hdb : (x == ("__debug__" : Str)) = false := by decide)
    (he : starEach (e :: es) X.env = (false, eval e X.env) :: starEach es X.env := by rfl) (hpl : (backTo pos (starEach es X.env)).any (·.1) = false := by rfl) :
    PE X (.Call (.Name x p) (e :: es) [] pos) (tMake C (bx sp) [] E0 t) := by
  obtain ⟨fd, F, b⟩ := c.fn
  exact pe_make M F hr hg hm b .nil passLN ha hdb he hpl
theorem pe_n0 (M : Mk X.K C f) (c : Cee X.prog X.w X.K X.mg X.base k f ps sp) (hr : Room (k + 1) X.A) (hg : Gl X x) (hm : X.mg x = some (.ref C)) (hdb : (x == ("__debug__" : Str)) = false := by decide) :
    PE X (.Call (.Name x p) [] [] pos) (tMake C (bx sp) [] E0 tNil) := by
  obtain ⟨fd, F, b⟩ := c.fn
  exact pe_make0 M F hr hg hm b .nil passLN hdb
end
/-! ### what a closer knows -/
theorem sl_of {σ : List (Option V)} {i : Nat} {v : V} (h : σ[i]? = some (some v)) : σ[i]? = some (some v) := h
theorem veq_of {x y : V} (h : x = y) : x = y := h
theorem lsq_of {x y : List V} (h : x = y) : x = y := h
theorem sc_of {x y : V} (h : scal x y = true) : scal x y = true := h
theorem lk_of {fs : List (Str × V)} {f : Str} {v : V} (h : fs.lookup f = some v) : fs.lookup f = some v := h
theorem lkn_of {fs : List (Str × V)} {f : Str} (h : fs.lookup f = none) : fs.lookup f = none := h
theorem lt_of {fs : List (Str × V)} (h : fs.length < 1000) : fs.length < 1000 := h
theorem hp_of {H : Hp} {a : Addr} {o : HO} (h : H a = some o) : H a = some o := h
theorem cd_of {i j : Int} (h : 0 < j ∧ j < 1073741824) : CDiv i j := h
theorem cm_l {i j : Int} (h : -(2 ^ 64) < i ∧ i < 2 ^ 64) : CMul i j := .inl h
theorem cm_r {i j : Int} (h : -(2 ^ 64) < j ∧ j < 2 ^ 64) : CMul i j := .inr h
theorem sz_le {n : Nat} (h : n ≤ 100000) : n ≤ sizeLine := Nat.le_trans h (by decide)
theorem sz_lt {n : Nat} (h : n < 100000) : n < sizeLine := Nat.lt_of_lt_of_le h (by decide)
/-! ### tests -/
theorem if_d {p A B : Prop} [Decidable p] (h1 : p → A) (h2 : ¬ p → B) : if decide p = true then A else B := by
  by_cases h : p
  · rw [if_pos (decide_eq_true h)]; exact h1 h
  · rw [if_neg (by rw [decide_eq_false h]; exact Bool.false_ne_true)]; exact h2 h
theorem if_nd {p A B : Prop} [Decidable p] (h1 : ¬ p → A) (h2 : p → B) : if (!decide p) = true then A else B := by
  by_cases h : p
  · rw [decide_eq_true h, if_neg (by decide)]; exact h2 h
  · rw [decide_eq_false h, if_pos (by decide)]; exact h1 h
theorem if_ii {a b : Int} {A B : Prop} (h1 : a = b → A) (h2 : ¬ a = b → B) : if decide (V.int a = V.int b) = true then A else B :=
  if_d (fun h => h1 (V.int.inj h)) fun h => h2 fun e => h (by rw [e])
theorem if_nii {a b : Int} {A B : Prop} (h1 : ¬ a = b → A) (h2 : a = b → B) : if (!decide (V.int a = V.int b)) = true then A else B :=
  if_nd (fun h => h1 fun e => h (by rw [e])) fun h => h2 (V.int.inj h)
theorem if_ss {a b : Str} {A B : Prop} (h1 : a = b → A) (h2 : ¬ a = b → B) : if decide (V.str a = V.str b) = true then A else B :=
  if_d (fun h => h1 (V.str.inj h)) fun h => h2 fun e => h (by rw [e])
theorem if_nss {a b : Str} {A B : Prop} (h1 : ¬ a = b → A) (h2 : a = b → B) : if (!decide (V.str a = V.str b)) = true then A else B :=
  if_nd (fun h => h1 fun e => h (by rw [e])) fun h => h2 (V.str.inj h)
theorem if_b {b : Bool} {A B : Prop} (h1 : b = true → A) (h2 : b = false → B) : if b = true then A else B := by
  cases b with
  | true => exact h1 rfl
  | false => exact h2 rfl
theorem if_nb {b : Bool} {A B : Prop} (h1 : b = false → A) (h2 : b = true → B) : if (!b) = true then A else B := by
  cases b with
  | true => exact h2 rfl
  | false => exact h1 rfl
theorem kt_int_int {K : PySem.W.Frag} : PySem.W.kitOne K (.type "int") (.type "int") = some true := kit_ty (by decide +kernel)
theorem kt_int_bool {K : PySem.W.Frag} : PySem.W.kitOne K (.type "int") (.type "bool") = some false := kit_ty (by decide +kernel)
theorem kt_int_str {K : PySem.W.Frag} : PySem.W.kitOne K (.type "int") (.type "str") = some false := kit_ty (by decide +kernel)
theorem kt_int_list {K : PySem.W.Frag} : PySem.W.kitOne K (.type "int") (.type "list") = some false := kit_ty (by decide +kernel)
theorem kt_int_tuple {K : PySem.W.Frag} : PySem.W.kitOne K (.type "int") (.type "tuple") = some false := kit_ty (by decide +kernel)
theorem kt_int_dict {K : PySem.W.Frag} : PySem.W.kitOne K (.type "int") (.type "dict") = some false := kit_ty (by decide +kernel)
theorem kt_bool_int {K : PySem.W.Frag} : PySem.W.kitOne K (.type "bool") (.type "int") = some true := kit_ty (by decide +kernel)
theorem kt_bool_bool {K : PySem.W.Frag} : PySem.W.kitOne K (.type "bool") (.type "bool") = some true := kit_ty (by decide +kernel)
theorem kt_bool_str {K : PySem.W.Frag} : PySem.W.kitOne K (.type "bool") (.type "str") = some false := kit_ty (by decide +kernel)
theorem kt_bool_list {K : PySem.W.Frag} : PySem.W.kitOne K (.type "bool") (.type "list") = some false := kit_ty (by decide +kernel)
theorem kt_bool_tuple {K : PySem.W.Frag} : PySem.W.kitOne K (.type "bool") (.type "tuple") = some false := kit_ty (by decide +kernel)
theorem kt_bool_dict {K : PySem.W.Frag} : PySem.W.kitOne K (.type "bool") (.type "dict") = some false := kit_ty (by decide +kernel)
theorem kt_str_int {K : PySem.W.Frag} : PySem.W.kitOne K (.type "str") (.type "int") = some false := kit_ty (by decide +kernel)
theorem kt_str_bool {K : PySem.W.Frag} : PySem.W.kitOne K (.type "str") (.type "bool") = some false := kit_ty (by decide +kernel)
theorem kt_str_str {K : PySem.W.Frag} : PySem.W.kitOne K (.type "str") (.type "str") = some true := kit_ty (by decide +kernel)
theorem kt_str_list {K : PySem.W.Frag} : PySem.W.kitOne K (.type "str") (.type "list") = some false := kit_ty (by decide +kernel)
theorem kt_str_tuple {K : PySem.W.Frag} : PySem.W.kitOne K (.type "str") (.type "tuple") = some false := kit_ty (by decide +kernel)
theorem kt_str_dict {K : PySem.W.Frag} : PySem.W.kitOne K (.type "str") (.type "dict") = some false := kit_ty (by decide +kernel)
theorem kt_list_int {K : PySem.W.Frag} : PySem.W.kitOne K (.type "list") (.type "int") = some false := kit_ty (by decide +kernel)
theorem kt_list_bool {K : PySem.W.Frag} : PySem.W.kitOne K (.type "list") (.type "bool") = some false := kit_ty (by decide +kernel)
theorem kt_list_str {K : PySem.W.Frag} : PySem.W.kitOne K (.type "list") (.type "str") = some false := kit_ty (by decide +kernel)
theorem kt_list_list {K : PySem.W.Frag} : PySem.W.kitOne K (.type "list") (.type "list") = some true := kit_ty (by decide +kernel)
theorem kt_list_tuple {K : PySem.W.Frag} : PySem.W.kitOne K (.type "list") (.type "tuple") = some false := kit_ty (by decide +kernel)
theorem kt_list_dict {K : PySem.W.Frag} : PySem.W.kitOne K (.type "list") (.type "dict") = some false := kit_ty (by decide +kernel)
theorem kt_tuple_int {K : PySem.W.Frag} : PySem.W.kitOne K (.type "tuple") (.type "int") = some false := kit_ty (by decide +kernel)
theorem kt_tuple_bool {K : PySem.W.Frag} : PySem.W.kitOne K (.type "tuple") (.type "bool") = some false := kit_ty (by decide +kernel)
theorem kt_tuple_str {K : PySem.W.Frag} : PySem.W.kitOne K (.type "tuple") (.type "str") = some false := kit_ty (by decide +kernel)
theorem kt_tuple_list {K : PySem.W.Frag} : PySem.W.kitOne K (.type "tuple") (.type "list") = some false := kit_ty (by decide +kernel)
theorem kt_tuple_tuple {K : PySem.W.Frag} : PySem.W.kitOne K (.type "tuple") (.type "tuple") = some true := kit_ty (by decide +kernel)
theorem kt_tuple_dict {K : PySem.W.Frag} : PySem.W.kitOne K (.type "tuple") (.type "dict") = some false := kit_ty (by decide +kernel)
theorem kt_dict_int {K : PySem.W.Frag} : PySem.W.kitOne K (.type "dict") (.type "int") = some false := kit_ty (by decide +kernel)
theorem kt_dict_bool {K : PySem.W.Frag} : PySem.W.kitOne K (.type "dict") (.type "bool") = some false := kit_ty (by decide +kernel)
theorem kt_dict_str {K : PySem.W.Frag} : PySem.W.kitOne K (.type "dict") (.type "str") = some false := kit_ty (by decide +kernel)
theorem kt_dict_list {K : PySem.W.Frag} : PySem.W.kitOne K (.type "dict") (.type "list") = some false := kit_ty (by decide +kernel)
theorem kt_dict_tuple {K : PySem.W.Frag} : PySem.W.kitOne K (.type "dict") (.type "tuple") = some false := kit_ty (by decide +kernel)
theorem kt_dict_dict {K : PySem.W.Frag} : PySem.W.kitOne K (.type "dict") (.type "dict") = some true := kit_ty (by decide +kernel)
theorem kt_NoneType_int {K : PySem.W.Frag} : PySem.W.kitOne K (.type "NoneType") (.type "int") = some false := kit_ty (by decide +kernel)
theorem kt_NoneType_bool {K : PySem.W.Frag} : PySem.W.kitOne K (.type "NoneType") (.type "bool") = some false := kit_ty (by decide +kernel)
theorem kt_NoneType_str {K : PySem.W.Frag} : PySem.W.kitOne K (.type "NoneType") (.type "str") = some false := kit_ty (by decide +kernel)
theorem kt_NoneType_list {K : PySem.W.Frag} : PySem.W.kitOne K (.type "NoneType") (.type "list") = some false := kit_ty (by decide +kernel)
theorem kt_NoneType_tuple {K : PySem.W.Frag} : PySem.W.kitOne K (.type "NoneType") (.type "tuple") = some false := kit_ty (by decide +kernel)
theorem kt_NoneType_dict {K : PySem.W.Frag} : PySem.W.kitOne K (.type "NoneType") (.type "dict") = some false := kit_ty (by decide +kernel)
end Ow
namespace Ow
open PySem PySem.Spec PyProof.Rows L2
def XcIn (K : PySem.W.Frag) (C : Addr) : Prop := PySem.W.excIn K C He.veBase "ValueError.__new__" = true ∧ PySem.W.keepIn K (.ref C) = true ∧ PySem.W.subIn K (.ref C) (.type "BaseException") = some true ∧ PySem.W.typeIn K (.ref C) = some (.type "type")
theorem gI {mg : Str → Option Value} {x : Str} {i : Int} (h : ∃ t, mg x = some (.int i t)) : ∃ u, mg x = some u ∧ RelV (.int i) u := let ⟨t, e⟩ := h; ⟨_, e, t, rfl⟩
theorem gS {mg : Str → Option Value} {x z : Str} (h : ∃ t, mg x = some (.str z t)) : ∃ u, mg x = some u ∧ RelV (.str z) u := let ⟨t, e⟩ := h; ⟨_, e, t, rfl⟩
/-! ### promises by the number of arguments -/
def sp0 (f : Hp → VK → XK → Prop) : Sp := fun vs H Q E => vs = [] ∧ f H Q E
def sp1 (f : V → Hp → VK → XK → Prop) : Sp := fun vs H Q E => ∃ a, vs = [a] ∧ f a H Q E
def sp2 (f : V → V → Hp → VK → XK → Prop) : Sp := fun vs H Q E => ∃ a b, vs = [a, b] ∧ f a b H Q E
def sp3 (f : V → V → V → Hp → VK → XK → Prop) : Sp := fun vs H Q E => ∃ a b c, vs = [a, b, c] ∧ f a b c H Q E
def sp4 (f : V → V → V → V → Hp → VK → XK → Prop) : Sp := fun vs H Q E => ∃ a b c d, vs = [a, b, c, d] ∧ f a b c d H Q E
def sp5 (f : V → V → V → V → V → Hp → VK → XK → Prop) : Sp := fun vs H Q E => ∃ a b c d e, vs = [a, b, c, d, e] ∧ f a b c d e H Q E
section
variable {vs : List V} {H : Hp} {Q : VK} {E : XK} {a b c d e : V}
theorem sp0_len {f} (h : sp0 f vs H Q E) : vs.length = 0 := by obtain ⟨rfl, _⟩ := h; rfl
theorem sp1_len {f} (h : sp1 f vs H Q E) : vs.length = 1 := by obtain ⟨_, rfl, _⟩ := h; rfl
theorem sp2_len {f} (h : sp2 f vs H Q E) : vs.length = 2 := by obtain ⟨_, _, rfl, _⟩ := h; rfl
theorem sp3_len {f} (h : sp3 f vs H Q E) : vs.length = 3 := by obtain ⟨_, _, _, rfl, _⟩ := h; rfl
theorem sp4_len {f} (h : sp4 f vs H Q E) : vs.length = 4 := by obtain ⟨_, _, _, _, rfl, _⟩ := h; rfl
theorem sp5_len {f} (h : sp5 f vs H Q E) : vs.length = 5 := by obtain ⟨_, _, _, _, _, rfl, _⟩ := h; rfl
theorem ask0 {f} (h : f H Q E) : Box (sp0 f [] H Q E) := ⟨rfl, h⟩
theorem ask1 {f} (h : f a H Q E) : Box (sp1 f [a] H Q E) := ⟨_, rfl, h⟩
theorem ask2 {f} (h : f a b H Q E) : Box (sp2 f [a, b] H Q E) := ⟨_, _, rfl, h⟩
theorem ask3 {f} (h : f a b c H Q E) : Box (sp3 f [a, b, c] H Q E) := ⟨_, _, _, rfl, h⟩
theorem ask4 {f} (h : f a b c d H Q E) : Box (sp4 f [a, b, c, d] H Q E) := ⟨_, _, _, _, rfl, h⟩
theorem ask5 {f} (h : f a b c d e H Q E) : Box (sp5 f [a, b, c, d, e] H Q E) := ⟨_, _, _, _, _, rfl, h⟩
end
end Ow
namespace Ow
open PySem PySem.Spec PyProof.Rows L2
theorem pe_gc {X : Cx} {x : Str} {pos : Pos} {v : V} (hg : Gl X x) (hm : ∃ u, X.mg x = some u ∧ RelV v u) (hd : (x == ("__debug__" : Str)) = false := by decide) : PE X (.Name x pos) (tC v) :=
  let ⟨_, e, r⟩ := hm
  pe_glob hg e r hd
end Ow
namespace Ow
open PySem PySem.Spec PyProof.Rows L2
section
variable {H0 H : Hp} {A : List Addr} {cs : Cells} {x dx C : Addr}
/-- a new instance -/
theorem Own.inst (O : Own H0 H A cs) (h1 : H x = none) (h2 : H dx = none) (ne : dx ≠ x) : Own H0 (upd (upd H dx (.own x)) x (.ins C dx [])) A ((x, .ins C dx []) :: cs) :=
  ((O.new (o := .own x) h2).new (o := .ins C dx []) (p := x) (by rw [upd_ne ne.symm]; exact h1)).drop (List.Sublist.cons₂ _ (List.Sublist.cons _ (List.Sublist.refl _)))
theorem Own.last {c : Addr × HO} (O : Own H0 H A (c :: cs)) : Own H0 H A (cs ++ [c]) := O.perm (List.perm_append_singleton c cs).symm
theorem Own.eq {cs' : Cells} (O : Own H0 H A cs) (e : cs = cs') : Own H0 H A cs' := e ▸ O
theorem Own.adr {A' : List Addr} (O : Own H0 H A cs) (e : A = A') : Own H0 H A' cs := e ▸ O
end
/-! ### loops -/
section
variable {K : PySem.W.Frag} {a : Addr} {xs : List V} {g : TG} {tb : TS} {D : Ends} {σ : L2.St} {H : Hp}
theorem forL (Pv : Nat → L2.St → Hp → Prop) (h0 : Pv 0 σ H) (hl : ∀ i σ H, i ≤ xs.length → Pv i σ H → SqL K H a xs)
    (hs : ∀ i x σ H, xs[i]? = some x → Pv i σ H → g x σ H fun σ2 H2 => tb { D with nx := fun σ H => Box (Pv (i + 1) σ H), ct := fun σ H => Box (Pv (i + 1) σ H), bk := D.nx } σ2 H2) (hd : ∀ σ H, Pv xs.length σ H → D.nx σ H) :
    Box (∃ W : Nat → Nat → L2.St → Hp → Prop, (∃ m, W 0 m σ H) ∧ ∀ i m σ H, W i m σ H →
      ((Itl K a).stop i H ∧ D.nx σ H) ∨ ((Itl K a).go i H ∧ ∃ N : L2.St → Hp → Prop, (∀ σ' H', N σ' H' → ∃ m', m' < m ∧ W (i + 1) m' σ' H') ∧ ∀ x H', (Itl K a).yld i H x H' → g x σ H' fun σ2 H2 => tb { D with nx := N, ct := N, bk := D.nx } σ2 H2)) :=
  ⟨for_list (fun i σ H => Box (Pv i σ H)) ⟨h0⟩ (fun i σ H hi p => hl i σ H hi p.out) (fun i x σ H hx p => hs i x σ H hx p.out) (fun σ H p => hd σ H p.out)⟩
theorem forT (Pv : Nat → L2.St → Hp → Prop) (h0 : Pv 0 σ H) (hl : ∀ i σ H, i ≤ xs.length → Pv i σ H → SqT K H a xs)
    (hs : ∀ i x σ H, xs[i]? = some x → Pv i σ H → g x σ H fun σ2 H2 => tb { D with nx := fun σ H => Box (Pv (i + 1) σ H), ct := fun σ H => Box (Pv (i + 1) σ H), bk := D.nx } σ2 H2) (hd : ∀ σ H, Pv xs.length σ H → D.nx σ H) :
    Box (∃ W : Nat → Nat → L2.St → Hp → Prop, (∃ m, W 0 m σ H) ∧ ∀ i m σ H, W i m σ H →
      ((Itt K a).stop i H ∧ D.nx σ H) ∨ ((Itt K a).go i H ∧ ∃ N : L2.St → Hp → Prop, (∀ σ' H', N σ' H' → ∃ m', m' < m ∧ W (i + 1) m' σ' H') ∧ ∀ x H', (Itt K a).yld i H x H' → g x σ H' fun σ2 H2 => tb { D with nx := N, ct := N, bk := D.nx } σ2 H2)) :=
  ⟨for_tup (fun i σ H => Box (Pv i σ H)) ⟨h0⟩ (fun i σ H hi p => hl i σ H hi p.out) (fun i x σ H hx p => hs i x σ H hx p.out) (fun σ H p => hd σ H p.out)⟩
theorem forR {lo : Int} {n : Nat} (Pv : Nat → L2.St → Hp → Prop) (h0 : Pv 0 σ H)
    (hs : ∀ i σ H, i < n → Pv i σ H → g (.int (lo + i)) σ H fun σ2 H2 => tb { D with nx := fun σ H => Box (Pv (i + 1) σ H), ct := fun σ H => Box (Pv (i + 1) σ H), bk := D.nx } σ2 H2) (hd : ∀ σ H, Pv n σ H → D.nx σ H) :
    Box (∃ W : Nat → Nat → L2.St → Hp → Prop, (∃ m, W 0 m σ H) ∧ ∀ i m σ H, W i m σ H →
      ((Itr lo n).stop i H ∧ D.nx σ H) ∨ ((Itr lo n).go i H ∧ ∃ N : L2.St → Hp → Prop, (∀ σ' H', N σ' H' → ∃ m', m' < m ∧ W (i + 1) m' σ' H') ∧ ∀ x H', (Itr lo n).yld i H x H' → g x σ H' fun σ2 H2 => tb { D with nx := N, ct := N, bk := D.nx } σ2 H2)) :=
  ⟨for_range (fun i σ H => Box (Pv i σ H)) ⟨h0⟩ (fun i σ H hi p => hs i σ H hi p.out) (fun σ H p => hd σ H p.out)⟩
theorem forC {lo c : Int} {n : Nat} (Pv : Nat → L2.St → Hp → Prop) (h0 : Pv 0 σ H)
    (hs : ∀ i σ H, i < n → Pv i σ H → g (.int (lo + (i : Nat) * c)) σ H fun σ2 H2 => tb { D with nx := fun σ H => Box (Pv (i + 1) σ H), ct := fun σ H => Box (Pv (i + 1) σ H), bk := D.nx } σ2 H2) (hd : ∀ σ H, Pv n σ H → D.nx σ H) :
    Box (∃ W : Nat → Nat → L2.St → Hp → Prop, (∃ m, W 0 m σ H) ∧ ∀ i m σ H, W i m σ H →
      ((Itc lo c n).stop i H ∧ D.nx σ H) ∨ ((Itc lo c n).go i H ∧ ∃ N : L2.St → Hp → Prop, (∀ σ' H', N σ' H' → ∃ m', m' < m ∧ W (i + 1) m' σ' H') ∧ ∀ x H', (Itc lo c n).yld i H x H' → g x σ H' fun σ2 H2 => tb { D with nx := N, ct := N, bk := D.nx } σ2 H2)) :=
  ⟨for_rangeC (fun i σ H => Box (Pv i σ H)) ⟨h0⟩ (fun i σ H hi p => hs i σ H hi p.out) (fun σ H p => hd σ H p.out)⟩
/-- a while, by a word with its measure -/
theorem whI {c : TT} (W : Nat → L2.St → Hp → Prop) (m0 : Nat) (h0 : W m0 σ H) (hs : ∀ m σ H, W m σ H → c σ H fun b H1 => if b = true then ∃ N : L2.St → Hp → Prop, (∀ σ' H', N σ' H' → ∃ m', m' < m ∧ W m' σ' H') ∧ tb { D with nx := N, ct := N, bk := D.nx } σ H1 else D.nx σ H1) :
    Box (tWhile c tb D σ H) := ⟨W, ⟨m0, h0⟩, hs⟩
theorem whN {W : Nat → L2.St → Hp → Prop} {m : Nat} (h : tb { D with nx := fun σ' H' => Box (∃ m', m' < m ∧ W m' σ' H'), ct := fun σ' H' => Box (∃ m', m' < m ∧ W m' σ' H'), bk := D.nx } σ H) :
    ∃ N : L2.St → Hp → Prop, (∀ σ' H', N σ' H' → ∃ m', m' < m ∧ W m' σ' H') ∧ tb { D with nx := N, ct := N, bk := D.nx } σ H := ⟨_, fun _ _ h => h.out, h⟩
end
end Ow
namespace Ow
open PySem PySem.Spec PyProof.Rows L2
theorem if_t {b : Bool} {A B : Prop} (h : b = true) (k : A) : if b = true then A else B := by rw [if_pos h]; exact k
theorem if_f {b : Bool} {A B : Prop} (h : b = false) (k : B) : if b = true then A else B := by rw [if_neg (by rw [h]; exact Bool.false_ne_true)]; exact k
end Ow
namespace Ow
open PySem PySem.Spec PyProof.Rows L2
theorem dget_v {H : Hp} {a : Addr} {kvs : List (Key × V)} {k : Key} {v : V} (h : H a = some (.dK kvs)) (e : valV kvs k = some v) : DGet H a (kV k) (some v) := e ▸ DGet.k h
end Ow
namespace Ow
open PySem PySem.Spec PyProof.Rows L2
theorem kl {i : Int} : V.int i = kV (Sum.inl i) := rfl
theorem kr {z : Str} : V.str z = kV (Sum.inr z) := rfl
end Ow
namespace Ow
open PySem PySem.Spec PyProof.Rows L2
/-! ### lists of whole numbers, compared -/
section
variable {K : PySem.W.Frag} {H : Hp} {a b : Addr}
theorem dpa_ints : ∀ ns : List Int, DpAll K H (ns.map V.int) (ns.map PyData.int)
  | [] => .nil
  | n :: r => .cons (.int n) (dpa_ints r)
theorem dp_ints {ns : List Int} (h : H a = some (.lst (ns.map V.int))) : Dp K H (.ref a) (.list (ns.map PyData.int)) := .lst (SqL.of h) (dpa_ints ns)
theorem depth_ints : ∀ ns : List Int, PyData.depthAll (ns.map PyData.int) ≤ 1
  | [] => by simp [PyData.depthAll]
  | n :: r => by
    have := depth_ints r
    simp only [List.map_cons, PyData.depthAll, PyData.depth]
    omega
theorem lay_ints : ∀ ns : List Int, PyData.canLayAll0 (ns.map PyData.int) = true
  | [] => by simp [PyData.canLayAll0]
  | n :: r => by simp [PyData.canLayAll0, PyData.canLay0, lay_ints r]
theorem sh_ints (ns : List Int) : SeqAt.shaped (.list (ns.map PyData.int)) = true := by
  have h1 := depth_ints ns
  have h2 : PyData.depth (.list (ns.map PyData.int)) ≤ 64 := by
    simp only [PyData.depth]
    omega
  show (PyData.canLay0 (.list (ns.map PyData.int)) && decide (PyData.depth (.list (ns.map PyData.int)) ≤ 64)) = true
  rw [Bool.and_eq_true]
  exact ⟨by simp only [PyData.canLay0]; exact lay_ints ns, decide_eq_true h2⟩
theorem dist_ints : ∀ ns ms : List Int, PyData.eqvAll (ns.map PyData.int) (ms.map PyData.int) = decide (ns = ms)
  | [], [] => rfl
  | [], _ :: _ => rfl
  | _ :: _, [] => rfl
  | n :: r, m :: q => by
    rw [List.map_cons, List.map_cons, PyData.eqvAll, dist_ints r q]
    show ((n == m) && _) = _
    by_cases h : n = m
    · subst h; simp
    · rw [decide_eq_false (fun e => h (List.cons.inj e).1)]; simp [h]
theorem eqv_ints (ns ms : List Int) : PyData.eqv (.list (ns.map PyData.int)) (.list (ms.map PyData.int)) = decide (ns = ms) := dist_ints ns ms
/-- two rows of whole numbers, compared -/
theorem eq_ints {ns ms : List Int} {Q : VK} (ha : H a = some (.lst (ns.map V.int))) (hb : H b = some (.lst (ms.map V.int))) (k : Q (.bl (decide (ns = ms))) H) : rEqD K (.ref a) (.ref b) H Q :=
  ⟨_, _, dp_ints ha, dp_ints hb, sh_ints ns, sh_ints ms, by rw [eqv_ints]; exact k⟩
theorem ne_ints {ns ms : List Int} {Q : VK} (ha : H a = some (.lst (ns.map V.int))) (hb : H b = some (.lst (ms.map V.int))) (k : Q (.bl (!decide (ns = ms))) H) : rNeD K (.ref a) (.ref b) H Q :=
  ⟨_, _, dp_ints ha, dp_ints hb, sh_ints ns, sh_ints ms, by rw [eqv_ints]; exact k⟩
end
end Ow
namespace Ow
open PySem PySem.Spec PyProof.Rows L2
/-! ### the closers' own lemmas: head first -/
section
variable {K : PySem.W.Frag} {H0 H : Hp} {A : List Addr} {cs cs' : Cells} {a p : Addr} {o o' : HO} {xs : List V}
theorem Own.wr2 (O : Own H0 H A cs) (h : At cs a o o' cs') (n : isTup o = false) : Own H0 (upd H a o') A cs' := O.wr h n
theorem col_ex (h : H a = some (.lst xs)) : ∃ xs, SqL K H a xs := ⟨_, SqL.of h⟩
theorem col_ol {p : Prop} (h : H a = some (.lst xs)) : SqL K H a xs ∨ p := .inl (SqL.of h)
theorem col_or {p : Prop} (h : H a = some (.tup xs)) : p ∨ SqT K H a xs := .inr (SqT.of h)
theorem dget_ii {kvs : List (Key × V)} {i : Int} {v : V} (h : H a = some (.dK kvs)) (e : valV kvs (Sum.inl i) = some v) : DGet H a (.int i) (some v) := dget_v (k := Sum.inl i) h e
theorem dget_is {kvs : List (Key × V)} {i : Str} {v : V} (h : H a = some (.dK kvs)) (e : valV kvs (Sum.inr i) = some v) : DGet H a (.str i) (some v) := dget_v (k := Sum.inr i) h e
theorem dget_i {kvs : List (Key × V)} {i : Int} (h : H a = some (.dK kvs)) : DGet H a (.int i) (valV kvs (Sum.inl i)) := DGet.k (k := Sum.inl i) h
theorem dget_s {kvs : List (Key × V)} {i : Str} (h : H a = some (.dK kvs)) : DGet H a (.str i) (valV kvs (Sum.inr i)) := DGet.k (k := Sum.inr i) h
theorem dput_i {kvs : List (Key × V)} {i : Int} {v : V} (h : H a = some (.dK kvs)) (hl : kvs.length < 100000) : DPut H a (.int i) v (upd H a (.dK (putK kvs (Sum.inl i) v))) := DPut.k (k := Sum.inl i) h (sz_lt hl)
theorem dput_s {kvs : List (Key × V)} {i : Str} {v : V} (h : H a = some (.dK kvs)) (hl : kvs.length < 100000) : DPut H a (.str i) v (upd H a (.dK (putK kvs (Sum.inr i) v))) := DPut.k (k := Sum.inr i) h (sz_lt hl)
theorem isd_k {kvs : List (Key × V)} (h : H a = some (.dK kvs)) : IsD H a := Or.inl ⟨_, Or.inl h⟩
theorem wp_of {x y : List (Option V)} (h : x = y) : x = y := h
theorem ln_of {x y : Nat} (h : x = y) : x = y := h
theorem pos_of {m : Int} (h : 0 < m) : 0 < m := h
end
end Ow
namespace Ow
open PySem PySem.Spec PyProof.Rows L2
/-! ### items -/
theorem at_int {α : Type} {xs : List α} {n : Int} (h0 : 0 ≤ n) (h1 : n < (xs.length : Int)) : ∃ y, xs[n.toNat]? = some y ∧ atI xs n = some y := by
  have hj : n.toNat < xs.length := by omega
  refine ⟨xs[n.toNat], List.getElem?_eq_getElem hj, ?_⟩
  have := atI_nat (List.getElem?_eq_getElem hj)
  rwa [Int.toNat_of_nonneg h0] at this
theorem map_get {l : List Int} {i : Nat} {x : V} (h : (l.map V.int)[i]? = some x) : ∃ y, l[i]? = some y ∧ x = V.int y := by
  rw [List.getElem?_map] at h
  cases e : l[i]? with
  | none => rw [e] at h; cases h
  | some y => rw [e] at h; exact ⟨y, rfl, (Option.some.inj h).symm⟩
theorem at_ints {ns : List Int} {n : Int} (h0 : 0 ≤ n) (h1 : n < ((ns.map V.int).length : Int)) : ∃ y, ns[n.toNat]? = some y ∧ atI (ns.map V.int) n = some (V.int y) := by
  obtain ⟨y, h2, h3⟩ := at_int h0 h1
  obtain ⟨z, h4, rfl⟩ := map_get h2
  exact ⟨z, h4, h3⟩
end Ow
namespace Ow
open PySem PySem.Spec PyProof.Rows L2
theorem Own.fr0 {H0 H : Hp} {cs : Cells} {b : Addr} {o : HO} (O : Own H0 H [] cs) (h : H0 b = some o) : H b = some o := O.fr b o h (by simp)
/-! ### comprehensions -/
section
variable {K : PySem.W.Frag} {a : Addr} {xs : List V} {g : TG} {tt : TT} {te : TE} {vs : List Nat} {σ : L2.St} {H1 : Hp} {Q : Addr → Hp → Prop} {lo : Int} {n : Nat}
theorem lcR (Pv : Addr → Nat → Hp → Prop) (h0 : ∀ D, H1 D = none → Pv D 0 (upd H1 D (.lst [])))
    (hs : ∀ D i H, i < n → Pv D i H → g (.int (lo + i)) (wipe σ vs) H fun σ2 H2 => wipe σ2 vs = wipe σ vs ∧ tt σ2 H2 fun b H3 =>
      if b = true then te σ2 H3 fun y H4 => ∃ acc, H4 D = some (.lst acc) ∧ acc.length < sizeLine ∧ Box (Pv D (i + 1) (upd H4 D (.lst (acc ++ [y])))) else Box (Pv D (i + 1) H3)) (hd : ∀ D H, Pv D n H → Q D H) :
    Box (∀ D, H1 D = none → ∃ W : Nat → Nat → Hp → Prop, (∃ m, W 0 m (upd H1 D (.lst []))) ∧ ∀ i m H, W i m H →
      ((Itr lo n).stop i H ∧ Q D H) ∨ ((Itr lo n).go i H ∧ ∃ Nx : Hp → Prop, (∀ H', Nx H' → ∃ m', m' < m ∧ W (i + 1) m' H') ∧ ∀ x H', (Itr lo n).yld i H x H' → g x (wipe σ vs) H' fun σ2 H2 => wipe σ2 vs = wipe σ vs ∧ tt σ2 H2 fun b H3 =>
        if b = true then te σ2 H3 fun y H4 => ∃ acc, H4 D = some (.lst acc) ∧ acc.length < sizeLine ∧ Nx (upd H4 D (.lst (acc ++ [y]))) else Nx H3)) :=
  ⟨fun D hD => lc_range (fun i H => Box (Pv D i H)) ⟨h0 D hD⟩ (fun i H hi p => hs D i H hi p.out) (fun H p => hd D H p.out)⟩
theorem lcL (Pv : Addr → Nat → Hp → Prop) (h0 : ∀ D, H1 D = none → Pv D 0 (upd H1 D (.lst []))) (hl : ∀ D i H, i ≤ xs.length → Pv D i H → SqL K H a xs)
    (hs : ∀ D i x H, xs[i]? = some x → Pv D i H → g x (wipe σ vs) H fun σ2 H2 => wipe σ2 vs = wipe σ vs ∧ tt σ2 H2 fun b H3 =>
      if b = true then te σ2 H3 fun y H4 => ∃ acc, H4 D = some (.lst acc) ∧ acc.length < sizeLine ∧ Box (Pv D (i + 1) (upd H4 D (.lst (acc ++ [y])))) else Box (Pv D (i + 1) H3)) (hd : ∀ D H, Pv D xs.length H → Q D H) :
    Box (∀ D, H1 D = none → ∃ W : Nat → Nat → Hp → Prop, (∃ m, W 0 m (upd H1 D (.lst []))) ∧ ∀ i m H, W i m H →
      ((Itl K a).stop i H ∧ Q D H) ∨ ((Itl K a).go i H ∧ ∃ Nx : Hp → Prop, (∀ H', Nx H' → ∃ m', m' < m ∧ W (i + 1) m' H') ∧ ∀ x H', (Itl K a).yld i H x H' → g x (wipe σ vs) H' fun σ2 H2 => wipe σ2 vs = wipe σ vs ∧ tt σ2 H2 fun b H3 =>
        if b = true then te σ2 H3 fun y H4 => ∃ acc, H4 D = some (.lst acc) ∧ acc.length < sizeLine ∧ Nx (upd H4 D (.lst (acc ++ [y]))) else Nx H3)) :=
  ⟨fun D hD => lc_list (fun i H => Box (Pv D i H)) ⟨h0 D hD⟩ (fun i H hi p => hl D i H hi p.out) (fun i x H hx p => hs D i x H hx p.out) (fun H p => hd D H p.out)⟩
theorem lcT (Pv : Addr → Nat → Hp → Prop) (h0 : ∀ D, H1 D = none → Pv D 0 (upd H1 D (.lst []))) (hl : ∀ D i H, i ≤ xs.length → Pv D i H → SqT K H a xs)
    (hs : ∀ D i x H, xs[i]? = some x → Pv D i H → g x (wipe σ vs) H fun σ2 H2 => wipe σ2 vs = wipe σ vs ∧ tt σ2 H2 fun b H3 =>
      if b = true then te σ2 H3 fun y H4 => ∃ acc, H4 D = some (.lst acc) ∧ acc.length < sizeLine ∧ Box (Pv D (i + 1) (upd H4 D (.lst (acc ++ [y])))) else Box (Pv D (i + 1) H3)) (hd : ∀ D H, Pv D xs.length H → Q D H) :
    Box (∀ D, H1 D = none → ∃ W : Nat → Nat → Hp → Prop, (∃ m, W 0 m (upd H1 D (.lst []))) ∧ ∀ i m H, W i m H →
      ((Itt K a).stop i H ∧ Q D H) ∨ ((Itt K a).go i H ∧ ∃ Nx : Hp → Prop, (∀ H', Nx H' → ∃ m', m' < m ∧ W (i + 1) m' H') ∧ ∀ x H', (Itt K a).yld i H x H' → g x (wipe σ vs) H' fun σ2 H2 => wipe σ2 vs = wipe σ vs ∧ tt σ2 H2 fun b H3 =>
        if b = true then te σ2 H3 fun y H4 => ∃ acc, H4 D = some (.lst acc) ∧ acc.length < sizeLine ∧ Nx (upd H4 D (.lst (acc ++ [y]))) else Nx H3)) :=
  ⟨fun D hD => lc_tup (fun i H => Box (Pv D i H)) ⟨h0 D hD⟩ (fun i H hi p => hl D i H hi p.out) (fun i x H hx p => hs D i x H hx p.out) (fun H p => hd D H p.out)⟩
end
end Ow
namespace Ow
open PySem PySem.Spec PyProof.Rows L2
theorem cutV_sub (xs : List V) (lo hi : Option Int) {x : V} (h : x ∈ cutV xs lo hi) : x ∈ xs := List.mem_of_mem_drop (List.mem_of_mem_take h)
theorem cut_ints {xs : List Int} {lo hi : Option Int} {i : Nat} {x : V} (h : (cutV (xs.map V.int) lo hi)[i]? = some x) : ∃ y, x = V.int y := by
  obtain ⟨y, _, e⟩ := List.mem_map.mp (cutV_sub _ _ _ (List.mem_of_getElem? h))
  exact ⟨y, e.symm⟩
theorem cutV_take (xs : List V) (n : Nat) : (cutV xs none (some (n : Int))).length ≤ n := by
  unfold cutV
  rw [List.length_take]
  have : HT.sIx xs.length xs.length (some (n : Int)) ≤ n := by
    rw [HT.sIx_nat]
    omega
  omega
end Ow
namespace Ow
open PySem PySem.Spec PyProof.Rows L2
/-! ### where two ways meet -/
theorem cutT {c : TT} {σ : L2.St} {H : Hp} {post : Bool → Hp → Prop} (R : Bool → Hp → Prop) (h : ∀ post' : Bool → Hp → Prop, (∀ b H', R b H' → post' b H') → c σ H post') (k : ∀ b H', R b H' → post b H') : c σ H post := h post k
theorem cutI {c : TT} {a b : TS} {D : Ends} {σ : L2.St} {H : Hp} (R : Bool → Hp → Prop) (h : ∀ post' : Bool → Hp → Prop, (∀ b H', R b H' → post' b H') → c σ H post') (k : ∀ bb H', R bb H' → if bb = true then a D σ H' else b D σ H') : tIfS c a b D σ H := h _ k
theorem cutS {t : TS} {D : Ends} {σ : L2.St} {H : Hp} (R : L2.St → Hp → Prop) (h : ∀ nx' : L2.St → Hp → Prop, (∀ σ' H', R σ' H' → nx' σ' H') → t { D with nx := nx' } σ H) (k : ∀ σ' H', R σ' H' → D.nx σ' H') : Box (t D σ H) := ⟨h D.nx k⟩
end Ow
namespace Ow
open L2 in
theorem rg_mk {lo hi c : Int} (n : Nat) (h : (c ≠ 0 ∧ c.natAbs < 1073741824 ∧ PySem.Builtin.Range.small lo hi c = true ∧ PySem.Builtin.Range.rangeSize lo hi c = n) := by decide +kernel) : RgC lo hi c n := h
open L2 in
theorem Own.self {H0 H : Hp} {A : List PySem.Addr} {cs : Cells} (O : Own H0 H A cs) : Own H H (Ow.adr cs) cs := O.blk (s' := []) (cs' := []) .all
end Ow
namespace Ow
open L2 in
/-- behind a call that was handed nothing -/
theorem Own.callN {H0 H H' : Hp} {A : List PySem.Addr} {cs s' : Cells} (O : Own H0 H A cs) (C : Own H H' [] s') : Own H0 H' A (s' ++ cs) := O.call (s := []) .nil C
end Ow
namespace Ow
open PySem PySem.Spec PyProof.Rows L2
/-! ### what stands outside: the script -/
section
variable {K : PySem.W.Frag} {H0 H : Hp} {A : List Addr} {cs : Cells} {a : Addr} {xs : List V}
theorem Own.sq (O : Own H0 H [] cs) (h : SqL K H0 a xs) : SqL K H a xs := by
  rcases h with (h | ⟨o, h⟩) | h
  · exact .inl (.inl (O.fr0 h))
  · exact .inl (.inr ⟨o, O.fr0 h⟩)
  · exact .inr h
theorem Own.sqT (O : Own H0 H A cs) (h : SqT K H0 a xs) (hf : ∀ o, H0 a = some (.frz o (.tup xs)) → a ∉ A) : SqT K H a xs := by
  rcases h with (h | ⟨o, h⟩) | h
  · exact .inl (.inl (O.tup h))
  · exact .inl (.inr ⟨o, O.fr _ _ h (hf o h)⟩)
  · exact .inr h
theorem col_ex2 (h : SqL K H a xs) : ∃ xs, SqL K H a xs := ⟨_, h⟩
theorem col_ol2 {p : Prop} (h : SqL K H a xs) : SqL K H a xs ∨ p := .inl h
theorem col_or2 {p : Prop} (h : SqT K H a xs) : p ∨ SqT K H a xs := .inr h
end
end Ow
namespace Ow
open PySem PySem.Spec PyProof.Rows L2
/-! ### the end -/
theorem cx_no {P : Program} {w : World} {H : Hp} {s : Shared} {e : Value} {s' : Shared} (h : L2N.CX P w [] H s (fun _ _ _ => False) e s') : False := by
  obtain ⟨_, _, _, _, _, _, _, _, _, _, _, _, h⟩ := h
  exact h
theorem walk_end {l : PySem.W.OpenLaw} {n k : Nat} {q : Program} {loose : List Str} {XP : (Str → Option Value) → Heap → Prop} {YP : World → Heap → Prop} {d : DefRec} {x : Str}
    (hn : l.most = some n) (hn2 : n ≤ sizeLine) (hdf : d.params.defaults = []) (hr : Room k callerA)
    (F : ∀ (w : World) (mg : Str → Option Value) (fa : Addr) (h : Heap), YP w h → h.Ns mainGlobals mg → mg d.name = some (.ref fa) →
      ∃ (K : PySem.W.Frag) (fd : FuncData) (sp : Sp), K.In h ∧ (∀ (s : Shared) (u : Value), BindsTo s fd ⟨[u], []⟩ [(x, u)]) ∧
        (∀ (H : Hp) (a : Addr) (ns : List Int), ns.length ≤ n → (∀ z ∈ ns, Builtin.Int.intBits z ≤ 1048576) → SqL K H a (ns.map V.int) → sp [.ref a] H (fun v _ => v = .bl true) fun _ _ _ => False) ∧
        ∀ base : Heap, K.In base → base.Ns mainGlobals mg → FnOk l.prog w K mg base (L2N.CX l.prog w) k fa fd [x] sp) :
    PySem.W.WalkO q loose XP YP l.row.toRowW d [] (fun f vs => PySem.call f vs) := by
  refine Att.attach_callB hn hdf fun w s₀ s₁ mg mb fa o pm cd doc a vs ns G Y ho hd hcd hmg hobj hints hlen hbits hg => ?_
  obtain ⟨K, fd, sp, KX, hb, hsp, hF⟩ := F w mg fa _ Y G.T.g hmg
  exact law_call KX G.T.g G.T.b G.T.builtins G.T.nolimit hg hobj hints (Nat.le_trans hlen hn2) hr hF hb (fun H _ hS => hsp H a ns hlen hbits hS) fun _ _ _ h => cx_no h
theorem fn_of {P : Program} {w : World} {K : PySem.W.Frag} {mg : Str → Option Value} {base : Heap} {x qual : Str} {params : Arguments} {body : List Stmt} {scope : Scope} {f : Addr} {fd : FuncData} {N ps : List Str} {k : Nat} {sp : Sp} (F : FunD K x qual params body scope [] [] f fd) (S : FnScope N ps scope)
    (len : ∀ vs H Q E, sp vs H Q E → vs.length = ps.length)
    (hbody : ∀ (cdv : Value) (A : Around) (outer : List Env) (s : Shared) (H : Hp) (vs : List V) (Q : VK) (E : XK), Room k (A.deeper (envOfC qual scope s.heap.objs.size f cdv)) → sp vs H Q E →
      ∃ t, PSs (cxOf (L2N.CX P w) P w K mg base N qual scope f cdv A outer s H E) body t ∧ t { nx := fun _ H' => Q .non H', rt := Q } (start N vs) H) : FnOk P w K mg base (L2N.CX P w) (k + 1) f fd ps (bx sp) :=
  FunD.ok F S (fun vs H Q E h => len vs H Q E h.out) (fun cdv A outer s H vs Q E hr h => hbody cdv A outer s H vs Q E hr h.out)
end Ow
namespace Ow
open PySem PySem.Spec PyProof.Rows L2
/-! ### an exception that is held: known, in the suite and beyond it -/
theorem zc_of {cls : Value} {d : Option Addr} {o : Obj} (h : L2N.Zn cls d o) : o.cls = cls ∧ o.dict = d := ⟨h.1, by first | exact h.2 | exact h.2.1⟩
/-- an exception object at a, of the class cls, its dict d -/
def CxO (cls : Value) (d : Option Addr) (a : Addr) : HO := .ext fun h => ∃ (o : Obj) (vs : Array Value), h.get? a = some o ∧ L2N.Zn cls d o ∧ o.data = .fields vs
section
variable {X : Cx} {pins : List (Addr × Obj)} {σ : L2.St} {H : Hp} {s : Shared} {a : Addr} {cls : Value} {d : Option Addr} {o : Obj} {vs : Array Value}
theorem hold_ok (I : Inv X pins σ H s) (e : s.heap.get? a = some o) (z : L2N.Zn cls d o) (dt : o.data = .fields vs) (na : H a = none) (n0 : X.s_0.heap.get? a = none) (nL : a ≠ X.env.locals) (np : ∀ p ∈ X.pn ++ pins, p.1 ≠ a) :
    Inv X pins σ (upd H a (CxO cls d a)) s := by
  have sk : ∀ {b : Addr} {u : HO}, H b = some u → upd H a (CxO cls d a) b = some u := fun {b u} q => by
    rw [upd_ne (fun w => by rw [w, na] at q; cases q)]
    exact q
  have nk : ∀ {b : Addr}, b ≠ a → H b = none → upd H a (CxO cls d a) b = none := fun {b} q r => by
    rw [upd_ne q]
    exact r
  refine ⟨I.ok, I.os, I.bare, ⟨I.base.keep, I.base.slot, fun b u q1 q2 q3 => nk (fun w => by rw [w, n0] at q1; cases q1) (I.base.free b u q1 q2 q3), I.base.there, fun b xs q => sk (I.base.tups b xs q), fun b o' u q => sk (I.base.frzs b o' u q), fun b ps q => ?_⟩, I.loc, I.cell, nk (Ne.symm nL) I.free, fun x c q => nk (fun w => ?_) (I.freeC x c q), fun p hp => ?_, HOk.laidN I.hok (fun _ _ w => w) na ⟨⟨o, vs, e, z, dt⟩, ⟨o, e⟩, fun _ _ ⟨o2, v2, q, r⟩ k => ⟨o2, v2, k o2 q, r⟩⟩, I.len⟩
  · obtain ⟨m, r⟩ := I.base.tbls b ps q
    exact ⟨m, sk r⟩
  · subst w
    obtain ⟨v, oc, ho, hd⟩ := I.cell x c q
    rw [e] at ho
    cases ho
    rw [dt] at hd
    cases hd
  · obtain ⟨p1, p2, p3, p4, p5⟩ := I.pin p hp
    exact ⟨p1, nk (np p hp) p2, p3, p4, p5⟩
theorem suite_in {b : Addr} (I : Inv X pins σ H s) : Inv (X.suite b (X.pn ++ pins)) [] σ H s :=
  ⟨I.ok.suite _ _, I.os, I.bare, I.base, I.loc, I.cell, I.free, I.freeC, fun p hp => I.pin p ((List.append_nil (X.pn ++ pins)) ▸ hp), I.hok, I.len⟩
theorem suite_out {b : Addr} (I : Inv (X.suite b (X.pn ++ pins)) [] σ H s) (ok : X.Ok) : Inv X pins σ H s :=
  ⟨ok, I.os, I.bare, I.base, I.loc, I.cell, I.free, I.freeC, fun p hp => I.pin p ((List.append_nil (X.pn ++ pins)).symm ▸ hp), I.hok, I.len⟩
end
/-- the wish of a try whose suite may keep the exception -/
def wHold (K : PySem.W.Frag) (c : Value) (i : Nat) (ts : Addr → TS) (Wout : WX) (D : Ends) : WX := fun cls d σ H =>
  ∃ b, PySem.W.exmOne K cls c = some b ∧ (b = true → ∀ a, H a = none → ts a { nx := fun τ G => D.nx (τ.set i none) G, rt := D.rt, bk := fun τ G => D.bk (τ.set i none) G, ct := fun τ G => D.ct (τ.set i none) G } (σ.set i (some (.ref a))) (upd H a (CxO cls d a))) ∧ (b = false → Wout cls d σ H)
section
variable {X : Cx} {x n : Str} {c : Value} {i : Nat} {body suite : List Stmt} {b₀ : Stmt} {np pos pos' : Pos} {tb : WX → TS} {ts : Addr → TS} {Wout : WX}
theorem ps_tryX (hs : X.stack = X.env :: X.outer) (hf : X.env.frame = some X.env.locals) (hx : X.ex = []) (hN : X.N.Nodup) (hi : X.N[i]? = some n) (hln : X.env.kindOf n = some .local) (hc : Names X x c) (tk : L2N.Takes X Wout)
    (hb : ∀ (W : WX) (pn : List (Addr × Obj)) (xe : Value → Shared → Prop), L2N.Takes (X.tr pn xe) W → PassesOwn (model X.prog X.w) X.A X.env xe → PSs (X.tr pn xe) body (tb W))
    (hsu : ∀ (a : Addr) (pn : List (Addr × Obj)), PSs (X.suite a pn) (b₀ :: suite) (ts a)) :
    PS X (.Try body [.ExceptHandler (some (.Name x np)) (some n) (b₀ :: suite) pos'] [] [] pos) (fun D σ H => tb (wHold X.K c i ts Wout D) D σ H) := by
  refine ⟨fun pins s σ H D I hyp => ?_⟩
  have okX := I.ok
  have frames : X.A.frames = some (X.env :: X.outer) := by rw [okX.frames, hs]
  refine wpAny_Try_except ?_
  refine wpAny_mono ((hb (wHold X.K c i ts Wout D) (X.pn ++ pins) (fun ev sA => wpAny (model X.prog X.w) X.A (noteFrame ev X.env) (fun _ sB => wpAny (model X.prog X.w) X.A (setFlight ev none) (fun _ sC =>
    wpAny (model X.prog X.w) X.A (handleBy ev X.env [.ExceptHandler (some (.Name x np)) (some n) (b₀ :: suite) pos']) (SP X pins D) X.xe sC) X.xe sB) X.xe sA) (fun u sE flies => ?_) PassesOwn.looking).run [] s σ H D (I.toTry _) hyp) (fun fl sN ends => ?_) (fun ev sA left => left)
  · obtain ⟨a, B, sI, pins1, τ, G, cls, d, rfl, JT, nb, upS, skyS, na, os, ag, b, hm, yes, no⟩ := flies
    have JX : Inv X pins τ G sI := JT.ofTry okX
    have skyX : Sky B (X.env :: X.outer) a (L2N.Zn cls d) X.env.locals sE.heap := by rw [← hs]; exact skyS
    have nB : B.get? a = none := by
      rcases skyS with w | w | w
      · exact w.2.1
      · exact w.2.1
      · exact w.2.1
    show wpAny (model X.prog X.w) X.A (noteFrame (.ref a) X.env) _ _ _
    refine L2N.Sky.land L2N.Zn.steady frames hf skyX fun g3 fl3 up3 => ?_
    have J3 : Inv X pins τ G { sE with heap := g3 } := JX.landed nb fl3.1 (upS.trans up3) os ag
    obtain ⟨q3, w3, at3, z3, dt3⟩ := fl3.there
    have outside : a ∉ frs (X.env :: X.outer) := fun hm => by
      obtain ⟨_, o', e', hnf⟩ := fl3.2.2.1.mem hm
      rw [at3] at e'
      cases e'
      exact hnf _ dt3
    have nL : a ≠ X.env.locals := fun z => outside (List.mem_filterMap.mpr ⟨X.env, .head _, by rw [hf, z]⟩)
    have nF : a ∉ X.fs := fun hm => by
      obtain ⟨ev, he, q⟩ := List.mem_filterMap.mp hm
      exact outside (List.mem_filterMap.mpr ⟨ev, .tail _ he, q⟩)
    have below : ∀ {u : Addr} {ob : Obj}, sI.heap.get? u = some ob → u ∉ frs (X.env :: X.outer) → u ≠ a := fun {u ob} q r w => by
      have k := nb u ob q (by rw [hs]; exact r)
      rw [w, nB] at k
      cases k
    have new0 : X.s_0.heap.get? a = none := by
      cases q : X.s_0.heap.get? a with
      | none => rfl
      | some ob =>
        obtain ⟨ob2, r⟩ := JX.base.there a ob q (by rw [hx]; exact fun w => nomatch w)
        exact absurd rfl (below r outside)
    have unpinned : ∀ p ∈ X.pn ++ pins, p.1 ≠ a := fun p hp => by
      obtain ⟨p1, _, p3, p4, _⟩ := JX.pin p hp
      refine below p1 fun hm => ?_
      obtain ⟨ev, he, q⟩ := List.mem_filterMap.mp hm
      rcases List.mem_cons.mp he with w | w
      · rw [w, hf] at q
        exact p3 (Option.some.inj q).symm
      · exact p4 (List.mem_filterMap.mpr ⟨ev, w, q⟩)
    have S3 := J3.suite at3 dt3 na nL nF
    refine wpAny_handleBy_cons (codeAny_handlers_test ?_) (by intro w; cases w)
    have kind : PySem.W.Looks (model X.prog X.w) g3 (typeOf (.ref a)) cls := fun A Q E t k w => wpAny_typeOf_ref (k _ _ at3) (by rw [z3.1]; exact w)
    have match_ := PySem.W.exm_one (M := model X.prog X.w) (J3.kIn) kind hm
    have named : ∀ {Q E : Value → Shared → Prop}, Q c { sE with heap := g3 } → wpAny (model X.prog X.w) (X.A.mark (some (.ref a))) (eval (.Name x np) X.env) Q E { sE with heap := g3 } := fun {Q E} w => by
      obtain ⟨hg, hdbg, m1 | ⟨m1, m2, m3⟩⟩ := hc
      · exact ld_glob (X := X.suite a ((a, q3) :: (X.pn ++ pins))) S3 hg m1 w hdbg
      · exact ld_blt (X := X.suite a ((a, q3) :: (X.pn ++ pins))) S3 hg m1 m2 w m3 hdbg
    refine named (match_.here ?_)
    cases b with
    | true =>
      refine codeAny_handlers_suite_as ?_
      refine HandSPX.lands_againZ fl3 fun g4 fl4 up4 => ?_
      have J4 : Inv X pins τ G { sE with heap := g4 } := JX.landed nb fl4.1 ((upS.trans up3).trans up4) os ag
      obtain ⟨q4, w4, at4, z4, dt4⟩ := fl4.there
      have S4 := suite_in (b := a) (hold_ok J4 at4 z4 dt4 na new0 nL unpinned)
      refine store_ok (X := X.suite a (X.pn ++ pins)) (v := .ref a) S4 hN hi (.inl hln) rfl (fun s5 S5 => ?_) (.inr hln)
      refine wpAny_mono ((hsu a (X.pn ++ pins)).run [] s5 _ _ _ S5 (yes rfl a na)) (fun fl s6 ends => ?_) (fun _ _ w => False.elim w)
      have off : ∀ {τ6 : L2.St} {G6 : Hp} {Q : Shared → Prop}, Inv (X.suite a (X.pn ++ pins)) [] τ6 G6 s6 → (∀ s7, Inv X pins (τ6.set i none) G6 s7 → Q s7) →
          wpAny (model X.prog X.w) X.A (do bindName X.env n .none; unbindBehindTheSuite X.env n pos') (fun _ s7 => Q s7) X.xe s6 := fun {τ6 G6 Q} S6 w => gone_ok (suite_out S6 okX) hN hi hln w
      cases fl with
      | next =>
        obtain ⟨_, _, S6, r⟩ := ends
        exact off S6 fun _ J7 => ⟨_, _, J7, r⟩
      | brk =>
        obtain ⟨_, _, S6, r⟩ := ends
        exact off S6 fun _ J7 => ⟨_, _, J7, r⟩
      | cont =>
        obtain ⟨_, _, S6, r⟩ := ends
        exact off S6 fun _ J7 => ⟨_, _, J7, r⟩
      | ret u =>
        obtain ⟨_, _, _, S6, r1, r2⟩ := ends
        exact off S6 fun _ J7 => ⟨_, _, _, J7, r1, r2⟩
    | false =>
      show wpAny _ X.A (handleBy (.ref a) X.env []) _ _ _
      refine wpAny_handleBy_nil ?_
      obtain ⟨_, _, _, ob, ws, T, oT, tr, hob, hzb, hdb, hfb, hrb⟩ := id fl3
      unfold PySem.passOn
      refine wpAny_bind (wpAny_field hob hdb hfb ?_)
      rw [if_neg (show ¬ ((Value.ref T == Value.none) = true) by simp)]
      have out : wpAny (model X.prog X.w) X.A (setFlight (.ref a) X.env.frame) (fun _ t4 => wpAny (model X.prog X.w) X.A (throw (.ref a) : Sem Flow) (SP X pins D) X.xe t4) X.xe { sE with heap := g3 } := by
        rw [hf]
        refine HandSPX.setFlight_upZ fl3 fun g4 in4 up4 => wpAny_throw (tk _ _ ?_)
        exact ⟨a, B, sI, pins, τ, G, cls, d, rfl, JX, nb, (upS.trans up3).trans up4, .inr (.inr (by rw [hs]; exact in4)), na, os, ag, no rfl⟩
      first
        | exact wpAny_bind (wpAny_pure (wpAny_bind out))
        | exact wpAny_bind out
  · cases fl with
    | next =>
      obtain ⟨τ, G, JT, r⟩ := ends
      exact wpAny_execs_nil ⟨τ, G, JT.ofTry okX, r⟩
    | brk =>
      obtain ⟨τ, G, JT, r⟩ := ends
      exact ⟨τ, G, JT.ofTry okX, r⟩
    | cont =>
      obtain ⟨τ, G, JT, r⟩ := ends
      exact ⟨τ, G, JT.ofTry okX, r⟩
    | ret u =>
      obtain ⟨v, τ, G, JT, r1, r2⟩ := ends
      exact ⟨v, τ, G, JT.ofTry okX, r1, r2⟩
/-- isinstance(e, c), e a held exception -/
def rIsX (K : PySem.W.Frag) : List V → Hp → VK → Prop := fun xs H Q => ∃ (a D : Addr) (c : V) (cv : Value) (b : Bool), xs = [.ref a, c] ∧ H a = some (CxO (.ref D) none a) ∧ ExcC K D ∧ ClsV c cv ∧ PySem.W.kitOne K (.ref D) cv = some b ∧ Q (.bl b) H
theorem call_isX : CallR X (.builtin "isinstance") (rIsX X.K) := by
  intro pins s σ H xs us Q I r h
  obtain ⟨a, D, cl, cv, b, rfl, ha, C, only, says, q⟩ := h
  cases r with
  | cons rx rr =>
    cases rr with
    | cons rt rr =>
      cases rr
      cases rx
      have ec := only.eq rt
      subst ec
      obtain ⟨⟨ob, vs, at_, z, dt⟩, _, _⟩ := I.hok a _ ha
      have J : PySem.W.InstAt s.heap a ob D none := by
        obtain ⟨oc, od, oda, osl⟩ := ob
        obtain ⟨h1, h2⟩ := zc_of z
        dsimp only at h1 h2 dt
        subst h1 h2 dt
        exact ⟨at_, rfl, rfl, trivial⟩
      refine PySem.W.kia_one (PySem.W.handS_kitx_exc C.hg C.hk C.hs C.hd C.ha C.hn C.ht C.hm) I.kIn J says (fun w => nomatch w) fun tk => ?_
      exact ⟨.bl b, H, I.kept (t' := tk) fun _ _ w => w, rfl, q⟩
end
end Ow
namespace Ow
open PySem PySem.Spec PyProof.Rows L2
/-- xs[i], where it is read to be put anew -/
theorem get_list {X : Cx} : PGet X (rIxL X.K) := by
  intro pins s σ H o i ov iv Q I ro ri h
  obtain ⟨p, xs, k, z, rfl, rfl, hq, he, q⟩ := h
  cases ro
  obtain ⟨t, rfl⟩ := ri
  obtain ⟨its, r, pl, hz⟩ := I.list hq
  obtain ⟨j, h1, h2, h3, h4, h5⟩ := atI_get he
  obtain ⟨w, ew, rw'⟩ := r.get h2
  have lenX := r.length
  have wide := line63
  have done : EP X pins σ Q w s := ⟨z, H, I, rw', q⟩
  by_cases h0 : 0 ≤ k
  · have hk : k.toNat = j := by
      rw [seqIndex_of h0 h5] at h1
      exact Option.some.inj h1
    exact wpAny_getItem_list pl.isList h0 (by omega) (by rw [hk]; simpa using ew) done
  · have hk : (k + (its.toArray.size : Int)).toNat = j := by
      rw [seqIndex_neg (by omega) h4] at h1
      rw [List.size_toArray, ← lenX]
      exact Option.some.inj h1
    exact wpAny_getItem_list_neg pl.isList (by omega) (by rw [List.size_toArray] <;> omega) (by omega) (by rw [hk]; simpa using ew) done
end Ow
namespace Ow
open PySem PySem.Spec PyProof.Rows L2
/-! ### facts of exceptions, by one look -/
def excB (K : PySem.W.Frag) (D : Addr) : Bool := [PySem.W.findIn K (.ref D) "__getattribute__" == some (some (.builtin "BaseException.__getattribute__")), PySem.W.findIn K (.ref D) "__getattr__" == some none, PySem.W.subIn K (.ref D) (.type "BaseException") == some true, PySem.W.hasDictIn K D,
  PySem.W.findIn K (.ref D) "__class__" == some (some (.builtin "object.__class__")), PySem.W.specialIn K (.builtin "object.__class__") "__get__" == some (some (.builtin "getset_descriptor.__get__")), PySem.W.takesIn K (.builtin "object.__class__") == some true, PySem.W.mroIn K D (.type "object") == some true].all id
theorem all_at {l : List Bool} (h : l.all id = true) (k : Nat) {b : Bool} (e : l[k]? = some b) : b = true := List.all_eq_true.mp h b (List.mem_of_getElem? e)
theorem excB_ok {K : PySem.W.Frag} {D : Addr} (h : excB K D = true) : ExcC K D :=
  ⟨eq_of_beq (all_at h 0 rfl), eq_of_beq (all_at h 1 rfl), eq_of_beq (all_at h 2 rfl), all_at h 3 rfl, eq_of_beq (all_at h 4 rfl), eq_of_beq (all_at h 5 rfl), eq_of_beq (all_at h 6 rfl), eq_of_beq (all_at h 7 rfl)⟩
end Ow
namespace Ow
open PySem PySem.Spec PyProof.Rows L2
/-! ### rows of flat things -/
theorem fl_of {v : V} (h : flatV v = true) : flatV v = true := h
theorem all_flat (ns : List Int) : (ns.map V.int).all flatV = true := List.all_eq_true.mpr fun x hx => by
  obtain ⟨y, _, rfl⟩ := List.mem_map.mp hx
  rfl
theorem all_flatS (ns : List Str) : (ns.map V.str).all flatV = true := List.all_eq_true.mpr fun x hx => by
  obtain ⟨y, _, rfl⟩ := List.mem_map.mp hx
  rfl
theorem eqV_int (i j : Int) : eqV (.int i) (.int j) = decide (i = j) := by
  show (i == j) = _
  by_cases h : i = j
  · rw [decide_eq_true h, h]; simp
  · rw [decide_eq_false h]; simp [h]
theorem inV_ints (i : Int) (ns : List Int) : inV (.int i) (ns.map V.int) = decide (i ∈ ns) := by
  unfold inV
  rw [List.any_map]
  by_cases h : i ∈ ns
  · rw [decide_eq_true h]
    exact List.any_eq_true.mpr ⟨i, h, by show eqV (.int i) (.int i) = true; rw [eqV_int]; simp⟩
  · rw [decide_eq_false h]
    refine List.any_eq_false.mpr fun x hx => ?_
    show ¬ eqV (.int x) (.int i) = true
    rw [eqV_int]
    intro z
    exact h (of_decide_eq_true z ▸ hx)
theorem rep_flat (n : Nat) (v : V) : (List.replicate ((n : Nat) : Int).toNat [v]).flatten = List.replicate n v := by
  rw [Int.toNat_natCast]
  induction n with
  | zero => rfl
  | succ n ih => rw [List.replicate_succ, List.flatten_cons, ih]; rfl
theorem rep_map {α : Type} (f : α → V) (n : Nat) (a : α) : List.replicate n (f a) = (List.replicate n a).map f := (List.map_replicate).symm
end Ow
namespace Ow
open PySem PySem.Spec PyProof.Rows L2
theorem set_split {α : Type} {cs : List α} {i : Nat} {x y : α} (h : cs[i]? = some x) : cs.set i y = cs.take i ++ y :: cs.drop (i + 1) := by
  have h1 := (List.getElem?_eq_some_iff.mp h).1
  rw [List.set_eq_take_append_cons_drop, if_pos h1]
theorem at_split {α : Type} {cs : List α} {i : Nat} {x : α} (h : cs[i]? = some x) : cs = cs.take i ++ x :: cs.drop (i + 1) := by
  obtain ⟨h1, rfl⟩ := List.getElem?_eq_some_iff.mp h
  rw [List.getElem_cons_drop h1, List.take_append_drop]
theorem set_map {α β : Type} (f : α → β) : ∀ (l : List α) (i : Nat) (a : α), (l.map f).set i (f a) = (l.set i a).map f
  | [], _, _ => rfl
  | _ :: _, 0, _ => rfl
  | x :: r, i + 1, a => by rw [List.map_cons, List.set_cons_succ, List.set_cons_succ, List.map_cons, set_map f r i a]
theorem ix_at {n i : Nat} (h : i < n) : ixN n (i : Int) = some i := by
  unfold ixN
  rw [if_pos (by omega), if_pos (by omega), Int.toNat_natCast]
/-- a thing of a row is put anew: its old cell is let go -/
theorem Own.put {α : Type} {H0 H : Hp} {A : List Addr} {pre : Cells} {l : List α} {g : α → Addr × HO} {b y : α} {j : Nat} (O : Own H0 H A (g b :: (pre ++ l.map g))) (h : l[j]? = some y) : Own H0 H A (pre ++ (l.set j b).map g) := by
  have e := at_split h
  have O1 : Own H0 H A (g b :: (pre ++ ((l.take j).map g ++ (l.drop (j + 1)).map g))) := O.drop (by
    conv => rhs; rw [e, List.map_append, List.map_cons]
    exact .cons₂ _ (.append (.refl _) (.append (.refl _) (.cons _ (.refl _)))))
  rw [set_split h, List.map_append, List.map_cons]
  refine O1.perm ?_
  rw [← List.append_assoc, ← List.append_assoc]
  exact List.perm_middle.symm
end Ow
namespace Ow
open PySem PySem.Spec PyProof.Rows L2
theorem take_succ {α : Type} {l : List α} {i : Nat} {y : α} (h : l[i]? = some y) : l.take (i + 1) = l.take i ++ [y] := by
  rw [List.take_succ, h]; rfl
theorem sorted_ext : ∀ {l k : List Int}, l.Pairwise (· < ·) → k.Pairwise (· < ·) → (∀ m, m ∈ l ↔ m ∈ k) → l = k
  | [], [], _, _, _ => rfl
  | [], y :: k, _, _, h => absurd ((h y).mpr List.mem_cons_self) (by simp)
  | x :: l, [], _, _, h => absurd ((h x).mp List.mem_cons_self) (by simp)
  | x :: l, y :: k, h1, h2, h => by
    obtain ⟨a1, a2⟩ := List.pairwise_cons.mp h1
    obtain ⟨b1, b2⟩ := List.pairwise_cons.mp h2
    have e : x = y := by
      rcases List.mem_cons.mp ((h x).mp List.mem_cons_self) with z | z
      · exact z
      · rcases List.mem_cons.mp ((h y).mpr List.mem_cons_self) with w | w
        · exact w.symm
        · have := b1 _ z
          have := a1 _ w
          omega
    subst e
    rw [sorted_ext a2 b2 fun m => ⟨fun hm => ?_, fun hm => ?_⟩]
    · rcases List.mem_cons.mp ((h m).mp (List.mem_cons_of_mem _ hm)) with z | z
      · have := a1 _ hm; omega
      · exact z
    · rcases List.mem_cons.mp ((h m).mpr (List.mem_cons_of_mem _ hm)) with z | z
      · have := b1 _ hm; omega
      · exact z
end Ow
namespace Ow
open L2 in
/-- behind a call: what it has made stands ahead -/
theorem Own.callE {H0 H H' : Hp} {A : List PySem.Addr} {cs s s' cs' e : Cells} (O : Own H0 H A cs) (h : Sub cs s s' cs') (C : Own H H' (Ow.adr s) (e ++ s')) : Own H0 H' A (e ++ cs') := by
  obtain ⟨l, r, rfl, rfl⟩ := h.split
  have O1 := O.call (cs' := l ++ ((e ++ s') ++ r)) (.app .here) C
  refine O1.perm ?_
  have e1 : l ++ ((e ++ s') ++ r) = (l ++ e) ++ (s' ++ r) := by simp only [List.append_assoc]
  have e2 : e ++ (l ++ (s' ++ r)) = (e ++ l) ++ (s' ++ r) := by simp only [List.append_assoc]
  rw [e1, e2]
  exact (List.perm_append_comm).append_right _
end Ow
namespace Ow
open PySem PySem.Spec PyProof.Rows L2
/-- a new thing, as the goal names it: it is ours from now on -/
theorem Own.nxt {H0 H : Hp} {A : List Addr} {cs : Cells} {p : Addr} {o : HO} {G : Hp → Prop} (O : Own H0 H A cs) (h : H p = none) (k : Own H0 (upd H p o) A ((p, o) :: cs) → G (upd H p o)) : G (upd H p o) := k (O.new h)
theorem Own.nxtQ {H0 H : Hp} {A : List Addr} {cs : Cells} {p : Addr} {o : HO} {Q : VK} {G : Hp → VK → Prop} (O : Own H0 H A cs) (h : H p = none) (k : Own H0 (upd H p o) A ((p, o) :: cs) → G (upd H p o) Q) : G (upd H p o) Q := k (O.new h)
end Ow
namespace Ow
open PySem PySem.Spec PyProof.Rows L2
/-! ### loops and comprehensions over anything that is walked -/
section
variable {J : It} {n : Nat} {G : Hp → Prop} {Y : Nat → Hp → V → Hp → Prop}
theorem forW (w : Walk J n G Y) {g : TG} {tb : TS} {D : Ends} {σ : L2.St} {H : Hp} (Pv : Nat → L2.St → Hp → Prop) (h0 : Pv 0 σ H) (hG : ∀ i σ H, i ≤ n → Pv i σ H → G H)
    (hs : ∀ i x σ H H', i < n → Pv i σ H → Y i H x H' → g x σ H' fun σ2 H2 => tb { D with nx := fun σ H => Box (Pv (i + 1) σ H), ct := fun σ H => Box (Pv (i + 1) σ H), bk := D.nx } σ2 H2) (hd : ∀ σ H, Pv n σ H → D.nx σ H) :
    Box (∃ W : Nat → Nat → L2.St → Hp → Prop, (∃ m, W 0 m σ H) ∧ ∀ i m σ H, W i m σ H →
      (J.stop i H ∧ D.nx σ H) ∨ (J.go i H ∧ ∃ N : L2.St → Hp → Prop, (∀ σ' H', N σ' H' → ∃ m', m' < m ∧ W (i + 1) m' σ' H') ∧ ∀ x H', J.yld i H x H' → g x σ H' fun σ2 H2 => tb { D with nx := N, ct := N, bk := D.nx } σ2 H2)) :=
  ⟨for_it w (fun i σ H => Box (Pv i σ H)) ⟨h0⟩ (fun i σ H hi p => hG i σ H hi p.out) (fun i x σ H H' hi p y => hs i x σ H H' hi p.out y) (fun σ H p => hd σ H p.out)⟩
theorem lcW (w : Walk J n G Y) {g : TG} {tt : TT} {te : TE} {vs : List Nat} {σ : L2.St} {H1 : Hp} {Q : Addr → Hp → Prop} (Pv : Addr → Nat → Hp → Prop) (h0 : ∀ D, H1 D = none → Pv D 0 (upd H1 D (.lst []))) (hG : ∀ D i H, i ≤ n → Pv D i H → G H)
    (hs : ∀ D i x H H', i < n → Pv D i H → Y i H x H' → g x (wipe σ vs) H' fun σ2 H2 => wipe σ2 vs = wipe σ vs ∧ tt σ2 H2 fun b H3 =>
      if b = true then te σ2 H3 fun y H4 => ∃ acc, H4 D = some (.lst acc) ∧ acc.length < sizeLine ∧ Box (Pv D (i + 1) (upd H4 D (.lst (acc ++ [y])))) else Box (Pv D (i + 1) H3)) (hd : ∀ D H, Pv D n H → Q D H) :
    Box (∀ D, H1 D = none → ∃ W : Nat → Nat → Hp → Prop, (∃ m, W 0 m (upd H1 D (.lst []))) ∧ ∀ i m H, W i m H →
      (J.stop i H ∧ Q D H) ∨ (J.go i H ∧ ∃ Nx : Hp → Prop, (∀ H', Nx H' → ∃ m', m' < m ∧ W (i + 1) m' H') ∧ ∀ x H', J.yld i H x H' → g x (wipe σ vs) H' fun σ2 H2 => wipe σ2 vs = wipe σ vs ∧ tt σ2 H2 fun b H3 =>
        if b = true then te σ2 H3 fun y H4 => ∃ acc, H4 D = some (.lst acc) ∧ acc.length < sizeLine ∧ Nx (upd H4 D (.lst (acc ++ [y]))) else Nx H3)) :=
  ⟨fun D hD => lc_it w (fun i H => Box (Pv D i H)) ⟨h0 D hD⟩ (fun i H hi p => hG D i H hi p.out) (fun i x H H' hi p y => hs D i x H H' hi p.out y) (fun H p => hd D H p.out)⟩
end
/-- None or a whole number -/
def oV : Option Int → V
  | none => .non
  | some i => .int i
theorem putF_lt {f : Str} {v : V} {n : Nat} : ∀ {fs : List (Str × V)}, fs.length < n → (putF f v fs).length < n + 1
  | [], h => by show 1 < n + 1; simp only [List.length_nil] at h; omega
  | (g, x) :: r, h => by
    rw [List.length_cons] at h
    unfold putF
    by_cases e : g = f
    · rw [if_pos e, List.length_cons]; omega
    · rw [if_neg e, List.length_cons]
      have := putF_lt (f := f) (v := v) (n := n - 1) (fs := r) (by omega)
      omega
theorem at_of {xs : List V} {i : Int} {v : V} (h : atI xs i = some v) : atI xs i = some v := h
theorem ix_of {n : Nat} {i : Int} {j : Nat} (h : ixN n i = some j) : ixN n i = some j := h
theorem cp_of {i j : Int} (h : CPow i j) : CPow i j := h
theorem cmw_of {i j : Int} (h : CMulW i j) : CMulW i j := h
theorem eq_oV {o : Option Int} {j : Int} : decide (oV o = V.int j) = decide (o = some j) := by
  cases o with
  | none => simp [oV]
  | some i => simp [oV]
theorem zip_all {α β γ : Type} [DecidableEq γ] (f : α → γ) (g : β → γ) : ∀ (xs : List α) (ys : List β), xs.length = ys.length → ((xs.zip ys).map fun p => decide (f p.1 = g p.2)).all id = decide (xs.map f = ys.map g)
  | [], [], _ => rfl
  | [], _ :: _, h => by cases h
  | _ :: _, [], h => by cases h
  | x :: xs, y :: ys, h => by
    have ih := zip_all f g xs ys (by simpa using h)
    simp only [List.zip_cons_cons, List.map_cons, List.all_cons, id_eq, ih, List.cons.injEq, Bool.decide_and]
theorem zip_at {α β : Type} {xs : List α} {ys : List β} {i : Nat} {x : α} {y : β} (h1 : xs[i]? = some x) (h2 : ys[i]? = some y) : (xs.zip ys)[i]? = some (x, y) := List.getElem?_zip_eq_some.mpr ⟨h1, h2⟩
/-! ### readings by name, for what stands within a comprehension -/
def rLenSq (K : PySem.W.Frag) : List V → Hp → VK → Prop := fun xs H Q => ∃ p ys, xs = [.ref p] ∧ (SqL K H p ys ∨ SqT K H p ys) ∧ Q (.int ys.length) H
def rLenV (K : PySem.W.Frag) : List V → Hp → VK → Prop := fun xs H Q => ∃ x n, xs = [x] ∧ LenV K x H n ∧ Q (.int n) H
def rListOf (K : PySem.W.Frag) : List V → Hp → VK → Prop := fun xs H Q => ∃ p ys, xs = [.ref p] ∧ (SqL K H p ys ∨ SqT K H p ys) ∧ ∀ l, H l = none → Q (.ref l) (upd H l (.lst ys))
def rTupOf (K : PySem.W.Frag) : List V → Hp → VK → Prop := fun xs H Q => ∃ p ys, xs = [.ref p] ∧ ((SqL K H p ys ∧ ∀ l, H l = none → Q (.ref l) (upd H l (.tup ys))) ∨ (SqT K H p ys ∧ Q (.ref p) H))
/-! ### rows of whole numbers, each with its place -/
abbrev Pg := Addr × List Int
abbrev pcel (x : Pg) : Addr × HO := (x.1, .lst (x.2.map V.int))
/-- the rows stand in the heap -/
def RowsAt (H : Hp) (rs : List Pg) : Prop := ∀ r ∈ rs, H r.1 = some (.lst (r.2.map V.int))
theorem RowsAt.mono {H0 H : Hp} {cs : Cells} {rs : List Pg} (h : RowsAt H0 rs) (O : Own H0 H [] cs) : RowsAt H rs := fun r hr => O.fr0 (h r hr)
theorem Own.rows {H0 H : Hp} {A : List Addr} {cs : Cells} {rs : List Pg} (O : Own H0 H A cs) (h : ∀ r ∈ rs, pcel r ∈ cs) : RowsAt H rs := fun r hr => O.get (h r hr)
theorem refs_get {rs : List Pg} {i : Nat} {x : V} (h : (rs.map fun x : Pg => V.ref x.1)[i]? = some x) : ∃ y, rs[i]? = some y ∧ x = V.ref y.1 := by
  rw [List.getElem?_map] at h
  cases e : rs[i]? with
  | none => rw [e] at h; cases h
  | some y => rw [e] at h; exact ⟨y, rfl, (Option.some.inj h).symm⟩
/-- a thing of a row is put anew, where more stands behind -/
theorem Own.put2 {α : Type} {H0 H : Hp} {A : List Addr} {pre post : Cells} {l : List α} {g : α → Addr × HO} {b y : α} {j : Nat} (O : Own H0 H A (g b :: (pre ++ (l.map g ++ post)))) (h : l[j]? = some y) : Own H0 H A (pre ++ ((l.set j b).map g ++ post)) := by
  have O1 : Own H0 H A (g b :: ((post ++ pre) ++ l.map g)) := O.perm (by
    refine .cons _ ?_
    rw [List.append_assoc, ← List.append_assoc pre]
    exact List.perm_append_comm)
  have O2 := O1.put h
  refine O2.perm ?_
  rw [List.append_assoc, ← List.append_assoc pre]
  exact List.perm_append_comm
theorem rgV0 (n : Nat) : rgV 0 (n : Int) = ((List.range n).map fun i : Nat => (i : Int)).map V.int := by
  unfold rgV
  rw [List.map_map, show ((n : Int) - 0).toNat = n by omega]
  exact List.map_congr_left fun i _ => by rw [Int.zero_add]; rfl
theorem cutV_to (xs : List V) (n : Nat) : cutV xs none (some (n : Int)) = xs.take n := by
  unfold cutV
  rw [HT.sIx_nat]
  show (xs.drop 0).take _ = _
  rw [List.drop_zero, HT.sIx_none, Nat.sub_zero]
  by_cases h : n ≤ xs.length
  · rw [show min n xs.length = n by omega]
  · rw [show min n xs.length = xs.length by omega, List.take_length, List.take_of_length_le (by omega)]
theorem cutV_from (xs : List V) (n : Nat) : cutV xs (some (n : Int)) none = xs.drop n := by
  unfold cutV
  rw [HT.sIx_nat]
  show (xs.drop (min n xs.length)).take (xs.length - min n xs.length) = _
  by_cases h : n ≤ xs.length
  · rw [show min n xs.length = n by omega, List.take_of_length_le (by rw [List.length_drop]; omega)]
  · rw [show min n xs.length = xs.length by omega, List.drop_length, List.drop_eq_nil_of_le (by omega), List.take_nil]
theorem cutV_mid (xs : List V) (a b : Nat) (h : a ≤ b) (hb : b ≤ xs.length) : cutV xs (some (a : Int)) (some (b : Int)) = (xs.drop a).take (b - a) := by
  unfold cutV
  rw [HT.sIx_nat, HT.sIx_nat, show min a xs.length = a by omega, show min b xs.length = b by omega]
/-- cells that were handed and stand as they stood need not be told -/
theorem Own.back {H0 H : Hp} {cs bs : Cells} (O : Own H0 H (Ow.adr bs) (cs ++ bs)) (h : ∀ a o, (a, o) ∈ bs → H0 a = some o) : Own H0 H [] cs := by
  have nd := O.nd
  rw [adr_app] at nd
  obtain ⟨n1, n2, n3⟩ := List.nodup_append.mp nd
  refine ⟨fun a o m => O.at_ a o (List.mem_append_left _ m), n1, fun b o e _ => ?_, fun b m => ?_, O.tp⟩
  · by_cases hb : b ∈ Ow.adr bs
    · obtain ⟨c, hc, rfl⟩ := List.mem_map.mp hb
      have e2 := h c.1 c.2 hc
      rw [e] at e2
      cases e2
      exact O.at_ _ _ (List.mem_append_right _ hc)
    · exact O.fr b o e hb
  · rcases O.nw b (by rw [adr_app]; exact List.mem_append_left _ m) with z | z
    · exact absurd rfl (n3 b m b z)
    · exact .inr z
/-- a dict is written: a key that is not there comes last -/
theorem putK_new {kvs : List (Key × V)} {k : Key} {v : V} (h : k ∉ kvs.map (·.1)) : putK kvs k v = kvs ++ [(k, v)] := by
  unfold putK
  rw [if_neg]
  intro e
  obtain ⟨x, hx, e⟩ := List.any_eq_true.mp e
  exact h (List.mem_map.mpr ⟨x, hx, of_decide_eq_true e⟩)
theorem mergeK_app : ∀ {more acc : List (Key × V)}, ((acc ++ more).map (·.1)).Nodup → mergeK acc more = acc ++ more
  | [], acc, _ => (List.append_nil acc).symm
  | (k, v) :: r, acc, h => by
    have h1 : k ∉ acc.map (·.1) := by
      rw [List.map_append] at h
      intro z
      exact (List.nodup_append.mp h).2.2 k z k (by simp) rfl
    show mergeK (putK acc k v) r = _
    rw [putK_new h1, mergeK_app (by rw [List.append_assoc]; exact h), List.append_assoc]
    rfl
theorem Own.sep {H0 H : Hp} {A : List Addr} {X Y : Cells} {a : Addr} (O : Own H0 H A (X ++ Y)) (h : a ∈ Ow.adr X) : a ∉ Ow.adr Y := fun z => by
  have nd := O.nd
  rw [adr_app] at nd
  exact (List.nodup_append.mp nd).2.2 a h a z rfl
theorem atI_last {xs : List V} {v : V} (h : xs[xs.length - 1]? = some v) : atI xs (-1) = some v := by
  have hl := (List.getElem?_eq_some_iff.mp h).1
  have e : ixN xs.length (-1) = some (xs.length - 1) := by
    unfold ixN
    rw [if_neg (by decide), if_pos (by omega)]
    congr 1
    omega
  unfold atI
  rw [e]
  exact h
/-! ### dicts of lists, compared -/
section
open PySem.Calls PyProof.V
variable {prog : Program} {w : World} {κ : Type} [DecidableEq κ] {knd : KeyKind prog w κ} {A : Around} {s : Shared}
theorem neP_dicts {a b : Addr} {ka kb : List (κ × Value)} {r : Bool} (ha : (a == sysModules) = false) (hb : (b == sysModules) = false) (da : s.heap.DictOf knd a ka) (db : s.heap.DictOf knd b kb) (hu : A.units < cLine)
    (hits : ka.length = kb.length → PySem.W.KeqHitsP prog w A.in1 s kb ka r) (E Q : Value → Shared → Prop) (h : Q (.bool (!(ka.length == kb.length && r))) s) : wpAny (model prog w) A (compareOp .NotEq (.ref a) (.ref b)) Q E s := by
  refine wpAny_richCompare_same_room (op := .NotEq) da.typeIs db.typeIs PySem.F.slot_dict_ne (wpAny_call_entry PySem.F.slot_dict_ne da.typeIs PySem.F.entry_dict_ne ?_ (PySem.F.args_dict_ne_2 _ _)) hu
  show wpAny _ _ (Builtin.Dict.dictSlotArgs "__ne__" ⟨[.ref a, .ref b], []⟩ >>= _) _ _ s
  refine wpAny_bind ?_
  unfold Builtin.Dict.dictSlotArgs
  refine wpAny_bind (wpAny_notOrdered_dict da.typeIs ?_)
  show wpAny _ _ (pure (Value.ref a, Value.ref b)) _ _ s
  refine wpAny_pure ?_
  refine wpAny_bind (wpAny_isInstance (T := "dict") db.typeIs PySem.F.sub_dict_dict ?_)
  simp only [Bool.not_true, Bool.false_eq_true, if_false]
  refine wpAny_bind (wpAny_pure (wpAny_bind (wpAny_pure ?_)))
  refine wpAny_bind (PySem.W.samePairsP ha hb da db hits ?_)
  refine wpAny_pure ⟨_, rfl, ?_, ?_⟩
  · exact fun x => nomatch x
  · simpa using h
end
/-- d != e, two dicts: of unlike lengths, or equal -/
def rNeDV (K : PySem.W.Frag) : R2 := fun x y H Q => ∃ a b ks ls, x = .ref a ∧ y = .ref b ∧ H a = some (.dK ks) ∧ H b = some (.dK ls) ∧
  ((ks.length ≠ ls.length ∧ Q (.bl true) H) ∨ (ks.length = ls.length ∧ (∀ p ∈ ks, ∃ u, valV ls p.1 = some u ∧ EqV K H 2 p.2 u) ∧ Q (.bl false) H))
theorem op_neDV {X : Cx} (hu : X.A.units + 64 < cLine) : OpR X (compareOp .NotEq) (rNeDV X.K) := by
  intro pins s σ H x y v u Q I rx ry h
  obtain ⟨a, b, ks, ls, rfl, rfl, ea, eb, h⟩ := h
  obtain rfl : v = Value.ref a := rx
  obtain rfl : u = Value.ref b := ry
  obtain ⟨_, ya, va, ra, da⟩ := (show ObjOk X.prog X.w H s.heap a (.dK ks) from I.hok a _ ea)
  obtain ⟨_, yb, vb, rb, db⟩ := (show ObjOk X.prog X.w H s.heap b (.dK ls) from I.hok b _ eb)
  have e1 : va.length = ks.length := ra.length.symm
  have e2 : vb.length = ls.length := rb.length.symm
  rcases h with ⟨hne, q⟩ | ⟨hl, hp, q⟩
  · refine neP_dicts (knd := mixKind X.prog X.w) (r := false) ya yb da db (by omega) (fun z => absurd (by omega) hne) _ _ ?_
    rw [show (!(va.length == vb.length && false)) = true by simp]
    exact ⟨.bl true, H, I, rfl, q⟩
  · refine neP_dicts (knd := mixKind X.prog X.w) (r := true) ya yb da db (by omega) (fun _ => hits_run (eqV_run I 2 X.A.in1 (by show X.A.units + 1 + 2 < cLine; omega)) rb ra hp) _ _ ?_
    rw [show (!(va.length == vb.length && true)) = false by rw [e1, e2, hl]; simp]
    exact ⟨.bl false, H, I, rfl, q⟩
theorem paired_ints {K : PySem.W.Frag} {H : Hp} : ∀ ns : List Int, Paired (EqV K H 1) (ns.map V.int) (ns.map V.int)
  | [] => .nil
  | n :: r => .cons (.inl ⟨rfl, rfl⟩) (paired_ints r)
theorem eqV_ints {K : PySem.W.Frag} {H : Hp} {a b : Addr} {ns : List Int} (ha : H a = some (.lst (ns.map V.int))) (hb : H b = some (.lst (ns.map V.int))) : EqV K H 2 (.ref a) (.ref b) :=
  .inr (.inr (.inl ⟨a, b, _, _, rfl, rfl, SqL.of ha, SqL.of hb, paired_ints ns⟩))
/-! ### lists of texts, compared -/
section
variable {K : PySem.W.Frag} {H : Hp} {a b : Addr}
theorem dpa_strs : ∀ ns : List Str, DpAll K H (ns.map V.str) (ns.map PyData.str)
  | [] => .nil
  | n :: r => .cons (.str n) (dpa_strs r)
theorem depth_strs : ∀ ns : List Str, PyData.depthAll (ns.map PyData.str) ≤ 1
  | [] => by simp [PyData.depthAll]
  | n :: r => by
    have := depth_strs r
    simp only [List.map_cons, PyData.depthAll, PyData.depth]
    omega
theorem lay_strs : ∀ ns : List Str, (ns.all PyData.strOk = true) → PyData.canLayAll0 (ns.map PyData.str) = true
  | [], _ => by simp [PyData.canLayAll0]
  | n :: r, h => by
    rw [List.all_cons, Bool.and_eq_true] at h
    simp [PyData.canLayAll0, PyData.canLay0, lay_strs r h.2, h.1]
theorem sh_strs (ns : List Str) (h : ns.all PyData.strOk = true) : SeqAt.shaped (.list (ns.map PyData.str)) = true := by
  have h1 := depth_strs ns
  have h2 : PyData.depth (.list (ns.map PyData.str)) ≤ 64 := by
    simp only [PyData.depth]
    omega
  show (PyData.canLay0 (.list (ns.map PyData.str)) && decide (PyData.depth (.list (ns.map PyData.str)) ≤ 64)) = true
  rw [Bool.and_eq_true]
  exact ⟨by simp only [PyData.canLay0]; exact lay_strs ns h, decide_eq_true h2⟩
theorem dist_strs : ∀ ns ms : List Str, PyData.eqvAll (ns.map PyData.str) (ms.map PyData.str) = decide (ns = ms)
  | [], [] => rfl
  | [], _ :: _ => rfl
  | _ :: _, [] => rfl
  | n :: r, m :: q => by
    rw [List.map_cons, List.map_cons, PyData.eqvAll, dist_strs r q]
    show ((n == m) && _) = _
    by_cases h : n = m
    · subst h; simp
    · rw [decide_eq_false (fun e => h (List.cons.inj e).1)]; simp [h]
theorem eq_strs {ns ms : List Str} {Q : VK} (h1 : ns.all PyData.strOk = true) (h2 : ms.all PyData.strOk = true) (ha : H a = some (.lst (ns.map V.str))) (hb : H b = some (.lst (ms.map V.str))) (k : Q (.bl (decide (ns = ms))) H) : rEqD K (.ref a) (.ref b) H Q :=
  ⟨_, _, .lst (SqL.of ha) (dpa_strs ns), .lst (SqL.of hb) (dpa_strs ms), sh_strs ns h1, sh_strs ms h2, by rw [show PyData.eqv (.list (ns.map PyData.str)) (.list (ms.map PyData.str)) = decide (ns = ms) from dist_strs ns ms]; exact k⟩
end
/-! ### held exceptions, asked about several classes -/
/-- isinstance(e, (c, ..)), e a held exception -/
def rIsXT (K : PySem.W.Frag) : List V → Hp → VK → Prop := fun xs H Q => ∃ (a D tp : Addr) (cs : List V) (us : List Value) (b : Bool), xs = [.ref a, .ref tp] ∧ H a = some (CxO (.ref D) none a) ∧ ExcC K D ∧ H tp = some (.tup cs) ∧ Paired ClsV cs us ∧ PySem.W.kitAny K (.ref D) us = some b ∧ Q (.bl b) H
theorem call_isXT {X : Cx} : CallR X (.builtin "isinstance") (rIsXT X.K) := by
  intro pins s σ H xs us Q I r h
  obtain ⟨a, D, tp, cs, ws, b, rfl, ha, C, hT, k, says, q⟩ := h
  obtain ⟨u1, u2, rfl, r1, r2⟩ := vals2 r
  cases (show u1 = Value.ref a from r1)
  cases (show u2 = Value.ref tp from r2)
  obtain ⟨⟨ob, vs, at_, z, dt⟩, _, _⟩ := I.hok a _ ha
  have J : PySem.W.InstAt s.heap a ob D none := by
    obtain ⟨oc, od, oda, osl⟩ := ob
    obtain ⟨h1, h2⟩ := zc_of z
    dsimp only at h1 h2 dt
    subst h1 h2 dt
    exact ⟨at_, rfl, rfl, trivial⟩
  obtain ⟨_, its, rv, o, h1, h2, n, h3⟩ := (show ObjOk X.prog X.w H s.heap tp (.tup cs) from I.hok tp _ hT)
  have e3 := ClsV.all k rv
  subst e3
  obtain ⟨oc, od, dt, sl⟩ := o
  simp only at h2 h3
  subst h2 h3
  refine PySem.W.kia_tup (PySem.W.handS_kitx_exc C.hg C.hk C.hs C.hd C.ha C.hn C.ht C.hm) I.kIn J h1 says (fun w => nomatch w) fun tk => ?_
  exact ⟨.bl b, H, I.kept (t' := tk) fun _ _ w => w, rfl, q⟩
theorem kit_any {K : PySem.W.Frag} {t : Value} : ∀ {us : List Value} {bs : List Bool}, Paired (fun u b => PySem.W.kitOne K t u = some b) us bs → PySem.W.kitAny K t us = some (bs.any id)
  | _, _, .nil => rfl
  | _, _, .cons (b := b) h k => by
    refine kitAny_cons h (fun e => ?_) (fun e => ?_)
    · have z := kit_any k
      rw [e]; exact z
    · rw [e]; rfl
/-! ### a dict is locked while it is walked -/
theorem lock_d {H : Hp} {d : Addr} {kvs : List (Key × V)} {t : TS} {D : Ends} {σ : L2.St} (h : H d = some (.dK kvs))
    (k : ∀ od, t ⟨fun σ' H' => H' d = some (.frz od (.dK kvs)) ∧ D.nx σ' (upd H' d (.dK kvs)), fun v H' => H' d = some (.frz od (.dK kvs)) ∧ D.rt v (upd H' d (.dK kvs)), fun σ' H' => H' d = some (.frz od (.dK kvs)) ∧ D.bk σ' (upd H' d (.dK kvs)), fun σ' H' => H' d = some (.frz od (.dK kvs)) ∧ D.ct σ' (upd H' d (.dK kvs))⟩ σ (upd H d (.frz od (.dK kvs)))) : tLock t D σ H :=
  ⟨d, _, h, True.intro, k⟩
end Ow
namespace Ow
open PySem PySem.Spec PyProof.Rows L2
/-! ### int(x) by kinds -/
theorem call_intB {X : Cx} : CallR X (.type "int") (fun xs H Q => ∃ k, xs = [.bl k] ∧ Q (.int (if k = true then 1 else 0)) H) := by
  intro pins s σ H xs us Q I r h
  exact call_int1 pins s σ H xs us Q I r (.inr h)
theorem call_intI {X : Cx} : CallR X (.type "int") (fun xs H Q => ∃ i, xs = [.int i] ∧ Q (.int i) H) := by
  intro pins s σ H xs us Q I r h
  exact call_int1 pins s σ H xs us Q I r (.inl h)
/-! ### the keys of a dict, as a view -/
/-- a view of the keys of the dict at d stands at r -/
def KO (r d : Addr) : HO := .ext fun h => PySem.W.KdlKeysView h r d
def rKeysV : V → List V → Hp → VK → Prop := fun x xs H Q => ∃ d kvs, x = .ref d ∧ xs = [] ∧ Rd H d (.dK kvs) ∧ ∀ r, H r = none → Q (.ref r) (upd H r (KO r d))
theorem mt_keys {X : Cx} : MtR X "dict.keys" rKeysV := by
  intro pins s σ H x vs v us Q I rx rv h
  obtain ⟨d, kvs, rfl, rfl, hd, q⟩ := h
  cases rx
  cases rv
  obtain ⟨z, lo, ws, rel, dd⟩ := dk_rd I.hok hd
  refine call_meetsIn F.slot_dict_keys dd.typeIs F.entry_dict_keys (F.args_dict_keys_1 _) (PySem.W.kdl_meets_keys (mixKind X.prog X.w) d lo) ⟨⟨ws, dd⟩, ?_⟩
  refine ⟨.ref s.heap.objs.size, upd H s.heap.objs.size (KO s.heap.objs.size d), I.laid (t' := s.toks) (fun b u e => Heap.get?_push_of_some _ e) (Nat.le_refl _) ?_, rfl, q _ (I.hok.fresh (Nat.le_refl _))⟩
  exact ⟨⟨_, Heap.get?_push_size _ rfl, rfl, rfl⟩, ⟨_, Heap.get?_push_size _ rfl⟩, fun h1 h2 ⟨o, e, c, dt⟩ k => ⟨o, k o e, c, dt⟩⟩
/-- sorted of what lists whole numbers -/
theorem sorted_src {X : Cx} {pins : List (Addr × Obj)} {σ : L2.St} {H : Hp} {s : Shared} {T : String} {r d : Addr} {vs : List (Key × Value)} {OK : Heap → Prop} {ks : List Int} {Q : VK} (hcalm : X.calm = true) (I : Inv X pins σ H s)
    (S : PySem.W.KdlSrc X.prog X.w T r d vs.length (fun i v => ∃ k x, vs[i]? = some (k, x) ∧ (mixKind X.prog X.w).is k v = true) OK) (ok : OK s.heap) (hkeys : vs.map (·.1) = ks.map Sum.inl) (hz : ks.length ≤ sizeLine)
    (q : ∀ (ys : List Int) (p : Addr), ys.Perm ks → ys.Pairwise (· ≤ ·) → H p = none → Q (.ref p) (upd H p (.lst (ys.map V.int)))) : wpAny (model X.prog X.w) X.A (call (.builtin "sorted") [.ref r]) (EP X pins σ Q) X.xe s := by
  have hl : vs.length = ks.length := by
    have e := congrArg List.length hkeys
    rw [List.length_map, List.length_map] at e
    exact e
  refine Calls.call_function_entry PyProof.Rows.kind_sorted PyProof.Rows.plain_sorted PyProof.Rows.entry_sorted (PyProof.Rows.args_sorted1 _) ?_
  unfold Builtin.«sorted»
  refine wpAny_bind (m := checkCount "sorted" 1 1 _) (wpAny_pure ?_)
  refine wpAny_bind (PySem.W.kdu_collect (A := X.A.in1) S (I.ok.hd hcalm) ok (by omega) fun h' tk acc hk hacc => ?_)
  have hal : acc.toList.length = ks.length := by rw [Array.length_toList, hacc.1, hl]
  have hS : IntsAre acc.toList ks := ints_each hal fun j v e => by
    obtain ⟨k, x, e1, e2⟩ := hacc.2 j v (by rw [← Array.getElem?_toList]; exact e)
    have e3 : (vs.map (·.1))[j]? = some k := by rw [List.getElem?_map, e1]; rfl
    rw [hkeys, List.getElem?_map] at e3
    cases e4 : ks[j]? with
    | none => rw [e4] at e3; cases e3
    | some y =>
      rw [e4] at e3
      have e5 : Sum.inl y = k := Option.some.inj e3
      subst e5
      rcases keyIs_shape (show keyIs (Sum.inl y) v = true from e2) with ⟨i, t, ek, ev⟩ | ⟨z, t, ek, ev⟩
      · cases ek
        exact ⟨y, t, rfl, ev⟩
      · cases ek
  have I1 : Inv X pins σ H { s with heap := h', toks := tk } := I.kept hk
  refine wpAny_bind (wpAny_newList ?_ (by rw [hal]; exact hz))
  have hoL : (h'.push (seqObj "list" acc.toList.toArray 0)).get? h'.objs.size = some (seqObj "list" acc.toList.toArray 0) := Heap.get?_push_size _ rfl
  show wpAny _ _ _ _ _ { s with heap := h'.push (seqObj "list" acc.toList.toArray 0), toks := tk }
  refine wpAny_bind (wpAny_holding (wpAny_call_entry PyProof.Rows.slot_list_sort ⟨_, hoL, rfl⟩ PyProof.Rows.entry_list_sort
    (SrtO.list_sort_ord (s := { s with heap := h'.push (seqObj "list" acc.toList.toArray 0), toks := tk }) SrtO.swo_int hoL (by rw [hal]; exact hz) (fun h2 => SrtO.ints_sortable hS h2) fun out h1 h2 => ⟨_, rfl, ?_⟩) (PyProof.Rows.args_list_sort _)))
  obtain ⟨g1, g2, g3⟩ := SrtO.ints_out hS h1 h2
  obtain ⟨e', he'⟩ := PyProof.Rows.sortedHeap_at (vs := acc.toList) (out := out.toArray) hoL
  have hlen : ((out.map SrtO.iv).map V.int).length ≤ sizeLine := by
    rw [List.length_map, g2.length_eq]
    exact hz
  refine wpAny_pure ⟨_, rfl, .ref h'.objs.size, upd H h'.objs.size (.lst ((out.map SrtO.iv).map V.int)), I1.laid (t' := tk) (fun b u e => ?_) (Nat.le_refl _)
    (show ObjOk X.prog X.w _ _ _ (.lst ((out.map SrtO.iv).map V.int)) from ⟨hlen, out, e', vals_of_ints g1, he'⟩), rfl, q _ _ g2 g3 (I1.hok.fresh (Nat.le_refl _))⟩
  have hb : b < h'.objs.size := Heap.lt_size e
  rw [PyProof.Rows.sortedHeap_old (Nat.ne_of_lt hb) (by rw [size_push']; exact Nat.lt_succ_of_lt hb)]
  exact Heap.get?_push_of_some _ e
def rSortedK : List V → Hp → VK → Prop := fun xs H Q => ∃ (r a : Addr) (kvs : List (Key × V)) (ks : List Int), xs = [.ref r] ∧ H r = some (KO r a) ∧ Rd H a (.dK kvs) ∧ kvs.map (·.1) = ks.map Sum.inl ∧
    ∀ (ys : List Int) (p : Addr), ys.Perm ks → ys.Pairwise (· ≤ ·) → H p = none → Q (.ref p) (upd H p (.lst (ys.map V.int)))
/-- sorted(d.keys()), all ints -/
theorem call_sortedK {X : Cx} (hcalm : X.calm = true) : CallR X (.builtin "sorted") rSortedK := by
  intro pins s σ H xs us Q I r q
  obtain ⟨v, a, kvs, ks, ex, hv, hd, hks, q⟩ := q
  subst ex
  obtain ⟨u, eu, rx⟩ := vals1 r
  subst eu
  cases rx
  obtain ⟨hview, _, _⟩ := I.hok v _ hv
  obtain ⟨z, lo, vs, rel, dd⟩ := dk_rd I.hok hd
  obtain ⟨ep, hat⟩ := dd.dictAt
  have hkeys : vs.map (·.1) = ks.map Sum.inl := rel.keys.symm.trans hks
  have hz := congrArg List.length hks
  rw [List.length_map, List.length_map] at hz
  exact sorted_src hcalm I (PySem.W.kdl_keys (knd := mixKind X.prog X.w) (kvs := vs) (ep := ep) (r := v) (d := a)) ⟨hview, hat⟩ hkeys (by omega) q
def rSortedDW : List V → Hp → VK → Prop := fun xs H Q => ∃ (a : Addr) (kvs : List (Key × V)) (ks : List Int), xs = [.ref a] ∧ Rd H a (.dK kvs) ∧ kvs.map (·.1) = ks.map Sum.inl ∧
    ∀ (ys : List Int) (p : Addr), ys.Perm ks → ys.Pairwise (· ≤ ·) → H p = none → Q (.ref p) (upd H p (.lst (ys.map V.int)))
/-- sorted(d), all ints -/
theorem call_sortedDW {X : Cx} (hcalm : X.calm = true) : CallR X (.builtin "sorted") rSortedDW := by
  intro pins s σ H xs us Q I r q
  obtain ⟨a, kvs, ks, ex, hd, hks, q⟩ := q
  subst ex
  obtain ⟨u, eu, rx⟩ := vals1 r
  subst eu
  cases rx
  obtain ⟨z, lo, vs, rel, dd⟩ := dk_rd I.hok hd
  obtain ⟨ep, hat⟩ := dd.dictAt
  have hkeys : vs.map (·.1) = ks.map Sum.inl := rel.keys.symm.trans hks
  have hz := congrArg List.length hks
  rw [List.length_map, List.length_map] at hz
  exact sorted_src hcalm I (PySem.W.kdl_dict (knd := mixKind X.prog X.w) (kvs := vs) (ep := ep) lo) hat hkeys (by omega) q
end Ow
namespace Ow
open PySem PySem.Spec PyProof.Rows L2
/-! ### range(i, j), its ends of any size -/
theorem turn_long {P : Program} {w : World} {K : PySem.W.Frag} {tg : Expr} (it : Addr) (lo : Int) (n : Nat) : Turn P w K tg (Itr lo n) [it] it (fun i h => IsLongIter h it (lo + (i : Nat) * 1) ((n : Int) - (i : Nat)) 1) where
  mem := by simp
  obj := fun i h st b hb => by
    cases List.mem_singleton.mp hb
    exact ⟨_, st, fun v z => by
      have z' : Data.fields _ = Data.cell v := z
      cases z'⟩
  keep := fun i h h' st k => k it (by simp) _ st
  item := by
    intro X hP hw hK hc i pins s σ H E I hf st hg
    subst hP hw hK
    obtain ⟨f0, f1, _, f3, f4, f5⟩ := hf it (by simp)
    have hlt : i < n := hg
    refine wpAny_pyNext_long_item st (by omega) fun h' st' sb => ?_
    have st2 : IsLongIter h' it (lo + ((i + 1 : Nat) : Int) * 1) ((n : Int) - ((i + 1 : Nat) : Int)) 1 := by
      rw [show lo + ((i + 1 : Nat) : Int) * 1 = lo + ((i : Nat) : Int) * 1 + 1 by omega, show (n : Int) - ((i + 1 : Nat) : Int) = (n : Int) - ((i : Nat) : Int) - 1 by omega]
      exact st'
    have J : Inv X pins σ H { s with heap := h', toks := s.toks + 1 } := I.turned (fun b o hb q => (sb.2 b hb).trans q) f0 f1 f3 f4 f5
    refine ⟨_, rfl, go_of (s := { s with heap := h', toks := s.toks + 1 }) (n := "longrange_iterator") st2 rfl rfl (by decide) ⟨.int (lo + i), H, J, ⟨s.toks, ?_⟩, ⟨rfl, rfl⟩, st2, fun b hb => (hf b hb).1⟩⟩
    rw [Int.mul_one]
  done := by
    intro X hP hw hK hc i pins s σ H E I hf st hg
    subst hP hw hK
    obtain ⟨f0, f1, _, f3, f4, f5⟩ := hf it (by simp)
    exact wpAny_pyNext_long_end (I.ok.hd hc) st (by have : n ≤ i := hg; omega) fun h' eb => ⟨rfl, I.turned (t' := s.toks) (fun b o hb q => eb b o hb q) f0 f1 f3 f4 f5⟩
  self := fun _ _ _ _ _ st h => wpAny_pyIter_longiter st h
def iRngW (ta : TA) : TI := fun σ H R => ta σ H fun vs H1 => ∃ i j : Int, vs = [.int i, .int j] ∧ R (Itr i (j - i).toNat) H1
theorem pi_range2W {X : Cx} {tg a b : Expr} {ta : TA} {p pos : Pos} (hg : Gl X "range") (hm : X.mg "range" = none) (ha : PA X [a, b] ta) (hs : starEach [a, b] X.env = [(false, eval a X.env), (false, eval b X.env)] := by rfl) (hs2 : starEach [b] X.env = [(false, eval b X.env)] := by rfl) :
    PI X tg (.Call (.Name "range" p) [a, b] [] pos) (iRngW ta) := by
  constructor
  intro pins s σ H R I h
  refine Call_ (ld_blt I hg hm boot_range (PyProof.Rows.callWith_type1 (thn (ha.run pos pins s σ H _ I h) fun us s1 ⟨vs, H1, I1, r1, lo, hi, ev, q⟩ => ?_) (by rw [hs, hs2]) (by rw [hs2]; rfl)))
  subst ev
  obtain ⟨u1, u2, rfl, ⟨t, rfl⟩, ⟨t', rfl⟩⟩ := vals2 r1
  refine call_range_2 ?_
  generalize hh : s1.heap.push { cls := .type "range", data := .fields #[.int lo t, .int hi t', .int 1 s1.toks] } = g
  have I2 : Inv X pins σ H1 { s1 with heap := g, toks := s1.toks + 1 } := I1.kept fun b o q => by rw [← hh]; exact Heap.get?_push_of_some _ q
  have at_ : IsRange g s1.heap.objs.size lo hi 1 t t' s1.toks := by rw [← hh]; exact Heap.get?_push_size _ rfl
  have size : ((((hi - lo).toNat : Nat) : Int) - ((0 : Nat) : Int)) = Builtin.Range.rangeSize lo hi 1 := by rw [rangeSize_one]; split <;> omega
  have place : lo + ((0 : Nat) : Int) * 1 = lo := by simp
  cases hb : Builtin.Range.small lo hi 1 with
  | true =>
    refine wpAny_pyIter_range at_ hb ⟨g.objs.size, [g.objs.size], _, _, H1, rfl, I2.kept (t' := s1.toks + 1) fun b o q => Heap.get?_push_of_some _ q, turn_range _ lo (hi - lo).toNat, ?_, fun b hb => ?_, q⟩
    · show IsRangeIter _ _ (lo + ((0 : Nat) : Int) * 1) ((((hi - lo).toNat : Nat) : Int) - ((0 : Nat) : Int)) 1
      rw [place, size]
      exact Heap.get?_push_size _ rfl
    · cases List.mem_singleton.mp hb
      exact I2.fpOk (Nat.le_refl _) (I2.hok.fresh (Nat.le_refl _))
  | false =>
    refine wpAny_pyIter_longrange at_ hb ⟨g.objs.size, [g.objs.size], _, _, H1, rfl, I2.kept (t' := s1.toks + 1) fun b o q => Heap.get?_push_of_some _ q, turn_long _ lo (hi - lo).toNat, ?_, fun b hb => ?_, q⟩
    · show IsLongIter _ _ (lo + ((0 : Nat) : Int) * 1) ((((hi - lo).toNat : Nat) : Int) - ((0 : Nat) : Int)) 1
      rw [place, size]
      exact Heap.get?_push_size _ rfl
    · cases List.mem_singleton.mp hb
      exact I2.fpOk (Nat.le_refl _) (I2.hok.fresh (Nat.le_refl _))
end Ow
namespace Ow
open PySem PySem.Spec PyProof.Rows L2
/-! ### defs that are called while an exception is handled -/
theorem roomX {k : Nat} {A : Around} {v : Option Value} (r : Room k A) : L2H.RoomH k (A.mark v) := ⟨r.dp, r.un⟩
/-- the same context under another surrounding, not calm -/
theorem inv_re {X : Cx} {pins : List (Addr × Obj)} {σ : L2.St} {H : Hp} {s : Shared} (I : Inv X pins σ H s) (A2 : Around) (xe2 : Value → Shared → Prop) (h : A2.frames = X.A.frames) : Inv { X with A := A2, calm := false, xe := xe2 } pins σ H s :=
  have k := I.ok
  ⟨⟨k.mod, k.kind, k.glob, k.blt, k.above, k.inj, k.has, k.cab, (fun z => Bool.noConfusion (show false = true from z)), h.trans k.frames, k.stk, k.exf, k.bs, k.bsz, k.noex, k.exfs, k.funs, k.frf⟩, I.os, I.bare, I.base, I.loc, I.cell, I.free, I.freeC, I.pin, I.hok, I.len⟩
/-- what a def promises where the exception at a is handled -/
structure FnX (P : Program) (w : World) (K : PySem.W.Frag) (mg : Str → Option Value) (base : Heap) (k : Nat) (f : Addr) (fd : FuncData) (ps : List Str) (sp : Addr → Sp) : Prop where
  many : ∀ a vs H Q E, sp a vs H Q E → vs.length = ps.length
  runs : ∀ (a : Addr) (A : Around) (outer : List Env) (s : Shared) (H : Hp) (args : Args) (us : List Value) (vs : List V) (Q : VK) (E : XK), A.handled = some (.ref a) → L2H.RoomH k A → Env0 P w K mg base A outer s H → BindsTo s fd args (ps.zip us) → Vals vs us → sp a vs H Q E →
    codeAny (model P w) A (.call (.ref f) args) (CR (L2N.CX P w) outer P w H s Q E) s
abbrev cxX (P : Program) (w : World) (K : PySem.W.Frag) (mg : Str → Option Value) (base : Heap) (N : List Str) (qual : Str) (scope : Scope) (f : Addr) (cd : Value) (A : Around) (outer : List Env) (s : Shared) (H : Hp) (E : XK) : Cx :=
  { cxOf (L2N.CX P w) P w K mg base N qual scope f cd A outer s H E with calm := false }
section
variable {P : Program} {w : World} {K : PySem.W.Frag} {mg : Str → Option Value} {base : Heap}
theorem fnX_of {x qual : Str} {params : Arguments} {body : List Stmt} {scope : Scope} {f : Addr} {fd : FuncData} {N ps : List Str} {k : Nat} {sp : Addr → Sp} (F : FunD K x qual params body scope [] [] f fd) (S : FnScope N ps scope) (many : ∀ a vs H Q E, sp a vs H Q E → vs.length = ps.length)
    (does : ∀ (cdv : Value) (A : Around) (outer : List Env) (s : Shared) (H : Hp) (vs : List V) (Q : VK) (E : XK) (a : Addr), A.handled = some (.ref a) → L2H.RoomH k (A.deeper (envOfC qual scope s.heap.objs.size f cdv)) → sp a vs H Q E →
      ∃ t, PSs (cxX P w K mg base N qual scope f cdv A outer s H E) body t ∧ t { nx := fun _ H' => Q .non H', rt := Q } (L2.start N vs) H) : FnX P w K mg base (k + 1) f fd ps sp := by
  obtain ⟨oc, od, dV, kV, doc, pm, an, cdv, ct, osl, rfl, looked, coded, _, _⟩ := F.ex
  refine ⟨many, fun a A outer s H args us vs Q E hot room e0 bound r asked => ?_⟩
  have given := many _ _ _ _ _ asked
  have inK : K.In s.heap := e0.mod.kin.keeps fun b o e => (e0.bs b o e).1
  have unbound : s.heap.NoLimit := e0.mod.nolimit.keeps fun b o e => (e0.bs b o e).1
  have kinds : ∀ y ∈ ps.zip us, scope.names.lookup y.1 = some .local ∨ (scope.names.lookup y.1 = some .cell ∧ ((cellsFrom (s.heap.objs.size + 1) scope.names []).lookup y.1).isSome = true) := by
    intro y hy
    refine (S.par y.1 (List.of_mem_zip (a := y.1) (b := y.2) hy).1).imp (fun z => z) fun z => ⟨z, ?_⟩
    exact PySem.W.cellsFrom_some _ _ _ (.inl z)
  refine codeAny_call_function room.depth (inK _ _ looked) rfl S.co S.gen rfl (PySem.W.codeRec_of inK coded) (bound _ _ _ _ (wpAny_newFunctionEnv_cells S.kind kinds fun env he s1 x => ?_))
  cases he
  refine ⟨unbound.keeps x.toInCall.keep, codeAny_func ?_⟩
  obtain ⟨t, derived, reads⟩ := does cdv A outer s H vs Q E a hot (room.deeper _) asked
  have cold : Env0 P w K mg base { A with handled := none } outer s H := ⟨e0.frames, e0.mod, e0.bs, e0.bsz, e0.funs, e0.frf, e0.hok, e0.bare⟩
  have I : Inv (cxX P w K mg base N qual scope f cdv A outer s H E) [] (L2.start N vs) H s1 := inv_re (inv_start (CX := L2N.CX P w) (E := E) S rfl cold given r x) (A.deeper (envOfC qual scope s.heap.objs.size f cdv)) _ rfl
  refine wpAny_mono (derived.run [] s1 (L2.start N vs) H _ I reads) (fun fl s2 ends => ?_) fun _ _ left => left
  rcases fl with _ | _ | _ | u
  · obtain ⟨τ, G, J, q⟩ := ends
    exact ⟨.non, G, J.os, J.bare, J.base, J.hok, rfl, q⟩
  · exact ends.elim fun _ z => z.elim fun _ z => z.2.elim
  · exact ends.elim fun _ z => z.elim fun _ z => z.2.elim
  · obtain ⟨v, τ, G, J, rv, q⟩ := ends
    exact ⟨v, G, J.os, J.bare, J.base, J.hok, rv, q⟩
end
/-- a def that may be called so -/
structure CeeX (P : Program) (w : World) (K : PySem.W.Frag) (mg : Str → Option Value) (base : Heap) (k : Nat) (f : Addr) (ps : List Str) (sp : Addr → Sp) : Prop where
  kp : PySem.W.keepIn K (.ref f) = true
  fn : ∃ fd, FnX P w K mg base k f fd ps (fun a => bx (sp a)) ∧ Binds K fd ps []
theorem ceeX_of {P : Program} {w : World} {K : PySem.W.Frag} {mg : Str → Option Value} {base : Heap} {x qual : Str} {params : Arguments} {body : List Stmt} {scope : Scope} {f : Addr} {N ps : List Str} {k : Nat} {sp : Addr → Sp} (F : ∃ fd, FunD K x qual params body scope [] [] f fd) (S : FnScope N ps scope)
    (hb : ∀ (kV doc pm : Value) (an : Option Addr) (cdv ct : Value) (us : List Value), us.length = ps.length → bindArgs (PySem.W.fnOf x qual params body scope .none kV doc pm an cdv ct) ⟨us, []⟩ = pure (ps.zip us))
    (many : ∀ a vs H Q E, sp a vs H Q E → vs.length = ps.length)
    (does : ∀ (cdv : Value) (A : Around) (outer : List Env) (s : Shared) (H : Hp) (vs : List V) (Q : VK) (E : XK) (a : Addr), A.handled = some (.ref a) → L2H.RoomH k (A.deeper (envOfC qual scope s.heap.objs.size f cdv)) → sp a vs H Q E →
      ∃ t, PSs (cxX P w K mg base N qual scope f cdv A outer s H E) body t ∧ t { nx := fun _ H' => Q .non H', rt := Q } (L2.start N vs) H) : CeeX P w K mg base (k + 1) f ps sp := by
  obtain ⟨fd, F⟩ := F
  exact ⟨F.kp, fd, fnX_of F S (fun a vs H Q E h => many a vs H Q E h.out) (fun cdv A outer s H vs Q E a hot room h => does cdv A outer s H vs Q E a hot room h.out), F.bindsN hb⟩
section
variable {X : Cx} {k : Nat} {f a : Addr} {ps : List Str} {sp : Addr → Sp} {W : WX} {x : Str} {p pos : Pos} {e : Expr} {es : List Expr} {t : TA}
theorem pe_fX (c : CeeX X.prog X.w X.K X.mg X.base k f ps sp) (hr : L2H.RoomH k X.A) (hot : X.A.handled = some (.ref a)) (tk : L2N.Takes X W) (hg : Gl X x) (hm : X.mg x = some (.ref f)) (ha : PA X (e :: es) t) (hdb : (x == ("__debug__" : Str)) = false := by decide)
    (he : starEach (e :: es) X.env = (false, eval e X.env) :: starEach es X.env := by rfl) (hpl : (backTo pos (starEach es X.env)).any (·.1) = false := by rfl) :
    PE X (.Call (.Name x p) (e :: es) [] pos) (tCallS (bx (sp a)) (WE W) t) := by
  obtain ⟨fd, F, b⟩ := c.fn
  constructor
  intro pins s σ H Q I h
  refine wpAny_Call_Name_kw (ld_glob I hg hm (PySem.W.callWith_K (h₀ := X.base) I.ok.mod.kin c.kp (thn (ha.run pos pins s σ H _ I h) fun us s1 ⟨vs, H1, I1, rv, q⟩ => ⟨I1.kIn, ?_⟩) he hpl) hdb)
  have many : us.length = ps.length := by rw [← rv.length]; exact F.many _ _ _ _ _ q
  have binds := b s1 us I1.kIn (by rw [List.append_nil]; exact many)
  rw [List.append_nil] at binds
  refine wpAny_call (codeAny_mono (F.runs a X.A X.stack s1 H1 ⟨us, []⟩ us vs Q (WE W σ) hot hr I1.env0 binds rv q) fun r s' ends => ?_)
  rcases r with ev | fl
  · exact L2N.passAt tk σ pins H1 s1 ev s' I1 ends
  · rcases fl with _ | _ | _ | u
    · exact ends.elim
    · exact ends.elim
    · exact ends.elim
    · exact I1.after ends
end
end Ow
namespace Ow
open PySem PySem.Spec PyProof.Rows L2 HotX
/-! ### comprehensions and sums where the tracked exception at a is handled -/
abbrev TrkX (a : Addr) (H : Hp) : Prop := ∃ cls d, H a = some (CxO cls d a)
theorem hot_at {X : Cx} {pins : List (Addr × Obj)} {σ : L2.St} {H : Hp} {s : Shared} {a : Addr} (I : Inv X pins σ H s) (hot : X.A.handled = some (.ref a)) (h : TrkX a H) : HotAt X.A a s.heap := by
  obtain ⟨cls, d, ha⟩ := h
  obtain ⟨⟨o, vs, e, z, dt⟩, _, _⟩ := I.hok a _ ha
  exact ⟨hot, o, vs, e, dt, z.2.2 vs dt⟩
theorem list_end_hot {prog : Program} {w : World} {A : Around} {E : Value → Shared → Prop} {s : Shared} {it l x1 : Addr} {i : Nat} {items : Array Value} {Q : Option Value → Shared → Prop} (hot : HotAt A x1 s.heap) (hit : s.heap.IsListIter it l i) (hl : s.heap.IsList l items) (hx : items[i]? = none)
    (hQ : ∀ h', (∀ b o, b ≠ it → s.heap.get? b = some o → h'.get? b = some o) → Q none { s with heap := h' }) : wpAny (model prog w) A (pyNext (.ref it)) Q E s := by
  obtain ⟨o, ho, hc, hd⟩ := id hit
  obtain ⟨ol, hol, hcl, nl, hdl⟩ := id hl
  obtain ⟨handled, o1, vs1, h1, d1, c1⟩ := hot
  have apart : x1 ≠ it := fun z => by
    rw [z, ho] at h1
    cases h1
    rw [hd] at d1
    cases d1
    cases c1
  unfold pyNext
  refine wpAny_bind (wpAny_attempt (wpAny_callSpecial?_slot (name := Str.ofString "__next__") hit.typeIs slot_listiter_next (wpAny_call_entry slot_listiter_next hit.typeIs entry_listiter_next ?_ (args_listiter_next _))))
  show wpAny _ _ (field (.ref it) 0 >>= fun _ => _) _ _ s
  refine wpAny_bind (wpAny_field ho hd (x := .ref l) rfl ?_)
  show wpAny _ _ (if (Value.ref l == Value.none) = true then _ else _) _ _ _
  rw [if_neg (show ¬ (Value.ref l == Value.none) = true from Bool.false_ne_true)]
  show wpAny _ _ (field (.ref it) 1 >>= fun _ => _) _ _ s
  refine wpAny_bind (wpAny_field ho hd (x := .int i 0) rfl ?_)
  show wpAny _ _ (seqItems? (.ref l) >>= fun _ => _) _ _ s
  refine wpAny_bind (wpAny_seqItems hol hdl ?_)
  simp only [Int.toNat_natCast, hx]
  refine wpAny_bind (wpAny_rule (wpAny_bind (wpAny_setField ho hd (by simp) ?_)))
  show wpAny _ _ (newExc (.type "StopIteration") [] >>= fun _ => _) _ _ _
  refine wpAny_bind ?_
  simp only [newExc, newTuple]
  refine wpAny_bind (wpAny_newObj_type ?_ (by size_fits))
  refine wpAny_bind (m := firstArgMember _ _) (wpAny_of_eq (a := Value.none) (by first | rfl | (simp only [firstArgMember]; rfl)) ?_)
  refine wpAny_newObj_type ?_ (by size_fits)
  have still : (s.heap.update it (Obj.mapFields (·.setIfInBounds 0 Value.none))).get? x1 = some o1 := by
    rw [Heap.get?_update_other _ _ apart.symm]
    exact h1
  refine raiseNew_hot ⟨handled, o1, vs1, Heap.get?_push_of_some _ (Heap.get?_push_of_some _ still), d1, c1⟩ (Nat.ne_of_lt (Heap.lt_size (Heap.get?_push_of_some _ still))) (Heap.get?_push_size _ rfl) rfl (by first | (simp; done) | (simp; omega) | (simp only [Array.size_append]; simp; omega)) ?_
  refine wpAny_bind (wpAny_isInstance (T := "StopIteration") (b := true) ⟨_, Heap.get?_update_self _ (Heap.get?_push_size _ rfl) rfl, rfl⟩ isSubtype_stop ?_)
  refine wpAny_pure (hQ _ fun b ob ne e => ?_)
  have e2 : (s.heap.update it (Obj.mapFields (·.setIfInBounds 0 Value.none))).get? b = some ob := by
    rw [Heap.get?_update_other _ _ (Ne.symm ne)]
    exact e
  rw [Heap.get?_update_other _ _ (Nat.ne_of_gt (Heap.lt_size (Heap.get?_push_of_some _ e2)))]
  exact Heap.get?_push_of_some _ (Heap.get?_push_of_some _ e2)
/-- what is walked stops only where the exception is tracked -/
def hotIt (a : Addr) (J : It) : It := ⟨J.go, J.yld, fun i H => J.stop i H ∧ TrkX a H⟩
theorem walk_hot {J : It} {n : Nat} {G : Hp → Prop} {Y : Nat → Hp → V → Hp → Prop} {a : Addr} (w : Walk J n G Y) : Walk (hotIt a J) n (fun H => G H ∧ TrkX a H) Y :=
  ⟨fun i H hi h => w.goes i H hi h.1, fun H h => ⟨w.stops H h.1, h.2⟩, fun i H x H' hi h y => w.yields i H x H' hi h.1 y⟩
structure TurnX (a : Addr) (P : Program) (w : World) (K : PySem.W.Frag) (tg : Expr) (J : It) (fp : List Addr) (it : Addr) (tn : Nat → Heap → Prop) : Prop where
  inside : it ∈ fp
  things : ∀ i h, tn i h → ∀ b ∈ fp, ∃ o, h.get? b = some o ∧ ∀ v, o.data ≠ .cell v
  stays : ∀ i h h', tn i h → (∀ b ∈ fp, ∀ o, h.get? b = some o → h'.get? b = some o) → tn i h'
  gives : ∀ (X : Cx), X.prog = P → X.w = w → X.K = K → ∀ (i : Nat) (pins : List (Addr × Obj)) (s : Shared) (σ : L2.St) (H : Hp) (E : Value → Shared → Prop), Inv X pins σ H s → (∀ b ∈ fp, FpOk X pins H b) → tn i s.heap → J.go i H →
    wpAny (model P w) X.A (pyNext (.ref it)) (fun r s1 => ∃ u, r = some u ∧ wpAny (model P w) X.A (letOwnedTupleGo tg (.ref it) u) (fun _ s2 => ∃ x H', Inv X pins σ H' s2 ∧ RelV x u ∧ J.yld i H x H' ∧ tn (i + 1) s2.heap ∧ ∀ b ∈ fp, H' b = none) E s1) E s
  ends : ∀ (X : Cx), X.prog = P → X.w = w → X.K = K → X.A.handled = some (.ref a) → ∀ (i : Nat) (pins : List (Addr × Obj)) (s : Shared) (σ : L2.St) (H : Hp) (E : Value → Shared → Prop), Inv X pins σ H s → (∀ b ∈ fp, FpOk X pins H b) → tn i s.heap → J.stop i H → TrkX a H →
    wpAny (model P w) X.A (pyNext (.ref it)) (fun r s1 => r = none ∧ Inv X pins σ H s1) E s
  same : ∀ (A : Around) (i : Nat) (s : Shared) (Q : Value → Shared → Prop) (E : Value → Shared → Prop), tn i s.heap → Q (.ref it) s → wpAny (model P w) A (pyIter (.ref it)) Q E s
theorem turnX_list {P : Program} {w : World} {K : PySem.W.Frag} {tg : Expr} (e a it : Addr) : TurnX e P w K tg (Itl K a) [it] it (fun i h => h.IsListIter it a i) where
  inside := by simp
  things := fun i h st b hb => by
    obtain ⟨o, q, c, d⟩ := st
    cases List.mem_singleton.mp hb
    exact ⟨o, q, fun v z => by rw [d] at z; cases z⟩
  stays := fun i h h' st k => st.at fun o q => k it (by simp) o q
  gives := by
    intro X hP hw hK i pins s σ H E I hf st hg
    subst hP hw hK
    obtain ⟨xs, x, hq, hx⟩ := hg
    obtain ⟨its, rv, p, _⟩ := I.list hq
    obtain ⟨u, hu, ru⟩ := rv.get hx
    obtain ⟨f0, f1, _, f3, f4, f5⟩ := hf it (by simp)
    refine wpAny_pyNext_list_item st p.isList (x := u) (by simpa using hu) fun h' st' sb => ?_
    have J : Inv X pins σ H { s with heap := h' } := I.turned (t' := s.toks) (fun b o hb q => (sb.2 b hb).trans q) f0 f1 f3 f4 f5
    obtain ⟨o, q, c, d⟩ := id st'
    exact ⟨u, rfl, go_of (s := { s with heap := h' }) q c d (by decide) ⟨x, H, J, ru, ⟨rfl, fun ys hy => by rw [I.list_inj hy hq]; exact hx⟩, st', fun b hb => (hf b hb).1⟩⟩
  ends := by
    intro X hP hw hK hot i pins s σ H E I hf st hg tr
    subst hP hw hK
    obtain ⟨xs, hq, hx⟩ := hg
    obtain ⟨its, rv, p, _⟩ := I.list hq
    obtain ⟨f0, f1, _, f3, f4, f5⟩ := hf it (by simp)
    have hl := rv.length
    exact list_end_hot (hot_at I hot tr) st p.isList (by simp; omega) fun h' eb => ⟨rfl, I.turned (t' := s.toks) (fun b o hb q => eb b o hb q) f0 f1 f3 f4 f5⟩
  same := fun _ _ _ _ _ st h => wpAny_pyIter_listiter st h
theorem turnX_range {P : Program} {w : World} {K : PySem.W.Frag} {tg : Expr} (e it : Addr) (lo : Int) (n : Nat) : TurnX e P w K tg (Itr lo n) [it] it (fun i h => IsRangeIter h it (lo + (i : Nat) * 1) ((n : Int) - (i : Nat)) 1) where
  inside := by simp
  things := fun i h st b hb => by
    cases List.mem_singleton.mp hb
    exact ⟨_, st, fun v z => by
      have z' : Data.fields _ = Data.cell v := z
      cases z'⟩
  stays := fun i h h' st k => k it (by simp) _ st
  gives := by
    intro X hP hw hK i pins s σ H E I hf st hg
    subst hP hw hK
    obtain ⟨f0, f1, _, f3, f4, f5⟩ := hf it (by simp)
    have hlt : i < n := hg
    refine wpAny_pyNext_range_item st (by omega) fun h' st' sb => ?_
    have st2 : IsRangeIter h' it (lo + ((i + 1 : Nat) : Int) * 1) ((n : Int) - ((i + 1 : Nat) : Int)) 1 := by
      rw [show lo + ((i + 1 : Nat) : Int) * 1 = lo + ((i : Nat) : Int) * 1 + 1 by omega, show (n : Int) - ((i + 1 : Nat) : Int) = (n : Int) - ((i : Nat) : Int) - 1 by omega]
      exact st'
    have J : Inv X pins σ H { s with heap := h', toks := s.toks + 1 } := I.turned (fun b o hb q => (sb.2 b hb).trans q) f0 f1 f3 f4 f5
    refine ⟨_, rfl, go_of (s := { s with heap := h', toks := s.toks + 1 }) (n := "range_iterator") st2 rfl rfl (by decide) ⟨.int (lo + i), H, J, ⟨s.toks, ?_⟩, ⟨rfl, rfl⟩, st2, fun b hb => (hf b hb).1⟩⟩
    rw [Int.mul_one]
  ends := by
    intro X hP hw hK hot i pins s σ H E I hf st hg tr
    subst hP hw hK
    obtain ⟨f0, f1, _, f3, f4, f5⟩ := hf it (by simp)
    exact pyNext_range_end_hot (hot_at I hot tr) st (by have : n ≤ i := hg; omega) fun h' eb => ⟨rfl, I.turned (t' := s.toks) (fun b o _ q => eb b o q) f0 f1 f3 f4 f5⟩
  same := fun _ _ _ _ _ st h => wpAny_pyIter_rangeiter st h
/-- an iterator has come -/
def ItX (a : Addr) (X : Cx) (pins : List (Addr × Obj)) (σ : L2.St) (tg : Expr) (R : It → Hp → Prop) (itv : Value) (s2 : Shared) : Prop :=
  ∃ (it : Addr) (fp : List Addr) (tn : Nat → Heap → Prop) (J : It) (H' : Hp), itv = .ref it ∧ Inv X pins σ H' s2 ∧ TurnX a X.prog X.w X.K tg J fp it tn ∧ tn 0 s2.heap ∧ (∀ b ∈ fp, FpOk X pins H' b) ∧ R (hotIt a J) H'
structure PIX (a : Addr) (X : Cx) (tg iter : Expr) (wi : TI) : Prop where
  run : ∀ (pins : List (Addr × Obj)) (s : Shared) (σ : L2.St) (H : Hp) (R : It → Hp → Prop), Inv X pins σ H s → wi σ H R → wpAny (model X.prog X.w) X.A (eval iter X.env) (fun v s1 => wpAny (model X.prog X.w) X.A (pyIter v) (ItX a X pins σ tg R) X.xe s1) X.xe s
section
variable {X : Cx} {tg : Expr} {a : Addr}
theorem PIX.box {e : Expr} {w : TI} (h : PIX a X tg e w) : PIX a X tg e (fun σ H R => w σ H fun J H1 => Box (R J H1)) :=
  ⟨fun pins s σ H R I q => thn (h.run pins s σ H _ I q) fun _ _ h1 => thn h1 fun _ _ ⟨it, fp, tn, J, H', e, I', T, t0, f, r⟩ => ⟨it, fp, tn, J, H', e, I', T, t0, f, r.out⟩⟩
def iListX (K : PySem.W.Frag) (a : Addr) (tl : TE) : TI := fun σ H R => tl σ H fun x H1 => ∃ l, x = .ref l ∧ (∃ xs, SqL K H1 l xs) ∧ R (hotIt a (Itl K l)) H1
theorem piX_list {l : Expr} {tl : TE} (hl : PE X l tl) : PIX a X tg l (iListX X.K a tl) := by
  constructor
  intro pins s σ H R I h
  refine thn (hl.run pins s σ H _ I h) fun v s1 ⟨x, H1, I1, r1, l, ex, ⟨xs, hq⟩, q⟩ => ?_
  subst ex
  cases r1
  obtain ⟨its, rv, p, _⟩ := I1.list hq
  refine wpAny_pyIter_list p.isList ⟨s1.heap.objs.size, [s1.heap.objs.size], _, _, H1, rfl, I1.kept (t' := s1.toks) fun b o e => Heap.get?_push_of_some _ e, turnX_list a l _, ⟨_, Heap.get?_push_size _ rfl, rfl, rfl⟩, fun b hb => ?_, q⟩
  cases List.mem_singleton.mp hb
  exact I1.fpOk (Nat.le_refl _) (I1.hok.fresh (Nat.le_refl _))
def iRngX (a : Addr) (ta : TA) : TI := fun σ H R => ta σ H fun vs H1 => ∃ j : Int, vs = [.int j] ∧ -(2 ^ 62) ≤ j ∧ j < 2 ^ 62 ∧ R (hotIt a (Itr 0 j.toNat)) H1
theorem piX_range1 {e : Expr} {ta : TA} {p pos : Pos} (hg : Gl X "range") (hm : X.mg "range" = none) (ha : PA X [e] ta) (hs : starEach [e] X.env = [(false, eval e X.env)] := by rfl) : PIX a X tg (.Call (.Name "range" p) [e] [] pos) (iRngX a ta) := by
  constructor
  intro pins s σ H R I h
  refine Call_ (ld_blt I hg hm boot_range (PyProof.Rows.callWith_type1 (thn (ha.run pos pins s σ H _ I h) fun us s1 ⟨vs, H1, I1, r1, j, ev, q1, q2, q⟩ => ?_) hs rfl))
  subst ev
  obtain ⟨u, rfl, t, rfl⟩ := vals1 r1
  refine call_range_1 (wpAny_pyIter_range (IsRange.new ..) (small_one (by omega) (by omega) q1 q2) ?_)
  generalize hh : s1.heap.push { cls := .type "range", data := .fields #[.int 0 s1.toks, .int j t, .int 1 (s1.toks + 1)] } = g
  have I2 : Inv X pins σ H1 { s1 with heap := g, toks := s1.toks + 1 + 1 } := I1.kept fun b o q => by rw [← hh]; exact Heap.get?_push_of_some _ q
  refine ⟨g.objs.size, [g.objs.size], _, _, H1, rfl, I2.kept (t' := s1.toks + 1 + 1) fun b o q => Heap.get?_push_of_some _ q, turnX_range a _ 0 j.toNat, ?_, fun b hb => ?_, q⟩
  · show IsRangeIter _ _ (0 + ((0 : Nat) : Int) * 1) (((j.toNat : Nat) : Int) - ((0 : Nat) : Int)) 1
    rw [show (0 : Int) + ((0 : Nat) : Int) * 1 = 0 by simp, show ((j.toNat : Nat) : Int) - ((0 : Nat) : Int) = Builtin.Range.rangeSize 0 j 1 by rw [rangeSize_one]; split <;> omega]
    exact Heap.get?_push_size _ rfl
  · cases List.mem_singleton.mp hb
    exact I2.fpOk (Nat.le_refl _) (I2.hok.fresh (Nat.le_refl _))
theorem lcX_core {pins : List (Addr × Obj)} {s : Shared} {σ : L2.St} {H : Hp} {Q : VK} {elt iter : Expr} {ifs : List Expr} {scope : Scope} {own : List (Str × Nat)} {pos pos' : Pos} {wi : TI} {g : TG} {tt : TT} {te : TE} {use : Option (Value → Sem Unit)} {Qf : Value → Shared → Prop}
    (hot : X.A.handled = some (.ref a)) (nd : X.N.Nodup) (I : Inv X pins σ H s) (hi : PIX a X tg iter wi) (ok : BlkOk X.N X.env.scope scope own)
    (dg : ∀ (s : Shared) (H : Hp) (C : Addr) (cl : List (Str × Addr)) (fp : List Addr), PG (X.blk s H scope (compEnvC scope cl C X.env) fp) tg g) (dt : ∀ (s : Shared) (H : Hp) (C : Addr) (cl : List (Str × Addr)) (fp : List Addr), PTs (X.blk s H scope (compEnvC scope cl C X.env) fp) ifs tt)
    (de : ∀ (s : Shared) (H : Hp) (C : Addr) (cl : List (Str × Addr)) (fp : List Addr), PE (X.blk s H scope (compEnvC scope cl C X.env) fp) elt te) (unfolded : ∀ x, foldedSetIterable iter X.env x = pure x)
    (asked : tLc wi g tt te (own.map (·.2)) σ H Q)
    (last : ∀ D C s' m H', Inv X pins σ H' s' → Q (.ref D) H' → s'.heap.Ns C m → FpOk X pins H' C → compPost (model X.prog X.w) X.A X.xe use Qf (.ref D) C (.ok .next) s') :
    wpAny (model X.prog X.w) X.A (comprehension (.ListComp elt [⟨tg, iter, ifs, 0⟩] scope pos) scope X.env pos' (newList []) false (eval iter X.env) use) Qf X.xe s := by
  have frees : ∀ y ∈ scope.names, y.2 = .free → ∃ c, X.env.cells.lookup y.1 = some c := fun y hy e => (ok.free y hy e).elim (fun k => I.ok.has _ (.inl k)) fun k => I.ok.has _ (.inr k)
  refine wpAny_comprehension_free (use := use) rfl unfolded (closure_ok frees) ok.kind (fun y hy e => by rw [ok.uniq y hy, e]) (thn (hi.run pins s σ H _ I asked) fun xv s1 hx => thn hx fun itv s2 came => ?_)
  obtain ⟨it, fp, tn, J, H2, rfl, I2, T, st2, f2, more⟩ := came
  refine wpAny_newObj_type (newEnv_comp ?_) (by show 0 ≤ sizeLine; decide)
  generalize hD : s2.heap.objs.size = D
  have newD : H2 D = none := I2.hok.fresh (Nat.le_of_eq hD)
  obtain ⟨W, ⟨m0, w0⟩, turn⟩ := more D newD
  generalize e3 : ({ s2 with heap := s2.heap.push { cls := .type "list", data := .seq ([] : List Value).toArray } } : Shared) = s3
  have h3 : s3.heap = s2.heap.push { cls := .type "list", data := .seq ([] : List Value).toArray } := by rw [← e3]
  have I3 : Inv X pins σ (upd H2 D (.lst [])) s3 := by
    rw [← e3]
    exact I2.laid (t' := s2.toks) (fun b o e => Heap.get?_push_of_some _ e) (Nat.le_of_eq hD) ⟨Nat.zero_le _, [], 0, .nil, by rw [← hD]; exact Heap.get?_push_size _ rfl⟩
  have f3 : ∀ b ∈ fp, FpOk X pins (upd H2 D (.lst [])) b ∧ b < s3.heap.objs.size := fun b hb => by
    obtain ⟨o, e, _⟩ := T.things _ _ st2 b hb
    have small := Heap.lt_size e
    refine ⟨⟨?_, (f2 b hb).2⟩, by rw [h3, Heap.size_push]; exact Nat.lt_succ_of_lt small⟩
    rw [upd_ne (by rw [← hD]; exact Nat.ne_of_lt small)]
    exact (f2 b hb).1
  have st3 : tn 0 s3.heap := T.stays _ _ _ st2 fun b _ o e => by rw [h3]; exact Heap.get?_push_of_some _ e
  have I4 := block_start I3 ok nd f3
  have kg := dg s3 (upd H2 D (.lst [])) s3.heap.objs.size (cellsFrom (s3.heap.objs.size + 1) scope.names (cloFrom X.env.cells scope.names [])) fp
  have kt := dt s3 (upd H2 D (.lst [])) s3.heap.objs.size (cellsFrom (s3.heap.objs.size + 1) scope.names (cloFrom X.env.cells scope.names [])) fp
  have ke := de s3 (upd H2 D (.lst [])) s3.heap.objs.size (cellsFrom (s3.heap.objs.size + 1) scope.names (cloFrom X.env.cells scope.names [])) fp
  show codeAny _ _ (.compStart (.ListComp elt [⟨tg, iter, ifs, 0⟩] scope pos) 0 (.ref it) (.ref D) (compEnvC scope (cellsFrom (s3.heap.objs.size + 1) scope.names (cloFrom X.env.cells scope.names [])) s3.heap.objs.size X.env)) (compPost (model X.prog X.w) X.A X.xe use Qf (.ref D) s3.heap.objs.size) { s3 with heap := pushCells (s3.heap.push { cls := .type "dict", data := .dict #[] }) scope.names }
  have free3 : ∀ b ∈ fp, (upd H2 D (.lst [])) b = none := fun b hb => (f3 b hb).1.1
  generalize he : compEnvC scope (cellsFrom (s3.heap.objs.size + 1) scope.names (cloFrom X.env.cells scope.names [])) s3.heap.objs.size X.env = ce at I4 kg kt ke ⊢
  have locals : ce.locals = s3.heap.objs.size := by cases he; rfl
  generalize hH3 : upd H2 D (.lst []) = H3 at I3 I4 kg kt ke w0 free3 f3
  generalize e4 : ({ s3 with heap := pushCells (s3.heap.push { cls := .type "dict", data := .dict #[] }) scope.names } : Shared) = s4 at I4 ⊢
  have st4 : tn 0 s4.heap := T.stays _ _ _ st3 fun b _ o e => by rw [← e4]; exact pushCells_keeps _ _ _ _ (Heap.get?_push_of_some _ e)
  have fpok : ∀ {τ : L2.St} {G : Hp} {s' : Shared}, Inv (X.blk s3 H3 scope ce fp) [] τ G s' → (∀ b ∈ fp, G b = none) → ∀ b ∈ fp, FpOk (X.blk s3 H3 scope ce fp) [] G b := fun {τ G s'} I' hn b hb =>
    ⟨hn b hb, (I'.ok.exf b hb).1, I'.ok.exfs b hb, .inl hb, fun x c e => (I'.ok.exf b hb).2 x c e, fun p hp => absurd (show p ∈ ([] : List (Addr × Obj)) ++ [] from hp) (by simp)⟩
  have loop : codeAny (model X.prog X.w) X.A (.compLoop (.ListComp elt [⟨tg, iter, ifs, 0⟩] scope pos) 0 (.ref it) (.ref D) ce) (compPost (model X.prog X.w) X.A X.xe use Qf (.ref D) s3.heap.objs.size) s4 := by
    refine compLoop_any (fun n s' => ∃ i G, Inv (X.blk s3 H3 scope ce fp) [] (wipe σ (own.map (·.2))) G s' ∧ tn i s'.heap ∧ (∀ b ∈ fp, G b = none) ∧ W i n G) ?_ m0 ⟨0, H3, I4, st4, free3, w0⟩
    rintro n s5 ⟨i, H5, I5, st5, n5, w5⟩
    rcases turn i n H5 w5 with ⟨⟨stop, tr⟩, wish⟩ | ⟨go, Nx, reach, step⟩
    · refine thnF (T.ends (X.blk s3 H3 scope ce fp) rfl rfl rfl hot i [] s5 _ H5 (fun _ _ => False) I5 (fpok I5 n5) st5 stop tr) fun r s6 ⟨er, I6⟩ => ?_
      cases er
      have I7 : Inv X pins σ H5 s6 := I3.call' (ch := fp) I6.os I6.base I6.hok I6.bare fun b hb => ⟨(f3 b hb).1.2.2.2.1, (f3 b hb).1.2.1, (f3 b hb).1.2.2.2.2.1, (f3 b hb).1.2.2.2.2.2⟩
      have noC : H5 s3.heap.objs.size = none := locals ▸ (show H5 ce.locals = none from I6.free)
      obtain ⟨m, ns, _⟩ := I6.loc
      have ns : s6.heap.Ns s3.heap.objs.size m := locals ▸ (show s6.heap.Ns ce.locals m from ns)
      exact last D s3.heap.objs.size s6 m H5 I7 wish ns (I3.fpOk (Nat.le_refl _) noC)
    · refine thnF (T.gives (X.blk s3 H3 scope ce fp) rfl rfl rfl i [] s5 _ H5 (fun _ _ => False) I5 (fpok I5 n5) st5 go) fun r s6 ⟨u, er, h6⟩ => ?_
      cases er
      refine thnF h6 fun _ s7 ⟨x, H7, I7, r7, y7, st7, n7⟩ => ?_
      have I7' := I7.pinned (fpok I7 n7) (T.things _ _ st7)
      refine thnF (kg.run _ s7 _ H7 x u _ I7' r7 (step x H7 y7)) fun _ s8 ⟨σ8, H8, I8, hw8, q8⟩ => thnF (kt.run _ s8 σ8 H8 _ I8 q8) fun b s9 ⟨H9, I9, q9⟩ => ?_
      have turned : ∀ {s' : Shared} {G : Hp}, Inv (X.blk s3 H3 scope ce fp) ([] ++ pinsAt fp s7.heap) σ8 G s' → Nx G → ∃ m, m < n ∧ ∃ i G, Inv (X.blk s3 H3 scope ce fp) [] (wipe σ (own.map (·.2))) G s' ∧ tn i s'.heap ∧ (∀ b ∈ fp, G b = none) ∧ W i m G := fun {s' G} I' nx => by
        obtain ⟨m', less, w'⟩ := reach G nx
        have kept : ∀ b ∈ fp, ∀ o, s7.heap.get? b = some o → s'.heap.get? b = some o ∧ G b = none := fun b hb o e =>
          have z := I'.pin (b, o) (List.mem_append_right _ (List.mem_append_right _ (mem_pinsAt hb e)))
          ⟨z.1, z.2.1⟩
        refine ⟨m', less, i + 1, G, (I'.unpinned (pins := [])).weak (by rw [← hw8, wipe_length]) (fun j v e => (wipe_some (hw8 ▸ e)).1), T.stays _ _ _ st7 fun b hb o e => (kept b hb o e).1, fun b hb => ?_, w'⟩
        obtain ⟨o, e, _⟩ := T.things _ _ st7 b hb
        exact (kept b hb o e).2
      cases b with
      | false =>
        rw [if_neg Bool.false_ne_true] at q9 ⊢
        exact turned I9 q9
      | true =>
        rw [if_pos (rfl : true = true)] at q9 ⊢
        exact thnF (ke.run _ s9 σ8 H9 _ I9 q9) fun z s10 ⟨yv, H10, I10, r10, acc, atD, room, nx⟩ => app_ok (X := X.blk s3 H3 scope ce fp) I10 atD room r10 fun s11 I11 => turned I11 nx
  exact codeAny_compStart_list loop (T.same X.A 0 _ _ _ st4 loop)
theorem pe_lcX {elt iter : Expr} {ifs : List Expr} {scope : Scope} {own : List (Str × Nat)} {pos : Pos} {wi : TI} {g : TG} {tt : TT} {te : TE} (hot : X.A.handled = some (.ref a)) (nd : X.N.Nodup) (hi : PIX a X tg iter wi) (ok : BlkOk X.N X.env.scope scope own)
    (dg : ∀ (s : Shared) (H : Hp) (C : Addr) (cl : List (Str × Addr)) (fp : List Addr), PG (X.blk s H scope (compEnvC scope cl C X.env) fp) tg g) (dt : ∀ (s : Shared) (H : Hp) (C : Addr) (cl : List (Str × Addr)) (fp : List Addr), PTs (X.blk s H scope (compEnvC scope cl C X.env) fp) ifs tt)
    (de : ∀ (s : Shared) (H : Hp) (C : Addr) (cl : List (Str × Addr)) (fp : List Addr), PE (X.blk s H scope (compEnvC scope cl C X.env) fp) elt te) (unfolded : ∀ x, foldedSetIterable iter X.env x = pure x := by intro _; rfl) :
    PE X (.ListComp elt [⟨tg, iter, ifs, 0⟩] scope pos) (tLc wi g tt te (own.map (·.2))) := by
  constructor
  intro pins s σ H Q I asked
  rw [eval_ListComp]
  refine lcX_core hot nd I hi ok dg dt de unfolded asked fun D C s' m H' I' q hn f => ⟨m, hn, fun h2 sb => ?_⟩
  obtain ⟨f0, f1, _, f3, f4, f5⟩ := f
  exact ⟨.ref D, H', I'.turned (t' := s'.toks) (fun b o hb e => (sb.2 b hb).trans e) f0 f1 f3 f4 f5, rfl, q⟩
def rSumX (K : PySem.W.Frag) (e : Addr) : List V → Hp → VK → Prop := fun vs H Q => ∃ (l : Addr) (ns : List Int), vs = [V.ref l] ∧ SqL K H l (ns.map V.int) ∧ TrkX e H ∧ Q (.int ns.sum) H
theorem cr_sumX (hot : X.A.handled = some (.ref a)) : CallR X (.builtin "sum") (rSumX X.K a) := by
  intro pins s σ H vs us Q I r h
  obtain ⟨l, ns, rfl, hs, tr, q⟩ := h
  obtain ⟨its, rv, hl, _⟩ := I.list hs
  rw [Vals.ref1 r]
  have hi := rv.ints
  obtain ⟨xs, ex⟩ := hi.allInts.items
  have hn : numsOf (intItems xs).toList = ns := by rw [← ex]; exact hi.numsOf
  rw [nums_intItems] at hn
  have hll : s.heap.IsList l (intItems xs) := by
    rw [← ex]
    exact hl.isList
  have hat := hot_at I hot tr
  have he : ∃ o vs, s.heap.get? a = some o ∧ o.data = .fields vs ∧ vs[2]? = some .none := hat.2
  refine call_sum_walkG (iter_intList hll fun s₂ e st hfp hlI => ?_)
  subst e
  have hlt : a < s.heap.objs.size := by
    obtain ⟨o, _, q, _⟩ := he
    exact Heap.lt_size q
  refine ⟨s.heap.objs.size, [s.heap.objs.size, l, a], [s.heap.objs.size], (intItems xs).size, (fun i v => (intItems xs)[i]? = some v), (fun i h => (h.IsListIter s.heap.objs.size l i ∧ h.IsList l (intItems xs)) ∧ ∃ o vs, h.get? a = some o ∧ o.data = .fields vs ∧ vs[2]? = some .none), numAt xs, rfl, ?_, ⟨st, ?_⟩, fun b hb => ?_, (fun _ _ => intItems_at), fun h' tk t' hk => ?_⟩
  · refine ⟨fun b hb => by cases List.mem_singleton.mp hb; exact .head _, fun i h h' st k => ⟨⟨st.1.1.at fun o q => k _ (by simp) o q, st.1.2.at fun o q => k l (by simp) o q⟩, ?_⟩, fun i s1 Q1 E1 hi st k => ?_, fun s1 Q1 E1 st k => ?_, fun i s1 Q1 E1 st k => wpAny_pyIter_listiter st.1.1 k⟩
    · obtain ⟨o, vs, q, r1, r2⟩ := st.2
      exact ⟨o, vs, k a (by simp) o q, r1, r2⟩
    · refine wpAny_pyNext_list_item st.1.1 st.1.2 (x := (intItems xs)[i]) (by simp [hi]) fun h' hit' hs' => ?_
      refine k _ h' s1.toks (by simp [hi]) ⟨⟨hit', st.1.2.extBut hs'.extBut hlI⟩, ?_⟩ fun b o hb e => hs'.extBut b o (fun h => hb (by simp [h])) e
      obtain ⟨o, vs, q, r1, r2⟩ := st.2
      exact ⟨o, vs, hs'.extBut a o (Nat.ne_of_lt hlt) q, r1, r2⟩
    · refine list_end_hot (A := X.A.in1) (x1 := a) ⟨hot, st.2⟩ st.1.1 st.1.2 (by simp) fun h' eb => k h' s1.toks fun b o hb e => eb b o (fun h => hb (by simp [h])) e
  · obtain ⟨o, vs, q, r1, r2⟩ := he
    exact ⟨o, vs, Heap.get?_push_of_some _ q, r1, r2⟩
  · rcases List.mem_cons.mp hb with z | hb
    · exact hfp b (by rw [z]; exact .head _)
    · rcases List.mem_cons.mp hb with z | hb
      · exact hfp b (by rw [z]; exact .tail _ (.head _))
      · cases List.mem_singleton.mp hb
        show a < (s.heap.push _).objs.size
        rw [Heap.size_push]
        exact Nat.lt_succ_of_lt hlt
  · have e2 : preSum (numAt xs) (intItems xs).size = ns.sum := by
      rw [show (intItems xs).size = xs.size by simp [intItems], preSum_eq, List.take_of_length_le (by simp), hn]
    refine ⟨.int ns.sum, H, I.kept (fun b o q => ?_), ⟨t', by rw [e2]⟩, q⟩
    exact hk b o (fun z => by cases List.mem_singleton.mp z; exact absurd (Heap.lt_size q) (Nat.lt_irrefl _)) (Heap.get?_push_of_some _ q)
end
end Ow
namespace Ow
open PySem PySem.Spec PyProof.Rows L2
def top (i : Nat) : Stmt := PySem.Challenge.pw_ownroom_k21_plain_rooms_refused.main.body.getD i (.Pass ⟨0, 0, 0, 0⟩)
abbrev s_asked_pages : Stmt := top 9
abbrev s_PlainRooms___init__ : Stmt := inClass (top 10) 0
abbrev s_PlainRooms_begin : Stmt := inClass (top 10) 1
abbrev s_PlainRooms_room_of : Stmt := inClass (top 10) 2
abbrev s_PlainRooms_close : Stmt := inClass (top 10) 3
abbrev s_PlainRooms_held : Stmt := inClass (top 10) 4
abbrev s_PlainRooms_ask_room : Stmt := inClass (top 10) 5
abbrev s_PlainRooms_map : Stmt := inClass (top 10) 6
abbrev s_PlainRooms_drop : Stmt := inClass (top 10) 7
abbrev s_PlainRooms_places_asked : Stmt := inClass (top 10) 8
abbrev s_PlainRooms_peek : Stmt := inClass (top 10) 9
abbrev s_PlainRooms_poke : Stmt := inClass (top 10) 10
abbrev s_PlainRooms_copy : Stmt := inClass (top 10) 11
abbrev s__law_number : Stmt := top 12
abbrev s__law_tasks : Stmt := top 13
abbrev s__law_do : Stmt := top 14
abbrev s__law_word : Stmt := top 15
abbrev s__law_told : Stmt := top 16
abbrev s__law_state : Stmt := top 17
abbrev s__law_far : Stmt := top 18
abbrev s__law_bad : Stmt := top 19
abbrev s__law_no_cells : Stmt := top 20
abbrev s__law_small : Stmt := top 21
abbrev s__law_full : Stmt := top 22
abbrev s_law : Stmt := top 23
def fns0 : List He.DefD := [⟨("asked_pages", none), "asked_pages", "asked_pages", defArgs (top 9), defBody (top 9), defScope (top 9), [], []⟩, ⟨("PlainRooms", some "__init__"), "__init__", "PlainRooms.__init__", defArgs (inClass (top 10) 0), defBody (inClass (top 10) 0), defScope (inClass (top 10) 0), [], []⟩, ⟨("PlainRooms", some "begin"), "begin", "PlainRooms.begin", defArgs (inClass (top 10) 1), defBody (inClass (top 10) 1), defScope (inClass (top 10) 1), [], []⟩, ⟨("PlainRooms", some "room_of"), "room_of", "PlainRooms.room_of", defArgs (inClass (top 10) 2), defBody (inClass (top 10) 2), defScope (inClass (top 10) 2), [], []⟩, ⟨("PlainRooms", some "close"), "close", "PlainRooms.close", defArgs (inClass (top 10) 3), defBody (inClass (top 10) 3), defScope (inClass (top 10) 3), [], []⟩, ⟨("PlainRooms", some "held"), "held", "PlainRooms.held", defArgs (inClass (top 10) 4), defBody (inClass (top 10) 4), defScope (inClass (top 10) 4), [], []⟩, ⟨("PlainRooms", some "ask_room"), "ask_room", "PlainRooms.ask_room", defArgs (inClass (top 10) 5), defBody (inClass (top 10) 5), defScope (inClass (top 10) 5), [], []⟩, ⟨("PlainRooms", some "map"), "map", "PlainRooms.map", defArgs (inClass (top 10) 6), defBody (inClass (top 10) 6), defScope (inClass (top 10) 6), [], []⟩, ⟨("PlainRooms", some "drop"), "drop", "PlainRooms.drop", defArgs (inClass (top 10) 7), defBody (inClass (top 10) 7), defScope (inClass (top 10) 7), [], []⟩, ⟨("PlainRooms", some "places_asked"), "places_asked", "PlainRooms.places_asked", defArgs (inClass (top 10) 8), defBody (inClass (top 10) 8), defScope (inClass (top 10) 8), [], []⟩, ⟨("PlainRooms", some "peek"), "peek", "PlainRooms.peek", defArgs (inClass (top 10) 9), defBody (inClass (top 10) 9), defScope (inClass (top 10) 9), [], []⟩, ⟨("PlainRooms", some "poke"), "poke", "PlainRooms.poke", defArgs (inClass (top 10) 10), defBody (inClass (top 10) 10), defScope (inClass (top 10) 10), [], []⟩, ⟨("PlainRooms", some "copy"), "copy", "PlainRooms.copy", defArgs (inClass (top 10) 11), defBody (inClass (top 10) 11), defScope (inClass (top 10) 11), [], []⟩, ⟨("_law_number", none), "_law_number", "_law_number", defArgs (top 12), defBody (top 12), defScope (top 12), [], []⟩, ⟨("_law_tasks", none), "_law_tasks", "_law_tasks", defArgs (top 13), defBody (top 13), defScope (top 13), [], []⟩, ⟨("_law_do", none), "_law_do", "_law_do", defArgs (top 14), defBody (top 14), defScope (top 14), [], []⟩, ⟨("_law_word", none), "_law_word", "_law_word", defArgs (top 15), defBody (top 15), defScope (top 15), [], []⟩, ⟨("_law_told", none), "_law_told", "_law_told", defArgs (top 16), defBody (top 16), defScope (top 16), [], []⟩, ⟨("_law_state", none), "_law_state", "_law_state", defArgs (top 17), defBody (top 17), defScope (top 17), [], []⟩, ⟨("_law_far", none), "_law_far", "_law_far", defArgs (top 18), defBody (top 18), defScope (top 18), [], []⟩, ⟨("_law_bad", none), "_law_bad", "_law_bad", defArgs (top 19), defBody (top 19), defScope (top 19), [], []⟩, ⟨("_law_no_cells", none), "_law_no_cells", "_law_no_cells", defArgs (top 20), defBody (top 20), defScope (top 20), [], []⟩, ⟨("_law_small", none), "_law_small", "_law_small", defArgs (top 21), defBody (top 21), defScope (top 21), [], []⟩, ⟨("_law_full", none), "_law_full", "_law_full", defArgs (top 22), defBody (top 22), defScope (top 22), [], []⟩]
def fns1 : List He.DefD := [⟨("law", none), "law", "law", defArgs (top 23), defBody (top 23), defScope (top 23), [], []⟩]
def fns : List He.DefD := fns0 ++ fns1
def fa0 : List He.Fa := [.glo "KernelError", .glo "NoTask", .glo "NoPage", .glo "NoRoom", .glo "Taken", .int "LAST_PAGE" 63, .int "PAGE_CELLS" 8, .glo "asked_pages", .glo "PlainRooms", .glo "_law_number", .glo "_law_tasks", .glo "_law_do", .glo "_law_word", .glo "_law_told", .glo "_law_state", .glo "_law_far", .glo "_law_bad", .glo "_law_no_cells", .glo "_law_small", .glo "_law_full", .glo "law", .free "ValueError", .free "list", .free "range"]
def fa1 : List He.Fa := [.free "sum", .free "enumerate", .free "zip", .free "dict", .free "isinstance", .free "len", .free "min", .free "int", .exc "KernelError", .exc "NoTask", .exc "NoPage", .exc "NoRoom", .exc "Taken", .cls "PlainRooms", .mkr "PlainRooms", .meth "PlainRooms" "begin", .meth "PlainRooms" "room_of", .meth "PlainRooms" "close", .meth "PlainRooms" "held", .meth "PlainRooms" "ask_room", .meth "PlainRooms" "map", .meth "PlainRooms" "drop", .meth "PlainRooms" "places_asked", .meth "PlainRooms" "peek"]
def fa2 : List He.Fa := [.meth "PlainRooms" "poke", .meth "PlainRooms" "copy", .noat "PlainRooms" "total", .noat "PlainRooms" "owned"]
def fas : List He.Fa := fa0 ++ fa1 ++ fa2
def exL0 (K : PySem.W.Frag) : List Bool := [excB K (He.ga K "NoPage"), (PySem.W.kitOne K (.ref (He.ga K "NoPage")) (.ref (He.ga K "NoTask")) == some false), (PySem.W.kitOne K (.ref (He.ga K "NoPage")) (.ref (He.ga K "NoPage")) == some true), (PySem.W.kitOne K (.ref (He.ga K "NoPage")) (.ref (He.ga K "NoRoom")) == some false), (PySem.W.kitOne K (.ref (He.ga K "NoPage")) (.ref (He.ga K "Taken")) == some false), (PySem.W.kitOne K (.ref (He.ga K "NoPage")) (.type "ValueError") == some true), (PySem.W.exmOne K (.ref (He.ga K "NoPage")) (.ref (He.ga K "KernelError")) == some true), excB K (He.ga K "Taken"), (PySem.W.kitOne K (.ref (He.ga K "Taken")) (.ref (He.ga K "NoTask")) == some false), (PySem.W.kitOne K (.ref (He.ga K "Taken")) (.ref (He.ga K "NoPage")) == some false), (PySem.W.kitOne K (.ref (He.ga K "Taken")) (.ref (He.ga K "NoRoom")) == some false), (PySem.W.kitOne K (.ref (He.ga K "Taken")) (.ref (He.ga K "Taken")) == some true)]
def exL1 (K : PySem.W.Frag) : List Bool := [(PySem.W.kitOne K (.ref (He.ga K "Taken")) (.type "ValueError") == some true), (PySem.W.exmOne K (.ref (He.ga K "Taken")) (.ref (He.ga K "KernelError")) == some true), excB K (He.ga K "NoTask"), (PySem.W.kitOne K (.ref (He.ga K "NoTask")) (.ref (He.ga K "NoTask")) == some true), (PySem.W.kitOne K (.ref (He.ga K "NoTask")) (.ref (He.ga K "NoPage")) == some false), (PySem.W.kitOne K (.ref (He.ga K "NoTask")) (.ref (He.ga K "NoRoom")) == some false), (PySem.W.kitOne K (.ref (He.ga K "NoTask")) (.ref (He.ga K "Taken")) == some false), (PySem.W.kitOne K (.ref (He.ga K "NoTask")) (.type "ValueError") == some true), (PySem.W.exmOne K (.ref (He.ga K "NoTask")) (.ref (He.ga K "KernelError")) == some true), excB K (He.ga K "NoRoom"), (PySem.W.kitOne K (.ref (He.ga K "NoRoom")) (.ref (He.ga K "NoTask")) == some false), (PySem.W.kitOne K (.ref (He.ga K "NoRoom")) (.ref (He.ga K "NoPage")) == some false)]
def exL2 (K : PySem.W.Frag) : List Bool := [(PySem.W.kitOne K (.ref (He.ga K "NoRoom")) (.ref (He.ga K "NoRoom")) == some true), (PySem.W.kitOne K (.ref (He.ga K "NoRoom")) (.ref (He.ga K "Taken")) == some false), (PySem.W.kitOne K (.ref (He.ga K "NoRoom")) (.type "ValueError") == some true), (PySem.W.exmOne K (.ref (He.ga K "NoRoom")) (.ref (He.ga K "KernelError")) == some true)]
def exL (K : PySem.W.Frag) : List Bool := [(exL0 K).all id, (exL1 K).all id, (exL2 K).all id]
def exB (K : PySem.W.Frag) : Bool := (exL K).all id
abbrev hk : PySem.W.Hook := He.hookX 5 fas fns [] [] exB
def ob (s : PySem.W.SharedT) : He.AlX := He.obsX 5 fas fns [] [] exB (HandSHeadRun.getT s)
theorem ob_eq (s : PySem.W.SharedT) : ob s = hk.obs s.abs := He.obsX_eq (HandSHeadRun.getT_eq s)
def loose0 : List PySem.Str := ["KernelError", "NoTask", "NoPage", "NoRoom", "Taken", "LAST_PAGE", "PAGE_CELLS", "asked_pages", "PlainRooms", "_law_number", "_law_tasks", "_law_do", "_law_word", "_law_told", "_law_state", "_law_far", "_law_bad", "_law_no_cells", "_law_small", "_law_full"]
def loose : List PySem.Str := loose0
abbrev R : PySem.W.OpenRow := PySem.W.OpenLaw.row PySem.Challenge.rw_ownroom_k21_plain_rooms_refused
theorem run (w : World) : HandSHeadRun.RunEq R (PySem.W.view R.prog [23]) hk ob 60000 loose w := by
  intro os
  kernel_rfl
structure Txt (K : PySem.W.Frag) (mg : Str → Option Value) : Prop where
  g_KernelError : mg "KernelError" = some (.ref (He.ga K "KernelError"))
  g_NoTask : mg "NoTask" = some (.ref (He.ga K "NoTask"))
  g_NoPage : mg "NoPage" = some (.ref (He.ga K "NoPage"))
  g_NoRoom : mg "NoRoom" = some (.ref (He.ga K "NoRoom"))
  g_Taken : mg "Taken" = some (.ref (He.ga K "Taken"))
  g_LAST_PAGE : ∃ t, mg "LAST_PAGE" = some (.int 63 t)
  g_PAGE_CELLS : ∃ t, mg "PAGE_CELLS" = some (.int 8 t)
  g_asked_pages : mg "asked_pages" = some (.ref (He.ga K "asked_pages"))
  g_PlainRooms : mg "PlainRooms" = some (.ref (He.ga K "PlainRooms"))
  g__law_number : mg "_law_number" = some (.ref (He.ga K "_law_number"))
  g__law_tasks : mg "_law_tasks" = some (.ref (He.ga K "_law_tasks"))
  g__law_do : mg "_law_do" = some (.ref (He.ga K "_law_do"))
  g__law_word : mg "_law_word" = some (.ref (He.ga K "_law_word"))
  g__law_told : mg "_law_told" = some (.ref (He.ga K "_law_told"))
  g__law_state : mg "_law_state" = some (.ref (He.ga K "_law_state"))
  g__law_far : mg "_law_far" = some (.ref (He.ga K "_law_far"))
  g__law_bad : mg "_law_bad" = some (.ref (He.ga K "_law_bad"))
  g__law_no_cells : mg "_law_no_cells" = some (.ref (He.ga K "_law_no_cells"))
  g__law_small : mg "_law_small" = some (.ref (He.ga K "_law_small"))
  g__law_full : mg "_law_full" = some (.ref (He.ga K "_law_full"))
  g_law : mg "law" = some (.ref (He.ga K "law"))
  n_ValueError : mg "ValueError" = none
  n_list : mg "list" = none
  n_range : mg "range" = none
  n_sum : mg "sum" = none
  n_enumerate : mg "enumerate" = none
  n_zip : mg "zip" = none
  n_dict : mg "dict" = none
  n_isinstance : mg "isinstance" = none
  n_len : mg "len" = none
  n_min : mg "min" = none
  n_int : mg "int" = none
  x_KernelError : XcIn K (He.ga K "KernelError")
  x_NoTask : XcIn K (He.ga K "NoTask")
  x_NoPage : XcIn K (He.ga K "NoPage")
  x_NoRoom : XcIn K (He.ga K "NoRoom")
  x_Taken : XcIn K (He.ga K "Taken")
  c_PlainRooms : Cls K (He.ga K "PlainRooms")
  m_PlainRooms : Mk K (He.ga K "PlainRooms") (He.ma K (He.ga K "PlainRooms") "__init__")
  m_PlainRooms_begin : Meth K (He.ga K "PlainRooms") "begin" (He.ma K (He.ga K "PlainRooms") "begin")
  m_PlainRooms_room_of : Meth K (He.ga K "PlainRooms") "room_of" (He.ma K (He.ga K "PlainRooms") "room_of")
  m_PlainRooms_close : Meth K (He.ga K "PlainRooms") "close" (He.ma K (He.ga K "PlainRooms") "close")
  m_PlainRooms_held : Meth K (He.ga K "PlainRooms") "held" (He.ma K (He.ga K "PlainRooms") "held")
  m_PlainRooms_ask_room : Meth K (He.ga K "PlainRooms") "ask_room" (He.ma K (He.ga K "PlainRooms") "ask_room")
  m_PlainRooms_map : Meth K (He.ga K "PlainRooms") "map" (He.ma K (He.ga K "PlainRooms") "map")
  m_PlainRooms_drop : Meth K (He.ga K "PlainRooms") "drop" (He.ma K (He.ga K "PlainRooms") "drop")
  m_PlainRooms_places_asked : Meth K (He.ga K "PlainRooms") "places_asked" (He.ma K (He.ga K "PlainRooms") "places_asked")
  m_PlainRooms_peek : Meth K (He.ga K "PlainRooms") "peek" (He.ma K (He.ga K "PlainRooms") "peek")
  m_PlainRooms_poke : Meth K (He.ga K "PlainRooms") "poke" (He.ma K (He.ga K "PlainRooms") "poke")
  m_PlainRooms_copy : Meth K (He.ga K "PlainRooms") "copy" (He.ma K (He.ga K "PlainRooms") "copy")
  a_PlainRooms_total : NoAttr K (He.ga K "PlainRooms") "total"
  a_PlainRooms_owned : NoAttr K (He.ga K "PlainRooms") "owned"
  e_NoPage : ExcC K (He.ga K "NoPage")
  k_NoPage_NoTask : PySem.W.kitOne K (.ref (He.ga K "NoPage")) (.ref (He.ga K "NoTask")) = some false
  k_NoPage_NoPage : PySem.W.kitOne K (.ref (He.ga K "NoPage")) (.ref (He.ga K "NoPage")) = some true
  k_NoPage_NoRoom : PySem.W.kitOne K (.ref (He.ga K "NoPage")) (.ref (He.ga K "NoRoom")) = some false
  k_NoPage_Taken : PySem.W.kitOne K (.ref (He.ga K "NoPage")) (.ref (He.ga K "Taken")) = some false
  k_NoPage_ValueError : PySem.W.kitOne K (.ref (He.ga K "NoPage")) (.type "ValueError") = some true
  y_NoPage_KernelError : PySem.W.exmOne K (.ref (He.ga K "NoPage")) (.ref (He.ga K "KernelError")) = some true
  e_Taken : ExcC K (He.ga K "Taken")
  k_Taken_NoTask : PySem.W.kitOne K (.ref (He.ga K "Taken")) (.ref (He.ga K "NoTask")) = some false
  k_Taken_NoPage : PySem.W.kitOne K (.ref (He.ga K "Taken")) (.ref (He.ga K "NoPage")) = some false
  k_Taken_NoRoom : PySem.W.kitOne K (.ref (He.ga K "Taken")) (.ref (He.ga K "NoRoom")) = some false
  k_Taken_Taken : PySem.W.kitOne K (.ref (He.ga K "Taken")) (.ref (He.ga K "Taken")) = some true
  k_Taken_ValueError : PySem.W.kitOne K (.ref (He.ga K "Taken")) (.type "ValueError") = some true
  y_Taken_KernelError : PySem.W.exmOne K (.ref (He.ga K "Taken")) (.ref (He.ga K "KernelError")) = some true
  e_NoTask : ExcC K (He.ga K "NoTask")
  k_NoTask_NoTask : PySem.W.kitOne K (.ref (He.ga K "NoTask")) (.ref (He.ga K "NoTask")) = some true
  k_NoTask_NoPage : PySem.W.kitOne K (.ref (He.ga K "NoTask")) (.ref (He.ga K "NoPage")) = some false
  k_NoTask_NoRoom : PySem.W.kitOne K (.ref (He.ga K "NoTask")) (.ref (He.ga K "NoRoom")) = some false
  k_NoTask_Taken : PySem.W.kitOne K (.ref (He.ga K "NoTask")) (.ref (He.ga K "Taken")) = some false
  k_NoTask_ValueError : PySem.W.kitOne K (.ref (He.ga K "NoTask")) (.type "ValueError") = some true
  y_NoTask_KernelError : PySem.W.exmOne K (.ref (He.ga K "NoTask")) (.ref (He.ga K "KernelError")) = some true
  e_NoRoom : ExcC K (He.ga K "NoRoom")
  k_NoRoom_NoTask : PySem.W.kitOne K (.ref (He.ga K "NoRoom")) (.ref (He.ga K "NoTask")) = some false
  k_NoRoom_NoPage : PySem.W.kitOne K (.ref (He.ga K "NoRoom")) (.ref (He.ga K "NoPage")) = some false
  k_NoRoom_NoRoom : PySem.W.kitOne K (.ref (He.ga K "NoRoom")) (.ref (He.ga K "NoRoom")) = some true
  k_NoRoom_Taken : PySem.W.kitOne K (.ref (He.ga K "NoRoom")) (.ref (He.ga K "Taken")) = some false
  k_NoRoom_ValueError : PySem.W.kitOne K (.ref (He.ga K "NoRoom")) (.type "ValueError") = some true
  y_NoRoom_KernelError : PySem.W.exmOne K (.ref (He.ga K "NoRoom")) (.ref (He.ga K "KernelError")) = some true
  d_asked_pages : ∃ fd, FunD K "asked_pages" "asked_pages" (defArgs s_asked_pages) (defBody s_asked_pages) (defScope s_asked_pages) [] [] (He.fAd K ("asked_pages", none)) fd
  d_PlainRooms___init__ : ∃ fd, FunD K "__init__" "PlainRooms.__init__" (defArgs s_PlainRooms___init__) (defBody s_PlainRooms___init__) (defScope s_PlainRooms___init__) [] [] (He.fAd K ("PlainRooms", some "__init__")) fd
  d_PlainRooms_begin : ∃ fd, FunD K "begin" "PlainRooms.begin" (defArgs s_PlainRooms_begin) (defBody s_PlainRooms_begin) (defScope s_PlainRooms_begin) [] [] (He.fAd K ("PlainRooms", some "begin")) fd
  d_PlainRooms_room_of : ∃ fd, FunD K "room_of" "PlainRooms.room_of" (defArgs s_PlainRooms_room_of) (defBody s_PlainRooms_room_of) (defScope s_PlainRooms_room_of) [] [] (He.fAd K ("PlainRooms", some "room_of")) fd
  d_PlainRooms_close : ∃ fd, FunD K "close" "PlainRooms.close" (defArgs s_PlainRooms_close) (defBody s_PlainRooms_close) (defScope s_PlainRooms_close) [] [] (He.fAd K ("PlainRooms", some "close")) fd
  d_PlainRooms_held : ∃ fd, FunD K "held" "PlainRooms.held" (defArgs s_PlainRooms_held) (defBody s_PlainRooms_held) (defScope s_PlainRooms_held) [] [] (He.fAd K ("PlainRooms", some "held")) fd
  d_PlainRooms_ask_room : ∃ fd, FunD K "ask_room" "PlainRooms.ask_room" (defArgs s_PlainRooms_ask_room) (defBody s_PlainRooms_ask_room) (defScope s_PlainRooms_ask_room) [] [] (He.fAd K ("PlainRooms", some "ask_room")) fd
  d_PlainRooms_map : ∃ fd, FunD K "map" "PlainRooms.map" (defArgs s_PlainRooms_map) (defBody s_PlainRooms_map) (defScope s_PlainRooms_map) [] [] (He.fAd K ("PlainRooms", some "map")) fd
  d_PlainRooms_drop : ∃ fd, FunD K "drop" "PlainRooms.drop" (defArgs s_PlainRooms_drop) (defBody s_PlainRooms_drop) (defScope s_PlainRooms_drop) [] [] (He.fAd K ("PlainRooms", some "drop")) fd
  d_PlainRooms_places_asked : ∃ fd, FunD K "places_asked" "PlainRooms.places_asked" (defArgs s_PlainRooms_places_asked) (defBody s_PlainRooms_places_asked) (defScope s_PlainRooms_places_asked) [] [] (He.fAd K ("PlainRooms", some "places_asked")) fd
  d_PlainRooms_peek : ∃ fd, FunD K "peek" "PlainRooms.peek" (defArgs s_PlainRooms_peek) (defBody s_PlainRooms_peek) (defScope s_PlainRooms_peek) [] [] (He.fAd K ("PlainRooms", some "peek")) fd
  d_PlainRooms_poke : ∃ fd, FunD K "poke" "PlainRooms.poke" (defArgs s_PlainRooms_poke) (defBody s_PlainRooms_poke) (defScope s_PlainRooms_poke) [] [] (He.fAd K ("PlainRooms", some "poke")) fd
  d_PlainRooms_copy : ∃ fd, FunD K "copy" "PlainRooms.copy" (defArgs s_PlainRooms_copy) (defBody s_PlainRooms_copy) (defScope s_PlainRooms_copy) [] [] (He.fAd K ("PlainRooms", some "copy")) fd
  d__law_number : ∃ fd, FunD K "_law_number" "_law_number" (defArgs s__law_number) (defBody s__law_number) (defScope s__law_number) [] [] (He.fAd K ("_law_number", none)) fd
  d__law_tasks : ∃ fd, FunD K "_law_tasks" "_law_tasks" (defArgs s__law_tasks) (defBody s__law_tasks) (defScope s__law_tasks) [] [] (He.fAd K ("_law_tasks", none)) fd
  d__law_do : ∃ fd, FunD K "_law_do" "_law_do" (defArgs s__law_do) (defBody s__law_do) (defScope s__law_do) [] [] (He.fAd K ("_law_do", none)) fd
  d__law_word : ∃ fd, FunD K "_law_word" "_law_word" (defArgs s__law_word) (defBody s__law_word) (defScope s__law_word) [] [] (He.fAd K ("_law_word", none)) fd
  d__law_told : ∃ fd, FunD K "_law_told" "_law_told" (defArgs s__law_told) (defBody s__law_told) (defScope s__law_told) [] [] (He.fAd K ("_law_told", none)) fd
  d__law_state : ∃ fd, FunD K "_law_state" "_law_state" (defArgs s__law_state) (defBody s__law_state) (defScope s__law_state) [] [] (He.fAd K ("_law_state", none)) fd
  d__law_far : ∃ fd, FunD K "_law_far" "_law_far" (defArgs s__law_far) (defBody s__law_far) (defScope s__law_far) [] [] (He.fAd K ("_law_far", none)) fd
  d__law_bad : ∃ fd, FunD K "_law_bad" "_law_bad" (defArgs s__law_bad) (defBody s__law_bad) (defScope s__law_bad) [] [] (He.fAd K ("_law_bad", none)) fd
  d__law_no_cells : ∃ fd, FunD K "_law_no_cells" "_law_no_cells" (defArgs s__law_no_cells) (defBody s__law_no_cells) (defScope s__law_no_cells) [] [] (He.fAd K ("_law_no_cells", none)) fd
  d__law_small : ∃ fd, FunD K "_law_small" "_law_small" (defArgs s__law_small) (defBody s__law_small) (defScope s__law_small) [] [] (He.fAd K ("_law_small", none)) fd
  d__law_full : ∃ fd, FunD K "_law_full" "_law_full" (defArgs s__law_full) (defBody s__law_full) (defScope s__law_full) [] [] (He.fAd K ("_law_full", none)) fd
  d_law : ∃ fd, FunD K "law" "law" (defArgs s_law) (defBody s_law) (defScope s_law) [] [] (He.fAd K ("law", none)) fd

theorem txt_mk {K : PySem.W.Frag} {h : Heap} {mg : Str → Option Value} (X : K.In h) (G : h.Ns mainGlobals mg) (c : He.SaysD fas fns K) (m : exB K = true) : Txt K mg where
  g_KernelError := He.glo_ok X G (c.fact 0 (f := .glo "KernelError") rfl)
  g_NoTask := He.glo_ok X G (c.fact 1 (f := .glo "NoTask") rfl)
  g_NoPage := He.glo_ok X G (c.fact 2 (f := .glo "NoPage") rfl)
  g_NoRoom := He.glo_ok X G (c.fact 3 (f := .glo "NoRoom") rfl)
  g_Taken := He.glo_ok X G (c.fact 4 (f := .glo "Taken") rfl)
  g_LAST_PAGE := He.int_ok X G (c.fact 5 (f := .int "LAST_PAGE" 63) rfl)
  g_PAGE_CELLS := He.int_ok X G (c.fact 6 (f := .int "PAGE_CELLS" 8) rfl)
  g_asked_pages := He.glo_ok X G (c.fact 7 (f := .glo "asked_pages") rfl)
  g_PlainRooms := He.glo_ok X G (c.fact 8 (f := .glo "PlainRooms") rfl)
  g__law_number := He.glo_ok X G (c.fact 9 (f := .glo "_law_number") rfl)
  g__law_tasks := He.glo_ok X G (c.fact 10 (f := .glo "_law_tasks") rfl)
  g__law_do := He.glo_ok X G (c.fact 11 (f := .glo "_law_do") rfl)
  g__law_word := He.glo_ok X G (c.fact 12 (f := .glo "_law_word") rfl)
  g__law_told := He.glo_ok X G (c.fact 13 (f := .glo "_law_told") rfl)
  g__law_state := He.glo_ok X G (c.fact 14 (f := .glo "_law_state") rfl)
  g__law_far := He.glo_ok X G (c.fact 15 (f := .glo "_law_far") rfl)
  g__law_bad := He.glo_ok X G (c.fact 16 (f := .glo "_law_bad") rfl)
  g__law_no_cells := He.glo_ok X G (c.fact 17 (f := .glo "_law_no_cells") rfl)
  g__law_small := He.glo_ok X G (c.fact 18 (f := .glo "_law_small") rfl)
  g__law_full := He.glo_ok X G (c.fact 19 (f := .glo "_law_full") rfl)
  g_law := He.glo_ok X G (c.fact 20 (f := .glo "law") rfl)
  n_ValueError := He.free_ok X G (c.fact 21 (f := .free "ValueError") rfl)
  n_list := He.free_ok X G (c.fact 22 (f := .free "list") rfl)
  n_range := He.free_ok X G (c.fact 23 (f := .free "range") rfl)
  n_sum := He.free_ok X G (c.fact 24 (f := .free "sum") rfl)
  n_enumerate := He.free_ok X G (c.fact 25 (f := .free "enumerate") rfl)
  n_zip := He.free_ok X G (c.fact 26 (f := .free "zip") rfl)
  n_dict := He.free_ok X G (c.fact 27 (f := .free "dict") rfl)
  n_isinstance := He.free_ok X G (c.fact 28 (f := .free "isinstance") rfl)
  n_len := He.free_ok X G (c.fact 29 (f := .free "len") rfl)
  n_min := He.free_ok X G (c.fact 30 (f := .free "min") rfl)
  n_int := He.free_ok X G (c.fact 31 (f := .free "int") rfl)
  x_KernelError := He.exc_ok (c.fact 32 (f := .exc "KernelError") rfl)
  x_NoTask := He.exc_ok (c.fact 33 (f := .exc "NoTask") rfl)
  x_NoPage := He.exc_ok (c.fact 34 (f := .exc "NoPage") rfl)
  x_NoRoom := He.exc_ok (c.fact 35 (f := .exc "NoRoom") rfl)
  x_Taken := He.exc_ok (c.fact 36 (f := .exc "Taken") rfl)
  c_PlainRooms := He.cls_ok (c.fact 37 (f := .cls "PlainRooms") rfl)
  m_PlainRooms := He.mkr_ok (c.fact 38 (f := .mkr "PlainRooms") rfl)
  m_PlainRooms_begin := He.meth_ok (c.fact 39 (f := .meth "PlainRooms" "begin") rfl)
  m_PlainRooms_room_of := He.meth_ok (c.fact 40 (f := .meth "PlainRooms" "room_of") rfl)
  m_PlainRooms_close := He.meth_ok (c.fact 41 (f := .meth "PlainRooms" "close") rfl)
  m_PlainRooms_held := He.meth_ok (c.fact 42 (f := .meth "PlainRooms" "held") rfl)
  m_PlainRooms_ask_room := He.meth_ok (c.fact 43 (f := .meth "PlainRooms" "ask_room") rfl)
  m_PlainRooms_map := He.meth_ok (c.fact 44 (f := .meth "PlainRooms" "map") rfl)
  m_PlainRooms_drop := He.meth_ok (c.fact 45 (f := .meth "PlainRooms" "drop") rfl)
  m_PlainRooms_places_asked := He.meth_ok (c.fact 46 (f := .meth "PlainRooms" "places_asked") rfl)
  m_PlainRooms_peek := He.meth_ok (c.fact 47 (f := .meth "PlainRooms" "peek") rfl)
  m_PlainRooms_poke := He.meth_ok (c.fact 48 (f := .meth "PlainRooms" "poke") rfl)
  m_PlainRooms_copy := He.meth_ok (c.fact 49 (f := .meth "PlainRooms" "copy") rfl)
  a_PlainRooms_total := He.noat_ok (c.fact 50 (f := .noat "PlainRooms" "total") rfl)
  a_PlainRooms_owned := He.noat_ok (c.fact 51 (f := .noat "PlainRooms" "owned") rfl)
  e_NoPage := excB_ok (all_at (all_at m 0 rfl) 0 rfl)
  k_NoPage_NoTask := eq_of_beq (all_at (all_at m 0 rfl) 1 rfl)
  k_NoPage_NoPage := eq_of_beq (all_at (all_at m 0 rfl) 2 rfl)
  k_NoPage_NoRoom := eq_of_beq (all_at (all_at m 0 rfl) 3 rfl)
  k_NoPage_Taken := eq_of_beq (all_at (all_at m 0 rfl) 4 rfl)
  k_NoPage_ValueError := eq_of_beq (all_at (all_at m 0 rfl) 5 rfl)
  y_NoPage_KernelError := eq_of_beq (all_at (all_at m 0 rfl) 6 rfl)
  e_Taken := excB_ok (all_at (all_at m 0 rfl) 7 rfl)
  k_Taken_NoTask := eq_of_beq (all_at (all_at m 0 rfl) 8 rfl)
  k_Taken_NoPage := eq_of_beq (all_at (all_at m 0 rfl) 9 rfl)
  k_Taken_NoRoom := eq_of_beq (all_at (all_at m 0 rfl) 10 rfl)
  k_Taken_Taken := eq_of_beq (all_at (all_at m 0 rfl) 11 rfl)
  k_Taken_ValueError := eq_of_beq (all_at (all_at m 1 rfl) 0 rfl)
  y_Taken_KernelError := eq_of_beq (all_at (all_at m 1 rfl) 1 rfl)
  e_NoTask := excB_ok (all_at (all_at m 1 rfl) 2 rfl)
  k_NoTask_NoTask := eq_of_beq (all_at (all_at m 1 rfl) 3 rfl)
  k_NoTask_NoPage := eq_of_beq (all_at (all_at m 1 rfl) 4 rfl)
  k_NoTask_NoRoom := eq_of_beq (all_at (all_at m 1 rfl) 5 rfl)
  k_NoTask_Taken := eq_of_beq (all_at (all_at m 1 rfl) 6 rfl)
  k_NoTask_ValueError := eq_of_beq (all_at (all_at m 1 rfl) 7 rfl)
  y_NoTask_KernelError := eq_of_beq (all_at (all_at m 1 rfl) 8 rfl)
  e_NoRoom := excB_ok (all_at (all_at m 1 rfl) 9 rfl)
  k_NoRoom_NoTask := eq_of_beq (all_at (all_at m 1 rfl) 10 rfl)
  k_NoRoom_NoPage := eq_of_beq (all_at (all_at m 1 rfl) 11 rfl)
  k_NoRoom_NoRoom := eq_of_beq (all_at (all_at m 2 rfl) 0 rfl)
  k_NoRoom_Taken := eq_of_beq (all_at (all_at m 2 rfl) 1 rfl)
  k_NoRoom_ValueError := eq_of_beq (all_at (all_at m 2 rfl) 2 rfl)
  y_NoRoom_KernelError := eq_of_beq (all_at (all_at m 2 rfl) 3 rfl)
  d_asked_pages := c.def_ 0 (d := ⟨("asked_pages", none), "asked_pages", "asked_pages", defArgs (top 9), defBody (top 9), defScope (top 9), [], []⟩) rfl
  d_PlainRooms___init__ := c.def_ 1 (d := ⟨("PlainRooms", some "__init__"), "__init__", "PlainRooms.__init__", defArgs (inClass (top 10) 0), defBody (inClass (top 10) 0), defScope (inClass (top 10) 0), [], []⟩) rfl
  d_PlainRooms_begin := c.def_ 2 (d := ⟨("PlainRooms", some "begin"), "begin", "PlainRooms.begin", defArgs (inClass (top 10) 1), defBody (inClass (top 10) 1), defScope (inClass (top 10) 1), [], []⟩) rfl
  d_PlainRooms_room_of := c.def_ 3 (d := ⟨("PlainRooms", some "room_of"), "room_of", "PlainRooms.room_of", defArgs (inClass (top 10) 2), defBody (inClass (top 10) 2), defScope (inClass (top 10) 2), [], []⟩) rfl
  d_PlainRooms_close := c.def_ 4 (d := ⟨("PlainRooms", some "close"), "close", "PlainRooms.close", defArgs (inClass (top 10) 3), defBody (inClass (top 10) 3), defScope (inClass (top 10) 3), [], []⟩) rfl
  d_PlainRooms_held := c.def_ 5 (d := ⟨("PlainRooms", some "held"), "held", "PlainRooms.held", defArgs (inClass (top 10) 4), defBody (inClass (top 10) 4), defScope (inClass (top 10) 4), [], []⟩) rfl
  d_PlainRooms_ask_room := c.def_ 6 (d := ⟨("PlainRooms", some "ask_room"), "ask_room", "PlainRooms.ask_room", defArgs (inClass (top 10) 5), defBody (inClass (top 10) 5), defScope (inClass (top 10) 5), [], []⟩) rfl
  d_PlainRooms_map := c.def_ 7 (d := ⟨("PlainRooms", some "map"), "map", "PlainRooms.map", defArgs (inClass (top 10) 6), defBody (inClass (top 10) 6), defScope (inClass (top 10) 6), [], []⟩) rfl
  d_PlainRooms_drop := c.def_ 8 (d := ⟨("PlainRooms", some "drop"), "drop", "PlainRooms.drop", defArgs (inClass (top 10) 7), defBody (inClass (top 10) 7), defScope (inClass (top 10) 7), [], []⟩) rfl
  d_PlainRooms_places_asked := c.def_ 9 (d := ⟨("PlainRooms", some "places_asked"), "places_asked", "PlainRooms.places_asked", defArgs (inClass (top 10) 8), defBody (inClass (top 10) 8), defScope (inClass (top 10) 8), [], []⟩) rfl
  d_PlainRooms_peek := c.def_ 10 (d := ⟨("PlainRooms", some "peek"), "peek", "PlainRooms.peek", defArgs (inClass (top 10) 9), defBody (inClass (top 10) 9), defScope (inClass (top 10) 9), [], []⟩) rfl
  d_PlainRooms_poke := c.def_ 11 (d := ⟨("PlainRooms", some "poke"), "poke", "PlainRooms.poke", defArgs (inClass (top 10) 10), defBody (inClass (top 10) 10), defScope (inClass (top 10) 10), [], []⟩) rfl
  d_PlainRooms_copy := c.def_ 12 (d := ⟨("PlainRooms", some "copy"), "copy", "PlainRooms.copy", defArgs (inClass (top 10) 11), defBody (inClass (top 10) 11), defScope (inClass (top 10) 11), [], []⟩) rfl
  d__law_number := c.def_ 13 (d := ⟨("_law_number", none), "_law_number", "_law_number", defArgs (top 12), defBody (top 12), defScope (top 12), [], []⟩) rfl
  d__law_tasks := c.def_ 14 (d := ⟨("_law_tasks", none), "_law_tasks", "_law_tasks", defArgs (top 13), defBody (top 13), defScope (top 13), [], []⟩) rfl
  d__law_do := c.def_ 15 (d := ⟨("_law_do", none), "_law_do", "_law_do", defArgs (top 14), defBody (top 14), defScope (top 14), [], []⟩) rfl
  d__law_word := c.def_ 16 (d := ⟨("_law_word", none), "_law_word", "_law_word", defArgs (top 15), defBody (top 15), defScope (top 15), [], []⟩) rfl
  d__law_told := c.def_ 17 (d := ⟨("_law_told", none), "_law_told", "_law_told", defArgs (top 16), defBody (top 16), defScope (top 16), [], []⟩) rfl
  d__law_state := c.def_ 18 (d := ⟨("_law_state", none), "_law_state", "_law_state", defArgs (top 17), defBody (top 17), defScope (top 17), [], []⟩) rfl
  d__law_far := c.def_ 19 (d := ⟨("_law_far", none), "_law_far", "_law_far", defArgs (top 18), defBody (top 18), defScope (top 18), [], []⟩) rfl
  d__law_bad := c.def_ 20 (d := ⟨("_law_bad", none), "_law_bad", "_law_bad", defArgs (top 19), defBody (top 19), defScope (top 19), [], []⟩) rfl
  d__law_no_cells := c.def_ 21 (d := ⟨("_law_no_cells", none), "_law_no_cells", "_law_no_cells", defArgs (top 20), defBody (top 20), defScope (top 20), [], []⟩) rfl
  d__law_small := c.def_ 22 (d := ⟨("_law_small", none), "_law_small", "_law_small", defArgs (top 21), defBody (top 21), defScope (top 21), [], []⟩) rfl
  d__law_full := c.def_ 23 (d := ⟨("_law_full", none), "_law_full", "_law_full", defArgs (top 22), defBody (top 22), defScope (top 22), [], []⟩) rfl
  d_law := c.def_ 24 (d := ⟨("law", none), "law", "law", defArgs (top 23), defBody (top 23), defScope (top 23), [], []⟩) rfl
local macro_rules | `(tactic| walk_at "xf") => `(tactic| first | with_reducible exact Txt.e_NoPage (by assumption) | with_reducible exact Txt.k_NoPage_NoTask (by assumption) | with_reducible exact Txt.k_NoPage_NoPage (by assumption) | with_reducible exact Txt.k_NoPage_NoRoom (by assumption) | with_reducible exact Txt.k_NoPage_Taken (by assumption) | with_reducible exact Txt.k_NoPage_ValueError (by assumption) | with_reducible exact Txt.y_NoPage_KernelError (by assumption) | with_reducible exact Txt.e_Taken (by assumption) | with_reducible exact Txt.k_Taken_NoTask (by assumption) | with_reducible exact Txt.k_Taken_NoPage (by assumption) | with_reducible exact Txt.k_Taken_NoRoom (by assumption) | with_reducible exact Txt.k_Taken_Taken (by assumption) | with_reducible exact Txt.k_Taken_ValueError (by assumption) | with_reducible exact Txt.y_Taken_KernelError (by assumption) | with_reducible exact Txt.e_NoTask (by assumption) | with_reducible exact Txt.k_NoTask_NoTask (by assumption) | with_reducible exact Txt.k_NoTask_NoPage (by assumption) | with_reducible exact Txt.k_NoTask_NoRoom (by assumption) | with_reducible exact Txt.k_NoTask_Taken (by assumption) | with_reducible exact Txt.k_NoTask_ValueError (by assumption) | with_reducible exact Txt.y_NoTask_KernelError (by assumption) | with_reducible exact Txt.e_NoRoom (by assumption) | with_reducible exact Txt.k_NoRoom_NoTask (by assumption) | with_reducible exact Txt.k_NoRoom_NoPage (by assumption) | with_reducible exact Txt.k_NoRoom_NoRoom (by assumption) | with_reducible exact Txt.k_NoRoom_Taken (by assumption) | with_reducible exact Txt.k_NoRoom_ValueError (by assumption) | with_reducible exact Txt.y_NoRoom_KernelError (by assumption) | fail)
local macro_rules | `(tactic| walk_at "fact") => `(tactic| first | with_reducible exact Txt.c_PlainRooms (by assumption) | with_reducible exact Txt.a_PlainRooms_total (by assumption) | with_reducible exact Txt.a_PlainRooms_owned (by assumption) | fail)
/-! ### the walk's own lines -/
local macro_rules | `(tactic| walk_at "mem") => `(tactic| first | exact List.mem_cons_self | (apply List.mem_cons_of_mem; walk_at "mem") | (apply List.mem_append_right; walk_at "mem") | (apply List.mem_append_left; walk_at "mem"))
local macro_rules | `(tactic| walk_at "at") => `(tactic| first | exact At.here | (apply At.there; walk_at "at") | (apply At.app; walk_at "at") | (apply At.appl; walk_at "at"))
local macro_rules | `(tactic| walk_at "sub") => `(tactic| first | exact Sub.all | exact Sub.here | exact Sub.one | (apply Sub.there; walk_at "sub") | (apply Sub.appl; walk_at "sub") | (apply Sub.app; walk_at "sub"))
local macro_rules | `(tactic| walk_at "own") => `(tactic| first | assumption | ((with_reducible apply Own.wr2); (focus walk_at "own"); (focus walk_at "at"); rfl) | ((with_reducible apply Own.new); (focus walk_at "own"); assumption))
local macro_rules | `(tactic| walk_at "h") => `(tactic| first | assumption | (apply Own.get; (focus walk_at "own"); walk_at "mem") | (apply Own.fr0; (focus walk_at "own"); assumption) | (rename Own _ _ _ _ => otmp; clear otmp; walk_at "h"))
local macro_rules | `(tactic| walk_at "ar") => `(tactic| first | omega | (simp only [List.length_nil, List.length_cons, List.length_append, List.length_map, List.length_set, List.length_replicate, List.length_range]; omega))
/-- one premise -/
local macro_rules | `(tactic| walk_at "c") => `(tactic| first
  | with_reducible exact rfl
  | ((with_reducible apply sl_of); rfl)
  | ((with_reducible apply sc_of); rfl)
  | ((with_reducible apply lsq_of); rfl)
  | ((with_reducible apply wp_of); rfl)
  | ((with_reducible apply ln_of); rfl)
  | ((with_reducible apply veq_of); first | rfl | exact kl | exact kr)
  | ((with_reducible apply lk_of); rfl)
  | ((with_reducible apply lkn_of); rfl)
  | ((with_reducible apply lt_of); (first | decide | walk_at "ar" | ((repeat (with_reducible apply putF_lt)); walk_at "ar")))
  | ((with_reducible apply hp_of); walk_at "h")
  | ((with_reducible apply cd_of); first | exact ⟨by decide, by decide⟩ | exact ⟨by omega, by omega⟩)
  | ((with_reducible apply at_of); first | assumption | exact atI_nat (j := 0) rfl | exact atI_nat (j := 1) rfl | exact atI_nat (j := 2) rfl | exact atI_nat (j := 3) rfl | exact atI_nat (j := 4) rfl)
  | ((with_reducible apply ix_of); first | assumption | rfl)
  | ((with_reducible apply cp_of); exact ⟨by decide, by decide, by decide⟩)
  | ((with_reducible apply cmw_of); first | assumption | (unfold CMulW; decide +kernel))
  | ((with_reducible apply cm_l); first | exact ⟨by decide, by decide⟩ | exact ⟨by omega, by omega⟩)
  | ((with_reducible apply cm_r); first | exact ⟨by decide, by decide⟩ | exact ⟨by omega, by omega⟩)
  | walk_at "fact"
  | walk_at "kit"
  | walk_at "xf"
  | walk_at "col"
  | assumption)
local macro_rules | `(tactic| walk_at "prd") => `(tactic| first | exact Paired.nil | ((with_reducible apply Paired.cons); (focus walk_at "c"); walk_at "prd"))
local macro_rules | `(tactic| walk_at "kit") => `(tactic| first
  | (with_reducible exact Paired.nil) | ((with_reducible apply Paired.cons); (focus walk_at "c"); walk_at "prd") | ((with_reducible apply kit_any); walk_at "prd")
  | with_reducible exact ClsV.ty _ | with_reducible exact ClsV.own _
  | with_reducible exact kt_int_int | with_reducible exact kt_int_bool | with_reducible exact kt_bool_int | with_reducible exact kt_bool_bool | with_reducible exact kt_list_list | with_reducible exact kt_tuple_tuple | with_reducible exact kt_NoneType_tuple | with_reducible exact kt_str_str | with_reducible exact kt_NoneType_list | with_reducible exact kt_NoneType_int | with_reducible exact kt_NoneType_bool | with_reducible exact kt_NoneType_dict | with_reducible exact kt_NoneType_str | with_reducible exact kt_str_list | with_reducible exact kt_list_str | with_reducible exact kt_str_int | with_reducible exact kt_int_str | with_reducible exact kt_int_list | with_reducible exact kt_int_tuple | with_reducible exact kt_list_tuple | with_reducible exact kt_tuple_list | with_reducible exact kt_dict_dict | with_reducible exact kt_list_dict | with_reducible exact kt_dict_list | with_reducible exact kt_int_dict | with_reducible exact kt_str_bool | with_reducible exact kt_str_tuple | with_reducible exact kt_str_dict | with_reducible exact kt_list_int | with_reducible exact kt_list_bool | with_reducible exact kt_tuple_int | with_reducible exact kt_tuple_bool | with_reducible exact kt_tuple_str | with_reducible exact kt_tuple_dict
  | ((with_reducible apply TyX.base); first | with_reducible exact TyOf.non | with_reducible exact TyOf.bl _ | with_reducible exact TyOf.int _ | with_reducible exact TyOf.str _ | ((with_reducible apply TyOf.lst); walk_at "h") | ((with_reducible apply TyOf.tup); walk_at "h") | ((with_reducible apply TyOf.dK); walk_at "h")))
/-- lists, tuples, dicts, sizes -/
local macro_rules | `(tactic| walk_at "sq") => `(tactic| first | assumption | ((with_reducible apply SqL.of); walk_at "h") | ((with_reducible apply SqT.of); walk_at "h") | ((with_reducible apply Own.sq); (focus walk_at "own"); assumption))
local macro_rules | `(tactic| walk_at "col") => `(tactic| first
  | ((with_reducible apply SqL.of); walk_at "h") | ((with_reducible apply SqT.of); walk_at "h") | ((with_reducible apply Rd.of); walk_at "h")
  | ((with_reducible apply Own.sq); (focus walk_at "own"); assumption)
  | ((with_reducible apply col_ex2); walk_at "sq") | ((with_reducible apply col_ol2); walk_at "sq") | ((with_reducible apply col_or2); walk_at "sq")
  | ((with_reducible apply sz_le); first | decide | walk_at "ar")
  | ((with_reducible apply sz_lt); first | decide | walk_at "ar")
  | ((with_reducible apply isd_k); walk_at "h")
  | ((with_reducible apply dget_ii); (focus walk_at "h"); assumption) | ((with_reducible apply dget_is); (focus walk_at "h"); assumption)
  | ((with_reducible apply dget_i); walk_at "h") | ((with_reducible apply dget_s); walk_at "h")
  | ((with_reducible apply dput_i); (focus walk_at "h"); walk_at "ar") | ((with_reducible apply dput_s); (focus walk_at "h"); walk_at "ar")
  | (apply Or.inl; apply And.intro rfl; apply col_ex; walk_at "h")
  | (apply Or.inr; apply Or.inr; apply Or.inl; apply And.intro rfl; apply Or.inl; constructor; walk_at "h")
  | with_reducible exact all_flat _ | with_reducible exact all_flatS _ | ((with_reducible apply fl_of); rfl)
  | ((with_reducible apply pos_of); first | decide | assumption | omega | decide +kernel)
  | walk_at "ar")
/-- one step -/
local macro_rules | `(tactic| walk_at "s1") => `(tactic| first
  | (apply @Exists.intro V)
  | (apply @Exists.intro Addr)
  | (apply @Exists.intro Int)
  | (apply @Exists.intro (List V))
  | (apply @Exists.intro (List (Str × V)))
  | (apply @Exists.intro (List (Key × V)))
  | (apply @Exists.intro Key)
  | (apply @Exists.intro Bool)
  | (apply @Exists.intro Str)
  | (apply @Exists.intro Value)
  | (apply @Exists.intro (Option V))
  | (apply @Exists.intro (List Int)) | (apply @Exists.intro (List Bool)) | (apply @Exists.intro Obj) | (apply @Exists.intro (List Value)) | (apply @Exists.intro Hp)
  | (apply And.intro; (focus walk_at "c")))
local macro_rules | `(tactic| walk_at "s") => `(tactic| repeat walk_at "s1")
local macro_rules | `(tactic| walk_at "b") => `(tactic| (apply Box.mk; walk_at "s"))
local macro_rules | `(tactic| walk_at "sk") => `(tactic| (refine if_ss (fun z => absurd z (by decide)) (fun _ => ?_); walk_at "s"))
local macro_rules | `(tactic| walk_at "bb") => `(tactic| repeat (apply Box.mk; walk_at "s"))
/-! ## dicts of rows by number -/
section
variable {α : Type}
theorem lk_split {m : List (Int × α)} {k : Int} {v : α} (h : m.lookup k = some v) : ∃ l q, m = l ++ (k, v) :: q ∧ k ∉ l.map (·.1) := by
  induction m with
  | nil => cases h
  | cons x r ih =>
    obtain ⟨j, u⟩ := x
    rw [List.lookup_cons] at h
    cases e : k == j with
    | true =>
      rw [e] at h
      cases h
      cases eq_of_beq e
      exact ⟨[], r, rfl, List.not_mem_nil⟩
    | false =>
      rw [e] at h
      obtain ⟨l, q, rfl, hl⟩ := ih h
      refine ⟨(j, u) :: l, q, rfl, fun z => ?_⟩
      rcases List.mem_cons.mp z with z | z
      · rw [z] at e; simp at e
      · exact hl z
theorem lk_none {m : List (Int × α)} {k : Int} : m.lookup k = none ↔ k ∉ m.map (·.1) := by
  induction m with
  | nil => exact ⟨fun _ => List.not_mem_nil, fun _ => rfl⟩
  | cons x r ih =>
    obtain ⟨j, u⟩ := x
    rw [List.lookup_cons, List.map_cons, List.mem_cons]
    cases e : k == j with
    | true => exact ⟨nofun, fun z => absurd (.inl (eq_of_beq e)) z⟩
    | false =>
      have hne : k ≠ j := fun z => by rw [z] at e; simp at e
      refine ih.trans ⟨fun h z => z.elim hne h, fun h z => h (.inr z)⟩
theorem lk_some {m : List (Int × α)} {k : Int} : (m.lookup k).isSome = true ↔ k ∈ m.map (·.1) := by
  cases h : m.lookup k with
  | none => exact ⟨nofun, fun z => absurd z (lk_none.mp h)⟩
  | some v =>
    refine ⟨fun _ => ?_, fun _ => rfl⟩
    obtain ⟨l, q, rfl, _⟩ := lk_split h
    simp
theorem lk_map {β : Type} (f : α → β) (m : List (Int × α)) (k : Int) : (m.map fun x => (x.1, f x.2)).lookup k = (m.lookup k).map f := by
  induction m with
  | nil => rfl
  | cons x r ih =>
    obtain ⟨j, u⟩ := x
    rw [List.map_cons, List.lookup_cons, List.lookup_cons]
    cases k == j with
    | true => rfl
    | false => exact ih
theorem lk_val (f : α → V) (m : List (Int × α)) (k : Int) : valV (m.map fun x => ((Sum.inl x.1 : Key), f x.2)) (Sum.inl k) = (m.lookup k).map f := by
  induction m with
  | nil => rfl
  | cons x r ih =>
    obtain ⟨j, u⟩ := x
    rw [List.lookup_cons, List.map_cons]
    by_cases e : j = k
    · subst e
      rw [show (j == j) = true by simp]
      exact valV_pos rfl
    · rw [show (k == j) = false by simpa using fun z => e z.symm]
      exact (valV_neg (fun z => e (Sum.inl.inj z))).trans ih
theorem lk_mem {m : List (Int × α)} {k : Int} {v : α} (h : m.lookup k = some v) : (k, v) ∈ m := by
  obtain ⟨l, q, rfl, _⟩ := lk_split h
  simp
theorem lk_nd {m : List (Int × α)} {k : Int} {v : α} (nd : (m.map (·.1)).Nodup) (h : (k, v) ∈ m) : m.lookup k = some v := by
  induction m with
  | nil => cases h
  | cons x q ih =>
    obtain ⟨j, u⟩ := x
    rw [List.map_cons] at nd
    obtain ⟨n1, n2⟩ := List.nodup_cons.mp nd
    rw [List.lookup_cons]
    rcases List.mem_cons.mp h with z | z
    · cases z; simp
    · have hne : k ≠ j := fun e => n1 (e ▸ List.mem_map.mpr ⟨_, z, rfl⟩)
      rw [show (k == j) = false by simpa using hne]
      exact ih n2 z
/-- one goes -/
def dropA (m : List (Int × α)) (k : Int) : List (Int × α) := m.filter fun x => decide (x.1 ≠ k)
/-- one gets another thing -/
def setA (m : List (Int × α)) (k : Int) (v : α) : List (Int × α) := m.map fun x => if x.1 = k then (x.1, v) else x
theorem dropA_no {m : List (Int × α)} {k : Int} (h : k ∉ m.map (·.1)) : dropA m k = m :=
  List.filter_eq_self.mpr fun x hx => decide_eq_true fun e => h (List.mem_map.mpr ⟨x, hx, e⟩)
theorem setA_no {m : List (Int × α)} {k : Int} {v : α} (h : k ∉ m.map (·.1)) : setA m k v = m := by
  unfold setA
  conv => rhs; rw [← List.map_id m]
  exact List.map_congr_left fun x hx => if_neg fun e => h (List.mem_map.mpr ⟨x, hx, e⟩)
theorem nd_mid {l q : List (Int × α)} {k : Int} {v : α} (nd : ((l ++ (k, v) :: q).map (·.1)).Nodup) : k ∉ l.map (·.1) ∧ k ∉ q.map (·.1) := by
  rw [List.map_append, List.map_cons] at nd
  obtain ⟨n1, n2, n3⟩ := List.nodup_append.mp nd
  exact ⟨fun z => n3 k z k (.head _) rfl, (List.nodup_cons.mp n2).1⟩
theorem dropA_mid {l q : List (Int × α)} {k : Int} {v : α} (nd : ((l ++ (k, v) :: q).map (·.1)).Nodup) : dropA (l ++ (k, v) :: q) k = l ++ q := by
  obtain ⟨h1, h2⟩ := nd_mid nd
  unfold dropA
  rw [List.filter_append, List.filter_cons, if_neg (by simp)]
  exact congr (congrArg _ (dropA_no h1)) (dropA_no h2)
theorem setA_mid {l q : List (Int × α)} {k : Int} {v u : α} (nd : ((l ++ (k, v) :: q).map (·.1)).Nodup) : setA (l ++ (k, v) :: q) k u = l ++ (k, u) :: q := by
  obtain ⟨h1, h2⟩ := nd_mid nd
  unfold setA
  rw [List.map_append, List.map_cons, if_pos rfl]
  exact congr (congrArg _ (setA_no h1)) (congrArg _ (setA_no h2))
theorem dropA_val (f : α → V) (m : List (Int × α)) (k : Int) : dropK (m.map fun x => ((Sum.inl x.1 : Key), f x.2)) (Sum.inl k) = (dropA m k).map fun x => ((Sum.inl x.1 : Key), f x.2) := by
  unfold dropK dropA
  rw [List.filter_map]
  congr 1
  refine List.filter_congr fun x _ => ?_
  show decide ((Sum.inl x.1 : Key) ≠ Sum.inl k) = _
  exact decide_eq_decide.mpr ⟨fun h e => h (congrArg _ e), fun h e => h (Sum.inl.inj e)⟩
theorem dropA_map {β : Type} (f : α → β) (m : List (Int × α)) (k : Int) : dropA (m.map fun x => (x.1, f x.2)) k = (dropA m k).map fun x => (x.1, f x.2) := by
  unfold dropA
  rw [List.filter_map]
  rfl
theorem setA_keys (m : List (Int × α)) (k : Int) (v : α) : (setA m k v).map (·.1) = m.map (·.1) := by
  unfold setA
  rw [List.map_map]
  refine List.map_congr_left fun x _ => ?_
  show (if x.1 = k then (x.1, v) else x).1 = x.1
  split <;> rfl
theorem lk_setA (m : List (Int × α)) (k j : Int) (v : α) : (setA m k v).lookup j = if j = k then (m.lookup k).map (fun _ => v) else m.lookup j := by
  induction m with
  | nil => show none = _; split <;> rfl
  | cons x r ih =>
    obtain ⟨i, u⟩ := x
    have e1 : setA ((i, u) :: r) k v = (if i = k then (i, v) else (i, u)) :: setA r k v := rfl
    rw [e1]
    by_cases h : i = k
    · rw [if_pos h, List.lookup_cons, List.lookup_cons, List.lookup_cons]
      subst h
      by_cases z : j = i
      · subst z; simp
      · rw [show (j == i) = false by simpa using z, if_neg z]
        refine ih.trans ?_
        rw [if_neg z]
    · rw [if_neg h, List.lookup_cons, List.lookup_cons, List.lookup_cons, show (k == i) = false by simpa using fun z => h z.symm]
      by_cases z : j = i
      · subst z; simp [h]
      · rw [show (j == i) = false by simpa using z]
        exact ih
theorem lk_dropA (m : List (Int × α)) (k j : Int) : (dropA m k).lookup j = if j = k then none else m.lookup j := by
  induction m with
  | nil => show none = _; split <;> rfl
  | cons x r ih =>
    obtain ⟨i, u⟩ := x
    unfold dropA at ih ⊢
    rw [List.filter_cons]
    by_cases h : i = k
    · rw [if_neg (by simp [h]), ih]
      subst h
      by_cases z : j = i
      · rw [if_pos z, if_pos z]
      · rw [if_neg z, if_neg z, List.lookup_cons, show (j == i) = false by simpa using z]
    · rw [if_pos (by simp [h]), List.lookup_cons, List.lookup_cons]
      by_cases z : j = i
      · subst z; simp [h]
      · rw [show (j == i) = false by simpa using z]
        exact ih
theorem lk_app (l q : List (Int × α)) (j : Int) : (l ++ q).lookup j = (l.lookup j).or (q.lookup j) := by
  induction l with
  | nil => rfl
  | cons x r ih =>
    obtain ⟨i, u⟩ := x
    rw [List.cons_append, List.lookup_cons, List.lookup_cons]
    cases j == i with
    | true => rfl
    | false => exact ih
theorem dropA_sub (m : List (Int × α)) (k : Int) : List.Sublist (dropA m k) m := List.filter_sublist
end
abbrev Ch := List (Int × Pg)
abbrev Ch.kvs (ch : Ch) : List (Key × V) := ch.map fun x => (Sum.inl x.1, V.ref x.2.1)
abbrev Ch.pure (ch : Ch) : List (Int × List Int) := ch.map fun x => (x.1, x.2.2)
def cCh (c : Addr) (ch : Ch) : Cells := (c, .dK (Ch.kvs ch)) :: ch.map fun x => pcel x.2
/-! ### rooms by task -/
abbrev Wl := List (Int × Addr × Ch)
abbrev wlD (w : Wl) : List (Key × V) := w.map fun x => (Sum.inl x.1, V.ref x.2.1)
def cRms (w : Wl) : Cells := w.flatMap fun x => cCh x.2.1 x.2.2
def cWl (D : Addr) (w : Wl) : Cells := (D, .dK (wlD w)) :: cRms w
theorem cRms_mid (l q : Wl) (x : Int × Addr × Ch) : cRms (l ++ x :: q) = cRms l ++ (cCh x.2.1 x.2.2 ++ cRms q) := by
  unfold cRms
  rw [List.flatMap_append, List.flatMap_cons]
theorem cRms_app (l q : Wl) : cRms (l ++ q) = cRms l ++ cRms q := by
  unfold cRms
  rw [List.flatMap_append]
abbrev ARm := List (Int × List Int)
abbrev AWl := List (Int × ARm)
abbrev Wl.abs (w : Wl) : AWl := w.map fun x => (x.1, Ch.pure x.2.2)
theorem Wl.look (w : Wl) (t : Int) : valV (wlD w) (Sum.inl t) = (w.lookup t).map fun x => V.ref x.1 := lk_val (fun x : Addr × Ch => V.ref x.1) w t
theorem Wl.look_abs (w : Wl) (t : Int) : w.abs.lookup t = (w.lookup t).map fun x => x.2.pure := lk_map (fun x : Addr × Ch => x.2.pure) w t
theorem Ch.lookV (ch : Ch) (t : Int) : valV ch.kvs (Sum.inl t) = (ch.lookup t).map fun x => V.ref x.1 := lk_val (fun x : Pg => V.ref x.1) ch t
theorem Ch.look_abs (ch : Ch) (t : Int) : ch.pure.lookup t = (ch.lookup t).map (·.2) := lk_map (fun x : Pg => x.2) ch t
/-! ### what rooms are, and what deeds do, in plain words -/
structure ROk (r : ARm) : Prop where
  nd : (r.map (·.1)).Nodup
  key : ∀ k ∈ r.map (·.1), 0 ≤ k ∧ k < 64
  wide : ∀ x ∈ r, x.2.length = 8
structure WOk (w : AWl) : Prop where
  nd : (w.map (·.1)).Nodup
  rms : ∀ x ∈ w, ROk x.2
  few : w.length ≤ 1000
def pgs (p : Int) (n : Nat) : List Int := (List.range n).map fun i : Nat => p + i
def zeros : List Int := List.replicate 8 0
def mapR (r : ARm) (ps : List Int) : ARm := r ++ ps.map fun p => (p, zeros)
def dropR (r : ARm) (ps : List Int) : ARm := ps.foldl dropA r
def cellR (r : ARm) (at_ : Int) : Int := (((r.lookup (at_ / 8)).getD [])[(at_ % 8).toNat]?).getD 0
def peekR (r : ARm) (a : Int) (n : Nat) : List Int := (List.range n).map fun i : Nat => cellR r (a + i)
def putR (r : ARm) (at_ c : Int) : ARm := setA r (at_ / 8) (((r.lookup (at_ / 8)).getD []).set (at_ % 8).toNat c)
def pokeR (r : ARm) (a : Int) : List Int → ARm
  | [] => r
  | c :: cs => pokeR (putR r a c) (a + 1) cs
def heldA (w : AWl) : Int := ((w.map fun x => x.2.length).sum : Nat)
inductive Rf where
  | taken | noTask | noPage | noRoom
deriving DecidableEq
def Rf.name : Rf → Str
  | .taken => "Taken"
  | .noTask => "NoTask"
  | .noPage => "NoPage"
  | .noRoom => "NoRoom"
inductive RDeed where
  | begin (t : Int) | close (t : Int) | map (t p n : Int) | drop (t p n : Int) | peek (t a n : Int) | poke (t a : Int) (cs : List Int) | copy (t o : Int)
def badP (p n : Int) : Bool := decide (n < 1 ∨ p < 0 ∨ p + n > 64)
def badA (a n : Int) : Bool := decide (n < 0 ∨ (n > 0 ∧ (a < 0 ∨ a + n > 512)))
def anyP (r : ARm) (ps : List Int) : Bool := ps.any fun p => (r.lookup p).isSome
def allP (r : ARm) (ps : List Int) : Bool := ps.all fun p => (r.lookup p).isSome
/-- the pages that the addresses lie in are there -/
def allA (r : ARm) (a : Int) (n : Nat) : Bool := (List.range n).all fun i : Nat => (r.lookup ((a + i) / 8)).isSome
def sem (tot : Int) (w : AWl) : RDeed → Except Rf (AWl × Option (List Int))
  | .begin t => if (w.lookup t).isSome then .error .taken else .ok (w ++ [(t, [])], none)
  | .close t => if (w.lookup t).isSome then .ok (dropA w t, none) else .error .noTask
  | .map t p n => match w.lookup t with
    | none => .error .noTask
    | some r => if badP p n then .error .noPage else if anyP r (pgs p n.toNat) then .error .taken else if heldA w + n > tot then .error .noRoom else .ok (setA w t (mapR r (pgs p n.toNat)), none)
  | .drop t p n => match w.lookup t with
    | none => .error .noTask
    | some r => if badP p n then .error .noPage else if allP r (pgs p n.toNat) then .ok (setA w t (dropR r (pgs p n.toNat)), none) else .error .noPage
  | .peek t a n => match w.lookup t with
    | none => .error .noTask
    | some r => if badA a n then .error .noPage else if allA r a n.toNat then .ok (w, some (peekR r a n.toNat)) else .error .noPage
  | .poke t a cs => match w.lookup t with
    | none => .error .noTask
    | some r => if badA a cs.length then .error .noPage else if allA r a cs.length then .ok (setA w t (pokeR r a cs), none) else .error .noPage
  | .copy t o => match w.lookup t with
    | none => .error .noTask
    | some r => if (w.lookup o).isSome then .error .taken else if heldA w + r.length > tot then .error .noRoom else .ok (w ++ [(o, r)], none)
section
variable {tot : Int} {w : AWl} {t p n a o : Int} {cs : List Int} {r : ARm}
theorem sem_begin0 (h : w.lookup t = none) : sem tot w (.begin t) = .ok (w ++ [(t, [])], none) := by
  show (if (w.lookup t).isSome = true then _ else _) = _
  rw [h]; rfl
theorem sem_begin1 (h : (w.lookup t).isSome = true) : sem tot w (.begin t) = .error .taken := if_pos h
theorem sem_close0 (h : w.lookup t = none) : sem tot w (.close t) = .error .noTask := by
  show (if (w.lookup t).isSome = true then _ else _) = _
  rw [h]; rfl
theorem sem_close1 (h : (w.lookup t).isSome = true) : sem tot w (.close t) = .ok (dropA w t, none) := if_pos h
theorem sem_map0 (h : w.lookup t = none) : sem tot w (.map t p n) = .error .noTask := by
  show (match w.lookup t with | none => _ | some r => _) = _
  rw [h]
theorem sem_map1 (h : w.lookup t = some r) : sem tot w (.map t p n) = if badP p n = true then .error .noPage else if anyP r (pgs p n.toNat) = true then .error .taken else if heldA w + n > tot then .error .noRoom else .ok (setA w t (mapR r (pgs p n.toNat)), none) := by
  show (match w.lookup t with | none => _ | some r => _) = _
  rw [h]
theorem sem_drop0 (h : w.lookup t = none) : sem tot w (.drop t p n) = .error .noTask := by
  show (match w.lookup t with | none => _ | some r => _) = _
  rw [h]
theorem sem_drop1 (h : w.lookup t = some r) : sem tot w (.drop t p n) = if badP p n = true then .error .noPage else if allP r (pgs p n.toNat) = true then .ok (setA w t (dropR r (pgs p n.toNat)), none) else .error .noPage := by
  show (match w.lookup t with | none => _ | some r => _) = _
  rw [h]
theorem sem_peek0 (h : w.lookup t = none) : sem tot w (.peek t a n) = .error .noTask := by
  show (match w.lookup t with | none => _ | some r => _) = _
  rw [h]
theorem sem_peek1 (h : w.lookup t = some r) : sem tot w (.peek t a n) = if badA a n = true then .error .noPage else if allA r a n.toNat = true then .ok (w, some (peekR r a n.toNat)) else .error .noPage := by
  show (match w.lookup t with | none => _ | some r => _) = _
  rw [h]
theorem sem_poke0 (h : w.lookup t = none) : sem tot w (.poke t a cs) = .error .noTask := by
  show (match w.lookup t with | none => _ | some r => _) = _
  rw [h]
theorem sem_poke1 (h : w.lookup t = some r) : sem tot w (.poke t a cs) = if badA a cs.length = true then .error .noPage else if allA r a cs.length = true then .ok (setA w t (pokeR r a cs), none) else .error .noPage := by
  show (match w.lookup t with | none => _ | some r => _) = _
  rw [h]
theorem sem_copy0 (h : w.lookup t = none) : sem tot w (.copy t o) = .error .noTask := by
  show (match w.lookup t with | none => _ | some r => _) = _
  rw [h]
theorem sem_copy1 (h : w.lookup t = some r) : sem tot w (.copy t o) = if (w.lookup o).isSome = true then .error .taken else if heldA w + r.length > tot then .error .noRoom else .ok (w ++ [(o, r)], none) := by
  show (match w.lookup t with | none => _ | some r => _) = _
  rw [h]
end
theorem Wl.abs_none {w : Wl} {t : Int} (h : w.lookup t = none) : w.abs.lookup t = none := by rw [Wl.look_abs, h]; rfl
theorem Wl.abs_some {w : Wl} {t : Int} {a : Addr} {r : Ch} (h : w.lookup t = some (a, r)) : w.abs.lookup t = some r.pure := by rw [Wl.look_abs, h]; rfl
theorem Wl.nd {w : Wl} (ok : WOk w.abs) : (w.map (·.1)).Nodup := by
  have := ok.nd
  rw [List.map_map] at this
  exact this
theorem Wl.len {w : Wl} (ok : WOk w.abs) : w.length ≤ 1000 := by
  have := ok.few
  rw [List.length_map] at this
  exact this
theorem Wl.new {w : Wl} {t : Int} {v : V} (h : w.lookup t = none) : putK (wlD w) (Sum.inl t) v = wlD w ++ [(Sum.inl t, v)] := putK_new (fun z => by
  rw [List.map_map] at z
  obtain ⟨x, hx, e⟩ := List.mem_map.mp z
  cases e
  exact lk_none.mp h (List.mem_map.mpr ⟨x, hx, rfl⟩))
theorem Wl.drop {l q : Wl} {t : Int} {x : Addr × Ch} (nd : ((l ++ (t, x) :: q).map (·.1)).Nodup) : dropK (wlD (l ++ (t, x) :: q)) (Sum.inl t) = wlD (l ++ q) := (dropA_val (fun x : Addr × Ch => V.ref x.1) _ t).trans (by rw [dropA_mid nd])
theorem Wl.drop_abs {l q : Wl} {t : Int} {x : Addr × Ch} (nd : ((l ++ (t, x) :: q).map (·.1)).Nodup) : dropA (Wl.abs (l ++ (t, x) :: q)) t = Wl.abs (l ++ q) := (dropA_map (fun x : Addr × Ch => Ch.pure x.2) _ t).trans (by rw [dropA_mid nd])
theorem Wl.set_abs {l q : Wl} {t : Int} {a b : Addr} {r r' : Ch} (nd : ((l ++ (t, a, r) :: q).map (·.1)).Nodup) : setA (Wl.abs (l ++ (t, a, r) :: q)) t r'.pure = Wl.abs (l ++ (t, b, r') :: q) := by
  have e : Wl.abs (l ++ (t, a, r) :: q) = Wl.abs l ++ (t, r.pure) :: Wl.abs q := by unfold Wl.abs; rw [List.map_append]; rfl
  have nd2 : ((Wl.abs l ++ (t, r.pure) :: Wl.abs q).map (·.1)).Nodup := by
    rw [← e, List.map_map]
    exact nd
  rw [e, setA_mid nd2]
  unfold Wl.abs
  rw [List.map_append]
  rfl
theorem anyP_yes {r : ARm} {ps : List Int} {y : Int} (hy : y ∈ ps) (h : (r.lookup y).isSome = true) : anyP r ps = true := List.any_eq_true.mpr ⟨y, hy, h⟩
theorem anyP_no {r : ARm} {ps : List Int} (h : ∀ y ∈ ps, r.lookup y = none) : ¬ anyP r ps = true := fun z => by
  obtain ⟨y, hy, e⟩ := List.any_eq_true.mp z
  rw [h y hy] at e
  cases e
theorem allP_no {r : ARm} {ps : List Int} {y : Int} (hy : y ∈ ps) (h : r.lookup y = none) : ¬ allP r ps = true := fun z => by
  have e := List.all_eq_true.mp z y hy
  rw [h] at e
  cases e
theorem allP_yes {r : ARm} {ps : List Int} (h : ∀ y ∈ ps, (r.lookup y).isSome = true) : allP r ps = true := List.all_eq_true.mpr h
theorem ints_le : ∀ (m : Nat) (l : List Int), l.Nodup → (∀ x ∈ l, 0 ≤ x ∧ x < (m : Int)) → l.length ≤ m
  | 0, l, _, h => by
    cases l with
    | nil => exact Nat.le_refl 0
    | cons a r => have := h a (.head _); omega
  | m + 1, l, hn, h => by
    have h1 := ints_le m (l.erase (m : Int)) (hn.erase _) fun x hx => by
      have h2 := h x (List.mem_of_mem_erase hx)
      have h3 : x ≠ (m : Int) := fun e => by
        subst e
        exact hn.not_mem_erase hx
      omega
    by_cases hm : (m : Int) ∈ l
    · rw [List.length_erase_of_mem hm] at h1
      omega
    · rw [List.erase_of_not_mem hm] at h1
      omega
theorem ROk.len {r : ARm} (h : ROk r) : r.length ≤ 64 := by
  have := ints_le 64 (r.map (·.1)) h.nd fun x hx => h.key x hx
  rwa [List.length_map] at this
theorem pgs_nd (p : Int) (n : Nat) : (pgs p n).Nodup := List.Pairwise.map _ (fun a b h z => h (by omega)) List.nodup_range
theorem pgs_len (p : Int) (n : Nat) : (pgs p n).length = n := by unfold pgs; rw [List.length_map, List.length_range]
theorem pgs_at {p : Int} {n j : Nat} {y : Int} (h : (pgs p n)[j]? = some y) : y = p + j ∧ j < n := by
  unfold pgs at h
  rw [List.getElem?_map] at h
  have hj : j < (List.range n).length := by
    cases e : (List.range n)[j]? with
    | none => rw [e] at h; cases h
    | some z => exact (List.getElem?_eq_some_iff.mp e).1
  rw [List.getElem?_eq_getElem hj, List.getElem_range] at h
  rw [List.length_range] at hj
  exact ⟨(Option.some.inj h).symm, hj⟩
theorem pgs_mem {p : Int} {n : Nat} {y : Int} : y ∈ pgs p n ↔ p ≤ y ∧ y < p + n := by
  unfold pgs
  rw [List.mem_map]
  constructor
  · rintro ⟨i, hi, rfl⟩
    have := List.mem_range.mp hi
    omega
  · intro h
    exact ⟨(y - p).toNat, List.mem_range.mpr (by omega), by omega⟩
/-- not among those ahead of it -/
theorem nd_take {l : List Int} (nd : l.Nodup) {j : Nat} {y : Int} (h : l[j]? = some y) : y ∉ l.take j := fun z => by
  have e := at_split h
  rw [e] at nd
  exact (List.nodup_append.mp nd).2.2 y z y (.head _) rfl
theorem wlD_mid (l q : Wl) (t : Int) (a : Addr) (r r' : Ch) : wlD (l ++ (t, a, r) :: q) = wlD (l ++ (t, a, r') :: q) := by
  unfold wlD
  rw [List.map_append, List.map_append]
  rfl
theorem Own.into {H0 H : Hp} {A : List Addr} {e : Addr × HO} {X Y Z : Cells} (O : Own H0 H A (e :: (X ++ (Y ++ Z)))) : Own H0 H A (X ++ ((Y ++ [e]) ++ Z)) := O.perm (by
  rw [← List.append_assoc X Y Z, List.append_assoc Y [e] Z, ← List.append_assoc X Y]
  exact List.perm_middle.symm)
theorem WOk.at {w : Wl} (ok : WOk w.abs) {t : Int} {a : Addr} {r : Ch} (h : w.lookup t = some (a, r)) : ROk r.pure := ok.rms _ (lk_mem (Wl.abs_some h))
theorem allA_no {r : ARm} {a : Int} {n i : Nat} (hi : i < n) (h : r.lookup ((a + i) / 8) = none) : allA r a n = false := by
  cases e : allA r a n with
  | false => rfl
  | true =>
    have := List.all_eq_true.mp e i (List.mem_range.mpr hi)
    rw [h] at this
    cases this
theorem allA_yes {r : ARm} {a : Int} {n : Nat} (h : ∀ i : Nat, i < n → (r.lookup ((a + i) / 8)).isSome = true) : allA r a n = true := List.all_eq_true.mpr fun i hi => h i (List.mem_range.mp hi)
theorem allA_at {r : ARm} {a : Int} {n i : Nat} (h : allA r a n = true) (hi : i < n) : (r.lookup ((a + i) / 8)).isSome = true := List.all_eq_true.mp h i (List.mem_range.mpr hi)
theorem cellR_at {r : Ch} {at_ : Int} {b : Pg} (h : r.lookup (at_ / 8) = some b) : cellR r.pure at_ = ((b.2)[(at_ % 8).toNat]?).getD 0 := by
  unfold cellR
  rw [Ch.look_abs, h]
  rfl
theorem peekR_take (r : ARm) (a : Int) (n : Nat) {j : Nat} (h : j < n) : (peekR r a n).take (j + 1) = (peekR r a n).take j ++ [cellR r (a + j)] := by
  refine take_succ ?_
  unfold peekR
  rw [List.getElem?_map, List.getElem?_range h]
  rfl
theorem peekR_len (r : ARm) (a : Int) (n : Nat) : (peekR r a n).length = n := by unfold peekR; rw [List.length_map, List.length_range]
theorem ROk.eight {r : Ch} (h : ROk r.pure) {k : Int} {b : Pg} (hb : r.lookup k = some b) : b.2.length = 8 := h.wide (k, b.2) (List.mem_map.mpr ⟨_, lk_mem hb, rfl⟩)
theorem rm_mem {w : Wl} {t : Int} {a : Addr} {r : Ch} (h : w.lookup t = some (a, r)) : (a, HO.dK (Ch.kvs r)) ∈ cRms w := List.mem_flatMap.mpr ⟨_, lk_mem h, .head _⟩
theorem pg_mem {w : Wl} {t k : Int} {a : Addr} {r : Ch} {b : Pg} (h : w.lookup t = some (a, r)) (hb : r.lookup k = some b) : (b.1, HO.lst (b.2.map V.int)) ∈ cRms w := List.mem_flatMap.mpr ⟨_, lk_mem h, .tail _ (List.mem_map.mpr ⟨_, lk_mem hb, rfl⟩)⟩
theorem ite3 {α : Type} {a b : Bool} {x y : α} (h : a = true ∨ b = false) : (if a = true then x else if b = true then y else x) = x := by
  rcases h with z | z
  · rw [if_pos z]
  · rw [z]
    split <;> rfl
theorem pokeR_snoc (r : ARm) (a : Int) (xs : List Int) (c : Int) : pokeR r a (xs ++ [c]) = putR (pokeR r a xs) (a + xs.length) c := by
  induction xs generalizing r a with
  | nil => show putR r a c = putR r (a + 0) c; rw [Int.add_zero]
  | cons x q ih =>
    show pokeR (putR r a x) (a + 1) (q ++ [c]) = putR (pokeR (putR r a x) (a + 1) q) _ c
    rw [ih, List.length_cons, show a + 1 + (q.length : Int) = a + ((q.length + 1 : Nat) : Int) by omega]
theorem putR_mid {l q : Ch} {k : Int} {b : Pg} {at_ c : Int} (nd : ((l ++ (k, b) :: q).map (·.1)).Nodup) (h : at_ / 8 = k) : putR (Ch.pure (l ++ (k, b) :: q)) at_ c = Ch.pure (l ++ (k, (b.1, b.2.set (at_ % 8).toNat c)) :: q) := by
  subst h
  have e : Ch.pure (l ++ (at_ / 8, b) :: q) = Ch.pure l ++ (at_ / 8, b.2) :: Ch.pure q := by unfold Ch.pure; rw [List.map_append]; rfl
  have nd2 : ((Ch.pure l ++ (at_ / 8, b.2) :: Ch.pure q).map (·.1)).Nodup := by
    rw [← e, List.map_map]
    exact nd
  unfold putR
  rw [e, lk_nd (v := b.2) nd2 (List.mem_append_right _ (.head _)), setA_mid nd2]
  unfold Ch.pure
  rw [List.map_append]
  rfl
theorem cCh_mid (a : Addr) (l q : Ch) (k : Int) (b : Pg) : cCh a (l ++ (k, b) :: q) = (a, .dK (Ch.kvs (l ++ (k, b) :: q))) :: (l.map (fun x => pcel x.2) ++ pcel b :: q.map fun x => pcel x.2) := by
  unfold cCh
  rw [List.map_append (l₁ := l)]
  rfl
theorem kvs_mid (l q : Ch) (k : Int) (b b' : Pg) (h : b.1 = b'.1) : Ch.kvs (l ++ (k, b) :: q) = Ch.kvs (l ++ (k, b') :: q) := by
  unfold Ch.kvs
  rw [List.map_append, List.map_append, List.map_cons, List.map_cons, h]
theorem dget_fi {H : Hp} {a : Addr} {o : Obj} {kvs : List (Key × V)} {i : Int} {v : V} (h : H a = some (.frz o (.dK kvs))) (e : valV kvs (Sum.inl i) = some v) : DGet H a (.int i) (some v) := .inl ⟨kvs, Sum.inl i, .inr ⟨o, h⟩, rfl, e.symm⟩
theorem ok_inj {α β : Type} {x y : β} (h : (Except.ok x : Except α β) = .ok y) : x = y := by cases h; rfl
theorem if_ok {c : Prop} [Decidable c] {α β : Type} {e : α} {x y : β} (h : (if c then (.error e) else (.ok x) : Except α β) = .ok y) : ¬ c ∧ x = y := by
  by_cases z : c
  · rw [if_pos z] at h; cases h
  · rw [if_neg z] at h; cases h; exact ⟨z, rfl⟩
theorem if_ok2 {c : Prop} [Decidable c] {α β : Type} {e : α} {x : Except α β} {y : β} (h : (if c then (.error e) else x) = .ok y) : ¬ c ∧ x = .ok y := by
  by_cases z : c
  · rw [if_pos z] at h; cases h
  · rw [if_neg z] at h; exact ⟨z, h⟩
theorem if_ok3 {c : Prop} [Decidable c] {α β : Type} {e : α} {x y : β} (h : (if c then (.ok x) else (.error e) : Except α β) = .ok y) : c ∧ x = y := by
  by_cases z : c
  · rw [if_pos z] at h; cases h; exact ⟨z, rfl⟩
  · rw [if_neg z] at h; cases h

/-! ## plain rooms: what they hold, what they promise -/
structure PRm where
  dx : Addr
  D : Addr
  total : Int
  w : Wl
def cPR (K : PySem.W.Frag) (p : Addr) (m : PRm) : Cells := (p, .ins (He.ga K "PlainRooms") m.dx [("total", .int m.total), ("owned", .ref m.D)]) :: cWl m.D m.w
abbrev Rf.cls (K : PySem.W.Frag) : Rf → Value
  | .taken => .ref (He.ga K "Taken")
  | .noTask => .ref (He.ga K "NoTask")
  | .noPage => .ref (He.ga K "NoPage")
  | .noRoom => .ref (He.ga K "NoRoom")
/-- what a deed may end in -/
def Ans (K : PySem.W.Frag) (H : Hp) (p : Addr) (m : PRm) (r : Except Rf (AWl × Option (List Int))) (Q : VK) (E : XK) : Prop :=
  match r with
  | .error e => ∀ H', Own H H' (adr (cPR K p m)) (cPR K p m) → E (e.cls K) none H'
  | .ok (w', none) => ∀ H' m', Own H H' (adr (cPR K p m)) (cPR K p m') → m'.total = m.total → m'.w.abs = w' → Q .non H'
  | .ok (w', some ns) => ∀ H' m' l, Own H H' (adr (cPR K p m)) ((l, .lst (ns.map V.int)) :: cPR K p m') → m'.total = m.total → m'.w.abs = w' → Q (.ref l) H'
def sp_asked_pages (K : PySem.W.Frag) : Sp := sp2 fun x y H Q E => ∃ p n : Int, x = .int p ∧ y = .int n ∧ (badP p n = true → E (Rf.noPage.cls K) none H) ∧ (badP p n = false → ∀ H' a, Own H H' [] [(a, .lst ((pgs p n.toNat).map V.int))] → Q (.ref a) H')
def sp_PlainRooms___init__ (K : PySem.W.Frag) : Sp := sp2 fun self t H Q _ => ∃ p dx n, self = .ref p ∧ t = .int n ∧ Own H H [p] [(p, .ins (He.ga K "PlainRooms") dx [])] ∧ ∀ H' D, Own H H' [p] (cPR K p ⟨dx, D, n, []⟩) → Q .non H'
def sp_PlainRooms_room_of (K : PySem.W.Frag) : Sp := sp2 fun self t H Q E => ∃ p m i, self = .ref p ∧ t = .int i ∧ Own H H (adr (cPR K p m)) (cPR K p m) ∧ (m.w.lookup i = none → E (Rf.noTask.cls K) none H) ∧ (∀ a r, m.w.lookup i = some (a, r) → Q (.ref a) H)
def sp_PlainRooms_held (K : PySem.W.Frag) : Sp := sp1 fun self H Q _ => ∃ p m, self = .ref p ∧ WOk m.w.abs ∧ Own H H (adr (cPR K p m)) (cPR K p m) ∧ ∀ H', Own H H' (adr (cPR K p m)) (cPR K p m) → Q (.int (heldA m.w.abs)) H'
def sp_PlainRooms_ask_room (K : PySem.W.Frag) : Sp := sp2 fun self n H Q E => ∃ p m i, self = .ref p ∧ n = .int i ∧ WOk m.w.abs ∧ Own H H (adr (cPR K p m)) (cPR K p m) ∧ (heldA m.w.abs + i > m.total → ∀ H', Own H H' (adr (cPR K p m)) (cPR K p m) → E (Rf.noRoom.cls K) none H') ∧ (¬ heldA m.w.abs + i > m.total → ∀ H', Own H H' (adr (cPR K p m)) (cPR K p m) → Q .non H')
def sp_PlainRooms_begin (K : PySem.W.Frag) : Sp := sp2 fun self x H Q E => ∃ p m t, self = .ref p ∧ x = .int t ∧ WOk m.w.abs ∧ Own H H (adr (cPR K p m)) (cPR K p m) ∧ Ans K H p m (sem m.total m.w.abs (.begin t)) Q E
def sp_PlainRooms_close (K : PySem.W.Frag) : Sp := sp2 fun self x H Q E => ∃ p m t, self = .ref p ∧ x = .int t ∧ WOk m.w.abs ∧ Own H H (adr (cPR K p m)) (cPR K p m) ∧ Ans K H p m (sem m.total m.w.abs (.close t)) Q E
def sp_PlainRooms_map (K : PySem.W.Frag) : Sp := sp4 fun self x y z H Q E => ∃ p m t g n, self = .ref p ∧ x = .int t ∧ y = .int g ∧ z = .int n ∧ WOk m.w.abs ∧ Own H H (adr (cPR K p m)) (cPR K p m) ∧ Ans K H p m (sem m.total m.w.abs (.map t g n)) Q E
def sp_PlainRooms_drop (K : PySem.W.Frag) : Sp := sp4 fun self x y z H Q E => ∃ p m t g n, self = .ref p ∧ x = .int t ∧ y = .int g ∧ z = .int n ∧ WOk m.w.abs ∧ Own H H (adr (cPR K p m)) (cPR K p m) ∧ Ans K H p m (sem m.total m.w.abs (.drop t g n)) Q E
def sp_PlainRooms_peek (K : PySem.W.Frag) : Sp := sp4 fun self x y z H Q E => ∃ p m t g n, self = .ref p ∧ x = .int t ∧ y = .int g ∧ z = .int n ∧ WOk m.w.abs ∧ Own H H (adr (cPR K p m)) (cPR K p m) ∧ Ans K H p m (sem m.total m.w.abs (.peek t g n)) Q E
def sp_PlainRooms_poke (K : PySem.W.Frag) : Sp := sp4 fun self x y z H Q E => ∃ p m t g b cs, self = .ref p ∧ x = .int t ∧ y = .int g ∧ z = .ref b ∧ WOk m.w.abs ∧ Own H H (adr (cPR K p m)) (cPR K p m) ∧ H b = some (.lst (cs.map V.int)) ∧ b ∉ adr (cPR K p m) ∧ Ans K H p m (sem m.total m.w.abs (.poke t g cs)) Q E
def sp_PlainRooms_copy (K : PySem.W.Frag) : Sp := sp3 fun self x y H Q E => ∃ p m t o, self = .ref p ∧ x = .int t ∧ y = .int o ∧ WOk m.w.abs ∧ Own H H (adr (cPR K p m)) (cPR K p m) ∧ Ans K H p m (sem m.total m.w.abs (.copy t o)) Q E
/-- the places of addresses: the page's list, the place within -/
def sp_PlainRooms_places_asked (K : PySem.W.Frag) : Sp := sp4 fun self x y z H Q E => ∃ p m t g n, self = .ref p ∧ x = .int t ∧ y = .int g ∧ z = .int n ∧ WOk m.w.abs ∧ Own H H (adr (cPR K p m)) (cPR K p m) ∧
  (m.w.lookup t = none → E (Rf.noTask.cls K) none H) ∧
  (∀ a r, m.w.lookup t = some (a, r) →
    ((badA g n = true ∨ allA r.pure g n.toNat = false) → ∀ H', Own H H' [] [] → E (Rf.noPage.cls K) none H') ∧
    (badA g n = false → allA r.pure g n.toNat = true → ∀ H' l (ts : List Addr), Own H H' [] [(l, .lst (ts.map V.ref))] → ts.length = n.toNat → (∀ (i : Nat) T, ts[i]? = some T → ∃ b, r.lookup ((g + i) / 8) = some b ∧ H' T = some (.tup [.ref b.1, .int ((g + i) % 8)])) → Q (.ref l) H'))
theorem held_sum (w : Wl) : (w.map fun x => ((x.2.2.length : Nat) : Int)).sum = heldA w.abs := by
  unfold heldA
  induction w with
  | nil => rfl
  | cons x r ih =>
    rw [List.map_cons, List.sum_cons, ih]
    show _ = (((((x.1, Ch.pure x.2.2) :: Wl.abs r).map fun x => x.2.length).sum : Nat) : Int)
    rw [List.map_cons, List.sum_cons]
    exact (congrArg (fun z : Nat => (z : Int) + _) (List.length_map _).symm).trans (Int.natCast_add _ _).symm
theorem cPR_mid (K : PySem.W.Frag) (p dx D : Addr) (tot : Int) (l q : Wl) (t : Int) (a : Addr) (r : Ch) : cPR K p ⟨dx, D, tot, l ++ (t, a, r) :: q⟩ = (p, .ins (He.ga K "PlainRooms") dx [("total", .int tot), ("owned", .ref D)]) :: (D, .dK (wlD (l ++ (t, a, r) :: q))) :: (cRms l ++ (cCh a r ++ cRms q)) := by
  unfold cPR cWl
  dsimp only
  rw [cRms_mid]
theorem sc_asked_pages : FnScope ["page", "many"] ["page", "many"] (defScope s_asked_pages) := ⟨rfl, rfl, rfl, by decide +kernel, rfl, by decide +kernel, by decide +kernel⟩
theorem ok_asked_pages {P : Program} {w : World} {K : PySem.W.Frag} {mg : Str → Option Value} {base : Heap} (T : Txt K mg) : Cee P w K mg base 1 (He.fAd K ("asked_pages", none)) ["page", "many"] (sp_asked_pages K) := by
  refine cee_of T.d_asked_pages sc_asked_pages (fun _ _ _ _ _ _ us hl => match us, hl with | [_, _], _ => rfl) (fun vs H Q E h => sp2_len h) (fun cdv A outer s H vs Q E hr h => ⟨_, (pss_cons (PS.box (ps_if (PW.pt (pw_or (pt_cmpR op_lt (pv 1) pe_int (nomark _)) (pw_or (pt_cmpR op_lt (pv 0) pe_int (nomark _)) (pw_or1 (pt_cmpR op_gt (pe_op op_sub (pe_op op_add (pv 0) (pv 1)) pe_int) (pe_gc (v := .int 63) rfl (gI T.g_LAST_PAGE)) (nomark _)))))) (pss_one (L2N.ps_raise rfl (L2N.takes_of rfl rfl rfl rfl) (L2N.pmk_own PySem.F.excBase_ValueError T.x_NoPage.1 T.g_NoPage T.x_NoPage.2.1 (raises_own T.x_NoPage.2.2.1 T.x_NoPage.2.2.2) rfl))) pss_nil)) (pss_one (ps_ret (pe_listRg rfl (by rfl) T.n_list (prg_2 (by rfl) T.n_range (pv 0) (pe_op op_add (pv 0) (pv 1))))))), ?_⟩)
  obtain ⟨v0, v1, rfl, h⟩ := h
  dsimp only [cxOf, L2.start]
  obtain ⟨p, n, rfl, rfl, e, k⟩ := h
  walk_at "s"
  refine cutS (fun σ' H2 => σ' = [some (.int p), some (.int n)] ∧ H2 = H ∧ badP p n = false) (fun nx hn => ?_) ?_
  · walk_at "s"
    refine if_d (fun h1 => e (decide_eq_true (.inl h1))) (fun h1 => ?_)
    walk_at "s"
    refine if_d (fun h2 => e (decide_eq_true (.inr (.inl h2)))) (fun h2 => ?_)
    walk_at "s"
    refine if_d (fun h3 => e (decide_eq_true (by omega))) (fun h3 => ?_)
    exact hn _ _ ⟨rfl, rfl, decide_eq_false (by omega)⟩
  rintro σ' H2 ⟨rfl, rfl, hb⟩
  have hb' := of_decide_eq_false hb
  walk_at "s"
  refine ⟨RgOk.of_le (by omega) (by omega) (by omega) (by omega), fun q hq => ?_⟩
  have e2 : rgV p (p + n) = (pgs p n.toNat).map V.int := by
    unfold rgV pgs
    rw [List.map_map, show (p + n - p).toNat = n.toNat by omega]
    rfl
  rw [e2]
  exact k hb _ q (Own.start.new hq)
theorem sc_PlainRooms___init__ : FnScope ["self", "total"] ["self", "total"] (defScope s_PlainRooms___init__) := ⟨rfl, rfl, rfl, by decide +kernel, rfl, by decide +kernel, by decide +kernel⟩
theorem ok_PlainRooms___init__ {P : Program} {w : World} {K : PySem.W.Frag} {mg : Str → Option Value} {base : Heap} (T : Txt K mg) : Cee P w K mg base 1 (He.fAd K ("PlainRooms", some "__init__")) ["self", "total"] (sp_PlainRooms___init__ K) := by
  refine cee_of T.d_PlainRooms___init__ sc_PlainRooms___init__ (fun _ _ _ _ _ _ us hl => match us, hl with | [_, _], _ => rfl) (fun vs H Q E h => sp2_len h) (fun cdv A outer s H vs Q E hr h => ⟨_, (pss_cons (ps_fld (pv 0) (pv 1) rfl) (pss_one (ps_fld (pv 0) pe_dnewK rfl))), ?_⟩)
  obtain ⟨v0, v1, rfl, h⟩ := h
  dsimp only [cxOf, L2.start]
  obtain ⟨p, dx, n, rfl, rfl, O, k⟩ := h
  walk_at "s"
  intro D hD
  have O1 := (O.wr (o' := .ins (He.ga K "PlainRooms") dx [("total", .int n)]) .here).new (o := .dK []) hD
  walk_at "s"
  exact k _ D ((O1.wr (o' := .ins (He.ga K "PlainRooms") dx [("total", .int n), ("owned", .ref D)]) (.there .here)).perm (List.Perm.swap _ _ _))
theorem sc_PlainRooms_room_of : FnScope ["self", "task"] ["self", "task"] (defScope s_PlainRooms_room_of) := ⟨rfl, rfl, rfl, by decide +kernel, rfl, by decide +kernel, by decide +kernel⟩
theorem ok_PlainRooms_room_of {P : Program} {w : World} {K : PySem.W.Frag} {mg : Str → Option Value} {base : Heap} (T : Txt K mg) : Cee P w K mg base 1 (He.fAd K ("PlainRooms", some "room_of")) ["self", "task"] (sp_PlainRooms_room_of K) := by
  refine cee_of T.d_PlainRooms_room_of sc_PlainRooms_room_of (fun _ _ _ _ _ _ us hl => match us, hl with | [_, _], _ => rfl) (fun vs H Q E h => sp2_len h) (fun cdv A outer s H vs Q E hr h => ⟨_, (pss_cons (ps_if (pt_cmp (pc_dnotin (hu_of hr) (pv 1) (pe_fld (pv 0) rfl)) (by with_unfolding_all rfl)) (pss_one (L2N.ps_raise rfl (L2N.takes_of rfl rfl rfl rfl) (L2N.pmk_own PySem.F.excBase_ValueError T.x_NoTask.1 T.g_NoTask T.x_NoTask.2.1 (raises_own T.x_NoTask.2.2.1 T.x_NoTask.2.2.2) rfl))) pss_nil) (pss_one (ps_ret (pe_dget (hu_of hr) (pe_fld (pv 0) rfl) (pv 1) (fun _ _ => rfl))))), ?_⟩)
  obtain ⟨v0, v1, rfl, h⟩ := h
  dsimp only [cxOf, L2.start]
  obtain ⟨p, m, i, rfl, rfl, O, e, k⟩ := h
  obtain ⟨dx, D, tot, w⟩ := m
  walk_at "s"
  dsimp only at e k ⊢
  rw [Wl.look]
  cases hw : w.lookup i with
  | none =>
    refine if_t rfl ?_
    exact e hw
  | some x =>
    refine if_f rfl ?_
    have hv : valV (wlD w) (Sum.inl i) = some (.ref x.1) := by rw [Wl.look, hw]; rfl
    walk_at "s"
    exact k x.1 x.2 hw
theorem sc_PlainRooms_held : FnScope ["self", "room"] ["self"] (defScope s_PlainRooms_held) := ⟨rfl, rfl, rfl, by decide +kernel, rfl, by decide +kernel, by decide +kernel⟩
theorem ok_PlainRooms_held {P : Program} {w : World} {K : PySem.W.Frag} {mg : Str → Option Value} {base : Heap} (T : Txt K mg) : Cee P w K mg base 1 (He.fAd K ("PlainRooms", some "held")) ["self"] (sp_PlainRooms_held K) := by
  refine cee_of T.d_PlainRooms_held sc_PlainRooms_held (fun _ _ _ _ _ _ us hl => match us, hl with | [_], _ => rfl) (fun vs H Q E h => sp1_len h) (fun cdv A outer s H vs Q E hr h => ⟨_, (pss_one (ps_ret (pe_callB (cr_sum rfl) (by rfl) T.n_sum (by decide +kernel) (pa_cons (pe_lock (pe_lc (own := [("room", 1)]) (by rfl) sc_PlainRooms_held.nd (PI.box (pi_values (pe_fld (pv 0) rfl))) (blkOk_by (own := [("room", 1)]) (N := ["self", "room"]) (sc := defScope s_PlainRooms_held) (by decide +kernel)) (fun _ _ _ _ _ => (pg_name (i := 1) sc_PlainRooms_held.nd rfl (Or.inl rfl))) (fun _ _ _ _ _ => pts_nil) (fun _ _ _ _ _ => (pe_callB call_lenD (by rfl) T.n_len (by decide +kernel) (pa_cons (pv 1) pa_nil))))) pa_nil)))), ?_⟩)
  obtain ⟨v0, rfl, h⟩ := h
  dsimp only [cxOf, L2.start]
  obtain ⟨p, m, rfl, ok, O, k⟩ := h
  obtain ⟨dx, D, tot, w⟩ := m
  have hD := O.get (a := D) (o := .dK (wlD w)) (.tail _ (.head _))
  dsimp only at ok k
  walk_at "s"
  refine ⟨_, hD, True.intro, fun od => ?_⟩
  have O1 := O.wr (a := D) (o' := .frz od (.dK (wlD w))) (.there .here)
  walk_at "s"
  refine lcW (walk_values (d := D) (o := od) (kvs := wlD w)) (fun L j H2 => Own H H2 (adr (cPR K p ⟨dx, D, tot, w⟩)) ((L, .lst ((w.take j).map fun x => V.int x.2.2.length)) :: (p, .ins (He.ga K "PlainRooms") dx [("total", .int tot), ("owned", .ref D)]) :: (D, .frz od (.dK (wlD w))) :: cRms w)) (fun L hL => O1.new hL) (fun L j H2 _ O => O.get (.tail _ (.tail _ (.head _)))) ?_ ?_
  · rintro L j x H2 H3 hj O2 ⟨rfl, k2, hx⟩
    obtain ⟨y, hy⟩ : ∃ y, w[j]? = some y := ⟨w[j]'(by simpa using hj), List.getElem?_eq_getElem _⟩
    rw [List.getElem?_map, hy] at hx
    cases hx
    have hr := O2.get (a := y.2.1) (o := .dK (Ch.kvs y.2.2)) (.tail _ (.tail _ (.tail _ (List.mem_flatMap.mpr ⟨y, List.mem_of_getElem? hy, .head _⟩))))
    have hlen : ((w.take j).map fun x => V.int x.2.2.length).length < 100000 := by
      have := ok.few
      rw [List.length_map] at this
      rw [List.length_map, List.length_take]
      omega
    walk_at "s"
    have O3 := O2.wr (o' := .lst ((w.take j).map (fun x => V.int x.2.2.length) ++ [V.int (Ch.kvs y.2.2).length])) .here
    rw [take_succ hy, List.map_append]
    rw [List.length_map] at O3 ⊢
    exact ⟨O3⟩
  · rintro L H2 O2
    rw [show (wlD w).length = w.length from List.length_map _, List.take_length] at O2
    refine ⟨O2.get (.tail _ (.tail _ (.head _))), ?_⟩
    have O3 := O2.wr (a := D) (o' := .dK (wlD w)) (.there (.there .here))
    walk_at "s"
    have hs : SqL K (upd H2 D (.dK (wlD w))) L ((w.map fun x => ((x.2.2.length : Nat) : Int)).map V.int) := by
      rw [List.map_map]
      exact SqL.of (O3.get (.head _))
    refine ⟨hs, ?_⟩
    rw [held_sum]
    exact k _ (O3.drop (.cons _ (.refl _)))
theorem sc_PlainRooms_ask_room : FnScope ["self", "many"] ["self", "many"] (defScope s_PlainRooms_ask_room) := ⟨rfl, rfl, rfl, by decide +kernel, rfl, by decide +kernel, by decide +kernel⟩
theorem ok_PlainRooms_ask_room {P : Program} {w : World} {K : PySem.W.Frag} {mg : Str → Option Value} {base : Heap} (T : Txt K mg) : Cee P w K mg base 2 (He.fAd K ("PlainRooms", some "ask_room")) ["self", "many"] (sp_PlainRooms_ask_room K) := by
  have c_PlainRooms_held : Cee P w K mg base 1 (He.fAd K ("PlainRooms", some "held")) ["self"] (sp_PlainRooms_held K) := ok_PlainRooms_held T
  refine cee_of T.d_PlainRooms_ask_room sc_PlainRooms_ask_room (fun _ _ _ _ _ _ us hl => match us, hl with | [_, _], _ => rfl) (fun vs H Q E h => sp2_len h) (fun cdv A outer s H vs Q E hr h => ⟨_, (pss_one (ps_if (pt_cmpR op_gt (pe_op op_add (pe_m0 (pv 0) T.c_PlainRooms T.m_PlainRooms_held c_PlainRooms_held (hr.mono (by decide)) (L2N.takes_of rfl rfl rfl rfl)) (pv 1)) (pe_fld (pv 0) rfl) (nomark _)) (pss_one (L2N.ps_raise rfl (L2N.takes_of rfl rfl rfl rfl) (L2N.pmk_own PySem.F.excBase_ValueError T.x_NoRoom.1 T.g_NoRoom T.x_NoRoom.2.1 (raises_own T.x_NoRoom.2.2.1 T.x_NoRoom.2.2.2) rfl))) pss_nil)), ?_⟩)
  obtain ⟨v0, v1, rfl, h⟩ := h
  dsimp only [cxOf, L2.start]
  obtain ⟨p, m, i, rfl, rfl, ok, O, e, k⟩ := h
  walk_at "s"
  refine ask1 ⟨p, m, rfl, ok, O, fun H2 O2 => ?_⟩
  obtain ⟨dx, D, tot, w⟩ := m
  walk_at "s"
  refine if_d (fun h => ?_) (fun h => ?_)
  · exact e h _ O2
  · exact k h _ O2
theorem sc_PlainRooms_begin : FnScope ["self", "task"] ["self", "task"] (defScope s_PlainRooms_begin) := ⟨rfl, rfl, rfl, by decide +kernel, rfl, by decide +kernel, by decide +kernel⟩
theorem ok_PlainRooms_begin {P : Program} {w : World} {K : PySem.W.Frag} {mg : Str → Option Value} {base : Heap} (T : Txt K mg) : Cee P w K mg base 1 (He.fAd K ("PlainRooms", some "begin")) ["self", "task"] (sp_PlainRooms_begin K) := by
  refine cee_of T.d_PlainRooms_begin sc_PlainRooms_begin (fun _ _ _ _ _ _ us hl => match us, hl with | [_, _], _ => rfl) (fun vs H Q E h => sp2_len h) (fun cdv A outer s H vs Q E hr h => ⟨_, (pss_cons (ps_if (pt_cmp (pc_din (hu_of hr) (pv 1) (pe_fld (pv 0) rfl)) (by with_unfolding_all rfl)) (pss_one (L2N.ps_raise rfl (L2N.takes_of rfl rfl rfl rfl) (L2N.pmk_own PySem.F.excBase_ValueError T.x_Taken.1 T.g_Taken T.x_Taken.2.1 (raises_own T.x_Taken.2.2.1 T.x_Taken.2.2.2) rfl))) pss_nil) (pss_one (ps_dput (hu_of hr) (pe_fld (pv 0) rfl) (pv 1) pe_dnewK rfl))), ?_⟩)
  obtain ⟨v0, v1, rfl, h⟩ := h
  dsimp only [cxOf, L2.start]
  obtain ⟨p, m, t, rfl, rfl, ok, O, k⟩ := h
  obtain ⟨dx, D, tot, w⟩ := m
  dsimp only at ok k
  have hlen : (wlD w).length < 100000 := by
    have := Wl.len ok
    rw [List.length_map]
    omega
  walk_at "s"
  dsimp only
  rw [Wl.look]
  cases hw : w.lookup t with
  | some x =>
    rw [sem_begin1 (by rw [Wl.abs_some hw]; rfl)] at k
    refine if_t rfl ?_
    exact k _ O
  | none =>
    rw [sem_begin0 (Wl.abs_none hw)] at k
    refine if_f rfl ?_
    walk_at "s"
    intro a ha
    have O1 := O.new (o := .dK []) ha
    walk_at "s"
    rw [Wl.new hw]
    have O2 := O1.wr (a := D) (o' := .dK (wlD w ++ [(Sum.inl t, V.ref a)])) (.there (.there .here))
    refine k _ ⟨dx, D, tot, w ++ [(t, a, [])]⟩ ?_ rfl ?_
    · refine O2.last.eq ?_
      unfold cPR cWl
      dsimp only
      rw [cRms_app]
      unfold wlD
      rw [List.map_append]
      rfl
    · unfold Wl.abs
      rw [List.map_append]
      rfl
theorem sc_PlainRooms_close : FnScope ["self", "task"] ["self", "task"] (defScope s_PlainRooms_close) := ⟨rfl, rfl, rfl, by decide +kernel, rfl, by decide +kernel, by decide +kernel⟩
theorem ok_PlainRooms_close {P : Program} {w : World} {K : PySem.W.Frag} {mg : Str → Option Value} {base : Heap} (T : Txt K mg) : Cee P w K mg base 2 (He.fAd K ("PlainRooms", some "close")) ["self", "task"] (sp_PlainRooms_close K) := by
  have c_PlainRooms_room_of : Cee P w K mg base 1 (He.fAd K ("PlainRooms", some "room_of")) ["self", "task"] (sp_PlainRooms_room_of K) := ok_PlainRooms_room_of T
  refine cee_of T.d_PlainRooms_close sc_PlainRooms_close (fun _ _ _ _ _ _ us hl => match us, hl with | [_, _], _ => rfl) (fun vs H Q E h => sp2_len h) (fun cdv A outer s H vs Q E hr h => ⟨_, (pss_cons (ps_expr (pe_m (pv 0) T.c_PlainRooms T.m_PlainRooms_room_of c_PlainRooms_room_of (hr.mono (by decide)) (L2N.takes_of rfl rfl rfl rfl) (pa_cons (pv 1) pa_nil))) (pss_one (ps_expr (pe_dpop1 (pe_fld (pv 0) rfl) (pv 1) ⟨rfl, rfl, rfl, rfl⟩)))), ?_⟩)
  obtain ⟨v0, v1, rfl, h⟩ := h
  dsimp only [cxOf, L2.start]
  obtain ⟨p, m, t, rfl, rfl, ok, O, k⟩ := h
  obtain ⟨dx, D, tot, w⟩ := m
  dsimp only at ok k
  walk_at "s"
  cases hw : w.lookup t with
  | none =>
    rw [sem_close0 (Wl.abs_none hw)] at k
    exact ask2 ⟨p, _, t, rfl, rfl, O, fun _ => k _ O, fun a r z => by cases hw.symm.trans z⟩
  | some x =>
    obtain ⟨a, r⟩ := x
    rw [sem_close1 (by rw [Wl.abs_some hw]; rfl)] at k
    refine ask2 ⟨p, _, t, rfl, rfl, O, fun z => (by cases hw.symm.trans z), fun a' r' z => ?_⟩
    cases hw.symm.trans z
    obtain ⟨l, q, rfl, hl⟩ := lk_split hw
    have hv : valV (wlD (l ++ (t, a, r) :: q)) (Sum.inl t) = some (.ref a) := by rw [Wl.look, hw]; rfl
    walk_at "s"
    rw [Wl.drop (Wl.nd ok)]
    rw [Wl.drop_abs (Wl.nd ok)] at k
    have O1 := O.wr (a := D) (o' := .dK (wlD (l ++ q))) (.there .here)
    refine k _ ⟨dx, D, tot, l ++ q⟩ (O1.drop ?_) rfl rfl
    unfold cPR cWl
    dsimp only
    rw [cRms_mid, cRms_app]
    exact .cons₂ _ (.cons₂ _ (.append (.refl _) (List.sublist_append_right _ _)))
theorem sc_PlainRooms_map : FnScope ["self", "task", "page", "many", "room", "wanted", "one"] ["self", "task", "page", "many"] (defScope s_PlainRooms_map) := ⟨rfl, rfl, rfl, by decide +kernel, rfl, by decide +kernel, by decide +kernel⟩
theorem ok_PlainRooms_map {P : Program} {w : World} {K : PySem.W.Frag} {mg : Str → Option Value} {base : Heap} (T : Txt K mg) : Cee P w K mg base 3 (He.fAd K ("PlainRooms", some "map")) ["self", "task", "page", "many"] (sp_PlainRooms_map K) := by
  have c_PlainRooms_room_of : Cee P w K mg base 1 (He.fAd K ("PlainRooms", some "room_of")) ["self", "task"] (sp_PlainRooms_room_of K) := ok_PlainRooms_room_of T
  have c_asked_pages : Cee P w K mg base 1 (He.fAd K ("asked_pages", none)) ["page", "many"] (sp_asked_pages K) := ok_asked_pages T
  have c_PlainRooms_ask_room : Cee P w K mg base 2 (He.fAd K ("PlainRooms", some "ask_room")) ["self", "many"] (sp_PlainRooms_ask_room K) := ok_PlainRooms_ask_room T
  refine cee_of T.d_PlainRooms_map sc_PlainRooms_map (fun _ _ _ _ _ _ us hl => match us, hl with | [_, _, _, _], _ => rfl) (fun vs H Q E h => sp4_len h) (fun cdv A outer s H vs Q E hr h => ⟨_, (pss_cons (ps_set (i := 4) sc_PlainRooms_map.nd rfl (Or.inl rfl) (pe_m (pv 0) T.c_PlainRooms T.m_PlainRooms_room_of c_PlainRooms_room_of (hr.mono (by decide)) (L2N.takes_of rfl rfl rfl rfl) (pa_cons (pv 1) pa_nil))) (pss_cons (ps_set (i := 5) sc_PlainRooms_map.nd rfl (Or.inl rfl) (pe_f c_asked_pages (hr.mono (by decide)) (L2N.takes_of rfl rfl rfl rfl) (by rfl) T.g_asked_pages (pa_cons (pv 2) (pa_cons (pv 3) pa_nil)))) (pss_cons (ps_for (passes_of rfl) rfl (PI.box (pi_list (pv 5))) (pg_name (i := 6) sc_PlainRooms_map.nd rfl (Or.inl rfl)) (pss_one (ps_if (pt_cmp (pc_din (hu_of hr) (pv 6) (pv 4)) (by with_unfolding_all rfl)) (pss_one (L2N.ps_raise rfl (L2N.takes_of rfl rfl rfl rfl) (L2N.pmk_own PySem.F.excBase_ValueError T.x_Taken.1 T.g_Taken T.x_Taken.2.1 (raises_own T.x_Taken.2.2.1 T.x_Taken.2.2.2) rfl))) pss_nil))) (pss_cons (ps_expr (pe_m (pv 0) T.c_PlainRooms T.m_PlainRooms_ask_room c_PlainRooms_ask_room (hr.mono (by decide)) (L2N.takes_of rfl rfl rfl rfl) (pa_cons (pv 3) pa_nil))) (pss_one (ps_for (passes_of rfl) rfl (PI.box (pi_list (pv 5))) (pg_name (i := 6) sc_PlainRooms_map.nd rfl (Or.inl rfl)) (pss_one (ps_dput (hu_of hr) (pv 4) (pv 6) (pe_op op_rep (pe_lst (pa_cons pe_int pa_nil)) (pe_gc (v := .int 8) rfl (gI T.g_PAGE_CELLS))) rfl)))))))), ?_⟩)
  obtain ⟨v0, v1, v2, v3, rfl, h⟩ := h
  dsimp only [cxOf, L2.start]
  obtain ⟨p, m, t, g, n, rfl, rfl, rfl, rfl, ok, O, k⟩ := h
  obtain ⟨dx, D, tot, w⟩ := m
  dsimp only at ok k
  walk_at "s"
  cases hw : w.lookup t with
  | none =>
    rw [sem_map0 (Wl.abs_none hw)] at k
    exact ask2 ⟨p, _, t, rfl, rfl, O, fun _ => k _ O, fun a r z => by cases hw.symm.trans z⟩
  | some x =>
    obtain ⟨a, r⟩ := x
    rw [sem_map1 (Wl.abs_some hw)] at k
    refine ask2 ⟨p, _, t, rfl, rfl, O, fun z => (by cases hw.symm.trans z), fun a' r' z => ?_⟩
    cases hw.symm.trans z
    have hra : H a = some (.dK (Ch.kvs r)) := O.get (.tail _ (.tail _ (List.mem_flatMap.mpr ⟨_, lk_mem hw, .head _⟩)))
    walk_at "s"
    refine ask2 ⟨g, n, rfl, rfl, fun hb => ?_, fun hb H2 la O2 => ?_⟩
    · rw [if_pos hb] at k
      exact k _ O
    rw [if_neg (by rw [hb]; exact Bool.false_ne_true)] at k
    have hb' := of_decide_eq_false hb
    have O3 := O.callN O2
    have hra2 := O2.fr0 hra
    have hpl : (pgs g n.toNat).length = n.toNat := by unfold pgs; rw [List.length_map, List.length_range]
    walk_at "s"
    refine forL (K := K) (a := la) (xs := (pgs g n.toNat).map V.int) (fun j σ H' => ∃ v6 : Option V, σ = [some (.ref p), some (.int t), some (.int g), some (.int n), some (.ref a), some (.ref la), v6] ∧ H' = H2 ∧ ∀ y ∈ (pgs g n.toNat).take j, r.lookup y = none) ⟨_, rfl, rfl, by simp⟩ (fun i σ H' _ ⟨_, _, e, _⟩ => by rw [e]; exact SqL.of (O3.get (.head _))) ?_ ?_
    · rintro j x σ H' hx ⟨v6, rfl, rfl, hno⟩
      obtain ⟨y, hy, rfl⟩ := map_get hx
      walk_at "s"
      rw [Ch.lookV]
      cases hy2 : r.lookup y with
      | some z =>
        refine if_t rfl ?_
        rw [if_pos (anyP_yes (List.mem_of_getElem? hy) (by rw [Ch.look_abs, hy2]; rfl))] at k
        exact k _ (O3.drop (.cons _ (.refl _)))
      | none =>
        refine if_f rfl ?_
        refine ⟨_, rfl, rfl, fun u hu => ?_⟩
        rw [take_succ hy] at hu
        rcases List.mem_append.mp hu with z | z
        · exact hno u z
        · rw [List.mem_singleton.mp z]; exact hy2
    · rintro σ H' ⟨v6, rfl, rfl, hno⟩
      rw [List.length_map, List.take_length] at hno
      rw [if_neg (anyP_no fun y hy => by rw [Ch.look_abs, hno y hy]; rfl)] at k
      walk_at "s"
      refine ask2 ⟨p, ⟨dx, D, tot, w⟩, n, rfl, rfl, ok, O3.blk (s' := []) (.there .all), fun hg H4 O4 => ?_, fun hg H4 O4 => ?_⟩
      · rw [if_pos hg] at k
        exact k _ ((O3.call (.there .all) O4).drop (.cons _ (.refl _)))
      rw [if_neg hg] at k
      have O5 := O3.call (.there .all) O4
      clear O2 O3 O4 hra2
      obtain ⟨l, q, rfl, hl⟩ := lk_split hw
      have nd := Wl.nd ok
      walk_at "s"
      refine forL (K := K) (a := la) (xs := (pgs g n.toNat).map V.int) (fun j σ H' => ∃ (v6 : Option V) (r' : Ch), σ = [some (.ref p), some (.int t), some (.int g), some (.int n), some (.ref a), some (.ref la), v6] ∧ Own H H' (adr (cPR K p ⟨dx, D, tot, l ++ (t, a, r) :: q⟩)) ((la, .lst ((pgs g n.toNat).map V.int)) :: cPR K p ⟨dx, D, tot, l ++ (t, a, r') :: q⟩) ∧ r'.pure = mapR r.pure ((pgs g n.toNat).take j)) ⟨_, r, rfl, O5, (List.append_nil _).symm⟩ (fun i σ H' _ ⟨_, _, _, O, _⟩ => SqL.of (O.get (.head _))) ?_ ?_
      · clear O5
        rintro j x σ H' hx ⟨v6, r', rfl, O6, hr'⟩
        obtain ⟨y, hy, rfl⟩ := map_get hx
        have hyn : y ∉ (pgs g n.toNat).take j := nd_take (pgs_nd _ _) hy
        have hjl := (List.getElem?_eq_some_iff.mp hy).1
        rw [pgs_len] at hjl
        have hkeys : r'.pure.map (·.1) = r.pure.map (·.1) ++ (pgs g n.toNat).take j := by
          rw [hr']
          unfold mapR
          rw [List.map_append]
          refine congrArg _ ?_
          rw [List.map_map]
          exact List.map_id _
        have hk : (Sum.inl y : Key) ∉ (Ch.kvs r').map (·.1) := fun z => by
          rw [List.map_map] at z
          obtain ⟨u, hu, e⟩ := List.mem_map.mp z
          cases e
          have h1 : u.1 ∈ r'.pure.map (·.1) := by
            rw [List.map_map]
            exact List.mem_map.mpr ⟨u, hu, rfl⟩
          rw [hkeys] at h1
          rcases List.mem_append.mp h1 with h1 | h1
          · have h2 := hno u.1 (List.mem_of_getElem? hy)
            rw [List.map_map] at h1
            exact lk_none.mp h2 h1
          · exact hyn h1
        have hlr : (Ch.kvs r').length < 100000 := by
          have h1 := congrArg List.length hkeys
          have h2 := (ok.at hw).len
          simp only [List.length_map, List.length_append, List.length_take] at h1 h2 ⊢
          omega
        have O7 := O6.eq (congrArg (List.cons _) (cPR_mid K p dx D tot l q t a r'))
        walk_at "s"
        intro c hc
        have O8 := O7.new (o := .lst [V.int 0]) hc
        have hsz : ([V.int 0] : List V).length * (8 : Int).toNat ≤ sizeLine := sz_le (by decide)
        walk_at "s"
        intro e he
        have O9 := O8.new (o := .lst (zeros.map V.int)) he
        have haa : (upd (upd H' c (.lst [V.int 0])) e (.lst (zeros.map V.int))) a = some (.dK (Ch.kvs r')) := O9.get (.tail _ (.tail _ (.tail _ (.tail _ (.tail _ (List.mem_append_right _ (.head _)))))))
        walk_at "s"
        rw [putK_new hk]
        have O10 := (O9.drop (cs' := (e, .lst (zeros.map V.int)) :: (la, .lst ((pgs g n.toNat).map V.int)) :: (p, .ins (He.ga K "PlainRooms") dx [("total", .int tot), ("owned", .ref D)]) :: (D, .dK (wlD (l ++ (t, a, r') :: q))) :: (cRms l ++ (cCh a r' ++ cRms q))) (.cons₂ _ (.cons _ (.refl _)))).wr (a := a) (o' := .dK (Ch.kvs r' ++ [(Sum.inl y, V.ref e)])) (.there (.there (.there (.there (.app (.appl .here))))))
        refine ⟨_, r' ++ [(y, (e, zeros))], rfl, ?_, ?_⟩
        · have O11 := Own.into (X := (la, .lst ((pgs g n.toNat).map V.int)) :: (p, .ins (He.ga K "PlainRooms") dx [("total", .int tot), ("owned", .ref D)]) :: (D, .dK (wlD (l ++ (t, a, r') :: q))) :: cRms l) (Y := (a, .dK (Ch.kvs r' ++ [(Sum.inl y, V.ref e)])) :: r'.map fun x => pcel x.2) (Z := cRms q) O10
          refine O11.eq ?_
          rw [cPR_mid, wlD_mid l q t a (r' ++ [(y, (e, zeros))]) r']
          unfold cCh Ch.kvs
          rw [List.map_append, List.map_append]
          rfl
        · rw [take_succ hy]
          show (r' ++ [(y, (e, zeros))]).map (fun x : Int × Pg => (x.1, x.2.2)) = _
          rw [List.map_append, show r'.map (fun x : Int × Pg => (x.1, x.2.2)) = _ from hr']
          unfold mapR
          rw [List.map_append, ← List.append_assoc]
          rfl
      · rintro σ H' ⟨v6, r', rfl, O6, hr'⟩
        rw [List.length_map, List.take_length] at hr'
        walk_at "s"
        refine k _ _ (O6.drop (.cons _ (.refl _))) rfl ?_
        rw [← hr']
        exact (Wl.set_abs nd).symm
theorem sc_PlainRooms_drop : FnScope ["self", "task", "page", "many", "room", "wanted", "one"] ["self", "task", "page", "many"] (defScope s_PlainRooms_drop) := ⟨rfl, rfl, rfl, by decide +kernel, rfl, by decide +kernel, by decide +kernel⟩
theorem ok_PlainRooms_drop {P : Program} {w : World} {K : PySem.W.Frag} {mg : Str → Option Value} {base : Heap} (T : Txt K mg) : Cee P w K mg base 2 (He.fAd K ("PlainRooms", some "drop")) ["self", "task", "page", "many"] (sp_PlainRooms_drop K) := by
  have c_PlainRooms_room_of : Cee P w K mg base 1 (He.fAd K ("PlainRooms", some "room_of")) ["self", "task"] (sp_PlainRooms_room_of K) := ok_PlainRooms_room_of T
  have c_asked_pages : Cee P w K mg base 1 (He.fAd K ("asked_pages", none)) ["page", "many"] (sp_asked_pages K) := ok_asked_pages T
  refine cee_of T.d_PlainRooms_drop sc_PlainRooms_drop (fun _ _ _ _ _ _ us hl => match us, hl with | [_, _, _, _], _ => rfl) (fun vs H Q E h => sp4_len h) (fun cdv A outer s H vs Q E hr h => ⟨_, (pss_cons (ps_set (i := 4) sc_PlainRooms_drop.nd rfl (Or.inl rfl) (pe_m (pv 0) T.c_PlainRooms T.m_PlainRooms_room_of c_PlainRooms_room_of (hr.mono (by decide)) (L2N.takes_of rfl rfl rfl rfl) (pa_cons (pv 1) pa_nil))) (pss_cons (ps_set (i := 5) sc_PlainRooms_drop.nd rfl (Or.inl rfl) (pe_f c_asked_pages (hr.mono (by decide)) (L2N.takes_of rfl rfl rfl rfl) (by rfl) T.g_asked_pages (pa_cons (pv 2) (pa_cons (pv 3) pa_nil)))) (pss_cons (ps_for (passes_of rfl) rfl (PI.box (pi_list (pv 5))) (pg_name (i := 6) sc_PlainRooms_drop.nd rfl (Or.inl rfl)) (pss_one (ps_if (pt_cmp (pc_dnotin (hu_of hr) (pv 6) (pv 4)) (by with_unfolding_all rfl)) (pss_one (L2N.ps_raise rfl (L2N.takes_of rfl rfl rfl rfl) (L2N.pmk_own PySem.F.excBase_ValueError T.x_NoPage.1 T.g_NoPage T.x_NoPage.2.1 (raises_own T.x_NoPage.2.2.1 T.x_NoPage.2.2.2) rfl))) pss_nil))) (pss_one (ps_for (passes_of rfl) rfl (PI.box (pi_list (pv 5))) (pg_name (i := 6) sc_PlainRooms_drop.nd rfl (Or.inl rfl)) (pss_one (ps_expr (pe_dpop1 (pv 4) (pv 6) ⟨rfl, rfl, rfl, rfl⟩)))))))), ?_⟩)
  obtain ⟨v0, v1, v2, v3, rfl, h⟩ := h
  dsimp only [cxOf, L2.start]
  obtain ⟨p, m, t, g, n, rfl, rfl, rfl, rfl, ok, O, k⟩ := h
  obtain ⟨dx, D, tot, w⟩ := m
  dsimp only at ok k
  walk_at "s"
  cases hw : w.lookup t with
  | none =>
    rw [sem_drop0 (Wl.abs_none hw)] at k
    exact ask2 ⟨p, _, t, rfl, rfl, O, fun _ => k _ O, fun a r z => by cases hw.symm.trans z⟩
  | some x =>
    obtain ⟨a, r⟩ := x
    rw [sem_drop1 (Wl.abs_some hw)] at k
    refine ask2 ⟨p, _, t, rfl, rfl, O, fun z => (by cases hw.symm.trans z), fun a' r' z => ?_⟩
    cases hw.symm.trans z
    have hra : H a = some (.dK (Ch.kvs r)) := O.get (.tail _ (.tail _ (List.mem_flatMap.mpr ⟨_, lk_mem hw, .head _⟩)))
    walk_at "s"
    refine ask2 ⟨g, n, rfl, rfl, fun hb => ?_, fun hb H2 la O2 => ?_⟩
    · rw [if_pos hb] at k
      exact k _ O
    rw [if_neg (by rw [hb]; exact Bool.false_ne_true)] at k
    have hb' := of_decide_eq_false hb
    have O3 := O.callN O2
    have hra2 := O2.fr0 hra
    walk_at "s"
    refine forL (K := K) (a := la) (xs := (pgs g n.toNat).map V.int) (fun j σ H' => ∃ v6 : Option V, σ = [some (.ref p), some (.int t), some (.int g), some (.int n), some (.ref a), some (.ref la), v6] ∧ H' = H2 ∧ ∀ y ∈ (pgs g n.toNat).take j, (r.lookup y).isSome = true) ⟨_, rfl, rfl, by simp⟩ (fun i σ H' _ ⟨_, _, e, _⟩ => by rw [e]; exact SqL.of (O3.get (.head _))) ?_ ?_
    · rintro j x σ H' hx ⟨v6, rfl, rfl, hno⟩
      obtain ⟨y, hy, rfl⟩ := map_get hx
      walk_at "s"
      rw [Ch.lookV]
      cases hy2 : r.lookup y with
      | none =>
        refine if_t rfl ?_
        rw [if_neg (allP_no (List.mem_of_getElem? hy) (by rw [Ch.look_abs, hy2]; rfl))] at k
        exact k _ (O3.drop (.cons _ (.refl _)))
      | some z =>
        refine if_f rfl ?_
        refine ⟨_, rfl, rfl, fun u hu => ?_⟩
        rw [take_succ hy] at hu
        rcases List.mem_append.mp hu with z | z
        · exact hno u z
        · rw [List.mem_singleton.mp z, hy2]; rfl
    · rintro σ H' ⟨v6, rfl, rfl, hno⟩
      rw [List.length_map, List.take_length] at hno
      rw [if_pos (allP_yes fun y hy => by rw [Ch.look_abs]; have := hno y hy; cases e : r.lookup y with | none => rw [e] at this; cases this | some z => rfl)] at k
      clear O2 hra2
      obtain ⟨l, q, rfl, hl⟩ := lk_split hw
      have nd := Wl.nd ok
      have ndr : (r.map (·.1)).Nodup := by
        have := (ok.at hw).nd
        rw [List.map_map] at this
        exact this
      walk_at "s"
      refine forL (K := K) (a := la) (xs := (pgs g n.toNat).map V.int) (fun j σ H' => ∃ (v6 : Option V) (r' : Ch), σ = [some (.ref p), some (.int t), some (.int g), some (.int n), some (.ref a), some (.ref la), v6] ∧ Own H H' (adr (cPR K p ⟨dx, D, tot, l ++ (t, a, r) :: q⟩)) ((la, .lst ((pgs g n.toNat).map V.int)) :: cPR K p ⟨dx, D, tot, l ++ (t, a, r') :: q⟩) ∧ r'.pure = dropR r.pure ((pgs g n.toNat).take j) ∧ (r'.map (·.1)).Nodup ∧ ∀ y, y ∉ (pgs g n.toNat).take j → r'.lookup y = r.lookup y) ⟨_, r, rfl, O3, rfl, ndr, fun _ _ => rfl⟩ (fun i σ H' _ ⟨_, _, _, O, _⟩ => SqL.of (O.get (.head _))) ?_ ?_
      · clear O3
        rintro j x σ H' hx ⟨v6, r', rfl, O6, hr', ndr', hsame⟩
        obtain ⟨y, hy, rfl⟩ := map_get hx
        have hyn : y ∉ (pgs g n.toNat).take j := nd_take (pgs_nd _ _) hy
        have hy3 := hno y (List.mem_of_getElem? hy)
        rw [← hsame y hyn] at hy3
        obtain ⟨z, hz⟩ := Option.isSome_iff_exists.mp hy3
        obtain ⟨l2, q2, rfl, hl2⟩ := lk_split hz
        have O7 := O6.eq (congrArg (List.cons _) (cPR_mid K p dx D tot l q t a (l2 ++ (y, z) :: q2)))
        have haa : H' a = some (.dK (Ch.kvs (l2 ++ (y, z) :: q2))) := O7.get (.tail _ (.tail _ (.tail _ (List.mem_append_right _ (.head _)))))
        have hvy : valV (Ch.kvs (l2 ++ (y, z) :: q2)) (Sum.inl y) = some (.ref z.1) := by rw [Ch.lookV, hz]; rfl
        walk_at "s"
        have e1 : dropK (Ch.kvs (l2 ++ (y, z) :: q2)) (Sum.inl y) = Ch.kvs (l2 ++ q2) := (dropA_val (fun x : Pg => V.ref x.1) _ y).trans (by rw [dropA_mid ndr'])
        rw [e1]
        have O8 := O7.wr (a := a) (o' := .dK (Ch.kvs (l2 ++ q2))) (.there (.there (.there (.app (.appl .here)))))
        refine ⟨_, l2 ++ q2, rfl, ?_, ?_, ?_, ?_⟩
        · rw [cPR_mid K p dx D tot l q t a (l2 ++ q2), wlD_mid l q t a (l2 ++ q2) (l2 ++ (y, z) :: q2)]
          refine O8.drop (.cons₂ _ (.cons₂ _ (.cons₂ _ (.append (.refl _) (.append (.cons₂ _ ?_) (.refl _))))))
          rw [List.map_append, List.map_append]
          exact .append (.refl _) (.cons _ (.refl _))
        · rw [take_succ hy]
          unfold dropR
          rw [List.foldl_append]
          show _ = dropA (dropR r.pure _) y
          rw [← hr']
          exact ((dropA_map (fun x : Pg => x.2) _ y).trans (by rw [dropA_mid ndr'])).symm
        · refine ndr'.sublist (List.Sublist.map _ ?_)
          exact .append (.refl _) (.cons _ (.refl _))
        · intro u hu
          rw [take_succ hy] at hu
          have hu1 : u ≠ y := fun e => hu (by rw [e]; simp)
          rw [← hsame u fun z => hu (List.mem_append_left _ z), lk_app, lk_app, List.lookup_cons, show (u == y) = false by simpa using hu1]
      · rintro σ H' ⟨v6, r', rfl, O6, hr', ndr', hsame⟩
        rw [List.length_map, List.take_length] at hr'
        walk_at "s"
        refine k _ _ (O6.drop (.cons _ (.refl _))) rfl ?_
        rw [← hr']
        exact (Wl.set_abs nd).symm

theorem sc_PlainRooms_places_asked : FnScope ["self", "task", "address", "many", "room", "found", "at"] ["self", "task", "address", "many"] (defScope s_PlainRooms_places_asked) := ⟨rfl, rfl, rfl, by decide +kernel, rfl, by decide +kernel, by decide +kernel⟩
theorem ok_PlainRooms_places_asked {P : Program} {w : World} {K : PySem.W.Frag} {mg : Str → Option Value} {base : Heap} (T : Txt K mg) : Cee P w K mg base 2 (He.fAd K ("PlainRooms", some "places_asked")) ["self", "task", "address", "many"] (sp_PlainRooms_places_asked K) := by
  have c_PlainRooms_room_of : Cee P w K mg base 1 (He.fAd K ("PlainRooms", some "room_of")) ["self", "task"] (sp_PlainRooms_room_of K) := ok_PlainRooms_room_of T
  refine cee_of T.d_PlainRooms_places_asked sc_PlainRooms_places_asked (fun _ _ _ _ _ _ us hl => match us, hl with | [_, _, _, _], _ => rfl) (fun vs H Q E h => sp4_len h) (fun cdv A outer s H vs Q E hr h => ⟨_, (pss_cons (ps_set (i := 4) sc_PlainRooms_places_asked.nd rfl (Or.inl rfl) (pe_m (pv 0) T.c_PlainRooms T.m_PlainRooms_room_of c_PlainRooms_room_of (hr.mono (by decide)) (L2N.takes_of rfl rfl rfl rfl) (pa_cons (pv 1) pa_nil))) (pss_cons (PS.box (ps_if (PW.pt (pw_or (pt_cmpR op_lt (pv 3) pe_int (nomark _)) (pw_or1 (PW.pt (pw_and (pt_cmpR op_gt (pv 3) pe_int (nomark _)) (pw_and1 (PW.pt (pw_or (pt_cmpR op_lt (pv 2) pe_int (nomark _)) (pw_or1 (pt_cmpR op_gt (pe_op op_add (pv 2) (pv 3)) (pe_op op_mul (pe_op op_add (pe_gc (v := .int 63) rfl (gI T.g_LAST_PAGE)) pe_int) (pe_gc (v := .int 8) rfl (gI T.g_PAGE_CELLS))) (nomark _))))))))))) (pss_one (L2N.ps_raise rfl (L2N.takes_of rfl rfl rfl rfl) (L2N.pmk_own PySem.F.excBase_ValueError T.x_NoPage.1 T.g_NoPage T.x_NoPage.2.1 (raises_own T.x_NoPage.2.2.1 T.x_NoPage.2.2.2) rfl))) pss_nil)) (pss_cons (ps_set (i := 5) sc_PlainRooms_places_asked.nd rfl (Or.inl rfl) (pe_lst pa_nil)) (pss_cons (ps_for (passes_of rfl) rfl (PI.box (pi_range2W (by rfl) T.n_range (pa_cons (pv 2) (pa_cons (pe_op op_add (pv 2) (pv 3)) pa_nil)))) (pg_name (i := 6) sc_PlainRooms_places_asked.nd rfl (Or.inl rfl)) (pss_cons (ps_if (pt_cmp (pc_dnotin (hu_of hr) (pe_op op_fdiv (pv 6) (pe_gc (v := .int 8) rfl (gI T.g_PAGE_CELLS))) (pv 4)) (by with_unfolding_all rfl)) (pss_one (L2N.ps_raise rfl (L2N.takes_of rfl rfl rfl rfl) (L2N.pmk_own PySem.F.excBase_ValueError T.x_NoPage.1 T.g_NoPage T.x_NoPage.2.1 (raises_own T.x_NoPage.2.2.1 T.x_NoPage.2.2.2) rfl))) pss_nil) (pss_one (ps_expr (pe_bm PySem.F.plainAttrs_list PySem.F.slot_list_append PySem.F.type_list_append mt_append (pv 5) (pa_cons (pe_tup (pa_cons (pe_dget (hu_of hr) (pv 4) (pe_op op_fdiv (pv 6) (pe_gc (v := .int 8) rfl (gI T.g_PAGE_CELLS))) (fun _ _ => rfl)) (pa_cons (pe_op op_mod (pv 6) (pe_gc (v := .int 8) rfl (gI T.g_PAGE_CELLS))) pa_nil))) pa_nil)))))) (pss_one (ps_ret (pv 5))))))), ?_⟩)
  obtain ⟨v0, v1, v2, v3, rfl, h⟩ := h
  dsimp only [cxOf, L2.start]
  obtain ⟨p, m, t, g, n, rfl, rfl, rfl, rfl, ok, O, e, k⟩ := h
  obtain ⟨dx, D, tot, w⟩ := m
  dsimp only at ok e k
  walk_at "s"
  cases hw : w.lookup t with
  | none => exact ask2 ⟨p, _, t, rfl, rfl, O, fun z => e z, fun a r z => by cases hw.symm.trans z⟩
  | some x =>
    obtain ⟨a, r⟩ := x
    obtain ⟨k1, k2⟩ := k a r hw
    refine ask2 ⟨p, _, t, rfl, rfl, O, fun z => (by cases hw.symm.trans z), fun a' r' z => ?_⟩
    cases hw.symm.trans z
    have hra : H a = some (.dK (Ch.kvs r)) := O.get (.tail _ (.tail _ (List.mem_flatMap.mpr ⟨_, lk_mem hw, .head _⟩)))
    walk_at "s"
    refine cutS (fun σ' H2 => σ' = [some (.ref p), some (.int t), some (.int g), some (.int n), some (.ref a), none, none] ∧ H2 = H ∧ badA g n = false) (fun nx hn => ?_) ?_
    · walk_at "s"
      refine if_d (fun h1 => k1 (.inl (decide_eq_true (.inl h1))) _ Own.start) (fun h1 => ?_)
      walk_at "s"
      refine if_d (fun h2 => ?_) (fun h2 => ?_)
      · walk_at "s"
        refine if_d (fun h3 => k1 (.inl (decide_eq_true (.inr ⟨h2, .inl h3⟩))) _ Own.start) (fun h3 => ?_)
        walk_at "s"
        refine if_d (fun h4 => k1 (.inl (decide_eq_true (by omega))) _ Own.start) (fun h4 => ?_)
        exact hn _ _ ⟨rfl, rfl, decide_eq_false (by omega)⟩
      · exact hn _ _ ⟨rfl, rfl, decide_eq_false (by omega)⟩
    rintro σ' H2 ⟨rfl, rfl, hb⟩
    have hb' := of_decide_eq_false hb
    walk_at "s"
    intro f hf
    have O1 := (Own.start (H := H2)).new (o := .lst []) hf
    walk_at "s"
    refine forR (fun j σ H' => ∃ (ts : List Addr) (v6 : Option V), σ = [some (.ref p), some (.int t), some (.int g), some (.int n), some (.ref a), some (.ref f), v6] ∧ Own H2 H' [] [(f, .lst (ts.map V.ref))] ∧ ts.length = j ∧ ∀ (i : Nat) T, ts[i]? = some T → ∃ b, r.lookup ((g + i) / 8) = some b ∧ H' T = some (.tup [.ref b.1, .int ((g + i) % 8)])) ⟨[], _, rfl, O1, rfl, nofun⟩ ?_ ?_
    · rintro j σ H' hj ⟨ts, v6, rfl, O2, hl, ht⟩
      have hra2 := O2.fr0 hra
      have hjn : j < n.toNat := by omega
      have hlk := Ch.lookV r ((g + j) / 8)
      walk_at "s"
      dsimp only
      rw [hlk]
      cases hz : r.lookup ((g + j) / 8) with
      | none =>
        refine if_t rfl ?_
        exact k1 (.inr (allA_no hjn (by rw [Ch.look_abs, hz]; rfl))) _ (O2.drop (List.nil_sublist _))
      | some b =>
        rw [hz] at hlk
        refine if_f rfl ?_
        walk_at "s"
        intro T hT
        have O3 := O2.newT (o := .tup [.ref b.1, .int ((g + j) % 8)]) hT
        have hlen : (ts.map V.ref).length < 100000 := by rw [List.length_map]; omega
        walk_at "s"
        have S3 := (O2.self.newT (o := .tup [.ref b.1, .int ((g + j) % 8)]) hT).wr (o' := .lst (ts.map V.ref ++ [.ref T])) .here
        refine ⟨ts ++ [T], _, rfl, ?_, by rw [List.length_append, hl]; rfl, fun i U hU => ?_⟩
        · rw [List.map_append]
          exact O3.wr .here
        · by_cases hi : i < ts.length
          · rw [List.getElem?_append_left hi] at hU
            obtain ⟨b2, h1, h2⟩ := ht i U hU
            exact ⟨b2, h1, S3.tp _ _ h2⟩
          · rw [List.getElem?_append_right (by omega)] at hU
            have hi2 : i - ts.length = 0 := by
              have := (List.getElem?_eq_some_iff.mp hU).1
              rw [List.length_singleton] at this
              omega
            rw [hi2] at hU
            cases hU
            have hij : i = j := by omega
            subst hij
            refine ⟨b, hz, ?_⟩
            rw [upd_ne (fun w => by have := O2.get (a := f) (.head _); rw [← w, hT] at this; cases this)]
            exact upd_same
    · rintro σ H' ⟨ts, v6, rfl, O2, hl, ht⟩
      rw [show g + n - g = n by omega] at hl
      walk_at "s"
      refine k2 hb (allA_yes fun i hi => ?_) _ f ts O2 hl ht
      obtain ⟨b, h1, _⟩ := ht i (ts[i]'(by omega)) (List.getElem?_eq_getElem _)
      rw [Ch.look_abs, h1]
      rfl
theorem sc_PlainRooms_peek : FnScope ["self", "task", "address", "many", "page", "at"] ["self", "task", "address", "many"] (defScope s_PlainRooms_peek) := ⟨rfl, rfl, rfl, by decide +kernel, rfl, by decide +kernel, by decide +kernel⟩
theorem ok_PlainRooms_peek {P : Program} {w : World} {K : PySem.W.Frag} {mg : Str → Option Value} {base : Heap} (T : Txt K mg) : Cee P w K mg base 3 (He.fAd K ("PlainRooms", some "peek")) ["self", "task", "address", "many"] (sp_PlainRooms_peek K) := by
  have c_PlainRooms_places_asked : Cee P w K mg base 2 (He.fAd K ("PlainRooms", some "places_asked")) ["self", "task", "address", "many"] (sp_PlainRooms_places_asked K) := ok_PlainRooms_places_asked T
  refine cee_of T.d_PlainRooms_peek sc_PlainRooms_peek (fun _ _ _ _ _ _ us hl => match us, hl with | [_, _, _, _], _ => rfl) (fun vs H Q E h => sp4_len h) (fun cdv A outer s H vs Q E hr h => ⟨_, (pss_one (ps_ret (pe_lc (own := [("page", 4), ("at", 5)]) (by rfl) sc_PlainRooms_peek.nd (PI.box (pi_list (pe_m (pv 0) T.c_PlainRooms T.m_PlainRooms_places_asked c_PlainRooms_places_asked (hr.mono (by decide)) (L2N.takes_of rfl rfl rfl rfl) (pa_cons (pv 1) (pa_cons (pv 2) (pa_cons (pv 3) pa_nil)))))) (blkOk_by (own := [("page", 4), ("at", 5)]) (N := ["self", "task", "address", "many", "page", "at"]) (sc := defScope s_PlainRooms_peek) (by decide +kernel)) (fun _ _ _ _ _ => (show PG _ _ (gTup K 2 (gCons (gName 4) (gCons (gName 5) gNil))) from (pg_tup rfl (pgs_cons (pg_name (i := 4) sc_PlainRooms_peek.nd rfl (Or.inl rfl)) (pgs_cons (pg_name (i := 5) sc_PlainRooms_peek.nd rfl (Or.inl rfl)) pgs_nil))))) (fun _ _ _ _ _ => pts_nil) (fun _ _ _ _ _ => (pe_ix (show IxR _ (rIxL K) from ix_list) (pv 4) (pv 5) (fun _ _ => rfl)))))), ?_⟩)
  obtain ⟨v0, v1, v2, v3, rfl, h⟩ := h
  dsimp only [cxOf, L2.start]
  obtain ⟨p, m, t, g, n, rfl, rfl, rfl, rfl, ok, O, k⟩ := h
  obtain ⟨dx, D, tot, w⟩ := m
  dsimp only at ok k
  walk_at "s"
  refine ask4 ⟨p, _, t, g, n, rfl, rfl, rfl, rfl, ok, O, fun hw => ?_, fun a r hw => ⟨fun hb H2 O2 => ?_, fun hb ha H2 f ts O2 hl ht => ?_⟩⟩
  · rw [sem_peek0 (Wl.abs_none hw)] at k
    exact k _ O
  · rw [sem_peek1 (Wl.abs_some hw), ite3 hb] at k
    exact k _ (O.callN O2)
  · rw [sem_peek1 (Wl.abs_some hw), if_neg (by rw [hb]; exact Bool.false_ne_true), if_pos ha] at k
    have hb' := of_decide_eq_false hb
    have O0 : Own H H2 (adr (cPR K p ⟨dx, D, tot, w⟩)) ((f, .lst (ts.map V.ref)) :: cPR K p ⟨dx, D, tot, w⟩) := O.callN O2
    have rok := ok.at hw
    refine ⟨f, rfl, ⟨_, SqL.of (O0.get (.head _))⟩, ?_⟩
    refine lcW (walk_list (K := K) (a := f) (xs := ts.map V.ref)) (fun L j H3 => Own H2 H3 (adr ((f, .lst (ts.map V.ref)) :: cPR K p ⟨dx, D, tot, w⟩)) ((L, .lst (((peekR r.pure g n.toNat).take j).map V.int)) :: (f, .lst (ts.map V.ref)) :: cPR K p ⟨dx, D, tot, w⟩)) (fun L hL => O0.self.new hL) (fun L j H3 _ O3 => SqL.of (O3.get (.tail _ (.head _)))) ?_ ?_
    · rintro L j x H3 H4 hj O3 ⟨rfl, hx⟩
      rw [List.length_map, hl] at hj
      rw [List.getElem?_map] at hx
      cases hT : ts[j]? with
      | none => rw [hT] at hx; cases hx
      | some T =>
        rw [hT] at hx
        cases hx
        obtain ⟨b, hb1, hb2⟩ := ht j T hT
        have hTT := O3.tp _ _ hb2
        have hbl := O3.get (a := b.1) (o := .lst (b.2.map V.int)) (.tail _ (.tail _ (.tail _ (.tail _ (pg_mem hw hb1)))))
        have h8 := rok.eight hb1
        obtain ⟨y, hy, hat⟩ := at_ints (ns := b.2) (n := (g + j) % 8) (by omega) (by rw [List.length_map]; omega)
        have hlen : ((((peekR r.pure g n.toNat).take j).map V.int)).length < 100000 := by
          rw [List.length_map, List.length_take, peekR_len]
          omega
        walk_at "s"
        rw [peekR_take _ _ _ hj, List.map_append, cellR_at hb1, hy]
        exact ⟨O3.wr .here⟩
    · intro L H3 O3
      rw [List.length_map, hl, List.take_of_length_le (by rw [peekR_len]; omega)] at O3
      refine k H3 ⟨dx, D, tot, w⟩ L ?_ rfl rfl
      exact (O0.call .all O3).drop (.cons₂ _ (.cons _ (.refl _)))
theorem sc_PlainRooms_poke : FnScope ["self", "task", "address", "cells", "spot", "cell"] ["self", "task", "address", "cells"] (defScope s_PlainRooms_poke) := ⟨rfl, rfl, rfl, by decide +kernel, rfl, by decide +kernel, by decide +kernel⟩
theorem ok_PlainRooms_poke {P : Program} {w : World} {K : PySem.W.Frag} {mg : Str → Option Value} {base : Heap} (T : Txt K mg) : Cee P w K mg base 3 (He.fAd K ("PlainRooms", some "poke")) ["self", "task", "address", "cells"] (sp_PlainRooms_poke K) := by
  have c_PlainRooms_places_asked : Cee P w K mg base 2 (He.fAd K ("PlainRooms", some "places_asked")) ["self", "task", "address", "many"] (sp_PlainRooms_places_asked K) := ok_PlainRooms_places_asked T
  refine cee_of T.d_PlainRooms_poke sc_PlainRooms_poke (fun _ _ _ _ _ _ us hl => match us, hl with | [_, _, _, _], _ => rfl) (fun vs H Q E h => sp4_len h) (fun cdv A outer s H vs Q E hr h => ⟨_, (pss_one (ps_for (passes_of rfl) rfl (PI.box (pi_zip (by rfl) T.n_zip (pa_cons (pe_m (pv 0) T.c_PlainRooms T.m_PlainRooms_places_asked c_PlainRooms_places_asked (hr.mono (by decide)) (L2N.takes_of rfl rfl rfl rfl) (pa_cons (pv 1) (pa_cons (pv 2) (pa_cons (pe_callB call_len_seq (by rfl) T.n_len (by decide +kernel) (pa_cons (pv 3) pa_nil)) pa_nil)))) (pa_cons (pv 3) pa_nil)))) (pg_tup rfl (pgs_cons (pg_name (i := 4) sc_PlainRooms_poke.nd rfl (Or.inl rfl)) (pgs_cons (pg_name (i := 5) sc_PlainRooms_poke.nd rfl (Or.inl rfl)) pgs_nil))) (pss_one (ps_asg (pv 5) (pg_sub (pe_ix ix_tup (pv 4) pe_int (fun _ _ => rfl)) (pe_ix ix_tup (pv 4) pe_int (fun _ _ => rfl)) set_list))))), ?_⟩)
  obtain ⟨v0, v1, v2, v3, rfl, h⟩ := h
  dsimp only [cxOf, L2.start]
  obtain ⟨p, m, t, g, b, cs, rfl, rfl, rfl, rfl, ok, O, hb0, hbn, k⟩ := h
  obtain ⟨dx, D, tot, w⟩ := m
  dsimp only at ok k
  walk_at "s"
  refine ask4 ⟨p, _, t, g, cs.length, rfl, rfl, rfl, by rw [List.length_map], ok, O, fun hw => ?_, fun a r hw => ⟨fun hb H2 O2 => ?_, fun hb ha H2 f ts O2 hl ht => ?_⟩⟩
  · rw [sem_poke0 (Wl.abs_none hw)] at k
    exact k _ O
  · rw [Int.toNat_natCast] at hb
    rw [sem_poke1 (Wl.abs_some hw), ite3 hb] at k
    exact k _ (O.callN O2)
  · rw [Int.toNat_natCast] at ha hl
    rw [sem_poke1 (Wl.abs_some hw), if_neg (by rw [hb]; exact Bool.false_ne_true), if_pos ha] at k
    have hb' := of_decide_eq_false hb
    have O0 : Own H H2 (adr (cPR K p ⟨dx, D, tot, w⟩)) ((f, .lst (ts.map V.ref)) :: cPR K p ⟨dx, D, tot, w⟩) := O.callN O2
    have hb2 := O0.fr _ _ hb0 hbn
    have hbf : b ≠ f := fun e => by
      rcases O2.nw f (.head _) with z | z
      · cases z
      · rw [← e, hb0] at z; cases z
    obtain ⟨l, q, rfl, hl2⟩ := lk_split hw
    have nd := Wl.nd ok
    have rok := ok.at hw
    have ndr : (r.map (·.1)).Nodup := by
      have := rok.nd
      rw [List.map_map] at this
      exact this
    refine ⟨.ref b, rfl, f, b, _, _, rfl, SqL.of (O0.get (.head _)), SqL.of hb2, ?_⟩
    refine forW (walk_zip (K := K) (a := f) (b := b) (xs := ts.map V.ref) (ys := cs.map V.int) (n := cs.length) (by simp only [List.length_map]; omega)) (fun j σ H3 => ∃ (v4 v5 : Option V) (r' : Ch), σ = [some (.ref p), some (.int t), some (.int g), some (.ref b), v4, v5] ∧ Own H2 H3 (adr ((f, .lst (ts.map V.ref)) :: cPR K p ⟨dx, D, tot, l ++ (t, a, r) :: q⟩)) ((f, .lst (ts.map V.ref)) :: cPR K p ⟨dx, D, tot, l ++ (t, a, r') :: q⟩) ∧ r'.pure = pokeR r.pure g (cs.take j) ∧ r'.map (fun x => (x.1, x.2.1)) = r.map (fun x => (x.1, x.2.1)) ∧ ∀ x ∈ r', x.2.2.length = 8) ⟨_, _, r, rfl, O0.self, rfl, rfl, fun x hx => rok.wide _ (List.mem_map.mpr ⟨x, hx, rfl⟩)⟩ (fun i σ H' _ ⟨_, _, _, _, O, _⟩ => ⟨SqL.of (O.get (.head _)), SqL.of (O.fr _ _ hb2 (fun z => by rcases List.mem_cons.mp z with z | z; exact hbf z; exact hbn z))⟩) ?_ ?_
    · rintro j x σ H3 H4 hj ⟨v4, v5, r', rfl, O3, hr', hk, hw8⟩ ⟨T, u, v, rfl, hT, rfl, hu, hv⟩
      obtain ⟨U, hU⟩ : ∃ U, ts[j]? = some U := ⟨ts[j]'(by omega), List.getElem?_eq_getElem _⟩
      obtain ⟨c, hc⟩ : ∃ c, cs[j]? = some c := ⟨cs[j]'(by omega), List.getElem?_eq_getElem _⟩
      simp only [List.getElem?_map, hU, hc, Option.map_some, Option.some.injEq] at hu hv
      subst hu hv
      obtain ⟨b1, hb1, hbU⟩ := ht j U hU
      obtain ⟨e, he, he8⟩ : ∃ e : Nat, (g + j) % 8 = (e : Int) ∧ e < 8 := ⟨((g + j) % 8).toNat, by omega, by omega⟩
      rw [he] at hbU
      have hlk : (r'.lookup ((g + j) / 8)).map (·.1) = some b1.1 := by
        have h1 := lk_map (fun x : Pg => x.1) r' ((g + j) / 8)
        have h2 := lk_map (fun x : Pg => x.1) r ((g + j) / 8)
        rw [hb1] at h2
        rw [← h1]
        exact (congrArg (List.lookup _) hk).trans h2
      obtain ⟨b2, hb2', hbb⟩ : ∃ b2, r'.lookup ((g + j) / 8) = some b2 ∧ b2.1 = b1.1 := by
        cases z : r'.lookup ((g + j) / 8) with
        | none => rw [z] at hlk; cases hlk
        | some y => rw [z] at hlk; exact ⟨y, rfl, Option.some.inj hlk⟩
      rw [← hbb] at hbU
      have ndr' : (r'.map (·.1)).Nodup := by
        have h1 := congrArg (List.map (fun x : Int × Addr => x.1)) hk
        rw [List.map_map, List.map_map] at h1
        exact (show r'.map (·.1) = r.map (·.1) from h1) ▸ ndr
      obtain ⟨l2, q2, rfl, hl3⟩ := lk_split hb2'
      have h8 := hw8 _ (lk_mem hb2')
      have O4 := O3.newT (o := .tup [V.ref U, V.int c]) hT
      have O5 := O4.eq (congrArg (List.cons _) ((cPR_mid K p dx D tot l q t a _).trans (congrArg (fun z => _ :: _ :: (cRms l ++ (z ++ cRms q))) (cCh_mid a l2 q2 ((g + j) / 8) b2))))
      have hTT : (upd H3 T (.tup [V.ref U, V.int c])) T = some (.tup [V.ref U, V.int c]) := upd_same
      have hUU := O5.tp _ _ hbU
      have hbl := O5.get (a := b2.1) (o := .lst (b2.2.map V.int)) (.tail _ (.tail _ (.tail _ (List.mem_append_right _ (List.mem_append_left _ (.tail _ (List.mem_append_right _ (.head _))))))))
      have hix : ixN (b2.2.map V.int).length ((e : Nat) : Int) = some e := ix_at (by rw [List.length_map, h8]; exact he8)
      walk_at "s"
      rw [set_map]
      have O6 := O5.wr (a := b2.1) (o' := .lst ((b2.2.set e c).map V.int)) (.there (.there (.there (.app (.appl (.there (.app .here)))))))
      refine ⟨_, _, l2 ++ ((g + j) / 8, (b2.1, b2.2.set e c)) :: q2, rfl, O6.eq ?_, ?_, ?_, ?_⟩
      · rw [cPR_mid, cCh_mid, wlD_mid l q t a (l2 ++ ((g + j) / 8, (b2.1, b2.2.set e c)) :: q2) (l2 ++ ((g + j) / 8, b2) :: q2), kvs_mid l2 q2 _ (b2.1, b2.2.set e c) b2 rfl]
      · have hjl : (cs.take j).length = j := by rw [List.length_take]; omega
        rw [take_succ hc, pokeR_snoc, ← hr', hjl, putR_mid ndr' rfl, he]
        rfl
      · rw [← hk, List.map_append, List.map_append]
        rfl
      · intro x hx
        rcases List.mem_append.mp hx with z | z
        · exact hw8 x (List.mem_append_left _ z)
        · rcases List.mem_cons.mp z with z | z
          · rw [z]
            exact (List.length_set ..).trans h8
          · exact hw8 x (List.mem_append_right _ (.tail _ z))
    · rintro σ H3 ⟨v4, v5, r', rfl, O3, hr', hk, hw8⟩
      rw [List.take_length] at hr'
      walk_at "s"
      refine k H3 ⟨dx, D, tot, l ++ (t, a, r') :: q⟩ ((O0.call .all O3).drop (.cons _ (.refl _))) rfl ?_
      rw [← hr']
      exact (Wl.set_abs nd).symm
theorem sc_PlainRooms_copy : FnScope ["self", "task", "other", "room", "page", "kept"] ["self", "task", "other"] (defScope s_PlainRooms_copy) := ⟨rfl, rfl, rfl, by decide +kernel, rfl, by decide +kernel, by decide +kernel⟩
theorem ok_PlainRooms_copy {P : Program} {w : World} {K : PySem.W.Frag} {mg : Str → Option Value} {base : Heap} (T : Txt K mg) : Cee P w K mg base 3 (He.fAd K ("PlainRooms", some "copy")) ["self", "task", "other"] (sp_PlainRooms_copy K) := by
  have c_PlainRooms_room_of : Cee P w K mg base 1 (He.fAd K ("PlainRooms", some "room_of")) ["self", "task"] (sp_PlainRooms_room_of K) := ok_PlainRooms_room_of T
  have c_PlainRooms_ask_room : Cee P w K mg base 2 (He.fAd K ("PlainRooms", some "ask_room")) ["self", "many"] (sp_PlainRooms_ask_room K) := ok_PlainRooms_ask_room T
  refine cee_of T.d_PlainRooms_copy sc_PlainRooms_copy (fun _ _ _ _ _ _ us hl => match us, hl with | [_, _, _], _ => rfl) (fun vs H Q E h => sp3_len h) (fun cdv A outer s H vs Q E hr h => ⟨_, (pss_cons (ps_set (i := 3) sc_PlainRooms_copy.nd rfl (Or.inl rfl) (pe_m (pv 0) T.c_PlainRooms T.m_PlainRooms_room_of c_PlainRooms_room_of (hr.mono (by decide)) (L2N.takes_of rfl rfl rfl rfl) (pa_cons (pv 1) pa_nil))) (pss_cons (ps_if (pt_cmp (pc_din (hu_of hr) (pv 2) (pe_fld (pv 0) rfl)) (by with_unfolding_all rfl)) (pss_one (L2N.ps_raise rfl (L2N.takes_of rfl rfl rfl rfl) (L2N.pmk_own PySem.F.excBase_ValueError T.x_Taken.1 T.g_Taken T.x_Taken.2.1 (raises_own T.x_Taken.2.2.1 T.x_Taken.2.2.2) rfl))) pss_nil) (pss_cons (ps_expr (pe_m (pv 0) T.c_PlainRooms T.m_PlainRooms_ask_room c_PlainRooms_ask_room (hr.mono (by decide)) (L2N.takes_of rfl rfl rfl rfl) (pa_cons (pe_callB call_lenD (by rfl) T.n_len (by decide +kernel) (pa_cons (pv 3) pa_nil)) pa_nil))) (pss_one (ps_dput (hu_of hr) (pe_fld (pv 0) rfl) (pv 2) (pe_callTy (call_dictP rfl) (by rfl) T.n_dict (by decide +kernel) (pa_cons (pe_lock (pe_lc (own := [("page", 4), ("kept", 5)]) (by rfl) sc_PlainRooms_copy.nd (PI.box (pi_items (pv 3))) (blkOk_by (own := [("page", 4), ("kept", 5)]) (N := ["self", "task", "other", "room", "page", "kept"]) (sc := defScope s_PlainRooms_copy) (by decide +kernel)) (fun _ _ _ _ _ => (show PG _ _ (gTup K 2 (gCons (gName 4) (gCons (gName 5) gNil))) from (pg_tup rfl (pgs_cons (pg_name (i := 4) sc_PlainRooms_copy.nd rfl (Or.inl rfl)) (pgs_cons (pg_name (i := 5) sc_PlainRooms_copy.nd rfl (Or.inl rfl)) pgs_nil))))) (fun _ _ _ _ _ => pts_nil) (fun _ _ _ _ _ => (pe_tup (pa_cons (pv 4) (pa_cons (pe_callTy (show CallR _ (.type "list") (rListOf K) from call_list_of) (by rfl) T.n_list (by decide +kernel) (pa_cons (pv 5) pa_nil)) pa_nil)))))) pa_nil)) rfl))))), ?_⟩)
  obtain ⟨v0, v1, v2, rfl, h⟩ := h
  dsimp only [cxOf, L2.start]
  obtain ⟨p, m, t, o, rfl, rfl, rfl, ok, O, k⟩ := h
  obtain ⟨dx, D, tot, w⟩ := m
  dsimp only at ok k
  have hlen : (wlD w).length < 100000 := by
    have := Wl.len ok
    rw [List.length_map]
    omega
  walk_at "s"
  cases hw : w.lookup t with
  | none =>
    rw [sem_copy0 (Wl.abs_none hw)] at k
    exact ask2 ⟨p, _, t, rfl, rfl, O, fun _ => k _ O, fun a r z => by cases hw.symm.trans z⟩
  | some x =>
    obtain ⟨a, r⟩ := x
    rw [sem_copy1 (Wl.abs_some hw)] at k
    refine ask2 ⟨p, _, t, rfl, rfl, O, fun z => (by cases hw.symm.trans z), fun a' r' z => ?_⟩
    cases hw.symm.trans z
    have hra : H a = some (.dK (Ch.kvs r)) := O.get (.tail _ (.tail _ (rm_mem hw)))
    walk_at "s"
    dsimp only
    rw [Wl.look]
    cases hw2 : w.lookup o with
    | some x =>
      rw [if_pos (by rw [Wl.abs_some hw2]; rfl)] at k
      refine if_t rfl ?_
      exact k _ O
    | none =>
      rw [if_neg (by rw [Wl.abs_none hw2]; decide)] at k
      refine if_f rfl ?_
      walk_at "s"
      have rok := ok.at hw
      have hrl := rok.len
      rw [List.length_map] at hrl k
      refine ask2 ⟨p, ⟨dx, D, tot, w⟩, r.length, rfl, by rw [List.length_map], ok, O, fun hg H2 O2 => ?_, fun hg H2 O2 => ?_⟩
      · rw [if_pos hg] at k
        exact k _ O2
      rw [if_neg hg] at k
      have hra2 : H2 a = some (.dK (Ch.kvs r)) := O2.get (.tail _ (.tail _ (rm_mem hw)))
      obtain ⟨l, q, rfl, hl⟩ := lk_split hw
      walk_at "s"
      refine ⟨_, hra2, True.intro, fun od => ?_⟩
      have O3 := (O2.eq (cPR_mid K p dx D tot l q t a r)).wr (a := a) (o' := .frz od (.dK (Ch.kvs r))) (.there (.there (.app (.appl .here))))
      walk_at "s"
      refine lcW (walk_items (d := a) (o := od) (kvs := Ch.kvs r)) (fun L j H3 => ∃ (qs : List Addr) (ch' : Ch), Own H H3 (adr (cPR K p ⟨dx, D, tot, l ++ (t, a, r) :: q⟩)) ((L, .lst (qs.map V.ref)) :: ((ch'.map fun x => pcel x.2) ++ (p, .ins (He.ga K "PlainRooms") dx [("total", .int tot), ("owned", .ref D)]) :: (D, .dK (wlD (l ++ (t, a, r) :: q))) :: (cRms l ++ (((a, .frz od (.dK (Ch.kvs r))) :: r.map fun x => pcel x.2) ++ cRms q)))) ∧ ch'.pure = (Ch.pure r).take j ∧ Paired (fun q (x : Int × Pg) => H3 q = some (.tup [.int x.1, .ref x.2.1])) qs ch') (fun L hL => ⟨[], [], O3.new hL, rfl, .nil⟩) (fun L j H3 _ ⟨_, _, O, _⟩ => O.get (.tail _ (List.mem_append_right _ (.tail _ (.tail _ (List.mem_append_right _ (.head _))))))) ?_ ?_
      · rintro L j x H3 H4 hj ⟨qs, ch', O4, hp, hpair⟩ ⟨T, u, v, rfl, hT, rfl, hu, hv⟩
        obtain ⟨y, hy⟩ : ∃ y, r[j]? = some y := ⟨r[j]'(by simpa using hj), List.getElem?_eq_getElem _⟩
        simp only [List.getElem?_map, hy, Option.map_some, Option.some.injEq] at hu hv
        subst hu hv
        have hym := List.mem_of_getElem? hy
        have hyh := O4.get (a := y.2.1) (o := .lst (y.2.2.map V.int)) (.tail _ (List.mem_append_right _ (.tail _ (.tail _ (List.mem_append_right _ (.tail _ (List.mem_append_left _ (List.mem_map.mpr ⟨y, hym, rfl⟩))))))))
        have O5 := O4.newT (o := .tup [V.int y.1, V.ref y.2.1]) hT
        have hyh2 := O5.get (a := y.2.1) (o := .lst (y.2.2.map V.int)) (.tail _ (List.mem_append_right _ (.tail _ (.tail _ (List.mem_append_right _ (.tail _ (List.mem_append_left _ (List.mem_map.mpr ⟨y, hym, rfl⟩))))))))
        have hT1 : (upd H3 T (.tup [V.int y.1, V.ref y.2.1])) T = some (.tup [V.int y.1, V.ref y.2.1]) := upd_same
        have hpl := congrArg List.length hp
        rw [List.length_map, List.length_take, List.length_map] at hpl
        have hql : qs.length = ch'.length := hpair.length
        have hlen : (qs.map V.ref).length < 100000 := by rw [List.length_map]; omega
        walk_at "s"
        intro l2 hl2
        have O6 := O5.new (o := .lst (y.2.2.map V.int)) hl2
        walk_at "s"
        intro t2 ht2
        have O7 := O6.newT (o := .tup [.int y.1, .ref l2]) ht2
        have S7 := ((O4.self.newT (o := .tup [V.int y.1, V.ref y.2.1]) hT).new (o := .lst (y.2.2.map V.int)) hl2).newT (o := .tup [.int y.1, .ref l2]) ht2
        walk_at "s"
        have O8 := O7.wr (o' := .lst (qs.map V.ref ++ [.ref t2])) (.there .here)
        have S8 := S7.wr (o' := .lst (qs.map V.ref ++ [.ref t2])) (.there .here)
        refine ⟨qs ++ [t2], ch' ++ [(y.1, (l2, y.2.2))], ?_, ?_, ?_⟩
        · rw [List.map_append, List.map_append]
          refine O8.perm ((List.Perm.swap _ _ _).trans (.cons _ ?_))
          rw [List.append_assoc]
          exact List.perm_middle.symm
        · show (ch' ++ [(y.1, (l2, y.2.2))]).map (fun x : Int × Pg => (x.1, x.2.2)) = _
          rw [List.map_append, show ch'.map (fun x : Int × Pg => (x.1, x.2.2)) = (Ch.pure r).take j from hp, take_succ (show (Ch.pure r)[j]? = some (y.1, y.2.2) by rw [List.getElem?_map, hy]; rfl)]
          rfl
        · refine (Paired.mapP hpair fun a b h => S8.tp _ _ h).snoc ?_
          have h1 := O7.get (a := L) (.tail _ (.head _))
          rw [upd_ne (fun z => by rw [z] at ht2; have h2 := O6.get (a := L) (.tail _ (.head _)); cases h2.symm.trans ht2)]
          exact upd_same
      · rintro L H3 ⟨qs, ch', O4, hp, hpair⟩
        rw [List.length_map, List.take_of_length_le (by rw [List.length_map]; omega)] at hp
        have hcf := O4.get (a := a) (.tail _ (List.mem_append_right _ (.tail _ (.tail _ (List.mem_append_right _ (.head _))))))
        have O5 := O4.wr (a := a) (o' := .dK (Ch.kvs r)) (.there (.app (.there (.there (.app (.appl .here))))))
        have S5 := O4.self.wr (a := a) (o' := .dK (Ch.kvs r)) (.there (.app (.there (.there (.app (.appl .here))))))
        have hP : Paired (fun p (kv : Key × V) => SqT K (upd H3 a (.dK (Ch.kvs r))) p [kV kv.1, kv.2]) qs (Ch.kvs ch') := by
          have h1 := Paired.mapP hpair fun a b h => S5.tp _ _ h
          clear O4 O5 S5 hpair hp
          induction h1 with
          | nil => exact .nil
          | cons a b ih => exact .cons (SqT.of a) ih
        have hnd : ((Ch.kvs ch').map (·.1)).Nodup := by
          have h1 : (Ch.kvs ch').map (·.1) = ((Ch.pure r).map (·.1)).map Sum.inl := by
            rw [← hp, List.map_map, List.map_map, List.map_map]
            rfl
          rw [h1]
          exact rok.nd.map _ (fun a b h z => h (Sum.inl.inj z))
        have hlD := O5.get (a := L) (.head _)
        walk_at "s"
        refine ⟨qs, Ch.kvs ch', rfl, SqL.of hlD, hP, fun n hn => ?_⟩
        rw [mergeK_app (acc := []) hnd]
        have O6 := O5.new (o := .dK (Ch.kvs ch')) hn
        walk_at "s"
        rw [Wl.new hw2]
        have O7 := O6.wr (a := D) (o' := .dK (wlD (l ++ (t, a, r) :: q) ++ [(Sum.inl o, V.ref n)])) (.there (.there (.app (.there .here))))
        refine k _ ⟨dx, D, tot, (l ++ (t, a, r) :: q) ++ [(o, n, ch')]⟩ ?_ rfl ?_
        · have O8 := O7.drop (cs' := cCh n ch' ++ ((p, .ins (He.ga K "PlainRooms") dx [("total", .int tot), ("owned", .ref D)]) :: (D, .dK (wlD (l ++ (t, a, r) :: q) ++ [(Sum.inl o, V.ref n)])) :: cRms (l ++ (t, a, r) :: q))) (by
            rw [cRms_mid]
            exact .cons₂ _ (.cons _ (.refl _)))
          refine (O8.perm List.perm_append_comm).eq ?_
          unfold cPR cWl
          dsimp only
          rw [cRms_app (l ++ (t, a, r) :: q)]
          unfold wlD
          rw [List.map_append (l₁ := l ++ (t, a, r) :: q)]
          show _ = _ :: _ :: (_ ++ (cCh n ch' ++ []))
          rw [List.append_nil]
          rfl
        · unfold Wl.abs
          rw [List.map_append (l₁ := l ++ (t, a, r) :: q)]
          show _ ++ [(o, Ch.pure ch')] = _
          rw [hp]

/-! ## what the laws over plain rooms share -/
/-- the parts of a deed's tuple; b is the list of a poke -/
def RDeed.vs (b : Addr) : RDeed → List V
  | .begin t => [.str "begin", .int t]
  | .close t => [.str "close", .int t]
  | .map t p n => [.str "map", .int t, .int p, .int n]
  | .drop t p n => [.str "drop", .int t, .int p, .int n]
  | .peek t a n => [.str "peek", .int t, .int a, .int n]
  | .poke t a _ => [.str "poke", .int t, .int a, .ref b]
  | .copy t o => [.str "copy", .int t, .int o]
def RDeed.cel (b : Addr) : RDeed → Cells
  | .poke _ _ cs => [(b, .lst (cs.map V.int))]
  | _ => []
def RDeed.fine : RDeed → Prop
  | .poke _ _ cs => cs.length ≤ 64
  | _ => True
/-- a deed's tuple, and its list out of reach of some -/
def DAt (H : Hp) (A : List Addr) (T : Addr) (d : RDeed) (b : Addr) : Prop := H T = some (.tup (d.vs b)) ∧ ∀ e ∈ d.cel b, H e.1 = some e.2 ∧ e.1 ∉ A
/-- the word of an answer -/
def wordA : Except Rf (AWl × Option (List Int)) → Str
  | .error e => e.name
  | .ok _ => ""
def outA : Except Rf (AWl × Option (List Int)) → Option (List Int)
  | .error _ => none
  | .ok (_, o) => o
def nextA (w : AWl) : Except Rf (AWl × Option (List Int)) → AWl
  | .error _ => w
  | .ok (w', _) => w'
abbrev Tol := Option (Addr × List Int)
def Tol.v : Tol → V
  | none => .non
  | some x => .ref x.1
def Tol.cel : Tol → Cells
  | none => []
  | some x => [(x.1, .lst (x.2.map V.int))]
def sp__law_number (K : PySem.W.Frag) : Sp := sp3 fun x y z H Q _ => ∃ c k d, x = .int c ∧ y = .int k ∧ z = .bl d ∧ 0 ≤ k ∧ k < 100 ∧ ∀ n : Int, Q (.int n) H
def sp__law_tasks (K : PySem.W.Frag) : Sp := sp1 fun x H Q _ => ∃ c, x = .int c ∧ ∀ H' a (u v : Int), Own H H' [] [(a, .lst ([1, 2, u, v].map V.int))] → 3 ≤ u → u ≤ 11 → 12 ≤ v → Q (.ref a) H'
def sp__law_page (K : PySem.W.Frag) : Sp := sp1 fun x H Q _ => ∃ c, x = .int c ∧ ∀ H' (n : Int), Own H H' [] [] → Q (.int n) H'
def sp__law_many (K : PySem.W.Frag) : Sp := sp1 fun x H Q _ => ∃ c, x = .int c ∧ ∀ H' (n : Int), Own H H' [] [] → Q (.int n) H'
def sp__law_address (K : PySem.W.Frag) : Sp := sp1 fun x H Q _ => ∃ c, x = .int c ∧ ∀ H' (n : Int), Own H H' [] [] → Q (.int n) H'
def sp__law_cells (K : PySem.W.Frag) : Sp := sp1 fun x H Q _ => ∃ c, x = .int c ∧ ∀ H' b (cs : List Int), Own H H' [] [(b, .lst (cs.map V.int))] → cs.length ≤ 64 → Q (.ref b) H'
def sp__law_deed (K : PySem.W.Frag) : Sp := sp2 fun x y H Q _ => ∃ (n : Int) (a : Addr) (t0 t1 t2 t3 : Int), x = .int n ∧ y = .ref a ∧ H a = some (.lst ([t0, t1, t2, t3].map V.int)) ∧
  ∀ H' T b (d : RDeed), Own H H' [] (d.cel b) → H' T = some (.tup (d.vs b)) → d.fine → Q (.ref T) H'
def sp__law_do (K : PySem.W.Frag) : Sp := sp2 fun x y H Q E => ∃ p m T b d, x = .ref p ∧ y = .ref T ∧ WOk m.w.abs ∧ Own H H (adr (cPR K p m)) (cPR K p m) ∧ DAt H (adr (cPR K p m)) T d b ∧ Ans K H p m (sem m.total m.w.abs d) Q E
def sp__law_word (K : PySem.W.Frag) : Addr → Sp := fun e => sp1 fun x H Q _ => ∃ r : Rf, x = .ref e ∧ H e = some (CxO (r.cls K) none e) ∧ ∀ H', Own H H' [] [] → Q (.str r.name) H'
def sp__law_told (K : PySem.W.Frag) : Sp := sp2 fun x y H Q _ => ∃ p m T b d, x = .ref p ∧ y = .ref T ∧ WOk m.w.abs ∧ Own H H (adr (cPR K p m)) (cPR K p m) ∧ DAt H (adr (cPR K p m)) T d b ∧
  ∀ H' m' o T', Own H H' (adr (cPR K p m)) (Tol.cel o ++ cPR K p m') → m'.total = m.total → m'.w.abs = nextA m.w.abs (sem m.total m.w.abs d) → o.map (·.2) = outA (sem m.total m.w.abs d) → H' T' = some (.tup [Tol.v o, .str (wordA (sem m.total m.w.abs d))]) → Q (.ref T') H'
theorem mget {α : Type} {f : α → V} {l : List α} {i : Nat} {x : V} (h : (l.map f)[i]? = some x) : ∃ y, l[i]? = some y ∧ x = f y := by
  rw [List.getElem?_map] at h
  cases e : l[i]? with
  | none => rw [e] at h; cases h
  | some y => rw [e] at h; exact ⟨y, rfl, (Option.some.inj h).symm⟩
theorem mgetK {α : Type} {f : α → Key × V} {l : List α} {i : Nat} {x : Key × V} (h : (l.map f)[i]? = some x) : ∃ y, l[i]? = some y ∧ x = f y := by
  rw [List.getElem?_map] at h
  cases e : l[i]? with
  | none => rw [e] at h; cases h
  | some y => rw [e] at h; exact ⟨y, rfl, (Option.some.inj h).symm⟩
def isIntV : V → Bool
  | .int _ => true
  | _ => false
theorem at_cell {H : Hp} {a : Addr} {xs : List V} {n : Int} (_ : H a = some (.lst xs)) (h0 : 0 ≤ n) (h1 : n < xs.length) (h2 : xs.all isIntV = true) : ∃ i : Int, atI xs n = some (.int i) := by
  obtain ⟨y, h3, h4⟩ := at_int h0 h1
  have h5 := List.all_eq_true.mp h2 y (List.mem_of_getElem? h3)
  cases y <;> first | exact ⟨_, h4⟩ | cases h5
theorem at_cellB {H : Hp} {a : Addr} {xs : List V} {n lo hi : Int} (_ : H a = some (.lst xs)) (h0 : 0 ≤ n) (h1 : n < xs.length) (h2 : ∀ v ∈ xs, ∃ i, v = .int i ∧ lo ≤ i ∧ i ≤ hi) : ∃ i : Int, atI xs n = some (.int i) ∧ lo ≤ i ∧ i ≤ hi := by
  obtain ⟨y, h3, h4⟩ := at_int h0 h1
  obtain ⟨i, rfl, h5, h6⟩ := h2 y (List.mem_of_getElem? h3)
  exact ⟨i, h4, h5, h6⟩
theorem out_none {tot : Int} {w : AWl} {d : RDeed} (h : ∀ t a n, d ≠ .peek t a n) : outA (sem tot w d) = none := by
  cases d with
  | peek t a n => exact absurd rfl (h t a n)
  | begin t => simp only [sem]; split <;> rfl
  | close t => simp only [sem]; split <;> rfl
  | map t p n => simp only [sem]; (repeat' split) <;> rfl
  | drop t p n => simp only [sem]; (repeat' split) <;> rfl
  | poke t p n => simp only [sem]; (repeat' split) <;> rfl
  | copy t o => simp only [sem]; (repeat' split) <;> rfl
theorem sc__law_number : FnScope ["_law_cell", "_law_k", "_law_digits", "_law_once"] ["_law_cell", "_law_k", "_law_digits"] (defScope s__law_number) := ⟨rfl, rfl, rfl, by decide +kernel, rfl, by decide +kernel, by decide +kernel⟩
theorem ok__law_number {P : Program} {w : World} {K : PySem.W.Frag} {mg : Str → Option Value} {base : Heap} (T : Txt K mg) : Cee P w K mg base 1 (He.fAd K ("_law_number", none)) ["_law_cell", "_law_k", "_law_digits"] (sp__law_number K) := by
  refine cee_of T.d__law_number sc__law_number (fun _ _ _ _ _ _ us hl => match us, hl with | [_, _, _], _ => rfl) (fun vs H Q E h => sp3_len h) (fun cdv A outer s H vs Q E hr h => ⟨_, (pss_cons (ps_if (pt_val (pv 2)) (pss_one (ps_ret (pe_op op_mod (pv 0) (pe_op op_pow pe_int pe_int)))) pss_nil) (pss_cons (ps_set (i := 3) sc__law_number.nd rfl (Or.inl rfl) (pe_op op_mod (pe_op op_mul (pe_op op_add (pe_op op_add (pe_op op_mod (pv 0) (pe_op op_pow pe_int pe_int)) (pe_op op_mul pe_int (pv 1))) pe_int) pe_int) pe_int)) (pss_one (ps_ret (pe_op op_add (pe_op op_mul (pv 3) pe_int) (pe_op op_mod (pe_op op_mul (pv 3) (pv 3)) pe_int)))))), ?_⟩)
  obtain ⟨v0, v1, v2, rfl, h⟩ := h
  dsimp only [cxOf, L2.start]
  obtain ⟨c, k', d, rfl, rfl, rfl, h0, h1, k⟩ := h
  walk_at "s"
  refine if_b (fun h => ?_) (fun h => ?_)
  · walk_at "s"
    exact k _
  · walk_at "s"
    exact k _
theorem sc__law_tasks : FnScope ["_law_cell"] ["_law_cell"] (defScope s__law_tasks) := ⟨rfl, rfl, rfl, by decide +kernel, rfl, by decide +kernel, by decide +kernel⟩
theorem ok__law_tasks {P : Program} {w : World} {K : PySem.W.Frag} {mg : Str → Option Value} {base : Heap} (T : Txt K mg) : Cee P w K mg base 1 (He.fAd K ("_law_tasks", none)) ["_law_cell"] (sp__law_tasks K) := by
  refine cee_of T.d__law_tasks sc__law_tasks (fun _ _ _ _ _ _ us hl => match us, hl with | [_], _ => rfl) (fun vs H Q E h => sp1_len h) (fun cdv A outer s H vs Q E hr h => ⟨_, (pss_one (ps_ret (pe_lst (pa_cons pe_int (pa_cons pe_int (pa_cons (pe_op op_add pe_int (pe_op op_mod (pv 0) pe_int)) (pa_cons (pe_op op_add (pe_op op_pow pe_int pe_int) (pe_op op_mod (pv 0) (pe_op op_pow pe_int pe_int))) pa_nil))))))), ?_⟩)
  obtain ⟨v0, rfl, h⟩ := h
  dsimp only [cxOf, L2.start]
  obtain ⟨c, rfl, k⟩ := h
  walk_at "s"
  intro a ha
  exact k _ a _ _ (Own.start.new ha) (by omega) (by omega) (by
    have h1 : 0 ≤ c % 10 ^ Int.toNat 40 := Int.emod_nonneg _ (by decide)
    have h2 : (12 : Int) ≤ 10 ^ Int.toNat 59 := by decide
    omega)
theorem sc__law_do : FnScope ["_law_rooms", "_law_deed"] ["_law_rooms", "_law_deed"] (defScope s__law_do) := ⟨rfl, rfl, rfl, by decide +kernel, rfl, by decide +kernel, by decide +kernel⟩
theorem ok__law_do {P : Program} {w : World} {K : PySem.W.Frag} {mg : Str → Option Value} {base : Heap} (T : Txt K mg) : Cee P w K mg base 4 (He.fAd K ("_law_do", none)) ["_law_rooms", "_law_deed"] (sp__law_do K) := by
  have c_PlainRooms_begin : Cee P w K mg base 1 (He.fAd K ("PlainRooms", some "begin")) ["self", "task"] (sp_PlainRooms_begin K) := ok_PlainRooms_begin T
  have c_PlainRooms_close : Cee P w K mg base 2 (He.fAd K ("PlainRooms", some "close")) ["self", "task"] (sp_PlainRooms_close K) := ok_PlainRooms_close T
  have c_PlainRooms_map : Cee P w K mg base 3 (He.fAd K ("PlainRooms", some "map")) ["self", "task", "page", "many"] (sp_PlainRooms_map K) := ok_PlainRooms_map T
  have c_PlainRooms_drop : Cee P w K mg base 2 (He.fAd K ("PlainRooms", some "drop")) ["self", "task", "page", "many"] (sp_PlainRooms_drop K) := ok_PlainRooms_drop T
  have c_PlainRooms_peek : Cee P w K mg base 3 (He.fAd K ("PlainRooms", some "peek")) ["self", "task", "address", "many"] (sp_PlainRooms_peek K) := ok_PlainRooms_peek T
  have c_PlainRooms_poke : Cee P w K mg base 3 (He.fAd K ("PlainRooms", some "poke")) ["self", "task", "address", "cells"] (sp_PlainRooms_poke K) := ok_PlainRooms_poke T
  have c_PlainRooms_copy : Cee P w K mg base 3 (He.fAd K ("PlainRooms", some "copy")) ["self", "task", "other"] (sp_PlainRooms_copy K) := ok_PlainRooms_copy T
  refine cee_of T.d__law_do sc__law_do (fun _ _ _ _ _ _ us hl => match us, hl with | [_, _], _ => rfl) (fun vs H Q E h => sp2_len h) (fun cdv A outer s H vs Q E hr h => ⟨_, (pss_cons (ps_if (pt_cmpR op_eq (pe_ix ix_tup (pv 1) pe_int (fun _ _ => rfl)) pe_str (nomark _)) (pss_one (ps_ret (pe_m (pv 0) T.c_PlainRooms T.m_PlainRooms_begin c_PlainRooms_begin (hr.mono (by decide)) (L2N.takes_of rfl rfl rfl rfl) (pa_cons (pe_ix ix_tup (pv 1) pe_int (fun _ _ => rfl)) pa_nil)))) pss_nil) (pss_cons (ps_if (pt_cmpR op_eq (pe_ix ix_tup (pv 1) pe_int (fun _ _ => rfl)) pe_str (nomark _)) (pss_one (ps_ret (pe_m (pv 0) T.c_PlainRooms T.m_PlainRooms_close c_PlainRooms_close (hr.mono (by decide)) (L2N.takes_of rfl rfl rfl rfl) (pa_cons (pe_ix ix_tup (pv 1) pe_int (fun _ _ => rfl)) pa_nil)))) pss_nil) (pss_cons (ps_if (pt_cmpR op_eq (pe_ix ix_tup (pv 1) pe_int (fun _ _ => rfl)) pe_str (nomark _)) (pss_one (ps_ret (pe_m (pv 0) T.c_PlainRooms T.m_PlainRooms_map c_PlainRooms_map (hr.mono (by decide)) (L2N.takes_of rfl rfl rfl rfl) (pa_cons (pe_ix ix_tup (pv 1) pe_int (fun _ _ => rfl)) (pa_cons (pe_ix ix_tup (pv 1) pe_int (fun _ _ => rfl)) (pa_cons (pe_ix ix_tup (pv 1) pe_int (fun _ _ => rfl)) pa_nil)))))) pss_nil) (pss_cons (ps_if (pt_cmpR op_eq (pe_ix ix_tup (pv 1) pe_int (fun _ _ => rfl)) pe_str (nomark _)) (pss_one (ps_ret (pe_m (pv 0) T.c_PlainRooms T.m_PlainRooms_drop c_PlainRooms_drop (hr.mono (by decide)) (L2N.takes_of rfl rfl rfl rfl) (pa_cons (pe_ix ix_tup (pv 1) pe_int (fun _ _ => rfl)) (pa_cons (pe_ix ix_tup (pv 1) pe_int (fun _ _ => rfl)) (pa_cons (pe_ix ix_tup (pv 1) pe_int (fun _ _ => rfl)) pa_nil)))))) pss_nil) (pss_cons (ps_if (pt_cmpR op_eq (pe_ix ix_tup (pv 1) pe_int (fun _ _ => rfl)) pe_str (nomark _)) (pss_one (ps_ret (pe_m (pv 0) T.c_PlainRooms T.m_PlainRooms_peek c_PlainRooms_peek (hr.mono (by decide)) (L2N.takes_of rfl rfl rfl rfl) (pa_cons (pe_ix ix_tup (pv 1) pe_int (fun _ _ => rfl)) (pa_cons (pe_ix ix_tup (pv 1) pe_int (fun _ _ => rfl)) (pa_cons (pe_ix ix_tup (pv 1) pe_int (fun _ _ => rfl)) pa_nil)))))) pss_nil) (pss_cons (ps_if (pt_cmpR op_eq (pe_ix ix_tup (pv 1) pe_int (fun _ _ => rfl)) pe_str (nomark _)) (pss_one (ps_ret (pe_m (pv 0) T.c_PlainRooms T.m_PlainRooms_poke c_PlainRooms_poke (hr.mono (by decide)) (L2N.takes_of rfl rfl rfl rfl) (pa_cons (pe_ix ix_tup (pv 1) pe_int (fun _ _ => rfl)) (pa_cons (pe_ix ix_tup (pv 1) pe_int (fun _ _ => rfl)) (pa_cons (pe_ix ix_tup (pv 1) pe_int (fun _ _ => rfl)) pa_nil)))))) pss_nil) (pss_one (ps_ret (pe_m (pv 0) T.c_PlainRooms T.m_PlainRooms_copy c_PlainRooms_copy (hr.mono (by decide)) (L2N.takes_of rfl rfl rfl rfl) (pa_cons (pe_ix ix_tup (pv 1) pe_int (fun _ _ => rfl)) (pa_cons (pe_ix ix_tup (pv 1) pe_int (fun _ _ => rfl)) pa_nil))))))))))), ?_⟩)
  obtain ⟨v0, v1, rfl, h⟩ := h
  dsimp only [cxOf, L2.start]
  obtain ⟨p, m, T, b, d, rfl, rfl, ok, O, ⟨hT, hb⟩, k⟩ := h
  cases d with
  | begin t =>
    have hT : H T = some (.tup [.str "begin", .int t]) := hT
    walk_at "s"
    exact ask2 ⟨p, m, t, rfl, rfl, ok, O, k⟩
  | close t =>
    have hT : H T = some (.tup [.str "close", .int t]) := hT
    walk_at "s"
    exact ask2 ⟨p, m, t, rfl, rfl, ok, O, k⟩
  | map t g n =>
    have hT : H T = some (.tup [.str "map", .int t, .int g, .int n]) := hT
    walk_at "s"
    exact ask4 ⟨p, m, t, g, n, rfl, rfl, rfl, rfl, ok, O, k⟩
  | drop t g n =>
    have hT : H T = some (.tup [.str "drop", .int t, .int g, .int n]) := hT
    walk_at "s"
    exact ask4 ⟨p, m, t, g, n, rfl, rfl, rfl, rfl, ok, O, k⟩
  | peek t g n =>
    have hT : H T = some (.tup [.str "peek", .int t, .int g, .int n]) := hT
    walk_at "s"
    exact ask4 ⟨p, m, t, g, n, rfl, rfl, rfl, rfl, ok, O, k⟩
  | poke t g cs =>
    have hT : H T = some (.tup [.str "poke", .int t, .int g, .ref b]) := hT
    obtain ⟨hb0, hbn⟩ := hb _ (.head _)
    walk_at "s"
    exact ask4 ⟨p, m, t, g, b, cs, rfl, rfl, rfl, rfl, ok, O, hb0, hbn, k⟩
  | copy t o =>
    have hT : H T = some (.tup [.str "copy", .int t, .int o]) := hT
    walk_at "s"
    exact ask3 ⟨p, m, t, o, rfl, rfl, rfl, ok, O, k⟩

/-! ## deeds keep what rooms are -/
theorem ROk.nil : ROk [] := ⟨List.nodup_nil, (by simp), (by simp)⟩
theorem ROk.drop1 {r : ARm} (h : ROk r) (k : Int) : ROk (dropA r k) :=
  ⟨h.nd.sublist ((dropA_sub r k).map _), fun j hj => h.key j (((dropA_sub r k).map _).subset hj), fun x hx => h.wide x ((dropA_sub r k).subset hx)⟩
theorem ROk.drop {r : ARm} (h : ROk r) (ps : List Int) : ROk (dropR r ps) := by
  unfold dropR
  induction ps generalizing r with
  | nil => exact h
  | cons p q ih => exact ih (h.drop1 p)
theorem ROk.map {r : ARm} {p n : Int} (h : ROk r) (hb : ¬ badP p n = true) (hno : ¬ anyP r (pgs p n.toNat) = true) : ROk (mapR r (pgs p n.toNat)) := by
  have hb' := of_decide_eq_false (Bool.eq_false_iff.mpr hb)
  have hkeys : (mapR r (pgs p n.toNat)).map (·.1) = r.map (·.1) ++ pgs p n.toNat := by
    unfold mapR
    rw [List.map_append, List.map_map]
    refine congrArg _ ?_
    exact List.map_id _
  refine ⟨?_, ?_, ?_⟩
  · rw [hkeys]
    refine List.nodup_append.mpr ⟨h.nd, pgs_nd _ _, fun a ha b hb e => ?_⟩
    subst e
    exact hno (anyP_yes hb (lk_some.mpr ha))
  · intro k hk
    rw [hkeys] at hk
    rcases List.mem_append.mp hk with z | z
    · exact h.key k z
    · have := pgs_mem.mp z
      omega
  · intro x hx
    unfold mapR at hx
    rcases List.mem_append.mp hx with z | z
    · exact h.wide x z
    · obtain ⟨y, _, rfl⟩ := List.mem_map.mp z
      rfl
theorem ROk.set {r : ARm} (h : ROk r) (k : Int) (v : List Int) (hv : v.length = 8 ∨ k ∉ r.map (·.1)) : ROk (setA r k v) := by
  refine ⟨by rw [setA_keys]; exact h.nd, fun j hj => h.key j (by rw [setA_keys] at hj; exact hj), fun x hx => ?_⟩
  unfold setA at hx
  obtain ⟨y, hy, e⟩ := List.mem_map.mp hx
  by_cases z : y.1 = k
  · rw [if_pos z] at e
    subst e
    rcases hv with hv | hv
    · exact hv
    · exact absurd (List.mem_map.mpr ⟨y, hy, z⟩) hv
  · rw [if_neg z] at e
    subst e
    exact h.wide _ hy
theorem ROk.poke {r : ARm} (h : ROk r) (a : Int) (cs : List Int) : ROk (pokeR r a cs) := by
  induction cs generalizing r a with
  | nil => exact h
  | cons c q ih =>
    refine ih ?_ (a + 1)
    unfold putR
    refine h.set _ _ ?_
    cases e : r.lookup (a / 8) with
    | none => exact .inr (lk_none.mp e)
    | some row => exact .inl ((List.length_set ..).trans (h.wide _ (lk_mem e)))
theorem WOk.nil : WOk [] := ⟨List.nodup_nil, (by simp), (by simp)⟩
theorem WOk.dropW {w : AWl} (h : WOk w) (k : Int) : WOk (dropA w k) :=
  ⟨h.nd.sublist ((dropA_sub w k).map _), fun x hx => h.rms x ((dropA_sub w k).subset hx), Nat.le_trans (dropA_sub w k).length_le h.few⟩
theorem setA_len {α : Type} (m : List (Int × α)) (k : Int) (v : α) : (setA m k v).length = m.length := List.length_map _
theorem WOk.setW {w : AWl} (h : WOk w) (k : Int) {r : ARm} (hr : ROk r) : WOk (setA w k r) := by
  refine ⟨by rw [setA_keys]; exact h.nd, fun x hx => ?_, by rw [setA_len]; exact h.few⟩
  unfold setA at hx
  obtain ⟨y, hy, e⟩ := List.mem_map.mp hx
  by_cases z : y.1 = k
  · rw [if_pos z] at e
    subst e
    exact hr
  · rw [if_neg z] at e
    subst e
    exact h.rms _ hy
theorem WOk.snocW {w : AWl} (h : WOk w) {k : Int} {r : ARm} (hk : w.lookup k = none) (hr : ROk r) (hl : w.length < 1000) : WOk (w ++ [(k, r)]) := by
  refine ⟨?_, fun x hx => ?_, by rw [List.length_append]; exact hl⟩
  · rw [List.map_append]
    refine List.nodup_append.mpr ⟨h.nd, List.nodup_cons.mpr ⟨List.not_mem_nil, List.nodup_nil⟩, fun a ha b hb e => ?_⟩
    rw [List.mem_singleton.mp hb] at e
    subst e
    exact lk_none.mp hk ha
  · rcases List.mem_append.mp hx with z | z
    · exact h.rms x z
    · rw [List.mem_singleton.mp z]; exact hr
theorem WOk.atA {w : AWl} (ok : WOk w) {t : Int} {r : ARm} (h : w.lookup t = some r) : ROk r := ok.rms _ (lk_mem h)
theorem lk_no {α : Type} {w : List (Int × α)} {t : Int} (h : ¬ (w.lookup t).isSome = true) : w.lookup t = none := by
  cases e : w.lookup t with
  | none => rfl
  | some x => rw [e] at h; exact absurd rfl h
theorem sem_keep {tot : Int} {w w' : AWl} {d : RDeed} {o : Option (List Int)} (h : sem tot w d = .ok (w', o)) (ok : WOk w) (hl : w.length < 1000) : WOk w' ∧ w'.length ≤ w.length + 1 := by
  cases d with
  | begin t =>
    obtain ⟨hno, e⟩ := if_ok h
    cases e
    exact ⟨ok.snocW (lk_no hno) ROk.nil hl, by rw [List.length_append]; exact Nat.le_refl _⟩
  | close t =>
    obtain ⟨_, e⟩ := if_ok3 h
    cases e
    exact ⟨ok.dropW t, Nat.le_succ_of_le (dropA_sub w t).length_le⟩
  | map t p n =>
    cases hw : w.lookup t with
    | none => rw [sem_map0 hw] at h; cases h
    | some r =>
      rw [sem_map1 hw] at h
      obtain ⟨hb, h⟩ := if_ok2 h
      obtain ⟨hany, h⟩ := if_ok2 h
      obtain ⟨_, e⟩ := if_ok h
      cases e
      exact ⟨ok.setW t ((ok.atA hw).map hb hany), by rw [setA_len]; exact Nat.le_succ _⟩
  | drop t p n =>
    cases hw : w.lookup t with
    | none => rw [sem_drop0 hw] at h; cases h
    | some r =>
      rw [sem_drop1 hw] at h
      obtain ⟨hb, h⟩ := if_ok2 h
      obtain ⟨_, e⟩ := if_ok3 h
      cases e
      exact ⟨ok.setW t ((ok.atA hw).drop _), by rw [setA_len]; exact Nat.le_succ _⟩
  | peek t a n =>
    cases hw : w.lookup t with
    | none => rw [sem_peek0 hw] at h; cases h
    | some r =>
      rw [sem_peek1 hw] at h
      obtain ⟨hb, h⟩ := if_ok2 h
      obtain ⟨_, e⟩ := if_ok3 h
      cases e
      exact ⟨ok, Nat.le_succ _⟩
  | poke t a cs =>
    cases hw : w.lookup t with
    | none => rw [sem_poke0 hw] at h; cases h
    | some r =>
      rw [sem_poke1 hw] at h
      obtain ⟨hb, h⟩ := if_ok2 h
      obtain ⟨_, e⟩ := if_ok3 h
      cases e
      exact ⟨ok.setW t ((ok.atA hw).poke _ _), by rw [setA_len]; exact Nat.le_succ _⟩
  | copy t o =>
    cases hw : w.lookup t with
    | none => rw [sem_copy0 hw] at h; cases h
    | some r =>
      rw [sem_copy1 hw] at h
      obtain ⟨hno, h⟩ := if_ok2 h
      obtain ⟨_, e⟩ := if_ok h
      cases e
      exact ⟨ok.snocW (lk_no hno) (ok.atA hw) hl, by rw [List.length_append]; exact Nat.le_refl _⟩
theorem sem_keepN {tot : Int} {w : AWl} {d : RDeed} (ok : WOk w) (hl : w.length < 1000) : WOk (nextA w (sem tot w d)) ∧ (nextA w (sem tot w d)).length ≤ w.length + 1 := by
  cases h : sem tot w d with
  | error e => exact ⟨ok, Nat.le_succ _⟩
  | ok x => exact sem_keep (o := x.2) h ok hl
theorem wd_mem {D : Addr} {w : Wl} {t : Int} {a : Addr} {r : Ch} (h : w.lookup t = some (a, r)) : (a, HO.dK (Ch.kvs r)) ∈ cWl D w := .tail _ (rm_mem h)
theorem wp_mem {D : Addr} {w : Wl} {t k : Int} {a : Addr} {r : Ch} {b : Pg} (h : w.lookup t = some (a, r)) (hb : r.lookup k = some b) : (b.1, HO.lst (b.2.map V.int)) ∈ cWl D w := .tail _ (pg_mem h hb)
theorem cWl_mid (D : Addr) (l q : Wl) (t : Int) (a : Addr) (r : Ch) : cWl D (l ++ (t, a, r) :: q) = (D, .dK (wlD (l ++ (t, a, r) :: q))) :: (cRms l ++ (cCh a r ++ cRms q)) := by
  unfold cWl
  rw [cRms_mid]
theorem pgs_get {p : Int} {n j : Nat} (h : j < n) : (pgs p n)[j]? = some (p + j) := by
  unfold pgs
  rw [List.getElem?_map, List.getElem?_range h]
  rfl
theorem map_new {r r' : Ch} {g : Int} {n j : Nat} (hr' : r'.pure = mapR r.pure ((pgs g n).take j)) (hj : j < n) (hno : ¬ anyP r.pure (pgs g n) = true) : (Sum.inl (g + j) : Key) ∉ (Ch.kvs r').map (·.1) ∧ r'.length = r.length + j := by
  have hkeys : r'.pure.map (·.1) = r.pure.map (·.1) ++ (pgs g n).take j := by
    rw [hr']
    unfold mapR
    rw [List.map_append, List.map_map]
    refine congrArg _ ?_
    rw [List.map_map]
    exact List.map_id _
  constructor
  · intro z
    rw [List.map_map] at z
    obtain ⟨u, hu, e⟩ := List.mem_map.mp z
    have e : u.1 = g + j := Sum.inl.inj e
    have h1 : g + j ∈ r'.pure.map (·.1) := by
      rw [List.map_map]
      exact List.mem_map.mpr ⟨u, hu, e⟩
    rw [hkeys] at h1
    rcases List.mem_append.mp h1 with h1 | h1
    · exact hno (anyP_yes (List.mem_of_getElem? (pgs_get hj)) (lk_some.mpr h1))
    · exact nd_take (pgs_nd _ _) (pgs_get hj) h1
  · have h1 := congrArg List.length hkeys
    simp only [List.length_map, List.length_append, List.length_take, pgs_len] at h1
    omega
theorem Ch.ndp {r : Ch} (h : ROk r.pure) : (r.map (·.1)).Nodup := by
  have := h.nd
  rw [List.map_map] at this
  exact this
theorem sem_t0 {w : Wl} {t : Int} (h : ¬ (w.abs.lookup t).isSome = true) : w.lookup t = none := by
  rw [Wl.look_abs] at h
  cases z : w.lookup t with
  | none => rfl
  | some y => rw [z] at h; exact absurd rfl h
theorem sem_t1 {w : Wl} {t : Int} (h : (w.abs.lookup t).isSome = true) : ∃ a r, w.lookup t = some (a, r) := by
  rw [Wl.look_abs] at h
  cases z : w.lookup t with
  | none => rw [z] at h; cases h
  | some y => exact ⟨_, _, rfl⟩
theorem sem_page {tot : Int} {w : Wl} {t k : Int} {a : Addr} {r : Ch} {b : Pg} (hw : w.lookup t = some (a, r)) (hb : r.lookup k = some b) (rok : ROk r.pure) : sem tot w.abs (.peek t (8 * k) 8) = .ok (w.abs, some b.2) := by
  have hk : 0 ≤ k ∧ k < 64 := rok.key k (by rw [List.map_map]; exact lk_some.mp (by rw [hb]; rfl))
  have h8 := rok.eight hb
  rw [sem_peek1 (Wl.abs_some hw), if_neg (by unfold badA; rw [decide_eq_true_eq]; omega)]
  have hdiv : ∀ i : Nat, i < 8 → (8 * k + (i : Int)) / 8 = k := fun i hi => by omega
  rw [if_pos (allA_yes fun i hi => by
    have hi : i < 8 := hi
    rw [hdiv i hi, Ch.look_abs, hb]; rfl)]
  have e : peekR r.pure (8 * k) (8 : Int).toNat = b.2 := by
    refine List.ext_getElem? fun i => ?_
    unfold peekR
    rw [List.getElem?_map]
    by_cases hi : i < 8
    · rw [List.getElem?_range (show i < (8 : Int).toNat from hi)]
      have h1 : r.lookup ((8 * k + (i : Int)) / 8) = some b := by rw [hdiv i hi]; exact hb
      show some (cellR r.pure (8 * k + (i : Int))) = _
      rw [cellR_at h1, show ((8 * k + (i : Int)) % 8).toNat = i by omega, List.getElem?_eq_getElem (by omega)]
      rfl
    · rw [List.getElem?_eq_none (by rw [List.length_range]; exact Nat.le_of_not_lt hi), List.getElem?_eq_none (by omega)]
      rfl
  rw [e]
theorem pgs_one (k : Int) : pgs k (1 : Int).toNat = [k] := by
  show [k + ((0 : Nat) : Int)] = [k]
  rw [show k + ((0 : Nat) : Int) = k from Int.add_zero k]
theorem heldA_cons (x : Int × ARm) (w : AWl) : heldA (x :: w) = x.2.length + heldA w := by
  unfold heldA
  rw [List.map_cons, List.sum_cons]
  exact Int.natCast_add _ _
theorem heldA_app (l q : AWl) : heldA (l ++ q) = heldA l + heldA q := by
  induction l with
  | nil => show heldA q = 0 + heldA q; omega
  | cons x r ih => rw [List.cons_append, heldA_cons, heldA_cons, ih]; omega
theorem heldA_le {w : AWl} {c : Nat} (h : ∀ x ∈ w, x.2.length ≤ c) : heldA w ≤ ((w.length * c : Nat) : Int) := by
  induction w with
  | nil => show ((0 : Nat) : Int) ≤ _; omega
  | cons x r ih =>
    have h1 := h x (.head _)
    have h2 := ih fun y hy => h y (.tail _ hy)
    rw [heldA_cons, List.length_cons, Nat.succ_mul]
    omega
theorem heldA_set {w : AWl} {t : Int} {r r' : ARm} (nd : (w.map (·.1)).Nodup) (h : w.lookup t = some r) : heldA (setA w t r') = heldA w - r.length + r'.length := by
  obtain ⟨l, q, rfl, _⟩ := lk_split h
  rw [setA_mid nd, heldA_app, heldA_app, heldA_cons, heldA_cons]
  dsimp only
  omega
theorem pokeR_keys (r : ARm) (a : Int) (cs : List Int) : (pokeR r a cs).map (·.1) = r.map (·.1) := by
  induction cs generalizing r a with
  | nil => rfl
  | cons c q ih =>
    refine (ih _ _).trans ?_
    unfold putR
    exact setA_keys _ _ _
theorem pokeR_len (r : ARm) (a : Int) (cs : List Int) : (pokeR r a cs).length = r.length := by
  have := congrArg List.length (pokeR_keys r a cs)
  rwa [List.length_map, List.length_map] at this

theorem sc__law_word : FnScope ["_law_caught", "_law_kinds", "_law_words", "_law_kind", "_law_k"] ["_law_caught"] (defScope s__law_word) := ⟨rfl, rfl, rfl, by decide +kernel, rfl, by decide +kernel, by decide +kernel⟩
theorem okX__law_word {P : Program} {w : World} {K : PySem.W.Frag} {mg : Str → Option Value} {base : Heap} (T : Txt K mg) : CeeX P w K mg base 1 (He.fAd K ("_law_word", none)) ["_law_caught"] (sp__law_word K) := by
  refine ceeX_of T.d__law_word sc__law_word (fun _ _ _ _ _ _ us hl => match us, hl with | [_], _ => rfl) (fun a vs H Q E h => sp1_len h) (fun cdv A outer s H vs Q E ea hh hr h => ⟨_, (pss_cons (ps_set (i := 1) sc__law_word.nd rfl (Or.inr rfl) (pe_lst (pa_cons (pe_callB call_isX (by rfl) T.n_isinstance (by decide +kernel) (pa_cons (pv 0) (pa_cons (pe_glob (v := .ref (He.ga K "NoTask")) rfl T.g_NoTask rfl) pa_nil))) (pa_cons (pe_callB call_isX (by rfl) T.n_isinstance (by decide +kernel) (pa_cons (pv 0) (pa_cons (pe_glob (v := .ref (He.ga K "NoPage")) rfl T.g_NoPage rfl) pa_nil))) pa_nil)))) (pss_cons (ps_set (i := 1) sc__law_word.nd rfl (Or.inr rfl) (pe_op op_cat (pv 1) (pe_lst (pa_cons (pe_callB call_isX (by rfl) T.n_isinstance (by decide +kernel) (pa_cons (pv 0) (pa_cons (pe_glob (v := .ref (He.ga K "NoRoom")) rfl T.g_NoRoom rfl) pa_nil))) (pa_cons (pe_callB call_isX (by rfl) T.n_isinstance (by decide +kernel) (pa_cons (pv 0) (pa_cons (pe_glob (v := .ref (He.ga K "Taken")) rfl T.g_Taken rfl) pa_nil))) pa_nil))))) (pss_cons (ps_set (i := 2) sc__law_word.nd rfl (Or.inr rfl) (pe_lst (pa_cons pe_str (pa_cons pe_str (pa_cons pe_str (pa_cons pe_str pa_nil)))))) (pss_cons (PS.box (ps_if (PW.pt (pw_or (pt_cmpR op_ne (pe_callB (cr_sumX hh) (by rfl) T.n_sum (by decide +kernel) (pa_cons (pe_lcX (own := [("_law_kind", 3)]) hh sc__law_word.nd (PIX.box (piX_list (a := ea) (pv 1))) (blkOk_by (own := [("_law_kind", 3)]) (N := ["_law_caught", "_law_kinds", "_law_words", "_law_kind", "_law_k"]) (sc := defScope s__law_word) (by decide +kernel)) (fun _ _ _ _ _ => (pg_name (i := 3) sc__law_word.nd rfl (Or.inl rfl))) (fun _ _ _ _ _ => pts_nil) (fun _ _ _ _ _ => (pe_callTy call_intB (by rfl) T.n_int (by decide +kernel) (pa_cons (pv 3) pa_nil)))) pa_nil)) pe_int (nomark _)) (pw_or1 (pt_not (pt_val (pe_callB call_isX (by rfl) T.n_isinstance (by decide +kernel) (pa_cons (pv 0) (pa_cons (pe_bltn (v := .ty "ValueError") rfl T.n_ValueError (by decide +kernel) rfl) pa_nil)))))))) (pss_one (ps_ret pe_str)) pss_nil)) (pss_one (ps_ret (pe_ix ix_list (pe_lcX (own := [("_law_k", 4)]) hh sc__law_word.nd (PIX.box (piX_range1 (a := ea) (by rfl) T.n_range (pa_cons pe_int pa_nil))) (blkOk_by (own := [("_law_k", 4)]) (N := ["_law_caught", "_law_kinds", "_law_words", "_law_kind", "_law_k"]) (sc := defScope s__law_word) (by decide +kernel)) (fun _ _ _ _ _ => (pg_name (i := 4) sc__law_word.nd rfl (Or.inl rfl))) (fun _ _ _ _ _ => (pts_one (pt_val (pe_ix (show IxR _ (rIxL K) from ix_list) (pv 1) (pv 4) (fun _ _ => rfl))))) (fun _ _ _ _ _ => (pe_ix (show IxR _ (rIxL K) from ix_list) (pv 2) (pv 4) (fun _ _ => rfl)))) pe_int (fun _ _ => rfl)))))))), ?_⟩)
  obtain ⟨v0, rfl, h⟩ := h
  dsimp only [cxX, cxOf, L2.start]
  obtain ⟨r, rfl, he, k⟩ := h
  have O0 := Own.start (H := H)
  cases r
  · walk_at "s"
    intro a ha
    refine O0.nxt ha fun O1 => ?_
    walk_at "s"
    intro a2 ha2
    refine O1.nxtQ ha2 fun O2 => ?_
    walk_at "s"
    intro a3 ha3
    refine O2.nxt ha3 fun O3 => ?_
    walk_at "s"
    intro a4 ha4
    refine O3.nxt ha4 fun O4 => ?_
    walk_at "b"
    refine lcW (walk_hot (walk_list (K := K) (a := a3) (xs := ([false, false, false, true]).map V.bl))) (fun D j H2 => Own H H2 [] ((D, .lst (((([false, false, false, true] : List Bool).map fun b => if b = true then (1 : Int) else 0).take j).map V.int)) :: (a4, .lst ((["NoTask", "NoPage", "NoRoom", "Taken"] : List Str).map V.str)) :: (a3, .lst (([false, false, false, true]).map V.bl)) :: [])) (fun D hD => (O4.new hD).drop (.cons₂ _ (.cons₂ _ (.cons₂ _ (List.nil_sublist _))))) (fun D j H2 _ O => ⟨SqL.of (O.get (.tail _ (.tail _ (.head _)))), _, _, O.fr0 he⟩) ?_ ?_
    · rintro D j x H2 H3 hj O5 ⟨rfl, hx⟩
      obtain ⟨y, hy, rfl⟩ := mget hx
      have hlen : (List.map V.int (List.take j (([false, false, false, true] : List Bool).map fun b => if b = true then (1 : Int) else 0))).length < 100000 := by
        rw [List.length_map, List.length_take]
        have : j < 4 := hj
        omega
      walk_at "s"
      rw [take_succ (i := j) (y := if y = true then (1 : Int) else 0) (by rw [List.getElem?_map, hy]; rfl), List.map_append]
      exact ⟨O5.wr .here⟩
    · intro D H2 O5
      have O5 : Own H H2 [] ((D, .lst (([0, 0, 0, 1] : List Int).map V.int)) :: (a4, .lst ((["NoTask", "NoPage", "NoRoom", "Taken"] : List Str).map V.str)) :: (a3, .lst (([false, false, false, true]).map V.bl)) :: []) := O5
      refine ⟨D, [0, 0, 0, 1], rfl, SqL.of (O5.get (.head _)), ⟨_, _, O5.fr0 he⟩, ?_⟩
      walk_at "s"
      refine lcW (walk_hot (walk_range (lo := 0) (n := (Int.toNat 4)))) (fun L j H3 => Own H H3 [] ((L, .lst (if 3 < j then [.str ("Taken" : Str)] else [])) :: (a4, .lst ((["NoTask", "NoPage", "NoRoom", "Taken"] : List Str).map V.str)) :: (a3, .lst (([false, false, false, true] : List Bool).map V.bl)) :: [])) (fun L hL => (O5.new hL).drop (.cons₂ _ (.cons _ (.refl _)))) (fun L j H3 _ O => ⟨trivial, _, _, O.fr0 he⟩) ?_ ?_
      · rintro L j x H3 H4 hj O6 ⟨rfl, rfl⟩
        have hj : j < 4 := hj
        have hk : atI (([false, false, false, true] : List Bool).map V.bl) (0 + (j : Int)) = some (.bl (decide (j = 3))) := by
          rw [Int.zero_add]
          exact atI_nat (match j, hj with | 0, _ => rfl | 1, _ => rfl | 2, _ => rfl | 3, _ => rfl)
        obtain ⟨z, hz, hzn⟩ : ∃ z : Str, atI ((["NoTask", "NoPage", "NoRoom", "Taken"] : List Str).map V.str) (0 + (j : Int)) = some (.str z) ∧ (j = 3 → z = ("Taken" : Str)) := by
          rw [Int.zero_add]
          match j, hj with
          | 0, _ => exact ⟨_, atI_nat rfl, fun z => by first | rfl | omega⟩
          | 1, _ => exact ⟨_, atI_nat rfl, fun z => by first | rfl | omega⟩
          | 2, _ => exact ⟨_, atI_nat rfl, fun z => by first | rfl | omega⟩
          | 3, _ => exact ⟨_, atI_nat rfl, fun z => by first | rfl | omega⟩
        walk_at "s"
        refine if_d (fun h => ?_) (fun h => ?_)
        · have hlen : (if 3 < j then [V.str ("Taken" : Str)] else []).length < 100000 := by split <;> decide
          walk_at "s"
          refine ⟨?_⟩
          have O7 := O6.wr (a := L) (o' := .lst ((if 3 < j then [V.str ("Taken" : Str)] else []) ++ [.str z])) .here
          rw [hzn h, if_neg (show ¬ 3 < j by omega)] at O7
          rw [hzn h, if_neg (show ¬ 3 < j by omega), if_pos (show 3 < j + 1 by omega)]
          exact O7
        · refine ⟨?_⟩
          have e : (3 < j + 1) = (3 < j) := propext ⟨fun _ => by omega, fun _ => by omega⟩
          simp only [e]
          exact O6
      · intro L H3 O6
        have O6 : Own H H3 [] ((L, .lst [.str ("Taken" : Str)]) :: (a4, .lst ((["NoTask", "NoPage", "NoRoom", "Taken"] : List Str).map V.str)) :: (a3, .lst (([false, false, false, true] : List Bool).map V.bl)) :: []) := O6
        walk_at "s"
        exact k _ (O6.drop (List.nil_sublist _))
  · walk_at "s"
    intro a ha
    refine O0.nxt ha fun O1 => ?_
    walk_at "s"
    intro a2 ha2
    refine O1.nxtQ ha2 fun O2 => ?_
    walk_at "s"
    intro a3 ha3
    refine O2.nxt ha3 fun O3 => ?_
    walk_at "s"
    intro a4 ha4
    refine O3.nxt ha4 fun O4 => ?_
    walk_at "b"
    refine lcW (walk_hot (walk_list (K := K) (a := a3) (xs := ([true, false, false, false]).map V.bl))) (fun D j H2 => Own H H2 [] ((D, .lst (((([true, false, false, false] : List Bool).map fun b => if b = true then (1 : Int) else 0).take j).map V.int)) :: (a4, .lst ((["NoTask", "NoPage", "NoRoom", "Taken"] : List Str).map V.str)) :: (a3, .lst (([true, false, false, false]).map V.bl)) :: [])) (fun D hD => (O4.new hD).drop (.cons₂ _ (.cons₂ _ (.cons₂ _ (List.nil_sublist _))))) (fun D j H2 _ O => ⟨SqL.of (O.get (.tail _ (.tail _ (.head _)))), _, _, O.fr0 he⟩) ?_ ?_
    · rintro D j x H2 H3 hj O5 ⟨rfl, hx⟩
      obtain ⟨y, hy, rfl⟩ := mget hx
      have hlen : (List.map V.int (List.take j (([true, false, false, false] : List Bool).map fun b => if b = true then (1 : Int) else 0))).length < 100000 := by
        rw [List.length_map, List.length_take]
        have : j < 4 := hj
        omega
      walk_at "s"
      rw [take_succ (i := j) (y := if y = true then (1 : Int) else 0) (by rw [List.getElem?_map, hy]; rfl), List.map_append]
      exact ⟨O5.wr .here⟩
    · intro D H2 O5
      have O5 : Own H H2 [] ((D, .lst (([1, 0, 0, 0] : List Int).map V.int)) :: (a4, .lst ((["NoTask", "NoPage", "NoRoom", "Taken"] : List Str).map V.str)) :: (a3, .lst (([true, false, false, false]).map V.bl)) :: []) := O5
      refine ⟨D, [1, 0, 0, 0], rfl, SqL.of (O5.get (.head _)), ⟨_, _, O5.fr0 he⟩, ?_⟩
      walk_at "s"
      refine lcW (walk_hot (walk_range (lo := 0) (n := (Int.toNat 4)))) (fun L j H3 => Own H H3 [] ((L, .lst (if 0 < j then [.str ("NoTask" : Str)] else [])) :: (a4, .lst ((["NoTask", "NoPage", "NoRoom", "Taken"] : List Str).map V.str)) :: (a3, .lst (([true, false, false, false] : List Bool).map V.bl)) :: [])) (fun L hL => (O5.new hL).drop (.cons₂ _ (.cons _ (.refl _)))) (fun L j H3 _ O => ⟨trivial, _, _, O.fr0 he⟩) ?_ ?_
      · rintro L j x H3 H4 hj O6 ⟨rfl, rfl⟩
        have hj : j < 4 := hj
        have hk : atI (([true, false, false, false] : List Bool).map V.bl) (0 + (j : Int)) = some (.bl (decide (j = 0))) := by
          rw [Int.zero_add]
          exact atI_nat (match j, hj with | 0, _ => rfl | 1, _ => rfl | 2, _ => rfl | 3, _ => rfl)
        obtain ⟨z, hz, hzn⟩ : ∃ z : Str, atI ((["NoTask", "NoPage", "NoRoom", "Taken"] : List Str).map V.str) (0 + (j : Int)) = some (.str z) ∧ (j = 0 → z = ("NoTask" : Str)) := by
          rw [Int.zero_add]
          match j, hj with
          | 0, _ => exact ⟨_, atI_nat rfl, fun z => by first | rfl | omega⟩
          | 1, _ => exact ⟨_, atI_nat rfl, fun z => by first | rfl | omega⟩
          | 2, _ => exact ⟨_, atI_nat rfl, fun z => by first | rfl | omega⟩
          | 3, _ => exact ⟨_, atI_nat rfl, fun z => by first | rfl | omega⟩
        walk_at "s"
        refine if_d (fun h => ?_) (fun h => ?_)
        · have hlen : (if 0 < j then [V.str ("NoTask" : Str)] else []).length < 100000 := by split <;> decide
          walk_at "s"
          refine ⟨?_⟩
          have O7 := O6.wr (a := L) (o' := .lst ((if 0 < j then [V.str ("NoTask" : Str)] else []) ++ [.str z])) .here
          rw [hzn h, if_neg (show ¬ 0 < j by omega)] at O7
          rw [hzn h, if_neg (show ¬ 0 < j by omega), if_pos (show 0 < j + 1 by omega)]
          exact O7
        · refine ⟨?_⟩
          have e : (0 < j + 1) = (0 < j) := propext ⟨fun _ => by omega, fun _ => by omega⟩
          simp only [e]
          exact O6
      · intro L H3 O6
        have O6 : Own H H3 [] ((L, .lst [.str ("NoTask" : Str)]) :: (a4, .lst ((["NoTask", "NoPage", "NoRoom", "Taken"] : List Str).map V.str)) :: (a3, .lst (([true, false, false, false] : List Bool).map V.bl)) :: []) := O6
        walk_at "s"
        exact k _ (O6.drop (List.nil_sublist _))
  · walk_at "s"
    intro a ha
    refine O0.nxt ha fun O1 => ?_
    walk_at "s"
    intro a2 ha2
    refine O1.nxtQ ha2 fun O2 => ?_
    walk_at "s"
    intro a3 ha3
    refine O2.nxt ha3 fun O3 => ?_
    walk_at "s"
    intro a4 ha4
    refine O3.nxt ha4 fun O4 => ?_
    walk_at "b"
    refine lcW (walk_hot (walk_list (K := K) (a := a3) (xs := ([false, true, false, false]).map V.bl))) (fun D j H2 => Own H H2 [] ((D, .lst (((([false, true, false, false] : List Bool).map fun b => if b = true then (1 : Int) else 0).take j).map V.int)) :: (a4, .lst ((["NoTask", "NoPage", "NoRoom", "Taken"] : List Str).map V.str)) :: (a3, .lst (([false, true, false, false]).map V.bl)) :: [])) (fun D hD => (O4.new hD).drop (.cons₂ _ (.cons₂ _ (.cons₂ _ (List.nil_sublist _))))) (fun D j H2 _ O => ⟨SqL.of (O.get (.tail _ (.tail _ (.head _)))), _, _, O.fr0 he⟩) ?_ ?_
    · rintro D j x H2 H3 hj O5 ⟨rfl, hx⟩
      obtain ⟨y, hy, rfl⟩ := mget hx
      have hlen : (List.map V.int (List.take j (([false, true, false, false] : List Bool).map fun b => if b = true then (1 : Int) else 0))).length < 100000 := by
        rw [List.length_map, List.length_take]
        have : j < 4 := hj
        omega
      walk_at "s"
      rw [take_succ (i := j) (y := if y = true then (1 : Int) else 0) (by rw [List.getElem?_map, hy]; rfl), List.map_append]
      exact ⟨O5.wr .here⟩
    · intro D H2 O5
      have O5 : Own H H2 [] ((D, .lst (([0, 1, 0, 0] : List Int).map V.int)) :: (a4, .lst ((["NoTask", "NoPage", "NoRoom", "Taken"] : List Str).map V.str)) :: (a3, .lst (([false, true, false, false]).map V.bl)) :: []) := O5
      refine ⟨D, [0, 1, 0, 0], rfl, SqL.of (O5.get (.head _)), ⟨_, _, O5.fr0 he⟩, ?_⟩
      walk_at "s"
      refine lcW (walk_hot (walk_range (lo := 0) (n := (Int.toNat 4)))) (fun L j H3 => Own H H3 [] ((L, .lst (if 1 < j then [.str ("NoPage" : Str)] else [])) :: (a4, .lst ((["NoTask", "NoPage", "NoRoom", "Taken"] : List Str).map V.str)) :: (a3, .lst (([false, true, false, false] : List Bool).map V.bl)) :: [])) (fun L hL => (O5.new hL).drop (.cons₂ _ (.cons _ (.refl _)))) (fun L j H3 _ O => ⟨trivial, _, _, O.fr0 he⟩) ?_ ?_
      · rintro L j x H3 H4 hj O6 ⟨rfl, rfl⟩
        have hj : j < 4 := hj
        have hk : atI (([false, true, false, false] : List Bool).map V.bl) (0 + (j : Int)) = some (.bl (decide (j = 1))) := by
          rw [Int.zero_add]
          exact atI_nat (match j, hj with | 0, _ => rfl | 1, _ => rfl | 2, _ => rfl | 3, _ => rfl)
        obtain ⟨z, hz, hzn⟩ : ∃ z : Str, atI ((["NoTask", "NoPage", "NoRoom", "Taken"] : List Str).map V.str) (0 + (j : Int)) = some (.str z) ∧ (j = 1 → z = ("NoPage" : Str)) := by
          rw [Int.zero_add]
          match j, hj with
          | 0, _ => exact ⟨_, atI_nat rfl, fun z => by first | rfl | omega⟩
          | 1, _ => exact ⟨_, atI_nat rfl, fun z => by first | rfl | omega⟩
          | 2, _ => exact ⟨_, atI_nat rfl, fun z => by first | rfl | omega⟩
          | 3, _ => exact ⟨_, atI_nat rfl, fun z => by first | rfl | omega⟩
        walk_at "s"
        refine if_d (fun h => ?_) (fun h => ?_)
        · have hlen : (if 1 < j then [V.str ("NoPage" : Str)] else []).length < 100000 := by split <;> decide
          walk_at "s"
          refine ⟨?_⟩
          have O7 := O6.wr (a := L) (o' := .lst ((if 1 < j then [V.str ("NoPage" : Str)] else []) ++ [.str z])) .here
          rw [hzn h, if_neg (show ¬ 1 < j by omega)] at O7
          rw [hzn h, if_neg (show ¬ 1 < j by omega), if_pos (show 1 < j + 1 by omega)]
          exact O7
        · refine ⟨?_⟩
          have e : (1 < j + 1) = (1 < j) := propext ⟨fun _ => by omega, fun _ => by omega⟩
          simp only [e]
          exact O6
      · intro L H3 O6
        have O6 : Own H H3 [] ((L, .lst [.str ("NoPage" : Str)]) :: (a4, .lst ((["NoTask", "NoPage", "NoRoom", "Taken"] : List Str).map V.str)) :: (a3, .lst (([false, true, false, false] : List Bool).map V.bl)) :: []) := O6
        walk_at "s"
        exact k _ (O6.drop (List.nil_sublist _))
  · walk_at "s"
    intro a ha
    refine O0.nxt ha fun O1 => ?_
    walk_at "s"
    intro a2 ha2
    refine O1.nxtQ ha2 fun O2 => ?_
    walk_at "s"
    intro a3 ha3
    refine O2.nxt ha3 fun O3 => ?_
    walk_at "s"
    intro a4 ha4
    refine O3.nxt ha4 fun O4 => ?_
    walk_at "b"
    refine lcW (walk_hot (walk_list (K := K) (a := a3) (xs := ([false, false, true, false]).map V.bl))) (fun D j H2 => Own H H2 [] ((D, .lst (((([false, false, true, false] : List Bool).map fun b => if b = true then (1 : Int) else 0).take j).map V.int)) :: (a4, .lst ((["NoTask", "NoPage", "NoRoom", "Taken"] : List Str).map V.str)) :: (a3, .lst (([false, false, true, false]).map V.bl)) :: [])) (fun D hD => (O4.new hD).drop (.cons₂ _ (.cons₂ _ (.cons₂ _ (List.nil_sublist _))))) (fun D j H2 _ O => ⟨SqL.of (O.get (.tail _ (.tail _ (.head _)))), _, _, O.fr0 he⟩) ?_ ?_
    · rintro D j x H2 H3 hj O5 ⟨rfl, hx⟩
      obtain ⟨y, hy, rfl⟩ := mget hx
      have hlen : (List.map V.int (List.take j (([false, false, true, false] : List Bool).map fun b => if b = true then (1 : Int) else 0))).length < 100000 := by
        rw [List.length_map, List.length_take]
        have : j < 4 := hj
        omega
      walk_at "s"
      rw [take_succ (i := j) (y := if y = true then (1 : Int) else 0) (by rw [List.getElem?_map, hy]; rfl), List.map_append]
      exact ⟨O5.wr .here⟩
    · intro D H2 O5
      have O5 : Own H H2 [] ((D, .lst (([0, 0, 1, 0] : List Int).map V.int)) :: (a4, .lst ((["NoTask", "NoPage", "NoRoom", "Taken"] : List Str).map V.str)) :: (a3, .lst (([false, false, true, false]).map V.bl)) :: []) := O5
      refine ⟨D, [0, 0, 1, 0], rfl, SqL.of (O5.get (.head _)), ⟨_, _, O5.fr0 he⟩, ?_⟩
      walk_at "s"
      refine lcW (walk_hot (walk_range (lo := 0) (n := (Int.toNat 4)))) (fun L j H3 => Own H H3 [] ((L, .lst (if 2 < j then [.str ("NoRoom" : Str)] else [])) :: (a4, .lst ((["NoTask", "NoPage", "NoRoom", "Taken"] : List Str).map V.str)) :: (a3, .lst (([false, false, true, false] : List Bool).map V.bl)) :: [])) (fun L hL => (O5.new hL).drop (.cons₂ _ (.cons _ (.refl _)))) (fun L j H3 _ O => ⟨trivial, _, _, O.fr0 he⟩) ?_ ?_
      · rintro L j x H3 H4 hj O6 ⟨rfl, rfl⟩
        have hj : j < 4 := hj
        have hk : atI (([false, false, true, false] : List Bool).map V.bl) (0 + (j : Int)) = some (.bl (decide (j = 2))) := by
          rw [Int.zero_add]
          exact atI_nat (match j, hj with | 0, _ => rfl | 1, _ => rfl | 2, _ => rfl | 3, _ => rfl)
        obtain ⟨z, hz, hzn⟩ : ∃ z : Str, atI ((["NoTask", "NoPage", "NoRoom", "Taken"] : List Str).map V.str) (0 + (j : Int)) = some (.str z) ∧ (j = 2 → z = ("NoRoom" : Str)) := by
          rw [Int.zero_add]
          match j, hj with
          | 0, _ => exact ⟨_, atI_nat rfl, fun z => by first | rfl | omega⟩
          | 1, _ => exact ⟨_, atI_nat rfl, fun z => by first | rfl | omega⟩
          | 2, _ => exact ⟨_, atI_nat rfl, fun z => by first | rfl | omega⟩
          | 3, _ => exact ⟨_, atI_nat rfl, fun z => by first | rfl | omega⟩
        walk_at "s"
        refine if_d (fun h => ?_) (fun h => ?_)
        · have hlen : (if 2 < j then [V.str ("NoRoom" : Str)] else []).length < 100000 := by split <;> decide
          walk_at "s"
          refine ⟨?_⟩
          have O7 := O6.wr (a := L) (o' := .lst ((if 2 < j then [V.str ("NoRoom" : Str)] else []) ++ [.str z])) .here
          rw [hzn h, if_neg (show ¬ 2 < j by omega)] at O7
          rw [hzn h, if_neg (show ¬ 2 < j by omega), if_pos (show 2 < j + 1 by omega)]
          exact O7
        · refine ⟨?_⟩
          have e : (2 < j + 1) = (2 < j) := propext ⟨fun _ => by omega, fun _ => by omega⟩
          simp only [e]
          exact O6
      · intro L H3 O6
        have O6 : Own H H3 [] ((L, .lst [.str ("NoRoom" : Str)]) :: (a4, .lst ((["NoTask", "NoPage", "NoRoom", "Taken"] : List Str).map V.str)) :: (a3, .lst (([false, false, true, false] : List Bool).map V.bl)) :: []) := O6
        walk_at "s"
        exact k _ (O6.drop (List.nil_sublist _))

theorem sc__law_told : FnScope ["_law_rooms", "_law_deed", "_law_told_here", "_law_word_here", "e"] ["_law_rooms", "_law_deed"] (defScope s__law_told) := ⟨rfl, rfl, rfl, by decide +kernel, rfl, by decide +kernel, by decide +kernel⟩
theorem ok__law_told {P : Program} {w : World} {K : PySem.W.Frag} {mg : Str → Option Value} {base : Heap} (T : Txt K mg) : Cee P w K mg base 5 (He.fAd K ("_law_told", none)) ["_law_rooms", "_law_deed"] (sp__law_told K) := by
  have c__law_do : Cee P w K mg base 4 (He.fAd K ("_law_do", none)) ["_law_rooms", "_law_deed"] (sp__law_do K) := ok__law_do T
  have c__law_word : CeeX P w K mg base 1 (He.fAd K ("_law_word", none)) ["_law_caught"] (sp__law_word K) := okX__law_word T
  refine cee_of T.d__law_told sc__law_told (fun _ _ _ _ _ _ us hl => match us, hl with | [_, _], _ => rfl) (fun vs H Q E h => sp2_len h) (fun cdv A outer s H vs Q E hr h => ⟨_, (pss_cons (ps_set (i := 2) sc__law_told.nd rfl (Or.inl rfl) pe_non) (pss_cons (ps_set (i := 3) sc__law_told.nd rfl (Or.inl rfl) pe_str) (pss_cons (PS.box (ps_tryX (i := 4) rfl rfl rfl sc__law_told.nd rfl rfl ⟨rfl, by decide, .inl T.g_KernelError⟩ (L2N.takes_of rfl rfl rfl rfl) (fun W pn xe tk pe => (pss_one (ps_set (i := 2) sc__law_told.nd rfl (Or.inl rfl) (pe_f c__law_do (hr.mono (by decide)) tk (by rfl) T.g__law_do (pa_cons (pv 0) (pa_cons (pv 1) pa_nil)))))) (fun a pn => (pss_one (ps_set (i := 3) sc__law_told.nd rfl (Or.inl rfl) (pe_fX (a := a) c__law_word (roomX (hr.mono (by decide))) rfl takes0N (by rfl) T.g__law_word (pa_cons (pv 4) pa_nil))))))) (pss_cons (PS.box (ps_if (pt_cmpR op_ne (pe_ix ix_tup (pv 1) pe_int (fun _ _ => rfl)) pe_str (nomark _)) (pss_one (ps_set (i := 2) sc__law_told.nd rfl (Or.inl rfl) pe_non)) pss_nil)) (pss_one (ps_ret (pe_tup (pa_cons (pv 2) (pa_cons (pv 3) pa_nil))))))))), ?_⟩)
  obtain ⟨v0, v1, rfl, h⟩ := h
  dsimp only [cxOf, L2.start]
  obtain ⟨p, m, T, b, d, rfl, rfl, ok, O, hd, k⟩ := h
  have hno := out_none (tot := m.total) (w := m.w.abs) (d := d)
  walk_at "s"
  refine cutS (fun σ' H2 => ∃ (m' : PRm) (v : V) (o : Tol), σ' = [some (.ref p), some (.ref T), some v, some (.str (wordA (sem m.total m.w.abs d))), none] ∧ Own H H2 (adr (cPR K p m)) (Tol.cel o ++ cPR K p m') ∧ m'.total = m.total ∧ m'.w.abs = nextA m.w.abs (sem m.total m.w.abs d) ∧ o.map (·.2) = outA (sem m.total m.w.abs d) ∧ (v = Tol.v o)) (fun nx hn => ?_) ?_
  · walk_at "s"
    refine ask2 ⟨p, m, T, b, d, rfl, rfl, ok, O, hd, ?_⟩
    generalize sem m.total m.w.abs d = an at hn ⊢
    rcases an with e | ⟨w', _ | ns⟩
    · intro H2 O2
      cases e
      all_goals
        walk_at "s"
        refine ⟨fun _ e he => ?_, nofun⟩
        refine O2.nxt he fun O3 => ?_
        walk_at "s"
        refine ask1 ⟨_, rfl, O3.get (.head _), fun H3 O4 => ?_⟩
        exact hn _ _ ⟨m, .non, none, rfl, (O3.callN O4).drop (.cons _ (.refl _)), rfl, rfl, rfl, rfl⟩
    · intro H2 m' O2 ht hw
      refine hn _ _ ⟨m', .non, none, rfl, O2, ht, hw, rfl, rfl⟩
    · intro H2 m' l O2 ht hw
      refine hn _ _ ⟨m', .ref l, some (l, ns), rfl, O2, ht, hw, rfl, rfl⟩
  rintro σ' H2 ⟨m', v, o, rfl, O2, ht, hw, ho, rfl⟩
  have hT := O2.tp _ _ hd.1
  cases d with
  | peek t g n =>
    have hT : H2 T = some (.tup [.str "peek", .int t, .int g, .int n]) := hT
    walk_at "b"
    intro T' hT'
    exact k _ m' o T' (O2.newT hT') ht hw ho upd_same
  | begin t =>
    have hT : H2 T = some (.tup [.str "begin", .int t]) := hT
    rw [hno nofun] at ho
    cases o <;> first | cases ho | skip
    walk_at "b"
    intro T' hT'
    exact k _ m' none T' (O2.newT hT') ht hw (hno nofun).symm upd_same
  | close t =>
    have hT : H2 T = some (.tup [.str "close", .int t]) := hT
    rw [hno nofun] at ho
    cases o <;> first | cases ho | skip
    walk_at "b"
    intro T' hT'
    exact k _ m' none T' (O2.newT hT') ht hw (hno nofun).symm upd_same
  | map t g n =>
    have hT : H2 T = some (.tup [.str "map", .int t, .int g, .int n]) := hT
    rw [hno nofun] at ho
    cases o <;> first | cases ho | skip
    walk_at "b"
    intro T' hT'
    exact k _ m' none T' (O2.newT hT') ht hw (hno nofun).symm upd_same
  | drop t g n =>
    have hT : H2 T = some (.tup [.str "drop", .int t, .int g, .int n]) := hT
    rw [hno nofun] at ho
    cases o <;> first | cases ho | skip
    walk_at "b"
    intro T' hT'
    exact k _ m' none T' (O2.newT hT') ht hw (hno nofun).symm upd_same
  | poke t g cs =>
    have hT : H2 T = some (.tup [.str "poke", .int t, .int g, .ref b]) := hT
    rw [hno nofun] at ho
    cases o <;> first | cases ho | skip
    walk_at "b"
    intro T' hT'
    exact k _ m' none T' (O2.newT hT') ht hw (hno nofun).symm upd_same
  | copy t o2 =>
    have hT : H2 T = some (.tup [.str "copy", .int t, .int o2]) := hT
    rw [hno nofun] at ho
    cases o <;> first | cases ho | skip
    walk_at "b"
    intro T' hT'
    exact k _ m' none T' (O2.newT hT') ht hw (hno nofun).symm upd_same

/-! ## law k21: plain rooms refuse -/
structure Sh21 (w : AWl) (t1 p1 n1 t2 p2 n2 free tot : Int) : Prop where
  ok : WOk w
  r1 : ∃ r, w.lookup t1 = some r ∧ ∀ k, (r.lookup k).isSome = decide (p1 ≤ k ∧ k < p1 + n1)
  r2 : ∃ r, w.lookup t2 = some r ∧ ∀ k, (r.lookup k).isSome = decide (p2 ≤ k ∧ k < p2 + n2)
  ne : t1 ≠ t2
  held : heldA w = n1 + n2
  tot : tot = n1 + n2 + free
  only : ∀ t, t ≠ t1 → t ≠ t2 → w.lookup t = none
def Bd21 (p1 n1 p2 n2 free : Int) : Prop := 1 ≤ p1 ∧ p1 ≤ 50 ∧ 1 ≤ n1 ∧ n1 ≤ 5 ∧ 0 ≤ p2 ∧ p2 < 60 ∧ 1 ≤ n2 ∧ n2 ≤ 3 ∧ 0 ≤ free ∧ free ≤ 5
theorem ne_told {K : PySem.W.Frag} {H : Hp} {T U : Addr} {s s' : Str} {Q : VK} (h1 : H T = some (.tup [.non, .str s])) (h2 : H U = some (.tup [.non, .str s'])) (o1 : PyData.strOk s = true) (o2 : PyData.strOk s' = true) (k : Q (.bl (!decide (s = s'))) H) : rNeD K (.ref T) (.ref U) H Q := by
  have sh : ∀ z : Str, PyData.strOk z = true → SeqAt.shaped (.tuple [.none, .str z]) = true := fun z hz => by
    have h0 : (PyData.canLay0 (.tuple [.none, .str z]) && decide (PyData.depth (.tuple [.none, .str z]) ≤ 64)) = true := by
      simp [PyData.canLay0, PyData.canLayAll0, PyData.depth, PyData.depthAll, hz]
    exact h0
  refine ⟨_, _, .tup (SqT.of h1) (.cons .non (.cons (.str _) .nil)), .tup (SqT.of h2) (.cons .non (.cons (.str _) .nil)), sh _ o1, sh _ o2, ?_⟩
  have e : PyData.eqv (.tuple [.none, .str s]) (.tuple [.none, .str s']) = decide (s = s') := by
    show (PyData.eqv .none .none && (PyData.eqv (.str s) (.str s') && true)) = _
    have : PyData.eqv (.str s) (.str s') = (s == s') := rfl
    rw [this]
    show (true && ((s == s') && true)) = _
    rw [Bool.true_and, Bool.and_true]
    by_cases h : s = s'
    · rw [decide_eq_true h, h]; simp
    · rw [decide_eq_false h]; simpa using h
  rw [e]
  exact k
theorem eq_told {K : PySem.W.Frag} {H : Hp} {T U : Addr} {s s' : Str} {Q : VK} (h1 : H T = some (.tup [.non, .str s])) (h2 : H U = some (.tup [.non, .str s'])) (o1 : PyData.strOk s = true) (o2 : PyData.strOk s' = true) (k : Q (.bl (decide (s = s'))) H) : rEqD K (.ref T) (.ref U) H Q := by
  obtain ⟨d, d', a, b, c, e, h⟩ := ne_told (K := K) (Q := fun x H => Q (match x with | .bl b => .bl (!b) | y => y) H) h1 h2 o1 o2 (by
    show Q (.bl (!!decide (s = s'))) H
    rw [Bool.not_not]; exact k)
  refine ⟨d, d', a, b, c, e, ?_⟩
  have h : Q (.bl (!!PyData.eqv d d')) H := h
  rwa [Bool.not_not] at h
theorem name_ok (r : Rf) : PyData.strOk r.name = true := by cases r <;> decide +kernel
theorem word_strOk (x : Except Rf (AWl × Option (List Int))) : PyData.strOk (wordA x) = true := by
  cases x with
  | ok _ =>
    show PyData.strOk "" = true
    decide +kernel
  | error e => exact name_ok e
def sp__law_far (K : PySem.W.Frag) : Sp := sp1 fun x H Q _ => ∃ c, x = .int c ∧ ∀ H' (n : Int), Own H H' [] [] → 64 ≤ n → Q (.int n) H'
theorem at3 {a b c : V} {n : Int} (h0 : 0 ≤ n) (h1 : n < 3) : ∃ y, atI [a, b, c] n = some y ∧ (n = 0 ∧ y = a ∨ n = 1 ∧ y = b ∨ n = 2 ∧ y = c) := by
  have : n = 0 ∨ n = 1 ∨ n = 2 := by omega
  rcases this with rfl | rfl | rfl
  · exact ⟨a, rfl, .inl ⟨rfl, rfl⟩⟩
  · exact ⟨b, rfl, .inr (.inl ⟨rfl, rfl⟩)⟩
  · exact ⟨c, rfl, .inr (.inr ⟨rfl, rfl⟩)⟩
theorem at3i {a b c : Int} {n : Int} (h0 : 0 ≤ n) (h1 : n < 3) : ∃ y : Int, atI [V.int a, .int b, .int c] n = some (.int y) ∧ (n = 0 ∧ y = a ∨ n = 1 ∧ y = b ∨ n = 2 ∧ y = c) := by
  obtain ⟨y, h, z⟩ := at3 (a := V.int a) (b := .int b) (c := .int c) h0 h1
  rcases z with ⟨e, rfl⟩ | ⟨e, rfl⟩ | ⟨e, rfl⟩
  · exact ⟨a, h, .inl ⟨e, rfl⟩⟩
  · exact ⟨b, h, .inr (.inl ⟨e, rfl⟩)⟩
  · exact ⟨c, h, .inr (.inr ⟨e, rfl⟩)⟩
theorem at2i {a b : Int} {n : Int} (h0 : 0 ≤ n) (h1 : n < 2) : ∃ y : Int, atI [V.int a, .int b] n = some (.int y) ∧ (n = 0 ∧ y = a ∨ n = 1 ∧ y = b) := by
  have : n = 0 ∨ n = 1 := by omega
  rcases this with rfl | rfl
  · exact ⟨a, rfl, .inl ⟨rfl, rfl⟩⟩
  · exact ⟨b, rfl, .inr ⟨rfl, rfl⟩⟩
theorem at4i {a b c d : Int} {n : Int} (h0 : 0 ≤ n) (h1 : n < 4) : ∃ y : Int, atI [V.int a, .int b, .int c, .int d] n = some (.int y) ∧ (n = 0 ∧ y = a ∨ n = 1 ∧ y = b ∨ n = 2 ∧ y = c ∨ n = 3 ∧ y = d) := by
  have : n = 0 ∨ n = 1 ∨ n = 2 ∨ n = 3 := by omega
  rcases this with rfl | rfl | rfl | rfl
  · exact ⟨a, rfl, .inl ⟨rfl, rfl⟩⟩
  · exact ⟨b, rfl, .inr (.inl ⟨rfl, rfl⟩)⟩
  · exact ⟨c, rfl, .inr (.inr (.inl ⟨rfl, rfl⟩))⟩
  · exact ⟨d, rfl, .inr (.inr (.inr ⟨rfl, rfl⟩))⟩
theorem sc__law_far : FnScope ["_law_rest"] ["_law_rest"] (defScope s__law_far) := ⟨rfl, rfl, rfl, by decide +kernel, rfl, by decide +kernel, by decide +kernel⟩
theorem ok__law_far {P : Program} {w : World} {K : PySem.W.Frag} {mg : Str → Option Value} {base : Heap} (T : Txt K mg) : Cee P w K mg base 1 (He.fAd K ("_law_far", none)) ["_law_rest"] (sp__law_far K) := by
  refine cee_of T.d__law_far sc__law_far (fun _ _ _ _ _ _ us hl => match us, hl with | [_], _ => rfl) (fun vs H Q E h => sp1_len h) (fun cdv A outer s H vs Q E hr h => ⟨_, (pss_one (ps_ret (pe_ix ix_list (pe_lst (pa_cons (pe_op op_add (pe_op op_pow pe_int pe_int) (pe_op op_mod (pv 0) pe_int)) (pa_cons pe_int (pa_cons (pe_op op_add pe_int (pe_op op_mod (pv 0) pe_int)) pa_nil)))) (pe_op op_mod (pe_op op_fdiv (pv 0) pe_int) pe_int) (fun _ _ => rfl)))), ?_⟩)
  obtain ⟨v0, rfl, h⟩ := h
  dsimp only [cxOf, L2.start]
  obtain ⟨c, rfl, k⟩ := h
  walk_at "s"
  intro a ha
  refine (Own.start (H := H)).nxtQ ha fun O1 => ?_
  obtain ⟨y, hat, hy⟩ := at3i (a := 10 ^ Int.toNat 55 + c % 97) (b := 64) (c := 65 + c % 9) (n := c / 97 % 3) (by omega) (by omega)
  walk_at "s"
  refine k _ _ (O1.drop (List.nil_sublist _)) ?_
  have h2 : (64 : Int) ≤ 10 ^ Int.toNat 55 := by decide
  omega
/-- a place: task, first page, how many -/
abbrev Spt := Int × Int × Int
def SptAt (H : Hp) (T : Addr) (s : Spt) : Prop := H T = some (.tup [.int s.1, .int s.2.1, .int s.2.2])
def stR (w : AWl) (s : Spt) : List (List Int) := (pgs s.2.1 s.2.2.toNat).map fun k => ((((w.lookup s.1).getD []).lookup k)).getD []
def inW (w : AWl) (s : Spt) : Prop := ∃ r, w.lookup s.1 = some r ∧ ∀ k ∈ pgs s.2.1 s.2.2.toNat, (r.lookup k).isSome = true
/-- what is told of the state -/
def cStt (l : Addr) (n : Int) (rs : List Pg) : Cells := (l, .lst (.int n :: rs.map fun x => V.ref x.1)) :: rs.map pcel
def sp__law_state (K : PySem.W.Frag) : Sp := sp2 fun x y H Q _ => ∃ p m a T1 T2 s1 s2, x = .ref p ∧ y = .ref a ∧ WOk m.w.abs ∧ Own H H (adr (cPR K p m)) (cPR K p m) ∧ H a = some (.lst [.ref T1, .ref T2]) ∧ a ∉ adr (cPR K p m) ∧ SptAt H T1 s1 ∧ SptAt H T2 s2 ∧ inW m.w.abs s1 ∧ inW m.w.abs s2 ∧ s1.2.2 ≤ 64 ∧ s2.2.2 ≤ 64 ∧
  ∀ H' m' l rs, Own H H' (adr (cPR K p m)) (cStt l (heldA m.w.abs) rs ++ cPR K p m') → m'.total = m.total → m'.w.abs = m.w.abs → rs.map (·.2) = stR m.w.abs s1 ++ stR m.w.abs s2 → Q (.ref l) H'
theorem inW.page {w : Wl} {s : Spt} {k : Int} (ok : WOk w.abs) (h : inW w.abs s) (hk : k ∈ pgs s.2.1 s.2.2.toNat) (tot : Int) : ∃ row, sem tot w.abs (.peek s.1 (8 * k) 8) = .ok (w.abs, some row) ∧ row = (((w.abs.lookup s.1).getD []).lookup k).getD [] := by
  obtain ⟨r, h1, h2⟩ := h
  obtain ⟨⟨a, ch⟩, hw⟩ : ∃ x, w.lookup s.1 = some x := by
    cases e : w.lookup s.1 with
    | none => rw [Wl.abs_none e] at h1; cases h1
    | some x => exact ⟨x, rfl⟩
  rw [Wl.abs_some hw] at h1
  cases h1
  have h3 := h2 k hk
  rw [Ch.look_abs, Option.isSome_map] at h3
  obtain ⟨b, hb⟩ := Option.isSome_iff_exists.mp h3
  refine ⟨_, sem_page hw hb (ok.at hw), ?_⟩
  rw [Wl.abs_some hw, Option.getD_some, Ch.look_abs, hb]
  rfl
theorem sc__law_state : FnScope ["_law_rooms", "_law_shape", "_law_told_here", "_law_task", "_law_page", "_law_many", "_law_one"] ["_law_rooms", "_law_shape"] (defScope s__law_state) := ⟨rfl, rfl, rfl, by decide +kernel, rfl, by decide +kernel, by decide +kernel⟩
theorem ok__law_state {P : Program} {w : World} {K : PySem.W.Frag} {mg : Str → Option Value} {base : Heap} (T : Txt K mg) : Cee P w K mg base 4 (He.fAd K ("_law_state", none)) ["_law_rooms", "_law_shape"] (sp__law_state K) := by
  have c_PlainRooms_held : Cee P w K mg base 1 (He.fAd K ("PlainRooms", some "held")) ["self"] (sp_PlainRooms_held K) := ok_PlainRooms_held T
  have c_PlainRooms_peek : Cee P w K mg base 3 (He.fAd K ("PlainRooms", some "peek")) ["self", "task", "address", "many"] (sp_PlainRooms_peek K) := ok_PlainRooms_peek T
  refine cee_of T.d__law_state sc__law_state (fun _ _ _ _ _ _ us hl => match us, hl with | [_, _], _ => rfl) (fun vs H Q E h => sp2_len h) (fun cdv A outer s H vs Q E hr h => ⟨_, (pss_cons (ps_set (i := 2) sc__law_state.nd rfl (Or.inl rfl) (pe_lst (pa_cons (pe_m0 (pv 0) T.c_PlainRooms T.m_PlainRooms_held c_PlainRooms_held (hr.mono (by decide)) (L2N.takes_of rfl rfl rfl rfl)) pa_nil))) (pss_cons (ps_for (passes_of rfl) rfl (PI.box (pi_list (pv 1))) (pg_tup rfl (pgs_cons (pg_name (i := 3) sc__law_state.nd rfl (Or.inl rfl)) (pgs_cons (pg_name (i := 4) sc__law_state.nd rfl (Or.inl rfl)) (pgs_cons (pg_name (i := 5) sc__law_state.nd rfl (Or.inl rfl)) pgs_nil)))) (pss_one (ps_for (passes_of rfl) rfl (PI.box (pi_range2W (by rfl) T.n_range (pa_cons (pv 4) (pa_cons (pe_op op_add (pv 4) (pv 5)) pa_nil)))) (pg_name (i := 6) sc__law_state.nd rfl (Or.inl rfl)) (pss_one (ps_expr (pe_bm PySem.F.plainAttrs_list PySem.F.slot_list_append PySem.F.type_list_append mt_append (pv 2) (pa_cons (pe_m (pv 0) T.c_PlainRooms T.m_PlainRooms_peek c_PlainRooms_peek (hr.mono (by decide)) (L2N.takes_of rfl rfl rfl rfl) (pa_cons (pv 3) (pa_cons (pe_op op_mul pe_int (pv 6)) (pa_cons pe_int pa_nil)))) pa_nil))))))) (pss_one (ps_ret (pv 2))))), ?_⟩)
  obtain ⟨v0, v1, rfl, h⟩ := h
  dsimp only [cxOf, L2.start]
  obtain ⟨p, m, a, T1, T2, s1, s2, rfl, rfl, ok, O, ha, han, hT1, hT2, hi1, hi2, hn1, hn2, k⟩ := h
  walk_at "s"
  refine ask1 ⟨p, m, rfl, ok, O, fun H2 O2 => ?_⟩
  walk_at "s"
  intro l hl
  have O3 := O2.new (o := .lst [.int (heldA m.w.abs)]) hl
  walk_at "s"
  refine ⟨⟨_, SqL.of (O3.fr _ _ ha han)⟩, ?_⟩
  refine forL (K := K) (a := a) (xs := [.ref T1, .ref T2]) (fun j σ H' => ∃ (v3 v4 v5 v6 : Option V) (m' : PRm) (rs : List Pg), σ = [some (.ref p), some (.ref a), some (.ref l), v3, v4, v5, v6] ∧ Own H H' (adr (cPR K p m)) (cStt l (heldA m.w.abs) rs ++ cPR K p m') ∧ m'.total = m.total ∧ m'.w.abs = m.w.abs ∧ rs.map (·.2) = ([s1, s2].take j).flatMap (stR m.w.abs) ∧ rs.length ≤ 64 * j) ⟨_, _, _, _, m, [], rfl, O3, rfl, rfl, rfl, Nat.zero_le _⟩ (fun j σ H' _ ⟨_, _, _, _, _, _, _, O, _⟩ => SqL.of (O.fr _ _ ha han)) ?_ ?_
  · clear O2 O3 hl
    rintro j x σ H3 hx ⟨v3, v4, v5, v6, m', rs, rfl, O4, hmt, hma, hrs, hrl⟩
    obtain ⟨T, s, rfl, hT, hi, hn, htk, hj2⟩ : ∃ T s, x = .ref T ∧ SptAt H T s ∧ inW m.w.abs s ∧ s.2.2 ≤ 64 ∧ [s1, s2][j]? = some s ∧ j < 2 := by
      match j, hx with
      | 0, hx => cases hx; exact ⟨T1, s1, rfl, hT1, hi1, hn1, rfl, by decide⟩
      | 1, hx => cases hx; exact ⟨T2, s2, rfl, hT2, hi2, hn2, rfl, by decide⟩
    obtain ⟨t, g, n⟩ := s
    have hT3 : H3 T = some (.tup [.int t, .int g, .int n]) := O4.tp _ _ hT
    have hn : n ≤ 64 := hn
    have hst : (stR m.w.abs (t, g, n)).length = n.toNat := by unfold stR; rw [List.length_map, pgs_len]
    walk_at "s"
    refine forR (lo := g) (n := (g + n - g).toNat) (fun i σ H' => ∃ (v6 : Option V) (m' : PRm) (rs : List Pg), σ = [some (.ref p), some (.ref a), some (.ref l), some (.int t), some (.int g), some (.int n), v6] ∧ Own H H' (adr (cPR K p m)) (cStt l (heldA m.w.abs) rs ++ cPR K p m') ∧ m'.total = m.total ∧ m'.w.abs = m.w.abs ∧ rs.map (·.2) = ([s1, s2].take j).flatMap (stR m.w.abs) ++ (stR m.w.abs (t, g, n)).take i ∧ rs.length ≤ 64 * j + i) ⟨_, m', rs, rfl, O4, hmt, hma, by rw [hrs, List.take_zero, List.append_nil], hrl⟩ ?_ ?_
    · clear O4 hmt hma hrs hrl hT3
      rintro i σ H4 hi2 ⟨v6, m', rs, rfl, O4, hmt, hma, hrs, hrl⟩
      have hin : i < n.toNat := by omega
      have hkm : g + (i : Int) ∈ pgs g n.toNat := List.mem_of_getElem? (pgs_get hin)
      have ok' : WOk m'.w.abs := by rw [hma]; exact ok
      rw [← hma] at hi
      obtain ⟨row, hse, hrow⟩ := inW.page ok' hi hkm m'.total
      walk_at "s"
      refine ask4 ⟨p, m', t, 8 * (g + i), 8, rfl, rfl, rfl, rfl, ok', O4.blk (s' := []) (.app .all), ?_⟩
      rw [hse]
      intro H5 m2 f O5 hm2 hw2
      have O6 : Own H H5 (adr (cPR K p m)) ((f, .lst (row.map V.int)) :: (((l, .lst (V.int (heldA m.w.abs) :: rs.map fun x => V.ref x.1)) :: rs.map pcel) ++ cPR K p m2)) := O4.callE (e := [(f, .lst (row.map V.int))]) (.app .all) O5
      have hlen : (V.int (heldA m.w.abs) :: rs.map fun x => V.ref x.1).length < 100000 := by rw [List.length_cons, List.length_map]; omega
      walk_at "s"
      have O7 := O6.wr (a := l) (o' := .lst ((V.int (heldA m.w.abs) :: rs.map fun x => V.ref x.1) ++ [.ref f])) (.there (.appl .here))
      refine ⟨_, m2, rs ++ [(f, row)], rfl, ?_, hm2.trans hmt, hw2.trans hma, ?_, ?_⟩
      · have e : cStt l (heldA m.w.abs) (rs ++ [(f, row)]) = ((l, .lst ((V.int (heldA m.w.abs) :: rs.map fun x => V.ref x.1) ++ [.ref f])) :: rs.map pcel) ++ [(f, .lst (row.map V.int))] := by
          unfold cStt
          rw [List.map_append, List.map_append]
          rfl
        rw [e, List.append_assoc]
        exact O7.perm (List.perm_middle.symm)
      · have e : (stR m.w.abs (t, g, n))[i]? = some row := by
          unfold stR
          rw [List.getElem?_map, pgs_get hin, hrow, hma]
          rfl
        rw [List.map_append, hrs, take_succ e, List.append_assoc]
        rfl
      · rw [List.length_append]
        show rs.length + 1 ≤ _
        omega
    · rintro σ H4 ⟨v6, m', rs, rfl, O4, hmt, hma, hrs, hrl⟩
      refine ⟨_, _, _, _, m', rs, rfl, O4, hmt, hma, ?_, by omega⟩
      rw [hrs, take_succ htk, List.flatMap_append, List.take_of_length_le (l := stR m.w.abs (t, g, n)) (by rw [hst]; omega)]
      simp only [List.flatMap_cons, List.flatMap_nil, List.append_nil]
  · rintro σ H3 ⟨v3, v4, v5, v6, m', rs, rfl, O4, hmt, hma, hrs, hrl⟩
    walk_at "s"
    refine k _ m' l rs O4 hmt hma ?_
    rw [hrs]
    show List.flatMap _ [s1, s2] = _
    simp only [List.flatMap_cons, List.flatMap_nil, List.append_nil]

theorem setA_self {α : Type} {m : List (Int × α)} {k : Int} {v : α} (nd : (m.map (·.1)).Nodup) (h : m.lookup k = some v) : setA m k v = m := by
  obtain ⟨l, q, rfl, _⟩ := lk_split h
  exact setA_mid nd
theorem sem_peek_nil {tot : Int} {w : AWl} {t g : Int} {r : ARm} (h : w.lookup t = some r) : sem tot w (.peek t g 0) = .ok (w, some []) := by
  rw [sem_peek1 h, if_neg (by unfold badA; rw [decide_eq_true_eq]; omega), if_pos (show allA r g (0 : Int).toNat = true from rfl)]
  rfl
theorem sem_poke_nil {tot : Int} {w : AWl} {t g : Int} {r : ARm} (nd : (w.map (·.1)).Nodup) (h : w.lookup t = some r) : sem tot w (.poke t g []) = .ok (w, none) := by
  rw [sem_poke1 h, if_neg (by unfold badA; rw [decide_eq_true_eq]; simp only [List.length_nil]; omega), if_pos (show allA r g ([] : List Int).length = true from rfl)]
  show Except.ok (setA w t r, none) = _
  rw [setA_self nd h]
theorem map_intsA {l : List V} (h : l.all isIntV = true) {j : Nat} {x : V} (hx : l[j]? = some x) : ∃ i : Int, x = .int i := by
  have := List.all_eq_true.mp h x (List.mem_of_getElem? hx)
  cases x <;> first | exact ⟨_, rfl⟩ | cases this
def sp__law_no_cells (K : PySem.W.Frag) : Sp := sp3 fun x y z H Q _ => ∃ p m T s c r, x = .ref p ∧ y = .ref T ∧ z = .int c ∧ WOk m.w.abs ∧ Own H H (adr (cPR K p m)) (cPR K p m) ∧ SptAt H T s ∧ m.w.abs.lookup s.1 = some r ∧
  ∀ H' m', Own H H' (adr (cPR K p m)) (cPR K p m') → m'.total = m.total → m'.w.abs = m.w.abs → Q (.bl true) H'
theorem sc__law_no_cells : FnScope ["_law_rooms", "_law_one", "_law_rest", "_law_far_here"] ["_law_rooms", "_law_one", "_law_rest"] (defScope s__law_no_cells) := ⟨rfl, rfl, rfl, by decide +kernel, rfl, by decide +kernel, by decide +kernel⟩
theorem ok__law_no_cells {P : Program} {w : World} {K : PySem.W.Frag} {mg : Str → Option Value} {base : Heap} (T : Txt K mg) : Cee P w K mg base 6 (He.fAd K ("_law_no_cells", none)) ["_law_rooms", "_law_one", "_law_rest"] (sp__law_no_cells K) := by
  have c_PlainRooms_peek : Cee P w K mg base 3 (He.fAd K ("PlainRooms", some "peek")) ["self", "task", "address", "many"] (sp_PlainRooms_peek K) := ok_PlainRooms_peek T
  have c__law_told : Cee P w K mg base 5 (He.fAd K ("_law_told", none)) ["_law_rooms", "_law_deed"] (sp__law_told K) := ok__law_told T
  refine cee_of T.d__law_no_cells sc__law_no_cells (fun _ _ _ _ _ _ us hl => match us, hl with | [_, _, _], _ => rfl) (fun vs H Q E h => sp3_len h) (fun cdv A outer s H vs Q E hr h => ⟨_, (pss_cons (ps_for (passes_of rfl) rfl (PI.box (pi_list (pe_lst (pa_cons (pe_un un_neg pe_int) (pa_cons pe_int (pa_cons (pe_op op_add (pe_op op_pow pe_int pe_int) (pe_op op_mod (pv 2) pe_int)) (pa_cons (pe_un un_neg (pe_op op_pow pe_int pe_int)) (pa_cons (pe_op op_add (pe_op op_mul pe_int (pe_ix ix_tup (pv 1) pe_int (fun _ _ => rfl))) (pe_op op_mod (pv 2) pe_int)) (pa_cons (pe_op op_add (pe_op op_mul pe_int (pe_op op_add (pe_ix ix_tup (pv 1) pe_int (fun _ _ => rfl)) (pe_ix ix_tup (pv 1) pe_int (fun _ _ => rfl)))) pe_int) pa_nil))))))))) (pg_name (i := 3) sc__law_no_cells.nd rfl (Or.inl rfl)) (pss_one (ps_if (PW.pt (pw_or (pt_cmpR (op_neD hr.units) (pe_m (pv 0) T.c_PlainRooms T.m_PlainRooms_peek c_PlainRooms_peek (hr.mono (by decide)) (L2N.takes_of rfl rfl rfl rfl) (pa_cons (pe_ix ix_tup (pv 1) pe_int (fun _ _ => rfl)) (pa_cons (pv 3) (pa_cons pe_int pa_nil)))) (pe_lst pa_nil) (nomark _)) (pw_or1 (pt_cmpR (op_neD hr.units) (pe_f c__law_told (hr.mono (by decide)) (L2N.takes_of rfl rfl rfl rfl) (by rfl) T.g__law_told (pa_cons (pv 0) (pa_cons (pe_tup (pa_cons pe_str (pa_cons (pe_ix ix_tup (pv 1) pe_int (fun _ _ => rfl)) (pa_cons (pv 3) (pa_cons (pe_lst pa_nil) pa_nil))))) pa_nil))) (pe_tup (pa_cons pe_non (pa_cons pe_str pa_nil))) (nomark _))))) (pss_one (ps_ret pe_bl)) pss_nil))) (pss_one (ps_ret pe_bl))), ?_⟩)
  obtain ⟨v0, v1, v2, rfl, h⟩ := h
  dsimp only [cxOf, L2.start]
  obtain ⟨p, m, T, s, c, r, rfl, rfl, rfl, ok, O, hT, hr, k⟩ := h
  obtain ⟨t, g, n⟩ := s
  have hT : H T = some (.tup [.int t, .int g, .int n]) := hT
  have hr : m.w.abs.lookup t = some r := hr
  walk_at "s"
  intro l hl
  have O1 := O.new (o := .lst [.int (-1), .int 512, .int (10 ^ Int.toNat 55 + c % 97), .int (-(10 ^ Int.toNat 50)), .int (8 * g + c % 9), .int (8 * (g + n) + 1)]) hl
  walk_at "s"
  refine forL (K := K) (a := l) (xs := [.int (-1), .int 512, .int (10 ^ Int.toNat 55 + c % 97), .int (-(10 ^ Int.toNat 50)), .int (8 * g + c % 9), .int (8 * (g + n) + 1)]) (fun j σ H' => ∃ (v3 : Option V) (m' : PRm), σ = [some (.ref p), some (.ref T), some (.int c), v3] ∧ Own H H' (adr (cPR K p m)) ((l, .lst [.int (-1), .int 512, .int (10 ^ Int.toNat 55 + c % 97), .int (-(10 ^ Int.toNat 50)), .int (8 * g + c % 9), .int (8 * (g + n) + 1)]) :: cPR K p m') ∧ m'.total = m.total ∧ m'.w.abs = m.w.abs) ⟨_, m, rfl, O1, rfl, rfl⟩ (fun j σ H' _ ⟨_, _, _, O, _⟩ => SqL.of (O.get (.head _))) ?_ ?_
  · clear O1
    rintro j x σ H2 hx ⟨v3, m', rfl, O2, hmt, hma⟩
    obtain ⟨u, rfl⟩ := map_intsA rfl hx
    have ok' : WOk m'.w.abs := by rw [hma]; exact ok
    have hr' : m'.w.abs.lookup t = some r := by rw [hma]; exact hr
    have hT2 := O2.tp _ _ hT
    refine cutI (fun b H3 => b = false ∧ ∃ m2 : PRm, Own H H3 (adr (cPR K p m)) ((l, .lst [.int (-1), .int 512, .int (10 ^ Int.toNat 55 + c % 97), .int (-(10 ^ Int.toNat 50)), .int (8 * g + c % 9), .int (8 * (g + n) + 1)]) :: cPR K p m2) ∧ m2.total = m.total ∧ m2.w.abs = m.w.abs) (fun post hp => ?_) ?_
    · walk_at "s"
      refine ask4 ⟨p, m', t, u, 0, rfl, rfl, rfl, rfl, ok', O2.blk (s' := []) (.there .all), ?_⟩
      rw [sem_peek_nil hr']
      intro H3 m2 f O3 hm2 hw2
      have O4 := O2.callE (e := [(f, .lst (([] : List Int).map V.int))]) (.there .all) O3
      walk_at "s"
      intro e he
      have O5 := O4.new (o := .lst (([] : List Int).map V.int)) he
      refine ne_ints (O5.get (.tail _ (.head _))) (O5.get (.head _)) ?_
      rw [decide_eq_true rfl]
      have O6 := O5.drop (.cons _ (.cons _ (.refl _)))
      have hT6 := O6.tp _ _ hT
      have ok2 : WOk m2.w.abs := by rw [hw2]; exact ok'
      have hr2 : m2.w.abs.lookup t = some r := by rw [hw2]; exact hr'
      walk_at "s"
      intro b hb
      have O7 := O6.new (o := .lst (([] : List Int).map V.int)) hb
      walk_at "s"
      intro T2 hT2
      have O8 := O7.newT (o := .tup [.str "poke", .int t, .int u, .ref b]) hT2
      have hO8 := O8.blk (s := cPR K p m2) (s' := []) (.there (.there .all))
      walk_at "s"
      refine ask2 ⟨p, m2, T2, b, .poke t u [], rfl, rfl, ok2, hO8, ⟨upd_same, fun e he => ?_⟩, fun H9 m3 o T3 O9 hm3 hw3 ho hT3 => ?_⟩
      · rw [List.mem_singleton.mp he]
        exact ⟨O8.get (.head _), fun z => O8.sep (X := [(b, .lst (([] : List Int).map V.int))]) (.head _) (List.mem_cons_of_mem _ z)⟩
      · rw [sem_poke_nil ok2.nd hr2] at hw3 ho hT3
        cases o with
        | some y => cases ho
        | none =>
          have O10 := (O8.callE (e := []) (.there (.there .all)) O9).drop (cs' := (l, .lst [.int (-1), .int 512, .int (10 ^ Int.toNat 55 + c % 97), .int (-(10 ^ Int.toNat 50)), .int (8 * g + c % 9), .int (8 * (g + n) + 1)]) :: cPR K p m3) (.cons _ (.refl _))
          walk_at "s"
          intro T4 hT4
          have O11 := O10.newT (o := .tup [.non, .str ""]) hT4
          have hT34 : (upd H9 T4 (.tup [.non, .str ""])) T3 = some (.tup [.non, .str ""]) := by
            rw [upd_ne (fun z => by rw [← z, hT3] at hT4; cases hT4)]
            exact hT3
          refine ne_told hT34 upd_same (by decide +kernel) (by decide +kernel) ?_
          rw [decide_eq_true rfl]
          exact ⟨_, rfl, hp _ _ ⟨rfl, m3, O11, hm3.trans (hm2.trans hmt), hw3.trans (hw2.trans hma)⟩⟩
    · rintro b H3 ⟨rfl, m2, O3, hm2, hw2⟩
      refine if_f rfl ?_
      exact ⟨⟨_, m2, rfl, O3, hm2, hw2⟩⟩
  · rintro σ H2 ⟨v3, m', rfl, O2, hmt, hma⟩
    walk_at "s"
    exact k _ m' (O2.drop (.cons _ (.refl _))) hmt hma

def smA (t tot : Int) (j : Nat) : AWl := [(t, mapR [] (pgs 0 (min j tot.toNat)))]
theorem mapR_keys (ps : List Int) : (mapR [] ps).map (·.1) = ps := by
  unfold mapR
  rw [List.nil_append, List.map_map]
  exact List.map_id _
theorem mapR_look {ps : List Int} {k : Int} (h : k ∉ ps) : (mapR [] ps).lookup k = none := lk_none.mpr (by rw [mapR_keys]; exact h)
theorem mapR_len (ps : List Int) : (mapR [] ps).length = ps.length := by
  have := congrArg List.length (mapR_keys ps)
  rwa [List.length_map] at this
theorem pgs_succ (p : Int) (n : Nat) : pgs p (n + 1) = pgs p n ++ [p + n] := by
  unfold pgs
  rw [List.range_succ, List.map_append]
  rfl
theorem pgs_ok {p n : Int} (h0 : 0 ≤ p) (h : p + n ≤ 64) (h1 : 1 ≤ n) : ¬ badP p n = true := by unfold badP; rw [decide_eq_true_eq]; omega
theorem smA_held (t tot : Int) (j : Nat) : heldA (smA t tot j) = ((min j tot.toNat : Nat) : Int) := by
  show (((mapR [] (pgs 0 (min j tot.toNat))).length + 0 : Nat) : Int) = _
  rw [mapR_len, pgs_len]
  rfl
theorem smA_look (t tot : Int) (j : Nat) : (smA t tot j).lookup t = some (mapR [] (pgs 0 (min j tot.toNat))) := by
  unfold smA
  simp
theorem smA_ok (t tot : Int) {j : Nat} (hj : j ≤ 3) : WOk (smA t tot j) := by
  refine WOk.nil.snocW (w := []) rfl ?_ (by decide)
  by_cases h : min j tot.toNat = 0
  · rw [h]; exact ROk.nil
  · have := ROk.nil.map (p := 0) (n := ((min j tot.toNat : Nat) : Int)) (pgs_ok (by omega) (by omega) (by omega)) (anyP_no fun _ _ => rfl)
    rwa [Int.toNat_natCast] at this
theorem smA_map {t tot : Int} {j : Nat} (hj : j < 3) (h0 : 0 ≤ tot) : sem tot (smA t tot j) (.map t (0 + j) 1) = if tot ≤ j then .error .noRoom else .ok (smA t tot (j + 1), none) := by
  rw [sem_map1 (smA_look t tot j), if_neg (pgs_ok (by omega) (by omega) (by omega)), pgs_one, if_neg (anyP_no fun y hy => ?_), smA_held]
  · by_cases h : tot ≤ j
    · rw [if_pos h, if_pos (by omega)]
    · rw [if_neg h, if_neg (by omega)]
      show Except.ok ((if t = t then (t, mapR (mapR [] (pgs 0 (min j tot.toNat))) [0 + (j : Int)]) else _) :: [], none) = _
      rw [if_pos rfl]
      unfold smA
      rw [show min j tot.toNat = j by omega, show min (j + 1) tot.toNat = j + 1 by omega, pgs_succ]
      unfold mapR
      rw [List.map_append]
      rfl
  · rw [List.mem_singleton.mp hy]
    exact mapR_look fun z => by have := pgs_mem.mp z; omega
theorem smA_stay {t tot : Int} {j : Nat} (h : tot ≤ j) : smA t tot (j + 1) = smA t tot j := by
  unfold smA
  rw [show min (j + 1) tot.toNat = min j tot.toNat by omega]
theorem smA_end {t tot : Int} (h0 : 0 ≤ tot) (h : tot ≤ 1) : sem tot (smA t tot 3) (.map t 9 2) = .error .noRoom := by
  rw [sem_map1 (smA_look t tot 3), if_neg (pgs_ok (by omega) (by omega) (by omega)), if_neg (anyP_no fun y hy => ?_), smA_held, if_pos (by omega)]
  have h1 := pgs_mem.mp hy
  exact mapR_look fun z => by have := pgs_mem.mp z; omega
def sp__law_small (K : PySem.W.Frag) : Sp := sp2 fun x y H Q _ => ∃ tot t : Int, x = .int tot ∧ y = .int t ∧ 0 ≤ tot ∧ tot ≤ 1 ∧ ∀ H', Own H H' [] [] → Q (.bl true) H'
theorem sc__law_small : FnScope ["_law_total", "_law_task", "_law_rooms", "_law_page", "_law_due"] ["_law_total", "_law_task"] (defScope s__law_small) := ⟨rfl, rfl, rfl, by decide +kernel, rfl, by decide +kernel, by decide +kernel⟩
theorem ok__law_small {P : Program} {w : World} {K : PySem.W.Frag} {mg : Str → Option Value} {base : Heap} (T : Txt K mg) : Cee P w K mg base 6 (He.fAd K ("_law_small", none)) ["_law_total", "_law_task"] (sp__law_small K) := by
  have c_PlainRooms___init__ : Cee P w K mg base 1 (He.fAd K ("PlainRooms", some "__init__")) ["self", "total"] (sp_PlainRooms___init__ K) := ok_PlainRooms___init__ T
  have c_PlainRooms_begin : Cee P w K mg base 1 (He.fAd K ("PlainRooms", some "begin")) ["self", "task"] (sp_PlainRooms_begin K) := ok_PlainRooms_begin T
  have c__law_told : Cee P w K mg base 5 (He.fAd K ("_law_told", none)) ["_law_rooms", "_law_deed"] (sp__law_told K) := ok__law_told T
  have c_PlainRooms_held : Cee P w K mg base 1 (He.fAd K ("PlainRooms", some "held")) ["self"] (sp_PlainRooms_held K) := ok_PlainRooms_held T
  refine cee_of T.d__law_small sc__law_small (fun _ _ _ _ _ _ us hl => match us, hl with | [_, _], _ => rfl) (fun vs H Q E h => sp2_len h) (fun cdv A outer s H vs Q E hr h => ⟨_, (pss_cons (ps_set (i := 2) sc__law_small.nd rfl (Or.inl rfl) (pe_n T.m_PlainRooms c_PlainRooms___init__ (hr.mono (by decide)) (by rfl) T.g_PlainRooms (pa_cons (pv 0) pa_nil))) (pss_cons (ps_expr (pe_m (pv 2) T.c_PlainRooms T.m_PlainRooms_begin c_PlainRooms_begin (hr.mono (by decide)) (L2N.takes_of rfl rfl rfl rfl) (pa_cons (pv 1) pa_nil))) (pss_cons (ps_for (passes_of rfl) rfl (PI.box (pi_range1 (by rfl) T.n_range (pa_cons pe_int pa_nil))) (pg_name (i := 3) sc__law_small.nd rfl (Or.inl rfl)) (pss_cons (ps_set (i := 4) sc__law_small.nd rfl (Or.inl rfl) (pe_ifExp (pt_cmpR op_ge (pv 3) (pv 0) (nomark _)) pe_str pe_str)) (pss_one (ps_if (PW.pt (pw_or (pt_cmpR (op_neD hr.units) (pe_f c__law_told (hr.mono (by decide)) (L2N.takes_of rfl rfl rfl rfl) (by rfl) T.g__law_told (pa_cons (pv 2) (pa_cons (pe_tup (pa_cons pe_str (pa_cons (pv 1) (pa_cons (pv 3) (pa_cons pe_int pa_nil))))) pa_nil))) (pe_tup (pa_cons pe_non (pa_cons (pv 4) pa_nil))) (nomark _)) (pw_or1 (pt_cmpR op_ne (pe_m0 (pv 2) T.c_PlainRooms T.m_PlainRooms_held c_PlainRooms_held (hr.mono (by decide)) (L2N.takes_of rfl rfl rfl rfl)) (pe_callB (call_min2 rfl) (by rfl) T.n_min (by decide +kernel) (pa_cons (pv 0) (pa_cons (pe_op op_add (pv 3) pe_int) pa_nil))) (nomark _))))) (pss_one (ps_ret pe_bl)) pss_nil)))) (pss_one (ps_ret (pe_and (pe_cmpR (op_eqD hr.units) (pe_f c__law_told (hr.mono (by decide)) (L2N.takes_of rfl rfl rfl rfl) (by rfl) T.g__law_told (pa_cons (pv 2) (pa_cons (pe_tup (pa_cons pe_str (pa_cons (pv 1) (pa_cons pe_int (pa_cons pe_int pa_nil))))) pa_nil))) (pe_tup (pa_cons pe_non (pa_cons pe_str pa_nil))) (nomark _)) (pe_one (pe_cmpR op_eq (pe_m0 (pv 2) T.c_PlainRooms T.m_PlainRooms_held c_PlainRooms_held (hr.mono (by decide)) (L2N.takes_of rfl rfl rfl rfl)) (pv 0) (nomark _))))))))), ?_⟩)
  obtain ⟨v0, v1, rfl, h⟩ := h
  dsimp only [cxOf, L2.start]
  obtain ⟨tot, t, rfl, rfl, h0, h1, k⟩ := h
  walk_at "s"
  intro p dp hp hdp hne
  have O3 := (Own.start (H := H)).inst (C := He.ga K "PlainRooms") hp hdp hne
  refine ask2 ⟨p, dp, tot, rfl, rfl, O3.self, fun H4 D hO => ?_⟩
  have O4 : Own H H4 [] (cPR K p ⟨dp, D, tot, []⟩) := O3.call .all hO
  clear O3 hO
  walk_at "s"
  refine ask2 ⟨p, ⟨dp, D, tot, []⟩, t, rfl, rfl, WOk.nil, O4.self, ?_⟩
  rw [show sem tot (Wl.abs []) (.begin t) = .ok (smA t tot 0, none) by rw [show Wl.abs [] = [] from rfl, sem_begin0 rfl]; unfold smA; rw [Nat.zero_min]; rfl]
  intro H5 m O5 hmt hma
  have O6 := O4.call .all O5
  have hmt : m.total = tot := hmt
  clear O4 O5
  walk_at "s"
  refine forR (lo := 0) (n := 3) (fun j σ H' => ∃ (v3 v4 : Option V) (m : PRm), σ = [some (.int tot), some (.int t), some (.ref p), v3, v4] ∧ Own H H' [] (cPR K p m) ∧ m.total = tot ∧ m.w.abs = smA t tot j) ⟨_, _, m, rfl, O6, hmt, hma⟩ ?_ ?_
  · clear O6 hmt hma
    rintro j σ H6 hj ⟨v3, v4, m, rfl, O6, hmt, hma⟩
    have hsm := smA_map (t := t) (tot := tot) hj h0
    have ok : WOk m.w.abs := by rw [hma]; exact smA_ok t tot (by omega)
    have key : ∀ (due : Str), due = (if tot ≤ (j : Int) then ("NoRoom" : Str) else "") → wordA (sem m.total m.w.abs (.map t (0 + j) 1)) = due ∧ outA (sem m.total m.w.abs (.map t (0 + j) 1)) = none ∧ nextA m.w.abs (sem m.total m.w.abs (.map t (0 + j) 1)) = smA t tot (j + 1) := fun due hd => by
      rw [hmt, hma, hsm, hd]
      by_cases h : tot ≤ (j : Int)
      · rw [if_pos h, if_pos h]
        exact ⟨rfl, rfl, (smA_stay h).symm⟩
      · rw [if_neg h, if_neg h]
        exact ⟨rfl, rfl, rfl⟩
    walk_at "s"
    refine if_d (fun h => ?_) (fun h => ?_)
    · obtain ⟨kw, ko, kn⟩ := key "NoRoom" (if_pos (by omega)).symm
      walk_at "s"
      intro T2 hT2
      have O8 := O6.newT (o := .tup [.str "map", .int t, .int (0 + j), .int 1]) hT2
      walk_at "s"
      refine ask2 ⟨p, m, T2, T2, .map t (0 + j) 1, rfl, rfl, ok, O8.self, ⟨upd_same, fun e he => by cases he⟩, fun H9 m3 o T3 O9 hm3 hw3 ho hT3 => ?_⟩
      rw [kn] at hw3
      rw [ko] at ho
      rw [kw] at hT3
      cases o with
      | some y => cases ho
      | none =>
      have O10 := O8.call (s' := cPR K p m3) .all O9
      have ok3 : WOk m3.w.abs := by rw [hw3]; exact smA_ok t tot (by omega)
      walk_at "s"
      intro T4 hT4
      have O11 := O10.newT (o := .tup [.non, .str "NoRoom"]) hT4
      have hT34 : (upd H9 T4 (.tup [.non, .str "NoRoom"])) T3 = some (.tup [.non, .str "NoRoom"]) := by
        rw [upd_ne (fun z => by rw [← z, hT3] at hT4; cases hT4)]
        exact hT3
      refine ne_told hT34 upd_same (by decide +kernel) (by decide +kernel) ?_
      rw [decide_eq_true rfl]
      walk_at "s"
      refine ask1 ⟨p, m3, rfl, ok3, O11.self, fun H10 O12 => ?_⟩
      have O13 := O11.call .all O12
      rw [hw3, smA_held]
      walk_at "s"
      refine if_nii (fun h => absurd ?_ h) (fun _ => ?_)
      · split <;> omega
      · exact ⟨⟨_, _, m3, rfl, O13, hm3.trans hmt, hw3⟩⟩
    · obtain ⟨kw, ko, kn⟩ := key "" (if_neg (by omega)).symm
      walk_at "s"
      intro T2 hT2
      have O8 := O6.newT (o := .tup [.str "map", .int t, .int (0 + j), .int 1]) hT2
      walk_at "s"
      refine ask2 ⟨p, m, T2, T2, .map t (0 + j) 1, rfl, rfl, ok, O8.self, ⟨upd_same, fun e he => by cases he⟩, fun H9 m3 o T3 O9 hm3 hw3 ho hT3 => ?_⟩
      rw [kn] at hw3
      rw [ko] at ho
      rw [kw] at hT3
      cases o with
      | some y => cases ho
      | none =>
      have O10 := O8.call (s' := cPR K p m3) .all O9
      have ok3 : WOk m3.w.abs := by rw [hw3]; exact smA_ok t tot (by omega)
      walk_at "s"
      intro T4 hT4
      have O11 := O10.newT (o := .tup [.non, .str ""]) hT4
      have hT34 : (upd H9 T4 (.tup [.non, .str ""])) T3 = some (.tup [.non, .str ""]) := by
        rw [upd_ne (fun z => by rw [← z, hT3] at hT4; cases hT4)]
        exact hT3
      refine ne_told hT34 upd_same (by decide +kernel) (by decide +kernel) ?_
      rw [decide_eq_true rfl]
      walk_at "s"
      refine ask1 ⟨p, m3, rfl, ok3, O11.self, fun H10 O12 => ?_⟩
      have O13 := O11.call .all O12
      rw [hw3, smA_held]
      walk_at "s"
      refine if_nii (fun h => absurd ?_ h) (fun _ => ?_)
      · split <;> omega
      · exact ⟨⟨_, _, m3, rfl, O13, hm3.trans hmt, hw3⟩⟩
  · rintro σ H6 ⟨v3, v4, m, rfl, O6, hmt, hma⟩
    have ok : WOk m.w.abs := by rw [hma]; exact smA_ok t tot (by omega)
    have hse := smA_end (t := t) h0 h1
    rw [← hma, ← hmt] at hse
    walk_at "s"
    intro T2 hT2
    have O8 := O6.newT (o := .tup [.str "map", .int t, .int 9, .int 2]) hT2
    walk_at "s"
    refine ask2 ⟨p, m, T2, T2, .map t 9 2, rfl, rfl, ok, O8.self, ⟨upd_same, fun e he => by cases he⟩, fun H9 m3 o T3 O9 hm3 hw3 ho hT3 => ?_⟩
    rw [hse] at hw3 ho hT3
    cases o with
    | some y => cases ho
    | none =>
    have O10 := O8.call (s' := cPR K p m3) .all O9
    have hw3 : m3.w.abs = m.w.abs := hw3
    have ok3 : WOk m3.w.abs := by rw [hw3]; exact ok
    walk_at "s"
    intro T4 hT4
    have O11 := O10.newT (o := .tup [.non, .str "NoRoom"]) hT4
    have hT34 : (upd H9 T4 (.tup [.non, .str "NoRoom"])) T3 = some (.tup [.non, .str "NoRoom"]) := by
      rw [upd_ne (fun z => by rw [← z, hT3] at hT4; cases hT4)]
      exact hT3
    refine eq_told hT34 upd_same (by decide +kernel) (by decide +kernel) ?_
    rw [decide_eq_true rfl]
    walk_at "s"
    refine ask1 ⟨p, m3, rfl, ok3, O11.self, fun H10 O12 => ?_⟩
    rw [hw3, hma, smA_held]
    walk_at "s"
    rw [show ((min 3 tot.toNat : Nat) : Int) = tot by omega, decide_eq_true rfl]
    exact k _ ((O11.call .all O12).drop (List.nil_sublist _))
theorem keys_len {r : ARm} {p n : Int} (nd : (r.map (·.1)).Nodup) (h : ∀ k, (r.lookup k).isSome = decide (p ≤ k ∧ k < p + n)) : r.length = n.toNat := by
  have h1 : (r.map (·.1)).Perm (pgs p n.toNat) := (List.perm_ext_iff_of_nodup nd (pgs_nd _ _)).mpr fun k => by
    rw [← lk_some, h, decide_eq_true_eq, pgs_mem]
    omega
  have := h1.length_eq
  rwa [List.length_map, pgs_len] at this
def sp__law_full (K : PySem.W.Frag) : Sp := sp4 fun x y z u H Q _ => ∃ p m T t1 p1 n1 t2 p2 n2 free ex, x = .ref p ∧ y = .ref T ∧ z = .int free ∧ u = .int ex ∧ Sh21 m.w.abs t1 p1 n1 t2 p2 n2 free m.total ∧ Bd21 p1 n1 p2 n2 free ∧ Own H H (adr (cPR K p m)) (cPR K p m) ∧ SptAt H T (t1, p1, n1) ∧ ex ≠ t1 ∧ ex ≠ t2 ∧
  ∀ H' m', Own H H' (adr (cPR K p m)) (cPR K p m') → m'.total = m.total → m'.w.abs = m.w.abs → Q (.bl true) H'
theorem sc__law_full : FnScope ["_law_rooms", "_law_one", "_law_free", "_law_extra"] ["_law_rooms", "_law_one", "_law_free", "_law_extra"] (defScope s__law_full) := ⟨rfl, rfl, rfl, by decide +kernel, rfl, by decide +kernel, by decide +kernel⟩
theorem ok__law_full {P : Program} {w : World} {K : PySem.W.Frag} {mg : Str → Option Value} {base : Heap} (T : Txt K mg) : Cee P w K mg base 6 (He.fAd K ("_law_full", none)) ["_law_rooms", "_law_one", "_law_free", "_law_extra"] (sp__law_full K) := by
  have c__law_told : Cee P w K mg base 5 (He.fAd K ("_law_told", none)) ["_law_rooms", "_law_deed"] (sp__law_told K) := ok__law_told T
  refine cee_of T.d__law_full sc__law_full (fun _ _ _ _ _ _ us hl => match us, hl with | [_, _, _, _], _ => rfl) (fun vs H Q E h => sp4_len h) (fun cdv A outer s H vs Q E hr h => ⟨_, (pss_cons (ps_if (pt_cmpR op_le (pe_ix ix_tup (pv 1) pe_int (fun _ _ => rfl)) (pv 2) (nomark _)) (pss_one (ps_ret pe_bl)) pss_nil) (pss_cons (ps_if (pt_cmpR (op_neD hr.units) (pe_f c__law_told (hr.mono (by decide)) (L2N.takes_of rfl rfl rfl rfl) (by rfl) T.g__law_told (pa_cons (pv 0) (pa_cons (pe_tup (pa_cons pe_str (pa_cons (pe_ix ix_tup (pv 1) pe_int (fun _ _ => rfl)) (pa_cons (pv 3) pa_nil)))) pa_nil))) (pe_tup (pa_cons pe_non (pa_cons pe_str pa_nil))) (nomark _)) (pss_one (ps_ret pe_bl)) pss_nil) (pss_one (ps_ret (pe_cmpR (op_eqD hr.units) (pe_f c__law_told (hr.mono (by decide)) (L2N.takes_of rfl rfl rfl rfl) (by rfl) T.g__law_told (pa_cons (pv 0) (pa_cons (pe_tup (pa_cons pe_str (pa_cons (pe_ix ix_tup (pv 1) pe_int (fun _ _ => rfl)) (pa_cons (pe_ix ix_tup (pv 1) pe_int (fun _ _ => rfl)) pa_nil)))) pa_nil))) (pe_tup (pa_cons pe_non (pa_cons pe_str pa_nil))) (nomark _)))))), ?_⟩)
  obtain ⟨v0, v1, v2, v3, rfl, h⟩ := h
  dsimp only [cxOf, L2.start]
  obtain ⟨p, m, T, t1, p1, n1, t2, p2, n2, free, ex, rfl, rfl, rfl, rfl, sh, bd, O, hT, hx1, hx2, k⟩ := h
  have hT : H T = some (.tup [.int t1, .int p1, .int n1]) := hT
  obtain ⟨r, hr, hrk⟩ := sh.r1
  have ok := sh.ok
  have hrl := keys_len (ok.atA hr).nd hrk
  obtain ⟨b1, b2, b3, b4, b5, b6, b7, b8, b9, b10⟩ := bd
  have s1 : ¬ n1 ≤ free → sem m.total m.w.abs (.copy t1 ex) = .error .noRoom := fun h => by
    rw [sem_copy1 hr, if_neg (by rw [sh.only ex hx1 hx2]; decide), sh.held, if_pos (by rw [sh.tot, hrl]; omega)]
  have s2 : sem m.total m.w.abs (.copy t1 t1) = .error .taken := by
    rw [sem_copy1 hr, if_pos (by rw [hr]; rfl)]
  walk_at "s"
  refine if_d (fun h => ?_) (fun h => ?_)
  · exact k _ m O rfl rfl
  have s1 := s1 h
  walk_at "s"
  intro T2 hT2
  have O8 := O.newT (o := .tup [.str "copy", .int t1, .int ex]) hT2
  walk_at "s"
  refine ask2 ⟨p, m, T2, T2, .copy t1 ex, rfl, rfl, ok, O8.self, ⟨upd_same, fun e he => by cases he⟩, fun H9 m3 o T3 O9 hm3 hw3 ho hT3 => ?_⟩
  rw [s1] at hw3 ho hT3
  cases o with
  | some y => cases ho
  | none =>
  have O10 := O8.call (s' := cPR K p m3) .all O9
  have hw3 : m3.w.abs = m.w.abs := hw3
  have ok3 : WOk m3.w.abs := by rw [hw3]; exact ok
  walk_at "s"
  intro T4 hT4
  have O11 := O10.newT (o := .tup [.non, .str "NoRoom"]) hT4
  have hT34 : (upd H9 T4 (.tup [.non, .str "NoRoom"])) T3 = some (.tup [.non, .str "NoRoom"]) := by
    rw [upd_ne (fun z => by rw [← z, hT3] at hT4; cases hT4)]
    exact hT3
  refine ne_told hT34 upd_same (by decide +kernel) (by decide +kernel) ?_
  rw [decide_eq_true rfl]
  have hT11 := O11.tp _ _ hT
  walk_at "s"
  intro T5 hT5
  have O12 := O11.newT (o := .tup [.str "copy", .int t1, .int t1]) hT5
  walk_at "s"
  refine ask2 ⟨p, m3, T5, T5, .copy t1 t1, rfl, rfl, ok3, O12.self, ⟨upd_same, fun e he => by cases he⟩, fun H13 m4 o T6 O13 hm4 hw4 ho hT6 => ?_⟩
  rw [hm3, hw3, s2] at hw4 ho hT6
  cases o with
  | some y => cases ho
  | none =>
  have O14 := O12.call (s' := cPR K p m4) .all O13
  have hw4 : m4.w.abs = m.w.abs := hw4
  walk_at "s"
  intro T7 hT7
  have O15 := O14.newT (o := .tup [.non, .str "Taken"]) hT7
  have hT67 : (upd H13 T7 (.tup [.non, .str "Taken"])) T6 = some (.tup [.non, .str "Taken"]) := by
    rw [upd_ne (fun z => by rw [← z, hT6] at hT7; cases hT7)]
    exact hT6
  refine eq_told hT67 upd_same (by decide +kernel) (by decide +kernel) ?_
  rw [decide_eq_true rfl]
  exact k _ m4 O15 (hm4.trans hm3) hw4

theorem at4v {a b c d : V} {n : Int} (h0 : 0 ≤ n) (h1 : n < 4) : ∃ y, atI [a, b, c, d] n = some y ∧ (y = a ∨ y = b ∨ y = c ∨ y = d) := by
  have : n = 0 ∨ n = 1 ∨ n = 2 ∨ n = 3 := by omega
  rcases this with rfl | rfl | rfl | rfl
  · exact ⟨a, rfl, .inl rfl⟩
  · exact ⟨b, rfl, .inr (.inl rfl)⟩
  · exact ⟨c, rfl, .inr (.inr (.inl rfl))⟩
  · exact ⟨d, rfl, .inr (.inr (.inr rfl))⟩
theorem tup2 {H : Hp} {T B : Addr} {xs : List V} {o : HO} (hB : (upd H T (.tup xs)) B = none) : (upd (upd H T (.tup xs)) B o) T = some (.tup xs) := by
  rw [upd_ne (fun e => by rw [← e, upd_same] at hB; cases hB)]
  exact upd_same
section
variable {w : AWl} {t1 p1 n1 t2 p2 n2 free tot p n : Int}
theorem Sh21.map_page (sh : Sh21 w t1 p1 n1 t2 p2 n2 free tot) (h : n < 1 ∨ p < 0 ∨ p + n > 64) : sem tot w (.map t1 p n) = .error .noPage := by
  obtain ⟨r, hr, hk⟩ := sh.r1
  rw [sem_map1 hr, if_pos (show badP p n = true from decide_eq_true h)]
theorem Sh21.map_taken (sh : Sh21 w t1 p1 n1 t2 p2 n2 free tot) (h : ¬ (n < 1 ∨ p < 0 ∨ p + n > 64)) {k : Int} (h1 : p ≤ k) (h2 : k < p + n) (h3 : p1 ≤ k ∧ k < p1 + n1) : sem tot w (.map t1 p n) = .error .taken := by
  obtain ⟨r, hr, hk⟩ := sh.r1
  rw [sem_map1 hr, if_neg (by unfold badP; rw [decide_eq_true_eq]; exact h), if_pos (anyP_yes (y := k) (pgs_mem.mpr (by omega)) (by rw [hk]; exact decide_eq_true h3))]
theorem Sh21.map_room (sh : Sh21 w t1 p1 n1 t2 p2 n2 free tot) (h : ¬ (n < 1 ∨ p < 0 ∨ p + n > 64)) (h1 : p1 + n1 ≤ p) (h2 : n > free) : sem tot w (.map t1 p n) = .error .noRoom := by
  obtain ⟨r, hr, hk⟩ := sh.r1
  rw [sem_map1 hr, if_neg (by unfold badP; rw [decide_eq_true_eq]; exact h), if_neg (anyP_no fun y hy => ?_), sh.held, if_pos (by rw [sh.tot]; omega)]
  have h3 := pgs_mem.mp hy
  have h4 := hk y
  rw [decide_eq_false (by omega)] at h4
  exact Option.isNone_iff_eq_none.mp (by rw [← Option.not_isSome, h4]; rfl)
theorem Sh21.drop_page (sh : Sh21 w t1 p1 n1 t2 p2 n2 free tot) (h : (n < 1 ∨ p < 0 ∨ p + n > 64) ∨ ∃ k, p ≤ k ∧ k < p + n ∧ ¬ (p1 ≤ k ∧ k < p1 + n1)) : sem tot w (.drop t1 p n) = .error .noPage := by
  obtain ⟨r, hr, hk⟩ := sh.r1
  rw [sem_drop1 hr]
  by_cases hb : n < 1 ∨ p < 0 ∨ p + n > 64
  · rw [if_pos (show badP p n = true from decide_eq_true hb)]
  · rw [if_neg (by unfold badP; rw [decide_eq_true_eq]; exact hb)]
    obtain ⟨k, h1, h2, h3⟩ := h.resolve_left hb
    have h4 := hk k
    rw [decide_eq_false h3] at h4
    rw [if_neg (allP_no (y := k) (pgs_mem.mpr (by omega)) (Option.isNone_iff_eq_none.mp (by rw [← Option.not_isSome, h4]; rfl)))]
theorem Sh21.none_at (sh : Sh21 w t1 p1 n1 t2 p2 n2 free tot) {r : ARm} (hr : w.lookup t1 = some r) {k : Int} (h : ¬ (p1 ≤ k ∧ k < p1 + n1)) : r.lookup k = none := by
  obtain ⟨r', hr', hk⟩ := sh.r1
  rw [hr] at hr'
  cases hr'
  have h4 := hk k
  rw [decide_eq_false h] at h4
  exact Option.isNone_iff_eq_none.mp (by rw [← Option.not_isSome, h4]; rfl)
theorem Sh21.peek_page (sh : Sh21 w t1 p1 n1 t2 p2 n2 free tot) (h : n < 0 ∨ ∃ i : Nat, i < n.toNat ∧ ¬ (p1 ≤ (p + i) / 8 ∧ (p + i) / 8 < p1 + n1)) : sem tot w (.peek t1 p n) = .error .noPage := by
  obtain ⟨r, hr, hk⟩ := sh.r1
  rw [sem_peek1 hr, ite3]
  rcases h with h | ⟨i, h1, h2⟩
  · exact .inl (decide_eq_true (.inl h))
  · exact .inr (allA_no h1 (sh.none_at hr h2))
theorem Sh21.poke_page (sh : Sh21 w t1 p1 n1 t2 p2 n2 free tot) {cs : List Int} (h : ∃ i : Nat, i < cs.length ∧ ¬ (p1 ≤ (p + i) / 8 ∧ (p + i) / 8 < p1 + n1)) : sem tot w (.poke t1 p cs) = .error .noPage := by
  obtain ⟨r, hr, hk⟩ := sh.r1
  rw [sem_poke1 hr, ite3]
  obtain ⟨i, h1, h2⟩ := h
  exact .inr (allA_no h1 (sh.none_at hr h2))
end
def sp__law_bad (K : PySem.W.Frag) : Sp := sp5 fun x y z u v H Q _ => ∃ (c : Int) (T1 T2 : Addr) (t1 p1 n1 t2 p2 n2 free no : Int), x = .int c ∧ y = .ref T1 ∧ z = .ref T2 ∧ u = .int free ∧ v = .int no ∧ SptAt H T1 (t1, p1, n1) ∧ SptAt H T2 (t2, p2, n2) ∧ Bd21 p1 n1 p2 n2 free ∧
  ∀ H' T B b (d : RDeed) (s : Rf), Own H H' [] (d.cel b) → H' T = some (.tup (d.vs b)) → H' B = some (.tup [.ref T, .str s.name]) → (∀ w tot, Sh21 w t1 p1 n1 t2 p2 n2 free tot → w.lookup no = none → sem tot w d = .error s) → Q (.ref B) H'
theorem sc__law_bad : FnScope ["_law_rest", "_law_one", "_law_other", "_law_free", "_law_none", "_law_task", "_law_page", "_law_many", "_law_kind", "_law_more", "_law_some"] ["_law_rest", "_law_one", "_law_other", "_law_free", "_law_none"] (defScope s__law_bad) := ⟨rfl, rfl, rfl, by decide +kernel, rfl, by decide +kernel, by decide +kernel⟩
theorem ok__law_bad {P : Program} {w : World} {K : PySem.W.Frag} {mg : Str → Option Value} {base : Heap} (T : Txt K mg) : Cee P w K mg base 2 (He.fAd K ("_law_bad", none)) ["_law_rest", "_law_one", "_law_other", "_law_free", "_law_none"] (sp__law_bad K) := by
  have c__law_far : Cee P w K mg base 1 (He.fAd K ("_law_far", none)) ["_law_rest"] (sp__law_far K) := ok__law_far T
  refine cee_of T.d__law_bad sc__law_bad (fun _ _ _ _ _ _ us hl => match us, hl with | [_, _, _, _, _], _ => rfl) (fun vs H Q E h => sp5_len h) (fun cdv A outer s H vs Q E hr h => ⟨_, (pss_cons (ps_asg (pv 1) (pg_tup rfl (pgs_cons (pg_name (i := 5) sc__law_bad.nd rfl (Or.inl rfl)) (pgs_cons (pg_name (i := 6) sc__law_bad.nd rfl (Or.inl rfl)) (pgs_cons (pg_name (i := 7) sc__law_bad.nd rfl (Or.inl rfl)) pgs_nil))))) (pss_cons (ps_set (i := 8) sc__law_bad.nd rfl (Or.inl rfl) (pe_op op_mod (pv 0) pe_int)) (pss_cons (ps_set (i := 9) sc__law_bad.nd rfl (Or.inl rfl) (pe_op op_fdiv (pv 0) pe_int)) (pss_cons (ps_if (pt_cmpR op_eq (pv 8) pe_int (nomark _)) (pss_one (ps_ret (pe_tup (pa_cons (pe_tup (pa_cons pe_str (pa_cons (pv 4) (pa_cons (pe_ix ix_list (pe_lst (pa_cons (pe_un un_neg pe_int) (pa_cons pe_int (pa_cons (pe_op op_mul pe_int (pv 6)) pa_nil)))) (pe_op op_mod (pv 9) pe_int) (fun _ _ => rfl)) (pa_cons (pe_op op_mod (pv 9) pe_int) pa_nil))))) (pa_cons pe_str pa_nil))))) pss_nil) (pss_cons (ps_if (pt_cmpR op_eq (pv 8) pe_int (nomark _)) (pss_cons (ps_set (i := 10) sc__law_bad.nd rfl (Or.inl rfl) (pe_lst (pa_cons (pe_tup (pa_cons pe_str (pa_cons (pv 4) (pa_cons (pe_un un_neg pe_int) (pa_cons pe_int pa_nil))))) (pa_cons (pe_tup (pa_cons pe_str (pa_cons (pv 4) (pa_cons pe_int (pa_cons pe_int pa_nil))))) (pa_cons (pe_tup (pa_cons pe_str (pa_cons (pv 4) (pa_cons (pe_op op_mul pe_int (pv 6)) (pa_cons (pe_lst (pa_cons pe_int pa_nil)) pa_nil))))) (pa_cons (pe_tup (pa_cons pe_str (pa_cons (pv 4) pa_nil))) pa_nil)))))) (pss_one (ps_ret (pe_tup (pa_cons (pe_ix ix_list (pv 10) (pe_op op_mod (pv 9) pe_int) (fun _ _ => rfl)) (pa_cons pe_str pa_nil)))))) pss_nil) (pss_cons (ps_if (pt_cmpR op_eq (pv 8) pe_int (nomark _)) (pss_one (ps_ret (pe_tup (pa_cons (pe_tup (pa_cons pe_str (pa_cons (pv 4) (pa_cons (pe_ix ix_list (pe_lst (pa_cons (pv 4) (pa_cons (pe_ix ix_tup (pv 2) pe_int (fun _ _ => rfl)) pa_nil))) (pe_op op_mod (pv 9) pe_int) (fun _ _ => rfl)) pa_nil)))) (pa_cons pe_str pa_nil))))) pss_nil) (pss_cons (ps_if (pt_cmpR op_eq (pv 8) pe_int (nomark _)) (pss_one (ps_ret (pe_tup (pa_cons (pe_tup (pa_cons pe_str (pa_cons (pv 5) (pa_cons (pv 6) (pa_cons (pe_ix ix_list (pe_lst (pa_cons pe_int (pa_cons (pe_un un_neg pe_int) (pa_cons (pe_un un_neg (pe_op op_pow pe_int pe_int)) pa_nil)))) (pe_op op_mod (pv 9) pe_int) (fun _ _ => rfl)) pa_nil))))) (pa_cons pe_str pa_nil))))) pss_nil) (pss_cons (ps_if (pt_cmpR op_eq (pv 8) pe_int (nomark _)) (pss_one (ps_ret (pe_tup (pa_cons (pe_tup (pa_cons pe_str (pa_cons (pv 5) (pa_cons (pe_ix ix_list (pe_lst (pa_cons (pe_un un_neg pe_int) (pa_cons (pe_f c__law_far (hr.mono (by decide)) (L2N.takes_of rfl rfl rfl rfl) (by rfl) T.g__law_far (pa_cons (pv 9) pa_nil)) (pa_cons (pe_op op_sub pe_int (pv 7)) pa_nil)))) (pe_op op_mod (pv 9) pe_int) (fun _ _ => rfl)) (pa_cons (pe_ix ix_list (pe_lst (pa_cons (pe_op op_add (pv 7) pe_int) (pa_cons pe_int (pa_cons (pe_op op_add (pv 7) pe_int) pa_nil)))) (pe_op op_mod (pv 9) pe_int) (fun _ _ => rfl)) pa_nil))))) (pa_cons pe_str pa_nil))))) pss_nil) (pss_cons (ps_if (pt_cmpR op_eq (pv 8) pe_int (nomark _)) (pss_one (ps_ret (pe_tup (pa_cons (pe_tup (pa_cons pe_str (pa_cons (pv 5) (pa_cons (pe_op op_sub (pe_op op_add (pv 6) (pv 7)) pe_int) (pa_cons (pe_op op_add pe_int (pe_op op_mod (pv 9) pe_int)) pa_nil))))) (pa_cons pe_str pa_nil))))) pss_nil) (pss_cons (ps_if (pt_cmpR op_eq (pv 8) pe_int (nomark _)) (pss_one (ps_ret (pe_tup (pa_cons (pe_tup (pa_cons pe_str (pa_cons (pv 5) (pa_cons pe_int (pa_cons (pe_op op_add (pv 6) pe_int) pa_nil))))) (pa_cons pe_str pa_nil))))) pss_nil) (pss_cons (ps_if (pt_cmpR op_eq (pv 8) pe_int (nomark _)) (pss_one (ps_ret (pe_tup (pa_cons (pe_tup (pa_cons pe_str (pa_cons (pv 5) (pa_cons (pe_op op_add (pv 6) (pv 7)) (pa_cons (pe_op op_add (pv 3) pe_int) pa_nil))))) (pa_cons pe_str pa_nil))))) pss_nil) (pss_cons (ps_if (pt_cmpR op_eq (pv 8) pe_int (nomark _)) (pss_one (ps_ret (pe_tup (pa_cons (pe_tup (pa_cons pe_str (pa_cons (pv 5) (pa_cons (pv 6) (pa_cons (pe_ix ix_list (pe_lst (pa_cons (pe_op op_add (pv 7) pe_int) (pa_cons pe_int (pa_cons (pe_un un_neg pe_int) (pa_cons (pe_op op_pow pe_int pe_int) pa_nil))))) (pe_op op_mod (pv 9) pe_int) (fun _ _ => rfl)) pa_nil))))) (pa_cons pe_str pa_nil))))) pss_nil) (pss_cons (ps_if (pt_cmpR op_eq (pv 8) pe_int (nomark _)) (pss_one (ps_ret (pe_tup (pa_cons (pe_tup (pa_cons pe_str (pa_cons (pv 5) (pa_cons (pe_ix ix_list (pe_lst (pa_cons (pe_op op_sub (pv 6) pe_int) (pa_cons (pe_op op_add (pv 6) (pv 7)) (pa_cons (pe_f c__law_far (hr.mono (by decide)) (L2N.takes_of rfl rfl rfl rfl) (by rfl) T.g__law_far (pa_cons (pv 9) pa_nil)) pa_nil)))) (pe_op op_mod (pv 9) pe_int) (fun _ _ => rfl)) (pa_cons (pe_op op_add pe_int (pe_op op_mod (pv 9) pe_int)) pa_nil))))) (pa_cons pe_str pa_nil))))) pss_nil) (pss_cons (ps_if (pt_cmpR op_eq (pv 8) pe_int (nomark _)) (pss_one (ps_ret (pe_tup (pa_cons (pe_tup (pa_cons pe_str (pa_cons (pv 5) (pa_cons (pe_op op_sub (pe_op op_mul pe_int (pv 6)) pe_int) (pa_cons (pe_op op_add pe_int (pe_op op_mod (pv 9) pe_int)) pa_nil))))) (pa_cons pe_str pa_nil))))) pss_nil) (pss_cons (ps_if (pt_cmpR op_eq (pv 8) pe_int (nomark _)) (pss_cons (ps_if (pt_cmpR op_eq (pe_op op_mod (pe_op op_fdiv (pv 9) pe_int) pe_int) pe_int (nomark _)) (pss_one (ps_ret (pe_tup (pa_cons (pe_tup (pa_cons pe_str (pa_cons (pv 5) (pa_cons (pe_op op_mul pe_int (pv 6)) (pa_cons (pe_un un_neg pe_int) pa_nil))))) (pa_cons pe_str pa_nil))))) pss_nil) (pss_one (ps_ret (pe_tup (pa_cons (pe_tup (pa_cons pe_str (pa_cons (pv 5) (pa_cons (pe_op op_sub (pe_op op_mul pe_int (pe_op op_add (pv 6) (pv 7))) (pe_op op_mod (pv 9) pe_int)) (pa_cons (pe_op op_add pe_int (pe_op op_mod (pv 9) pe_int)) pa_nil))))) (pa_cons pe_str pa_nil)))))) pss_nil) (pss_cons (ps_if (pt_cmpR op_eq (pv 8) pe_int (nomark _)) (pss_one (ps_ret (pe_tup (pa_cons (pe_tup (pa_cons pe_str (pa_cons (pv 5) (pa_cons (pe_op op_sub (pe_op op_mul pe_int (pe_op op_add (pv 6) (pv 7))) (pe_op op_mod (pv 9) pe_int)) (pa_cons (pe_lst (pa_cons pe_int (pa_cons pe_int (pa_cons pe_int (pa_cons pe_int pa_nil))))) pa_nil))))) (pa_cons pe_str pa_nil))))) pss_nil) (pss_one (ps_ret (pe_tup (pa_cons (pe_tup (pa_cons pe_str (pa_cons (pv 5) (pa_cons (pe_ix ix_list (pe_lst (pa_cons (pv 5) (pa_cons (pe_ix ix_tup (pv 2) pe_int (fun _ _ => rfl)) pa_nil))) (pe_op op_mod (pv 9) pe_int) (fun _ _ => rfl)) pa_nil)))) (pa_cons pe_str pa_nil))))))))))))))))))))), ?_⟩)
  obtain ⟨v0, v1, v2, v3, v4, rfl, h⟩ := h
  dsimp only [cxOf, L2.start]
  obtain ⟨c, T1, T2, t1, p1, n1, t2, p2, n2, free, no, rfl, rfl, rfl, rfl, rfl, hT1, hT2, ⟨b1, b2, b3, b4, b5, b6, b7, b8, b9, b10⟩, k⟩ := h
  have hT1 : H T1 = some (.tup [.int t1, .int p1, .int n1]) := hT1
  have hT2 : H T2 = some (.tup [.int t2, .int p2, .int n2]) := hT2
  have O0 := Own.start (H := H)
  walk_at "s"
  -- 0
  refine if_ii (fun h => ?_) (fun h0 => ?_)
  · walk_at "s"
    intro l hl
    have O1 := O0.new (o := .lst [.int (-1), .int 0, .int (8 * p1)]) hl
    obtain ⟨y, hat, hy⟩ := at3i (a := -1) (b := 0) (c := 8 * p1) (n := c / 14 % 3) (by omega) (by omega)
    walk_at "s"
    intro T hT
    have O2 := O1.newT (o := .tup [.str "peek", .int no, .int y, .int (c / 14 % 3)]) hT
    walk_at "s"
    intro B hB
    have O3 := O2.newT (o := .tup [.ref T, .str "NoTask"]) hB
    exact k _ T B T (.peek no y (c / 14 % 3)) .noTask (O3.drop (List.nil_sublist _)) (tup2 hB) upd_same (fun w tot sh hno => sem_peek0 hno)
  walk_at "s"
  -- 1
  refine if_ii (fun h => ?_) (fun h1 => ?_)
  · walk_at "s"
    intro Ta hTa
    have O1 := O0.new (o := .tup [.str "map", .int no, .int (-1), .int 0]) hTa
    walk_at "s"
    intro Tb hTb
    have O2 := O1.new (o := .tup [.str "drop", .int no, .int 0, .int 1]) hTb
    walk_at "s"
    intro b hb
    have O3 := O2.new (o := .lst (([1] : List Int).map V.int)) hb
    walk_at "s"
    intro Tc hTc
    have O4 := O3.new (o := .tup [.str "poke", .int no, .int (8 * p1), .ref b]) hTc
    walk_at "s"
    intro Td hTd
    have O5 := O4.new (o := .tup [.str "close", .int no]) hTd
    walk_at "s"
    intro l hl
    have O6 := O5.new (o := .lst [.ref Ta, .ref Tb, .ref Tc, .ref Td]) hl
    obtain ⟨y, hat, hy⟩ := at4v (a := V.ref Ta) (b := .ref Tb) (c := .ref Tc) (d := .ref Td) (n := c / 14 % 4) (by omega) (by omega)
    walk_at "s"
    intro B hB
    have O7 := O6.new (o := .tup [y, .str "NoTask"]) hB
    rcases hy with rfl | rfl | rfl | rfl
    · exact k _ Ta B Ta (.map no (-1) 0) .noTask (O7.drop (List.nil_sublist _)) (O7.get (.tail _ (.tail _ (.tail _ (.tail _ (.tail _ (.tail _ (.head _)))))))) upd_same (fun w tot sh hno => sem_map0 hno)
    · exact k _ Tb B Tb (.drop no 0 1) .noTask (O7.drop (List.nil_sublist _)) (O7.get (.tail _ (.tail _ (.tail _ (.tail _ (.tail _ (.head _))))))) upd_same (fun w tot sh hno => sem_drop0 hno)
    · exact k _ Tc B b (.poke no (8 * p1) [1]) .noTask (O7.drop (.cons _ (.cons _ (.cons _ (.cons _ (.cons₂ _ (List.nil_sublist _))))))) (O7.get (.tail _ (.tail _ (.tail _ (.head _))))) upd_same (fun w tot sh hno => sem_poke0 hno)
    · exact k _ Td B Td (.close no) .noTask (O7.drop (List.nil_sublist _)) (O7.get (.tail _ (.tail _ (.head _)))) upd_same (fun w tot sh hno => sem_close0 hno)
  walk_at "s"
  -- 2
  refine if_ii (fun h => ?_) (fun h2 => ?_)
  · walk_at "s"
    intro l hl
    have O1 := O0.new (o := .lst [.int no, .int t2]) hl
    obtain ⟨y, hat, hy⟩ := at2i (a := no) (b := t2) (n := c / 14 % 2) (by omega) (by omega)
    walk_at "s"
    intro T hT
    have O2 := O1.newT (o := .tup [.str "copy", .int no, .int y]) hT
    walk_at "s"
    intro B hB
    have O3 := O2.newT (o := .tup [.ref T, .str "NoTask"]) hB
    exact k _ T B T (.copy no y) .noTask (O3.drop (List.nil_sublist _)) (tup2 hB) upd_same (fun w tot sh hno => sem_copy0 hno)
  walk_at "s"
  -- 3
  refine if_ii (fun h => ?_) (fun h3 => ?_)
  · walk_at "s"
    intro l hl
    have O1 := O0.new (o := .lst [.int 0, .int (-1), .int (-(10 ^ Int.toNat 50))]) hl
    obtain ⟨y, hat, hy⟩ := at3i (a := 0) (b := -1) (c := -(10 ^ Int.toNat 50)) (n := c / 14 % 3) (by omega) (by omega)
    have hy1 : y < 1 := by
      have : -(10 ^ Int.toNat 50) < (1 : Int) := by decide
      omega
    walk_at "s"
    intro T hT
    have O2 := O1.newT (o := .tup [.str "map", .int t1, .int p1, .int y]) hT
    walk_at "s"
    intro B hB
    have O3 := O2.newT (o := .tup [.ref T, .str "NoPage"]) hB
    exact k _ T B T (.map t1 p1 y) .noPage (O3.drop (List.nil_sublist _)) (tup2 hB) upd_same (fun w tot sh hno => sh.map_page (.inl hy1))
  walk_at "s"
  -- 4
  refine if_ii (fun h => ?_) (fun h4 => ?_)
  · walk_at "s"
    refine ask1 ⟨_, rfl, fun H3 f O3 hf => ?_⟩
    have hT13 := O3.tp _ _ hT1
    walk_at "s"
    intro l hl
    have O4 := O3.new (o := .lst [.int (-1), .int f, .int (64 - n1)]) hl
    obtain ⟨g, hat, hg⟩ := at3i (a := -1) (b := f) (c := 64 - n1) (n := c / 14 % 3) (by omega) (by omega)
    walk_at "s"
    intro l2 hl2
    have O5 := O4.new (o := .lst [.int (n1 + 1), .int 1, .int (n1 + 1)]) hl2
    obtain ⟨y, hat2, hy⟩ := at3i (a := n1 + 1) (b := 1) (c := n1 + 1) (n := c / 14 % 3) (by omega) (by omega)
    walk_at "s"
    intro T hT
    have O6 := O5.newT (o := .tup [.str "map", .int t1, .int g, .int y]) hT
    walk_at "s"
    intro B hB
    have O7 := O6.newT (o := .tup [.ref T, .str "NoPage"]) hB
    exact k _ T B T (.map t1 g y) .noPage (O7.drop (List.nil_sublist _)) (tup2 hB) upd_same (fun w tot sh hno => sh.map_page (by omega))
  walk_at "s"
  -- 5
  refine if_ii (fun h => ?_) (fun h5 => ?_)
  · walk_at "s"
    intro T hT
    have O2 := O0.newT (o := .tup [.str "map", .int t1, .int (p1 + n1 - 1), .int (1 + c / 14 % 3)]) hT
    walk_at "s"
    intro B hB
    have O3 := O2.newT (o := .tup [.ref T, .str "Taken"]) hB
    exact k _ T B T (.map t1 (p1 + n1 - 1) (1 + c / 14 % 3)) .taken (O3.drop (List.nil_sublist _)) (tup2 hB) upd_same (fun w tot sh hno => sh.map_taken (by omega) (k := p1 + n1 - 1) (by omega) (by omega) (by omega))
  walk_at "s"
  -- 6
  refine if_ii (fun h => ?_) (fun h6 => ?_)
  · walk_at "s"
    intro T hT
    have O2 := O0.newT (o := .tup [.str "map", .int t1, .int 0, .int (p1 + 1)]) hT
    walk_at "s"
    intro B hB
    have O3 := O2.newT (o := .tup [.ref T, .str "Taken"]) hB
    exact k _ T B T (.map t1 0 (p1 + 1)) .taken (O3.drop (List.nil_sublist _)) (tup2 hB) upd_same (fun w tot sh hno => sh.map_taken (by omega) (k := p1) (by omega) (by omega) (by omega))
  walk_at "s"
  -- 7
  refine if_ii (fun h => ?_) (fun h7 => ?_)
  · walk_at "s"
    intro T hT
    have O2 := O0.newT (o := .tup [.str "map", .int t1, .int (p1 + n1), .int (free + 1)]) hT
    walk_at "s"
    intro B hB
    have O3 := O2.newT (o := .tup [.ref T, .str "NoRoom"]) hB
    exact k _ T B T (.map t1 (p1 + n1) (free + 1)) .noRoom (O3.drop (List.nil_sublist _)) (tup2 hB) upd_same (fun w tot sh hno => sh.map_room (by omega) (by omega) (by omega))
  walk_at "s"
  -- 8
  refine if_ii (fun h => ?_) (fun h8 => ?_)
  · walk_at "s"
    intro l hl
    have O1 := O0.new (o := .lst [.int (n1 + 1), .int 0, .int (-1), .int (10 ^ Int.toNat 55)]) hl
    obtain ⟨y, hat, hy⟩ := at4i (a := n1 + 1) (b := 0) (c := -1) (d := 10 ^ Int.toNat 55) (n := c / 14 % 4) (by omega) (by omega)
    have hy1 : y = n1 + 1 ∨ y < 1 ∨ y > 64 := by
      have : 10 ^ Int.toNat 55 > (64 : Int) := by decide
      omega
    walk_at "s"
    intro T hT
    have O2 := O1.newT (o := .tup [.str "drop", .int t1, .int p1, .int y]) hT
    walk_at "s"
    intro B hB
    have O3 := O2.newT (o := .tup [.ref T, .str "NoPage"]) hB
    refine k _ T B T (.drop t1 p1 y) .noPage (O3.drop (List.nil_sublist _)) (tup2 hB) upd_same (fun w tot sh hno => sh.drop_page ?_)
    rcases hy1 with e | e | e
    · exact .inr ⟨p1 + n1, by omega, by omega, by omega⟩
    · exact .inl (by omega)
    · exact .inl (by omega)
  walk_at "s"
  -- 9
  refine if_ii (fun h => ?_) (fun h9 => ?_)
  · walk_at "s"
    refine ask1 ⟨_, rfl, fun H3 f O3 hf => ?_⟩
    have hT13 := O3.tp _ _ hT1
    walk_at "s"
    intro l hl
    have O4 := O3.new (o := .lst [.int (p1 - 1), .int (p1 + n1), .int f]) hl
    obtain ⟨g, hat, hg⟩ := at3i (a := p1 - 1) (b := p1 + n1) (c := f) (n := c / 14 % 3) (by omega) (by omega)
    walk_at "s"
    intro T hT
    have O6 := O4.newT (o := .tup [.str "drop", .int t1, .int g, .int (1 + c / 14 % 2)]) hT
    walk_at "s"
    intro B hB
    have O7 := O6.newT (o := .tup [.ref T, .str "NoPage"]) hB
    refine k _ T B T (.drop t1 g (1 + c / 14 % 2)) .noPage (O7.drop (List.nil_sublist _)) (tup2 hB) upd_same (fun w tot sh hno => sh.drop_page ?_)
    rcases hg with ⟨_, e⟩ | ⟨_, e⟩ | ⟨_, e⟩
    · exact .inr ⟨g, by omega, by omega, by omega⟩
    · exact .inr ⟨g, by omega, by omega, by omega⟩
    · exact .inl (by omega)
  walk_at "s"
  -- 10
  refine if_ii (fun h => ?_) (fun h10 => ?_)
  · walk_at "s"
    intro T hT
    have O2 := O0.newT (o := .tup [.str "peek", .int t1, .int (8 * p1 - 1), .int (1 + c / 14 % 9)]) hT
    walk_at "s"
    intro B hB
    have O3 := O2.newT (o := .tup [.ref T, .str "NoPage"]) hB
    exact k _ T B T (.peek t1 (8 * p1 - 1) (1 + c / 14 % 9)) .noPage (O3.drop (List.nil_sublist _)) (tup2 hB) upd_same (fun w tot sh hno => sh.peek_page (.inr ⟨0, by omega, by omega⟩))
  walk_at "s"
  -- 11
  refine if_ii (fun h => ?_) (fun h11 => ?_)
  · walk_at "s"
    refine if_ii (fun h => ?_) (fun h => ?_)
    · walk_at "s"
      intro T hT
      have O2 := O0.newT (o := .tup [.str "peek", .int t1, .int (8 * p1), .int (-1)]) hT
      walk_at "s"
      intro B hB
      have O3 := O2.newT (o := .tup [.ref T, .str "NoPage"]) hB
      exact k _ T B T (.peek t1 (8 * p1) (-1)) .noPage (O3.drop (List.nil_sublist _)) (tup2 hB) upd_same (fun w tot sh hno => sh.peek_page (.inl (by decide)))
    · walk_at "s"
      intro T hT
      have O2 := O0.newT (o := .tup [.str "peek", .int t1, .int (8 * (p1 + n1) - c / 14 % 8), .int (9 + c / 14 % 8)]) hT
      walk_at "s"
      intro B hB
      have O3 := O2.newT (o := .tup [.ref T, .str "NoPage"]) hB
      exact k _ T B T (.peek t1 (8 * (p1 + n1) - c / 14 % 8) (9 + c / 14 % 8)) .noPage (O3.drop (List.nil_sublist _)) (tup2 hB) upd_same (fun w tot sh hno => sh.peek_page (.inr ⟨(c / 14 % 8).toNat, by omega, by omega⟩))
  walk_at "s"
  -- 12
  refine if_ii (fun h => ?_) (fun h12 => ?_)
  · walk_at "s"
    intro b hb
    have O1 := O0.new (o := .lst (([5, 6, 7, 8] : List Int).map V.int)) hb
    walk_at "s"
    intro T hT
    have O2 := O1.newT (o := .tup [.str "poke", .int t1, .int (8 * (p1 + n1) - c / 14 % 3), .ref b]) hT
    walk_at "s"
    intro B hB
    have O3 := O2.newT (o := .tup [.ref T, .str "NoPage"]) hB
    exact k _ T B b (.poke t1 (8 * (p1 + n1) - c / 14 % 3) [5, 6, 7, 8]) .noPage O3 (tup2 hB) upd_same (fun w tot sh hno => sh.poke_page ⟨(c / 14 % 3).toNat, by simp only [List.length_cons, List.length_nil]; omega, by omega⟩)
  walk_at "s"
  -- 13
  intro l hl
  have O1 := O0.new (o := .lst [.int t1, .int t2]) hl
  obtain ⟨y, hat, hy⟩ := at2i (a := t1) (b := t2) (n := c / 14 % 2) (by omega) (by omega)
  walk_at "s"
  intro T hT
  have O2 := O1.newT (o := .tup [.str "copy", .int t1, .int y]) hT
  walk_at "s"
  intro B hB
  have O3 := O2.newT (o := .tup [.ref T, .str "Taken"]) hB
  refine k _ T B T (.copy t1 y) .taken (O3.drop (List.nil_sublist _)) (tup2 hB) upd_same (fun w tot sh hno => ?_)
  obtain ⟨r1, hr1, _⟩ := sh.r1
  obtain ⟨r2, hr2, _⟩ := sh.r2
  rw [sem_copy1 hr1, if_pos (by rcases hy with ⟨_, rfl⟩ | ⟨_, rfl⟩; rw [hr1]; rfl; rw [hr2]; rfl)]

def sp_law (K : PySem.W.Frag) : Sp := sp1 fun x H Q _ => ∃ (a : Addr) (xs : List Int), x = .ref a ∧ SqL K H a (xs.map V.int) ∧ xs.length ≤ 63 ∧ ∀ H', Q (.bl true) H'
theorem law_in {K : PySem.W.Frag} (H : Hp) (a : Addr) (ns : List Int) (hl : ns.length ≤ 63) (hz : ∀ z ∈ ns, Builtin.Int.intBits z ≤ 1048576) (hS : SqL K H a (ns.map V.int)) :
    ∃ (a' : Addr) (xs : List Int), V.ref a = .ref a' ∧ SqL K H a' (xs.map V.int) ∧ xs.length ≤ 63 ∧ ∀ H' : Hp, (fun (v : V) (_ : Hp) => v = .bl true) (.bl true) H' := ⟨a, ns, rfl, hS, hl, fun _ => rfl⟩
/-! ### lists of rows, compared -/
theorem dpa_rows {K : PySem.W.Frag} {H : Hp} : ∀ {rs : List Pg}, (∀ r ∈ rs, H r.1 = some (.lst (r.2.map V.int))) → DpAll K H (rs.map fun x => V.ref x.1) (rs.map fun x => PyData.list (x.2.map PyData.int))
  | [], _ => .nil
  | r :: q, h => .cons (dp_ints (h r (.head _))) (dpa_rows fun x hx => h x (.tail _ hx))
theorem depth_rows : ∀ rs : List Pg, PyData.depthAll (rs.map fun x => PyData.list (x.2.map PyData.int)) ≤ 2
  | [] => by simp [PyData.depthAll]
  | r :: q => by
    have h1 := depth_rows q
    have h2 := depth_ints r.2
    simp only [List.map_cons, PyData.depthAll, PyData.depth]
    omega
theorem lay_rows : ∀ rs : List Pg, PyData.canLayAll0 (rs.map fun x => PyData.list (x.2.map PyData.int)) = true
  | [] => by simp [PyData.canLayAll0]
  | r :: q => by simp [PyData.canLayAll0, PyData.canLay0, lay_rows q, lay_ints r.2]
theorem eqvAll_rows : ∀ rs qs : List Pg, rs.map (·.2) = qs.map (·.2) → PyData.eqvAll (rs.map fun x => PyData.list (x.2.map PyData.int)) (qs.map fun x => PyData.list (x.2.map PyData.int)) = true
  | [], [], _ => rfl
  | [], _ :: _, h => by cases h
  | _ :: _, [], h => by cases h
  | r :: q, s :: u, h => by
    obtain ⟨h1, h2⟩ := List.cons.inj h
    have h1 : r.2 = s.2 := h1
    rw [List.map_cons, List.map_cons, PyData.eqvAll, eqvAll_rows q u h2, Bool.and_true, h1, eqv_ints]
    exact decide_eq_true rfl
theorem sh_stt (n : Int) (rs : List Pg) : SeqAt.shaped (.list (.int n :: rs.map fun x => PyData.list (x.2.map PyData.int))) = true := by
  have h1 := depth_rows rs
  have h2 : PyData.depth (.list (.int n :: rs.map fun x => PyData.list (x.2.map PyData.int))) ≤ 64 := by
    simp only [PyData.depth, PyData.depthAll]
    omega
  show (PyData.canLay0 (.list (.int n :: rs.map fun x => PyData.list (x.2.map PyData.int))) && decide _) = true
  rw [Bool.and_eq_true]
  exact ⟨by simp only [PyData.canLay0, PyData.canLayAll0, Bool.true_and]; exact lay_rows rs, decide_eq_true h2⟩
theorem ne_stt {K : PySem.W.Frag} {H : Hp} {a b : Addr} {n : Int} {rs qs : List Pg} {Q : VK} (ha : ∀ e ∈ cStt a n rs, H e.1 = some e.2) (hb : ∀ e ∈ cStt b n qs, H e.1 = some e.2) (he : rs.map (·.2) = qs.map (·.2)) (k : Q (.bl false) H) : rNeD K (.ref a) (.ref b) H Q := by
  refine ⟨_, _, .lst (SqL.of (ha _ (.head _))) (.cons (.int n) (dpa_rows fun r hr => ha _ (.tail _ (List.mem_map.mpr ⟨r, hr, rfl⟩)))), .lst (SqL.of (hb _ (.head _))) (.cons (.int n) (dpa_rows fun r hr => hb _ (.tail _ (List.mem_map.mpr ⟨r, hr, rfl⟩)))), sh_stt n rs, sh_stt n qs, ?_⟩
  have e : PyData.eqv (.list (.int n :: rs.map fun x => PyData.list (x.2.map PyData.int))) (.list (.int n :: qs.map fun x => PyData.list (x.2.map PyData.int))) = true := by
    show PyData.eqvAll _ _ = true
    rw [PyData.eqvAll, eqvAll_rows rs qs he, Bool.and_true]
    show (n == n) = true
    simp
  rw [e]
  exact k
/-! ### the rooms at first -/
def rm21 (s : Spt) : ARm := pokeR (mapR [] (pgs s.2.1 s.2.2.toNat)) (8 * s.2.1) [s.2.1 + 1, s.2.2, 200]
def w21 (s1 s2 : Spt) (j : Nat) : AWl := ([s1, s2].take j).map fun s => (s.1, rm21 s)
theorem rm21_keys (s : Spt) : (rm21 s).map (·.1) = pgs s.2.1 s.2.2.toNat := by
  unfold rm21
  rw [pokeR_keys, mapR_keys]
theorem rm21_some {s : Spt} (h : 0 ≤ s.2.2) (k : Int) : ((rm21 s).lookup k).isSome = decide (s.2.1 ≤ k ∧ k < s.2.1 + s.2.2) := by
  have h1 : ((rm21 s).lookup k).isSome = true ↔ (s.2.1 ≤ k ∧ k < s.2.1 + s.2.2) := by
    rw [lk_some, rm21_keys, pgs_mem, Int.toNat_of_nonneg h]
  by_cases e : s.2.1 ≤ k ∧ k < s.2.1 + s.2.2
  · rw [decide_eq_true e]; exact h1.mpr e
  · rw [decide_eq_false e]; exact Bool.eq_false_iff.mpr fun z => e (h1.mp z)
theorem rm21_ok {s : Spt} (h0 : 0 ≤ s.2.1) (h1 : 1 ≤ s.2.2) (h2 : s.2.1 + s.2.2 ≤ 64) : ROk (rm21 s) := (ROk.nil.map (p := s.2.1) (n := s.2.2) (pgs_ok h0 h2 h1) (anyP_no fun _ _ => rfl)).poke _ _
theorem rm21_len {s : Spt} (h : 0 ≤ s.2.2) : ((rm21 s).length : Int) = s.2.2 := by
  have := congrArg List.length (rm21_keys s)
  rw [List.length_map, pgs_len] at this
  omega
/-- one room more is begun, mapped and poked -/
theorem made21 {w : AWl} {s : Spt} (nd : (w.map (·.1)).Nodup) (hno : w.lookup s.1 = none) (h0 : 0 ≤ s.2.1) (h1 : 1 ≤ s.2.2) (h2 : s.2.1 + s.2.2 ≤ 64) {tot : Int} (ht : heldA w + s.2.2 ≤ tot) :
    sem tot w (.begin s.1) = .ok (w ++ [(s.1, [])], none) ∧ sem tot (w ++ [(s.1, [])]) (.map s.1 s.2.1 s.2.2) = .ok (w ++ [(s.1, mapR [] (pgs s.2.1 s.2.2.toNat))], none) ∧ sem tot (w ++ [(s.1, mapR [] (pgs s.2.1 s.2.2.toNat))]) (.poke s.1 (8 * s.2.1) [s.2.1 + 1, s.2.2, 200]) = .ok (w ++ [(s.1, rm21 s)], none) := by
  have nd2 : ∀ r : ARm, ((w ++ (s.1, r) :: []).map (·.1)).Nodup := fun r => by
    rw [List.map_append]
    refine List.nodup_append.mpr ⟨nd, List.nodup_cons.mpr ⟨List.not_mem_nil, List.nodup_nil⟩, fun a ha b hb e => ?_⟩
    rw [List.mem_singleton.mp hb] at e
    subst e
    exact lk_none.mp hno ha
  have lk : ∀ r : ARm, (w ++ [(s.1, r)]).lookup s.1 = some r := fun r => lk_nd (nd2 r) (List.mem_append_right _ (.head _))
  refine ⟨sem_begin0 hno, ?_, ?_⟩
  · rw [sem_map1 (lk []), if_neg (pgs_ok h0 h2 h1), if_neg (anyP_no fun _ _ => rfl), if_neg (by
      rw [heldA_app, heldA_cons]
      show ¬ heldA w + ((0 : Nat) + 0) + s.2.2 > tot
      omega)]
    exact congrArg (fun z => Except.ok (z, none)) (setA_mid (nd2 []))
  · rw [sem_poke1 (lk _), if_neg (by unfold badA; rw [decide_eq_true_eq]; simp only [List.length_cons, List.length_nil]; omega), if_pos (allA_yes fun i hi => ?_)]
    · exact congrArg (fun z => Except.ok (z, none)) (setA_mid (nd2 _))
    · simp only [List.length_cons, List.length_nil] at hi
      rw [lk_some, mapR_keys, pgs_mem]
      omega
theorem at4_tasks {u v : Int} (h1 : 3 ≤ u) (h2 : u ≤ 11) (h3 : 12 ≤ v) {i : Int} (h0 : 0 ≤ i) (h4 : i < 4) : ∃ t : Int, atI ([1, 2, u, v].map V.int) i = some (.int t) ∧ (i = 0 ∧ t = 1 ∨ i = 1 ∧ t = 2 ∨ i = 2 ∧ t = u ∨ i = 3 ∧ t = v) := at4i h0 h4
theorem adrL {X Y : Cells} {a : Addr} (h : a ∈ Ow.adr X) : a ∈ Ow.adr (X ++ Y) := by rw [Ow.adr_app]; exact List.mem_append_left _ h
theorem adrR {X Y : Cells} {a : Addr} (h : a ∈ Ow.adr Y) : a ∈ Ow.adr (X ++ Y) := by rw [Ow.adr_app]; exact List.mem_append_right _ h
theorem sc_law : FnScope ["_law_script", "_law_first", "_law_tasks_here", "_law_one", "_law_other", "_law_free", "_law_rooms", "_law_task", "_law_page", "_law_many", "_law_state_here", "_law_k", "_law_cell", "_law_bad_here", "_law_word_here"] ["_law_script"] (defScope s_law) := ⟨rfl, rfl, rfl, by decide +kernel, rfl, by decide +kernel, by decide +kernel⟩
theorem ok_law {P : Program} {w : World} {K : PySem.W.Frag} {mg : Str → Option Value} {base : Heap} (T : Txt K mg) {fd : FuncData} (F : FunD K "law" "law" (defArgs s_law) (defBody s_law) (defScope s_law) [] [] (He.fAd K ("law", none)) fd) : FnOk P w K mg base (L2N.CX P w) 7 (He.fAd K ("law", none)) fd ["_law_script"] (bx (sp_law K)) := by
  have c__law_tasks : Cee P w K mg base 1 (He.fAd K ("_law_tasks", none)) ["_law_cell"] (sp__law_tasks K) := ok__law_tasks T
  have c_PlainRooms___init__ : Cee P w K mg base 1 (He.fAd K ("PlainRooms", some "__init__")) ["self", "total"] (sp_PlainRooms___init__ K) := ok_PlainRooms___init__ T
  have c_PlainRooms_begin : Cee P w K mg base 1 (He.fAd K ("PlainRooms", some "begin")) ["self", "task"] (sp_PlainRooms_begin K) := ok_PlainRooms_begin T
  have c_PlainRooms_map : Cee P w K mg base 3 (He.fAd K ("PlainRooms", some "map")) ["self", "task", "page", "many"] (sp_PlainRooms_map K) := ok_PlainRooms_map T
  have c_PlainRooms_poke : Cee P w K mg base 3 (He.fAd K ("PlainRooms", some "poke")) ["self", "task", "address", "cells"] (sp_PlainRooms_poke K) := ok_PlainRooms_poke T
  have c__law_state : Cee P w K mg base 4 (He.fAd K ("_law_state", none)) ["_law_rooms", "_law_shape"] (sp__law_state K) := ok__law_state T
  have c__law_small : Cee P w K mg base 6 (He.fAd K ("_law_small", none)) ["_law_total", "_law_task"] (sp__law_small K) := ok__law_small T
  have c__law_bad : Cee P w K mg base 2 (He.fAd K ("_law_bad", none)) ["_law_rest", "_law_one", "_law_other", "_law_free", "_law_none"] (sp__law_bad K) := ok__law_bad T
  have c__law_number : Cee P w K mg base 1 (He.fAd K ("_law_number", none)) ["_law_cell", "_law_k", "_law_digits"] (sp__law_number K) := ok__law_number T
  have c__law_told : Cee P w K mg base 5 (He.fAd K ("_law_told", none)) ["_law_rooms", "_law_deed"] (sp__law_told K) := ok__law_told T
  have c__law_no_cells : Cee P w K mg base 6 (He.fAd K ("_law_no_cells", none)) ["_law_rooms", "_law_one", "_law_rest"] (sp__law_no_cells K) := ok__law_no_cells T
  have c__law_full : Cee P w K mg base 6 (He.fAd K ("_law_full", none)) ["_law_rooms", "_law_one", "_law_free", "_law_extra"] (sp__law_full K) := ok__law_full T
  have c_PlainRooms_close : Cee P w K mg base 2 (He.fAd K ("PlainRooms", some "close")) ["self", "task"] (sp_PlainRooms_close K) := ok_PlainRooms_close T
  have c_PlainRooms_held : Cee P w K mg base 1 (He.fAd K ("PlainRooms", some "held")) ["self"] (sp_PlainRooms_held K) := ok_PlainRooms_held T
  refine fn_of F sc_law (fun vs H Q E h => sp1_len h) (fun cdv A outer s H vs Q E hr h => ⟨_, (pss_cons (ps_set (i := 1) sc_law.nd rfl (Or.inl rfl) (pe_callB (cr_sum rfl) (by rfl) T.n_sum (by decide +kernel) (pa_cons (pe_slice sl_list (pv 0) po_none (po_some pe_int)) pa_nil))) (pss_cons (ps_set (i := 2) sc_law.nd rfl (Or.inl rfl) (pe_f c__law_tasks (hr.mono (by decide)) (L2N.takes_of rfl rfl rfl rfl) (by rfl) T.g__law_tasks (pa_cons (pe_op op_fdiv (pv 1) pe_int) pa_nil))) (pss_cons (ps_set (i := 3) sc_law.nd rfl (Or.inl rfl) (pe_tup (pa_cons (pe_ix ix_list (pv 2) (pe_op op_mod (pv 1) pe_int) (fun _ _ => rfl)) (pa_cons (pe_op op_add pe_int (pe_op op_mod (pe_op op_fdiv (pv 1) pe_int) pe_int)) (pa_cons (pe_op op_add pe_int (pe_op op_mod (pe_op op_fdiv (pv 1) pe_int) pe_int)) pa_nil))))) (pss_cons (ps_set (i := 4) sc_law.nd rfl (Or.inl rfl) (pe_tup (pa_cons (pe_ix ix_list (pv 2) (pe_op op_mod (pe_op op_add (pv 1) pe_int) pe_int) (fun _ _ => rfl)) (pa_cons (pe_op op_mod (pe_op op_fdiv (pv 1) pe_int) pe_int) (pa_cons (pe_op op_add pe_int (pe_op op_mod (pe_op op_fdiv (pv 1) pe_int) pe_int)) pa_nil))))) (pss_cons (ps_set (i := 5) sc_law.nd rfl (Or.inl rfl) (pe_op op_mod (pe_op op_fdiv (pv 1) pe_int) pe_int)) (pss_cons (ps_set (i := 6) sc_law.nd rfl (Or.inl rfl) (pe_n T.m_PlainRooms c_PlainRooms___init__ (hr.mono (by decide)) (by rfl) T.g_PlainRooms (pa_cons (pe_op op_add (pe_op op_add (pe_ix ix_tup (pv 3) pe_int (fun _ _ => rfl)) (pe_ix ix_tup (pv 4) pe_int (fun _ _ => rfl))) (pv 5)) pa_nil))) (pss_cons (ps_for (passes_of rfl) rfl (PI.box (pi_list (pe_lst (pa_cons (pv 3) (pa_cons (pv 4) pa_nil))))) (pg_tup rfl (pgs_cons (pg_name (i := 7) sc_law.nd rfl (Or.inl rfl)) (pgs_cons (pg_name (i := 8) sc_law.nd rfl (Or.inl rfl)) (pgs_cons (pg_name (i := 9) sc_law.nd rfl (Or.inl rfl)) pgs_nil)))) (pss_cons (ps_expr (pe_m (pv 6) T.c_PlainRooms T.m_PlainRooms_begin c_PlainRooms_begin (hr.mono (by decide)) (L2N.takes_of rfl rfl rfl rfl) (pa_cons (pv 7) pa_nil))) (pss_cons (ps_expr (pe_m (pv 6) T.c_PlainRooms T.m_PlainRooms_map c_PlainRooms_map (hr.mono (by decide)) (L2N.takes_of rfl rfl rfl rfl) (pa_cons (pv 7) (pa_cons (pv 8) (pa_cons (pv 9) pa_nil))))) (pss_one (ps_expr (pe_m (pv 6) T.c_PlainRooms T.m_PlainRooms_poke c_PlainRooms_poke (hr.mono (by decide)) (L2N.takes_of rfl rfl rfl rfl) (pa_cons (pv 7) (pa_cons (pe_op op_mul pe_int (pv 8)) (pa_cons (pe_lst (pa_cons (pe_op op_add (pv 8) pe_int) (pa_cons (pv 9) (pa_cons pe_int pa_nil)))) pa_nil))))))))) (pss_cons (ps_set (i := 10) sc_law.nd rfl (Or.inl rfl) (pe_f c__law_state (hr.mono (by decide)) (L2N.takes_of rfl rfl rfl rfl) (by rfl) T.g__law_state (pa_cons (pv 6) (pa_cons (pe_lst (pa_cons (pv 3) (pa_cons (pv 4) pa_nil))) pa_nil)))) (pss_cons (ps_if (pt_not (pt_val (pe_f c__law_small (hr.mono (by decide)) (L2N.takes_of rfl rfl rfl rfl) (by rfl) T.g__law_small (pa_cons (pe_op op_mod (pv 1) pe_int) (pa_cons (pe_ix ix_list (pv 2) (pe_op op_mod (pv 1) pe_int) (fun _ _ => rfl)) pa_nil))))) (pss_one (ps_ret pe_bl)) pss_nil) (pss_cons (ps_for (passes_of rfl) rfl (PI.box (pi_enum (by rfl) T.n_enumerate (pa_cons (pe_slice sl_list (pv 0) po_none (po_some pe_int)) pa_nil))) (pg_tup rfl (pgs_cons (pg_name (i := 11) sc_law.nd rfl (Or.inl rfl)) (pgs_cons (pg_name (i := 12) sc_law.nd rfl (Or.inl rfl)) pgs_nil))) (pss_cons (ps_asg (pe_f c__law_bad (hr.mono (by decide)) (L2N.takes_of rfl rfl rfl rfl) (by rfl) T.g__law_bad (pa_cons (pe_f c__law_number (hr.mono (by decide)) (L2N.takes_of rfl rfl rfl rfl) (by rfl) T.g__law_number (pa_cons (pv 12) (pa_cons (pv 11) (pa_cons (pe_cmpR op_eq (pe_op op_mod (pe_op op_fdiv (pv 1) pe_int) pe_int) pe_int (nomark _)) pa_nil)))) (pa_cons (pv 3) (pa_cons (pv 4) (pa_cons (pv 5) (pa_cons (pe_ix ix_list (pv 2) (pe_op op_mod (pe_op op_add (pv 1) pe_int) pe_int) (fun _ _ => rfl)) pa_nil)))))) (pg_tup rfl (pgs_cons (pg_name (i := 13) sc_law.nd rfl (Or.inl rfl)) (pgs_cons (pg_name (i := 14) sc_law.nd rfl (Or.inl rfl)) pgs_nil)))) (pss_cons (PS.box (ps_if (PW.pt (pw_or (pt_cmpR (op_neD hr.units) (pe_f c__law_told (hr.mono (by decide)) (L2N.takes_of rfl rfl rfl rfl) (by rfl) T.g__law_told (pa_cons (pv 6) (pa_cons (pv 13) pa_nil))) (pe_tup (pa_cons pe_non (pa_cons (pv 14) pa_nil))) (nomark _)) (pw_or1 (pt_not (pt_val (pe_f c__law_no_cells (hr.mono (by decide)) (L2N.takes_of rfl rfl rfl rfl) (by rfl) T.g__law_no_cells (pa_cons (pv 6) (pa_cons (pv 3) (pa_cons (pv 12) pa_nil))))))))) (pss_one (ps_ret pe_bl)) pss_nil)) (pss_one (ps_if (pt_cmpR (op_neD hr.units) (pe_f c__law_state (hr.mono (by decide)) (L2N.takes_of rfl rfl rfl rfl) (by rfl) T.g__law_state (pa_cons (pv 6) (pa_cons (pe_lst (pa_cons (pv 3) (pa_cons (pv 4) pa_nil))) pa_nil))) (pv 10) (nomark _)) (pss_one (ps_ret pe_bl)) pss_nil))))) (pss_cons (PS.box (ps_if (PW.pt (pw_or (pt_not (pt_val (pe_f c__law_full (hr.mono (by decide)) (L2N.takes_of rfl rfl rfl rfl) (by rfl) T.g__law_full (pa_cons (pv 6) (pa_cons (pv 3) (pa_cons (pv 5) (pa_cons (pe_ix ix_list (pv 2) (pe_op op_mod (pe_op op_add (pv 1) pe_int) pe_int) (fun _ _ => rfl)) pa_nil))))))) (pw_or1 (pt_cmpR (op_neD hr.units) (pe_f c__law_state (hr.mono (by decide)) (L2N.takes_of rfl rfl rfl rfl) (by rfl) T.g__law_state (pa_cons (pv 6) (pa_cons (pe_lst (pa_cons (pv 3) (pa_cons (pv 4) pa_nil))) pa_nil))) (pv 10) (nomark _))))) (pss_one (ps_ret pe_bl)) pss_nil)) (pss_cons (PS.box (ps_if (PW.pt (pw_and (pt_cmpR op_gt (pv 5) pe_int (nomark _)) (pw_and (pt_cmpR op_lt (pe_op op_add (pe_ix ix_tup (pv 3) pe_int (fun _ _ => rfl)) (pe_ix ix_tup (pv 3) pe_int (fun _ _ => rfl))) pe_int (nomark _)) (pw_and1 (pt_cmpR (op_neD hr.units) (pe_f c__law_told (hr.mono (by decide)) (L2N.takes_of rfl rfl rfl rfl) (by rfl) T.g__law_told (pa_cons (pv 6) (pa_cons (pe_tup (pa_cons pe_str (pa_cons (pe_ix ix_tup (pv 3) pe_int (fun _ _ => rfl)) (pa_cons (pe_op op_add (pe_ix ix_tup (pv 3) pe_int (fun _ _ => rfl)) (pe_ix ix_tup (pv 3) pe_int (fun _ _ => rfl))) (pa_cons pe_int pa_nil))))) pa_nil))) (pe_tup (pa_cons pe_non (pa_cons pe_str pa_nil))) (nomark _)))))) (pss_one (ps_ret pe_bl)) pss_nil)) (pss_cons (ps_expr (pe_m (pv 6) T.c_PlainRooms T.m_PlainRooms_close c_PlainRooms_close (hr.mono (by decide)) (L2N.takes_of rfl rfl rfl rfl) (pa_cons (pe_ix ix_tup (pv 3) pe_int (fun _ _ => rfl)) pa_nil))) (pss_cons (PS.box (ps_if (PW.pt (pw_or (pt_cmpR op_ne (pe_m0 (pv 6) T.c_PlainRooms T.m_PlainRooms_held c_PlainRooms_held (hr.mono (by decide)) (L2N.takes_of rfl rfl rfl rfl)) (pe_ix ix_tup (pv 4) pe_int (fun _ _ => rfl)) (nomark _)) (pw_or1 (pt_cmpR (op_neD hr.units) (pe_f c__law_told (hr.mono (by decide)) (L2N.takes_of rfl rfl rfl rfl) (by rfl) T.g__law_told (pa_cons (pv 6) (pa_cons (pe_tup (pa_cons pe_str (pa_cons (pe_ix ix_tup (pv 3) pe_int (fun _ _ => rfl)) pa_nil))) pa_nil))) (pe_tup (pa_cons pe_non (pa_cons pe_str pa_nil))) (nomark _))))) (pss_one (ps_ret pe_bl)) pss_nil)) (pss_cons (ps_expr (pe_m (pv 6) T.c_PlainRooms T.m_PlainRooms_begin c_PlainRooms_begin (hr.mono (by decide)) (L2N.takes_of rfl rfl rfl rfl) (pa_cons (pe_ix ix_tup (pv 3) pe_int (fun _ _ => rfl)) pa_nil))) (pss_one (ps_ret (pe_and (pe_cmpR op_eq (pe_m0 (pv 6) T.c_PlainRooms T.m_PlainRooms_held c_PlainRooms_held (hr.mono (by decide)) (L2N.takes_of rfl rfl rfl rfl)) (pe_ix ix_tup (pv 4) pe_int (fun _ _ => rfl)) (nomark _)) (pe_one (pe_cmpR (op_eqD hr.units) (pe_f c__law_told (hr.mono (by decide)) (L2N.takes_of rfl rfl rfl rfl) (by rfl) T.g__law_told (pa_cons (pv 6) (pa_cons (pe_tup (pa_cons pe_str (pa_cons (pe_ix ix_tup (pv 3) pe_int (fun _ _ => rfl)) (pa_cons (pe_op op_mul pe_int (pe_ix ix_tup (pv 3) pe_int (fun _ _ => rfl))) (pa_cons pe_int pa_nil))))) pa_nil))) (pe_tup (pa_cons pe_non (pa_cons pe_str pa_nil))) (nomark _))))))))))))))))))))), ?_⟩)
  obtain ⟨v0, rfl, h⟩ := h
  dsimp only [cxOf, L2.start]
  obtain ⟨a, xs, rfl, ha, hl, k⟩ := h
  have O0 := Own.start (H := H)
  walk_at "s"
  intro c0 hc0
  refine O0.nxt hc0 fun O1 => ?_
  have e1 : cutV (xs.map V.int) none (some 1) = (xs.take 1).map V.int := (cutV_to _ 1).trans (List.map_take).symm
  rw [e1] at O1 ⊢
  refine ⟨c0, xs.take 1, rfl, SqL.of (O1.get (.head _)), ?_⟩
  generalize (xs.take 1).sum = f
  walk_at "s"
  refine ask1 ⟨_, rfl, fun H2 ta u v O2 hu1 hu2 hv => ?_⟩
  have O3 : Own H H2 [] [(ta, .lst ([1, 2, u, v].map V.int))] := (O1.drop (List.nil_sublist _)).callN O2
  clear O1 O2
  obtain ⟨t1, ht1, hc1⟩ := at4_tasks hu1 hu2 hv (i := f % 4) (by omega) (by omega)
  obtain ⟨t2, ht2, hc2⟩ := at4_tasks hu1 hu2 hv (i := (f + 1) % 4) (by omega) (by omega)
  obtain ⟨t3, ht3, hc3⟩ := at4_tasks hu1 hu2 hv (i := (f + 2) % 4) (by omega) (by omega)
  obtain ⟨t4, ht4, hc4⟩ := at4_tasks hu1 hu2 hv (i := (f + 3) % 4) (by omega) (by omega)
  have n12 : t1 ≠ t2 := by omega
  have n31 : t3 ≠ t1 := by omega
  have n32 : t3 ≠ t2 := by omega
  have n41 : t4 ≠ t1 := by omega
  have n42 : t4 ≠ t2 := by omega
  walk_at "s"
  intro T1 hT1
  have O4 := O3.new (o := .tup [.int t1, .int (1 + f / 4 % 50), .int (1 + f / 200 % 5)]) hT1
  walk_at "s"
  intro T2 hT2
  have O5 := O4.new (o := .tup [.int t2, .int (f / 1000 % 60), .int (1 + f / 200 % 3)]) hT2
  obtain ⟨p1, n1, p2, n2, free, hp1, hn1, hp2, hn2, hfree⟩ : ∃ p1 n1 p2 n2 free : Int, 1 + f / 4 % 50 = p1 ∧ 1 + f / 200 % 5 = n1 ∧ f / 1000 % 60 = p2 ∧ 1 + f / 200 % 3 = n2 ∧ f / 7 % 6 = free := ⟨_, _, _, _, _, rfl, rfl, rfl, rfl, rfl⟩
  have bd : Bd21 p1 n1 p2 n2 free := by unfold Bd21; omega
  have hT1 := O5.get (a := T1) (o := .tup [.int t1, .int p1, .int n1]) (by rw [← hp1, ← hn1]; exact .tail _ (.head _))
  have hT2 := O5.get (a := T2) (o := .tup [.int t2, .int p2, .int n2]) (by rw [← hp2, ← hn2]; exact .head _)
  obtain ⟨b1, b2, b3, b4, b5, b6, b7, b8, b9, b10⟩ := id bd
  have O6 : Own H (upd (upd H2 T1 (.tup [.int t1, .int (1 + f / 4 % 50), .int (1 + f / 200 % 5)])) T2 (.tup [.int t2, .int (f / 1000 % 60), .int (1 + f / 200 % 3)])) [] [(ta, .lst ([1, 2, u, v].map V.int))] := O5.drop (.cons _ (.cons _ (.refl _)))
  clear O3 O4 O5
  walk_at "s"
  intro p dp h1 h2 hne
  have O7 := O6.inst (C := He.ga K "PlainRooms") h1 h2 hne
  obtain ⟨tot, htot⟩ : ∃ tot : Int, n1 + n2 + f / 7 % 6 = tot := ⟨_, rfl⟩
  refine ask2 ⟨p, dp, tot, rfl, congrArg V.int htot, O7.blk (s' := []) .one, fun H4 D hO => ?_⟩
  have O8 : Own H H4 [] (cPR K p ⟨dp, D, tot, []⟩ ++ [(ta, .lst ([1, 2, u, v].map V.int))]) := O7.call .one hO
  have S8 := O6.self.inst (C := He.ga K "PlainRooms") h1 h2 hne
  have hT1 := (S8.call (s' := cPR K p ⟨dp, D, tot, []⟩) .one hO).tp _ _ hT1
  have hT2 := (S8.call (s' := cPR K p ⟨dp, D, tot, []⟩) .one hO).tp _ _ hT2
  clear O6 O7 S8 hO
  rw [hfree] at htot
  walk_at "s"
  intro lp hlp
  have O9 := O8.new (o := .lst [.ref T1, .ref T2]) hlp
  have hT1 : SptAt (upd H4 lp (.lst [.ref T1, .ref T2])) T1 (t1, p1, n1) := (O8.self.new (o := .lst [.ref T1, .ref T2]) hlp).tp _ _ hT1
  have hT2 : SptAt (upd H4 lp (.lst [.ref T1, .ref T2])) T2 (t2, p2, n2) := (O8.self.new (o := .lst [.ref T1, .ref T2]) hlp).tp _ _ hT2
  have S9 := O9.self
  generalize hH5 : upd H4 lp (.lst [V.ref T1, V.ref T2]) = H5 at O9 hT1 hT2 S9
  walk_at "s"
  clear O8 hlp
  refine forL (K := K) (a := lp) (xs := [.ref T1, .ref T2]) (fun j σ H' => ∃ (v7 v8 v9 : Option V) (m : PRm), σ = [some (.ref a), some (.int f), some (.ref ta), some (.ref T1), some (.ref T2), some (.int (f / 7 % 6)), some (.ref p), v7, v8, v9, none, none, none, none, none] ∧ Own H5 H' (adr ((lp, .lst [.ref T1, .ref T2]) :: (cPR K p ⟨dp, D, tot, []⟩ ++ [(ta, .lst ([1, 2, u, v].map V.int))]))) ((lp, .lst [.ref T1, .ref T2]) :: (cPR K p m ++ [(ta, .lst ([1, 2, u, v].map V.int))])) ∧ m.total = tot ∧ m.w.abs = w21 (t1, p1, n1) (t2, p2, n2) j) ⟨_, _, _, _, rfl, S9, rfl, rfl⟩ (fun j σ H' _ ⟨_, _, _, _, _, O, _⟩ => SqL.of (O.get (.head _))) ?_ ?_
  · clear O9 S9
    rintro j x σ H6 hx ⟨v7, v8, v9, m, rfl, O10, hmt, hma⟩
    obtain ⟨T, s, rfl, hT, htk, hj2, q0, q1, q2, hno, hnd, hh⟩ : ∃ T s, x = .ref T ∧ SptAt H5 T s ∧ [(t1, p1, n1), (t2, p2, n2)][j]? = some s ∧ j < 2 ∧ 0 ≤ s.2.1 ∧ 1 ≤ s.2.2 ∧ s.2.1 + s.2.2 ≤ 64 ∧ (w21 (t1, p1, n1) (t2, p2, n2) j).lookup s.1 = none ∧ ((w21 (t1, p1, n1) (t2, p2, n2) j).map (·.1)).Nodup ∧ heldA (w21 (t1, p1, n1) (t2, p2, n2) j) + s.2.2 ≤ tot := by
      match j, hx with
      | 0, hx =>
        cases hx
        refine ⟨T1, (t1, p1, n1), rfl, hT1, rfl, by decide, by show 0 ≤ p1; omega, b3, by show p1 + n1 ≤ 64; omega, rfl, List.nodup_nil, ?_⟩
        show ((0 : Nat) : Int) + n1 ≤ tot
        omega
      | 1, hx =>
        cases hx
        refine ⟨T2, (t2, p2, n2), rfl, hT2, rfl, by decide, b5, b7, by show p2 + n2 ≤ 64; omega, ?_, List.nodup_cons.mpr ⟨List.not_mem_nil, List.nodup_nil⟩, ?_⟩
        · exact lk_none.mpr (by show t2 ∉ [t1]; simpa using fun e => n12 e.symm)
        · have := rm21_len (s := (t1, p1, n1)) (show 0 ≤ n1 by omega)
          show (((rm21 (t1, p1, n1)).length + 0 : Nat) : Int) + n2 ≤ tot
          have h3 : ((rm21 (t1, p1, n1)).length : Int) = n1 := this
          omega
    obtain ⟨m1, m2, m3⟩ := made21 (tot := tot) hnd hno q0 q1 q2 hh
    have okj : WOk (w21 (t1, p1, n1) (t2, p2, n2) j) := by
      match j, hj2 with
      | 0, _ => exact WOk.nil
      | 1, _ => exact WOk.nil.snocW rfl (rm21_ok (by show 0 ≤ p1; omega) b3 (by show p1 + n1 ≤ 64; omega)) (by decide)
    have hwn : (w21 (t1, p1, n1) (t2, p2, n2) j).length < 1000 := by unfold w21; rw [List.length_map, List.length_take]; omega
    obtain ⟨t, g, n⟩ := s
    have q0 : 0 ≤ g := q0
    have q1 : 1 ≤ n := q1
    have q2 : g + n ≤ 64 := q2
    have hT6 := O10.tp _ _ hT
    walk_at "s"
    have okm : WOk m.w.abs := by rw [hma]; exact okj
    refine ask2 ⟨p, m, t, rfl, rfl, okm, O10.blk (s' := []) (.there (.appl .all)), ?_⟩
    rw [hmt, hma, m1]
    intro H7 m4 O11 hm4 hw4
    have O12 := O10.call (.there (.appl .all)) O11
    walk_at "s"
    have okm : WOk m4.w.abs := by rw [hw4]; exact okj.snocW hno ROk.nil hwn
    refine ask4 ⟨p, m4, t, g, n, rfl, rfl, rfl, rfl, okm, O12.blk (s' := []) (.there (.appl .all)), ?_⟩
    rw [show m4.total = tot from hm4.trans hmt, hw4, m2]
    intro H8 m5 O13 hm5 hw5
    have O14 := O12.call (.there (.appl .all)) O13
    walk_at "s"
    have okm : WOk m5.w.abs := by
      rw [hw5]
      refine okj.snocW hno ?_ hwn
      exact ROk.nil.map (pgs_ok q0 q2 q1) (anyP_no fun _ _ => rfl)
    intro b hb
    have O15 := O14.new (o := .lst (([g + 1, n, 200] : List Int).map V.int)) hb
    walk_at "s"
    refine ask4 ⟨p, m5, t, 8 * g, b, [g + 1, n, 200], rfl, rfl, rfl, rfl, okm, O15.blk (s' := []) (.there (.there (.appl .all))), O15.get (.head _), fun z => O15.sep (X := [(b, .lst (([g + 1, n, 200] : List Int).map V.int))]) (.head _) (List.mem_cons_of_mem _ (adrL z)), ?_⟩
    rw [show m5.total = tot from hm5.trans (hm4.trans hmt), hw5, m3]
    intro H9 m6 O16 hm6 hw6
    have O17 := (O15.call (.there (.there (.appl .all))) O16).drop (.cons _ (.refl _))
    refine ⟨⟨_, _, _, m6, rfl, O17, hm6.trans (hm5.trans (hm4.trans hmt)), ?_⟩⟩
    rw [hw6]
    unfold w21
    rw [take_succ htk, List.map_append]
    rfl
  rintro σ H6 ⟨v7, v8, v9, m, rfl, O10, hmt, hma⟩
  have hma : m.w.abs = w21 (t1, p1, n1) (t2, p2, n2) 2 := hma
  have hT1 : SptAt H6 T1 (t1, p1, n1) := O10.tp _ _ hT1
  have hT2 : SptAt H6 T2 (t2, p2, n2) := O10.tp _ _ hT2
  have hsh : Sh21 (w21 (t1, p1, n1) (t2, p2, n2) 2) t1 p1 n1 t2 p2 n2 free tot := by
    have l1 := rm21_len (s := (t1, p1, n1)) (show 0 ≤ n1 by omega)
    have l2 := rm21_len (s := (t2, p2, n2)) (show 0 ≤ n2 by omega)
    have h21 : (w21 (t1, p1, n1) (t2, p2, n2) 2) = [(t1, rm21 (t1, p1, n1))] ++ [(t2, rm21 (t2, p2, n2))] := rfl
    have lk2 : [(t1, rm21 (t1, p1, n1))].lookup t2 = none := lk_none.mpr (by show t2 ∉ [t1]; simpa using fun e => n12 e.symm)
    refine ⟨?_, ⟨_, ?_, rm21_some (s := (t1, p1, n1)) (by show 0 ≤ n1; omega)⟩, ⟨_, ?_, rm21_some (s := (t2, p2, n2)) (by show 0 ≤ n2; omega)⟩, n12, ?_, by omega, fun t e1 e2 => ?_⟩
    · refine WOk.snocW (w := [(t1, rm21 (t1, p1, n1))]) ?_ lk2 (rm21_ok (s := (t2, p2, n2)) b5 b7 (by show p2 + n2 ≤ 64; omega)) (show (1 : Nat) < 1000 by decide)
      exact WOk.nil.snocW rfl (rm21_ok (s := (t1, p1, n1)) (by show 0 ≤ p1; omega) b3 (by show p1 + n1 ≤ 64; omega)) (by decide)
    · show List.lookup t1 ((t1, _) :: _) = _
      rw [List.lookup_cons]; simp
    · rw [h21, lk_app, lk2]
      show List.lookup t2 ((t2, _) :: _) = _
      rw [List.lookup_cons]; simp
    · show (((rm21 (t1, p1, n1)).length + ((rm21 (t2, p2, n2)).length + 0) : Nat) : Int) = n1 + n2
      have l1 : ((rm21 (t1, p1, n1)).length : Int) = n1 := l1
      have l2 : ((rm21 (t2, p2, n2)).length : Int) = n2 := l2
      omega
    · exact lk_none.mpr (by show t ∉ [t1, t2]; simp [e1, e2])
  have hin1 : inW (w21 (t1, p1, n1) (t2, p2, n2) 2) (t1, p1, n1) := by
    obtain ⟨r, h3, h4⟩ := hsh.r1
    exact ⟨r, h3, fun k hk => by rw [h4, decide_eq_true_eq]; have : k ∈ pgs p1 n1.toNat := hk; rw [pgs_mem] at this; omega⟩
  have hin2 : inW (w21 (t1, p1, n1) (t2, p2, n2) 2) (t2, p2, n2) := by
    obtain ⟨r, h3, h4⟩ := hsh.r2
    exact ⟨r, h3, fun k hk => by rw [h4, decide_eq_true_eq]; have : k ∈ pgs p2 n2.toNat := hk; rw [pgs_mem] at this; omega⟩
  have hH2 : heldA (w21 (t1, p1, n1) (t2, p2, n2) 2) = n1 + n2 := hsh.held
  generalize hW : w21 (t1, p1, n1) (t2, p2, n2) 2 = W at hma hsh hin1 hin2 hH2
  have okW := hsh.ok
  have O11 : Own H5 H6 (adr ((lp, .lst [.ref T1, .ref T2]) :: (cPR K p ⟨dp, D, tot, []⟩ ++ [(ta, .lst ([1, 2, u, v].map V.int))]))) (cPR K p m ++ [(ta, .lst ([1, 2, u, v].map V.int))]) := O10.drop (.cons _ (.refl _))
  have O12 := O9.call .all O11
  clear O9 O10 O11 S9
  walk_at "s"
  intro l2 hl2
  have O13 := O12.new (o := .lst [.ref T1, .ref T2]) hl2
  have S13 := O12.self.new (o := .lst [.ref T1, .ref T2]) hl2
  walk_at "s"
  refine ask2 ⟨p, m, l2, T1, T2, (t1, p1, n1), (t2, p2, n2), rfl, rfl, by rw [hma]; exact okW, O13.blk (s' := []) (.there (.appl .all)), upd_same, fun z => O13.sep (X := [(l2, .lst [.ref T1, .ref T2])]) (.head _) (adrL z), S13.tp _ _ hT1, S13.tp _ _ hT2, by rw [hma]; exact hin1, by rw [hma]; exact hin2, by show n1 ≤ 64; omega, by show n2 ≤ 64; omega, fun H7 m7 sl rs O14 hm7 hw7 hrs => ?_⟩
  have O15 : Own H H7 [] (cStt sl (heldA m.w.abs) rs ++ (cPR K p m7 ++ [(ta, .lst ([1, 2, u, v].map V.int))])) := (O13.callE (e := cStt sl (heldA m.w.abs) rs) (.there (.appl .all)) O14).drop (.append (.refl _) (.cons _ (.refl _)))
  have S15 := S13.callE (e := cStt sl (heldA m.w.abs) rs) (.there (.appl .all)) O14
  have hT1 : SptAt H7 T1 (t1, p1, n1) := S15.tp _ _ hT1
  have hT2 : SptAt H7 T2 (t2, p2, n2) := S15.tp _ _ hT2
  rw [hma] at O15 hrs
  have hw7 : m7.w.abs = W := hw7.trans hma
  have hm7 : m7.total = tot := hm7.trans hmt
  clear O12 O13 O14 S13 S15 hmt hma
  walk_at "s"
  refine ask2 ⟨f % 2, t1, rfl, rfl, by omega, by omega, fun H8 O16 => ?_⟩
  have O17 := O15.callN O16
  have hT1 : SptAt H8 T1 (t1, p1, n1) := O16.tp _ _ hT1
  have hT2 : SptAt H8 T2 (t2, p2, n2) := O16.tp _ _ hT2
  rw [List.nil_append] at O17
  clear O15 O16
  walk_at "s"
  intro c2 hc2
  have O18 := O17.new (o := .lst (cutV (xs.map V.int) none (some 63))) hc2
  have S18 := O17.self.new (o := .lst (cutV (xs.map V.int) none (some 63))) hc2
  have e63 : cutV (xs.map V.int) none (some 63) = (xs.take 63).map V.int := (cutV_to _ 63).trans (List.map_take).symm
  rw [e63] at O18 S18 ⊢
  have hT1 : SptAt (upd H8 c2 (.lst ((xs.take 63).map V.int))) T1 (t1, p1, n1) := S18.tp _ _ hT1
  have hT2 : SptAt (upd H8 c2 (.lst ((xs.take 63).map V.int))) T2 (t2, p2, n2) := S18.tp _ _ hT2
  have S19 := O18.self
  generalize hH9 : upd H8 c2 (.lst ((xs.take 63).map V.int)) = H9 at O18 hT1 hT2 S19
  clear S18 O17
  walk_at "s"
  refine forW (walk_enum (K := K) (a := c2) (xs := (xs.take 63).map V.int)) (fun j σ H' => ∃ (v7 v8 v9 v11 v12 v13 v14 : Option V) (m : PRm), σ = [some (.ref a), some (.int f), some (.ref ta), some (.ref T1), some (.ref T2), some (.int (f / 7 % 6)), some (.ref p), v7, v8, v9, some (.ref sl), v11, v12, v13, v14] ∧ Own H9 H' (adr ((c2, .lst ((xs.take 63).map V.int)) :: (cStt sl (heldA W) rs ++ (cPR K p m7 ++ [(ta, .lst ([1, 2, u, v].map V.int))])))) ((c2, .lst ((xs.take 63).map V.int)) :: (cStt sl (heldA W) rs ++ (cPR K p m ++ [(ta, .lst ([1, 2, u, v].map V.int))]))) ∧ m.total = tot ∧ m.w.abs = W) ⟨_, _, _, _, _, _, _, m7, rfl, S19, hm7, hw7⟩ (fun j σ H' _ ⟨_, _, _, _, _, _, _, _, _, O, _⟩ => SqL.of (O.get (.head _))) ?_ ?_
  · clear O18 S19 hm7 hw7
    rintro j x σ H2' H3 hj ⟨v7, v8, v9, v11, v12, v13, v14, m, rfl, O10, hmt, hma⟩ ⟨T0, x0, y0, rfl, hT0, rfl, hx0, hy0⟩
    cases hx0
    obtain ⟨cell, _, rfl⟩ := map_get hy0
    have hj63 : j < 63 := by
      rw [List.length_map, List.length_take] at hj
      omega
    have O11 := O10.newT (o := .tup [V.int (j : Nat), V.int cell]) hT0
    have hT01 : (upd H2' T0 (.tup [V.int (j : Nat), V.int cell])) T0 = some (.tup [V.int (j : Nat), V.int cell]) := upd_same
    have hT1' := O11.tp _ _ hT1
    have hT2' := O11.tp _ _ hT2
    walk_at "s"
    refine ask3 ⟨cell, j, _, rfl, rfl, rfl, by omega, by omega, fun nm => ?_⟩
    walk_at "s"
    refine ask5 ⟨nm, T1, T2, t1, p1, n1, t2, p2, n2, free, t3, rfl, rfl, rfl, congrArg V.int hfree, rfl, hT1', hT2', bd, fun H4 T B b d s O12 hT hB hsem => ?_⟩
    have hse := hsem W tot hsh (hsh.only t3 n31 n32)
    have O13 := O11.callN O12
    have okm : WOk m.w.abs := by rw [hma]; exact okW
    walk_at "s"
    walk_at "b"
    refine ask2 ⟨p, m, T, b, d, rfl, rfl, okm, O13.blk (s' := []) (.app (.there (.app (.appl .all)))), ⟨hT, fun e he => ⟨O13.get (List.mem_append_left _ he), fun z => O13.sep (X := d.cel b) (List.mem_map_of_mem he) (List.mem_cons_of_mem _ (adrR (adrL z)))⟩⟩, fun H5 m2 o T3 O14 hm2 hw2 ho hT3 => ?_⟩
    rw [hmt, hma, hse] at hw2 ho hT3
    have hw2 : m2.w.abs = W := hw2
    have hm2 : m2.total = tot := hm2.trans hmt
    cases o with
    | some y => cases ho
    | none =>
    have O15 : Own H9 H5 _ ((c2, .lst ((xs.take 63).map V.int)) :: (cStt sl (heldA W) rs ++ (cPR K p m2 ++ [(ta, .lst ([1, 2, u, v].map V.int))]))) := (O13.callE (e := []) (.app (.there (.app (.appl .all)))) O14).drop (List.sublist_append_right _ _)
    have hT3 : H5 T3 = some (.tup [.non, .str s.name]) := hT3
    walk_at "s"
    intro T4 hT4
    have O16 := O15.newT (o := .tup [.non, .str s.name]) hT4
    have hT34 : (upd H5 T4 (.tup [.non, .str s.name])) T3 = some (.tup [.non, .str s.name]) := by
      rw [upd_ne (fun z => by rw [← z, hT3] at hT4; cases hT4)]
      exact hT3
    refine ne_told hT34 upd_same (name_ok s) (name_ok s) ?_
    rw [decide_eq_true rfl]
    have hT13 : SptAt (upd H5 T4 (.tup [.non, .str s.name])) T1 (t1, p1, n1) := O16.tp _ _ hT1
    have hT23 : SptAt (upd H5 T4 (.tup [.non, .str s.name])) T2 (t2, p2, n2) := O16.tp _ _ hT2
    obtain ⟨r1, hr1, _⟩ := hsh.r1
    walk_at "s"
    refine ask3 ⟨p, m2, T1, (t1, p1, n1), cell, r1, rfl, rfl, rfl, by rw [hw2]; exact okW, O16.blk (s' := []) (.there (.app (.appl .all))), hT13, by rw [hw2]; exact hr1, fun H6 m3 O17 hm3 hw3 => ?_⟩
    have O18 := O16.call (.there (.app (.appl .all))) O17
    have hw3 : m3.w.abs = W := hw3.trans hw2
    have hm3 : m3.total = tot := hm3.trans hm2
    have hT14 := O17.tp _ _ hT13
    have hT24 := O17.tp _ _ hT23
    walk_at "s"
    intro l3 hl3
    have O19 := O18.new (o := .lst [.ref T1, .ref T2]) hl3
    have S19 := O18.self.new (o := .lst [.ref T1, .ref T2]) hl3
    walk_at "s"
    refine ask2 ⟨p, m3, l3, T1, T2, (t1, p1, n1), (t2, p2, n2), rfl, rfl, by rw [hw3]; exact okW, O19.blk (s' := []) (.there (.there (.app (.appl .all)))), upd_same, fun z => O19.sep (X := [(l3, .lst [.ref T1, .ref T2])]) (.head _) (List.mem_cons_of_mem _ (adrR (adrL z))), S19.tp _ _ hT14, S19.tp _ _ hT24, by rw [hw3]; exact hin1, by rw [hw3]; exact hin2, by show n1 ≤ 64; omega, by show n2 ≤ 64; omega, fun H7 m4 sl2 rs2 O20 hm4 hw4 hrs2 => ?_⟩
    have O21 := O19.callE (e := cStt sl2 (heldA m3.w.abs) rs2) (.there (.there (.app (.appl .all)))) O20
    rw [hw3] at O21 hrs2
    have hw4 : m4.w.abs = W := hw4.trans hw3
    walk_at "s"
    refine ne_stt (n := heldA W) (rs := rs2) (qs := rs) (fun e he => O21.get (List.mem_append_left _ he)) (fun e he => O21.get (List.mem_append_right _ (.tail _ (.tail _ (List.mem_append_left _ he))))) (hrs2.trans hrs.symm) ?_
    walk_at "s"
    exact ⟨⟨_, _, _, _, _, _, _, m4, rfl, O21.drop ((List.Sublist.cons _ (.refl _)).trans (List.sublist_append_right _ _)), hm4.trans hm3, hw4⟩⟩
  rintro σ H2' ⟨v7, v8, v9, v11, v12, v13, v14, m, rfl, O10, hmt, hma⟩
  have O11 := O18.call .all O10
  have hT1 : SptAt H2' T1 (t1, p1, n1) := O10.tp _ _ hT1
  have hT2 : SptAt H2' T2 (t2, p2, n2) := O10.tp _ _ hT2
  clear O18 S19 O10 hm7 hw7
  have hsm : Sh21 m.w.abs t1 p1 n1 t2 p2 n2 free m.total := by rw [hma, hmt]; exact hsh
  walk_at "s"
  walk_at "b"
  refine ask4 ⟨p, m, T1, t1, p1, n1, t2, p2, n2, free, t4, rfl, rfl, congrArg V.int hfree, rfl, hsm, bd, O11.blk (s' := []) (.there (.app (.appl .all))), hT1, n41, n42, fun H3 m3 O12 hm3 hw3 => ?_⟩
  have O13 := O11.call (.there (.app (.appl .all))) O12
  have hm3 : m3.total = tot := hm3.trans hmt
  have hw3 : m3.w.abs = W := hw3.trans hma
  have hT1 := O12.tp _ _ hT1
  have hT2 := O12.tp _ _ hT2
  clear O11 O12
  walk_at "s"
  intro l3 hl3
  have O19 := O13.new (o := .lst [.ref T1, .ref T2]) hl3
  have S19 := O13.self.new (o := .lst [.ref T1, .ref T2]) hl3
  walk_at "s"
  refine ask2 ⟨p, m3, l3, T1, T2, (t1, p1, n1), (t2, p2, n2), rfl, rfl, by rw [hw3]; exact okW, O19.blk (s' := []) (.there (.there (.app (.appl .all)))), upd_same, fun z => O19.sep (X := [(l3, .lst [.ref T1, .ref T2])]) (.head _) (List.mem_cons_of_mem _ (adrR (adrL z))), S19.tp _ _ hT1, S19.tp _ _ hT2, by rw [hw3]; exact hin1, by rw [hw3]; exact hin2, by show n1 ≤ 64; omega, by show n2 ≤ 64; omega, fun H7 m4 sl2 rs2 O20 hm4 hw4 hrs2 => ?_⟩
  have O21 := O19.callE (e := cStt sl2 (heldA m3.w.abs) rs2) (.there (.there (.app (.appl .all)))) O20
  have S21 := S19.callE (e := cStt sl2 (heldA m3.w.abs) rs2) (.there (.there (.app (.appl .all)))) O20
  have hT1 : SptAt H7 T1 (t1, p1, n1) := S21.tp _ _ hT1
  have hT2 : SptAt H7 T2 (t2, p2, n2) := S21.tp _ _ hT2
  rw [hw3] at O21 hrs2
  have hw4 : m4.w.abs = W := hw4.trans hw3
  have hm4 : m4.total = tot := hm4.trans hm3
  walk_at "s"
  refine ne_stt (n := heldA W) (rs := rs2) (qs := rs) (fun e he => O21.get (List.mem_append_left _ he)) (fun e he => O21.get (List.mem_append_right _ (.tail _ (.tail _ (List.mem_append_left _ he))))) (hrs2.trans hrs.symm) ?_
  walk_at "s"
  have O22 : Own H H7 [] (cPR K p m4) := O21.drop ((List.sublist_append_of_sublist_left (.refl _)).trans ((List.sublist_append_right _ _).trans ((List.sublist_cons_self _ _).trans ((List.sublist_cons_self _ _).trans (List.sublist_append_right _ _)))))
  clear O13 O19 S19 O20 O21 S21
  have hW2 : W = [(t1, rm21 (t1, p1, n1))] ++ [(t2, rm21 (t2, p2, n2))] := hW.symm
  have rok1 := rm21_ok (s := (t1, p1, n1)) (show 0 ≤ p1 by omega) b3 (show p1 + n1 ≤ 64 by omega)
  have rok2 := rm21_ok (s := (t2, p2, n2)) b5 b7 (show p2 + n2 ≤ 64 by omega)
  have l2 : ((rm21 (t2, p2, n2)).length : Int) = n2 := rm21_len (s := (t2, p2, n2)) (show 0 ≤ n2 by omega)
  have nd12 : ∀ R : ARm, (([] ++ (t1, R) :: [(t2, rm21 (t2, p2, n2))] : AWl).map (·.1)).Nodup := fun R => by
    show [t1, t2].Nodup
    simpa using n12
  refine cutS (fun σ' H8 => ∃ (m' : PRm) (R : ARm), σ' = [some (.ref a), some (.int f), some (.ref ta), some (.ref T1), some (.ref T2), some (.int (f / 7 % 6)), some (.ref p), v7, v8, v9, some (.ref sl), v11, v12, v13, v14] ∧ Own H7 H8 (adr (cPR K p m4)) (cPR K p m') ∧ m'.total = tot ∧ m'.w.abs = (t1, R) :: [(t2, rm21 (t2, p2, n2))] ∧ ROk R) (fun nx hn => ?_) ?_
  · have fin0 : nx [some (.ref a), some (.int f), some (.ref ta), some (.ref T1), some (.ref T2), some (.int (f / 7 % 6)), some (.ref p), v7, v8, v9, some (.ref sl), v11, v12, v13, v14] H7 := hn _ _ ⟨m4, _, rfl, O22.self, hm4, hw4.trans hW2, rok1⟩
    walk_at "s"
    refine if_d (fun h => ?_) (fun h => fin0)
    walk_at "s"
    refine if_d (fun h2 => ?_) (fun h2 => fin0)
    have hfr : free > 0 := by rw [← hfree]; exact h
    obtain ⟨r1, hr1, hk1⟩ := hsh.r1
    have hse : sem tot W (.map t1 (p1 + n1) 1) = .ok (setA W t1 (mapR r1 (pgs (p1 + n1) (1 : Int).toNat)), none) := by
      rw [sem_map1 hr1, if_neg (pgs_ok (by omega) (by omega) (by omega)), if_neg (anyP_no fun y hy => ?_), if_neg (by rw [hH2]; omega)]
      rw [pgs_one, List.mem_singleton] at hy
      have h4 := hk1 y
      rw [decide_eq_false (by omega)] at h4
      exact Option.isNone_iff_eq_none.mp (by rw [← Option.not_isSome, h4]; rfl)
    have okm : WOk m4.w.abs := by rw [hw4]; exact okW
    walk_at "s"
    intro T hT
    have O23 := O22.self.newT (o := .tup [.str "map", .int t1, .int (p1 + n1), .int 1]) hT
    have O23' := O23.self
    walk_at "s"
    refine ask2 ⟨p, m4, T, T, .map t1 (p1 + n1) 1, rfl, rfl, okm, O23', ⟨upd_same, fun e he => by cases he⟩, fun H9 m5 o T3 O24 hm5 hw5 ho hT3 => ?_⟩
    rw [hm4, hw4, hse] at hw5 ho hT3
    cases o with
    | some y => cases ho
    | none =>
    have O25 := O23.call (s' := cPR K p m5) .all O24
    walk_at "s"
    intro T4 hT4
    have O26 := O25.newT (o := .tup [.non, .str ""]) hT4
    have hT34 : (upd H9 T4 (.tup [.non, .str ""])) T3 = some (.tup [.non, .str ""]) := by
      rw [upd_ne (fun z => by rw [← z, hT3] at hT4; cases hT4)]
      exact hT3
    refine ne_told hT34 upd_same (by decide +kernel) (by decide +kernel) ?_
    rw [decide_eq_true rfl]
    walk_at "s"
    refine hn _ _ ⟨m5, mapR r1 (pgs (p1 + n1) (1 : Int).toNat), rfl, O26, hm5.trans hm4, ?_, ?_⟩
    · have e : setA W t1 (mapR r1 (pgs (p1 + n1) (1 : Int).toNat)) = (t1, mapR r1 (pgs (p1 + n1) (1 : Int).toNat)) :: [(t2, rm21 (t2, p2, n2))] := by
        rw [hW2]
        exact setA_mid (l := []) (nd12 _)
      exact (show m5.w.abs = setA W t1 (mapR r1 (pgs (p1 + n1) (1 : Int).toNat)) from hw5).trans e
    · refine (okW.atA hr1).map (pgs_ok (by omega) (by omega) (by omega)) ?_
      exact anyP_no fun y hy => by
        rw [pgs_one, List.mem_singleton] at hy
        have h4 := hk1 y
        rw [decide_eq_false (by omega)] at h4
        exact Option.isNone_iff_eq_none.mp (by rw [← Option.not_isSome, h4]; rfl)
  rintro σ H8 ⟨m5, R, rfl, O23, hm5, hw5, rokR⟩
  have O24 := O22.call .all O23
  have hT1 : H8 T1 = some (.tup [.int t1, .int p1, .int n1]) := O23.tp _ _ hT1
  have hT2 : H8 T2 = some (.tup [.int t2, .int p2, .int n2]) := O23.tp _ _ hT2
  clear O22 O23
  have lk1 : ([] ++ (t1, R) :: [(t2, rm21 (t2, p2, n2))] : AWl).lookup t1 = some R := lk_nd (nd12 R) (.head _)
  have ok2 : WOk [(t2, rm21 (t2, p2, n2))] := WOk.nil.snocW rfl rok2 (by decide)
  have no1 : List.lookup t1 [(t2, rm21 (t2, p2, n2))] = none := lk_none.mpr (by show t1 ∉ [t2]; simpa using n12)
  have okm5 : WOk m5.w.abs := by
    rw [hw5]
    have h3 : WOk ([(t1, R)] ++ [(t2, rm21 (t2, p2, n2))]) := WOk.snocW (w := [(t1, R)]) (WOk.nil.snocW rfl rokR (by decide)) (lk_none.mpr (by show t2 ∉ [t1]; simpa using fun e => n12 e.symm)) rok2 (show (1 : Nat) < 1000 by decide)
    exact h3
  walk_at "s"
  refine ask2 ⟨p, m5, t1, rfl, rfl, okm5, O24.self, ?_⟩
  rw [hw5, sem_close1 (by rw [show ((t1, R) :: [(t2, rm21 (t2, p2, n2))] : AWl).lookup t1 = some R from lk1]; rfl), show dropA ((t1, R) :: [(t2, rm21 (t2, p2, n2))]) t1 = [(t2, rm21 (t2, p2, n2))] from dropA_mid (l := []) (nd12 R)]
  intro H9 m6 O25 hm6 hw6
  have O26 := O24.call .all O25
  have hT1 := O25.tp _ _ hT1
  have hT2 := O25.tp _ _ hT2
  have hh2 : heldA [(t2, rm21 (t2, p2, n2))] = n2 := by
    show (((rm21 (t2, p2, n2)).length + 0 : Nat) : Int) = n2
    omega
  have okm6 : WOk m6.w.abs := by rw [hw6]; exact ok2
  walk_at "s"
  walk_at "b"
  refine ask1 ⟨p, m6, rfl, okm6, O26.self, fun H10 O27 => ?_⟩
  have O28 := O26.call .all O27
  have hT1 := O27.tp _ _ hT1
  have hT2 := O27.tp _ _ hT2
  rw [hw6, hh2]
  walk_at "s"
  refine if_nii (fun z => absurd rfl z) (fun _ => ?_)
  walk_at "s"
  intro T hT
  have O29 := O28.newT (o := .tup [.str "close", .int t1]) hT
  have O29' := O29.self
  have hT1 := O29.self.tp _ _ ((O28.self.newT (o := .tup [.str "close", .int t1]) hT).tp _ _ hT1)
  have hT2 := O29.self.tp _ _ ((O28.self.newT (o := .tup [.str "close", .int t1]) hT).tp _ _ hT2)
  walk_at "s"
  refine ask2 ⟨p, m6, T, T, .close t1, rfl, rfl, okm6, O29', ⟨upd_same, fun e he => by cases he⟩, fun H11 m7 o T3 O30 hm7 hw7 ho hT3 => ?_⟩
  rw [hw6, sem_close0 no1] at hw7 ho hT3
  cases o with
  | some y => cases ho
  | none =>
  have O31 := O29.call (s' := cPR K p m7) .all O30
  have hT1 := O30.tp _ _ hT1
  have hT2 := O30.tp _ _ hT2
  have hw7 : m7.w.abs = [(t2, rm21 (t2, p2, n2))] := hw7
  walk_at "s"
  intro T4 hT4
  have O32 := O31.newT (o := .tup [.non, .str "NoTask"]) hT4
  have S32 := O31.self.newT (o := .tup [.non, .str "NoTask"]) hT4
  have hT34 : (upd H11 T4 (.tup [.non, .str "NoTask"])) T3 = some (.tup [.non, .str "NoTask"]) := by
    rw [upd_ne (fun z => by rw [← z, hT3] at hT4; cases hT4)]
    exact hT3
  have hT1 := S32.tp _ _ hT1
  have hT2 := S32.tp _ _ hT2
  refine ne_told hT34 upd_same (by decide +kernel) (by decide +kernel) ?_
  rw [decide_eq_true rfl]
  walk_at "s"
  have okm7 : WOk m7.w.abs := by rw [hw7]; exact ok2
  refine ask2 ⟨p, m7, t1, rfl, rfl, okm7, O32.self, ?_⟩
  rw [hw7, sem_begin0 no1]
  intro H12 m8 O33 hm8 hw8
  have O34 := O32.call .all O33
  have hT1 := O33.tp _ _ hT1
  have hT2 := O33.tp _ _ hT2
  have okm8 : WOk m8.w.abs := by rw [hw8]; exact ok2.snocW no1 ROk.nil (show (1 : Nat) < 1000 by decide)
  walk_at "s"
  refine ask1 ⟨p, m8, rfl, okm8, O34.self, fun H13 O35 => ?_⟩
  have O36 := O34.call .all O35
  have hT1 := O35.tp _ _ hT1
  have hT2 := O35.tp _ _ hT2
  have hh3 : heldA ([(t2, rm21 (t2, p2, n2))] ++ [(t1, [])]) = n2 := by
    rw [heldA_app, hh2]
    show n2 + ((0 : Nat) : Int) = n2
    omega
  rw [hw8, hh3]
  walk_at "s"
  refine if_ii (fun _ => ?_) (fun z => absurd rfl z)
  walk_at "s"
  intro T5 hT5
  have O37 := O36.newT (o := .tup [.str "peek", .int t1, .int (8 * p1), .int 1]) hT5
  have O37' := O37.self
  walk_at "s"
  have lkt : ([(t2, rm21 (t2, p2, n2))] ++ [(t1, [])] : AWl).lookup t1 = some [] := by rw [lk_app, no1]; simp
  refine ask2 ⟨p, m8, T5, T5, .peek t1 (8 * p1) 1, rfl, rfl, okm8, O37', ⟨upd_same, fun e he => by cases he⟩, fun H14 m9 o T6 O38 hm9 hw9 ho hT6 => ?_⟩
  rw [hw8, sem_peek1 lkt, ite3 (b := allA [] (8 * p1) (1 : Int).toNat) (.inr rfl)] at hw9 ho hT6
  cases o with
  | some y => cases ho
  | none =>
  walk_at "s"
  intro T7 hT7
  have hT67 : (upd H14 T7 (.tup [.non, .str "NoPage"])) T6 = some (.tup [.non, .str "NoPage"]) := by
    rw [upd_ne (fun z => by rw [← z, hT6] at hT7; cases hT7)]
    exact hT6
  refine eq_told hT67 upd_same (by decide +kernel) (by decide +kernel) ?_
  rw [decide_eq_true rfl]
  exact k _

end Ow
open PySem PySem.W PySem.Calls PyProof.Rows
set_option maxHeartbeats 0
set_option maxRecDepth 100000 in
theorem PySem.Challenge.cw_ownroom_k21_plain_rooms_refused_holds : PySem.Challenge.rw_ownroom_k21_plain_rooms_refused.Holds := by
  w_on; o_law
  refine HandSHeadRun.head_any (r := OpenLaw.row PySem.Challenge.rw_ownroom_k21_plain_rooms_refused) (q := view (OpenLaw.row PySem.Challenge.rw_ownroom_k21_plain_rooms_refused).prog [23]) (H := Ow.hk) (ob := Ow.ob) (M := 60000) (loose := Ow.loose) (d := HandSHeadRun.topDef (OpenLaw.row PySem.Challenge.rw_ownroom_k21_plain_rooms_refused).prog 23) (kwd := []) Ow.ob_eq
    (by kernel_rfl) (fun s => by kernel_rfl) Ow.run (by kernel_rfl) (by kernel_rfl) (by kernel_rfl) (by rfl) (by first | assumption | decide +kernel) (by decide +kernel) ⟨rfl, rfl, rfl, rfl, rfl, by decide +kernel⟩ ?hw ?hc
  case hw => w_witness2
  case hc =>
    refine Ow.walk_end (l := PySem.Challenge.rw_ownroom_k21_plain_rooms_refused) (n := 63) (k := 7) (x := "_law_script") rfl (by decide) (by kernel_rfl) ⟨rfl, by decide, by decide⟩ ?F
    intro w mg fa h Y G hmg0
    obtain ⟨K, KX, c⟩ := Y
    have hmg : mg ("law" : PySem.Str) = some (.ref fa) := by
      have e : (HandSHeadRun.topDef (OpenLaw.row PySem.Challenge.rw_ownroom_k21_plain_rooms_refused).prog 23).name = ("law" : PySem.Str) := by kernel_rfl
      rw [← e]
      exact hmg0
    have T := Ow.txt_mk KX G c.t.d c.more
    have e := hmg.symm.trans T.g_law
    cases e
    obtain ⟨fd, F⟩ := T.d_law
    have b := L2.FunD.bindsA (ps := ["_law_script"]) F fun _ _ _ _ _ _ us hl => match us, hl with | [_], _ => rfl
    exact ⟨K, fd, Ow.bx (Ow.sp_law K), KX, fun s v => b s [v] rfl, fun H a ns hl hz hS => ⟨⟨_, rfl, Ow.law_in H a ns hl hz hS⟩⟩, fun base _ _ => Ow.ok_law T F⟩
