import PyProof.Rows.All
import Wide.All
import OpenK.AllK
import Wide.FinOn
import HandS.ForMost
import HandS.Exc
import HandS.TryOnly
import HandS.ExcOwn
import HandS.WordsExc
import HandS.IsInst
import HandS.ExcIs
import HandS.EndTab
import HandS.Nested
import KE.SortKeyHeap
import KE.DataMinKey
import HandS.Flow
import HandS.Wide
import HandS.ListItems
import HandS.Iter
import HandS.Style
import PyProof.NeData
import HandS.More
import HandS.SetKeys
import HandS.Conv
import HandS.Defaults
import PySem.Challenge.RW_pitclear_k19_ledgers
set_option Elab.async false
set_option linter.all false
set_option maxRecDepth 100000
set_option maxHeartbeats 4000000
set_option autoImplicit true
namespace Mir
open PySem PySem.Spec L2
open PyProof.Rows hiding St

/-! ## exceptions kept as values -/
/-- an exception that was caught, of the class cls, at a -/
def ExV (cls : Value) (a : Addr) : HO := .ext fun h => ∃ (oe : Obj) (vs : Array Value), h.get? a = some oe ∧ Zc cls none oe ∧ oe.data = .fields vs
theorem exV_ok {P : Program} {w : World} {H : Hp} {h : Heap} {a : Addr} {cls : Value} {oe : Obj} {vs : Array Value} (e : h.get? a = some oe) (z : Zc cls none oe) (d : oe.data = .fields vs) : ObjOk P w H h a (ExV cls a) :=
  ⟨⟨oe, vs, e, z, d⟩, ⟨oe, e⟩, fun _ _ ⟨o, v, q, r⟩ k => ⟨o, v, k o q, r⟩⟩
theorem Inv.trackE {X : Cx} {pins : List (Addr × Obj)} {σ : St} {H : Hp} {s : Shared} {a : Addr} {o : HO} (I : Inv X pins σ H s) (na : H a = none) (n0 : X.s_0.heap.get? a = none) (nL : a ≠ X.env.locals)
    (nP : ∀ p ∈ X.pn ++ pins, p.1 ≠ a) (nC : ∀ x c, X.env.cells.lookup x = some c → c ≠ a) (new : ObjOk X.prog X.w (upd H a o) s.heap a o) : Inv X pins σ (upd H a o) s := by
  have ne0 : ∀ b ob, X.s_0.heap.get? b = some ob → b ≠ a := fun b ob e z => by
    rw [z, n0] at e
    cases e
  refine ⟨I.ok, I.os, I.bare, ⟨I.base.keep, I.base.slot, fun b ob e n hq => ?_, I.base.there, fun b xs e => ?_, fun b ob u e => ?_, fun b ps e => ?_⟩, I.loc, I.cell, ?_, fun x c e => ?_, fun p hp => ?_, fun b u e => ?_, I.len⟩
  · rw [upd_ne (ne0 b ob e)]
    exact I.base.free b ob e n hq
  · have q := I.base.tups b xs e
    rw [upd_ne (ne_of_none q na)]
    exact q
  · have q := I.base.frzs b ob u e
    rw [upd_ne (ne_of_none q na)]
    exact q
  · obtain ⟨m, q⟩ := I.base.tbls b ps e
    exact ⟨m, by rw [upd_ne (ne_of_none q na)]; exact q⟩
  · rw [upd_ne nL.symm]
    exact I.free
  · rw [upd_ne (nC x c e)]
    exact I.freeC x c e
  · obtain ⟨e, n, r⟩ := I.pin p hp
    exact ⟨e, by rw [upd_ne (nP p hp)]; exact n, r⟩
  · by_cases hb : b = a
    · subst hb
      rw [upd_same] at e
      cases e
      exact new
    · rw [upd_ne hb] at e
      exact (I.hok b u e).stay (fun _ _ _ q => q) (fun c q => by rw [upd_ne (ne_of_none q na)]; exact q) fun c xs q => by rw [upd_ne (ne_of_none q na)]; exact q
/-- what the clause 'except x as n: m = n' wishes of an exception of the body: slot i is n's, slot j is m's -/
def wKeep (K : PySem.W.Frag) (c : Value) (i j : Nat) (Wout : WX) (D : Ends) : WX := fun cls d σ H =>
  d = none ∧ ∃ b, PySem.W.exmOne K cls c = some b ∧ (b = true → i ≠ j ∧ ∀ a, H a = none → D.nx (((σ.set i (some (.ref a))).set j (some (.ref a))).set i none) (upd H a (ExV cls a))) ∧ (b = false → Wout cls d σ H)
section
variable {X : Cx} {x n m : Str} {c : Value} {i j : Nat} {body : List Stmt} {np p1 p2 p3 pos pos' : Pos} {tb : WX → TS} {Wout : WX}
theorem ps_try_keep (hex : X.ex = []) (hs : X.stack = X.env :: X.outer) (hf : X.env.frame = some X.env.locals) (hN : X.N.Nodup) (hi : X.N[i]? = some n) (hj : X.N[j]? = some m) (hln : X.env.kindOf n = some .local) (hlm : L2.Loc X.env.scope m)
    (hfn : X.fn m = true ∨ X.env.kindOf m = some .local) (hv : Vis X.env.scope n) (hd1 : (n == ("__debug__" : Str)) = false) (hd2 : (n == ("__classdict__" : Str)) = false) (hc : Names X x c) (tk : Takes X Wout)
    (hb : ∀ (W : WX) (pn : List (Addr × Obj)) (xe : Value → Shared → Prop), Takes (X.tr pn xe) W → PassesOwn (model X.prog X.w) X.A X.env xe → PSs (X.tr pn xe) body (tb W)) :
    PS X (.Try body [.ExceptHandler (some (.Name x np)) (some n) [.Assign [.Name m p1] (.Name n p2) p3] pos'] [] [] pos) (fun D σ H => tb (wKeep X.K c i j Wout D) D σ H) := by
  refine ⟨fun pins s σ H D I h => ?_⟩
  have ok := I.ok
  have hfr : X.A.frames = some (X.env :: X.outer) := by rw [ok.frames, hs]
  have hloc : L2.Loc X.env.scope n := .inl hln
  refine wpAny_Try_except ?_
  refine wpAny_mono ((hb (wKeep X.K c i j Wout D) (X.pn ++ pins) (fun e s₁ => wpAny (model X.prog X.w) X.A (noteFrame e X.env) (fun _ s₂ => wpAny (model X.prog X.w) X.A (setFlight e none) (fun _ s₃ =>
    wpAny (model X.prog X.w) X.A (handleBy e X.env [.ExceptHandler (some (.Name x np)) (some n) [.Assign [.Name m p1] (.Name n p2) p3] pos']) (SP X pins D) X.xe s₃) X.xe s₂) X.xe s₁) (fun u s' xx => ?_) PassesOwn.looking).run [] s σ H D (I.toTry _) h) (fun f s1 hsp => ?_) (fun e s1 he => he)
  · obtain ⟨a, B, sI, pins', σ', H', cls, d, rfl, J', nb, up, sky, na, os, ag, hd0, b, hb1, hyes, hno⟩ := xx
    subst hd0
    have J : Inv X pins σ' H' sI := J'.ofTry ok
    have sky' : Sky B (X.env :: X.outer) a (Zc cls none) X.env.locals s'.heap := by rw [← hs]; exact sky
    have Ba : B.get? a = none := by
      rcases sky' with z | z | z
      · exact z.2.1
      · exact z.2.1
      · exact z.2.1
    show wpAny (model X.prog X.w) X.A (noteFrame (.ref a) X.env) _ _ _
    refine Sky.land Zc.steady hfr hf sky' fun h3 fl3 up3 => ?_
    have J3 : Inv X pins σ' H' { s' with heap := h3 } := J.landed nb fl3.1 (up.trans up3) os ag
    obtain ⟨oe3, vs3, he3, hz3, hd3⟩ := fl3.there
    have notFr : ∀ {h : Heap} {o : Obj} {vs : Array Value}, h.FunFrames B (X.env :: X.outer) → h.get? a = some o → o.data = .fields vs → a ∉ frs (X.env :: X.outer) := fun {h o vs} ff e dd hm => by
      obtain ⟨_, o', e', hnf⟩ := ff.mem hm
      rw [e] at e'; cases e'
      exact hnf _ dd
    have nfr := notFr fl3.2.2.1 he3 hd3
    have nL : a ≠ X.env.locals := fun z => nfr (List.mem_filterMap.mpr ⟨X.env, List.mem_cons_self, by rw [hf, z]⟩)
    have nF : a ∉ X.fs := fun hm => by
      obtain ⟨e, he, q⟩ := List.mem_filterMap.mp hm
      exact nfr (List.mem_filterMap.mpr ⟨e, List.mem_cons_of_mem _ he, q⟩)
    have nI : sI.heap.get? a = none := by
      cases e : sI.heap.get? a with
      | none => rfl
      | some o =>
        have z := nb a o e (by rw [hs]; exact nfr)
        rw [Ba] at z
        cases z
    have n0 : X.s_0.heap.get? a = none := by
      cases e : X.s_0.heap.get? a with
      | none => rfl
      | some o =>
        obtain ⟨o', q⟩ := J.base.there a o e (by rw [hex]; exact fun z => nomatch z)
        rw [nI] at q
        cases q
    have nP : ∀ p ∈ X.pn ++ pins, p.1 ≠ a := fun p hp z => by
      have := (J.pin p hp).1
      rw [z, nI] at this
      cases this
    have nC : ∀ x c, X.env.cells.lookup x = some c → c ≠ a := fun x c e z => by
      obtain ⟨v, o, ho, _⟩ := J.cell x c e
      rw [z, nI] at ho
      cases ho
    have S3 := J3.suite he3 hd3 na nL nF
    refine wpAny_handleBy_cons (codeAny_handlers_test ?_) (by intro q; cases q)
    have LT : PySem.W.Looks (model X.prog X.w) h3 (typeOf (.ref a)) cls := fun A Q E s k q => wpAny_typeOf_ref (k _ _ he3) (by rw [hz3.1]; exact q)
    have LM := PySem.W.exm_one (M := model X.prog X.w) (J3.kIn) LT hb1
    have test : ∀ {Q : Value → Shared → Prop} {E : Value → Shared → Prop}, Q c { s' with heap := h3 } → wpAny (model X.prog X.w) (X.A.mark (some (.ref a))) (eval (.Name x np) X.env) Q E { s' with heap := h3 } := fun {Q E} q => by
      obtain ⟨hg, hdbg, hm | ⟨hm, hv, hnn⟩⟩ := hc
      · exact ld_glob (X := X.suite a ((a, oe3) :: (X.pn ++ pins))) S3 hg hm q hdbg
      · exact ld_blt (X := X.suite a ((a, oe3) :: (X.pn ++ pins))) S3 hg hm hv q hnn hdbg
    refine test (LM.here ?_)
    cases b with
    | true =>
      obtain ⟨hij, hyes⟩ := hyes rfl
      refine codeAny_handlers_suite_as ?_
      refine HandSPX.lands_againZ fl3 fun h4 fl4 up4 => ?_
      have J4 : Inv X pins σ' H' { s' with heap := h4 } := J.landed nb fl4.1 ((up.trans up3).trans up4) os ag
      obtain ⟨oe4, vs4, he4, hz4, hd4⟩ := fl4.there
      have S4 := J4.suite he4 hd4 na nL nF
      refine store_ok (X := X.suite a ((a, oe4) :: (X.pn ++ pins))) (v := .ref a) S4 hN hi hloc rfl (fun s5 S5 => ?_) (.inr hln)
      have hσ : (σ'.set i (some (V.ref a)))[i]? = some (some (.ref a)) := by
        have : i < σ'.length := by
          rw [J.len]
          exact (List.getElem?_eq_some_iff.mp hi).1
        rw [List.getElem?_set_self this]
      have asg : PSs (X.suite a ((a, oe4) :: (X.pn ++ pins))) [.Assign [.Name m p1] (.Name n p2) p3] (tAsg (tVar i) (gName j)) :=
        pss_one (ps_set (X := X.suite a ((a, oe4) :: (X.pn ++ pins))) hN hj hlm (pe_var (X := X.suite a ((a, oe4) :: (X.pn ++ pins))) (i := i) hi hv hd1 hd2) (hf := hfn))
      refine wpAny_mono (asg.run [] s5 _ H' { nx := fun σ6 H6 => σ6 = ((σ'.set i (some (.ref a))).set j (some (.ref a))) ∧ H6 = H', rt := fun _ _ => False } S5 ⟨.ref a, hσ, rfl, rfl⟩) (fun f s6 hsp => ?_) (fun _ _ z => False.elim z)
      cases f with
      | next =>
        obtain ⟨σ6, H6, S6, e6, e7⟩ := hsp
        subst e6 e7
        have he6 := (S6.pin (a, oe4) (List.mem_append.mpr (.inl List.mem_cons_self))).1
        have J6 := S6.unsuite ok
        have J7 := Inv.trackE J6 na n0 nL nP nC (exV_ok (cls := cls) he6 hz4 hd4)
        exact gone_ok J7 hN hi hln fun s7 J8 => ⟨_, _, J8, hyes a na⟩
      | brk =>
        obtain ⟨σ6, H6, S6, q6⟩ := hsp
        exact q6.elim
      | cont =>
        obtain ⟨σ6, H6, S6, q6⟩ := hsp
        exact q6.elim
      | ret u =>
        obtain ⟨v6, σ6, H6, S6, r6, q6⟩ := hsp
        exact q6.elim
    | false =>
      show wpAny _ X.A (handleBy (.ref a) X.env []) _ _ _
      refine wpAny_handleBy_nil ?_
      obtain ⟨k1, k2, k3, oe, vs, T, oT, ts', he, hz, hd, h1, hr⟩ := id fl3
      unfold PySem.passOn
      refine wpAny_bind (wpAny_field he hd h1 ?_)
      rw [if_neg (show ¬ ((Value.ref T == Value.none) = true) from by simp)]
      have fin : wpAny (model X.prog X.w) X.A (setFlight (.ref a) X.env.frame) (fun _ s4 => wpAny (model X.prog X.w) X.A (throw (.ref a) : Sem Flow) (SP X pins D) X.xe s4) X.xe { s' with heap := h3 } := by
        rw [hf]
        refine HandSPX.setFlight_upZ fl3 fun h4 hh4 up4 => wpAny_throw (tk _ _ ?_)
        exact ⟨a, B, sI, pins, σ', H', cls, none, rfl, J, nb, (up.trans up3).trans up4, .inr (.inr (by rw [hs]; exact hh4)), na, os, ag, hno rfl⟩
      first
        | exact wpAny_bind (wpAny_pure (wpAny_bind fin))
        | exact wpAny_bind fin
  · cases f with
    | next =>
      obtain ⟨σ', H', J', q⟩ := hsp
      exact wpAny_execs_nil ⟨σ', H', J'.ofTry ok, q⟩
    | brk =>
      obtain ⟨σ', H', J', q⟩ := hsp
      exact ⟨σ', H', J'.ofTry ok, q⟩
    | cont =>
      obtain ⟨σ', H', J', q⟩ := hsp
      exact ⟨σ', H', J'.ofTry ok, q⟩
    | ret u =>
      obtain ⟨v, σ', H', J', r, q⟩ := hsp
      exact ⟨v, σ', H', J'.ofTry ok, r, q⟩
/-- isinstance(e, c), e an exception that was caught -/
theorem call_isX {X : Cx} {pins : List (Addr × Obj)} {s : Shared} {σ : St} {H : Hp} {a D : Addr} {cv : Value} {b : Bool} {Q : Value → Shared → Prop} {E : Value → Shared → Prop} (C : ExcC X.K D) (I : Inv X pins σ H s) (ha : H a = some (ExV (.ref D) a)) (e : PySem.W.kitOne X.K (.ref D) cv = some b)
    (h : ∀ tk, Q (.bool b) { s with toks := tk }) : wpAny (model X.prog X.w) X.A (call (.builtin "isinstance") [.ref a, cv]) Q E s := by
  obtain ⟨⟨oe, vs, hget, hz, hv⟩, _, _⟩ := I.hok a _ ha
  have J : PySem.W.InstAt s.heap a oe D none := by
    obtain ⟨oc, od, oda, osl⟩ := oe
    obtain ⟨h1, h2⟩ := hz
    dsimp only at h1 h2 hv
    subst h1 h2 hv
    exact ⟨hget, rfl, rfl, trivial⟩
  exact PySem.W.kia_one (PySem.W.handS_kitx_exc C.hg C.hk C.hs C.hd C.ha C.hn C.ht C.hm) I.kIn J e (fun z => nomatch z) h
/-- C() where there is no __init__ but object's -/
theorem run_make0 {X : Cx} {pins : List (Addr × Obj)} {σ : St} {H : Hp} {s : Shared} {Q : VK} {C : Addr} (hm : PySem.W.makesIn X.K C = true) (hi : PySem.W.findIn X.K (.ref C) "__init__" = some (some (.builtin "object.__init__")))
    (I : Inv X pins σ H s) (h : Q (.ref (s.heap.objs.size + 1)) (upd (upd H s.heap.objs.size (.own (s.heap.objs.size + 1))) (s.heap.objs.size + 1) (.ins C s.heap.objs.size []))) :
    wpAny (model X.prog X.w) X.A (call (.ref C) []) (EP X pins σ Q) X.xe s := by
  have I2 := L2.Inv.made (C := C) I
  have Y := PySem.W.makes_of (M := model X.prog X.w) I.kIn hm
  refine wpAny_call (make_map0 I.kIn hm hi (fun self => .of_pure (PySem.W.oi_bind self)) ?_)
  have e2 : ((s.heap.push PySem.W.emptyDict).push (PySem.W.instObj C s.heap.objs.size)).get? (s.heap.objs.size + 1) = some (PySem.W.instObj C s.heap.objs.size) := by
    have z := Heap.get?_push_size (s.heap.push PySem.W.emptyDict) (o := PySem.W.instObj C s.heap.objs.size) rfl
    rwa [Heap.size_push] at z
  have t1 : PySem.W.Looks (model X.prog X.w) ((s.heap.push PySem.W.emptyDict).push (PySem.W.instObj C s.heap.objs.size)) (typeOf (.ref (s.heap.objs.size + 1))) (.ref C) := (PySem.W.Looks.ld e2).andThen .now
  have t2 : PySem.W.Looks (model X.prog X.w) ((s.heap.push PySem.W.emptyDict).push (PySem.W.instObj C s.heap.objs.size)) (isInstance (.ref (s.heap.objs.size + 1)) (.type "object")) true := t1.andThen (Y.top.keeps fun b o e => Heap.get?_push_of_some _ (Heap.get?_push_of_some _ e))
  refine codeAny_call_builtin PySem.W.oi_plain PySem.W.entry_oi (@PySem.W.check_slot (model X.prog X.w) _ _ _ "object.__init__" "object" "__init__" (.ref (s.heap.objs.size + 1)) [] [] _ PySem.W.oi_kind PySem.W.oi_split t2 (PySem.W.oi_args (.ref (s.heap.objs.size + 1))) ?_)
  rw [PySem.W.oi_run]
  exact wpAny_pure (And.intro rfl ⟨V.ref (s.heap.objs.size + 1), _, I2, rfl, h⟩)
end
end Mir

set_option autoImplicit false
namespace Mir
open PySem PySem.Spec L2 LamX
open PyProof.Rows hiding St

/-! ## a lambda: its names, the context of its body -/
/-- a lambda of the parameters ps, within sc -/
structure LamP (sc scope : Scope) (ps : List Str) : Prop where
  kind : scope.kind = .function
  co : scope.isCoroutine = false
  gen : scope.isGenerator = false
  ncell : ∀ y ∈ scope.names, y.2 ≠ .cell
  nloc : ∀ y ∈ scope.names, y.2 = .local → y.1 ∈ ps
  par : ∀ x ∈ ps, scope.names.lookup x = some .local
  out : ∀ y ∈ scope.names, y.2 = .free → sc.names.lookup y.1 = some .cell ∨ sc.names.lookup y.1 = some .free
def lamPB (sc scope : Scope) (ps : List Str) : Bool :=
  decide (scope.kind = .function) && !scope.isCoroutine && !scope.isGenerator && ps.all (fun x => decide (scope.names.lookup x = some .local)) && scope.names.all fun y =>
    !decide (y.2 = .cell) && (!decide (y.2 = .local) || decide (y.1 ∈ ps)) && (!decide (y.2 = .free) || decide (sc.names.lookup y.1 = some .cell) || decide (sc.names.lookup y.1 = some .free))
theorem lamP_by {sc scope : Scope} {ps : List Str} (h : lamPB sc scope ps = true) : LamP sc scope ps := by
  unfold lamPB at h
  simp only [Bool.and_eq_true, Bool.or_eq_true, Bool.not_eq_true', decide_eq_true_eq, decide_eq_false_iff_not, List.all_eq_true] at h
  obtain ⟨⟨⟨⟨a, b⟩, c⟩, d⟩, e⟩ := h
  exact ⟨a, b, c, fun y m => (e y m).1.1, fun y m q => (e y m).1.2.resolve_left (fun z => z q), d, fun y m q => by
    rcases (e y m).2 with (z | z) | z
    · exact absurd q z
    · exact .inl z
    · exact .inr z⟩
theorem LamP.has {X : Cx} {scope : Scope} {ps : List Str} (L : LamP X.env.scope scope ps) (ok : X.Ok) : ∀ y ∈ scope.names, y.2 = .free → ∃ c, X.env.cells.lookup y.1 = some c := fun y m q => by
  rcases L.out y m q with k | k
  · exact ok.has _ (.inl k)
  · exact ok.has _ (.inr k)
/-- the context of a lambda's body that is entered at s from the frames outer -/
def lcx (X : Cx) (N : List Str) (A : Around) (outer : List Env) (s : Shared) (H : Hp) (E : XK) (scope : Scope) (f c' : Addr) : Cx where
  prog := X.prog
  w := X.w
  K := X.K
  mg := X.mg
  base := X.base
  A := A.deeper (lamEnv X scope s.heap.objs.size f c')
  N := N
  s_0 := s
  H_0 := H
  env := lamEnv X scope s.heap.objs.size f c'
  outer := outer
  stack := lamEnv X scope s.heap.objs.size f c' :: outer
  ex := []
  fn := fun _ => false
  calm := true
  pn := []
  xe := fun e s' => wpAny (model X.prog X.w) (A.deeper (lamEnv X scope s.heap.objs.size f c')) (leaving (lamEnv X scope s.heap.objs.size f c') e) (fun _ t => L2.CX X.prog X.w outer H s E e t) (fun e' t => L2.CX X.prog X.w outer H s E e' t) s'
section
variable {X : Cx} {pins : List (Addr × Obj)} {σ : L2.St} {H H1 : Hp} {s s1 : Shared} {ps : List Str} {scope : Scope} {f c' : Addr} {A : Around} {outer : List Env} {E : XK} {us : List Value} {vs : List V}
theorem cap_cell (L : LamP X.env.scope scope ps) (ok : X.Ok) {y : Str} {c : Addr} (e : (cloFrom X.env.cells scope.names []).lookup y = some c) : X.env.cells.lookup y = some c := by
  rcases cloFrom_mem (PySem.mem_of_lookup e) with hm | ⟨h1, h2⟩
  · exact (List.not_mem_nil hm).elim
  · obtain ⟨d, hd⟩ := L.has ok (y, .free) h1 rfl
    simp only at hd h2
    rw [h2, hd]
    simp
theorem cap_has {y : Str} (hl : scope.names.lookup y = some .free) : ∃ c, (cloFrom X.env.cells scope.names []).lookup y = some c :=
  mem_lookup (cloFrom_has (cells := X.env.cells) (acc := []) (PySem.mem_of_lookup hl : (y, NameKind.free) ∈ scope.names))
/-- the names of the maker, as a lambda's body sees them -/
structure NSee (X : Cx) (scope : Scope) (N0 ps : List Str) : Prop where
  nd : (N0 ++ ps).Nodup
  len : N0.length = X.N.length
  see : ∀ (i : Nat) (y : Str), N0[i]? = some y → Vis scope y → X.N[i]? = some y
theorem lam_inv {N0 : List Str} {h1 : Heap} {tk : Nat} (I : Inv X pins σ H s) (L : LamP X.env.scope scope ps) (ns : NSee X scope N0 ps) (e0 : Env0 X.prog X.w X.K X.mg X.base A outer s1 H1) (hd : A.handled = none)
    (un : Un (frs X.stack) [] H H1 s.heap s1.heap) (r : Vals vs us) (hl : vs.length = ps.length) (hns : h1.Ns s1.heap.objs.size fun y => (ps.zip us).reverse.lookup y) (kp : ∀ b o, s1.heap.get? b = some o → h1.get? b = some o) :
    Inv (lcx X (N0 ++ ps) A outer s1 H1 E scope f c') [] (σ ++ vs.map some) H1 { s1 with heap := h1, toks := tk } := by
  have nd := ns.nd
  have cm : ∀ {y c}, (cloFrom X.env.cells scope.names []).lookup y = some c → X.env.cells.lookup y = some c := fun e => cap_cell L I.ok e
  have cK : ∀ {c : Addr} {v : Option Value}, H c = none → s.heap.IsCell c v → h1.IsCell c v := fun n ⟨o, ho, q⟩ => by
    obtain ⟨sl, z⟩ := un.any ho n List.not_mem_nil
    exact ⟨_, kp _ _ z, q⟩
  have nx : ∀ b : Addr, b ∉ (lcx X (N0 ++ ps) A outer s1 H1 E scope f c').ex := fun b => List.not_mem_nil
  have lenσ : σ.length = N0.length := I.len.trans ns.len.symm
  refine ⟨⟨e0.mod, L.kind, rfl, rfl, Nat.le_refl _, fun y z c e1 e2 => I.ok.inj y z c (cm e1) (cm e2), fun y hy => ?_, fun y c z => (by cases z), fun _ => hd, Around.frames_deeper e0.frames, .inr ⟨rfl, rfl⟩, fun b z => (nx b z).elim, e0.bs, e0.bsz, fun b _ _ => nx b,
      fun b z => (nx b z).elim, e0.funs, e0.frf⟩,
    rfl, e0.bare, Un.kept kp, ⟨_, hns, fun i y v e1 e2 e3 => ?_⟩, fun y c e => ?_, e0.hok.fresh (Nat.le_refl _), fun y c e => ?_, fun q hq => (List.not_mem_nil hq).elim, e0.hok.kept kp, by
      show (σ ++ vs.map some).length = (N0 ++ ps).length
      rw [List.length_append, List.length_append, List.length_map, lenσ, hl]⟩
  · rcases (show scope.names.lookup y = some .cell ∨ scope.names.lookup y = some .free from hy) with z | z
    · exact absurd rfl (L.ncell _ (PySem.mem_of_lookup z))
    · exact cap_has z
  · have e1 : (N0 ++ ps)[i]? = some y := e1
    have e3 : Vis scope y := e3
    by_cases hi : i < N0.length
    · rw [List.getElem?_append_left hi] at e1
      rw [List.getElem?_append_left (by omega)] at e2
      have ny : y ∉ ps := fun z => (List.nodup_append.mp nd).2.2 y (List.mem_of_getElem? e1) y z rfl
      rcases e3 with k | k | k
      · exact (ny (L.nloc _ (PySem.mem_of_lookup k) rfl)).elim
      · exact absurd rfl (L.ncell _ (PySem.mem_of_lookup k))
      · obtain ⟨m, hn, lk⟩ := I.loc
        have ko := L.out _ (PySem.mem_of_lookup k) rfl
        obtain ⟨u, ru, q⟩ := lk i y v (ns.see i y e1 (.inr (.inr k))) e2 (ko.elim (fun k => .inr (.inl k)) fun k => .inr (.inr k))
        obtain ⟨c2, h2⟩ := cap_has (X := X) k
        refine ⟨u, ru, .inr ⟨.inr k, c2, h2, ?_⟩⟩
        rcases q with ⟨k', _⟩ | ⟨_, c3, e', z⟩
        · have k2 : X.env.scope.names.lookup y = some .local := k'
          rcases ko with k3 | k3 <;> (simp only at k3; rw [k3] at k2; cases k2)
        · rw [cm h2] at e'
          cases e'
          exact cK (I.freeC y _ (cm h2)) z
    · rw [List.getElem?_append_right (by omega)] at e1
      rw [List.getElem?_append_right (by omega), List.getElem?_map, lenσ] at e2
      obtain ⟨v', ev, e2⟩ := Option.map_eq_some_iff.mp e2
      cases e2
      obtain ⟨u, hu, rv⟩ := r.get ev
      exact ⟨u, rv, .inl ⟨L.par y (List.mem_of_getElem? e1), NdefX.zip_look (List.nodup_append.mp nd).2.1 e1 hu⟩⟩
  · obtain ⟨w', z⟩ := I.cell y c (cm e)
    exact ⟨w', cK (I.freeC y c (cm e)) z⟩
  · obtain ⟨v, o, ho, _⟩ := I.cell y c (cm e)
    exact un.free c o ho (I.freeC y c (cm e)) List.not_mem_nil
/-- a lambda called -/
theorem lam_run {N0 : List Str} {k : Nat} {params : Arguments} {body : Expr} {pm ctv : Value} {Q : VK} {tb : TE} (I : Inv X pins σ H s) (L : LamP X.env.scope scope ps) (ns : NSee X scope N0 ps)
    (hf : s1.heap.get? f = some (PySem.W.kla_obj "<lambda>" (X.env.qual ++ "<lambda>") params body scope (cloFrom X.env.cells scope.names []) pm c' ctv)) (hc : H1 c' = some (CodeO c' (X.env.qual ++ "<lambda>")))
    (hb : bindArgs (PySem.W.kla_fn "<lambda>" (X.env.qual ++ "<lambda>") params body scope (cloFrom X.env.cells scope.names []) pm (.ref c') ctv) ⟨us, []⟩ = pure (ps.zip us))
    (e0 : Env0 X.prog X.w X.K X.mg X.base A outer s1 H1) (lim : s1.heap.NoLimit) (hr : Room (k + 1) A) (un : Un (frs X.stack) [] H H1 s.heap s1.heap) (r : Vals vs us) (hl : vs.length = ps.length)
    (bd : Room k (A.deeper (lamEnv X scope s1.heap.objs.size f c')) → PE (lcx X (N0 ++ ps) A outer s1 H1 E scope f c') body tb) (q : tb (σ ++ vs.map some) H1 Q) :
    codeAny (model X.prog X.w) A (.call (.ref f) ⟨us, []⟩) (CR (L2.CX X.prog X.w) outer X.prog X.w H1 s1 Q E) s1 := by
  obtain ⟨⟨oc, ws, t, g1, g2, g3⟩, _, _⟩ := e0.hok c' _ hc
  refine PySem.W.kla_callFunE hr.depth hf rfl L.co L.gen rfl ⟨c', oc, ws, t, rfl, g1, g2, g3⟩ ?_
  rw [hb]
  refine wpAny_pure (wpAny_newFunctionEnv (fun y hy => L.ncell y hy) (fun ⟨n, _⟩ hy => L.par n (List.of_mem_zip hy).1) (fun h1 hns hsb => ⟨lim.fresh _ hsb, ?_⟩) L.kind)
  have kp : ∀ b o, s1.heap.get? b = some o → h1.get? b = some o := fun b o e => hsb.extBut b o (Nat.ne_of_lt (Heap.lt_size e)) (Heap.get?_push_of_some _ e)
  have J : Inv (lcx X (N0 ++ ps) A outer s1 H1 E scope f c') [] (σ ++ vs.map some) H1 { s1 with heap := h1, toks := s1.toks + (ps.zip us).length } := lam_inv I L ns e0 hr.hd un r hl hns kp
  show codeAny _ _ (.expr body (lamEnv X scope s1.heap.objs.size f c')) _ _
  exact PySem.W.kla_codeExpr (wpAny_mono ((bd (hr.deeper _)).run [] _ _ H1 Q J q) (fun v s' ⟨w', H', J', rv, q⟩ => ⟨w', H', J'.os, J'.bare, J'.base, J'.hok, rv, q⟩) fun e s' z => z)
end
/-! ## an object of our own, untracked -/
def Ours (X : Cx) (pins : List (Addr × Obj)) (H : Hp) (b : Addr) : Prop :=
  H b = none ∧ b ≠ X.env.locals ∧ X.s_0.heap.objs.size ≤ b ∧ (∀ x c, X.env.cells.lookup x = some c → c ≠ b) ∧ (∀ p ∈ X.pn ++ pins, p.1 ≠ b) ∧ b ∉ X.fs
section
variable {X : Cx} {pins : List (Addr × Obj)} {σ : L2.St} {H : Hp} {s : Shared}
theorem ours_new (I : Inv X pins σ H s) {b : Addr} (h : s.heap.objs.size ≤ b) : Ours X pins H b := by
  refine ⟨I.hok.fresh h, fun z => ?_, Nat.le_trans I.sz h, fun x c e z => ?_, fun p m z => ?_, I.nofs h⟩
  · exact absurd (Nat.lt_of_lt_of_le (z ▸ I.lt) h) (Nat.lt_irrefl _)
  · obtain ⟨v, o, ho, _⟩ := I.cell x c e
    exact absurd (Nat.lt_of_lt_of_le (z ▸ Heap.lt_size ho) h) (Nat.lt_irrefl _)
  · exact absurd (Nat.lt_of_lt_of_le (z ▸ Heap.lt_size (I.pin p m).1) h) (Nat.lt_irrefl _)
theorem Inv.two {h' : Heap} {t : Nat} {a b : Addr} (I : Inv X pins σ H s) (k : ∀ c o, c ≠ a → c ≠ b → s.heap.get? c = some o → h'.get? c = some o) (ha : Ours X pins H a) (hb : Ours X pins H b) : Inv X pins σ H { s with heap := h', toks := t } := by
  have off : ∀ c u, H c = some u → c ≠ a ∧ c ≠ b := fun c u e => ⟨fun z => (by rw [z, ha.1] at e; cases e), fun z => (by rw [z, hb.1] at e; cases e)⟩
  have nin : ∀ {c : Addr}, c ∉ [a, b] → c ≠ a ∧ c ≠ b := fun n => ⟨fun z => n (by simp [z]), fun z => n (by simp [z])⟩
  refine I.step (g' := s.gens) (d' := s.drawn) (ch := [a, b]) (fun c hc => ?_) (fun c o _ _ n e _ => k c o (nin n).1 (nin n).2 e) (fun c o _ _ n e _ => ⟨o.slots, k c o (nin n).1 (nin n).2 e⟩) (fun _ _ _ _ n => n)
    (fun c o n e => ⟨o, k c o (nin n).1 (nin n).2 e⟩) (fun _ _ e => e) (fun _ _ _ e => e) (fun c ps e => ⟨#[], by rw [e]; simp⟩) (fun m ⟨o, es, ep, ho, q⟩ => ⟨o, es, ep, k _ o (Ne.symm ha.2.1) (Ne.symm hb.2.1) ho, q⟩) (fun c u e => ?_) I.bare
  · have hc : c = a ∨ c = b := by simpa using hc
    rcases hc with rfl | rfl
    · exact ⟨.inr ha.2.2.1, ha.2.1, ha.2.2.2.1, ha.2.2.2.2.1⟩
    · exact ⟨.inr hb.2.2.1, hb.2.1, hb.2.2.2.1, hb.2.2.2.2.1⟩
  · refine (I.hok c u e).stay (fun d v hd q => ?_) (fun _ q => q) fun _ _ q => q
    have nd : d ≠ a ∧ d ≠ b := by
      rcases hd with z | z
      · rw [z]; exact off c u e
      · exact off d _ z
    exact k d v nd.1 nd.2 q
/-! ## sorted by a key -/
/-- whole numbers, or pairs of such -/
def KeysV (K : PySem.W.Frag) (H : Hp) (ks : List V) (kz : List (Int × Int)) : Prop :=
  (ks = kz.map (fun p => V.int p.1) ∧ ∀ p ∈ kz, p.2 = 0) ∨ (Paired (fun k p => ∃ t, k = V.ref t ∧ SqT K H t [.int p.1, .int p.2]) ks kz)
def leP (a b : Int × Int) : Bool := decide (a.1 < b.1 ∨ (a.1 = b.1 ∧ a.2 ≤ b.2))
def sortBy {α : Type} (xs : List α) (kz : List (Int × Int)) : List α := ((xs.zip kz).mergeSort fun a b => leP a.2 b.2).map (·.1)
theorem sortBy_map {α β : Type} (f : α → β) (xs : List α) (kz : List (Int × Int)) : sortBy (xs.map f) kz = (sortBy xs kz).map f := by
  unfold sortBy
  rw [List.zip_map_left, ← List.map_mergeSort (f := Prod.map f id) (r := fun a b : α × (Int × Int) => leP a.2 b.2) (s := fun a b : β × (Int × Int) => leP a.2 b.2) (fun a _ b _ => rfl), List.map_map, List.map_map]
  rfl
theorem each_of {α β : Type} {F : α → β → Prop} : ∀ {xs : List α} {ys : List β}, Paired F xs ys → PySem.W.EachIs F xs ys := by
  intro xs ys h
  induction h with
  | nil => exact .nil
  | cons a _ ih => exact .cons a ih
theorem of_each {α β : Type} {F : α → β → Prop} : ∀ {xs : List α} {ys : List β}, PySem.W.EachIs F xs ys → Paired F xs ys := by
  intro xs ys h
  induction h with
  | nil => exact .nil
  | cons a _ ih => exact .cons a ih
theorem data_of (kz : List (Int × Int)) (t : Bool) : PySem.W.AllAlike (kz.map fun p => if t = true then PyData.int p.1 else .tuple [.int p.1, .int p.2]) ∧ PySem.W.Sortable (kz.map fun p => if t = true then PyData.int p.1 else .tuple [.int p.1, .int p.2]) ∧
    (∀ d ∈ kz.map fun p => if t = true then PyData.int p.1 else .tuple [.int p.1, .int p.2], d.depth ≤ 1) := by
  cases t with
  | true =>
    refine ⟨PySem.W.AllAlike.of fun _ _ => by simp [PySem.W.alike], PySem.W.Sortable.others fun b => ⟨by simp, fun xs => by simp⟩, fun d hd => ?_⟩
    obtain ⟨p, _, rfl⟩ := List.mem_map.mp hd
    simp [PyData.depth]
  | false =>
    refine ⟨PySem.W.AllAlike.of fun _ _ => by simp [PySem.W.alike, PySem.W.alikeAll], PySem.W.Sortable.tuples fun b => ⟨_, _, rfl⟩, fun d hd => ?_⟩
    obtain ⟨p, _, rfl⟩ := List.mem_map.mp hd
    simp [PyData.depth, PyData.depthAll]
/-- keys that are told are read -/
theorem keys_read {ks : List V} {kz : List (Int × Int)} {us : List Value} (I : Inv X pins σ H s) (h : KeysV X.K H ks kz) (r : Vals ks us) :
    ∃ t : Bool, (t = true → ∀ p ∈ kz, p.2 = 0) ∧ PySem.W.EachIs (fun v d => ∃ as, Reads s.heap v d as) us (kz.map fun p => if t = true then PyData.int p.1 else .tuple [.int p.1, .int p.2]) := by
  rcases h with ⟨e, z⟩ | h
  · refine ⟨true, fun _ => z, ?_⟩
    subst e
    simp only [if_true]
    clear z
    induction kz generalizing us with
    | nil => cases r; exact .nil
    | cons p kz ih =>
      cases r with
      | cons a b =>
        obtain ⟨t, rfl⟩ := a
        exact .cons ⟨[], .int _ _⟩ (ih b)
  · refine ⟨false, fun z => (by cases z), ?_⟩
    simp only [Bool.false_eq_true, if_false]
    induction h generalizing us with
    | nil => cases r; exact .nil
    | cons a b ih =>
      cases r with
      | cons q r =>
        obtain ⟨t, rfl, ht⟩ := a
        obtain ⟨its, ri, pt, _⟩ := I.tuple ht
        have pt : s.heap.IsTuple t its.toArray := pt
        obtain ⟨o, ho, hc, n, hd⟩ := pt
        refine .cons ⟨[], ?_⟩ (ih r)
        obtain rfl : _ = Value.ref t := q
        cases ri with
        | cons a1 r1 =>
          cases r1 with
          | cons a2 r2 =>
            cases r2
            obtain ⟨t1, rfl⟩ := a1
            obtain ⟨t2, rfl⟩ := a2
            exact .tuple ho hc hd (.cons (.int _ _) (.cons (.int _ _) .nil))
theorem each_zip {xs : List V} {us : List Value} {kz : List (Int × Int)} (r : Vals xs us) (hl : kz.length = xs.length) : PySem.W.EachIs (fun (v : Value) (b : V × (Int × Int)) => RelV b.1 v) us (xs.zip kz) := by
  induction r generalizing kz with
  | nil => cases kz <;> exact .nil
  | cons a b ih =>
    cases kz with
    | nil => simp at hl
    | cons p kz => exact .cons a (ih (by simpa using hl))
theorem dataLe_key (t : Bool) (kz : List (Int × Int)) (xs : List V) (hz : t = true → ∀ p ∈ kz, p.2 = 0) :
    (xs.zip kz).mergeSort (PySem.W.dataLe false fun b => if t = true then PyData.int b.2.1 else .tuple [.int b.2.1, .int b.2.2]) = (xs.zip kz).mergeSort fun a b => leP a.2 b.2 := by
  cases t with
  | true =>
    simp only [if_true]
    rw [PySem.W.dataLe_int (β := V × (Int × Int)) fun b => b.2.1]
    have q : List.map id ((xs.zip kz).mergeSort fun a b => decide (a.2.1 ≤ b.2.1)) = (List.map id (xs.zip kz)).mergeSort fun a b => leP a.2 b.2 := List.map_mergeSort (fun a ha b hb => by
      have e1 := hz rfl a.2 (List.of_mem_zip ha).2
      have e2 := hz rfl b.2 (List.of_mem_zip hb).2
      simp only [leP, id, e1, e2, Int.le_refl, and_true]
      exact decide_eq_decide.mpr Int.le_iff_lt_or_eq)
    simpa using q
  | false =>
    simp only [Bool.false_eq_true, if_false]
    rw [PySem.W.dataLe_ii (β := V × (Int × Int)) (fun b => b.2.1) fun b => b.2.2]
    rfl
theorem srt_core {l : Addr} {xs : List V} {fv : Value} {run : V → Hp → VK → Prop} {Q : VK} {E0 : Value → Shared → Prop} (I : Inv X pins σ H s) (hl : SqL X.K H l xs) (hu : X.A.units + 10 < cLine)
    (ht : ∀ a, Builtin.«list.sort» ⟨[.ref a], [(Str.ofString "key", fv)]⟩ = ksk_tree a fv false)
    (turn : ∀ (pl : List (Addr × Obj)) (s2 : Shared) (H2 : Hp) (u : Value) (v : V) (Q2 : VK), Inv X (pins ++ pl) σ H2 s2 → RelV v u → run v H2 Q2 → wpAny (model X.prog X.w) X.A.in1.in1 (call fv [u]) (EP X (pins ++ pl) σ Q2) (fun _ _ => False) s2)
    (W : Nat → List V → Hp → Prop) (w0 : W 0 [] H) (step : ∀ i ks H2 v, W i ks H2 → xs[i]? = some v → run v H2 fun k H3 => W (i + 1) (ks ++ [k]) H3)
    (fin : ∀ ks H2, W xs.length ks H2 → ∃ kz, KeysV X.K H2 ks kz ∧ ∀ p, H2 p = none → Q (.ref p) (upd H2 p (.lst (sortBy xs kz)))) :
    wpAny (model X.prog X.w) X.A (call (.builtin "sorted") [.ref l] [(Str.ofString "key", fv)]) (EP X pins σ Q) E0 s := by
  obtain ⟨its, rv, pl, hz⟩ := I.list hl
  have hlen := rv.length
  have hZ : its.length ≤ sizeLine := by rw [← hlen]; exact hz
  refine PySem.W.sorted_of_sort (vs := its) (by simpa using pl.isList) hZ (ksk_s1 _ _) (fun _ => ksk_l1 _ _) fun E' => ?_
  rw [ht]
  obtain ⟨a, ea⟩ : ∃ a, s.heap.objs.size + 1 = a := ⟨_, rfl⟩
  have ha0 : s.heap.objs.size ≤ a := by omega
  have ho := PySem.W.copyHeap_at s.heap its
  rw [ea] at ho ⊢
  obtain ⟨g, eg⟩ : ∃ g, PySem.W.copyHeap s.heap its = g := ⟨_, rfl⟩
  have gk : ∀ b o, s.heap.get? b = some o → g.get? b = some o := fun b o e => by rw [← eg]; exact PySem.W.copyHeap_old e
  rw [eg] at ho ⊢
  have hag : a < g.objs.size := Heap.lt_size ho
  obtain ⟨e1, ho1⟩ : ∃ e1, (g.update a (Obj.mapSeq fun _ => #[])).get? a = some (seqObj "list" #[] e1) := ⟨_, get?_update_seq ho fun _ => #[]⟩
  have gk1 : ∀ b o, s.heap.get? b = some o → (g.update a (Obj.mapSeq fun _ => #[])).get? b = some o := fun b o e => by
    rw [Heap.get?_update_ne _ _ _ _ (Nat.ne_of_lt (Nat.lt_of_lt_of_le (Heap.lt_size e) ha0))]
    exact gk b o e
  unfold ksk_tree
  refine wpAny_bind (listItems_at ho rfl ?_)
  refine wpAny_bind (listUpdate_at ho rfl ?_ (by rw [List.size_toArray]; exact hZ) (Nat.zero_le _))
  refine wpAny_bind (seqEpoch_at ho1 rfl ?_)
  refine wpAny_bind (wpAny_newTuple ?_ (by show its.length ≤ _; exact hZ))
  refine wpAny_bind (wpAny_newList ?_ (Nat.zero_le _))
  refine wpAny_holding ?_
  have hsz : ((g.update a (Obj.mapSeq fun _ => #[])).push (seqObj "tuple" its.toArray 0)).objs.size = g.objs.size + 1 := by rw [size_push', Heap.size_update]
  obtain ⟨kS, eS⟩ : ∃ kS, ((g.update a (Obj.mapSeq fun _ => #[])).push (seqObj "tuple" its.toArray 0)).objs.size = kS := ⟨_, rfl⟩
  have hkS : kS = g.objs.size + 1 := by rw [← eS, hsz]
  have hka : kS ≠ a := Nat.ne_of_gt (by rw [hkS]; exact Nat.lt_succ_of_lt hag)
  have ok0 : (((g.update a (Obj.mapSeq fun _ => #[])).push (seqObj "tuple" its.toArray 0)).push (seqObj "list" #[] 0)).get? kS = some (seqObj "list" #[] 0) := by
    have z := Heap.get?_push_size ((g.update a (Obj.mapSeq fun _ => #[])).push (seqObj "tuple" its.toArray 0)) (o := seqObj "list" #[] 0) rfl
    rw [eS] at z
    exact z
  have oa0 : (((g.update a (Obj.mapSeq fun _ => #[])).push (seqObj "tuple" its.toArray 0)).push (seqObj "list" #[] 0)).get? a = some (seqObj "list" #[] e1) := Heap.get?_push_of_some _ (Heap.get?_push_of_some _ ho1)
  have gk2 : ∀ b o, s.heap.get? b = some o → (((g.update a (Obj.mapSeq fun _ => #[])).push (seqObj "tuple" its.toArray 0)).push (seqObj "list" #[] 0)).get? b = some o := fun b o e => Heap.get?_push_of_some _ (Heap.get?_push_of_some _ (gk1 b o e))
  have oursA := ours_new I (b := a) ha0
  have oursS := ours_new I (b := kS) (by omega)
  have goodP : ∀ {H2 : Hp} {s2 : Shared} {kA : Array Value} {e : Nat}, Inv X pins σ H2 s2 → H2 a = none → H2 kS = none → s2.heap.get? a = some (seqObj "list" #[] e1) → s2.heap.get? kS = some (seqObj "list" kA e) →
      Inv X (pins ++ [(a, seqObj "list" #[] e1), (kS, seqObj "list" kA e)]) σ H2 s2 := fun {H2 s2 kA e} J na nk ga gS => J.pins_of fun p hp => by
    rcases List.mem_append.mp hp with h | h
    · exact J.pin p (List.mem_append_right _ h)
    · have h : p = (a, seqObj "list" #[] e1) ∨ p = (kS, seqObj "list" kA e) := by simpa using h
      rcases h with rfl | rfl
      · exact ⟨ga, na, oursA.2.1, oursA.2.2.2.2.2, fun v z => by cases z⟩
      · exact ⟨gS, nk, oursS.2.1, oursS.2.2.2.2.2, fun v z => by cases z⟩
  have I0 := goodP (I.kept (t' := s.toks) gk2) oursA.1 oursS.1 oa0 ok0
  obtain ⟨g2, eg2⟩ : ∃ g2, ((g.update a (Obj.mapSeq fun _ => #[])).push (seqObj "tuple" its.toArray 0)).push (seqObj "list" #[] 0) = g2 := ⟨_, rfl⟩
  rw [eg2] at I0
  show wpAny (model X.prog X.w) X.A.in1.in1 (ksk_rest a fv false its.toArray e1 (.ref _)) _ _ { s with heap := _ }
  rw [eS, eg2]
  unfold ksk_rest
  refine wpAny_bind (wpAny_rule ?_)
  first
    | rw [List.forIn_toArray]
    | (rw [← Array.forIn_toList]; simp only [List.toList_toArray])
  refine wpAny_bind (ksk_fold (fun i s' => ∃ H' kA e ks, Inv X (pins ++ [(a, seqObj "list" #[] e1), (kS, seqObj "list" kA e)]) σ H' s' ∧ Vals ks kA.toList ∧ ks.length = i ∧ W i ks H') its 0 _
    ⟨H, #[], 0, [], I0, .nil, rfl, w0⟩ ?step ?done)
  case step =>
    rintro j x s' hx ⟨H', kA, e, ks, J, rk, lk, w⟩
    simp only [Nat.zero_add] at lk w ⊢
    have hj : j < its.length := (List.getElem?_eq_some_iff.mp hx).1
    obtain ⟨v, ev, rx⟩ : ∃ v, xs[j]? = some v ∧ RelV v x := by
      have hj' : j < xs.length := by omega
      obtain ⟨u, eu, ru⟩ := rv.get (List.getElem?_eq_getElem hj')
      rw [hx] at eu
      cases eu
      exact ⟨_, List.getElem?_eq_getElem hj', ru⟩
    refine wpAny_bind (wpAny_attempt (wpAny_mono (turn _ s' H' x v _ J rx (step j ks H' v w ev)) (fun u s'' he => ?_) fun _ _ hF => hF.elim))
    obtain ⟨k, H3, J3, ru, w3⟩ := he
    dsimp only
    have pS := J3.pin (kS, seqObj "list" kA e) (by simp)
    have pA := J3.pin (a, seqObj "list" #[] e1) (by simp)
    have sb := Heap.SameBut.update s''.heap kS (Obj.mapSeq (·.push u))
    obtain ⟨c2, hc2⟩ : ∃ c2, (s''.heap.update kS (Obj.mapSeq (·.push u))).get? kS = some (seqObj "list" (kA.push u) c2) := ⟨_, get?_update_seq pS.1 (·.push u)⟩
    have hk : kA.size = j := by
      have z : kA.toList.length = ks.length := rk.length.symm
      rw [← lk, ← z, Array.length_toList]
    refine wpAny_bind (listUpdate_at pS.1 rfl ?_ (by omega) (by rw [Array.size_push]; omega))
    have Jp : Inv X pins σ H3 s'' := J3.pins_of fun p hp => J3.pin p (List.mem_append_right _ (List.mem_append_left _ hp))
    have oS : Ours X pins H3 kS := ⟨pS.2.1, oursS.2⟩
    have J4 := Inv.two (t := s''.toks) (h' := s''.heap.update kS (Obj.mapSeq (·.push u))) Jp (fun c o n _ q => (sb.2 c n).trans q) oS oS
    have ga : (s''.heap.update kS (Obj.mapSeq (·.push u))).get? a = some (seqObj "list" #[] e1) := (sb.2 a hka.symm).trans pA.1
    refine wpAny_pure ⟨rfl, H3, kA.push u, c2, ks ++ [k], goodP J4 pA.2.1 pS.2.1 ga hc2, by rw [Array.toList_push]; exact rk.append (.cons ru .nil), by simp [lk], w3⟩
  case done =>
    rintro s' ⟨H', kA, e, ks, J, rk, lk, w⟩
    simp only [Nat.zero_add] at lk w
    have pS := J.pin (kS, seqObj "list" kA e) (by simp)
    have pA := J.pin (a, seqObj "list" #[] e1) (by simp)
    have Jp : Inv X pins σ H' s' := J.pins_of fun p hp => J.pin p (List.mem_append_right _ (List.mem_append_left _ hp))
    rw [← hlen] at w
    obtain ⟨kz, hk, q⟩ := fin ks H' w
    obtain ⟨t, hz0, rd⟩ := keys_read J hk rk
    obtain ⟨al, sl, dp⟩ := data_of kz t
    have hk2 : kA.size = its.length := by
      have z : kA.toList.length = ks.length := rk.length.symm
      rw [← lk, ← z, Array.length_toList]
    have lz : kz.length = xs.length := by
      have h1 := rd.length
      rw [List.length_map, Array.length_toList] at h1
      omega
    refine wpAny_bind (listItems_at pS.1 rfl ?_)
    refine PySem.W.keyH_end (κ := PySem.W.dataKind s'.heap (kz.map fun p => if t = true then PyData.int p.1 else .tuple [.int p.1, .int p.2])) (h₁ := PySem.W.hideAll s'.heap [kS]) (fun b o _ q => PySem.W.of_hideAll _ q) (PySem.W.hideAll_none _ (by simp)) pS.1 pA.1 hka
      (PySem.W.SortsAt.data rd al sl fun d hd => ?_) hk2 hZ fun h' tk c kp hA => ⟨rfl, ?_⟩
    · have := dp d hd
      have e2 : X.A.in1.in1.units = X.A.units + 2 := rfl
      omega
    · have J5 := Inv.two (t := tk) (h' := h') (a := a) (b := kS) Jp (fun c o n1 n2 q => kp c o n1 (PySem.W.hideAll_get _ q (by simpa using n2))) ⟨pA.2.1, oursA.2⟩ ⟨pS.2.1, oursS.2⟩
      have out := PySem.W.keyedOut_each (rev := false) (β := V × (Int × Int)) (fun b => if t = true then PyData.int b.2.1 else .tuple [.int b.2.1, .int b.2.2]) (R := fun v b => RelV b.1 v) (bs := xs.zip kz) (vs := its)
        (out := PySem.W.sortVals (PySem.W.dataKind s'.heap (kz.map fun p => if t = true then PyData.int p.1 else .tuple [.int p.1, .int p.2])) false kA.toList its)
        ⟨s'.heap, kA.toList, ?_, ?_, ?_⟩ (each_zip rv lz)
      · rw [dataLe_key t kz xs hz0] at out
        have out2 : Vals (sortBy xs kz) (PySem.W.sortVals (PySem.W.dataKind s'.heap (kz.map fun p => if t = true then PyData.int p.1 else .tuple [.int p.1, .int p.2])) false kA.toList its) := by
          unfold sortBy
          generalize (xs.zip kz).mergeSort _ = bs at out
          generalize PySem.W.sortVals _ _ _ _ = os at out ⊢
          clear hk rd al sl dp w J pS pA Jp q J5 kp hA
          induction out with
          | nil => exact .nil
          | cons a b ih => exact .cons a ih
        have n0 : X.s_0.heap.get? a = none := Heap.get?_none_of_le oursA.2.2.1
        have J6 := Inv.trackE (o := .lst (sortBy xs kz)) J5 pA.2.1 n0 oursA.2.1 oursA.2.2.2.2.1 oursA.2.2.2.1 ⟨by
          rw [out2.length, PySem.W.sortVals_length _ (by rw [Array.length_toList]; exact hk2)]
          exact hZ, _, c, out2, hA⟩
        exact ⟨.ref a, _, J6, rfl, q a pA.2.1⟩
      all_goals
        have em : (xs.zip kz).map (fun b => if t = true then PyData.int b.2.1 else .tuple [.int b.2.1, .int b.2.2]) = kz.map fun p => if t = true then PyData.int p.1 else .tuple [.int p.1, .int p.2] := by
          have e3 : (xs.zip kz).map Prod.snd = kz := List.map_snd_zip (by omega)
          conv => rhs; rw [← e3]
          rw [List.map_map]
          rfl
        rw [em]
      · exact al
      · exact rd
end
end Mir

set_option autoImplicit true
namespace Mir
open PySem PySem.W
section
variable {prog : Program} {w : World} {A : Around} {E : Value → Shared → Prop} {s : Shared} {K : Frag} {x C : Addr} {ox : Obj} {od : Option Obj}
/-- an own thing without __eq__ is equal to itself -/
theorem try_same {Q : Option Value → Shared → Prop} (X : K.In s.heap) (I : InstAt s.heap x ox C od) (hs : findIn K (.ref C) "__eq__" = some (some (.builtin "object.__eq__"))) (hm : mroIn K C (.type "object") = some true)
    (h : Q (some (.bool true)) s) : wpAny (model prog w) A (tryCompare (.ref x) "__eq__" (.ref x)) Q E s := by
  unfold tryCompare
  refine wpAny_bind ?_
  simp only [callSpecialIfBound?, bindSpecialIfBound?]
  refine wpAny_holding (wpAny_bind (wpAny_bind (wpAny_bind (I.type.here ((looks_findIn X hs).here ?_)))))
  refine wpAny_bind (wpAny_askSetting (wpAny_ite ?_))
  have L1 := looks_mroIn (M := model prog w) X hm
  have t2 : Looks (model prog w) s.heap (isInstance (.ref x) (.type "object")) true := I.type.andThen L1
  have call1 : wpAny (model prog w) A (call (.builtin "object.__eq__") [.ref x, .ref x]) (fun v s' => v = .bool true ∧ s' = s) E s := by
    obtain ⟨hh, g, d, t, os⟩ := s
    refine wpAny_call (codeAny_call_builtin PySem.F.cmp_object.eq.plain PySem.F.cmpEntry_eq (@check_slot (model prog w) _ _ _ "object.__eq__" "object" "__eq__" (.ref x) [.ref x] [] _ PySem.F.cmpKind_eq PySem.F.cmpSplit_eq t2 (PySem.F.cmpArgs_eq _ _) ?_))
    exact objEq_entry_same ⟨rfl, rfl⟩
  have fin : wpAny (model prog w) A (call (.builtin "object.__eq__") ([.ref x] ++ [.ref x]) >>= fun v => pure (some v)) (fun r s' => r = some (.bool true) ∧ s' = s) E s :=
    wpAny_bind (wpAny_mono call1 (fun v s' h' => wpAny_pure ⟨by rw [h'.1], h'.2⟩) fun _ _ h' => h')
  have last : ∀ (r : Option Value) (s' : Shared), r = some (.bool true) ∧ s' = s → wpAny (model prog w) A (match r with
      | some .notImplemented => pure none
      | none => pure none
      | some v => pure (some v)) Q E s' := fun r s' e => by
    obtain ⟨rfl, rfl⟩ := e
    exact wpAny_pure h
  have eb : bindSpecial (.builtin "object.__eq__") (.ref x) = pure (.builtin "object.__eq__", [.ref x]) := PySem.F.cmp_object.eq.bind (.ref x)
  split
  · refine wpAny_bind ((Looks.of_pure eb).here (wpAny_pure ?_))
    exact wpAny_mono fin (fun r s' e => last r s' e) fun _ _ h' => h'
  · refine wpAny_tryCatch (wpAny_bind ((Looks.of_pure eb).here (wpAny_pure ?_)))
    exact wpAny_mono fin (fun r s' e => last r s' e) fun _ _ h' => h'
theorem eq_same_K {Q : Value → Shared → Prop} (hu : A.units < cLine) (X : K.In s.heap) (I : InstAt s.heap x ox C od) (hs : findIn K (.ref C) "__eq__" = some (some (.builtin "object.__eq__"))) (hm : mroIn K C (.type "object") = some true)
    (h : Q (.bool true) s) : wpAny (model prog w) A (compareOp .Eq (.ref x) (.ref x)) Q E s := by
  show wpAny (model prog w) A (richCompare .Eq (.ref x) (.ref x)) Q E s
  unfold richCompare
  simp only [oneThing_ref]
  refine wpAny_holding (wpAny_bind (wpAny_cRoomFor hu ?_))
  refine wpAny_bind (I.type.here (wpAny_bind (I.type.here ?_)))
  split
  · rename_i q
    simp at q
  · refine wpAny_bind (wpAny_pure ?_)
    simp only [Bool.false_eq_true, if_false]
    refine wpAny_bind (try_same X I hs hm ?_)
    exact wpAny_pure h
end
end Mir

set_option autoImplicit true
namespace Mir
open PySem L2
open PyProof.Rows hiding St

/-! ## values, cells, environments of the small language -/
inductive PV where
  | non | bl (b : Bool) | int (i : Int) | str (x : Str) | tup (xs : List PV) | fl (xs : List PV) | loc (a : Addr)
instance : Inhabited PV := ⟨.non⟩

inductive Cell where
  | lst (xs : List PV)
  | dct (f : Bool) (kvs : List (Key × PV))
  | ins (c : Nat) (fs : List (Nat × PV))
  | exc (c : Nat)
  | dctT (kvs : List (List Key × PV))

abbrev PH := Addr → Option Cell
abbrev PEnv := List (Option PV)
def pup (h : PH) (a : Addr) (c : Cell) : PH := fun b => if b = a then some c else h b
theorem pup_same {h : PH} {a : Addr} {c : Cell} : pup h a c a = some c := by simp [pup]
theorem pup_ne {h : PH} {a b : Addr} {c : Cell} (n : b ≠ a) : pup h a c b = h b := by simp [pup, n]
theorem pup_pup {h : PH} {a : Addr} {c d : Cell} : pup (pup h a c) a d = pup h a d := by
  funext b; simp only [pup]; split <;> rfl
/-- less is seen -/
def PLe (h h' : PH) : Prop := ∀ a c, h a = some c → h' a = some c
theorem PLe.refl (h : PH) : PLe h h := fun _ _ e => e
theorem PLe.trans {a b c : PH} (x : PLe a b) (y : PLe b c) : PLe a c := fun _ _ e => y _ _ (x _ _ e)
theorem PLe.new {h : PH} {p : Addr} {c : Cell} (n : h p = none) : PLe h (pup h p c) := fun a d e => by
  have : a ≠ p := fun z => by subst z; rw [n] at e; cases e
  rw [pup_ne this]; exact e

/-! ## syntax -/
inductive BinK where | add | sub | mul | div | mod | pow
inductive CmpK where | lt | le | gt | ge | eq | ne | isn | notn | isin | notin
/-- kinds for isinstance -/
inductive TyK where | int | bool | str | list | dict | tuple | own (c : Nat)
inductive BltK where | len | abs | int | str | sum | all | any | max | min | sorted | list | dict | tuple | ord | divmod
inductive BmK where | append | extend | popAt | get | setdefault | update | popK | clearL | clearD | join | split | find | startswith | upper | index | count | countL | items | values

mutual
inductive E where
  | var (i : Nat) | int (i : Int) | str (s : Str) | bl (b : Bool) | non
  | glob (g : Nat)
  | bin (op : BinK) (a b : E) | neg (a : E)
  | cmp (op : CmpK) (a b : E) | same (a b : E) | chain (o p : CmpK) (a b c : E)
  | and (a b : E) | or (a b : E) | not (a : E)
  | ite (c : B) (a b : E)
  | sub (a i : E) | slice (a : E) (lo hi : O)
  | tup (es : Es) | lst (es : Es) | dict0 | dict (es : Es)
  | fld (e : E) (f : Nat)
  | call (f : Nat) (es : Es) | meth (o : E) (m : Nat) (es : Es) | make (c : Nat) (es : Es)
  | blt (b : BltK) (es : Es) | bm (m : BmK) (o : E) (es : Es)
  | isi (e : E) (t : TyK)
  | isx (e : E) (k : Option Nat) | make0 (c : Nat) | rev (e : E)
  | comp (elt : E) (t : T) (it : I) (ifs : Bs) (ws : List (Str × Nat))
  | compD (elt : E) (t : T) (e : E) (ifs : Bs) (ws : List (Str × Nat))
  | listItems (e : E)
  | sortK (e : E) (k : KF)
  | dictT0 | getT (o : E) (ks : Es) (d : E) | subT (o : E) (ks : Es)
  | lamCall (f : Nat) (b : E)
/-- a key: a lambda of one parameter, its body over one slot more, or a def -/
inductive KF where
  | lam (p : Str) (b : E) | fn (f : Nat)
inductive Es where
  | nil | cons (e : E) (es : Es)
inductive O where
  | non | some (e : E)
/-- tests -/
inductive B where
  | val (e : E) | and (a b : B) | or (a b : B) | not (a : B)
inductive Bs where
  | nil | one (b : B)
/-- what is walked -/
inductive I where
  | ex (e : E) | range1 (e : E) | range2 (a b : E) | range3 (a b : E) (k : Int) | enum (e : E)
/-- targets -/
inductive T where
  | nm (i : Nat) | tup (ts : Ts)
inductive Ts where
  | nil | cons (t : T) (ts : Ts)
end

mutual
inductive S where
  | skip | brk | cont
  | expr (e : E) | ret (e : E) | retN
  | set (i : Nat) (e : E) | setC (i : Nat) (e : E) | setT (ts : Ts) (e : E) | setL (ts : Ts) (e : E) | par (i j : Nat) (a b : E)
  | aug (i : Nat) (op : BinK) (e : E)
  | fldSet (o : E) (f : Nat) (e : E) | fldAug (o : E) (f : Nat) (op : BinK) (e : E)
  | subSet (o i e : E) | subAug (o i : E) (op : BinK) (e : E) | subSetT (o : E) (ks : Es) (e : E)
  | ite (c : B) (a b : Ss)
  | while (c : B) (b : Ss)
  | raise (k : Nat) | tryAs (b : Ss) (k i j : Nat) | tryO (b : Ss) (k i : Nat) (v : Option Bool)
  | for (t : T) (it : I) (b : Ss) | forD (t : T) (items : Bool) (e : E) (b : Ss)
inductive Ss where
  | nil | cons (s : S) (ss : Ss)
end

/-! ## the program as a table -/
structure FnI where
  np : Nat
  ns : Nat
  body : Ss
  dflt : List PV
/-- a def of one parameter, to which a lambda without parameters is handed: caught = None (found = None ahead, where fd), try: (found =) it() except k as e: caught = e, then the rest -/
structure LmI where
  fd : Bool
  ns : Nat
  k : Nat
  body : Ss
structure Sig where
  nm : List Str
  fn : Nat → Option FnI
  me : Nat → Nat → Option Nat
  ini : Nat → Option Nat
  fl : Nat → Nat → Bool
  isa : Nat → Nat → Option Bool
  gl : Nat → Option PV
  in0 : Nat → Bool
  exc : Nat → Bool
  exm : Nat → Nat → Option Bool
  inc : Nat → Bool
  isz : Nat → Bool
  isv : Nat → Option Bool
  eqs : Nat → Bool
  lf : Nat → Option LmI

/-! ## meanings -/
abbrev QE := PV → PH → Prop
abbrev XE := Nat → PH → Prop
/-- call: a def's call; lam: the call of a def to which a lambda is handed, the lambda's meaning here -/
structure CallS where
  call : Nat → List PV → PH → QE → XE → Prop
  lam : Nat → (QE → XE → Prop) → QE → Prop
instance : CoeFun CallS fun _ => Nat → List PV → PH → QE → XE → Prop := ⟨CallS.call⟩
structure PD where
  nx : PEnv → PH → Prop
  rt : QE
  bk : PEnv → PH → Prop
  ct : PEnv → PH → Prop
  ex : Nat → PEnv → PH → Prop

/-- the defaults of what isn't given -/
def padD (G : Sig) (f : Nat) (vs : List PV) : List PV := match G.fn f with
  | some d => vs ++ d.dflt.drop (d.dflt.length - (d.np - vs.length))
  | none => vs
def CMulP (i j : Int) : Prop := CMul i j ∨ CMulW i j
def CDivP (i j : Int) : Prop := CDiv i j ∨ CDivW i j
def binV : BinK → PV → PV → PH → QE → Prop
  | .add, .int i, .int j, h, Q => Q (.int (i + j)) h
  | .add, .str i, .str j, h, Q => i.length + j.length ≤ sizeLine ∧ Q (.str (i ++ j)) h
  | .add, .tup i, .tup j, h, Q => i ≠ [] ∧ i.length + j.length ≤ sizeLine ∧ Q (.tup (i ++ j)) h
  | .add, .loc a, .loc b, h, Q => match h a, h b with
    | some (.lst xs), some (.lst ys) => xs.length + ys.length ≤ sizeLine ∧ ∀ p, h p = none → Q (.loc p) (pup h p (.lst (xs ++ ys)))
    | _, _ => False
  | .sub, .int i, .int j, h, Q => Q (.int (i - j)) h
  | .mul, .int i, .int j, h, Q => CMulP i j ∧ Q (.int (i * j)) h
  | .mul, .str x, .int n, h, Q => MulOk x n ∧ Q (.str (Txt.mul x n)) h
  | .div, .int i, .int j, h, Q => CDivP i j ∧ Q (.int (i / j)) h
  | .mod, .int i, .int j, h, Q => 0 < j ∧ Q (.int (i % j)) h
  | .pow, .int i, .int j, h, Q => CPow i j ∧ Q (.int (i ^ j.toNat)) h
  | _, _, _, _, _ => False


mutual
def peq : PV → PV → Bool
  | .non, .non => true
  | .bl a, .bl b => a == b
  | .bl a, .int j => (if a then 1 else 0) == j
  | .int i, .bl b => i == (if b then 1 else 0)
  | .int i, .int j => i == j
  | .str x, .str y => x == y
  | .tup xs, .tup ys => peqs xs ys
  | _, _ => false
def peqs : List PV → List PV → Bool
  | [], [] => true
  | x :: xs, y :: ys => peq x y && peqs xs ys
  | _, _ => false
end
/-- no place within, of nesting at most n -/
def pure : Nat → PV → Bool
  | _, .loc _ => false
  | _, .fl _ => false
  | n + 1, .tup xs => xs.all (pure n)
  | 0, .tup _ => false
  | _, _ => true
/-- a op= b -/
def augV : BinK → PV → PV → PH → QE → Prop
  | .add, .int i, .int j, h, Q => Q (.int (i + j)) h
  | .add, .str i, .str j, h, Q => i.length + j.length ≤ sizeLine ∧ Q (.str (i ++ j)) h
  | .add, .loc a, .loc b, h, Q => match h a, h b with
    | some (.lst xs), some (.lst ys) => xs.length + ys.length ≤ sizeLine ∧ Q (.loc a) (pup h a (.lst (xs ++ ys)))
    | _, _ => False
  | .sub, .int i, .int j, h, Q => Q (.int (i - j)) h
  | .mul, .int i, .int j, h, Q => CMul i j ∧ Q (.int (i * j)) h
  | _, _, _, _, _ => False
def deqL (f : PV → PV → Option Bool) : List PV → List PV → Option Bool
  | [], [] => some true
  | x :: xs, y :: ys => match f x y, deqL f xs ys with
    | some a, some b => some (a && b)
    | _, _ => none
  | _, _ => some false
/-- == of data, lists looked up, of nesting at most n -/
def deq (h : PH) : Nat → PV → PV → Option Bool
  | _, .non, .non => some true
  | _, .bl a, .bl b => some (a == b)
  | _, .int i, .int j => some (i == j)
  | _, .str x, .str y => some (x == y)
  | _, .bl a, .int j => some ((if a then 1 else 0) == j)
  | _, .int i, .bl b => some (i == (if b then 1 else 0))
  | _, .non, .bl _ => some false
  | _, .non, .int _ => some false
  | _, .non, .str _ => some false
  | _, .bl _, .non => some false
  | _, .bl _, .str _ => some false
  | _, .int _, .non => some false
  | _, .int _, .str _ => some false
  | _, .str _, .non => some false
  | _, .str _, .bl _ => some false
  | _, .str _, .int _ => some false
  | _ + 1, .tup _, .non => some false
  | _ + 1, .non, .tup _ => some false
  | _ + 1, .tup _, .int _ => some false
  | _ + 1, .int _, .tup _ => some false
  | _ + 1, .tup _, .str _ => some false
  | _ + 1, .str _, .tup _ => some false
  | n + 1, .tup xs, .tup ys => deqL (deq h n) xs ys
  | n + 1, .loc a, .loc b => match h a, h b with
    | some (.lst xs), some (.lst ys) => deqL (deq h n) xs ys
    | _, _ => none
  | _, _, _ => none
def dhit (f : PV → PV → Option Bool) (ls : List (Key × PV)) : List (Key × PV) → Option Bool
  | [] => some true
  | (k, v) :: r => match (ls.find? fun kv => decide (kv.1 = k)).map (·.2) with
    | none => some false
    | some u => match f v u, dhit f ls r with
      | some a, some b => some (a && b)
      | _, _ => none
def eqK (h : PH) (x y : PV) (Q : Bool → Prop) : Prop :=
  match x, y with
  | .loc a, .loc b => match h a, h b with
    | some (.dct false ks), some (.dct false ls) => if ks.length = ls.length then (match dhit (deq h 20) ls ks with
        | some k => Q k
        | none => False) else Q false
    | _, _ => match deq h 20 x y with
      | some k => Q k
      | none => False
  | _, _ => match deq h 20 x y with
    | some k => Q k
    | none => False
def signs (s : Str) : List PV := s.cps.toList.map fun c => .str ⟨#[c]⟩
def kP : Key → PV
  | .inl i => .int i
  | .inr s => .str s
def toKey : PV → Option Key
  | .int i => some (.inl i)
  | .str s => some (.inr s)
  | _ => none
def flatP : PV → Bool
  | .non | .bl _ | .int _ | .str _ => true
  | _ => false
def pIn (x : PV) (xs : List PV) : Bool := xs.any fun y => peq y x
def valP (kvs : List (Key × PV)) (k : Key) : Option PV := (kvs.find? fun kv => decide (kv.1 = k)).map (·.2)
def putP (kvs : List (Key × PV)) (k : Key) (v : PV) : List (Key × PV) :=
  if (kvs.any fun kv => decide (kv.1 = k)) = true then kvs.map (fun kv => if kv.1 = k then (kv.1, v) else kv) else kvs ++ [(k, v)]
def dropP (kvs : List (Key × PV)) (k : Key) : List (Key × PV) := kvs.filter fun kv => decide (kv.1 ≠ k)
/-- x in c -/
def inK (h : PH) (x c : PV) (Q : Bool → Prop) : Prop :=
  match c with
  | .tup xs => flatP x = true ∧ xs.all flatP = true ∧ Q (pIn x xs)
  | .fl xs => flatP x = true ∧ xs.all flatP = true ∧ Q (pIn x xs)
  | .loc a => match h a with
    | some (.lst xs) => flatP x = true ∧ xs.all flatP = true ∧ Q (pIn x xs)
    | some (.dct _ kvs) => match toKey x with
      | some k => Q (valP kvs k).isSome
      | none => False
    | _ => False
  | .str z => match x with
    | .str w => match w.cps.toList with
      | [c] => Q (decide (c ∈ z.cps.toList))
      | _ => False
    | _ => False
  | _ => False
def cmpV : CmpK → PV → PV → PH → (Bool → Prop) → Prop
  | .lt, .int i, .int j, _, Q => Q (decide (i < j))
  | .le, .int i, .int j, _, Q => Q (decide (i ≤ j))
  | .gt, .int i, .int j, _, Q => Q (decide (j < i))
  | .ge, .int i, .int j, _, Q => Q (decide (j ≤ i))
  | .lt, .str i, .str j, _, Q => Q (decide (i.cps.toList < j.cps.toList))
  | .le, .str i, .str j, _, Q => Q (!decide (j.cps.toList < i.cps.toList))
  | .gt, .str i, .str j, _, Q => Q (decide (j.cps.toList < i.cps.toList))
  | .ge, .str i, .str j, _, Q => Q (!decide (i.cps.toList < j.cps.toList))
  | .eq, x, y, h, Q => eqK h x y Q
  | .ne, x, y, h, Q => eqK h x y fun b => Q (!b)
  | .isn, .bl a, .bl b, _, Q => Q (decide (a = b))
  | .notn, .bl a, .bl b, _, Q => Q (!decide (a = b))
  | .isn, x, .non, _, Q => Q (match x with | .non => true | _ => false)
  | .notn, x, .non, _, Q => Q (!(match x with | .non => true | _ => false))
  | .isin, x, c, h, Q => inK h x c Q
  | .notin, x, c, h, Q => inK h x c fun b => Q (!b)
  | _, _, _, _, _ => False
def truV (x : PV) (h : PH) (Q : Bool → Prop) : Prop :=
  match x with
  | .non => Q false
  | .bl b => Q b
  | .int i => Q (i != 0)
  | .str s => s.length ≤ sizeLine ∧ Q ((s.length : Int) != 0)
  | .tup xs => Q (!xs.isEmpty)
  | .fl xs => Q (!xs.isEmpty)
  | .loc a => match h a with
    | some (.lst xs) => Q (!xs.isEmpty)
    | some (.dct false kvs) => Q (!kvs.isEmpty)
    | _ => False
/-- a[i] -/
def subV (a i : PV) (h : PH) (Q : QE) : Prop :=
  match a with
  | .fl xs => match i with
    | .int j => match atI xs j with
      | some v => Q v h
      | none => False
    | _ => False
  | .tup xs => match i with
    | .int j => match atI xs j with
      | some v => Q v h
      | none => False
    | _ => False
  | .str z => match i with
    | .int j => z.length ≤ sizeLine ∧ match atI z.cps.toList j with
      | some c => Q (.str ⟨#[c]⟩) h
      | none => False
    | _ => False
  | .loc p => match h p with
    | some (.lst xs) => match i with
      | .int j => match atI xs j with
        | some v => Q v h
        | none => False
      | _ => False
    | some (.dct _ kvs) => match toKey i with
      | some k => match valP kvs k with
        | some v => Q v h
        | none => False
      | none => False
    | _ => False
  | _ => False
def cutP (xs : List PV) (lo hi : Option Int) : List PV := (xs.drop (HT.sIx xs.length 0 lo)).take (HT.sIx xs.length xs.length hi - HT.sIx xs.length 0 lo)
def sliV (a : PV) (lo hi : Option Int) (h : PH) (Q : QE) : Prop :=
  match a with
  | .str z => z.length ≤ sizeLine ∧ Q (.str (cutS z lo hi)) h
  | .tup xs => ¬ (HT.sIx xs.length 0 lo = 0 ∧ HT.sIx xs.length xs.length hi = xs.length) ∧ Q (.tup (cutP xs lo hi)) h
  | .fl xs => ∀ q, h q = none → Q (.loc q) (pup h q (.lst (cutP xs lo hi)))
  | .loc p => match h p with
    | some (.lst xs) => ∀ q, h q = none → Q (.loc q) (pup h q (.lst (cutP xs lo hi)))
    | _ => False
  | _ => False
/-- what a value walks: its items, and what must stay -/
def seqK (x : PV) (h : PH) (K : List PV → (PH → Prop) → Prop) : Prop :=
  match x with
  | .tup xs => K xs fun _ => True
  | .fl xs => K xs fun _ => True
  | .str s => K (signs s) fun _ => True
  | .loc a => match h a with
    | some (.lst xs) => K xs fun h' => h' a = some (.lst xs)
    | _ => False
  | _ => False
def lenV (x : PV) (h : PH) (Q : Nat → Prop) : Prop :=
  match x with
  | .str s => s.length ≤ sizeLine ∧ Q s.length
  | .tup xs => Q xs.length
  | .fl xs => Q xs.length
  | .loc a => match h a with
    | some (.lst xs) => Q xs.length
    | some (.dct _ kvs) => Q kvs.length
    | _ => False
  | _ => False
def intsP : List PV → Option (List Int)
  | [] => some []
  | .int i :: r => (intsP r).map (i :: ·)
  | _ => none
def strsP : List PV → Option (List Str)
  | [] => some []
  | .str i :: r => (strsP r).map (i :: ·)
  | _ => none
def blsP : List PV → Option (List Bool)
  | [] => some []
  | .bl i :: r => (blsP r).map (i :: ·)
  | _ => none
/-- the items of a list or tuple -/
def itemsK (x : PV) (h : PH) (K : List PV → Prop) : Prop :=
  match x with
  | .tup xs => K xs
  | .fl xs => K xs
  | .loc a => match h a with
    | some (.lst xs) => K xs
    | _ => False
  | _ => False
def listK (x : PV) (h : PH) (K : List PV → Prop) : Prop :=
  match x with
  | .fl xs => K xs
  | .loc a => match h a with
    | some (.lst xs) => K xs
    | _ => False
  | _ => False
def pairsP : List PV → Option (List (Key × PV))
  | [] => some []
  | .tup [k, v] :: r => match toKey k with
    | some k => (pairsP r).map ((k, v) :: ·)
    | none => none
  | _ => none
def pairUp : List PV → Option (List (Key × PV))
  | [] => some []
  | k :: v :: r => match toKey k, pairUp r with
    | some k, some r => some ((k, v) :: r)
    | _, _ => none
  | [_] => none
def mergeP (kvs more : List (Key × PV)) : List (Key × PV) := more.foldl (fun acc kv => putP acc kv.1 kv.2) kvs
/-- sorted of ints, of texts -/
def sortK (xs : List PV) (Q : List PV → Prop) : Prop :=
  match intsP xs with
  | some ns => ns.length < 64 ∧ ∀ ns' : List Int, ns'.Perm ns → ns'.Pairwise (· ≤ ·) → Q (ns'.map .int)
  | none => match strsP xs with
    | some zs => zs.length < 64 ∧ ∀ ys : List Str, ys.Perm zs → sortedS ys = true → Q (ys.map .str)
    | none => False
def bltV : BltK → List PV → PH → QE → Prop
  | .len, [x], h, Q => lenV x h fun n => Q (.int n) h
  | .abs, [.int i], h, Q => Q (.int (if i < 0 then -i else i)) h
  | .int, [.int i], h, Q => Q (.int i) h
  | .int, [.bl b], h, Q => Q (.int (if b then 1 else 0)) h
  | .int, [.str s], h, Q => match PySem.intText? s with
    | some n => s.length ≤ 640 ∧ Q (.int n) h
    | none => False
  | .str, [.int i], h, Q => i.natAbs.log2 < 1920 ∧ Q (.str (toString i)) h
  | .sum, [x], h, Q => listK x h fun xs => match intsP xs with
    | some ns => Q (.int ns.sum) h
    | none => False
  | .all, [x], h, Q => listK x h fun xs => match blsP xs with
    | some bs => Q (.bl (bs.all id)) h
    | none => False
  | .any, [x], h, Q => listK x h fun xs => match blsP xs with
    | some bs => Q (.bl (bs.any id)) h
    | none => False
  | .max, [.int i, .int j], h, Q => Q (.int (if j > i then j else i)) h
  | .max, [.loc a], h, Q => match h a with
    | some (.lst xs) => match intsP xs with
      | some ns => 0 < ns.length ∧ ∀ m, m ∈ ns → (∀ y, y ∈ ns → y ≤ m) → Q (.int m) h
      | none => False
    | _ => False
  | .min, [.loc a], h, Q => match h a with
    | some (.lst xs) => match intsP xs with
      | some ns => 0 < ns.length ∧ ∀ m, m ∈ ns → (∀ y, y ∈ ns → m ≤ y) → Q (.int m) h
      | none => False
    | _ => False
  | .min, [.int i, .int j], h, Q => Q (.int (if j < i then j else i)) h
  | .divmod, [.int i, .int j], h, Q => CDiv i j ∧ Q (.tup [.int (i / j), .int (i % j)]) h
  | .sorted, [.loc a], h, Q => match h a with
    | some (.lst xs) => sortK xs fun ys => ∀ p, h p = none → Q (.loc p) (pup h p (.lst ys))
    | some (.dct _ kvs) => sortK (kvs.map fun kv => kP kv.1) fun ys => ∀ p, h p = none → Q (.loc p) (pup h p (.lst ys))
    | _ => False
  | .list, [x], h, Q => match x with
    | .tup xs => ∀ p, h p = none → Q (.loc p) (pup h p (.lst xs))
    | .fl xs => ∀ p, h p = none → Q (.loc p) (pup h p (.lst xs))
    | .loc a => match h a with
      | some (.lst xs) => ∀ p, h p = none → Q (.loc p) (pup h p (.lst xs))
      | some (.dct _ kvs) => ∀ p, h p = none → Q (.loc p) (pup h p (.lst (kvs.map fun kv => kP kv.1)))
      | _ => False
    | _ => False
  | .dict, [.loc a], h, Q => match h a with
    | some (.lst xs) => match pairsP xs with
      | some kvs => ∀ p, h p = none → Q (.loc p) (pup h p (.dct false (mergeP [] kvs)))
      | none => False
    | some (.dct _ kvs) => ∀ p, h p = none → Q (.loc p) (pup h p (.dct false kvs))
    | _ => False
  | _, _, _, _ => False
/-- whose method: a list's, a dict's, a text's -/
inductive BtK where | list | dict | str
def bmT : BmK → BtK
  | .append | .extend | .popAt | .clearL | .index | .countL => .list
  | .get | .setdefault | .update | .popK | .clearD | .items | .values => .dict
  | .join | .split | .find | .startswith | .upper | .count => .str
def tyP (t : BtK) (x : PV) (h : PH) : Prop :=
  match x with
  | .loc a => match h a with
    | some (.lst _) => match t with | .list => True | _ => False
    | some (.dct false _) => match t with | .dict => True | _ => False
    | _ => False
  | .fl _ => match t with | .list => True | _ => False
  | .str _ => match t with | .str => True | _ => False
  | _ => False
def bmV : BmK → PV → List PV → PH → QE → Prop
  | .append, .loc a, [y], h, Q => match h a with
    | some (.lst xs) => xs.length < sizeLine ∧ Q .non (pup h a (.lst (xs ++ [y])))
    | _ => False
  | .get, .loc a, [k, d], h, Q => match h a with
    | some (.dct _ kvs) => match toKey k with
      | some k => Q ((valP kvs k).getD d) h
      | none => False
    | _ => False
  | .setdefault, .loc a, [k, d], h, Q => match h a with
    | some (.dct false kvs) => match toKey k with
      | some k => kvs.length < sizeLine ∧ match valP kvs k with
        | some v => Q v h
        | none => Q d (pup h a (.dct false (putP kvs k d)))
      | none => False
    | _ => False
  | .find, .str a, [.str b], h, Q => Q (.int (Txt.find a b)) h
  | .startswith, .str a, [.str b], h, Q => Q (.bl (Txt.startswith a b)) h
  | .upper, .str a, [], h, Q => a.length ≤ 5592405 ∧ Q (.str (Txt.upper a)) h
  | .split, .str a, [.str b], h, Q => (b.length == 0) = false ∧ a.length + 2 ≤ sizeLine ∧ ∀ p, h p = none → Q (.loc p) (pup h p (.lst ((Txt.split a b).map .str)))
  | .popAt, .loc a, [.int i], h, Q => match h a with
    | some (.lst xs) => -(2 ^ 63) ≤ i ∧ i < 2 ^ 63 ∧ match seqIndex? i xs.length with
      | some k => match xs[k]? with
        | some y => Q y (pup h a (.lst (xs.eraseIdx k)))
        | none => False
      | none => False
    | _ => False
  | .extend, .loc a, [.loc b], h, Q => match h a, h b with
    | some (.lst xs), some (.lst ys) => xs.length + ys.length ≤ sizeLine ∧ Q .non (pup h a (.lst (xs ++ ys)))
    | _, _ => False
  | .popK, .loc a, [k], h, Q => match h a with
    | some (.dct false kvs) => match toKey k with
      | some k => match valP kvs k with
        | some v => Q v (pup h a (.dct false (dropP kvs k)))
        | none => False
      | none => False
    | _ => False
  | .clearD, .loc a, [], h, Q => match h a with
    | some (.dct false _) => Q .non (pup h a (.dct false []))
    | _ => False
  | .clearL, .loc a, [], h, Q => match h a with
    | some (.lst _) => Q .non (pup h a (.lst []))
    | _ => False
  | .index, .loc a, [.str y], h, Q => match h a with
    | some (.lst xs) => match strsP xs with
      | some zs => ∃ j : Nat, zs[j]? = some y ∧ (∀ m, m < j → zs[m]? ≠ some y) ∧ Q (.int (j : Nat)) h
      | none => False
    | _ => False
  | .index, .loc a, [.bl y], h, Q => match h a with
    | some (.lst xs) => match blsP xs with
      | some zs => ∃ j : Nat, zs[j]? = some y ∧ (∀ m, m < j → zs[m]? ≠ some y) ∧ Q (.int (j : Nat)) h
      | none => False
    | _ => False
  | .countL, .loc a, [.bl y], h, Q => match h a with
    | some (.lst xs) => match blsP xs with
      | some zs => Q (.int (zs.count y : Nat)) h
      | none => False
    | _ => False
  | .update, .loc a, [.loc b], h, Q => match h a, h b with
    | some (.dct false ks), some (.dct false ls) => a ≠ b ∧ ks.length + ls.length ≤ sizeLine ∧ Q .non (pup h a (.dct false (mergeP ks ls)))
    | _, _ => False
  | .join, .str z, [x], h, Q => itemsK x h fun xs => match strsP xs with
    | some ys => (ys.map (·.length)).sum + ys.length * z.length ≤ 16777216 ∧ Q (.str (Txt.join z ys)) h
    | none => False
  | _, _, _, _, _ => False
/-- the answer of isinstance -/
def isiV (G : Sig) (x : PV) (h : PH) (t : TyK) (Q : Bool → Prop) : Prop :=
  match x with
  | .non => match t with | .own _ => False | _ => Q false
  | .bl _ => match t with | .int => Q true | .bool => Q true | .own _ => False | _ => Q false
  | .int _ => match t with | .int => Q true | .own _ => False | _ => Q false
  | .str _ => match t with | .str => Q true | .own _ => False | _ => Q false
  | .tup _ => match t with | .tuple => Q true | .own _ => False | _ => Q false
  | .fl _ => False
  | .loc a => match h a with
    | some (.lst _) => match t with | .list => Q true | .own _ => False | _ => Q false
    | some (.dct _ _) => match t with | .dict => Q true | .own _ => False | _ => Q false
    | _ => False

/-- the answer of isinstance for a class of the text (none: ValueError) -/
def isxV (G : Sig) (x : PV) (h : PH) (k : Option Nat) (Q : Bool → Prop) : Prop :=
  match x with
  | .non => match k with
    | none => Q false
    | some c => G.isz c = true ∧ Q false
  | .str _ => match k with
    | none => False
    | some c => G.isz c = true ∧ Q false
  | .loc a => match h a with
    | some (.exc d) => G.exc d = true ∧ match (match k with | none => G.isv d | some c => G.isa d c) with
      | some b => Q b
      | none => False
    | some (.ins d _) => G.inc d = true ∧ match (match k with | none => none | some c => G.isa d c) with
      | some b => Q b
      | none => False
    | _ => False
  | _ => False
def cstP : Option Bool → PV
  | none => .non
  | some b => .bl b
/-- x == y, of one and the same own thing -/
def sameV (G : Sig) (x y : PV) (h : PH) (Q : Prop) : Prop :=
  match x, y with
  | .loc a, .loc b => a = b ∧ match h a with
    | some (.ins c _) => G.eqs c = true ∧ Q
    | _ => False
  | _, _ => False
/-- a field is stored -/
def putA (f : Nat) (v : PV) : List (Nat × PV) → List (Nat × PV)
  | [] => [(f, v)]
  | (g, x) :: r => if g = f then (g, v) :: r else (g, x) :: putA f v r
/-- o[i] = v -/
def setV (o i v : PV) (h : PH) (Q : PH → Prop) : Prop :=
  match o with
  | .loc a => match h a with
    | some (.lst xs) => match i with
      | .int k => match ixN xs.length k with
        | some j => Q (pup h a (.lst (xs.set j v)))
        | none => False
      | _ => False
    | some (.dct false kvs) => match toKey i with
      | some k => kvs.length < sizeLine ∧ Q (pup h a (.dct false (putP kvs k v)))
      | none => False
    | _ => False
  | _ => False
/-- dicts whose keys are tuples -/
def keysT : List PV → Option (List Key)
  | [] => some []
  | x :: r => match toKey x, keysT r with
    | some k, some ks => some (k :: ks)
    | _, _ => none
def valT (kvs : List (List Key × PV)) (k : List Key) : Option PV := (kvs.find? fun kv => decide (kv.1 = k)).map (·.2)
def putT (kvs : List (List Key × PV)) (k : List Key) (v : PV) : List (List Key × PV) :=
  if (kvs.any fun kv => decide (kv.1 = k)) = true then kvs.map (fun kv => if kv.1 = k then (kv.1, v) else kv) else kvs ++ [(k, v)]
def isT (x : PV) (h : PH) : Prop := match x with
  | .loc a => match h a with
    | some (.dctT _) => True
    | _ => False
  | _ => False
def getTV (x : PV) (ks : List PV) (d : PV) (h : PH) (Q : QE) : Prop := match x with
  | .loc a => match h a with
    | some (.dctT kvs) => match keysT ks with
      | some k => Q ((valT kvs k).getD d) h
      | none => False
    | _ => False
  | _ => False
def subTV (x : PV) (ks : List PV) (h : PH) (Q : QE) : Prop := match x with
  | .loc a => match h a with
    | some (.dctT kvs) => match keysT ks with
      | some k => match valT kvs k with
        | some v => Q v h
        | none => False
      | none => False
    | _ => False
  | _ => False
def setTV (x : PV) (ks : List PV) (v : PV) (h : PH) (Q : PH → Prop) : Prop := match x with
  | .loc a => match h a with
    | some (.dctT kvs) => match keysT ks with
      | some k => kvs.length < sizeLine ∧ Q (pup h a (.dctT (putT kvs k v)))
      | none => False
    | _ => False
  | _ => False
/-- the slots of a def that got a lambda, behind its try -/
def LmI.args (d : LmI) (a found caught : PV) : List PV := if d.fd then [a, found, caught] else [a, caught]
def wipeP (env : PEnv) : List Nat → PEnv
  | [] => env
  | v :: vs => (wipeP env vs).set v none
mutual
def setT : T → PV → PEnv → (PEnv → Prop) → Prop
  | .nm i, v, env, K => K (env.set i (some v))
  | .tup ts, .tup vs, env, K => setTs ts vs env K
  | .tup _, _, _, _ => False
def setTs : Ts → List PV → PEnv → (PEnv → Prop) → Prop
  | .nil, [], env, K => K env
  | .cons t ts, v :: vs, env, K => setT t v env fun env' => setTs ts vs env' K
  | _, _, _, _ => False
end
/-- the loop of a for -/
def forGo (still : PH → Prop) (st : PV → PEnv → (PEnv → Prop) → Prop) (body : PEnv → PH → PD → Prop) (D : PD) : List PV → PEnv → PH → Prop
  | [], env, h => still h ∧ D.nx env h
  | x :: xs, env, h => still h ∧ st x env fun env' => body env' h { D with nx := forGo still st body D xs, ct := forGo still st body D xs, bk := D.nx }
/-- the loop of a comprehension; P: the new list's place -/
def compGo (still : PH → Prop) (st : PV → PEnv → (PEnv → Prop) → Prop) (ifs : PEnv → PH → (Bool → PH → Prop) → Prop) (elt : PEnv → PH → QE → Prop) (env : PEnv) (P : Addr) (K : PH → Prop) : List PV → PH → Prop
  | [], h => still h ∧ K h
  | x :: xs, h => still h ∧ st x env fun env' => ifs env' h fun b h1 =>
      if b = true then elt env' h1 fun y h2 => match h2 P with
        | some (.lst acc) => acc.length < sizeLine ∧ compGo still st ifs elt env P K xs (pup h2 P (.lst (acc ++ [y])))
        | _ => False
      else compGo still st ifs elt env P K xs h1

/-- keys that are whole numbers, or pairs of such -/
def pairs2 : List PV → Option (List (Int × Int))
  | [] => some []
  | .tup [.int i, .int j] :: r => (pairs2 r).map ((i, j) :: ·)
  | _ => none
def keys2 (ks : List PV) : Option (List (Int × Int)) := match intsP ks with
  | some is => some (is.map fun i => (i, 0))
  | none => pairs2 ks
/-- the keys of items, one by one -/
def keyGo (run : PV → PH → QE → Prop) : List PV → PH → (List PV → PH → Prop) → Prop
  | [], h, K => K [] h
  | x :: xs, h, K => run x h fun k h1 => keyGo run xs h1 fun ks h2 => K (k :: ks) h2
mutual
def evE (G : Sig) (C : CallS) : E → PEnv → PH → QE → XE → Prop
  | .var i, env, h, Q, _ => match env[i]? with
    | some (some v) => Q v h
    | _ => False
  | .int i, _, h, Q, _ => Q (.int i) h
  | .str s, _, h, Q, _ => Q (.str s) h
  | .bl b, _, h, Q, _ => Q (.bl b) h
  | .non, _, h, Q, _ => Q .non h
  | .glob g, _, h, Q, _ => match G.gl g with
    | some v => Q v h
    | none => False
  | .bin op a b, env, h, Q, X => evE G C a env h (fun x h1 => evE G C b env h1 (fun y h2 => binV op x y h2 Q) X) X
  | .neg a, env, h, Q, X => evE G C a env h (fun x h1 => match x with | .int i => Q (.int (-i)) h1 | _ => False) X
  | .same a b, env, h, Q, X => evE G C a env h (fun x h1 => evE G C b env h1 (fun y h2 => sameV G x y h2 (Q (.bl true) h2)) X) X
  | .cmp op a b, env, h, Q, X => evE G C a env h (fun x h1 => evE G C b env h1 (fun y h2 => cmpV op x y h2 fun k => Q (.bl k) h2) X) X
  | .chain o p a b c, env, h, Q, X => evE G C a env h (fun x h1 => evE G C b env h1 (fun y h2 => cmpV o x y h2 fun k =>
      if k = true then evE G C c env h2 (fun z h3 => cmpV p y z h3 fun k' => Q (.bl k') h3) X else Q (.bl false) h2) X) X
  | .and a b, env, h, Q, X => evE G C a env h (fun x h1 => truV x h1 fun k => if k = true then evE G C b env h1 Q X else Q x h1) X
  | .or a b, env, h, Q, X => evE G C a env h (fun x h1 => truV x h1 fun k => if k = true then Q x h1 else evE G C b env h1 Q X) X
  | .not a, env, h, Q, X => evE G C a env h (fun x h1 => truV x h1 fun k => Q (.bl (!k)) h1) X
  | .ite c a b, env, h, Q, X => evB G C c env h (fun k h1 => if k = true then evE G C a env h1 Q X else evE G C b env h1 Q X) X
  | .sub a i, env, h, Q, X => evE G C a env h (fun x h1 => evE G C i env h1 (fun y h2 => subV x y h2 Q) X) X
  | .slice a lo hi, env, h, Q, X => evE G C a env h (fun x h1 => evO G C lo env h1 (fun l h2 => evO G C hi env h2 (fun u h3 => sliV x l u h3 Q) X) X) X
  | .tup es, env, h, Q, X => evEs G C es env h (fun vs h1 => vs.length ≤ sizeLine ∧ Q (.tup vs) h1) X
  | .lst es, env, h, Q, X => evEs G C es env h (fun vs h1 => vs.length ≤ sizeLine ∧ ∀ p, h1 p = none → Q (.loc p) (pup h1 p (.lst vs))) X
  | .dict0, _, h, Q, _ => ∀ p, h p = none → Q (.loc p) (pup h p (.dct false []))
  | .dict es, env, h, Q, X => ∀ p, h p = none → evEs G C es env (pup h p (.dct false [])) (fun xs h1 => h1 p = some (.dct false []) ∧ match pairUp xs with
    | some kvs => kvs.length ≤ 15 ∧ Q (.loc p) (pup h1 p (.dct false (mergeP [] kvs)))
    | none => False) X
  | .fld e f, env, h, Q, X => evE G C e env h (fun x h1 => match x with
    | .loc a => match h1 a with
      | some (.ins c fs) => G.fl c f = true ∧ match fs.lookup f with
        | some v => Q v h1
        | none => False
      | _ => False
    | _ => False) X
  | .call f es, env, h, Q, X => evEs G C es env h (fun vs h1 => C f (padD G f vs) h1 Q X) X
  | .meth o m es, env, h, Q, X => evE G C o env h (fun x h1 => match x with
    | .loc a => match h1 a with
      | some (.ins c fs) => match G.me c m with
        | some f => fs.lookup m = none ∧ evEs G C es env h1 (fun vs h2 => C f (padD G f (x :: vs)) h2 Q X) X
        | none => False
      | _ => False
    | _ => False) X
  | .make c es, env, h, Q, X => evEs G C es env h (fun vs h1 => ∀ p, h1 p = none → match G.ini c with
    | some f => C f (padD G f (.loc p :: vs)) (pup h1 p (.ins c [])) (fun v h2 => v = .non ∧ Q (.loc p) h2) X
    | none => False) X
  | .blt b es, env, h, Q, X => evEs G C es env h (fun vs h1 => bltV b vs h1 Q) X
  | .bm m o es, env, h, Q, X => evE G C o env h (fun x h1 => tyP (bmT m) x h1 ∧ evEs G C es env h1 (fun vs h2 => bmV m x vs h2 Q) X) X
  | .isi e t, env, h, Q, X => evE G C e env h (fun x h1 => isiV G x h1 t fun b => Q (.bl b) h1) X
  | .make0 k, _, h, Q, _ => G.in0 k = true ∧ ∀ p, h p = none → Q (.loc p) (pup h p (.ins k []))
  | .rev e, env, h, Q, X => evE G C e env h (fun x h1 => listK x h1 fun xs => ∀ p, h1 p = none → Q (.loc p) (pup h1 p (.lst xs.reverse))) X
  | .isx e k, env, h, Q, X => evE G C e env h (fun x h1 => isxV G x h1 k fun b => Q (.bl b) h1) X
  | .comp elt t it ifs ws, env, h, Q, X => evI G C it env h (fun xs still h1 => ∀ P, h1 P = none →
      compGo still (setT t) (fun e g K => evBs G C ifs e g K fun _ _ => False) (fun e g K => evE G C elt e g K fun _ _ => False) (wipeP env (ws.map (·.2))) P (fun h2 => Q (.loc P) h2) xs (pup h1 P (.lst []))) X
  | .compD elt t e ifs ws, env, h, Q, X => ∃ d kvs, h d = some (.dct false kvs) ∧ evE G C e env (pup h d (.dct true kvs)) (fun x h1 => x = .loc d ∧ h1 d = some (.dct true kvs) ∧ ∀ P, h1 P = none →
      compGo (fun g => g d = some (.dct true kvs)) (setT t) (fun e g K => evBs G C ifs e g K fun _ _ => False) (fun e g K => evE G C elt e g K fun _ _ => False) (wipeP env (ws.map (·.2))) P
        (fun h2 => Q (.loc P) (pup h2 d (.dct false kvs))) (kvs.map fun kv => kP kv.1) (pup h1 P (.lst []))) fun _ _ => False
  | .listItems e, env, h, Q, X => evE G C e env h (fun x h1 => match x with
    | .loc d => match h1 d with
      | some (.dct false kvs) => ∀ p, h1 p = none → Q (.loc p) (pup h1 p (.lst (kvs.map fun kv => .tup [kP kv.1, kv.2])))
      | _ => False
    | _ => False) X
  | .sortK e k, env, h, Q, X => evE G C e env h (fun x h1 => listK x h1 fun xs => xs.length ≤ sizeLine ∧ keyGo (fun v g K => evKF G C k v env g K) xs h1 fun ks h2 => match keys2 ks with
    | some kz => ∀ p, h2 p = none → Q (.loc p) (pup h2 p (.lst (sortBy xs kz)))
    | none => False) X
  | .dictT0, _, h, Q, _ => ∀ p, h p = none → Q (.loc p) (pup h p (.dctT []))
  | .getT o ks d, env, h, Q, X => evE G C o env h (fun x h1 => isT x h1 ∧ evEs G C ks env h1 (fun vs h2 => vs.length ≤ sizeLine ∧ evE G C d env h2 (fun y h3 => getTV x vs y h3 Q) X) X) X
  | .subT o ks, env, h, Q, X => evE G C o env h (fun x h1 => evEs G C ks env h1 (fun vs h2 => vs.length ≤ sizeLine ∧ subTV x vs h2 Q) X) X
  | .lamCall f b, env, h, Q, _ => C.lam f (fun Q' X' => evE G C b env h Q' X') Q
def evKF (G : Sig) (C : CallS) : KF → PV → PEnv → PH → QE → Prop
  | .lam _ b, v, env, h, Q => evE G C b (env ++ [some v]) h Q fun _ _ => False
  | .fn f, v, _, h, Q => C f (padD G f [v]) h Q fun _ _ => False
def evEs (G : Sig) (C : CallS) : Es → PEnv → PH → (List PV → PH → Prop) → XE → Prop
  | .nil, _, h, Q, _ => Q [] h
  | .cons e es, env, h, Q, X => evE G C e env h (fun v h1 => evEs G C es env h1 (fun vs h2 => Q (v :: vs) h2) X) X
def evO (G : Sig) (C : CallS) : O → PEnv → PH → (Option Int → PH → Prop) → XE → Prop
  | .non, _, h, Q, _ => Q none h
  | .some e, env, h, Q, X => evE G C e env h (fun v h1 => match v with | .int i => Q (some i) h1 | _ => False) X
def evB (G : Sig) (C : CallS) : B → PEnv → PH → (Bool → PH → Prop) → XE → Prop
  | .val e, env, h, Q, X => evE G C e env h (fun v h1 => truV v h1 fun k => Q k h1) X
  | .and a b, env, h, Q, X => evB G C a env h (fun k h1 => if k = true then evB G C b env h1 Q X else Q false h1) X
  | .or a b, env, h, Q, X => evB G C a env h (fun k h1 => if k = true then Q true h1 else evB G C b env h1 Q X) X
  | .not a, env, h, Q, X => evB G C a env h (fun k h1 => Q (!k) h1) X
def evBs (G : Sig) (C : CallS) : Bs → PEnv → PH → (Bool → PH → Prop) → XE → Prop
  | .nil, _, h, Q, _ => Q true h
  | .one b, env, h, Q, X => evB G C b env h Q X
def evI (G : Sig) (C : CallS) : I → PEnv → PH → (List PV → (PH → Prop) → PH → Prop) → XE → Prop
  | .ex e, env, h, K, X => evE G C e env h (fun v h1 => seqK v h1 fun xs still => K xs still h1) X
  | .range1 e, env, h, K, X => evE G C e env h (fun v h1 => match v with
    | .int j => -(2 ^ 62) ≤ j ∧ j < 2 ^ 62 ∧ K ((List.range j.toNat).map fun i => .int ((0 : Int) + (i : Nat))) (fun _ => True) h1
    | _ => False) X
  | .range2 a b, env, h, K, X => evE G C a env h (fun v h1 => evE G C b env h1 (fun u h2 => match v, u with
    | .int i, .int j => (-(2 ^ 62) ≤ i ∧ i < 2 ^ 62 ∧ -(2 ^ 62) ≤ j ∧ j < 2 ^ 62) ∧ K ((List.range (j - i).toNat).map fun k => .int (i + (k : Nat))) (fun _ => True) h2
    | _, _ => False) X) X
  | .range3 a b s, env, h, K, X => evE G C a env h (fun v h1 => evE G C b env h1 (fun u h2 => match v, u with
    | .int i, .int j => ∃ n, RgC i j s n ∧ K ((List.range n).map fun k => .int (i + (k : Nat) * s)) (fun _ => True) h2
    | _, _ => False) X) X
  | .enum e, env, h, K, X => evE G C e env h (fun v h1 => match v with
    | .fl xs => K (xs.zipIdx.map fun p => .tup [.int (p.2 : Nat), p.1]) (fun _ => True) h1
    | .loc a => match h1 a with
      | some (.lst xs) => K (xs.zipIdx.map fun p => .tup [.int (p.2 : Nat), p.1]) (fun h' => h' a = some (.lst xs)) h1
      | _ => False
    | _ => False) X
end

mutual
def evS (G : Sig) (C : CallS) : S → PEnv → PH → PD → Prop
  | .skip, env, h, D => D.nx env h
  | .brk, env, h, D => D.bk env h
  | .cont, env, h, D => D.ct env h
  | .expr e, env, h, D => evE G C e env h (fun _ h1 => D.nx env h1) fun c h1 => D.ex c env h1
  | .ret e, env, h, D => evE G C e env h D.rt fun c h1 => D.ex c env h1
  | .retN, _, h, D => D.rt .non h
  | .set i e, env, h, D => evE G C e env h (fun v h1 => D.nx (env.set i (some v)) h1) fun c h1 => D.ex c env h1
  | .setC i e, env, h, D => evE G C e env h (fun v h1 => D.nx (env.set i (some v)) h1) fun c h1 => D.ex c env h1
  | .setT ts e, env, h, D => evE G C e env h (fun v h1 => setT (.tup ts) v env fun env' => D.nx env' h1) fun c h1 => D.ex c env h1
  | .setL ts e, env, h, D => evE G C e env h (fun v h1 => match v with
    | .loc a => match h1 a with
      | some (.lst vs) => setTs ts vs env fun env' => D.nx env' h1
      | _ => False
    | _ => False) fun c h1 => D.ex c env h1
  | .par i j a b, env, h, D => evE G C a env h (fun v h1 => evE G C b env h1 (fun w h2 => D.nx ((env.set i (some v)).set j (some w)) h2) fun c h2 => D.ex c env h2) fun c h1 => D.ex c env h1
  | .aug i op e, env, h, D => match env[i]? with
    | some (some x) => evE G C e env h (fun y h1 => augV op x y h1 fun z h2 => D.nx (env.set i (some z)) h2) fun c h1 => D.ex c env h1
    | _ => False
  | .fldSet o f e, env, h, D => evE G C e env h (fun y h1 => evE G C o env h1 (fun x h2 => match x with
    | .loc a => match h2 a with
      | some (.ins c fs) => G.fl c f = true ∧ fs.length < 1000 ∧ D.nx env (pup h2 a (.ins c (putA f y fs)))
      | _ => False
    | _ => False) fun c h2 => D.ex c env h2) fun c h1 => D.ex c env h1
  | .fldAug o f op e, env, h, D => evE G C o env h (fun x h1 => match x with
    | .loc a => match h1 a with
      | some (.ins c fs) => G.fl c f = true ∧ match fs.lookup f with
        | some v => evE G C e env h1 (fun y h2 => augV op v y h2 fun z h3 => match h3 a with
          | some (.ins c' fs') => c' = c ∧ fs'.length < 1000 ∧ D.nx env (pup h3 a (.ins c' (putA f z fs')))
          | _ => False) fun c h2 => D.ex c env h2
        | none => False
      | _ => False
    | _ => False) fun c h1 => D.ex c env h1
  | .subSet o i e, env, h, D => evE G C e env h (fun v h1 => evE G C o env h1 (fun x h2 => evE G C i env h2 (fun y h3 => setV x y v h3 fun h4 => D.nx env h4) fun c h3 => D.ex c env h3) fun c h2 => D.ex c env h2) fun c h1 => D.ex c env h1
  | .subSetT o ks e, env, h, D => evE G C e env h (fun v h1 => evE G C o env h1 (fun x h2 => evEs G C ks env h2 (fun y h3 => y.length ≤ sizeLine ∧ setTV x y v h3 fun h4 => D.nx env h4) fun c h3 => D.ex c env h3) fun c h2 => D.ex c env h2) fun c h1 => D.ex c env h1
  | .subAug o i op e, env, h, D => evE G C o env h (fun x h1 => (∃ a, x = .loc a) ∧ evE G C i env h1 (fun y h2 => subV x y h2 fun v h3 => evE G C e env h3 (fun y2 h4 => augV op v y2 h4 fun z h5 => setV x y z h5 fun h6 => D.nx env h6)
      fun c h4 => D.ex c env h4) fun c h2 => D.ex c env h2) fun c h1 => D.ex c env h1
  | .ite c a b, env, h, D => evB G C c env h (fun k h1 => if k = true then evSs G C a env h1 D else evSs G C b env h1 D) fun c h1 => D.ex c env h1
  | .raise k, env, h, D => G.exc k = true ∧ D.ex k env h
  | .tryAs b k i j, env, h, D => evSs G C b env h { D with ex := fun d env' h' => match G.exm d k with
    | some true => i ≠ j ∧ ∀ a, h' a = none → D.nx (((env'.set i (some (.loc a))).set j (some (.loc a))).set i none) (pup h' a (.exc d))
    | some false => D.ex d env' h'
    | none => False }
  | .tryO b k i v, env, h, D => evSs G C b env h { D with ex := fun d env' h' => match G.exm d k with
    | some true => D.nx (env'.set i (some (cstP v))) h'
    | some false => D.ex d env' h'
    | none => False }
  | .while c b, env, h, D => ∃ W : Nat → PEnv → PH → Prop, (∃ m, W m env h) ∧ ∀ m env h, W m env h →
      evB G C c env h (fun k h1 => if k = true then evSs G C b env h1 { D with nx := fun e g => ∃ m', m' < m ∧ W m' e g, ct := fun e g => ∃ m', m' < m ∧ W m' e g, bk := D.nx } else D.nx env h1) fun c h1 => D.ex c env h1
  | .for t it b, env, h, D => evI G C it env h (fun xs still h1 => forGo still (setT t) (fun e g D' => evSs G C b e g D') D xs env h1) fun c h1 => D.ex c env h1
  | .forD t items e b, env, h, D => ∃ d kvs, h d = some (.dct false kvs) ∧ evE G C e env (pup h d (.dct true kvs)) (fun x h1 => x = .loc d ∧
      forGo (fun g => g d = some (.dct true kvs)) (setT t) (fun e g D' => evSs G C b e g D')
        ⟨fun e g => g d = some (.dct true kvs) ∧ D.nx e (pup g d (.dct false kvs)), fun v g => g d = some (.dct true kvs) ∧ D.rt v (pup g d (.dct false kvs)), fun e g => g d = some (.dct true kvs) ∧ D.bk e (pup g d (.dct false kvs)),
          fun e g => g d = some (.dct true kvs) ∧ D.ct e (pup g d (.dct false kvs)), fun _ _ _ => False⟩
        (kvs.map fun kv => if items then .tup [kP kv.1, kv.2] else kP kv.1) env h1) fun _ _ => False
def evSs (G : Sig) (C : CallS) : Ss → PEnv → PH → PD → Prop
  | .nil, env, h, D => D.nx env h
  | .cons s ss, env, h, D => evS G C s env h { D with nx := fun env' h' => evSs G C ss env' h' D }
end
end Mir

set_option autoImplicit true
namespace Mir
open PySem L2
open PyProof.Rows hiding St
/-- the tables of code objects that lambdas are made with, and the name of each -/
class Tbl where
  T : List (Addr × Str)
  uq : ∀ p ∈ T, ∀ q ∈ T, p.1 = q.1 → p.2 = q.2
abbrev TbOk [Tbl] (H : Hp) : Prop := LamX.Tabs Tbl.T H
variable [Tbl]

/-! ## how the small language's values lie in the abstract heap -/
structure Pm where
  G : Sig
  K : PySem.W.Frag
  cls : Nat → Addr

def KTup (K : PySem.W.Frag) (a : Addr) (vs : List V) : Prop :=
  ∃ (ob : Obj) (arr : Array Value) (m : Nat), K.lookup a = some ob ∧ ob.cls = .type "tuple" ∧ ob.data = .seq arr m ∧ arr.size ≤ sizeLine ∧ Vals vs arr.toList
def KLst (K : PySem.W.Frag) (a : Addr) (vs : List V) : Prop :=
  ∃ (ob : Obj) (arr : Array Value) (m : Nat), K.lookup a = some ob ∧ ob.cls = .type "list" ∧ ob.dict = none ∧ ob.data = .seq arr m ∧ arr.size ≤ sizeLine ∧ Vals vs arr.toList
def TAt (K : PySem.W.Frag) (H : Hp) (a : Addr) (vs : List V) : Prop := H a = some (.tup vs) ∨ KTup K a vs
def LAt (K : PySem.W.Frag) (H : Hp) (a : Addr) (vs : List V) : Prop := (∃ o, H a = some (.frz o (.lst vs))) ∨ KLst K a vs
theorem TAt.sq {K : PySem.W.Frag} {H : Hp} {a : Addr} {vs : List V} (t : TAt K H a vs) : SqT K H a vs := by
  rcases t with t | t
  · exact .inl (.inl t)
  · exact .inr t
theorem LAt.sq {K : PySem.W.Frag} {H : Hp} {a : Addr} {vs : List V} (t : LAt K H a vs) : SqL K H a vs := by
  rcases t with t | t
  · exact .inl (.inr t)
  · exact .inr t

mutual
inductive RP (K : PySem.W.Frag) (H : Hp) : PV → V → Prop
  | non : RP K H .non .non
  | bl (b : Bool) : RP K H (.bl b) (.bl b)
  | int (i : Int) : RP K H (.int i) (.int i)
  | str (x : Str) : RP K H (.str x) (.str x)
  | tup {a : Addr} {xs : List PV} {vs : List V} : TAt K H a vs → RPs K H xs vs → RP K H (.tup xs) (.ref a)
  | fl {a : Addr} {xs : List PV} {vs : List V} : LAt K H a vs → RPs K H xs vs → RP K H (.fl xs) (.ref a)
  | loc (a : Addr) : RP K H (.loc a) (.ref a)
inductive RPs (K : PySem.W.Frag) (H : Hp) : List PV → List V → Prop
  | nil : RPs K H [] []
  | cons {x : PV} {v : V} {xs : List PV} {vs : List V} : RP K H x v → RPs K H xs vs → RPs K H (x :: xs) (v :: vs)
end

/-- what never changes is there still -/
structure Ext (H H' : Hp) : Prop where
  tp : ∀ a xs, H a = some (.tup xs) → H' a = some (.tup xs)
  fz : ∀ a o u, H a = some (.frz o u) → H' a = some (.frz o u)
  tb : TbOk H → TbOk H'
  cd : ∀ a q, H a = some (LamX.CodeO a q) → H' a = some (LamX.CodeO a q)
theorem Ext.refl (H : Hp) : Ext H H := ⟨fun _ _ e => e, fun _ _ _ e => e, fun z => z, fun _ _ e => e⟩
theorem Ext.trans {H H1 H2 : Hp} (a : Ext H H1) (b : Ext H1 H2) : Ext H H2 := ⟨fun _ _ e => b.tp _ _ (a.tp _ _ e), fun _ _ _ e => b.fz _ _ _ (a.fz _ _ _ e), fun z => b.tb (a.tb z), fun _ _ e => b.cd _ _ (a.cd _ _ e)⟩
theorem Ext.new {H : Hp} {p : Addr} {o : HO} (n : H p = none) : Ext H (upd H p o) :=
  ⟨fun a xs e => by rw [upd_ne (ne_of_none e n)]; exact e, fun a q xs e => by rw [upd_ne (ne_of_none e n)]; exact e, fun z => LamX.Tabs.ext z fun b o e => by rw [upd_ne (ne_of_none e n)]; exact e, fun a q e => by rw [upd_ne (ne_of_none e n)]; exact e⟩
/-- what stands at p is none of what never changes, no table, no code -/
def Chg : HO → Prop
  | .tup _ => False
  | .frz _ _ => False
  | .tbl _ => False
  | .ext _ => False
  | _ => True
/-- neither a table nor code -/
def NoTb : HO → Prop
  | .tbl _ => False
  | .ext _ => False
  | _ => True
theorem tb_off {H : Hp} {p : Addr} {o u : HO} (e : H p = some u) (c : NoTb u) (z : TbOk H) : TbOk (upd H p o) := fun q hq => by
  obtain ⟨ps, h1, h2, h3⟩ := z q hq
  refine ⟨ps, ?_, h2, fun pos cv hc => ?_⟩
  · rw [upd_ne (fun w => by rw [w, e] at h1; cases h1; exact c)]
    exact h1
  · obtain ⟨d, e1, e2⟩ := h3 pos cv hc
    exact ⟨d, e1, by rw [upd_ne (fun w => by rw [w, e] at e2; cases e2; exact c)]; exact e2⟩
theorem Chg.no {u : HO} (c : Chg u) : NoTb u := by cases u <;> first | exact c | trivial
theorem Ext.chg {H : Hp} {p : Addr} {o u : HO} (e : H p = some u) (c : Chg u) : Ext H (upd H p o) := by
  refine ⟨fun a xs q => ?_, fun a ob xs q => ?_, tb_off e c.no, fun a n q => ?_⟩
  · by_cases h : a = p
    · subst h; rw [e] at q; cases q; exact c.elim
    · rw [upd_ne h]; exact q
  · by_cases h : a = p
    · subst h; rw [e] at q; cases q; exact c.elim
    · rw [upd_ne h]; exact q
  · by_cases h : a = p
    · subst h; rw [e] at q; cases q; exact c.elim
    · rw [upd_ne h]; exact q

mutual
theorem RP.ext {K : PySem.W.Frag} {H H' : Hp} (e : Ext H H') : ∀ {x : PV} {v : V}, RP K H x v → RP K H' x v
  | _, _, .non => .non
  | _, _, .bl b => .bl b
  | _, _, .int i => .int i
  | _, _, .str x => .str x
  | _, _, .tup t r => .tup (t.elim (fun z => .inl (e.tp _ _ z)) .inr) (RPs.ext e r)
  | _, _, .fl t r => .fl (t.elim (fun ⟨o, z⟩ => .inl ⟨o, e.fz _ _ _ z⟩) .inr) (RPs.ext e r)
  | _, _, .loc a => .loc a
theorem RPs.ext {K : PySem.W.Frag} {H H' : Hp} (e : Ext H H') : ∀ {x : List PV} {v : List V}, RPs K H x v → RPs K H' x v
  | _, _, .nil => .nil
  | _, _, .cons r t => .cons (RP.ext e r) (RPs.ext e t)
end
section
variable {K : PySem.W.Frag} {H : Hp}
theorem RPs.length : ∀ {xs : List PV} {vs : List V}, RPs K H xs vs → xs.length = vs.length
  | _, _, .nil => rfl
  | _, _, .cons _ t => by simp [RPs.length t]
theorem RPs.get : ∀ {xs : List PV} {vs : List V} {i : Nat} {x : PV}, RPs K H xs vs → xs[i]? = some x → ∃ v, vs[i]? = some v ∧ RP K H x v
  | _, _, _, _, .nil, e => by simp at e
  | _, _, 0, _, .cons r _, e => by simp at e; subst e; exact ⟨_, by simp, r⟩
  | _, _, i + 1, _, .cons _ t, e => by
    obtain ⟨v, a, b⟩ := RPs.get (i := i) t (by simpa using e)
    exact ⟨v, by simpa using a, b⟩
theorem RPs.getR : ∀ {xs : List PV} {vs : List V} {i : Nat} {v : V}, RPs K H xs vs → vs[i]? = some v → ∃ x, xs[i]? = some x ∧ RP K H x v
  | _, _, _, _, .nil, e => by simp at e
  | _, _, 0, _, .cons r _, e => by simp at e; subst e; exact ⟨_, by simp, r⟩
  | _, _, i + 1, _, .cons _ t, e => by
    obtain ⟨v, a, b⟩ := RPs.getR (i := i) t (by simpa using e)
    exact ⟨v, by simpa using a, b⟩
theorem RPs.append : ∀ {xs ys : List PV} {vs ws : List V}, RPs K H xs vs → RPs K H ys ws → RPs K H (xs ++ ys) (vs ++ ws)
  | _, _, _, _, .nil, s => s
  | _, _, _, _, .cons r t, s => .cons r (RPs.append t s)
theorem RPs.take : ∀ {xs : List PV} {vs : List V} (n : Nat), RPs K H xs vs → RPs K H (xs.take n) (vs.take n)
  | _, _, 0, _ => by simpa using RPs.nil
  | _, _, _ + 1, .nil => .nil
  | _, _, n + 1, .cons r t => .cons r (RPs.take n t)
theorem RPs.drop : ∀ {xs : List PV} {vs : List V} (n : Nat), RPs K H xs vs → RPs K H (xs.drop n) (vs.drop n)
  | _, _, 0, r => r
  | _, _, _ + 1, .nil => .nil
  | _, _, n + 1, .cons _ t => RPs.drop n t
theorem RPs.set {x : PV} {v : V} (r : RP K H x v) : ∀ {xs : List PV} {vs : List V} (i : Nat), RPs K H xs vs → RPs K H (xs.set i x) (vs.set i v)
  | _, _, _, .nil => .nil
  | _, _, 0, .cons _ t => .cons r t
  | _, _, i + 1, .cons q t => .cons q (RPs.set r i t)
theorem RPs.nil_iff {xs : List PV} {vs : List V} (r : RPs K H xs vs) : xs = [] ↔ vs = [] := by
  cases r <;> simp
theorem RPs.isEmpty {xs : List PV} {vs : List V} (r : RPs K H xs vs) : xs.isEmpty = vs.isEmpty := by
  cases r <;> rfl
theorem RPs.dropLast {xs : List PV} {vs : List V} (r : RPs K H xs vs) : RPs K H xs.dropLast vs.dropLast := by
  rw [List.dropLast_eq_take, List.dropLast_eq_take, r.length]
  exact r.take _
theorem RPs.map_int (ns : List Int) : RPs K H (ns.map PV.int) (ns.map V.int) := by
  induction ns with
  | nil => exact .nil
  | cons n r ih => exact .cons (.int n) ih
theorem RPs.map_str (ns : List Str) : RPs K H (ns.map PV.str) (ns.map V.str) := by
  induction ns with
  | nil => exact .nil
  | cons n r ih => exact .cons (.str n) ih
theorem RPs.ints : ∀ {xs : List PV} {vs : List V} {ns : List Int}, RPs K H xs vs → intsP xs = some ns → vs = ns.map V.int
  | _, _, _, .nil, e => by simp [intsP] at e; subst e; rfl
  | _, _, _, .cons (x := x) (xs := xs) r t, e => by
    cases r <;> simp only [intsP, Option.map_eq_some_iff, reduceCtorEq] at e
    obtain ⟨ns, h, rfl⟩ := e
    rw [RPs.ints t h]; rfl
theorem RPs.strs : ∀ {xs : List PV} {vs : List V} {ns : List Str}, RPs K H xs vs → strsP xs = some ns → vs = ns.map V.str
  | _, _, _, .nil, e => by simp [strsP] at e; subst e; rfl
  | _, _, _, .cons (x := x) (xs := xs) r t, e => by
    cases r <;> simp only [strsP, Option.map_eq_some_iff, reduceCtorEq] at e
    obtain ⟨ns, h, rfl⟩ := e
    rw [RPs.strs t h]; rfl
theorem RPs.bls : ∀ {xs : List PV} {vs : List V} {ns : List Bool}, RPs K H xs vs → blsP xs = some ns → vs = ns.map V.bl
  | _, _, _, .nil, e => by simp [blsP] at e; subst e; rfl
  | _, _, _, .cons (x := x) (xs := xs) r t, e => by
    cases r <;> simp only [blsP, Option.map_eq_some_iff, reduceCtorEq] at e
    obtain ⟨ns, h, rfl⟩ := e
    rw [RPs.bls t h]; rfl
end

abbrev RK (K : PySem.W.Frag) (H : Hp) : List (Key × PV) → List (Key × V) → Prop := Paired fun p q => p.1 = q.1 ∧ RP K H p.2 q.2
abbrev RT (K : PySem.W.Frag) (H : Hp) : List (List Key × PV) → List (List Key × V) → Prop := Paired fun p q => p.1 = q.1 ∧ RP K H p.2 q.2
abbrev RF (nm : List Str) (K : PySem.W.Frag) (H : Hp) : List (Nat × PV) → List (Str × V) → Prop := Paired fun p q => nm[p.1]? = some q.1 ∧ RP K H p.2 q.2
theorem paired_imp {α β : Type} {F G : α → β → Prop} : ∀ {xs : List α} {ys : List β}, Paired F xs ys → (∀ x y, F x y → G x y) → Paired G xs ys
  | _, _, .nil, _ => .nil
  | _, _, .cons a b, f => .cons (f _ _ a) (paired_imp b f)
theorem paired_len {α β : Type} {F : α → β → Prop} : ∀ {xs : List α} {ys : List β}, Paired F xs ys → xs.length = ys.length
  | _, _, .nil => rfl
  | _, _, .cons a b => by simp [paired_len b]
theorem paired_at {α β : Type} {F : α → β → Prop} : ∀ {xs : List α} {ys : List β}, Paired F xs ys → ∀ {i : Nat} {y : β}, ys[i]? = some y → ∃ x, xs[i]? = some x ∧ F x y
  | _, _, .nil, _, _, e => by simp at e
  | _, _, .cons a b, 0, _, e => by simp at e; subst e; exact ⟨_, by simp, a⟩
  | _, _, .cons a b, i + 1, _, e => by
    obtain ⟨x, p, q⟩ := paired_at b (i := i) (by simpa using e)
    exact ⟨x, by simpa using p, q⟩
theorem paired_atL {α β : Type} {F : α → β → Prop} : ∀ {xs : List α} {ys : List β}, Paired F xs ys → ∀ {i : Nat} {x : α}, xs[i]? = some x → ∃ y, ys[i]? = some y ∧ F x y
  | _, _, .nil, _, _, e => by simp at e
  | _, _, .cons a b, 0, _, e => by simp at e; subst e; exact ⟨_, by simp, a⟩
  | _, _, .cons a b, i + 1, _, e => by
    obtain ⟨x, p, q⟩ := paired_atL b (i := i) (by simpa using e)
    exact ⟨x, by simpa using p, q⟩

/-- a cell as it lies -/
def CR (P : Pm) (H : Hp) (a : Addr) : Cell → Prop
  | .lst xs => ∃ vs, H a = some (.lst vs) ∧ RPs P.K H xs vs
  | .dct false kvs => ∃ ws, H a = some (.dK ws) ∧ RK P.K H kvs ws
  | .dct true kvs => ∃ o ws, H a = some (.frz o (.dK ws)) ∧ RK P.K H kvs ws
  | .ins c fs => ∃ dx gs, H a = some (.ins (P.cls c) dx gs) ∧ RF P.G.nm P.K H fs gs
  | .exc c => H a = some (ExV (.ref (P.cls c)) a)
  | .dctT kvs => ∃ ws, H a = some (.dT ws) ∧ RT P.K H kvs ws
structure HR (P : Pm) (h : PH) (H : Hp) : Prop where
  at_ : ∀ a c, h a = some c → CR P H a c
  tb : TbOk H
instance {P : Pm} {h : PH} {H : Hp} : CoeFun (HR P h H) fun _ => ∀ a c, h a = some c → CR P H a c := ⟨HR.at_⟩
theorem CR.ext {P : Pm} {H H' : Hp} {a : Addr} {c : Cell} (e : Ext H H') (s : H' a = H a) (r : CR P H a c) : CR P H' a c := by
  match c, r with
  | .lst xs, ⟨vs, q, r⟩ => exact ⟨vs, s.trans q, r.ext e⟩
  | .dct false kvs, ⟨ws, q, r⟩ => exact ⟨ws, s.trans q, paired_imp r fun _ _ z => ⟨z.1, z.2.ext e⟩⟩
  | .dct true kvs, ⟨o, ws, q, r⟩ => exact ⟨o, ws, s.trans q, paired_imp r fun _ _ z => ⟨z.1, z.2.ext e⟩⟩
  | .ins c fs, ⟨dx, gs, q, r⟩ => exact ⟨dx, gs, s.trans q, paired_imp r fun _ _ z => ⟨z.1, z.2.ext e⟩⟩
  | .exc c, q => exact s.trans q
  | .dctT kvs, ⟨ws, q, r⟩ => exact ⟨ws, s.trans q, paired_imp r fun _ _ z => ⟨z.1, z.2.ext e⟩⟩
theorem CR.there {P : Pm} {H : Hp} {a : Addr} {c : Cell} (r : CR P H a c) : ∃ u, H a = some u := by
  match c, r with
  | .lst xs, ⟨vs, q, r⟩ => exact ⟨_, q⟩
  | .dct false kvs, ⟨ws, q, r⟩ => exact ⟨_, q⟩
  | .dct true kvs, ⟨o, ws, q, r⟩ => exact ⟨_, q⟩
  | .ins c fs, ⟨dx, gs, q, r⟩ => exact ⟨_, q⟩
  | .exc c, q => exact ⟨_, q⟩
  | .dctT kvs, ⟨vs, q, r⟩ => exact ⟨_, q⟩
def Cell.free : Cell → Bool
  | .dct true _ => false
  | .exc _ => false
  | _ => true
theorem CR.chg {P : Pm} {H : Hp} {a : Addr} {c : Cell} (r : CR P H a c) (f : c.free = true) : ∃ u, H a = some u ∧ Chg u := by
  cases c with
  | lst xs => obtain ⟨vs, q, r⟩ := r; exact ⟨_, q, trivial⟩
  | dct b kvs =>
    cases b with
    | false => obtain ⟨vs, q, r⟩ := r; exact ⟨_, q, trivial⟩
    | true => simp [Cell.free] at f
  | ins c fs => obtain ⟨dx, gs, q, r⟩ := r; exact ⟨_, q, trivial⟩
  | exc c => simp [Cell.free] at f
  | dctT kvs => obtain ⟨vs, q, r⟩ := r; exact ⟨_, q, trivial⟩
section
variable {P : Pm} {h : PH} {H : Hp}
theorem HR.free (r : HR P h H) {p : Addr} (n : H p = none) : h p = none := by
  cases e : h p with
  | none => rfl
  | some c =>
    obtain ⟨u, q⟩ := (r p c e).there
    rw [n] at q; cases q
theorem HR.chg (r : HR P h H) {p : Addr} {c : Cell} (e : h p = some c) (o : HO) (f : c.free = true := by rfl) : Ext H (upd H p o) := by
  obtain ⟨u, q, z⟩ := (r p c e).chg f
  exact .chg q z
/-- one cell new or changed -/
theorem HR.upd (r : HR P h H) {p : Addr} {c : Cell} {o : HO} (x : Ext H (upd H p o)) (n : CR P (upd H p o) p c) : HR P (pup h p c) (upd H p o) := ⟨fun a d e => by
  by_cases q : a = p
  · subst q; rw [pup_same] at e; cases e; exact n
  · rw [pup_ne q] at e
    exact (r a d e).ext x (upd_ne q), x.tb r.tb⟩
/-- a thing new that is not in view -/
theorem HR.keep (r : HR P h H) {p : Addr} {o : HO} (n : H p = none) : HR P h (L2.upd H p o) := ⟨fun a d e => by
  have q : a ≠ p := fun z => by
    subst z
    obtain ⟨u, q⟩ := (r a d e).there
    rw [n] at q; cases q
  exact (r a d e).ext (.new n) (upd_ne q), (Ext.new n).tb r.tb⟩
theorem HR.le {h' : PH} (r : HR P h H) (l : PLe h' h) : HR P h' H := ⟨fun a c e => r a c (l a c e), r.tb⟩
theorem HR.lst (r : HR P h H) {p : Addr} {xs : List PV} (e : h p = some (.lst xs)) : ∃ vs, H p = some (.lst vs) ∧ RPs P.K H xs vs := r p _ e
theorem HR.dct (r : HR P h H) {p : Addr} {f : Bool} {kvs : List (Key × PV)} (e : h p = some (.dct f kvs)) : ∃ ws, Rd H p (.dK ws) ∧ RK P.K H kvs ws := by
  cases f with
  | false => obtain ⟨ws, q, z⟩ := r p _ e; exact ⟨ws, .inl q, z⟩
  | true => obtain ⟨o, ws, q, z⟩ := r p _ e; exact ⟨ws, .inr ⟨o, q⟩, z⟩
end

/-! ## environments -/
def RO (K : PySem.W.Frag) (H : Hp) (o : Option PV) (u : Option V) : Prop := ∀ x, o = some x → ∃ v, u = some v ∧ RP K H x v
abbrev RE (K : PySem.W.Frag) (H : Hp) : PEnv → St → Prop := Paired (RO K H)
theorem RE.ext {K : PySem.W.Frag} {H H' : Hp} {env : PEnv} {σ : St} (r : RE K H env σ) (e : Ext H H') : RE K H' env σ :=
  paired_imp r fun _ _ z x q => let ⟨v, a, b⟩ := z x q; ⟨v, a, b.ext e⟩
theorem RE.get {K : PySem.W.Frag} {H : Hp} : ∀ {env : PEnv} {σ : St} {i : Nat} {x : PV}, RE K H env σ → env[i]? = some (some x) → ∃ v, σ[i]? = some (some v) ∧ RP K H x v
  | _, _, _, _, .nil, e => by simp at e
  | _, _, 0, _, .cons a b, e => by
    simp at e
    obtain ⟨v, q, r⟩ := a _ e
    exact ⟨v, by simp [q], r⟩
  | _, _, i + 1, _, .cons a b, e => by
    obtain ⟨v, q, r⟩ := RE.get b (i := i) (by simpa using e)
    exact ⟨v, by simpa using q, r⟩
theorem RE.set {K : PySem.W.Frag} {H : Hp} {o : Option PV} {u : Option V} (r : RO K H o u) : ∀ {env : PEnv} {σ : St} (i : Nat), RE K H env σ → RE K H (env.set i o) (σ.set i u)
  | _, _, _, .nil => .nil
  | _, _, 0, .cons _ b => .cons r b
  | _, _, i + 1, .cons a b => .cons a (RE.set r i b)
theorem RE.put {K : PySem.W.Frag} {H : Hp} {x : PV} {v : V} (r : RP K H x v) {env : PEnv} {σ : St} (i : Nat) (q : RE K H env σ) : RE K H (env.set i (some x)) (σ.set i (some v)) :=
  RE.set (fun _ e => by cases e; exact ⟨v, rfl, r⟩) i q
theorem RE.off {K : PySem.W.Frag} {H : Hp} {u : Option V} {env : PEnv} {σ : St} (i : Nat) (q : RE K H env σ) : RE K H (env.set i none) (σ.set i u) :=
  RE.set (fun _ e => by cases e) i q
theorem RE.wipe {K : PySem.W.Frag} {H : Hp} {env : PEnv} {σ : St} (q : RE K H env σ) : ∀ ws : List Nat, RE K H (wipeP env ws) (wipe σ ws)
  | [] => q
  | v :: vs => RE.off v (RE.wipe q vs)

/-! ## what is wanted of values, carried over -/
/-- the wish Qp of the small language, as a wish Q -/
def Lft (P : Pm) (H : Hp) (Qp : QE) (Q : VK) : Prop := ∀ pr h' v H', Qp pr h' → Ext H H' → RP P.K H' pr v → HR P h' H' → Q v H'
theorem Lft.on {P : Pm} {H H1 : Hp} {Qp : QE} {Q : VK} (l : Lft P H Qp Q) (e : Ext H H1) : Lft P H1 Qp Q := fun pr h' v H' a b c d => l pr h' v H' a (e.trans b) c d
theorem Lft.here {P : Pm} {H : Hp} {Qp : QE} {Q : VK} (l : Lft P H Qp Q) {h : PH} {x : PV} {v : V} (q : Qp x h) (r : RP P.K H x v) (z : HR P h H) : Q v H := l x h v H q (.refl H) r z
/-- two values in, by the meaning f -/
def rTwo (P : Pm) (f : PV → PV → PH → QE → Prop) : R2 := fun x y H Q => ∃ a b h Qp, RP P.K H a x ∧ RP P.K H b y ∧ HR P h H ∧ f a b h Qp ∧ Lft P H Qp Q
theorem rlst_new {P : Pm} {h : PH} {H : Hp} {p : Addr} {xs : List PV} {vs : List V} (z : HR P h H) (n : H p = none) (r : RPs P.K H xs vs) : HR P (pup h p (.lst xs)) (upd H p (.lst vs)) :=
  z.upd (.new n) ⟨vs, upd_same, r.ext (.new n)⟩
theorem rlst_put {P : Pm} {h : PH} {H : Hp} {p : Addr} {c : Cell} {xs : List PV} {vs : List V} (z : HR P h H) (e : h p = some c) (r : RPs P.K H xs vs) (f : c.free = true := by rfl) : HR P (pup h p (.lst xs)) (upd H p (.lst vs)) :=
  z.upd (z.chg e _ f) ⟨vs, upd_same, r.ext (z.chg e _ f)⟩
theorem rdct_new {P : Pm} {h : PH} {H : Hp} {p : Addr} {xs : List (Key × PV)} {vs : List (Key × V)} (z : HR P h H) (n : H p = none) (r : RK P.K H xs vs) : HR P (pup h p (.dct false xs)) (upd H p (.dK vs)) :=
  z.upd (.new n) ⟨vs, upd_same, paired_imp r fun _ _ q => ⟨q.1, q.2.ext (.new n)⟩⟩
theorem rdct_put {P : Pm} {h : PH} {H : Hp} {p : Addr} {c : Cell} {xs : List (Key × PV)} {vs : List (Key × V)} (z : HR P h H) (e : h p = some c) (r : RK P.K H xs vs) (f : c.free = true := by rfl) : HR P (pup h p (.dct false xs)) (upd H p (.dK vs)) :=
  z.upd (z.chg e _ f) ⟨vs, upd_same, paired_imp r fun _ _ q => ⟨q.1, q.2.ext (z.chg e _ f)⟩⟩
def bOp : BinK → Operator
  | .add => .Add | .sub => .Sub | .mul => .Mult | .div => .FloorDiv | .mod => .Mod | .pow => .Pow
section
variable {X : Cx} {P : Pm}
theorem op_bin (hK : X.K = P.K) (k : BinK) : OpR X (binaryOp (bOp k)) (rTwo P (binV k)) := by
  intro pins s σ H x y v u Q I rx ry ⟨a, b, h, Qp, ra, rb, z, q, l⟩
  match k, a, b, ra, rb, q with
  | .add, .int i, .int j, .int _, .int _, q => exact op_add pins s σ H _ _ _ _ Q I rx ry ⟨i, j, rfl, rfl, l.here q (.int _) z⟩
  | .add, .str i, .str j, .str _, .str _, q => exact op_add_str pins s σ H _ _ _ _ Q I rx ry ⟨i, j, rfl, rfl, q.1, l.here q.2 (.str _) z⟩
  | .add, .tup i, .tup j, .tup (a := a) (vs := vs) t1 r1, .tup (a := b) (vs := ws) t2 r2, q =>
    refine op_catT pins s σ H _ _ _ _ Q I rx ry ⟨a, b, vs, ws, rfl, rfl, hK ▸ t1.sq, hK ▸ t2.sq, fun e => q.1 (r1.nil_iff.mpr e), by rw [← r1.length, ← r2.length]; exact q.2.1, fun e => ?_, fun _ p n => ?_⟩
    · have e2 : j = [] := r2.nil_iff.mpr e
      subst e2
      exact l.here q.2.2 (.tup t1 (by simpa using r1)) z
    · exact l _ _ _ _ q.2.2 (.new n) (.tup (.inl upd_same) ((r1.append r2).ext (.new n))) (z.keep n)
  | .add, .loc a, .loc b, .loc _, .loc _, q =>
    simp only [binV] at q
    split at q
    · rename_i xs ys e1 e2
      obtain ⟨vs, g1, r1⟩ := z.lst e1
      obtain ⟨ws, g2, r2⟩ := z.lst e2
      refine op_cat pins s σ H _ _ _ _ Q I rx ry ⟨a, b, vs, ws, rfl, rfl, g1, g2, by rw [← r1.length, ← r2.length]; exact q.1, fun p n => ?_⟩
      exact l _ _ _ _ (q.2 p (z.free n)) (.new n) (.loc p) (rlst_new z n (r1.append r2))
    · exact q.elim
  | .sub, .int i, .int j, .int _, .int _, q => exact op_sub pins s σ H _ _ _ _ Q I rx ry ⟨i, j, rfl, rfl, l.here q (.int _) z⟩
  | .mul, .int i, .int j, .int _, .int _, q =>
    rcases q.1 with c | c
    · exact op_mul pins s σ H _ _ _ _ Q I rx ry ⟨i, j, rfl, rfl, c, l.here q.2 (.int _) z⟩
    · exact op_mulW pins s σ H _ _ _ _ Q I rx ry ⟨i, j, rfl, rfl, c, l.here q.2 (.int _) z⟩
  | .mul, .str i, .int j, .str _, .int _, q =>
    obtain ⟨t, rfl⟩ := rx
    obtain ⟨t2, rfl⟩ := ry
    exact SB.mul q.1 fun t' k => ⟨.str _, H, I.tok k, ⟨t', rfl⟩, l.here q.2 (.str _) z⟩
  | .div, .int i, .int j, .int _, .int _, q =>
    rcases q.1 with c | c
    · exact op_fdiv pins s σ H _ _ _ _ Q I rx ry ⟨i, j, rfl, rfl, c, l.here q.2 (.int _) z⟩
    · exact op_fdivW pins s σ H _ _ _ _ Q I rx ry ⟨i, j, rfl, rfl, c, l.here q.2 (.int _) z⟩
  | .mod, .int i, .int j, .int _, .int _, q => exact op_mod pins s σ H _ _ _ _ Q I rx ry ⟨i, j, rfl, rfl, q.1, l.here q.2 (.int _) z⟩
  | .pow, .int i, .int j, .int _, .int _, q => exact op_pow pins s σ H _ _ _ _ Q I rx ry ⟨i, j, rfl, rfl, q.1, l.here q.2 (.int _) z⟩
theorem iop_bin (hK : X.K = P.K) (k : BinK) : OpR X (inplaceOp (bOp k)) (rTwo P (augV k)) := by
  intro pins s σ H x y v u Q I rx ry ⟨a, b, h, Qp, ra, rb, z, q, l⟩
  match k, a, b, ra, rb, q with
  | .add, .int i, .int j, .int _, .int _, q => exact iop_add pins s σ H _ _ _ _ Q I rx ry ⟨i, j, rfl, rfl, l.here q (.int _) z⟩
  | .add, .str i, .str j, .str _, .str _, q => exact iop_add_str pins s σ H _ _ _ _ Q I rx ry ⟨i, j, rfl, rfl, q.1, l.here q.2 (.str _) z⟩
  | .add, .loc a, .loc b, .loc _, .loc _, q =>
    simp only [augV] at q
    split at q
    · rename_i xs ys e1 e2
      obtain ⟨vs, g1, r1⟩ := z.lst e1
      obtain ⟨ws, g2, r2⟩ := z.lst e2
      refine iop_ext pins s σ H _ _ _ _ Q I rx ry ⟨a, b, vs, ws, rfl, rfl, g1, g2, by rw [← r1.length, ← r2.length]; exact q.1, ?_⟩
      exact l _ _ _ _ q.2 (z.chg e1 _) (.loc a) (rlst_put z e1 (r1.append r2))
    · exact q.elim
  | .sub, .int i, .int j, .int _, .int _, q => exact iop_sub pins s σ H _ _ _ _ Q I rx ry ⟨i, j, rfl, rfl, l.here q (.int _) z⟩
  | .mul, .int i, .int j, .int _, .int _, q => exact iop_mul pins s σ H _ _ _ _ Q I rx ry ⟨i, j, rfl, rfl, q.1, l.here q.2 (.int _) z⟩
end
end Mir

set_option autoImplicit true
namespace Mir
open PySem L2
open PyProof.Rows hiding St
variable [Tbl]

/-! ## equality -/
theorem deqL_spec (f : PV → PV → Option Bool) : ∀ (xs ys : List PV) (b : Bool), deqL f xs ys = some b →
    b = ((List.range (min xs.length ys.length)).all (fun j => (f (xs.getD j .non) (ys.getD j .non)).getD false) && xs.length == ys.length) ∧
      ∀ j, j < xs.length → j < ys.length → ∃ c, f (xs.getD j .non) (ys.getD j .non) = some c
  | [], [], b, e => by simp [deqL] at e; subst e; simp
  | [], y :: ys, b, e => by simp [deqL] at e; subst e; simp
  | x :: xs, [], b, e => by simp [deqL] at e; subst e; simp
  | x :: xs, y :: ys, b, e => by
    simp only [deqL] at e
    split at e
    · rename_i a c e1 e2
      obtain ⟨h1, h2⟩ := deqL_spec f xs ys c e2
      cases e
      refine ⟨?_, fun j j1 j2 => ?_⟩
      · have m : min (x :: xs).length (y :: ys).length = min xs.length ys.length + 1 := by simp only [List.length_cons]; omega
        rw [m, List.range_succ_eq_map, List.all_cons, List.all_map, h1]
        simp [e1, Function.comp_def, Bool.and_assoc]
      · cases j with
        | zero => exact ⟨a, by simpa using e1⟩
        | succ j =>
          obtain ⟨d, q⟩ := h2 j (by simpa using j1) (by simpa using j2)
          exact ⟨d, by simpa using q⟩
    · cases e
section
variable {X : Cx} {P : Pm} {pins : List (Addr × Obj)} {σ : L2.St} {H : Hp} {s : Shared} {h : PH}
theorem TAt.inj (I : Inv X pins σ H s) {a : Addr} {vs ws : List V} (x : TAt X.K H a vs) (y : TAt X.K H a ws) : vs = ws := I.tuple_inj x.sq y.sq
mutual
theorem deq_same (I : Inv X pins σ H s) (z : HR P h H) (hK : X.K = P.K) : ∀ (n : Nat) {x y : PV} {v : V} {e : Bool}, RP X.K H x v → RP X.K H y v → deq h n x y = some e → e = true
  | n, _, _, _, _, .non, .non, e => by simp [deq] at e; exact e
  | n, _, _, _, _, .bl b, .bl _, e => by simp [deq] at e; exact e
  | n, _, _, _, _, .int i, .int _, e => by simp [deq] at e; exact e
  | n, _, _, _, _, .str i, .str _, e => by simp [deq] at e; exact e
  | 0, _, _, _, _, .tup t r, .tup t' r', e => by simp [deq] at e
  | n + 1, _, _, _, _, .tup t r, .tup t' r', e => by
    have q := TAt.inj I t t'
    subst q
    simp only [deq] at e
    exact deqL_same I z hK n r r' e
  | 0, _, _, _, _, .loc a, .loc _, e => by simp [deq] at e
  | n + 1, _, _, _, _, .loc a, .loc _, e => by
    simp only [deq] at e
    split at e
    · rename_i xs ys e1 e2
      rw [e1] at e2
      cases e2
      obtain ⟨vs, _, r⟩ := z.lst e1
      exact deqL_same I z hK n (hK ▸ r) (hK ▸ r) e
    · cases e
  | n, _, _, _, _, .fl .., .tup .., e => by cases n <;> simp [deq] at e
  | n, _, _, _, _, .fl .., .fl .., e => by cases n <;> simp [deq] at e
  | n, _, _, _, _, .fl .., .loc .., e => by cases n <;> simp [deq] at e
  | n, _, _, _, _, .tup .., .fl .., e => by cases n <;> simp [deq] at e
  | n, _, _, _, _, .tup .., .loc .., e => by cases n <;> simp [deq] at e
  | n, _, _, _, _, .loc .., .fl .., e => by cases n <;> simp [deq] at e
  | n, _, _, _, _, .loc .., .tup .., e => by cases n <;> simp [deq] at e
theorem deqL_same (I : Inv X pins σ H s) (z : HR P h H) (hK : X.K = P.K) : ∀ (n : Nat) {xs ys : List PV} {vs : List V} {e : Bool}, RPs X.K H xs vs → RPs X.K H ys vs → deqL (deq h n) xs ys = some e → e = true
  | n, _, _, _, _, .nil, .nil, e => by simp [deqL] at e; exact e
  | n, _, _, _, _, .cons r t, .cons r' t', e => by
    simp only [deqL] at e
    split at e
    · rename_i a b e1 e2
      cases e
      have h1 := deq_same I z hK n r r' e1
      have h2 := deqL_same I z hK n t t' e2
      simp [h1, h2]
    · cases e
end
theorem vals_at {vs : List V} {us : List Value} (r : Vals vs us) {j : Nat} (h1 : j < us.length) : ∃ v, vs[j]? = some v ∧ RelV v us[j] := by
  obtain ⟨v, e⟩ : ∃ v, vs[j]? = some v := by
    have l := r.length
    exact ⟨vs[j]'(by omega), List.getElem?_eq_getElem (by omega)⟩
  obtain ⟨u, q, rr⟩ := r.get e
  rw [List.getElem?_eq_getElem h1] at q
  cases q
  exact ⟨v, e, rr⟩
theorem in1_units (A : Around) : A.in1.units = A.units + 1 := rfl
/-- lists of values, item by item -/
theorem items_eq {f : PV → PV → Option Bool} {A : Around} {xs ys : List PV} {vs ws : List V} {us us' : List Value} {b : Bool}
    (ih : ∀ x y v w u u' e, RP X.K H x v → RP X.K H y w → RelV v u → RelV w u' → f x y = some e → SeqAt.EqAt A s u u' e)
    (r : RPs X.K H xs vs) (r' : RPs X.K H ys ws) (q : Vals vs us) (q' : Vals ws us') (e : deqL f xs ys = some b) :
    ∀ j (h1 : j < us.toArray.size) (h2 : j < us'.toArray.size), SeqAt.EqAt A s us.toArray[j] us'.toArray[j] ((f (xs.getD j .non) (ys.getD j .non)).getD false) := by
  intro j h1 h2
  obtain ⟨_, k⟩ := deqL_spec f xs ys b e
  have h1' : j < us.length := by simpa using h1
  have h2' : j < us'.length := by simpa using h2
  obtain ⟨v, e1, rv⟩ := vals_at q h1'
  obtain ⟨w, e2, rw'⟩ := vals_at q' h2'
  obtain ⟨x, f1, rx⟩ := r.getR e1
  obtain ⟨y, f2, ry⟩ := r'.getR e2
  have l1 : j < xs.length := (List.getElem?_eq_some_iff.mp f1).1
  have l2 : j < ys.length := (List.getElem?_eq_some_iff.mp f2).1
  obtain ⟨c, ec⟩ := k j l1 l2
  have g1 : xs.getD j .non = x := by simp [List.getD, f1]
  have g2 : ys.getD j .non = y := by simp [List.getD, f2]
  rw [g1, g2] at ec ⊢
  rw [ec]
  simpa using ih x y v w _ _ c rx ry rv rw' ec
theorem deqL_ans {f : PV → PV → Option Bool} {xs ys : List PV} {b : Bool} {n m : Nat} (e : deqL f xs ys = some b) (h1 : n = xs.length) (h2 : m = ys.length) :
    ((List.range (min n m)).all (fun j => (f (xs.getD j .non) (ys.getD j .non)).getD false) && n == m) = b := by
  subst h1 h2
  exact (deqL_spec f xs ys b e).1.symm
theorem size_of {vs : List V} {xs : List PV} {us : List Value} (r : RPs X.K H xs vs) (q : Vals vs us) : us.toArray.size = xs.length := by
  rw [List.size_toArray, ← q.length, ← r.length]
theorem eqAt_deq (I : Inv X pins σ H s) (z : HR P h H) (hK : X.K = P.K) : ∀ (n : Nat) (A : Around) (x y : PV) (v w : V) (u u' : Value) (e : Bool), A.units + n < cLine → RP X.K H x v → RP X.K H y w → RelV v u → RelV w u' → deq h n x y = some e → SeqAt.EqAt A s u u' e := by
  intro n
  induction n with
  | zero =>
    intro A x y v w u u' e hu rx ry rv rw' he
    cases rx with
    | tup t r => cases ry <;> simp [deq] at he
    | loc a => cases ry <;> simp [deq] at he
    | fl _ _ => cases ry <;> simp [deq] at he
    | non =>
      cases rv
      cases ry with
      | non => simp [deq] at he; subst he; cases rw'; exact .same _
      | bl _ => simp [deq] at he; subst he; cases rw'; exact .none_bool _
      | int _ => simp [deq] at he; subst he; obtain ⟨_, rfl⟩ := rw'; exact .none_int _ _
      | str _ => simp [deq] at he; subst he; obtain ⟨_, rfl⟩ := rw'; exact .none_str _ _
      | fl _ _ => simp [deq] at he
      | loc _ => simp [deq] at he
      | tup t r => simp [deq] at he
    | bl b =>
      cases rv
      cases ry with
      | non => simp [deq] at he; subst he; cases rw'; exact .bool_none _
      | bl _ => simp only [deq, Option.some.injEq] at he; subst he; cases rw'; exact .bool_bool _ _
      | int _ => simp only [deq, Option.some.injEq] at he; subst he; obtain ⟨_, rfl⟩ := rw'; exact .bool_int _ _ _
      | str _ => simp [deq] at he; subst he; obtain ⟨_, rfl⟩ := rw'; exact .bool_str _ _ _
      | fl _ _ => simp [deq] at he
      | loc _ => simp [deq] at he
      | tup t r => simp [deq] at he
    | int b =>
      obtain ⟨_, rfl⟩ := rv
      cases ry with
      | non => simp [deq] at he; subst he; cases rw'; exact .int_none _ _
      | bl _ => simp only [deq, Option.some.injEq] at he; subst he; cases rw'; exact .int_bool _ _ _
      | int _ => simp only [deq, Option.some.injEq] at he; subst he; obtain ⟨_, rfl⟩ := rw'; exact .int_int _ _ _ _
      | str _ => simp [deq] at he; subst he; obtain ⟨_, rfl⟩ := rw'; exact .int_str _ _ _ _
      | fl _ _ => simp [deq] at he
      | loc _ => simp [deq] at he
      | tup t r => simp [deq] at he
    | str b =>
      obtain ⟨_, rfl⟩ := rv
      cases ry with
      | non => simp [deq] at he; subst he; cases rw'; exact .str_none _ _
      | bl _ => simp [deq] at he; subst he; cases rw'; exact .str_bool _ _ _
      | int _ => simp [deq] at he; subst he; obtain ⟨_, rfl⟩ := rw'; exact .str_int _ _ _ _
      | str _ => simp only [deq, Option.some.injEq] at he; subst he; obtain ⟨_, rfl⟩ := rw'; exact .str_str _ _ _ _
      | fl _ _ => simp [deq] at he
      | loc _ => simp [deq] at he
      | tup t r => simp [deq] at he
  | succ n ih =>
    intro A x y v w u u' e hu rx ry rv rw' he
    have hu0 : A.units < cLine := by omega
    have hin : A.in1.units + n < cLine := by rw [in1_units]; omega
    have go : ∀ x y v w u u' e, RP X.K H x v → RP X.K H y w → RelV v u → RelV w u' → deq h n x y = some e → SeqAt.EqAt A.in1 s u u' e := fun x y v w u u' e a b c d k => ih A.in1 x y v w u u' e hin a b c d k
    cases rx with
    | tup t r =>
      rename_i a xs vs
      cases rv
      obtain ⟨us, q, p, _⟩ := I.tuple t.sq
      have p : s.heap.IsTuple a us.toArray := p
      cases ry with
      | tup t' r' =>
        rename_i a' ys ws
        cases rw'
        obtain ⟨us', q', p', _⟩ := I.tuple t'.sq
        have p' : s.heap.IsTuple a' us'.toArray := p'
        by_cases ha : a = a'
        · subst ha
          rw [deq_same I z hK (n + 1) (.tup t r) (.tup t' r') he]
          exact .same _
        · simp only [deq] at he
          rw [← deqL_ans he (size_of r q) (size_of r' q')]
          exact .of_refs ha (.tuples p p' hu0 (items_eq go r r' q q' he))
      | non => simp [deq] at he; subst he; cases rw'; exact .tuple_none p hu0
      | bl b => simp [deq] at he
      | int i => simp [deq] at he; subst he; obtain ⟨_, rfl⟩ := rw'; exact .tuple_int _ _ p hu0
      | str i => simp [deq] at he; subst he; obtain ⟨_, rfl⟩ := rw'; exact .tuple_str _ _ p hu0
      | fl _ _ => simp [deq] at he
      | loc b => simp [deq] at he
    | loc a =>
      cases rv
      cases ry with
      | loc a' =>
        cases rw'
        by_cases ha : a = a'
        · subst ha
          rw [deq_same I z hK (n + 1) (.loc a) (.loc a) he]
          exact .same _
        · simp only [deq] at he
          split at he
          · rename_i xs ys e1 e2
            obtain ⟨vs, g1, r⟩ := z.lst e1
            obtain ⟨ws, g2, r'⟩ := z.lst e2
            rw [← hK] at r r'
            obtain ⟨us, q, p, _⟩ := I.list (SqL.of (K := X.K) g1)
            obtain ⟨us', q', p', _⟩ := I.list (SqL.of (K := X.K) g2)
            have an := deqL_ans he (size_of r q) (size_of r' q')
            by_cases hs : us.toArray.size = us'.toArray.size
            · rw [← hs, Nat.min_self] at an
              rw [← an]
              simp only [beq_self_eq_true, Bool.and_true]
              exact .of_refs ha (.lists p.isList p'.isList hs hu0 (items_eq go r r' q q' he))
            · have : e = false := by rw [← an]; simp only [Bool.and_eq_false_iff, beq_eq_false_iff_ne]; exact .inr hs
              subst this
              exact .of_refs ha (.lists_lengths p.isList p'.isList (by simpa using hs) hu0)
          · cases he
      | non => simp [deq] at he
      | bl b => simp [deq] at he
      | int i => simp [deq] at he
      | str i => simp [deq] at he
      | fl _ _ => simp [deq] at he
      | tup _ _ => simp [deq] at he
    | fl _ _ => cases ry <;> simp [deq] at he
    | non =>
      cases rv
      cases ry with
      | non => simp [deq] at he; subst he; cases rw'; exact .same _
      | bl _ => simp [deq] at he; subst he; cases rw'; exact .none_bool _
      | int _ => simp [deq] at he; subst he; obtain ⟨_, rfl⟩ := rw'; exact .none_int _ _
      | str _ => simp [deq] at he; subst he; obtain ⟨_, rfl⟩ := rw'; exact .none_str _ _
      | fl _ _ => simp [deq] at he
      | loc _ => simp [deq] at he
      | tup t r => 
        simp [deq] at he
        subst he
        cases rw'
        obtain ⟨us, q, p, _⟩ := I.tuple t.sq
        exact .none_tuple p hu0
    | bl b =>
      cases rv
      cases ry with
      | non => simp [deq] at he; subst he; cases rw'; exact .bool_none _
      | bl _ => simp only [deq, Option.some.injEq] at he; subst he; cases rw'; exact .bool_bool _ _
      | int _ => simp only [deq, Option.some.injEq] at he; subst he; obtain ⟨_, rfl⟩ := rw'; exact .bool_int _ _ _
      | str _ => simp [deq] at he; subst he; obtain ⟨_, rfl⟩ := rw'; exact .bool_str _ _ _
      | fl _ _ => simp [deq] at he
      | loc _ => simp [deq] at he
      | tup t r => simp [deq] at he
    | int b =>
      obtain ⟨_, rfl⟩ := rv
      cases ry with
      | non => simp [deq] at he; subst he; cases rw'; exact .int_none _ _
      | bl _ => simp only [deq, Option.some.injEq] at he; subst he; cases rw'; exact .int_bool _ _ _
      | int _ => simp only [deq, Option.some.injEq] at he; subst he; obtain ⟨_, rfl⟩ := rw'; exact .int_int _ _ _ _
      | str _ => simp [deq] at he; subst he; obtain ⟨_, rfl⟩ := rw'; exact .int_str _ _ _ _
      | fl _ _ => simp [deq] at he
      | loc _ => simp [deq] at he
      | tup t r => 
        simp [deq] at he
        subst he
        cases rw'
        obtain ⟨us, q, p, _⟩ := I.tuple t.sq
        exact .int_tuple _ _ p hu0
    | str b =>
      obtain ⟨_, rfl⟩ := rv
      cases ry with
      | non => simp [deq] at he; subst he; cases rw'; exact .str_none _ _
      | bl _ => simp [deq] at he; subst he; cases rw'; exact .str_bool _ _ _
      | int _ => simp [deq] at he; subst he; obtain ⟨_, rfl⟩ := rw'; exact .str_int _ _ _ _
      | str _ => simp only [deq, Option.some.injEq] at he; subst he; obtain ⟨_, rfl⟩ := rw'; exact .str_str _ _ _ _
      | fl _ _ => simp [deq] at he
      | loc _ => simp [deq] at he
      | tup t r => 
        simp [deq] at he
        subst he
        cases rw'
        obtain ⟨us, q, p, _⟩ := I.tuple t.sq
        exact .str_tuple _ _ p hu0
end
end Mir

set_option autoImplicit true
namespace Mir
open PySem L2
open PyProof.Rows hiding St
variable [Tbl]

section
variable {X : Cx} {P : Pm} {pins : List (Addr × Obj)} {σ : L2.St} {H : Hp} {s : Shared} {h : PH}
theorem items_all {f : PV → PV → Option Bool} {xs ys : List PV} {b : Bool} {n m : Nat} (an : ((List.range (min n m)).all (fun j => (f (xs.getD j .non) (ys.getD j .non)).getD false) && n == m) = b) (hs : n = m) :
    (List.range n).all (fun j => (f (xs.getD j .non) (ys.getD j .non)).getD false) = b := by
  rw [← hs, Nat.min_self] at an
  rw [← an]
  simp only [beq_self_eq_true, Bool.and_true]
/-- both comparisons at the top -/
theorem rc_both (I : Inv X pins σ H s) (z : HR P h H) (hK : X.K = P.K) (hu : X.A.units + 64 < cLine) {x y : PV} {v w : V} {u u' : Value} {e : Bool} (rx : RP X.K H x v) (ry : RP X.K H y w) (rv : RelV v u) (rw' : RelV w u') (he : deq h 20 x y = some e) :
    SeqAt.RcAt X.A s u u' e ∧ SeqAt.RcNeAt X.A s u u' (!e) := by
  have hu0 : X.A.units < cLine := by omega
  have hin : X.A.in1.units + 19 < cLine := by rw [in1_units]; omega
  have go : ∀ x y v w u u' e, RP X.K H x v → RP X.K H y w → RelV v u → RelV w u' → deq h 19 x y = some e → SeqAt.EqAt X.A.in1 s u u' e := fun x y v w u u' e a b c d k => eqAt_deq I z hK 19 X.A.in1 x y v w u u' e hin a b c d k
  cases rx with
  | tup t r =>
    rename_i a xs vs
    cases rv
    obtain ⟨us, q, p, _⟩ := I.tuple t.sq
    have p : s.heap.IsTuple a us.toArray := p
    cases ry with
    | tup t' r' =>
      rename_i a' ys ws
      cases rw'
      obtain ⟨us', q', p', _⟩ := I.tuple t'.sq
      have p' : s.heap.IsTuple a' us'.toArray := p'
      simp only [deq] at he
      have an := deqL_ans he (size_of r q) (size_of r' q')
      have it := items_eq go r r' q q' he
      refine ⟨?_, ?_⟩
      · rw [← an]; exact .tuples p p' hu0 it
      · rw [← an]; exact .tuples p p' hu0 it
    | non => simp [deq] at he; subst he; cases rw'; exact ⟨.tuple_none p hu0, .tuple_none p hu0⟩
    | bl b => simp [deq] at he
    | int i => simp [deq] at he; subst he; obtain ⟨_, rfl⟩ := rw'; exact ⟨.tuple_int _ _ p hu0, .tuple_int _ _ p hu0⟩
    | str i => simp [deq] at he; subst he; obtain ⟨_, rfl⟩ := rw'; exact ⟨.tuple_str _ _ p hu0, .tuple_str _ _ p hu0⟩
    | fl _ _ => simp [deq] at he
    | loc b => simp [deq] at he
  | loc a =>
    cases rv
    cases ry with
    | loc a' =>
      cases rw'
      simp only [deq] at he
      split at he
      · rename_i xs ys e1 e2
        obtain ⟨vs, g1, r⟩ := z.lst e1
        obtain ⟨ws, g2, r'⟩ := z.lst e2
        rw [← hK] at r r'
        obtain ⟨us, q, p, _⟩ := I.list (SqL.of (K := X.K) g1)
        obtain ⟨us', q', p', _⟩ := I.list (SqL.of (K := X.K) g2)
        have an := deqL_ans he (size_of r q) (size_of r' q')
        have it := items_eq go r r' q q' he
        by_cases hs : us.toArray.size = us'.toArray.size
        · have an' := items_all an hs
          refine ⟨?_, ?_⟩
          · rw [← an']; exact .lists p.isList p'.isList hs hu0 it
          · rw [← an']; exact .lists p.isList p'.isList hs hu0 it
        · have : e = false := by rw [← an]; simp only [Bool.and_eq_false_iff, beq_eq_false_iff_ne]; exact .inr hs
          subst this
          exact ⟨.lists_lengths p.isList p'.isList (by simpa using hs) hu0, .lists_lengths p.isList p'.isList (by simpa using hs) hu0⟩
      · cases he
    | non => simp [deq] at he
    | bl b => simp [deq] at he
    | int i => simp [deq] at he
    | str i => simp [deq] at he
    | fl _ _ => simp [deq] at he
    | tup _ _ => simp [deq] at he
  | fl _ _ => cases ry <;> simp [deq] at he
  | non =>
    cases rv
    cases ry with
    | non => simp [deq] at he; subst he; cases rw'; exact ⟨.none_none, .none_none⟩
    | bl _ => simp [deq] at he; subst he; cases rw'; exact ⟨.none_bool _, .none_bool _⟩
    | int _ => simp [deq] at he; subst he; obtain ⟨_, rfl⟩ := rw'; exact ⟨.none_int _ _, .none_int _ _⟩
    | str _ => simp [deq] at he; subst he; obtain ⟨_, rfl⟩ := rw'; exact ⟨.none_str _ _, .none_str _ _⟩
    | fl _ _ => simp [deq] at he
    | loc _ => simp [deq] at he
    | tup t r =>
      simp [deq] at he
      subst he
      cases rw'
      obtain ⟨us, q, p, _⟩ := I.tuple t.sq
      exact ⟨.none_tuple p hu0, .none_tuple p hu0⟩
  | bl b =>
    cases rv
    cases ry with
    | non => simp [deq] at he; subst he; cases rw'; exact ⟨.bool_none _, .bool_none _⟩
    | bl _ => simp only [deq, Option.some.injEq] at he; subst he; cases rw'; exact ⟨.bool_bool _ _, .bool_bool _ _⟩
    | int _ => simp only [deq, Option.some.injEq] at he; subst he; obtain ⟨_, rfl⟩ := rw'; exact ⟨.bool_int _ _ _, .bool_int _ _ _⟩
    | str _ => simp [deq] at he; subst he; obtain ⟨_, rfl⟩ := rw'; exact ⟨.bool_str _ _ _, .bool_str _ _ _⟩
    | fl _ _ => simp [deq] at he
    | loc _ => simp [deq] at he
    | tup t r => simp [deq] at he
  | int b =>
    obtain ⟨_, rfl⟩ := rv
    cases ry with
    | non => simp [deq] at he; subst he; cases rw'; exact ⟨.int_none _ _, .int_none _ _⟩
    | bl _ => simp only [deq, Option.some.injEq] at he; subst he; cases rw'; exact ⟨.int_bool _ _ _, .int_bool _ _ _⟩
    | int _ => simp only [deq, Option.some.injEq] at he; subst he; obtain ⟨_, rfl⟩ := rw'; exact ⟨.int_int _ _ _ _, .int_int _ _ _ _⟩
    | str _ => simp [deq] at he; subst he; obtain ⟨_, rfl⟩ := rw'; exact ⟨.int_str _ _ _ _, .int_str _ _ _ _⟩
    | fl _ _ => simp [deq] at he
    | loc _ => simp [deq] at he
    | tup t r =>
      simp [deq] at he
      subst he
      cases rw'
      obtain ⟨us, q, p, _⟩ := I.tuple t.sq
      exact ⟨.int_tuple _ _ p hu0, .int_tuple _ _ p hu0⟩
  | str b =>
    obtain ⟨_, rfl⟩ := rv
    cases ry with
    | non => simp [deq] at he; subst he; cases rw'; exact ⟨.str_none _ _, .str_none _ _⟩
    | bl _ => simp [deq] at he; subst he; cases rw'; exact ⟨.str_bool _ _ _, .str_bool _ _ _⟩
    | int _ => simp [deq] at he; subst he; obtain ⟨_, rfl⟩ := rw'; exact ⟨.str_int _ _ _ _, .str_int _ _ _ _⟩
    | str _ => simp only [deq, Option.some.injEq] at he; subst he; obtain ⟨_, rfl⟩ := rw'; exact ⟨.str_str _ _ _ _, .str_str _ _ _ _⟩
    | fl _ _ => simp [deq] at he
    | loc _ => simp [deq] at he
    | tup t r =>
      simp [deq] at he
      subst he
      cases rw'
      obtain ⟨us, q, p, _⟩ := I.tuple t.sq
      exact ⟨.str_tuple _ _ p hu0, .str_tuple _ _ p hu0⟩

/-! ## dicts -/
theorem valP_eq (kvs : List (Key × PV)) (k : Key) : valP kvs k = (kvs.find? fun kv => decide (kv.1 = k)).map (·.2) := rfl
theorem rk_val {K : PySem.W.Frag} {H : Hp} (k : Key) : ∀ {kvs : List (Key × PV)} {ws : List (Key × V)}, RK K H kvs ws → (∀ v, valP kvs k = some v → ∃ w, valV ws k = some w ∧ RP K H v w) ∧ (valP kvs k = none → valV ws k = none)
  | [], _, .nil => ⟨fun v e => by simp [valP] at e, fun _ => rfl⟩
  | p :: r, _, .cons (b := q) a t => by
    obtain ⟨h1, h2⟩ := rk_val k t
    obtain ⟨k1, v1⟩ := p
    obtain ⟨k2, v2⟩ := q
    obtain ⟨ek, er⟩ := a
    simp only at ek er
    subst ek
    by_cases e : k1 = k
    · subst e
      refine ⟨fun v q => ?_, fun q => ?_⟩
      · simp [valP] at q; subst q; exact ⟨v2, by simp [valV], er⟩
      · simp [valP] at q
    · refine ⟨fun v q => ?_, fun q => ?_⟩
      · have q' : valP r k = some v := by simpa [valP, e] using q
        obtain ⟨w, a, b⟩ := h1 v q'
        exact ⟨w, by simpa [valV, e] using a, b⟩
      · have q' : valP r k = none := by simpa [valP, e] using q
        simpa [valV, e] using h2 q'
theorem rk_any {K : PySem.W.Frag} {H : Hp} (k : Key) : ∀ {kvs : List (Key × PV)} {ws : List (Key × V)}, RK K H kvs ws → (kvs.any fun kv => decide (kv.1 = k)) = ws.any fun kv => decide (kv.1 = k)
  | _, _, .nil => rfl
  | _, _, .cons a t => by simp [rk_any k t, a.1]
theorem rk_append {K : PySem.W.Frag} {H : Hp} : ∀ {a b : List (Key × PV)} {c d : List (Key × V)}, RK K H a c → RK K H b d → RK K H (a ++ b) (c ++ d)
  | _, _, _, _, .nil, s => s
  | _, _, _, _, .cons r t, s => .cons r (rk_append t s)
theorem rk_repl {K : PySem.W.Frag} {H : Hp} {k : Key} {v : PV} {w : V} (r : RP K H v w) : ∀ {kvs : List (Key × PV)} {ws : List (Key × V)}, RK K H kvs ws →
    RK K H (kvs.map fun kv => if kv.1 = k then (kv.1, v) else kv) (ws.map fun kv => if kv.1 = k then (kv.1, w) else kv)
  | _, _, .nil => .nil
  | (k1, v1) :: _, (k2, v2) :: _, .cons a t => by
    obtain ⟨e, q⟩ := a
    simp only at e q
    subst e
    simp only [List.map_cons]
    refine .cons ?_ (rk_repl r t)
    by_cases e : k1 = k
    · rw [if_pos e, if_pos e]; exact ⟨rfl, r⟩
    · rw [if_neg e, if_neg e]; exact ⟨rfl, q⟩
theorem rk_put {K : PySem.W.Frag} {H : Hp} {k : Key} {v : PV} {w : V} (r : RP K H v w) {kvs : List (Key × PV)} {ws : List (Key × V)} (q : RK K H kvs ws) : RK K H (putP kvs k v) (putK ws k w) := by
  unfold putP putK
  rw [rk_any k q]
  split
  · exact rk_repl r q
  · exact rk_append q (.cons ⟨rfl, r⟩ .nil)
theorem rk_drop {K : PySem.W.Frag} {H : Hp} (k : Key) : ∀ {kvs : List (Key × PV)} {ws : List (Key × V)}, RK K H kvs ws → RK K H (dropP kvs k) (dropK ws k)
  | _, _, .nil => .nil
  | (k1, v1) :: _, (k2, v2) :: _, .cons a t => by
    obtain ⟨e, q⟩ := a
    simp only at e q
    subst e
    have ih := rk_drop k t
    by_cases e : k1 = k
    · simpa [dropP, dropK, e] using ih
    · simpa [dropP, dropK, e] using Paired.cons (F := fun (p : Key × PV) (q : Key × V) => p.1 = q.1 ∧ RP K H p.2 q.2) ⟨rfl, q⟩ ih
theorem rk_keys {K : PySem.W.Frag} {H : Hp} : ∀ {kvs : List (Key × PV)} {ws : List (Key × V)}, RK K H kvs ws → kvs.map (·.1) = ws.map (·.1)
  | _, _, .nil => rfl
  | _, _, .cons a t => by simp [rk_keys t, a.1]
theorem rk_keyvals {K : PySem.W.Frag} {H : Hp} : ∀ {kvs : List (Key × PV)} {ws : List (Key × V)}, RK K H kvs ws → RPs K H (kvs.map fun kv => kP kv.1) (ws.map fun kv => kV kv.1)
  | _, _, .nil => .nil
  | (k1, v1) :: _, (k2, v2) :: _, .cons a t => by
    obtain ⟨e, q⟩ := a
    simp only at e
    subst e
    refine .cons ?_ (rk_keyvals t)
    cases k1 with
    | inl i => exact .int i
    | inr x => exact .str x
theorem rk_merge {K : PySem.W.Frag} {H : Hp} : ∀ {more : List (Key × PV)} {ms : List (Key × V)} {kvs : List (Key × PV)} {ws : List (Key × V)}, RK K H more ms → RK K H kvs ws → RK K H (mergeP kvs more) (mergeK ws ms)
  | _, _, _, _, .nil, q => q
  | (k1, v1) :: _, (k2, v2) :: _, _, _, .cons a t, q => by
    obtain ⟨e, r⟩ := a
    simp only at e r
    subst e
    show RK K H (mergeP (putP _ k1 v1) _) (mergeK (putK _ k1 v2) _)
    exact rk_merge t (rk_put r q)
theorem toKey_rel {K : PySem.W.Frag} {H : Hp} {x : PV} {v : V} {k : Key} (r : RP K H x v) (e : toKey x = some k) : v = kV k := by
  cases r <;> simp [toKey] at e <;> subst e <;> rfl
theorem hits_of (I : Inv X pins σ H s) (z : HR P h H) (hK : X.K = P.K) (hu : X.A.units + 64 < cLine) {ls : List (Key × PV)} {wl : List (Key × V)} {vl : List (Key × Value)} (rl : RK X.K H ls wl) (kl : KV wl vl) :
    ∀ {ks : List (Key × PV)} {wk : List (Key × V)} {vk : List (Key × Value)} {b : Bool}, RK X.K H ks wk → KV wk vk → dhit (deq h 20) ls ks = some b → PySem.W.KeqHits X.A.in1 s vl vk b
  | _, _, _, _, .nil, .nil, e => by simp [dhit] at e; subst e; exact .nil
  | (k1, v1) :: _, (k2, v2) :: _, (k3, v3) :: _, b, .cons a t, .cons a' t', e => by
    obtain ⟨e1, r1⟩ := a
    obtain ⟨e2, r2⟩ := a'
    simp only at e1 r1 e2 r2
    subst e1 e2
    simp only [dhit] at e
    obtain ⟨p1, p2⟩ := rk_val k1 rl
    have kv := KV.val kl k1
    split at e
    · rename_i en
      cases e
      rw [p2 en] at kv
      exact .miss (RelO.none_of kv)
    · rename_i u en
      obtain ⟨w, q, rw'⟩ := p1 u en
      rw [q] at kv
      obtain ⟨y, ey, ry⟩ := RelO.some_of kv
      split at e
      · rename_i c d e3 e4
        cases e
        exact .hit ey (eqAt_deq I z hK 20 X.A.in1 v1 u v2 w v3 y c (by rw [in1_units]; omega) r1 rw' r2 ry e3) (hits_of I z hK hu rl kl t t' e4)
      · cases e
/-- == and != of dicts -/
theorem dict_both (I : Inv X pins σ H s) (z : HR P h H) (hK : X.K = P.K) (hu : X.A.units + 64 < cLine) {a b : Addr} {ks ls : List (Key × PV)} (e1 : h a = some (.dct false ks)) (e2 : h b = some (.dct false ls)) {k : Bool}
    (he : ks.length = ls.length → dhit (deq h 20) ls ks = some k) (hn : ks.length ≠ ls.length → k = false) :
    (∀ E Q, Q (.bool k) s → wpAny (model X.prog X.w) X.A (compareOp .Eq (.ref a) (.ref b)) Q E s) ∧ ∀ E Q, Q (.bool (!k)) s → wpAny (model X.prog X.w) X.A (compareOp .NotEq (.ref a) (.ref b)) Q E s := by
  obtain ⟨wk, g1, r1⟩ := z.dct e1
  obtain ⟨wl, g2, r2⟩ := z.dct e2
  rw [← hK] at r1 r2
  obtain ⟨_, y1, vk, k1, d1⟩ := dk_rd I.hok g1
  obtain ⟨_, y2, vl, k2, d2⟩ := dk_rd I.hok g2
  have l1 : ks.length = vk.length := (paired_len r1).trans k1.length
  have l2 : ls.length = vl.length := (paired_len r2).trans k2.length
  have hits : vk.length = vl.length → PySem.W.KeqHits X.A.in1 s vl vk k := fun e => hits_of I z hK hu r2 k2 r1 k1 (he (by omega))
  have ans : (vk.length == vl.length && k) = k := by
    by_cases e : vk.length = vl.length
    · simp [e]
    · rw [hn (by omega)]; simp
  refine ⟨fun E Q q => PySem.W.keq_eq y1 y2 d1 d2 (by omega) hits (by rw [ans]; exact q), fun E Q q => PySem.W.keq_ne y1 y2 d1 d2 (by omega) hits (by rw [ans]; exact q)⟩
end

def cOp : CmpK → CmpOp
  | .lt => .Lt | .le => .LtE | .gt => .Gt | .ge => .GtE | .eq => .Eq | .ne => .NotEq | .isn => .Is | .notn => .IsNot | .isin => .In | .notin => .NotIn
section
variable {X : Cx} {P : Pm}
theorem eqK_run (hK : X.K = P.K) (hu : X.A.units + 64 < cLine) {pins : List (Addr × Obj)} {s : Shared} {σ : L2.St} {H : Hp} {h : PH} {x y : PV} {v w : V} {u u' : Value} {Qb : Bool → Prop} (I : Inv X pins σ H s) (z : HR P h H)
    (rx : RP X.K H x v) (ry : RP X.K H y w) (rv : RelV v u) (rw' : RelV w u') (q : eqK h x y Qb) :
    ∃ k, Qb k ∧ (∀ E Q, Q (.bool k) s → wpAny (model X.prog X.w) X.A (compareOp .Eq u u') Q E s) ∧ ∀ E Q, Q (.bool (!k)) s → wpAny (model X.prog X.w) X.A (compareOp .NotEq u u') Q E s := by
  have flat : (match deq h 20 x y with | some k => Qb k | none => False) → ∃ k, Qb k ∧ (∀ E Q, Q (.bool k) s → wpAny (model X.prog X.w) X.A (compareOp .Eq u u') Q E s) ∧ ∀ E Q, Q (.bool (!k)) s → wpAny (model X.prog X.w) X.A (compareOp .NotEq u u') Q E s := by
    intro q
    split at q
    · rename_i k e
      obtain ⟨a, b⟩ := rc_both I z hK hu rx ry rv rw' e
      exact ⟨k, q, fun E Q qq => a X.prog X.w E Q qq, fun E Q qq => b X.prog X.w E Q qq⟩
    · exact q.elim
  unfold eqK at q
  split at q
  · rename_i a b
    cases rx
    cases ry
    cases rv
    cases rw'
    split at q
    · rename_i ks ls e1 e2
      split at q
      · rename_i hl
        split at q
        · rename_i k e
          obtain ⟨A, B⟩ := dict_both (k := k) I z hK hu e1 e2 (fun _ => e) (fun n => absurd hl n)
          exact ⟨k, q, A, B⟩
        · exact q.elim
      · rename_i hl
        obtain ⟨A, B⟩ := dict_both (k := false) I z hK hu e1 e2 (fun n => absurd n hl) (fun n => rfl)
        exact ⟨false, q, A, B⟩
    · exact flat q
  · exact flat q
theorem flat_rel {K : PySem.W.Frag} {H : Hp} {x : PV} {v : V} (r : RP K H x v) (f : flatP x = true) : flatV v = true := by
  cases r <;> simp [flatP] at f <;> rfl
theorem flats_rel {K : PySem.W.Frag} {H : Hp} : ∀ {xs : List PV} {vs : List V}, RPs K H xs vs → xs.all flatP = true → vs.all flatV = true
  | _, _, .nil, _ => rfl
  | _, _, .cons r t, f => by
    simp only [List.all_cons, Bool.and_eq_true] at f ⊢
    exact ⟨flat_rel r f.1, flats_rel t f.2⟩
theorem peq_eqV {K : PySem.W.Frag} {H : Hp} {x y : PV} {v w : V} (r : RP K H x v) (r' : RP K H y w) (f : flatP x = true) (g : flatP y = true) : peq x y = eqV v w := by
  cases r <;> simp [flatP] at f <;> cases r' <;> simp [flatP] at g <;> rfl
theorem pIn_inV {K : PySem.W.Frag} {H : Hp} {x : PV} {v : V} (r : RP K H x v) (f : flatP x = true) : ∀ {xs : List PV} {vs : List V}, RPs K H xs vs → xs.all flatP = true → pIn x xs = inV v vs
  | _, _, .nil, _ => rfl
  | _, _, .cons r' t, g => by
    simp only [List.all_cons, Bool.and_eq_true] at g
    simp only [pIn, inV, List.any_cons]
    have ih := pIn_inV r f t g.2
    simp only [pIn, inV] at ih
    rw [peq_eqV r' r g.1 f, ih]
theorem in_run (hK : X.K = P.K) (hu : X.A.units + 64 < cLine) {pins : List (Addr × Obj)} {s : Shared} {σ : L2.St} {H : Hp} {h : PH} {x c : PV} {v w : V} {u u' : Value} {Qb : Bool → Prop} (I : Inv X pins σ H s) (z : HR P h H)
    (rx : RP X.K H x v) (rc : RP X.K H c w) (rv : RelV v u) (rw' : RelV w u') (q : inK h x c Qb) :
    ∃ k, Qb k ∧ (∀ Q : VK, Q (.bl k) H → wpAny (model X.prog X.w) X.A (compareOp .In u u') (EP X pins σ Q) X.xe s) ∧ ∀ Q : VK, Q (.bl (!k)) H → wpAny (model X.prog X.w) X.A (compareOp .NotIn u u') (EP X pins σ Q) X.xe s := by
  have seq : ∀ {p : Addr} {xs : List PV} {vs : List V}, w = .ref p → (SqL X.K H p vs ∨ SqT X.K H p vs) → RPs X.K H xs vs → (flatP x = true ∧ xs.all flatP = true ∧ Qb (pIn x xs)) →
      ∃ k, Qb k ∧ (∀ Q : VK, Q (.bl k) H → wpAny (model X.prog X.w) X.A (compareOp .In u u') (EP X pins σ Q) X.xe s) ∧ ∀ Q : VK, Q (.bl (!k)) H → wpAny (model X.prog X.w) X.A (compareOp .NotIn u u') (EP X pins σ Q) X.xe s := by
    intro p xs vs ew sq r qq
    refine ⟨_, qq.2.2, fun Q g => ?_, fun Q g => ?_⟩
    · exact op_in_seq pins s σ H v w u u' Q I rv rw' ⟨p, vs, ew, sq, flat_rel rx qq.1, flats_rel r qq.2.1, by rw [← pIn_inV rx qq.1 r qq.2.1]; exact g⟩
    · exact op_notIn_seq pins s σ H v w u u' Q I rv rw' ⟨p, vs, ew, sq, flat_rel rx qq.1, flats_rel r qq.2.1, by rw [← pIn_inV rx qq.1 r qq.2.1]; exact g⟩
  unfold inK at q
  cases rc with
  | tup t r => exact seq rfl (.inr t.sq) r q
  | fl t r => exact seq rfl (.inl t.sq) r q
  | loc a =>
    simp only at q
    split at q
    · rename_i xs e
      obtain ⟨vs, g, r⟩ := z.lst e
      exact seq rfl (.inl (SqL.of g)) (hK ▸ r) q
    · rename_i f kvs e
      obtain ⟨ws, g, r⟩ := z.dct e
      split at q
      · rename_i k ek
        have ev := toKey_rel rx ek
        subst ev
        cases rw'
        have dg : DGet H a (kV k) (valV ws k) := .inl ⟨ws, k, g, rfl, rfl⟩
        have eo : (valV ws k).isSome = (valP kvs k).isSome := by
          obtain ⟨p1, p2⟩ := rk_val k r
          cases e3 : valP kvs k with
          | none => rw [p2 e3]; rfl
          | some v => obtain ⟨w, q, _⟩ := p1 v e3; rw [q]; rfl
        exact ⟨_, q, fun Q g => d_in (by omega) I dg rv fun s' I' => ⟨.bl _, H, I', rfl, by rw [eo]; exact g⟩, fun Q g => d_notIn (by omega) I dg rv fun s' I' => ⟨.bl _, H, I', rfl, by rw [eo]; exact g⟩⟩
      · exact q.elim
    · exact q.elim
  | str zz =>
    cases rx with
    | str ww =>
      simp only at q
      split at q
      · rename_i c ec
        have ew : ww = ⟨#[c]⟩ := TL.ext_tl ec
        subst ew
        exact ⟨_, q, fun Q g => op_in_sign pins s σ H _ _ u u' Q I rv rw' ⟨c, zz, rfl, rfl, g⟩, fun Q g => op_notIn_sign pins s σ H _ _ u u' Q I rv rw' ⟨c, zz, rfl, rfl, g⟩⟩
      · exact q.elim
    | _ => exact q.elim
  | _ => exact q.elim
theorem op_cmp (hK : X.K = P.K) (hu : X.A.units + 64 < cLine) (k : CmpK) : OpR X (compareOp (cOp k)) (rTwo P fun a b h Q => cmpV k a b h fun t => Q (.bl t) h) := by
  intro pins s σ H x y v u Q I rx ry ⟨a, b, h, Qp, ra, rb, z, q, l⟩
  cases k with
  | eq =>
    obtain ⟨k, qq, A, _⟩ := eqK_run hK hu I z (hK ▸ ra) (hK ▸ rb) rx ry q
    exact A _ _ ⟨.bl k, H, I, rfl, l.here qq (.bl _) z⟩
  | ne =>
    obtain ⟨k, qq, _, A⟩ := eqK_run hK hu I z (hK ▸ ra) (hK ▸ rb) rx ry q
    exact A _ _ ⟨.bl (!k), H, I, rfl, l.here qq (.bl _) z⟩
  | isin =>
    have q : inK h a b fun t => Qp (.bl t) h := by cases a <;> exact q
    obtain ⟨k, qq, A, _⟩ := in_run hK hu I z (hK ▸ ra) (hK ▸ rb) rx ry q
    exact A Q (l.here qq (.bl _) z)
  | notin =>
    have q : inK h a b fun t => Qp (.bl (!t)) h := by cases a <;> exact q
    obtain ⟨k, qq, _, A⟩ := in_run hK hu I z (hK ▸ ra) (hK ▸ rb) rx ry q
    exact A Q (l.here qq (.bl _) z)
  | isn =>
    cases rb with
    | non =>
      have q : Qp (.bl (match a with | .non => true | _ => false)) h := by cases a <;> exact q
      refine op_isN pins s σ H x _ v u Q I rx ry ⟨rfl, ?_⟩
      refine l.here q ?_ z
      cases ra <;> exact .bl _
    | bl b =>
      cases ra with
      | bl a => exact op_isBl pins s σ H _ _ v u Q I rx ry ⟨a, b, rfl, rfl, l.here q (.bl _) z⟩
      | _ => exact q.elim
    | _ => cases ra <;> exact q.elim
  | notn =>
    cases rb with
    | non =>
      have q : Qp (.bl (!(match a with | .non => true | _ => false))) h := by cases a <;> exact q
      refine op_notN pins s σ H x _ v u Q I rx ry ⟨rfl, ?_⟩
      refine l.here q ?_ z
      cases ra <;> exact .bl _
    | bl b =>
      cases ra with
      | bl a => exact op_notBl pins s σ H _ _ v u Q I rx ry ⟨a, b, rfl, rfl, l.here q (.bl _) z⟩
      | _ => exact q.elim
    | _ => cases ra <;> exact q.elim
  | lt =>
    cases ra <;> cases rb <;> first
      | exact op_lt pins s σ H _ _ v u Q I rx ry ⟨_, _, rfl, rfl, l.here q (.bl _) z⟩
      | exact op_lt_str pins s σ H _ _ v u Q I rx ry ⟨_, _, rfl, rfl, l.here q (.bl _) z⟩
      | exact q.elim
  | le =>
    cases ra <;> cases rb <;> first
      | exact op_le pins s σ H _ _ v u Q I rx ry ⟨_, _, rfl, rfl, l.here q (.bl _) z⟩
      | exact op_le_str pins s σ H _ _ v u Q I rx ry ⟨_, _, rfl, rfl, l.here q (.bl _) z⟩
      | exact q.elim
  | gt =>
    cases ra <;> cases rb <;> first
      | exact op_gt pins s σ H _ _ v u Q I rx ry ⟨_, _, rfl, rfl, l.here q (.bl _) z⟩
      | exact op_gt_str pins s σ H _ _ v u Q I rx ry ⟨_, _, rfl, rfl, l.here q (.bl _) z⟩
      | exact q.elim
  | ge =>
    cases ra <;> cases rb <;> first
      | exact op_ge pins s σ H _ _ v u Q I rx ry ⟨_, _, rfl, rfl, l.here q (.bl _) z⟩
      | exact op_ge_str pins s σ H _ _ v u Q I rx ry ⟨_, _, rfl, rfl, l.here q (.bl _) z⟩
      | exact q.elim
end
end Mir

set_option autoImplicit true
namespace Mir
open PySem L2
open PyProof.Rows hiding St
variable [Tbl]

section
variable {X : Cx} {P : Pm} {H : Hp} {h : PH}
/-! ## truth -/
theorem tru_rel (z : HR P h H) {x : PV} {v : V} {Qb : Bool → Prop} (r : RP P.K H x v) (q : truV x h Qb) : ∃ k, TruV P.K v H k ∧ Qb k := by
  cases r with
  | non => exact ⟨false, rfl, q⟩
  | bl b => exact ⟨b, rfl, q⟩
  | int i => exact ⟨_, rfl, q⟩
  | str s => exact ⟨_, ⟨q.1, rfl⟩, q.2⟩
  | tup t r => exact ⟨_, .inr (.inl ⟨_, t.sq, rfl⟩), by rw [← r.isEmpty]; exact q⟩
  | fl t r => exact ⟨_, .inl ⟨_, t.sq, rfl⟩, by rw [← r.isEmpty]; exact q⟩
  | loc a =>
    simp only [truV] at q
    split at q
    · rename_i xs e
      obtain ⟨vs, g, r⟩ := z.lst e
      exact ⟨_, .inl ⟨_, SqL.of g, rfl⟩, by rw [← r.isEmpty]; exact q⟩
    · rename_i kvs e
      obtain ⟨ws, g, r⟩ := z a _ e
      refine ⟨_, .inr (.inr ⟨ws, g, rfl⟩), ?_⟩
      have : ws.isEmpty = kvs.isEmpty := by cases r <;> rfl
      rw [this]; exact q
    · exact q.elim

/-! ## subscripts -/
theorem atI_rel {xs : List PV} {vs : List V} {K : PySem.W.Frag} (r : RPs K H xs vs) {i : Int} {x : PV} (e : atI xs i = some x) : ∃ v, atI vs i = some v ∧ RP K H x v := by
  unfold atI at e ⊢
  rw [← r.length]
  cases q : ixN xs.length i with
  | none => rw [q] at e; cases e
  | some j =>
    rw [q] at e
    exact r.get (by simpa using e)
theorem ix_dct (hu : X.A.units + 1 < cLine) : IxR X (fun x y H Q => ∃ a v, x = .ref a ∧ DGet H a y (some v) ∧ Q v H) := by
  intro value slice pins s σ H x y v u Q I rx ry ⟨a, w, ex, g, q⟩ hs
  subst ex
  obtain rfl : v = Value.ref a := rx
  exact tail_any (dict_typeIs I g) PySem.F.slot_dict_getitem.lookup (d_getItem hu I g ry fun w' s3 I3 rw' => ⟨w, H, I3, rw', q⟩) hs
theorem ix_any (hK : X.K = P.K) (hu : X.A.units + 1 < cLine) : IxR X (rTwo P subV) := by
  intro value slice pins s σ H x y v u Q I rx ry ⟨a, b, h, Qp, ra, rb, z, q, l⟩ hs
  cases ra with
  | tup t r =>
    cases rb with
    | int i =>
      simp only [subV] at q
      split at q
      · rename_i x e
        obtain ⟨w, e', r'⟩ := atI_rel r e
        exact ix_tup value slice pins s σ H _ _ v u Q I rx ry ⟨_, _, i, w, rfl, rfl, hK ▸ t.sq, e', l.here q r' z⟩ hs
      · exact q.elim
    | _ => exact q.elim
  | fl t r =>
    cases rb with
    | int i =>
      simp only [subV] at q
      split at q
      · rename_i x e
        obtain ⟨w, e', r'⟩ := atI_rel r e
        exact ix_list value slice pins s σ H _ _ v u Q I rx ry ⟨_, _, i, w, rfl, rfl, hK ▸ t.sq, e', l.here q r' z⟩ hs
      · exact q.elim
    | _ => exact q.elim
  | str zz =>
    cases rb with
    | int i =>
      simp only [subV] at q
      obtain ⟨q0, q⟩ := q
      split at q
      · rename_i c e
        exact ix_str value slice pins s σ H _ _ v u Q I rx ry ⟨zz, i, c, rfl, rfl, q0, e, l.here q (.str _) z⟩ hs
      · exact q.elim
    | _ => exact q.elim
  | loc p =>
    simp only [subV] at q
    split at q
    · rename_i xs ex
      obtain ⟨vs, g, r⟩ := z.lst ex
      cases rb with
      | int i =>
        simp only at q
        split at q
        · rename_i x e
          obtain ⟨w, e', r'⟩ := atI_rel r e
          exact ix_list value slice pins s σ H _ _ v u Q I rx ry ⟨_, _, i, w, rfl, rfl, SqL.of g, e', l.here q r' z⟩ hs
        · exact q.elim
      | _ => exact q.elim
    · rename_i f kvs ex
      obtain ⟨ws, g, r⟩ := z.dct ex
      split at q
      · rename_i k ek
        split at q
        · rename_i x e
          have ev := toKey_rel rb ek
          subst ev
          obtain ⟨w, e', r'⟩ := (rk_val k r).1 x e
          exact ix_dct hu value slice pins s σ H _ _ v u Q I rx ry ⟨p, w, rfl, .inl ⟨ws, k, g, rfl, e'.symm⟩, l.here q r' z⟩ hs
        · exact q.elim
      · exact q.elim
    · exact q.elim
  | _ => exact q.elim
/-! ## slices -/
theorem cut_rel {xs : List PV} {vs : List V} {K : PySem.W.Frag} (r : RPs K H xs vs) (lo hi : Option Int) : RPs K H (cutP xs lo hi) (cutV vs lo hi) := by
  unfold cutP cutV
  rw [← r.length]
  exact (r.drop _).take _
def rSliP (P : Pm) : V → Option Int → Option Int → Hp → VK → Prop := fun x lo hi H Q => ∃ a h Qp, RP P.K H a x ∧ HR P h H ∧ sliV a lo hi h Qp ∧ Lft P H Qp Q
theorem sl_any (hK : X.K = P.K) : SlR X (rSliP P) := by
  intro pins s σ H x v vl vu lo hi sl Q I rx hs pl pu ⟨a, h, Qp, ra, z, q, l⟩
  cases ra with
  | str zz => exact sl_str pins s σ H _ v vl vu lo hi sl Q I rx hs pl pu ⟨zz, rfl, q.1, l.here q.2 (.str _) z⟩
  | tup t r =>
    refine sl_tup pins s σ H _ v vl vu lo hi sl Q I rx hs pl pu ⟨_, _, rfl, hK ▸ t.sq, by rw [← r.length]; exact q.1, fun p n => ?_⟩
    exact l _ _ _ _ q.2 (.new n) (.tup (.inl upd_same) ((cut_rel r lo hi).ext (.new n))) (z.keep n)
  | fl t r =>
    refine sl_list pins s σ H _ v vl vu lo hi sl Q I rx hs pl pu ⟨_, _, rfl, hK ▸ t.sq, fun p n => ?_⟩
    exact l _ _ _ _ (q p (z.free n)) (.new n) (.loc p) (rlst_new z n (cut_rel r lo hi))
  | loc p =>
    simp only [sliV] at q
    split at q
    · rename_i xs ex
      obtain ⟨vs, g, r⟩ := z.lst ex
      refine sl_list pins s σ H _ v vl vu lo hi sl Q I rx hs pl pu ⟨_, _, rfl, SqL.of g, fun p n => ?_⟩
      exact l _ _ _ _ (q p (z.free n)) (.new n) (.loc p) (rlst_new z n (cut_rel r lo hi))
    · exact q.elim
  | _ => exact q.elim
end

/-! ## built-in functions -/
def bltF : BltK → Value
  | .len => .builtin "len" | .abs => .builtin "abs" | .int => .type "int" | .str => .type "str" | .sum => .builtin "sum" | .all => .builtin "all" | .any => .builtin "any" | .max => .builtin "max" | .min => .builtin "min" | .divmod => .builtin "divmod"
  | .sorted => .builtin "sorted" | .list => .type "list" | .dict => .type "dict" | .tuple => .type "tuple" | .ord => .builtin "ord"
def bltN : BltK → Str
  | .len => "len" | .abs => "abs" | .int => "int" | .str => "str" | .sum => "sum" | .all => "all" | .any => "any" | .max => "max" | .min => "min"
  | .sorted => "sorted" | .list => "list" | .dict => "dict" | .tuple => "tuple" | .ord => "ord" | .divmod => "divmod"
def rBlt (P : Pm) (b : BltK) : List V → Hp → VK → Prop := fun xs H Q => ∃ ps h Qp, RPs P.K H ps xs ∧ HR P h H ∧ bltV b ps h Qp ∧ Lft P H Qp Q
theorem rps_one {K : PySem.W.Frag} {H : Hp} {x : PV} {vs : List V} (r : RPs K H [x] vs) : ∃ v, vs = [v] ∧ RP K H x v := by
  cases r with
  | cons a t => cases t; exact ⟨_, rfl, a⟩
theorem rps_two {K : PySem.W.Frag} {H : Hp} {x y : PV} {vs : List V} (r : RPs K H [x, y] vs) : ∃ v w, vs = [v, w] ∧ RP K H x v ∧ RP K H y w := by
  cases r with
  | cons a t => cases t with | cons b t => cases t; exact ⟨_, _, rfl, a, b⟩
theorem list_rel {P : Pm} {h : PH} {H : Hp} (z : HR P h H) {x : PV} {v : V} {Q : List PV → Prop} (r : RP P.K H x v) (q : listK x h Q) : ∃ p xs vs, v = .ref p ∧ SqL P.K H p vs ∧ RPs P.K H xs vs ∧ Q xs := by
  cases r with
  | fl t r => exact ⟨_, _, _, rfl, t.sq, r, q⟩
  | loc a =>
    simp only [listK] at q
    split at q
    · rename_i xs e
      obtain ⟨vs, g, r⟩ := z.lst e
      exact ⟨_, _, _, rfl, SqL.of g, r, q⟩
    · exact q.elim
  | _ => exact q.elim
theorem items_rel {P : Pm} {h : PH} {H : Hp} (z : HR P h H) {x : PV} {v : V} {Q : List PV → Prop} (r : RP P.K H x v) (q : itemsK x h Q) : ∃ p xs vs, v = .ref p ∧ (SqL P.K H p vs ∨ SqT P.K H p vs) ∧ RPs P.K H xs vs ∧ Q xs := by
  cases r with
  | tup t r => exact ⟨_, _, _, rfl, .inr t.sq, r, q⟩
  | fl t r => exact ⟨_, _, _, rfl, .inl t.sq, r, q⟩
  | loc a =>
    simp only [itemsK] at q
    split at q
    · rename_i xs e
      obtain ⟨vs, g, r⟩ := z.lst e
      exact ⟨_, _, _, rfl, .inl (SqL.of g), r, q⟩
    · exact q.elim
  | _ => exact q.elim
theorem ints_len : ∀ {xs : List PV} {ns : List Int}, intsP xs = some ns → ns.length = xs.length
  | [], ns, e => by simp [intsP] at e; subst e; rfl
  | x :: xs, ns, e => by
    cases x <;> simp only [intsP, Option.map_eq_some_iff, reduceCtorEq] at e
    obtain ⟨m, h, rfl⟩ := e
    simp [ints_len h]
theorem keys_ints : ∀ {kvs : List (Key × PV)} {ns : List Int}, intsP (kvs.map fun kv => kP kv.1) = some ns → kvs.map (·.1) = ns.map Sum.inl
  | [], ns, e => by simp [intsP] at e; subst e; rfl
  | (k, v) :: r, ns, e => by
    cases k <;> simp only [List.map_cons, kP, intsP, Option.map_eq_some_iff, reduceCtorEq] at e
    obtain ⟨m, h, rfl⟩ := e
    simp [keys_ints h]
theorem keys_strs : ∀ {kvs : List (Key × PV)} {ns : List Str}, strsP (kvs.map fun kv => kP kv.1) = some ns → kvs.map (·.1) = ns.map Sum.inr
  | [], ns, e => by simp [strsP] at e; subst e; rfl
  | (k, v) :: r, ns, e => by
    cases k <;> simp only [List.map_cons, kP, strsP, Option.map_eq_some_iff, reduceCtorEq] at e
    obtain ⟨m, h, rfl⟩ := e
    simp [keys_strs h]
theorem pairs_rel {K : PySem.W.Frag} {H : Hp} : ∀ {xs : List PV} {vs : List V} {kvs : List (Key × PV)}, RPs K H xs vs → pairsP xs = some kvs →
    ∃ (ps : List Addr) (ws : List (Key × V)), vs = ps.map V.ref ∧ Paired (fun p kv => SqT K H p [kV kv.1, kv.2]) ps ws ∧ RK K H kvs ws
  | _, _, _, .nil, e => by simp [pairsP] at e; subst e; exact ⟨[], [], rfl, .nil, .nil⟩
  | _, _, kvs, .cons (xs := xs) r t, e => by
    cases r with
    | tup ta rs =>
      rename_i a ys us
      cases rs with
      | nil => simp [pairsP] at e
      | cons r1 rs =>
        cases rs with
        | nil => simp [pairsP] at e
        | cons r2 rs =>
          cases rs with
          | cons _ _ => simp [pairsP] at e
          | nil =>
            simp only [pairsP] at e
            split at e
            · rename_i k ek
              simp only [Option.map_eq_some_iff] at e
              obtain ⟨m, h, rfl⟩ := e
              obtain ⟨ps, ws, e1, e2, e3⟩ := pairs_rel t h
              have ev := toKey_rel r1 ek
              subst ev
              exact ⟨a :: ps, (k, _) :: ws, by rw [e1]; rfl, .cons ta.sq e2, .cons ⟨rfl, r2⟩ e3⟩
            · cases e
    | _ => simp [pairsP] at e
theorem sort_run {X : Cx} {P : Pm} (hK : X.K = P.K) {pins : List (Addr × Obj)} {s : Shared} {σ : L2.St} {H : Hp} {h : PH} {a : Addr} {us : List Value} {xs : List PV} {vs : List V} {Q : VK} {Qs : List PV → Prop} (I : Inv X pins σ H s)
    (ru : Vals [.ref a] us) (sq : SqL X.K H a vs) (r : RPs X.K H xs vs) (q : sortK xs Qs) (fin : ∀ ys ws p, Qs ys → RPs X.K H ys ws → H p = none → Q (.ref p) (upd H p (.lst ws))) :
    wpAny (model X.prog X.w) X.A (call (.builtin "sorted") us) (EP X pins σ Q) X.xe s := by
  unfold sortK at q
  split at q
  · rename_i ns e
    have ev := r.ints e
    subst ev
    refine cr_sorted pins s σ H [.ref a] us Q I ru ⟨a, ns, rfl, sq, q.1, fun ns' p pm so n => fin _ _ p (q.2 ns' pm so) (RPs.map_int ns') n⟩
  · split at q
    · rename_i ns e
      have ev := r.strs e
      subst ev
      refine cr_sortedS pins s σ H [.ref a] us Q I ru ⟨a, ns, rfl, sq, q.1, fun ns' p pm so n => fin _ _ p (q.2 ns' pm so) (RPs.map_str ns') n⟩
    · exact q.elim
theorem sort_runD {X : Cx} {P : Pm} (hc : X.calm = true) (hK : X.K = P.K) {pins : List (Addr × Obj)} {s : Shared} {σ : L2.St} {H : Hp} {h : PH} {a : Addr} {us : List Value} {kvs : List (Key × PV)} {ws : List (Key × V)} {Q : VK} {Qs : List PV → Prop} (I : Inv X pins σ H s)
    (ru : Vals [.ref a] us) (sq : Rd H a (.dK ws)) (r : RK X.K H kvs ws) (q : sortK (kvs.map fun kv => kP kv.1) Qs) (fin : ∀ ys ws p, Qs ys → RPs X.K H ys ws → H p = none → Q (.ref p) (upd H p (.lst ws))) :
    wpAny (model X.prog X.w) X.A (call (.builtin "sorted") us) (EP X pins σ Q) X.xe s := by
  unfold sortK at q
  split at q
  · rename_i ns e
    have ev := keys_ints e
    rw [rk_keys r] at ev
    refine call_sortedDI hc pins s σ H [.ref a] us Q I ru ⟨a, ws, ns, rfl, sq, ev, q.1, fun ns' p pm so n => fin _ _ p (q.2 ns' pm so) (RPs.map_int ns') n⟩
  · split at q
    · rename_i ns e
      have ev := keys_strs e
      rw [rk_keys r] at ev
      refine call_sortedD hc pins s σ H [.ref a] us Q I ru ⟨a, ws, ns, rfl, sq, ev, q.1, fun ns' p pm so n => fin _ _ p (q.2 ns' pm so) (RPs.map_str ns') n⟩
    · exact q.elim
theorem call_blt {X : Cx} {P : Pm} (hc : X.calm = true) (hK : X.K = P.K) (b : BltK) : CallR X (bltF b) (rBlt P b) := by
  intro pins s σ H xs us Q I ru ⟨ps, h, Qp, rp, z, q, l⟩
  cases b with
  | len =>
    match ps, q with
    | [x], q =>
      obtain ⟨v, rfl, r⟩ := rps_one rp
      simp only [bltV] at q
      cases r with
      | str zz => exact call_len pins s σ H _ us Q I ru ⟨_, _, rfl, ⟨q.1, rfl⟩, l.here q.2 (.int _) z⟩
      | tup t r => exact call_len pins s σ H _ us Q I ru ⟨_, _, rfl, .inr ⟨_, hK ▸ t.sq, rfl⟩, l.here (by rw [← r.length]; exact q) (.int _) z⟩
      | fl t r => exact call_len pins s σ H _ us Q I ru ⟨_, _, rfl, .inl ⟨_, hK ▸ t.sq, rfl⟩, l.here (by rw [← r.length]; exact q) (.int _) z⟩
      | loc a =>
        simp only [lenV] at q
        split at q
        · rename_i xs e
          obtain ⟨vs, g, r⟩ := z.lst e
          exact call_len pins s σ H _ us Q I ru ⟨_, _, rfl, .inl ⟨_, SqL.of g, rfl⟩, l.here (by rw [← r.length]; exact q) (.int _) z⟩
        · rename_i f kvs e
          obtain ⟨ws, g, r⟩ := z.dct e
          cases ru with
          | cons a1 t1 =>
            cases t1
            cases a1
            exact d_len I g fun t s' I' => ⟨.int ws.length, H, I', ⟨t, rfl⟩, l.here (by rw [← paired_len r]; exact q) (.int _) z⟩
        · exact q.elim
      | _ => exact q.elim
    | [], q => exact q.elim
    | _ :: _ :: _, q => exact q.elim
  | abs =>
    match ps, q with
    | [.int i], q =>
      obtain ⟨v, rfl, r⟩ := rps_one rp
      cases r
      exact call_abs pins s σ H _ us Q I ru ⟨i, rfl, l.here q (.int _) z⟩
  | int =>
    match ps, q with
    | [.int i], q =>
      obtain ⟨v, rfl, r⟩ := rps_one rp
      cases r
      exact call_int1 pins s σ H _ us Q I ru (.inl ⟨i, rfl, l.here q (.int _) z⟩)
    | [.bl i], q =>
      obtain ⟨v, rfl, r⟩ := rps_one rp
      cases r
      exact call_int1 pins s σ H _ us Q I ru (.inr ⟨i, rfl, l.here q (.int _) z⟩)
    | [.str i], q =>
      obtain ⟨v, rfl, r⟩ := rps_one rp
      cases r
      simp only [bltV] at q
      split at q
      · rename_i n e
        exact call_int_str pins s σ H _ us Q I ru ⟨i, n, rfl, e, q.1, l.here q.2 (.int _) z⟩
      · exact q.elim
  | str =>
    match ps, q with
    | [.int i], q =>
      obtain ⟨v, rfl, r⟩ := rps_one rp
      cases r
      exact call_str_int pins s σ H _ us Q I ru ⟨i, rfl, q.1, l.here q.2 (.str _) z⟩
  | sum =>
    match ps, q with
    | [x], q =>
      obtain ⟨v, rfl, r⟩ := rps_one rp
      obtain ⟨p, xs, vs, rfl, sq, r, q⟩ := list_rel z r q
      split at q
      · rename_i ns e
        have ev := r.ints e
        subst ev
        exact cr_sum hc pins s σ H _ us Q I ru ⟨p, ns, rfl, hK ▸ sq, l.here q (.int _) z⟩
      · exact q.elim
    | [], q => exact q.elim
    | _ :: _ :: _, q => exact q.elim
  | all =>
    match ps, q with
    | [x], q =>
      obtain ⟨v, rfl, r⟩ := rps_one rp
      obtain ⟨p, xs, vs, rfl, sq, r, q⟩ := list_rel z r q
      split at q
      · rename_i ns e
        have ev := r.bls e
        subst ev
        exact cr_all hc pins s σ H _ us Q I ru ⟨p, ns, rfl, hK ▸ sq, l.here q (.bl _) z⟩
      · exact q.elim
    | [], q => exact q.elim
    | _ :: _ :: _, q => exact q.elim
  | any =>
    match ps, q with
    | [x], q =>
      obtain ⟨v, rfl, r⟩ := rps_one rp
      obtain ⟨p, xs, vs, rfl, sq, r, q⟩ := list_rel z r q
      split at q
      · rename_i ns e
        have ev := r.bls e
        subst ev
        exact cr_any hc pins s σ H _ us Q I ru ⟨p, ns, rfl, hK ▸ sq, l.here q (.bl _) z⟩
      · exact q.elim
    | [], q => exact q.elim
    | _ :: _ :: _, q => exact q.elim
  | max =>
    match ps, q with
    | [.int i, .int j], q =>
      obtain ⟨v, w, rfl, r, r'⟩ := rps_two rp
      cases r
      cases r'
      exact call_max2 hc pins s σ H _ us Q I ru ⟨i, j, rfl, l.here q (.int _) z⟩
    | [.loc a], q =>
      obtain ⟨v, rfl, r⟩ := rps_one rp
      cases r
      simp only [bltV] at q
      split at q
      · rename_i xs e
        obtain ⟨vs, g, rr⟩ := z.lst e
        split at q
        · rename_i ns e2
          have ev := rr.ints e2
          subst ev
          exact cr_max hc pins s σ H _ us Q I ru ⟨a, ns, rfl, hK ▸ SqL.of g, q.1, fun m h1 h2 => l.here (q.2 m h1 h2) (.int _) z⟩
        · exact q.elim
      · exact q.elim
  | min =>
    match ps, q with
    | [.int i, .int j], q =>
      obtain ⟨v, w, rfl, r, r'⟩ := rps_two rp
      cases r
      cases r'
      exact call_min2 hc pins s σ H _ us Q I ru ⟨i, j, rfl, l.here q (.int _) z⟩
    | [.loc a], q =>
      obtain ⟨v, rfl, r⟩ := rps_one rp
      cases r
      simp only [bltV] at q
      split at q
      · rename_i xs e
        obtain ⟨vs, g, rr⟩ := z.lst e
        split at q
        · rename_i ns e2
          have ev := rr.ints e2
          subst ev
          exact cr_min hc pins s σ H _ us Q I ru ⟨a, ns, rfl, hK ▸ SqL.of g, q.1, fun m h1 h2 => l.here (q.2 m h1 h2) (.int _) z⟩
        · exact q.elim
      · exact q.elim
  | sorted =>
    match ps, q with
    | [.loc a], q =>
      obtain ⟨v, rfl, r⟩ := rps_one rp
      cases r
      simp only [bltV] at q
      split at q
      · rename_i xs e
        obtain ⟨vs, g, r⟩ := z.lst e
        exact sort_run hK (h := h) I ru (SqL.of g) (hK ▸ r) q fun ys ws p qq rr n => l _ _ _ _ (qq p (z.free n)) (.new n) (.loc p) (rlst_new z n (hK ▸ rr))
      · rename_i f kvs e
        obtain ⟨ws, g, r⟩ := z.dct e
        exact sort_runD hc hK (h := h) I ru g (hK ▸ r) q fun ys ws p qq rr n => l _ _ _ _ (qq p (z.free n)) (.new n) (.loc p) (rlst_new z n (hK ▸ rr))
      · exact q.elim
  | list =>
    match ps, q with
    | [x], q =>
      obtain ⟨v, rfl, r⟩ := rps_one rp
      simp only [bltV] at q
      cases r with
      | tup t r => exact call_list_of pins s σ H _ us Q I ru ⟨_, _, rfl, .inr (hK ▸ t.sq), fun p n => l _ _ _ _ (q p (z.free n)) (.new n) (.loc p) (rlst_new z n r)⟩
      | fl t r => exact call_list_of pins s σ H _ us Q I ru ⟨_, _, rfl, .inl (hK ▸ t.sq), fun p n => l _ _ _ _ (q p (z.free n)) (.new n) (.loc p) (rlst_new z n r)⟩
      | loc a =>
        simp only at q
        split at q
        · rename_i xs e
          obtain ⟨vs, g, r⟩ := z.lst e
          exact call_list_of pins s σ H _ us Q I ru ⟨_, _, rfl, .inl (SqL.of g), fun p n => l _ _ _ _ (q p (z.free n)) (.new n) (.loc p) (rlst_new z n r)⟩
        · rename_i f kvs e
          obtain ⟨ws, g, r⟩ := z.dct e
          exact call_listD hc pins s σ H _ us Q I ru ⟨_, _, rfl, g, fun p n => l _ _ _ _ (q p (z.free n)) (.new n) (.loc p) (rlst_new z n (rk_keyvals r))⟩
        · exact q.elim
      | _ => exact q.elim
    | [], q => exact q.elim
    | _ :: _ :: _, q => exact q.elim
  | dict =>
    match ps, q with
    | [.loc a], q =>
      obtain ⟨v, rfl, r⟩ := rps_one rp
      cases r
      simp only [bltV] at q
      split at q
      · rename_i xs e
        obtain ⟨vs, g, r⟩ := z.lst e
        split at q
        · rename_i kvs ek
          obtain ⟨ps, ws, e1, e2, e3⟩ := pairs_rel r ek
          subst e1
          exact call_dictP hc pins s σ H _ us Q I ru ⟨a, ps, ws, rfl, SqL.of g, hK ▸ e2, fun p n => l _ _ _ _ (q p (z.free n)) (.new n) (.loc p) (rdct_new z n (rk_merge e3 .nil))⟩
        · exact q.elim
      · rename_i f kvs e
        obtain ⟨ws, g, r⟩ := z.dct e
        exact call_dictD pins s σ H _ us Q I ru ⟨a, ws, rfl, g, fun p n => l _ _ _ _ (q p (z.free n)) (.new n) (.loc p) (rdct_new z n r)⟩
      · exact q.elim
  | divmod =>
    match ps, q with
    | [.int i, .int j], q =>
      obtain ⟨v, w, rfl, r, r'⟩ := rps_two rp
      cases r
      cases r'
      exact call_divmod pins s σ H _ us Q I ru ⟨i, j, rfl, q.1, fun p n => l _ _ _ _ q.2 (.new n) (.tup (.inl upd_same) (.cons (.int _) (.cons (.int _) .nil))) (z.keep n)⟩
  | tuple => simp only [bltV] at q
  | ord => simp only [bltV] at q
end Mir

set_option autoImplicit true
namespace Mir
open PySem L2
open PyProof.Rows hiding St
variable [Tbl]

def bmId : BmK → String
  | .append => "list.append" | .extend => "list.extend" | .popAt => "list.pop" | .clearL => "list.clear" | .index => "list.index" | .countL => "list.count"
  | .get => "dict.get" | .setdefault => "dict.setdefault" | .update => "dict.update" | .popK => "dict.pop" | .clearD => "dict.clear" | .items => "dict.items" | .values => "dict.values"
  | .join => "str.join" | .split => "str.split" | .find => "str.find" | .startswith => "str.startswith" | .upper => "str.upper" | .count => "str.count"
def bmN : BmK → Str
  | .append => "append" | .extend => "extend" | .popAt => "pop" | .clearL => "clear" | .index => "index" | .countL => "count"
  | .get => "get" | .setdefault => "setdefault" | .update => "update" | .popK => "pop" | .clearD => "clear" | .items => "items" | .values => "values"
  | .join => "join" | .split => "split" | .find => "find" | .startswith => "startswith" | .upper => "upper" | .count => "count"
def btS : BtK → String
  | .list => "list" | .dict => "dict" | .str => "str"
def rBm (P : Pm) (m : BmK) : V → List V → Hp → VK → Prop := fun x xs H Q => ∃ a ps h Qp, RP P.K H a x ∧ RPs P.K H ps xs ∧ HR P h H ∧ bmV m a ps h Qp ∧ Lft P H Qp Q
theorem rps_nil {K : PySem.W.Frag} {H : Hp} {vs : List V} (r : RPs K H [] vs) : vs = [] := by cases r; rfl
theorem vals_one' {x : V} {us : List Value} (r : Vals [x] us) : ∃ u, us = [u] ∧ RelV x u := by
  cases r with
  | cons a t => cases t; exact ⟨_, rfl, a⟩
theorem vals_two' {x y : V} {us : List Value} (r : Vals [x, y] us) : ∃ u w, us = [u, w] ∧ RelV x u ∧ RelV y w := by
  cases r with
  | cons a t => cases t with | cons b t => cases t; exact ⟨_, _, rfl, a, b⟩
theorem RPs.erase {K : PySem.W.Frag} {H : Hp} : ∀ {xs : List PV} {vs : List V} (i : Nat), RPs K H xs vs → RPs K H (xs.eraseIdx i) (vs.eraseIdx i)
  | _, _, _, .nil => .nil
  | _, _, 0, .cons _ t => t
  | _, _, i + 1, .cons r t => .cons r (RPs.erase i t)
theorem d_update {X : Cx} {pins : List (Addr × Obj)} {σ : St} {H : Hp} {s : Shared} {a b : Addr} {A : Around} {E : Value → Shared → Prop} {kvs more : List (Key × V)} {Q : Value → Shared → Prop} (I : Inv X pins σ H s) (e : H a = some (.dK kvs)) (e2 : H b = some (.dK more)) (ne : a ≠ b)
    (hl : kvs.length + more.length ≤ sizeLine) (h : ∀ s' : Shared, Inv X pins σ (upd H a (.dK (mergeK kvs more))) s' → Q .none s') : wpAny (model X.prog X.w) A (call (.builtin "dict.update") [.ref a, .ref b]) Q E s := by
  obtain ⟨z, hd, vs, rel, dd⟩ := dk_of I.hok e
  obtain ⟨z2, hd2, ws, rel2, dd2⟩ := dk_of I.hok e2
  refine PySem.call_meetsIn PySem.F.slot_dict_update dd.typeIs PySem.F.entry_dict_update (PySem.F.args_dict_update_2 _ _) (PySem.meets_dict_update (mixKind X.prog X.w) a b ne hd2)
    ⟨vs, ws, dd, dd2, (by rw [← rel.length, ← rel2.length]; exact hl), fun h' dd' _ hs => ?_⟩
  have hl2 : (mergeK kvs more).length ≤ sizeLine := Nat.le_trans (length_mergeK more kvs) hl
  have he : ∃ q, h'.get? a = some q := let ⟨q, _, _, hq, _⟩ := dd'; ⟨q, hq⟩
  exact h _ (d_write (t' := s.toks) I (by rw [e]; exact True.intro) hs he (dk_new hl2 hd (rel2.merge rel) dd'))
theorem count_bls {K : PySem.W.Frag} {y : Bool} : ∀ {bs : List Bool} {us : List Value}, Vals (bs.map V.bl) us → us.countP (eqU (.bl y)) = bs.count y
  | [], _, r => by cases r; rfl
  | b :: bs, _, r => by
    rw [List.map_cons] at r
    cases r with
    | cons ru t =>
      rw [List.countP_cons, List.count_cons, count_bls (K := K) t, eqU_of ru rfl]
      rfl
theorem mt_countB {X : Cx} : MtR X "list.count" (fun x xs H Q => ∃ (p : Addr) (bs : List Bool) (y : Bool), x = .ref p ∧ xs = [.bl y] ∧ SqL X.K H p (bs.map V.bl) ∧ Q (.int (bs.count y : Nat)) H) := by
  intro pins s σ H x xs v us Q I rx rxs h
  obtain ⟨p, bs, y, rfl, rfl, hs, q⟩ := h
  cases rx
  obtain ⟨u, rfl, ru⟩ := rxs.one
  obtain ⟨its, rv, ⟨⟨cls, dd, data, sl⟩, n, ho, hc, hdn, hd⟩, hlen⟩ := I.list hs
  simp only at hc hd
  subst hc hd
  have fl : (bs.map V.bl).all flatV = true := by
    rw [List.all_eq_true]
    intro x hx
    obtain ⟨t, _, rfl⟩ := List.mem_map.mp hx
    rfl
  refine call_meets PySem.F.slot_list_count ⟨_, ho, rfl⟩ PySem.F.entry_list_count (PySem.F.args_list_count_2 _ _)
    (SeqAt.list_countAt p its.toArray n dd sl u (eqU (.bl y))) ⟨ho, fun u' hu' => mem_eqAt ru rfl rv fl u' (by simpa using hu'), ?_⟩
  have ec : its.toArray.toList.countP (eqU (.bl y)) = bs.count y := count_bls (K := X.K) rv
  refine ⟨.int (bs.count y : Nat), H, I.tok _, ⟨s.toks, ?_⟩, q⟩
  show Value.int ((its.toArray.toList.countP (eqU (.bl y)) : Nat) : Int) s.toks = Value.int ((bs.count y : Nat) : Int) s.toks
  rw [ec]
theorem mt_any {X : Cx} {P : Pm} (hc : X.calm = true) (hu : X.A.units + 1 < cLine) (hK : X.K = P.K) (m : BmK) : MtR X (bmId m) (rBm P m) := by
  intro pins s σ H x xs v us Q I rx ru ⟨a, ps, h, Qp, ra, rp, z, q, l⟩
  cases m with
  | append =>
    match a, ps, q with
    | .loc a, [y], q =>
      obtain ⟨w, rfl, r⟩ := rps_one rp
      cases ra
      simp only [bmV] at q
      split at q
      · rename_i xs e
        obtain ⟨vs, g, rr⟩ := z.lst e
        exact mt_append pins s σ H _ _ v us Q I rx ru ⟨a, vs, w, rfl, rfl, g, by rw [← rr.length]; exact q.1, l _ _ _ _ q.2 (z.chg e _) .non (rlst_put z e (rr.append (.cons r .nil)))⟩
      · exact q.elim
  | extend =>
    match a, ps, q with
    | .loc a, [.loc b], q =>
      obtain ⟨w, rfl, r⟩ := rps_one rp
      cases ra
      cases r
      simp only [bmV] at q
      split at q
      · rename_i xs ys e e2
        obtain ⟨vs, g, rr⟩ := z.lst e
        obtain ⟨ws, g2, rr2⟩ := z.lst e2
        exact mt_extend pins s σ H _ _ v us Q I rx ru ⟨a, b, vs, ws, rfl, rfl, g, g2, by rw [← rr.length, ← rr2.length]; exact q.1, l _ _ _ _ q.2 (z.chg e _) .non (rlst_put z e (rr.append rr2))⟩
      · exact q.elim
  | popAt =>
    match a, ps, q with
    | .loc a, [.int i], q =>
      obtain ⟨w, rfl, r⟩ := rps_one rp
      cases ra
      cases r
      simp only [bmV] at q
      split at q
      · rename_i xs e
        obtain ⟨vs, g, rr⟩ := z.lst e
        obtain ⟨q1, q2, q⟩ := q
        split at q
        · rename_i k ek
          split at q
          · rename_i y ey
            obtain ⟨w, ew, ry⟩ := rr.get ey
            exact mt_popAt pins s σ H _ _ v us Q I rx ru ⟨a, vs, i, k, w, rfl, rfl, g, q1, q2, by rw [← rr.length]; exact ek, ew, l _ _ _ _ q (z.chg e _) (ry.ext (z.chg e _)) (rlst_put z e (rr.erase k))⟩
          · exact q.elim
        · exact q.elim
      · exact q.elim
  | clearL =>
    match a, ps, q with
    | .loc a, [], q =>
      have e0 := rps_nil rp
      subst e0
      cases ra
      simp only [bmV] at q
      split at q
      · rename_i xs e
        obtain ⟨vs, g, rr⟩ := z.lst e
        exact mt_clear pins s σ H _ _ v us Q I rx ru ⟨a, vs, rfl, rfl, g, l _ _ _ _ q (z.chg e _) .non (rlst_put z e .nil)⟩
      · exact q.elim
  | get =>
    match a, ps, q with
    | .loc a, [k, d], q =>
      obtain ⟨w, w', rfl, r, r'⟩ := rps_two rp
      obtain ⟨u, u', rfl, ru1, ru2⟩ := vals_two' ru
      cases ra
      cases rx
      simp only [bmV] at q
      split at q
      · rename_i f kvs e
        obtain ⟨ws, g, rr⟩ := z.dct e
        split at q
        · rename_i k' ek
          have ev := toKey_rel r ek
          subst ev
          refine d_get2 hu I (.inl ⟨ws, k', g, rfl, rfl⟩) ru1 ru2 fun y s' I' ry => ⟨_, H, I', ry, ?_⟩
          obtain ⟨p1, p2⟩ := rk_val k' rr
          cases e3 : valP kvs k' with
          | none => rw [e3] at q; rw [p2 e3]; exact l.here q r' z
          | some x => obtain ⟨y, ey, rxy⟩ := p1 x e3; rw [e3] at q; rw [ey]; exact l.here q rxy z
        · exact q.elim
      · exact q.elim
  | setdefault =>
    match a, ps, q with
    | .loc a, [k, d], q =>
      obtain ⟨w, w', rfl, r, r'⟩ := rps_two rp
      obtain ⟨u, u', rfl, ru1, ru2⟩ := vals_two' ru
      cases ra
      cases rx
      simp only [bmV] at q
      split at q
      · rename_i kvs e
        obtain ⟨ws, g, rr⟩ := z a _ e
        split at q
        · rename_i k' ek
          obtain ⟨q0, q⟩ := q
          have ev := toKey_rel r ek
          subst ev
          obtain ⟨p1, p2⟩ := rk_val k' rr
          refine d_setd I g ru1 ru2 (by rw [← paired_len rr]; exact q0) (fun v0 ev y s' I' ry => ⟨v0, H, I', ry, ?_⟩) (fun en y s' I' ry => ⟨w', _, I', ry, ?_⟩)
          · cases e3 : valP kvs k' with
            | none => rw [p2 e3] at ev; cases ev
            | some x =>
              obtain ⟨y', ey, rxy⟩ := p1 x e3
              rw [ey] at ev
              cases ev
              rw [e3] at q
              exact l.here q rxy z
          · cases e3 : valP kvs k' with
            | some x => obtain ⟨y', ey, rxy⟩ := p1 x e3; rw [ey] at en; cases en
            | none =>
              rw [e3] at q
              exact l _ _ _ _ q (z.chg e _) (r'.ext (z.chg e _)) (rdct_put z e (rk_put r' rr))
        · exact q.elim
      · exact q.elim
  | index =>
    match a, ps, q with
    | .loc a, [.str y], q =>
      obtain ⟨w, rfl, r⟩ := rps_one rp
      cases ra
      cases r
      simp only [bmV] at q
      split at q
      · rename_i xs e
        obtain ⟨vs, g, rr⟩ := z.lst e
        split at q
        · rename_i zs e2
          have ev := rr.strs e2
          subst ev
          obtain ⟨j, h1, h2, q⟩ := q
          refine mt_index pins s σ H _ _ v us Q I rx ru ⟨a, zs.map V.str, .str y, j, .str y, rfl, rfl, SqL.of g, rfl, ?_, ?_, ?_, fun m z' hm hz => ?_, l.here q (.int _) z⟩
          · rw [List.all_eq_true]
            intro x hx
            obtain ⟨t, _, rfl⟩ := List.mem_map.mp hx
            rfl
          · rw [List.getElem?_map, h1]; rfl
          · show (y == y) = true
            exact beq_self_eq_true y
          · rw [List.getElem?_map] at hz
            cases ht : zs[m]? with
            | none => rw [ht] at hz; cases hz
            | some t =>
              rw [ht] at hz
              cases hz
              show (t == y) = false
              rw [beq_eq_false_iff_ne]
              intro z
              exact h2 m hm (z ▸ ht)
        · exact q.elim
      · exact q.elim
    | .loc a, [.bl y], q =>
      obtain ⟨w, rfl, r⟩ := rps_one rp
      cases ra
      cases r
      simp only [bmV] at q
      split at q
      · rename_i xs e
        obtain ⟨vs, g, rr⟩ := z.lst e
        split at q
        · rename_i zs e2
          have ev := rr.bls e2
          subst ev
          obtain ⟨j, h1, h2, q⟩ := q
          refine mt_index pins s σ H _ _ v us Q I rx ru ⟨a, zs.map V.bl, .bl y, j, .bl y, rfl, rfl, SqL.of g, rfl, ?_, ?_, ?_, fun m z' hm hz => ?_, l.here q (.int _) z⟩
          · rw [List.all_eq_true]
            intro x hx
            obtain ⟨t, _, rfl⟩ := List.mem_map.mp hx
            rfl
          · rw [List.getElem?_map, h1]; rfl
          · show (y == y) = true
            exact beq_self_eq_true y
          · rw [List.getElem?_map] at hz
            cases ht : zs[m]? with
            | none => rw [ht] at hz; cases hz
            | some t =>
              rw [ht] at hz
              cases hz
              show (t == y) = false
              rw [beq_eq_false_iff_ne]
              intro z
              exact h2 m hm (z ▸ ht)
        · exact q.elim
      · exact q.elim
  | countL =>
    match a, ps, q with
    | .loc a, [.bl y], q =>
      obtain ⟨w, rfl, r⟩ := rps_one rp
      cases ra
      cases r
      simp only [bmV] at q
      split at q
      · rename_i xs e
        obtain ⟨vs, g, rr⟩ := z.lst e
        split at q
        · rename_i zs e2
          have ev := rr.bls e2
          subst ev
          exact mt_countB pins s σ H _ _ v us Q I rx ru ⟨a, zs, y, rfl, rfl, SqL.of g, l.here q (.int _) z⟩
        · exact q.elim
      · exact q.elim
  | update =>
    match a, ps, q with
    | .loc a, [.loc b], q =>
      obtain ⟨w, rfl, r⟩ := rps_one rp
      obtain ⟨u, rfl, ru1⟩ := vals_one' ru
      cases ra
      cases rx
      cases r
      cases ru1
      simp only [bmV] at q
      split at q
      · rename_i ks ls e e2
        obtain ⟨ws, g, rr⟩ := z a _ e
        obtain ⟨ws2, g2, rr2⟩ := z b _ e2
        exact d_update I g g2 q.1 (by rw [← paired_len rr, ← paired_len rr2]; exact q.2.1) fun s' I' => ⟨.non, _, I', rfl, l _ _ _ _ q.2.2 (z.chg e _) .non (rdct_put z e (rk_merge rr2 rr))⟩
      · exact q.elim
  | popK =>
    match a, ps, q with
    | .loc a, [k], q =>
      obtain ⟨w, rfl, r⟩ := rps_one rp
      obtain ⟨u, rfl, ru1⟩ := vals_one' ru
      cases ra
      cases rx
      simp only [bmV] at q
      split at q
      · rename_i kvs e
        obtain ⟨ws, g, rr⟩ := z a _ e
        split at q
        · rename_i k' ek
          have ev := toKey_rel r ek
          subst ev
          split at q
          · rename_i x e3
            obtain ⟨y', ey, rxy⟩ := (rk_val k' rr).1 x e3
            exact d_pop I g ru1 ey (.inl rfl) fun y s' I' ry => ⟨y', _, I', ry, l _ _ _ _ q (z.chg e _) (rxy.ext (z.chg e _)) (rdct_put z e (rk_drop k' rr))⟩
          · exact q.elim
        · exact q.elim
      · exact q.elim
  | clearD =>
    match a, ps, q with
    | .loc a, [], q =>
      have e0 := rps_nil rp
      subst e0
      cases ru
      cases ra
      cases rx
      simp only [bmV] at q
      split at q
      · rename_i kvs e
        obtain ⟨ws, g, rr⟩ := z a _ e
        exact d_clear I g fun s' I' => ⟨.non, _, I', rfl, l _ _ _ _ q (z.chg e _) .non (rdct_put z e .nil)⟩
      · exact q.elim
  | join =>
    match a, ps, q with
    | .str a, [y], q =>
      obtain ⟨w, rfl, r⟩ := rps_one rp
      cases ra
      obtain ⟨p, xs, vs, rfl, sq, rr, q⟩ := items_rel z r q
      split at q
      · rename_i ns e
        have ev := rr.strs e
        subst ev
        exact mt_join pins s σ H _ _ v us Q I rx ru ⟨a, p, ns, rfl, rfl, hK ▸ sq, q.1, l.here q.2 (.str _) z⟩
      · exact q.elim
  | split =>
    match a, ps, q with
    | .str a, [.str b], q =>
      obtain ⟨w, rfl, r⟩ := rps_one rp
      cases ra
      cases r
      exact mt_split pins s σ H _ _ v us Q I rx ru ⟨a, b, rfl, rfl, q.1, q.2.1, fun p n => l _ _ _ _ (q.2.2 p (z.free n)) (.new n) (.loc p) (rlst_new z n (RPs.map_str _))⟩
  | find =>
    match a, ps, q with
    | .str a, [.str b], q =>
      obtain ⟨w, rfl, r⟩ := rps_one rp
      cases ra
      cases r
      exact mt_find pins s σ H _ _ v us Q I rx ru ⟨a, b, rfl, rfl, l.here q (.int _) z⟩
  | startswith =>
    match a, ps, q with
    | .str a, [.str b], q =>
      obtain ⟨w, rfl, r⟩ := rps_one rp
      cases ra
      cases r
      exact mt_startswith pins s σ H _ _ v us Q I rx ru ⟨a, b, rfl, rfl, l.here q (.bl _) z⟩
  | upper =>
    match a, ps, q with
    | .str a, [], q =>
      have e0 := rps_nil rp
      subst e0
      cases ra
      exact mt_upper pins s σ H _ _ v us Q I rx ru ⟨a, rfl, rfl, q.1, l.here q.2 (.str _) z⟩
  | _ => exact absurd q (by cases a <;> simp [bmV])

theorem ty_rel {P : Pm} {h : PH} {H : Hp} (z : HR P h H) {t : BtK} {x : PV} {v : V} (r : RP P.K H x v) (q : tyP t x h) : tyV P.K (btS t) v H := by
  cases r with
  | str s => cases t <;> simp [tyP] at q; rfl
  | fl t' r => cases t <;> simp [tyP] at q; exact .inl ⟨rfl, _, t'.sq⟩
  | loc a =>
    simp only [tyP] at q
    split at q
    · rename_i xs e
      obtain ⟨vs, g, _⟩ := z.lst e
      cases t <;> simp at q
      exact .inl ⟨rfl, _, SqL.of g⟩
    · rename_i kvs e
      obtain ⟨ws, g, _⟩ := z a _ e
      cases t <;> simp at q
      exact .inr (.inr (.inl ⟨rfl, .inl ⟨ws, g⟩⟩))
    · exact q.elim
  | _ => cases t <;> simp [tyP] at q

/-! ## isinstance -/
def tyS : TyK → String
  | .int => "int" | .bool => "bool" | .str => "str" | .list => "list" | .dict => "dict" | .tuple => "tuple" | .own _ => ""
def rIsiP (P : Pm) (t : TyK) : List V → Hp → VK → Prop := fun xs H Q => ∃ a h Qp x, xs = [x, .ty (tyS t)] ∧ RP P.K H a x ∧ HR P h H ∧ (∀ c, t ≠ .own c) ∧ isiV P.G a h t (fun b => Qp (.bl b) h) ∧ Lft P H Qp Q
def tB1 : TyK → Bool | .int => true | .bool => true | _ => false
def tI1 : TyK → Bool | .int => true | _ => false
def tS1 : TyK → Bool | .str => true | _ => false
def tT1 : TyK → Bool | .tuple => true | _ => false
def tL1 : TyK → Bool | .list => true | _ => false
def tD1 : TyK → Bool | .dict => true | _ => false
theorem kit_tab (t : TyK) (n : ∀ c, t ≠ .own c) : kitB "NoneType" (tyS t) = some false ∧ kitB "bool" (tyS t) = some (tB1 t) ∧ kitB "int" (tyS t) = some (tI1 t) ∧
    kitB "str" (tyS t) = some (tS1 t) ∧ kitB "tuple" (tyS t) = some (tT1 t) ∧ kitB "list" (tyS t) = some (tL1 t) ∧ kitB "dict" (tyS t) = some (tD1 t) := by
  cases t with
  | own c => exact absurd rfl (n c)
  | int => clear n; decide +kernel
  | bool => clear n; decide +kernel
  | str => clear n; decide +kernel
  | list => clear n; decide +kernel
  | dict => clear n; decide +kernel
  | tuple => clear n; decide +kernel
theorem call_isiP {X : Cx} {P : Pm} (hK : X.K = P.K) (t : TyK) : CallR X (.builtin "isinstance") (rIsiP P t) := by
  intro pins s σ H xs us Q I ru ⟨a, h, Qp, x, ex, r, z, n, q, l⟩
  subst ex
  obtain ⟨k1, k2, k3, k4, k5, k6, k7⟩ := kit_tab t n
  have fin : ∀ {T : String} {b : Bool}, TyX X.K H x (.type T) → kitB T (tyS t) = some b → Qp (.bl b) h → wpAny (model X.prog X.w) X.A (call (.builtin "isinstance") us) (EP X pins σ Q) X.xe s := fun {T b} ty k qq =>
    call_isi pins s σ H _ us Q I ru ⟨x, _, _, _, b, rfl, .ty _, ty, kit_ty k, l.here qq (.bl _) z⟩
  cases r with
  | non => exact fin (.base .non) k1 (by cases t <;> first | exact q | exact absurd rfl (n _))
  | bl b => exact fin (.base (.bl b)) k2 (by cases t <;> first | exact q | exact absurd rfl (n _))
  | int b => exact fin (.base (.int b)) k3 (by cases t <;> first | exact q | exact absurd rfl (n _))
  | str b => exact fin (.base (.str b)) k4 (by cases t <;> first | exact q | exact absurd rfl (n _))
  | tup ta rr =>
    refine fin ?_ k5 (by cases t <;> first | exact q | exact absurd rfl (n _))
    rcases ta with ta | ⟨ob, arr, m, e, c, _⟩
    · exact .base (.tup ta)
    · exact .kTuple (hK ▸ e) c
  | fl ta rr => exact q.elim
  | loc p =>
    simp only [isiV] at q
    split at q
    · rename_i xs e
      obtain ⟨vs, g, _⟩ := z.lst e
      exact fin (.base (.lst g)) k6 (by cases t <;> first | exact q | exact absurd rfl (n _))
    · rename_i f kvs e
      obtain ⟨ws, g, _⟩ := z.dct e
      refine fin ?_ k7 (by cases t <;> first | exact q | exact absurd rfl (n _))
      rcases g with g | ⟨o, g⟩
      · exact .base (.dK g)
      · exact .fDict g
    · exact q.elim

/-! ## what is walked -/
def iAny (K : PySem.W.Frag) (te : TE) : TI := fun σ H R => te σ H fun x H1 => (∃ a, x = .ref a ∧ (∃ xs, SqL K H1 a xs) ∧ R (Itl K a) H1) ∨ (∃ a, x = .ref a ∧ (∃ xs, SqT K H1 a xs) ∧ R (Itt K a) H1) ∨ ∃ z, x = .str z ∧ R (Its z) H1
theorem pi_any {X : Cx} {tg e : Expr} {te : TE} (he : PE X e te) : PI X tg e (iAny X.K te) := by
  constructor
  intro pins s σ H R I hw
  refine thn (he.run pins s σ H _ I hw) ?_
  rintro v s1 ⟨x, H1, I1, r1, ⟨a, rfl, ⟨xs, sq⟩, q⟩ | ⟨a, rfl, ⟨xs, sq⟩, q⟩ | ⟨z, rfl, q⟩⟩
  · cases r1
    obtain ⟨us, _, p, _⟩ := I1.list sq
    exact wpAny_pyIter_list p.isList (pi_one (tk := s1.toks) I1 _ (turn_list a _)
      ⟨_, Heap.get?_push_size _ rfl, rfl, rfl⟩ q)
  · cases r1
    obtain ⟨us, _, p, _⟩ := I1.tuple sq
    exact wpAny_pyIter_tuple (show s1.heap.IsTuple a us.toArray from p) (pi_one (tk := s1.toks) I1 _ (turn_tuple a _)
      ⟨_, Heap.get?_push_size _ rfl, rfl, rfl⟩ q)
  · obtain ⟨t, rfl⟩ := r1
    by_cases ha : z.cps.all (· < 128) = true
    · exact wpAny_pyIter_ascii ha (pi_one (tk := s1.toks) I1 _ (turn_str _ z t "str_ascii_iterator" (.inl rfl))
        ⟨_, Heap.get?_push_size _ rfl, rfl, rfl⟩ q)
    · exact wpAny_pyIter_wide (by simpa using ha) (pi_one (tk := s1.toks) I1 _ (turn_str _ z t "str_iterator" (.inr rfl))
        ⟨_, Heap.get?_push_size _ rfl, rfl, rfl⟩ q)
end Mir

set_option autoImplicit true
namespace Mir
open PySem L2
open PyProof.Rows hiding St
variable [Tbl]

/-! ## does a tree of the text say what a tree of the small language says -/
structure Ct where
  G : Sig
  N : List Str
  fnN : Nat → Option Str
  clN : Nat → Option Str
  bls : List Str
  lm : Bool
def Ct.sl (c : Ct) : Nat := if c.lm = true then 7 else 3
theorem Ct.sl3 (c : Ct) : 3 ≤ c.sl := by unfold Ct.sl; split <;> omega
/-- one plain parameter -/
def par1 (ps : Arguments) : Option Str := match ps with
  | ⟨[], [⟨p, none, _⟩], none, [], [], none, []⟩ => some p
  | _ => none
def lam0 (ps : Arguments) : Bool := match ps with
  | ⟨[], [], none, [], [], none, []⟩ => true
  | _ => false
theorem lam0_eq {ps : Arguments} (h : lam0 ps = true) : ps = ⟨[], [], none, [], [], none, []⟩ := by
  unfold lam0 at h
  split at h
  · rfl
  · cases h
theorem par1_eq {ps : Arguments} {p : Str} (h : par1 ps = some p) : ∃ q, ps = ⟨[], [⟨p, none, q⟩], none, [], [], none, []⟩ := by
  unfold par1 at h
  split at h
  · cases h; exact ⟨_, rfl⟩
  · cases h
/-- key=e -/
def keyK : Keyword → Option Expr
  | ⟨some x, e, _⟩ => if x = "key" then some e else none
  | _ => none
theorem keyK_eq {k : Keyword} {e : Expr} (h : keyK k = some e) : ∃ q, k = ⟨some "key", e, q⟩ := by
  unfold keyK at h
  split at h
  · split at h
    · rename_i z; cases h; subst z; exact ⟨_, rfl⟩
    · cases h
  · cases h
/-- a name that is hidden by a lambda's parameter -/
def hidN (p : Str) (N : List Str) : List Str := N.map fun x => if x = p then "?" else x
def visB (sc : Scope) (x : Str) : Bool := match sc.names.lookup x with
  | some .local => true | some .cell => true | some .free => true | _ => false
def locB (sc : Scope) (x : Str) : Bool := match sc.names.lookup x with
  | some .local => true | some .cell => true | _ => false
def glB (sc : Scope) (x : Str) : Bool := match sc.names.lookup x with
  | some .globalImplicit => true | _ => false
def at? (l : List Str) (i : Nat) (x : Str) : Bool := match l[i]? with
  | some y => decide (y = x) | none => false
def opt? (o : Option Str) (x : Str) : Bool := match o with
  | some y => decide (y = x) | none => false
/-- an ordinary expression -/
def okE : Expr → Bool
  | .Starred .. => false
  | .Slice .. => false
  | .Set .. => false
  | .SetComp .. => false
  | .DictComp .. => false
  | .ListComp .. => true
  | .Call (.Name x _) [] [] _ => decide (x ≠ "super")
  | _ => true
def noLc : Expr → Bool
  | .ListComp .. => false
  | _ => true
def dunB (x : Str) : Bool := !(x == ("__debug__" : Str)) && !(x == ("__classdict__" : Str)) && !(decide (x = "__name__"))
def isTup : Expr → Bool
  | .Tuple .. => true
  | _ => false
def plainB : Expr → Bool
  | .BoolOp .. => false
  | .UnaryOp .Not _ _ => false
  | .IfExp .. => false
  | _ => true
/-- the class that isinstance is asked for -/
def isiN (c : Ct) (sc : Scope) (t : TyK) (y : Expr) : Bool := match y with
  | .Name y _ => (match t with
    | .own _ => false
    | _ => true) && decide (y = Str.ofString (tyS t)) && glB sc y && decide (y ∈ c.bls)
  | _ => false
/-- the text's class (none: ValueError) that isinstance is asked for -/
def isxN (c : Ct) (sc : Scope) (k : Option Nat) (y : Expr) : Bool := match y with
  | .Name y _ => (match k with
    | some k => opt? (c.clN k) y && glB sc y && dunB y
    | none => decide (y = "ValueError") && glB sc y && decide (y ∈ c.bls))
  | _ => false
/-- except x as n: m = n2 -/
def asH : List ExceptHandler → Option (Str × Str × Str × Str)
  | [.ExceptHandler (some (.Name x _)) (some n) [.Assign [.Name m _] (.Name n2 _) _] _] => some (x, n, m, n2)
  | _ => none
theorem asH_eq {hs : List ExceptHandler} {x n m n2 : Str} (h : asH hs = some (x, n, m, n2)) : ∃ np p1 p2 p3 p4, hs = [.ExceptHandler (some (.Name x np)) (some n) [.Assign [.Name m p1] (.Name n2 p2) p3] p4] := by
  unfold asH at h
  split at h
  · cases h; exact ⟨_, _, _, _, _, rfl⟩
  · cases h
def cstE (v : Option Bool) (w : Expr) : Bool := match v, w with
  | none, .Constant .none _ _ => true
  | some b, .Constant (.bool d) _ _ => b == d
  | _, _ => false
/-- except x: m = w -/
def onH : List ExceptHandler → Option (Str × Str × Expr)
  | [.ExceptHandler (some (.Name x _)) none [.Assign [.Name m _] w _] _] => some (x, m, w)
  | _ => none
theorem onH_eq {hs : List ExceptHandler} {x m : Str} {w : Expr} (h : onH hs = some (x, m, w)) : ∃ np p1 p3 p4, hs = [.ExceptHandler (some (.Name x np)) none [.Assign [.Name m p1] w p3] p4] := by
  unfold onH at h
  split at h
  · cases h; exact ⟨_, _, _, _, rfl⟩
  · cases h
/-- [::-1] -/
def isRev : Expr → Bool
  | .Slice none none (some (.UnaryOp .USub (.Constant (.int i) _ _) _)) _ => decide (i = 1)
  | _ => false
theorem isRev_eq {e : Expr} (h : isRev e = true) : ∃ k p1 p2 p3, e = .Slice none none (some (.UnaryOp .USub (.Constant (.int 1) k p1) p2)) p3 := by
  unfold isRev at h
  split at h
  · have := of_decide_eq_true h
    subst this
    exact ⟨_, _, _, _, rfl⟩
  · cases h
/-- X('m') -/
def rsX : Expr → Option Str
  | .Call (.Name x _) [.Constant (.str _) _ _] [] _ => some x
  | _ => none
theorem rsX_eq {e : Expr} {x : Str} (h : rsX e = some x) : ∃ p m j p2 pos, e = .Call (.Name x p) [.Constant (.str m) j p2] [] pos := by
  unfold rsX at h
  split at h
  · cases h; exact ⟨_, _, _, _, _, rfl⟩
  · cases h
/-- e.items() -/
def liArg : Expr → Option Expr
  | .Call (.Attribute o s apos) [] [] cpos => if s = "items" ∧ (apos.endLine == cpos.line) = true then some o else none
  | _ => none
mutual
def chkE (c : Ct) : E → Scope → Expr → Bool
  | .var i, sc, .Name x _ => at? c.N i x && visB sc x && dunB x
  | .int i, _, .Constant (.int j) _ _ => decide (i = j)
  | .str s, _, .Constant (.str t) _ _ => decide (s = t)
  | .bl b, _, .Constant (.bool d) _ _ => b == d
  | .non, _, .Constant .none _ _ => true
  | .glob g, sc, .Name x _ => at? c.G.nm g x && glB sc x && dunB x && (c.G.gl g).isSome
  | .bin op a b, sc, .BinOp l o r _ => decide (o = bOp op) && okE l && okE r && chkE c a sc l && chkE c b sc r
  | .neg a, sc, .UnaryOp .USub e _ => okE e && chkE c a sc e
  | .same a b, sc, .Compare l [o] [r] _ => decide (o = cOp .eq) && okE l && okE r && chkE c a sc l && chkE c b sc r
  | .cmp op a b, sc, .Compare l [o] [r] _ => decide (o = cOp op) && okE l && okE r && chkE c a sc l && chkE c b sc r
  | .chain o p a b d, sc, .Compare l [o', p'] [m, r] _ => decide (o' = cOp o) && decide (p' = cOp p) && okE l && okE m && okE r && chkE c a sc l && chkE c b sc m && chkE c d sc r
  | .and a b, sc, .BoolOp .And (x :: y :: rest) pos => okE x && okE y && chkE c a sc x && (match rest with
    | [] => chkE c b sc y
    | z :: zs => chkE c b sc (.BoolOp .And (y :: z :: zs) pos))
  | .or a b, sc, .BoolOp .Or (x :: y :: rest) pos => okE x && okE y && chkE c a sc x && (match rest with
    | [] => chkE c b sc y
    | z :: zs => chkE c b sc (.BoolOp .Or (y :: z :: zs) pos))
  | .not a, sc, .UnaryOp .Not e _ => okE e && chkE c a sc e
  | .ite d a b, sc, .IfExp t x y _ => okE x && okE y && chkB c d sc t && chkE c a sc x && chkE c b sc y
  | .sub a i, sc, .Subscript e j _ => okE e && okE j && chkE c a sc e && chkE c i sc j
  | .slice a lo hi, sc, .Subscript e (.Slice l u none _) _ => okE e && chkE c a sc e && chkO c lo sc l && chkO c hi sc u
  | .tup es, sc, .Tuple xs _ _ => chkEs c es sc xs
  | .lst es, sc, .List xs _ => chkEs c es sc xs
  | .dict0, _, .Dict [] [] _ => true
  | .dict es, sc, .Dict ks vs _ => decide (ks ≠ []) && decide (ks.length = vs.length) && decide (ks.length ≤ 15) && ks.all (·.isSome) && chkPs c es sc ks vs
  | .fld e f, sc, .Attribute o s _ => okE o && chkE c e sc o && at? c.G.nm f s
  | .call f es, sc, .Call (.Name x _) args [] _ => opt? (c.fnN f) x && glB sc x && dunB x && chkEs c es sc args
  | .meth o m es, sc, .Call (.Attribute e s apos) args [] cpos => okE e && at? c.G.nm m s && (apos.endLine == cpos.line) && decide (args.length < 29) && chkE c o sc e && chkEs c es sc args
  | .make k es, sc, .Call (.Name x _) args [] _ => (c.G.ini k).isSome && opt? (c.clN k) x && glB sc x && dunB x && chkEs c es sc args
  | .blt b es, sc, .Call (.Name x _) (a :: as) [] _ => decide (x = bltN b) && glB sc x && decide (x ∈ c.bls) && chkEs c es sc (a :: as)
  | .bm m o es, sc, .Call (.Attribute e s apos) args [] cpos => okE e && decide (s = bmN m) && (apos.endLine == cpos.line) && decide (args.length < 29) && chkE c o sc e && chkEs c es sc args
  | .isi e t, sc, .Call (.Name x _) args kws _ => decide (x = "isinstance") && glB sc x && decide (x ∈ c.bls) && (match args, kws with
    | [o, y], [] => okE o && chkE c e sc o && isiN c sc t y
    | _, _ => false)
  | .make0 k, sc, .Call (.Name x _) [] [] _ => c.G.in0 k && opt? (c.clN k) x && glB sc x && dunB x
  | .rev e, sc, .Subscript o sl _ => isRev sl && okE o && chkE c e sc o
  | .isx e k, sc, .Call (.Name x _) args kws _ => decide (x = "isinstance") && glB sc x && decide (x ∈ c.bls) && (match args, kws with
    | [o, y], [] => okE o && chkE c e sc o && isxN c sc k y
    | _, _ => false)
  | .comp elt t it ifs ws, sc, .ListComp el [⟨tg, iter, fs, k⟩] scope _ => decide (k = 0) && blkC c.N sc scope ws && okE el && chkI c it sc tg iter && chkT c t (relS scope sc) scope tg && chkBs c ifs (relS scope sc) fs && chkE c elt (relS scope sc) el && decide (ws.map (·.2) = tSlots t)
  | .compD elt t e ifs ws, sc, .ListComp el [⟨tg, iter, fs, k⟩] scope _ => decide (k = 0) && blkC c.N sc scope ws && okE el && okE iter && noLc iter && chkE c e sc iter && chkT c t (relS scope sc) scope tg && chkBs c ifs (relS scope sc) fs && chkE c elt (relS scope sc) el && decide (ws.map (·.2) = tSlots t)
  | .listItems e, sc, .Call (.Name x _) args kws _ => decide (x = "list") && glB sc x && decide (x ∈ c.bls) && (match args, kws with
    | [y], [] => (match liArg y with
      | some o => okE o && chkE c e sc o
      | none => false)
    | _, _ => false)
  | .sortK e k, sc, .Call (.Name x _) args kws _ => decide (x = "sorted") && glB sc x && decide (x ∈ c.bls) && (match args, kws with
    | [y], [w] => okE y && chkE c e sc y && (match keyK w with
      | some kx => chkKF c k sc kx
      | none => false)
    | _, _ => false)
  | .dictT0, _, .Dict [] [] _ => true
  | .getT o ks d, sc, .Call (.Attribute e s apos) args kws cpos => okE e && decide (s = "get") && (apos.endLine == cpos.line) && chkE c o sc e && (match args, kws with
    | [.Tuple xs _ _, y], [] => okE y && chkEs c ks sc xs && chkE c d sc y
    | _, _ => false)
  | .subT o ks, sc, .Subscript e (.Tuple xs _ _) _ => okE e && chkE c o sc e && chkEs c ks sc xs
  | .lamCall f b, sc, .Call (.Name x _) args kws _ => opt? (c.fnN f) x && glB sc x && dunB x && c.lm && (c.G.lf f).isSome && (match args, kws with
    | [.Lambda ps body scope _], [] => lam0 ps && lamPB sc scope [] && okE body && chkE { c with lm := false } b scope body
    | _, _ => false)
  | _, _, _ => false
def chkKF (c : Ct) : KF → Scope → Expr → Bool
  | .lam p b, sc, .Lambda ps body scope _ => c.lm && lamPB sc scope [p] && decide (par1 ps = some p) && decide ((hidN p c.N ++ [p]).Nodup) && !visB scope "?" && okE body && chkE { c with N := hidN p c.N ++ [p], lm := false } b scope body
  | .fn f, sc, .Name x _ => opt? (c.fnN f) x && glB sc x && dunB x
  | _, _, _ => false
def chkEs (c : Ct) : Es → Scope → List Expr → Bool
  | .nil, _, [] => true
  | .cons e es, sc, x :: xs => okE x && chkE c e sc x && chkEs c es sc xs
  | _, _, _ => false
def chkPs (c : Ct) : Es → Scope → List (Option Expr) → List Expr → Bool
  | .nil, _, [], [] => true
  | .cons k (.cons v r), sc, some x :: ks, y :: vs => chkE c k sc x && chkE c v sc y && chkPs c r sc ks vs
  | _, _, _, _ => false
def chkO (c : Ct) : O → Scope → Option Expr → Bool
  | .non, _, none => true
  | .some e, sc, some x => okE x && chkE c e sc x
  | _, _, _ => false
def chkB (c : Ct) : B → Scope → Expr → Bool
  | .and a b, sc, x => (match x with
    | .BoolOp .And (x :: y :: rest) pos => okE x && okE y && chkB c a sc x && (match rest with
      | [] => chkB c b sc y
      | z :: zs => chkB c b sc (.BoolOp .And (y :: z :: zs) pos))
    | _ => false)
  | .or a b, sc, x => (match x with
    | .BoolOp .Or (x :: y :: rest) pos => okE x && okE y && chkB c a sc x && (match rest with
      | [] => chkB c b sc y
      | z :: zs => chkB c b sc (.BoolOp .Or (y :: z :: zs) pos))
    | _ => false)
  | .not a, sc, x => (match x with
    | .UnaryOp .Not e _ => chkB c a sc e
    | _ => false)
  | .val e, sc, x => okE x && chkE c e sc x && plainB x
def chkBs (c : Ct) : Bs → Scope → List Expr → Bool
  | .nil, _, [] => true
  | .one b, sc, [x] => chkB c b sc x
  | _, _, _ => false
def chkI (c : Ct) : I → Scope → Expr → Expr → Bool
  | .ex e, sc, _, x => okE x && noLc x && chkE c e sc x
  | .range1 e, sc, _, .Call (.Name x _) args kws _ => decide (x = "range") && glB sc x && decide (x ∈ c.bls) && (match args, kws with
    | [a], [] => okE a && chkE c e sc a
    | _, _ => false)
  | .range2 e f, sc, _, .Call (.Name x _) args kws _ => decide (x = "range") && glB sc x && decide (x ∈ c.bls) && (match args, kws with
    | [a, b], [] => okE a && okE b && chkE c e sc a && chkE c f sc b
    | _, _ => false)
  | .range3 e f s, sc, _, .Call (.Name x _) args kws _ => decide (x = "range") && glB sc x && decide (x ∈ c.bls) && (match args, kws with
    | [a, b, .Constant (.int j) _ _], [] => okE a && okE b && decide (s = j) && chkE c e sc a && chkE c f sc b
    | _, _ => false)
  | .enum e, sc, tg, .Call (.Name x _) args kws _ => isTup tg && decide (x = "enumerate") && glB sc x && decide (x ∈ c.bls) && (match args, kws with
    | [a], [] => okE a && chkE c e sc a
    | _, _ => false)
  | _, _, _, _ => false
def chkT (c : Ct) : T → Scope → Scope → Expr → Bool
  | .nm i, sc, ow, .Name x _ => at? c.N i x && locB sc x && locB ow x
  | .tup ts, sc, ow, .Tuple xs _ _ => chkTs c ts sc ow xs
  | _, _, _, _ => false
def chkTs (c : Ct) : Ts → Scope → Scope → List Expr → Bool
  | .nil, _, _, [] => true
  | .cons t ts, sc, ow, x :: xs => okE x && chkT c t sc ow x && chkTs c ts sc ow xs
  | _, _, _, _ => false
def tSlots : T → List Nat
  | .nm i => [i]
  | .tup ts => tsSlots ts
def tsSlots : Ts → List Nat
  | .nil => []
  | .cons t ts => tSlots t ++ tsSlots ts
end
def noTup : Expr → Bool
  | .Tuple .. => false
  | _ => true
mutual
def chkS (c : Ct) : S → Scope → Stmt → Bool
  | .skip, _, .Pass _ => true
  | .skip, _, .Expr (.Constant (.str _) _ _) _ => true
  | .brk, _, .Break _ => true
  | .cont, _, .Continue _ => true
  | .expr e, sc, .Expr x _ => okE x && noLc x && chkE c e sc x
  | .ret e, sc, .Return (some x) _ => okE x && chkE c e sc x
  | .retN, _, .Return none _ => true
  | .set i e, sc, .Assign [.Name x _] v _ => at? c.N i x && locB sc x && okE v && (noLc v || !decide (sc.names.lookup x = some .local)) && chkE c e sc v
  | .setC i (.comp elt t it ifs ws), sc, .Assign [.Name x px] (.ListComp el gs scope lp) _ => at? c.N i x && decide (sc.names.lookup x = some .local) && (px.line == lp.line) && !(scope.names.any fun (n, k) => n == x && (k == .local || k == .cell)) &&
      chkE c (.comp elt t it ifs ws) sc (.ListComp el gs scope lp)
  | .setC i (.compD elt t e ifs ws), sc, .Assign [.Name x px] (.ListComp el gs scope lp) _ => at? c.N i x && decide (sc.names.lookup x = some .local) && (px.line == lp.line) && !(scope.names.any fun (n, k) => n == x && (k == .local || k == .cell)) &&
      chkE c (.compD elt t e ifs ws) sc (.ListComp el gs scope lp)
  | .setT ts e, sc, .Assign [.Tuple xs _ _] v _ => chkTs c ts sc sc xs && okE v && noLc v && noTup v && chkE c e sc v
  | .setL ts e, sc, .Assign [.Tuple xs _ _] v _ => chkTs c ts sc sc xs && okE v && noLc v && noTup v && chkE c e sc v
  | .aug i op e, sc, .AugAssign (.Name x _) o v _ => at? c.N i x && locB sc x && decide (o = bOp op) && okE v && chkE c e sc v
  | .fldSet o f e, sc, .Assign [.Attribute ob s _] v _ => okE ob && okE v && at? c.G.nm f s && chkE c o sc ob && chkE c e sc v
  | .fldAug o f op e, sc, .AugAssign (.Attribute ob s _) p v _ => okE ob && okE v && at? c.G.nm f s && decide (p = bOp op) && chkE c o sc ob && chkE c e sc v
  | .subSet o i e, sc, .Assign [.Subscript ob ix _] v _ => okE ob && okE ix && okE v && chkE c o sc ob && chkE c i sc ix && chkE c e sc v
  | .subSetT o ks e, sc, .Assign [.Subscript ob (.Tuple xs _ _) _] v _ => okE ob && okE v && chkE c o sc ob && chkEs c ks sc xs && chkE c e sc v
  | .subAug o i op e, sc, .AugAssign (.Subscript ob ix _) p v _ => okE ob && okE ix && okE v && decide (p = bOp op) && chkE c o sc ob && chkE c i sc ix && chkE c e sc v
  | .ite d a b, sc, .If t x y _ => chkB c d sc t && chkSs c a sc x && chkSs c b sc y
  | .raise k, sc, .Raise (some e) none _ => (match rsX e with
    | some x => opt? (c.clN k) x && glB sc x && dunB x && c.G.exc k
    | none => false)
  | .tryAs b k i j, sc, .Try body hs [] [] _ => (match asH hs with
    | some (x, n, m, n2) => decide (n2 = n) && at? c.N i n && at? c.N j m && decide (sc.names.lookup n = some .local) && locB sc m && dunB n && (opt? (c.clN k) x && glB sc x && dunB x)
    | none => false) && chkSs c b sc body
  | .tryO b k i v, sc, .Try body hs [] [] _ => (match onH hs with
    | some (x, m, w) => cstE v w && at? c.N i m && locB sc m && (opt? (c.clN k) x && glB sc x && dunB x)
    | none => false) && chkSs c b sc body
  | .while d b, sc, .While t x [] _ => chkB c d sc t && chkSs c b sc x
  | .for t it b, sc, .For tg iter x [] _ => chkI c it sc tg iter && chkT c t sc sc tg && chkSs c b sc x
  | .forD t false e b, sc, .For tg iter x [] _ => okE iter && noLc iter && chkE c e sc iter && chkT c t sc sc tg && chkSs c b sc x
  | .forD t true e b, sc, .For (.Tuple xs k p) (.Call (.Attribute o s apos) [] [] cpos) x [] _ => okE o && decide (s = "items") && (apos.endLine == cpos.line) && chkE c e sc o && chkT c t sc sc (.Tuple xs k p) && chkSs c b sc x
  | _, _, _ => false
def chkSs (c : Ct) : Ss → Scope → List Stmt → Bool
  | .nil, _, [] => true
  | .cons s ss, sc, x :: xs => chkS c s sc x && chkSs c ss sc xs
  | _, _, _ => false
end

/-- how a def that got a lambda begins -/
def chkLam (c : Ct) (d : LmI) (sc : Scope) (a : Str) (bg : List Stmt) : Bool :=
  at? c.N 0 a && dunB a && visB sc a && (match d.fd, bg with
    | false, .Assign [.Name m _] (.Constant .none _ _) _ :: .Try [.Expr (.Call (.Name a' _) [] [] _) _] hs [] [] _ :: rest => decide (a' = a) && at? c.N 1 m && locB sc m && (match asH hs with
      | some (x, n, m', n2) => decide (n2 = n) && decide (m' = m) && at? c.N (c.N.idxOf n) n && decide (2 ≤ c.N.idxOf n) && decide (sc.names.lookup n = some .local) && dunB n && (opt? (c.clN d.k) x && glB sc x && dunB x)
      | none => false) && chkSs c d.body sc rest
    | true, .Assign [.Name g _] (.Constant .none _ _) _ :: .Assign [.Name m _] (.Constant .none _ _) _ :: .Try [.Assign [.Name g' _] (.Call (.Name a' _) [] [] _) _] hs [] [] _ :: rest => decide (a' = a) && decide (g' = g) && at? c.N 1 g && locB sc g && at? c.N 2 m && locB sc m && (match asH hs with
      | some (x, n, m', n2) => decide (n2 = n) && decide (m' = m) && at? c.N (c.N.idxOf n) n && decide (3 ≤ c.N.idxOf n) && decide (sc.names.lookup n = some .local) && dunB n && (opt? (c.clN d.k) x && glB sc x && dunB x)
      | none => false) && chkSs c d.body sc rest
    | _, _ => false)
/-! ## what the checks give -/
theorem at_get {l : List Str} {i : Nat} {x : Str} (h : at? l i x = true) : l[i]? = some x := by
  unfold at? at h
  split at h
  · rename_i y e; rw [e, of_decide_eq_true h]
  · cases h
theorem opt_get {o : Option Str} {x : Str} (h : opt? o x = true) : o = some x := by
  unfold opt? at h
  split at h
  · rw [of_decide_eq_true h]
  · cases h
theorem vis_of {sc : Scope} {x : Str} (h : visB sc x = true) : Vis sc x := by
  unfold visB at h
  unfold Vis
  split at h <;> first | exact .inl (by assumption) | exact .inr (.inl (by assumption)) | exact .inr (.inr (by assumption)) | cases h
theorem loc_of {sc : Scope} {x : Str} (h : locB sc x = true) : L2.Loc sc x := by
  unfold locB at h
  unfold L2.Loc
  split at h <;> first | exact .inl (by assumption) | exact .inr (by assumption) | cases h
theorem gl_of {X : Cx} {x : Str} (h : glB X.env.scope x = true) : Gl X x := by
  unfold glB at h
  unfold Gl Env.kindOf
  split at h
  · assumption
  · cases h
theorem dun_of {x : Str} (h : dunB x = true) : (x == ("__debug__" : Str)) = false ∧ (x == ("__classdict__" : Str)) = false ∧ x ≠ "__name__" := by
  simp only [dunB, Bool.and_eq_true, Bool.not_eq_true', decide_eq_false_iff_not] at h
  exact ⟨h.1.1, h.1.2, h.2⟩
theorem ok_star {e : Expr} (h : okE e = true) (es : List Expr) (env : Env) : starEach (e :: es) env = (false, eval e env) :: starEach es env := by
  cases e <;> first | rfl | simp [okE] at h
theorem ok_base {e : Expr} (h : okE e = true) (f : Str) (env : Env) : attributeBase e f env (eval e env) = eval e env := by
  unfold attributeBase
  split
  · rename_i id p q
    simp only [okE, ne_eq, decide_eq_true_eq] at h
    have h' : (id != ("super" : Str)) = true := by simpa using h
    simp [h']
  · rfl
theorem ok_sub {e : Expr} (h : okE e = true) (o i : Value) : subscripted e false o i = operate [o, i] (getItem o i) := by
  cases e <;> first | rfl | simp [okE] at h
theorem ok_in {e : Expr} (h : okE e = true) (op : CmpOp) : behindInMarks op e = false := by
  cases e <;> first | rfl | simp [okE] at h
theorem ok_set {e : Expr} (h : okE e = true) (env : Env) (x : Value) : foldedSetIterable e env x = Pure.pure x := by
  cases e <;> first | rfl | simp [okE] at h
theorem ok_swap {e : Expr} (h : okE e = true) (h2 : noLc e = true) (t : Option Expr) (l : Nat) (env : Env) : swapsWith e t l env = Pure.pure false := by
  cases e <;> first | rfl | (exfalso; revert h2; simp [noLc]; done) | (exfalso; revert h; simp [okE]; done)
theorem ok_swapC {e : Expr} (h : okE e = true) {x : Str} {sc : Scope} (h2 : (noLc e || !decide (sc.names.lookup x = some .local)) = true) (p : Pos) (l : Nat) (env : Env) (he : env.scope = sc) : swapsWith e (some (.Name x p)) l env = Pure.pure false := by
  cases e <;> first | rfl | (exfalso; revert h; simp [okE]; done) | skip
  rename_i el gs scope pos
  have h3 : ¬ (env.kindOf x = some .local) := by
    unfold Env.kindOf
    rw [he]
    simpa [noLc] using h2
  have h4 : (env.kindOf x == some NameKind.local) = false := by simpa using h3
  unfold swapsWith
  simp only [h4, Bool.and_false, Bool.false_and]
theorem ok_swapA {e : Expr} (h : okE e = true) (o : Expr) (f : Str) (p : Pos) (l : Nat) (env : Env) : swapsWith e (some (.Attribute o f p)) l env = Pure.pure false := by
  cases e <;> first | rfl | simp [okE] at h
theorem ok_swapS {e : Expr} (h : okE e = true) (o i : Expr) (p : Pos) (l : Nat) (env : Env) : swapsWith e (some (.Subscript o i p)) l env = Pure.pure false := by
  cases e <;> first | rfl | simp [okE] at h
theorem star_plain {c : Ct} : ∀ {es : Es} {sc : Scope} {xs : List Expr}, chkEs c es sc xs = true → ∀ (pos : Pos) (env : Env), (backTo pos (starEach xs env)).any (·.1) = false
  | .nil, _, [], _, pos, env => rfl
  | .cons e es, sc, x :: xs, h, pos, env => by
    simp only [chkEs, Bool.and_eq_true] at h
    rw [ok_star h.1.1]
    simpa [backTo] using star_plain h.2 pos env
  | .nil, _, _ :: _, h, _, _ => by simp [chkEs] at h
  | .cons _ _, _, [], h, _, _ => by simp [chkEs] at h
theorem star_few {c : Ct} : ∀ {es : Es} {sc : Scope} {xs : List Expr}, chkEs c es sc xs = true → ∀ (pos : Pos) (env : Env), (backTo pos (starEach xs env)).all (fun x => !x.1) = true
  | .nil, _, [], _, pos, env => rfl
  | .cons e es, sc, x :: xs, h, pos, env => by
    simp only [chkEs, Bool.and_eq_true] at h
    rw [ok_star h.1.1]
    simpa [backTo] using star_few h.2 pos env
  | .nil, _, _ :: _, h, _, _ => by simp [chkEs] at h
  | .cons _ _, _, [], h, _, _ => by simp [chkEs] at h
theorem li_arg {y o : Expr} (h : liArg y = some o) : ∃ apos cpos, y = .Call (.Attribute o "items" apos) [] [] cpos ∧ (apos.endLine == cpos.line) = true := by
  unfold liArg at h
  split at h
  · split at h
    · rename_i q
      cases h
      obtain ⟨q1, q2⟩ := q
      subst q1
      exact ⟨_, _, rfl, q2⟩
    · cases h
  · cases h
theorem len_es {c : Ct} : ∀ {es : Es} {sc : Scope} {xs : List Expr}, chkEs c es sc xs = true → True := fun _ => trivial
end Mir

set_option autoImplicit false
namespace Mir
open PySem L2 PySem.Spec
open PyProof.Rows hiding St
variable [Tbl]

structure FT where
  fa : Nat → Addr
  fd : Nat → FuncData
  ps : Nat → List Str
  cs : List (Addr × Addr)
/-- a function's promise -/
def lsp (P : Pm) (C : CallS) (f : Nat) : Sp := fun vs H Q E => ∃ ps h Qp Xp, RPs P.K H ps vs ∧ HR P h H ∧ C f ps h Qp Xp ∧ Lft P H Qp Q ∧ ∀ c h' H', Xp c h' → Ext H H' → HR P h' H' → E (.ref (P.cls c)) none H'
/-- facts of own classes that isinstance asks for -/
structure InsC (K : PySem.W.Frag) (C : Addr) : Prop where
  cl : Cls K C
  ha : PySem.W.findIn K (.ref C) "__class__" = some (some (.builtin "object.__class__"))
  hn : PySem.W.specialIn K (.builtin "object.__class__") "__get__" = some (some (.builtin "getset_descriptor.__get__"))
  ht : PySem.W.takesIn K (.builtin "object.__class__") = some true
  hm : PySem.W.mroIn K C (.type "object") = some true
/-- exceptions and isinstance: what the text's top has left -/
structure Wex (P : Pm) : Prop where
  in0 : ∀ k, P.G.in0 k = true → PySem.W.makesIn P.K (P.cls k) = true ∧ PySem.W.findIn P.K (.ref (P.cls k)) "__init__" = some (some (.builtin "object.__init__")) ∧ PySem.W.keepIn P.K (.ref (P.cls k)) = true
  exf : ∀ k, P.G.exc k = true → PySem.W.excIn P.K (P.cls k) [.type "ValueError", .type "Exception", .type "BaseException", .type "object"] "ValueError.__new__" = true ∧ PySem.W.keepIn P.K (.ref (P.cls k)) = true ∧
    PySem.W.subIn P.K (.ref (P.cls k)) (.type "BaseException") = some true ∧ PySem.W.typeIn P.K (.ref (P.cls k)) = some (.type "type")
  xc : ∀ k, P.G.exc k = true → ExcC P.K (P.cls k)
  xm : ∀ d k b, P.G.exm d k = some b → PySem.W.exmOne P.K (.ref (P.cls d)) (.ref (P.cls k)) = some b
  ic : ∀ k, P.G.inc k = true → InsC P.K (P.cls k)
  isa : ∀ d k b, P.G.isa d k = some b → PySem.W.kitOne P.K (.ref (P.cls d)) (.ref (P.cls k)) = some b
  isz : ∀ k, P.G.isz k = true → PySem.W.kitOne P.K (.type "NoneType") (.ref (P.cls k)) = some false ∧ PySem.W.kitOne P.K (.type "str") (.ref (P.cls k)) = some false
  isv : ∀ d b, P.G.isv d = some b → PySem.W.kitOne P.K (.ref (P.cls d)) (.type "ValueError") = some b
  eqs : ∀ k, P.G.eqs k = true → PySem.W.findIn P.K (.ref (P.cls k)) "__eq__" = some (some (.builtin "object.__eq__")) ∧ PySem.W.mroIn P.K (P.cls k) (.type "object") = some true
/-- a def's promise, to which a lambda is handed: ev is the lambda's meaning at the call -/
def LamFn (P : Pm) (C : CallS) (f : Nat) (fa : Addr) (lv : Nat) (mg : Str → Option Value) (prog : Program) (w : World) (base : Heap) : Prop :=
  ∃ (N : List Str) (a x : Str) (sg : Scope) (cdv : Value), N[0]? = some a ∧ Vis sg a ∧ dunB a = true ∧
    ∀ (A : Around) (outer : List Env) (s : Shared) (H : Hp) (fx : Addr) (h : PH) (ev : QE → XE → Prop) (Qp : QE) (Q : VK), HR P h H → C.lam f ev Qp → Lft P H Qp Q → Room (lv + 7) A → Env0 prog w P.K mg base A outer s H →
      (∀ (pn : List (Addr × Obj)) (xe : Value → Shared → Prop) (W : WX) (p1 p2 : Pos), Room (lv + 6) (A.deeper (envOfC x sg s.heap.objs.size fa cdv)) → Takes ((cxOf (L2.CX prog w) prog w P.K mg base N x sg fa cdv A outer s H fun _ _ _ => False).tr pn xe) W →
        PE ((cxOf (L2.CX prog w) prog w P.K mg base N x sg fa cdv A outer s H fun _ _ _ => False).tr pn xe) (.Call (.Name a p1) [] [] p2)
          (fun σZ HZ Q' => HZ = H ∧ σZ[0]? = some (some (.ref fx)) ∧ ∃ Qq Xq, ev Qq Xq ∧ Lft P H Qq Q' ∧ ∀ c h' H', Xq c h' → Ext H H' → HR P h' H' → W (.ref (P.cls c)) none σZ H')) →
      codeAny (model prog w) A (.call (.ref fa) ⟨[.ref fx], []⟩) (L2.CR (L2.CX prog w) outer prog w H s Q fun _ _ _ => False) s
/-- what the text's top has left -/
structure Wld (P : Pm) (F : FT) (C : CallS) (c : Ct) (lv : Nat) (mg : Str → Option Value) (prog : Program) (w : World) (base : Heap) : Prop where
  hG : c.G = P.G
  fn : ∀ f d, P.G.fn f = some d → FnOk prog w P.K mg base (L2.CX prog w) lv (F.fa f) (F.fd f) (F.ps f) (lsp P C f)
  len : ∀ f vs h Q X, C f vs h Q X → ∃ d, P.G.fn f = some d ∧ vs.length = d.np ∧ (F.ps f).length = d.np
  bd : ∀ f d n, P.G.fn f = some d → n ≤ d.np → d.np - n ≤ d.dflt.length → ∃ (ds : List Value) (dv : List V), Binds P.K (F.fd f) (F.ps f) ds ∧ Vals dv ds ∧ ∀ H, RPs P.K H (d.dflt.drop (d.dflt.length - (d.np - n))) dv
  mf : ∀ f x, c.fnN f = some x → mg x = some (.ref (F.fa f)) ∧ PySem.W.keepIn P.K (.ref (F.fa f)) = true
  mc : ∀ k x, c.clN k = some x → mg x = some (.ref (P.cls k))
  mks : ∀ k f, P.G.ini k = some f → Mk P.K (P.cls k) (F.fa f)
  cl : ∀ k f, P.G.fl k f = true → Cls P.K (P.cls k)
  na : ∀ k f s, P.G.fl k f = true → P.G.nm[f]? = some s → NoAttr P.K (P.cls k) s
  me : ∀ k m f s, P.G.me k m = some f → P.G.nm[m]? = some s → Cls P.K (P.cls k) ∧ Meth P.K (P.cls k) s (F.fa f)
  nd : P.G.nm.Nodup
  bn : ∀ x ∈ c.bls, mg x = none
  gl : ∀ g x v, P.G.gl g = some v → P.G.nm[g]? = some x → ∃ u w, mg x = some u ∧ RelV w u ∧ ∀ H, RP P.K H v w
  wx : Wex P
  lam : ∀ f x, c.fnN f = some x → (P.G.lf f).isSome = true → LamFn P C f (F.fa f) lv mg prog w base
/-- a context in which the text's trees are read -/
structure Cok (P : Pm) (F : FT) (C : CallS) (c : Ct) (lv : Nat) (X : Cx) (sc ow : Scope) (W : WX) : Prop where
  wl : Wld P F C c lv X.mg X.prog X.w X.base
  hK : X.K = P.K
  hN : X.N = c.N
  nd : c.N.Nodup
  hsc : X.env.scope = sc
  calm : X.calm = true
  st : ∀ x, L2.Loc ow x → X.fn x = true ∨ sc.names.lookup x = some .local
  tk : Takes X W
  room : Room (lv + c.sl) X.A
  lam : c.lm = true → ∃ cc T, X.env.code = .ref cc ∧ LamX.TabB X.base X.mg cc T ∧ (T, X.env.qual ++ "<lambda>") ∈ Tbl.T

/-! ## lifted meanings -/
def LftX (P : Pm) (W : WX) (σ : St) (H : Hp) (Xp : XE) : Prop := ∀ c h' H', Xp c h' → Ext H H' → HR P h' H' → W (.ref (P.cls c)) none σ H'
theorem LftX.on {P : Pm} {W : WX} {σ : St} {H H1 : Hp} {Xp : XE} (l : LftX P W σ H Xp) (e : Ext H H1) : LftX P W σ H1 Xp := fun c h' H' a b z => l c h' H' a (e.trans b) z
def LE (P : Pm) (W : WX) (ev : PEnv → PH → QE → XE → Prop) : TE := fun σ H Q => ∃ env h Qp Xp, RE P.K H env σ ∧ HR P h H ∧ ev env h Qp Xp ∧ Lft P H Qp Q ∧ LftX P W σ H Xp
def LftL (P : Pm) (H : Hp) (Qp : List PV → PH → Prop) (Q : List V → Hp → Prop) : Prop := ∀ pr h' v H', Qp pr h' → Ext H H' → RPs P.K H' pr v → HR P h' H' → Q v H'
def LEs (P : Pm) (W : WX) (ev : PEnv → PH → (List PV → PH → Prop) → XE → Prop) : TA := fun σ H Q => ∃ env h Qp Xp, RE P.K H env σ ∧ HR P h H ∧ ev env h Qp Xp ∧ LftL P H Qp Q ∧ LftX P W σ H Xp
def LftO (P : Pm) (H : Hp) (Qp : Option Int → PH → Prop) (Q : Option Int → Hp → Prop) : Prop := ∀ o h' H', Qp o h' → Ext H H' → HR P h' H' → Q o H'
def LO (P : Pm) (W : WX) (ev : PEnv → PH → (Option Int → PH → Prop) → XE → Prop) : TO := fun σ H Q => ∃ env h Qp Xp, RE P.K H env σ ∧ HR P h H ∧ ev env h Qp Xp ∧ LftO P H Qp Q ∧ LftX P W σ H Xp
def LftB (P : Pm) (H : Hp) (Qp : Bool → PH → Prop) (Q : Bool → Hp → Prop) : Prop := ∀ k h' H', Qp k h' → Ext H H' → HR P h' H' → Q k H'
def LB (P : Pm) (W : WX) (ev : PEnv → PH → (Bool → PH → Prop) → XE → Prop) : TT := fun σ H Q => ∃ env h Qp Xp, RE P.K H env σ ∧ HR P h H ∧ ev env h Qp Xp ∧ LftB P H Qp Q ∧ LftX P W σ H Xp
structure JOk (P : Pm) (H1 : Hp) (J : It) (xs : List PV) (still : PH → Prop) : Prop where
  go : ∀ i h' H', Ext H1 H' → HR P h' H' → still h' → i < xs.length → J.go i H'
  stop : ∀ h' H', Ext H1 H' → HR P h' H' → still h' → J.stop xs.length H'
  yld : ∀ i h' H' x H'', Ext H1 H' → HR P h' H' → still h' → i < xs.length → J.yld i H' x H'' → Ext H' H'' ∧ HR P h' H'' ∧ ∃ pv, xs[i]? = some pv ∧ RP P.K H'' pv x
def LftI (P : Pm) (H : Hp) (Kp : List PV → (PH → Prop) → PH → Prop) (R : It → Hp → Prop) : Prop := ∀ xs still h1 H1 J, Kp xs still h1 → Ext H H1 → HR P h1 H1 → JOk P H1 J xs still → R J H1
def LI (P : Pm) (W : WX) (ev : PEnv → PH → (List PV → (PH → Prop) → PH → Prop) → XE → Prop) : TI := fun σ H R => ∃ env h Kp Xp, RE P.K H env σ ∧ HR P h H ∧ ev env h Kp Xp ∧ LftI P H Kp R ∧ LftX P W σ H Xp
/-- nothing but the slots sl differs -/
def Off (sl : List Nat) (σ σ' : St) : Prop := σ'.length = σ.length ∧ ∀ i, i ∉ sl → σ'[i]? = σ[i]?
def LG (P : Pm) (sl : List Nat) (st : PV → PEnv → (PEnv → Prop) → Prop) : TG := fun v σ H Q => ∃ env x K, RE P.K H env σ ∧ RP P.K H x v ∧ st x env K ∧ ∀ env' σ', K env' → RE P.K H env' σ' → Off sl σ σ' → Q σ' H
def LGs (P : Pm) (sl : List Nat) (st : List PV → PEnv → (PEnv → Prop) → Prop) : TGs := fun v σ H Q => ∃ env x K, RE P.K H env σ ∧ RPs P.K H x v ∧ st x env K ∧ ∀ env' σ', K env' → RE P.K H env' σ' → Off sl σ σ' → Q σ' H
theorem _root_.L2.PE.imp {X : Cx} {e : Expr} {t t' : TE} (h : L2.PE X e t) (i : ∀ σ H Q, t' σ H Q → t σ H Q) : L2.PE X e t' := ⟨fun pins s σ H Q I hw => h.run pins s σ H Q I (i _ _ _ hw)⟩
theorem _root_.L2.PT.imp {X : Cx} {e : Expr} {t t' : TT} (h : L2.PT X e t) (i : ∀ σ H Q, t' σ H Q → t σ H Q) : L2.PT X e t' := ⟨fun pins s σ H Q I hw => h.run pins s σ H Q I (i _ _ _ hw)⟩
theorem _root_.L2.PW.imp {X : Cx} {e : Expr} {t t' : TT} (h : L2.PW X e t) (i : ∀ σ H Q, t' σ H Q → t σ H Q) : L2.PW X e t' := ⟨fun wh pins s σ H Q I hw => h.run wh pins s σ H Q I (i _ _ _ hw)⟩
theorem _root_.L2.PA.imp {X : Cx} {e : List Expr} {t t' : TA} (h : L2.PA X e t) (i : ∀ σ H Q, t' σ H Q → t σ H Q) : L2.PA X e t' := ⟨fun pos pins s σ H Q I hw => h.run pos pins s σ H Q I (i _ _ _ hw)⟩
theorem _root_.L2.PO.imp {X : Cx} {e : Option Expr} {t t' : TO} (h : L2.PO X e t) (i : ∀ σ H Q, t' σ H Q → t σ H Q) : L2.PO X e t' := ⟨fun pins s σ H Q I hw => h.run pins s σ H Q I (i _ _ _ hw)⟩
theorem _root_.L2.PI.imp {X : Cx} {g e : Expr} {t t' : TI} (h : L2.PI X g e t) (i : ∀ σ H Q, t' σ H Q → t σ H Q) : L2.PI X g e t' := ⟨fun pins s σ H Q I hw => h.run pins s σ H Q I (i _ _ _ hw)⟩
theorem _root_.L2.PG.imp {X : Cx} {g : Expr} {t t' : TG} (h : L2.PG X g t) (i : ∀ v σ H Q, t' v σ H Q → t v σ H Q) : L2.PG X g t' := ⟨fun pins s σ H v u Q I r hw => h.run pins s σ H v u Q I r (i _ _ _ _ hw)⟩
theorem _root_.L2.PS.imp {X : Cx} {e : Stmt} {t t' : TS} (h : L2.PS X e t) (i : ∀ D σ H, t' D σ H → t D σ H) : L2.PS X e t' := ⟨fun pins s σ H D I hw => h.run pins s σ H D I (i _ _ _ hw)⟩
theorem _root_.L2.PTs.imp {X : Cx} {e : List Expr} {t t' : TT} (h : L2.PTs X e t) (i : ∀ σ H Q, t' σ H Q → t σ H Q) : L2.PTs X e t' := ⟨fun pins s σ H Q I hw => h.run pins s σ H Q I (i _ _ _ hw)⟩

section
variable {P : Pm} {W : WX} {σ : St} {H : Hp}
/-- two in a row -/
theorem le_two {ea eb : PEnv → PH → QE → XE → Prop} {f : PV → PV → PH → QE → Prop} {Q : VK} (q : LE P W (fun env h Q X => ea env h (fun x h1 => eb env h1 (fun y h2 => f x y h2 Q) X) X) σ H Q) :
    LE P W ea σ H fun v H1 => LE P W eb σ H1 fun w H2 => rTwo P f v w H2 Q := by
  obtain ⟨env, h, Qp, Xp, re, hr, q, l, lx⟩ := q
  exact ⟨env, h, _, Xp, re, hr, q, fun x h1 v H1 q1 e1 r1 z1 => ⟨env, h1, _, Xp, re.ext e1, z1, q1, fun y h2 w H2 q2 e2 r2 z2 => ⟨x, y, h2, Qp, r1.ext e2, r2, z2, q2, l.on (e1.trans e2)⟩, lx.on e1⟩, lx⟩
/-- one -/
theorem le_one {ea : PEnv → PH → QE → XE → Prop} {f : PV → PH → QE → Prop} {Q : VK} (q : LE P W (fun env h Q X => ea env h (fun x h1 => f x h1 Q) X) σ H Q) :
    LE P W ea σ H fun v H1 => ∃ x h1 Qp, RP P.K H1 x v ∧ HR P h1 H1 ∧ f x h1 Qp ∧ Lft P H1 Qp Q := by
  obtain ⟨env, h, Qp, Xp, re, hr, q, l, lx⟩ := q
  exact ⟨env, h, _, Xp, re, hr, q, fun x h1 v H1 q1 e1 r1 z1 => ⟨x, h1, Qp, r1, z1, q1, l.on e1⟩, lx⟩
theorem le_args {ea : PEnv → PH → (List PV → PH → Prop) → XE → Prop} {f : List PV → PH → QE → XE → Prop} {Q : VK} (q : LE P W (fun env h Q X => ea env h (fun x h1 => f x h1 Q X) X) σ H Q) :
    LEs P W ea σ H fun v H1 => ∃ x h1 Qp Xp, RPs P.K H1 x v ∧ HR P h1 H1 ∧ f x h1 Qp Xp ∧ Lft P H1 Qp Q ∧ LftX P W σ H1 Xp := by
  obtain ⟨env, h, Qp, Xp, re, hr, q, l, lx⟩ := q
  exact ⟨env, h, _, Xp, re, hr, q, fun x h1 v H1 q1 e1 r1 z1 => ⟨x, h1, Qp, Xp, r1, z1, q1, l.on e1, lx.on e1⟩, lx⟩
end
section
variable {P : Pm} {F : FT} {C : CallS} {c : Ct} {lv : Nat} {X : Cx} {sc ow : Scope} {W : WX}
theorem Cok.rm (o : Cok P F C c lv X sc ow W) : Room (lv + 3) X.A := o.room.mono (by have := c.sl3; omega)
theorem Cok.hu (o : Cok P F C c lv X sc ow W) : X.A.units + 64 < cLine := o.room.units
theorem Cok.hu1 (o : Cok P F C c lv X sc ow W) : X.A.units + 1 < cLine := by have := o.room.units; omega
theorem Cok.bnone (o : Cok P F C c lv X sc ow W) {x : Str} (h : x ∈ c.bls) : X.mg x = none := o.wl.bn x h
theorem Cok.glx (o : Cok P F C c lv X sc ow W) {x : Str} (h : glB sc x = true) : Gl X x := gl_of (by rw [o.hsc]; exact h)

/-! ## calls of the text's own functions -/
theorem pad_facts (o : Cok P F C c lv X sc ow W) {f : Nat} {ps : List PV} {h : PH} {Qp : QE} {Xp : XE} (q : C f (padD P.G f ps) h Qp Xp) :
    ∃ d ds dv, P.G.fn f = some d ∧ Binds P.K (F.fd f) (F.ps f) ds ∧ Vals dv ds ∧ ∀ H, ∃ dp, padD P.G f ps = ps ++ dp ∧ RPs P.K H dp dv := by
  obtain ⟨d, e1, e2, e3⟩ := o.wl.len f _ _ _ _ q
  unfold padD at e2
  rw [e1] at e2
  simp only [List.length_append, List.length_drop] at e2
  obtain ⟨ds, dv, b, r, rr⟩ := o.wl.bd f d ps.length e1 (by omega) (by omega)
  exact ⟨d, ds, dv, e1, b, r, fun H => ⟨_, by unfold padD; rw [e1], rr H⟩⟩
theorem run_any (o : Cok P F C c lv X sc ow W) {pins : List (Addr × Obj)} {σ : St} {H : Hp} {s : Shared} {Q : VK} {us : List Value} {vs : List V} {f : Nat} {ps : List PV} {h : PH} {Qp : QE} {Xp : XE} (I : Inv X pins σ H s) (r : Vals vs us)
    (rp : RPs P.K H ps vs) (z : HR P h H) (q : C f (padD P.G f ps) h Qp Xp) (l : Lft P H Qp Q) (lx : LftX P W σ H Xp) : wpAny (model X.prog X.w) X.A (call (.ref (F.fa f)) us) (EP X pins σ Q) X.xe s := by
  obtain ⟨d, ds, dv, e1, b, rd, rr⟩ := pad_facts o q
  obtain ⟨dp, e2, rr⟩ := rr H
  have Fk := o.wl.fn f d e1
  have sp : lsp P C f (vs ++ dv) H Q (WE W σ) := ⟨_, h, Qp, Xp, e2 ▸ rp.append rr, z, q, l, lx⟩
  have r2 := r.append rd
  have hl : (us ++ ds).length = (F.ps f).length := by rw [← r2.length]; exact Fk.len _ _ _ _ sp
  have Fk : FnOk X.prog X.w X.K X.mg X.base (L2.CX X.prog X.w) lv (F.fa f) (F.fd f) (F.ps f) (lsp P C f) := by rw [o.hK]; exact Fk
  have b : Binds X.K (F.fd f) (F.ps f) ds := by rw [o.hK]; exact b
  refine wpAny_call (codeAny_mono (Fk.run X.A X.stack s H ⟨us, []⟩ (us ++ ds) (vs ++ dv) Q (WE W σ) (o.rm.mono (by omega)) I.env0 (b s us I.kIn hl) r2 sp) fun r s' hq => ?_)
  match r, hq with
  | .error e, hq => exact passAt o.tk σ pins H s e s' I hq
  | .ok (.ret u), hq => exact I.after hq
theorem run_new (o : Cok P F C c lv X sc ow W) {pins : List (Addr × Obj)} {σ : St} {H : Hp} {s : Shared} {Q : VK} {us : List Value} {vs : List V} {k f : Nat} {ps : List PV} {h : PH} {Qp : QE} {Xp : XE} (I : Inv X pins σ H s) (r : Vals vs us)
    (rp : RPs P.K H ps vs) (z : HR P h H) (hk : P.G.ini k = some f)
    (q : ∀ p, h p = none → C f (padD P.G f (.loc p :: ps)) (pup h p (.ins k [])) (fun v h2 => v = .non ∧ Qp (.loc p) h2) Xp) (l : Lft P H Qp Q) (lx : LftX P W σ H Xp) : wpAny (model X.prog X.w) X.A (call (.ref (P.cls k)) us) (EP X pins σ Q) X.xe s := by
  have M := o.wl.mks k f hk
  rw [← o.hK] at M
  have n1 : H s.heap.objs.size = none := I.hok.fresh (Nat.le_refl _)
  have n2 : H (s.heap.objs.size + 1) = none := I.hok.fresh (Nat.le_succ _)
  have ne : s.heap.objs.size ≠ s.heap.objs.size + 1 := Nat.ne_of_lt (Nat.lt_succ_self _)
  have n3 : upd H s.heap.objs.size (.own (s.heap.objs.size + 1)) (s.heap.objs.size + 1) = none := by rw [upd_ne ne.symm]; exact n2
  have q := q (s.heap.objs.size + 1) (z.free n2)
  have x1 : Ext H (upd H s.heap.objs.size (.own (s.heap.objs.size + 1))) := .new n1
  have x2 : Ext (upd H s.heap.objs.size (.own (s.heap.objs.size + 1))) (upd (upd H s.heap.objs.size (.own (s.heap.objs.size + 1))) (s.heap.objs.size + 1) (.ins (P.cls k) s.heap.objs.size [])) := .new n3
  have z2 : HR P (pup h (s.heap.objs.size + 1) (.ins k [])) (upd (upd H s.heap.objs.size (.own (s.heap.objs.size + 1))) (s.heap.objs.size + 1) (.ins (P.cls k) s.heap.objs.size [])) :=
    (z.keep n1).upd x2 ⟨s.heap.objs.size, [], upd_same, .nil⟩
  obtain ⟨d, ds, dv, e1, b, rd, rr⟩ := pad_facts o q
  obtain ⟨dp, e2, rr⟩ := rr (upd (upd H s.heap.objs.size (.own (s.heap.objs.size + 1))) (s.heap.objs.size + 1) (.ins (P.cls k) s.heap.objs.size []))
  have Fk := o.wl.fn f d e1
  have sp : lsp P C f (.ref (s.heap.objs.size + 1) :: (vs ++ dv)) (upd (upd H s.heap.objs.size (.own (s.heap.objs.size + 1))) (s.heap.objs.size + 1) (.ins (P.cls k) s.heap.objs.size []))
      (fun v H2 => v = .non ∧ Q (.ref (s.heap.objs.size + 1)) H2) (WE W σ) := by
    refine ⟨_, _, _, Xp, e2 ▸ (RPs.cons (.loc _) (rp.ext (x1.trans x2))).append rr, z2, q, fun pr h' v H' qq e r3 z3 => ?_, lx.on (x1.trans x2)⟩
    obtain ⟨e4, qq⟩ := qq
    subst e4
    cases r3
    exact ⟨rfl, l _ _ _ _ qq ((x1.trans x2).trans e) (.loc _) z3⟩
  have r2 : Vals (V.ref (s.heap.objs.size + 1) :: (vs ++ dv)) (Value.ref (s.heap.objs.size + 1) :: us ++ ds) := .cons rfl (r.append rd)
  have hl : (Value.ref (s.heap.objs.size + 1) :: us ++ ds).length = (F.ps f).length := by rw [← r2.length]; exact Fk.len _ _ _ _ sp
  have Fk : FnOk X.prog X.w X.K X.mg X.base (L2.CX X.prog X.w) lv (F.fa f) (F.fd f) (F.ps f) (lsp P C f) := by rw [o.hK]; exact Fk
  have b : Binds X.K (F.fd f) (F.ps f) ds := by rw [o.hK]; exact b
  have I2 := Inv.made (C := P.cls k) I
  refine wpAny_call (make_map (f := F.fa f) I.kIn M.makes M.init (beq_iff_eq.mp M.fn) (codeAny_mono (Fk.run _ X.stack _ _ ⟨Value.ref (s.heap.objs.size + 1) :: us, []⟩ (Value.ref (s.heap.objs.size + 1) :: us ++ ds) _ _ (WE W σ)
    ((o.rm.mono (j := lv + 1) (by omega)).make (P.cls k) us []) (I2.env0.make (P.cls k) us []) (b _ (Value.ref (s.heap.objs.size + 1) :: us) I2.kIn hl) r2 sp) fun r s' hq => ?_))
  match r, hq with
  | .error e, hq => exact passAt o.tk σ pins _ _ e s' I2 hq
  | .ok (.ret u), hq =>
    obtain ⟨v, H', I3, rv, ev, q3⟩ := I2.after hq
    subst ev
    exact ⟨rv, ⟨V.ref (s.heap.objs.size + 1), H', I3, rfl, q3⟩⟩
end
end Mir

set_option autoImplicit false
namespace Mir
open PySem L2 PySem.Spec
open PyProof.Rows hiding St
variable [Tbl]

abbrev EvE := PEnv → PH → QE → XE → Prop
abbrev EvA := PEnv → PH → (List PV → PH → Prop) → XE → Prop
abbrev EvB := PEnv → PH → (Bool → PH → Prop) → XE → Prop
section
variable {P : Pm} {F : FT} {C : CallS} {c : Ct} {lv : Nat} {X : Cx} {sc ow : Scope} {W : WX}

theorem p_var (o : Cok P F C c lv X sc ow W) {i : Nat} {x : Str} {pos : Pos} (h : (at? c.N i x && visB sc x && dunB x) = true) : PE X (.Name x pos) (LE P W (evE P.G C (.var i))) := by
  simp only [Bool.and_eq_true] at h
  obtain ⟨d1, d2, _⟩ := dun_of h.2
  refine (pe_var (i := i) (by rw [o.hN]; exact at_get h.1.1) (by rw [o.hsc]; exact vis_of h.1.2) d1 d2).imp fun σ H Q ⟨env, h, Qp, Xp, re, hr, q, l, lx⟩ => ?_
  simp only [evE] at q
  split at q
  · rename_i v e
    obtain ⟨w, e', r⟩ := re.get e
    exact ⟨w, e', l.here q r hr⟩
  · exact q.elim
theorem p_const {e : Expr} {v : V} {x : PV} (h : PE X e (tC v)) (r : ∀ H, RP P.K H x v) : PE X e (LE P W fun _ h Q _ => Q x h) :=
  h.imp fun σ H Q ⟨env, h, Qp, Xp, re, hr, q, l, lx⟩ => l.here q (r H) hr
theorem p_glob (o : Cok P F C c lv X sc ow W) {g : Nat} {x : Str} {pos : Pos} (h : (at? P.G.nm g x && glB sc x && dunB x && (P.G.gl g).isSome) = true) : PE X (.Name x pos) (LE P W (evE P.G C (.glob g))) := by
  simp only [Bool.and_eq_true, Option.isSome_iff_exists] at h
  obtain ⟨⟨⟨h1, h2⟩, h3⟩, v, hv⟩ := h
  obtain ⟨u, w, a, b, r⟩ := o.wl.gl g x v hv (at_get h1)
  refine (pe_glob (o.glx h2) a b (dun_of h3).1).imp fun σ H Q ⟨env, h, Qp, Xp, re, hr, q, l, lx⟩ => ?_
  simp only [evE, hv] at q
  exact l.here q (r H) hr
theorem p_bin (o : Cok P F C c lv X sc ow W) {op : BinK} {l r : Expr} {pos : Pos} {ea eb : EvE} (hl : PE X l (LE P W ea)) (hr : PE X r (LE P W eb)) :
    PE X (.BinOp l (bOp op) r pos) (LE P W fun env h Q X => ea env h (fun x h1 => eb env h1 (fun y h2 => binV op x y h2 Q) X) X) :=
  (pe_op (op_bin o.hK op) hl hr).imp fun σ H Q q => le_two q
theorem p_neg {e : Expr} {pos : Pos} {ea : EvE} (hl : PE X e (LE P W ea)) :
    PE X (.UnaryOp .USub e pos) (LE P W fun env h Q X => ea env h (fun x h1 => match x with | .int i => Q (.int (-i)) h1 | _ => False) X) := by
  have R : UnR X (unaryOp .USub) (fun v H1 Q => ∃ x h1 Qp, RP P.K H1 x v ∧ HR P h1 H1 ∧ (match x with | .int i => Qp (.int (-i)) h1 | _ => False) ∧ Lft P H1 Qp Q) := by
    intro pins s σ H x v Q I rx ⟨a, h, Qp, r, z, q, l⟩
    cases r with
    | int i => exact un_neg pins s σ H _ v Q I rx ⟨i, rfl, l.here q (.int _) z⟩
    | _ => exact q.elim
  exact (pe_un R hl).imp fun σ H Q q => le_one (f := fun x h1 Q => match x with | .int i => Q (.int (-i)) h1 | _ => False) q
theorem p_cmp (o : Cok P F C c lv X sc ow W) {op : CmpK} {l r : Expr} {pos : Pos} {ea eb : EvE} (hl : PE X l (LE P W ea)) (hr : PE X r (LE P W eb)) (hm : behindInMarks (cOp op) r = false) :
    PE X (.Compare l [cOp op] [r] pos) (LE P W fun env h Q X => ea env h (fun x h1 => eb env h1 (fun y h2 => cmpV op x y h2 fun k => Q (.bl k) h2) X) X) :=
  (pe_cmpR (op_cmp o.hK o.hu op) hl hr hm).imp fun σ H Q q => le_two (f := fun x y h2 Q => cmpV op x y h2 fun k => Q (.bl k) h2) q
theorem op_same (o : Cok P F C c lv X sc ow W) : OpR X (compareOp (cOp .eq)) (rTwo P fun a b h Q => sameV P.G a b h (Q (.bl true) h)) := by
  intro pins s σ H x y v u Q I rx ry ⟨a, b, h, Qp, ra, rb, z, q, l⟩
  have q : sameV P.G a b h (Qp (.bl true) h) := q
  unfold sameV at q
  split at q
  · rename_i a' b'
    cases ra
    cases rb
    cases rx
    cases ry
    obtain ⟨rfl, q⟩ := q
    split at q
    · rename_i k fs ek
      obtain ⟨dx, gs, g, rf⟩ := z _ _ ek
      obtain ⟨mA, J, _⟩ := ins_get I.hok g
      obtain ⟨od, J, _⟩ := J.look
      obtain ⟨f1, f2⟩ := o.wl.wx.eqs k q.1
      exact eq_same_K (by have := o.hu; omega) I.kIn J (o.hK ▸ f1) (o.hK ▸ f2) ⟨.bl true, H, I, rfl, l.here q.2 (.bl _) z⟩
    · exact q.elim
  · exact q.elim
theorem p_same (o : Cok P F C c lv X sc ow W) {l r : Expr} {pos : Pos} {ea eb : EvE} (hl : PE X l (LE P W ea)) (hr : PE X r (LE P W eb)) (hm : behindInMarks (cOp .eq) r = false) :
    PE X (.Compare l [cOp .eq] [r] pos) (LE P W fun env h Q X => ea env h (fun x h1 => eb env h1 (fun y h2 => sameV P.G x y h2 (Q (.bl true) h2)) X) X) :=
  (pe_cmpR (op_same o) hl hr hm).imp fun σ H Q q => le_two (f := fun x y h2 Q => sameV P.G x y h2 (Q (.bl true) h2)) q
theorem lb_val {ea : EvE} {σ : St} {H : Hp} {Q : Bool → Hp → Prop} (q : LB P W (fun env h Q X => ea env h (fun v h1 => truV v h1 fun k => Q k h1) X) σ H Q) : LE P W ea σ H fun x H' => ∃ k, TruV P.K x H' k ∧ Q k H' := by
  obtain ⟨env, h, Qp, Xp, re, hr, q, l, lx⟩ := q
  refine ⟨env, h, _, Xp, re, hr, q, fun x h1 v H1 q1 e1 r1 z1 => ?_, lx⟩
  obtain ⟨k, t, qk⟩ := tru_rel z1 r1 q1
  exact ⟨k, t, l k h1 H1 qk e1 z1⟩
theorem p_val (o : Cok P F C c lv X sc ow W) {e : Expr} {ea : EvE} (h : PE X e (LE P W ea)) (he : ∀ whole, isTrue e X.env whole = (do let v ← whole; standAt e.pos; holding [v] (truthy v))) :
    PT X e (LB P W fun env h Q X => ea env h (fun v h1 => truV v h1 fun k => Q k h1) X) := by
  refine (pt_truth h he).imp fun σ H Q q => ?_
  rw [o.hK]
  exact lb_val q
/-- a truth as a test -/
def onB (Qp : Bool → PH → Prop) : QE := fun v h => match v with
  | .bl k => Qp k h
  | _ => False
theorem lft_onB {H : Hp} {Qp : Bool → PH → Prop} {Q : Bool → Hp → Prop} (l : LftB P H Qp Q) : Lft P H (onB Qp) fun x H' => ∃ k, x = .bl k ∧ Q k H' := by
  intro pr h' v H' q e r z
  cases r with
  | bl k => exact ⟨k, rfl, l k h' H' q e z⟩
  | _ => exact q.elim
/-- a comparison as a test: its value is a truth -/
theorem p_cmpT (o : Cok P F C c lv X sc ow W) {op : CmpK} {l r : Expr} {pos : Pos} {ea eb : EvE} (hl : PE X l (LE P W ea)) (hr : PE X r (LE P W eb)) (hm : behindInMarks (cOp op) r = false) :
    PT X (.Compare l [cOp op] [r] pos) (LB P W fun env h Q X => ea env h (fun x h1 => eb env h1 (fun y h2 => cmpV op x y h2 fun k => Q k h2) X) X) := by
  refine (pt_cmpR (op_cmp o.hK o.hu op) hl hr hm).imp fun σ H Q ⟨env, h, Qp, Xp, re, hr, q, l, lx⟩ => ?_
  exact le_two (f := fun x y h2 Q => cmpV op x y h2 fun k => Q (.bl k) h2) ⟨env, h, onB Qp, Xp, re, hr, q, lft_onB l, lx⟩
theorem p_sameT (o : Cok P F C c lv X sc ow W) {l r : Expr} {pos : Pos} {ea eb : EvE} (hl : PE X l (LE P W ea)) (hr : PE X r (LE P W eb)) (hm : behindInMarks (cOp .eq) r = false) :
    PT X (.Compare l [cOp .eq] [r] pos) (LB P W fun env h Q X => ea env h (fun x h1 => eb env h1 (fun y h2 => sameV P.G x y h2 (Q true h2)) X) X) := by
  refine (pt_cmpR (op_same o) hl hr hm).imp fun σ H Q ⟨env, h, Qp, Xp, re, hr, q, l, lx⟩ => ?_
  exact le_two (f := fun x y h2 Q => sameV P.G x y h2 (Q (.bl true) h2)) ⟨env, h, onB Qp, Xp, re, hr, q, lft_onB l, lx⟩
/-- two comparisons in a chain -/
theorem le_chain (o : Cok P F C c lv X sc ow W) {p q : CmpK} {ea eb ec : EvE} {σ : St} {H : Hp} {Q : VK}
    (h : LE P W (fun env h Q X => ea env h (fun x h1 => eb env h1 (fun y h2 => cmpV p x y h2 fun k => if k = true then ec env h2 (fun z h3 => cmpV q y z h3 fun k' => Q (.bl k') h3) X else Q (.bl false) h2) X) X) σ H Q) :
    tChain (rTwo P fun a b h Q => cmpV p a b h fun t => Q (.bl t) h) (rTwo P fun a b h Q => cmpV q a b h fun t => Q (.bl t) h) (LE P W ea) (LE P W eb) (LE P W ec) σ H Q := by
  obtain ⟨env, h, Qp, Xp, re, hr, q0, l, lx⟩ := h
  refine ⟨env, h, _, Xp, re, hr, q0, fun x h1 v H1 q1 e1 r1 z1 => ⟨env, h1, _, Xp, re.ext e1, z1, q1, fun y h2 w H2 q2 e2 r2 z2 => ?_, lx.on e1⟩, lx⟩
  refine ⟨x, y, h2, onB fun k h' => h' = h2 ∧ if k = true then ec env h2 (fun z h3 => cmpV q y z h3 fun k' => Qp (.bl k') h3) Xp else Qp (.bl false) h2, r1.ext e2, r2, z2, ?_, ?_⟩
  · simpa only [onB, true_and] using q2
  · intro pr h' u H3 q3 e3 r3 z3
    cases r3 with
    | bl k =>
      obtain ⟨eh, q3⟩ := q3
      subst eh
      refine ⟨k, rfl, ?_⟩
      cases k with
      | false => exact l _ _ _ _ q3 ((e1.trans e2).trans e3) (.bl _) z3
      | true =>
        refine ⟨env, _, _, Xp, ((re.ext e1).ext e2).ext e3, z3, q3, fun z h4 u4 H4 q4 e4 r4 z4 => ?_, ((lx.on e1).on e2).on e3⟩
        exact ⟨y, z, h4, Qp, (r2.ext e3).ext e4, r4, z4, q4, l.on (((e1.trans e2).trans e3).trans e4)⟩
    | _ => exact q3.elim
theorem p_chain (o : Cok P F C c lv X sc ow W) {p q : CmpK} {l m r : Expr} {pos : Pos} {ea eb ec : EvE} (hl : PE X l (LE P W ea)) (hm : PE X m (LE P W eb)) (hr : PE X r (LE P W ec)) (hb : behindInMarks (cOp q) r = false) :
    PE X (.Compare l [cOp p, cOp q] [m, r] pos) (LE P W fun env h Q X => ea env h (fun x h1 => eb env h1 (fun y h2 => cmpV p x y h2 fun k => if k = true then ec env h2 (fun z h3 => cmpV q y z h3 fun k' => Q (.bl k') h3) X else Q (.bl false) h2) X) X) :=
  (pe_chain (op_cmp o.hK o.hu p) (op_cmp o.hK o.hu q) hl hm hr hb).imp fun σ H Q h => le_chain o h
theorem p_chainT (o : Cok P F C c lv X sc ow W) {p q : CmpK} {l m r : Expr} {pos : Pos} {ea eb ec : EvE} (hl : PE X l (LE P W ea)) (hm : PE X m (LE P W eb)) (hr : PE X r (LE P W ec)) (hb : behindInMarks (cOp q) r = false) :
    PT X (.Compare l [cOp p, cOp q] [m, r] pos) (LB P W fun env h Q X => ea env h (fun x h1 => eb env h1 (fun y h2 => cmpV p x y h2 fun k => if k = true then ec env h2 (fun z h3 => cmpV q y z h3 fun k' => Q k' h3) X else Q false h2) X) X) :=
  (pt_chain (op_cmp o.hK o.hu p) (op_cmp o.hK o.hu q) hl hm hr hb).imp fun σ H Q ⟨env, h, Qp, Xp, re, hr, q, l, lx⟩ =>
    le_chain o ⟨env, h, onB Qp, Xp, re, hr, q, lft_onB l, lx⟩
/-! ### and, or, not -/
theorem p_and (o : Cok P F C c lv X sc ow W) {a b : Expr} {rest : List Expr} {pos : Pos} {ea eb : EvE} (ha : PE X a (LE P W ea)) (hb : PE X (.BoolOp .And (b :: rest) pos) (LE P W eb)) :
    PE X (.BoolOp .And (a :: b :: rest) pos) (LE P W fun env h Q X => ea env h (fun x h1 => truV x h1 fun k => if k = true then eb env h1 Q X else Q x h1) X) := by
  refine (pe_andT ha hb).imp fun σ H Q ⟨env, h, Qp, Xp, re, hr, q, l, lx⟩ => ⟨env, h, _, Xp, re, hr, q, fun x h1 v H1 q1 e1 r1 z1 => ?_, lx⟩
  obtain ⟨k, t, qk⟩ := tru_rel z1 r1 q1
  refine ⟨k, o.hK ▸ t, ?_⟩
  cases k with
  | true => exact ⟨env, h1, Qp, Xp, re.ext e1, z1, qk, l.on e1, lx.on e1⟩
  | false => exact l _ _ _ _ qk e1 r1 z1
theorem p_or (o : Cok P F C c lv X sc ow W) {a b : Expr} {rest : List Expr} {pos : Pos} {ea eb : EvE} (ha : PE X a (LE P W ea)) (hb : PE X (.BoolOp .Or (b :: rest) pos) (LE P W eb)) :
    PE X (.BoolOp .Or (a :: b :: rest) pos) (LE P W fun env h Q X => ea env h (fun x h1 => truV x h1 fun k => if k = true then Q x h1 else eb env h1 Q X) X) := by
  refine (pe_orT ha hb).imp fun σ H Q ⟨env, h, Qp, Xp, re, hr, q, l, lx⟩ => ⟨env, h, _, Xp, re, hr, q, fun x h1 v H1 q1 e1 r1 z1 => ?_, lx⟩
  obtain ⟨k, t, qk⟩ := tru_rel z1 r1 q1
  refine ⟨k, o.hK ▸ t, ?_⟩
  cases k with
  | false => exact ⟨env, h1, Qp, Xp, re.ext e1, z1, qk, l.on e1, lx.on e1⟩
  | true => exact l _ _ _ _ qk e1 r1 z1
theorem p_not (o : Cok P F C c lv X sc ow W) {a : Expr} {pos : Pos} {ea : EvE} (ha : PE X a (LE P W ea)) :
    PE X (.UnaryOp .Not a pos) (LE P W fun env h Q X => ea env h (fun x h1 => truV x h1 fun k => Q (.bl (!k)) h1) X) := by
  refine (pe_notT ha).imp fun σ H Q ⟨env, h, Qp, Xp, re, hr, q, l, lx⟩ => ⟨env, h, _, Xp, re, hr, q, fun x h1 v H1 q1 e1 r1 z1 => ?_, lx⟩
  obtain ⟨k, t, qk⟩ := tru_rel z1 r1 q1
  exact ⟨k, o.hK ▸ t, l _ _ _ _ qk e1 (.bl _) z1⟩
theorem p_ite (o : Cok P F C c lv X sc ow W) {t a b : Expr} {pos : Pos} {et : EvB} {ea eb : EvE} (ht : PT X t (LB P W et)) (ha : PE X a (LE P W ea)) (hb : PE X b (LE P W eb)) :
    PE X (.IfExp t a b pos) (LE P W fun env h Q X => et env h (fun k h1 => if k = true then ea env h1 Q X else eb env h1 Q X) X) := by
  refine (pe_ifExp ht ha hb).imp fun σ H Q ⟨env, h, Qp, Xp, re, hr, q, l, lx⟩ => ⟨env, h, _, Xp, re, hr, q, fun k h1 H1 q1 e1 z1 => ?_, lx⟩
  cases k with
  | true => exact ⟨env, h1, Qp, Xp, re.ext e1, z1, q1, l.on e1, lx.on e1⟩
  | false => exact ⟨env, h1, Qp, Xp, re.ext e1, z1, q1, l.on e1, lx.on e1⟩
theorem LftB.on {H H1 : Hp} {Qp : Bool → PH → Prop} {Q : Bool → Hp → Prop} (l : LftB P H Qp Q) (e : Ext H H1) : LftB P H1 Qp Q := fun k h' H' a b z => l k h' H' a (e.trans b) z
theorem q_and {a b : Expr} {rest : List Expr} {pos : Pos} {ea eb : EvB} (ha : PT X a (LB P W ea)) (hb : PW X (.BoolOp .And (b :: rest) pos) (LB P W eb)) :
    PW X (.BoolOp .And (a :: b :: rest) pos) (LB P W fun env h Q X => ea env h (fun k h1 => if k = true then eb env h1 Q X else Q false h1) X) := by
  refine (pw_and ha hb).imp fun σ H Q ⟨env, h, Qp, Xp, re, hr, q, l, lx⟩ => ⟨env, h, _, Xp, re, hr, q, fun k h1 H1 q1 e1 z1 => ?_, lx⟩
  cases k with
  | true => exact ⟨env, h1, Qp, Xp, re.ext e1, z1, q1, LftB.on l e1, lx.on e1⟩
  | false => exact l _ _ _ q1 e1 z1
theorem q_or {a b : Expr} {rest : List Expr} {pos : Pos} {ea eb : EvB} (ha : PT X a (LB P W ea)) (hb : PW X (.BoolOp .Or (b :: rest) pos) (LB P W eb)) :
    PW X (.BoolOp .Or (a :: b :: rest) pos) (LB P W fun env h Q X => ea env h (fun k h1 => if k = true then Q true h1 else eb env h1 Q X) X) := by
  refine (pw_or ha hb).imp fun σ H Q ⟨env, h, Qp, Xp, re, hr, q, l, lx⟩ => ⟨env, h, _, Xp, re, hr, q, fun k h1 H1 q1 e1 z1 => ?_, lx⟩
  cases k with
  | false => exact ⟨env, h1, Qp, Xp, re.ext e1, z1, q1, LftB.on l e1, lx.on e1⟩
  | true => exact l _ _ _ q1 e1 z1
theorem q_not {a : Expr} {pos : Pos} {ea : EvB} (ha : PT X a (LB P W ea)) :
    PT X (.UnaryOp .Not a pos) (LB P W fun env h Q X => ea env h (fun k h1 => Q (!k) h1) X) :=
  (pt_not ha).imp fun σ H Q ⟨env, h, Qp, Xp, re, hr, q, l, lx⟩ => ⟨env, h, _, Xp, re, hr, q, fun k h1 H1 q1 e1 z1 => l _ _ _ q1 e1 z1, lx⟩
/-! ### subscripts, slices, displays -/
theorem p_sub (o : Cok P F C c lv X sc ow W) {a b : Expr} {pos : Pos} {ea eb : EvE} (ha : PE X a (LE P W ea)) (hb : PE X b (LE P W eb)) (hs : okE b = true) :
    PE X (.Subscript a b pos) (LE P W fun env h Q X => ea env h (fun x h1 => eb env h1 (fun y h2 => subV x y h2 Q) X) X) :=
  (pe_ix (ix_any o.hK o.hu1) ha hb (ok_sub hs)).imp fun σ H Q q => le_two q
theorem p_none : PO X none (LO P W fun _ h Q _ => Q none h) := po_none.imp fun σ H Q ⟨env, h, Qp, Xp, re, hr, q, l, lx⟩ => l _ _ _ q (.refl H) hr
theorem p_some {e : Expr} {ea : EvE} (he : PE X e (LE P W ea)) : PO X (some e) (LO P W fun env h Q X => ea env h (fun v h1 => match v with | .int i => Q (some i) h1 | _ => False) X) := by
  refine (po_some he).imp fun σ H Q ⟨env, h, Qp, Xp, re, hr, q, l, lx⟩ => ⟨env, h, _, Xp, re, hr, q, fun x h1 v H1 q1 e1 r1 z1 => ?_, lx⟩
  cases r1 with
  | int i => exact ⟨i, rfl, l _ _ _ q1 e1 z1⟩
  | _ => exact q1.elim
abbrev EvO := PEnv → PH → (Option Int → PH → Prop) → XE → Prop
theorem p_slice (o : Cok P F C c lv X sc ow W) {a : Expr} {lo hi : Option Expr} {p2 pos : Pos} {ea : EvE} {el eh : EvO} (ha : PE X a (LE P W ea)) (hl : PO X lo (LO P W el)) (hh : PO X hi (LO P W eh)) :
    PE X (.Subscript a (.Slice lo hi none p2) pos) (LE P W fun env h Q X => ea env h (fun x h1 => el env h1 (fun l h2 => eh env h2 (fun u h3 => sliV x l u h3 Q) X) X) X) := by
  refine (pe_slice (sl_any o.hK) ha hl hh).imp fun σ H Q ⟨env, h, Qp, Xp, re, hr, q, l, lx⟩ => ⟨env, h, _, Xp, re, hr, q, fun x h1 v H1 q1 e1 r1 z1 => ?_, lx⟩
  refine ⟨env, h1, _, Xp, re.ext e1, z1, q1, fun lo' h2 H2 q2 e2 z2 => ?_, lx.on e1⟩
  refine ⟨env, h2, _, Xp, (re.ext e1).ext e2, z2, q2, fun hi' h3 H3 q3 e3 z3 => ?_, (lx.on e1).on e2⟩
  exact ⟨x, h3, Qp, (r1.ext e2).ext e3, z3, q3, l.on ((e1.trans e2).trans e3)⟩
theorem p_nil : PA X [] (LEs P W fun _ h Q _ => Q [] h) := pa_nil.imp fun σ H Q ⟨env, h, Qp, Xp, re, hr, q, l, lx⟩ => l _ _ _ _ q (.refl H) .nil hr
theorem p_cons {e : Expr} {es : List Expr} {ea : EvE} {eb : EvA} (he : PE X e (LE P W ea)) (hs : PA X es (LEs P W eb)) (h : okE e = true) :
    PA X (e :: es) (LEs P W fun env h Q X => ea env h (fun v h1 => eb env h1 (fun vs h2 => Q (v :: vs) h2) X) X) := by
  refine (pa_cons he hs (ok_star h _ _)).imp fun σ H Q ⟨env, h, Qp, Xp, re, hr, q, l, lx⟩ => ⟨env, h, _, Xp, re, hr, q, fun x h1 v H1 q1 e1 r1 z1 => ?_, lx⟩
  exact ⟨env, h1, _, Xp, re.ext e1, z1, q1, fun xs h2 vs H2 q2 e2 r2 z2 => l _ _ _ _ q2 (e1.trans e2) (.cons (r1.ext e2) r2) z2, lx.on e1⟩
theorem p_tup {es : List Expr} {k : Nat} {pos : Pos} {ea : EvA} (ha : PA X es (LEs P W ea)) : PE X (.Tuple es k pos) (LE P W fun env h Q X => ea env h (fun vs h1 => vs.length ≤ sizeLine ∧ Q (.tup vs) h1) X) := by
  refine (pe_tup ha).imp fun σ H Q ⟨env, h, Qp, Xp, re, hr, q, l, lx⟩ => ⟨env, h, _, Xp, re, hr, q, fun x h1 v H1 q1 e1 r1 z1 => ⟨by rw [← r1.length]; exact q1.1, fun p n => ?_⟩, lx⟩
  exact l _ _ _ _ q1.2 (e1.trans (.new n)) (.tup (.inl upd_same) (r1.ext (.new n))) (z1.keep n)
theorem p_lst {es : List Expr} {pos : Pos} {ea : EvA} (ha : PA X es (LEs P W ea)) :
    PE X (.List es pos) (LE P W fun env h Q X => ea env h (fun vs h1 => vs.length ≤ sizeLine ∧ ∀ p, h1 p = none → Q (.loc p) (pup h1 p (.lst vs))) X) := by
  refine (pe_lst ha).imp fun σ H Q ⟨env, h, Qp, Xp, re, hr, q, l, lx⟩ => ⟨env, h, _, Xp, re, hr, q, fun x h1 v H1 q1 e1 r1 z1 => ⟨by rw [← r1.length]; exact q1.1, fun p n => ?_⟩, lx⟩
  exact l _ _ _ _ (q1.2 p (z1.free n)) (e1.trans (.new n)) (.loc p) (rlst_new z1 n r1)
theorem p_dict0 {pos : Pos} : PE X (.Dict [] [] pos) (LE P W fun _ h Q _ => ∀ p, h p = none → Q (.loc p) (pup h p (.dct false []))) :=
  pe_dnewK.imp fun σ H Q ⟨env, h, Qp, Xp, re, hr, q, l, lx⟩ p n => l _ _ _ _ (q p (hr.free n)) (.new n) (.loc p) (rdct_new hr n .nil)
def LPs (P : Pm) (W : WX) (trs : List (TE × TE)) (ev : EvA) : Prop := ∀ σ H env h Qp Xp (Q : List (V × V) → Hp → Prop), RE P.K H env σ → HR P h H → ev env h Qp Xp →
  (∀ xs h' ps H', Qp xs h' → Ext H H' → HR P h' H' → RPs P.K H' xs (ps.flatMap fun p => [p.1, p.2]) → Q ps H') → LftX P W σ H Xp → tPairs trs σ H Q
theorem lps_nil : LPs P W [] fun _ h Q _ => Q [] h := fun σ H env h Qp Xp Q re z q l lx => l [] h [] H q (.refl H) z .nil
theorem lps_cons {trs : List (TE × TE)} {ek ev : EvE} {er : EvA} (ih : LPs P W trs er) :
    LPs P W ((LE P W ek, LE P W ev) :: trs) fun env h Q X => ek env h (fun k h1 => ev env h1 (fun v h2 => er env h2 (fun r h3 => Q (k :: v :: r) h3) X) X) X :=
  fun σ H env h Qp Xp Q re z q l lx => ⟨env, h, _, Xp, re, z, q, fun a h1 v H1 q1 e1 r1 z1 => ⟨env, h1, _, Xp, re.ext e1, z1, q1, fun b h2 w H2 q2 e2 r2 z2 =>
    ih σ H2 env h2 _ Xp _ ((re.ext e1).ext e2) z2 q2 (fun xs h' ps H' q3 e3 z3 r3 => l _ _ _ _ q3 ((e1.trans e2).trans e3) z3 (.cons ((r1.ext e2).ext e3) (.cons (r2.ext e3) r3))) ((lx.on e1).on e2), lx.on e1⟩, lx⟩
theorem pair_rel {K : PySem.W.Frag} {H : Hp} : ∀ {ps : List (V × V)} {xs : List PV} {kvs : List (Key × PV)}, RPs K H xs (ps.flatMap fun p => [p.1, p.2]) → pairUp xs = some kvs → ∃ ws : List (Key × V), ps = ws.map (fun kv => (kV kv.1, kv.2)) ∧ RK K H kvs ws
  | [], xs, kvs, r, e => by
    have r' : RPs K H xs [] := r
    cases r'
    cases e
    exact ⟨[], rfl, .nil⟩
  | (x, y) :: ps, xs, kvs, r, e => by
    have r' : RPs K H xs (x :: y :: ps.flatMap fun p => [p.1, p.2]) := r
    cases r' with
    | cons r1 r' =>
      cases r' with
      | cons r2 r3 =>
        unfold pairUp at e
        split at e
        · rename_i k' r' ek er
          cases e
          obtain ⟨ws, e1, e2⟩ := pair_rel r3 er
          have := toKey_rel r1 ek
          subst this
          exact ⟨(k', y) :: ws, by rw [e1]; rfl, .cons ⟨rfl, r2⟩ e2⟩
        · cases e
theorem p_disp {pos : Pos} {ks : List (Option Expr)} {vs : List Expr} {trs : List (TE × TE)} {ev : EvA} (hp : PPs X pos ks vs trs) (lp : LPs P W trs ev) (h0 : ks ≠ []) (h1 : ks.length = vs.length) (h2 : ks.length ≤ 15) (h3 : ks.all (·.isSome) = true) :
    PE X (.Dict ks vs pos) (LE P W fun env h Q X => ∀ p, h p = none → ev env (pup h p (.dct false [])) (fun xs h1 => h1 p = some (.dct false []) ∧ match pairUp xs with
      | some kvs => kvs.length ≤ 15 ∧ Q (.loc p) (pup h1 p (.dct false (mergeP [] kvs)))
      | none => False) X) := by
  refine (pe_disp hp h3 h1 h0 h2).imp fun σ H Q ⟨env, h, Qp, Xp, re, hr, q, l, lx⟩ p n => ?_
  have x0 : Ext H (upd H p (.dK [])) := .new n
  refine lp σ _ env _ _ Xp _ (re.ext x0) (rdct_new hr n .nil) (q p (hr.free n)) (fun xs h' ps H' q' e' z' r' => ?_) (lx.on x0)
  obtain ⟨q1, q2⟩ := q'
  split at q2
  · rename_i kvs ek
    obtain ⟨ws, g, rr⟩ := z' p _ q1
    have rr' : RK P.K H' [] ws := rr
    cases rr'
    obtain ⟨us, e1, e2⟩ := pair_rel r' ek
    refine ⟨g, us, e1, by rw [← paired_len e2]; exact q2.1, ?_⟩
    exact l _ _ _ _ q2.2 ((x0.trans e').trans (z'.chg q1 _)) (.loc p) (rdct_put z' q1 (rk_merge e2 .nil))
  · exact q2.elim
/-! ### fields -/
theorem rf_look {nm : List Str} (nd : nm.Nodup) {K : PySem.W.Frag} {H : Hp} {f : Nat} {s : Str} (hs : nm[f]? = some s) : ∀ {fs : List (Nat × PV)} {gs : List (Str × V)}, RF nm K H fs gs →
    (∀ v, fs.lookup f = some v → ∃ w, gs.lookup s = some w ∧ RP K H v w) ∧ (fs.lookup f = none → gs.lookup s = none)
  | _, _, .nil => ⟨fun v e => by simp at e, fun _ => rfl⟩
  | (i, x) :: fs, (t, y) :: gs, .cons a r => by
    obtain ⟨e, q⟩ := a
    simp only at e q
    obtain ⟨i1, i2⟩ := rf_look nd hs r
    by_cases hi : i = f
    · subst hi
      rw [hs] at e
      cases e
      exact ⟨fun v ev => by simp at ev; subst ev; exact ⟨y, by simp, q⟩, fun ev => by simp at ev⟩
    · have ht : t ≠ s := by
        intro z
        subst z
        have l1 := (List.getElem?_eq_some_iff.mp e).1
        exact hi ((List.getElem?_inj l1 nd).mp (e.trans hs.symm))
      have hi' : (f == i) = false := by simpa using Ne.symm hi
      have ht' : (s == t) = false := by simpa using Ne.symm ht
      exact ⟨fun v ev => i1 v (by simpa [List.lookup, hi'] using ev) |>.imp fun w ⟨a, b⟩ => ⟨by simpa [List.lookup, ht'] using a, b⟩, fun ev => by simpa [List.lookup, ht'] using i2 (by simpa [List.lookup, hi'] using ev)⟩
theorem rf_put {nm : List Str} (nd : nm.Nodup) {K : PySem.W.Frag} {H : Hp} {f : Nat} {s : Str} {v : PV} {w : V} (hs : nm[f]? = some s) (rv : RP K H v w) : ∀ {fs : List (Nat × PV)} {gs : List (Str × V)}, RF nm K H fs gs → RF nm K H (putA f v fs) (putF s w gs)
  | _, _, .nil => .cons ⟨hs, rv⟩ .nil
  | (i, x) :: fs, (t, y) :: gs, .cons a r => by
    obtain ⟨e, q⟩ := a
    simp only at e q
    unfold putA putF
    by_cases hi : i = f
    · subst hi
      rw [hs] at e
      cases e
      simp only [if_true]
      exact .cons ⟨hs, rv⟩ r
    · have ht : t ≠ s := by
        intro z
        subst z
        have l1 := (List.getElem?_eq_some_iff.mp e).1
        exact hi ((List.getElem?_inj l1 nd).mp (e.trans hs.symm))
      rw [if_neg hi, if_neg ht]
      exact .cons ⟨e, q⟩ (rf_put nd hs rv r)
theorem p_fld (o : Cok P F C c lv X sc ow W) {e : Expr} {s : Str} {f : Nat} {pos : Pos} {ea : EvE} (he : PE X e (LE P W ea)) (h : okE e = true) (hs : P.G.nm[f]? = some s) :
    PE X (.Attribute e s pos) (LE P W fun env h Q X => ea env h (fun x h1 => match x with
      | .loc a => match h1 a with
        | some (.ins c fs) => P.G.fl c f = true ∧ match fs.lookup f with
          | some v => Q v h1
          | none => False
        | _ => False
      | _ => False) X) := by
  refine (pe_fld he (ok_base h _ _)).imp fun σ H Q ⟨env, h, Qp, Xp, re, hr, q, l, lx⟩ => ⟨env, h, _, Xp, re, hr, q, fun x h1 v H1 q1 e1 r1 z1 => ?_, lx⟩
  cases r1 with
  | loc a =>
    simp only at q1
    split at q1
    · rename_i k fs ek
      obtain ⟨q0, q1⟩ := q1
      split at q1
      · rename_i y ey
        obtain ⟨dx, gs, g, rf⟩ := z1 a _ ek
        obtain ⟨w, ew, rw'⟩ := (rf_look o.wl.nd hs rf).1 y ey
        exact ⟨a, P.cls k, dx, gs, w, rfl, g, o.hK ▸ o.wl.cl k f q0, o.hK ▸ o.wl.na k f s q0 hs, ew, l _ _ _ _ q1 e1 rw' z1⟩
      · exact q1.elim
    · exact q1.elim
  | _ => exact q1.elim
end
end Mir

set_option autoImplicit false
namespace Mir
open PySem L2 PySem.Spec
open PyProof.Rows hiding St
variable [Tbl]

section
variable {P : Pm} {F : FT} {C : CallS} {c : Ct} {lv : Nat} {X : Cx} {sc ow : Scope} {W : WX}
/-! ### calls -/
theorem rps_app {K : PySem.W.Frag} {H : Hp} : ∀ {xs : List PV} {vs : List V} {ys : List PV} {ws : List V}, RPs K H xs vs → RPs K H ys ws → RPs K H (xs ++ ys) (vs ++ ws)
  | _, _, _, _, .nil, r => r
  | _, _, _, _, .cons a t, r => .cons a (rps_app t r)
theorem rps_rev {K : PySem.W.Frag} {H : Hp} : ∀ {xs : List PV} {vs : List V}, RPs K H xs vs → RPs K H xs.reverse vs.reverse
  | _, _, .nil => .nil
  | _, _, .cons a t => by
    rw [List.reverse_cons, List.reverse_cons]
    exact rps_app (rps_rev t) (.cons a .nil)
theorem es_cons {es : Es} {a : Expr} {as : List Expr} (h : chkEs c es sc (a :: as) = true) : okE a = true ∧ ∀ (pos : Pos) (env : Env), (backTo pos (starEach as env)).any (·.1) = false := by
  cases es with
  | nil => simp [chkEs] at h
  | cons e es =>
    simp only [chkEs, Bool.and_eq_true] at h
    exact ⟨h.1.1, fun pos env => star_plain h.2 pos env⟩
theorem es_nil {es : Es} (h : chkEs c es sc [] = true) : es = .nil := by
  cases es with
  | nil => rfl
  | cons e es => simp [chkEs] at h
/-- the values of arguments, then a call of what is known to be kept -/
theorem with_args (o : Cok P F C c lv X sc ow W) {es : Es} {args : List Expr} {pos : Pos} {first : List Value} {f : Value} (hk : PySem.W.keepIn X.K f = true) (hc : chkEs c es sc args = true) (ha : PA X args (LEs P W (evEs P.G C es)))
    {g : List PV → PH → QE → XE → Prop} {pins : List (Addr × Obj)} {s : Shared} {σ : St} {H : Hp} {Q : VK} (I : Inv X pins σ H s) (q : LE P W (fun env h Q X => evEs P.G C es env h (fun vs h1 => g vs h1 Q X) X) σ H Q)
    (run : ∀ (us : List Value) (s1 : Shared) (H1 : Hp) (vs : List V) (ps : List PV) (h1 : PH) (Qp : QE) (Xp : XE), Inv X pins σ H1 s1 → Ext H H1 → Vals vs us → RPs P.K H1 ps vs → HR P h1 H1 → g ps h1 Qp Xp → Lft P H1 Qp Q → LftX P W σ H1 Xp →
      wpAny (model X.prog X.w) X.A (call f (first ++ us)) (EP X pins σ Q) X.xe s1) :
    wpAny (model X.prog X.w) X.A (callWith pos f first (backTo pos (starEach args X.env)) (backToKw pos (keywordEach [] X.env))) (EP X pins σ Q) X.xe s := by
  match args, hc, ha with
  | [], hc, _ =>
    have e := es_nil hc
    subst e
    obtain ⟨env, h, Qp, Xp, re, hr, q, l, lx⟩ := q
    refine PySem.W.callWith_K0 I.kIn hk ?_
    exact run [] s H [] [] h Qp Xp I (.refl H) .nil .nil hr q l lx
  | a :: as, hc, ha =>
    obtain ⟨o1, o2⟩ := es_cons hc
    obtain ⟨env, h, Qp, Xp, re, hr, q, l, lx⟩ := q
    have q' : LEs P W (evEs P.G C es) σ H fun vs H1 => ∃ ps h1, Ext H H1 ∧ RPs P.K H1 ps vs ∧ HR P h1 H1 ∧ g ps h1 Qp Xp := ⟨env, h, _, Xp, re, hr, q, fun x h1 v H1 q1 e1 r1 z1 => ⟨x, h1, e1, r1, z1, q1⟩, lx⟩
    refine PySem.W.callWith_K (h₀ := X.base) I.ok.mod.kin hk (thn (ha.run pos pins s σ H _ I q') ?_) (ok_star o1 _ _) (o2 pos X.env)
    rintro us s1 ⟨vs, H1, I1, r, ps, h1, e1, rp, z, q1⟩
    exact ⟨I1.kIn, run us s1 H1 vs ps h1 Qp Xp I1 e1 r rp z q1 (l.on e1) (lx.on e1)⟩
theorem p_call (o : Cok P F C c lv X sc ow W) {x : Str} {f : Nat} {es : Es} {args : List Expr} {p pos : Pos} (hf : c.fnN f = some x) (hg : glB sc x = true) (hd : dunB x = true) (hc : chkEs c es sc args = true) (ha : PA X args (LEs P W (evEs P.G C es))) :
    PE X (.Call (.Name x p) args [] pos) (LE P W (evE P.G C (.call f es))) := by
  obtain ⟨m1, m2⟩ := o.wl.mf f x hf
  rw [← o.hK] at m2
  refine ⟨fun pins s σ H Q I q => ?_⟩
  refine wpAny_Call_Name_kw (ld_glob I (o.glx hg) m1 ?_ (dun_of hd).1)
  exact with_args o (first := []) m2 hc ha (g := fun vs h1 Q X => C f (padD P.G f vs) h1 Q X) I q fun us s1 H1 vs ps h1 Qp Xp I1 e1 r rp z q1 l lx => run_any o I1 r rp z q1 l lx
theorem p_make (o : Cok P F C c lv X sc ow W) {x : Str} {k : Nat} {es : Es} {args : List Expr} {p pos : Pos} (hf : c.clN k = some x) (hg : glB sc x = true) (hd : dunB x = true) (hc : chkEs c es sc args = true) (ha : PA X args (LEs P W (evEs P.G C es)))
    (hi : ∃ f, P.G.ini k = some f) : PE X (.Call (.Name x p) args [] pos) (LE P W (evE P.G C (.make k es))) := by
  have m1 := o.wl.mc k x hf
  obtain ⟨f, ef⟩ := hi
  have M := o.wl.mks k f ef
  rw [← o.hK] at M
  refine ⟨fun pins s σ H Q I q => ?_⟩
  refine wpAny_Call_Name_kw (ld_glob I (o.glx hg) m1 ?_ (dun_of hd).1)
  simp only [evE, ef] at q
  exact with_args o (first := []) M.kp hc ha (g := fun vs h1 Q X => ∀ p, h1 p = none → C f (padD P.G f (.loc p :: vs)) (pup h1 p (.ins k [])) (fun v h2 => v = .non ∧ Q (.loc p) h2) X) I q
    fun us s1 H1 vs ps h1 Qp Xp I1 e1 r rp z q1 l lx => run_new o I1 r rp z ef q1 l lx
theorem few_of {es : Es} {args : List Expr} {pos : Pos} {env : Env} (hc : chkEs c es sc args = true) (hn : args.length < 29) : methodCallForm (args.length + ([] : List Keyword).length) (backTo pos (starEach args env)) (backToKw pos (keywordEach [] env)) = true := by
  unfold methodCallForm
  rw [star_few hc]
  simp only [Bool.true_and, Bool.and_eq_true, decide_eq_true_eq]
  exact ⟨rfl, by simp only [List.length_nil, keywordEach, backToKw, List.map_nil, List.isEmpty_nil, if_true]; omega⟩
theorem p_meth (o : Cok P F C c lv X sc ow W) {e : Expr} {s : Str} {m : Nat} {eo : E} {es : Es} {args : List Expr} {apos pos : Pos} (h : okE e = true) (hl : (apos.endLine == pos.line) = true) (hn : args.length < 29) (hs : P.G.nm[m]? = some s) (he : PE X e (LE P W (evE P.G C eo))) (hc : chkEs c es sc args = true) (ha : PA X args (LEs P W (evEs P.G C es))) :
    PE X (.Call (.Attribute e s apos) args [] pos) (LE P W (evE P.G C (.meth eo m es))) := by
  refine ⟨fun pins st σ H Q I q => ?_⟩
  obtain ⟨env, h0, Qp, Xp, re, hr, q, l, lx⟩ := q
  simp only [evE] at q
  have q' : LE P W (evE P.G C eo) σ H fun v H1 => ∃ x h1, Ext H H1 ∧ RP P.K H1 x v ∧ HR P h1 H1 ∧ _ := ⟨env, h0, _, Xp, re, hr, q, fun x h1 v H1 q1 e1 r1 z1 => ⟨x, h1, e1, r1, z1, q1⟩, lx⟩
  refine PySem.W.methodCall_KW (pl := ?pl) (thn (he.run pins st σ H _ I q') ?_) (by
    show (do
      let ov ← attributeBase e s X.env (eval e X.env)
      standAt apos.atName
      methodCall e s apos pos X.env ov (args.length + ([] : List Keyword).length) (backTo pos (starEach args X.env)) (backToKw pos (keywordEach [] X.env))) = _
    rw [ok_base h]
    unfold methodCall calleeOf methodCallPos
    rw [few_of hc hn]
    simp only [hl, Bool.not_true, Bool.false_or, if_true]
    rfl)
  rintro u s1 ⟨v, H1, I1, rv, x, h1, e1, rx, z1, q1⟩
  cases rx with
  | loc a =>
    cases rv
    simp only at q1
    split at q1
    · rename_i k fs ek
      split at q1
      · rename_i f ef
        obtain ⟨ln, q1⟩ := q1
        obtain ⟨dx, gs, g, rf⟩ := z1 a _ ek
        obtain ⟨cl, mt⟩ := o.wl.me k m f s ef hs
        rw [← o.hK] at cl mt
        refine getmeth_ok I1 g cl mt ((rf_look o.wl.nd hs rf).2 ln) ?_
        refine with_args o (first := [.ref a]) mt.kp hc ha (g := fun vs h2 Q X => C f (padD P.G f (.loc a :: vs)) h2 Q X) I1 ⟨env, h1, Qp, Xp, re.ext e1, z1, q1, l.on e1, lx.on e1⟩ ?_
        intro us s2 H2 vs ps h2 Qp Xp I2 e2 r rp z q2 l lx
        exact run_any o (us := .ref a :: us) (vs := .ref a :: vs) I2 (.cons rfl r) (.cons (.loc a) rp) z q2 l lx
      · exact q1.elim
    · exact q1.elim
  | _ => exact q1.elim
theorem blt_boot (b : BltK) : bootBuiltins (bltN b) = some (bltF b) := by cases b <;> decide +kernel
theorem blt_dun (b : BltK) : bltN b ≠ "__name__" ∧ (bltN b == ("__debug__" : Str)) = false := by cases b <;> decide +kernel
theorem p_blt (o : Cok P F C c lv X sc ow W) {b : BltK} {es : Es} {a : Expr} {as : List Expr} {p pos : Pos} (hg : glB sc (bltN b) = true) (hb : bltN b ∈ c.bls) (hc : chkEs c es sc (a :: as) = true) (ha : PA X (a :: as) (LEs P W (evEs P.G C es))) :
    PE X (.Call (.Name (bltN b) p) (a :: as) [] pos) (LE P W (evE P.G C (.blt b es))) := by
  obtain ⟨o1, o2⟩ := es_cons hc
  have go : ∀ σ H Q, LE P W (evE P.G C (.blt b es)) σ H Q → tCB (rBlt P b) (LEs P W (evEs P.G C es)) σ H Q := fun σ H Q ⟨env, h, Qp, Xp, re, hr, q, l, lx⟩ =>
    ⟨env, h, _, Xp, re, hr, q, fun x h1 v H1 q1 e1 r1 z1 => ⟨x, h1, Qp, r1, z1, q1, l.on e1⟩, lx⟩
  have cb := call_blt o.calm o.hK b
  have bo := blt_boot b
  have bn := o.bnone hb
  obtain ⟨d1, d2⟩ := blt_dun b
  have both : (∃ id, bltF b = .builtin id) ∨ ∃ T, bltF b = .type T := by cases b <;> first | exact .inl ⟨_, rfl⟩ | exact .inr ⟨_, rfl⟩
  rcases both with ⟨id, e⟩ | ⟨T, e⟩
  · rw [e] at cb bo
    exact (pe_callB cb (o.glx hg) bn bo ha d1 d2 (ok_star o1 _ _) (o2 pos X.env)).imp go
  · rw [e] at cb bo
    exact (pe_callTy cb (o.glx hg) bn bo ha d1 d2 (ok_star o1 _ _) (o2 pos X.env)).imp go
theorem bm_slot (m : BmK) : PlainAttrs (btS (bmT m)) ∧ Slot (btS (bmT m)) (bmN m) (bmId m) ∧ typeOf (.builtin (bmId m)) = Pure.pure (.type "method_descriptor") := by
  cases m with
  | append => exact ⟨PySem.F.plainAttrs_list, PySem.F.slot_list_append, PySem.F.type_list_append⟩
  | extend => exact ⟨PySem.F.plainAttrs_list, PySem.F.slot_list_extend, PySem.F.type_list_extend⟩
  | popAt => exact ⟨PySem.F.plainAttrs_list, PySem.F.slot_list_pop, PySem.F.type_list_pop⟩
  | clearL => exact ⟨PySem.F.plainAttrs_list, PySem.F.slot_list_clear, PySem.F.type_list_clear⟩
  | index => exact ⟨PySem.F.plainAttrs_list, PySem.F.slot_list_index, PySem.F.type_list_index⟩
  | countL => exact ⟨PySem.F.plainAttrs_list, PySem.F.slot_list_count, PySem.F.type_list_count⟩
  | get => exact ⟨PySem.F.plainAttrs_dict, PySem.F.slot_dict_get, PySem.F.type_dict_get⟩
  | setdefault => exact ⟨PySem.F.plainAttrs_dict, PySem.F.slot_dict_setdefault, PySem.F.type_dict_setdefault⟩
  | update => exact ⟨PySem.F.plainAttrs_dict, PySem.F.slot_dict_update, PySem.F.type_dict_update⟩
  | popK => exact ⟨PySem.F.plainAttrs_dict, PySem.F.slot_dict_pop, PySem.F.type_dict_pop⟩
  | clearD => exact ⟨PySem.F.plainAttrs_dict, PySem.F.slot_dict_clear, PySem.F.type_dict_clear⟩
  | items => exact ⟨PySem.F.plainAttrs_dict, PySem.F.slot_dict_items, PySem.F.type_dict_items⟩
  | values => exact ⟨PySem.F.plainAttrs_dict, PySem.F.slot_dict_values, PySem.F.type_dict_values⟩
  | join => exact ⟨PySem.F.plainAttrs_str, PySem.F.slot_str_join, PySem.F.type_str_join⟩
  | split => exact ⟨PySem.F.plainAttrs_str, PySem.F.slot_str_split, PySem.F.type_str_split⟩
  | find => exact ⟨PySem.F.plainAttrs_str, PySem.F.slot_str_find, PySem.F.type_str_find⟩
  | startswith => exact ⟨PySem.F.plainAttrs_str, PySem.F.slot_str_startswith, PySem.F.type_str_startswith⟩
  | upper => exact ⟨PySem.F.plainAttrs_str, PySem.F.slot_str_upper, PySem.F.type_str_upper⟩
  | count => exact ⟨PySem.F.plainAttrs_str, PySem.F.slot_str_count, PySem.F.type_str_count⟩
theorem p_bm (o : Cok P F C c lv X sc ow W) {m : BmK} {eo : E} {es : Es} {e : Expr} {args : List Expr} {apos cpos : Pos} (h : okE e = true) (hl : (apos.endLine == cpos.line) = true) (hn : args.length < 29) (he : PE X e (LE P W (evE P.G C eo))) (hc : chkEs c es sc args = true)
    (ha : PA X args (LEs P W (evEs P.G C es))) : PE X (.Call (.Attribute e (bmN m) apos) args [] cpos) (LE P W (evE P.G C (.bm m eo es))) := by
  obtain ⟨s1, s2, s3⟩ := bm_slot m
  have mt := mt_any (P := P) o.calm o.hu1 o.hK m
  match args, hc, ha, hn with
  | [], hc, _, _ =>
    have e := es_nil hc
    subst e
    refine (pe_bm0 s1 s2 s3 mt he (ok_base h _ _) hl).imp fun σ H Q ⟨env, h, Qp, Xp, re, hr, q, l, lx⟩ => ⟨env, h, _, Xp, re, hr, q, fun x h1 v H1 q1 e1 r1 z1 => ?_, lx⟩
    exact ⟨o.hK ▸ ty_rel z1 r1 q1.1, x, [], h1, Qp, r1, .nil, z1, q1.2, l.on e1⟩
  | a :: as, hc, ha, hn =>
    obtain ⟨o1, o2⟩ := es_cons hc
    have few : ((backTo cpos (starEach (a :: as) X.env)).all (fun x => !x.1) && (backToKw cpos (keywordEach [] X.env)).all (fun x => x.1.isSome)
        && decide ((a :: as).length + ([] : List Keyword).length + (if ([] : List Keyword).isEmpty then 0 else 1) < 30)) = true := by
      rw [star_few hc]
      simp only [Bool.true_and, Bool.and_eq_true, decide_eq_true_eq]
      exact ⟨rfl, by simp only [List.length_nil, List.isEmpty_nil, if_true]; omega⟩
    refine (pe_bm s1 s2 s3 mt he ha (ok_base h _ _) few hl (ok_star o1 _ _) (o2 cpos X.env)).imp fun σ H Q ⟨env, h, Qp, Xp, re, hr, q, l, lx⟩ => ⟨env, h, _, Xp, re, hr, q, fun x h1 v H1 q1 e1 r1 z1 => ?_, lx⟩
    refine ⟨o.hK ▸ ty_rel z1 r1 q1.1, env, h1, _, Xp, re.ext e1, z1, q1.2, fun xs h2 vs H2 q2 e2 r2 z2 => ?_, lx.on e1⟩
    exact ⟨x, xs, h2, Qp, r1.ext e2, r2, z2, q2, l.on (e1.trans e2)⟩
theorem p_isi (o : Cok P F C c lv X sc ow W) {t : TyK} {eo : E} {e : Expr} {p p2 pos : Pos} (n : ∀ k, t ≠ .own k) (hg : glB sc "isinstance" = true) (hb : ("isinstance" : Str) ∈ c.bls) (hg2 : glB sc (Str.ofString (tyS t)) = true) (hb2 : Str.ofString (tyS t) ∈ c.bls) (h : okE e = true)
    (he : PE X e (LE P W (evE P.G C eo))) : PE X (.Call (.Name "isinstance" p) [e, .Name (Str.ofString (tyS t)) p2] [] pos) (LE P W (evE P.G C (.isi eo t))) := by
  have bt : bootBuiltins (Str.ofString (tyS t)) = some (.type (tyS t)) ∧ Str.ofString (tyS t) ≠ "__name__" ∧ (Str.ofString (tyS t) == ("__debug__" : Str)) = false := by
    cases t with
    | own k => exact absurd rfl (n k)
    | _ => clear n hg2 hb2; decide +kernel
  have hT : PE X (.Name (Str.ofString (tyS t)) p2) (tC (.ty (tyS t))) := pe_bltn (o.glx hg2) (o.bnone hb2) bt.1 rfl bt.2.1 bt.2.2
  refine (pe_callB (call_isiP o.hK t) (o.glx hg) (o.bnone hb) (by decide +kernel) (pa_cons he (pa_cons hT pa_nil) (ok_star h _ _)) (by decide) (by decide) (ok_star h _ _)).imp ?_
  intro σ H Q ⟨env, h, Qp, Xp, re, hr, q, l, lx⟩
  refine ⟨env, h, _, Xp, re, hr, q, fun x h1 v H1 q1 e1 r1 z1 => ?_, lx⟩
  exact ⟨x, h1, Qp, v, rfl, r1, z1, n, q1, l.on e1⟩
theorem p_isx (o : Cok P F C c lv X sc ow W) {k : Option Nat} {eo : E} {e : Expr} {y : Str} {p p2 pos : Pos} (hg : glB sc "isinstance" = true) (hb : ("isinstance" : Str) ∈ c.bls) (hy : isxN c sc k (.Name y p2) = true) (h : okE e = true)
    (he : PE X e (LE P W (evE P.G C eo))) : PE X (.Call (.Name "isinstance" p) [e, .Name y p2] [] pos) (LE P W (evE P.G C (.isx eo k))) := by
  have run : ∀ (c : V) (cv : Value) (hT : PE X (.Name y p2) (tC c)) (hc : ClsV c cv) (hz : (∀ c, k = some c → P.G.isz c = true) → PySem.W.kitOne X.K (.type "NoneType") cv = some false) (hs : ∀ c, k = some c → P.G.isz c = true → PySem.W.kitOne X.K (.type "str") cv = some false)
      (hi : ∀ d b, (match k with | none => P.G.isv d | some c => P.G.isa d c) = some b → PySem.W.kitOne X.K (.ref (P.cls d)) cv = some b),
      PE X (.Call (.Name "isinstance" p) [e, .Name y p2] [] pos) (LE P W (evE P.G C (.isx eo k))) := by
    intro cc cv hT hc hz hs hi
    have R : CallR X (.builtin "isinstance") (fun xs H Q => ∃ x v h1 Qp, xs = [v, cc] ∧ RP P.K H x v ∧ HR P h1 H ∧ isxV P.G x h1 k (fun b => Qp (.bl b) h1) ∧ Lft P H Qp Q) := by
      intro pins s σ H xs us Q I ru ⟨x, v, h1, Qp, ex, r, z, q, l⟩
      subst ex
      have fin : ∀ {t : Value} {b : Bool}, TyX X.K H v t → PySem.W.kitOne X.K t cv = some b → Qp (.bl b) h1 → wpAny (model X.prog X.w) X.A (call (.builtin "isinstance") us) (EP X pins σ Q) X.xe s := fun {t b} ty kk qq =>
        call_isi pins s σ H _ us Q I ru ⟨v, _, _, _, b, rfl, hc, ty, kk, l.here qq (.bl _) z⟩
      cases r with
      | non =>
        refine fin (b := false) (.base .non) (hz fun c e => ?_) ?_
        · subst e
          exact q.1
        · cases k with
          | none => exact q
          | some c => exact q.2
      | str y =>
        cases k with
        | none => exact q.elim
        | some c => exact fin (b := false) (.base (.str _)) (hs c rfl q.1) q.2
      | loc a =>
        simp only [isxV] at q
        split at q
        · rename_i d ed
          obtain ⟨q0, q⟩ := q
          split at q
          · rename_i b eb
            have g : H a = some (ExV (.ref (P.cls d)) a) := z a _ ed
            obtain ⟨u1, u2, rfl, r1, r2⟩ := vals2 ru
            obtain rfl : u1 = Value.ref a := r1
            have e2 := hc.eq r2
            subst e2
            have EC := o.wl.wx.xc d q0
            rw [← o.hK] at EC
            exact call_isX EC I g (hi _ _ eb) fun tk => ⟨.bl b, H, I.tok tk, rfl, l.here q (.bl _) z⟩
          · exact q.elim
        · rename_i d fs ed
          obtain ⟨q0, q⟩ := q
          split at q
          · rename_i b eb
            obtain ⟨dx, gs, g, _⟩ := z a _ ed
            have IC := o.wl.wx.ic d q0
            rw [← o.hK] at IC
            refine fin (.base (.ins g IC.cl IC.ha IC.hn IC.ht IC.hm)) (hi d b ?_) q
            cases k with
            | none => cases eb
            | some c => exact eb
          · exact q.elim
        · exact q.elim
      | _ => exact q.elim
    refine (pe_callB R (o.glx hg) (o.bnone hb) (by decide +kernel) (pa_cons he (pa_cons hT pa_nil) (ok_star h _ _)) (by decide) (by decide) (ok_star h _ _)).imp ?_
    intro σ H Q ⟨env, h, Qp, Xp, re, hr, q, l, lx⟩
    exact ⟨env, h, _, Xp, re, hr, q, fun x h1 v H1 q1 e1 r1 z1 => ⟨x, v, h1, Qp, rfl, r1, z1, q1, l.on e1⟩, lx⟩
  cases k with
  | some k =>
    simp only [isxN, Bool.and_eq_true] at hy
    obtain ⟨⟨h1, h2⟩, h3⟩ := hy
    have m1 := o.wl.mc k y (opt_get h1)
    refine run (.ref (P.cls k)) (.ref (P.cls k)) (pe_glob (o.glx h2) m1 rfl (dun_of h3).1) (.own _) (fun e => ?_) (fun c e1 e2 => ?_) fun d b e => ?_
    · rw [o.hK]
      exact (o.wl.wx.isz k (e k rfl)).1
    · cases e1
      rw [o.hK]
      exact (o.wl.wx.isz k e2).2
    · rw [o.hK]
      exact o.wl.wx.isa d k b e
  | none =>
    simp only [isxN, Bool.and_eq_true, decide_eq_true_eq] at hy
    obtain ⟨⟨h1, h2⟩, h3⟩ := hy
    subst h1
    refine run (.ty "ValueError") (.type "ValueError") (pe_bltn (o.glx h2) (o.bnone h3) (by decide +kernel) rfl (by decide) (by decide)) (.ty _) (fun e => ?_) (fun c e => by cases e) fun d b e => ?_
    · exact kit_ty (by decide +kernel)
    · rw [o.hK]
      exact o.wl.wx.isv d b e
theorem p_make0 (o : Cok P F C c lv X sc ow W) {x : Str} {k : Nat} {p pos : Pos} (h0 : P.G.in0 k = true) (hf : c.clN k = some x) (hg : glB sc x = true) (hd : dunB x = true) : PE X (.Call (.Name x p) [] [] pos) (LE P W (evE P.G C (.make0 k))) := by
  have m1 := o.wl.mc k x hf
  obtain ⟨f1, f2, f3⟩ := o.wl.wx.in0 k h0
  rw [← o.hK] at f1 f2 f3
  refine ⟨fun pins s σ H Q I q => ?_⟩
  refine wpAny_Call_Name_kw (ld_glob I (o.glx hg) m1 ?_ (dun_of hd).1)
  obtain ⟨env, h, Qp, Xp, re, z, q, l, lx⟩ := q
  refine PySem.W.callWith_K0 I.kIn f3 (run_make0 f1 f2 I ?_)
  have n1 : H s.heap.objs.size = none := I.hok.fresh (Nat.le_refl _)
  have n2 : H (s.heap.objs.size + 1) = none := I.hok.fresh (Nat.le_succ _)
  have ne : s.heap.objs.size ≠ s.heap.objs.size + 1 := Nat.ne_of_lt (Nat.lt_succ_self _)
  have n3 : upd H s.heap.objs.size (.own (s.heap.objs.size + 1)) (s.heap.objs.size + 1) = none := by rw [upd_ne ne.symm]; exact n2
  have x1 : Ext H (upd H s.heap.objs.size (.own (s.heap.objs.size + 1))) := .new n1
  have x2 : Ext (upd H s.heap.objs.size (.own (s.heap.objs.size + 1))) (upd (upd H s.heap.objs.size (.own (s.heap.objs.size + 1))) (s.heap.objs.size + 1) (.ins (P.cls k) s.heap.objs.size [])) := .new n3
  have z2 : HR P (pup h (s.heap.objs.size + 1) (.ins k [])) (upd (upd H s.heap.objs.size (.own (s.heap.objs.size + 1))) (s.heap.objs.size + 1) (.ins (P.cls k) s.heap.objs.size [])) :=
    (z.keep n1).upd x2 ⟨s.heap.objs.size, [], upd_same, .nil⟩
  exact l _ _ _ _ (q.2 _ (z.free n2)) (x1.trans x2) (.loc _) z2
theorem p_rev (o : Cok P F C c lv X sc ow W) {e : Expr} {eo : E} {k : Nat} {p1 p2 p3 pos : Pos} (he : PE X e (LE P W (evE P.G C eo))) : PE X (.Subscript e (.Slice none none (some (.UnaryOp .USub (.Constant (.int 1) k p1) p2)) p3) pos) (LE P W (evE P.G C (.rev eo))) := by
  refine (pe_revL he).imp ?_
  intro σ H Q ⟨env, h, Qp, Xp, re, hr, q, l, lx⟩
  refine ⟨env, h, _, Xp, re, hr, q, fun x h1 v H1 q1 e1 r1 z1 => ?_, lx⟩
  rw [o.hK]
  cases r1 with
  | fl t r => exact ⟨_, _, rfl, t.sq, fun p n => l _ _ _ _ (q1 p (z1.free n)) (e1.trans (.new n)) (.loc p) (rlst_new z1 n (rps_rev r))⟩
  | loc a =>
    simp only [listK] at q1
    split at q1
    · rename_i xs ex
      obtain ⟨vs, g, r⟩ := z1.lst ex
      exact ⟨_, _, rfl, SqL.of g, fun p n => l _ _ _ _ (q1 p (z1.free n)) (e1.trans (.new n)) (.loc p) (rlst_new z1 n (rps_rev r))⟩
    · exact q1.elim
  | _ => exact q1.elim
theorem kp_rel {K : PySem.W.Frag} {H : Hp} (k : Key) : RP K H (kP k) (kV k) := by
  cases k with
  | inl i => exact .int i
  | inr s => exact .str s
theorem pairs_lie {K : PySem.W.Frag} {H H' : Hp} (ex : Ext H H') : ∀ {ts : List Addr} {ws : List (Key × V)} {kvs : List (Key × PV)}, Paired (fun (t : Addr) (q : Key × V) => H' t = some (.tup [kV q.1, q.2])) ts ws → RK K H kvs ws →
    RPs K H' (kvs.map fun kv => PV.tup [kP kv.1, kv.2]) (ts.map V.ref)
  | _, _, _, .nil, .nil => .nil
  | _, _, (k, x) :: _, .cons a1 a2, .cons b1 b2 => by
    obtain ⟨ek, rk⟩ := b1
    refine .cons (.tup (.inl a1) ?_) (pairs_lie ex a2 b2)
    rw [← ek]
    exact .cons (kp_rel k) (.cons (rk.ext ex) .nil)
theorem p_listItems (o : Cok P F C c lv X sc ow W) {eo : E} {e : Expr} {p apos cpos pos : Pos} (hg : glB sc "list" = true) (hb : ("list" : Str) ∈ c.bls) (h : okE e = true) (hl : (apos.endLine == cpos.line) = true) (he : PE X e (LE P W (evE P.G C eo))) :
    PE X (.Call (.Name "list" p) [.Call (.Attribute e "items" apos) [] [] cpos] [] pos) (LE P W (evE P.G C (.listItems eo))) := by
  refine (LiI.pe_listItems o.calm he (o.glx hg) (o.bnone hb) (by decide +kernel) (ok_base h _ _) hl).imp fun σ H Q ⟨env, h, Qp, Xp, re, hr, q, l, lx⟩ => ⟨env, h, _, Xp, re, hr, q, fun x h1 v H1 q1 e1 r1 z1 => ?_, lx⟩
  cases r1 with
  | loc d =>
    simp only at q1
    split at q1
    · rename_i kvs ed
      obtain ⟨ws, g, rr⟩ := z1 d _ ed
      refine ⟨d, ws, rfl, g, fun H' p' ts same np nt nn hp hts => ?_⟩
      have ex : Ext H1 H' := ⟨fun a xs e => same _ _ e, fun a o u e => same _ _ e, fun t => LamX.Tabs.ext t fun b o e => same _ _ e, fun a q e => same _ _ e⟩
      have z2 : HR P h1 H' := ⟨fun a c e => by
        obtain ⟨u, eu⟩ := (z1 a c e).there
        exact (z1 a c e).ext ex (by rw [eu, same _ _ eu]), ex.tb z1.tb⟩
      refine l _ _ _ _ (q1 p' (z1.free np)) (e1.trans ex) (.loc p') ⟨fun a cc e => ?_, ex.tb z1.tb⟩
      by_cases ea : a = p'
      · subst ea
        rw [pup_same] at e
        cases e
        refine ⟨ts.map V.ref, hp, ?_⟩
        exact pairs_lie ex hts rr
      · rw [pup_ne ea] at e
        exact z2 a cc e
    · exact q1.elim
  | _ => exact q1.elim
end
end Mir

set_option autoImplicit false
namespace Mir
open PySem L2 PySem.Spec
open PyProof.Rows hiding St
variable [Tbl]

theorem LAt.ext {K : PySem.W.Frag} {H H' : Hp} {a : Addr} {vs : List V} (x : Ext H H') (t : LAt K H a vs) : LAt K H' a vs := t.elim (fun ⟨o, z⟩ => .inl ⟨o, x.fz _ _ _ z⟩) .inr
theorem TAt.ext {K : PySem.W.Frag} {H H' : Hp} {a : Addr} {vs : List V} (x : Ext H H') (t : TAt K H a vs) : TAt K H' a vs := t.elim (fun z => .inl (x.tp _ _ z)) .inr
section
variable {P : Pm} {H1 : Hp}
theorem j_lst {a : Addr} {xs : List PV} : JOk P H1 (Itl P.K a) xs fun h' => h' a = some (.lst xs) where
  go := fun i h' H' x z st hi => by
    obtain ⟨vs, g, r⟩ := z.lst st
    obtain ⟨v, e, _⟩ := r.get (List.getElem?_eq_getElem hi)
    exact ⟨vs, v, SqL.of g, e⟩
  stop := fun h' H' x z st => by
    obtain ⟨vs, g, r⟩ := z.lst st
    exact ⟨vs, SqL.of g, Nat.le_of_eq r.length.symm⟩
  yld := fun i h' H' y H'' x z st hi q => by
    obtain ⟨e, q⟩ := q
    subst e
    obtain ⟨vs, g, r⟩ := z.lst st
    obtain ⟨pv, e, rr⟩ := r.getR (q vs (SqL.of g))
    exact ⟨.refl _, z, pv, e, rr⟩
theorem j_fl {a : Addr} {xs : List PV} {vs : List V} (t : LAt P.K H1 a vs) (r : RPs P.K H1 xs vs) : JOk P H1 (Itl P.K a) xs fun _ => True where
  go := fun i h' H' x z st hi => by
    obtain ⟨v, e, _⟩ := r.get (List.getElem?_eq_getElem hi)
    exact ⟨vs, v, (t.ext x).sq, e⟩
  stop := fun h' H' x z st => ⟨vs, (t.ext x).sq, Nat.le_of_eq r.length.symm⟩
  yld := fun i h' H' y H'' x z st hi q => by
    obtain ⟨e, q⟩ := q
    subst e
    obtain ⟨pv, e, rr⟩ := r.getR (q vs (t.ext x).sq)
    exact ⟨.refl _, z, pv, e, rr.ext x⟩
theorem j_tup {a : Addr} {xs : List PV} {vs : List V} (t : TAt P.K H1 a vs) (r : RPs P.K H1 xs vs) : JOk P H1 (Itt P.K a) xs fun _ => True where
  go := fun i h' H' x z st hi => by
    obtain ⟨v, e, _⟩ := r.get (List.getElem?_eq_getElem hi)
    exact ⟨vs, v, (t.ext x).sq, e⟩
  stop := fun h' H' x z st => ⟨vs, (t.ext x).sq, Nat.le_of_eq r.length.symm⟩
  yld := fun i h' H' y H'' x z st hi q => by
    obtain ⟨e, q⟩ := q
    subst e
    obtain ⟨pv, e, rr⟩ := r.getR (q vs (t.ext x).sq)
    exact ⟨.refl _, z, pv, e, rr.ext x⟩
theorem signs_len (s : Str) : (signs s).length = s.cps.size := by simp [signs]
theorem j_str {s : Str} : JOk P H1 (Its s) (signs s) fun _ => True where
  go := fun i h' H' x z st hi => by rw [signs_len] at hi; exact hi
  stop := fun h' H' x z st => by rw [signs_len]; exact Nat.le_refl _
  yld := fun i h' H' y H'' x z st hi q => by
    obtain ⟨e, c, ec, ey⟩ := q
    subst e ey
    refine ⟨.refl _, z, .str ⟨#[c]⟩, ?_, .str _⟩
    simp only [signs, List.getElem?_map, Array.getElem?_toList, ec, Option.map_some]
theorem j_rng {lo : Int} {n : Nat} : JOk P H1 (Itr lo n) ((List.range n).map fun i => .int (lo + (i : Nat))) fun _ => True where
  go := fun i h' H' x z st hi => by show i < n; simpa using hi
  stop := fun h' H' x z st => by simp [Itr]
  yld := fun i h' H' y H'' x z st hi q => by
    obtain ⟨e, ey⟩ := q
    subst e ey
    refine ⟨.refl _, z, .int (lo + (i : Nat)), ?_, .int _⟩
    simp only [List.length_map, List.length_range] at hi
    simp [List.getElem?_map, List.getElem?_range hi]
theorem j_rngC {lo c : Int} {n : Nat} : JOk P H1 (Itc lo c n) ((List.range n).map fun i => .int (lo + (i : Nat) * c)) fun _ => True where
  go := fun i h' H' x z st hi => by show i < n; simpa using hi
  stop := fun h' H' x z st => by simp [Itc]
  yld := fun i h' H' y H'' x z st hi q => by
    obtain ⟨e, ey⟩ := q
    subst e ey
    refine ⟨.refl _, z, .int (lo + (i : Nat) * c), ?_, .int _⟩
    simp only [List.length_map, List.length_range] at hi
    simp [List.getElem?_map, List.getElem?_range hi]
theorem enum_at {xs : List PV} {i : Nat} {x : PV} (e : xs[i]? = some x) : (xs.zipIdx.map fun p => PV.tup [.int (p.2 : Nat), p.1])[i]? = some (.tup [.int (i : Nat), x]) := by
  simp [List.getElem?_map, List.getElem?_zipIdx, e]
theorem enum_len {xs : List PV} : (xs.zipIdx.map fun p => PV.tup [.int (p.2 : Nat), p.1]).length = xs.length := by simp
theorem enum_step {K : PySem.W.Frag} {H' : Hp} {T : Addr} {i : Nat} {x : V} {pv : PV} (n : H' T = none) (r : RP K H' pv x) : RP K (upd H' T (.tup [.int (i : Nat), x])) (.tup [.int (i : Nat), pv]) (.ref T) :=
  .tup (.inl upd_same) (.cons (.int _) (.cons (r.ext (.new n)) .nil))
theorem j_enum {a : Addr} {xs : List PV} : JOk P H1 (Ite P.K a) (xs.zipIdx.map fun p => .tup [.int (p.2 : Nat), p.1]) fun h' => h' a = some (.lst xs) where
  go := fun i h' H' x z st hi => by
    rw [enum_len] at hi
    obtain ⟨vs, g, r⟩ := z.lst st
    obtain ⟨v, e, _⟩ := r.get (List.getElem?_eq_getElem hi)
    exact ⟨vs, v, SqL.of g, e⟩
  stop := fun h' H' x z st => by
    rw [enum_len]
    obtain ⟨vs, g, r⟩ := z.lst st
    exact ⟨vs, SqL.of g, Nat.le_of_eq r.length.symm⟩
  yld := fun i h' H' y H'' x z st hi q => by
    obtain ⟨T, v, ey, n, eh, q⟩ := q
    subst ey eh
    obtain ⟨vs, g, r⟩ := z.lst st
    obtain ⟨pv, e, rr⟩ := r.getR (q vs (SqL.of g))
    exact ⟨.new n, z.keep n, _, enum_at e, enum_step n rr⟩
theorem j_enumF {a : Addr} {xs : List PV} {vs : List V} (t : LAt P.K H1 a vs) (r : RPs P.K H1 xs vs) : JOk P H1 (Ite P.K a) (xs.zipIdx.map fun p => .tup [.int (p.2 : Nat), p.1]) fun _ => True where
  go := fun i h' H' x z st hi => by
    rw [enum_len] at hi
    obtain ⟨v, e, _⟩ := r.get (List.getElem?_eq_getElem hi)
    exact ⟨vs, v, (t.ext x).sq, e⟩
  stop := fun h' H' x z st => by
    rw [enum_len]
    exact ⟨vs, (t.ext x).sq, Nat.le_of_eq r.length.symm⟩
  yld := fun i h' H' y H'' x z st hi q => by
    obtain ⟨T, v, ey, n, eh, q⟩ := q
    subst ey eh
    obtain ⟨pv, e, rr⟩ := r.getR (q vs (t.ext x).sq)
    exact ⟨.new n, z.keep n, _, enum_at e, enum_step n (rr.ext x)⟩
theorem rk_at {K : PySem.W.Frag} {H : Hp} {kvs : List (Key × PV)} {ws : List (Key × V)} (r : RK K H kvs ws) {i : Nat} {k : Key} {v : V} (e : ws[i]? = some (k, v)) : ∃ x, kvs[i]? = some (k, x) ∧ RP K H x v := by
  obtain ⟨⟨k', x⟩, q, a, b⟩ := paired_at r e
  simp only at a b
  subst a
  exact ⟨x, q, b⟩
theorem j_keys {d : Addr} {o : Obj} {kvs : List (Key × PV)} {ws : List (Key × V)} (g : H1 d = some (.frz o (.dK ws))) (r : RK P.K H1 kvs ws) : JOk P H1 (Itk d o ws) (kvs.map fun kv => kP kv.1) fun _ => True where
  go := fun i h' H' x z st hi => ⟨x.fz _ _ _ g, by rw [← paired_len r]; simpa using hi⟩
  stop := fun h' H' x z st => ⟨x.fz _ _ _ g, by rw [← paired_len r]; simp⟩
  yld := fun i h' H' y H'' x z st hi q => by
    obtain ⟨e, k, v, ew, ey⟩ := q
    subst e ey
    obtain ⟨pv, e, rr⟩ := rk_at r ew
    refine ⟨.refl _, z, kP k, ?_, kp_rel k⟩
    simp [List.getElem?_map, e]
theorem j_items {d : Addr} {o : Obj} {kvs : List (Key × PV)} {ws : List (Key × V)} (g : H1 d = some (.frz o (.dK ws))) (r : RK P.K H1 kvs ws) : JOk P H1 (Iti d o ws) (kvs.map fun kv => .tup [kP kv.1, kv.2]) fun _ => True where
  go := fun i h' H' x z st hi => ⟨x.fz _ _ _ g, by rw [← paired_len r]; simpa using hi⟩
  stop := fun h' H' x z st => ⟨x.fz _ _ _ g, by rw [← paired_len r]; simp⟩
  yld := fun i h' H' y H'' x z st hi q => by
    obtain ⟨T, k, v, ew, ey, n, eh⟩ := q
    subst ey eh
    obtain ⟨pv, e, rr⟩ := rk_at r ew
    refine ⟨.new n, z.keep n, .tup [kP k, pv], ?_, .tup (.inl upd_same) (.cons (kp_rel k) (.cons ((rr.ext x).ext (.new n)) .nil))⟩
    simp [List.getElem?_map, e]
end

abbrev EvI := PEnv → PH → (List PV → (PH → Prop) → PH → Prop) → XE → Prop
section
variable {P : Pm} {F : FT} {C : CallS} {c : Ct} {lv : Nat} {X : Cx} {sc ow : Scope} {W : WX}
theorem p_iex (o : Cok P F C c lv X sc ow W) {tg e : Expr} {ea : EvE} (he : PE X e (LE P W ea)) : PI X tg e (LI P W fun env h K X => ea env h (fun v h1 => seqK v h1 fun xs still => K xs still h1) X) := by
  refine (pi_any he).imp fun σ H R ⟨env, h, Kp, Xp, re, hr, q, l, lx⟩ => ⟨env, h, _, Xp, re, hr, q, fun x h1 v H1 q1 e1 r1 z1 => ?_, lx⟩
  rw [o.hK]
  cases r1 with
  | tup t r => exact .inr (.inl ⟨_, rfl, ⟨_, t.sq⟩, l _ _ _ _ _ q1 e1 z1 (j_tup t r)⟩)
  | fl t r => exact .inl ⟨_, rfl, ⟨_, t.sq⟩, l _ _ _ _ _ q1 e1 z1 (j_fl t r)⟩
  | str s => exact .inr (.inr ⟨s, rfl, l _ _ _ _ _ q1 e1 z1 j_str⟩)
  | loc a =>
    simp only [seqK] at q1
    split at q1
    · rename_i xs e
      obtain ⟨vs, g, r⟩ := z1.lst e
      exact .inl ⟨a, rfl, ⟨vs, SqL.of g⟩, l _ _ _ _ _ q1 e1 z1 j_lst⟩
    · exact q1.elim
  | _ => exact q1.elim
theorem p_irng1 (o : Cok P F C c lv X sc ow W) {tg a : Expr} {p pos : Pos} {ea : EvE} (hg : glB sc "range" = true) (hb : ("range" : Str) ∈ c.bls) (ok : okE a = true) (ha : PE X a (LE P W ea)) :
    PI X tg (.Call (.Name "range" p) [a] [] pos) (LI P W fun env h K X => ea env h (fun v h1 => match v with
      | .int j => -(2 ^ 62) ≤ j ∧ j < 2 ^ 62 ∧ K ((List.range j.toNat).map fun i => .int ((0 : Int) + (i : Nat))) (fun _ => True) h1
      | _ => False) X) := by
  refine (pi_range1 (o.glx hg) (o.bnone hb) (pa_cons ha pa_nil (ok_star ok _ _)) (ok_star ok _ _)).imp fun σ H R ⟨env, h, Kp, Xp, re, hr, q, l, lx⟩ => ⟨env, h, _, Xp, re, hr, q, fun x h1 v H1 q1 e1 r1 z1 => ?_, lx⟩
  cases r1 with
  | int j => exact ⟨j, rfl, q1.1, q1.2.1, l _ _ _ _ _ q1.2.2 e1 z1 j_rng⟩
  | _ => exact q1.elim
theorem p_irng2 (o : Cok P F C c lv X sc ow W) {tg a b : Expr} {p pos : Pos} {ea eb : EvE} (hg : glB sc "range" = true) (hb : ("range" : Str) ∈ c.bls) (ok : okE a = true) (ok2 : okE b = true) (ha : PE X a (LE P W ea)) (hb2 : PE X b (LE P W eb)) :
    PI X tg (.Call (.Name "range" p) [a, b] [] pos) (LI P W fun env h K X => ea env h (fun v h1 => eb env h1 (fun u h2 => match v, u with
      | .int i, .int j => (-(2 ^ 62) ≤ i ∧ i < 2 ^ 62 ∧ -(2 ^ 62) ≤ j ∧ j < 2 ^ 62) ∧ K ((List.range (j - i).toNat).map fun k => .int (i + (k : Nat))) (fun _ => True) h2
      | _, _ => False) X) X) := by
  refine (pi_range2 (o.glx hg) (o.bnone hb) (pa_cons ha (pa_cons hb2 pa_nil (ok_star ok2 _ _)) (ok_star ok _ _)) (by rw [ok_star ok, ok_star ok2]; rfl) (ok_star ok2 _ _)).imp fun σ H R ⟨env, h, Kp, Xp, re, hr, q, l, lx⟩ => ⟨env, h, _, Xp, re, hr, q, fun x h1 v H1 q1 e1 r1 z1 => ?_, lx⟩
  refine ⟨env, h1, _, Xp, re.ext e1, z1, q1, fun y h2 w H2 q2 e2 r2 z2 => ?_, lx.on e1⟩
  cases r1 with
  | int i =>
    cases r2 with
    | int j => exact ⟨i, j, rfl, q2.1, l _ _ _ _ _ q2.2 (e1.trans e2) z2 j_rng⟩
    | _ => exact q2.elim
  | _ => cases r2 <;> exact q2.elim
theorem p_irng3 (o : Cok P F C c lv X sc ow W) {tg a b : Expr} {s : Int} {p pos kp : Pos} {kk : Nat} {ea eb : EvE} (hg : glB sc "range" = true) (hb : ("range" : Str) ∈ c.bls) (ok : okE a = true) (ok2 : okE b = true) (ha : PE X a (LE P W ea)) (hb2 : PE X b (LE P W eb)) :
    PI X tg (.Call (.Name "range" p) [a, b, .Constant (.int s) kk kp] [] pos) (LI P W fun env h K X => ea env h (fun v h1 => eb env h1 (fun u h2 => match v, u with
      | .int i, .int j => ∃ n, RgC i j s n ∧ K ((List.range n).map fun k => .int (i + (k : Nat) * s)) (fun _ => True) h2
      | _, _ => False) X) X) := by
  have hc : PE X (.Constant (.int s) kk kp) (tC (.int s)) := pe_int
  refine (pi_range3 (o.glx hg) (o.bnone hb) (pa_cons ha (pa_cons hb2 (pa_cons hc pa_nil (ok_star (by rfl) _ _)) (ok_star ok2 _ _)) (ok_star ok _ _)) (ok_star ok _ _) (by rw [ok_star ok2]; rfl)).imp fun σ H R ⟨env, h, Kp, Xp, re, hr, q, l, lx⟩ => ⟨env, h, _, Xp, re, hr, q, fun x h1 v H1 q1 e1 r1 z1 => ?_, lx⟩
  refine ⟨env, h1, _, Xp, re.ext e1, z1, q1, fun y h2 w H2 q2 e2 r2 z2 => ?_, lx.on e1⟩
  cases r1 with
  | int i =>
    cases r2 with
    | int j =>
      obtain ⟨n, g, q2⟩ := q2
      exact ⟨i, j, s, n, rfl, g, l _ _ _ _ _ q2 (e1.trans e2) z2 j_rngC⟩
    | _ => exact q2.elim
  | _ => cases r2 <;> exact q2.elim
theorem p_ienum (o : Cok P F C c lv X sc ow W) {a : Expr} {elts : List Expr} {kk : Nat} {tpos p pos : Pos} {ea : EvE} (hg : glB sc "enumerate" = true) (hb : ("enumerate" : Str) ∈ c.bls) (ok : okE a = true) (ha : PE X a (LE P W ea)) :
    PI X (.Tuple elts kk tpos) (.Call (.Name "enumerate" p) [a] [] pos) (LI P W fun env h K X => ea env h (fun v h1 => match v with
      | .fl xs => K (xs.zipIdx.map fun p => .tup [.int (p.2 : Nat), p.1]) (fun _ => True) h1
      | .loc a => match h1 a with
        | some (.lst xs) => K (xs.zipIdx.map fun p => .tup [.int (p.2 : Nat), p.1]) (fun h' => h' a = some (.lst xs)) h1
        | _ => False
      | _ => False) X) := by
  refine (pi_enum (o.glx hg) (o.bnone hb) (pa_cons ha pa_nil (ok_star ok _ _)) (ok_star ok _ _)).imp fun σ H R ⟨env, h, Kp, Xp, re, hr, q, l, lx⟩ => ⟨env, h, _, Xp, re, hr, q, fun x h1 v H1 q1 e1 r1 z1 => ?_, lx⟩
  rw [o.hK]
  cases r1 with
  | fl t r => exact ⟨_, _, rfl, t.sq, l _ _ _ _ _ q1 e1 z1 (j_enumF t r)⟩
  | loc a =>
    simp only at q1
    split at q1
    · rename_i xs e
      obtain ⟨vs, g, r⟩ := z1.lst e
      exact ⟨_, _, rfl, SqL.of g, l _ _ _ _ _ q1 e1 z1 j_enum⟩
    · exact q1.elim
  | _ => exact q1.elim
/-! ### targets -/
theorem Off.refl (sl : List Nat) (σ : St) : Off sl σ σ := ⟨rfl, fun _ _ => rfl⟩
theorem Off.trans {a b : List Nat} {σ τ υ : St} (x : Off a σ τ) (y : Off b τ υ) : Off (a ++ b) σ υ :=
  ⟨y.1.trans x.1, fun i n => (y.2 i fun z => n (List.mem_append_right _ z)).trans (x.2 i fun z => n (List.mem_append_left _ z))⟩
theorem wipe_in {σ : St} {i : Nat} : ∀ {vs : List Nat}, i ∈ vs → (wipe σ vs)[i]? = if i < σ.length then some none else none
  | v :: vs, h => by
    show ((wipe σ vs).set v none)[i]? = _
    by_cases e : i = v
    · subst e
      rw [List.getElem?_set]
      simp [wipe_length]
    · have h' : i ∈ vs := by rcases List.mem_cons.mp h with z | z; exact absurd z e; exact z
      rw [List.getElem?_set_ne (Ne.symm e)]
      exact wipe_in h'
theorem wipe_off {sl : List Nat} {σ σ' : St} (x : Off sl (wipe σ sl) σ') : wipe σ' sl = wipe σ sl := by
  have l : σ'.length = σ.length := by rw [x.1, wipe_length]
  apply List.ext_getElem?
  intro i
  by_cases h : i ∈ sl
  · rw [wipe_in h, wipe_in h, l]
  · rw [wipe_out h, x.2 i h]
def tsLen : Ts → Nat
  | .nil => 0
  | .cons _ ts => tsLen ts + 1
mutual
theorem setT_ex : ∀ (t : T) {v : PV} {env : PEnv} {K : PEnv → Prop}, setT t v env K → ∃ e, K e
  | .nm i, v, env, K, q => ⟨_, q⟩
  | .tup ts, v, env, K, q => by
    cases v with
    | tup vs => exact (setTs_ex ts q).2
    | _ => exact q.elim
theorem setTs_ex : ∀ (ts : Ts) {vs : List PV} {env : PEnv} {K : PEnv → Prop}, setTs ts vs env K → vs.length = tsLen ts ∧ ∃ e, K e
  | .nil, [], env, K, q => ⟨rfl, _, q⟩
  | .nil, _ :: _, env, K, q => q.elim
  | .cons _ _, [], env, K, q => q.elim
  | .cons t ts, v :: vs, env, K, q => by
    obtain ⟨e, q⟩ := setT_ex t (show setT t v env _ from q)
    obtain ⟨l, q⟩ := setTs_ex ts q
    exact ⟨by simp [tsLen, l], q⟩
end
theorem chkTs_len : ∀ (ts : Ts) (xs : List Expr), chkTs c ts sc ow xs = true → xs.length = tsLen ts
  | .nil, [], _ => rfl
  | .nil, _ :: _, h => absurd h Bool.false_ne_true
  | .cons _ _, [], h => absurd h Bool.false_ne_true
  | .cons t ts, x :: xs, h => by
    simp only [chkTs, Bool.and_eq_true] at h
    simp [tsLen, chkTs_len ts xs h.2]
mutual
theorem sT (o : Cok P F C c lv X sc ow W) : ∀ (t : T) (x : Expr), chkT c t sc ow x = true → PG X x (LG P (tSlots t) (setT t))
  | .nm i, x, h => by
    cases x with
    | Name x pos =>
      simp only [chkT, Bool.and_eq_true] at h
      have nd : X.N.Nodup := by rw [o.hN]; exact o.nd
      refine (pg_name (i := i) nd (by rw [o.hN]; exact at_get h.1.1) (by rw [o.hsc]; exact loc_of h.1.2) (by rw [o.hsc]; exact o.st x (loc_of h.2))).imp fun v σ H Q ⟨env, x, K, re, r, q, l⟩ => ?_
      refine l _ _ q (re.put r i) ⟨by simp, fun j n => ?_⟩
      have n' : i ≠ j := fun e => n (by simp [tSlots, e])
      rw [List.getElem?_set_ne n']
    | _ => exact absurd h Bool.false_ne_true
  | .tup ts, x, h => by
    cases x with
    | Tuple xs k pos =>
      have h : chkTs c ts sc ow xs = true := h
      obtain ⟨g, e1, e2⟩ := sTs o ts xs h
      refine (pg_tup o.calm g e1 e2).imp fun v σ H Q ⟨env, x, K, re, r, q, l⟩ => ?_
      cases x with
      | tup ys =>
        cases r with
        | tup t rs =>
          have q : setTs ts ys env K := q
          rw [o.hK]
          exact ⟨_, _, rfl, t.sq, by rw [← rs.length, (setTs_ex ts q).1, chkTs_len ts xs h], env, ys, K, re, rs, q, l⟩
      | _ => exact q.elim
    | _ => exact absurd h Bool.false_ne_true
theorem sTs (o : Cok P F C c lv X sc ow W) : ∀ (ts : Ts) (xs : List Expr), chkTs c ts sc ow xs = true → PGs X xs (LGs P (tsSlots ts) (setTs ts)) ∧ (assignEach xs X.env).length = xs.length ∧ (assignEach xs X.env).findIdx? (·.1) = none
  | .nil, [], h => ⟨⟨fun pins s σ H vs us Q I r ⟨env, x, K, re, rs, q, l⟩ => by
      cases x with
      | nil =>
        cases rs
        exact pgs_nil.run pins s σ H [] us Q I r ⟨rfl, l _ _ q re (.refl _ _)⟩
      | cons _ _ => exact q.elim⟩, rfl, rfl⟩
  | .nil, _ :: _, h => absurd h Bool.false_ne_true
  | .cons _ _, [], h => absurd h Bool.false_ne_true
  | .cons t ts, x :: xs, h => by
    simp only [chkTs, Bool.and_eq_true] at h
    have a := sT o t x h.1.2
    obtain ⟨b, e1, e2⟩ := sTs o ts xs h.2
    have es : assignEach (x :: xs) X.env = (false, assign x X.env) :: assignEach xs X.env := by
      have ok := h.1.1
      cases x <;> first | rfl | simp [okE] at ok
    have g := pgs_cons a b (by rw [es]; rfl)
    refine ⟨⟨fun pins s σ H vs us Q I r ⟨env, ys, K, re, rs, q, l⟩ => ?_⟩, by rw [es]; simp [e1], by rw [es, List.findIdx?_cons]; simp only [Bool.false_eq_true, if_false]; rw [e2]; rfl⟩
    cases ys with
    | nil => exact q.elim
    | cons y ys =>
      cases rs with
      | cons r1 r2 =>
        refine g.run pins s σ H _ us Q I r ⟨_, _, rfl, env, y, _, re, r1, q, fun env' σ' q' re' of => ?_⟩
        exact ⟨env', ys, K, re', r2, q', fun env2 σ2 q2 re2 of2 => l env2 σ2 q2 re2 (of.trans of2)⟩
end
end
end Mir

set_option autoImplicit false
namespace Mir
open PySem L2 PySem.Spec
open PyProof.Rows hiding St
variable [Tbl]

section
variable {P : Pm} {F : FT} {C : CallS} {c : Ct} {lv : Nat} {X : Cx} {sc ow : Scope} {W : WX}
/-- the context of a comprehension's block -/
theorem Cok.blk (o : Cok P F C c lv X sc ow W) (s : Shared) (H : Hp) (scope : Scope) (Cc : Addr) (cl : List (Str × Addr)) (fp : List Addr) :
    Cok P F C c lv (X.blk s H scope (compEnvC scope cl Cc X.env) fp) (relS scope sc) scope (fun _ _ _ _ => False) where
  wl := o.wl
  hK := o.hK
  hN := o.hN
  nd := o.nd
  hsc := by rw [← o.hsc]; rfl
  calm := o.calm
  st := fun x h => by
    rcases h with h | h
    · refine .inr ?_
      exact lookup_relS_keep (by decide) h
    · refine .inl ?_
      show (scope.names.lookup x == some .cell) = true
      rw [h]; rfl
  tk := takes0
  room := o.room
  lam := o.lam
theorem ltb_false {σ : St} {H : Hp} : LftX P (fun _ _ _ _ => False) σ H fun _ _ => False := fun _ _ _ q => q.elim
/-- the turns of a comprehension -/
theorem comp_go {Kn : PySem.W.Frag} {J : It} {xs : List PV} {still : PH → Prop} {t : T} {ifs : EvB} {elt : EvE} {env : PEnv} {σ : St} {Kf : PH → Prop} {H1 : Hp} {D : Addr} {h1 : PH} {ws : List Nat} {Qd : Hp → Prop} {g : TG} {tt : TT} {te : TE}
    (hg : g = LG P (tSlots t) (setT t)) (htt : tt = LB P (fun _ _ _ _ => False) ifs) (hte : te = LE P (fun _ _ _ _ => False) elt) (jk : JOk P H1 J xs still) (hw : ws = tSlots t) (re : RE P.K H1 env σ) (z1 : HR P h1 H1) (n : H1 D = none)
    (q : compGo still (setT t) (fun e g K => ifs e g K fun _ _ => False) (fun e g K => elt e g K fun _ _ => False) (wipeP env ws) D Kf xs (pup h1 D (.lst []))) (fin : ∀ h2 H2, Kf h2 → Ext (upd H1 D (.lst [])) H2 → HR P h2 H2 → Qd H2) :
    ∃ W : Nat → Nat → Hp → Prop, (∃ m, W 0 m (upd H1 D (.lst []))) ∧ ∀ i m H, W i m H →
      (J.stop i H ∧ Qd H) ∨ (J.go i H ∧ ∃ Nx : Hp → Prop, (∀ H', Nx H' → ∃ m', m' < m ∧ W (i + 1) m' H') ∧ ∀ x H', J.yld i H x H' → g x (wipe σ ws) H' fun σ2 H2 => wipe σ2 ws = wipe σ ws ∧ tt σ2 H2 fun b H3 =>
        if b = true then te σ2 H3 fun y H4 => ∃ acc, H4 D = some (.lst acc) ∧ acc.length < sizeLine ∧ Nx (upd H4 D (.lst (acc ++ [y]))) else Nx H3) := by
  subst hg htt hte
  have x0 : Ext H1 (upd H1 D (.lst [])) := .new n
  refine ⟨fun i m H' => ∃ h', m = xs.length - i ∧ i ≤ xs.length ∧ HR P h' H' ∧ Ext (upd H1 D (.lst [])) H' ∧ compGo still (setT t) (fun e g K => ifs e g K fun _ _ => False) (fun e g K => elt e g K fun _ _ => False) (wipeP env ws) D Kf (xs.drop i) h',
    ⟨_, _, rfl, Nat.zero_le _, rlst_new z1 n .nil, .refl _, by simpa using q⟩, ?_⟩
  rintro i m H' ⟨h', rfl, hi, z, x, q⟩
  have x' : Ext H1 H' := x0.trans x
  by_cases hlt : i < xs.length
  · have ed : xs.drop i = xs[i] :: xs.drop (i + 1) := List.drop_eq_getElem_cons hlt
    rw [ed] at q
    obtain ⟨st, q⟩ := q
    refine .inr ⟨jk.go i h' H' x' z st hlt, fun H2 => ∃ h2, HR P h2 H2 ∧ Ext (upd H1 D (.lst [])) H2 ∧ compGo still (setT t) (fun e g K => ifs e g K fun _ _ => False) (fun e g K => elt e g K fun _ _ => False) (wipeP env ws) D Kf (xs.drop (i + 1)) h2,
      fun H2 ⟨h2, z2, x2, q2⟩ => ⟨xs.length - (i + 1), by omega, h2, rfl, hlt, z2, x2, q2⟩, ?_⟩
    intro v H2 y
    obtain ⟨xe, z2, pv, epv, rv⟩ := jk.yld i h' H' v H2 x' z st hlt y
    rw [List.getElem?_eq_getElem hlt] at epv
    cases epv
    refine ⟨wipeP env ws, xs[i], _, (re.ext (x'.trans xe)).wipe ws, rv, q, fun env2 σ2 q2 re2 of => ⟨?_, ?_⟩⟩
    · subst hw
      have e1 : wipe (wipe σ (tSlots t)) (tSlots t) = wipe σ (tSlots t) := wipe_off (.refl _ _)
      have e2 : wipe σ2 (tSlots t) = wipe (wipe σ (tSlots t)) (tSlots t) := wipe_off (by rw [e1]; exact of)
      rw [e2, e1]
    · refine ⟨env2, h', _, _, re2, z2, q2, fun b h3 H3 q3 e3 z3 => ?_, ltb_false⟩
      cases b with
      | false => exact ⟨h3, z3, (x.trans xe).trans e3, q3⟩
      | true =>
        refine ⟨env2, h3, _, _, re2.ext e3, z3, q3, fun y h4 w H4 q4 e4 r4 z4 => ?_, ltb_false⟩
        simp only at q4 ⊢
        split at q4
        · rename_i acc ea
          obtain ⟨vs, g, r⟩ := z4.lst ea
          exact ⟨vs, g, by rw [← r.length]; exact q4.1, _, rlst_put z4 ea (r.append (.cons r4 .nil)), (((x.trans xe).trans e3).trans e4).trans (z4.chg ea _), q4.2⟩
        · exact q4.elim
  · have e : i = xs.length := by omega
    subst e
    rw [List.drop_length] at q
    exact .inl ⟨jk.stop h' H' x' z q.1, fin h' H' q.2 x z⟩
theorem p_comp (o : Cok P F C c lv X sc ow W) {el tg iter : Expr} {fs : List Expr} {scope : Scope} {pos : Pos} {elt : E} {t : T} {it : I} {ifs : Bs} {ws : List (Str × Nat)} (hb : blkC c.N sc scope ws = true) (hw : ws.map (·.2) = tSlots t)
    (hi : PI X tg iter (LI P W (evI P.G C it))) (hs : ∀ x, foldedSetIterable iter X.env x = Pure.pure x)
    (hg : ∀ {X' : Cx} {W' : WX}, Cok P F C c lv X' (relS scope sc) scope W' → PG X' tg (LG P (tSlots t) (setT t))) (ht : ∀ {X' : Cx} {W' : WX}, Cok P F C c lv X' (relS scope sc) scope W' → PTs X' fs (LB P W' (evBs P.G C ifs)))
    (he : ∀ {X' : Cx} {W' : WX}, Cok P F C c lv X' (relS scope sc) scope W' → PE X' el (LE P W' (evE P.G C elt))) :
    PE X (.ListComp el [⟨tg, iter, fs, 0⟩] scope pos) (LE P W (evE P.G C (.comp elt t it ifs ws))) := by
  have nd : X.N.Nodup := by rw [o.hN]; exact o.nd
  have bk : BlkOk X.N X.env.scope scope ws := blkOk_by (by rw [o.hN, o.hsc]; exact hb)
  refine (pe_lc o.calm nd hi bk (fun s H Cc cl fp => hg (o.blk s H scope Cc cl fp)) (fun s H Cc cl fp => ht (o.blk s H scope Cc cl fp)) (fun s H Cc cl fp => he (o.blk s H scope Cc cl fp)) hs).imp
    fun σ H Q ⟨env, h, Qp, Xp, re, hr, q, l, lx⟩ => ⟨env, h, _, Xp, re, hr, q, fun xs still h1 H1 J q1 e1 z1 jk D nD => ?_, lx⟩
  rw [hw] at q1 ⊢
  exact comp_go (Kn := P.K) rfl rfl rfl jk rfl (re.ext e1) z1 nD (q1 D (z1.free nD)) fun h2 H2 q2 e2 z2 => l _ _ _ _ q2 ((e1.trans (.new nD)).trans e2) (.loc D) z2
/-- x = [..] -/
theorem p_setComp (o : Cok P F C c lv X sc ow W) {i : Nat} {y : Str} {py : Pos} {el tg iter : Expr} {fs : List Expr} {scope : Scope} {pos spos : Pos} {elt : E} {t : T} {it : I} {ifs : Bs} {ws : List (Str × Nat)} (hb : blkC c.N sc scope ws = true) (hw : ws.map (·.2) = tSlots t)
    (hi : PI X tg iter (LI P W (evI P.G C it))) (hs : ∀ x, foldedSetIterable iter X.env x = Pure.pure x)
    (hg : ∀ {X' : Cx} {W' : WX}, Cok P F C c lv X' (relS scope sc) scope W' → PG X' tg (LG P (tSlots t) (setT t))) (ht : ∀ {X' : Cx} {W' : WX}, Cok P F C c lv X' (relS scope sc) scope W' → PTs X' fs (LB P W' (evBs P.G C ifs)))
    (he : ∀ {X' : Cx} {W' : WX}, Cok P F C c lv X' (relS scope sc) scope W' → PE X' el (LE P W' (evE P.G C elt)))
    (hy : c.N[i]? = some y) (hyl : sc.names.lookup y = some .local) (hl : (py.line == pos.line) = true) (ha : (scope.names.any fun (n, k) => n == y && (k == .local || k == .cell)) = false) :
    PS X (.Assign [.Name y py] (.ListComp el [⟨tg, iter, fs, 0⟩] scope pos) spos) (tAsg (LE P W (evE P.G C (.comp elt t it ifs ws))) (gName i)) := by
  have nd : X.N.Nodup := by rw [o.hN]; exact o.nd
  have bk : BlkOk X.N X.env.scope scope ws := blkOk_by (by rw [o.hN, o.hsc]; exact hb)
  have k0 : X.env.scope.names.lookup y = some .local := by rw [o.hsc]; exact hyl
  refine ⟨fun pins s σ H D I q => ?_⟩
  have kd := I.ok.kind
  refine (ps_setLc (i := i) o.calm nd (by rw [o.hN]; exact hy) k0 (sw_true kd k0 hl ha) hi bk (fun s H Cc cl fp => hg (o.blk s H scope Cc cl fp)) (fun s H Cc cl fp => ht (o.blk s H scope Cc cl fp)) (fun s H Cc cl fp => he (o.blk s H scope Cc cl fp)) hs).run pins s σ H D I ?_
  obtain ⟨env, h, Qp, Xp, re, hr, q, l, lx⟩ := q
  refine ⟨env, h, _, Xp, re, hr, q, fun xs still h1 H1 J q1 e1 z1 jk D nD => ?_, lx⟩
  rw [hw] at q1 ⊢
  exact comp_go (Kn := P.K) rfl rfl rfl jk rfl (re.ext e1) z1 nD (q1 D (z1.free nD)) fun h2 H2 q2 e2 z2 => l _ _ _ _ q2 ((e1.trans (.new nD)).trans e2) (.loc D) z2
end
end Mir

set_option autoImplicit false
namespace Mir
open PySem L2 PySem.Spec
open PyProof.Rows hiding St
variable [Tbl]

/-! ## a dict unlocked -/
structure ExtW (H H' : Hp) : Prop where
  tp : ∀ a xs, H a = some (.tup xs) → H' a = some (.tup xs)
  fl : ∀ a o xs, H a = some (.frz o (.lst xs)) → H' a = some (.frz o (.lst xs))
mutual
theorem RP.extW {K : PySem.W.Frag} {H H' : Hp} (e : ExtW H H') : ∀ {x : PV} {v : V}, RP K H x v → RP K H' x v
  | _, _, .non => .non
  | _, _, .bl b => .bl b
  | _, _, .int i => .int i
  | _, _, .str x => .str x
  | _, _, .tup t r => .tup (t.elim (fun z => .inl (e.tp _ _ z)) .inr) (RPs.extW e r)
  | _, _, .fl t r => .fl (t.elim (fun ⟨o, z⟩ => .inl ⟨o, e.fl _ _ _ z⟩) .inr) (RPs.extW e r)
  | _, _, .loc a => .loc a
theorem RPs.extW {K : PySem.W.Frag} {H H' : Hp} (e : ExtW H H') : ∀ {x : List PV} {v : List V}, RPs K H x v → RPs K H' x v
  | _, _, .nil => .nil
  | _, _, .cons r t => .cons (RP.extW e r) (RPs.extW e t)
end
theorem CR.extW {P : Pm} {H H' : Hp} {a : Addr} {c : Cell} (e : ExtW H H') (s : H' a = H a) (r : CR P H a c) : CR P H' a c := by
  match c, r with
  | .lst xs, ⟨vs, q, r⟩ => exact ⟨vs, s.trans q, r.extW e⟩
  | .dct false kvs, ⟨ws, q, r⟩ => exact ⟨ws, s.trans q, paired_imp r fun _ _ z => ⟨z.1, z.2.extW e⟩⟩
  | .dct true kvs, ⟨o, ws, q, r⟩ => exact ⟨o, ws, s.trans q, paired_imp r fun _ _ z => ⟨z.1, z.2.extW e⟩⟩
  | .ins c fs, ⟨dx, gs, q, r⟩ => exact ⟨dx, gs, s.trans q, paired_imp r fun _ _ z => ⟨z.1, z.2.extW e⟩⟩
  | .exc c, q => exact s.trans q
  | .dctT kvs, ⟨ws, q, r⟩ => exact ⟨ws, s.trans q, paired_imp r fun _ _ z => ⟨z.1, z.2.extW e⟩⟩
theorem RE.extW {K : PySem.W.Frag} {H H' : Hp} {env : PEnv} {σ : St} (r : RE K H env σ) (e : ExtW H H') : RE K H' env σ :=
  paired_imp r fun _ _ z x q => let ⟨v, a, b⟩ := z x q; ⟨v, a, b.extW e⟩
section
variable {P : Pm} {h h' : PH} {H H' : Hp} {d : Addr} {od : Obj} {kvs : List (Key × PV)} {ws : List (Key × V)}
theorem lock_hr (z : HR P h H) (e : h d = some (.dct false kvs)) (g : H d = some (.dK ws)) (r : RK P.K H kvs ws) : Ext H (upd H d (.frz od (.dK ws))) ∧ HR P (pup h d (.dct true kvs)) (upd H d (.frz od (.dK ws))) := by
  have x : Ext H (upd H d (.frz od (.dK ws))) := z.chg e _
  exact ⟨x, z.upd x ⟨od, ws, upd_same, paired_imp r fun _ _ q => ⟨q.1, q.2.ext x⟩⟩⟩
theorem unlock_w (g : H' d = some (.frz od (.dK ws))) : ExtW H' (upd H' d (.dK ws)) := by
  refine ⟨fun a xs e => ?_, fun a o xs e => ?_⟩
  · have n : a ≠ d := fun q => by subst q; rw [g] at e; cases e
    rw [upd_ne n]; exact e
  · have n : a ≠ d := fun q => by subst q; rw [g] at e; cases e
    rw [upd_ne n]; exact e
theorem unlock_ext (g0 : H d = some (.dK ws)) (x : Ext (upd H d (.frz od (.dK ws))) H') : Ext H (upd H' d (.dK ws)) := by
  refine ⟨fun a xs e => ?_, fun a o xs e => ?_, fun t => tb_off (x.fz _ _ _ upd_same) trivial (x.tb (tb_off g0 trivial t)), fun a q e => ?_⟩
  · have n : a ≠ d := fun q => by subst q; rw [g0] at e; cases e
    rw [upd_ne n]
    exact x.tp _ _ (by rw [upd_ne n]; exact e)
  · have n : a ≠ d := fun q => by subst q; rw [g0] at e; cases e
    rw [upd_ne n]
    exact x.fz _ _ _ (by rw [upd_ne n]; exact e)
  · have n : a ≠ d := fun q => by subst q; rw [g0] at e; cases e
    rw [upd_ne n]
    exact x.cd _ _ (by rw [upd_ne n]; exact e)
theorem unlock_hr (g0 : H d = some (.dK ws)) (r : RK P.K H kvs ws) (x : Ext (upd H d (.frz od (.dK ws))) H') (z : HR P h' H') : H' d = some (.frz od (.dK ws)) ∧ HR P (pup h' d (.dct false kvs)) (upd H' d (.dK ws)) := by
  have g : H' d = some (.frz od (.dK ws)) := x.fz _ _ _ upd_same
  refine ⟨g, ⟨fun a c e => ?_, tb_off g trivial z.tb⟩⟩
  by_cases ea : a = d
  · subst ea
    rw [pup_same] at e
    cases e
    exact ⟨ws, upd_same, paired_imp r fun _ _ q => ⟨q.1, q.2.ext (unlock_ext g0 x)⟩⟩
  · rw [pup_ne ea] at e
    exact (z a c e).extW (unlock_w g) (upd_ne ea)
end
section
variable {P : Pm} {F : FT} {C : CallS} {c : Ct} {lv : Nat} {X : Cx} {sc ow : Scope} {W : WX}
theorem p_compD (o : Cok P F C c lv X sc ow W) {el tg iter : Expr} {fs : List Expr} {scope : Scope} {pos : Pos} {elt : E} {t : T} {e : E} {ifs : Bs} {ws : List (Str × Nat)} (hb : blkC c.N sc scope ws = true) (hw : ws.map (·.2) = tSlots t)
    (hi : PE X iter (LE P W (evE P.G C e))) (hs : ∀ x, foldedSetIterable iter X.env x = Pure.pure x)
    (hg : ∀ {X' : Cx} {W' : WX}, Cok P F C c lv X' (relS scope sc) scope W' → PG X' tg (LG P (tSlots t) (setT t))) (ht : ∀ {X' : Cx} {W' : WX}, Cok P F C c lv X' (relS scope sc) scope W' → PTs X' fs (LB P W' (evBs P.G C ifs)))
    (he : ∀ {X' : Cx} {W' : WX}, Cok P F C c lv X' (relS scope sc) scope W' → PE X' el (LE P W' (evE P.G C elt))) (hW : ∀ a b d e, W a b d e → True) :
    PE X (.ListComp el [⟨tg, iter, fs, 0⟩] scope pos) (LE P W fun env h Q X => ∃ d kvs, h d = some (.dct false kvs) ∧ evE P.G C e env (pup h d (.dct true kvs)) (fun x h1 => x = .loc d ∧ h1 d = some (.dct true kvs) ∧ ∀ P', h1 P' = none →
      compGo (fun g => g d = some (.dct true kvs)) (setT t) (fun e g K => evBs P.G C ifs e g K fun _ _ => False) (fun e g K => evE P.G C elt e g K fun _ _ => False) (wipeP env (ws.map (·.2))) P'
        (fun h2 => Q (.loc P') (pup h2 d (.dct false kvs))) (kvs.map fun kv => kP kv.1) (pup h1 P' (.lst []))) fun _ _ => False) := by
  have nd : X.N.Nodup := by rw [o.hN]; exact o.nd
  have bk : BlkOk X.N X.env.scope scope ws := blkOk_by (by rw [o.hN, o.hsc]; exact hb)
  refine (pe_lock (pe_lc o.calm nd (pi_keys hi) bk (fun s H Cc cl fp => hg (o.blk s H scope Cc cl fp)) (fun s H Cc cl fp => ht (o.blk s H scope Cc cl fp)) (fun s H Cc cl fp => he (o.blk s H scope Cc cl fp)) hs)).imp
    fun σ H Q ⟨env, h, Qp, Xp, re, hr, ⟨d, kvs, ed, q⟩, l, lx⟩ => ?_
  obtain ⟨vs, g, r⟩ := hr d _ ed
  refine ⟨d, _, g, trivial, fun od => ?_⟩
  obtain ⟨x0, z0⟩ := lock_hr (od := od) hr ed g r
  refine ⟨env, _, _, fun _ _ => False, re.ext x0, z0, q, fun x h1 v H1 q1 e1 r1 z1 => ?_, fun _ _ _ q => q.elim⟩
  obtain ⟨ex, eh, q1⟩ := q1
  subst ex
  cases r1
  have g1 : H1 d = some (.frz od (.dK vs)) := e1.fz _ _ _ upd_same
  refine ⟨d, od, rfl, .inl ⟨vs, g1, fun D nD => ?_⟩⟩
  rw [hw] at q1 ⊢
  have jk : JOk P H1 (Itk d od vs) (kvs.map fun kv => kP kv.1) fun g => g d = some (.dct true kvs) := by
    have j := j_keys g1 (paired_imp r fun _ _ q => ⟨q.1, (q.2.ext x0).ext e1⟩)
    exact ⟨fun i h' H' x z st hi => j.go i h' H' x z trivial hi, fun h' H' x z st => j.stop h' H' x z trivial, fun i h' H' y H'' x z st hi q => j.yld i h' H' y H'' x z trivial hi q⟩
  refine comp_go (Kn := P.K) rfl rfl rfl jk rfl ((re.ext x0).ext e1) z1 nD (q1 D (z1.free nD)) fun h2 H2 q2 e2 z2 => ?_
  have xx : Ext (upd H d (.frz od (.dK vs))) H2 := (e1.trans (.new nD)).trans e2
  obtain ⟨g2, z3⟩ := unlock_hr g r xx z2
  exact ⟨g2, l _ _ _ _ q2 (unlock_ext g xx) (.loc D) z3⟩
end
end Mir

set_option autoImplicit false
namespace Mir
open PySem L2 PySem.Spec
open PyProof.Rows hiding St
variable [Tbl]

/-! ## sorted(xs, key=..) -/
theorem extN_ext {H H' : Hp} (e : LamX.ExtN H H') (t : TbOk H') : Ext H H' :=
  ⟨fun a xs q => e _ _ q fun _ z => (by cases z), fun a o u q => e _ _ q fun _ z => (by cases z), fun _ => t, fun a n q => e _ _ q (LamX.codeO_ne)⟩
theorem HR.extN {P : Pm} {h : PH} {H H' : Hp} (z : HR P h H) (e : LamX.ExtN H H') (t : TbOk H') : HR P h H' := ⟨fun a c q => by
  have r := z a c q
  have st : H' a = H a := by
    match c, r with
    | .lst xs, ⟨vs, g, _⟩ => exact (e _ _ g fun _ z => (by cases z)).trans g.symm
    | .dct false kvs, ⟨vs, g, _⟩ => exact (e _ _ g fun _ z => (by cases z)).trans g.symm
    | .dct true kvs, ⟨o, vs, g, _⟩ => exact (e _ _ g fun _ z => (by cases z)).trans g.symm
    | .ins k fs, ⟨dx, gs, g, _⟩ => exact (e _ _ g fun _ z => (by cases z)).trans g.symm
    | .dctT kvs, ⟨vs, g, _⟩ => exact (e _ _ g fun _ z => (by cases z)).trans g.symm
    | .exc k, g => exact (e _ _ g fun _ z => (by unfold ExV at z; cases z)).trans (show H a = some (ExV (.ref (P.cls k)) a) from g).symm
  exact r.ext (extN_ext e t) st, t⟩
section
variable {P : Pm}
/-- the keys, one by one: the loop's invariant -/
def KInv (P : Pm) (run : PV → PH → QE → Prop) (xs : List PV) (K : List PV → PH → Prop) (H0 : Hp) (i : Nat) (ks : List V) (H : Hp) : Prop :=
  ∃ h ps, Ext H0 H ∧ HR P h H ∧ RPs P.K H ps ks ∧ i ≤ xs.length ∧ keyGo run (xs.drop i) h fun qs h' => K (ps ++ qs) h'
theorem kinv_step {run : PV → PH → QE → Prop} {xs : List PV} {vs : List V} {K : List PV → PH → Prop} {H0 H : Hp} {i : Nat} {ks : List V} {v : V} (w : KInv P run xs K H0 i ks H) (r0 : RPs P.K H0 xs vs) (e : vs[i]? = some v) :
    ∃ pv h Qp, HR P h H ∧ Ext H0 H ∧ RP P.K H pv v ∧ run pv h Qp ∧ Lft P H Qp fun k H' => KInv P run xs K H0 (i + 1) (ks ++ [k]) H' := by
  obtain ⟨h, ps, x, z, r, hi, q⟩ := w
  obtain ⟨pv, epv, rv⟩ := r0.getR e
  have hlt : i < xs.length := (List.getElem?_eq_some_iff.mp epv).1
  have ed : xs.drop i = pv :: xs.drop (i + 1) := by
    rw [List.drop_eq_getElem_cons hlt]
    rw [List.getElem?_eq_getElem hlt] at epv
    cases epv
    rfl
  rw [ed] at q
  refine ⟨pv, h, _, z, x, rv.ext x, q, fun k h' u H' qk ex ru zk => ⟨h', ps ++ [k], x.trans ex, zk, (r.ext ex).append (.cons ru .nil), hlt, ?_⟩⟩
  simpa using qk
theorem pairs2_keys {X : Cx} (hK : X.K = P.K) {H : Hp} : ∀ {ps : List PV} {ks : List V} {kz : List (Int × Int)}, RPs P.K H ps ks → pairs2 ps = some kz → Paired (fun k p => ∃ t, k = V.ref t ∧ SqT X.K H t [.int p.1, .int p.2]) ks kz
  | [], _, kz, .nil, e => by cases e; exact .nil
  | x :: xs, _, kz, .cons r t, e => by
    unfold pairs2 at e
    split at e
    · rename_i h; cases h
    · rename_i i j rest h
      cases h
      obtain ⟨kz', e', rfl⟩ := Option.map_eq_some_iff.mp e
      cases r with
      | tup ta rr =>
        cases rr with
        | cons a1 r1 =>
          cases r1 with
          | cons a2 r2 =>
            cases r2
            cases a1
            cases a2
            exact .cons ⟨_, rfl, hK ▸ ta.sq⟩ (pairs2_keys hK t e')
    · cases e
theorem keys2_keys {X : Cx} (hK : X.K = P.K) {H : Hp} {ps : List PV} {ks : List V} {kz : List (Int × Int)} (r : RPs P.K H ps ks) (e : keys2 ps = some kz) : KeysV X.K H ks kz := by
  unfold keys2 at e
  split at e
  · rename_i is ei
    cases e
    refine .inl ⟨?_, fun p hp => ?_⟩
    · rw [r.ints ei, List.map_map]
      rfl
    · obtain ⟨i, _, rfl⟩ := List.mem_map.mp hp
      rfl
  · exact .inr (pairs2_keys hK r e)
theorem rps_sort {K : PySem.W.Frag} {H : Hp} {xs : List PV} {vs : List V} (r : RPs K H xs vs) (kz : List (Int × Int)) : RPs K H (sortBy xs kz) (sortBy vs kz) := by
  obtain ⟨zs, e1, e2, hr⟩ : ∃ zs : List (PV × V), zs.map (·.1) = xs ∧ zs.map (·.2) = vs ∧ ∀ p ∈ zs, RP K H p.1 p.2 := by
    clear kz
    induction xs generalizing vs with
    | nil => cases r; exact ⟨[], rfl, rfl, fun p h => by cases h⟩
    | cons x xs ih =>
      cases r with
      | cons a b =>
        obtain ⟨zs, e1, e2, h⟩ := ih b
        refine ⟨(x, _) :: zs, by rw [List.map_cons, e1], by rw [List.map_cons, e2], fun p hp => ?_⟩
        rcases List.mem_cons.mp hp with rfl | hp
        · exact a
        · exact h p hp
  subst e1 e2
  rw [sortBy_map, sortBy_map]
  have sub : ∀ p ∈ sortBy zs kz, p ∈ zs := fun p hp => by
    unfold sortBy at hp
    obtain ⟨q, hq, rfl⟩ := List.mem_map.mp hp
    exact (List.of_mem_zip ((List.mergeSort_perm _ _).mem_iff.mp hq)).1
  generalize sortBy zs kz = ys at sub
  clear r
  induction ys with
  | nil => exact .nil
  | cons y ys ih => exact .cons (hr y (sub y (by simp))) (ih fun p hp => sub p (List.mem_cons_of_mem _ hp))
end
def keyQ (Qp : QE) (xs : List PV) (ks : List PV) (h2 : PH) : Prop := match keys2 ks with
  | some kz => ∀ p, h2 p = none → Qp (.loc p) (pup h2 p (.lst (sortBy xs kz)))
  | none => False
def sortQ (run : PV → PH → QE → Prop) (Qp : QE) (x : PV) (h1 : PH) : Prop := listK x h1 fun xs => xs.length ≤ sizeLine ∧ keyGo run xs h1 (keyQ Qp xs)
section
variable {P : Pm} {F : FT} {C : CallS} {c : Ct} {lv : Nat} {X : Cx} {sc ow : Scope} {W : WX}
theorem bind1 {fd : FuncData} {a : Str} {q : Pos} {u : Value} (hp : fd.params = ⟨[], [⟨a, none, q⟩], none, [], [], none, []⟩) (h1 : fd.defaults = .none) (h2 : fd.kwdefaults = .none) : bindArgs fd ⟨[u], []⟩ = Pure.pure ([a].zip [u]) := by
  unfold bindArgs
  simp only [hp, h1, h2]
  simp [seqItems?]
  rfl
theorem paired_app {α β : Type} {R : α → β → Prop} : ∀ {a b : List α} {c d : List β}, Paired R a c → Paired R b d → Paired R (a ++ b) (c ++ d)
  | _, _, _, _, .nil, q => q
  | _, _, _, _, .cons r t, q => .cons r (paired_app t q)
/-- the context of a lambda's body is one in which trees are read -/
theorem lam_ok (o : Cok P F C c lv X sc ow W) {a : Str} {scope : Scope} {A : Around} {outer : List Env} {s : Shared} {H : Hp} {E : XK} {f c' : Addr} (L : LamP X.env.scope scope [a]) (nd : (hidN a c.N ++ [a]).Nodup)
    (hr : Room (lv + 3) (A.deeper (LamX.lamEnv X scope s.heap.objs.size f c'))) :
    Cok P F C { c with N := hidN a c.N ++ [a], lm := false } lv (lcx X (hidN a X.N ++ [a]) A outer s H E scope f c') scope scope (fun cls d _ H => E cls d H) where
  wl := ⟨o.wl.hG, o.wl.fn, o.wl.len, o.wl.bd, o.wl.mf, o.wl.mc, o.wl.mks, o.wl.cl, o.wl.na, o.wl.me, o.wl.nd, o.wl.bn, o.wl.gl, o.wl.wx, o.wl.lam⟩
  hK := o.hK
  hN := by show hidN a X.N ++ [a] = hidN a c.N ++ [a]; rw [o.hN]
  nd := nd
  hsc := rfl
  calm := rfl
  st := fun x h => .inr (by
    rcases h with h | h
    · exact h
    · exact absurd rfl (L.ncell _ (PySem.mem_of_lookup h)))
  tk := takes_of rfl rfl rfl rfl
  room := hr
  lam := fun z => by cases z
/-- what the items of a list are -/
theorem list_sq {x : PV} {v : V} {h : PH} {H : Hp} {Kp : List PV → Prop} (z : HR P h H) (r : RP P.K H x v) (q : listK x h Kp) : ∃ l xs vs, v = .ref l ∧ SqL P.K H l vs ∧ RPs P.K H xs vs ∧ Kp xs := by
  cases r with
  | fl t rr => exact ⟨_, _, _, rfl, t.sq, rr, q⟩
  | loc a =>
    simp only [listK] at q
    split at q
    · rename_i xs e
      obtain ⟨vs, g, rr⟩ := z.lst e
      exact ⟨a, xs, vs, rfl, SqL.of g, rr, q⟩
    · exact q.elim
  | _ => exact q.elim
theorem p_sortL (o : Cok P F C c lv X sc ow W) {y body : Expr} {ps : Arguments} {scope : Scope} {lpos kpos p pos : Pos} {e b : E} {a : Str} (hg : glB sc "sorted" = true) (hb : ("sorted" : Str) ∈ c.bls) (oy : okE y = true) (he : PE X y (LE P W (evE P.G C e)))
    (hlm : c.lm = true) (hl : lamPB sc scope [a] = true) (hp : par1 ps = some a) (hn : (hidN a c.N ++ [a]).Nodup) (hv : visB scope "?" = false)
    (bd : ∀ {X' : Cx} {W' : WX}, Cok P F C { c with N := hidN a c.N ++ [a], lm := false } lv X' scope scope W' → PE X' body (LE P W' (evE P.G C b))) :
    PE X (.Call (.Name "sorted" p) [y] [⟨some "key", .Lambda ps body scope lpos, kpos⟩] pos) (LE P W (evE P.G C (.sortK e (.lam a b)))) := by
  obtain ⟨pq, rfl⟩ := par1_eq hp
  have L : LamP X.env.scope scope [a] := lamP_by (by rw [o.hsc]; exact hl)
  obtain ⟨cc, T, hcode, TB, hT⟩ := o.lam hlm
  have ns : NSee X scope (hidN a X.N) [a] := ⟨by rw [o.hN]; exact hn, by simp [hidN], fun i y e v => by
    unfold hidN at e
    rw [List.getElem?_map] at e
    obtain ⟨z, ez, e⟩ := Option.map_eq_some_iff.mp e
    split at e
    · subst e
      unfold Vis at v
      unfold visB at hv
      rcases v with v | v | v <;> (rw [v] at hv; cases hv)
    · subst e
      exact ez⟩
  refine ⟨fun pins s σ H Q I ⟨env, h, Qp, Xp, re, hr, q, l, lx⟩ => ?_⟩
  refine wpAny_Call_Name_kw (ld_blt I (o.glx hg) (o.bnone hb) boot_sorted ?_ (by decide) (by decide))
  have es : starEach [y] X.env = (false, eval y X.env) :: starEach [] X.env := ok_star oy [] X.env
  have he1 : backTo pos (starEach [y] X.env) = (false, eval y X.env) :: backTo pos (starEach [] X.env) := by rw [es]; rfl
  refine PyProof.Rows.callWith_kw (thn ((pa_cons he pa_nil es).run pos pins s σ H (fun vs H1 => ∃ v x h1, vs = [v] ∧ RP P.K H1 x v ∧ HR P h1 H1 ∧ Ext H H1 ∧ sortQ (fun v g K => evE P.G C b (env ++ [some v]) g K fun _ _ => False) Qp x h1) I
    ⟨env, h, _, Xp, re, hr, q, fun x h1 v H1 q1 e1 r1 z1 => ⟨v, x, h1, rfl, r1, z1, e1, q1⟩, lx⟩) fun us s1 ⟨vs, H1, I1, rv1, v, x, h1, ev, r1, z1, e1, q1⟩ => ?_) he1 (by rw [he1]; rfl) rfl rfl
  subst ev
  obtain ⟨la, xs, vs, rfl, sq, rr, hlen, q2⟩ := list_sq z1 r1 q1
  obtain rfl := Vals.ref1 rv1
  have re1 := re.ext e1
  show wpAny _ _ (evalAll ((do let u ← eval (.Lambda ⟨[], [⟨a, none, pq⟩], none, [], [], none, []⟩ body scope lpos) X.env; standAt pos; Pure.pure u) :: (backToKw pos (keywordEach [] X.env)).map (·.2))) _ _ s1
  refine wpAny_evalAll_cons (wpAny_bind (LamX.lam_make2 (T := Tbl.T) I1 TB hcode hT (fun p hp hq => Tbl.uq p hp _ hT hq) z1.tb rfl (L.has I1.ok) fun f c' pm ctv H2 s2 I2 eN T2 hf hfn hfr hco => wpAny_bind (wpAny_standAt (wpAny_pure (wpAny_evalAll_nil ?_)))))
  have x2 := extN_ext eN T2
  have z2 := z1.extN eN T2
  have sq2 : SqL X.K H2 la vs := by
    rw [o.hK]
    rcases sq with (g | ⟨ob, g⟩) | g
    · exact .inl (.inl (eN _ _ g fun _ z => by cases z))
    · exact .inl (.inr ⟨ob, eN _ _ g fun _ z => by cases z⟩)
    · exact .inr g
  have hnl : f ≠ X.env.locals := fun z => by
    obtain ⟨m, ⟨ol, es, ep, g1, g2, _⟩, _⟩ := I2.loc
    rw [z, g1] at hf
    cases hf
    cases g2
  have hnfs : f ∉ X.fs := fun z => by
    rcases I2.ok.stk with w | ⟨w, _⟩
    · exact hfr (by rw [w]; exact z)
    · exact hfr (by
        rw [w]
        unfold frs
        rw [List.filterMap_cons]
        split
        · exact z
        · exact List.mem_cons_of_mem _ z)
  have I2' : L2.Inv X (pins ++ [(f, PySem.W.kla_obj "<lambda>" (X.env.qual ++ "<lambda>") ⟨[], [⟨a, none, pq⟩], none, [], [], none, []⟩ body scope (cloFrom X.env.cells scope.names []) pm c' ctv)]) σ H2 s2 := I2.pins_of fun p hp => by
    rcases List.mem_append.mp hp with hp | hp
    · exact I2.pin p (List.mem_append_right _ hp)
    · obtain rfl := List.mem_singleton.mp hp
      exact ⟨hf, hfn, hnl, hnfs, fun v z => by cases z⟩
  have re2 := re1.ext x2
  have rr2 := rr.ext x2
  refine wpAny_mono (srt_core (run := fun v H' Q' => H' c' = some (LamX.CodeO c' (X.env.qual ++ "<lambda>")) ∧ ∃ pv g Qp, HR P g H' ∧ RP P.K H' pv v ∧ RE P.K H' env σ ∧ evE P.G C b (env ++ [some pv]) g Qp (fun _ _ => False) ∧ Lft P H' Qp Q') I2' sq2 (by have := o.rm.units; omega) (fun a => ksk_t1 _ _)
    (fun pl s3 H3 u v Q3 I3 ru ⟨hc3, pv, g, Qp3, z3, r3, re3, q3, l3⟩ => ?_)
    (fun i ks H' => H' c' = some (LamX.CodeO c' (X.env.qual ++ "<lambda>")) ∧ KInv P (fun v g K => evE P.G C b (env ++ [some v]) g K fun _ _ => False) xs (keyQ Qp xs) H2 i ks H') ⟨hco, h1, [], .refl _, z2, .nil, Nat.zero_le _, by simpa using q2⟩ (fun i ks H' v ⟨hc3, w⟩ ev => ?_) (fun ks H' ⟨hc3, w⟩ => ?_)) (fun u s3 ⟨v, H3, I3, ru, q3⟩ => ⟨v, H3, I3.unpinned, ru, q3⟩) fun _ _ z => z
  · have rm : Room (lv + 7) X.A := by
      have z := o.room
      unfold Ct.sl at z
      rw [if_pos hlm] at z
      exact z
    have hf3 := (I3.pin (f, PySem.W.kla_obj "<lambda>" (X.env.qual ++ "<lambda>") ⟨[], [⟨a, none, pq⟩], none, [], [], none, []⟩ body scope (cloFrom X.env.cells scope.names []) pm c' ctv) (by simp)).1
    have rc := lam_run (ps := [a]) (us := [u]) (vs := [v]) (E := fun _ _ _ => False) (A := X.A.in1.in1) (outer := X.stack) (k := lv + 3) (Q := Q3) (tb := LE P (fun _ _ _ _ => False) (evE P.G C b)) I3 L ns hf3 hc3 (bind1 rfl rfl rfl) I3.env0.in1.in1 I3.nolimit
      ((rm.mono (j := lv + 4 + 1 + 1) (by omega)).in1.in1) Un.refl (.cons ru .nil) rfl (fun hr => bd (X' := lcx X (hidN a X.N ++ [a]) X.A.in1.in1 X.stack s3 H3 (fun _ _ _ => False) scope f c')
        (lam_ok o L hn hr)) ⟨env ++ [some pv], g, Qp3, fun _ _ => False, paired_app re3 (.cons (fun x ex => by cases ex; exact ⟨v, rfl, r3⟩) .nil), z3, q3, l3, fun _ _ _ z => z.elim⟩
    refine wpAny_call (codeAny_mono rc fun r s' hq => ?_)
    match r, hq with
    | .error e, hq =>
      obtain ⟨_, _, _, _, _, _, _, _, _, _, _, _, z⟩ := hq
      exact z
    | .ok (.ret u), hq => exact I3.after hq
  · obtain ⟨pv, g, Qp3, z3, x3, r3, q3, l3⟩ := kinv_step w rr2 ev
    exact ⟨hc3, pv, g, Qp3, z3, r3, re2.ext x3, q3, fun pr h' v' H'' a1 a2 a3 a4 => ⟨a2.cd _ _ hc3, l3 pr h' v' H'' a1 a2 a3 a4⟩⟩
  · obtain ⟨h', ps, x3, z3, r3, hi, q3⟩ := w
    rw [← rr.length, List.drop_length] at q3
    simp only [keyGo, List.append_nil, keyQ] at q3
    split at q3
    · rename_i kz ek
      refine ⟨kz, keys2_keys o.hK r3 ek, fun p np => ?_⟩
      have xp : Ext H' (upd H' p (.lst (sortBy vs kz))) := .new np
      exact l _ _ _ _ (q3 p (z3.free np)) (((e1.trans x2).trans x3).trans xp) (.loc p) (z3.upd xp ⟨_, upd_same, (rps_sort (rr2.ext x3) kz).ext xp⟩)
    · exact q3.elim
theorem run_in2 (o : Cok P F C c lv X sc ow W) {pins : List (Addr × Obj)} {σ : St} {H : Hp} {s : Shared} {Q : VK} {us : List Value} {vs : List V} {f : Nat} {ps : List PV} {h : PH} {Qp : QE} (I : L2.Inv X pins σ H s) (r : Vals vs us)
    (rp : RPs P.K H ps vs) (z : HR P h H) (q : C f (padD P.G f ps) h Qp fun _ _ => False) (l : Lft P H Qp Q) : wpAny (model X.prog X.w) X.A.in1.in1 (call (.ref (F.fa f)) us) (EP X pins σ Q) (fun _ _ => False) s := by
  obtain ⟨d, ds, dv, e1, b, rd, rr⟩ := pad_facts o q
  obtain ⟨dp, e2, rr⟩ := rr H
  have Fk := o.wl.fn f d e1
  have sp : lsp P C f (vs ++ dv) H Q (fun _ _ _ => False) := ⟨_, h, Qp, fun _ _ => False, e2 ▸ rp.append rr, z, q, l, fun _ _ _ z => z.elim⟩
  have r2 := r.append rd
  have hl : (us ++ ds).length = (F.ps f).length := by rw [← r2.length]; exact Fk.len _ _ _ _ sp
  have Fk : FnOk X.prog X.w X.K X.mg X.base (L2.CX X.prog X.w) lv (F.fa f) (F.fd f) (F.ps f) (lsp P C f) := by rw [o.hK]; exact Fk
  have b : Binds X.K (F.fd f) (F.ps f) ds := by rw [o.hK]; exact b
  refine wpAny_call (codeAny_mono (Fk.run X.A.in1.in1 X.stack s H ⟨us, []⟩ (us ++ ds) (vs ++ dv) Q (fun _ _ _ => False) ((o.rm.mono (j := lv + 1 + 1) (by omega)).in1.in1) I.env0.in1.in1 (b s us I.kIn hl) r2 sp) fun r s' hq => ?_)
  match r, hq with
  | .error e, hq =>
    obtain ⟨_, _, _, _, _, _, _, _, _, _, _, _, z⟩ := hq
    exact z
  | .ok (.ret u), hq => exact I.after hq
theorem p_sortF (o : Cok P F C c lv X sc ow W) {y : Expr} {fx : Str} {kp kpos p pos : Pos} {e : E} {f : Nat} (hg : glB sc "sorted" = true) (hb : ("sorted" : Str) ∈ c.bls) (oy : okE y = true) (he : PE X y (LE P W (evE P.G C e)))
    (hx : c.fnN f = some fx) (gx : glB sc fx = true) (dx : dunB fx = true) :
    PE X (.Call (.Name "sorted" p) [y] [⟨some "key", .Name fx kp, kpos⟩] pos) (LE P W (evE P.G C (.sortK e (.fn f)))) := by
  refine ⟨fun pins s σ H Q I ⟨env, h, Qp, Xp, re, hr, q, l, lx⟩ => ?_⟩
  refine wpAny_Call_Name_kw (ld_blt I (o.glx hg) (o.bnone hb) boot_sorted ?_ (by decide) (by decide))
  have es : starEach [y] X.env = (false, eval y X.env) :: starEach [] X.env := ok_star oy [] X.env
  have he1 : backTo pos (starEach [y] X.env) = (false, eval y X.env) :: backTo pos (starEach [] X.env) := by rw [es]; rfl
  refine PyProof.Rows.callWith_kw (thn ((pa_cons he pa_nil es).run pos pins s σ H (fun vs H1 => ∃ v x h1, vs = [v] ∧ RP P.K H1 x v ∧ HR P h1 H1 ∧ Ext H H1 ∧ sortQ (fun v g K => C f (padD P.G f [v]) g K fun _ _ => False) Qp x h1) I
    ⟨env, h, _, Xp, re, hr, q, fun x h1 v H1 q1 e1 r1 z1 => ⟨v, x, h1, rfl, r1, z1, e1, q1⟩, lx⟩) fun us s1 ⟨vs, H1, I1, rv1, v, x, h1, ev, r1, z1, e1, q1⟩ => ?_) he1 (by rw [he1]; rfl) rfl rfl
  subst ev
  obtain ⟨la, xs, vs, rfl, sq, rr, hlen, q2⟩ := list_sq z1 r1 q1
  obtain rfl := Vals.ref1 rv1
  show wpAny _ _ (evalAll ((do let u ← eval (.Name fx kp) X.env; standAt pos; Pure.pure u) :: (backToKw pos (keywordEach [] X.env)).map (·.2))) _ _ s1
  refine wpAny_evalAll_cons (wpAny_bind (ld_glob I1 (o.glx gx) (o.wl.mf f fx hx).1 (wpAny_bind (wpAny_standAt (wpAny_pure (wpAny_evalAll_nil ?_)))) (dun_of dx).1))
  refine srt_core (run := fun v H' Q' => ∃ pv g Qp, HR P g H' ∧ RP P.K H' pv v ∧ C f (padD P.G f [pv]) g Qp (fun _ _ => False) ∧ Lft P H' Qp Q') I1 (by rw [o.hK]; exact sq) (by have := o.rm.units; omega) (fun a => ksk_t1 _ _)
    (fun pl s3 H3 u v Q3 I3 ru ⟨pv, g, Qp3, z3, r3, q3, l3⟩ => run_in2 o I3 (.cons ru .nil) (.cons r3 .nil) z3 q3 l3)
    (fun i ks H' => KInv P (fun v g K => C f (padD P.G f [v]) g K fun _ _ => False) xs (keyQ Qp xs) H1 i ks H') ⟨h1, [], .refl _, z1, .nil, Nat.zero_le _, by simpa using q2⟩ (fun i ks H' v w ev => ?_) (fun ks H' w => ?_)
  · obtain ⟨pv, g, Qp3, z3, x3, r3, q3, l3⟩ := kinv_step w rr ev
    exact ⟨pv, g, Qp3, z3, r3, q3, l3⟩
  · obtain ⟨h', ps, x3, z3, r3, hi, q3⟩ := w
    rw [← rr.length, List.drop_length] at q3
    simp only [keyGo, List.append_nil, keyQ] at q3
    split at q3
    · rename_i kz ek
      refine ⟨kz, keys2_keys o.hK r3 ek, fun p np => ?_⟩
      have xp : Ext H' (upd H' p (.lst (sortBy vs kz))) := .new np
      exact l _ _ _ _ (q3 p (z3.free np)) ((e1.trans x3).trans xp) (.loc p) (z3.upd xp ⟨_, upd_same, (rps_sort (rr.ext x3) kz).ext xp⟩)
    · exact q3.elim
end
end Mir

set_option autoImplicit false
namespace Mir
open PySem L2 PySem.Spec
open PyProof.Rows hiding St
variable [Tbl]

/-! ## dicts whose keys are tuples -/
theorem keysT_rel {K : PySem.W.Frag} {H : Hp} : ∀ {xs : List PV} {vs : List V} {ks : List Key}, RPs K H xs vs → keysT xs = some ks → vs = ks.map kV
  | _, _, _, .nil, e => by simp only [keysT] at e; cases e; rfl
  | _, _, _, .cons r t, e => by
    unfold keysT at e
    split at e
    · rename_i k ks ek er
      cases e
      rw [keysT_rel t er, toKey_rel r ek]
      rfl
    · cases e
theorem rt_val {K : PySem.W.Frag} {H : Hp} (k : List Key) : ∀ {kvs : List (List Key × PV)} {ws : List (List Key × V)}, RT K H kvs ws → (∀ v, valT kvs k = some v → ∃ w, valV ws k = some w ∧ RP K H v w) ∧ (valT kvs k = none → valV ws k = none)
  | [], _, .nil => ⟨fun v e => by simp [valT] at e, fun _ => rfl⟩
  | (k1, v1) :: r, (k2, v2) :: _, .cons a t => by
    obtain ⟨h1, h2⟩ := rt_val k t
    obtain ⟨ek, er⟩ := a
    simp only at ek er
    subst ek
    by_cases e : k1 = k
    · subst e
      exact ⟨fun v q => by simp [valT] at q; subst q; exact ⟨v2, by simp [valV], er⟩, fun q => by simp [valT] at q⟩
    · refine ⟨fun v q => ?_, fun q => ?_⟩
      · obtain ⟨w, a, b⟩ := h1 v (by simpa [valT, e] using q)
        exact ⟨w, by simpa [valV, e] using a, b⟩
      · simpa [valV, e] using h2 (by simpa [valT, e] using q)
theorem rt_any {K : PySem.W.Frag} {H : Hp} (k : List Key) : ∀ {kvs : List (List Key × PV)} {ws : List (List Key × V)}, RT K H kvs ws → (kvs.any fun kv => decide (kv.1 = k)) = ws.any fun kv => decide (kv.1 = k)
  | _, _, .nil => rfl
  | _, _, .cons a t => by simp [rt_any k t, a.1]
theorem rt_append {K : PySem.W.Frag} {H : Hp} : ∀ {a b : List (List Key × PV)} {c d : List (List Key × V)}, RT K H a c → RT K H b d → RT K H (a ++ b) (c ++ d)
  | _, _, _, _, .nil, s => s
  | _, _, _, _, .cons r t, s => .cons r (rt_append t s)
theorem rt_repl {K : PySem.W.Frag} {H : Hp} {k : List Key} {v : PV} {w : V} (r : RP K H v w) : ∀ {kvs : List (List Key × PV)} {ws : List (List Key × V)}, RT K H kvs ws →
    RT K H (kvs.map fun kv => if kv.1 = k then (kv.1, v) else kv) (ws.map fun kv => if kv.1 = k then (kv.1, w) else kv)
  | _, _, .nil => .nil
  | (k1, v1) :: _, (k2, v2) :: _, .cons ⟨e, q⟩ t => by
    simp only at e q
    subst e
    simp only [List.map_cons]
    refine .cons ?_ (rt_repl r t)
    by_cases e : k1 = k
    · rw [if_pos e, if_pos e]; exact ⟨rfl, r⟩
    · rw [if_neg e, if_neg e]; exact ⟨rfl, q⟩
theorem rt_put {K : PySem.W.Frag} {H : Hp} {k : List Key} {v : PV} {w : V} (r : RP K H v w) {kvs : List (List Key × PV)} {ws : List (List Key × V)} (q : RT K H kvs ws) : RT K H (putT kvs k v) (putK ws k w) := by
  unfold putT putK
  rw [rt_any k q]
  split
  · exact rt_repl r q
  · exact rt_append q (.cons ⟨rfl, r⟩ .nil)
section
variable {P : Pm} {F : FT} {C : CallS} {c : Ct} {lv : Nat} {X : Cx} {sc ow : Scope} {W : WX}
theorem p_dictT0 {pos : Pos} : PE X (.Dict [] [] pos) (LE P W fun _ h Q _ => ∀ p, h p = none → Q (.loc p) (pup h p (.dctT []))) :=
  pe_dnewT.imp fun σ H Q ⟨env, h, Qp, Xp, re, hr, q, l, lx⟩ p n => l _ _ _ _ (q p (hr.free n)) (.new n) (.loc p) (hr.upd (.new n) ⟨[], upd_same, .nil⟩)
theorem isT_rel {x : PV} {v : V} {h : PH} {H : Hp} (z : HR P h H) (r : RP P.K H x v) (q : isT x h) : ∃ a kvs ws, x = .loc a ∧ v = .ref a ∧ h a = some (.dctT kvs) ∧ H a = some (.dT ws) ∧ RT P.K H kvs ws := by
  unfold isT at q
  split at q
  · split at q
    · rename_i e
      cases r
      obtain ⟨ws, g, t⟩ := z _ _ e
      exact ⟨_, _, ws, rfl, rfl, e, g, t⟩
    · exact q.elim
  · exact q.elim
theorem p_tupT (o : Cok P F C c lv X sc ow W) {es : List Expr} {k : Nat} {pos : Pos} {ea : EvA} (ha : PA X es (LEs P W ea)) : PE X (.Tuple es k pos) (tTup (LEs P W ea)) := pe_tup ha
theorem p_getT (o : Cok P F C c lv X sc ow W) {eo ed : E} {ks : Es} {e y : Expr} {xs : List Expr} {k : Nat} {tp apos cpos : Pos} (h : okE e = true) (hy : okE y = true) (hl : (apos.endLine == cpos.line) = true) (he : PE X e (LE P W (evE P.G C eo)))
    (hk : PA X xs (LEs P W (evEs P.G C ks))) (hd : PE X y (LE P W (evE P.G C ed))) : PE X (.Call (.Attribute e "get" apos) [.Tuple xs k tp, y] [] cpos) (LE P W (evE P.G C (.getT eo ks ed))) := by
  have es : starEach [Expr.Tuple xs k tp, y] X.env = [(false, eval (.Tuple xs k tp) X.env), (false, eval y X.env)] := by
    rw [show starEach [Expr.Tuple xs k tp, y] X.env = (false, eval (.Tuple xs k tp) X.env) :: starEach [y] X.env from rfl, ok_star hy [] X.env]
    rfl
  have m : M2 X e "get" apos (.Tuple xs k tp) y cpos := ⟨ok_base h _ _, by rw [es]; rfl, hl, by rw [es]; rfl⟩
  refine (pe_dget2 o.hu1 he (p_tupT o hk) hd m).imp fun σ H Q ⟨env, h, Qp, Xp, re, hr, q, l, lx⟩ => ⟨env, h, _, Xp, re, hr, q, fun x h1 v H1 q1 e1 r1 z1 => ?_, lx⟩
  obtain ⟨qt, q1⟩ := q1
  obtain ⟨a, kvs, ws, rfl, rfl, ea, ga, rt⟩ := isT_rel z1 r1 qt
  refine ⟨a, rfl, .inr ⟨ws, .inl ga⟩, env, h1, _, Xp, re.ext e1, z1, q1, fun vs h2 us H2 q2 e2 r2 z2 => ?_, lx.on e1⟩
  refine ⟨by rw [← r2.length]; exact q2.1, fun p np => ?_⟩
  have xp : Ext H2 (upd H2 p (.tup us)) := .new np
  refine ⟨env, h2, _, Xp, ((re.ext e1).ext e2).ext xp, z2.keep np, q2.2, fun d h3 u H3 q3 e3 r3 z3 => ?_, ((lx.on e1).on e2).on xp⟩
  unfold getTV at q3
  simp only at q3
  split at q3
  · rename_i kvs3 e4
    split at q3
    · rename_i key ek
      obtain ⟨ws3, g3, rt3⟩ := z3 a _ e4
      have tu := e3.tp _ _ (upd_same (H := H2) (a := p) (o := .tup us))
      rw [keysT_rel r2 ek] at tu
      refine ⟨_, .inr ⟨ws3, key, p, .inl g3, rfl, tu, rfl⟩, ?_⟩
      obtain ⟨p1, p2⟩ := rt_val key rt3
      have le := l.on (((e1.trans e2).trans xp).trans e3)
      cases ev : valT kvs3 key with
      | none => rw [ev] at q3; rw [p2 ev]; exact le.here q3 r3 z3
      | some b => obtain ⟨w, ew, rw'⟩ := p1 b ev; rw [ev] at q3; rw [ew]; exact le.here q3 rw' z3
    · exact q3.elim
  · exact q3.elim
theorem p_subT (o : Cok P F C c lv X sc ow W) {eo : E} {ks : Es} {e : Expr} {xs : List Expr} {k : Nat} {tp pos : Pos} (he : PE X e (LE P W (evE P.G C eo))) (hk : PA X xs (LEs P W (evEs P.G C ks))) :
    PE X (.Subscript e (.Tuple xs k tp) pos) (LE P W (evE P.G C (.subT eo ks))) := by
  refine (pe_ix (ix_dct o.hu1) he (p_tupT o hk) (fun _ _ => rfl)).imp fun σ H Q ⟨env, h, Qp, Xp, re, hr, q, l, lx⟩ => ⟨env, h, _, Xp, re, hr, q, fun x h1 v H1 q1 e1 r1 z1 => ?_, lx⟩
  refine ⟨env, h1, _, Xp, re.ext e1, z1, q1, fun vs h2 us H2 q2 e2 r2 z2 => ?_, lx.on e1⟩
  refine ⟨by rw [← r2.length]; exact q2.1, fun p np => ?_⟩
  have xp : Ext H2 (upd H2 p (.tup us)) := .new np
  have q3 := q2.2
  have z3 := z2.keep (o := .tup us) np
  cases r1 with
  | loc a =>
    unfold subTV at q3
    simp only at q3
    split at q3
    · rename_i kvs3 e4
      split at q3
      · rename_i key ek
        split at q3
        · rename_i b ev
          obtain ⟨ws3, g3, rt3⟩ := z3 a _ e4
          have tu : upd H2 p (.tup us) p = some (.tup (key.map kV)) := by rw [← keysT_rel r2 ek]; exact upd_same
          obtain ⟨w, ew, rw'⟩ := (rt_val key rt3).1 b ev
          exact ⟨a, w, rfl, .inr ⟨ws3, key, p, .inl g3, rfl, tu, ew.symm⟩, (l.on ((e1.trans e2).trans xp)).here q3 rw' z3⟩
        · exact q3.elim
      · exact q3.elim
    · exact q3.elim
  | _ => exact q3.elim
end
/-! ## a lambda without parameters, handed to a def -/
section
variable {P : Pm} {F : FT} {C : CallS} {c : Ct} {lv : Nat} {X : Cx} {sc ow : Scope} {W : WX}
theorem lam_ok0 (o : Cok P F C c lv X sc ow W) {scope : Scope} {A : Around} {outer : List Env} {s : Shared} {H : Hp} {E : XK} {f c' : Addr} (L : LamP X.env.scope scope [])
    (hr : Room (lv + 3) (A.deeper (LamX.lamEnv X scope s.heap.objs.size f c'))) :
    Cok P F C { c with lm := false } lv (lcx X (X.N ++ []) A outer s H E scope f c') scope scope (fun cls d _ H => E cls d H) where
  wl := ⟨o.wl.hG, o.wl.fn, o.wl.len, o.wl.bd, o.wl.mf, o.wl.mc, o.wl.mks, o.wl.cl, o.wl.na, o.wl.me, o.wl.nd, o.wl.bn, o.wl.gl, o.wl.wx, o.wl.lam⟩
  hK := o.hK
  hN := by show X.N ++ [] = c.N; rw [List.append_nil, o.hN]
  nd := o.nd
  hsc := rfl
  calm := rfl
  st := fun x h => .inr (by
    rcases h with h | h
    · exact h
    · exact absurd rfl (L.ncell _ (PySem.mem_of_lookup h)))
  tk := takes_of rfl rfl rfl rfl
  room := hr
  lam := fun z => by cases z
theorem p_lamCall (o : Cok P F C c lv X sc ow W) {f : Nat} {b : E} {x : Str} {p lpos pos : Pos} {body : Expr} {scope : Scope} (hx : c.fnN f = some x) (hg : glB sc x = true) (hd : dunB x = true) (hlm : c.lm = true) (hf : (P.G.lf f).isSome = true) (hl : lamPB sc scope [] = true)
    (bd : ∀ {X' : Cx} {W' : WX}, Cok P F C { c with lm := false } lv X' scope scope W' → PE X' body (LE P W' (evE P.G C b))) :
    PE X (.Call (.Name x p) [.Lambda ⟨[], [], none, [], [], none, []⟩ body scope lpos] [] pos) (LE P W (evE P.G C (.lamCall f b))) := by
  obtain ⟨N, a, qn, sg, cdv, hN0, hva, hda, run⟩ := o.wl.lam f x hx hf
  obtain ⟨m1, m2⟩ := o.wl.mf f x hx
  obtain ⟨cc, T, hcode, TB, hT⟩ := o.lam hlm
  have L : LamP X.env.scope scope [] := lamP_by (by rw [o.hsc]; exact hl)
  have ns : NSee X scope X.N [] := ⟨by rw [List.append_nil, o.hN]; exact o.nd, rfl, fun i y e _ => e⟩
  have rm : Room (lv + 7) X.A := by
    have z := o.room
    unfold Ct.sl at z
    rw [if_pos hlm] at z
    exact z
  refine ⟨fun pins s σ H Q I ⟨env, h, Qp, Xp, re, hr, q, l, lx⟩ => ?_⟩
  refine wpAny_Call_Name_kw (ld_glob I (o.glx hg) m1 ?_ (dun_of hd).1)
  refine PySem.W.callWith_K (h₀ := X.base) I.ok.mod.kin (by rw [o.hK]; exact m2) ?_ rfl rfl
  show wpAny _ _ (spliced ((false, eval (.Lambda ⟨[], [], none, [], [], none, []⟩ body scope lpos) X.env) :: backTo pos (starEach [] X.env))) _ _ s
  refine Calls.spliced_cons (LamX.lam_make2 (T := Tbl.T) I TB hcode hT (fun p hp hq => Tbl.uq p hp _ hT hq) hr.tb rfl (L.has I.ok) fun fx c' pm ctv H1 s1 I1 eN T1 hfx hfn hfr hco => Calls.spliced_nil ⟨I1.kIn, ?_⟩)
  have x1 := extN_ext eN T1
  have z1 := hr.extN eN T1
  have re1 := re.ext x1
  have ml := run X.A X.stack s1 H1 fx h (fun Q' X' => evE P.G C b env h Q' X') Qp Q z1 q (l.on x1) rm
  have e0 : Env0 X.prog X.w P.K X.mg X.base X.A X.stack s1 H1 := by rw [← o.hK]; exact I1.env0
  have rc := ml e0 (fun pn xe W' p1 p2 rz tk => ⟨fun pinsZ sZ σZ HZ Q' IZ ⟨eH, hs, Qq, Xq, qe, lq, lxq⟩ => ?_⟩)
  · refine wpAny_call (codeAny_mono rc fun r s' hq => ?_)
    match r, hq with
    | .error e, hq =>
      obtain ⟨_, _, _, _, _, _, _, _, _, _, _, _, z⟩ := hq
      exact z.elim
    | .ok (.ret u), hq => exact I1.after hq
  · subst eH
    refine wpAny_Call_Name_kw (thn ((pe_var (pos := p1) (i := 0) hN0 hva (dun_of hda).1 (dun_of hda).2.1).run pinsZ sZ σZ HZ (fun v H2 => v = .ref fx ∧ H2 = HZ) IZ ⟨.ref fx, hs, rfl, rfl⟩) fun u s2 ⟨v, H2, I2, r2, ev, eH⟩ => ?_)
    subst ev eH
    have ru : u = Value.ref fx := r2
    subst ru
    have un : Un (frs X.stack) [] H2 H2 s1.heap s2.heap := I2.base
    have of2 := un.keep fx _ hfx hfn hfr List.not_mem_nil
    refine PySem.W.callWith_F0 ⟨_, _, _, _, of2⟩ ?_
    have rl := lam_run (ps := []) (us := []) (vs := []) (N0 := X.N) (E := WE W' σZ) (k := lv + 5) (Q := Q') (tb := LE P (fun cls d _ H => W' cls d σZ H) (evE P.G C b)) I1 L ns of2 hco rfl (by rw [o.hK]; exact I2.env0) I2.nolimit rz un .nil rfl
      (fun hr2 => bd (lam_ok0 o L (hr2.mono (by omega)))) ⟨env, h, Qq, Xq, by rw [List.map_nil, List.append_nil]; exact re1, z1, qe, lq, fun k h' H' a1 a2 a3 => lxq k h' H' a1 a2 a3⟩
    refine wpAny_call (codeAny_mono rl fun r s' hq => ?_)
    match r, hq with
    | .error e, hq => exact passAt tk σZ pinsZ H2 s2 e s' I2 hq
    | .ok (.ret u), hq => exact I2.after hq
end
end Mir

set_option autoImplicit false
namespace Mir
open PySem L2 PySem.Spec
open PyProof.Rows hiding St
variable [Tbl]

theorem plain_true {e : Expr} (h : plainB e = true) (hc : ∀ l os rs p, e ≠ .Compare l os rs p) (env : Env) (whole : Sem Value) :
    isTrue e env whole = (do let v ← whole; standAt e.pos; holding [v] (truthy v)) := by
  cases e with
  | BoolOp => cases h
  | UnaryOp op _ _ => cases op <;> first | rfl | cases h
  | IfExp => cases h
  | Compare l os rs p => exact absurd rfl (hc l os rs p)
  | _ => rfl
section
variable {P : Pm} {F : FT} {C : CallS} {lv : Nat}
mutual
theorem sE : ∀ (e : E) (c : Ct) (sc ow : Scope) (x : Expr), chkE c e sc x = true → ∀ {X : Cx} {W : WX}, Cok P F C c lv X sc ow W → PE X x (LE P W (evE P.G C e))
  | .var i, c, sc, ow, x, h, X, W, o => by
    cases x with
    | Name x pos => exact p_var o h
    | _ => exact absurd h Bool.false_ne_true
  | .int i, c, sc, ow, x, h, X, W, o => by
    cases x with
    | Constant k j pos =>
      cases k with
      | int n => rw [show i = n from of_decide_eq_true h]; exact p_const pe_int fun _ => .int _
      | _ => exact absurd h Bool.false_ne_true
    | _ => exact absurd h Bool.false_ne_true
  | .str i, c, sc, ow, x, h, X, W, o => by
    cases x with
    | Constant k j pos =>
      cases k with
      | str n => rw [show i = n from of_decide_eq_true h]; exact p_const pe_str fun _ => .str _
      | _ => exact absurd h Bool.false_ne_true
    | _ => exact absurd h Bool.false_ne_true
  | .bl i, c, sc, ow, x, h, X, W, o => by
    cases x with
    | Constant k j pos =>
      cases k with
      | bool n => rw [show i = n from beq_iff_eq.mp h]; exact p_const pe_bl fun _ => .bl _
      | _ => exact absurd h Bool.false_ne_true
    | _ => exact absurd h Bool.false_ne_true
  | .non, c, sc, ow, x, h, X, W, o => by
    cases x with
    | Constant k j pos =>
      cases k with
      | none => exact p_const pe_non fun _ => .non
      | _ => exact absurd h Bool.false_ne_true
    | _ => exact absurd h Bool.false_ne_true
  | .glob g, c, sc, ow, x, h, X, W, o => by
    cases x with
    | Name x pos => exact p_glob o (by rw [← o.wl.hG]; exact h)
    | _ => exact absurd h Bool.false_ne_true
  | .bin op a b, c, sc, ow, x, h, X, W, o => by
    cases x with
    | BinOp l q r pos =>
      simp only [chkE, Bool.and_eq_true, decide_eq_true_eq] at h
      rw [h.1.1.1.1]
      exact p_bin o (sE a _ sc ow l h.1.2 o) (sE b _ sc ow r h.2 o)
    | _ => exact absurd h Bool.false_ne_true
  | .neg a, c, sc, ow, x, h, X, W, o => by
    cases x with
    | UnaryOp q e pos =>
      cases q with
      | USub =>
        simp only [chkE, Bool.and_eq_true] at h
        exact p_neg (sE a _ sc ow e h.2 o)
      | _ => exact absurd h Bool.false_ne_true
    | _ => exact absurd h Bool.false_ne_true
  | .cmp op a b, c, sc, ow, x, h, X, W, o => by
    cases x with
    | Compare l os rs pos =>
      match os, rs, h with
      | [q], [r], h =>
        simp only [chkE, Bool.and_eq_true, decide_eq_true_eq] at h
        rw [h.1.1.1.1]
        exact p_cmp o (sE a _ sc ow l h.1.2 o) (sE b _ sc ow r h.2 o) (ok_in h.1.1.2 _)
      | [], _, h => exact absurd h Bool.false_ne_true
      | [_], [], h => exact absurd h Bool.false_ne_true
      | [_], _ :: _ :: _, h => exact absurd h Bool.false_ne_true
      | _ :: _ :: _, _, h => exact absurd h Bool.false_ne_true
    | _ => exact absurd h Bool.false_ne_true
  | .same a b, c, sc, ow, x, h, X, W, o => by
    cases x with
    | Compare l os rs pos =>
      match os, rs, h with
      | [q], [r], h =>
        simp only [chkE, Bool.and_eq_true, decide_eq_true_eq] at h
        rw [h.1.1.1.1]
        exact p_same o (sE a _ sc ow l h.1.2 o) (sE b _ sc ow r h.2 o) (ok_in h.1.1.2 _)
      | [], _, h => exact absurd h Bool.false_ne_true
      | [_], [], h => exact absurd h Bool.false_ne_true
      | [_], _ :: _ :: _, h => exact absurd h Bool.false_ne_true
      | _ :: _ :: _, _, h => exact absurd h Bool.false_ne_true
    | _ => exact absurd h Bool.false_ne_true
  | .chain op q a b d, c, sc, ow, x, h, X, W, o => by
    cases x with
    | Compare l os rs pos =>
      match os, rs, h with
      | [q1, q2], [m, r], h =>
        simp only [chkE, Bool.and_eq_true, decide_eq_true_eq] at h
        obtain ⟨⟨⟨⟨⟨⟨⟨h1, h2⟩, h3⟩, h4⟩, h5⟩, h6⟩, h7⟩, h8⟩ := h
        rw [h1, h2]
        exact p_chain o (sE a _ sc ow l h6 o) (sE b _ sc ow m h7 o) (sE d _ sc ow r h8 o) (ok_in h5 _)
      | [], _, h => exact absurd h Bool.false_ne_true
      | [_], _, h => exact absurd h Bool.false_ne_true
      | [_, _], [], h => exact absurd h Bool.false_ne_true
      | [_, _], [_], h => exact absurd h Bool.false_ne_true
      | [_, _], _ :: _ :: _ :: _, h => exact absurd h Bool.false_ne_true
      | _ :: _ :: _ :: _, _, h => exact absurd h Bool.false_ne_true
    | _ => exact absurd h Bool.false_ne_true
  | .and a b, c, sc, ow, x, h, X, W, o => by
    cases x with
    | BoolOp q xs pos =>
      match q, xs, h with
      | .And, x :: y :: [], h =>
        simp only [chkE, Bool.and_eq_true] at h
        exact p_and o (sE a _ sc ow x h.1.2 o) (pe_one (sE b _ sc ow y h.2 o))
      | .And, x :: y :: z :: zs, h =>
        simp only [chkE, Bool.and_eq_true] at h
        exact p_and o (sE a _ sc ow x h.1.2 o) (sE b _ sc ow _ h.2 o)
      | .And, [], h => exact absurd h Bool.false_ne_true
      | .And, [_], h => exact absurd h Bool.false_ne_true
      | .Or, _, h => exact absurd h Bool.false_ne_true
    | _ => exact absurd h Bool.false_ne_true
  | .or a b, c, sc, ow, x, h, X, W, o => by
    cases x with
    | BoolOp q xs pos =>
      match q, xs, h with
      | .Or, x :: y :: [], h =>
        simp only [chkE, Bool.and_eq_true] at h
        exact p_or o (sE a _ sc ow x h.1.2 o) (pe_one (sE b _ sc ow y h.2 o))
      | .Or, x :: y :: z :: zs, h =>
        simp only [chkE, Bool.and_eq_true] at h
        exact p_or o (sE a _ sc ow x h.1.2 o) (sE b _ sc ow _ h.2 o)
      | .Or, [], h => exact absurd h Bool.false_ne_true
      | .Or, [_], h => exact absurd h Bool.false_ne_true
      | .And, _, h => exact absurd h Bool.false_ne_true
    | _ => exact absurd h Bool.false_ne_true
  | .not a, c, sc, ow, x, h, X, W, o => by
    cases x with
    | UnaryOp q e pos =>
      cases q with
      | Not =>
        simp only [chkE, Bool.and_eq_true] at h
        exact p_not o (sE a _ sc ow e h.2 o)
      | _ => exact absurd h Bool.false_ne_true
    | _ => exact absurd h Bool.false_ne_true
  | .ite d a b, c, sc, ow, x, h, X, W, o => by
    cases x with
    | IfExp t x y pos =>
      simp only [chkE, Bool.and_eq_true] at h
      exact p_ite o (sB d _ sc ow t h.1.1.2 o) (sE a _ sc ow x h.1.2 o) (sE b _ sc ow y h.2 o)
    | _ => exact absurd h Bool.false_ne_true
  | .sub a i, c, sc, ow, x, h, X, W, o => by
    cases x with
    | Subscript e j pos =>
      have h : (okE e && okE j && chkE c a sc e && chkE c i sc j) = true := by
        cases j <;> exact h
      simp only [Bool.and_eq_true] at h
      exact p_sub o (sE a _ sc ow e h.1.2 o) (sE i _ sc ow j h.2 o) h.1.1.2
    | _ => exact absurd h Bool.false_ne_true
  | .slice a lo hi, c, sc, ow, x, h, X, W, o => by
    cases x with
    | Subscript e j pos =>
      cases j with
      | Slice l u st p2 =>
        cases st with
        | none =>
          simp only [chkE, Bool.and_eq_true] at h
          exact p_slice o (sE a _ sc ow e h.1.1.2 o) (sO lo _ sc ow l h.1.2 o) (sO hi _ sc ow u h.2 o)
        | some _ => exact absurd h Bool.false_ne_true
      | _ => exact absurd h Bool.false_ne_true
    | _ => exact absurd h Bool.false_ne_true
  | .tup es, c, sc, ow, x, h, X, W, o => by
    cases x with
    | Tuple xs k pos => exact p_tup (sEs es _ sc ow xs h o)
    | _ => exact absurd h Bool.false_ne_true
  | .lst es, c, sc, ow, x, h, X, W, o => by
    cases x with
    | List xs pos => exact p_lst (sEs es _ sc ow xs h o)
    | _ => exact absurd h Bool.false_ne_true
  | .dict0, c, sc, ow, x, h, X, W, o => by
    cases x with
    | Dict ks vs pos =>
      match ks, vs, h with
      | [], [], h => exact p_dict0
      | _ :: _, _, h => exact absurd h Bool.false_ne_true
      | [], _ :: _, h => exact absurd h Bool.false_ne_true
    | _ => exact absurd h Bool.false_ne_true
  | .dict es, c, sc, ow, x, h, X, W, o => by
    cases x with
    | Dict ks vs pos =>
      have h : (decide (ks ≠ []) && decide (ks.length = vs.length) && decide (ks.length ≤ 15) && ks.all (·.isSome) && chkPs c es sc ks vs) = true := by
        cases ks with
        | nil => cases vs <;> exact h
        | cons _ _ => exact h
      simp only [Bool.and_eq_true, decide_eq_true_eq] at h
      obtain ⟨trs, g1, g2⟩ := sPs es _ sc ow ks vs pos h.2 o
      exact p_disp g1 g2 h.1.1.1.1 h.1.1.1.2 h.1.1.2 h.1.2
    | _ => exact absurd h Bool.false_ne_true
  | .fld e f, c, sc, ow, x, h, X, W, o => by
    cases x with
    | Attribute ob s pos =>
      simp only [chkE, Bool.and_eq_true] at h
      exact p_fld o (sE e _ sc ow ob h.1.2 o) h.1.1 (by rw [← o.wl.hG]; exact at_get h.2)
    | _ => exact absurd h Bool.false_ne_true
  | .call f es, c, sc, ow, x, h, X, W, o => by
    cases x with
    | Call fn args kws pos =>
      cases fn with
      | Name x p =>
        cases kws with
        | nil =>
          simp only [chkE, Bool.and_eq_true] at h
          exact p_call o (opt_get h.1.1.1) h.1.1.2 h.1.2 h.2 (sEs es _ sc ow args h.2 o)
        | cons _ _ => exact absurd h Bool.false_ne_true
      | _ => exact absurd h Bool.false_ne_true
    | _ => exact absurd h Bool.false_ne_true
  | .meth ob m es, c, sc, ow, x, h, X, W, o => by
    cases x with
    | Call fn args kws pos =>
      cases fn with
      | Attribute e s apos =>
        cases kws with
        | nil =>
          simp only [chkE, Bool.and_eq_true, decide_eq_true_eq] at h
          obtain ⟨⟨⟨⟨⟨h1, h2⟩, h3⟩, h4⟩, h5⟩, h6⟩ := h
          exact p_meth o h1 h3 h4 (by rw [← o.wl.hG]; exact at_get h2) (sE ob _ sc ow e h5 o) h6 (sEs es _ sc ow args h6 o)
        | cons _ _ => exact absurd h Bool.false_ne_true
      | _ => exact absurd h Bool.false_ne_true
    | _ => exact absurd h Bool.false_ne_true
  | .make k es, c, sc, ow, x, h, X, W, o => by
    cases x with
    | Call fn args kws pos =>
      cases fn with
      | Name x p =>
        cases kws with
        | nil =>
          simp only [chkE, Bool.and_eq_true, Option.isSome_iff_exists] at h
          obtain ⟨⟨⟨⟨h0, h1⟩, h2⟩, h3⟩, h4⟩ := h
          exact p_make o (opt_get h1) h2 h3 h4 (sEs es _ sc ow args h4 o) (by rw [← o.wl.hG]; exact h0)
        | cons _ _ => exact absurd h Bool.false_ne_true
      | _ => exact absurd h Bool.false_ne_true
    | _ => exact absurd h Bool.false_ne_true
  | .blt b es, c, sc, ow, x, h, X, W, o => by
    cases x with
    | Call fn args kws pos =>
      cases fn with
      | Name x p =>
        match args, kws, h with
        | a :: as, [], h =>
          simp only [chkE, Bool.and_eq_true, decide_eq_true_eq] at h
          obtain ⟨⟨⟨h1, h2⟩, h3⟩, h4⟩ := h
          subst h1
          exact p_blt o h2 h3 h4 (sEs es _ sc ow _ h4 o)
        | [], _, h => exact absurd h Bool.false_ne_true
        | _ :: _, _ :: _, h => exact absurd h Bool.false_ne_true
      | _ => exact absurd h Bool.false_ne_true
    | _ => exact absurd h Bool.false_ne_true
  | .bm m ob es, c, sc, ow, x, h, X, W, o => by
    cases x with
    | Call fn args kws pos =>
      cases fn with
      | Attribute e s apos =>
        cases kws with
        | nil =>
          simp only [chkE, Bool.and_eq_true, decide_eq_true_eq] at h
          obtain ⟨⟨⟨⟨⟨h1, h2⟩, h3⟩, h4⟩, h5⟩, h6⟩ := h
          subst h2
          exact p_bm o h1 h3 h4 (sE ob _ sc ow e h5 o) h6 (sEs es _ sc ow args h6 o)
        | cons _ _ => exact absurd h Bool.false_ne_true
      | _ => exact absurd h Bool.false_ne_true
    | _ => exact absurd h Bool.false_ne_true
  | .isi e t, c, sc, ow, x, h, X, W, o => by
    cases x with
    | Call fn args kws pos =>
      cases fn with
      | Name x p =>
        simp only [chkE, Bool.and_eq_true, decide_eq_true_eq] at h
        obtain ⟨⟨⟨h1, h2⟩, h3⟩, h4⟩ := h
        subst h1
        split at h4
        · rename_i a y
          simp only [Bool.and_eq_true] at h4
          obtain ⟨⟨g1, g2⟩, g3⟩ := h4
          cases y with
          | Name y p2 =>
            simp only [isiN, Bool.and_eq_true, decide_eq_true_eq] at g3
            obtain ⟨⟨⟨k1, k2⟩, k3⟩, k4⟩ := g3
            subst k2
            exact p_isi o (fun k e => by subst e; exact absurd k1 Bool.false_ne_true) h2 h3 k3 k4 g1 (sE e _ sc ow a g2 o)
          | _ => exact absurd g3 Bool.false_ne_true
        · exact absurd h4 Bool.false_ne_true
      | _ => exact absurd h Bool.false_ne_true
    | _ => exact absurd h Bool.false_ne_true
  | .isx e k, c, sc, ow, x, h, X, W, o => by
    cases x with
    | Call fn args kws pos =>
      cases fn with
      | Name x p =>
        simp only [chkE, Bool.and_eq_true, decide_eq_true_eq] at h
        obtain ⟨⟨⟨h1, h2⟩, h3⟩, h4⟩ := h
        subst h1
        split at h4
        · rename_i a y
          simp only [Bool.and_eq_true] at h4
          obtain ⟨⟨g1, g2⟩, g3⟩ := h4
          cases y with
          | Name y p2 => exact p_isx o h2 h3 g3 g1 (sE e _ sc ow a g2 o)
          | _ => exact absurd g3 Bool.false_ne_true
        · exact absurd h4 Bool.false_ne_true
      | _ => exact absurd h Bool.false_ne_true
    | _ => exact absurd h Bool.false_ne_true
  | .make0 k, c, sc, ow, x, h, X, W, o => by
    cases x with
    | Call fn args kws pos =>
      cases fn with
      | Name x p =>
        cases args with
        | nil =>
          cases kws with
          | nil =>
            simp only [chkE, Bool.and_eq_true] at h
            obtain ⟨⟨⟨h0, h1⟩, h2⟩, h3⟩ := h
            exact p_make0 o (by rw [← o.wl.hG]; exact h0) (opt_get h1) h2 h3
          | cons _ _ => exact absurd h Bool.false_ne_true
        | cons _ _ => exact absurd h Bool.false_ne_true
      | _ => exact absurd h Bool.false_ne_true
    | _ => exact absurd h Bool.false_ne_true
  | .rev e, c, sc, ow, x, h, X, W, o => by
    cases x with
    | Subscript a i pos =>
      simp only [chkE, Bool.and_eq_true] at h
      obtain ⟨k, p1, p2, p3, rfl⟩ := isRev_eq h.1.1
      exact p_rev o (sE e _ sc ow a h.2 o)
    | _ => exact absurd h Bool.false_ne_true
  | .comp elt t it ifs ws, c, sc, ow, x, h, X, W, o => by
    cases x with
    | ListComp el gs scope pos =>
      match gs, h with
      | [⟨tg, iter, fs, k⟩], h =>
        simp only [chkE, Bool.and_eq_true, decide_eq_true_eq] at h
        obtain ⟨⟨⟨⟨⟨⟨⟨h0, h1⟩, h2⟩, h3⟩, h4⟩, h5⟩, h6⟩, h7⟩ := h
        subst h0
        exact p_comp o h1 h7 (sI it _ sc ow tg iter h3 o) (i_set it _ sc tg iter h3 _) (fun o' => sT o' t tg h4) (fun o' => sBs ifs _ _ _ fs h5 o') (fun o' => sE elt _ _ _ el h6 o')
      | [], h => simp [chkE] at h
      | _ :: _ :: _, h => simp [chkE] at h
    | _ => exact absurd h Bool.false_ne_true
  | .compD elt t e ifs ws, c, sc, ow, x, h, X, W, o => by
    cases x with
    | ListComp el gs scope pos =>
      match gs, h with
      | [⟨tg, iter, fs, k⟩], h =>
        simp only [chkE, Bool.and_eq_true, decide_eq_true_eq] at h
        obtain ⟨⟨⟨⟨⟨⟨⟨⟨⟨h0, h1⟩, h2⟩, h3⟩, h4⟩, h5⟩, h6⟩, h7⟩, h8⟩, h9⟩ := h
        subst h0
        exact p_compD o h1 h9 (sE e _ sc ow iter h5 o) (ok_set h3 _) (fun o' => sT o' t tg h6) (fun o' => sBs ifs _ _ _ fs h7 o') (fun o' => sE elt _ _ _ el h8 o') (fun _ _ _ _ _ => trivial)
      | [], h => simp [chkE] at h
      | _ :: _ :: _, h => simp [chkE] at h
    | _ => exact absurd h Bool.false_ne_true
  | .listItems e, c, sc, ow, x, h, X, W, o => by
    cases x with
    | Call fn args kws pos =>
      cases fn with
      | Name x p =>
        simp only [chkE, Bool.and_eq_true, decide_eq_true_eq] at h
        obtain ⟨⟨⟨h1, h2⟩, h3⟩, h4⟩ := h
        subst h1
        split at h4
        · rename_i y
          split at h4
          · rename_i ob eo
            obtain ⟨apos, cpos, e1, e2⟩ := li_arg eo
            subst e1
            simp only [Bool.and_eq_true] at h4
            exact p_listItems o h2 h3 h4.1 e2 (sE e _ sc ow ob h4.2 o)
          · exact absurd h4 Bool.false_ne_true
        · exact absurd h4 Bool.false_ne_true
      | _ => exact absurd h Bool.false_ne_true
    | _ => exact absurd h Bool.false_ne_true
  | .sortK e k, c, sc, ow, x, h, X, W, o => by
    cases x with
    | Call fn args kws pos =>
      cases fn with
      | Name x p =>
        simp only [chkE, Bool.and_eq_true, decide_eq_true_eq] at h
        obtain ⟨⟨⟨h1, h2⟩, h3⟩, h4⟩ := h
        subst h1
        split at h4
        · rename_i y w
          simp only [Bool.and_eq_true] at h4
          obtain ⟨⟨h5, h6⟩, h7⟩ := h4
          split at h7
          · rename_i kx ek
            obtain ⟨kpos, rfl⟩ := keyK_eq ek
            cases k with
            | lam a b =>
              cases kx with
              | Lambda ps body scope lpos =>
                simp only [chkKF, Bool.and_eq_true, decide_eq_true_eq] at h7
                obtain ⟨⟨⟨⟨⟨⟨g1, g2⟩, g3⟩, g4⟩, gv⟩, g5⟩, g6⟩ := h7
                exact p_sortL o h2 h3 h5 (sE e _ sc ow y h6 o) g1 g2 g3 g4 (by simpa using gv) (fun o' => sE b _ scope scope body g6 o')
              | _ => exact absurd h7 Bool.false_ne_true
            | fn f =>
              cases kx with
              | Name z zp =>
                simp only [chkKF, Bool.and_eq_true] at h7
                exact p_sortF o h2 h3 h5 (sE e _ sc ow y h6 o) (opt_get h7.1.1) h7.1.2 h7.2
              | _ => exact absurd h7 Bool.false_ne_true
          · exact absurd h7 Bool.false_ne_true
        · exact absurd h4 Bool.false_ne_true
      | _ => exact absurd h Bool.false_ne_true
    | _ => exact absurd h Bool.false_ne_true
  | .dictT0, c, sc, ow, x, h, X, W, o => by
    cases x with
    | Dict ks vs pos =>
      match ks, vs, h with
      | [], [], h => exact p_dictT0
      | _ :: _, _, h => exact absurd h Bool.false_ne_true
      | [], _ :: _, h => exact absurd h Bool.false_ne_true
    | _ => exact absurd h Bool.false_ne_true
  | .getT eo ks d, c, sc, ow, x, h, X, W, o => by
    cases x with
    | Call fn args kws pos =>
      cases fn with
      | Attribute e s apos =>
        simp only [chkE, Bool.and_eq_true, decide_eq_true_eq] at h
        obtain ⟨⟨⟨⟨h1, h2⟩, h3⟩, h4⟩, h5⟩ := h
        subst h2
        split at h5
        · rename_i xs k tp y
          simp only [Bool.and_eq_true] at h5
          exact p_getT o h1 h5.1.1 h3 (sE eo _ sc ow e h4 o) (sEs ks _ sc ow xs h5.1.2 o) (sE d _ sc ow y h5.2 o)
        · exact absurd h5 Bool.false_ne_true
      | _ => exact absurd h Bool.false_ne_true
    | _ => exact absurd h Bool.false_ne_true
  | .subT eo ks, c, sc, ow, x, h, X, W, o => by
    cases x with
    | Subscript e j pos =>
      cases j with
      | Tuple xs k tp =>
        simp only [chkE, Bool.and_eq_true] at h
        exact p_subT o (sE eo _ sc ow e h.1.2 o) (sEs ks _ sc ow xs h.2 o)
      | _ => exact absurd h Bool.false_ne_true
    | _ => exact absurd h Bool.false_ne_true
  | .lamCall f b, c, sc, ow, x, h, X, W, o => by
    cases x with
    | Call fn args kws pos =>
      cases fn with
      | Name x p =>
        simp only [chkE, Bool.and_eq_true] at h
        obtain ⟨⟨⟨⟨⟨h1, h2⟩, h3⟩, h4⟩, h5⟩, h6⟩ := h
        split at h6
        · rename_i ps body scope lpos
          simp only [Bool.and_eq_true] at h6
          obtain ⟨⟨⟨g1, g2⟩, g3⟩, g4⟩ := h6
          obtain rfl := lam0_eq g1
          exact p_lamCall o (opt_get h1) h2 h3 h4 (by rw [← o.wl.hG]; exact h5) g2 (fun o' => sE b _ scope scope body g4 o')
        · exact absurd h6 Bool.false_ne_true
      | _ => exact absurd h Bool.false_ne_true
    | _ => exact absurd h Bool.false_ne_true
theorem sEs : ∀ (es : Es) (c : Ct) (sc ow : Scope) (xs : List Expr), chkEs c es sc xs = true → ∀ {X : Cx} {W : WX}, Cok P F C c lv X sc ow W → PA X xs (LEs P W (evEs P.G C es))
  | .nil, c, sc, ow, [], h, X, W, o => p_nil
  | .nil, _, _, _, _ :: _, h, _, _, _ => absurd h Bool.false_ne_true
  | .cons _ _, _, _, _, [], h, _, _, _ => absurd h Bool.false_ne_true
  | .cons e es, c, sc, ow, x :: xs, h, X, W, o => by
    simp only [chkEs, Bool.and_eq_true] at h
    exact p_cons (sE e _ sc ow x h.1.2 o) (sEs es _ sc ow xs h.2 o) h.1.1
theorem sPs : ∀ (es : Es) (c : Ct) (sc ow : Scope) (ks : List (Option Expr)) (vs : List Expr) (pos : Pos), chkPs c es sc ks vs = true → ∀ {X : Cx} {W : WX}, Cok P F C c lv X sc ow W → ∃ trs, PPs X pos ks vs trs ∧ LPs P W trs (evEs P.G C es)
  | .nil, c, sc, ow, [], [], pos, h, X, W, o => ⟨[], pps_nil, lps_nil⟩
  | .nil, c, sc, ow, _ :: _, _, pos, h, X, W, o => absurd h Bool.false_ne_true
  | .nil, c, sc, ow, [], _ :: _, pos, h, X, W, o => absurd h Bool.false_ne_true
  | .cons k (.cons v r), c, sc, ow, some x :: ks, y :: vs, pos, h, X, W, o => by
    simp only [chkPs, Bool.and_eq_true] at h
    obtain ⟨trs, g1, g2⟩ := sPs r _ sc ow ks vs pos h.2 o
    exact ⟨_, pps_cons (sE k _ sc ow x h.1.1 o) (sE v _ sc ow y h.1.2 o) g1, lps_cons g2⟩
  | .cons k .nil, c, sc, ow, ks, vs, pos, h, X, W, o => absurd h (by cases ks <;> cases vs <;> simp [chkPs])
  | .cons k (.cons v r), c, sc, ow, [], _, pos, h, X, W, o => absurd h (by simp [chkPs])
  | .cons k (.cons v r), c, sc, ow, none :: _, _, pos, h, X, W, o => absurd h (by simp [chkPs])
  | .cons k (.cons v r), c, sc, ow, some x :: _, [], pos, h, X, W, o => absurd h (by simp [chkPs])
theorem sO : ∀ (e : O) (c : Ct) (sc ow : Scope) (x : Option Expr), chkO c e sc x = true → ∀ {X : Cx} {W : WX}, Cok P F C c lv X sc ow W → PO X x (LO P W (evO P.G C e))
  | .non, c, sc, ow, none, h, X, W, o => p_none
  | .non, _, _, _, some _, h, _, _, _ => absurd h Bool.false_ne_true
  | .some _, _, _, _, none, h, _, _, _ => absurd h Bool.false_ne_true
  | .some e, c, sc, ow, some x, h, X, W, o => by
    simp only [chkO, Bool.and_eq_true] at h
    exact p_some (sE e _ sc ow x h.2 o)
theorem sB : ∀ (b : B) (c : Ct) (sc ow : Scope) (x : Expr), chkB c b sc x = true → ∀ {X : Cx} {W : WX}, Cok P F C c lv X sc ow W → PT X x (LB P W (evB P.G C b))
  | .val (.var i), c, sc, ow, x, h, X, W, o => by
    have h : (okE x && chkE c (.var i) sc x && plainB x) = true := h
    simp only [Bool.and_eq_true] at h
    exact p_val o (sE (.var i) _ sc ow x h.1.2 o) (plain_true h.2 (fun l os rs p e => by subst e; exact absurd h.1.2 Bool.false_ne_true) X.env)
  | .val (.int i), c, sc, ow, x, h, X, W, o => by
    have h : (okE x && chkE c (.int i) sc x && plainB x) = true := h
    simp only [Bool.and_eq_true] at h
    exact p_val o (sE (.int i) _ sc ow x h.1.2 o) (plain_true h.2 (fun l os rs p e => by subst e; exact absurd h.1.2 Bool.false_ne_true) X.env)
  | .val (.str s), c, sc, ow, x, h, X, W, o => by
    have h : (okE x && chkE c (.str s) sc x && plainB x) = true := h
    simp only [Bool.and_eq_true] at h
    exact p_val o (sE (.str s) _ sc ow x h.1.2 o) (plain_true h.2 (fun l os rs p e => by subst e; exact absurd h.1.2 Bool.false_ne_true) X.env)
  | .val (.bl b), c, sc, ow, x, h, X, W, o => by
    have h : (okE x && chkE c (.bl b) sc x && plainB x) = true := h
    simp only [Bool.and_eq_true] at h
    exact p_val o (sE (.bl b) _ sc ow x h.1.2 o) (plain_true h.2 (fun l os rs p e => by subst e; exact absurd h.1.2 Bool.false_ne_true) X.env)
  | .val (.non), c, sc, ow, x, h, X, W, o => by
    have h : (okE x && chkE c (.non) sc x && plainB x) = true := h
    simp only [Bool.and_eq_true] at h
    exact p_val o (sE (.non) _ sc ow x h.1.2 o) (plain_true h.2 (fun l os rs p e => by subst e; exact absurd h.1.2 Bool.false_ne_true) X.env)
  | .val (.glob g), c, sc, ow, x, h, X, W, o => by
    have h : (okE x && chkE c (.glob g) sc x && plainB x) = true := h
    simp only [Bool.and_eq_true] at h
    exact p_val o (sE (.glob g) _ sc ow x h.1.2 o) (plain_true h.2 (fun l os rs p e => by subst e; exact absurd h.1.2 Bool.false_ne_true) X.env)
  | .val (.bin op a b), c, sc, ow, x, h, X, W, o => by
    have h : (okE x && chkE c (.bin op a b) sc x && plainB x) = true := h
    simp only [Bool.and_eq_true] at h
    exact p_val o (sE (.bin op a b) _ sc ow x h.1.2 o) (plain_true h.2 (fun l os rs p e => by subst e; exact absurd h.1.2 Bool.false_ne_true) X.env)
  | .val (.neg a), c, sc, ow, x, h, X, W, o => by
    have h : (okE x && chkE c (.neg a) sc x && plainB x) = true := h
    simp only [Bool.and_eq_true] at h
    exact p_val o (sE (.neg a) _ sc ow x h.1.2 o) (plain_true h.2 (fun l os rs p e => by subst e; exact absurd h.1.2 Bool.false_ne_true) X.env)
  | .val (.and a b), c, sc, ow, x, h, X, W, o => by
    have h : (okE x && chkE c (.and a b) sc x && plainB x) = true := h
    simp only [Bool.and_eq_true] at h
    exact p_val o (sE (.and a b) _ sc ow x h.1.2 o) (plain_true h.2 (fun l os rs p e => by subst e; exact absurd h.1.2 Bool.false_ne_true) X.env)
  | .val (.or a b), c, sc, ow, x, h, X, W, o => by
    have h : (okE x && chkE c (.or a b) sc x && plainB x) = true := h
    simp only [Bool.and_eq_true] at h
    exact p_val o (sE (.or a b) _ sc ow x h.1.2 o) (plain_true h.2 (fun l os rs p e => by subst e; exact absurd h.1.2 Bool.false_ne_true) X.env)
  | .val (.not a), c, sc, ow, x, h, X, W, o => by
    have h : (okE x && chkE c (.not a) sc x && plainB x) = true := h
    simp only [Bool.and_eq_true] at h
    exact p_val o (sE (.not a) _ sc ow x h.1.2 o) (plain_true h.2 (fun l os rs p e => by subst e; exact absurd h.1.2 Bool.false_ne_true) X.env)
  | .val (.ite d a b), c, sc, ow, x, h, X, W, o => by
    have h : (okE x && chkE c (.ite d a b) sc x && plainB x) = true := h
    simp only [Bool.and_eq_true] at h
    exact p_val o (sE (.ite d a b) _ sc ow x h.1.2 o) (plain_true h.2 (fun l os rs p e => by subst e; exact absurd h.1.2 Bool.false_ne_true) X.env)
  | .val (.sub a i), c, sc, ow, x, h, X, W, o => by
    have h : (okE x && chkE c (.sub a i) sc x && plainB x) = true := h
    simp only [Bool.and_eq_true] at h
    exact p_val o (sE (.sub a i) _ sc ow x h.1.2 o) (plain_true h.2 (fun l os rs p e => by subst e; exact absurd h.1.2 Bool.false_ne_true) X.env)
  | .val (.slice a lo hi), c, sc, ow, x, h, X, W, o => by
    have h : (okE x && chkE c (.slice a lo hi) sc x && plainB x) = true := h
    simp only [Bool.and_eq_true] at h
    exact p_val o (sE (.slice a lo hi) _ sc ow x h.1.2 o) (plain_true h.2 (fun l os rs p e => by subst e; exact absurd h.1.2 Bool.false_ne_true) X.env)
  | .val (.tup es), c, sc, ow, x, h, X, W, o => by
    have h : (okE x && chkE c (.tup es) sc x && plainB x) = true := h
    simp only [Bool.and_eq_true] at h
    exact p_val o (sE (.tup es) _ sc ow x h.1.2 o) (plain_true h.2 (fun l os rs p e => by subst e; exact absurd h.1.2 Bool.false_ne_true) X.env)
  | .val (.lst es), c, sc, ow, x, h, X, W, o => by
    have h : (okE x && chkE c (.lst es) sc x && plainB x) = true := h
    simp only [Bool.and_eq_true] at h
    exact p_val o (sE (.lst es) _ sc ow x h.1.2 o) (plain_true h.2 (fun l os rs p e => by subst e; exact absurd h.1.2 Bool.false_ne_true) X.env)
  | .val (.dict0), c, sc, ow, x, h, X, W, o => by
    have h : (okE x && chkE c (.dict0) sc x && plainB x) = true := h
    simp only [Bool.and_eq_true] at h
    exact p_val o (sE (.dict0) _ sc ow x h.1.2 o) (plain_true h.2 (fun l os rs p e => by subst e; exact absurd h.1.2 Bool.false_ne_true) X.env)
  | .val (.dict es), c, sc, ow, x, h, X, W, o => by
    have h : (okE x && chkE c (.dict es) sc x && plainB x) = true := h
    simp only [Bool.and_eq_true] at h
    exact p_val o (sE (.dict es) _ sc ow x h.1.2 o) (plain_true h.2 (fun l os rs p e => by subst e; exact absurd h.1.2 Bool.false_ne_true) X.env)
  | .val (.fld e f), c, sc, ow, x, h, X, W, o => by
    have h : (okE x && chkE c (.fld e f) sc x && plainB x) = true := h
    simp only [Bool.and_eq_true] at h
    exact p_val o (sE (.fld e f) _ sc ow x h.1.2 o) (plain_true h.2 (fun l os rs p e => by subst e; exact absurd h.1.2 Bool.false_ne_true) X.env)
  | .val (.call f es), c, sc, ow, x, h, X, W, o => by
    have h : (okE x && chkE c (.call f es) sc x && plainB x) = true := h
    simp only [Bool.and_eq_true] at h
    exact p_val o (sE (.call f es) _ sc ow x h.1.2 o) (plain_true h.2 (fun l os rs p e => by subst e; exact absurd h.1.2 Bool.false_ne_true) X.env)
  | .val (.meth ob m es), c, sc, ow, x, h, X, W, o => by
    have h : (okE x && chkE c (.meth ob m es) sc x && plainB x) = true := h
    simp only [Bool.and_eq_true] at h
    exact p_val o (sE (.meth ob m es) _ sc ow x h.1.2 o) (plain_true h.2 (fun l os rs p e => by subst e; exact absurd h.1.2 Bool.false_ne_true) X.env)
  | .val (.make k es), c, sc, ow, x, h, X, W, o => by
    have h : (okE x && chkE c (.make k es) sc x && plainB x) = true := h
    simp only [Bool.and_eq_true] at h
    exact p_val o (sE (.make k es) _ sc ow x h.1.2 o) (plain_true h.2 (fun l os rs p e => by subst e; exact absurd h.1.2 Bool.false_ne_true) X.env)
  | .val (.blt b es), c, sc, ow, x, h, X, W, o => by
    have h : (okE x && chkE c (.blt b es) sc x && plainB x) = true := h
    simp only [Bool.and_eq_true] at h
    exact p_val o (sE (.blt b es) _ sc ow x h.1.2 o) (plain_true h.2 (fun l os rs p e => by subst e; exact absurd h.1.2 Bool.false_ne_true) X.env)
  | .val (.bm m ob es), c, sc, ow, x, h, X, W, o => by
    have h : (okE x && chkE c (.bm m ob es) sc x && plainB x) = true := h
    simp only [Bool.and_eq_true] at h
    exact p_val o (sE (.bm m ob es) _ sc ow x h.1.2 o) (plain_true h.2 (fun l os rs p e => by subst e; exact absurd h.1.2 Bool.false_ne_true) X.env)
  | .val (.isi e t), c, sc, ow, x, h, X, W, o => by
    have h : (okE x && chkE c (.isi e t) sc x && plainB x) = true := h
    simp only [Bool.and_eq_true] at h
    exact p_val o (sE (.isi e t) _ sc ow x h.1.2 o) (plain_true h.2 (fun l os rs p e => by subst e; exact absurd h.1.2 Bool.false_ne_true) X.env)
  | .val (.isx e t), c, sc, ow, x, h, X, W, o => by
    have h : (okE x && chkE c (.isx e t) sc x && plainB x) = true := h
    simp only [Bool.and_eq_true] at h
    exact p_val o (sE (.isx e t) _ sc ow x h.1.2 o) (plain_true h.2 (fun l os rs p e => by subst e; exact absurd h.1.2 Bool.false_ne_true) X.env)
  | .val (.make0 e), c, sc, ow, x, h, X, W, o => by
    have h : (okE x && chkE c (.make0 e) sc x && plainB x) = true := h
    simp only [Bool.and_eq_true] at h
    exact p_val o (sE (.make0 e) _ sc ow x h.1.2 o) (plain_true h.2 (fun l os rs p e => by subst e; exact absurd h.1.2 Bool.false_ne_true) X.env)
  | .val (.rev e), c, sc, ow, x, h, X, W, o => by
    have h : (okE x && chkE c (.rev e) sc x && plainB x) = true := h
    simp only [Bool.and_eq_true] at h
    exact p_val o (sE (.rev e) _ sc ow x h.1.2 o) (plain_true h.2 (fun l os rs p e => by subst e; exact absurd h.1.2 Bool.false_ne_true) X.env)
  | .val (.comp elt t it ifs ws), c, sc, ow, x, h, X, W, o => by
    have h : (okE x && chkE c (.comp elt t it ifs ws) sc x && plainB x) = true := h
    simp only [Bool.and_eq_true] at h
    exact p_val o (sE (.comp elt t it ifs ws) _ sc ow x h.1.2 o) (plain_true h.2 (fun l os rs p e => by subst e; exact absurd h.1.2 Bool.false_ne_true) X.env)
  | .val (.compD elt t e ifs ws), c, sc, ow, x, h, X, W, o => by
    have h : (okE x && chkE c (.compD elt t e ifs ws) sc x && plainB x) = true := h
    simp only [Bool.and_eq_true] at h
    exact p_val o (sE (.compD elt t e ifs ws) _ sc ow x h.1.2 o) (plain_true h.2 (fun l os rs p e => by subst e; exact absurd h.1.2 Bool.false_ne_true) X.env)
  | .val (.listItems e), c, sc, ow, x, h, X, W, o => by
    have h : (okE x && chkE c (.listItems e) sc x && plainB x) = true := h
    simp only [Bool.and_eq_true] at h
    exact p_val o (sE (.listItems e) _ sc ow x h.1.2 o) (plain_true h.2 (fun l os rs p e => by subst e; exact absurd h.1.2 Bool.false_ne_true) X.env)
  | .val (.sortK e k), c, sc, ow, x, h, X, W, o => by
    have h : (okE x && chkE c (.sortK e k) sc x && plainB x) = true := h
    simp only [Bool.and_eq_true] at h
    exact p_val o (sE (.sortK e k) _ sc ow x h.1.2 o) (plain_true h.2 (fun l os rs p e => by subst e; exact absurd h.1.2 Bool.false_ne_true) X.env)
  | .val (.dictT0), c, sc, ow, x, h, X, W, o => by
    have h : (okE x && chkE c (.dictT0) sc x && plainB x) = true := h
    simp only [Bool.and_eq_true] at h
    exact p_val o (sE (.dictT0) _ sc ow x h.1.2 o) (plain_true h.2 (fun l os rs p e => by subst e; exact absurd h.1.2 Bool.false_ne_true) X.env)
  | .val (.getT eo ks d), c, sc, ow, x, h, X, W, o => by
    have h : (okE x && chkE c (.getT eo ks d) sc x && plainB x) = true := h
    simp only [Bool.and_eq_true] at h
    exact p_val o (sE (.getT eo ks d) _ sc ow x h.1.2 o) (plain_true h.2 (fun l os rs p e => by subst e; exact absurd h.1.2 Bool.false_ne_true) X.env)
  | .val (.subT eo ks), c, sc, ow, x, h, X, W, o => by
    have h : (okE x && chkE c (.subT eo ks) sc x && plainB x) = true := h
    simp only [Bool.and_eq_true] at h
    exact p_val o (sE (.subT eo ks) _ sc ow x h.1.2 o) (plain_true h.2 (fun l os rs p e => by subst e; exact absurd h.1.2 Bool.false_ne_true) X.env)
  | .val (.lamCall f b), c, sc, ow, x, h, X, W, o => by
    have h : (okE x && chkE c (.lamCall f b) sc x && plainB x) = true := h
    simp only [Bool.and_eq_true] at h
    exact p_val o (sE (.lamCall f b) _ sc ow x h.1.2 o) (plain_true h.2 (fun l os rs p e => by subst e; exact absurd h.1.2 Bool.false_ne_true) X.env)
  | .val (.cmp op a b), c, sc, ow, x, h, X, W, o => by
    have h : (okE x && chkE c (.cmp op a b) sc x && plainB x) = true := h
    simp only [Bool.and_eq_true] at h
    obtain ⟨⟨_, h⟩, _⟩ := h
    cases x with
    | Compare l os rs pos =>
      match os, rs, h with
      | [q], [r], h =>
        simp only [chkE, Bool.and_eq_true, decide_eq_true_eq] at h
        rw [h.1.1.1.1]
        exact p_cmpT o (sE a _ sc ow l h.1.2 o) (sE b _ sc ow r h.2 o) (ok_in h.1.1.2 _)
      | [], _, h => exact absurd h Bool.false_ne_true
      | [_], [], h => exact absurd h Bool.false_ne_true
      | [_], _ :: _ :: _, h => exact absurd h Bool.false_ne_true
      | _ :: _ :: _, _, h => exact absurd h Bool.false_ne_true
    | _ => exact absurd h Bool.false_ne_true
  | .val (.same a b), c, sc, ow, x, h, X, W, o => by
    have h : (okE x && chkE c (.same a b) sc x && plainB x) = true := h
    simp only [Bool.and_eq_true] at h
    obtain ⟨⟨_, h⟩, _⟩ := h
    cases x with
    | Compare l os rs pos =>
      match os, rs, h with
      | [q], [r], h =>
        simp only [chkE, Bool.and_eq_true, decide_eq_true_eq] at h
        rw [h.1.1.1.1]
        exact p_sameT o (sE a _ sc ow l h.1.2 o) (sE b _ sc ow r h.2 o) (ok_in h.1.1.2 _)
      | [], _, h => exact absurd h Bool.false_ne_true
      | [_], [], h => exact absurd h Bool.false_ne_true
      | [_], _ :: _ :: _, h => exact absurd h Bool.false_ne_true
      | _ :: _ :: _, _, h => exact absurd h Bool.false_ne_true
    | _ => exact absurd h Bool.false_ne_true
  | .val (.chain op q a b d), c, sc, ow, x, h, X, W, o => by
    have h : (okE x && chkE c (.chain op q a b d) sc x && plainB x) = true := h
    simp only [Bool.and_eq_true] at h
    obtain ⟨⟨_, h⟩, _⟩ := h
    cases x with
    | Compare l os rs pos =>
      match os, rs, h with
      | [q1, q2], [m, r], h =>
        simp only [chkE, Bool.and_eq_true, decide_eq_true_eq] at h
        obtain ⟨⟨⟨⟨⟨⟨⟨h1, h2⟩, h3⟩, h4⟩, h5⟩, h6⟩, h7⟩, h8⟩ := h
        rw [h1, h2]
        exact p_chainT o (sE a _ sc ow l h6 o) (sE b _ sc ow m h7 o) (sE d _ sc ow r h8 o) (ok_in h5 _)
      | [], _, h => exact absurd h Bool.false_ne_true
      | [_], _, h => exact absurd h Bool.false_ne_true
      | [_, _], [], h => exact absurd h Bool.false_ne_true
      | [_, _], [_], h => exact absurd h Bool.false_ne_true
      | [_, _], _ :: _ :: _ :: _, h => exact absurd h Bool.false_ne_true
      | _ :: _ :: _ :: _, _, h => exact absurd h Bool.false_ne_true
    | _ => exact absurd h Bool.false_ne_true
  | .and a b, c, sc, ow, x, h, X, W, o => by
    cases x with
    | BoolOp q xs pos =>
      match q, xs, h with
      | .And, x :: y :: [], h =>
        simp only [chkB, Bool.and_eq_true] at h
        exact (q_and (sB a _ sc ow x h.1.2 o) (pw_and1 (sB b _ sc ow y h.2 o))).pt
      | .And, x :: y :: z :: zs, h =>
        simp only [chkB, Bool.and_eq_true] at h
        exact (q_and (sB a _ sc ow x h.1.2 o) (sBW b _ sc ow _ h.2 o rfl)).pt
      | .And, [], h => exact absurd h Bool.false_ne_true
      | .And, [_], h => exact absurd h Bool.false_ne_true
      | .Or, _, h => exact absurd h Bool.false_ne_true
    | _ => exact absurd h Bool.false_ne_true
  | .or a b, c, sc, ow, x, h, X, W, o => by
    cases x with
    | BoolOp q xs pos =>
      match q, xs, h with
      | .Or, x :: y :: [], h =>
        simp only [chkB, Bool.and_eq_true] at h
        exact (q_or (sB a _ sc ow x h.1.2 o) (pw_or1 (sB b _ sc ow y h.2 o))).pt
      | .Or, x :: y :: z :: zs, h =>
        simp only [chkB, Bool.and_eq_true] at h
        exact (q_or (sB a _ sc ow x h.1.2 o) (sBW b _ sc ow _ h.2 o rfl)).pt
      | .Or, [], h => exact absurd h Bool.false_ne_true
      | .Or, [_], h => exact absurd h Bool.false_ne_true
      | .And, _, h => exact absurd h Bool.false_ne_true
    | _ => exact absurd h Bool.false_ne_true
  | .not a, c, sc, ow, x, h, X, W, o => by
    cases x with
    | UnaryOp q e pos =>
      cases q with
      | Not => exact q_not (sB a _ sc ow e h o)
      | _ => exact absurd h Bool.false_ne_true
    | _ => exact absurd h Bool.false_ne_true
theorem sBW : ∀ (b : B) (c : Ct) (sc ow : Scope) (x : Expr), chkB c b sc x = true → ∀ {X : Cx} {W : WX}, Cok P F C c lv X sc ow W → ∀ {op : BoolOp} {xs : List Expr} {pos : Pos}, x = .BoolOp op xs pos → PW X (.BoolOp op xs pos) (LB P W (evB P.G C b))
  | .val e, c, sc, ow, x, h, X, W, o, op, xs, pos, hx => by
    subst hx
    have h : (okE _ && chkE c e sc _ && plainB (.BoolOp op xs pos)) = true := h
    simp only [Bool.and_eq_true] at h
    exact absurd h.2 Bool.false_ne_true
  | .and a b, c, sc, ow, x, h, X, W, o, q, xs, pos, hx => by
    subst hx
    match q, xs, h with
    | .And, x :: y :: [], h =>
      simp only [chkB, Bool.and_eq_true] at h
      exact q_and (sB a _ sc ow x h.1.2 o) (pw_and1 (sB b _ sc ow y h.2 o))
    | .And, x :: y :: z :: zs, h =>
      simp only [chkB, Bool.and_eq_true] at h
      exact q_and (sB a _ sc ow x h.1.2 o) (sBW b _ sc ow _ h.2 o rfl)
    | .And, [], h => exact absurd h Bool.false_ne_true
    | .And, [_], h => exact absurd h Bool.false_ne_true
    | .Or, _, h => exact absurd h Bool.false_ne_true
  | .or a b, c, sc, ow, x, h, X, W, o, q, xs, pos, hx => by
    subst hx
    match q, xs, h with
    | .Or, x :: y :: [], h =>
      simp only [chkB, Bool.and_eq_true] at h
      exact q_or (sB a _ sc ow x h.1.2 o) (pw_or1 (sB b _ sc ow y h.2 o))
    | .Or, x :: y :: z :: zs, h =>
      simp only [chkB, Bool.and_eq_true] at h
      exact q_or (sB a _ sc ow x h.1.2 o) (sBW b _ sc ow _ h.2 o rfl)
    | .Or, [], h => exact absurd h Bool.false_ne_true
    | .Or, [_], h => exact absurd h Bool.false_ne_true
    | .And, _, h => exact absurd h Bool.false_ne_true
  | .not a, c, sc, ow, x, h, X, W, o, q, xs, pos, hx => by
    subst hx
    exact absurd h Bool.false_ne_true
theorem sBs : ∀ (b : Bs) (c : Ct) (sc ow : Scope) (x : List Expr), chkBs c b sc x = true → ∀ {X : Cx} {W : WX}, Cok P F C c lv X sc ow W → PTs X x (LB P W (evBs P.G C b))
  | .nil, c, sc, ow, [], h, X, W, o => pts_nil.imp fun σ H Q ⟨env, h, Qp, Xp, re, hr, q, l, lx⟩ => l _ _ _ q (.refl H) hr
  | .nil, _, _, _, _ :: _, h, _, _, _ => absurd h Bool.false_ne_true
  | .one _, _, _, _, [], h, _, _, _ => absurd h Bool.false_ne_true
  | .one _, _, _, _, _ :: _ :: _, h, _, _, _ => absurd h Bool.false_ne_true
  | .one b, c, sc, ow, [x], h, X, W, o => pts_one (sB b _ sc ow x h o)
theorem sI : ∀ (i : I) (c : Ct) (sc ow : Scope) (tg x : Expr), chkI c i sc tg x = true → ∀ {X : Cx} {W : WX}, Cok P F C c lv X sc ow W → PI X tg x (LI P W (evI P.G C i))
  | .ex e, c, sc, ow, tg, x, h, X, W, o => by
    simp only [chkI, Bool.and_eq_true] at h
    exact p_iex o (sE e _ sc ow x h.2 o)
  | .range1 e, c, sc, ow, tg, x, h, X, W, o => by
    cases x with
    | Call fn args kws pos =>
      cases fn with
      | Name x p =>
        simp only [chkI, Bool.and_eq_true, decide_eq_true_eq] at h
        obtain ⟨⟨⟨h1, h2⟩, h3⟩, h4⟩ := h
        subst h1
        split at h4
        · simp only [Bool.and_eq_true] at h4
          exact p_irng1 o h2 h3 h4.1 (sE e _ sc ow _ h4.2 o)
        · exact absurd h4 Bool.false_ne_true
      | _ => exact absurd h Bool.false_ne_true
    | _ => exact absurd h Bool.false_ne_true
  | .range2 e f, c, sc, ow, tg, x, h, X, W, o => by
    cases x with
    | Call fn args kws pos =>
      cases fn with
      | Name x p =>
        simp only [chkI, Bool.and_eq_true, decide_eq_true_eq] at h
        obtain ⟨⟨⟨h1, h2⟩, h3⟩, h4⟩ := h
        subst h1
        split at h4
        · simp only [Bool.and_eq_true] at h4
          exact p_irng2 o h2 h3 h4.1.1.1 h4.1.1.2 (sE e _ sc ow _ h4.1.2 o) (sE f _ sc ow _ h4.2 o)
        · exact absurd h4 Bool.false_ne_true
      | _ => exact absurd h Bool.false_ne_true
    | _ => exact absurd h Bool.false_ne_true
  | .range3 e f s, c, sc, ow, tg, x, h, X, W, o => by
    cases x with
    | Call fn args kws pos =>
      cases fn with
      | Name x p =>
        simp only [chkI, Bool.and_eq_true, decide_eq_true_eq] at h
        obtain ⟨⟨⟨h1, h2⟩, h3⟩, h4⟩ := h
        subst h1
        split at h4
        · simp only [Bool.and_eq_true, decide_eq_true_eq] at h4
          obtain ⟨⟨⟨⟨g1, g2⟩, g3⟩, g4⟩, g5⟩ := h4
          subst g3
          exact p_irng3 o h2 h3 g1 g2 (sE e _ sc ow _ g4 o) (sE f _ sc ow _ g5 o)
        · exact absurd h4 Bool.false_ne_true
      | _ => exact absurd h Bool.false_ne_true
    | _ => exact absurd h Bool.false_ne_true
  | .enum e, c, sc, ow, tg, x, h, X, W, o => by
    cases x with
    | Call fn args kws pos =>
      cases fn with
      | Name x p =>
        simp only [chkI, Bool.and_eq_true, decide_eq_true_eq] at h
        obtain ⟨⟨⟨⟨h0, h1⟩, h2⟩, h3⟩, h4⟩ := h
        subst h1
        split at h4
        · simp only [Bool.and_eq_true] at h4
          cases tg with
          | Tuple _ _ _ => exact p_ienum o h2 h3 h4.1 (sE e _ sc ow _ h4.2 o)
          | _ => exact absurd h0 Bool.false_ne_true
        · exact absurd h4 Bool.false_ne_true
      | _ => exact absurd h Bool.false_ne_true
    | _ => exact absurd h Bool.false_ne_true
theorem i_set : ∀ (i : I) (c : Ct) (sc : Scope) (tg x : Expr), chkI c i sc tg x = true → ∀ (env : Env) (v : Value), foldedSetIterable x env v = Pure.pure v
  | .ex e, c, sc, tg, x, h, env, v => by
    simp only [chkI, Bool.and_eq_true] at h
    exact ok_set h.1.1 env v
  | .range1 e, c, sc, tg, x, h, env, v => by cases x <;> first | rfl | exact absurd h Bool.false_ne_true
  | .range2 e f, c, sc, tg, x, h, env, v => by cases x <;> first | rfl | exact absurd h Bool.false_ne_true
  | .range3 e f s, c, sc, tg, x, h, env, v => by cases x <;> first | rfl | exact absurd h Bool.false_ne_true
  | .enum e, c, sc, tg, x, h, env, v => by cases x <;> first | rfl | exact absurd h Bool.false_ne_true
end
end
end Mir

set_option autoImplicit false
namespace Mir
open PySem L2 PySem.Spec
open PyProof.Rows hiding St
variable [Tbl]

/-! ## statements -/
structure LftD (P : Pm) (W : WX) (H : Hp) (Dp : PD) (D : Ends) : Prop where
  nx : ∀ env h' σ' H', Dp.nx env h' → Ext H H' → RE P.K H' env σ' → HR P h' H' → D.nx σ' H'
  rt : Lft P H Dp.rt D.rt
  bk : ∀ env h' σ' H', Dp.bk env h' → Ext H H' → RE P.K H' env σ' → HR P h' H' → D.bk σ' H'
  ct : ∀ env h' σ' H', Dp.ct env h' → Ext H H' → RE P.K H' env σ' → HR P h' H' → D.ct σ' H'
  ex : ∀ c env h' σ' H', Dp.ex c env h' → Ext H H' → RE P.K H' env σ' → HR P h' H' → W (.ref (P.cls c)) none σ' H'
theorem LftD.on {P : Pm} {W : WX} {H H1 : Hp} {Dp : PD} {D : Ends} (l : LftD P W H Dp D) (e : Ext H H1) : LftD P W H1 Dp D where
  nx := fun a b c d q x => l.nx a b c d q (e.trans x)
  rt := l.rt.on e
  bk := fun a b c d q x => l.bk a b c d q (e.trans x)
  ct := fun a b c d q x => l.ct a b c d q (e.trans x)
  ex := fun k a b c d q x => l.ex k a b c d q (e.trans x)
theorem LftD.exx {P : Pm} {W : WX} {H : Hp} {Dp : PD} {D : Ends} (l : LftD P W H Dp D) {env : PEnv} {σ : St} (re : RE P.K H env σ) : LftX P W σ H fun c h1 => Dp.ex c env h1 :=
  fun c h' H' q e z => l.ex c env h' σ H' q e (re.ext e) z
abbrev EvS := PEnv → PH → PD → Prop
def LS (P : Pm) (W : WX) (ev : EvS) : TS := fun D σ H => ∃ env h Dp, RE P.K H env σ ∧ HR P h H ∧ ev env h Dp ∧ LftD P W H Dp D
theorem _root_.L2.PSs.imp {X : Cx} {e : List Stmt} {t t' : TS} (h : L2.PSs X e t) (i : ∀ D σ H, t' D σ H → t D σ H) : L2.PSs X e t' := ⟨fun pins s σ H D I hw => h.run pins s σ H D I (i _ _ _ hw)⟩
section
variable {P : Pm} {F : FT} {C : CallS} {c : Ct} {lv : Nat} {X : Cx} {sc ow : Scope} {W : WX}
theorem s_expr (o : Cok P F C c lv X sc ow W) {x : Expr} {pos : Pos} {ea : EvE} (he : PE X x (LE P W ea)) (ok : okE x = true) (nl : noLc x = true) :
    PS X (.Expr x pos) (LS P W fun env h D => ea env h (fun _ h1 => D.nx env h1) fun c h1 => D.ex c env h1) :=
  (ps_expr he (ok_swap ok nl _ _ _)).imp fun D σ H ⟨env, h, Dp, re, z, q, l⟩ => ⟨env, h, _, _, re, z, q, fun pr h' v H' q e r z => l.nx _ _ _ _ q e (re.ext e) z, l.exx re⟩
theorem s_ret (o : Cok P F C c lv X sc ow W) {x : Expr} {pos : Pos} {ea : EvE} (he : PE X x (LE P W ea)) :
    PS X (.Return (some x) pos) (LS P W fun env h D => ea env h D.rt fun c h1 => D.ex c env h1) :=
  (ps_ret he).imp fun D σ H ⟨env, h, Dp, re, z, q, l⟩ => ⟨env, h, _, _, re, z, q, l.rt, l.exx re⟩
theorem s_retN {pos : Pos} : PS X (.Return none pos) (LS P W fun env h D => D.rt .non h) :=
  ps_retN.imp fun D σ H ⟨env, h, Dp, re, z, q, l⟩ => l.rt _ _ _ _ q (.refl H) .non z
theorem s_asgN (o : Cok P F C c lv X sc ow W) {st : Stmt} {i : Nat} {ea : EvE} (hs : PS X st (tAsg (LE P W ea) (gName i))) :
    PS X st (LS P W fun env h D => ea env h (fun v h1 => D.nx (env.set i (some v)) h1) fun c h1 => D.ex c env h1) :=
  hs.imp fun D σ H ⟨env, h, Dp, re, z, q, l⟩ => ⟨env, h, _, _, re, z, q, fun pr h' v H' q e r z => l.nx _ _ _ _ q e ((re.ext e).put r i) z, l.exx re⟩
/-- x = [.. for k in a dict] -/
theorem s_setCompD (o : Cok P F C c lv X sc ow W) {i : Nat} {y : Str} {py : Pos} {el tg iter : Expr} {fs : List Expr} {scope : Scope} {pos spos : Pos} {elt : E} {t : T} {e : E} {ifs : Bs} {ws : List (Str × Nat)} (hb : blkC c.N sc scope ws = true) (hw : ws.map (·.2) = tSlots t)
    (hi : PE X iter (LE P W (evE P.G C e))) (hs : ∀ x, foldedSetIterable iter X.env x = Pure.pure x)
    (hg : ∀ {X' : Cx} {W' : WX}, Cok P F C c lv X' (relS scope sc) scope W' → PG X' tg (LG P (tSlots t) (setT t))) (ht : ∀ {X' : Cx} {W' : WX}, Cok P F C c lv X' (relS scope sc) scope W' → PTs X' fs (LB P W' (evBs P.G C ifs)))
    (he : ∀ {X' : Cx} {W' : WX}, Cok P F C c lv X' (relS scope sc) scope W' → PE X' el (LE P W' (evE P.G C elt)))
    (hy : c.N[i]? = some y) (hyl : sc.names.lookup y = some .local) (hl : (py.line == pos.line) = true) (ha : (scope.names.any fun (n, k) => n == y && (k == .local || k == .cell)) = false) :
    PS X (.Assign [.Name y py] (.ListComp el [⟨tg, iter, fs, 0⟩] scope pos) spos) (LS P W fun env h D => evE P.G C (.compD elt t e ifs ws) env h (fun v h1 => D.nx (env.set i (some v)) h1) fun c h1 => D.ex c env h1) := by
  have nd : X.N.Nodup := by rw [o.hN]; exact o.nd
  have bk : BlkOk X.N X.env.scope scope ws := blkOk_by (by rw [o.hN, o.hsc]; exact hb)
  have k0 : X.env.scope.names.lookup y = some .local := by rw [o.hsc]; exact hyl
  refine ⟨fun pins s σ H D I q0 => ?_⟩
  have kd := I.ok.kind
  refine (ps_lock (ps_setLc (i := i) o.calm nd (by rw [o.hN]; exact hy) k0 (sw_true kd k0 hl ha) (pi_keys hi) bk (fun s H Cc cl fp => hg (o.blk s H scope Cc cl fp)) (fun s H Cc cl fp => ht (o.blk s H scope Cc cl fp)) (fun s H Cc cl fp => he (o.blk s H scope Cc cl fp)) hs)).run pins s σ H D I ?_
  obtain ⟨env, h, Dp, re, hr, q, l⟩ := q0
  unfold evE at q
  obtain ⟨d, kvs, ed, q⟩ := q
  obtain ⟨vs, g, r⟩ := hr d _ ed
  refine ⟨d, _, g, trivial, fun od => ?_⟩
  obtain ⟨x0, z0⟩ := lock_hr (od := od) hr ed g r
  refine ⟨env, _, _, fun _ _ => False, re.ext x0, z0, q, fun x h1 v H1 q1 e1 r1 z1 => ?_, fun _ _ _ q => q.elim⟩
  obtain ⟨ex, eh, q1⟩ := q1
  subst ex
  cases r1
  have g1 : H1 d = some (.frz od (.dK vs)) := e1.fz _ _ _ upd_same
  refine ⟨d, od, rfl, .inl ⟨vs, g1, fun D' nD => ?_⟩⟩
  rw [hw] at q1 ⊢
  have jk : JOk P H1 (Itk d od vs) (kvs.map fun kv => kP kv.1) fun g => g d = some (.dct true kvs) := by
    have j := j_keys g1 (paired_imp r fun _ _ q => ⟨q.1, (q.2.ext x0).ext e1⟩)
    exact ⟨fun i h' H' x z st hi => j.go i h' H' x z trivial hi, fun h' H' x z st => j.stop h' H' x z trivial, fun i h' H' y H'' x z st hi q => j.yld i h' H' y H'' x z trivial hi q⟩
  refine comp_go (Kn := P.K) rfl rfl rfl jk rfl ((re.ext x0).ext e1) z1 nD (q1 D' (z1.free nD)) fun h2 H2 q2 e2 z2 => ?_
  have xx : Ext (upd H d (.frz od (.dK vs))) H2 := (e1.trans (.new nD)).trans e2
  obtain ⟨g2, z3⟩ := unlock_hr g r xx z2
  exact ⟨g2, l.nx _ _ _ _ q2 (unlock_ext g xx) ((re.ext (unlock_ext g xx)).put (.loc D') i) z3⟩
theorem s_set (o : Cok P F C c lv X sc ow W) {i : Nat} {y : Str} {x : Expr} {p pos : Pos} {ea : EvE} (he : PE X x (LE P W ea)) (ok : okE x = true) (nl : (noLc x || !decide (sc.names.lookup y = some .local)) = true) (hy : c.N[i]? = some y) (hl : locB sc y = true) (ht : L2.Loc ow y) :
    PS X (.Assign [.Name y p] x pos) (LS P W fun env h D => ea env h (fun v h1 => D.nx (env.set i (some v)) h1) fun c h1 => D.ex c env h1) :=
  s_asgN o (ps_set (by rw [o.hN]; exact o.nd) (by rw [o.hN]; exact hy) (by rw [o.hsc]; exact loc_of hl) he (ok_swapC ok nl _ _ _ o.hsc) (by rw [o.hsc]; exact o.st y ht))
theorem sw_none {ts : List Expr} {e : Expr} {env : Env} (h : noTup e = true) : swappedStores ts e env = Pure.pure none := by
  unfold swappedStores
  split
  · rename_i heq
    split at heq
    · exact absurd h Bool.false_ne_true
    · exact absurd h Bool.false_ne_true
    · cases heq
  · rfl
theorem s_setT (o : Cok P F C c lv X sc ow W) {ts : Ts} {xs : List Expr} {k : Nat} {x : Expr} {p pos : Pos} {ea : EvE} (he : PE X x (LE P W ea)) (ok : okE x = true) (nl : noLc x = true) (nt : noTup x = true) (hg : PG X (.Tuple xs k p) (LG P (tSlots (.tup ts)) (setT (.tup ts)))) :
    PS X (.Assign [.Tuple xs k p] x pos) (LS P W fun env h D => ea env h (fun v h1 => setT (.tup ts) v env fun env' => D.nx env' h1) fun c h1 => D.ex c env h1) :=
  (ps_asg he hg (by unfold swapsWithSole; exact ok_swap ok nl _ _ _) (sw_none nt)).imp fun D σ H ⟨env, h, Dp, re, z, q, l⟩ => ⟨env, h, _, _, re, z, q, fun pr h' v H' q e r z => ⟨env, pr, _, re.ext e, r, q, fun env' σ' q' re' _ => l.nx _ _ _ _ q' e re' z⟩, l.exx re⟩
theorem s_setL (o : Cok P F C c lv X sc ow W) {ts : Ts} {xs : List Expr} {k : Nat} {x : Expr} {p pos : Pos} {ea : EvE} (he : PE X x (LE P W ea)) (ok : okE x = true) (nl : noLc x = true) (nt : noTup x = true) (hc : chkTs c ts sc ow xs = true) :
    PS X (.Assign [.Tuple xs k p] x pos) (LS P W fun env h D => ea env h (fun v h1 => match v with
      | .loc a => match h1 a with
        | some (.lst vs) => setTs ts vs env fun env' => D.nx env' h1
        | _ => False
      | _ => False) fun c h1 => D.ex c env h1) := by
  obtain ⟨g, e1, e2⟩ := sTs o ts xs hc
  refine (ps_asg he (pg_lst o.calm g e1 e2) (by unfold swapsWithSole; exact ok_swap ok nl _ _ _) (sw_none nt)).imp fun D σ H ⟨env, h, Dp, re, z, q, l⟩ => ⟨env, h, _, _, re, z, q, fun pr h' v H' q e r z => ?_, l.exx re⟩
  simp only at q
  split at q
  · rename_i a
    cases r
    split at q
    · rename_i vs ev
      obtain ⟨ws, e3, rs⟩ := z a _ ev
      rw [o.hK]
      exact ⟨_, _, rfl, .inl (.inl e3), by rw [← rs.length, (setTs_ex ts q).1, chkTs_len ts xs hc], env, vs, _, re.ext e, rs, q, fun env' σ' q' re' _ => l.nx _ _ _ _ q' e re' z⟩
    · exact q.elim
  · exact q.elim
theorem s_aug (o : Cok P F C c lv X sc ow W) {i : Nat} {y : Str} {x : Expr} {op : BinK} {p pos : Pos} {ea : EvE} (he : PE X x (LE P W ea)) (hy : c.N[i]? = some y) (hl : locB sc y = true) (ht : L2.Loc ow y) :
    PS X (.AugAssign (.Name y p) (bOp op) x pos) (LS P W fun env h D => match env[i]? with
      | some (some x) => ea env h (fun y h1 => augV op x y h1 fun z h2 => D.nx (env.set i (some z)) h2) fun c h1 => D.ex c env h1
      | _ => False) := by
  have ip : PIp X (bOp op) (rTwo P (augV op)) := iop_bin o.hK op
  refine (ps_aug (by rw [o.hN]; exact o.nd) (by rw [o.hN]; exact hy) (by rw [o.hsc]; exact loc_of hl) he ip (by rw [o.hsc]; exact o.st y ht)).imp fun D σ H ⟨env, h, Dp, re, z, q, l⟩ => ?_
  simp only at q
  split at q
  · rename_i v ev
    obtain ⟨w, ew, r⟩ := re.get ev
    refine ⟨w, ew, env, h, _, _, re, z, q, fun pr h' u H' q e r2 z => ?_, l.exx re⟩
    exact ⟨v, pr, h', _, r.ext e, r2, z, q, fun y h2 u2 H2 q2 e2 r3 z2 => l.nx _ _ _ _ q2 (e.trans e2) ((re.ext (e.trans e2)).put r3 i) z2⟩
  · exact q.elim
theorem s_fldSet (o : Cok P F C c lv X sc ow W) {ob x : Expr} {s : Str} {f : Nat} {p pos : Pos} {eo ea : EvE} (ho : PE X ob (LE P W eo)) (he : PE X x (LE P W ea)) (ok : okE x = true) (hs : P.G.nm[f]? = some s) :
    PS X (.Assign [.Attribute ob s p] x pos) (LS P W fun env h D => ea env h (fun y h1 => eo env h1 (fun x h2 => match x with
      | .loc a => match h2 a with
        | some (.ins c fs) => P.G.fl c f = true ∧ fs.length < 1000 ∧ D.nx env (pup h2 a (.ins c (putA f y fs)))
        | _ => False
      | _ => False) fun c h2 => D.ex c env h2) fun c h1 => D.ex c env h1) := by
  refine (ps_fld ho he (ok_swapA ok _ _ _ _ _)).imp fun D σ H ⟨env, h, Dp, re, z, q, l⟩ => ⟨env, h, _, _, re, z, q, fun y h1 v H1 q1 e1 r1 z1 => ?_, l.exx re⟩
  refine ⟨env, h1, _, _, re.ext e1, z1, q1, fun x h2 w H2 q2 e2 r2 z2 => ?_, (l.on e1).exx (re.ext e1)⟩
  cases r2 with
  | loc a =>
    simp only at q2
    split at q2
    · rename_i k fs ek
      obtain ⟨q0, ql, q2⟩ := q2
      obtain ⟨dx, gs, g, rf⟩ := z2 a _ ek
      have e3 := z2.chg ek (.ins (P.cls k) dx (putF s v gs))
      refine ⟨a, P.cls k, dx, gs, rfl, g, o.hK ▸ o.wl.cl k f q0, o.hK ▸ o.wl.na k f s q0 hs, by rw [← paired_len rf]; exact ql, ?_⟩
      refine l.nx _ _ _ _ q2 ((e1.trans e2).trans e3) (re.ext ((e1.trans e2).trans e3)) (z2.upd e3 ⟨dx, _, upd_same, ?_⟩)
      exact paired_imp (rf_put o.wl.nd hs (r1.ext e2) rf) fun _ _ q => ⟨q.1, q.2.ext e3⟩
    · exact q2.elim
  | _ => exact q2.elim
theorem s_fldAug (o : Cok P F C c lv X sc ow W) {ob x : Expr} {s : Str} {f : Nat} {op : BinK} {p pos : Pos} {eo ea : EvE} (ho : PE X ob (LE P W eo)) (he : PE X x (LE P W ea)) (hs : P.G.nm[f]? = some s) :
    PS X (.AugAssign (.Attribute ob s p) (bOp op) x pos) (LS P W fun env h D => eo env h (fun x h1 => match x with
      | .loc a => match h1 a with
        | some (.ins c fs) => P.G.fl c f = true ∧ match fs.lookup f with
          | some v => ea env h1 (fun y h2 => augV op v y h2 fun z h3 => match h3 a with
            | some (.ins c' fs') => c' = c ∧ fs'.length < 1000 ∧ D.nx env (pup h3 a (.ins c' (putA f z fs')))
            | _ => False) fun c h2 => D.ex c env h2
          | none => False
        | _ => False
      | _ => False) fun c h1 => D.ex c env h1) := by
  have ip : InOp X (bOp op) (rTwo P (augV op)) := iop_bin o.hK op
  refine (ps_fldaug ho he ip).imp fun D σ H ⟨env, h, Dp, re, z, q, l⟩ => ⟨env, h, _, _, re, z, q, fun x h1 v H1 q1 e1 r1 z1 => ?_, l.exx re⟩
  cases r1 with
  | loc a =>
    simp only at q1
    split at q1
    · rename_i k fs ek
      obtain ⟨q0, q1⟩ := q1
      split at q1
      · rename_i y ey
        obtain ⟨dx, gs, g, rf⟩ := z1 a _ ek
        obtain ⟨w, ew, rw'⟩ := (rf_look o.wl.nd hs rf).1 y ey
        refine ⟨a, P.cls k, dx, gs, w, rfl, g, o.hK ▸ o.wl.cl k f q0, o.hK ▸ o.wl.na k f s q0 hs, ew, env, h1, _, _, re.ext e1, z1, q1, fun pr h2 u H2 q2 e2 r2 z2 => ?_, (l.on e1).exx (re.ext e1)⟩
        refine ⟨y, pr, h2, _, rw'.ext e2, r2, z2, q2, fun zz h3 u3 H3 q3 e3 r3 z3 => ?_⟩
        split at q3
        · rename_i k' fs' ek'
          obtain ⟨rfl, ql, q3⟩ := q3
          obtain ⟨dx', gs', g', rf'⟩ := z3 a _ ek'
          have e4 := z3.chg ek' (.ins (P.cls k') dx' (putF s u3 gs'))
          refine ⟨dx', gs', g', by rw [← paired_len rf']; exact ql, ?_⟩
          refine l.nx _ _ _ _ q3 (((e1.trans e2).trans e3).trans e4) (re.ext (((e1.trans e2).trans e3).trans e4)) (z3.upd e4 ⟨dx', _, upd_same, ?_⟩)
          exact paired_imp (rf_put o.wl.nd hs r3 rf') fun _ _ q => ⟨q.1, q.2.ext e4⟩
        · exact q3.elim
      · exact q1.elim
    · exact q1.elim
  | _ => exact q1.elim
/-! ### o[i] = v -/
def rSet3 (P : Pm) : TSet := fun x y v H Q => ∃ a b w h Qp, RP P.K H a x ∧ RP P.K H b y ∧ RP P.K H w v ∧ HR P h H ∧ setV a b w h Qp ∧ ∀ h' H', Qp h' → Ext H H' → HR P h' H' → Q H'
theorem set_any (hK : X.K = P.K) (hu : X.A.units + 1 < cLine) : PSet X (rSet3 P) := by
  intro pins s σ H x y v ov iv u Q I rx ry rv ⟨a, b, w, h, Qp, ra, rb, rw', z, q, l⟩
  cases ra with
  | loc p =>
    unfold Mir.setV at q
    simp only at q
    split at q
    · rename_i xs e
      split at q
      · rename_i k
        split at q
        · rename_i j ej
          obtain ⟨vs, g, r⟩ := z.lst e
          cases rb
          exact set_list pins s σ H _ _ v ov iv u Q I rx ry rv ⟨p, vs, k, j, rfl, rfl, g, by rw [← r.length]; exact ej, l _ _ q (z.chg e _) (rlst_put z e (r.set rw' j))⟩
        · exact q.elim
      · exact q.elim
    · rename_i kvs e
      split at q
      · rename_i k ek
        obtain ⟨ql, q⟩ := q
        obtain ⟨ws, g, r⟩ := z p _ e
        have ev := toKey_rel rb ek
        subst ev
        cases rx
        exact d_setItem hu I (.k g (by rw [← paired_len r]; exact ql)) ry rv fun s' I' => ⟨_, I', l _ _ q (z.chg e _) (rdct_put z e (rk_put rw' r))⟩
      · exact q.elim
    · exact q.elim
  | _ => exact q.elim
theorem ok_asg {i : Expr} (h : okE i = true) (o : Expr) (pos : Pos) (env : Env) (v : Value) : assign (.Subscript o i pos) env v = (do
      let ov ← holding [v] (eval o env)
      let iv ← holding [v, ov] (eval i env)
      standAt pos
      holding [v, ov, iv] (setItem ov iv v)
      release [v, ov, iv] []) := by
  cases i <;> first | rfl | (exfalso; revert h; simp [okE]; done)
theorem s_subSet (o : Cok P F C c lv X sc ow W) {ob ix x : Expr} {p pos : Pos} {eo ei ea : EvE} (ho : PE X ob (LE P W eo)) (hi : PE X ix (LE P W ei)) (he : PE X x (LE P W ea)) (ok : okE x = true) (oki : okE ix = true) :
    PS X (.Assign [.Subscript ob ix p] x pos) (LS P W fun env h D => ea env h (fun v h1 => eo env h1 (fun x h2 => ei env h2 (fun y h3 => setV x y v h3 fun h4 => D.nx env h4) fun c h3 => D.ex c env h3) fun c h2 => D.ex c env h2) fun c h1 => D.ex c env h1) := by
  refine (ps_asg he (pg_sub ho hi (set_any o.hK o.hu1) (fun v => ok_asg oki ob p X.env v)) (by unfold swapsWithSole; exact ok_swapS ok _ _ _ _ _) (by rfl)).imp fun D σ H ⟨env, h, Dp, re, z, q, l⟩ => ⟨env, h, _, _, re, z, q, fun v h1 v1 H1 q1 e1 r1 z1 => ?_, l.exx re⟩
  refine ⟨env, h1, _, _, re.ext e1, z1, q1, fun x h2 v2 H2 q2 e2 r2 z2 => ?_, (l.on e1).exx (re.ext e1)⟩
  refine ⟨env, h2, _, _, re.ext (e1.trans e2), z2, q2, fun y h3 v3 H3 q3 e3 r3 z3 => ?_, (l.on (e1.trans e2)).exx (re.ext (e1.trans e2))⟩
  exact ⟨x, y, v, h3, _, r2.ext e3, r3, r1.ext (e2.trans e3), z3, q3, fun h4 H4 q4 e4 z4 => l.nx _ _ _ _ q4 (((e1.trans e2).trans e3).trans e4) (re.ext (((e1.trans e2).trans e3).trans e4)) z4⟩
/-! ### o[(k, ..)] = v -/
theorem set_dT (hu : X.A.units + 1 < cLine) : PSet X (fun x y v H Q => ∃ a H', x = .ref a ∧ DPut H a y v H' ∧ Q H') := by
  intro pins s σ H x y v ov iv u Q I rx ry rv ⟨a, H', ex, g, q⟩
  subst ex
  obtain rfl : ov = Value.ref a := rx
  exact d_setItem hu I g ry rv fun s' I' => ⟨_, I', q⟩
theorem s_subSetT (o : Cok P F C c lv X sc ow W) {ob x : Expr} {xs : List Expr} {k : Nat} {tp p pos : Pos} {eo ea : EvE} {ek : EvA} (ho : PE X ob (LE P W eo)) (hk : PA X xs (LEs P W ek)) (he : PE X x (LE P W ea)) (ok : okE x = true) :
    PS X (.Assign [.Subscript ob (.Tuple xs k tp) p] x pos) (LS P W fun env h D => ea env h (fun v h1 => eo env h1 (fun x h2 => ek env h2 (fun y h3 => y.length ≤ sizeLine ∧ setTV x y v h3 fun h4 => D.nx env h4) fun c h3 => D.ex c env h3) fun c h2 => D.ex c env h2) fun c h1 => D.ex c env h1) := by
  refine (ps_asg he (pg_sub ho (p_tupT o hk) (set_dT o.hu1) (fun v => ok_asg (i := .Tuple xs k tp) rfl ob p X.env v)) (by unfold swapsWithSole; exact ok_swapS ok _ _ _ _ _) (by rfl)).imp fun D σ H ⟨env, h, Dp, re, z, q, l⟩ => ⟨env, h, _, _, re, z, q, fun v h1 v1 H1 q1 e1 r1 z1 => ?_, l.exx re⟩
  refine ⟨env, h1, _, _, re.ext e1, z1, q1, fun x h2 v2 H2 q2 e2 r2 z2 => ?_, (l.on e1).exx (re.ext e1)⟩
  refine ⟨env, h2, _, _, re.ext (e1.trans e2), z2, q2, fun y h3 v3 H3 q3 e3 r3 z3 => ?_, (l.on (e1.trans e2)).exx (re.ext (e1.trans e2))⟩
  refine ⟨by rw [← r3.length]; exact q3.1, fun b nb => ?_⟩
  have xb : Ext H3 (upd H3 b (.tup v3)) := .new nb
  have z4 := z3.keep (o := .tup v3) nb
  have q4 := q3.2
  cases r2 with
  | loc a =>
    unfold setTV at q4
    simp only at q4
    split at q4
    · rename_i kvs e5
      split at q4
      · rename_i key ek'
        obtain ⟨ql, q5⟩ := q4
        obtain ⟨ws, g, rt⟩ := z4 a _ e5
        have tu : upd H3 b (.tup v3) b = some (.tup (key.map kV)) := by rw [← keysT_rel r3 ek']; exact upd_same
        have e3b := e3.trans xb
        have xc : Ext (upd H3 b (.tup v3)) (upd (upd H3 b (.tup v3)) a (.dT (putK ws key v1))) := z4.chg e5 _
        refine ⟨a, _, rfl, .t g tu (by rw [← paired_len rt]; exact ql), ?_⟩
        have et := ((e1.trans e2).trans e3b).trans xc
        exact l.nx _ _ _ _ q5 et (re.ext et) (z4.upd xc ⟨_, upd_same, paired_imp (rt_put (r1.ext (e2.trans e3b)) rt) fun _ _ w => ⟨w.1, w.2.ext xc⟩⟩)
      · exact q4.elim
    · exact q4.elim
  | _ => exact q4.elim
/-! ### o[i] op= v -/
def rGet (P : Pm) : V → V → Hp → VK → Prop := fun x y H Q => ∃ a b h Qp, RP P.K H (.loc a) x ∧ RP P.K H b y ∧ HR P h H ∧ subV (.loc a) b h Qp ∧ Lft P H Qp Q
theorem get_any (hK : X.K = P.K) (hu : X.A.units + 1 < cLine) : PGet X (rGet P) := by
  intro pins s σ H x y ov iv Q I rx ry ⟨p, b, h, Qp, ra, rb, z, q, l⟩
  have two : ∀ {p : Addr} {xs : List V} {k : Int} {w : V}, x = .ref p → y = .int k → SqL X.K H p xs → atI xs k = some w → Q w H → wpAny (model X.prog X.w) X.A (getItem ov iv) (EP X pins σ Q) X.xe s := by
    intro p xs k w ex ey hq he q
    subst ex ey
    cases rx
    obtain ⟨t, rfl⟩ := ry
    obtain ⟨its, r, pl, hz⟩ := I.list hq
    obtain ⟨j, h1, h2, h3, h4, h5⟩ := atI_get he
    obtain ⟨u, ew, ru⟩ := r.get h2
    have hl := r.length
    have hn := line63
    have fin : EP X pins σ Q u s := ⟨w, H, I, ru, q⟩
    by_cases h0 : 0 ≤ k
    · have hj : k.toNat = j := by
        rw [seqIndex_of h0 h5] at h1
        exact Option.some.inj h1
      exact wpAny_getItem_list pl.isList h0 (by omega) (by rw [hj]; simpa using ew) fin
    · have hj : (k + (its.toArray.size : Int)).toNat = j := by
        rw [seqIndex_neg (by omega) h4] at h1
        rw [List.size_toArray, ← hl]
        exact Option.some.inj h1
      exact wpAny_getItem_list_neg pl.isList (by omega) (by rw [List.size_toArray] <;> omega) (by omega) (by rw [hj]; simpa using ew) fin
  cases ra with
  | loc p =>
    simp only [subV] at q
    split at q
    · rename_i xs e
      obtain ⟨vs, g, r⟩ := z.lst e
      cases rb with
      | int i =>
        simp only at q
        split at q
        · rename_i v e
          obtain ⟨w, e', r'⟩ := atI_rel r e
          exact two rfl rfl (SqL.of g) e' (l.here q r' z)
        · exact q.elim
      | _ => exact q.elim
    · rename_i f kvs e
      split at q
      · rename_i k ek
        split at q
        · rename_i v ev
          obtain ⟨ws, g, r⟩ := z.dct e
          have ew := toKey_rel rb ek
          subst ew
          obtain ⟨w, e2, r2⟩ := (rk_val k r).1 v ev
          cases rx
          exact d_getItem hu I (.inl ⟨ws, k, g, rfl, e2.symm⟩) ry fun w' s' I' rw' => ⟨w, H, I', rw', l.here q r2 z⟩
        · exact q.elim
      · exact q.elim
    · exact q.elim
theorem s_subAug (o : Cok P F C c lv X sc ow W) {ob ix x : Expr} {op : BinK} {p pos : Pos} {eo ei ea : EvE} (ho : PE X ob (LE P W eo)) (hi : PE X ix (LE P W ei)) (he : PE X x (LE P W ea)) (oki : okE ix = true) :
    PS X (.AugAssign (.Subscript ob ix p) (bOp op) x pos) (LS P W fun env h D => eo env h (fun x h1 => (∃ a, x = .loc a) ∧ ei env h1 (fun y h2 => subV x y h2 fun v h3 => ea env h3 (fun y2 h4 => augV op v y2 h4 fun z h5 => setV x y z h5 fun h6 => D.nx env h6)
      fun c h4 => D.ex c env h4) fun c h2 => D.ex c env h2) fun c h1 => D.ex c env h1) := by
  have ip : PIp X (bOp op) (rTwo P (augV op)) := iop_bin o.hK op
  refine (ps_augS ho hi (get_any o.hK o.hu1) he ip (set_any o.hK o.hu1) (by intros; cases ix <;> first | rfl | (exfalso; revert oki; simp [okE]; done))).imp fun D σ H ⟨env, h, Dp, re, z, q, l⟩ => ⟨env, h, _, _, re, z, q, fun a h1 v1 H1 q1 e1 r1 z1 => ?_, l.exx re⟩
  obtain ⟨⟨a', rfl⟩, q1⟩ := q1
  refine ⟨env, h1, _, _, re.ext e1, z1, q1, fun b h2 v2 H2 q2 e2 r2 z2 => ?_, (l.on e1).exx (re.ext e1)⟩
  have e12 := e1.trans e2
  refine ⟨a', b, h2, _, r1.ext e2, r2, z2, q2, fun v h3 v3 H3 q3 e3 r3 z3 => ?_⟩
  have e13 := e12.trans e3
  refine ⟨env, h3, _, _, re.ext e13, z3, q3, fun y h4 v4 H4 q4 e4 r4 z4 => ?_, (l.on e13).exx (re.ext e13)⟩
  refine ⟨v, y, h4, _, r3.ext e4, r4, z4, q4, fun zz h5 v5 H5 q5 e5 r5 z5 => ?_⟩
  have e25 := (e3.trans e4).trans e5
  exact ⟨.loc a', b, zz, h5, _, (r1.ext e2).ext e25, r2.ext e25, r5, z5, q5, fun h6 H6 q6 e6 z6 => l.nx _ _ _ _ q6 ((e12.trans e25).trans e6) (re.ext ((e12.trans e25).trans e6)) z6⟩
/-! ### if, while, for -/
theorem s_if (o : Cok P F C c lv X sc ow W) {t : Expr} {a b : List Stmt} {pos : Pos} {et : EvB} {ea eb : EvS} (ht : PT X t (LB P W et)) (ha : PSs X a (LS P W ea)) (hb : PSs X b (LS P W eb)) :
    PS X (.If t a b pos) (LS P W fun env h D => et env h (fun k h1 => if k = true then ea env h1 D else eb env h1 D) fun c h1 => D.ex c env h1) := by
  refine (ps_if ht ha hb).imp fun D σ H ⟨env, h, Dp, re, z, q, l⟩ => ⟨env, h, _, _, re, z, q, fun k h1 H1 q1 e1 z1 => ?_, l.exx re⟩
  cases k with
  | true => exact ⟨env, h1, Dp, re.ext e1, z1, q1, l.on e1⟩
  | false => exact ⟨env, h1, Dp, re.ext e1, z1, q1, l.on e1⟩
theorem s_while (o : Cok P F C c lv X sc ow W) (hp : PassesOwn (model X.prog X.w) X.A X.env X.xe) {t : Expr} {b : List Stmt} {pos : Pos} {et : EvB} {eb : EvS} (ht : PT X t (LB P W et)) (hb : PSs X b (LS P W eb)) :
    PS X (.While t b [] pos) (LS P W fun env h D => ∃ V : Nat → PEnv → PH → Prop, (∃ m, V m env h) ∧ ∀ m env h, V m env h →
      et env h (fun k h1 => if k = true then eb env h1 { D with nx := fun e g => ∃ m', m' < m ∧ V m' e g, ct := fun e g => ∃ m', m' < m ∧ V m' e g, bk := D.nx } else D.nx env h1) fun c h1 => D.ex c env h1) := by
  refine (ps_while hp ht hb).imp fun D σ H ⟨env, h, Dp, re, z, ⟨V, ⟨m, q⟩, st⟩, l⟩ => ?_
  refine ⟨fun m σ' H' => ∃ env' h', Ext H H' ∧ RE P.K H' env' σ' ∧ HR P h' H' ∧ V m env' h', ⟨m, env, h, .refl H, re, z, q⟩, ?_⟩
  rintro m σ' H' ⟨env', h', e', re', z', q'⟩
  refine ⟨env', h', _, _, re', z', st m env' h' q', fun k h1 H1 q1 e1 z1 => ?_, (l.on e').exx re'⟩
  cases k with
  | false => exact l.nx _ _ _ _ q1 (e'.trans e1) (re'.ext e1) z1
  | true =>
    refine ⟨fun σ2 H2 => ∃ m', m' < m ∧ ∃ env2 h2, Ext H H2 ∧ RE P.K H2 env2 σ2 ∧ HR P h2 H2 ∧ V m' env2 h2, fun σ2 H2 ⟨m', lt, q⟩ => ⟨m', lt, q⟩, env', h1, _, re'.ext e1, z1, q1, ?_⟩
    have l' := l.on (e'.trans e1)
    exact ⟨fun env2 h2 σ2 H2 ⟨m', lt, q2⟩ e2 re2 z2 => ⟨m', lt, env2, h2, (e'.trans e1).trans e2, re2, z2, q2⟩, l'.rt, l'.nx, fun env2 h2 σ2 H2 ⟨m', lt, q2⟩ e2 re2 z2 => ⟨m', lt, env2, h2, (e'.trans e1).trans e2, re2, z2, q2⟩, l'.ex⟩
/-- the turns of a for -/
theorem for_go {J : It} {xs : List PV} {still : PH → Prop} {t : T} {eb : EvS} {env : PEnv} {σ : St} {H1 : Hp} {h1 : PH} {Dp : PD} {D : Ends} {g : TG} {tb : TS}
    (hg : g = LG P (tSlots t) (setT t)) (hb : tb = LS P W eb) (jk : JOk P H1 J xs still) (re : RE P.K H1 env σ) (z1 : HR P h1 H1)
    (q : forGo still (setT t) (fun e g D' => eb e g D') Dp xs env h1) (l : LftD P W H1 Dp D) :
    ∃ W : Nat → Nat → St → Hp → Prop, (∃ m, W 0 m σ H1) ∧ ∀ i m σ H, W i m σ H →
      (J.stop i H ∧ D.nx σ H) ∨ (J.go i H ∧ ∃ N : St → Hp → Prop, (∀ σ' H', N σ' H' → ∃ m', m' < m ∧ W (i + 1) m' σ' H') ∧ ∀ x H', J.yld i H x H' → g x σ H' fun σ2 H2 => tb { D with nx := N, ct := N, bk := D.nx } σ2 H2) := by
  subst hg hb
  refine ⟨fun i m σ' H' => ∃ env' h', m = xs.length - i ∧ i ≤ xs.length ∧ Ext H1 H' ∧ RE P.K H' env' σ' ∧ HR P h' H' ∧ forGo still (setT t) (fun e g D' => eb e g D') Dp (xs.drop i) env' h',
    ⟨_, env, h1, rfl, Nat.zero_le _, .refl _, re, z1, by simpa using q⟩, ?_⟩
  rintro i m σ' H' ⟨env', h', rfl, hi, x, re', z, q⟩
  by_cases hlt : i < xs.length
  · have ed : xs.drop i = xs[i] :: xs.drop (i + 1) := List.drop_eq_getElem_cons hlt
    rw [ed] at q
    obtain ⟨st, q⟩ := q
    have nxt : ∀ env2 h2 σ2 H2, forGo still (setT t) (fun e g D' => eb e g D') Dp (xs.drop (i + 1)) env2 h2 → Ext H1 H2 → RE P.K H2 env2 σ2 → HR P h2 H2 →
        ∃ env2 h2, Ext H1 H2 ∧ RE P.K H2 env2 σ2 ∧ HR P h2 H2 ∧ forGo still (setT t) (fun e g D' => eb e g D') Dp (xs.drop (i + 1)) env2 h2 := fun env2 h2 σ2 H2 a b c d => ⟨env2, h2, b, c, d, a⟩
    refine .inr ⟨jk.go i h' H' x z st hlt, fun σ2 H2 => ∃ env2 h2, Ext H1 H2 ∧ RE P.K H2 env2 σ2 ∧ HR P h2 H2 ∧ forGo still (setT t) (fun e g D' => eb e g D') Dp (xs.drop (i + 1)) env2 h2,
      fun σ2 H2 ⟨env2, h2, a, b, c, d⟩ => ⟨xs.length - (i + 1), by omega, env2, h2, rfl, hlt, a, b, c, d⟩, ?_⟩
    intro v H2 y
    obtain ⟨xe, z2, pv, epv, rv⟩ := jk.yld i h' H' v H2 x z st hlt y
    rw [List.getElem?_eq_getElem hlt] at epv
    cases epv
    refine ⟨env', xs[i], _, re'.ext xe, rv, q, fun env2 σ2 q2 re2 of => ⟨env2, h', _, re2, z2, q2, ?_⟩⟩
    have x2 := x.trans xe
    have l' := l.on x2
    exact ⟨fun a b c d q e r z => nxt a b c d q (x2.trans e) r z, l'.rt, l'.nx, fun a b c d q e r z => nxt a b c d q (x2.trans e) r z, l'.ex⟩
  · have e : i = xs.length := by omega
    subst e
    rw [List.drop_length] at q
    exact .inl ⟨jk.stop h' H' x z q.1, l.nx _ _ _ _ q.2 x re' z⟩
theorem s_for (o : Cok P F C c lv X sc ow W) (hp : PassesOwn (model X.prog X.w) X.A X.env X.xe) {tg iter : Expr} {b : List Stmt} {pos : Pos} {t : T} {ei : EvI} {eb : EvS} (hi : PI X tg iter (LI P W ei)) (hs : ∀ x, foldedSetIterable iter X.env x = Pure.pure x)
    (hg : PG X tg (LG P (tSlots t) (setT t))) (hb : PSs X b (LS P W eb)) :
    PS X (.For tg iter b [] pos) (LS P W fun env h D => ei env h (fun xs still h1 => forGo still (setT t) (fun e g D' => eb e g D') D xs env h1) fun c h1 => D.ex c env h1) :=
  (ps_for hp o.calm hi hg hb hs).imp fun D σ H ⟨env, h, Dp, re, z, q, l⟩ => ⟨env, h, _, _, re, z, q, fun xs still h1 H1 J q1 e1 z1 jk => for_go rfl rfl jk (re.ext e1) z1 q1 (l.on e1), l.exx re⟩
end
end Mir

set_option autoImplicit false
namespace Mir
open PySem L2 PySem.Spec
open PyProof.Rows hiding St
variable [Tbl]

section
variable {P : Pm} {F : FT} {C : CallS} {c : Ct} {lv : Nat} {X : Cx} {sc ow : Scope} {W : WX}
/-- a dict walked by a for: its keys, or its pairs -/
theorem s_forD (o : Cok P F C c lv X sc ow W) (hp : PassesOwn (model X.prog X.w) X.A X.env X.xe) {tg iter : Expr} {b : List Stmt} {pos : Pos} {t : T} {items : Bool} {ea : EvE} {eb : EvS} {wi : TI} (hi : PI X tg iter wi)
    (hw : ∀ σ H R, LE P W ea σ H (fun x H1 => ∃ d o kvs, x = .ref d ∧ H1 d = some (.frz o (.dK kvs)) ∧ R ((if items = true then Iti else Itk) d o kvs) H1) → wi σ H R) (hs : ∀ x, foldedSetIterable iter X.env x = Pure.pure x)
    (hg : PG X tg (LG P (tSlots t) (setT t))) (hb : PSs X b (LS P W eb)) :
    PS X (.For tg iter b [] pos) (LS P W fun env h D => ∃ d kvs, h d = some (.dct false kvs) ∧ ea env (pup h d (.dct true kvs)) (fun x h1 => x = .loc d ∧
      forGo (fun g => g d = some (.dct true kvs)) (setT t) (fun e g D' => eb e g D')
        ⟨fun e g => g d = some (.dct true kvs) ∧ D.nx e (pup g d (.dct false kvs)), fun v g => g d = some (.dct true kvs) ∧ D.rt v (pup g d (.dct false kvs)), fun e g => g d = some (.dct true kvs) ∧ D.bk e (pup g d (.dct false kvs)),
          fun e g => g d = some (.dct true kvs) ∧ D.ct e (pup g d (.dct false kvs)), fun _ _ _ => False⟩
        (kvs.map fun kv => if items then .tup [kP kv.1, kv.2] else kP kv.1) env h1) fun _ _ => False) := by
  refine (ps_lock (ps_for hp o.calm hi hg hb hs)).imp fun D σ H ⟨env, h, Dp, re, z, ⟨d, kvs, ed, q⟩, l⟩ => ?_
  obtain ⟨vs, g, r⟩ := z d _ ed
  refine ⟨d, _, g, trivial, fun od => hw _ _ _ ?_⟩
  obtain ⟨x0, z0⟩ := lock_hr (od := od) z ed g r
  refine ⟨env, _, _, fun _ _ => False, re.ext x0, z0, q, fun x h1 v H1 q1 e1 r1 z1 => ?_, fun _ _ _ q => q.elim⟩
  obtain ⟨ex, q1⟩ := q1
  subst ex
  cases r1
  have g1 : H1 d = some (.frz od (.dK vs)) := e1.fz _ _ _ upd_same
  have r1 : RK P.K H1 kvs vs := paired_imp r fun _ _ q => ⟨q.1, (q.2.ext x0).ext e1⟩
  have jk : JOk P H1 ((if items = true then Iti else Itk) d od vs) (kvs.map fun kv => if items then .tup [kP kv.1, kv.2] else kP kv.1) fun g => g d = some (.dct true kvs) := by
    cases items with
    | true =>
      have j := j_items (P := P) g1 r1
      exact ⟨fun i h' H' x z st hi => j.go i h' H' x z trivial hi, fun h' H' x z st => j.stop h' H' x z trivial, fun i h' H' y H'' x z st hi q => j.yld i h' H' y H'' x z trivial hi q⟩
    | false =>
      have j := j_keys (P := P) g1 r1
      exact ⟨fun i h' H' x z st hi => j.go i h' H' x z trivial hi, fun h' H' x z st => j.stop h' H' x z trivial, fun i h' H' y H'' x z st hi q => j.yld i h' H' y H'' x z trivial hi q⟩
  refine ⟨d, od, vs, rfl, g1, for_go rfl rfl jk ((re.ext x0).ext e1) z1 q1 ?_⟩
  have out : ∀ {h' : PH} {H' : Hp}, Ext H1 H' → HR P h' H' → H' d = some (.frz od (.dK vs)) ∧ Ext H (upd H' d (.dK vs)) ∧ ExtW H' (upd H' d (.dK vs)) ∧ HR P (pup h' d (.dct false kvs)) (upd H' d (.dK vs)) := fun e z => by
    have xx := e1.trans e
    obtain ⟨g2, z3⟩ := unlock_hr g r xx z
    exact ⟨g2, unlock_ext g xx, unlock_w g2, z3⟩
  refine ⟨fun a b c k q e re z => ?_, fun a b c k q e rv z => ?_, fun a b c k q e re z => ?_, fun a b c k q e re z => ?_, fun _ _ _ _ _ q => q.elim⟩
  · obtain ⟨g2, x2, w2, z3⟩ := out e z
    exact ⟨g2, l.nx _ _ _ _ q.2 x2 (re.extW w2) z3⟩
  · obtain ⟨g2, x2, w2, z3⟩ := out e z
    exact ⟨g2, l.rt _ _ _ _ q.2 x2 (rv.extW w2) z3⟩
  · obtain ⟨g2, x2, w2, z3⟩ := out e z
    exact ⟨g2, l.bk _ _ _ _ q.2 x2 (re.extW w2) z3⟩
  · obtain ⟨g2, x2, w2, z3⟩ := out e z
    exact ⟨g2, l.ct _ _ _ _ q.2 x2 (re.extW w2) z3⟩
theorem pss_ls_nil : PSs X [] (LS P W fun env h D => D.nx env h) := pss_nil.imp fun D σ H ⟨env, h, Dp, re, z, q, l⟩ => l.nx _ _ _ _ q (.refl H) re z
theorem pss_ls_cons {s : Stmt} {ss : List Stmt} {ea eb : EvS} (ha : PS X s (LS P W ea)) (hb : PSs X ss (LS P W eb)) :
    PSs X (s :: ss) (LS P W fun env h D => ea env h { D with nx := fun env' h' => eb env' h' D }) :=
  (pss_cons ha hb).imp fun D σ H ⟨env, h, Dp, re, z, q, l⟩ => ⟨env, h, _, re, z, q, fun env' h' σ' H' q e re z => ⟨env', h', Dp, re, z, q, l.on e⟩, l.rt, l.bk, l.ct, l.ex⟩
end
section
structure StOk (X : Cx) : Prop where
  hp : PassesOwn (model X.prog X.w) X.A X.env X.xe
  hex : X.ex = []
  hs : X.stack = X.env :: X.outer
  hf : X.env.frame = some X.env.locals
section
variable {P : Pm} {F : FT} {C : CallS} {c : Ct} {lv : Nat} {X : Cx} {sc ow : Scope} {W : WX}
theorem s_raise (o : Cok P F C c lv X sc sc W) {k : Nat} {x m : Str} {j p2 p pos pos2} (hx : c.clN k = some x) (hg : glB sc x = true) (hd : dunB x = true) (hk : P.G.exc k = true) :
    PS X (.Raise (some (.Call (.Name x p) [.Constant (.str m) j p2] [] pos2)) none pos) (LS P W (evS P.G C (.raise k))) := by
  obtain ⟨f1, f2, f3, f4⟩ := o.wl.wx.exf k hk
  rw [← o.hK] at f1 f2 f3 f4
  refine (ps_raise o.calm o.tk (pmk_own PySem.F.excBase_ValueError f1 (o.wl.mc k x hx) f2 (raises_own f3 f4) (o.glx hg) (dun_of hd).1)).imp ?_
  intro D σ H ⟨env, h, Dp, re, z, q, l⟩
  exact l.ex _ _ _ _ _ q.2 (.refl H) re z
theorem re_none {K : PySem.W.Frag} {H : Hp} : ∀ {env : PEnv} {σ : St} (i : Nat), RE K H env σ → RE K H (env.set i none) (σ.set i none)
  | _, _, _, .nil => .nil
  | _, _, 0, .cons a b => .cons (fun x e => by cases e) b
  | _, _, i + 1, .cons a b => .cons a (re_none i b)
theorem Cok.tr (o : Cok P F C c lv X sc ow W) {pn : List (Addr × Obj)} {xe : Value → Shared → Prop} {W' : WX} (tk : Takes (X.tr pn xe) W') : Cok P F C c lv (X.tr pn xe) sc ow W' :=
  ⟨o.wl, o.hK, o.hN, o.nd, o.hsc, o.calm, o.st, tk, o.room, o.lam⟩
theorem StOk.tr (s : StOk X) {pn : List (Addr × Obj)} {xe : Value → Shared → Prop} (hp : PassesOwn (model X.prog X.w) X.A X.env xe) : StOk (X.tr pn xe) := ⟨hp, s.hex, s.hs, s.hf⟩
theorem s_tryAs (o : Cok P F C c lv X sc sc W) (hp : StOk X) {b : Ss} {k i j : Nat} {x n m : Str} {body : List Stmt} {np p1 p2 p3 p4 pos : Pos} (hi : c.N[i]? = some n) (hj : c.N[j]? = some m) (hn : sc.names.lookup n = some .local) (hm : locB sc m = true)
    (hdn : dunB n = true) (hx : c.clN k = some x) (hg : glB sc x = true) (hd : dunB x = true) (hb : ∀ {X : Cx} {W : WX}, Cok P F C c lv X sc sc W → StOk X → PSs X body (LS P W (evSs P.G C b))) :
    PS X (.Try body [.ExceptHandler (some (.Name x np)) (some n) [.Assign [.Name m p1] (.Name n p2) p3] p4] [] [] pos) (LS P W (evS P.G C (.tryAs b k i j))) := by
  have hln : X.env.kindOf n = some .local := by unfold Env.kindOf; rw [o.hsc]; exact hn
  have e : ∀ x, X.env.kindOf x = sc.names.lookup x := fun x => by unfold Env.kindOf; rw [o.hsc]
  refine (ps_try_keep (i := i) (j := j) (c := .ref (P.cls k)) (tb := fun W' => LS P W' (evSs P.G C b)) (Wout := W) hp.hex hp.hs hp.hf (by rw [o.hN]; exact o.nd) (by rw [o.hN]; exact hi) (by rw [o.hN]; exact hj) hln (by rw [o.hsc]; exact loc_of hm)
    (by rw [e]; exact o.st m (loc_of hm)) (by rw [o.hsc]; exact .inl hn) (dun_of hdn).1 (dun_of hdn).2.1 ⟨o.glx hg, (dun_of hd).1, .inl (o.wl.mc k x hx)⟩ o.tk fun W' pn xe tk hpo => hb (o.tr tk) (hp.tr hpo)).imp ?_
  intro D σ H ⟨env, h, Dp, re, z, q, l⟩
  refine ⟨env, h, _, re, z, q, ⟨l.nx, l.rt, l.bk, l.ct, fun d env' h' σ' H' q' e' re' z' => ?_⟩⟩
  refine ⟨rfl, ?_⟩
  dsimp only at q'
  cases ex : P.G.exm d k with
  | none => rw [ex] at q'; exact q'.elim
  | some b =>
    rw [ex] at q'
    refine ⟨b, by rw [o.hK]; exact o.wl.wx.xm d k b ex, fun hb => ?_, fun hb => ?_⟩
    · subst hb
      refine ⟨q'.1, fun a na => ?_⟩
      have x1 : Ext H' (upd H' a (ExV (.ref (P.cls d)) a)) := .new na
      have z1 : HR P (pup h' a (.exc d)) (upd H' a (ExV (.ref (P.cls d)) a)) := z'.upd x1 (by exact upd_same)
      exact l.nx _ _ _ _ (q'.2 a (z'.free na)) (e'.trans x1) (re_none i (((re'.ext x1).put (.loc a) i).put (.loc a) j)) z1
    · subst hb
      exact l.ex _ _ _ _ _ q' e' re' z'
theorem s_tryO (o : Cok P F C c lv X sc sc W) (hp : StOk X) {b : Ss} {k i : Nat} {v : Option Bool} {x m : Str} {w : Expr} {body : List Stmt} {np p1 p3 p4 pos : Pos} (hv : cstE v w = true) (hi : c.N[i]? = some m) (hm : locB sc m = true)
    (hx : c.clN k = some x) (hg : glB sc x = true) (hd : dunB x = true) (hb : ∀ {X : Cx} {W : WX}, Cok P F C c lv X sc sc W → StOk X → PSs X body (LS P W (evSs P.G C b))) :
    PS X (.Try body [.ExceptHandler (some (.Name x np)) none [.Assign [.Name m p1] w p3] p4] [] [] pos) (LS P W (evS P.G C (.tryO b k i v))) := by
  have e : ∀ x, X.env.kindOf x = sc.names.lookup x := fun x => by unfold Env.kindOf; rw [o.hsc]
  have su : ∃ (cv : V), (∀ (H : Hp), RP P.K H (cstP v) cv) ∧ ∀ (Y : Cx), Y.N = X.N → Y.env = X.env → Y.fn = X.fn → PS Y (.Assign [.Name m p1] w p3) (fun D σ H => D.nx (σ.set i (some cv)) H) := by
    have hN : X.N[i]? = some m := by rw [o.hN]; exact hi
    have nd : X.N.Nodup := by rw [o.hN]; exact o.nd
    have hl : L2.Loc X.env.scope m := by rw [o.hsc]; exact loc_of hm
    have hf : X.fn m = true ∨ X.env.scope.names.lookup m = some .local := by
      have := o.st m (loc_of hm)
      rw [o.hsc]
      exact this
    unfold cstE at hv
    split at hv
    · exact ⟨.non, fun H => .non, fun Y e1 e2 e3 => ps_set (X := Y) (by rw [e1]; exact nd) (by rw [e1]; exact hN) (by rw [e2]; exact hl) pe_non rfl (by rw [e2, e3]; exact hf)⟩
    · rename_i b d _ _
      have : b = d := by simpa using hv
      subst this
      exact ⟨.bl b, fun H => .bl b, fun Y e1 e2 e3 => ps_set (X := Y) (by rw [e1]; exact nd) (by rw [e1]; exact hN) (by rw [e2]; exact hl) pe_bl rfl (by rw [e2, e3]; exact hf)⟩
    · cases hv
  obtain ⟨cv, rc, su⟩ := su
  refine (ps_try_only (c := .ref (P.cls k)) (tb := fun W' => LS P W' (evSs P.G C b)) (ts := fun _ _ _ D σ H => D.nx (σ.set i (some cv)) H) (Wout := W) hp.hs hp.hf ⟨o.glx hg, (dun_of hd).1, .inl (o.wl.mc k x hx)⟩ o.tk (fun W' pn xe tk hpo => hb (o.tr tk) (hp.tr hpo))
    fun a oe cls d pn _ _ => pss_one (su _ rfl rfl rfl)).imp ?_
  intro D σ H ⟨env, h, Dp, re, z, q, l⟩
  refine ⟨env, h, _, re, z, q, ⟨l.nx, l.rt, l.bk, l.ct, fun d env' h' σ' H' q' e' re' z' => ?_⟩⟩
  dsimp only at q'
  cases ex : P.G.exm d k with
  | none => rw [ex] at q'; exact q'.elim
  | some b =>
    rw [ex] at q'
    refine ⟨b, by rw [o.hK]; exact o.wl.wx.xm d k b ex, fun hb a na => ?_, fun hb => ?_⟩
    · subst hb
      exact l.nx _ _ _ _ q' e' (re'.put (rc _) i) z'
    · subst hb
      exact l.ex _ _ _ _ _ q' e' re' z'
end
section
variable {P : Pm} {F : FT} {C : CallS} {c : Ct} {lv : Nat}
mutual
theorem sS : ∀ (s : S) (sc : Scope) (x : Stmt), chkS c s sc x = true → ∀ {X : Cx} {W : WX}, Cok P F C c lv X sc sc W → StOk X → PS X x (LS P W (evS P.G C s))
  | .skip, sc, x, h, X, W, o, hp => by
    cases x with
    | Pass => exact ps_pass.imp fun D σ H ⟨env, h, Dp, re, z, q, l⟩ => l.nx _ _ _ _ q (.refl H) re z
    | Expr e pos =>
      cases e with
      | Constant k j p =>
        cases k with
        | str s => exact ps_doc.imp fun D σ H ⟨env, h, Dp, re, z, q, l⟩ => l.nx _ _ _ _ q (.refl H) re z
        | _ => exact absurd h Bool.false_ne_true
      | _ => exact absurd h Bool.false_ne_true
    | _ => exact absurd h Bool.false_ne_true
  | .brk, sc, x, h, X, W, o, hp => by
    cases x with
    | Break => exact ps_break.imp fun D σ H ⟨env, h, Dp, re, z, q, l⟩ => l.bk _ _ _ _ q (.refl H) re z
    | _ => exact absurd h Bool.false_ne_true
  | .cont, sc, x, h, X, W, o, hp => by
    cases x with
    | Continue => exact ps_continue.imp fun D σ H ⟨env, h, Dp, re, z, q, l⟩ => l.ct _ _ _ _ q (.refl H) re z
    | _ => exact absurd h Bool.false_ne_true
  | .expr e, sc, x, h, X, W, o, hp => by
    cases x with
    | Expr y pos =>
      simp only [chkS, Bool.and_eq_true] at h
      exact s_expr o (sE e _ sc sc y h.2 o) h.1.1 h.1.2
    | _ => exact absurd h Bool.false_ne_true
  | .ret e, sc, x, h, X, W, o, hp => by
    cases x with
    | Return y pos =>
      cases y with
      | some y =>
        simp only [chkS, Bool.and_eq_true] at h
        exact s_ret o (sE e _ sc sc y h.2 o)
      | none => exact absurd h Bool.false_ne_true
    | _ => exact absurd h Bool.false_ne_true
  | .retN, sc, x, h, X, W, o, hp => by
    cases x with
    | Return y pos =>
      cases y with
      | some y => exact absurd h Bool.false_ne_true
      | none => exact s_retN
    | _ => exact absurd h Bool.false_ne_true
  | .set i e, sc, x, h, X, W, o, hp => by
    cases x with
    | Assign ts v pos =>
      match ts, h with
      | [.Name y p], h =>
        simp only [chkS, Bool.and_eq_true] at h
        obtain ⟨⟨⟨⟨h1, h2⟩, h3⟩, h4⟩, h5⟩ := h
        exact s_set o (sE e _ sc sc v h5 o) h3 h4 (at_get h1) h2 (loc_of h2)
    | _ => exact absurd h Bool.false_ne_true
  | .setC i e, sc, x, h, X, W, o, hp => by
    cases e with
    | comp elt t it ifs ws =>
      cases x with
      | Assign ts v pos =>
        cases ts with
        | nil => exact absurd h Bool.false_ne_true
        | cons a as =>
          cases a with
          | Name y p =>
            cases as with
            | cons _ _ => exact absurd h Bool.false_ne_true
            | nil =>
              cases v with
              | ListComp el gs scope lp =>
                simp only [chkS, Bool.and_eq_true, decide_eq_true_eq, Bool.not_eq_true'] at h
                obtain ⟨⟨⟨⟨g1, g2⟩, g3⟩, g4⟩, h⟩ := h
                match gs, h with
                | [⟨tg, iter, fs, k⟩], h =>
                  simp only [chkE, Bool.and_eq_true, decide_eq_true_eq] at h
                  obtain ⟨⟨⟨⟨⟨⟨⟨h0, h1⟩, h2⟩, h3⟩, h4⟩, h5⟩, h6⟩, h7⟩ := h
                  subst h0
                  exact s_asgN o (p_setComp o h1 h7 (sI it _ sc sc tg iter h3 o) (i_set (P := P) (F := F) (C := C) (lv := lv) it _ sc tg iter h3 _) (fun o' => sT o' t tg h4) (fun o' => sBs ifs _ _ _ fs h5 o') (fun o' => sE elt _ _ _ el h6 o') (at_get g1) g2 g3 g4)
                | [], h => simp [chkE] at h
                | _ :: _ :: _, h => simp [chkE] at h
              | _ => exact absurd h Bool.false_ne_true
          | _ => exact absurd h Bool.false_ne_true
      | _ => exact absurd h Bool.false_ne_true
    | compD elt t e ifs ws =>
      cases x with
      | Assign ts v pos =>
        cases ts with
        | nil => exact absurd h Bool.false_ne_true
        | cons a as =>
          cases a with
          | Name y p =>
            cases as with
            | cons _ _ => exact absurd h Bool.false_ne_true
            | nil =>
              cases v with
              | ListComp el gs scope lp =>
                simp only [chkS, Bool.and_eq_true, decide_eq_true_eq, Bool.not_eq_true'] at h
                obtain ⟨⟨⟨⟨g1, g2⟩, g3⟩, g4⟩, h⟩ := h
                match gs, h with
                | [⟨tg, iter, fs, k⟩], h =>
                  simp only [chkE, Bool.and_eq_true, decide_eq_true_eq] at h
                  obtain ⟨⟨⟨⟨⟨⟨⟨⟨⟨h0, h1⟩, h2⟩, h3⟩, h4⟩, h5⟩, h6⟩, h7⟩, h8⟩, h9⟩ := h
                  subst h0
                  exact s_setCompD o h1 h9 (sE e _ sc sc iter h5 o) (ok_set h3 _) (fun o' => sT o' t tg h6) (fun o' => sBs ifs _ _ _ fs h7 o') (fun o' => sE elt _ _ _ el h8 o') (at_get g1) g2 g3 g4
                | [], h => simp [chkE] at h
                | _ :: _ :: _, h => simp [chkE] at h
              | _ => exact absurd h Bool.false_ne_true
          | _ => exact absurd h Bool.false_ne_true
      | _ => exact absurd h Bool.false_ne_true
    | _ => exact absurd h (by cases x <;> simp [chkS])
  | .setT ts e, sc, x, h, X, W, o, hp => by
    cases x with
    | Assign us v pos =>
      match us, h with
      | [.Tuple xs k p], h =>
        simp only [chkS, Bool.and_eq_true] at h
        obtain ⟨⟨⟨⟨h1, h2⟩, h3⟩, h4⟩, h5⟩ := h
        exact s_setT o (sE e _ sc sc v h5 o) h2 h3 h4 (sT o (.tup ts) _ h1)
    | _ => exact absurd h Bool.false_ne_true
  | .setL ts e, sc, x, h, X, W, o, hp => by
    cases x with
    | Assign us v pos =>
      match us, h with
      | [.Tuple xs k p], h =>
        simp only [chkS, Bool.and_eq_true] at h
        obtain ⟨⟨⟨⟨h1, h2⟩, h3⟩, h4⟩, h5⟩ := h
        exact s_setL o (sE e _ sc sc v h5 o) h2 h3 h4 h1
    | _ => exact absurd h Bool.false_ne_true
  | .par _ _ _ _, sc, x, h, X, W, o, hp => by cases x <;> exact absurd h Bool.false_ne_true
  | .aug i op e, sc, x, h, X, W, o, hp => by
    cases x with
    | AugAssign tg q v pos =>
      cases tg with
      | Name y p =>
        simp only [chkS, Bool.and_eq_true, decide_eq_true_eq] at h
        obtain ⟨⟨⟨⟨h1, h2⟩, h3⟩, h4⟩, h5⟩ := h
        rw [h3]
        exact s_aug o (sE e _ sc sc v h5 o) (at_get h1) h2 (loc_of h2)
      | _ => exact absurd h Bool.false_ne_true
    | _ => exact absurd h Bool.false_ne_true
  | .fldSet ob f e, sc, x, h, X, W, o, hp => by
    cases x with
    | Assign us v pos =>
      match us, h with
      | [.Attribute y s p], h =>
        simp only [chkS, Bool.and_eq_true] at h
        obtain ⟨⟨⟨⟨h1, h2⟩, h3⟩, h4⟩, h5⟩ := h
        exact s_fldSet o (sE ob _ sc sc y h4 o) (sE e _ sc sc v h5 o) h2 (by rw [← o.wl.hG]; exact at_get h3)
    | _ => exact absurd h Bool.false_ne_true
  | .fldAug ob f op e, sc, x, h, X, W, o, hp => by
    cases x with
    | AugAssign tg q v pos =>
      cases tg with
      | Attribute y s p =>
        simp only [chkS, Bool.and_eq_true, decide_eq_true_eq] at h
        obtain ⟨⟨⟨⟨⟨h1, h2⟩, h3⟩, h4⟩, h5⟩, h6⟩ := h
        rw [h4]
        exact s_fldAug o (sE ob _ sc sc y h5 o) (sE e _ sc sc v h6 o) (by rw [← o.wl.hG]; exact at_get h3)
      | _ => exact absurd h Bool.false_ne_true
    | _ => exact absurd h Bool.false_ne_true
  | .subSet ob i e, sc, x, h, X, W, o, hp => by
    cases x with
    | Assign us v pos =>
      match us, h with
      | [.Subscript y j p], h =>
        simp only [chkS, Bool.and_eq_true] at h
        obtain ⟨⟨⟨⟨⟨h1, h2⟩, h3⟩, h4⟩, h5⟩, h6⟩ := h
        exact s_subSet o (sE ob _ sc sc y h4 o) (sE i _ sc sc j h5 o) (sE e _ sc sc v h6 o) h3 h2
    | _ => exact absurd h Bool.false_ne_true
  | .subSetT ob ks e, sc, x, h, X, W, o, hp => by
    cases x with
    | Assign us v pos =>
      match us, h with
      | [.Subscript y (.Tuple xs k tp) p], h =>
        simp only [chkS, Bool.and_eq_true] at h
        obtain ⟨⟨⟨⟨h1, h2⟩, h3⟩, h4⟩, h5⟩ := h
        exact s_subSetT o (sE ob _ sc sc y h3 o) (sEs ks _ sc sc xs h4 o) (sE e _ sc sc v h5 o) h2
    | _ => exact absurd h Bool.false_ne_true
  | .subAug ob i op e, sc, x, h, X, W, o, hp => by
    cases x with
    | AugAssign tg q v pos =>
      cases tg with
      | Subscript y j p =>
        simp only [chkS, Bool.and_eq_true, decide_eq_true_eq] at h
        obtain ⟨⟨⟨⟨⟨⟨h1, h2⟩, h3⟩, h4⟩, h5⟩, h6⟩, h7⟩ := h
        rw [h4]
        exact s_subAug o (sE ob _ sc sc y h5 o) (sE i _ sc sc j h6 o) (sE e _ sc sc v h7 o) h2
      | _ => exact absurd h Bool.false_ne_true
    | _ => exact absurd h Bool.false_ne_true
  | .ite d a b, sc, x, h, X, W, o, hp => by
    cases x with
    | If t x y pos =>
      simp only [chkS, Bool.and_eq_true] at h
      exact s_if o (sB d _ sc sc t h.1.1 o) (sSs a sc x h.1.2 o hp) (sSs b sc y h.2 o hp)
    | _ => exact absurd h Bool.false_ne_true
  | .raise k, sc, x, h, X, W, o, hp => by
    cases x with
    | Raise a b pos =>
      cases a with
      | none => exact absurd h Bool.false_ne_true
      | some e =>
        cases b with
        | some _ => exact absurd h Bool.false_ne_true
        | none =>
          simp only [chkS] at h
          split at h
          · rename_i x ex
            simp only [Bool.and_eq_true] at h
            obtain ⟨⟨⟨h1, h2⟩, h3⟩, h4⟩ := h
            obtain ⟨p, m, j, p2, pos2, rfl⟩ := rsX_eq ex
            exact s_raise o (opt_get h1) h2 h3 (by rw [← o.wl.hG]; exact h4)
          · cases h
    | _ => exact absurd h Bool.false_ne_true
  | .tryAs b k i j, sc, x, h, X, W, o, hp => by
    cases x with
    | Try body hs orelse fin pos =>
      cases orelse with
      | cons _ _ => exact absurd h Bool.false_ne_true
      | nil =>
        cases fin with
        | cons _ _ => exact absurd h Bool.false_ne_true
        | nil =>
          simp only [chkS, Bool.and_eq_true] at h
          obtain ⟨h, hb⟩ := h
          split at h
          · rename_i x n m n2 ex
            simp only [Bool.and_eq_true, decide_eq_true_eq] at h
            obtain ⟨⟨⟨⟨⟨⟨h1, h2⟩, h3⟩, h4⟩, h5⟩, h6⟩, h7, h8⟩ := h
            subst h1
            obtain ⟨np, p1, p2, p3, p4, rfl⟩ := asH_eq ex
            exact s_tryAs o hp (at_get h2) (at_get h3) h4 h5 h6 (opt_get h7.1) h7.2 h8 fun o' hp' => sSs b sc body hb o' hp'
          · cases h
    | _ => exact absurd h Bool.false_ne_true
  | .tryO b k i v, sc, x, h, X, W, o, hp => by
    cases x with
    | Try body hs orelse fin pos =>
      cases orelse with
      | cons _ _ => exact absurd h Bool.false_ne_true
      | nil =>
        cases fin with
        | cons _ _ => exact absurd h Bool.false_ne_true
        | nil =>
          simp only [chkS, Bool.and_eq_true] at h
          obtain ⟨h, hb⟩ := h
          split at h
          · rename_i x m w ex
            simp only [Bool.and_eq_true] at h
            obtain ⟨⟨⟨h1, h2⟩, h3⟩, h7, h8⟩ := h
            obtain ⟨np, p1, p3, p4, rfl⟩ := onH_eq ex
            exact s_tryO o hp h1 (at_get h2) h3 (opt_get h7.1) h7.2 h8 fun o' hp' => sSs b sc body hb o' hp'
          · cases h
    | _ => exact absurd h Bool.false_ne_true
  | .while d b, sc, x, h, X, W, o, hp => by
    cases x with
    | While t x y pos =>
      cases y with
      | nil =>
        simp only [chkS, Bool.and_eq_true] at h
        exact s_while o hp.hp (sB d _ sc sc t h.1 o) (sSs b sc x h.2 o hp)
      | cons _ _ => exact absurd h Bool.false_ne_true
    | _ => exact absurd h Bool.false_ne_true
  | .for t it b, sc, x, h, X, W, o, hp => by
    cases x with
    | For tg iter x y pos =>
      cases y with
      | nil =>
        simp only [chkS, Bool.and_eq_true] at h
        exact s_for o hp.hp (sI it _ sc sc tg iter h.1.1 o) (i_set (P := P) (F := F) (C := C) (lv := lv) it _ sc tg iter h.1.1 _) (sT o t tg h.1.2) (sSs b sc x h.2 o hp)
      | cons _ _ => exact absurd h Bool.false_ne_true
    | _ => exact absurd h Bool.false_ne_true
  | .forD t false e b, sc, x, h, X, W, o, hp => by
    cases x with
    | For tg iter x y pos =>
      cases y with
      | nil =>
        have h : (okE iter && noLc iter && chkE c e sc iter && chkT c t sc sc tg && chkSs c b sc x) = true := h
        simp only [Bool.and_eq_true] at h
        obtain ⟨⟨⟨⟨h1, h2⟩, h3⟩, h4⟩, h5⟩ := h
        exact s_forD o hp.hp (pi_keys (sE e _ sc sc iter h3 o)) (fun σ H R ⟨env, h, Qp, Xp, re, z, q, l, lx⟩ => ⟨env, h, Qp, Xp, re, z, q, fun a b c d q e r z => by
          obtain ⟨p1, p2, p3, p4, p5, p6⟩ := l a b c d q e r z
          exact ⟨p1, p2, p4, .inl ⟨p3, p5, p6⟩⟩, lx⟩) (ok_set h1 _) (sT o t tg h4) (sSs b sc x h5 o hp)
      | cons _ _ => exact absurd h Bool.false_ne_true
    | _ => exact absurd h Bool.false_ne_true
  | .forD t true e b, sc, x, h, X, W, o, hp => by
    cases x with
    | For tg iter x y pos =>
      match tg, iter, y, h with
      | .Tuple xs k p, .Call (.Attribute ob s apos) [] [] cpos, [], h =>
        simp only [chkS, Bool.and_eq_true, decide_eq_true_eq] at h
        obtain ⟨⟨⟨⟨⟨h1, h2⟩, h3⟩, h4⟩, h5⟩, h6⟩ := h
        subst h2
        exact s_forD o hp.hp (pi_items (sE e _ sc sc ob h4 o) (ok_base h1 _ _) h3) (fun σ H R q => q) (fun _ => rfl) (sT o t _ h5) (sSs b sc x h6 o hp)
    | _ => exact absurd h Bool.false_ne_true
theorem sSs : ∀ (s : Ss) (sc : Scope) (x : List Stmt), chkSs c s sc x = true → ∀ {X : Cx} {W : WX}, Cok P F C c lv X sc sc W → StOk X → PSs X x (LS P W (evSs P.G C s))
  | .nil, sc, [], h, X, W, o, hp => pss_ls_nil
  | .nil, sc, _ :: _, h, X, W, o, hp => absurd h Bool.false_ne_true
  | .cons s ss, sc, [], h, X, W, o, hp => absurd h Bool.false_ne_true
  | .cons s ss, sc, x :: xs, h, X, W, o, hp => by
    simp only [chkSs, Bool.and_eq_true] at h
    exact pss_ls_cons (ea := evS P.G C s) (eb := evSs P.G C ss) (sS s sc x h.1 o hp) (sSs ss sc xs h.2 o hp)
end
end
end
end Mir

set_option autoImplicit false
namespace Mir
open PySem L2 PySem.Spec
open PyProof.Rows hiding St
variable [Tbl]

/-! ## a def that got a lambda -/
/-- what follows its try -/
def runR (G : Sig) (C : CallS) (d : LmI) (vs : List PV) (h : PH) (Q : QE) : Prop := evSs G C d.body (vs.map some ++ List.replicate (d.ns - vs.length) none) h
  ⟨fun _ h1 => ∃ h2, PLe h2 h1 ∧ Q .non h2, fun v h1 => ∃ h2, PLe h2 h1 ∧ Q v h2, fun _ _ => False, fun _ _ => False, fun _ _ _ => False⟩
def lamEv (G : Sig) (C : CallS) (d : LmI) (ev : QE → XE → Prop) (Q : QE) : Prop :=
  ev (fun v h1 => ∀ a : Addr, runR G C d (d.args (.loc a) v .non) h1 Q) (fun c h1 => G.exm c d.k = some true ∧ ∀ a e : Addr, h1 e = none → runR G C d (d.args (.loc a) .non (.loc e)) (pup h1 e (.exc c)) Q)
theorem re_nones {K : PySem.W.Frag} {H : Hp} : ∀ {m : Nat} {τ : St}, τ.length = m → RE K H (List.replicate m none) τ
  | 0, [], _ => .nil
  | m + 1, _ :: τ, h => .cons (fun x e => by cases e) (re_nones (Nat.succ.inj h))
theorem re_two {K : PySem.W.Frag} {H : Hp} {x y : PV} {v w : V} {τ : St} (r1 : RP K H x v) (r2 : RP K H y w) : RE K H (some x :: some y :: List.replicate τ.length none) (some v :: some w :: τ) :=
  .cons (fun _ e => by cases e; exact ⟨v, rfl, r1⟩) (.cons (fun _ e => by cases e; exact ⟨w, rfl, r2⟩) (re_nones rfl))
theorem re_three {K : PySem.W.Frag} {H : Hp} {x y z : PV} {v w u : V} {τ : St} (r1 : RP K H x v) (r2 : RP K H y w) (r3 : RP K H z u) : RE K H (some x :: some y :: some z :: List.replicate τ.length none) (some v :: some w :: some u :: τ) :=
  .cons (fun _ e => by cases e; exact ⟨v, rfl, r1⟩) (.cons (fun _ e => by cases e; exact ⟨w, rfl, r2⟩) (.cons (fun _ e => by cases e; exact ⟨u, rfl, r3⟩) (re_nones rfl)))
section
variable {P : Pm} {F : FT} {C : CallS} {c : Ct} {lv : Nat} {X : Cx} {sc : Scope} {W : WX}
/-- the lambda's call within the try, by its meaning at H -/
def actT (P : Pm) (ev : QE → XE → Prop) (fx : Addr) (H : Hp) (W : WX) : TE := fun σZ HZ Q' => HZ = H ∧ σZ[0]? = some (some (.ref fx)) ∧ ∃ Qq Xq, ev Qq Xq ∧ Lft P H Qq Q' ∧ ∀ c h' H', Xq c h' → Ext H H' → HR P h' H' → W (.ref (P.cls c)) none σZ H'
/-- what is left, run at σ -/
theorem rest_ls {d : LmI} {vs : List PV} {h : PH} {H' : Hp} {Qp : QE} {Q : VK} {σ : St} (z : HR P h H') (re : RE P.K H' (vs.map some ++ List.replicate (d.ns - vs.length) none) σ) (q : runR P.G C d vs h Qp) (l : Lft P H' Qp Q) :
    LS P W (evSs P.G C d.body) { nx := fun _ H' => Q .non H', rt := Q } σ H' :=
  ⟨_, h, _, re, z, q, ⟨fun env h' σ' H' ⟨h2, le, q⟩ e re z => l _ _ _ _ q e .non (z.le le), fun pr h' v H' ⟨h2, le, q⟩ e r z => l _ _ _ _ q e r (z.le le), fun _ _ _ _ q => q.elim, fun _ _ _ _ q => q.elim, fun _ _ _ _ _ q => q.elim⟩⟩
theorem lam_pss (o : Cok P F C c lv X sc sc W) (hp : StOk X) {d : LmI} {a : Str} {bg : List Stmt} (ck : chkLam c d sc a bg = true) (hns : c.N.length = d.ns) {fx : Addr} {H : Hp} {h0 : PH} {ev : QE → XE → Prop} {Qp : QE} {Q : VK}
    (q : lamEv P.G C d ev Qp) (l : Lft P H Qp Q)
    (act : ∀ (pn : List (Addr × Obj)) (xe : Value → Shared → Prop) (W' : WX) (p1 p2 : Pos), Takes (X.tr pn xe) W' → PE (X.tr pn xe) (.Call (.Name a p1) [] [] p2) (actT P ev fx H W')) :
    ∃ t, PSs X bg t ∧ t { nx := fun _ H' => Q .non H', rt := Q } (L2.start X.N [.ref fx]) H := by
  unfold chkLam at ck
  simp only [Bool.and_eq_true] at ck
  obtain ⟨⟨⟨k1, k2⟩, k3⟩, ck⟩ := ck
  have kof : ∀ x, X.env.kindOf x = sc.names.lookup x := fun x => by unfold Env.kindOf; rw [o.hsc]
  have nd : X.N.Nodup := by rw [o.hN]; exact o.nd
  unfold lamEv at q
  split at ck
  · rename_i m p j pc ps a' pa pe pb hs pt rest efd
    simp only [Bool.and_eq_true, decide_eq_true_eq] at ck
    obtain ⟨⟨⟨⟨ea, h1⟩, h2⟩, h3⟩, h4⟩ := ck
    subst ea
    split at h3
    · rename_i x n m' n2 ex
      simp only [Bool.and_eq_true, decide_eq_true_eq] at h3
      obtain ⟨⟨⟨⟨⟨⟨e1, e2⟩, e3⟩, e4⟩, e5⟩, e6⟩, ⟨e7, e8⟩, e9⟩ := h3
      subst e1 e2
      obtain ⟨np, q1, q2, q3, q4, rfl⟩ := asH_eq ex
      have hj := at_get h1
      have hi := at_get e3
      generalize c.N.idxOf n2 = i at e4 hi
      obtain ⟨n0, N', eN⟩ : ∃ n0 N', X.N = n0 :: m' :: N' := by
        rw [o.hN]
        match hc : c.N, hj with
        | n0 :: n1 :: N', hj => simp at hj; subst hj; exact ⟨n0, N', rfl⟩
      have lnN : N'.length = d.ns - 2 := by have := congrArg List.length eN; rw [o.hN, hns] at this; simp at this; omega
      have lm : locB sc m' = true := h2
      have st1 := ps_set (X := X) (pos := ps) (pos' := p) nd (i := 1) (x := m') (by rw [o.hN]; exact hj) (by rw [o.hsc]; exact loc_of lm) (pe_non (j := j) (pos := pc)) rfl (by have := o.st m' (loc_of lm); rw [o.hsc]; exact this)
      have st2 := ps_try_keep (X := X) (x := x) (n := n2) (m := m') (body := [.Expr (.Call (.Name a' pa) [] [] pe) pb]) (np := np) (p1 := q1) (p2 := q2) (p3 := q3) (pos := pt) (pos' := q4) (i := i) (j := 1) (c := .ref (P.cls d.k)) (tb := fun W' => tDrop (actT P ev fx H W')) (Wout := W) hp.hex hp.hs hp.hf nd (by rw [o.hN]; exact hi) (by rw [o.hN]; exact hj) (by rw [kof]; exact e5) (by rw [o.hsc]; exact loc_of lm)
        (by rw [kof]; exact o.st m' (loc_of lm)) (by rw [o.hsc]; exact .inl e5) (dun_of e6).1 (dun_of e6).2.1 ⟨o.glx e8, (dun_of e9).1, .inl (o.wl.mc d.k x (opt_get e7))⟩ o.tk fun W' pn xe tk _ => pss_one (ps_expr (act pn xe W' pa pe tk))
      refine ⟨_, pss_cons st1 (pss_cons st2 (sSs d.body sc rest h4 o hp)), ?_⟩
      have es : L2.start X.N [.ref fx] = some (.ref fx) :: none :: List.replicate N'.length none := by
        unfold L2.start
        rw [eN]
        rfl
      rw [es]
      have ar : ∀ b v w : PV, d.args b v w = [b, w] := fun b v w => by unfold LmI.args; rw [efd]; rfl
      simp only [ar] at q
      refine ⟨rfl, rfl, _, _, q, fun pr h' v H' qq e r z => ?_, fun k h' H' qq e z => ⟨rfl, true, by rw [o.hK]; exact o.wl.wx.xm _ _ _ qq.1, fun _ => ⟨by omega, fun b nb => ?_⟩, fun z => by cases z⟩⟩
      · refine rest_ls z ?_ (qq fx) (l.on e)
        have := re_two (K := P.K) (H := H') (x := .loc fx) (y := .non) (v := .ref fx) (w := .non) (τ := List.replicate N'.length none) (.loc fx) .non
        rw [List.length_replicate, lnN] at this
        rw [lnN]
        exact this
      · have x1 : Ext H' (upd H' b (ExV (.ref (P.cls k)) b)) := .new nb
        have z1 : HR P (pup h' b (.exc k)) (upd H' b (ExV (.ref (P.cls k)) b)) := z.upd x1 (by exact upd_same)
        refine rest_ls z1 ?_ (qq.2 fx b (z.free nb)) (l.on (e.trans x1))
        obtain ⟨i', rfl⟩ : ∃ i', i = i' + 2 := ⟨i - 2, by omega⟩
        have := re_two (K := P.K) (H := upd H' b (ExV (.ref (P.cls k)) b)) (x := .loc fx) (y := .loc b) (v := .ref fx) (w := .ref b) (τ := ((List.replicate N'.length (none : Option V)).set i' (some (.ref b))).set i' none) (.loc fx) (.loc b)
        rw [List.length_set, List.length_set, List.length_replicate, lnN] at this
        rw [lnN]
        exact this
    · cases h3
  · rename_i g p j pc ps m p' j' pc' ps' g' pg a' pa pe pb hs pt rest efd
    simp only [Bool.and_eq_true, decide_eq_true_eq] at ck
    obtain ⟨⟨⟨⟨⟨⟨⟨ea, eg⟩, h1⟩, h2⟩, h3⟩, h4⟩, h5⟩, h6⟩ := ck
    subst ea eg
    split at h5
    · rename_i x n m' n2 ex
      simp only [Bool.and_eq_true, decide_eq_true_eq] at h5
      obtain ⟨⟨⟨⟨⟨⟨e1, e2⟩, e3⟩, e4⟩, e5⟩, e6⟩, ⟨e7, e8⟩, e9⟩ := h5
      subst e1 e2
      obtain ⟨np, q1, q2, q3, q4, rfl⟩ := asH_eq ex
      have hg := at_get h1
      have hj := at_get h3
      have hi := at_get e3
      generalize c.N.idxOf n2 = i at e4 hi
      obtain ⟨n0, N', eN⟩ : ∃ n0 N', X.N = n0 :: g' :: m' :: N' := by
        rw [o.hN]
        match hc : c.N, hg, hj with
        | n0 :: n1 :: n2 :: N', hg, hj => simp at hj hg; subst hj hg; exact ⟨n0, N', rfl⟩
      have lnN : N'.length = d.ns - 3 := by have := congrArg List.length eN; rw [o.hN, hns] at this; simp at this; omega
      have st1 := ps_set (X := X) (pos := ps) (pos' := p) nd (i := 1) (x := g') (by rw [o.hN]; exact hg) (by rw [o.hsc]; exact loc_of h2) (pe_non (j := j) (pos := pc)) rfl (by have := o.st g' (loc_of h2); rw [o.hsc]; exact this)
      have st2 := ps_set (X := X) (pos := ps') (pos' := p') nd (i := 2) (x := m') (by rw [o.hN]; exact hj) (by rw [o.hsc]; exact loc_of h4) (pe_non (j := j') (pos := pc')) rfl (by have := o.st m' (loc_of h4); rw [o.hsc]; exact this)
      have st3 := ps_try_keep (X := X) (x := x) (n := n2) (m := m') (body := [.Assign [.Name g' pg] (.Call (.Name a' pa) [] [] pe) pb]) (np := np) (p1 := q1) (p2 := q2) (p3 := q3) (pos := pt) (pos' := q4) (i := i) (j := 2) (c := .ref (P.cls d.k)) (tb := fun W' => tAsg (actT P ev fx H W') (gName 1)) (Wout := W) hp.hex hp.hs hp.hf nd (by rw [o.hN]; exact hi) (by rw [o.hN]; exact hj) (by rw [kof]; exact e5) (by rw [o.hsc]; exact loc_of h4)
        (by rw [kof]; exact o.st m' (loc_of h4)) (by rw [o.hsc]; exact .inl e5) (dun_of e6).1 (dun_of e6).2.1 ⟨o.glx e8, (dun_of e9).1, .inl (o.wl.mc d.k x (opt_get e7))⟩ o.tk fun W' pn xe tk _ => pss_one (ps_set (X := X.tr pn xe) nd (i := 1) (x := g') (by show X.N[1]? = _; rw [o.hN]; exact hg) (by show L2.Loc X.env.scope g'; rw [o.hsc]; exact loc_of h2) (act pn xe W' pa pe tk) rfl (by have := o.st g' (loc_of h2); show X.fn g' = true ∨ X.env.scope.names.lookup g' = _; rw [o.hsc]; exact this))
      refine ⟨_, pss_cons st1 (pss_cons st2 (pss_cons st3 (sSs d.body sc rest h6 o hp))), ?_⟩
      have es : L2.start X.N [.ref fx] = some (.ref fx) :: none :: none :: List.replicate N'.length none := by
        unfold L2.start
        rw [eN]
        rfl
      rw [es]
      have ar : ∀ b v w : PV, d.args b v w = [b, v, w] := fun b v w => by unfold LmI.args; rw [efd]; rfl
      simp only [ar] at q
      refine ⟨rfl, rfl, _, _, q, fun pr h' v H' qq e r z => ?_, fun k h' H' qq e z => ⟨rfl, true, by rw [o.hK]; exact o.wl.wx.xm _ _ _ qq.1, fun _ => ⟨by omega, fun b nb => ?_⟩, fun z => by cases z⟩⟩
      · refine rest_ls z ?_ (qq fx) (l.on e)
        have := re_three (K := P.K) (H := H') (x := .loc fx) (y := pr) (z := .non) (v := .ref fx) (w := v) (u := .non) (τ := List.replicate N'.length none) (.loc fx) r .non
        rw [List.length_replicate, lnN] at this
        rw [lnN]
        exact this
      · have x1 : Ext H' (upd H' b (ExV (.ref (P.cls k)) b)) := .new nb
        have z1 : HR P (pup h' b (.exc k)) (upd H' b (ExV (.ref (P.cls k)) b)) := z.upd x1 (by exact upd_same)
        refine rest_ls z1 ?_ (qq.2 fx b (z.free nb)) (l.on (e.trans x1))
        obtain ⟨i', rfl⟩ : ∃ i', i = i' + 3 := ⟨i - 3, by omega⟩
        have := re_three (K := P.K) (H := upd H' b (ExV (.ref (P.cls k)) b)) (x := .loc fx) (y := .non) (z := .loc b) (v := .ref fx) (w := .non) (u := .ref b) (τ := ((List.replicate N'.length (none : Option V)).set i' (some (.ref b))).set i' none) (.loc fx) .non (.loc b)
        rw [List.length_set, List.length_set, List.length_replicate, lnN] at this
        rw [lnN]
        exact this
    · cases h5
  · cases ck
end
end Mir

set_option autoImplicit false
namespace Mir
open PySem L2 PySem.Spec
open PyProof.Rows hiding St
variable [Tbl]

/-! ## the table of the defs -/
/-- what a def does, n calls deep; behind it less may be told of the heap -/
def sem (G : Sig) : Nat → CallS
  | 0 => ⟨fun _ _ _ _ _ => False, fun _ _ _ => False⟩
  | n + 1 => ⟨fun f vs h Q X => ∃ d, G.fn f = some d ∧ vs.length = d.np ∧ evSs G (sem G n) d.body (vs.map some ++ List.replicate (d.ns - d.np) none) h
      ⟨fun _ h1 => ∃ h2, PLe h2 h1 ∧ Q .non h2, fun v h1 => ∃ h2, PLe h2 h1 ∧ Q v h2, fun _ _ => False, fun _ _ => False, fun c _ h1 => ∃ h2, PLe h2 h1 ∧ X c h2⟩,
      fun f ev Q => ∃ d, G.lf f = some d ∧ lamEv G (sem G n) d ev Q⟩
theorem funD_of {K : PySem.W.Frag} {x qual : Str} {st : Stmt} {f : Addr} {fd : FuncData} (F : Fun K x qual st f fd) : FunD K x qual (defArgs st) (defBody st) (defScope st) [] [] f fd := by
  obtain ⟨oc, od, kV, doc, pm, an, cdv, ct, osl, e, l, c⟩ := F.ex
  exact ⟨⟨oc, od, .none, kV, doc, pm, an, cdv, ct, osl, e, l, c, .inl ⟨rfl, rfl⟩, .inl rfl⟩, F.kp⟩
/-- where the lambdas of a def have their table -/
def LamF (F : FT) (f : Nat) (qual : Str) : Prop := ∃ cc T, (F.fd f).code = .ref cc ∧ (cc, T) ∈ F.cs ∧ (T, qual ++ ".<locals>." ++ "<lambda>") ∈ Tbl.T
structure DefOk (K : PySem.W.Frag) (F : FT) (c : Ct) (f : Nat) (d : FnI) : Prop where
  ex : ∃ (x qual : Str) (st : Stmt) (N : List Str) (dvs : List V), FunD K x qual (defArgs st) (defBody st) (defScope st) dvs [] (F.fa f) (F.fd f) ∧ FnScope N (F.ps f) (defScope st) ∧ (F.ps f).length = d.np ∧ N.length = d.ns ∧ ∃ lm : Bool, chkSs { c with N := N, lm := lm } d.body (defScope st) (defBody st) = true ∧ (lm = true → LamF F f qual)
  bd : ∀ n, n ≤ d.np → d.np - n ≤ d.dflt.length → ∃ (ds : List Value) (dv : List V), Binds K (F.fd f) (F.ps f) ds ∧ Vals dv ds ∧ ∀ H, RPs K H (d.dflt.drop (d.dflt.length - (d.np - n))) dv
/-- a def with defaults: its values in K, and what they stand for -/
theorem def_okL {K : PySem.W.Frag} {F : FT} {c : Ct} {f : Nat} {d : FnI} {x qual : Str} {st : Stmt} {N : List Str} {dvs : List V} (lm : Bool) (Fd : FunD K x qual (defArgs st) (defBody st) (defScope st) dvs [] (F.fa f) (F.fd f))
    (S : FnScope N (F.ps f) (defScope st)) (h1 : (F.ps f).length = d.np) (h2 : N.length = d.ns) (h3 : chkSs { c with N := N, lm := lm } d.body (defScope st) (defBody st) = true) (hl : lm = true → LamF F f qual)
    (b : ∀ n, n ≤ d.np → d.np - n ≤ d.dflt.length → ∃ ds, Vals (dvs.drop (d.dflt.length - (d.np - n))) ds ∧ Binds K (F.fd f) (F.ps f) ds)
    (r : ∀ H, RPs K H d.dflt dvs) : DefOk K F c f d :=
  ⟨⟨x, qual, st, N, dvs, Fd, S, h1, h2, lm, h3, hl⟩, fun n h4 h5 => by
    obtain ⟨ds, e1, e2⟩ := b n h4 h5
    exact ⟨ds, _, e2, e1, fun H => (r H).drop _⟩⟩
theorem def_okD {K : PySem.W.Frag} {F : FT} {c : Ct} {f : Nat} {d : FnI} {x qual : Str} {st : Stmt} {N : List Str} {dvs : List V} (Fd : FunD K x qual (defArgs st) (defBody st) (defScope st) dvs [] (F.fa f) (F.fd f))
    (S : FnScope N (F.ps f) (defScope st)) (h1 : (F.ps f).length = d.np) (h2 : N.length = d.ns) (h3 : chkSs { c with N := N, lm := false } d.body (defScope st) (defBody st) = true)
    (b : ∀ n, n ≤ d.np → d.np - n ≤ d.dflt.length → ∃ ds, Vals (dvs.drop (d.dflt.length - (d.np - n))) ds ∧ Binds K (F.fd f) (F.ps f) ds)
    (r : ∀ H, RPs K H d.dflt dvs) : DefOk K F c f d := def_okL false Fd S h1 h2 h3 (fun z => by cases z) b r
/-- a def that got a lambda, by the text -/
structure LamD (K : PySem.W.Frag) (F : FT) (c : Ct) (f : Nat) (d : LmI) : Prop where
  ex : ∃ (x qual : Str) (st : Stmt) (N : List Str) (a : Str), Fun K x qual st (F.fa f) (F.fd f) ∧ FnScope N [a] (defScope st) ∧ N.length = d.ns ∧ chkLam { c with N := N, lm := false } d (defScope st) a (defBody st) = true ∧ Binds K (F.fd f) [a] []
/-- what the top has left, and how the text is read -/
structure Wst (P : Pm) (F : FT) (c : Ct) (mg : Str → Option Value) : Prop where
  hG : c.G = P.G
  df : ∀ f d, P.G.fn f = some d → DefOk P.K F c f d
  mf : ∀ f x, c.fnN f = some x → mg x = some (.ref (F.fa f)) ∧ PySem.W.keepIn P.K (.ref (F.fa f)) = true
  mc : ∀ k x, c.clN k = some x → mg x = some (.ref (P.cls k))
  mks : ∀ k f, P.G.ini k = some f → Mk P.K (P.cls k) (F.fa f)
  cl : ∀ k f, P.G.fl k f = true → Cls P.K (P.cls k)
  na : ∀ k f s, P.G.fl k f = true → P.G.nm[f]? = some s → NoAttr P.K (P.cls k) s
  me : ∀ k m f s, P.G.me k m = some f → P.G.nm[m]? = some s → Cls P.K (P.cls k) ∧ Meth P.K (P.cls k) s (F.fa f)
  nd : P.G.nm.Nodup
  bn : ∀ x ∈ c.bls, mg x = none
  gl : ∀ g x v, P.G.gl g = some v → P.G.nm[g]? = some x → ∃ u w, mg x = some u ∧ RelV w u ∧ ∀ H, RP P.K H v w
  wx : Wex P
  lm : ∀ f d, P.G.lf f = some d → LamD P.K F c f d
theorem re_start {K : PySem.W.Frag} {H : Hp} : ∀ {ps : List PV} {vs : List V} (n : Nat), RPs K H ps vs → RE K H (ps.map some ++ List.replicate n none) (vs.map some ++ List.replicate n none)
  | _, _, 0, .nil => .nil
  | _, _, n + 1, .nil => .cons (fun x e => by cases e) (re_start n .nil)
  | _, _, n, .cons r t => .cons (fun x e => by cases e; exact ⟨_, rfl, r⟩) (re_start n t)
theorem Wld.names {P : Pm} {F : FT} {C : CallS} {c : Ct} {lv : Nat} {mg : Str → Option Value} {prog : Program} {w : World} {base : Heap} (wl : Wld P F C c lv mg prog w base) (N : List Str) (lm : Bool) : Wld P F C { c with N := N, lm := lm } lv mg prog w base :=
  ⟨wl.hG, wl.fn, wl.len, wl.bd, wl.mf, wl.mc, wl.mks, wl.cl, wl.na, wl.me, wl.nd, wl.bn, wl.gl, wl.wx, wl.lam⟩
theorem lam_at {c : Ct} {d : LmI} {sc : Scope} {a : Str} {bg : List Stmt} (h : chkLam c d sc a bg = true) : c.N[0]? = some a ∧ Vis sc a ∧ dunB a = true := by
  unfold chkLam at h
  simp only [Bool.and_eq_true] at h
  exact ⟨at_get h.1.1.1, vis_of h.1.2, h.1.1.2⟩
theorem lamFn_0 {P : Pm} {F : FT} {c : Ct} {mg : Str → Option Value} {prog : Program} {w : World} {base : Heap} {lv : Nat} (S : Wst P F c mg) : ∀ f x, c.fnN f = some x → (P.G.lf f).isSome = true → LamFn P (sem P.G 0) f (F.fa f) lv mg prog w base := fun f x _ hl => by
  obtain ⟨d, hd⟩ := Option.isSome_iff_exists.mp hl
  obtain ⟨y, qual, st, N, a, Fn, sco, hn, ck, hb⟩ := (S.lm f d hd).ex
  obtain ⟨k1, k2, k3⟩ := lam_at ck
  exact ⟨N, a, qual, defScope st, .none, k1, k2, k3, fun A outer s H fx h ev Qp Q z q => (show False from q).elim⟩
theorem lamFn_S {P : Pm} {F : FT} {c : Ct} {mg : Str → Option Value} {prog : Program} {w : World} {base : Heap} {n : Nat} (S : Wst P F c mg) (ih : Wld P F (sem P.G n) c (8 * n) mg prog w base) : ∀ f x, c.fnN f = some x → (P.G.lf f).isSome = true → LamFn P (sem P.G (n + 1)) f (F.fa f) (8 * (n + 1)) mg prog w base := fun f x _ hl => by
  obtain ⟨d, hd⟩ := Option.isSome_iff_exists.mp hl
  obtain ⟨y, qual, st, N, a, Fn, sco, hn, ck, hb⟩ := (S.lm f d hd).ex
  obtain ⟨k1, k2, k3⟩ := lam_at ck
  obtain ⟨oc, od, kV, doc, pm, an, cdv, ct, osl, efd, lk, hcd⟩ := Fn.ex
  rw [efd] at lk hb
  refine ⟨N, a, qual, defScope st, cdv, k1, k2, k3, fun A outer s H fx h ev Qp Q z q l rm e0 act => ?_⟩
  obtain ⟨d', e', q⟩ : ∃ d, P.G.lf f = some d ∧ lamEv P.G (sem P.G n) d ev Qp := q
  rw [hd] at e'
  cases e'
  have kin : P.K.In s.heap := e0.mod.kin.keeps (fun b u g => (e0.bs b u g).1)
  refine LamX.run_ofS (CX := L2.CX prog w) (N := N) (ps := [a]) (us := [.ref fx]) (vs := [.ref fx]) (k := 8 * (n + 1) + 6) lk hcd sco rm e0 (hb s [.ref fx] kin rfl) (.cons rfl .nil) rfl fun hr => ?_
  have tk : Takes (cxOf (L2.CX prog w) prog w P.K mg base N qual (defScope st) (F.fa f) cdv A outer s H fun _ _ _ => False) (fun cls d _ H => (fun _ _ _ => False : XK) cls d H) := takes_of rfl rfl rfl rfl
  have o : Cok P F (sem P.G n) { c with N := N, lm := false } (8 * n) (cxOf (L2.CX prog w) prog w P.K mg base N qual (defScope st) (F.fa f) cdv A outer s H fun _ _ _ => False) (defScope st) (defScope st) (fun cls d _ H => (fun _ _ _ => False : XK) cls d H) :=
    ⟨ih.names N false, rfl, rfl, sco.nd, rfl, rfl, fun _ _ => .inl rfl, tk, hr.mono (by unfold Ct.sl; simp; omega), fun z => by cases z⟩
  exact lam_pss o ⟨passes_of rfl, rfl, rfl, rfl⟩ ck hn (h0 := h) q l fun pn xe W' p1 p2 tk' => act pn xe W' p1 p2 hr tk'
theorem wld_of {P : Pm} {F : FT} {c : Ct} {mg : Str → Option Value} {prog : Program} {w : World} {base : Heap} (S : Wst P F c mg) (hB : ∀ p ∈ F.cs, LamX.TabB base mg p.1 p.2) : ∀ n, Wld P F (sem P.G n) c (8 * n) mg prog w base
  | 0 => ⟨S.hG, fun f d e => ⟨fun vs H Q E ⟨ps, h, Qp, Xp, _, _, q, _⟩ => q.elim, fun A outer s H args us vs Q E _ _ _ _ ⟨ps, h, Qp, Xp, _, _, q, _⟩ => q.elim⟩, fun f vs h Q X q => q.elim, fun f d n e => (S.df f d e).bd n, S.mf, S.mc, S.mks, S.cl, S.na, S.me, S.nd, S.bn, S.gl, S.wx, lamFn_0 S⟩
  | n + 1 => by
    have ih := wld_of (prog := prog) (w := w) (base := base) S hB n
    refine ⟨S.hG, fun f d e => ?_, fun f vs h Q X ⟨d, e, hl, q⟩ => ?_, fun f d n e => (S.df f d e).bd n, S.mf, S.mc, S.mks, S.cl, S.na, S.me, S.nd, S.bn, S.gl, S.wx, lamFn_S S ih⟩
    · obtain ⟨x, qual, st, N, dvs, Fn, sco, h1, h2, lm, h3, hlm⟩ := (S.df f d e).ex
      obtain ⟨oc, od, dV, kV, doc, pm, an, cdv, ct, osl, efd, lk, hcd, _, _⟩ := Fn.ex
      unfold LamF at hlm
      rw [efd] at lk hlm ⊢
      refine fn_of (k := 8 * n + 7) lk hcd sco (fun vs H Q E ⟨ps, h, Qp, Xp, rp, z, ⟨d', e', hl, q⟩, l, lx⟩ => ?_) (fun A outer s H vs Q E hr ⟨ps, h, Qp, Xp, rp, z, ⟨d', e', hl, q⟩, l, lx⟩ => ?_)
      · rw [e] at e'; cases e'
        rw [← rp.length, hl, h1]
      · rw [e] at e'; cases e'
        have tk : Takes (cxOf (L2.CX prog w) prog w P.K mg base N qual (defScope st) (F.fa f) cdv A outer s H E) (fun cls d _ H => E cls d H) := takes_of rfl rfl rfl rfl
        have o : Cok P F (sem P.G n) { c with N := N, lm := lm } (8 * n) (cxOf (L2.CX prog w) prog w P.K mg base N qual (defScope st) (F.fa f) cdv A outer s H E) (defScope st) (defScope st) (fun cls d _ H => E cls d H) :=
          ⟨ih.names N lm, rfl, rfl, sco.nd, rfl, rfl, fun _ _ => .inl rfl, tk, hr.mono (by unfold Ct.sl; split <;> omega), fun z => by
            obtain ⟨cc, T, q1, q2, q3⟩ := hlm z
            exact ⟨cc, T, q1, hB _ q2, q3⟩⟩
        refine ⟨_, sSs d.body (defScope st) (defBody st) h3 o ⟨passes_of rfl, rfl, rfl, rfl⟩, _, h, _, ?_, z, q, ?_⟩
        · unfold L2.start
          rw [← rp.length, hl, h2]
          exact re_start _ rp
        · refine ⟨fun env h' σ' H' ⟨h2, le, q⟩ e re z => ?_, fun pr h' v H' ⟨h2, le, q⟩ e r z => ?_, fun _ _ _ _ q => q.elim, fun _ _ _ _ q => q.elim, fun k env h' σ' H' ⟨h2, le, q⟩ e re z => ?_⟩
          · exact l _ _ _ _ q e .non (z.le le)
          · exact l _ _ _ _ q e r (z.le le)
          · exact lx _ _ _ q e (z.le le)
    · obtain ⟨x, qual, st, N, dvs, Fn, sco, h1, h2, h3⟩ := (S.df f d e).ex
      exact ⟨d, e, hl, h1⟩
/-- the law's def: it tells True of the script -/
theorem law_fn {P : Pm} {F : FT} {c : Ct} {mg : Str → Option Value} {prog : Program} {w : World} {base : Heap} (S : Wst P F c mg) (hB : ∀ p ∈ F.cs, LamX.TabB base mg p.1 p.2) (n f : Nat) (d : FnI) (e : P.G.fn f = some d) :
    FnOk prog w P.K mg base (L2.CX prog w) (8 * n) (F.fa f) (F.fd f) (F.ps f) (lsp P (sem P.G n) f) := (wld_of S hB n).fn f d e
def inOf {α : Type} (l : List (Nat × α)) (k : Nat) : Option α := l.lookup k
def meOf (l : List (Nat × Nat × Nat)) (k m : Nat) : Option Nat := (l.find? fun t => decide (t.1 = k ∧ t.2.1 = m)).map (·.2.2)
def twOf (l : List (Nat × Nat × Bool)) (d k : Nat) : Option Bool := (l.find? fun t => decide (t.1 = d ∧ t.2.1 = k)).map (·.2.2)
theorem twOf_mem {l : List (Nat × Nat × Bool)} {d k : Nat} {b : Bool} (e : twOf l d k = some b) : (d, k, b) ∈ l := by
  unfold twOf at e
  cases z : l.find? fun t => decide (t.1 = d ∧ t.2.1 = k) with
  | none => rw [z] at e; cases e
  | some t =>
    rw [z] at e
    cases e
    have h0 := List.find?_some z
    have h1 : t.1 = d ∧ t.2.1 = k := of_decide_eq_true h0
    have h2 := List.mem_of_find?_eq_some z
    obtain ⟨a, b, c⟩ := t
    obtain ⟨rfl, rfl⟩ := h1
    exact h2
theorem inOf_mem {α : Type} : ∀ {l : List (Nat × α)} {k : Nat} {x : α}, inOf l k = some x → (k, x) ∈ l
  | (a, b) :: l, k, x, e => by
    unfold inOf at e
    rw [List.lookup_cons] at e
    split at e
    · rename_i z
      have := beq_iff_eq.mp z
      cases e
      subst this
      exact List.mem_cons_self
    · exact List.mem_cons_of_mem _ (inOf_mem e)
theorem meOf_mem {l : List (Nat × Nat × Nat)} {k m f : Nat} (e : meOf l k m = some f) : (k, m, f) ∈ l := by
  unfold meOf at e
  cases z : l.find? fun t => decide (t.1 = k ∧ t.2.1 = m) with
  | none => rw [z] at e; cases e
  | some t =>
    rw [z] at e
    cases e
    have h0 := List.find?_some z
    have h1 : t.1 = k ∧ t.2.1 = m := of_decide_eq_true h0
    have h2 := List.mem_of_find?_eq_some z
    obtain ⟨a, b, c⟩ := t
    obtain ⟨rfl, rfl⟩ := h1
    exact h2
section
variable {K : PySem.W.Frag} {C D : Addr} {b : Bool}
theorem cls_some (h : PySem.W.isClsIn K C = true) (ht : PySem.W.typeIn K (.ref C) = some (.type "type")) : ((PySem.W.clsIn K C).isSome && PySem.W.typeIn K (.ref C) == some (.type "type")) = true := by
  have h' : (PySem.W.clsIn K C).isSome = true := h
  rw [h', ht] <;> rfl
theorem exm_of (h1 : PySem.W.subIn K (.ref C) (.type "BaseException") = some true) (h2 : PySem.W.isClsIn K C = true) (h3 : PySem.W.typeIn K (.ref C) = some (.type "type")) (h4 : PySem.W.subIn K (.ref D) (.ref C) = some b) : PySem.W.exmOne K (.ref D) (.ref C) = some b := by
  have e1 : (PySem.W.subIn K (.ref C) (.type "BaseException") == some true) = true := by rw [h1] <;> rfl
  show (if (PySem.W.subIn K (.ref C) (.type "BaseException") == some true) = true then (if ((PySem.W.clsIn K C).isSome && PySem.W.typeIn K (.ref C) == some (.type "type")) = true then PySem.W.subIn K (.ref D) (.ref C) else none) else none) = some b
  rw [if_pos e1, if_pos (cls_some h2 h3)]
  exact h4
theorem kit_any (h2 : PySem.W.isClsIn K C = true) (h3 : PySem.W.typeIn K (.ref C) = some (.type "type")) {t : Value} (h4 : PySem.W.subIn K t (.ref C) = some b) : PySem.W.kitCls K t (.ref C) = some b := by
  show (if ((PySem.W.clsIn K C).isSome && PySem.W.typeIn K (.ref C) == some (.type "type")) = true then PySem.W.subIn K t (.ref C) else none) = some b
  rw [if_pos (cls_some h2 h3)]
  exact h4
theorem kit_ofT (h2 : PySem.W.isClsIn K C = true) (h3 : PySem.W.typeIn K (.ref C) = some (.type "type")) (_ : PySem.W.subIn K (.ref C) (.ref C) = some true) (h4 : PySem.W.subIn K (.ref D) (.ref C) = some true) : PySem.W.kitOne K (.ref D) (.ref C) = some true := by
  unfold PySem.W.kitOne
  split
  · rfl
  · exact kit_any h2 h3 h4
theorem kit_ofF (h2 : PySem.W.isClsIn K C = true) (h3 : PySem.W.typeIn K (.ref C) = some (.type "type")) (hs : PySem.W.subIn K (.ref C) (.ref C) = some true) (h4 : PySem.W.subIn K (.ref D) (.ref C) = some false) : PySem.W.kitOne K (.ref D) (.ref C) = some false := by
  unfold PySem.W.kitOne
  split
  · rename_i z
    have e : Value.ref D = Value.ref C := beq_iff_eq.mp z
    rw [e, hs] at h4
    cases h4
  · exact kit_any h2 h3 h4
theorem kit_str (h2 : PySem.W.isClsIn K C = true) (h3 : PySem.W.typeIn K (.ref C) = some (.type "type")) : PySem.W.kitOne K (.type "str") (.ref C) = some false := by
  unfold PySem.W.kitOne
  rw [if_neg (by intro z; have := beq_iff_eq.mp z; cases this)]
  refine kit_any h2 h3 ?_
  have e : PySem.fastBuiltinMro "str" = some [.type "str", .type "object"] := by decide +kernel
  show (PySem.fastBuiltinMro "str").map (·.contains (Value.ref C)) = some false
  rw [e]
  show some (List.contains [Value.type "str", Value.type "object"] (Value.ref C)) = some false
  congr 1
theorem kit_none (h2 : PySem.W.isClsIn K C = true) (h3 : PySem.W.typeIn K (.ref C) = some (.type "type")) : PySem.W.kitOne K (.type "NoneType") (.ref C) = some false := by
  unfold PySem.W.kitOne
  rw [if_neg (by intro z; have := beq_iff_eq.mp z; cases this)]
  refine kit_any h2 h3 ?_
  have e : PySem.fastBuiltinMro "NoneType" = some [.type "NoneType", .type "object"] := by decide +kernel
  show (PySem.fastBuiltinMro "NoneType").map (·.contains (Value.ref C)) = some false
  rw [e]
  show some (List.contains [Value.type "NoneType", Value.type "object"] (Value.ref C)) = some false
  congr 1
theorem kit_zero (h2 : PySem.W.isClsIn K C = true) (h3 : PySem.W.typeIn K (.ref C) = some (.type "type")) : PySem.W.kitOne K (.type "NoneType") (.ref C) = some false ∧ PySem.W.kitOne K (.type "str") (.ref C) = some false := ⟨kit_none h2 h3, kit_str h2 h3⟩
theorem kit_val (h : PySem.W.subIn K (.ref D) (.type "ValueError") = some true) : PySem.W.kitOne K (.ref D) (.type "ValueError") = some true := by
  unfold PySem.W.kitOne
  split
  · rfl
  · show (if PySem.W.kitMeta "ValueError" = true then PySem.W.subIn K (.ref D) (.type "ValueError") else none) = some true
    rw [if_pos (by decide +kernel)]
    exact h
end
/-- the law's promise of the script -/
def spT (K : PySem.W.Frag) (cs : List (Addr × Addr)) : Sp := fun vs H Q _ => ∃ (a : Addr) (ns : List Int), vs = [.ref a] ∧ SqL K H a (ns.map V.int) ∧ ns.length ≤ 63 ∧ (∀ p ∈ cs, H p.2 = some (.tbl #[])) ∧ ∀ H', Q (.bl true) H'
theorem tb_nil {H : Hp} {cs : List (Addr × Addr)} (h : ∀ p ∈ cs, H p.2 = some (.tbl #[])) (hT : ∀ q ∈ Tbl.T, ∃ p ∈ cs, p.2 = q.1) : TbOk H := fun q hq => by
  obtain ⟨p, hp, e⟩ := hT q hq
  exact LamX.TabS.nil (by rw [← e]; exact h p hp)
/-- the law runs over the script, which nothing writes -/
theorem law_end {P : Pm} {F : FT} {prog : Program} {w : World} {mg : Str → Option Value} {base : Heap} {n k f : Nat} {fa : Addr} {fd : FuncData} {ps : List Str} (Fo : FnOk prog w P.K mg base (L2.CX prog w) k fa fd ps (lsp P (sem P.G n) f)) (hps : ps.length = 1)
    (hT : ∀ q ∈ Tbl.T, ∃ p ∈ F.cs, p.2 = q.1) (hp : ∀ ns : List Int, ns.length ≤ 63 → sem P.G n f [.fl (ns.map .int)] (fun _ => none) (fun v _ => v = .bl true) (fun _ _ => False)) : FnOk prog w P.K mg base (L2.CX prog w) k fa fd ps (spT P.K F.cs) := by
  have mk : ∀ {H : Hp} {a : Addr} {ns : List Int} {Q : VK} {E : XK}, LAt P.K H a (ns.map V.int) → ns.length ≤ 63 → TbOk H → (∀ H', Q (.bl true) H') → lsp P (sem P.G n) f [.ref a] H Q E := fun {H a ns Q E} h hl t q =>
    ⟨[.fl (ns.map .int)], fun _ => none, _, _, .cons (.fl h (RPs.map_int ns)) .nil, ⟨fun a c e => (by cases e), t⟩, hp ns hl, (fun pr h' v H' q' e r z => by subst q'; cases r; exact q H'), fun _ _ _ q => q.elim⟩
  refine ⟨fun vs H Q E ⟨a, ns, e, h, hl, ht, q⟩ => by rw [e, hps]; rfl, fun A outer s H args us vs Q E hr e0 hb r ⟨a, ns, e, h, hl, ht, q⟩ => ?_⟩
  subst e
  rcases h with (g | ⟨ob, g⟩) | g
  · obtain ⟨zl, its, m, rv, eo⟩ := e0.hok a _ g
    have off : ∀ b u, H b = some u → u ≠ .lst (ns.map V.int) → b ≠ a := fun b u q n z => by rw [z, g] at q; cases q; exact n rfl
    have offN : ∀ b, H b = none → b ≠ a := fun b q z => by rw [z, g] at q; cases q
    obtain ⟨H1, eH⟩ : ∃ H1, upd H a (.frz { cls := .type "list", data := .seq its.toArray m } (.lst (ns.map V.int))) = H1 := ⟨_, rfl⟩
    have at1 : ∀ b, b ≠ a → H1 b = H b := fun b n => by rw [← eH, upd_ne n]
    have ata : H1 a = some (.frz { cls := .type "list", data := .seq its.toArray m } (.lst (ns.map V.int))) := by rw [← eH, upd_same]
    have ht1 : ∀ p ∈ F.cs, H1 p.2 = some (.tbl #[]) := fun p hp => by rw [at1 _ (off _ _ (ht p hp) (fun z => by cases z))]; exact ht p hp
    have e1 : Env0 prog w P.K mg base A outer s H1 := ⟨e0.frames, e0.mod, fun b o e => ⟨(e0.bs b o e).1, by rw [at1 _ (offN b (e0.bs b o e).2)]; exact (e0.bs b o e).2⟩, e0.bsz, e0.funs, fun b hb => by rw [at1 _ (offN b (e0.frf b hb))]; exact e0.frf b hb, fun b u q => by
      by_cases hb : b = a
      · subst hb
        rw [ata] at q
        cases q
        exact ⟨eo, zl, its, m, rv, eo⟩
      · rw [at1 b hb] at q
        exact (e0.hok b u q).stay (fun _ _ _ q => q) (fun c q => by rw [at1 c (off c _ q (fun z => by cases z))]; exact q) fun c xs q => by rw [at1 c (off c _ q (fun z => by cases z))]; exact q, e0.bare⟩
    refine codeAny_mono (Fo.run A outer s H1 args us _ (fun v _ => v = .bl true) (fun _ _ _ => False) hr e1 hb r (mk (.inl ⟨_, ata⟩) hl (tb_nil ht1 hT) fun _ => rfl)) fun rr s' hq => ?_
    match rr, hq with
    | .error x, hq =>
      obtain ⟨_, _, _, _, _, _, _, _, _, _, _, _, z⟩ := hq
      exact z.elim
    | .ok (.ret u), ⟨v, H2, os, bare, un, hok, ru, ev⟩ =>
      have a2 := un.frzs a _ _ ata
      have of2 : ∀ b u, H2 b = some u → (∀ o x, u ≠ .frz o x) → b ≠ a := fun b u q n z => by rw [z, a2] at q; cases q; exact n _ _ rfl
      subst ev
      refine ⟨.bl true, upd H2 a (.lst (ns.map V.int)), os, bare, ⟨fun b o e n => un.keep b o e (by rw [at1 b (offN b n)]; exact n), fun b o e n => un.slot b o e (by rw [at1 b (offN b n)]; exact n), fun b o e n hx => by rw [upd_ne (offN b n)]; exact un.free b o e (by rw [at1 b (offN b n)]; exact n) hx, un.there,
        fun b xs e => ?_, fun b o x e => ?_, fun b qs e => ?_⟩, fun b u q => ?_, ru, q _⟩
      · have nb := off b _ e fun z => by cases z
        rw [upd_ne nb]; exact un.tups b xs (by rw [at1 b nb]; exact e)
      · have nb := off b _ e fun z => by cases z
        rw [upd_ne nb]; exact un.frzs b o x (by rw [at1 b nb]; exact e)
      · have nb := off b _ e fun z => by cases z
        rw [upd_ne nb]; exact un.tbls b qs (by rw [at1 b nb]; exact e)
      · by_cases hb : b = a
        · subst hb
          rw [upd_same] at q
          cases q
          obtain ⟨_, z⟩ := hok b _ a2
          exact z
        · rw [upd_ne hb] at q
          exact (hok b u q).stay (fun _ _ _ q => q) (fun c q => by rw [upd_ne (of2 c _ q (fun _ _ z => by cases z))]; exact q) fun c xs q => by rw [upd_ne (of2 c _ q (fun _ _ z => by cases z))]; exact q
  · exact Fo.run A outer s H args us _ Q E hr e0 hb r (mk (.inl ⟨ob, g⟩) hl (tb_nil ht hT) q)
  · exact Fo.run A outer s H args us _ Q E hr e0 hb r (mk (.inr g) hl (tb_nil ht hT) q)
theorem def_ok {K : PySem.W.Frag} {F : FT} {c : Ct} {f : Nat} {d : FnI} {x qual : Str} {st : Stmt} {N : List Str} (Fn : Fun K x qual st (F.fa f) (F.fd f)) (S : FnScope N (F.ps f) (defScope st)) (h1 : (F.ps f).length = d.np) (h2 : N.length = d.ns)
    (h3 : chkSs { c with N := N, lm := false } d.body (defScope st) (defBody st) = true) (b : Binds K (F.fd f) (F.ps f) []) (hd : d.dflt = []) : DefOk K F c f d :=
  ⟨⟨x, qual, st, N, [], funD_of Fn, S, h1, h2, false, h3, fun z => by cases z⟩, fun n h4 h5 => ⟨[], [], b, .nil, fun H => by rw [hd, List.drop_nil]; exact .nil⟩⟩
/-- a def that makes lambdas -/
theorem def_okT {K : PySem.W.Frag} {F : FT} {c : Ct} {f : Nat} {d : FnI} {x qual : Str} {st : Stmt} {N : List Str} (Fn : Fun K x qual st (F.fa f) (F.fd f)) (S : FnScope N (F.ps f) (defScope st)) (h1 : (F.ps f).length = d.np) (h2 : N.length = d.ns)
    (h3 : chkSs { c with N := N, lm := true } d.body (defScope st) (defBody st) = true) (hl : LamF F f qual) (b : Binds K (F.fd f) (F.ps f) []) (hd : d.dflt = []) : DefOk K F c f d :=
  ⟨⟨x, qual, st, N, [], funD_of Fn, S, h1, h2, true, h3, fun _ => hl⟩, fun n h4 h5 => ⟨[], [], b, .nil, fun H => by rw [hd, List.drop_nil]; exact .nil⟩⟩
/- the end of a law row -/
omit [Tbl] in
theorem walk {l : PySem.W.OpenLaw} {q : Program} {loose : List Str} {XP : (Str → Option Value) → Heap → Prop} {YP : World → Heap → Prop} {d : DefRec} {K : Params → PySem.W.Frag} {n : Nat} (cs : List (Addr × Addr)) (hn : l.most = some 63) (hdf : d.params.defaults = []) (hr : Room (8 * n) callerA)
    (hY : ∀ (w : World) (h : Heap), YP w h → (K w.params).In h) (hT : ∀ (w : World) (h : Heap), YP w h → ∀ p ∈ cs, h.get? p.2 = some { cls := .none, data := .fields #[] }) (hN : ∀ (w : World), ∀ p ∈ cs, (K w.params).lookup p.2 = none)
    (hC : ∀ (w : World), ∀ p ∈ cs, PySem.W.codeHdIn (K w.params) p.1 p.2 = true)
    (F : ∀ (w : World) (mg : Str → Option Value) (fa : Addr) (h : Heap), (K w.params).In h → h.Ns mainGlobals mg → mg d.name = some (.ref fa) →
      ∃ fd : FuncData, (∀ (s : Shared) (u : Value), BindsTo s fd ⟨[u], []⟩ [("_law_script", u)]) ∧ ∀ base : Heap, (K w.params).In base → base.Ns mainGlobals mg → (∀ p ∈ cs, LamX.TabB base mg p.1 p.2) →
        FnOk l.prog w (K w.params) mg base (L2.CX l.prog w) (8 * n) fa fd ["_law_script"] (spT (K w.params) cs)) :
    PySem.W.WalkO q loose XP YP l.row.toRowW d [] (fun f vs => PySem.call f vs) :=
  LamX.walk_ofTs (n := 63) (k := 8 * n) (x := "_law_script") (CX := fun w => L2.CX l.prog w) hn (by decide) hdf hr hY (fun w mg fa h Y KX G hm => by
    obtain ⟨fd, b, hF⟩ := F w mg fa h KX G hm
    exact ⟨fd, cs, spT (K w.params) cs, hT w h Y, hN w, fun p hp => PySem.W.codeHd_of_K KX (hC w p hp), b, fun H a ns hl _ ht hS => ⟨a, ns, rfl, hS, hl, ht, fun _ => rfl⟩, hF⟩)
    fun w H s e s' ⟨_, _, _, _, _, _, _, _, _, _, _, _, z⟩ => z
end Mir

set_option autoImplicit false
namespace Mir
open PySem L2 PySem.Spec
open PyProof.Rows hiding St

/-! ## rules for plain laws -/
theorem padD_nil {G : Sig} (hd : ∀ f d, G.fn f = some d → d.dflt = []) (f : Nat) (vs : List PV) : padD G f vs = vs := by
  unfold padD
  split
  · rename_i d e
    rw [hd f d e, List.drop_nil, List.append_nil]
  · rfl
theorem forGo_list {α : Type} {still : PH → Prop} {st : PV → PEnv → (PEnv → Prop) → Prop} {body : PEnv → PH → PD → Prop} {D : PD} {f : α → PV} (I : List α → PEnv → PH → Prop) {as : List α}
    (step : ∀ done a rest env h (K : PEnv → PH → Prop), as = done ++ a :: rest → I done env h → (∀ env' h', I (done ++ [a]) env' h' → K env' h') → still h ∧ st (f a) env fun env' => body env' h { D with nx := K, ct := K, bk := D.nx })
    (fin : ∀ env h, I as env h → still h ∧ D.nx env h) {env : PEnv} {h : PH} (start : I [] env h) : forGo still st body D (as.map f) env h := by
  have go : ∀ (rest done : List α) (env : PEnv) (h : PH), as = done ++ rest → I done env h → forGo still st body D (rest.map f) env h := by
    intro rest
    induction rest with
    | nil =>
      intro done env h e i
      rw [List.append_nil] at e
      subst e
      exact fin env h i
    | cons a rest ih =>
      intro done env h e i
      exact step done a rest env h _ e i fun env' h' i' => ih (done ++ [a]) env' h' (by rw [e]; simp) i'
  exact go as [] env h rfl start
theorem compGo_list {α : Type} {still : PH → Prop} {st : PV → PEnv → (PEnv → Prop) → Prop} {ifs : PEnv → PH → (Bool → PH → Prop) → Prop} {elt : PEnv → PH → QE → Prop} {env : PEnv} {P : Addr} {K : PH → Prop} {f : α → PV} (I : List α → PH → Prop) {as : List α}
    (step : ∀ done a rest h (N : PH → Prop), as = done ++ a :: rest → I done h → (∀ h', I (done ++ [a]) h' → N h') → still h ∧ st (f a) env fun env' => ifs env' h fun b h1 =>
      if b = true then elt env' h1 fun y h2 => match h2 P with
        | some (.lst acc) => acc.length < sizeLine ∧ N (pup h2 P (.lst (acc ++ [y])))
        | _ => False
      else N h1)
    (fin : ∀ h, I as h → still h ∧ K h) {h : PH} (start : I [] h) : compGo still st ifs elt env P K (as.map f) h := by
  have go : ∀ (rest done : List α) (h : PH), as = done ++ rest → I done h → compGo still st ifs elt env P K (rest.map f) h := by
    intro rest
    induction rest with
    | nil =>
      intro done h e i
      rw [List.append_nil] at e
      subst e
      exact fin h i
    | cons a rest ih =>
      intro done h e i
      obtain ⟨s1, s2⟩ := step done a rest h _ e i fun h' i' => ih (done ++ [a]) h' (by rw [e]; simp) i'
      exact ⟨s1, s2⟩
  exact go as [] h rfl start
/-- a comprehension without a test, whose element leaves the heap as it is -/
theorem compGo_map {α : Type} {still : PH → Prop} {st : PV → PEnv → (PEnv → Prop) → Prop} {elt : PEnv → PH → QE → Prop} {env : PEnv} {P : Addr} {K : PH → Prop} {f : α → PV} (g : α → PV) {as : List α} {h : PH} (hl : as.length ≤ sizeLine)
    (hs : ∀ acc, still (pup h P (.lst acc))) (he : ∀ a acc (Q : QE), a ∈ as → Q (g a) (pup h P (.lst acc)) → st (f a) env fun env' => elt env' (pup h P (.lst acc)) Q)
    (q : K (pup h P (.lst (as.map g)))) : compGo still st (fun _ h K => K true h) elt env P K (as.map f) (pup h P (.lst [])) := by
  refine compGo_list (f := f) (as := as) (fun done h' => h' = pup h P (.lst (done.map g))) (fun done a rest h' N e i nx => ?_) (fun h' i => ?_) rfl
  · subst i
    refine ⟨hs _, he a _ _ (by rw [e]; simp) ?_⟩
    rw [pup_same]
    refine ⟨?_, ?_⟩
    · rw [List.length_map]
      rw [e] at hl
      simp at hl
      omega
    · rw [pup_pup]
      exact nx _ (by rw [List.map_append]; rfl)
  · subst i
    exact ⟨hs _, q⟩
/-- ints in a row -/
theorem intsP_map (ns : List Int) : intsP (ns.map .int) = some ns := by
  induction ns with
  | nil => rfl
  | cons n ns ih => simp [intsP, ih]
theorem strsP_map (ns : List Str) : strsP (ns.map .str) = some ns := by
  induction ns with
  | nil => rfl
  | cons n ns ih => simp [strsP, ih]
theorem intsP_strs {n : Str} {ns : List Str} : intsP ((n :: ns).map .str) = none := rfl
/-! ### small steps -/
section
variable {h : PH} {Q : QE} {R : Bool → Prop}
theorem bv_add {i j : Int} : binV .add (.int i) (.int j) h Q = Q (.int (i + j)) h := rfl
theorem bv_sub {i j : Int} : binV .sub (.int i) (.int j) h Q = Q (.int (i - j)) h := rfl
theorem bv_mul {i j : Int} : binV .mul (.int i) (.int j) h Q = (CMulP i j ∧ Q (.int (i * j)) h) := rfl
theorem bv_div {i j : Int} : binV .div (.int i) (.int j) h Q = (CDivP i j ∧ Q (.int (i / j)) h) := rfl
theorem bv_mod {i j : Int} : binV .mod (.int i) (.int j) h Q = (0 < j ∧ Q (.int (i % j)) h) := rfl
theorem bv_pow {i j : Int} : binV .pow (.int i) (.int j) h Q = (CPow i j ∧ Q (.int (i ^ j.toNat)) h) := rfl
theorem bv_str {i j : Str} : binV .add (.str i) (.str j) h Q = (i.length + j.length ≤ sizeLine ∧ Q (.str (i ++ j)) h) := rfl
theorem av_add {i j : Int} : augV .add (.int i) (.int j) h Q = Q (.int (i + j)) h := rfl
theorem av_sub {i j : Int} : augV .sub (.int i) (.int j) h Q = Q (.int (i - j)) h := rfl
theorem cv_lt {i j : Int} : cmpV .lt (.int i) (.int j) h R = R (decide (i < j)) := rfl
theorem cv_le {i j : Int} : cmpV .le (.int i) (.int j) h R = R (decide (i ≤ j)) := rfl
theorem cv_gt {i j : Int} : cmpV .gt (.int i) (.int j) h R = R (decide (j < i)) := rfl
theorem cv_ge {i j : Int} : cmpV .ge (.int i) (.int j) h R = R (decide (j ≤ i)) := rfl
theorem cv_eq {i j : Int} : cmpV .eq (.int i) (.int j) h R = R (i == j) := rfl
theorem cv_ne {i j : Int} : cmpV .ne (.int i) (.int j) h R = R (!(i == j)) := rfl
theorem cv_eqS {i j : Str} : cmpV .eq (.str i) (.str j) h R = R (i == j) := rfl
theorem cv_neS {i j : Str} : cmpV .ne (.str i) (.str j) h R = R (!(i == j)) := rfl
theorem tv_bl {b : Bool} : truV (.bl b) h R = R b := rfl
theorem tv_int {i : Int} : truV (.int i) h R = R (i != 0) := rfl
theorem sv_lst {p : Addr} {i : Int} {xs : List PV} {v : PV} (e : h p = some (.lst xs)) (a : atI xs i = some v) : subV (.loc p) (.int i) h Q = Q v h := by simp only [subV, e, a]
theorem sv_fl {i : Int} {xs : List PV} {v : PV} (a : atI xs i = some v) : subV (.fl xs) (.int i) h Q = Q v h := by simp only [subV, a]
theorem sv_tup {i : Int} {xs : List PV} {v : PV} (a : atI xs i = some v) : subV (.tup xs) (.int i) h Q = Q v h := by simp only [subV, a]
theorem sv_dct {p : Addr} {k : PV} {key : Key} {f : Bool} {kvs : List (Key × PV)} {v : PV} (e : h p = some (.dct f kvs)) (ek : toKey k = some key) (a : valP kvs key = some v) : subV (.loc p) k h Q = Q v h := by simp only [subV, e, ek, a]
theorem sv_str {i : Int} {z : Str} {c : Nat} (hl : z.length ≤ sizeLine) (a : atI z.cps.toList i = some c) : subV (.str z) (.int i) h Q = Q (.str ⟨#[c]⟩) h := by simp only [subV, a, hl, true_and]
theorem setV_dct {p : Addr} {k v : PV} {key : Key} {kvs : List (Key × PV)} {R : PH → Prop} (e : h p = some (.dct false kvs)) (ek : toKey k = some key) (hl : kvs.length < sizeLine) : Mir.setV (.loc p) k v h R = R (pup h p (.dct false (putP kvs key v))) := by simp only [Mir.setV, e, ek, hl, true_and]
theorem mulP_of {i j : Int} (h0 : -(2 ^ 64) < j) (h1 : j < 2 ^ 64) : CMulP i j := .inl (.inr ⟨h0, h1⟩)
theorem mulP_of' {i j : Int} (h0 : -(2 ^ 64) < i) (h1 : i < 2 ^ 64) : CMulP i j := .inl (.inl ⟨h0, h1⟩)
theorem divP_of {i j : Int} (h0 : 0 < j) (h1 : j < 1073741824) : CDivP i j := .inl ⟨h0, h1⟩
theorem setT_nm {i : Nat} {v : PV} {env : PEnv} {K : PEnv → Prop} : setT (.nm i) v env K = K (env.set i (some v)) := rfl
theorem setT_tup {ts : Ts} {vs : List PV} {env : PEnv} {K : PEnv → Prop} : setT (.tup ts) (.tup vs) env K = setTs ts vs env K := rfl
theorem setTs_nil {env : PEnv} {K : PEnv → Prop} : setTs .nil [] env K = K env := rfl
theorem setTs_cons {t : T} {ts : Ts} {v : PV} {vs : List PV} {env : PEnv} {K : PEnv → Prop} : setTs (.cons t ts) (v :: vs) env K = setT t v env fun env' => setTs ts vs env' K := rfl
theorem get0 {α : Type} {a : α} {l : List α} : (a :: l)[0]? = some a := rfl
theorem getS {α : Type} {a : α} {l : List α} {n : Nat} : (a :: l)[n + 1]? = l[n]? := rfl
end
end Mir

set_option autoImplicit false
namespace Mir
open PySem L2 PySem.Spec
open PyProof.Rows hiding St

/-! ## texts in order -/
theorem le_pair : ∀ {l : List Str} {p : Str}, risingS p l = true → (p :: l).Pairwise (fun a b => a.cps.toList ≤ b.cps.toList)
  | [], p, _ => List.pairwise_singleton _ _
  | x :: r, p, h => by
    unfold risingS at h
    simp only [Bool.and_eq_true, Bool.not_eq_true', ltCps_eq, decide_eq_false_iff_not] at h
    have h1 : p.cps.toList ≤ x.cps.toList := List.not_lt.mp h.1
    have ih := le_pair h.2
    refine List.pairwise_cons.mpr ⟨fun y hy => ?_, ih⟩
    rcases List.mem_cons.mp hy with e | e
    · subst e; exact h1
    · exact List.le_trans h1 ((List.pairwise_cons.mp ih).1 y e)
theorem sorted_pair : ∀ {l : List Str}, sortedS l = true → l.Pairwise (fun a b => a.cps.toList ≤ b.cps.toList)
  | [], _ => .nil
  | x :: r, h => le_pair h
theorem str_ext {a b : Str} (h : a.cps.toList = b.cps.toList) : a = b := by
  cases a; cases b
  simp at h
  exact congrArg _ h
theorem sorted_uniq {ys zs : List Str} (p : ys.Perm zs) (h1 : sortedS ys = true) (h2 : sortedS zs = true) : ys = zs :=
  p.eq_of_pairwise (fun a b _ _ x y => str_ext (List.le_antisymm x y)) (sorted_pair h1) (sorted_pair h2)
/-! ## dicts from texts to ints -/
def dOf (ks : List Str) (v : Str → Int) : List (Key × PV) := ks.map fun s => (.inr s, .int (v s))
theorem dOf_keys {ks : List Str} {v : Str → Int} : ((dOf ks v).map fun kv => kP kv.1) = ks.map .str := by
  unfold dOf
  rw [List.map_map]
  rfl
theorem dOf_len {ks : List Str} {v : Str → Int} : (dOf ks v).length = ks.length := by simp [dOf]
theorem dOf_val {ks : List Str} {v : Str → Int} {s : Str} (h : s ∈ ks) : valP (dOf ks v) (.inr s) = some (.int (v s)) := by
  induction ks with
  | nil => cases h
  | cons k ks ih =>
    unfold valP dOf
    rw [List.map_cons, List.find?_cons]
    by_cases e : k = s
    · subst e; simp
    · have : s ∈ ks := by rcases List.mem_cons.mp h with z | z; exact absurd z.symm e; exact z
      have n : decide ((Sum.inr k : Key) = .inr s) = false := by simp [e]
      simp only [n]
      exact ih this
theorem dOf_any {ks : List Str} {v : Str → Int} {s : Str} : ((dOf ks v).any fun kv => decide (kv.1 = (.inr s : Key))) = decide (s ∈ ks) := by
  induction ks with
  | nil => rfl
  | cons k ks ih =>
    unfold dOf at ih ⊢
    rw [List.map_cons, List.any_cons, ih]
    by_cases e : k = s
    · subst e; simp
    · have : ¬ s = k := fun z => e z.symm
      simp [e, this]
theorem dOf_put {ks : List Str} {v : Str → Int} {s : Str} {x : Int} (h : s ∈ ks) : putP (dOf ks v) (.inr s) (.int x) = dOf ks fun t => if t = s then x else v t := by
  unfold putP
  rw [dOf_any, if_pos (by simpa using h)]
  unfold dOf
  rw [List.map_map]
  refine List.map_congr_left fun t _ => ?_
  simp only [Function.comp]
  by_cases e : t = s
  · subst e; simp
  · simp [e]
theorem pairs_map {ks : List Str} {v : Str → Int} : pairsP (ks.map fun s => .tup [.str s, .int (v s)]) = some (dOf ks v) := by
  induction ks with
  | nil => rfl
  | cons k ks ih => simp only [List.map_cons, pairsP, toKey, ih]; rfl
theorem put_new {kvs : List (Key × PV)} {k : Key} {v : PV} (h : k ∉ kvs.map (·.1)) : putP kvs k v = kvs ++ [(k, v)] := by
  unfold putP
  rw [if_neg]
  simp only [List.any_eq_true, decide_eq_true_eq, not_exists, not_and]
  intro kv hkv e
  exact h (e ▸ List.mem_map_of_mem hkv)
theorem merge_new : ∀ {more kvs : List (Key × PV)}, ((kvs ++ more).map (·.1)).Nodup → mergeP kvs more = kvs ++ more
  | [], kvs, _ => by simp [mergeP]
  | (k, v) :: more, kvs, h => by
    have hk : k ∉ kvs.map (·.1) := by
      rw [List.map_append, List.nodup_append] at h
      intro z
      exact h.2.2 k z k (by simp) rfl
    have e : mergeP kvs ((k, v) :: more) = mergeP (putP kvs k v) more := rfl
    rw [e, put_new hk, merge_new (by simpa using h)]
    simp
theorem dOf_nodup {ks : List Str} {v : Str → Int} (h : ks.Nodup) : ((dOf ks v).map (·.1)).Nodup := by
  unfold dOf
  rw [List.map_map]
  exact List.Pairwise.map _ (fun a b (e : a ≠ b) z => e (by cases z; rfl)) h
theorem val_append {a b : List (Key × PV)} {k : Key} : valP (a ++ b) k = (valP a k).or (valP b k) := by
  unfold valP
  rw [List.find?_append]
  cases List.find? (fun kv => decide (kv.1 = k)) a <;> rfl
/-! ## rules -/
section
variable {G : Sig} {C : CallS} {h : PH} {Q : QE} {X : XE} {env : PEnv}
theorem blt_sortedD {a : Addr} {f : Bool} {ks : List Str} {v : Str → Int} (e : h a = some (.dct f (dOf ks v))) (hl : ks.length < 64) (q : ∀ ys p, ys.Perm ks → sortedS ys = true → h p = none → Q (.loc p) (pup h p (.lst (ys.map .str)))) :
    bltV .sorted [.loc a] h Q := by
  simp only [bltV, e, dOf_keys, sortK]
  cases ks with
  | nil =>
    refine ⟨by decide, fun ns' pm _ => ?_⟩
    cases List.Perm.eq_nil pm
    exact fun p hp => q [] p (.refl _) rfl hp
  | cons k ks =>
    rw [intsP_strs, strsP_map]
    exact ⟨hl, fun ys pm hs p hp => q ys p pm hs hp⟩
theorem blt_sortedL {a : Addr} {ks : List Str} (e : h a = some (.lst (ks.map .str))) (hl : ks.length < 64) (q : ∀ ys p, ys.Perm ks → sortedS ys = true → h p = none → Q (.loc p) (pup h p (.lst (ys.map .str)))) :
    bltV .sorted [.loc a] h Q := by
  simp only [bltV, e, sortK]
  cases ks with
  | nil =>
    refine ⟨by decide, fun ns' pm _ => ?_⟩
    cases List.Perm.eq_nil pm
    exact fun p hp => q [] p (.refl _) rfl hp
  | cons k ks =>
    rw [intsP_strs, strsP_map]
    exact ⟨hl, fun ys pm hs p hp => q ys p pm hs hp⟩
theorem blt_sum {a : Addr} {ns : List Int} (e : h a = some (.lst (ns.map .int))) : bltV .sum [.loc a] h Q = Q (.int ns.sum) h := by
  simp only [bltV, listK, e, intsP_map]
theorem blt_sumF {ns : List Int} : bltV .sum [.fl (ns.map .int)] h Q = Q (.int ns.sum) h := by
  simp only [bltV, listK, intsP_map]
theorem seq_lst {p : Addr} {xs : List PV} {K : List PV → (PH → Prop) → Prop} (e : h p = some (.lst xs)) : seqK (.loc p) h K = K xs fun h' => h' p = some (.lst xs) := by simp only [seqK, e]
theorem unlock_eq {d P : Addr} {kvs : List (Key × PV)} {c : Cell} (e : h d = some (.dct false kvs)) (n : h P = none) : pup (pup (pup h d (.dct true kvs)) P c) d (.dct false kvs) = pup h P c := by
  funext b
  have ne : d ≠ P := fun z => by subst z; rw [n] at e; cases e
  unfold pup
  by_cases h1 : b = d
  · subst h1
    simp [ne, e]
  · simp [h1]
/-- [.. for k in a dict], the element leaving the heap as it is -/
theorem compD_rule {elt : E} {t : T} {i : Nat} {ws : List (Str × Nat)} {d : Addr} {ks : List Str} {v : Str → Int} (g : Str → PV) (ei : env[i]? = some (some (.loc d))) (e : h d = some (.dct false (dOf ks v))) (hl : ks.length ≤ sizeLine)
    (he : ∀ s acc P (N : QE), s ∈ ks → P ≠ d → N (g s) (pup (pup h d (.dct true (dOf ks v))) P (.lst acc)) → setT t (.str s) (wipeP env (ws.map (·.2))) fun env' => evE G C elt env' (pup (pup h d (.dct true (dOf ks v))) P (.lst acc)) N fun _ _ => False)
    (q : ∀ P, h P = none → Q (.loc P) (pup h P (.lst (ks.map g)))) : evE G C (.compD elt t (.var i) .nil ws) env h Q X := by
  unfold evE
  refine ⟨d, dOf ks v, e, ?_⟩
  unfold evE
  rw [ei]
  refine ⟨rfl, pup_same, fun P nP => ?_⟩
  have ne : P ≠ d := fun z => by subst z; rw [pup_same] at nP; cases nP
  have nP' : h P = none := by rw [pup_ne ne] at nP; exact nP
  rw [dOf_keys]
  refine compGo_map (f := PV.str) (as := ks) g hl (fun acc => ?_) (fun s acc N hs n => he s acc P N hs ne n) ?_
  · rw [pup_ne ne.symm, pup_same]
  · rw [unlock_eq e nP']
    exact q P nP'
theorem compD_go {st : PV → PEnv → (PEnv → Prop) → Prop} {elt : PEnv → PH → QE → Prop} {P d : Addr} {K : PH → Prop} {ks : List Str} {v : Str → Int} (g : Str → PV) (e : h d = some (.dct false (dOf ks v))) (hl : ks.length ≤ sizeLine)
    (nP : pup h d (.dct true (dOf ks v)) P = none)
    (he : ∀ s acc (N : QE), s ∈ ks → h P = none → P ≠ d → N (g s) (pup (pup h d (.dct true (dOf ks v))) P (.lst acc)) → st (.str s) env fun env' => elt env' (pup (pup h d (.dct true (dOf ks v))) P (.lst acc)) N)
    (q : h P = none → P ≠ d → K (pup h P (.lst (ks.map g)))) :
    compGo (fun g => g d = some (.dct true (dOf ks v))) st (fun _ h K => K true h) elt env P (fun h2 => K (pup h2 d (.dct false (dOf ks v)))) ((dOf ks v).map fun kv => kP kv.1) (pup (pup h d (.dct true (dOf ks v))) P (.lst [])) := by
  have ne : P ≠ d := fun z => by subst z; rw [pup_same] at nP; cases nP
  have nP' : h P = none := by rw [pup_ne ne] at nP; exact nP
  rw [dOf_keys]
  refine compGo_map (f := PV.str) (as := ks) g hl (fun acc => ?_) (fun s acc N hs n => he s acc N hs nP' ne n) ?_
  · rw [pup_ne ne.symm, pup_same]
  · rw [unlock_eq e nP']
    exact q nP' ne
theorem compGo_range {st : PV → PEnv → (PEnv → Prop) → Prop} {elt : PEnv → PH → QE → Prop} {P : Addr} {K : PH → Prop} {m : Nat} (g : Nat → PV) (hl : m ≤ 1000)
    (he : ∀ a acc (N : QE), a < m → N (g a) (pup h P (.lst acc)) → st (.int (a : Nat)) env fun env' => elt env' (pup h P (.lst acc)) N) (q : K (pup h P (.lst ((List.range m).map g)))) :
    compGo (fun _ => True) st (fun _ h K => K true h) elt env P K ((List.range m).map fun i => .int ((0 : Int) + (i : Nat))) (pup h P (.lst [])) := by
  refine compGo_map (f := fun i => PV.int ((0 : Int) + (i : Nat))) (as := List.range m) g (Nat.le_of_lt (small1000 (by rw [List.length_range]; omega))) (fun acc => trivial) (fun a acc N ha n => ?_) q
  rw [Int.zero_add]
  exact he a acc N (List.mem_range.mp ha) n
theorem bm_join {p : Addr} {z : Str} {ys : List Str} (e : h p = some (.lst (ys.map .str))) : bmV .join (.str z) [.loc p] h Q = ((ys.map (·.length)).sum + ys.length * z.length ≤ 16777216 ∧ Q (.str (Txt.join z ys)) h) := by
  simp only [bmV, itemsK, e, strsP_map]
end
end Mir

set_option autoImplicit false
namespace Mir
open PySem L2 PySem.Spec
open PyProof.Rows hiding St
section
variable {n : Nat} {h : PH} {Q : QE} {X : Mir.XE} {R : Bool → Prop}
theorem ret_here {P : PH → Prop} (p : P h) : ∃ h2, PLe h2 h ∧ P h2 := ⟨h, PLe.refl h, p⟩
theorem small_line {n : Nat} (h : n ≤ 1000) : n ≤ sizeLine := Nat.le_of_lt (small1000 h)
theorem at_mem {α : Type} {xs : List α} {i : Int} (h0 : 0 ≤ i) (h1 : i < xs.length) : ∃ x ∈ xs, atI xs i = some x := by
  have hi : i.toNat < xs.length := by omega
  refine ⟨xs[i.toNat], List.getElem_mem hi, ?_⟩
  have e : ((i.toNat : Nat) : Int) = i := by omega
  have z := atI_nat (List.getElem?_eq_getElem hi)
  rw [e] at z
  exact z
theorem at_map {α : Type} {f : α → PV} {xs : List α} {i : Int} (h0 : 0 ≤ i) (h1 : i < xs.length) : ∃ x ∈ xs, atI (xs.map f) i = some (f x) := by
  obtain ⟨y, hy, e⟩ := at_mem (xs := xs.map f) h0 (by rw [List.length_map]; exact h1)
  obtain ⟨x, hx, rfl⟩ := List.mem_map.mp hy
  exact ⟨x, hx, e⟩
theorem ple_pup {h g : PH} {p : Addr} {c : Cell} (l : PLe h g) (e : g p = some c) : PLe (pup h p c) g := fun a d ed => by
  unfold pup at ed
  split at ed
  · rename_i z; subst z; cases ed; exact e
  · exact l a d ed
theorem zip_ints (ns : List Int) : ((ns.map PV.int).zipIdx.map fun p => PV.tup [.int (p.2 : Nat), p.1]) = ns.zipIdx.map fun p => .tup [.int (p.2 : Nat), .int p.1] := by
  rw [List.zipIdx_map, List.map_map]
  rfl
theorem join_len : ∀ (ys : List Str), (∀ y ∈ ys, y.length = 1) → (Str.join "" ys).length = ys.length
  | [], _ => rfl
  | [y], h => h y (by simp)
  | y :: z :: r, h => by
    have e : Str.join "" (y :: z :: r) = y ++ ("" : Str) ++ Str.join "" (z :: r) := rfl
    have ih := join_len (z :: r) fun w hw => h w (List.mem_cons_of_mem _ hw)
    have hy := h y (by simp)
    rw [e]
    show (y.cps ++ (Str.ofString "").cps ++ (Str.join "" (z :: r)).cps).size = _
    rw [Array.size_append, Array.size_append]
    have e0 : (Str.ofString "").cps.size = 0 := by decide +kernel
    have e1 : (Str.join "" (z :: r)).cps.size = (z :: r).length := ih
    have e2 : y.cps.size = 1 := hy
    rw [e0, e1, e2]
    simp only [List.length_cons]
    omega
theorem cut_len (z : Str) (lo hi : Option Int) : (cutS z lo hi).length ≤ z.length := by
  unfold cutS
  show (List.toArray _).size ≤ _
  rw [List.size_toArray, List.length_take, List.length_drop]
  have : z.cps.toList.length = z.length := by simp [Str.length]
  omega
theorem sum_ones {α : Type} (l : List α) : (l.map fun _ => 1).sum = l.length := by
  induction l with
  | nil => rfl
  | cons a l ih => simp [ih]; omega
theorem nodup_map {α β : Type} {f : α → β} : ∀ {l : List α}, l.Nodup → (∀ x ∈ l, ∀ y ∈ l, f x = f y → x = y) → (l.map f).Nodup
  | [], _, _ => .nil
  | a :: l, nd, inj => by
    rw [List.nodup_cons] at nd
    rw [List.map_cons, List.nodup_cons]
    refine ⟨fun z => ?_, nodup_map nd.2 fun x hx y hy => inj x (List.mem_cons_of_mem _ hx) y (List.mem_cons_of_mem _ hy)⟩
    obtain ⟨y, hy, e⟩ := List.mem_map.mp z
    have := inj y (List.mem_cons_of_mem _ hy) a (by simp) e
    subst this
    exact nd.1 hy
theorem ce_loc {a b : Addr} : cmpV .eq (.loc a) (.loc b) h R = eqK h (.loc a) (.loc b) R := rfl
theorem cn_loc {a b : Addr} : cmpV .ne (.loc a) (.loc b) h R = eqK h (.loc a) (.loc b) fun k => R (!k) := rfl
theorem isi_int {G : Sig} {i : Int} {R : Bool → Prop} : isiV G (.int i) h .int R = R true := rfl
theorem isi_bool {G : Sig} {i : Int} {R : Bool → Prop} : isiV G (.int i) h .bool R = R false := rfl
theorem isi_dict {G : Sig} {a : Addr} {f : Bool} {kvs : List (Key × PV)} (e : h a = some (.dct f kvs)) : isiV G (.loc a) h .dict R = R true := by simp only [isiV, e]
theorem isi_tup {G : Sig} {xs : List PV} : isiV G (.tup xs) h .tuple R = R true := rfl
theorem blt_dictD {a : Addr} {f : Bool} {kvs : List (Key × PV)} (e : h a = some (.dct f kvs)) : bltV .dict [.loc a] h Q = ∀ p, h p = none → Q (.loc p) (pup h p (.dct false kvs)) := by simp only [bltV, e]
theorem blt_min {i j : Int} : bltV .min [.int i, .int j] h Q = Q (.int (if j < i then j else i)) h := rfl
theorem blt_max {i j : Int} : bltV .max [.int i, .int j] h Q = Q (.int (if j > i then j else i)) h := rfl
theorem blt_intb {b : Bool} : bltV .int [.bl b] h Q = Q (.int (if b = true then 1 else 0)) h := by cases b <;> rfl
theorem blt_listL {a : Addr} {xs : List PV} (e : h a = some (.lst xs)) : bltV .list [.loc a] h Q = ∀ p, h p = none → Q (.loc p) (pup h p (.lst xs)) := by simp only [bltV, e]
theorem tyP_d {a : Addr} {kvs : List (Key × PV)} (e : h a = some (.dct false kvs)) : tyP .dict (.loc a) h = True := by simp only [tyP, e]
theorem tyP_l {a : Addr} {xs : List PV} (e : h a = some (.lst xs)) : tyP .list (.loc a) h = True := by simp only [tyP, e]
theorem bm_append {a : Addr} {xs : List PV} {y : PV} (e : h a = some (.lst xs)) (hl : xs.length < sizeLine) : bmV .append (.loc a) [y] h Q = Q .non (pup h a (.lst (xs ++ [y]))) := by simp only [bmV, e, hl, true_and]
theorem sub_len : ∀ {K ks : List Str}, K.Nodup → (∀ s ∈ K, s ∈ ks) → K.length ≤ ks.length
  | [], _, _, _ => Nat.zero_le _
  | a :: K, ks, kn, kk => by
    rw [List.nodup_cons] at kn
    have ha := kk a (by simp)
    have ih := sub_len (ks := ks.erase a) kn.2 fun s hs => (List.mem_erase_of_ne (fun e => kn.1 (by rw [← e]; exact hs))).mpr (kk s (List.mem_cons_of_mem _ hs))
    rw [List.length_erase_of_mem ha] at ih
    have := List.length_pos_of_mem ha
    rw [List.length_cons]
    omega
theorem dOf_snoc {ks : List Str} {v : Str → Int} {a : Str} : dOf (ks ++ [a]) v = dOf ks v ++ [(.inr a, .int (v a))] := by simp [dOf]
theorem dOf_notin {ks : List Str} {v : Str → Int} {a : Str} (h : a ∉ ks) : (.inr a : Key) ∉ (dOf ks v).map (·.1) := by
  unfold dOf
  rw [List.map_map]
  intro z
  obtain ⟨s, hs, e⟩ := List.mem_map.mp z
  cases e
  exact h hs
theorem deq_strs {k : Nat} : ∀ ks : List Str, deqL (deq h k) (ks.map .str) (ks.map .str) = some true
  | [] => rfl
  | s :: ks => by
    have e : deq h k (.str s) (.str s) = some true := by cases k <;> simp [deq]
    simp only [List.map_cons, deqL, e, deq_strs ks, Bool.and_self]
theorem eqK_strs {a b : Addr} {ks : List Str} (e1 : h a = some (.lst (ks.map .str))) (e2 : h b = some (.lst (ks.map .str))) : eqK h (.loc a) (.loc b) R = R true := by
  simp only [eqK, e1, e2, deq, deq_strs]
theorem dhit_self {ks : List Str} {v : Str → Int} : ∀ {r : List Str}, (∀ s ∈ r, s ∈ ks) → dhit (deq h 20) (dOf ks v) (dOf r v) = some true
  | [], _ => rfl
  | s :: r, hr => by
    have ih := dhit_self (ks := ks) (v := v) (r := r) fun t ht => hr t (List.mem_cons_of_mem _ ht)
    have e := dOf_val (v := v) (hr s (by simp))
    have e2 : deq h 20 (.int (v s)) (.int (v s)) = some true := by simp [deq]
    show dhit (deq h 20) (dOf ks v) ((.inr s, .int (v s)) :: dOf r v) = some true
    unfold dhit
    unfold valP at e
    rw [e]
    simp only [e2, ih, Bool.and_self]
theorem eqK_dct {a b : Addr} {ks : List Str} {v : Str → Int} (e1 : h a = some (.dct false (dOf ks v))) (e2 : h b = some (.dct false (dOf ks v))) : eqK h (.loc a) (.loc b) R = R true := by
  simp only [eqK, e1, e2, if_true, dhit_self (ks := ks) (v := v) (r := ks) fun _ x => x]
theorem deqL_self {f : PV → PV → Option Bool} {α : Type} {g : α → PV} (hf : ∀ x, f (g x) (g x) = some true) : ∀ xs : List α, deqL f (xs.map g) (xs.map g) = some true
  | [] => rfl
  | x :: xs => by simp only [List.map_cons, deqL, hf, deqL_self hf xs, Bool.and_self]
theorem eqK_lst {a b : Addr} {α : Type} {g : α → PV} {xs : List α} (e1 : h a = some (.lst (xs.map g))) (e2 : h b = some (.lst (xs.map g))) (hf : ∀ x, deq h 19 (g x) (g x) = some true) : eqK h (.loc a) (.loc b) R = R true := by
  simp only [eqK, e1, e2, deq, deqL_self hf]
def ins (K : List Str) (m : Str) : List Str := if m ∈ K then K else K ++ [m]
def up (f : Str → Int) (m : Str) (x : Int) : Str → Int := fun t => if t = m then x else f t
theorem ins_mem {K : List Str} {m t : Str} : t ∈ ins K m ↔ t ∈ K ∨ t = m := by
  unfold ins
  split
  · rename_i h
    exact ⟨.inl, fun z => z.elim id fun e => e ▸ h⟩
  · simp
theorem ins_nodup {K : List Str} {m : Str} (h : K.Nodup) : (ins K m).Nodup := by
  unfold ins
  split
  · exact h
  · rename_i n
    rw [List.nodup_append]
    exact ⟨h, by simp, fun a ha b hb e => n (by rw [List.mem_singleton] at hb; rw [← hb, ← e]; exact ha)⟩
theorem dOf_ins {K : List Str} {f : Str → Int} {m : Str} {x : Int} : putP (dOf K f) (.inr m) (.int x) = dOf (ins K m) (up f m x) := by
  unfold ins
  split
  · rename_i h
    exact dOf_put h
  · rename_i h
    rw [put_new (dOf_notin h)]
    unfold dOf up
    rw [List.map_append]
    congr 1
    · refine List.map_congr_left fun t ht => ?_
      have : t ≠ m := fun e => h (e ▸ ht)
      rw [if_neg this]
    · simp
theorem dOf_getD {K : List Str} {f : Str → Int} {m : Str} (z : m ∉ K → f m = 0) : (valP (dOf K f) (.inr m)).getD (.int 0) = .int (f m) := by
  by_cases h : m ∈ K
  · rw [dOf_val h]; rfl
  · have e : valP (dOf K f) (.inr m) = none := by
      unfold valP
      rw [List.find?_eq_none.mpr]
      · rfl
      · intro kv hkv e
        have e' : kv.1 = .inr m := of_decide_eq_true e
        exact dOf_notin (v := f) h (e' ▸ List.mem_map_of_mem (f := (·.1)) hkv)
    rw [e, z h]; rfl
theorem bm_get {a : Addr} {f : Bool} {K : List Str} {v : Str → Int} {m : Str} (e : h a = some (.dct f (dOf K v))) (z : m ∉ K → v m = 0) : bmV .get (.loc a) [.str m, .int 0] h Q = Q (.int (v m)) h := by
  simp only [bmV, e, toKey, dOf_getD z]
/-! ### small facts for straight lines -/
theorem divP_lit {i j : Int} (h0 : 0 < j) (h1 : j < 1073741824) : CDivP i j = True := eq_true (divP_of h0 h1)
theorem mulP_r {i j : Int} (h0 : -18446744073709551616 < j) (h1 : j < 18446744073709551616) : CMulP i j = True := eq_true (mulP_of h0 h1)
theorem mulP_l {i j : Int} (h0 : -18446744073709551616 < i) (h1 : i < 18446744073709551616) : CMulP i j = True := eq_true (mulP_of' h0 h1)
theorem lineSize : sizeLine = 16777216 := by decide
theorem lne_line {n : Nat} (h : n ≤ 16777216) : (n ≤ sizeLine) = True := eq_true h
theorem lt_line {n : Nat} (h : n < 16777216) : (n < sizeLine) = True := eq_true h
theorem cat_len (a b : Str) : (a ++ b).length = a.length + b.length := by
  show (a.cps ++ b.cps).size = _
  rw [Array.size_append]
  rfl
theorem cut_le (z : Str) (lo hi : Option Int) : (cutS z lo hi).length ≤ z.length := cut_len z lo hi
theorem len_tl (a : Str) : a.length = a.cps.toList.length := by simp [Str.length]
theorem ofL (a : Str) : (⟨a.cps.toList.toArray⟩ : Str) = a := by cases a; simp
theorem new_ext {h : PH} {p : Addr} {c : Cell} (np : h p = none) {a : Addr} {d : Cell} (e : h a = some d) : pup h p c a = some d := by
  rw [pup_ne (fun z => by subst z; rw [np] at e; cases e)]; exact e
/-- a comprehension with a test, both leaving the heap as it is -/
theorem compGo_filter {α : Type} {still : PH → Prop} {st : PV → PEnv → (PEnv → Prop) → Prop} {ifs : PEnv → PH → (Bool → PH → Prop) → Prop} {elt : PEnv → PH → QE → Prop} {env : PEnv} {P : Addr} {K : PH → Prop} {f : α → PV} (p : α → Bool) (g : α → PV) (e : α → PEnv) {as : List α} {h : PH} (hl : as.length ≤ sizeLine)
    (hs : ∀ acc, still (pup h P (.lst acc))) (ht : ∀ a (T : PEnv → Prop), a ∈ as → T (e a) → st (f a) env T) (hi : ∀ a acc (N : Bool → PH → Prop), a ∈ as → N (p a) (pup h P (.lst acc)) → ifs (e a) (pup h P (.lst acc)) N)
    (he : ∀ a acc (Q : QE), a ∈ as → p a = true → Q (g a) (pup h P (.lst acc)) → elt (e a) (pup h P (.lst acc)) Q)
    (q : K (pup h P (.lst ((as.filter p).map g)))) : compGo still st ifs elt env P K (as.map f) (pup h P (.lst [])) := by
  refine compGo_list (f := f) (as := as) (fun done h' => h' = pup h P (.lst ((done.filter p).map g))) (fun done a rest h' N ee i nx => ?_) (fun h' i => ?_) rfl
  · subst i
    have ha : a ∈ as := by rw [ee]; simp
    refine ⟨hs _, ht a _ ha (hi a _ _ ha ?_)⟩
    by_cases hp : p a = true
    · rw [if_pos hp]
      refine he a _ _ ha hp ?_
      rw [pup_same]
      refine ⟨?_, ?_⟩
      · rw [List.length_map]
        have := List.length_filter_le p done
        rw [ee] at hl
        simp at hl
        omega
      · rw [pup_pup]
        exact nx _ (by rw [List.filter_append, List.map_append]; simp [hp])
    · rw [if_neg hp]
      exact nx _ (by rw [List.filter_append]; simp [hp])
  · subst i
    exact ⟨hs _, q⟩
theorem eqK_nil {a b : Addr} {xs : List PV} (e1 : h a = some (.lst xs)) (e2 : h b = some (.lst [])) : eqK h (.loc a) (.loc b) R = R xs.isEmpty := by
  simp only [eqK, e1, e2, deq]
  cases xs <;> rfl
theorem pow_10_9 : (10 : Int) ^ Int.toNat 9 = 1000000000 := by decide
theorem pow_10_20 : (10 : Int) ^ Int.toNat 20 = 100000000000000000000 := by decide
theorem pow_10_30 : (10 : Int) ^ Int.toNat 30 = 1000000000000000000000000000000 := by decide
theorem cpow_10_9 : CPow 10 9 = True := eq_true ⟨by decide, by decide, by decide⟩
theorem cpow_10_20 : CPow 10 20 = True := eq_true ⟨by decide, by decide, by decide⟩
theorem cpow_10_30 : CPow 10 30 = True := eq_true ⟨by decide, by decide, by decide⟩
theorem seq_str {s : Str} {K : List PV → (PH → Prop) → Prop} : seqK (.str s) h K = K (signs s) fun _ => True := rfl
theorem seq_tup {xs : List PV} {K : List PV → (PH → Prop) → Prop} : seqK (.tup xs) h K = K xs fun _ => True := rfl
theorem seq_fl {xs : List PV} {K : List PV → (PH → Prop) → Prop} : seqK (.fl xs) h K = K xs fun _ => True := rfl
theorem new_new {h : PH} {p q : Addr} {c : Cell} (e : pup h p c q = none) : q ≠ p ∧ h q = none := by
  have ne : q ≠ p := fun z => by subst z; rw [pup_same] at e; cases e
  exact ⟨ne, by rw [pup_ne ne] at e; exact e⟩
/-- what follows a body -/
abbrev retD (Q : QE) (X : XE) : PD := ⟨fun _ h1 => ∃ h2, PLe h2 h1 ∧ Q .non h2, fun v h1 => ∃ h2, PLe h2 h1 ∧ Q v h2, fun _ _ => False, fun _ _ => False, fun c _ h1 => ∃ h2, PLe h2 h1 ∧ X c h2⟩
theorem evSs_nil {G : Sig} {C : CallS} {env : PEnv} {D : PD} : evSs G C .nil env h D = D.nx env h := by rw [evSs]
theorem evSs_cons {G : Sig} {C : CallS} {s : S} {ss : Ss} {env : PEnv} {D : PD} : evSs G C (.cons s ss) env h D = evS G C s env h { D with nx := fun env' h' => evSs G C ss env' h' D } := by rw [evSs]
/-- a dict walked by its keys: an invariant over the done part, the dict locked -/
theorem forD_list {G : Sig} {C : CallS} {tg : T} {i : Nat} {b : Ss} {D : PD} {env : PEnv} {d : Addr} {kvs : List (Key × PV)} (I : List (Key × PV) → PEnv → PH → Prop) (ei : env[i]? = some (some (.loc d))) (ed : h d = some (.dct false kvs))
    (hI : ∀ done env g, I done env g → g d = some (.dct true kvs))
    (step : ∀ done kv rest env g (K : PEnv → PH → Prop), kvs = done ++ kv :: rest → I done env g → (∀ env' g', I (done ++ [kv]) env' g' → K env' g') → setT tg (kP kv.1) env fun env' => evSs G C b env' g
      ⟨K, fun v g => g d = some (.dct true kvs) ∧ D.rt v (pup g d (.dct false kvs)), fun e g => g d = some (.dct true kvs) ∧ D.nx e (pup g d (.dct false kvs)), K, fun _ _ _ => False⟩)
    (fin : ∀ env g, I kvs env g → D.nx env (pup g d (.dct false kvs))) (start : I [] env (pup h d (.dct true kvs))) : evS G C (.forD tg false (.var i) b) env h D := by
  unfold evS
  refine ⟨d, kvs, ed, ?_⟩
  unfold evE
  rw [ei]
  refine ⟨rfl, ?_⟩
  refine forGo_list (f := fun kv : Key × PV => kP kv.1) (as := kvs) I (fun done kv rest env g K e i nx => ?_) (fun env g i => ?_) start
  · exact ⟨hI _ _ _ i, step done kv rest env g K e i nx⟩
  · exact ⟨hI _ _ _ i, hI _ _ _ i, fin env g i⟩
theorem zip_mid {α : Type} {as : List α} {done rest : List (α × Nat)} {c : α} {j : Nat} (e : as.zipIdx = done ++ (c, j) :: rest) : j = done.length ∧ as[j]? = some c ∧ j < as.length := by
  have h := congrArg (fun l => l[done.length]?) e
  simp at h
  obtain ⟨x, hx, e1, e2⟩ : ∃ x, as[done.length]? = some x ∧ x = c ∧ done.length = j := by
    revert h
    cases as[done.length]? with
    | none => simp
    | some x => intro h; simpa using h
  subst e1 e2
  exact ⟨rfl, hx, (List.getElem?_eq_some_iff.mp hx).1⟩
/-- [.. for k in a dict if ..], test and element leaving the heap as it is -/
theorem compD_filter {G : Sig} {C : CallS} {env : PEnv} {elt : E} {t : T} {i : Nat} {ifs : Bs} {ws : List (Str × Nat)} {d : Addr} {ks : List Str} {v : Str → Int} (p : Str → Bool) (g : Str → PV) (e' : Str → PEnv) (ei : env[i]? = some (some (.loc d))) (e : h d = some (.dct false (dOf ks v))) (hl : ks.length ≤ sizeLine)
    (ht : ∀ s (T : PEnv → Prop), s ∈ ks → T (e' s) → setT t (.str s) (wipeP env (ws.map (·.2))) T)
    (hi : ∀ s acc P (N : Bool → PH → Prop), s ∈ ks → P ≠ d → N (p s) (pup (pup h d (.dct true (dOf ks v))) P (.lst acc)) → evBs G C ifs (e' s) (pup (pup h d (.dct true (dOf ks v))) P (.lst acc)) N fun _ _ => False)
    (he : ∀ s acc P (N : QE), s ∈ ks → P ≠ d → p s = true → N (g s) (pup (pup h d (.dct true (dOf ks v))) P (.lst acc)) → evE G C elt (e' s) (pup (pup h d (.dct true (dOf ks v))) P (.lst acc)) N fun _ _ => False)
    (q : ∀ P, h P = none → Q (.loc P) (pup h P (.lst ((ks.filter p).map g)))) : evE G C (.compD elt t (.var i) ifs ws) env h Q X := by
  unfold evE
  refine ⟨d, dOf ks v, e, ?_⟩
  unfold evE
  rw [ei]
  refine ⟨rfl, pup_same, fun P nP => ?_⟩
  have ne : P ≠ d := fun z => by subst z; rw [pup_same] at nP; cases nP
  have nP' : h P = none := by rw [pup_ne ne] at nP; exact nP
  rw [dOf_keys]
  refine compGo_filter (f := PV.str) (as := ks) p g e' hl (fun acc => ?_) (fun s T hs q => ht s T hs q) (fun s acc N hs n => hi s acc P N hs ne n) (fun s acc N hs hp n => he s acc P N hs ne hp n) ?_
  · rw [pup_ne ne.symm, pup_same]
  · rw [unlock_eq e nP']
    exact q P nP'
theorem cut_ints (ns : List Int) (lo hi : Option Int) : ∃ ns' : List Int, cutP (ns.map PV.int) lo hi = ns'.map PV.int ∧ ns'.length ≤ ns.length := by
  refine ⟨(ns.drop (HT.sIx (ns.map PV.int).length 0 lo)).take (HT.sIx (ns.map PV.int).length (ns.map PV.int).length hi - HT.sIx (ns.map PV.int).length 0 lo), by unfold cutP; rw [List.map_take, List.map_drop], ?_⟩
  rw [List.length_take, List.length_drop]
  omega
theorem val_key {kvs : List (Key × PV)} (nk : (kvs.map (·.1)).Nodup) {k : Key} {v : PV} (hm : (k, v) ∈ kvs) : valP kvs k = some v := by
  induction kvs with
  | nil => cases hm
  | cons q kvs ih =>
    rw [List.map_cons, List.nodup_cons] at nk
    unfold valP
    rw [List.find?_cons]
    rcases List.mem_cons.mp hm with z | z
    · subst z; simp
    · have ne : q.1 ≠ k := fun y => nk.1 (by rw [y]; exact List.mem_map_of_mem (f := (·.1)) z)
      have n2 : decide (q.1 = k) = false := by simp [ne]
      simp only [n2]
      exact ih nk.2 z
theorem dhit_refl {f : PV → PV → Option Bool} {kvs : List (Key × PV)} (nk : (kvs.map (·.1)).Nodup) (hf : ∀ kv ∈ kvs, f kv.2 kv.2 = some true) : ∀ r : List (Key × PV), (∀ kv ∈ r, kv ∈ kvs) → dhit f kvs r = some true
  | [], _ => rfl
  | (k, v) :: r, hr => by
    have ih := dhit_refl nk hf r fun kv h => hr kv (List.mem_cons_of_mem _ h)
    have hm := hr (k, v) (by simp)
    have e : (kvs.find? fun kv => decide (kv.1 = k)).map (·.2) = some v := val_key nk hm
    unfold dhit
    rw [e]
    simp only [hf (k, v) hm, ih, Bool.and_self]
theorem eqK_dcts {a b : Addr} {kvs : List (Key × PV)} (e1 : h a = some (.dct false kvs)) (e2 : h b = some (.dct false kvs)) (nk : (kvs.map (·.1)).Nodup) (hf : ∀ kv ∈ kvs, deq h 20 kv.2 kv.2 = some true) : eqK h (.loc a) (.loc b) R = R true := by
  simp only [eqK, e1, e2, if_true, dhit_refl nk hf kvs fun _ h => h]
end
end Mir

set_option autoImplicit false
namespace LK
open PySem L2 PySem.Spec Mir
open PyProof.Rows hiding St
/-- Ledger.__init__: 0 self -/
def b0 : Ss :=
  (.cons (.fldSet (.var 0) 0 .dict0)
  (.cons (.fldSet (.var 0) 1 .dict0)
  .nil))
/-- Ledger.pay: 0 self, 1 giver, 2 getter, 3 coins -/
def b1 : Ss :=
  (.cons (.subSet (.fld (.var 0) 0) (.var 1) (.bin .sub (.meth (.var 0) 2 (.cons (.var 1) .nil)) (.var 3)))
  (.cons (.subSet (.fld (.var 0) 0) (.var 2) (.bin .add (.meth (.var 0) 2 (.cons (.var 2) .nil)) (.var 3)))
  .nil))
/-- Ledger.hand: 0 self, 1 giver, 2 getter, 3 ware, 4 amount, 5 member, 6 more, 7 held -/
def b2 : Ss :=
  (.cons (.for (.tup (.cons (.nm 5) (.cons (.nm 6) .nil))) (.ex (.tup (.cons (.tup (.cons (.var 1) (.cons (.bin .sub (.int 0) (.var 4)) .nil))) (.cons (.tup (.cons (.var 2) (.cons (.var 4) .nil))) .nil)))) (.cons (.set 7 (.bm .setdefault (.fld (.var 0) 1) (.cons (.var 5) (.cons .dict0 .nil))))
    (.cons (.subSet (.var 7) (.var 3) (.bin .add (.bm .get (.var 7) (.cons (.var 3) (.cons (.int 0) .nil))) (.var 6)))
    .nil)))
  .nil)
/-- Ledger.dealt: 0 self, 1 buyer, 2 seller, 3 ware, 4 price, 5 amount -/
def b3 : Ss :=
  (.cons (.expr (.meth (.var 0) 3 (.cons (.var 2) (.cons (.var 1) (.cons (.var 3) (.cons (.var 5) .nil))))))
  (.cons (.expr (.meth (.var 0) 4 (.cons (.var 1) (.cons (.var 2) (.cons (.bin .mul (.var 4) (.var 5)) .nil)))))
  .nil))
/-- Ledger.holds: 0 self, 1 member, 2 ware -/
def b4 : Ss :=
  (.cons (.ret (.bm .get (.bm .get (.fld (.var 0) 1) (.cons (.var 1) (.cons .dict0 .nil))) (.cons (.var 2) (.cons (.int 0) .nil))))
  .nil)
/-- Ledger.coins: 0 self, 1 member -/
def b5 : Ss :=
  (.cons (.ret (.bm .get (.fld (.var 0) 0) (.cons (.var 1) (.cons (.int 0) .nil))))
  .nil)
/-- Ledger.members: 0 self, 1 found -/
def b6 : Ss :=
  (.cons (.set 1 .dict0)
  (.cons (.expr (.bm .update (.var 1) (.cons (.fld (.var 0) 0) .nil)))
  (.cons (.expr (.bm .update (.var 1) (.cons (.fld (.var 0) 1) .nil)))
  (.cons (.ret (.blt .sorted (.cons (.var 1) .nil)))
  .nil))))
/-- Ledger.wares: 0 self, 1 member, 2 held, 3 ware -/
def b7 : Ss :=
  (.cons (.set 2 (.bm .get (.fld (.var 0) 1) (.cons (.var 1) (.cons .dict0 .nil))))
  (.cons (.ret (.blt .sorted (.cons (.compD (.var 3) (.nm 3) (.var 2) (.one (.val (.cmp .ne (.sub (.var 2) (.var 3)) (.int 0)))) [("ware", 3)]) .nil)))
  .nil))
/-- _law_cell_at: 0 _law_script, 1 _law_k -/
def b8 : Ss :=
  (.cons (.ite (.val (.cmp .lt (.var 1) (.blt .len (.cons (.var 0) .nil)))) (.cons (.ret (.sub (.var 0) (.var 1)))
    .nil) .nil)
  (.cons (.ret (.int 0))
  .nil))
/-- _law_mixed: 0 _law_cell, 1 _law_k -/
def b9 : Ss :=
  (.cons (.ret (.bin .mod (.bin .mul (.bin .mod (.bin .add (.bin .add (.bin .mul (.var 0) (.bin .add (.int 48271) (.bin .mul (.bin .mul (.int 2) (.var 1)) (.var 1)))) (.bin .mul (.int 69621) (.var 1))) (.int 11)) (.int 2147483647)) (.int 69621)) (.int 2147483629)))
  .nil)
/-- _law_name: 0 _law_base, 1 _law_k, 2 _law_letters, 3 _law_frame, 4 _law_at, 5 _law_j -/
def b10 : Ss :=
  (.cons (.set 2 (.str "abcdefghijklmnopqrstuvwxyz"))
  (.cons (.set 3 (.bm .join (.str "") (.cons (.comp (.sub (.var 2) (.bin .mod (.bin .add (.bin .div (.var 0) (.int 7)) (.bin .mul (.int 3) (.var 5))) (.int 26))) (.nm 5) (.range1 (.bin .mod (.var 0) (.int 8))) .nil [("_law_j", 5)]) .nil)))
  (.cons (.set 4 (.bin .mod (.bin .div (.var 0) (.int 11)) (.bin .add (.blt .len (.cons (.var 3) .nil)) (.int 1))))
  (.cons (.ret (.bin .add (.bin .add (.slice (.var 3) .non (.some (.var 4))) (.sub (.var 2) (.bin .mod (.bin .add (.var 0) (.bin .mul (.int 5) (.var 1))) (.int 26)))) (.slice (.var 3) (.some (.var 4)) .non)))
  .nil))))
/-- _law_amount: 0 _law_number -/
def b11 : Ss :=
  (.cons (.ret (.bin .add (.int 1) (.sub (.lst (.cons (.bin .mod (.bin .div (.var 0) (.int 4)) (.int 9)) (.cons (.bin .mod (.bin .div (.var 0) (.int 4)) (.int 1000)) (.cons (.bin .mod (.bin .div (.var 0) (.int 4)) (.int 1000000000)) (.cons (.bin .sub (.int 999999999) (.bin .mod (.bin .div (.var 0) (.int 4)) (.int 3))) .nil))))) (.bin .mod (.var 0) (.int 4)))))
  .nil)
/-- _law_moved: 0 _law_own, 1 _law_giver, 2 _law_getter, 3 _law_ware, 4 _law_amount_here -/
def b12 : Ss :=
  (.cons (.subSetT (.var 0) (.cons (.var 1) (.cons (.var 3) .nil)) (.bin .sub (.getT (.var 0) (.cons (.var 1) (.cons (.var 3) .nil)) (.int 0)) (.var 4)))
  (.cons (.subSetT (.var 0) (.cons (.var 2) (.cons (.var 3) .nil)) (.bin .add (.getT (.var 0) (.cons (.var 2) (.cons (.var 3) .nil)) (.int 0)) (.var 4)))
  .nil))
/-- _law_deed: 0 _law_ledger, 1 _law_own, 2 _law_met, 3 _law_number, 4 _law_names, 5 _law_one, 6 _law_other, 7 _law_ware, 8 _law_way, 9 _law_amount_here, 10 _law_price, 11 _law_name_here -/
def b13 : Ss :=
  (.cons (.set 5 (.sub (.var 4) (.bin .mod (.var 3) (.int 6))))
  (.cons (.set 6 (.sub (.var 4) (.bin .mod (.bin .div (.var 3) (.int 6)) (.int 6))))
  (.cons (.set 7 (.sub (.lst (.cons (.str "ore") (.cons (.str "tin") (.cons (.str "zinc") .nil)))) (.bin .mod (.bin .div (.var 3) (.int 36)) (.int 3))))
  (.cons (.set 8 (.bin .mod (.bin .div (.var 3) (.int 108)) (.int 4)))
  (.cons (.set 9 (.call 11 (.cons (.bin .add (.bin .mul (.bin .mod (.bin .div (.var 3) (.int 432)) (.int 10007)) (.int 69621)) (.bin .div (.var 3) (.int 9))) .nil)))
  (.cons (.set 10 (.call 11 (.cons (.bin .mod (.bin .mul (.bin .div (.var 3) (.int 77)) (.int 48271)) (.int 998244353)) .nil)))
  (.cons (.ite (.val (.cmp .lt (.var 8) (.int 2))) (.cons (.expr (.meth (.var 0) 5 (.cons (.var 5) (.cons (.var 6) (.cons (.var 7) (.cons (.var 10) (.cons (.var 9) .nil)))))))
    (.cons (.expr (.call 12 (.cons (.var 1) (.cons (.var 6) (.cons (.var 5) (.cons (.var 7) (.cons (.var 9) .nil)))))))
    (.cons (.expr (.call 12 (.cons (.var 1) (.cons (.var 5) (.cons (.var 6) (.cons (.str "") (.cons (.bin .mul (.var 10) (.var 9)) .nil)))))))
    .nil))) (.cons (.ite (.val (.cmp .eq (.var 8) (.int 2))) (.cons (.expr (.meth (.var 0) 4 (.cons (.var 5) (.cons (.var 6) (.cons (.bin .mul (.bin .sub (.var 9) (.var 10)) (.var 10)) .nil)))))
      (.cons (.expr (.call 12 (.cons (.var 1) (.cons (.var 5) (.cons (.var 6) (.cons (.str "") (.cons (.bin .mul (.bin .sub (.var 9) (.var 10)) (.var 10)) .nil)))))))
      .nil)) (.cons (.expr (.meth (.var 0) 3 (.cons (.var 5) (.cons (.var 6) (.cons (.var 7) (.cons (.bin .sub (.var 10) (.var 9)) .nil))))))
      (.cons (.expr (.call 12 (.cons (.var 1) (.cons (.var 5) (.cons (.var 6) (.cons (.var 7) (.cons (.bin .sub (.var 10) (.var 9)) .nil)))))))
      .nil)))
    .nil))
  (.cons (.for (.nm 11) (.ex (.tup (.cons (.var 5) (.cons (.var 6) .nil)))) (.cons (.ite (.val (.cmp .notin (.var 11) (.var 2))) (.cons (.expr (.bm .append (.var 2) (.cons (.var 11) .nil)))
      .nil) .nil)
    .nil))
  .nil))))))))
/-- _law_stands: 0 _law_ledger, 1 _law_own, 2 _law_met, 3 _law_names, 4 _law_ware, 5 _law_sizes, 6 _law_found, 7 _law_name_here, 8 _law_due -/
def b14 : Ss :=
  (.cons (.for (.nm 4) (.ex (.tup (.cons (.str "ore") (.cons (.str "tin") (.cons (.str "zinc") (.cons (.str "") .nil)))))) (.cons (.setC 5 (.comp (.getT (.var 1) (.cons (.var 7) (.cons (.var 4) .nil)) (.int 0)) (.nm 7) (.ex (.var 3)) .nil [("_law_name_here", 7)]))
    (.cons (.ite (.val (.cmp .eq (.var 4) (.str ""))) (.cons (.setC 6 (.comp (.meth (.var 0) 2 (.cons (.var 7) .nil)) (.nm 7) (.ex (.var 3)) .nil [("_law_name_here", 7)]))
      .nil) (.cons (.setC 6 (.comp (.meth (.var 0) 6 (.cons (.var 7) (.cons (.var 4) .nil))) (.nm 7) (.ex (.var 3)) .nil [("_law_name_here", 7)]))
      .nil))
    (.cons (.ite (.or (.val (.cmp .ne (.var 6) (.var 5))) (.val (.cmp .ne (.blt .sum (.cons (.var 6) .nil)) (.int 0)))) (.cons (.ret (.bl false))
      .nil) .nil)
    .nil))))
  (.cons (.ite (.val (.cmp .ne (.meth (.var 0) 7 .nil) (.blt .sorted (.cons (.var 2) .nil)))) (.cons (.ret (.bl false))
    .nil) .nil)
  (.cons (.for (.nm 7) (.ex (.var 3)) (.cons (.setC 8 (.comp (.var 4) (.nm 4) (.ex (.tup (.cons (.str "ore") (.cons (.str "tin") (.cons (.str "zinc") .nil))))) (.one (.val (.cmp .ne (.getT (.var 1) (.cons (.var 7) (.cons (.var 4) .nil)) (.int 0)) (.int 0)))) [("_law_ware", 4)]))
    (.cons (.ite (.val (.cmp .ne (.meth (.var 0) 8 (.cons (.var 7) .nil)) (.var 8))) (.cons (.ret (.bl false))
      .nil) .nil)
    .nil)))
  (.cons (.ret (.bl true))
  .nil))))
/-- law: 0 _law_script, 1 _law_base, 2 _law_names, 3 _law_ledgers, 4 _law_own, 5 _law_met, 6 _law_k, 7 _law_cell, 8 _law_turn -/
def b15 : Ss :=
  (.cons (.set 1 (.call 9 (.cons (.call 8 (.cons (.var 0) (.cons (.int 0) .nil))) (.cons (.int 1) .nil))))
  (.cons (.setC 2 (.comp (.call 10 (.cons (.var 1) (.cons (.var 6) .nil))) (.nm 6) (.range1 (.int 7)) .nil [("_law_k", 6)]))
  (.cons (.set 3 (.lst (.cons (.make 0 .nil) (.cons (.make 0 .nil) .nil))))
  (.cons (.set 4 (.lst (.cons .dictT0 (.cons .dictT0 .nil))))
  (.cons (.set 5 (.lst (.cons (.lst .nil) (.cons (.lst .nil) .nil))))
  (.cons (.for (.tup (.cons (.nm 6) (.cons (.nm 7) .nil))) (.enum (.slice (.var 0) .non (.some (.int 200)))) (.cons (.expr (.call 13 (.cons (.sub (.var 3) (.bin .mod (.var 6) (.int 2))) (.cons (.sub (.var 4) (.bin .mod (.var 6) (.int 2))) (.cons (.sub (.var 5) (.bin .mod (.var 6) (.int 2))) (.cons (.call 9 (.cons (.var 7) (.cons (.bin .add (.int 2) (.bin .mod (.var 6) (.int 40))) .nil))) (.cons (.var 2) .nil)))))))
    (.cons (.ite (.and (.val (.cmp .lt (.var 6) (.int 12))) (.not (.val (.call 14 (.cons (.sub (.var 3) (.bin .mod (.var 6) (.int 2))) (.cons (.sub (.var 4) (.bin .mod (.var 6) (.int 2))) (.cons (.sub (.var 5) (.bin .mod (.var 6) (.int 2))) (.cons (.var 2) .nil)))))))) (.cons (.ret (.bl false))
      .nil) .nil)
    .nil)))
  (.cons (.for (.nm 8) (.range1 (.int 2)) (.cons (.for (.nm 6) (.range1 (.int 2)) (.cons (.ite (.not (.val (.call 14 (.cons (.sub (.var 3) (.var 6)) (.cons (.sub (.var 4) (.var 6)) (.cons (.sub (.var 5) (.var 6)) (.cons (.var 2) .nil))))))) (.cons (.ret (.bl false))
        .nil) .nil)
      (.cons (.expr (.bm .append (.meth (.sub (.var 3) (.var 6)) 7 .nil) (.cons (.str "more") .nil)))
      (.cons (.expr (.bm .append (.meth (.sub (.var 3) (.var 6)) 8 (.cons (.sub (.var 2) (.int 0)) .nil)) (.cons (.str "more") .nil)))
      .nil))))
    .nil))
  (.cons (.ret (.bl true))
  .nil))))))))
def tab : List FnI := [⟨1, 1, b0, []⟩, ⟨4, 4, b1, []⟩, ⟨5, 8, b2, []⟩, ⟨6, 6, b3, []⟩, ⟨3, 3, b4, []⟩, ⟨2, 2, b5, []⟩, ⟨1, 2, b6, []⟩, ⟨2, 4, b7, []⟩, ⟨2, 2, b8, []⟩, ⟨2, 2, b9, []⟩, ⟨2, 6, b10, []⟩, ⟨1, 1, b11, []⟩, ⟨5, 5, b12, []⟩, ⟨5, 12, b13, []⟩, ⟨4, 9, b14, []⟩, ⟨1, 9, b15, []⟩]
def nms : List Str := [Str.ofString "purse", Str.ofString "stock", Str.ofString "coins", Str.ofString "hand", Str.ofString "pay", Str.ofString "dealt", Str.ofString "holds", Str.ofString "members", Str.ofString "wares"]
theorem nd_nms : nms.Nodup := by decide +kernel
def meT : List (Nat × Nat × Nat) := [(0, 4, 1), (0, 3, 2), (0, 5, 3), (0, 6, 4), (0, 2, 5), (0, 7, 6), (0, 8, 7)]
def inT : List (Nat × Nat) := [(0, 0)]
def flT : List (Nat × Nat) := [(0, 0), (0, 1)]
def isT : List (Nat × Nat × Bool) := []
def xmT : List (Nat × Nat × Bool) := []
def exT : List Nat := []
def icT : List Nat := []
def izT : List Nat := []
def ivT : List (Nat × Bool) := []
def eqT : List Nat := []
def i0T : List Nat := []
def glT : List (Nat × PV) := []
def clT : List (Nat × Str) := [(0, "Ledger")]
def lfT : List (Nat × LmI) := []
def sg : Sig := ⟨nms, fun f => tab[f]?, meOf meT, inOf inT, fun k f => decide ((k, f) ∈ flT), twOf isT, inOf glT, fun k => decide (k ∈ i0T), fun k => decide (k ∈ exT), twOf xmT, fun k => decide (k ∈ icT), fun k => decide (k ∈ izT), inOf ivT, fun k => decide (k ∈ eqT), inOf lfT⟩
def fnT : List (Nat × Str) := [(8, "_law_cell_at"), (9, "_law_mixed"), (10, "_law_name"), (11, "_law_amount"), (12, "_law_moved"), (13, "_law_deed"), (14, "_law_stands"), (15, "law")]
def bls : List Str := ["sorted", "len", "range", "sum", "enumerate"]
def ct : Ct := ⟨sg, [], inOf fnT, inOf clT, bls, false⟩
def top (i : Nat) : Stmt := PySem.Challenge.pw_pitclear_k19_ledgers.main.body.getD i (.Pass ⟨0, 0, 0, 0⟩)
abbrev s0 : Stmt := inClass (top 1) 0
def N0 : List Str := ["self"]
def P0 : List Str := ["self"]
theorem sc0 : FnScope N0 P0 (defScope s0) := ⟨rfl, rfl, rfl, by decide +kernel, rfl, by decide +kernel, by decide +kernel⟩
theorem ck0 : chkSs { ct with N := N0, lm := false } b0 (defScope s0) (defBody s0) = true := by decide +kernel
abbrev s1 : Stmt := inClass (top 1) 1
def N1 : List Str := ["self", "giver", "getter", "coins"]
def P1 : List Str := ["self", "giver", "getter", "coins"]
theorem sc1 : FnScope N1 P1 (defScope s1) := ⟨rfl, rfl, rfl, by decide +kernel, rfl, by decide +kernel, by decide +kernel⟩
theorem ck1 : chkSs { ct with N := N1, lm := false } b1 (defScope s1) (defBody s1) = true := by decide +kernel
abbrev s2 : Stmt := inClass (top 1) 2
def N2 : List Str := ["self", "giver", "getter", "ware", "amount", "member", "more", "held"]
def P2 : List Str := ["self", "giver", "getter", "ware", "amount"]
theorem sc2 : FnScope N2 P2 (defScope s2) := ⟨rfl, rfl, rfl, by decide +kernel, rfl, by decide +kernel, by decide +kernel⟩
theorem ck2 : chkSs { ct with N := N2, lm := false } b2 (defScope s2) (defBody s2) = true := by decide +kernel
abbrev s3 : Stmt := inClass (top 1) 3
def N3 : List Str := ["self", "buyer", "seller", "ware", "price", "amount"]
def P3 : List Str := ["self", "buyer", "seller", "ware", "price", "amount"]
theorem sc3 : FnScope N3 P3 (defScope s3) := ⟨rfl, rfl, rfl, by decide +kernel, rfl, by decide +kernel, by decide +kernel⟩
theorem ck3 : chkSs { ct with N := N3, lm := false } b3 (defScope s3) (defBody s3) = true := by decide +kernel
abbrev s4 : Stmt := inClass (top 1) 4
def N4 : List Str := ["self", "member", "ware"]
def P4 : List Str := ["self", "member", "ware"]
theorem sc4 : FnScope N4 P4 (defScope s4) := ⟨rfl, rfl, rfl, by decide +kernel, rfl, by decide +kernel, by decide +kernel⟩
theorem ck4 : chkSs { ct with N := N4, lm := false } b4 (defScope s4) (defBody s4) = true := by decide +kernel
abbrev s5 : Stmt := inClass (top 1) 5
def N5 : List Str := ["self", "member"]
def P5 : List Str := ["self", "member"]
theorem sc5 : FnScope N5 P5 (defScope s5) := ⟨rfl, rfl, rfl, by decide +kernel, rfl, by decide +kernel, by decide +kernel⟩
theorem ck5 : chkSs { ct with N := N5, lm := false } b5 (defScope s5) (defBody s5) = true := by decide +kernel
abbrev s6 : Stmt := inClass (top 1) 6
def N6 : List Str := ["self", "found"]
def P6 : List Str := ["self"]
theorem sc6 : FnScope N6 P6 (defScope s6) := ⟨rfl, rfl, rfl, by decide +kernel, rfl, by decide +kernel, by decide +kernel⟩
theorem ck6 : chkSs { ct with N := N6, lm := false } b6 (defScope s6) (defBody s6) = true := by decide +kernel
abbrev s7 : Stmt := inClass (top 1) 7
def N7 : List Str := ["self", "member", "held", "ware"]
def P7 : List Str := ["self", "member"]
theorem sc7 : FnScope N7 P7 (defScope s7) := ⟨rfl, rfl, rfl, by decide +kernel, rfl, by decide +kernel, by decide +kernel⟩
theorem ck7 : chkSs { ct with N := N7, lm := false } b7 (defScope s7) (defBody s7) = true := by decide +kernel
abbrev s8 : Stmt := top 3
def N8 : List Str := ["_law_script", "_law_k"]
def P8 : List Str := ["_law_script", "_law_k"]
theorem sc8 : FnScope N8 P8 (defScope s8) := ⟨rfl, rfl, rfl, by decide +kernel, rfl, by decide +kernel, by decide +kernel⟩
theorem ck8 : chkSs { ct with N := N8, lm := false } b8 (defScope s8) (defBody s8) = true := by decide +kernel
abbrev s9 : Stmt := top 4
def N9 : List Str := ["_law_cell", "_law_k"]
def P9 : List Str := ["_law_cell", "_law_k"]
theorem sc9 : FnScope N9 P9 (defScope s9) := ⟨rfl, rfl, rfl, by decide +kernel, rfl, by decide +kernel, by decide +kernel⟩
theorem ck9 : chkSs { ct with N := N9, lm := false } b9 (defScope s9) (defBody s9) = true := by decide +kernel
abbrev s10 : Stmt := top 5
def N10 : List Str := ["_law_base", "_law_k", "_law_letters", "_law_frame", "_law_at", "_law_j"]
def P10 : List Str := ["_law_base", "_law_k"]
theorem sc10 : FnScope N10 P10 (defScope s10) := ⟨rfl, rfl, rfl, by decide +kernel, rfl, by decide +kernel, by decide +kernel⟩
theorem ck10 : chkSs { ct with N := N10, lm := false } b10 (defScope s10) (defBody s10) = true := by decide +kernel
abbrev s11 : Stmt := top 6
def N11 : List Str := ["_law_number"]
def P11 : List Str := ["_law_number"]
theorem sc11 : FnScope N11 P11 (defScope s11) := ⟨rfl, rfl, rfl, by decide +kernel, rfl, by decide +kernel, by decide +kernel⟩
theorem ck11 : chkSs { ct with N := N11, lm := false } b11 (defScope s11) (defBody s11) = true := by decide +kernel
abbrev s12 : Stmt := top 7
def N12 : List Str := ["_law_own", "_law_giver", "_law_getter", "_law_ware", "_law_amount_here"]
def P12 : List Str := ["_law_own", "_law_giver", "_law_getter", "_law_ware", "_law_amount_here"]
theorem sc12 : FnScope N12 P12 (defScope s12) := ⟨rfl, rfl, rfl, by decide +kernel, rfl, by decide +kernel, by decide +kernel⟩
theorem ck12 : chkSs { ct with N := N12, lm := false } b12 (defScope s12) (defBody s12) = true := by decide +kernel
abbrev s13 : Stmt := top 8
def N13 : List Str := ["_law_ledger", "_law_own", "_law_met", "_law_number", "_law_names", "_law_one", "_law_other", "_law_ware", "_law_way", "_law_amount_here", "_law_price", "_law_name_here"]
def P13 : List Str := ["_law_ledger", "_law_own", "_law_met", "_law_number", "_law_names"]
theorem sc13 : FnScope N13 P13 (defScope s13) := ⟨rfl, rfl, rfl, by decide +kernel, rfl, by decide +kernel, by decide +kernel⟩
theorem ck13 : chkSs { ct with N := N13, lm := false } b13 (defScope s13) (defBody s13) = true := by decide +kernel
abbrev s14 : Stmt := top 9
def N14 : List Str := ["_law_ledger", "_law_own", "_law_met", "_law_names", "_law_ware", "_law_sizes", "_law_found", "_law_name_here", "_law_due"]
def P14 : List Str := ["_law_ledger", "_law_own", "_law_met", "_law_names"]
theorem sc14 : FnScope N14 P14 (defScope s14) := ⟨rfl, rfl, rfl, by decide +kernel, rfl, by decide +kernel, by decide +kernel⟩
theorem ck14 : chkSs { ct with N := N14, lm := false } b14 (defScope s14) (defBody s14) = true := by decide +kernel
abbrev s15 : Stmt := top 10
def N15 : List Str := ["_law_script", "_law_base", "_law_names", "_law_ledgers", "_law_own", "_law_met", "_law_k", "_law_cell", "_law_turn"]
def P15 : List Str := ["_law_script"]
theorem sc15 : FnScope N15 P15 (defScope s15) := ⟨rfl, rfl, rfl, by decide +kernel, rfl, by decide +kernel, by decide +kernel⟩
theorem ck15 : chkSs { ct with N := N15, lm := false } b15 (defScope s15) (defBody s15) = true := by decide +kernel
theorem pad (f : Nat) (vs : List PV) : padD sg f vs = vs := by
  unfold padD
  split
  · rename_i d e
    have h : ∀ d ∈ tab.zipIdx, d.1.dflt = [] := by simp [tab]
    rw [h (d, f) (List.mem_zipIdx_iff_getElem?.mpr e), List.drop_nil, List.append_nil]
  · rfl
theorem sgf_me_0_4 : sg.me 0 4 = some 1 := rfl
theorem sgf_me_0_3 : sg.me 0 3 = some 2 := rfl
theorem sgf_me_0_5 : sg.me 0 5 = some 3 := rfl
theorem sgf_me_0_6 : sg.me 0 6 = some 4 := rfl
theorem sgf_me_0_2 : sg.me 0 2 = some 5 := rfl
theorem sgf_me_0_7 : sg.me 0 7 = some 6 := rfl
theorem sgf_me_0_8 : sg.me 0 8 = some 7 := rfl
theorem sgf_ini_0 : sg.ini 0 = some 0 := rfl
theorem sgf_fl_0_0 : sg.fl 0 0 = true := rfl
theorem sgf_fl_0_1 : sg.fl 0 1 = true := rfl
theorem sga : (sg.me 0 4 = some 1) ∧
  (sg.me 0 3 = some 2) ∧
  (sg.me 0 5 = some 3) ∧
  (sg.me 0 6 = some 4) ∧
  (sg.me 0 2 = some 5) ∧
  (sg.me 0 7 = some 6) ∧
  (sg.me 0 8 = some 7) ∧
  (sg.ini 0 = some 0) ∧
  (sg.fl 0 0 = true) ∧
  (sg.fl 0 1 = true) :=
  ⟨sgf_me_0_4, sgf_me_0_3, sgf_me_0_5, sgf_me_0_6, sgf_me_0_2, sgf_me_0_7, sgf_me_0_8, sgf_ini_0, sgf_fl_0_0, sgf_fl_0_1⟩
end LK

set_option autoImplicit false
namespace LK
open PySem L2 PySem.Spec Mir
open PyProof.Rows hiding St
section
variable {n : Nat} {h : PH} {Q : QE} {X : Mir.XE}
theorem at_fin {f : Int → PV} {xs : List Int} {i : Int} (h0 : 0 ≤ i) (h1 : i < xs.length) : ∃ x ∈ xs, atI (xs.map f) i = some (f x) := at_map h0 h1
def mix (c k : Int) : Int := (c * (48271 + 2 * k * k) + 69621 * k + 11) % 2147483647 * 69621 % 2147483629
theorem mix_lo (c k : Int) : 0 ≤ mix c k := Int.emod_nonneg _ (by decide)
theorem mix_hi (c k : Int) : mix c k < 2147483629 := Int.emod_lt_of_pos _ (by decide)
theorem mixed_sp {c k : Int} (h0 : 0 ≤ k) (h1 : k ≤ 1000) (q : Q (.int (mix c k)) h) : sem sg (n + 1) 9 [.int c, .int k] h Q X := by
  refine ⟨⟨2, 2, b9, []⟩, rfl, rfl, ?_⟩
  simp only [evSs, evS, evE, evEs, evO, evB, evBs, evI, List.map_cons, List.map_nil, List.replicate_succ, List.replicate_zero, List.cons_append, List.nil_append, List.getElem?_cons_zero, List.getElem?_cons_succ, List.set_cons_zero, List.set_cons_succ, bv_add, bv_sub, bv_mul, bv_div, bv_mod, bv_pow, bv_str, av_add, av_sub, cv_lt, cv_le, cv_gt, cv_ge, cv_eq, cv_ne, cv_eqS, cv_neS, tv_bl, tv_int, List.length_cons, List.length_nil, pad, setT_nm, setT_tup, setTs_nil, setTs_cons, decide_eq_true_eq, Bool.not_eq_true', Bool.not_true, Bool.not_false, if_true, if_false, Bool.false_eq_true, Bool.true_eq_false, reduceIte, Nat.reduceAdd, Nat.reduceSub, Nat.reduceBEq, b9]
  have k2 : 2 * k * k ≤ 2000000 := by
    have := Int.mul_le_mul (a := 2 * k) (b := k) (c := 2000) (d := 1000) (by omega) h1 h0 (by decide)
    omega
  have k3 : 0 ≤ 2 * k * k := Int.mul_nonneg (by omega) h0
  exact ⟨mulP_of (by omega) (by omega), mulP_of (by omega) (by omega), mulP_of (by omega) (by omega), mulP_of (by omega) (by omega), by decide, mulP_of (by decide) (by decide), by decide, ret_here q⟩
theorem cell_sp {ns : List Int} {v : Int} (hv : v = ns.headD 0) (q : Q (.int v) h) : sem sg (n + 1) 8 [.fl (ns.map .int), .int 0] h Q X := by
  refine ⟨⟨2, 2, b8, []⟩, rfl, rfl, ?_⟩
  simp only [evSs, evS, evE, evEs, evO, evB, evBs, evI, List.map_cons, List.map_nil, List.replicate_succ, List.replicate_zero, List.cons_append, List.nil_append, List.getElem?_cons_zero, List.getElem?_cons_succ, List.set_cons_zero, List.set_cons_succ, bv_add, bv_sub, bv_mul, bv_div, bv_mod, bv_pow, bv_str, av_add, av_sub, cv_lt, cv_le, cv_gt, cv_ge, cv_eq, cv_ne, cv_eqS, cv_neS, tv_bl, tv_int, List.length_cons, List.length_nil, pad, setT_nm, setT_tup, setTs_nil, setTs_cons, decide_eq_true_eq, Bool.not_eq_true', Bool.not_true, Bool.not_false, if_true, if_false, Bool.false_eq_true, Bool.true_eq_false, reduceIte, Nat.reduceAdd, Nat.reduceSub, Nat.reduceBEq, b8, bltV, lenV, List.length_map]
  subst hv
  cases ns with
  | nil => exact ret_here q
  | cons a ns =>
    rw [if_pos (by rw [List.length_cons]; omega)]
    rw [sv_fl (v := .int a) (show atI ((a :: ns).map PV.int) (0 : Int) = some (.int a) from atI_nat (j := 0) rfl)]
    exact ret_here q
end
section
variable {n : Nat} {h g k : PH} {Q : QE} {X : Mir.XE}
theorem le_of_pup {p : Addr} {c : Cell} (np : h p = none) (e : pup h p c = g) : PLe h g := e ▸ PLe.new np
theorem at_of_pup {p : Addr} {c : Cell} (e : pup h p c = g) : g p = some c := e ▸ pup_same
theorem ne_new {g : PH} {p x : Addr} {c : Cell} (m : g p = none) (e : g x = some c) : p ≠ x := fun z => by subst z; rw [m] at e; cases e
theorem none_le {g g' : PH} {p : Addr} (l : PLe g g') (m : g' p = none) : g p = none := by
  cases z : g p with
  | none => rfl
  | some c => rw [l _ _ z] at m; cases m
theorem ne_cell {a b : Addr} {c d : Cell} (e : h a = some c) (e' : h b = some d) (n : c ≠ d) : a ≠ b := fun z => by subst z; rw [e] at e'; cases e'; exact n rfl
theorem keyGo_map {α : Type} {run : PV → PH → QE → Prop} {f key : α → PV} {K : List PV → PH → Prop} : ∀ {L : List α} {h : PH}, (∀ a ∈ L, ∀ g (Q : QE), PLe h g → (∀ g', PLe g g' → Q (key a) g') → run (f a) g Q) → (∀ g, PLe h g → K (L.map key) g) → keyGo run (L.map f) h K
  | [], h, _, q => q h (.refl h)
  | a :: L, h, hr, q => hr a (by simp) h _ (.refl h) fun g' l => keyGo_map (fun b hb g Q l2 => hr b (List.mem_cons_of_mem _ hb) g Q (l.trans l2)) fun g'' l2 => q g'' (l.trans l2)
theorem pairs2_map {α : Type} (f : α → Int × Int) (L : List α) : pairs2 (L.map fun a => PV.tup [.int (f a).1, .int (f a).2]) = some (L.map f) := by
  induction L with
  | nil => rfl
  | cons a L ih => rw [List.map_cons, pairs2, ih]; rfl
theorem keys2_map {α : Type} (f : α → Int × Int) (L : List α) : keys2 (L.map fun a => PV.tup [.int (f a).1, .int (f a).2]) = some (L.map f) := by
  cases L with
  | nil => rfl
  | cons a L => rw [keys2, show intsP ((a :: L).map fun a => PV.tup [.int (f a).1, .int (f a).2]) = none from rfl]; exact pairs2_map f (a :: L)
/-! ### lists sorted by a key -/
theorem leP_total (a b : Int × Int) : (leP a b || leP b a) = true := by simp only [leP, Bool.or_eq_true, decide_eq_true_eq]; omega
theorem leP_trans (a b c : Int × Int) (x : leP a b = true) (y : leP b c = true) : leP a c = true := by simp only [leP, decide_eq_true_eq] at x y ⊢; omega
theorem leP_anti {a b : Int × Int} (x : leP a b = true) (y : leP b a = true) : a = b := by
  simp only [leP, decide_eq_true_eq] at x y
  exact Prod.ext (by omega) (by omega)
def srtK {α : Type} (key : α → Int × Int) (L : List α) : List α := L.mergeSort fun a b => leP (key a) (key b)
theorem sortBy_key {α : Type} (key : α → Int × Int) (L : List α) : sortBy L (L.map key) = srtK key L := by
  unfold sortBy srtK
  have e : L.zip (L.map key) = L.map fun a => (a, key a) := by
    induction L with
    | nil => rfl
    | cons a L ih => simp [ih]
  rw [e, ← List.map_mergeSort (f := fun a => (a, key a)) (r := fun a b => leP (key a) (key b)) (s := fun a b : α × (Int × Int) => leP a.2 b.2) (fun a _ b _ => rfl), List.map_map]
  exact List.map_id' _
theorem srtK_perm {α : Type} (key : α → Int × Int) (L : List α) : (srtK key L).Perm L := List.mergeSort_perm _ _
theorem srtK_pair {α : Type} (key : α → Int × Int) (L : List α) : (srtK key L).Pairwise fun a b => leP (key a) (key b) = true :=
  List.pairwise_mergeSort (le := fun a b => leP (key a) (key b)) (fun a b c => leP_trans _ _ _) (fun a b => leP_total _ _) L
/-- the sorted list is the only one, where no two keys are alike -/
theorem srtK_uniq {α : Type} {key : α → Int × Int} {L S : List α} (p : S.Perm L) (w : S.Pairwise fun a b => leP (key a) (key b) = true) (inj : ∀ a ∈ L, ∀ b ∈ L, key a = key b → a = b) : S = srtK key L :=
  (p.trans (srtK_perm key L).symm).eq_of_pairwise (fun a b ha hb x y => inj a (p.mem_iff.mp ha) b ((srtK_perm key L).mem_iff.mp hb) (leP_anti x y)) w (srtK_pair key L)
/-! ### comprehensions whose tests and elements only add to the heap -/
theorem compGo_f {α : Type} {still : PH → Prop} {st : PV → PEnv → (PEnv → Prop) → Prop} {ifs : PEnv → PH → (Bool → PH → Prop) → Prop} {elt : PEnv → PH → QE → Prop} {env : PEnv} {P : Addr} {K : PH → Prop} {key : α → PV} {L : List α} (p : α → Bool) (f : α → PV) (e' : α → PEnv) {h0 : PH} (hP : h0 P = none) (hl : L.length ≤ sizeLine)
    (hs : ∀ g, PLe h0 g → still g) (ht : ∀ a (T : PEnv → Prop), a ∈ L → T (e' a) → st (key a) env T)
    (hi : ∀ a g (N : Bool → PH → Prop), a ∈ L → PLe h0 g → (∀ g', PLe g g' → N (p a) g') → ifs (e' a) g N)
    (hx : ∀ a g (N : QE), a ∈ L → p a = true → PLe h0 g → (∀ g', PLe g g' → N (f a) g') → elt (e' a) g N)
    (q : ∀ g, PLe h0 g → g P = some (.lst ((L.filter p).map f)) → K g) : compGo still st ifs elt env P K (L.map key) (pup h0 P (.lst [])) := by
  refine compGo_list (f := key) (as := L) (fun done h' => PLe h0 h' ∧ h' P = some (.lst ((done.filter p).map f))) (fun done a rest h' N e I nx => ?_) (fun h' I => ⟨hs _ I.1, q _ I.1 I.2⟩) ⟨PLe.new hP, pup_same⟩
  obtain ⟨l, eP⟩ := I
  have ha : a ∈ L := by rw [e]; simp
  refine ⟨hs _ l, ht a _ ha (hi a _ _ ha l fun g1 l1 => ?_)⟩
  by_cases z : p a = true
  · rw [if_pos z]
    refine hx a _ _ ha z (l.trans l1) fun g2 l2 => ?_
    rw [l2 _ _ (l1 _ _ eP)]
    refine ⟨?_, nx _ ⟨fun b c eb => ?_, ?_⟩⟩
    · rw [List.length_map]
      have := List.length_filter_le p done
      rw [e] at hl
      simp at hl
      omega
    · rw [pup_ne (fun w => by subst w; rw [hP] at eb; cases eb)]
      exact l2 _ _ (l1 _ _ (l _ _ eb))
    · rw [pup_same, List.filter_append, List.map_append]
      simp [z]
  · rw [if_neg z]
    refine nx _ ⟨l.trans l1, ?_⟩
    rw [l1 _ _ eP, List.filter_append]
    simp [z]
theorem compD_f {G : Sig} {C : CallS} {α : Type} {elt e : E} {t : T} {ifs : Bs} {ws : List (Str × Nat)} {env : PEnv} {d : Addr} {kvs : List (Key × PV)} {L : List α} {key : α → PV} (p : α → Bool) (f : α → PV) (e' : α → PEnv) (ed : h d = some (.dct false kvs)) (ek : (kvs.map fun kv => kP kv.1) = L.map key)
    (he : ∀ {Q : QE} {X : Mir.XE}, Q (.loc d) (pup h d (.dct true kvs)) → evE G C e env (pup h d (.dct true kvs)) Q X) (hl : L.length ≤ sizeLine)
    (ht : ∀ a (T : PEnv → Prop), a ∈ L → T (e' a) → setT t (key a) (wipeP env (ws.map (·.2))) T)
    (hi : ∀ a g (N : Bool → PH → Prop), a ∈ L → PLe (pup h d (.dct true kvs)) g → (∀ g', PLe g g' → N (p a) g') → evBs G C ifs (e' a) g N fun _ _ => False)
    (hx : ∀ a g (N : QE), a ∈ L → p a = true → PLe (pup h d (.dct true kvs)) g → (∀ g', PLe g g' → N (f a) g') → evE G C elt (e' a) g N fun _ _ => False)
    (q : ∀ P g, h P = none → PLe h g → g P = some (.lst ((L.filter p).map f)) → Q (.loc P) g) : evE G C (.compD elt t e ifs ws) env h Q X := by
  unfold evE
  refine ⟨d, kvs, ed, he ⟨rfl, pup_same, fun P nP => ?_⟩⟩
  have ne : P ≠ d := fun z => by subst z; rw [pup_same] at nP; cases nP
  have nP' : h P = none := by rw [pup_ne ne] at nP; exact nP
  rw [ek]
  refine compGo_f p f e' nP hl (fun g l => l _ _ pup_same) ht hi hx fun g l eP => q P _ nP' (fun a c ea => ?_) (by rw [pup_ne ne]; exact eP)
  by_cases z : a = d
  · subst z; rw [pup_same]; rw [ed] at ea; exact ea
  · rw [pup_ne z]; exact l _ _ (by rw [pup_ne z]; exact ea)
/-- a comprehension over a dict, its meaning written out -/
theorem compD_go {α : Type} {st : PV → PEnv → (PEnv → Prop) → Prop} {ifs : PEnv → PH → (Bool → PH → Prop) → Prop} {elt : PEnv → PH → QE → Prop} {env : PEnv} {d : Addr} {kvs : List (Key × PV)} {L : List α} {key : α → PV} (p : α → Bool) (f : α → PV) (e' : α → PEnv) (ed : h d = some (.dct false kvs)) (ek : (kvs.map fun kv => kP kv.1) = L.map key) (hl : L.length ≤ sizeLine)
    (ht : ∀ a (T : PEnv → Prop), a ∈ L → T (e' a) → st (key a) env T)
    (hi : ∀ a g (N : Bool → PH → Prop), a ∈ L → PLe (pup h d (.dct true kvs)) g → (∀ g', PLe g g' → N (p a) g') → ifs (e' a) g N)
    (hx : ∀ a g (N : QE), a ∈ L → p a = true → PLe (pup h d (.dct true kvs)) g → (∀ g', PLe g g' → N (f a) g') → elt (e' a) g N)
    {P : Addr} {K : PH → Prop} (nP : pup h d (.dct true kvs) P = none) (q : ∀ g, h P = none → PLe h (pup g d (.dct false kvs)) → pup g d (.dct false kvs) P = some (.lst ((L.filter p).map f)) → K g) :
    compGo (fun g => g d = some (.dct true kvs)) st ifs elt env P K (kvs.map fun kv => kP kv.1) (pup (pup h d (.dct true kvs)) P (.lst [])) := by
  have ne : P ≠ d := fun z => by subst z; rw [pup_same] at nP; cases nP
  have nP' : h P = none := by rw [pup_ne ne] at nP; exact nP
  rw [ek]
  refine compGo_f p f e' nP hl (fun g l => l _ _ pup_same) ht hi hx fun g l eP => q g nP' (fun a c ea => ?_) (by rw [pup_ne ne]; exact eP)
  by_cases z : a = d
  · subst z
    rw [ed] at ea
    cases ea
    exact pup_same
  · rw [pup_ne z]
    exact l _ _ (by rw [pup_ne z]; exact ea)
/-- a list that stays is walked -/
theorem comp_f {G : Sig} {C : CallS} {α : Type} {elt e : E} {t : T} {ifs : Bs} {ws : List (Str × Nat)} {env : PEnv} {a : Addr} {L : List α} {key : α → PV} (p : α → Bool) (f : α → PV) (e' : α → PEnv) (ea : h a = some (.lst (L.map key)))
    (he : ∀ {Q : QE} {X : Mir.XE}, Q (.loc a) h → evE G C e env h Q X) (hl : L.length ≤ sizeLine)
    (ht : ∀ a (T : PEnv → Prop), a ∈ L → T (e' a) → setT t (key a) (wipeP env (ws.map (·.2))) T)
    (hi : ∀ a g (N : Bool → PH → Prop), a ∈ L → PLe h g → (∀ g', PLe g g' → N (p a) g') → evBs G C ifs (e' a) g N fun _ _ => False)
    (hx : ∀ a g (N : QE), a ∈ L → p a = true → PLe h g → (∀ g', PLe g g' → N (f a) g') → evE G C elt (e' a) g N fun _ _ => False)
    (q : ∀ P g, h P = none → PLe h g → g P = some (.lst ((L.filter p).map f)) → Q (.loc P) g) : evE G C (.comp elt t (.ex e) ifs ws) env h Q X := by
  unfold evE evI
  refine he ?_
  rw [seq_lst ea]
  intro P nP
  exact compGo_f p f e' nP hl (fun g l => l _ _ ea) ht hi hx fun g l eP => q P g nP l eP
theorem filter_true {α : Type} (L : List α) : L.filter (fun _ => true) = L := by simp
end
section
variable {n : Nat} {h : PH} {Q : QE} {X : Mir.XE}
/-! ### names -/
def letters : Str := "abcdefghijklmnopqrstuvwxyz"
theorem letter_at {i : Int} (h0 : 0 ≤ i) (h1 : i < 26) : atI letters.cps.toList i = some (97 + i.toNat) := by
  have all : ∀ m : Nat, m < 26 → atI letters.cps.toList (m : Int) = some (97 + m) := by decide +kernel
  have e : i = (i.toNat : Int) := by omega
  rw [e]
  exact all _ (by omega)
def sign (i : Int) : Str := ⟨#[97 + (i % 26).toNat]⟩
def frame (b : Int) : Str := Txt.join "" ((List.range (b % 8).toNat).map fun j => sign (b / 7 + 3 * (j : Nat)))
def nm (b k : Int) : Str := cutS (frame b) none (some (b / 11 % ((frame b).length + 1))) ++ sign (b + 5 * k) ++ cutS (frame b) (some (b / 11 % ((frame b).length + 1))) none
theorem frame_len (b : Int) : (frame b).length = (b % 8).toNat := by
  unfold frame
  rw [TL.join_eq, join_len _ (by intro y hy; obtain ⟨j, _, rfl⟩ := List.mem_map.mp hy; rfl), List.length_map, List.length_range]
theorem name_sp {b k : Int} (hb0 : 0 ≤ b) (hb1 : b < 2147483629) (h0 : 0 ≤ k) (h1 : k ≤ 1000) (q : Q (.str (nm b k)) h) : sem sg (n + 1) 10 [.int b, .int k] h Q X := by
  refine ⟨⟨2, 6, b10, []⟩, rfl, rfl, ?_⟩
  have fl := frame_len b
  have l8 : (b % 8).toNat ≤ 8 := by omega
  rw [b10, evSs]
  simp only [evS, evE, evEs, evO, evB, evBs, evI, List.map_cons, List.map_nil, List.replicate_succ, List.replicate_zero, List.cons_append, List.nil_append, List.getElem?_cons_zero, List.getElem?_cons_succ, List.set_cons_zero, List.set_cons_succ, bv_add, bv_sub, bv_mul, bv_div, bv_mod, bv_pow, bv_str, av_add, av_sub, cv_lt, cv_le, cv_gt, cv_ge, cv_eq, cv_ne, cv_eqS, cv_neS, tv_bl, tv_int, List.length_cons, List.length_nil, pad, setT_nm, setT_tup, setTs_nil, setTs_cons, decide_eq_true_eq, Bool.not_eq_true', Bool.not_true, Bool.not_false, if_true, if_false, Bool.false_eq_true, Bool.true_eq_false, reduceIte, Nat.reduceAdd, Nat.reduceSub, Nat.reduceBEq]
  rw [evSs]
  simp only [evS, evE, evEs, evO, evB, evBs, evI, List.map_cons, List.map_nil, List.replicate_succ, List.replicate_zero, List.cons_append, List.nil_append, List.getElem?_cons_zero, List.getElem?_cons_succ, List.set_cons_zero, List.set_cons_succ, bv_add, bv_sub, bv_mul, bv_div, bv_mod, bv_pow, bv_str, av_add, av_sub, cv_lt, cv_le, cv_gt, cv_ge, cv_eq, cv_ne, cv_eqS, cv_neS, tv_bl, tv_int, List.length_cons, List.length_nil, pad, setT_nm, setT_tup, setTs_nil, setTs_cons, decide_eq_true_eq, Bool.not_eq_true', Bool.not_true, Bool.not_false, if_true, if_false, Bool.false_eq_true, Bool.true_eq_false, reduceIte, Nat.reduceAdd, Nat.reduceSub, Nat.reduceBEq, bmT, tyP]
  refine ⟨trivial, by decide, by omega, by omega, fun P nP => compGo_range (fun j => .str (sign (b / 7 + 3 * (j : Nat)))) (by omega) (fun j acc N hj nx => ?_) ?_⟩
  · simp only [evS, evE, evEs, evO, evB, evBs, evI, List.map_cons, List.map_nil, List.replicate_succ, List.replicate_zero, List.cons_append, List.nil_append, List.getElem?_cons_zero, List.getElem?_cons_succ, List.set_cons_zero, List.set_cons_succ, bv_add, bv_sub, bv_mul, bv_div, bv_mod, bv_pow, bv_str, av_add, av_sub, cv_lt, cv_le, cv_gt, cv_ge, cv_eq, cv_ne, cv_eqS, cv_neS, tv_bl, tv_int, List.length_cons, List.length_nil, pad, setT_nm, setT_tup, setTs_nil, setTs_cons, decide_eq_true_eq, Bool.not_eq_true', Bool.not_true, Bool.not_false, if_true, if_false, Bool.false_eq_true, Bool.true_eq_false, reduceIte, Nat.reduceAdd, Nat.reduceSub, Nat.reduceBEq, wipeP]
    refine ⟨divP_of (by decide) (by decide), mulP_of' (by decide) (by decide), by decide, ?_⟩
    have e0 := Int.emod_nonneg (b / 7 + 3 * (j : Int)) (b := 26) (by decide)
    have e1 := Int.emod_lt_of_pos (b / 7 + 3 * (j : Int)) (b := 26) (by decide)
    rw [show (Str.ofString "abcdefghijklmnopqrstuvwxyz") = letters from rfl, sv_str (small_line (by decide +kernel)) (letter_at e0 e1)]
    exact nx
  · rw [bm_join (ys := (List.range (b % 8).toNat).map fun j => sign (b / 7 + 3 * (j : Nat))) (by rw [pup_same, List.map_map]; rfl)]
    have sz : (((List.range (b % 8).toNat).map fun j => sign (b / 7 + 3 * (j : Nat))).map (·.length)).sum = (b % 8).toNat := by
      rw [List.map_map]
      show ((List.range (b % 8).toNat).map fun _ => 1).sum = _
      rw [sum_ones, List.length_range]
    refine ⟨by rw [sz, List.length_map, List.length_range]; have : (Str.ofString "").length = 0 := by decide +kernel
               rw [this]; omega, ?_⟩
    rw [show Txt.join (Str.ofString "") ((List.range (b % 8).toNat).map fun j => sign (b / 7 + 3 * (j : Nat))) = frame b from rfl, evSs]
    simp only [evS, evE, evEs, evO, evB, evBs, evI, List.map_cons, List.map_nil, List.replicate_succ, List.replicate_zero, List.cons_append, List.nil_append, List.getElem?_cons_zero, List.getElem?_cons_succ, List.set_cons_zero, List.set_cons_succ, bv_add, bv_sub, bv_mul, bv_div, bv_mod, bv_pow, bv_str, av_add, av_sub, cv_lt, cv_le, cv_gt, cv_ge, cv_eq, cv_ne, cv_eqS, cv_neS, tv_bl, tv_int, List.length_cons, List.length_nil, pad, setT_nm, setT_tup, setTs_nil, setTs_cons, decide_eq_true_eq, Bool.not_eq_true', Bool.not_true, Bool.not_false, if_true, if_false, Bool.false_eq_true, Bool.true_eq_false, reduceIte, Nat.reduceAdd, Nat.reduceSub, Nat.reduceBEq, bltV, lenV]
    refine ⟨divP_of (by decide) (by decide), small_line (by omega), by omega, ?_⟩
    rw [evSs]
    simp only [evS, evE, evEs, evO, evB, evBs, evI, List.map_cons, List.map_nil, List.replicate_succ, List.replicate_zero, List.cons_append, List.nil_append, List.getElem?_cons_zero, List.getElem?_cons_succ, List.set_cons_zero, List.set_cons_succ, bv_add, bv_sub, bv_mul, bv_div, bv_mod, bv_pow, bv_str, av_add, av_sub, cv_lt, cv_le, cv_gt, cv_ge, cv_eq, cv_ne, cv_eqS, cv_neS, tv_bl, tv_int, List.length_cons, List.length_nil, pad, setT_nm, setT_tup, setTs_nil, setTs_cons, decide_eq_true_eq, Bool.not_eq_true', Bool.not_true, Bool.not_false, if_true, if_false, Bool.false_eq_true, Bool.true_eq_false, reduceIte, Nat.reduceAdd, Nat.reduceSub, Nat.reduceBEq, sliV]
    have e0 := Int.emod_nonneg (b + 5 * k) (b := 26) (by decide)
    have e1 := Int.emod_lt_of_pos (b + 5 * k) (b := 26) (by decide)
    refine ⟨small_line (by omega), mulP_of' (by decide) (by decide), by decide, ?_⟩
    rw [show (Str.ofString "abcdefghijklmnopqrstuvwxyz") = letters from rfl, sv_str (small_line (by decide +kernel)) (letter_at e0 e1)]
    have c1 := cut_len (frame b) none (some (b / 11 % (((frame b).length : Int) + 1)))
    have c2 := cut_len (frame b) (some (b / 11 % (((frame b).length : Int) + 1))) none
    have s1 : (sign (b + 5 * k)).length = 1 := rfl
    rw [show (⟨#[97 + ((b + 5 * k) % 26).toNat]⟩ : Str) = sign (b + 5 * k) from rfl, bv_str]
    refine ⟨small_line (by omega), small_line (by omega), ?_⟩
    rw [bv_str]
    refine ⟨small_line ?_, h, PLe.new nP, q⟩
    show ((cutS (frame b) none _).cps ++ (sign (b + 5 * k)).cps).size + _ ≤ 1000
    rw [Array.size_append]
    have c3 : (cutS (frame b) none (some (b / 11 % (((frame b).length : Int) + 1)))).cps.size ≤ (frame b).length := c1
    have s2 : (sign (b + 5 * k)).cps.size = 1 := rfl
    omega
theorem nm_inj {b k l : Int} (hk : 0 ≤ k ∧ k < 12) (hl : 0 ≤ l ∧ l < 12) (e : nm b k = nm b l) : k = l := by
  have f : ∀ x, (nm b x).cps.toList = (cutS (frame b) none (some (b / 11 % ((frame b).length + 1)))).cps.toList ++ ((97 + ((b + 5 * x) % 26).toNat) :: (cutS (frame b) (some (b / 11 % ((frame b).length + 1))) none).cps.toList) := fun x => by
    show ((_ ++ _ : Array Nat) ++ _ : Array Nat).toList = _
    rw [Array.toList_append, Array.toList_append, List.append_assoc]
    rfl
  have g := congrArg (fun s : Str => s.cps.toList) e
  simp only [f] at g
  have g2 := List.append_cancel_left g
  have g3 : 97 + ((b + 5 * k) % 26).toNat = 97 + ((b + 5 * l) % 26).toNat := (List.cons.inj g2).1
  have a0 := Int.emod_nonneg (b + 5 * k) (b := 26) (by decide)
  have a1 := Int.emod_nonneg (b + 5 * l) (b := 26) (by decide)
  omega
end
end LK

set_option autoImplicit false
namespace LK
open PySem L2 PySem.Spec Mir
open PyProof.Rows hiding St
section
variable {n : Nat} {h : PH} {Q : QE} {X : Mir.XE}
theorem amount_sp {k : Int} (h0 : 0 ≤ k) (q : ∀ x, 0 < x ∧ x ≤ 1000000000 → Q (.int x) h) : sem sg (n + 1) 11 [.int k] h Q X := by
  refine ⟨⟨1, 1, b11, []⟩, rfl, rfl, ?_⟩
  simp only [evSs, evS, evE, evEs, evO, evB, evBs, evI, List.map_cons, List.map_nil, List.replicate_succ, List.replicate_zero, List.cons_append, List.nil_append, List.getElem?_cons_zero, List.getElem?_cons_succ, List.set_cons_zero, List.set_cons_succ, bv_add, bv_sub, bv_mul, bv_div, bv_mod, bv_pow, bv_str, av_add, av_sub, cv_lt, cv_le, cv_gt, cv_ge, cv_eq, cv_ne, cv_eqS, cv_neS, tv_bl, tv_int, List.length_cons, List.length_nil, pad, setT_nm, setT_tup, setTs_nil, setTs_cons, decide_eq_true_eq, Bool.not_eq_true', Bool.not_true, Bool.not_false, if_true, if_false, Bool.false_eq_true, Bool.true_eq_false, reduceIte, Nat.reduceAdd, Nat.reduceSub, Nat.reduceBEq, b11]
  refine ⟨divP_of (by decide) (by decide), by decide, divP_of (by decide) (by decide), by decide, divP_of (by decide) (by decide), by decide, divP_of (by decide) (by decide), by decide, small_line (by decide), fun p np => ⟨by decide, ?_⟩⟩
  obtain ⟨m, hm, em⟩ := at_map (f := PV.int) (xs := [k / 4 % 9, k / 4 % 1000, k / 4 % 1000000000, 999999999 - k / 4 % 3]) (i := k % 4) (Int.emod_nonneg _ (by decide)) (Int.emod_lt_of_pos _ (by decide))
  simp only [List.map_cons, List.map_nil] at em
  rw [sv_lst pup_same em]
  simp only [evSs, evS, evE, evEs, evO, evB, evBs, evI, List.map_cons, List.map_nil, List.replicate_succ, List.replicate_zero, List.cons_append, List.nil_append, List.getElem?_cons_zero, List.getElem?_cons_succ, List.set_cons_zero, List.set_cons_succ, bv_add, bv_sub, bv_mul, bv_div, bv_mod, bv_pow, bv_str, av_add, av_sub, cv_lt, cv_le, cv_gt, cv_ge, cv_eq, cv_ne, cv_eqS, cv_neS, tv_bl, tv_int, List.length_cons, List.length_nil, pad, setT_nm, setT_tup, setTs_nil, setTs_cons, decide_eq_true_eq, Bool.not_eq_true', Bool.not_true, Bool.not_false, if_true, if_false, Bool.false_eq_true, Bool.true_eq_false, reduceIte, Nat.reduceAdd, Nat.reduceSub, Nat.reduceBEq]
  refine ⟨h, PLe.new np, q _ ?_⟩
  simp only [List.mem_cons, List.mem_nil_iff, or_false] at hm
  rcases hm with rfl | rfl | rfl | rfl <;> omega
end
/-! ### ledgers -/
section
variable {n : Nat} {h : PH} {Q : QE} {X : Mir.XE}
/-- what a ledger tells: coins; the dicts' places; the wares' names and amounts -/
structure Led where
  p : Addr
  s : Addr
  pk : List Str
  pv : Str → Int
  sk : List (Str × Addr)
  wk : Str → List Str
  wv : Str → Str → Int
def Led.ads (L : Led) : List Addr := L.p :: L.s :: L.sk.map (·.2)
def stk (sk : List (Str × Addr)) : List (Key × PV) := sk.map fun q => (.inr q.1, .loc q.2)
structure LedAt (h : PH) (a : Addr) (L : Led) : Prop where
  o : h a = some (.ins 0 [(0, .loc L.p), (1, .loc L.s)])
  hp : h L.p = some (.dct false (dOf L.pk L.pv))
  hs : h L.s = some (.dct false (stk L.sk))
  hd : ∀ q ∈ L.sk, h q.2 = some (.dct false (dOf (L.wk q.1) (L.wv q.1)))
  nd : L.ads.Nodup
  nk : (L.sk.map (·.1)).Nodup
  pz : ∀ m, m ∉ L.pk → L.pv m = 0
  pn : L.pk.Nodup
  wz : ∀ m w, w ∉ L.wk m → L.wv m w = 0
  wn : ∀ m, (L.wk m).Nodup
  sz : ∀ m, m ∉ L.sk.map (·.1) → L.wk m = []
/-- all but these stays -/
def Keeps (ads : List Addr) (h h' : PH) : Prop := ∀ b c, b ∉ ads → h b = some c → h' b = some c
theorem Keeps.refl {ads : List Addr} {h : PH} : Keeps ads h h := fun _ _ _ e => e
theorem Keeps.trans {ads : List Addr} {a b c : PH} (x : Keeps ads a b) (y : Keeps ads b c) : Keeps ads a c := fun p d n e => y p d n (x p d n e)
theorem LedAt.a_notin {a : Addr} {L : Led} (l : LedAt h a L) : a ∉ L.ads := by
  intro z
  unfold Led.ads at z
  simp only [List.mem_cons, List.mem_map] at z
  rcases z with z | z | ⟨q, hq, z⟩
  · have := l.o; rw [z, l.hp] at this; cases this
  · have := l.o; rw [z, l.hs] at this; cases this
  · have := l.o; rw [← z, l.hd q hq] at this; cases this
theorem stk_val {sk : List (Str × Addr)} {m : Str} (nk : (sk.map (·.1)).Nodup) {d : Addr} (hm : (m, d) ∈ sk) : valP (stk sk) (.inr m) = some (.loc d) := by
  induction sk with
  | nil => cases hm
  | cons q sk ih =>
    rw [List.map_cons, List.nodup_cons] at nk
    unfold valP stk
    rw [List.map_cons, List.find?_cons]
    rcases List.mem_cons.mp hm with e | e
    · subst e; simp
    · have ne : q.1 ≠ m := fun z => nk.1 (z ▸ List.mem_map_of_mem (f := (·.1)) e)
      have n2 : decide ((Sum.inr q.1 : Key) = .inr m) = false := by simp [ne]
      simp only [n2]
      exact ih nk.2 e
theorem stk_no {sk : List (Str × Addr)} {m : Str} (hm : m ∉ sk.map (·.1)) : valP (stk sk) (.inr m) = none := by
  unfold valP
  rw [Option.map_eq_none_iff, List.find?_eq_none]
  intro kv hk
  unfold stk at hk
  obtain ⟨q, hq, rfl⟩ := List.mem_map.mp hk
  simp only [decide_eq_true_eq]
  intro z
  cases z
  exact hm (List.mem_map_of_mem (f := (·.1)) hq)
theorem LedAt.ple {h h' : PH} {a : Addr} {L : Led} (l : LedAt h a L) (e : PLe h h') : LedAt h' a L :=
  ⟨e _ _ l.o, e _ _ l.hp, e _ _ l.hs, fun q hq => e _ _ (l.hd q hq), l.nd, l.nk, l.pz, l.pn, l.wz, l.wn, l.sz⟩
theorem LedAt.keeps {h h' : PH} {a : Addr} {L : Led} {ads : List Addr} (l : LedAt h a L) (k : Keeps ads h h') (d : ∀ b ∈ a :: L.ads, b ∉ ads) : LedAt h' a L :=
  ⟨k _ _ (d _ (by simp)) l.o, k _ _ (d _ (by simp [Led.ads])) l.hp, k _ _ (d _ (by simp [Led.ads])) l.hs, fun q hq => k _ _ (d _ (by simp only [Led.ads, List.mem_cons, List.mem_map]; exact .inr (.inr (.inr ⟨q, hq, rfl⟩)))) (l.hd q hq), l.nd, l.nk, l.pz, l.pn, l.wz, l.wn, l.sz⟩
theorem LedAt.there {h : PH} {a : Addr} {L : Led} (l : LedAt h a L) : ∀ b ∈ a :: L.ads, h b ≠ none := by
  intro b hb
  simp only [Led.ads, List.mem_cons, List.mem_map] at hb
  rcases hb with rfl | rfl | rfl | ⟨q, hq, rfl⟩
  · rw [l.o]; simp
  · rw [l.hp]; simp
  · rw [l.hs]; simp
  · rw [l.hd q hq]; simp
/-- one purse's coins stored -/
theorem LedAt.purse {a : Addr} {L : Led} (l : LedAt h a L) (m : Str) (x : Int) : LedAt (pup h L.p (.dct false (putP (dOf L.pk L.pv) (.inr m) (.int x)))) a { L with pk := ins L.pk m, pv := up L.pv m x } := by
  have na := l.a_notin
  have nd := l.nd
  simp only [Led.ads, List.mem_cons, not_or, List.nodup_cons] at na nd
  refine ⟨by rw [pup_ne na.1]; exact l.o, by rw [pup_same, dOf_ins], by rw [pup_ne (fun z => nd.1.1 z.symm)]; exact l.hs, fun q hq => ?_, l.nd, l.nk, fun t ht => ?_, ins_nodup l.pn, l.wz, l.wn, l.sz⟩
  · rw [pup_ne (fun z : q.2 = L.p => nd.1.2 (by rw [← z]; exact List.mem_map_of_mem (f := (·.2)) hq))]
    exact l.hd q hq
  · rw [ins_mem, not_or] at ht
    show (if t = m then x else L.pv t) = 0
    rw [if_neg ht.2]
    exact l.pz t ht.1
/-- one ware's amount stored -/
def Led.setW (L : Led) (m w : Str) (x : Int) : Led := { L with wk := fun t => if t = m then ins (L.wk m) w else L.wk t, wv := fun t => if t = m then up (L.wv m) w x else L.wv t }
theorem LedAt.ware {a : Addr} {L : Led} (l : LedAt h a L) {m w : Str} {d : Addr} (hm : (m, d) ∈ L.sk) (x : Int) : LedAt (pup h d (.dct false (putP (dOf (L.wk m) (L.wv m)) (.inr w) (.int x)))) a (L.setW m w x) := by
  have na := l.a_notin
  have nd := l.nd
  simp only [Led.ads, List.mem_cons, not_or, List.nodup_cons] at na nd
  have hdm : d ∈ L.sk.map (·.2) := List.mem_map_of_mem (f := (·.2)) hm
  have inj : ∀ q ∈ L.sk, q.2 = d → q.1 = m := by
    intro q hq e
    have := nd.2.2
    clear na nd hdm
    generalize L.sk = sk at *
    induction sk with
    | nil => cases hq
    | cons r sk ih =>
      rw [List.map_cons, List.nodup_cons] at this
      rcases List.mem_cons.mp hq with z | z <;> rcases List.mem_cons.mp hm with y | y
      · subst z; rw [← y]
      · subst z; exact absurd (e ▸ List.mem_map_of_mem (f := (·.2)) y) this.1
      · subst y; exact absurd (e ▸ List.mem_map_of_mem (f := (·.2)) z) this.1
      · exact ih y z this.2
  have n1 : a ≠ d := fun z => na.2.2 (by rw [z]; exact hdm)
  have n2 : L.p ≠ d := fun z => nd.1.2 (by rw [z]; exact hdm)
  have n3 : L.s ≠ d := fun z => nd.2.1 (by rw [z]; exact hdm)
  refine ⟨by rw [pup_ne n1]; exact l.o, by show pup h d _ L.p = _; rw [pup_ne n2]; exact l.hp, by show pup h d _ L.s = _; rw [pup_ne n3]; exact l.hs, fun q hq => ?_, l.nd, l.nk, l.pz, l.pn, fun t u hu => ?_, fun t => ?_, fun t ht => ?_⟩
  · show pup h d _ q.2 = some (.dct false (dOf (if q.1 = m then ins (L.wk m) w else L.wk q.1) (if q.1 = m then up (L.wv m) w x else L.wv q.1)))
    by_cases e : q.2 = d
    · rw [if_pos (inj q hq e), if_pos (inj q hq e), e, pup_same, dOf_ins]
    · have ne : q.1 ≠ m := fun z => e (by
        have h1 := stk_val l.nk (m := m) (d := q.2) (by rw [← z]; exact hq)
        rw [stk_val l.nk hm] at h1
        cases h1
        rfl)
      rw [if_neg ne, if_neg ne, pup_ne e]
      exact l.hd q hq
  · show (if t = m then up (L.wv m) w x else L.wv t) u = 0
    have hu : u ∉ (if t = m then ins (L.wk m) w else L.wk t) := hu
    by_cases e : t = m
    · rw [if_pos e] at hu ⊢
      rw [ins_mem, not_or] at hu
      unfold up
      rw [if_neg hu.2]
      exact l.wz m u hu.1
    · rw [if_neg e] at hu ⊢
      exact l.wz t u hu
  · show (if t = m then ins (L.wk m) w else L.wk t).Nodup
    split
    · exact ins_nodup (l.wn m)
    · exact l.wn t
  · show (if t = m then ins (L.wk m) w else L.wk t) = []
    have ne : t ≠ m := fun z => ht (by rw [z]; exact List.mem_map_of_mem (f := (·.1)) hm)
    rw [if_neg ne]
    exact l.sz t ht
/-- a member more, with an empty dict -/
theorem LedAt.fresh {a : Addr} {L : Led} (l : LedAt h a L) {m : Str} {d : Addr} (hm : m ∉ L.sk.map (·.1)) (nd' : h d = none) :
    LedAt (pup (pup h d (.dct false [])) L.s (.dct false (putP (stk L.sk) (.inr m) (.loc d)))) a { L with sk := L.sk ++ [(m, d)] } := by
  have na := l.a_notin
  have nd := l.nd
  have th := l.there
  simp only [Led.ads, List.mem_cons, not_or, List.nodup_cons] at na nd
  have nda : a ≠ d := fun z => th a (by simp) (by rw [z]; exact nd')
  have ndp : L.p ≠ d := fun z => th L.p (by simp [Led.ads]) (by rw [z]; exact nd')
  have nds : L.s ≠ d := fun z => th L.s (by simp [Led.ads]) (by rw [z]; exact nd')
  have ndq : ∀ q ∈ L.sk, q.2 ≠ d := fun q hq z => th q.2 (by simp only [Led.ads, List.mem_cons, List.mem_map]; exact .inr (.inr (.inr ⟨q, hq, rfl⟩))) (by rw [z]; exact nd')
  refine ⟨by rw [pup_ne na.2.1, pup_ne nda]; exact l.o, by show pup _ L.s _ L.p = _; rw [pup_ne nd.1.1, pup_ne ndp]; exact l.hp, ?_, fun q hq => ?_, ?_, ?_, l.pz, l.pn, l.wz, l.wn, fun t ht => ?_⟩
  · show pup _ L.s _ L.s = some (.dct false (stk (L.sk ++ [(m, d)])))
    rw [pup_same, put_new]
    · unfold stk; rw [List.map_append]; rfl
    · intro z
      unfold stk at z
      rw [List.map_map] at z
      obtain ⟨q, hq, e⟩ := List.mem_map.mp z
      have : q.1 = m := by
        have e : (Sum.inr q.1 : Key) = .inr m := e
        cases e; rfl
      exact hm (this ▸ List.mem_map_of_mem (f := (·.1)) hq)
  · show pup _ L.s _ q.2 = some (.dct false (dOf (L.wk q.1) (L.wv q.1)))
    rcases List.mem_append.mp hq with z | z
    · rw [pup_ne (fun y : q.2 = L.s => nd.2.1 (by rw [← y]; exact List.mem_map_of_mem (f := (·.2)) z)), pup_ne (ndq q z)]
      exact l.hd q z
    · simp only [List.mem_cons, List.mem_nil_iff, or_false] at z
      subst z
      rw [pup_ne (fun y => nds y.symm), pup_same, l.sz m hm]
      rfl
  · show (L.p :: L.s :: (L.sk ++ [(m, d)]).map (·.2)).Nodup
    rw [List.map_append]
    simp only [List.map_cons, List.map_nil, List.nodup_cons, List.mem_cons, List.mem_append, List.mem_nil_iff, or_false, not_or]
    refine ⟨⟨nd.1.1, nd.1.2, ndp⟩, ⟨nd.2.1, nds⟩, List.nodup_append.mpr ⟨nd.2.2, by simp, fun x hx y hy => ?_⟩⟩
    simp only [List.mem_cons, List.mem_nil_iff, or_false] at hy
    subst hy
    obtain ⟨q, hq, rfl⟩ := List.mem_map.mp hx
    exact ndq q hq
  · show ((L.sk ++ [(m, d)]).map (·.1)).Nodup
    rw [List.map_append]
    refine List.nodup_append.mpr ⟨l.nk, by simp, fun x hx y hy => ?_⟩
    simp only [List.map_cons, List.map_nil, List.mem_cons, List.mem_nil_iff, or_false] at hy
    subst hy
    exact fun z => hm (z ▸ hx)
  · have ht : t ∉ (L.sk ++ [(m, d)]).map (·.1) := ht
    rw [List.map_append, List.mem_append, not_or] at ht
    exact l.sz t ht.1
/-- names and wares are among these -/
structure LedIn (L : Led) (S W : List Str) : Prop where
  p : ∀ m ∈ L.pk, m ∈ S
  s : ∀ m ∈ L.sk.map (·.1), m ∈ S
  w : ∀ m, ∀ u ∈ L.wk m, u ∈ W
  n : S.length ≤ 100
  m : W.length ≤ 100
theorem LedIn.pl {a : Addr} {L : Led} {S W : List Str} (i : LedIn L S W) (l : LedAt h a L) : L.pk.length ≤ 100 := Nat.le_trans (sub_len l.pn i.p) i.n
theorem LedIn.sl {a : Addr} {L : Led} {S W : List Str} (i : LedIn L S W) (l : LedAt h a L) : L.sk.length ≤ 100 := by
  have := sub_len l.nk i.s
  rw [List.length_map] at this
  exact Nat.le_trans this i.n
theorem LedIn.wl {a : Addr} {L : Led} {S W : List Str} (i : LedIn L S W) (l : LedAt h a L) (m : Str) : (L.wk m).length ≤ 100 := Nat.le_trans (sub_len (l.wn m) (i.w m)) i.m
theorem stk_len {sk : List (Str × Addr)} : (stk sk).length = sk.length := by simp [stk]
/-- asking for coins -/
theorem coins_sp {a : Addr} {L : Led} {m : Str} (l : LedAt h a L) (q : Q (.int (L.pv m)) h) : sem sg (n + 1) 5 [.loc a, .str m] h Q X := by
  refine ⟨⟨2, 2, b5, []⟩, rfl, rfl, ?_⟩
  simp only [evSs, evS, evE, evEs, evO, evB, evBs, evI, List.map_cons, List.map_nil, List.replicate_succ, List.replicate_zero, List.cons_append, List.nil_append, List.getElem?_cons_zero, List.getElem?_cons_succ, List.set_cons_zero, List.set_cons_succ, bv_add, bv_sub, bv_mul, bv_div, bv_mod, bv_pow, bv_str, av_add, av_sub, cv_lt, cv_le, cv_gt, cv_ge, cv_eq, cv_ne, cv_eqS, cv_neS, tv_bl, tv_int, List.length_cons, List.length_nil, pad, setT_nm, setT_tup, setTs_nil, setTs_cons, decide_eq_true_eq, Bool.not_eq_true', Bool.not_true, Bool.not_false, if_true, if_false, Bool.false_eq_true, Bool.true_eq_false, reduceIte, Nat.reduceAdd, Nat.reduceSub, Nat.reduceBEq, pow_10_9, pow_10_20, pow_10_30, cpow_10_9, cpow_10_20, cpow_10_30, divP_lit, mulP_r, mulP_l, lne_line, lt_line, isi_int, isi_bool, Int.reduceLT, Int.reduceLE, Int.reduceGT, Int.reduceGE, Int.reduceNeg, Int.reduceMul, Int.reduceAdd, Int.reduceSub, Nat.reduceLeDiff, Nat.reduceLT, true_and, and_true, decide_true, decide_false, sga, wipeP, List.set_cons_zero, List.set_cons_succ, evSs_nil, List.lookup, Nat.reduceBEq, seq_str, seq_tup, seq_fl, Bool.true_and, Bool.and_true, Bool.false_and, Bool.and_false, beq_self_eq_true, b5, l.o, bmT, tyP_d l.hp]
  rw [bm_get l.hp (l.pz m)]
  exact ret_here q
theorem wv_no {a : Addr} {L : Led} (l : LedAt h a L) {m : Str} (hm : m ∉ L.sk.map (·.1)) (w : Str) : L.wv m w = 0 := l.wz m w (by rw [l.sz m hm]; simp)
theorem mem_key {sk : List (Str × Addr)} {m : Str} (hm : m ∈ sk.map (·.1)) : ∃ d, (m, d) ∈ sk := by
  obtain ⟨q, hq, rfl⟩ := List.mem_map.mp hm
  exact ⟨q.2, hq⟩
theorem holds_sp {a : Addr} {L : Led} {m w : Str} (l : LedAt h a L) (q : Q (.int (L.wv m w)) h) : sem sg (n + 1) 4 [.loc a, .str m, .str w] h Q X := by
  refine ⟨⟨3, 3, b4, []⟩, rfl, rfl, ?_⟩
  simp only [evSs, evS, evE, evEs, evO, evB, evBs, evI, List.map_cons, List.map_nil, List.replicate_succ, List.replicate_zero, List.cons_append, List.nil_append, List.getElem?_cons_zero, List.getElem?_cons_succ, List.set_cons_zero, List.set_cons_succ, bv_add, bv_sub, bv_mul, bv_div, bv_mod, bv_pow, bv_str, av_add, av_sub, cv_lt, cv_le, cv_gt, cv_ge, cv_eq, cv_ne, cv_eqS, cv_neS, tv_bl, tv_int, List.length_cons, List.length_nil, pad, setT_nm, setT_tup, setTs_nil, setTs_cons, decide_eq_true_eq, Bool.not_eq_true', Bool.not_true, Bool.not_false, if_true, if_false, Bool.false_eq_true, Bool.true_eq_false, reduceIte, Nat.reduceAdd, Nat.reduceSub, Nat.reduceBEq, pow_10_9, pow_10_20, pow_10_30, cpow_10_9, cpow_10_20, cpow_10_30, divP_lit, mulP_r, mulP_l, lne_line, lt_line, isi_int, isi_bool, Int.reduceLT, Int.reduceLE, Int.reduceGT, Int.reduceGE, Int.reduceNeg, Int.reduceMul, Int.reduceAdd, Int.reduceSub, Nat.reduceLeDiff, Nat.reduceLT, true_and, and_true, decide_true, decide_false, sga, wipeP, List.set_cons_zero, List.set_cons_succ, evSs_nil, List.lookup, Nat.reduceBEq, seq_str, seq_tup, seq_fl, Bool.true_and, Bool.and_true, Bool.false_and, Bool.and_false, beq_self_eq_true, b4, l.o, bmT, tyP_d l.hs]
  intro p np
  have l' := l.ple (PLe.new (c := .dct false []) np)
  simp only [bmV, l'.hs, toKey]
  by_cases hm : m ∈ L.sk.map (·.1)
  · obtain ⟨d, hd⟩ := mem_key hm
    rw [stk_val l.nk hd]
    have hdd : pup h p (.dct false []) d = some (.dct false (dOf (L.wk m) (L.wv m))) := l'.hd _ hd
    simp only [Option.getD_some, tyP_d hdd, true_and, hdd]
    rw [dOf_getD (l.wz m w)]
    exact ⟨h, PLe.new np, q⟩
  · rw [stk_no hm]
    simp only [Option.getD_none, tyP_d (pup_same (h := h) (a := p) (c := .dct false [])), true_and, bmV, pup_same, toKey]
    rw [show valP [] (.inr w) = none from rfl]
    simp only [Option.getD_none]
    rw [wv_no l hm] at q
    exact ⟨h, PLe.new np, q⟩
/-- coins go from one to another -/
def Led.pay (L : Led) (g t : Str) (c : Int) : Led := { L with pk := ins (ins L.pk g) t, pv := up (up L.pv g (L.pv g - c)) t (up L.pv g (L.pv g - c) t + c) }
theorem ins_len {K : List Str} {m : Str} : (ins K m).length ≤ K.length + 1 := by
  unfold ins
  split
  · omega
  · simp
theorem pay_sp {a : Addr} {L : Led} {S W : List Str} {g t : Str} {c : Int} (l : LedAt h a L) (i : LedIn L S W) (q : ∀ h', LedAt h' a (L.pay g t c) → Keeps L.ads h h' → Q .non h') : sem sg (n + 2) 1 [.loc a, .str g, .str t, .int c] h Q X := by
  refine ⟨⟨4, 4, b1, []⟩, rfl, rfl, ?_⟩
  have hl := i.pl l
  rw [b1]
  (try dsimp only); (try simp only [evS, evE, evEs, evO, evB, evBs, evI, List.map_cons, List.map_nil, List.replicate_succ, List.replicate_zero, List.cons_append, List.nil_append, List.getElem?_cons_zero, List.getElem?_cons_succ, List.set_cons_zero, List.set_cons_succ, bv_add, bv_sub, bv_mul, bv_div, bv_mod, bv_pow, bv_str, av_add, av_sub, cv_lt, cv_le, cv_gt, cv_ge, cv_eq, cv_ne, cv_eqS, cv_neS, tv_bl, tv_int, List.length_cons, List.length_nil, pad, setT_nm, setT_tup, setTs_nil, setTs_cons, decide_eq_true_eq, Bool.not_eq_true', Bool.not_true, Bool.not_false, if_true, if_false, Bool.false_eq_true, Bool.true_eq_false, reduceIte, Nat.reduceAdd, Nat.reduceSub, Nat.reduceBEq, pow_10_9, pow_10_20, pow_10_30, cpow_10_9, cpow_10_20, cpow_10_30, divP_lit, mulP_r, mulP_l, lne_line, lt_line, isi_int, isi_bool, Int.reduceLT, Int.reduceLE, Int.reduceGT, Int.reduceGE, Int.reduceNeg, Int.reduceMul, Int.reduceAdd, Int.reduceSub, Nat.reduceLeDiff, Nat.reduceLT, true_and, and_true, decide_true, decide_false, sga, wipeP, List.set_cons_zero, List.set_cons_succ, evSs_nil, List.lookup, Nat.reduceBEq, seq_str, seq_tup, seq_fl, Bool.true_and, Bool.and_true, Bool.false_and, Bool.and_false, beq_self_eq_true]); rw [evSs_cons]; simp only [evS, evE, evEs, evO, evB, evBs, evI, List.map_cons, List.map_nil, List.replicate_succ, List.replicate_zero, List.cons_append, List.nil_append, List.getElem?_cons_zero, List.getElem?_cons_succ, List.set_cons_zero, List.set_cons_succ, bv_add, bv_sub, bv_mul, bv_div, bv_mod, bv_pow, bv_str, av_add, av_sub, cv_lt, cv_le, cv_gt, cv_ge, cv_eq, cv_ne, cv_eqS, cv_neS, tv_bl, tv_int, List.length_cons, List.length_nil, pad, setT_nm, setT_tup, setTs_nil, setTs_cons, decide_eq_true_eq, Bool.not_eq_true', Bool.not_true, Bool.not_false, if_true, if_false, Bool.false_eq_true, Bool.true_eq_false, reduceIte, Nat.reduceAdd, Nat.reduceSub, Nat.reduceBEq, pow_10_9, pow_10_20, pow_10_30, cpow_10_9, cpow_10_20, cpow_10_30, divP_lit, mulP_r, mulP_l, lne_line, lt_line, isi_int, isi_bool, Int.reduceLT, Int.reduceLE, Int.reduceGT, Int.reduceGE, Int.reduceNeg, Int.reduceMul, Int.reduceAdd, Int.reduceSub, Nat.reduceLeDiff, Nat.reduceLT, true_and, and_true, decide_true, decide_false, sga, wipeP, List.set_cons_zero, List.set_cons_succ, evSs_nil, List.lookup, Nat.reduceBEq, seq_str, seq_tup, seq_fl, Bool.true_and, Bool.and_true, Bool.false_and, Bool.and_false, beq_self_eq_true, l.o]
  refine coins_sp l ?_
  simp only [evS, evE, evEs, evO, evB, evBs, evI, List.map_cons, List.map_nil, List.replicate_succ, List.replicate_zero, List.cons_append, List.nil_append, List.getElem?_cons_zero, List.getElem?_cons_succ, List.set_cons_zero, List.set_cons_succ, bv_add, bv_sub, bv_mul, bv_div, bv_mod, bv_pow, bv_str, av_add, av_sub, cv_lt, cv_le, cv_gt, cv_ge, cv_eq, cv_ne, cv_eqS, cv_neS, tv_bl, tv_int, List.length_cons, List.length_nil, pad, setT_nm, setT_tup, setTs_nil, setTs_cons, decide_eq_true_eq, Bool.not_eq_true', Bool.not_true, Bool.not_false, if_true, if_false, Bool.false_eq_true, Bool.true_eq_false, reduceIte, Nat.reduceAdd, Nat.reduceSub, Nat.reduceBEq, pow_10_9, pow_10_20, pow_10_30, cpow_10_9, cpow_10_20, cpow_10_30, divP_lit, mulP_r, mulP_l, lne_line, lt_line, isi_int, isi_bool, Int.reduceLT, Int.reduceLE, Int.reduceGT, Int.reduceGE, Int.reduceNeg, Int.reduceMul, Int.reduceAdd, Int.reduceSub, Nat.reduceLeDiff, Nat.reduceLT, true_and, and_true, decide_true, decide_false, sga, wipeP, List.set_cons_zero, List.set_cons_succ, evSs_nil, List.lookup, Nat.reduceBEq, seq_str, seq_tup, seq_fl, Bool.true_and, Bool.and_true, Bool.false_and, Bool.and_false, beq_self_eq_true, l.o]
  rw [setV_dct l.hp rfl (by rw [dOf_len]; exact small1000 (by omega))]
  have l1 := l.purse g (L.pv g - c)
  have hl1 : (ins L.pk g).length ≤ 101 := by have := ins_len (K := L.pk) (m := g); omega
  generalize hg : pup h L.p _ = h1 at l1 ⊢
  (try dsimp only); (try simp only [evS, evE, evEs, evO, evB, evBs, evI, List.map_cons, List.map_nil, List.replicate_succ, List.replicate_zero, List.cons_append, List.nil_append, List.getElem?_cons_zero, List.getElem?_cons_succ, List.set_cons_zero, List.set_cons_succ, bv_add, bv_sub, bv_mul, bv_div, bv_mod, bv_pow, bv_str, av_add, av_sub, cv_lt, cv_le, cv_gt, cv_ge, cv_eq, cv_ne, cv_eqS, cv_neS, tv_bl, tv_int, List.length_cons, List.length_nil, pad, setT_nm, setT_tup, setTs_nil, setTs_cons, decide_eq_true_eq, Bool.not_eq_true', Bool.not_true, Bool.not_false, if_true, if_false, Bool.false_eq_true, Bool.true_eq_false, reduceIte, Nat.reduceAdd, Nat.reduceSub, Nat.reduceBEq, pow_10_9, pow_10_20, pow_10_30, cpow_10_9, cpow_10_20, cpow_10_30, divP_lit, mulP_r, mulP_l, lne_line, lt_line, isi_int, isi_bool, Int.reduceLT, Int.reduceLE, Int.reduceGT, Int.reduceGE, Int.reduceNeg, Int.reduceMul, Int.reduceAdd, Int.reduceSub, Nat.reduceLeDiff, Nat.reduceLT, true_and, and_true, decide_true, decide_false, sga, wipeP, List.set_cons_zero, List.set_cons_succ, evSs_nil, List.lookup, Nat.reduceBEq, seq_str, seq_tup, seq_fl, Bool.true_and, Bool.and_true, Bool.false_and, Bool.and_false, beq_self_eq_true]); rw [evSs_cons]; simp only [evS, evE, evEs, evO, evB, evBs, evI, List.map_cons, List.map_nil, List.replicate_succ, List.replicate_zero, List.cons_append, List.nil_append, List.getElem?_cons_zero, List.getElem?_cons_succ, List.set_cons_zero, List.set_cons_succ, bv_add, bv_sub, bv_mul, bv_div, bv_mod, bv_pow, bv_str, av_add, av_sub, cv_lt, cv_le, cv_gt, cv_ge, cv_eq, cv_ne, cv_eqS, cv_neS, tv_bl, tv_int, List.length_cons, List.length_nil, pad, setT_nm, setT_tup, setTs_nil, setTs_cons, decide_eq_true_eq, Bool.not_eq_true', Bool.not_true, Bool.not_false, if_true, if_false, Bool.false_eq_true, Bool.true_eq_false, reduceIte, Nat.reduceAdd, Nat.reduceSub, Nat.reduceBEq, pow_10_9, pow_10_20, pow_10_30, cpow_10_9, cpow_10_20, cpow_10_30, divP_lit, mulP_r, mulP_l, lne_line, lt_line, isi_int, isi_bool, Int.reduceLT, Int.reduceLE, Int.reduceGT, Int.reduceGE, Int.reduceNeg, Int.reduceMul, Int.reduceAdd, Int.reduceSub, Nat.reduceLeDiff, Nat.reduceLT, true_and, and_true, decide_true, decide_false, sga, wipeP, List.set_cons_zero, List.set_cons_succ, evSs_nil, List.lookup, Nat.reduceBEq, seq_str, seq_tup, seq_fl, Bool.true_and, Bool.and_true, Bool.false_and, Bool.and_false, beq_self_eq_true, l1.o]
  refine coins_sp l1 ?_
  simp only [evS, evE, evEs, evO, evB, evBs, evI, List.map_cons, List.map_nil, List.replicate_succ, List.replicate_zero, List.cons_append, List.nil_append, List.getElem?_cons_zero, List.getElem?_cons_succ, List.set_cons_zero, List.set_cons_succ, bv_add, bv_sub, bv_mul, bv_div, bv_mod, bv_pow, bv_str, av_add, av_sub, cv_lt, cv_le, cv_gt, cv_ge, cv_eq, cv_ne, cv_eqS, cv_neS, tv_bl, tv_int, List.length_cons, List.length_nil, pad, setT_nm, setT_tup, setTs_nil, setTs_cons, decide_eq_true_eq, Bool.not_eq_true', Bool.not_true, Bool.not_false, if_true, if_false, Bool.false_eq_true, Bool.true_eq_false, reduceIte, Nat.reduceAdd, Nat.reduceSub, Nat.reduceBEq, pow_10_9, pow_10_20, pow_10_30, cpow_10_9, cpow_10_20, cpow_10_30, divP_lit, mulP_r, mulP_l, lne_line, lt_line, isi_int, isi_bool, Int.reduceLT, Int.reduceLE, Int.reduceGT, Int.reduceGE, Int.reduceNeg, Int.reduceMul, Int.reduceAdd, Int.reduceSub, Nat.reduceLeDiff, Nat.reduceLT, true_and, and_true, decide_true, decide_false, sga, wipeP, List.set_cons_zero, List.set_cons_succ, evSs_nil, List.lookup, Nat.reduceBEq, seq_str, seq_tup, seq_fl, Bool.true_and, Bool.and_true, Bool.false_and, Bool.and_false, beq_self_eq_true, l1.o]
  rw [setV_dct l1.hp rfl (by rw [dOf_len]; exact small1000 (by show (ins L.pk g).length ≤ 1000; omega))]
  have l2 := l1.purse t (up L.pv g (L.pv g - c) t + c)
  refine ret_here (q _ l2 ?_)
  intro b d nb e
  have nb' : b ≠ L.p := fun z => nb (by rw [z]; simp [Led.ads])
  show pup h1 L.p _ b = _
  rw [pup_ne nb', ← hg, pup_ne nb']
  exact e
/-- one member has more of a ware -/
structure Held (h h' : PH) (L L' : Led) (m w : Str) (x : Int) : Prop where
  p : L'.p = L.p ∧ L'.s = L.s ∧ L'.pk = L.pk ∧ L'.pv = L.pv
  k : L'.sk.map (·.1) = ins (L.sk.map (·.1)) m
  v : ∀ t u, L'.wv t u = L.wv t u + if t = m ∧ u = w then x else 0
  w : ∀ t u, u ∈ L'.wk t → u ∈ L.wk t ∨ u = w
  f : Keeps L.ads h h'
  a : ∀ b ∈ L'.ads, b ∈ L.ads ∨ h b = none
/-- the turn of one member in hand -/
theorem hand1 {C : CallS} {a : Addr} {L : Led} {S W : List Str} {m w : Str} {x : Int} {x1 x2 x4 x7 : Option PV} {D : PD} (l : LedAt h a L) (i : LedIn L S W) (hm : m ∈ S) (hw : w ∈ W)
    (q : ∀ h' L' d, LedAt h' a L' → LedIn L' S W → Held h h' L L' m w x → D.nx [some (.loc a), x1, x2, some (.str w), x4, some (.str m), some (.int x), some (.loc d)] h') :
    evSs sg C (.cons (.set 7 (.bm .setdefault (.fld (.var 0) 1) (.cons (.var 5) (.cons .dict0 .nil)))) (.cons (.subSet (.var 7) (.var 3) (.bin .add (.bm .get (.var 7) (.cons (.var 3) (.cons (.int 0) .nil))) (.var 6))) .nil))
      [some (.loc a), x1, x2, some (.str w), x4, some (.str m), some (.int x), x7] h D := by
  rw [evSs_cons]
  simp only [evS, evE, evEs, evO, evB, evBs, evI, List.map_cons, List.map_nil, List.replicate_succ, List.replicate_zero, List.cons_append, List.nil_append, List.getElem?_cons_zero, List.getElem?_cons_succ, List.set_cons_zero, List.set_cons_succ, bv_add, bv_sub, bv_mul, bv_div, bv_mod, bv_pow, bv_str, av_add, av_sub, cv_lt, cv_le, cv_gt, cv_ge, cv_eq, cv_ne, cv_eqS, cv_neS, tv_bl, tv_int, List.length_cons, List.length_nil, pad, setT_nm, setT_tup, setTs_nil, setTs_cons, decide_eq_true_eq, Bool.not_eq_true', Bool.not_true, Bool.not_false, if_true, if_false, Bool.false_eq_true, Bool.true_eq_false, reduceIte, Nat.reduceAdd, Nat.reduceSub, Nat.reduceBEq, pow_10_9, pow_10_20, pow_10_30, cpow_10_9, cpow_10_20, cpow_10_30, divP_lit, mulP_r, mulP_l, lne_line, lt_line, isi_int, isi_bool, Int.reduceLT, Int.reduceLE, Int.reduceGT, Int.reduceGE, Int.reduceNeg, Int.reduceMul, Int.reduceAdd, Int.reduceSub, Nat.reduceLeDiff, Nat.reduceLT, true_and, and_true, decide_true, decide_false, sga, wipeP, List.set_cons_zero, List.set_cons_succ, evSs_nil, List.lookup, Nat.reduceBEq, seq_str, seq_tup, seq_fl, Bool.true_and, Bool.and_true, Bool.false_and, Bool.and_false, beq_self_eq_true, l.o, bmT, tyP_d l.hs]
  intro p np
  have le := PLe.new (c := .dct false []) np
  have l' := l.ple le
  have sl := i.sl l
  simp only [bmV, l'.hs, toKey, stk_len]
  refine ⟨small1000 (by omega), ?_⟩
  have fin : ∀ (g : PH) (L1 : Led) (d : Addr), LedAt g a L1 → LedIn L1 S W → (m, d) ∈ L1.sk → (L1.p = L.p ∧ L1.s = L.s ∧ L1.pk = L.pk ∧ L1.pv = L.pv) → L1.sk.map (·.1) = ins (L.sk.map (·.1)) m → L1.wv = L.wv → (∀ t, L1.wk t = L.wk t) → Keeps L.ads h g → (∀ b ∈ L1.ads, b ∈ L.ads ∨ h b = none) →
      evSs sg C (.cons (.subSet (.var 7) (.var 3) (.bin .add (.bm .get (.var 7) (.cons (.var 3) (.cons (.int 0) .nil))) (.var 6))) .nil) [some (.loc a), x1, x2, some (.str w), x4, some (.str m), some (.int x), some (.loc d)] g D := by
    intro g L1 d l1 i1 hd e1 e2 e3 e4 kf ka
    have hdd : g d = some (.dct false (dOf (L1.wk m) (L1.wv m))) := l1.hd _ hd
    (try dsimp only); (try simp only [evS, evE, evEs, evO, evB, evBs, evI, List.map_cons, List.map_nil, List.replicate_succ, List.replicate_zero, List.cons_append, List.nil_append, List.getElem?_cons_zero, List.getElem?_cons_succ, List.set_cons_zero, List.set_cons_succ, bv_add, bv_sub, bv_mul, bv_div, bv_mod, bv_pow, bv_str, av_add, av_sub, cv_lt, cv_le, cv_gt, cv_ge, cv_eq, cv_ne, cv_eqS, cv_neS, tv_bl, tv_int, List.length_cons, List.length_nil, pad, setT_nm, setT_tup, setTs_nil, setTs_cons, decide_eq_true_eq, Bool.not_eq_true', Bool.not_true, Bool.not_false, if_true, if_false, Bool.false_eq_true, Bool.true_eq_false, reduceIte, Nat.reduceAdd, Nat.reduceSub, Nat.reduceBEq, pow_10_9, pow_10_20, pow_10_30, cpow_10_9, cpow_10_20, cpow_10_30, divP_lit, mulP_r, mulP_l, lne_line, lt_line, isi_int, isi_bool, Int.reduceLT, Int.reduceLE, Int.reduceGT, Int.reduceGE, Int.reduceNeg, Int.reduceMul, Int.reduceAdd, Int.reduceSub, Nat.reduceLeDiff, Nat.reduceLT, true_and, and_true, decide_true, decide_false, sga, wipeP, List.set_cons_zero, List.set_cons_succ, evSs_nil, List.lookup, Nat.reduceBEq, seq_str, seq_tup, seq_fl, Bool.true_and, Bool.and_true, Bool.false_and, Bool.and_false, beq_self_eq_true]); rw [evSs_cons]; simp only [evS, evE, evEs, evO, evB, evBs, evI, List.map_cons, List.map_nil, List.replicate_succ, List.replicate_zero, List.cons_append, List.nil_append, List.getElem?_cons_zero, List.getElem?_cons_succ, List.set_cons_zero, List.set_cons_succ, bv_add, bv_sub, bv_mul, bv_div, bv_mod, bv_pow, bv_str, av_add, av_sub, cv_lt, cv_le, cv_gt, cv_ge, cv_eq, cv_ne, cv_eqS, cv_neS, tv_bl, tv_int, List.length_cons, List.length_nil, pad, setT_nm, setT_tup, setTs_nil, setTs_cons, decide_eq_true_eq, Bool.not_eq_true', Bool.not_true, Bool.not_false, if_true, if_false, Bool.false_eq_true, Bool.true_eq_false, reduceIte, Nat.reduceAdd, Nat.reduceSub, Nat.reduceBEq, pow_10_9, pow_10_20, pow_10_30, cpow_10_9, cpow_10_20, cpow_10_30, divP_lit, mulP_r, mulP_l, lne_line, lt_line, isi_int, isi_bool, Int.reduceLT, Int.reduceLE, Int.reduceGT, Int.reduceGE, Int.reduceNeg, Int.reduceMul, Int.reduceAdd, Int.reduceSub, Nat.reduceLeDiff, Nat.reduceLT, true_and, and_true, decide_true, decide_false, sga, wipeP, List.set_cons_zero, List.set_cons_succ, evSs_nil, List.lookup, Nat.reduceBEq, seq_str, seq_tup, seq_fl, Bool.true_and, Bool.and_true, Bool.false_and, Bool.and_false, beq_self_eq_true, bmT, tyP_d hdd]
    rw [bm_get hdd (l1.wz m w)]
    simp only [evS, evE, evEs, evO, evB, evBs, evI, List.map_cons, List.map_nil, List.replicate_succ, List.replicate_zero, List.cons_append, List.nil_append, List.getElem?_cons_zero, List.getElem?_cons_succ, List.set_cons_zero, List.set_cons_succ, bv_add, bv_sub, bv_mul, bv_div, bv_mod, bv_pow, bv_str, av_add, av_sub, cv_lt, cv_le, cv_gt, cv_ge, cv_eq, cv_ne, cv_eqS, cv_neS, tv_bl, tv_int, List.length_cons, List.length_nil, pad, setT_nm, setT_tup, setTs_nil, setTs_cons, decide_eq_true_eq, Bool.not_eq_true', Bool.not_true, Bool.not_false, if_true, if_false, Bool.false_eq_true, Bool.true_eq_false, reduceIte, Nat.reduceAdd, Nat.reduceSub, Nat.reduceBEq, pow_10_9, pow_10_20, pow_10_30, cpow_10_9, cpow_10_20, cpow_10_30, divP_lit, mulP_r, mulP_l, lne_line, lt_line, isi_int, isi_bool, Int.reduceLT, Int.reduceLE, Int.reduceGT, Int.reduceGE, Int.reduceNeg, Int.reduceMul, Int.reduceAdd, Int.reduceSub, Nat.reduceLeDiff, Nat.reduceLT, true_and, and_true, decide_true, decide_false, sga, wipeP, List.set_cons_zero, List.set_cons_succ, evSs_nil, List.lookup, Nat.reduceBEq, seq_str, seq_tup, seq_fl, Bool.true_and, Bool.and_true, Bool.false_and, Bool.and_false, beq_self_eq_true]
    have wl := i1.wl l1 m
    rw [setV_dct hdd rfl (by rw [dOf_len]; exact small1000 (by omega))]
    have l2 := l1.ware hd (w := w) (L1.wv m w + x)
    refine q _ _ _ l2 ⟨i1.p, i1.s, fun t u hu => ?_, i1.n, i1.m⟩ ⟨e1, e2, fun t u => ?_, fun t u hu => ?_, fun b c nb e => ?_, fun b hb => ka b hb⟩
    · have hu : u ∈ (if t = m then ins (L1.wk m) w else L1.wk t) := hu
      split at hu
      · rcases ins_mem.mp hu with z | z
        · exact i1.w m u z
        · rw [z]; exact hw
      · exact i1.w t u hu
    · show (if t = m then up (L1.wv m) w (L1.wv m w + x) else L1.wv t) u = _
      rw [e3]
      by_cases h1 : t = m
      · subst h1
        rw [if_pos rfl]
        unfold up
        by_cases h2 : u = w
        · subst h2; rw [if_pos rfl, if_pos ⟨rfl, rfl⟩]
        · rw [if_neg h2, if_neg (fun z => h2 z.2), Int.add_zero]
      · rw [if_neg h1, if_neg (fun z => h1 z.1), Int.add_zero]
    · have hu : u ∈ (if t = m then ins (L1.wk m) w else L1.wk t) := hu
      split at hu
      · rename_i h1
        rw [h1]
        rcases ins_mem.mp hu with z | z
        · exact .inl (by rw [← e4]; exact z)
        · exact .inr z
      · exact .inl (by rw [← e4]; exact hu)
    · by_cases hbd : b = d
      · subst hbd
        rcases ka b (by simp only [Led.ads, List.mem_cons, List.mem_map]; exact .inr (.inr ⟨_, hd, rfl⟩)) with z | z
        · exact absurd z nb
        · rw [z] at e; cases e
      · rw [pup_ne hbd]
        exact kf b c nb e
  by_cases hk : m ∈ L.sk.map (·.1)
  · obtain ⟨d, hd⟩ := mem_key hk
    rw [stk_val l.nk hd]
    exact fin _ L d l' i hd ⟨rfl, rfl, rfl, rfl⟩ (by unfold ins; rw [if_pos hk]) rfl (fun _ => rfl) (fun b c _ e => le _ _ e) (fun b hb => .inl hb)
  · rw [stk_no hk]
    have l1 := l.fresh hk np
    refine fin _ _ p l1 ⟨i.p, fun t ht => ?_, i.w, i.n, i.m⟩ (by simp) ⟨rfl, rfl, rfl, rfl⟩ ?_ rfl (fun _ => rfl) (fun b c nb e => ?_) (fun b hb => ?_)
    · have ht : t ∈ (L.sk ++ [(m, p)]).map (·.1) := ht
      rw [List.map_append, List.mem_append] at ht
      rcases ht with z | z
      · exact i.s t z
      · simp only [List.map_cons, List.map_nil, List.mem_cons, List.mem_nil_iff, or_false] at z
        rw [z]; exact hm
    · show (L.sk ++ [(m, p)]).map (·.1) = _
      unfold ins
      rw [if_neg hk, List.map_append]
      rfl
    · have nb' : b ≠ L.s := fun z => nb (by rw [z]; simp [Led.ads])
      rw [pup_ne nb']
      exact le _ _ e
    · have hb : b ∈ L.p :: L.s :: (L.sk ++ [(m, p)]).map (·.2) := hb
      rw [List.map_append] at hb
      simp only [List.mem_cons, List.mem_append, List.map_cons, List.map_nil, List.mem_nil_iff, or_false] at hb
      rcases hb with z | z | z | z
      · exact .inl (by rw [z]; simp [Led.ads])
      · exact .inl (by rw [z]; simp [Led.ads])
      · exact .inl (by simp only [Led.ads, List.mem_cons]; exact .inr (.inr z))
      · exact .inr (by rw [z]; exact np)
/-- a ware goes from one to another -/
structure Handed (h h' : PH) (L L' : Led) (g t w : Str) (x : Int) : Prop where
  p : L'.p = L.p ∧ L'.s = L.s ∧ L'.pk = L.pk ∧ L'.pv = L.pv
  k : L'.sk.map (·.1) = ins (ins (L.sk.map (·.1)) g) t
  v : ∀ m u, L'.wv m u = L.wv m u - (if m = g ∧ u = w then x else 0) + if m = t ∧ u = w then x else 0
  w : ∀ m u, u ∈ L'.wk m → u ∈ L.wk m ∨ u = w
  f : Keeps L.ads h h'
  a : ∀ b ∈ L'.ads, b ∈ L.ads ∨ h b = none
theorem hand_sp {a : Addr} {L : Led} {S W : List Str} {g t w : Str} {x : Int} (l : LedAt h a L) (i : LedIn L S W) (hg : g ∈ S) (ht : t ∈ S) (hw : w ∈ W) (q : ∀ h' L', LedAt h' a L' → LedIn L' S W → Handed h h' L L' g t w x → Q .non h') :
    sem sg (n + 2) 2 [.loc a, .str g, .str t, .str w, .int x] h Q X := by
  refine ⟨⟨5, 8, b2, []⟩, rfl, rfl, ?_⟩
  rw [b2]
  (try dsimp only); (try simp only [evS, evE, evEs, evO, evB, evBs, evI, List.map_cons, List.map_nil, List.replicate_succ, List.replicate_zero, List.cons_append, List.nil_append, List.getElem?_cons_zero, List.getElem?_cons_succ, List.set_cons_zero, List.set_cons_succ, bv_add, bv_sub, bv_mul, bv_div, bv_mod, bv_pow, bv_str, av_add, av_sub, cv_lt, cv_le, cv_gt, cv_ge, cv_eq, cv_ne, cv_eqS, cv_neS, tv_bl, tv_int, List.length_cons, List.length_nil, pad, setT_nm, setT_tup, setTs_nil, setTs_cons, decide_eq_true_eq, Bool.not_eq_true', Bool.not_true, Bool.not_false, if_true, if_false, Bool.false_eq_true, Bool.true_eq_false, reduceIte, Nat.reduceAdd, Nat.reduceSub, Nat.reduceBEq, pow_10_9, pow_10_20, pow_10_30, cpow_10_9, cpow_10_20, cpow_10_30, divP_lit, mulP_r, mulP_l, lne_line, lt_line, isi_int, isi_bool, Int.reduceLT, Int.reduceLE, Int.reduceGT, Int.reduceGE, Int.reduceNeg, Int.reduceMul, Int.reduceAdd, Int.reduceSub, Nat.reduceLeDiff, Nat.reduceLT, true_and, and_true, decide_true, decide_false, sga, wipeP, List.set_cons_zero, List.set_cons_succ, evSs_nil, List.lookup, Nat.reduceBEq, seq_str, seq_tup, seq_fl, Bool.true_and, Bool.and_true, Bool.false_and, Bool.and_false, beq_self_eq_true]); rw [evSs_cons]; simp only [evS, evE, evEs, evO, evB, evBs, evI, List.map_cons, List.map_nil, List.replicate_succ, List.replicate_zero, List.cons_append, List.nil_append, List.getElem?_cons_zero, List.getElem?_cons_succ, List.set_cons_zero, List.set_cons_succ, bv_add, bv_sub, bv_mul, bv_div, bv_mod, bv_pow, bv_str, av_add, av_sub, cv_lt, cv_le, cv_gt, cv_ge, cv_eq, cv_ne, cv_eqS, cv_neS, tv_bl, tv_int, List.length_cons, List.length_nil, pad, setT_nm, setT_tup, setTs_nil, setTs_cons, decide_eq_true_eq, Bool.not_eq_true', Bool.not_true, Bool.not_false, if_true, if_false, Bool.false_eq_true, Bool.true_eq_false, reduceIte, Nat.reduceAdd, Nat.reduceSub, Nat.reduceBEq, pow_10_9, pow_10_20, pow_10_30, cpow_10_9, cpow_10_20, cpow_10_30, divP_lit, mulP_r, mulP_l, lne_line, lt_line, isi_int, isi_bool, Int.reduceLT, Int.reduceLE, Int.reduceGT, Int.reduceGE, Int.reduceNeg, Int.reduceMul, Int.reduceAdd, Int.reduceSub, Nat.reduceLeDiff, Nat.reduceLT, true_and, and_true, decide_true, decide_false, sga, wipeP, List.set_cons_zero, List.set_cons_succ, evSs_nil, List.lookup, Nat.reduceBEq, seq_str, seq_tup, seq_fl, Bool.true_and, Bool.and_true, Bool.false_and, Bool.and_false, beq_self_eq_true]
  simp only [forGo, true_and, setT_tup, setTs_cons, setTs_nil, setT_nm, List.set_cons_zero, List.set_cons_succ]
  refine hand1 l i hg hw fun h1 L1 d l1 i1 H1 => ?_
  dsimp only
  refine hand1 l1 i1 ht hw fun h2 L2 d2 l2 i2 H2 => ?_
  refine ret_here (q _ _ l2 i2 ⟨⟨H2.p.1.trans H1.p.1, H2.p.2.1.trans H1.p.2.1, H2.p.2.2.1.trans H1.p.2.2.1, H2.p.2.2.2.trans H1.p.2.2.2⟩, by rw [H2.k, H1.k], fun m u => ?_, fun m u hu => ?_, fun b c nb e => ?_, fun b hb => ?_⟩)
  · rw [H2.v, H1.v]
    split <;> split <;> omega
  · rcases H2.w m u hu with z | z
    · exact H1.w m u z
    · exact .inr z
  · refine H2.f b c (fun z => ?_) (H1.f b c nb e)
    rcases H1.a b z with y | y
    · exact nb y
    · rw [y] at e; cases e
  · rcases H2.a b hb with z | z
    · exact H1.a b z
    · by_cases hb1 : b ∈ L.ads
      · exact .inl hb1
      · refine .inr ?_
        cases e : h b with
        | none => rfl
        | some c => rw [H1.f b c hb1 e] at z; cases z
theorem fresh_ne {a : Addr} {L : Led} (l : LedAt h a L) {p : Addr} (np : h p = none) : ∀ b ∈ a :: L.ads, b ≠ p := fun b hb z => l.there b hb (by rw [z]; exact np)
/-- a new ledger -/
def led0 (p s : Addr) : Led := ⟨p, s, [], fun _ => 0, [], fun _ => [], fun _ _ => 0⟩
theorem newLed_sp {a : Addr} (ha : h a = some (.ins 0 [])) (q : ∀ p s h', LedAt h' a (led0 p s) → (∀ b, b ≠ a → b ≠ p → b ≠ s → h' b = h b) → h p = none → h s = none → Q .non h') : sem sg (n + 1) 0 [.loc a] h Q X := by
  refine ⟨⟨1, 1, b0, []⟩, rfl, rfl, ?_⟩
  rw [b0]
  (try dsimp only); (try simp only [evS, evE, evEs, evO, evB, evBs, evI, List.map_cons, List.map_nil, List.replicate_succ, List.replicate_zero, List.cons_append, List.nil_append, List.getElem?_cons_zero, List.getElem?_cons_succ, List.set_cons_zero, List.set_cons_succ, bv_add, bv_sub, bv_mul, bv_div, bv_mod, bv_pow, bv_str, av_add, av_sub, cv_lt, cv_le, cv_gt, cv_ge, cv_eq, cv_ne, cv_eqS, cv_neS, tv_bl, tv_int, List.length_cons, List.length_nil, pad, setT_nm, setT_tup, setTs_nil, setTs_cons, decide_eq_true_eq, Bool.not_eq_true', Bool.not_true, Bool.not_false, if_true, if_false, Bool.false_eq_true, Bool.true_eq_false, reduceIte, Nat.reduceAdd, Nat.reduceSub, Nat.reduceBEq, pow_10_9, pow_10_20, pow_10_30, cpow_10_9, cpow_10_20, cpow_10_30, divP_lit, mulP_r, mulP_l, lne_line, lt_line, isi_int, isi_bool, Int.reduceLT, Int.reduceLE, Int.reduceGT, Int.reduceGE, Int.reduceNeg, Int.reduceMul, Int.reduceAdd, Int.reduceSub, Nat.reduceLeDiff, Nat.reduceLT, true_and, and_true, decide_true, decide_false, sga, wipeP, List.set_cons_zero, List.set_cons_succ, evSs_nil, List.lookup, Nat.reduceBEq, seq_str, seq_tup, seq_fl, Bool.true_and, Bool.and_true, Bool.false_and, Bool.and_false, beq_self_eq_true]); rw [evSs_cons]; simp only [evS, evE, evEs, evO, evB, evBs, evI, List.map_cons, List.map_nil, List.replicate_succ, List.replicate_zero, List.cons_append, List.nil_append, List.getElem?_cons_zero, List.getElem?_cons_succ, List.set_cons_zero, List.set_cons_succ, bv_add, bv_sub, bv_mul, bv_div, bv_mod, bv_pow, bv_str, av_add, av_sub, cv_lt, cv_le, cv_gt, cv_ge, cv_eq, cv_ne, cv_eqS, cv_neS, tv_bl, tv_int, List.length_cons, List.length_nil, pad, setT_nm, setT_tup, setTs_nil, setTs_cons, decide_eq_true_eq, Bool.not_eq_true', Bool.not_true, Bool.not_false, if_true, if_false, Bool.false_eq_true, Bool.true_eq_false, reduceIte, Nat.reduceAdd, Nat.reduceSub, Nat.reduceBEq, pow_10_9, pow_10_20, pow_10_30, cpow_10_9, cpow_10_20, cpow_10_30, divP_lit, mulP_r, mulP_l, lne_line, lt_line, isi_int, isi_bool, Int.reduceLT, Int.reduceLE, Int.reduceGT, Int.reduceGE, Int.reduceNeg, Int.reduceMul, Int.reduceAdd, Int.reduceSub, Nat.reduceLeDiff, Nat.reduceLT, true_and, and_true, decide_true, decide_false, sga, wipeP, List.set_cons_zero, List.set_cons_succ, evSs_nil, List.lookup, Nat.reduceBEq, seq_str, seq_tup, seq_fl, Bool.true_and, Bool.and_true, Bool.false_and, Bool.and_false, beq_self_eq_true]
  intro p np
  have nap : a ≠ p := fun z => by subst z; rw [ha] at np; cases np
  simp only [evS, evE, evEs, evO, evB, evBs, evI, List.map_cons, List.map_nil, List.replicate_succ, List.replicate_zero, List.cons_append, List.nil_append, List.getElem?_cons_zero, List.getElem?_cons_succ, List.set_cons_zero, List.set_cons_succ, bv_add, bv_sub, bv_mul, bv_div, bv_mod, bv_pow, bv_str, av_add, av_sub, cv_lt, cv_le, cv_gt, cv_ge, cv_eq, cv_ne, cv_eqS, cv_neS, tv_bl, tv_int, List.length_cons, List.length_nil, pad, setT_nm, setT_tup, setTs_nil, setTs_cons, decide_eq_true_eq, Bool.not_eq_true', Bool.not_true, Bool.not_false, if_true, if_false, Bool.false_eq_true, Bool.true_eq_false, reduceIte, Nat.reduceAdd, Nat.reduceSub, Nat.reduceBEq, pow_10_9, pow_10_20, pow_10_30, cpow_10_9, cpow_10_20, cpow_10_30, divP_lit, mulP_r, mulP_l, lne_line, lt_line, isi_int, isi_bool, Int.reduceLT, Int.reduceLE, Int.reduceGT, Int.reduceGE, Int.reduceNeg, Int.reduceMul, Int.reduceAdd, Int.reduceSub, Nat.reduceLeDiff, Nat.reduceLT, true_and, and_true, decide_true, decide_false, sga, wipeP, List.set_cons_zero, List.set_cons_succ, evSs_nil, List.lookup, Nat.reduceBEq, seq_str, seq_tup, seq_fl, Bool.true_and, Bool.and_true, Bool.false_and, Bool.and_false, beq_self_eq_true, pup_ne nap, ha, putA]
  (try dsimp only); (try simp only [evS, evE, evEs, evO, evB, evBs, evI, List.map_cons, List.map_nil, List.replicate_succ, List.replicate_zero, List.cons_append, List.nil_append, List.getElem?_cons_zero, List.getElem?_cons_succ, List.set_cons_zero, List.set_cons_succ, bv_add, bv_sub, bv_mul, bv_div, bv_mod, bv_pow, bv_str, av_add, av_sub, cv_lt, cv_le, cv_gt, cv_ge, cv_eq, cv_ne, cv_eqS, cv_neS, tv_bl, tv_int, List.length_cons, List.length_nil, pad, setT_nm, setT_tup, setTs_nil, setTs_cons, decide_eq_true_eq, Bool.not_eq_true', Bool.not_true, Bool.not_false, if_true, if_false, Bool.false_eq_true, Bool.true_eq_false, reduceIte, Nat.reduceAdd, Nat.reduceSub, Nat.reduceBEq, pow_10_9, pow_10_20, pow_10_30, cpow_10_9, cpow_10_20, cpow_10_30, divP_lit, mulP_r, mulP_l, lne_line, lt_line, isi_int, isi_bool, Int.reduceLT, Int.reduceLE, Int.reduceGT, Int.reduceGE, Int.reduceNeg, Int.reduceMul, Int.reduceAdd, Int.reduceSub, Nat.reduceLeDiff, Nat.reduceLT, true_and, and_true, decide_true, decide_false, sga, wipeP, List.set_cons_zero, List.set_cons_succ, evSs_nil, List.lookup, Nat.reduceBEq, seq_str, seq_tup, seq_fl, Bool.true_and, Bool.and_true, Bool.false_and, Bool.and_false, beq_self_eq_true]); rw [evSs_cons]; simp only [evS, evE, evEs, evO, evB, evBs, evI, List.map_cons, List.map_nil, List.replicate_succ, List.replicate_zero, List.cons_append, List.nil_append, List.getElem?_cons_zero, List.getElem?_cons_succ, List.set_cons_zero, List.set_cons_succ, bv_add, bv_sub, bv_mul, bv_div, bv_mod, bv_pow, bv_str, av_add, av_sub, cv_lt, cv_le, cv_gt, cv_ge, cv_eq, cv_ne, cv_eqS, cv_neS, tv_bl, tv_int, List.length_cons, List.length_nil, pad, setT_nm, setT_tup, setTs_nil, setTs_cons, decide_eq_true_eq, Bool.not_eq_true', Bool.not_true, Bool.not_false, if_true, if_false, Bool.false_eq_true, Bool.true_eq_false, reduceIte, Nat.reduceAdd, Nat.reduceSub, Nat.reduceBEq, pow_10_9, pow_10_20, pow_10_30, cpow_10_9, cpow_10_20, cpow_10_30, divP_lit, mulP_r, mulP_l, lne_line, lt_line, isi_int, isi_bool, Int.reduceLT, Int.reduceLE, Int.reduceGT, Int.reduceGE, Int.reduceNeg, Int.reduceMul, Int.reduceAdd, Int.reduceSub, Nat.reduceLeDiff, Nat.reduceLT, true_and, and_true, decide_true, decide_false, sga, wipeP, List.set_cons_zero, List.set_cons_succ, evSs_nil, List.lookup, Nat.reduceBEq, seq_str, seq_tup, seq_fl, Bool.true_and, Bool.and_true, Bool.false_and, Bool.and_false, beq_self_eq_true]
  intro s ns
  obtain ⟨nsa, ns⟩ := new_new ns
  obtain ⟨nsp, ns⟩ := new_new ns
  simp only [evS, evE, evEs, evO, evB, evBs, evI, List.map_cons, List.map_nil, List.replicate_succ, List.replicate_zero, List.cons_append, List.nil_append, List.getElem?_cons_zero, List.getElem?_cons_succ, List.set_cons_zero, List.set_cons_succ, bv_add, bv_sub, bv_mul, bv_div, bv_mod, bv_pow, bv_str, av_add, av_sub, cv_lt, cv_le, cv_gt, cv_ge, cv_eq, cv_ne, cv_eqS, cv_neS, tv_bl, tv_int, List.length_cons, List.length_nil, pad, setT_nm, setT_tup, setTs_nil, setTs_cons, decide_eq_true_eq, Bool.not_eq_true', Bool.not_true, Bool.not_false, if_true, if_false, Bool.false_eq_true, Bool.true_eq_false, reduceIte, Nat.reduceAdd, Nat.reduceSub, Nat.reduceBEq, pow_10_9, pow_10_20, pow_10_30, cpow_10_9, cpow_10_20, cpow_10_30, divP_lit, mulP_r, mulP_l, lne_line, lt_line, isi_int, isi_bool, Int.reduceLT, Int.reduceLE, Int.reduceGT, Int.reduceGE, Int.reduceNeg, Int.reduceMul, Int.reduceAdd, Int.reduceSub, Nat.reduceLeDiff, Nat.reduceLT, true_and, and_true, decide_true, decide_false, sga, wipeP, List.set_cons_zero, List.set_cons_succ, evSs_nil, List.lookup, Nat.reduceBEq, seq_str, seq_tup, seq_fl, Bool.true_and, Bool.and_true, Bool.false_and, Bool.and_false, beq_self_eq_true, pup_ne nsa.symm, pup_same, putA, Nat.reduceEqDiff, if_false]
  refine ret_here (q p s _ ⟨pup_same, ?_, ?_, fun q hq => (by cases hq), ?_, .nil, fun _ _ => rfl, .nil, fun _ _ _ => rfl, fun _ => .nil, fun _ _ => rfl⟩ (fun b b1 b2 b3 => ?_) np ns)
  · show pup _ a _ p = _
    rw [pup_ne nap.symm, pup_ne nsp.symm, pup_ne nap.symm, pup_same]; rfl
  · show pup _ a _ s = _
    rw [pup_ne nsa, pup_same]; rfl
  · show [p, s].Nodup
    simp [nsp.symm]
  · rw [pup_ne b1, pup_ne b3, pup_ne b1, pup_ne b2]
/-- a dealing -/
structure Dealt (h h' : PH) (L L' : Led) (b s w : Str) (pr am : Int) : Prop where
  p : L'.p = L.p ∧ L'.s = L.s
  pk : L'.pk = ins (ins L.pk b) s
  pv : L'.pv = up (up L.pv b (L.pv b - pr * am)) s (up L.pv b (L.pv b - pr * am) s + pr * am)
  k : L'.sk.map (·.1) = ins (ins (L.sk.map (·.1)) s) b
  v : ∀ m u, L'.wv m u = L.wv m u - (if m = s ∧ u = w then am else 0) + if m = b ∧ u = w then am else 0
  w : ∀ m u, u ∈ L'.wk m → u ∈ L.wk m ∨ u = w
  f : Keeps L.ads h h'
  a : ∀ b ∈ L'.ads, b ∈ L.ads ∨ h b = none
theorem pay_in {L : Led} {S W : List Str} {g t : Str} {c : Int} (i : LedIn L S W) (hg : g ∈ S) (ht : t ∈ S) : LedIn (L.pay g t c) S W :=
  ⟨fun m hm => by
    rcases ins_mem.mp hm with z | z
    · rcases ins_mem.mp z with y | y
      · exact i.p m y
      · rw [y]; exact hg
    · rw [z]; exact ht, i.s, i.w, i.n, i.m⟩
theorem dealt_sp {a : Addr} {L : Led} {S W : List Str} {b s w : Str} {pr am : Int} (l : LedAt h a L) (i : LedIn L S W) (hb : b ∈ S) (hs : s ∈ S) (hw : w ∈ W) (hp : -18446744073709551616 < pr ∧ pr < 18446744073709551616)
    (q : ∀ h' L', LedAt h' a L' → LedIn L' S W → Dealt h h' L L' b s w pr am → Q .non h') : sem sg (n + 3) 3 [.loc a, .str b, .str s, .str w, .int pr, .int am] h Q X := by
  refine ⟨⟨6, 6, b3, []⟩, rfl, rfl, ?_⟩
  rw [b3]
  (try dsimp only); (try simp only [evS, evE, evEs, evO, evB, evBs, evI, List.map_cons, List.map_nil, List.replicate_succ, List.replicate_zero, List.cons_append, List.nil_append, List.getElem?_cons_zero, List.getElem?_cons_succ, List.set_cons_zero, List.set_cons_succ, bv_add, bv_sub, bv_mul, bv_div, bv_mod, bv_pow, bv_str, av_add, av_sub, cv_lt, cv_le, cv_gt, cv_ge, cv_eq, cv_ne, cv_eqS, cv_neS, tv_bl, tv_int, List.length_cons, List.length_nil, pad, setT_nm, setT_tup, setTs_nil, setTs_cons, decide_eq_true_eq, Bool.not_eq_true', Bool.not_true, Bool.not_false, if_true, if_false, Bool.false_eq_true, Bool.true_eq_false, reduceIte, Nat.reduceAdd, Nat.reduceSub, Nat.reduceBEq, pow_10_9, pow_10_20, pow_10_30, cpow_10_9, cpow_10_20, cpow_10_30, divP_lit, mulP_r, mulP_l, lne_line, lt_line, isi_int, isi_bool, Int.reduceLT, Int.reduceLE, Int.reduceGT, Int.reduceGE, Int.reduceNeg, Int.reduceMul, Int.reduceAdd, Int.reduceSub, Nat.reduceLeDiff, Nat.reduceLT, true_and, and_true, decide_true, decide_false, sga, wipeP, List.set_cons_zero, List.set_cons_succ, evSs_nil, List.lookup, Nat.reduceBEq, seq_str, seq_tup, seq_fl, Bool.true_and, Bool.and_true, Bool.false_and, Bool.and_false, beq_self_eq_true]); rw [evSs_cons]; simp only [evS, evE, evEs, evO, evB, evBs, evI, List.map_cons, List.map_nil, List.replicate_succ, List.replicate_zero, List.cons_append, List.nil_append, List.getElem?_cons_zero, List.getElem?_cons_succ, List.set_cons_zero, List.set_cons_succ, bv_add, bv_sub, bv_mul, bv_div, bv_mod, bv_pow, bv_str, av_add, av_sub, cv_lt, cv_le, cv_gt, cv_ge, cv_eq, cv_ne, cv_eqS, cv_neS, tv_bl, tv_int, List.length_cons, List.length_nil, pad, setT_nm, setT_tup, setTs_nil, setTs_cons, decide_eq_true_eq, Bool.not_eq_true', Bool.not_true, Bool.not_false, if_true, if_false, Bool.false_eq_true, Bool.true_eq_false, reduceIte, Nat.reduceAdd, Nat.reduceSub, Nat.reduceBEq, pow_10_9, pow_10_20, pow_10_30, cpow_10_9, cpow_10_20, cpow_10_30, divP_lit, mulP_r, mulP_l, lne_line, lt_line, isi_int, isi_bool, Int.reduceLT, Int.reduceLE, Int.reduceGT, Int.reduceGE, Int.reduceNeg, Int.reduceMul, Int.reduceAdd, Int.reduceSub, Nat.reduceLeDiff, Nat.reduceLT, true_and, and_true, decide_true, decide_false, sga, wipeP, List.set_cons_zero, List.set_cons_succ, evSs_nil, List.lookup, Nat.reduceBEq, seq_str, seq_tup, seq_fl, Bool.true_and, Bool.and_true, Bool.false_and, Bool.and_false, beq_self_eq_true, l.o]
  refine hand_sp l i hs hb hw fun h1 L1 l1 i1 H1 => ?_
  (try dsimp only); (try simp only [evS, evE, evEs, evO, evB, evBs, evI, List.map_cons, List.map_nil, List.replicate_succ, List.replicate_zero, List.cons_append, List.nil_append, List.getElem?_cons_zero, List.getElem?_cons_succ, List.set_cons_zero, List.set_cons_succ, bv_add, bv_sub, bv_mul, bv_div, bv_mod, bv_pow, bv_str, av_add, av_sub, cv_lt, cv_le, cv_gt, cv_ge, cv_eq, cv_ne, cv_eqS, cv_neS, tv_bl, tv_int, List.length_cons, List.length_nil, pad, setT_nm, setT_tup, setTs_nil, setTs_cons, decide_eq_true_eq, Bool.not_eq_true', Bool.not_true, Bool.not_false, if_true, if_false, Bool.false_eq_true, Bool.true_eq_false, reduceIte, Nat.reduceAdd, Nat.reduceSub, Nat.reduceBEq, pow_10_9, pow_10_20, pow_10_30, cpow_10_9, cpow_10_20, cpow_10_30, divP_lit, mulP_r, mulP_l, lne_line, lt_line, isi_int, isi_bool, Int.reduceLT, Int.reduceLE, Int.reduceGT, Int.reduceGE, Int.reduceNeg, Int.reduceMul, Int.reduceAdd, Int.reduceSub, Nat.reduceLeDiff, Nat.reduceLT, true_and, and_true, decide_true, decide_false, sga, wipeP, List.set_cons_zero, List.set_cons_succ, evSs_nil, List.lookup, Nat.reduceBEq, seq_str, seq_tup, seq_fl, Bool.true_and, Bool.and_true, Bool.false_and, Bool.and_false, beq_self_eq_true]); rw [evSs_cons]; simp only [evS, evE, evEs, evO, evB, evBs, evI, List.map_cons, List.map_nil, List.replicate_succ, List.replicate_zero, List.cons_append, List.nil_append, List.getElem?_cons_zero, List.getElem?_cons_succ, List.set_cons_zero, List.set_cons_succ, bv_add, bv_sub, bv_mul, bv_div, bv_mod, bv_pow, bv_str, av_add, av_sub, cv_lt, cv_le, cv_gt, cv_ge, cv_eq, cv_ne, cv_eqS, cv_neS, tv_bl, tv_int, List.length_cons, List.length_nil, pad, setT_nm, setT_tup, setTs_nil, setTs_cons, decide_eq_true_eq, Bool.not_eq_true', Bool.not_true, Bool.not_false, if_true, if_false, Bool.false_eq_true, Bool.true_eq_false, reduceIte, Nat.reduceAdd, Nat.reduceSub, Nat.reduceBEq, pow_10_9, pow_10_20, pow_10_30, cpow_10_9, cpow_10_20, cpow_10_30, divP_lit, mulP_r, mulP_l, lne_line, lt_line, isi_int, isi_bool, Int.reduceLT, Int.reduceLE, Int.reduceGT, Int.reduceGE, Int.reduceNeg, Int.reduceMul, Int.reduceAdd, Int.reduceSub, Nat.reduceLeDiff, Nat.reduceLT, true_and, and_true, decide_true, decide_false, sga, wipeP, List.set_cons_zero, List.set_cons_succ, evSs_nil, List.lookup, Nat.reduceBEq, seq_str, seq_tup, seq_fl, Bool.true_and, Bool.and_true, Bool.false_and, Bool.and_false, beq_self_eq_true, l1.o, mulP_l hp.1 hp.2]
  refine pay_sp l1 i1 fun h2 l2 k2 => ?_
  refine ret_here (q _ _ l2 (pay_in i1 hb hs) ⟨⟨H1.p.1, H1.p.2.1⟩, ?_, ?_, H1.k, H1.v, H1.w, fun p c np e => ?_, H1.a⟩)
  · show ins (ins L1.pk b) s = _
    rw [H1.p.2.2.1]
  · show up (up L1.pv b (L1.pv b - pr * am)) s (up L1.pv b (L1.pv b - pr * am) s + pr * am) = _
    rw [H1.p.2.2.2]
  · refine k2 p c (fun z => ?_) (H1.f p c np e)
    rcases H1.a p z with y | y
    · exact np y
    · rw [y] at e; cases e
/-- the wares of a member, in order -/
theorem wares_sp {a : Addr} {L : Led} {S W : List Str} {m : Str} (l : LedAt h a L) (i : LedIn L S W) (hW : W.length ≤ 60) (q : ∀ ys p, ys.Perm ((L.wk m).filter fun w => !(L.wv m w == 0)) → sortedS ys = true → h p = none → Q (.loc p) (pup h p (.lst (ys.map .str)))) :
    sem sg (n + 1) 7 [.loc a, .str m] h Q X := by
  refine ⟨⟨2, 4, b7, []⟩, rfl, rfl, ?_⟩
  rw [b7]
  (try dsimp only); (try simp only [evS, evE, evEs, evO, evB, evBs, evI, List.map_cons, List.map_nil, List.replicate_succ, List.replicate_zero, List.cons_append, List.nil_append, List.getElem?_cons_zero, List.getElem?_cons_succ, List.set_cons_zero, List.set_cons_succ, bv_add, bv_sub, bv_mul, bv_div, bv_mod, bv_pow, bv_str, av_add, av_sub, cv_lt, cv_le, cv_gt, cv_ge, cv_eq, cv_ne, cv_eqS, cv_neS, tv_bl, tv_int, List.length_cons, List.length_nil, pad, setT_nm, setT_tup, setTs_nil, setTs_cons, decide_eq_true_eq, Bool.not_eq_true', Bool.not_true, Bool.not_false, if_true, if_false, Bool.false_eq_true, Bool.true_eq_false, reduceIte, Nat.reduceAdd, Nat.reduceSub, Nat.reduceBEq, pow_10_9, pow_10_20, pow_10_30, cpow_10_9, cpow_10_20, cpow_10_30, divP_lit, mulP_r, mulP_l, lne_line, lt_line, isi_int, isi_bool, Int.reduceLT, Int.reduceLE, Int.reduceGT, Int.reduceGE, Int.reduceNeg, Int.reduceMul, Int.reduceAdd, Int.reduceSub, Nat.reduceLeDiff, Nat.reduceLT, true_and, and_true, decide_true, decide_false, sga, wipeP, List.set_cons_zero, List.set_cons_succ, evSs_nil, List.lookup, Nat.reduceBEq, seq_str, seq_tup, seq_fl, Bool.true_and, Bool.and_true, Bool.false_and, Bool.and_false, beq_self_eq_true]); rw [evSs_cons]; simp only [evS, evE, evEs, evO, evB, evBs, evI, List.map_cons, List.map_nil, List.replicate_succ, List.replicate_zero, List.cons_append, List.nil_append, List.getElem?_cons_zero, List.getElem?_cons_succ, List.set_cons_zero, List.set_cons_succ, bv_add, bv_sub, bv_mul, bv_div, bv_mod, bv_pow, bv_str, av_add, av_sub, cv_lt, cv_le, cv_gt, cv_ge, cv_eq, cv_ne, cv_eqS, cv_neS, tv_bl, tv_int, List.length_cons, List.length_nil, pad, setT_nm, setT_tup, setTs_nil, setTs_cons, decide_eq_true_eq, Bool.not_eq_true', Bool.not_true, Bool.not_false, if_true, if_false, Bool.false_eq_true, Bool.true_eq_false, reduceIte, Nat.reduceAdd, Nat.reduceSub, Nat.reduceBEq, pow_10_9, pow_10_20, pow_10_30, cpow_10_9, cpow_10_20, cpow_10_30, divP_lit, mulP_r, mulP_l, lne_line, lt_line, isi_int, isi_bool, Int.reduceLT, Int.reduceLE, Int.reduceGT, Int.reduceGE, Int.reduceNeg, Int.reduceMul, Int.reduceAdd, Int.reduceSub, Nat.reduceLeDiff, Nat.reduceLT, true_and, and_true, decide_true, decide_false, sga, wipeP, List.set_cons_zero, List.set_cons_succ, evSs_nil, List.lookup, Nat.reduceBEq, seq_str, seq_tup, seq_fl, Bool.true_and, Bool.and_true, Bool.false_and, Bool.and_false, beq_self_eq_true, l.o, bmT, tyP_d l.hs]
  intro p np
  have le := PLe.new (c := .dct false []) np
  have l' := l.ple le
  simp only [bmV, l'.hs, toKey]
  have wl : (L.wk m).length ≤ 60 := Nat.le_trans (sub_len (l.wn m) (i.w m)) hW
  have fin : ∀ d, pup h p (.dct false []) d = some (.dct false (dOf (L.wk m) (L.wv m))) → evSs sg (sem sg n) (.cons (.ret (.blt .sorted (.cons (.compD (.var 3) (.nm 3) (.var 2) (.one (.val (.cmp .ne (.sub (.var 2) (.var 3)) (.int 0)))) [("ware", 3)]) .nil))) .nil) [some (.loc a), some (.str m), some (.loc d), none] (pup h p (.dct false [])) (retD Q X) := by
    intro d hd
    rw [evSs_cons]
    unfold evS evE
    unfold evEs
    refine compD_filter (ks := L.wk m) (v := L.wv m) (fun w => !(L.wv m w == 0)) (fun w => .str w) (fun w => [some (.loc a), some (.str m), some (.loc d), some (.str w)]) rfl hd (small_line (by omega)) (fun s T _ q => q) (fun s acc P N hs ne nx => ?_) (fun s acc P N hs ne _ nx => ?_) fun P nP => ?_
    · simp only [evS, evE, evEs, evO, evB, evBs, evI, List.map_cons, List.map_nil, List.replicate_succ, List.replicate_zero, List.cons_append, List.nil_append, List.getElem?_cons_zero, List.getElem?_cons_succ, List.set_cons_zero, List.set_cons_succ, bv_add, bv_sub, bv_mul, bv_div, bv_mod, bv_pow, bv_str, av_add, av_sub, cv_lt, cv_le, cv_gt, cv_ge, cv_eq, cv_ne, cv_eqS, cv_neS, tv_bl, tv_int, List.length_cons, List.length_nil, pad, setT_nm, setT_tup, setTs_nil, setTs_cons, decide_eq_true_eq, Bool.not_eq_true', Bool.not_true, Bool.not_false, if_true, if_false, Bool.false_eq_true, Bool.true_eq_false, reduceIte, Nat.reduceAdd, Nat.reduceSub, Nat.reduceBEq, pow_10_9, pow_10_20, pow_10_30, cpow_10_9, cpow_10_20, cpow_10_30, divP_lit, mulP_r, mulP_l, lne_line, lt_line, isi_int, isi_bool, Int.reduceLT, Int.reduceLE, Int.reduceGT, Int.reduceGE, Int.reduceNeg, Int.reduceMul, Int.reduceAdd, Int.reduceSub, Nat.reduceLeDiff, Nat.reduceLT, true_and, and_true, decide_true, decide_false, sga, wipeP, List.set_cons_zero, List.set_cons_succ, evSs_nil, List.lookup, Nat.reduceBEq, seq_str, seq_tup, seq_fl, Bool.true_and, Bool.and_true, Bool.false_and, Bool.and_false, beq_self_eq_true]
      rw [sv_dct (by rw [pup_ne ne.symm, pup_same]) rfl (dOf_val hs)]
      simp only [evS, evE, evEs, evO, evB, evBs, evI, List.map_cons, List.map_nil, List.replicate_succ, List.replicate_zero, List.cons_append, List.nil_append, List.getElem?_cons_zero, List.getElem?_cons_succ, List.set_cons_zero, List.set_cons_succ, bv_add, bv_sub, bv_mul, bv_div, bv_mod, bv_pow, bv_str, av_add, av_sub, cv_lt, cv_le, cv_gt, cv_ge, cv_eq, cv_ne, cv_eqS, cv_neS, tv_bl, tv_int, List.length_cons, List.length_nil, pad, setT_nm, setT_tup, setTs_nil, setTs_cons, decide_eq_true_eq, Bool.not_eq_true', Bool.not_true, Bool.not_false, if_true, if_false, Bool.false_eq_true, Bool.true_eq_false, reduceIte, Nat.reduceAdd, Nat.reduceSub, Nat.reduceBEq, pow_10_9, pow_10_20, pow_10_30, cpow_10_9, cpow_10_20, cpow_10_30, divP_lit, mulP_r, mulP_l, lne_line, lt_line, isi_int, isi_bool, Int.reduceLT, Int.reduceLE, Int.reduceGT, Int.reduceGE, Int.reduceNeg, Int.reduceMul, Int.reduceAdd, Int.reduceSub, Nat.reduceLeDiff, Nat.reduceLT, true_and, and_true, decide_true, decide_false, sga, wipeP, List.set_cons_zero, List.set_cons_succ, evSs_nil, List.lookup, Nat.reduceBEq, seq_str, seq_tup, seq_fl, Bool.true_and, Bool.and_true, Bool.false_and, Bool.and_false, beq_self_eq_true]
      exact nx
    · simp only [evS, evE, evEs, evO, evB, evBs, evI, List.map_cons, List.map_nil, List.replicate_succ, List.replicate_zero, List.cons_append, List.nil_append, List.getElem?_cons_zero, List.getElem?_cons_succ, List.set_cons_zero, List.set_cons_succ, bv_add, bv_sub, bv_mul, bv_div, bv_mod, bv_pow, bv_str, av_add, av_sub, cv_lt, cv_le, cv_gt, cv_ge, cv_eq, cv_ne, cv_eqS, cv_neS, tv_bl, tv_int, List.length_cons, List.length_nil, pad, setT_nm, setT_tup, setTs_nil, setTs_cons, decide_eq_true_eq, Bool.not_eq_true', Bool.not_true, Bool.not_false, if_true, if_false, Bool.false_eq_true, Bool.true_eq_false, reduceIte, Nat.reduceAdd, Nat.reduceSub, Nat.reduceBEq, pow_10_9, pow_10_20, pow_10_30, cpow_10_9, cpow_10_20, cpow_10_30, divP_lit, mulP_r, mulP_l, lne_line, lt_line, isi_int, isi_bool, Int.reduceLT, Int.reduceLE, Int.reduceGT, Int.reduceGE, Int.reduceNeg, Int.reduceMul, Int.reduceAdd, Int.reduceSub, Nat.reduceLeDiff, Nat.reduceLT, true_and, and_true, decide_true, decide_false, sga, wipeP, List.set_cons_zero, List.set_cons_succ, evSs_nil, List.lookup, Nat.reduceBEq, seq_str, seq_tup, seq_fl, Bool.true_and, Bool.and_true, Bool.false_and, Bool.and_false, beq_self_eq_true]
      exact nx
    · simp only [evS, evE, evEs, evO, evB, evBs, evI, List.map_cons, List.map_nil, List.replicate_succ, List.replicate_zero, List.cons_append, List.nil_append, List.getElem?_cons_zero, List.getElem?_cons_succ, List.set_cons_zero, List.set_cons_succ, bv_add, bv_sub, bv_mul, bv_div, bv_mod, bv_pow, bv_str, av_add, av_sub, cv_lt, cv_le, cv_gt, cv_ge, cv_eq, cv_ne, cv_eqS, cv_neS, tv_bl, tv_int, List.length_cons, List.length_nil, pad, setT_nm, setT_tup, setTs_nil, setTs_cons, decide_eq_true_eq, Bool.not_eq_true', Bool.not_true, Bool.not_false, if_true, if_false, Bool.false_eq_true, Bool.true_eq_false, reduceIte, Nat.reduceAdd, Nat.reduceSub, Nat.reduceBEq, pow_10_9, pow_10_20, pow_10_30, cpow_10_9, cpow_10_20, cpow_10_30, divP_lit, mulP_r, mulP_l, lne_line, lt_line, isi_int, isi_bool, Int.reduceLT, Int.reduceLE, Int.reduceGT, Int.reduceGE, Int.reduceNeg, Int.reduceMul, Int.reduceAdd, Int.reduceSub, Nat.reduceLeDiff, Nat.reduceLT, true_and, and_true, decide_true, decide_false, sga, wipeP, List.set_cons_zero, List.set_cons_succ, evSs_nil, List.lookup, Nat.reduceBEq, seq_str, seq_tup, seq_fl, Bool.true_and, Bool.and_true, Bool.false_and, Bool.and_false, beq_self_eq_true]
      have nP' := new_new nP
      refine blt_sortedL (ks := (L.wk m).filter fun w => !(L.wv m w == 0)) (by rw [pup_same]) (Nat.lt_of_le_of_lt (List.length_filter_le _ _) (by omega)) fun ys r pm so nr => ?_
      refine ⟨pup h r (.lst (ys.map .str)), fun b c e => ?_, q ys r pm so (new_new (new_new nr).2).2⟩
      by_cases hb : b = r
      · subst hb; rw [pup_same] at e ⊢; exact e
      · rw [pup_ne hb] at e ⊢
        exact new_ext nP (new_ext np e)
  by_cases hk : m ∈ L.sk.map (·.1)
  · obtain ⟨d, hd⟩ := mem_key hk
    rw [stk_val l.nk hd]
    exact fin d (l'.hd _ hd)
  · rw [stk_no hk]
    refine fin p ?_
    rw [pup_same, l.sz m hk]
    rfl
end
section
variable {n : Nat} {h : PH} {Q : QE} {X : Mir.XE}
theorem pickL {p : Addr} {g : PH} {xs : List PV} {i : Int} {R : QE} (gp : g p = some (.lst xs)) (h0 : 0 ≤ i) (h1 : i < xs.length) (q : ∀ x ∈ xs, R x g) : subV (.loc p) (.int i) g R := by
  obtain ⟨x, hx, ex⟩ := at_mem h0 h1
  rw [sv_lst gp ex]
  exact q x hx
/-- one of a list, new made -/
theorem pickN {g : PH} {xs : List PV} {i : Int} {R : QE} (h0 : 0 ≤ i) (h1 : i < xs.length) (q : ∀ x ∈ xs, ∀ g', PLe g g' → R x g') : ∀ p, g p = none → subV (.loc p) (.int i) (pup g p (.lst xs)) R :=
  fun _ np => pickL pup_same h0 h1 fun x hx => q x hx _ (PLe.new np)
end
def Su (v : Str → Int) (ks : List Str) : Int := (ks.map v).sum
theorem Su_add {v w : Str → Int} : ∀ ks : List Str, Su (fun s => v s + w s) ks = Su v ks + Su w ks
  | [] => rfl
  | k :: ks => by
    have ih := Su_add (v := v) (w := w) ks
    simp only [Su, List.map_cons, List.sum_cons] at ih ⊢
    omega
theorem Su_zero : ∀ (ks : List Str), Su (fun _ => 0) ks = 0
  | [] => rfl
  | k :: ks => by
    have ih := Su_zero ks
    simp only [Su, List.map_cons, List.sum_cons] at ih ⊢
    omega
theorem Su_perm {v : Str → Int} {a b : List Str} (p : a.Perm b) : Su v a = Su v b := by
  induction p with
  | nil => rfl
  | cons x p ih => simp only [Su, List.map_cons, List.sum_cons] at ih ⊢; omega
  | swap x y l => simp only [Su, List.map_cons, List.sum_cons]; omega
  | trans p1 p2 h1 h2 => exact h1.trans h2
theorem Su_filter {v : Str → Int} {f : Str → Bool} (h : ∀ s, f s = false → v s = 0) : ∀ ks : List Str, Su v (ks.filter f) = Su v ks
  | [] => rfl
  | k :: ks => by
    have ih := Su_filter h ks
    rw [List.filter_cons]
    cases e : f k with
    | true => simp only [Su, if_true, List.map_cons, List.sum_cons] at ih ⊢; omega
    | false =>
      have z := h k e
      simp only [Su, Bool.false_eq_true, if_false, List.map_cons, List.sum_cons] at ih ⊢
      omega
/-! ### the members of a ledger -/
section
variable {n : Nat} {h : PH} {Q : QE} {X : Mir.XE}
theorem any_key {kvs : List (Key × PV)} {K : List Str} {m : Str} (e : kvs.map (·.1) = K.map .inr) : (kvs.any fun kv => decide (kv.1 = (.inr m : Key))) = decide (m ∈ K) := by
  have : (kvs.any fun kv => decide (kv.1 = (.inr m : Key))) = ((kvs.map (·.1)).any fun k => decide (k = (.inr m : Key))) := by rw [List.any_map]; rfl
  rw [this, e, List.any_map, Bool.eq_iff_iff]
  simp only [List.any_eq_true, Function.comp, decide_eq_true_eq]
  exact ⟨fun ⟨x, hx, z⟩ => by cases z; exact hx, fun z => ⟨m, z, rfl⟩⟩
theorem put_keys {kvs : List (Key × PV)} {K : List Str} {m : Str} {v : PV} (e : kvs.map (·.1) = K.map .inr) : (putP kvs (.inr m) v).map (·.1) = (ins K m).map .inr := by
  unfold putP ins
  rw [any_key e]
  by_cases hm : m ∈ K
  · rw [if_pos (by simpa using hm), if_pos hm, List.map_map, ← e]
    apply List.map_congr_left
    intro kv _
    simp only [Function.comp]
    split <;> rfl
  · rw [if_neg (by simpa using hm), if_neg hm, List.map_append, e, List.map_append]
    rfl
theorem merge_keys {M : List Str} : ∀ {more kvs : List (Key × PV)} {K : List Str}, kvs.map (·.1) = K.map .inr → more.map (·.1) = M.map .inr → K.Nodup → ∃ K' : List Str, (mergeP kvs more).map (·.1) = K'.map .inr ∧ K'.Nodup ∧ ∀ x, x ∈ K' ↔ x ∈ K ∨ x ∈ M := by
  induction M with
  | nil =>
    intro more kvs K e em nd
    have : more = [] := by simpa using em
    subst this
    exact ⟨K, e, nd, fun x => by simp⟩
  | cons m M ih =>
    intro more kvs K e em nd
    cases more with
    | nil => cases em
    | cons kv more =>
      obtain ⟨k, v⟩ := kv
      simp only [List.map_cons, List.cons.injEq] at em
      obtain ⟨rfl, em⟩ := em
      obtain ⟨K', e', nd', hm⟩ := ih (more := more) (kvs := putP kvs (.inr m) v) (K := ins K m) (put_keys e) em (ins_nodup nd)
      refine ⟨K', e', nd', fun x => ?_⟩
      rw [hm x, ins_mem, List.mem_cons, or_assoc]
theorem dOf_fst {K : List Str} {f : Str → Int} : (dOf K f).map (·.1) = K.map .inr := by
  unfold dOf
  rw [List.map_map]
  rfl
theorem stk_fst {sk : List (Str × Addr)} : (stk sk).map (·.1) = (sk.map (·.1)).map .inr := by
  unfold stk
  rw [List.map_map, List.map_map]
  rfl
theorem sorted_keys {a : Addr} {f : Bool} {kvs : List (Key × PV)} {K : List Str} (e : h a = some (.dct f kvs)) (ek : kvs.map (·.1) = K.map .inr) (hl : K.length < 64) (q : ∀ ys p, ys.Perm K → sortedS ys = true → h p = none → Q (.loc p) (pup h p (.lst (ys.map .str)))) : bltV .sorted [.loc a] h Q := by
  have e2 : (kvs.map fun kv => kP kv.1) = K.map .str := by
    have : (kvs.map fun kv => kP kv.1) = (kvs.map (·.1)).map kP := by rw [List.map_map]; rfl
    rw [this, ek, List.map_map]
    rfl
  simp only [bltV, e, e2, Mir.sortK]
  cases K with
  | nil =>
    refine ⟨by decide, fun ns' pm _ => ?_⟩
    cases List.Perm.eq_nil pm
    exact fun p hp => q [] p (.refl _) rfl hp
  | cons k ks =>
    rw [List.map_cons, ← List.map_cons (f := PV.str), intsP_strs, strsP_map]
    exact ⟨hl, fun ys pm hs p hp => q ys p pm hs hp⟩
def Mem (L : Led) (ys : List Str) : Prop := ys.Nodup ∧ (∀ x, x ∈ ys ↔ x ∈ L.pk ∨ x ∈ L.sk.map (·.1)) ∧ sortedS ys = true
theorem members_sp {a : Addr} {L : Led} {S W : List Str} (l : LedAt h a L) (i : LedIn L S W) (hS : S.length ≤ 60) (q : ∀ ys g p, Mem L ys → PLe h g → h p = none → g p = some (.lst (ys.map .str)) → Q (.loc p) g) :
    sem sg (n + 1) 6 [.loc a] h Q X := by
  refine ⟨⟨1, 2, b6, []⟩, rfl, rfl, ?_⟩
  rw [b6, evSs_cons]
  simp only [evS, evE, evEs, evO, evB, evBs, evI, List.map_cons, List.map_nil, List.replicate_succ, List.replicate_zero, List.cons_append, List.nil_append, List.getElem?_cons_zero, List.getElem?_cons_succ, List.set_cons_zero, List.set_cons_succ, bv_add, bv_sub, bv_mul, bv_div, bv_mod, bv_pow, bv_str, av_add, av_sub, cv_lt, cv_le, cv_gt, cv_ge, cv_eq, cv_ne, cv_eqS, cv_neS, tv_bl, tv_int, List.length_cons, List.length_nil, pad, setT_nm, setT_tup, setTs_nil, setTs_cons, decide_eq_true_eq, Bool.not_eq_true', Bool.not_true, Bool.not_false, if_true, if_false, Bool.false_eq_true, Bool.true_eq_false, reduceIte, Nat.reduceAdd, Nat.reduceSub, Nat.reduceBEq, pow_10_9, pow_10_20, pow_10_30, cpow_10_9, cpow_10_20, cpow_10_30, divP_lit, mulP_r, mulP_l, lne_line, lt_line, isi_int, isi_bool, Int.reduceLT, Int.reduceLE, Int.reduceGT, Int.reduceGE, Int.reduceNeg, Int.reduceMul, Int.reduceAdd, Int.reduceSub, Nat.reduceLeDiff, Nat.reduceLT, true_and, and_true, decide_true, decide_false, sga, wipeP, List.set_cons_zero, List.set_cons_succ, evSs_nil, List.lookup, Nat.reduceBEq, seq_str, seq_tup, seq_fl, Bool.true_and, Bool.and_true, Bool.false_and, Bool.and_false, beq_self_eq_true]
  intro p np
  have l1 := PLe.new (c := .dct false []) np
  have ep := at_of_pup (rfl : pup h p (.dct false []) = _)
  have L1 := l.ple l1
  have pl := i.pl l
  have sl := i.sl l
  rw [evSs_cons]
  simp only [evS, evE, evEs, evO, evB, evBs, evI, List.map_cons, List.map_nil, List.replicate_succ, List.replicate_zero, List.cons_append, List.nil_append, List.getElem?_cons_zero, List.getElem?_cons_succ, List.set_cons_zero, List.set_cons_succ, bv_add, bv_sub, bv_mul, bv_div, bv_mod, bv_pow, bv_str, av_add, av_sub, cv_lt, cv_le, cv_gt, cv_ge, cv_eq, cv_ne, cv_eqS, cv_neS, tv_bl, tv_int, List.length_cons, List.length_nil, pad, setT_nm, setT_tup, setTs_nil, setTs_cons, decide_eq_true_eq, Bool.not_eq_true', Bool.not_true, Bool.not_false, if_true, if_false, Bool.false_eq_true, Bool.true_eq_false, reduceIte, Nat.reduceAdd, Nat.reduceSub, Nat.reduceBEq, pow_10_9, pow_10_20, pow_10_30, cpow_10_9, cpow_10_20, cpow_10_30, divP_lit, mulP_r, mulP_l, lne_line, lt_line, isi_int, isi_bool, Int.reduceLT, Int.reduceLE, Int.reduceGT, Int.reduceGE, Int.reduceNeg, Int.reduceMul, Int.reduceAdd, Int.reduceSub, Nat.reduceLeDiff, Nat.reduceLT, true_and, and_true, decide_true, decide_false, sga, wipeP, List.set_cons_zero, List.set_cons_succ, evSs_nil, List.lookup, Nat.reduceBEq, seq_str, seq_tup, seq_fl, Bool.true_and, Bool.and_true, Bool.false_and, Bool.and_false, beq_self_eq_true, L1.o, bmT, tyP, ep, bmV, L1.hp]
  have n1 : p ≠ L.p := fun z => by rw [z, l.hp] at np; cases np
  have n2 : p ≠ L.s := fun z => by rw [z, l.hs] at np; cases np
  have na : a ≠ p := fun z => by rw [← z, l.o] at np; cases np
  rw [merge_new (by rw [List.nil_append]; exact dOf_nodup l.pn), List.nil_append, pup_pup, dOf_len]
  refine ⟨n1, small_line (by omega), ?_⟩
  have l2 := PLe.new (c := .dct false (dOf L.pk L.pv)) np
  have ep2 := at_of_pup (rfl : pup h p (.dct false (dOf L.pk L.pv)) = _)
  have L2 := l.ple l2
  (try simp only [evS, evE, evEs, evO, evB, evBs, evI, List.map_cons, List.map_nil, List.replicate_succ, List.replicate_zero, List.cons_append, List.nil_append, List.getElem?_cons_zero, List.getElem?_cons_succ, List.set_cons_zero, List.set_cons_succ, bv_add, bv_sub, bv_mul, bv_div, bv_mod, bv_pow, bv_str, av_add, av_sub, cv_lt, cv_le, cv_gt, cv_ge, cv_eq, cv_ne, cv_eqS, cv_neS, tv_bl, tv_int, List.length_cons, List.length_nil, pad, setT_nm, setT_tup, setTs_nil, setTs_cons, decide_eq_true_eq, Bool.not_eq_true', Bool.not_true, Bool.not_false, if_true, if_false, Bool.false_eq_true, Bool.true_eq_false, reduceIte, Nat.reduceAdd, Nat.reduceSub, Nat.reduceBEq, pow_10_9, pow_10_20, pow_10_30, cpow_10_9, cpow_10_20, cpow_10_30, divP_lit, mulP_r, mulP_l, lne_line, lt_line, isi_int, isi_bool, Int.reduceLT, Int.reduceLE, Int.reduceGT, Int.reduceGE, Int.reduceNeg, Int.reduceMul, Int.reduceAdd, Int.reduceSub, Nat.reduceLeDiff, Nat.reduceLT, true_and, and_true, decide_true, decide_false, sga, wipeP, List.set_cons_zero, List.set_cons_succ, evSs_nil, List.lookup, Nat.reduceBEq, seq_str, seq_tup, seq_fl, Bool.true_and, Bool.and_true, Bool.false_and, Bool.and_false, beq_self_eq_true])
  rw [evSs_cons]
  simp only [evS, evE, evEs, evO, evB, evBs, evI, List.map_cons, List.map_nil, List.replicate_succ, List.replicate_zero, List.cons_append, List.nil_append, List.getElem?_cons_zero, List.getElem?_cons_succ, List.set_cons_zero, List.set_cons_succ, bv_add, bv_sub, bv_mul, bv_div, bv_mod, bv_pow, bv_str, av_add, av_sub, cv_lt, cv_le, cv_gt, cv_ge, cv_eq, cv_ne, cv_eqS, cv_neS, tv_bl, tv_int, List.length_cons, List.length_nil, pad, setT_nm, setT_tup, setTs_nil, setTs_cons, decide_eq_true_eq, Bool.not_eq_true', Bool.not_true, Bool.not_false, if_true, if_false, Bool.false_eq_true, Bool.true_eq_false, reduceIte, Nat.reduceAdd, Nat.reduceSub, Nat.reduceBEq, pow_10_9, pow_10_20, pow_10_30, cpow_10_9, cpow_10_20, cpow_10_30, divP_lit, mulP_r, mulP_l, lne_line, lt_line, isi_int, isi_bool, Int.reduceLT, Int.reduceLE, Int.reduceGT, Int.reduceGE, Int.reduceNeg, Int.reduceMul, Int.reduceAdd, Int.reduceSub, Nat.reduceLeDiff, Nat.reduceLT, true_and, and_true, decide_true, decide_false, sga, wipeP, List.set_cons_zero, List.set_cons_succ, evSs_nil, List.lookup, Nat.reduceBEq, seq_str, seq_tup, seq_fl, Bool.true_and, Bool.and_true, Bool.false_and, Bool.and_false, beq_self_eq_true, L2.o, bmT, tyP, ep2, bmV, L2.hs, List.lookup]
  rw [pup_pup, dOf_len, stk_len]
  refine ⟨n2, small_line (by omega), ?_⟩
  obtain ⟨K', e', nd', hm⟩ := merge_keys (dOf_fst (K := L.pk) (f := L.pv)) (stk_fst (sk := L.sk)) l.pn
  have ep3 := at_of_pup (rfl : pup h p (.dct false (mergeP (dOf L.pk L.pv) (stk L.sk))) = _)
  have l3 := PLe.new (c := .dct false (mergeP (dOf L.pk L.pv) (stk L.sk))) np
  (try simp only [evS, evE, evEs, evO, evB, evBs, evI, List.map_cons, List.map_nil, List.replicate_succ, List.replicate_zero, List.cons_append, List.nil_append, List.getElem?_cons_zero, List.getElem?_cons_succ, List.set_cons_zero, List.set_cons_succ, bv_add, bv_sub, bv_mul, bv_div, bv_mod, bv_pow, bv_str, av_add, av_sub, cv_lt, cv_le, cv_gt, cv_ge, cv_eq, cv_ne, cv_eqS, cv_neS, tv_bl, tv_int, List.length_cons, List.length_nil, pad, setT_nm, setT_tup, setTs_nil, setTs_cons, decide_eq_true_eq, Bool.not_eq_true', Bool.not_true, Bool.not_false, if_true, if_false, Bool.false_eq_true, Bool.true_eq_false, reduceIte, Nat.reduceAdd, Nat.reduceSub, Nat.reduceBEq, pow_10_9, pow_10_20, pow_10_30, cpow_10_9, cpow_10_20, cpow_10_30, divP_lit, mulP_r, mulP_l, lne_line, lt_line, isi_int, isi_bool, Int.reduceLT, Int.reduceLE, Int.reduceGT, Int.reduceGE, Int.reduceNeg, Int.reduceMul, Int.reduceAdd, Int.reduceSub, Nat.reduceLeDiff, Nat.reduceLT, true_and, and_true, decide_true, decide_false, sga, wipeP, List.set_cons_zero, List.set_cons_succ, evSs_nil, List.lookup, Nat.reduceBEq, seq_str, seq_tup, seq_fl, Bool.true_and, Bool.and_true, Bool.false_and, Bool.and_false, beq_self_eq_true])
  rw [evSs_cons]
  simp only [evS, evE, evEs, evO, evB, evBs, evI, List.map_cons, List.map_nil, List.replicate_succ, List.replicate_zero, List.cons_append, List.nil_append, List.getElem?_cons_zero, List.getElem?_cons_succ, List.set_cons_zero, List.set_cons_succ, bv_add, bv_sub, bv_mul, bv_div, bv_mod, bv_pow, bv_str, av_add, av_sub, cv_lt, cv_le, cv_gt, cv_ge, cv_eq, cv_ne, cv_eqS, cv_neS, tv_bl, tv_int, List.length_cons, List.length_nil, pad, setT_nm, setT_tup, setTs_nil, setTs_cons, decide_eq_true_eq, Bool.not_eq_true', Bool.not_true, Bool.not_false, if_true, if_false, Bool.false_eq_true, Bool.true_eq_false, reduceIte, Nat.reduceAdd, Nat.reduceSub, Nat.reduceBEq, pow_10_9, pow_10_20, pow_10_30, cpow_10_9, cpow_10_20, cpow_10_30, divP_lit, mulP_r, mulP_l, lne_line, lt_line, isi_int, isi_bool, Int.reduceLT, Int.reduceLE, Int.reduceGT, Int.reduceGE, Int.reduceNeg, Int.reduceMul, Int.reduceAdd, Int.reduceSub, Nat.reduceLeDiff, Nat.reduceLT, true_and, and_true, decide_true, decide_false, sga, wipeP, List.set_cons_zero, List.set_cons_succ, evSs_nil, List.lookup, Nat.reduceBEq, seq_str, seq_tup, seq_fl, Bool.true_and, Bool.and_true, Bool.false_and, Bool.and_false, beq_self_eq_true]
  have kS : ∀ x ∈ K', x ∈ S := fun x hx => ((hm x).mp hx).elim (i.p x) (i.s x)
  refine sorted_keys ep3 e' (by have := sub_len nd' kS; omega) fun ys r pm so nr => ?_
  have nr' := none_le l3 nr
  refine ⟨_, .refl _, q ys _ r ⟨pm.nodup_iff.mpr nd', fun x => by rw [pm.mem_iff, hm], so⟩ (l3.trans (PLe.new nr)) nr' pup_same⟩
end
end LK

set_option autoImplicit false
namespace LK
open PySem L2 PySem.Spec Mir
open PyProof.Rows hiding St
/-! ### ledgers: the law's own dict -/
section
variable {n : Nat} {h : PH} {Q : QE} {X : Mir.XE}
def mv (f : Str → Str → Int) (g t w : Str) (c : Int) (m u : Str) : Int := f m u - (if m = g ∧ u = w then c else 0) + if m = t ∧ u = w then c else 0
def Own (kvs : List (List Key × PV)) (f : Str → Str → Int) : Prop := ∀ m w, (valT kvs [.inr m, .inr w]).getD (.int 0) = .int (f m w)
theorem val_putT {kvs : List (List Key × PV)} {k l : List Key} {v : PV} : valT (putT kvs k v) l = if l = k then some v else valT kvs l := by
  unfold putT
  split
  · rename_i ha
    unfold valT
    induction kvs with
    | nil => cases ha
    | cons kv kvs ih =>
      rw [List.map_cons, List.find?_cons, List.find?_cons]
      by_cases e : kv.1 = k
      · rw [if_pos e]
        by_cases el : l = k
        · subst el
          simp [e]
        · have ne : kv.1 ≠ l := fun z => el (z.symm.trans e)
          simp only [ne, decide_false, el, if_false]
          by_cases ha' : (kvs.any fun kv => decide (kv.1 = k)) = true
          · have := ih ha'
            rw [if_neg el] at this
            exact this
          · have : kvs.map (fun kv => if kv.1 = k then (kv.1, v) else kv) = kvs := by
              refine (List.map_congr_left fun x hx => ?_).trans (List.map_id kvs)
              have : x.1 ≠ k := fun z => ha' (List.any_eq_true.mpr ⟨x, hx, by simpa using z⟩)
              rw [if_neg this]
              rfl
            rw [this]
      · rw [if_neg e]
        have ha' : (kvs.any fun kv => decide (kv.1 = k)) = true := by simpa [e] using ha
        have := ih ha'
        by_cases el : kv.1 = l
        · have : l ≠ k := fun z => e (el.trans z)
          simp [el, this]
        · simp only [el, decide_false]
          exact this
  · rename_i ha
    unfold valT
    rw [List.find?_append]
    by_cases el : l = k
    · subst el
      have : kvs.find? (fun kv => decide (kv.1 = l)) = none := by
        rw [List.find?_eq_none]
        intro x hx z
        exact ha (List.any_eq_true.mpr ⟨x, hx, z⟩)
      rw [this, if_pos rfl]
      simp
    · rw [if_neg el]
      have : [(k, v)].find? (fun kv => decide (kv.1 = l)) = none := by
        rw [List.find?_eq_none]
        intro x hx z
        rw [List.mem_singleton] at hx
        subst hx
        exact el (by simpa using Eq.symm (of_decide_eq_true z))
      rw [this]
      cases kvs.find? (fun kv => decide (kv.1 = l)) <;> rfl
theorem putT_len {kvs : List (List Key × PV)} {k : List Key} {v : PV} : (putT kvs k v).length ≤ kvs.length + 1 := by
  unfold putT
  split
  · rw [List.length_map]; omega
  · rw [List.length_append]; simp
theorem Own.put {kvs : List (List Key × PV)} {f : Str → Str → Int} (o : Own kvs f) (m w : Str) (x : Int) : Own (putT kvs [.inr m, .inr w] (.int x)) (fun m' w' => if m' = m ∧ w' = w then x else f m' w') := fun m' w' => by
  rw [val_putT]
  by_cases e : m' = m ∧ w' = w
  · dsimp only
    rw [if_pos e, e.1, e.2, if_pos rfl]; rfl
  · dsimp only
    rw [if_neg e, if_neg (fun z => e (by cases z; exact ⟨rfl, rfl⟩))]
    exact o m' w'
theorem keysT2 {m w : Str} : keysT [.str m, .str w] = some [.inr m, .inr w] := rfl
theorem moved_sp {o : Addr} {kvs : List (List Key × PV)} {f : Str → Str → Int} {g t w : Str} {c : Int} (ho : h o = some (.dctT kvs)) (v : Own kvs f) (ln : kvs.length ≤ 900)
    (q : ∀ kvs', Own kvs' (mv f g t w c) → kvs'.length ≤ kvs.length + 2 → Q .non (pup h o (.dctT kvs'))) : sem sg (n + 1) 12 [.loc o, .str g, .str t, .str w, .int c] h Q X := by
  refine ⟨⟨5, 5, b12, []⟩, rfl, rfl, ?_⟩
  rw [b12, evSs_cons]
  simp only [evS, evE, evEs, evO, evB, evBs, evI, List.map_cons, List.map_nil, List.replicate_succ, List.replicate_zero, List.cons_append, List.nil_append, List.getElem?_cons_zero, List.getElem?_cons_succ, List.set_cons_zero, List.set_cons_succ, bv_add, bv_sub, bv_mul, bv_div, bv_mod, bv_pow, bv_str, av_add, av_sub, cv_lt, cv_le, cv_gt, cv_ge, cv_eq, cv_ne, cv_eqS, cv_neS, tv_bl, tv_int, List.length_cons, List.length_nil, pad, setT_nm, setT_tup, setTs_nil, setTs_cons, decide_eq_true_eq, Bool.not_eq_true', Bool.not_true, Bool.not_false, if_true, if_false, Bool.false_eq_true, Bool.true_eq_false, reduceIte, Nat.reduceAdd, Nat.reduceSub, Nat.reduceBEq, pow_10_9, pow_10_20, pow_10_30, cpow_10_9, cpow_10_20, cpow_10_30, divP_lit, mulP_r, mulP_l, lne_line, lt_line, isi_int, isi_bool, Int.reduceLT, Int.reduceLE, Int.reduceGT, Int.reduceGE, Int.reduceNeg, Int.reduceMul, Int.reduceAdd, Int.reduceSub, Nat.reduceLeDiff, Nat.reduceLT, true_and, and_true, decide_true, decide_false, sga, wipeP, List.set_cons_zero, List.set_cons_succ, evSs_nil, List.lookup, Nat.reduceBEq, seq_str, seq_tup, seq_fl, Bool.true_and, Bool.and_true, Bool.false_and, Bool.and_false, beq_self_eq_true]
  rw [Mir.isT]
  simp only [ho, true_and]
  rw [getTV]
  simp only [ho, keysT2, v g w]
  simp only [evS, evE, evEs, evO, evB, evBs, evI, List.map_cons, List.map_nil, List.replicate_succ, List.replicate_zero, List.cons_append, List.nil_append, List.getElem?_cons_zero, List.getElem?_cons_succ, List.set_cons_zero, List.set_cons_succ, bv_add, bv_sub, bv_mul, bv_div, bv_mod, bv_pow, bv_str, av_add, av_sub, cv_lt, cv_le, cv_gt, cv_ge, cv_eq, cv_ne, cv_eqS, cv_neS, tv_bl, tv_int, List.length_cons, List.length_nil, pad, setT_nm, setT_tup, setTs_nil, setTs_cons, decide_eq_true_eq, Bool.not_eq_true', Bool.not_true, Bool.not_false, if_true, if_false, Bool.false_eq_true, Bool.true_eq_false, reduceIte, Nat.reduceAdd, Nat.reduceSub, Nat.reduceBEq, pow_10_9, pow_10_20, pow_10_30, cpow_10_9, cpow_10_20, cpow_10_30, divP_lit, mulP_r, mulP_l, lne_line, lt_line, isi_int, isi_bool, Int.reduceLT, Int.reduceLE, Int.reduceGT, Int.reduceGE, Int.reduceNeg, Int.reduceMul, Int.reduceAdd, Int.reduceSub, Nat.reduceLeDiff, Nat.reduceLT, true_and, and_true, decide_true, decide_false, sga, wipeP, List.set_cons_zero, List.set_cons_succ, evSs_nil, List.lookup, Nat.reduceBEq, seq_str, seq_tup, seq_fl, Bool.true_and, Bool.and_true, Bool.false_and, Bool.and_false, beq_self_eq_true]
  rw [setTV]
  simp only [ho, keysT2]
  refine ⟨small1000 (by omega), ?_⟩
  have v1 := v.put g w (f g w - c)
  have l1 := putT_len (kvs := kvs) (k := [.inr g, .inr w]) (v := .int (f g w - c))
  generalize putT kvs [.inr g, .inr w] (.int (f g w - c)) = kvs1 at v1 l1 ⊢
  (try simp only [evS, evE, evEs, evO, evB, evBs, evI, List.map_cons, List.map_nil, List.replicate_succ, List.replicate_zero, List.cons_append, List.nil_append, List.getElem?_cons_zero, List.getElem?_cons_succ, List.set_cons_zero, List.set_cons_succ, bv_add, bv_sub, bv_mul, bv_div, bv_mod, bv_pow, bv_str, av_add, av_sub, cv_lt, cv_le, cv_gt, cv_ge, cv_eq, cv_ne, cv_eqS, cv_neS, tv_bl, tv_int, List.length_cons, List.length_nil, pad, setT_nm, setT_tup, setTs_nil, setTs_cons, decide_eq_true_eq, Bool.not_eq_true', Bool.not_true, Bool.not_false, if_true, if_false, Bool.false_eq_true, Bool.true_eq_false, reduceIte, Nat.reduceAdd, Nat.reduceSub, Nat.reduceBEq, pow_10_9, pow_10_20, pow_10_30, cpow_10_9, cpow_10_20, cpow_10_30, divP_lit, mulP_r, mulP_l, lne_line, lt_line, isi_int, isi_bool, Int.reduceLT, Int.reduceLE, Int.reduceGT, Int.reduceGE, Int.reduceNeg, Int.reduceMul, Int.reduceAdd, Int.reduceSub, Nat.reduceLeDiff, Nat.reduceLT, true_and, and_true, decide_true, decide_false, sga, wipeP, List.set_cons_zero, List.set_cons_succ, evSs_nil, List.lookup, Nat.reduceBEq, seq_str, seq_tup, seq_fl, Bool.true_and, Bool.and_true, Bool.false_and, Bool.and_false, beq_self_eq_true])
  rw [evSs_cons]
  simp only [evS, evE, evEs, evO, evB, evBs, evI, List.map_cons, List.map_nil, List.replicate_succ, List.replicate_zero, List.cons_append, List.nil_append, List.getElem?_cons_zero, List.getElem?_cons_succ, List.set_cons_zero, List.set_cons_succ, bv_add, bv_sub, bv_mul, bv_div, bv_mod, bv_pow, bv_str, av_add, av_sub, cv_lt, cv_le, cv_gt, cv_ge, cv_eq, cv_ne, cv_eqS, cv_neS, tv_bl, tv_int, List.length_cons, List.length_nil, pad, setT_nm, setT_tup, setTs_nil, setTs_cons, decide_eq_true_eq, Bool.not_eq_true', Bool.not_true, Bool.not_false, if_true, if_false, Bool.false_eq_true, Bool.true_eq_false, reduceIte, Nat.reduceAdd, Nat.reduceSub, Nat.reduceBEq, pow_10_9, pow_10_20, pow_10_30, cpow_10_9, cpow_10_20, cpow_10_30, divP_lit, mulP_r, mulP_l, lne_line, lt_line, isi_int, isi_bool, Int.reduceLT, Int.reduceLE, Int.reduceGT, Int.reduceGE, Int.reduceNeg, Int.reduceMul, Int.reduceAdd, Int.reduceSub, Nat.reduceLeDiff, Nat.reduceLT, true_and, and_true, decide_true, decide_false, sga, wipeP, List.set_cons_zero, List.set_cons_succ, evSs_nil, List.lookup, Nat.reduceBEq, seq_str, seq_tup, seq_fl, Bool.true_and, Bool.and_true, Bool.false_and, Bool.and_false, beq_self_eq_true]
  rw [Mir.isT]
  simp only [pup_same, true_and]
  rw [getTV]
  simp only [pup_same, keysT2, v1 t w]
  simp only [evS, evE, evEs, evO, evB, evBs, evI, List.map_cons, List.map_nil, List.replicate_succ, List.replicate_zero, List.cons_append, List.nil_append, List.getElem?_cons_zero, List.getElem?_cons_succ, List.set_cons_zero, List.set_cons_succ, bv_add, bv_sub, bv_mul, bv_div, bv_mod, bv_pow, bv_str, av_add, av_sub, cv_lt, cv_le, cv_gt, cv_ge, cv_eq, cv_ne, cv_eqS, cv_neS, tv_bl, tv_int, List.length_cons, List.length_nil, pad, setT_nm, setT_tup, setTs_nil, setTs_cons, decide_eq_true_eq, Bool.not_eq_true', Bool.not_true, Bool.not_false, if_true, if_false, Bool.false_eq_true, Bool.true_eq_false, reduceIte, Nat.reduceAdd, Nat.reduceSub, Nat.reduceBEq, pow_10_9, pow_10_20, pow_10_30, cpow_10_9, cpow_10_20, cpow_10_30, divP_lit, mulP_r, mulP_l, lne_line, lt_line, isi_int, isi_bool, Int.reduceLT, Int.reduceLE, Int.reduceGT, Int.reduceGE, Int.reduceNeg, Int.reduceMul, Int.reduceAdd, Int.reduceSub, Nat.reduceLeDiff, Nat.reduceLT, true_and, and_true, decide_true, decide_false, sga, wipeP, List.set_cons_zero, List.set_cons_succ, evSs_nil, List.lookup, Nat.reduceBEq, seq_str, seq_tup, seq_fl, Bool.true_and, Bool.and_true, Bool.false_and, Bool.and_false, beq_self_eq_true]
  rw [setTV]
  simp only [pup_same, keysT2]
  refine ⟨small1000 (by omega), ?_⟩
  have v2 := v1.put t w ((if t = g then f g w - c else f t w) + c)
  have l2 := putT_len (kvs := kvs1) (k := [.inr t, .inr w]) (v := .int ((if t = g then f g w - c else f t w) + c))
  rw [pup_pup]
  refine ret_here (q _ (fun m u => ?_) (by omega))
  rw [v2 m u]
  unfold mv
  congr 1
  by_cases e1 : m = t ∧ u = w
  · obtain ⟨rfl, rfl⟩ := e1
    simp only [and_self, if_true, and_true]
    split <;> rename_i z
    · rw [z]
    · simp
  · dsimp only
    rw [if_neg e1, if_neg e1]
    split <;> rename_i z
    · obtain ⟨rfl, rfl⟩ := z; omega
    · omega
theorem pay_at {v : Str → Int} {g t : Str} {c : Int} (m : Str) : up (up v g (v g - c)) t (up v g (v g - c) t + c) m = v m - (if m = g then c else 0) + if m = t then c else 0 := by
  unfold up
  by_cases e1 : m = t
  · subst e1
    simp only [if_true]
    split <;> rename_i z
    · rw [z]
    · omega
  · simp only [if_neg e1]
    split <;> rename_i z
    · rw [z]; omega
    · omega
theorem Su_one {g : Str} {c : Int} : ∀ {S : List Str}, S.Nodup → g ∈ S → Su (fun m => if m = g then c else 0) S = c
  | [], _, h => by cases h
  | s :: S, nd, h => by
    rw [List.nodup_cons] at nd
    unfold Su
    rw [List.map_cons, List.sum_cons]
    by_cases e : s = g
    · subst e
      rw [if_pos rfl]
      have : Su (fun m => if m = s then c else 0) S = 0 := by
        have : ∀ m ∈ S, (if m = s then c else 0) = (fun _ => (0 : Int)) m := fun m hm => if_neg fun z : m = s => nd.1 (z ▸ hm)
        unfold Su
        rw [List.map_congr_left this]
        exact Su_zero S
      unfold Su at this
      rw [this]; omega
    · rw [if_neg e]
      have := Su_one (c := c) nd.2 ((List.mem_cons.mp h).resolve_left (Ne.symm e))
      unfold Su at this
      rw [this]; omega
theorem Su_neg {v : Str → Int} : ∀ ks : List Str, Su (fun s => - v s) ks = - Su v ks
  | [] => rfl
  | k :: ks => by
    have ih := Su_neg (v := v) ks
    simp only [Su, List.map_cons, List.sum_cons] at ih ⊢
    omega
theorem Su_mv {f : Str → Str → Int} {S : List Str} {g t w : Str} {c : Int} (nd : S.Nodup) (hg : g ∈ S) (ht : t ∈ S) (u : Str) : Su (fun m => mv f g t w c m u) S = Su (fun m => f m u) S := by
  by_cases e : u = w
  · subst e
    have : (fun m => mv f g t u c m u) = fun m => f m u + (- (if m = g then c else 0) + if m = t then c else 0) := by
      funext m
      unfold mv
      simp only [and_true]
      omega
    rw [this, Su_add, Su_add, Su_neg, Su_one nd hg, Su_one nd ht]
    omega
  · have : (fun m => mv f g t w c m u) = fun m => f m u := by
      funext m
      unfold mv
      rw [if_neg (fun z => e z.2), if_neg (fun z => e z.2)]
      omega
    rw [this]
end
end LK

set_option autoImplicit false
namespace LK
open PySem L2 PySem.Spec Mir
open PyProof.Rows hiding St
/-! ### ledgers: a deed -/
section
variable {n : Nat} {h : PH} {Q : QE} {X : Mir.XE}
def W3 : List Str := ["ore", "tin", "zinc"]
theorem led_cells {lg : Addr} {L : Led} (l : LedAt h lg L) : ∀ b ∈ L.ads, ∃ kvs, h b = some (.dct false kvs) := fun b hb => by
  simp only [Led.ads, List.mem_cons] at hb
  rcases hb with e | e | e
  · rw [e]; exact ⟨_, l.hp⟩
  · rw [e]; exact ⟨_, l.hs⟩
  · obtain ⟨q, hq, e'⟩ := List.mem_map.mp e
    rw [← e']; exact ⟨_, l.hd q hq⟩
theorem not_ads {lg b : Addr} {L : Led} {c : Cell} (l : LedAt h lg L) (e : h b = some c) (nd : ∀ kvs, c ≠ .dct false kvs) : b ∉ L.ads := fun z => by
  obtain ⟨kvs, e'⟩ := led_cells l b z
  rw [e] at e'
  cases e'
  exact nd _ rfl
theorem pickW3 {g : PH} {i : Int} {R : QE} (h0 : 0 ≤ i) (h1 : i < 3) (q : ∀ w g', w ∈ W3 → PLe g g' → R (.str w) g') : ∀ p, g p = none → subV (.loc p) (.int i) (pup g p (.lst [.str (Str.ofString "ore"), .str (Str.ofString "tin"), .str (Str.ofString "zinc")])) R :=
  pickN h0 (by simpa using h1) fun x hx g' l => by
    obtain ⟨w, hw, rfl⟩ : ∃ w, w ∈ W3 ∧ x = .str w := by
      simp only [List.mem_cons, List.mem_nil_iff, or_false] at hx
      rcases hx with rfl | rfl | rfl
      · exact ⟨"ore", by simp [W3], rfl⟩
      · exact ⟨"tin", by simp [W3], rfl⟩
      · exact ⟨"zinc", by simp [W3], rfl⟩
    exact q w g' hw l
structure Cells (h : PH) (a o t nl : Addr) (S : List Str) (L : Led) (kvs : List (List Key × PV)) (met : List Str) : Prop where
  l : LedAt h a L
  i : LedIn L S W3
  co : h o = some (.dctT kvs)
  ct : h t = some (.lst (met.map .str))
  n : h nl = some (.lst (S.map .str))
  d : nl ≠ t
variable {a o t nl : Addr} {S : List Str} {L L' : Led} {kvs kvs' : List (List Key × PV)} {met : List Str} {f : Str → Str → Int} {k : Nat}
theorem led_away {p : Addr} {c : Cell} (l : LedAt h a L) (d : ∀ b ∈ a :: L.ads, b ≠ p) : LedAt (pup h p c) a L := l.keeps (ads := [p]) (fun b c nb e => by rw [pup_ne (fun z => nb (by simp [z]))]; exact e) fun b hb => by simpa using d b hb
theorem Cells.ne (c : Cells h a o t nl S L kvs met) {p : Addr} {e : Cell} (ep : h p = some e) (n1 : ∀ k fs, e ≠ .ins k fs) (n2 : ∀ kvs, e ≠ .dct false kvs) : ∀ b ∈ a :: L.ads, b ≠ p := fun b hb z => by
  rcases List.mem_cons.mp hb with y | y
  · rw [← z, y, c.l.o] at ep
    cases ep
    exact n1 _ _ rfl
  · exact not_ads c.l ep n2 (z ▸ y)
theorem Cells.ple {g : PH} (c : Cells h a o t nl S L kvs met) (l : PLe h g) : Cells g a o t nl S L kvs met := ⟨c.l.ple l, c.i, l _ _ c.co, l _ _ c.ct, l _ _ c.n, c.d⟩
theorem Cells.setO (c : Cells h a o t nl S L kvs met) : Cells (pup h o (.dctT kvs')) a o t nl S L kvs' met :=
  ⟨led_away c.l (c.ne c.co (fun _ _ z => by cases z) fun _ z => by cases z), c.i, pup_same, (pup_ne (ne_cell c.ct c.co fun z => by cases z)).trans c.ct, (pup_ne (ne_cell c.n c.co fun z => by cases z)).trans c.n, c.d⟩
theorem Cells.setM {g : PH} {met' : List Str} (c : Cells h a o t nl S L kvs met) (et : g t = some (.lst (met'.map .str))) (k : Keeps [t] h g) : Cells g a o t nl S L kvs met' :=
  ⟨c.l.keeps k (fun b hb => by simpa using c.ne c.ct (fun _ _ z => by cases z) (fun _ z => by cases z) b hb), c.i, k _ _ (by simpa using ne_cell c.co c.ct fun z => by cases z) c.co, et, k _ _ (by simpa using c.d) c.n, c.d⟩
theorem Cells.led {g : PH} (c : Cells h a o t nl S L kvs met) (l : LedAt g a L') (i : LedIn L' S W3) (k : Keeps L.ads h g) : Cells g a o t nl S L' kvs met :=
  ⟨l, i, k _ _ (not_ads c.l c.co fun _ z => by cases z) c.co, k _ _ (not_ads c.l c.ct fun _ z => by cases z) c.ct, k _ _ (not_ads c.l c.n fun _ z => by cases z) c.n, c.d⟩
structure Pl (L : Led) (kvs : List (List Key × PV)) (met : List Str) (f : Str → Str → Int) (S : List Str) (k : Nat) : Prop where
  v : Own kvs f
  p : ∀ m, L.pv m = f m ""
  w : ∀ m, ∀ w ∈ W3, L.wv m w = f m w
  s : ∀ w, Su (fun m => f m w) S = 0
  n : met.Nodup
  m : ∀ x, x ∈ met ↔ x ∈ L.pk ∨ x ∈ L.sk.map (·.1)
  ln : kvs.length ≤ 4 * k
theorem prop1 {p q r s : Prop} : ((p ∨ q) ∨ r) ∨ s ↔ ((p ∨ r) ∨ s) ∨ ((q ∨ s) ∨ r) := by by_cases p <;> by_cases q <;> by_cases r <;> by_cases s <;> simp [*]
theorem prop2 {p q r s : Prop} : ((p ∨ q) ∨ r) ∨ s ↔ ((p ∨ r) ∨ s) ∨ q := by by_cases p <;> by_cases q <;> by_cases r <;> by_cases s <;> simp [*]
theorem prop3 {p q r s : Prop} : ((p ∨ q) ∨ r) ∨ s ↔ p ∨ ((q ∨ r) ∨ s) := by by_cases p <;> by_cases q <;> by_cases r <;> by_cases s <;> simp [*]
theorem no_nil {w : Str} (h : w ∈ W3) : w ≠ "" := fun z => by
  rw [z] at h
  revert h
  decide +kernel
theorem Pl.dealt {g : PH} {b s w : Str} {pr am : Int} {kvs' : List (List Key × PV)} (P : Pl L kvs met f S k) (D : Dealt h g L L' b s w pr am) (nd : S.Nodup) (hb : b ∈ S) (hs : s ∈ S) (hw : w ∈ W3) (o' : Own kvs' (mv (mv f s b w am) b s "" (pr * am))) (ln : kvs'.length ≤ kvs.length + 4) : Pl L' kvs' (ins (ins met b) s) (mv (mv f s b w am) b s "" (pr * am)) S (k + 1) where
  v := o'
  p := fun m => by
    rw [D.pv, pay_at, P.p]
    have n1 : ¬ ("" = w) := fun z => no_nil hw z.symm
    unfold mv
    simp only [n1, and_false, if_false, and_true]
    omega
  w := fun m u hu => by
    rw [D.v, P.w m u hu]
    have n1 : ¬ (u = "") := no_nil hu
    unfold mv
    simp only [n1, and_false, if_false]
    omega
  s := fun u => by rw [Su_mv nd hb hs, Su_mv nd hs hb]; exact P.s u
  n := ins_nodup (ins_nodup P.n)
  m := fun x => by simp only [D.pk, D.k, ins_mem, P.m]; exact prop1
  ln := by have := P.ln; omega
theorem Pl.pay {g t : Str} {c : Int} {kvs' : List (List Key × PV)} (P : Pl L kvs met f S k) (nd : S.Nodup) (hg : g ∈ S) (ht : t ∈ S) (o' : Own kvs' (mv f g t "" c)) (ln : kvs'.length ≤ kvs.length + 4) : Pl (L.pay g t c) kvs' (ins (ins met g) t) (mv f g t "" c) S (k + 1) where
  v := o'
  p := fun m => by
    show up (up L.pv g (L.pv g - c)) t (up L.pv g (L.pv g - c) t + c) m = _
    rw [pay_at, P.p]
    unfold mv
    simp only [and_true]
  w := fun m u hu => by
    show L.wv m u = _
    rw [P.w m u hu]
    have n1 : ¬ (u = "") := no_nil hu
    unfold mv
    simp only [n1, and_false, if_false]
    omega
  s := fun u => by rw [Su_mv nd hg ht]; exact P.s u
  n := ins_nodup (ins_nodup P.n)
  m := fun x => by
    show _ ↔ x ∈ ins (ins L.pk g) t ∨ x ∈ L.sk.map (·.1)
    simp only [ins_mem, P.m]; exact prop2
  ln := by have := P.ln; omega
theorem Pl.hand {h' : PH} {g t w : Str} {c : Int} {kvs' : List (List Key × PV)} (P : Pl L kvs met f S k) (D : Handed h h' L L' g t w c) (nd : S.Nodup) (hg : g ∈ S) (ht : t ∈ S) (hw : w ∈ W3) (o' : Own kvs' (mv f g t w c)) (ln : kvs'.length ≤ kvs.length + 4) : Pl L' kvs' (ins (ins met g) t) (mv f g t w c) S (k + 1) where
  v := o'
  p := fun m => by
    rw [D.p.2.2.2, P.p]
    have n1 : ¬ ("" = w) := fun z => no_nil hw z.symm
    unfold mv
    simp only [n1, and_false, if_false]
    omega
  w := fun m u hu => by
    rw [D.v, P.w m u hu]
    rfl
  s := fun u => by rw [Su_mv nd hg ht]; exact P.s u
  n := ins_nodup (ins_nodup P.n)
  m := fun x => by simp only [D.p.2.2.1, D.k, ins_mem, P.m]; exact prop3
  ln := by have := P.ln; omega
theorem pIn_strs {x : Str} {ks : List Str} : pIn (.str x) (ks.map .str) = decide (x ∈ ks) := by
  unfold pIn
  rw [List.any_map, Bool.eq_iff_iff]
  simp only [List.any_eq_true, Function.comp, peq, beq_iff_eq, decide_eq_true_eq, exists_eq_right]
def meetB : Ss := match b13 with
  | .cons _ (.cons _ (.cons _ (.cons _ (.cons _ (.cons _ (.cons _ (.cons (.for _ _ b) _))))))) => b
  | _ => .nil
theorem meet_sp {x : Str} {x0 x1 x3 x4 x5 x6 x7 x8 x9 x10 : Option PV} {D : PD} (ht : h t = some (.lst (met.map .str))) (ln : met.length ≤ 500)
    (nx : ∀ g, g t = some (.lst ((ins met x).map .str)) → Keeps [t] h g → D.nx [x0, x1, some (.loc t), x3, x4, x5, x6, x7, x8, x9, x10, some (.str x)] g) :
    evSs sg (sem sg (n + 8)) meetB [x0, x1, some (.loc t), x3, x4, x5, x6, x7, x8, x9, x10, some (.str x)] h D := by
  rw [show meetB = _ from rfl, meetB, b13]
  (try dsimp only)
  rw [evSs_cons]
  simp only [evS, evE, evEs, evO, evB, evBs, evI, List.map_cons, List.map_nil, List.replicate_succ, List.replicate_zero, List.cons_append, List.nil_append, List.getElem?_cons_zero, List.getElem?_cons_succ, List.set_cons_zero, List.set_cons_succ, bv_add, bv_sub, bv_mul, bv_div, bv_mod, bv_pow, bv_str, av_add, av_sub, cv_lt, cv_le, cv_gt, cv_ge, cv_eq, cv_ne, cv_eqS, cv_neS, tv_bl, tv_int, List.length_cons, List.length_nil, pad, setT_nm, setT_tup, setTs_nil, setTs_cons, decide_eq_true_eq, Bool.not_eq_true', Bool.not_true, Bool.not_false, if_true, if_false, Bool.false_eq_true, Bool.true_eq_false, reduceIte, Nat.reduceAdd, Nat.reduceSub, Nat.reduceBEq, pow_10_9, pow_10_20, pow_10_30, cpow_10_9, cpow_10_20, cpow_10_30, divP_lit, mulP_r, mulP_l, lne_line, lt_line, isi_int, isi_bool, Int.reduceLT, Int.reduceLE, Int.reduceGT, Int.reduceGE, Int.reduceNeg, Int.reduceMul, Int.reduceAdd, Int.reduceSub, Nat.reduceLeDiff, Nat.reduceLT, true_and, and_true, decide_true, decide_false, sga, wipeP, List.set_cons_zero, List.set_cons_succ, evSs_nil, List.lookup, Nat.reduceBEq, seq_str, seq_tup, seq_fl, Bool.true_and, Bool.and_true, Bool.false_and, Bool.and_false, beq_self_eq_true, cmpV, inK, ht]
  refine ⟨rfl, ?_, ?_⟩
  · rw [List.all_map]
    exact List.all_eq_true.mpr fun r _ => rfl
  rw [pIn_strs]
  by_cases hx : x ∈ met
  · rw [decide_eq_true hx]
    simp only [evS, evE, evEs, evO, evB, evBs, evI, List.map_cons, List.map_nil, List.replicate_succ, List.replicate_zero, List.cons_append, List.nil_append, List.getElem?_cons_zero, List.getElem?_cons_succ, List.set_cons_zero, List.set_cons_succ, bv_add, bv_sub, bv_mul, bv_div, bv_mod, bv_pow, bv_str, av_add, av_sub, cv_lt, cv_le, cv_gt, cv_ge, cv_eq, cv_ne, cv_eqS, cv_neS, tv_bl, tv_int, List.length_cons, List.length_nil, pad, setT_nm, setT_tup, setTs_nil, setTs_cons, decide_eq_true_eq, Bool.not_eq_true', Bool.not_true, Bool.not_false, if_true, if_false, Bool.false_eq_true, Bool.true_eq_false, reduceIte, Nat.reduceAdd, Nat.reduceSub, Nat.reduceBEq, pow_10_9, pow_10_20, pow_10_30, cpow_10_9, cpow_10_20, cpow_10_30, divP_lit, mulP_r, mulP_l, lne_line, lt_line, isi_int, isi_bool, Int.reduceLT, Int.reduceLE, Int.reduceGT, Int.reduceGE, Int.reduceNeg, Int.reduceMul, Int.reduceAdd, Int.reduceSub, Nat.reduceLeDiff, Nat.reduceLT, true_and, and_true, decide_true, decide_false, sga, wipeP, List.set_cons_zero, List.set_cons_succ, evSs_nil, List.lookup, Nat.reduceBEq, seq_str, seq_tup, seq_fl, Bool.true_and, Bool.and_true, Bool.false_and, Bool.and_false, beq_self_eq_true]
    exact nx h (by unfold ins; rw [if_pos hx]; exact ht) .refl
  · rw [decide_eq_false hx]
    simp only [evS, evE, evEs, evO, evB, evBs, evI, List.map_cons, List.map_nil, List.replicate_succ, List.replicate_zero, List.cons_append, List.nil_append, List.getElem?_cons_zero, List.getElem?_cons_succ, List.set_cons_zero, List.set_cons_succ, bv_add, bv_sub, bv_mul, bv_div, bv_mod, bv_pow, bv_str, av_add, av_sub, cv_lt, cv_le, cv_gt, cv_ge, cv_eq, cv_ne, cv_eqS, cv_neS, tv_bl, tv_int, List.length_cons, List.length_nil, pad, setT_nm, setT_tup, setTs_nil, setTs_cons, decide_eq_true_eq, Bool.not_eq_true', Bool.not_true, Bool.not_false, if_true, if_false, Bool.false_eq_true, Bool.true_eq_false, reduceIte, Nat.reduceAdd, Nat.reduceSub, Nat.reduceBEq, pow_10_9, pow_10_20, pow_10_30, cpow_10_9, cpow_10_20, cpow_10_30, divP_lit, mulP_r, mulP_l, lne_line, lt_line, isi_int, isi_bool, Int.reduceLT, Int.reduceLE, Int.reduceGT, Int.reduceGE, Int.reduceNeg, Int.reduceMul, Int.reduceAdd, Int.reduceSub, Nat.reduceLeDiff, Nat.reduceLT, true_and, and_true, decide_true, decide_false, sga, wipeP, List.set_cons_zero, List.set_cons_succ, evSs_nil, List.lookup, Nat.reduceBEq, seq_str, seq_tup, seq_fl, Bool.true_and, Bool.and_true, Bool.false_and, Bool.and_false, beq_self_eq_true]
    rw [evSs_cons]
    simp only [evS, evE, evEs, evO, evB, evBs, evI, List.map_cons, List.map_nil, List.replicate_succ, List.replicate_zero, List.cons_append, List.nil_append, List.getElem?_cons_zero, List.getElem?_cons_succ, List.set_cons_zero, List.set_cons_succ, bv_add, bv_sub, bv_mul, bv_div, bv_mod, bv_pow, bv_str, av_add, av_sub, cv_lt, cv_le, cv_gt, cv_ge, cv_eq, cv_ne, cv_eqS, cv_neS, tv_bl, tv_int, List.length_cons, List.length_nil, pad, setT_nm, setT_tup, setTs_nil, setTs_cons, decide_eq_true_eq, Bool.not_eq_true', Bool.not_true, Bool.not_false, if_true, if_false, Bool.false_eq_true, Bool.true_eq_false, reduceIte, Nat.reduceAdd, Nat.reduceSub, Nat.reduceBEq, pow_10_9, pow_10_20, pow_10_30, cpow_10_9, cpow_10_20, cpow_10_30, divP_lit, mulP_r, mulP_l, lne_line, lt_line, isi_int, isi_bool, Int.reduceLT, Int.reduceLE, Int.reduceGT, Int.reduceGE, Int.reduceNeg, Int.reduceMul, Int.reduceAdd, Int.reduceSub, Nat.reduceLeDiff, Nat.reduceLT, true_and, and_true, decide_true, decide_false, sga, wipeP, List.set_cons_zero, List.set_cons_succ, evSs_nil, List.lookup, Nat.reduceBEq, seq_str, seq_tup, seq_fl, Bool.true_and, Bool.and_true, Bool.false_and, Bool.and_false, beq_self_eq_true, bmT, tyP, ht, bmV]
    refine ⟨small1000 (by rw [List.length_map]; omega), ?_⟩
    (try simp only [evS, evE, evEs, evO, evB, evBs, evI, List.map_cons, List.map_nil, List.replicate_succ, List.replicate_zero, List.cons_append, List.nil_append, List.getElem?_cons_zero, List.getElem?_cons_succ, List.set_cons_zero, List.set_cons_succ, bv_add, bv_sub, bv_mul, bv_div, bv_mod, bv_pow, bv_str, av_add, av_sub, cv_lt, cv_le, cv_gt, cv_ge, cv_eq, cv_ne, cv_eqS, cv_neS, tv_bl, tv_int, List.length_cons, List.length_nil, pad, setT_nm, setT_tup, setTs_nil, setTs_cons, decide_eq_true_eq, Bool.not_eq_true', Bool.not_true, Bool.not_false, if_true, if_false, Bool.false_eq_true, Bool.true_eq_false, reduceIte, Nat.reduceAdd, Nat.reduceSub, Nat.reduceBEq, pow_10_9, pow_10_20, pow_10_30, cpow_10_9, cpow_10_20, cpow_10_30, divP_lit, mulP_r, mulP_l, lne_line, lt_line, isi_int, isi_bool, Int.reduceLT, Int.reduceLE, Int.reduceGT, Int.reduceGE, Int.reduceNeg, Int.reduceMul, Int.reduceAdd, Int.reduceSub, Nat.reduceLeDiff, Nat.reduceLT, true_and, and_true, decide_true, decide_false, sga, wipeP, List.set_cons_zero, List.set_cons_succ, evSs_nil, List.lookup, Nat.reduceBEq, seq_str, seq_tup, seq_fl, Bool.true_and, Bool.and_true, Bool.false_and, Bool.and_false, beq_self_eq_true])
    refine nx _ ?_ fun b c nb e => (pup_ne (by simpa using nb)).trans e
    rw [pup_same]
    unfold ins
    rw [if_neg hx, List.map_append]
    rfl
end
end LK

set_option autoImplicit false
namespace LK
open PySem L2 PySem.Spec Mir
open PyProof.Rows hiding St
section
variable {n : Nat} {h : PH} {Q : QE} {X : Mir.XE} {a o t nl : Addr} {S : List Str} {L L' : Led} {kvs kvs' : List (List Key × PV)} {met : List Str} {f : Str → Str → Int} {k : Nat}
def tailD : Ss := match b13 with
  | .cons _ (.cons _ (.cons _ (.cons _ (.cons _ (.cons _ (.cons _ r)))))) => r
  | _ => .nil
theorem tailD_sp {one other : Str} {x0 x1 x3 x4 x7 x8 x9 x10 x11 : Option PV} (ht : h t = some (.lst (met.map .str))) (ln : met.length ≤ 400) (q : ∀ g, g t = some (.lst ((ins (ins met one) other).map .str)) → Keeps [t] h g → Q .non g) :
    evSs sg (sem sg (n + 8)) tailD [x0, x1, some (.loc t), x3, x4, some (.str one), some (.str other), x7, x8, x9, x10, x11] h (retD Q X) := by
  have tM := @meet_sp n
  rw [show meetB = _ from rfl, meetB, b13] at tM
  (try dsimp only at tM)
  rw [show tailD = _ from rfl, tailD, b13]
  (try dsimp only)
  rw [evSs_cons]
  simp only [evS, evE, evEs, evO, evB, evBs, evI, List.map_cons, List.map_nil, List.replicate_succ, List.replicate_zero, List.cons_append, List.nil_append, List.getElem?_cons_zero, List.getElem?_cons_succ, List.set_cons_zero, List.set_cons_succ, bv_add, bv_sub, bv_mul, bv_div, bv_mod, bv_pow, bv_str, av_add, av_sub, cv_lt, cv_le, cv_gt, cv_ge, cv_eq, cv_ne, cv_eqS, cv_neS, tv_bl, tv_int, List.length_cons, List.length_nil, pad, setT_nm, setT_tup, setTs_nil, setTs_cons, decide_eq_true_eq, Bool.not_eq_true', Bool.not_true, Bool.not_false, if_true, if_false, Bool.false_eq_true, Bool.true_eq_false, reduceIte, Nat.reduceAdd, Nat.reduceSub, Nat.reduceBEq, pow_10_9, pow_10_20, pow_10_30, cpow_10_9, cpow_10_20, cpow_10_30, divP_lit, mulP_r, mulP_l, lne_line, lt_line, isi_int, isi_bool, Int.reduceLT, Int.reduceLE, Int.reduceGT, Int.reduceGE, Int.reduceNeg, Int.reduceMul, Int.reduceAdd, Int.reduceSub, Nat.reduceLeDiff, Nat.reduceLT, true_and, and_true, decide_true, decide_false, sga, wipeP, List.set_cons_zero, List.set_cons_succ, evSs_nil, List.lookup, Nat.reduceBEq, seq_str, seq_tup, seq_fl, Bool.true_and, Bool.and_true, Bool.false_and, Bool.and_false, beq_self_eq_true]
  rw [forGo]
  refine ⟨trivial, ?_⟩
  simp only [evS, evE, evEs, evO, evB, evBs, evI, List.map_cons, List.map_nil, List.replicate_succ, List.replicate_zero, List.cons_append, List.nil_append, List.getElem?_cons_zero, List.getElem?_cons_succ, List.set_cons_zero, List.set_cons_succ, bv_add, bv_sub, bv_mul, bv_div, bv_mod, bv_pow, bv_str, av_add, av_sub, cv_lt, cv_le, cv_gt, cv_ge, cv_eq, cv_ne, cv_eqS, cv_neS, tv_bl, tv_int, List.length_cons, List.length_nil, pad, setT_nm, setT_tup, setTs_nil, setTs_cons, decide_eq_true_eq, Bool.not_eq_true', Bool.not_true, Bool.not_false, if_true, if_false, Bool.false_eq_true, Bool.true_eq_false, reduceIte, Nat.reduceAdd, Nat.reduceSub, Nat.reduceBEq, pow_10_9, pow_10_20, pow_10_30, cpow_10_9, cpow_10_20, cpow_10_30, divP_lit, mulP_r, mulP_l, lne_line, lt_line, isi_int, isi_bool, Int.reduceLT, Int.reduceLE, Int.reduceGT, Int.reduceGE, Int.reduceNeg, Int.reduceMul, Int.reduceAdd, Int.reduceSub, Nat.reduceLeDiff, Nat.reduceLT, true_and, and_true, decide_true, decide_false, sga, wipeP, List.set_cons_zero, List.set_cons_succ, evSs_nil, List.lookup, Nat.reduceBEq, seq_str, seq_tup, seq_fl, Bool.true_and, Bool.and_true, Bool.false_and, Bool.and_false, beq_self_eq_true]
  refine tM ht (by omega) fun g1 e1 k1 => ?_
  (try dsimp only)
  rw [forGo]
  refine ⟨trivial, ?_⟩
  simp only [evS, evE, evEs, evO, evB, evBs, evI, List.map_cons, List.map_nil, List.replicate_succ, List.replicate_zero, List.cons_append, List.nil_append, List.getElem?_cons_zero, List.getElem?_cons_succ, List.set_cons_zero, List.set_cons_succ, bv_add, bv_sub, bv_mul, bv_div, bv_mod, bv_pow, bv_str, av_add, av_sub, cv_lt, cv_le, cv_gt, cv_ge, cv_eq, cv_ne, cv_eqS, cv_neS, tv_bl, tv_int, List.length_cons, List.length_nil, pad, setT_nm, setT_tup, setTs_nil, setTs_cons, decide_eq_true_eq, Bool.not_eq_true', Bool.not_true, Bool.not_false, if_true, if_false, Bool.false_eq_true, Bool.true_eq_false, reduceIte, Nat.reduceAdd, Nat.reduceSub, Nat.reduceBEq, pow_10_9, pow_10_20, pow_10_30, cpow_10_9, cpow_10_20, cpow_10_30, divP_lit, mulP_r, mulP_l, lne_line, lt_line, isi_int, isi_bool, Int.reduceLT, Int.reduceLE, Int.reduceGT, Int.reduceGE, Int.reduceNeg, Int.reduceMul, Int.reduceAdd, Int.reduceSub, Nat.reduceLeDiff, Nat.reduceLT, true_and, and_true, decide_true, decide_false, sga, wipeP, List.set_cons_zero, List.set_cons_succ, evSs_nil, List.lookup, Nat.reduceBEq, seq_str, seq_tup, seq_fl, Bool.true_and, Bool.and_true, Bool.false_and, Bool.and_false, beq_self_eq_true]
  refine tM e1 (by have := ins_len (K := met) (m := one); omega) fun g2 e2 k2 => ?_
  (try dsimp only)
  rw [forGo]
  refine ⟨trivial, ?_⟩
  (try simp only [evS, evE, evEs, evO, evB, evBs, evI, List.map_cons, List.map_nil, List.replicate_succ, List.replicate_zero, List.cons_append, List.nil_append, List.getElem?_cons_zero, List.getElem?_cons_succ, List.set_cons_zero, List.set_cons_succ, bv_add, bv_sub, bv_mul, bv_div, bv_mod, bv_pow, bv_str, av_add, av_sub, cv_lt, cv_le, cv_gt, cv_ge, cv_eq, cv_ne, cv_eqS, cv_neS, tv_bl, tv_int, List.length_cons, List.length_nil, pad, setT_nm, setT_tup, setTs_nil, setTs_cons, decide_eq_true_eq, Bool.not_eq_true', Bool.not_true, Bool.not_false, if_true, if_false, Bool.false_eq_true, Bool.true_eq_false, reduceIte, Nat.reduceAdd, Nat.reduceSub, Nat.reduceBEq, pow_10_9, pow_10_20, pow_10_30, cpow_10_9, cpow_10_20, cpow_10_30, divP_lit, mulP_r, mulP_l, lne_line, lt_line, isi_int, isi_bool, Int.reduceLT, Int.reduceLE, Int.reduceGT, Int.reduceGE, Int.reduceNeg, Int.reduceMul, Int.reduceAdd, Int.reduceSub, Nat.reduceLeDiff, Nat.reduceLT, true_and, and_true, decide_true, decide_false, sga, wipeP, List.set_cons_zero, List.set_cons_succ, evSs_nil, List.lookup, Nat.reduceBEq, seq_str, seq_tup, seq_fl, Bool.true_and, Bool.and_true, Bool.false_and, Bool.and_false, beq_self_eq_true])
  exact ret_here (q g2 e2 (k1.trans k2))
theorem keeps_le {A : List Addr} {g : PH} (l : PLe h g) : Keeps A h g := fun b c _ e => l b c e
theorem keeps_sub {A B : List Addr} {g : PH} (k : Keeps A h g) (s : ∀ b ∈ A, b ∈ B) : Keeps B h g := fun b c nb e => k b c (fun z => nb (s b z)) e
theorem keeps_pup {p : Addr} {c : Cell} : Keeps [p] h (pup h p c) := fun b e nb eb => (pup_ne (by simpa using nb)).trans eb
theorem deed_sp {N : Int} (C : Cells h a o t nl S L kvs met) (P : Pl L kvs met f S k) (hk : k ≤ 200) (nd : S.Nodup) (hS : S.length = 7) (N0 : 0 ≤ N)
    (q : ∀ g L' kvs' met' f', Cells g a o t nl S L' kvs' met' → Pl L' kvs' met' f' S (k + 1) → Keeps (o :: t :: L.ads) h g → (∀ b ∈ L'.ads, b ∈ L.ads ∨ h b = none) → Q .non g) :
    sem sg (n + 9) 13 [.loc a, .loc o, .loc t, .int N, .loc nl] h Q X := by
  have tT := @tailD_sp n
  rw [show tailD = _ from rfl, tailD, b13] at tT
  (try dsimp only at tT)
  have ml : met.length ≤ 400 := by
    have h1 : ∀ x ∈ met, x ∈ S := fun x hx => ((P.m x).mp hx).elim (C.i.p x) (C.i.s x)
    have := sub_len P.n h1
    omega
  refine ⟨⟨5, 12, b13, []⟩, rfl, rfl, ?_⟩
  rw [b13, evSs_cons]
  obtain ⟨one, h1, e1⟩ := at_map (f := PV.str) (xs := S) (i := N % 6) (Int.emod_nonneg _ (by decide)) (by rw [hS]; exact Int.lt_trans (Int.emod_lt_of_pos _ (by decide)) (by decide))
  obtain ⟨other, h2, e2⟩ := at_map (f := PV.str) (xs := S) (i := N / 6 % 6) (Int.emod_nonneg _ (by decide)) (by rw [hS]; exact Int.lt_trans (Int.emod_lt_of_pos _ (by decide)) (by decide))
  simp only [evS, evE, evEs, evO, evB, evBs, evI, List.map_cons, List.map_nil, List.replicate_succ, List.replicate_zero, List.cons_append, List.nil_append, List.getElem?_cons_zero, List.getElem?_cons_succ, List.set_cons_zero, List.set_cons_succ, bv_add, bv_sub, bv_mul, bv_div, bv_mod, bv_pow, bv_str, av_add, av_sub, cv_lt, cv_le, cv_gt, cv_ge, cv_eq, cv_ne, cv_eqS, cv_neS, tv_bl, tv_int, List.length_cons, List.length_nil, pad, setT_nm, setT_tup, setTs_nil, setTs_cons, decide_eq_true_eq, Bool.not_eq_true', Bool.not_true, Bool.not_false, if_true, if_false, Bool.false_eq_true, Bool.true_eq_false, reduceIte, Nat.reduceAdd, Nat.reduceSub, Nat.reduceBEq, pow_10_9, pow_10_20, pow_10_30, cpow_10_9, cpow_10_20, cpow_10_30, divP_lit, mulP_r, mulP_l, lne_line, lt_line, isi_int, isi_bool, Int.reduceLT, Int.reduceLE, Int.reduceGT, Int.reduceGE, Int.reduceNeg, Int.reduceMul, Int.reduceAdd, Int.reduceSub, Nat.reduceLeDiff, Nat.reduceLT, true_and, and_true, decide_true, decide_false, sga, wipeP, List.set_cons_zero, List.set_cons_succ, evSs_nil, List.lookup, Nat.reduceBEq, seq_str, seq_tup, seq_fl, Bool.true_and, Bool.and_true, Bool.false_and, Bool.and_false, beq_self_eq_true, subV, C.n, e1]
  (try simp only [evS, evE, evEs, evO, evB, evBs, evI, List.map_cons, List.map_nil, List.replicate_succ, List.replicate_zero, List.cons_append, List.nil_append, List.getElem?_cons_zero, List.getElem?_cons_succ, List.set_cons_zero, List.set_cons_succ, bv_add, bv_sub, bv_mul, bv_div, bv_mod, bv_pow, bv_str, av_add, av_sub, cv_lt, cv_le, cv_gt, cv_ge, cv_eq, cv_ne, cv_eqS, cv_neS, tv_bl, tv_int, List.length_cons, List.length_nil, pad, setT_nm, setT_tup, setTs_nil, setTs_cons, decide_eq_true_eq, Bool.not_eq_true', Bool.not_true, Bool.not_false, if_true, if_false, Bool.false_eq_true, Bool.true_eq_false, reduceIte, Nat.reduceAdd, Nat.reduceSub, Nat.reduceBEq, pow_10_9, pow_10_20, pow_10_30, cpow_10_9, cpow_10_20, cpow_10_30, divP_lit, mulP_r, mulP_l, lne_line, lt_line, isi_int, isi_bool, Int.reduceLT, Int.reduceLE, Int.reduceGT, Int.reduceGE, Int.reduceNeg, Int.reduceMul, Int.reduceAdd, Int.reduceSub, Nat.reduceLeDiff, Nat.reduceLT, true_and, and_true, decide_true, decide_false, sga, wipeP, List.set_cons_zero, List.set_cons_succ, evSs_nil, List.lookup, Nat.reduceBEq, seq_str, seq_tup, seq_fl, Bool.true_and, Bool.and_true, Bool.false_and, Bool.and_false, beq_self_eq_true])
  rw [evSs_cons]
  simp only [evS, evE, evEs, evO, evB, evBs, evI, List.map_cons, List.map_nil, List.replicate_succ, List.replicate_zero, List.cons_append, List.nil_append, List.getElem?_cons_zero, List.getElem?_cons_succ, List.set_cons_zero, List.set_cons_succ, bv_add, bv_sub, bv_mul, bv_div, bv_mod, bv_pow, bv_str, av_add, av_sub, cv_lt, cv_le, cv_gt, cv_ge, cv_eq, cv_ne, cv_eqS, cv_neS, tv_bl, tv_int, List.length_cons, List.length_nil, pad, setT_nm, setT_tup, setTs_nil, setTs_cons, decide_eq_true_eq, Bool.not_eq_true', Bool.not_true, Bool.not_false, if_true, if_false, Bool.false_eq_true, Bool.true_eq_false, reduceIte, Nat.reduceAdd, Nat.reduceSub, Nat.reduceBEq, pow_10_9, pow_10_20, pow_10_30, cpow_10_9, cpow_10_20, cpow_10_30, divP_lit, mulP_r, mulP_l, lne_line, lt_line, isi_int, isi_bool, Int.reduceLT, Int.reduceLE, Int.reduceGT, Int.reduceGE, Int.reduceNeg, Int.reduceMul, Int.reduceAdd, Int.reduceSub, Nat.reduceLeDiff, Nat.reduceLT, true_and, and_true, decide_true, decide_false, sga, wipeP, List.set_cons_zero, List.set_cons_succ, evSs_nil, List.lookup, Nat.reduceBEq, seq_str, seq_tup, seq_fl, Bool.true_and, Bool.and_true, Bool.false_and, Bool.and_false, beq_self_eq_true, subV, C.n, e2]
  rw [evSs_cons]
  simp only [evS, evE, evEs, evO, evB, evBs, evI, List.map_cons, List.map_nil, List.replicate_succ, List.replicate_zero, List.cons_append, List.nil_append, List.getElem?_cons_zero, List.getElem?_cons_succ, List.set_cons_zero, List.set_cons_succ, bv_add, bv_sub, bv_mul, bv_div, bv_mod, bv_pow, bv_str, av_add, av_sub, cv_lt, cv_le, cv_gt, cv_ge, cv_eq, cv_ne, cv_eqS, cv_neS, tv_bl, tv_int, List.length_cons, List.length_nil, pad, setT_nm, setT_tup, setTs_nil, setTs_cons, decide_eq_true_eq, Bool.not_eq_true', Bool.not_true, Bool.not_false, if_true, if_false, Bool.false_eq_true, Bool.true_eq_false, reduceIte, Nat.reduceAdd, Nat.reduceSub, Nat.reduceBEq, pow_10_9, pow_10_20, pow_10_30, cpow_10_9, cpow_10_20, cpow_10_30, divP_lit, mulP_r, mulP_l, lne_line, lt_line, isi_int, isi_bool, Int.reduceLT, Int.reduceLE, Int.reduceGT, Int.reduceGE, Int.reduceNeg, Int.reduceMul, Int.reduceAdd, Int.reduceSub, Nat.reduceLeDiff, Nat.reduceLT, true_and, and_true, decide_true, decide_false, sga, wipeP, List.set_cons_zero, List.set_cons_succ, evSs_nil, List.lookup, Nat.reduceBEq, seq_str, seq_tup, seq_fl, Bool.true_and, Bool.and_true, Bool.false_and, Bool.and_false, beq_self_eq_true]
  refine pickW3 (Int.emod_nonneg _ (by decide)) (Int.emod_lt_of_pos _ (by decide)) fun w g1 hw l1 => ?_
  have C1 := C.ple l1
  (try simp only [evS, evE, evEs, evO, evB, evBs, evI, List.map_cons, List.map_nil, List.replicate_succ, List.replicate_zero, List.cons_append, List.nil_append, List.getElem?_cons_zero, List.getElem?_cons_succ, List.set_cons_zero, List.set_cons_succ, bv_add, bv_sub, bv_mul, bv_div, bv_mod, bv_pow, bv_str, av_add, av_sub, cv_lt, cv_le, cv_gt, cv_ge, cv_eq, cv_ne, cv_eqS, cv_neS, tv_bl, tv_int, List.length_cons, List.length_nil, pad, setT_nm, setT_tup, setTs_nil, setTs_cons, decide_eq_true_eq, Bool.not_eq_true', Bool.not_true, Bool.not_false, if_true, if_false, Bool.false_eq_true, Bool.true_eq_false, reduceIte, Nat.reduceAdd, Nat.reduceSub, Nat.reduceBEq, pow_10_9, pow_10_20, pow_10_30, cpow_10_9, cpow_10_20, cpow_10_30, divP_lit, mulP_r, mulP_l, lne_line, lt_line, isi_int, isi_bool, Int.reduceLT, Int.reduceLE, Int.reduceGT, Int.reduceGE, Int.reduceNeg, Int.reduceMul, Int.reduceAdd, Int.reduceSub, Nat.reduceLeDiff, Nat.reduceLT, true_and, and_true, decide_true, decide_false, sga, wipeP, List.set_cons_zero, List.set_cons_succ, evSs_nil, List.lookup, Nat.reduceBEq, seq_str, seq_tup, seq_fl, Bool.true_and, Bool.and_true, Bool.false_and, Bool.and_false, beq_self_eq_true])
  rw [evSs_cons]
  simp only [evS, evE, evEs, evO, evB, evBs, evI, List.map_cons, List.map_nil, List.replicate_succ, List.replicate_zero, List.cons_append, List.nil_append, List.getElem?_cons_zero, List.getElem?_cons_succ, List.set_cons_zero, List.set_cons_succ, bv_add, bv_sub, bv_mul, bv_div, bv_mod, bv_pow, bv_str, av_add, av_sub, cv_lt, cv_le, cv_gt, cv_ge, cv_eq, cv_ne, cv_eqS, cv_neS, tv_bl, tv_int, List.length_cons, List.length_nil, pad, setT_nm, setT_tup, setTs_nil, setTs_cons, decide_eq_true_eq, Bool.not_eq_true', Bool.not_true, Bool.not_false, if_true, if_false, Bool.false_eq_true, Bool.true_eq_false, reduceIte, Nat.reduceAdd, Nat.reduceSub, Nat.reduceBEq, pow_10_9, pow_10_20, pow_10_30, cpow_10_9, cpow_10_20, cpow_10_30, divP_lit, mulP_r, mulP_l, lne_line, lt_line, isi_int, isi_bool, Int.reduceLT, Int.reduceLE, Int.reduceGT, Int.reduceGE, Int.reduceNeg, Int.reduceMul, Int.reduceAdd, Int.reduceSub, Nat.reduceLeDiff, Nat.reduceLT, true_and, and_true, decide_true, decide_false, sga, wipeP, List.set_cons_zero, List.set_cons_succ, evSs_nil, List.lookup, Nat.reduceBEq, seq_str, seq_tup, seq_fl, Bool.true_and, Bool.and_true, Bool.false_and, Bool.and_false, beq_self_eq_true]
  rw [evSs_cons]
  simp only [evS, evE, evEs, evO, evB, evBs, evI, List.map_cons, List.map_nil, List.replicate_succ, List.replicate_zero, List.cons_append, List.nil_append, List.getElem?_cons_zero, List.getElem?_cons_succ, List.set_cons_zero, List.set_cons_succ, bv_add, bv_sub, bv_mul, bv_div, bv_mod, bv_pow, bv_str, av_add, av_sub, cv_lt, cv_le, cv_gt, cv_ge, cv_eq, cv_ne, cv_eqS, cv_neS, tv_bl, tv_int, List.length_cons, List.length_nil, pad, setT_nm, setT_tup, setTs_nil, setTs_cons, decide_eq_true_eq, Bool.not_eq_true', Bool.not_true, Bool.not_false, if_true, if_false, Bool.false_eq_true, Bool.true_eq_false, reduceIte, Nat.reduceAdd, Nat.reduceSub, Nat.reduceBEq, pow_10_9, pow_10_20, pow_10_30, cpow_10_9, cpow_10_20, cpow_10_30, divP_lit, mulP_r, mulP_l, lne_line, lt_line, isi_int, isi_bool, Int.reduceLT, Int.reduceLE, Int.reduceGT, Int.reduceGE, Int.reduceNeg, Int.reduceMul, Int.reduceAdd, Int.reduceSub, Nat.reduceLeDiff, Nat.reduceLT, true_and, and_true, decide_true, decide_false, sga, wipeP, List.set_cons_zero, List.set_cons_succ, evSs_nil, List.lookup, Nat.reduceBEq, seq_str, seq_tup, seq_fl, Bool.true_and, Bool.and_true, Bool.false_and, Bool.and_false, beq_self_eq_true]
  refine amount_sp (by
    have := Int.emod_nonneg (N / 432) (b := 10007) (by decide)
    omega) fun am ham => ?_
  (try simp only [evS, evE, evEs, evO, evB, evBs, evI, List.map_cons, List.map_nil, List.replicate_succ, List.replicate_zero, List.cons_append, List.nil_append, List.getElem?_cons_zero, List.getElem?_cons_succ, List.set_cons_zero, List.set_cons_succ, bv_add, bv_sub, bv_mul, bv_div, bv_mod, bv_pow, bv_str, av_add, av_sub, cv_lt, cv_le, cv_gt, cv_ge, cv_eq, cv_ne, cv_eqS, cv_neS, tv_bl, tv_int, List.length_cons, List.length_nil, pad, setT_nm, setT_tup, setTs_nil, setTs_cons, decide_eq_true_eq, Bool.not_eq_true', Bool.not_true, Bool.not_false, if_true, if_false, Bool.false_eq_true, Bool.true_eq_false, reduceIte, Nat.reduceAdd, Nat.reduceSub, Nat.reduceBEq, pow_10_9, pow_10_20, pow_10_30, cpow_10_9, cpow_10_20, cpow_10_30, divP_lit, mulP_r, mulP_l, lne_line, lt_line, isi_int, isi_bool, Int.reduceLT, Int.reduceLE, Int.reduceGT, Int.reduceGE, Int.reduceNeg, Int.reduceMul, Int.reduceAdd, Int.reduceSub, Nat.reduceLeDiff, Nat.reduceLT, true_and, and_true, decide_true, decide_false, sga, wipeP, List.set_cons_zero, List.set_cons_succ, evSs_nil, List.lookup, Nat.reduceBEq, seq_str, seq_tup, seq_fl, Bool.true_and, Bool.and_true, Bool.false_and, Bool.and_false, beq_self_eq_true])
  rw [evSs_cons]
  simp only [evS, evE, evEs, evO, evB, evBs, evI, List.map_cons, List.map_nil, List.replicate_succ, List.replicate_zero, List.cons_append, List.nil_append, List.getElem?_cons_zero, List.getElem?_cons_succ, List.set_cons_zero, List.set_cons_succ, bv_add, bv_sub, bv_mul, bv_div, bv_mod, bv_pow, bv_str, av_add, av_sub, cv_lt, cv_le, cv_gt, cv_ge, cv_eq, cv_ne, cv_eqS, cv_neS, tv_bl, tv_int, List.length_cons, List.length_nil, pad, setT_nm, setT_tup, setTs_nil, setTs_cons, decide_eq_true_eq, Bool.not_eq_true', Bool.not_true, Bool.not_false, if_true, if_false, Bool.false_eq_true, Bool.true_eq_false, reduceIte, Nat.reduceAdd, Nat.reduceSub, Nat.reduceBEq, pow_10_9, pow_10_20, pow_10_30, cpow_10_9, cpow_10_20, cpow_10_30, divP_lit, mulP_r, mulP_l, lne_line, lt_line, isi_int, isi_bool, Int.reduceLT, Int.reduceLE, Int.reduceGT, Int.reduceGE, Int.reduceNeg, Int.reduceMul, Int.reduceAdd, Int.reduceSub, Nat.reduceLeDiff, Nat.reduceLT, true_and, and_true, decide_true, decide_false, sga, wipeP, List.set_cons_zero, List.set_cons_succ, evSs_nil, List.lookup, Nat.reduceBEq, seq_str, seq_tup, seq_fl, Bool.true_and, Bool.and_true, Bool.false_and, Bool.and_false, beq_self_eq_true]
  refine amount_sp (Int.emod_nonneg _ (by decide)) fun pr hpr => ?_
  (try simp only [evS, evE, evEs, evO, evB, evBs, evI, List.map_cons, List.map_nil, List.replicate_succ, List.replicate_zero, List.cons_append, List.nil_append, List.getElem?_cons_zero, List.getElem?_cons_succ, List.set_cons_zero, List.set_cons_succ, bv_add, bv_sub, bv_mul, bv_div, bv_mod, bv_pow, bv_str, av_add, av_sub, cv_lt, cv_le, cv_gt, cv_ge, cv_eq, cv_ne, cv_eqS, cv_neS, tv_bl, tv_int, List.length_cons, List.length_nil, pad, setT_nm, setT_tup, setTs_nil, setTs_cons, decide_eq_true_eq, Bool.not_eq_true', Bool.not_true, Bool.not_false, if_true, if_false, Bool.false_eq_true, Bool.true_eq_false, reduceIte, Nat.reduceAdd, Nat.reduceSub, Nat.reduceBEq, pow_10_9, pow_10_20, pow_10_30, cpow_10_9, cpow_10_20, cpow_10_30, divP_lit, mulP_r, mulP_l, lne_line, lt_line, isi_int, isi_bool, Int.reduceLT, Int.reduceLE, Int.reduceGT, Int.reduceGE, Int.reduceNeg, Int.reduceMul, Int.reduceAdd, Int.reduceSub, Nat.reduceLeDiff, Nat.reduceLT, true_and, and_true, decide_true, decide_false, sga, wipeP, List.set_cons_zero, List.set_cons_succ, evSs_nil, List.lookup, Nat.reduceBEq, seq_str, seq_tup, seq_fl, Bool.true_and, Bool.and_true, Bool.false_and, Bool.and_false, beq_self_eq_true])
  rw [evSs_cons]
  have kl := P.ln
  have fin : ∀ (g2 g3 : PH) (L2 : Led) (kvs2 : List (List Key × PV)) (f2 : Str → Str → Int), Cells g2 a o t nl S L2 kvs met → Keeps L.ads g1 g2 → (∀ b ∈ L2.ads, b ∈ L.ads ∨ g1 b = none) → g3 = pup g2 o (.dctT kvs2) → Pl L2 kvs2 (ins (ins met one) other) f2 S (k + 1) →
      ∀ g4, g4 t = some (.lst ((ins (ins met one) other).map .str)) → Keeps [t] g3 g4 → Q .non g4 := fun g2 g3 L2 kvs2 f2 C2 k2 a2 e3 P2 g4 et k4 => by
    subst e3
    refine q g4 L2 kvs2 _ f2 ((C2.setO (kvs' := kvs2)).setM et k4) P2 ((keeps_le l1).trans ((keeps_sub k2 fun b hb => by simp [hb]).trans ((keeps_sub (keeps_pup (p := o) (c := .dctT kvs2)) fun b hb => by simp at hb; simp [hb]).trans (keeps_sub k4 fun b hb => by simp at hb; simp [hb])))) fun b hb => (a2 b hb).imp id fun z => none_le l1 z
  simp only [evS, evE, evEs, evO, evB, evBs, evI, List.map_cons, List.map_nil, List.replicate_succ, List.replicate_zero, List.cons_append, List.nil_append, List.getElem?_cons_zero, List.getElem?_cons_succ, List.set_cons_zero, List.set_cons_succ, bv_add, bv_sub, bv_mul, bv_div, bv_mod, bv_pow, bv_str, av_add, av_sub, cv_lt, cv_le, cv_gt, cv_ge, cv_eq, cv_ne, cv_eqS, cv_neS, tv_bl, tv_int, List.length_cons, List.length_nil, pad, setT_nm, setT_tup, setTs_nil, setTs_cons, decide_eq_true_eq, Bool.not_eq_true', Bool.not_true, Bool.not_false, if_true, if_false, Bool.false_eq_true, Bool.true_eq_false, reduceIte, Nat.reduceAdd, Nat.reduceSub, Nat.reduceBEq, pow_10_9, pow_10_20, pow_10_30, cpow_10_9, cpow_10_20, cpow_10_30, divP_lit, mulP_r, mulP_l, lne_line, lt_line, isi_int, isi_bool, Int.reduceLT, Int.reduceLE, Int.reduceGT, Int.reduceGE, Int.reduceNeg, Int.reduceMul, Int.reduceAdd, Int.reduceSub, Nat.reduceLeDiff, Nat.reduceLT, true_and, and_true, decide_true, decide_false, sga, wipeP, List.set_cons_zero, List.set_cons_succ, evSs_nil, List.lookup, Nat.reduceBEq, seq_str, seq_tup, seq_fl, Bool.true_and, Bool.and_true, Bool.false_and, Bool.and_false, beq_self_eq_true]
  by_cases hw2 : N / 108 % 4 < 2
  · rw [if_pos (by simpa using hw2), evSs_cons]
    simp only [evS, evE, evEs, evO, evB, evBs, evI, List.map_cons, List.map_nil, List.replicate_succ, List.replicate_zero, List.cons_append, List.nil_append, List.getElem?_cons_zero, List.getElem?_cons_succ, List.set_cons_zero, List.set_cons_succ, bv_add, bv_sub, bv_mul, bv_div, bv_mod, bv_pow, bv_str, av_add, av_sub, cv_lt, cv_le, cv_gt, cv_ge, cv_eq, cv_ne, cv_eqS, cv_neS, tv_bl, tv_int, List.length_cons, List.length_nil, pad, setT_nm, setT_tup, setTs_nil, setTs_cons, decide_eq_true_eq, Bool.not_eq_true', Bool.not_true, Bool.not_false, if_true, if_false, Bool.false_eq_true, Bool.true_eq_false, reduceIte, Nat.reduceAdd, Nat.reduceSub, Nat.reduceBEq, pow_10_9, pow_10_20, pow_10_30, cpow_10_9, cpow_10_20, cpow_10_30, divP_lit, mulP_r, mulP_l, lne_line, lt_line, isi_int, isi_bool, Int.reduceLT, Int.reduceLE, Int.reduceGT, Int.reduceGE, Int.reduceNeg, Int.reduceMul, Int.reduceAdd, Int.reduceSub, Nat.reduceLeDiff, Nat.reduceLT, true_and, and_true, decide_true, decide_false, sga, wipeP, List.set_cons_zero, List.set_cons_succ, evSs_nil, List.lookup, Nat.reduceBEq, seq_str, seq_tup, seq_fl, Bool.true_and, Bool.and_true, Bool.false_and, Bool.and_false, beq_self_eq_true, C1.l.o, List.lookup_nil]
    refine dealt_sp (pr := pr) C1.l C1.i h1 h2 hw ⟨by omega, by omega⟩ fun g2 L2 l2 i2 D => ?_
    have C2 := C1.led l2 i2 D.f
    (try simp only [evS, evE, evEs, evO, evB, evBs, evI, List.map_cons, List.map_nil, List.replicate_succ, List.replicate_zero, List.cons_append, List.nil_append, List.getElem?_cons_zero, List.getElem?_cons_succ, List.set_cons_zero, List.set_cons_succ, bv_add, bv_sub, bv_mul, bv_div, bv_mod, bv_pow, bv_str, av_add, av_sub, cv_lt, cv_le, cv_gt, cv_ge, cv_eq, cv_ne, cv_eqS, cv_neS, tv_bl, tv_int, List.length_cons, List.length_nil, pad, setT_nm, setT_tup, setTs_nil, setTs_cons, decide_eq_true_eq, Bool.not_eq_true', Bool.not_true, Bool.not_false, if_true, if_false, Bool.false_eq_true, Bool.true_eq_false, reduceIte, Nat.reduceAdd, Nat.reduceSub, Nat.reduceBEq, pow_10_9, pow_10_20, pow_10_30, cpow_10_9, cpow_10_20, cpow_10_30, divP_lit, mulP_r, mulP_l, lne_line, lt_line, isi_int, isi_bool, Int.reduceLT, Int.reduceLE, Int.reduceGT, Int.reduceGE, Int.reduceNeg, Int.reduceMul, Int.reduceAdd, Int.reduceSub, Nat.reduceLeDiff, Nat.reduceLT, true_and, and_true, decide_true, decide_false, sga, wipeP, List.set_cons_zero, List.set_cons_succ, evSs_nil, List.lookup, Nat.reduceBEq, seq_str, seq_tup, seq_fl, Bool.true_and, Bool.and_true, Bool.false_and, Bool.and_false, beq_self_eq_true])
    rw [evSs_cons]
    simp only [evS, evE, evEs, evO, evB, evBs, evI, List.map_cons, List.map_nil, List.replicate_succ, List.replicate_zero, List.cons_append, List.nil_append, List.getElem?_cons_zero, List.getElem?_cons_succ, List.set_cons_zero, List.set_cons_succ, bv_add, bv_sub, bv_mul, bv_div, bv_mod, bv_pow, bv_str, av_add, av_sub, cv_lt, cv_le, cv_gt, cv_ge, cv_eq, cv_ne, cv_eqS, cv_neS, tv_bl, tv_int, List.length_cons, List.length_nil, pad, setT_nm, setT_tup, setTs_nil, setTs_cons, decide_eq_true_eq, Bool.not_eq_true', Bool.not_true, Bool.not_false, if_true, if_false, Bool.false_eq_true, Bool.true_eq_false, reduceIte, Nat.reduceAdd, Nat.reduceSub, Nat.reduceBEq, pow_10_9, pow_10_20, pow_10_30, cpow_10_9, cpow_10_20, cpow_10_30, divP_lit, mulP_r, mulP_l, lne_line, lt_line, isi_int, isi_bool, Int.reduceLT, Int.reduceLE, Int.reduceGT, Int.reduceGE, Int.reduceNeg, Int.reduceMul, Int.reduceAdd, Int.reduceSub, Nat.reduceLeDiff, Nat.reduceLT, true_and, and_true, decide_true, decide_false, sga, wipeP, List.set_cons_zero, List.set_cons_succ, evSs_nil, List.lookup, Nat.reduceBEq, seq_str, seq_tup, seq_fl, Bool.true_and, Bool.and_true, Bool.false_and, Bool.and_false, beq_self_eq_true]
    refine moved_sp C2.co P.v (by omega) fun kvs2 v2 n2 => ?_
    (try simp only [evS, evE, evEs, evO, evB, evBs, evI, List.map_cons, List.map_nil, List.replicate_succ, List.replicate_zero, List.cons_append, List.nil_append, List.getElem?_cons_zero, List.getElem?_cons_succ, List.set_cons_zero, List.set_cons_succ, bv_add, bv_sub, bv_mul, bv_div, bv_mod, bv_pow, bv_str, av_add, av_sub, cv_lt, cv_le, cv_gt, cv_ge, cv_eq, cv_ne, cv_eqS, cv_neS, tv_bl, tv_int, List.length_cons, List.length_nil, pad, setT_nm, setT_tup, setTs_nil, setTs_cons, decide_eq_true_eq, Bool.not_eq_true', Bool.not_true, Bool.not_false, if_true, if_false, Bool.false_eq_true, Bool.true_eq_false, reduceIte, Nat.reduceAdd, Nat.reduceSub, Nat.reduceBEq, pow_10_9, pow_10_20, pow_10_30, cpow_10_9, cpow_10_20, cpow_10_30, divP_lit, mulP_r, mulP_l, lne_line, lt_line, isi_int, isi_bool, Int.reduceLT, Int.reduceLE, Int.reduceGT, Int.reduceGE, Int.reduceNeg, Int.reduceMul, Int.reduceAdd, Int.reduceSub, Nat.reduceLeDiff, Nat.reduceLT, true_and, and_true, decide_true, decide_false, sga, wipeP, List.set_cons_zero, List.set_cons_succ, evSs_nil, List.lookup, Nat.reduceBEq, seq_str, seq_tup, seq_fl, Bool.true_and, Bool.and_true, Bool.false_and, Bool.and_false, beq_self_eq_true])
    rw [evSs_cons]
    simp only [evS, evE, evEs, evO, evB, evBs, evI, List.map_cons, List.map_nil, List.replicate_succ, List.replicate_zero, List.cons_append, List.nil_append, List.getElem?_cons_zero, List.getElem?_cons_succ, List.set_cons_zero, List.set_cons_succ, bv_add, bv_sub, bv_mul, bv_div, bv_mod, bv_pow, bv_str, av_add, av_sub, cv_lt, cv_le, cv_gt, cv_ge, cv_eq, cv_ne, cv_eqS, cv_neS, tv_bl, tv_int, List.length_cons, List.length_nil, pad, setT_nm, setT_tup, setTs_nil, setTs_cons, decide_eq_true_eq, Bool.not_eq_true', Bool.not_true, Bool.not_false, if_true, if_false, Bool.false_eq_true, Bool.true_eq_false, reduceIte, Nat.reduceAdd, Nat.reduceSub, Nat.reduceBEq, pow_10_9, pow_10_20, pow_10_30, cpow_10_9, cpow_10_20, cpow_10_30, divP_lit, mulP_r, mulP_l, lne_line, lt_line, isi_int, isi_bool, Int.reduceLT, Int.reduceLE, Int.reduceGT, Int.reduceGE, Int.reduceNeg, Int.reduceMul, Int.reduceAdd, Int.reduceSub, Nat.reduceLeDiff, Nat.reduceLT, true_and, and_true, decide_true, decide_false, sga, wipeP, List.set_cons_zero, List.set_cons_succ, evSs_nil, List.lookup, Nat.reduceBEq, seq_str, seq_tup, seq_fl, Bool.true_and, Bool.and_true, Bool.false_and, Bool.and_false, beq_self_eq_true, mulP_l (show -18446744073709551616 < pr by omega) (show pr < 18446744073709551616 by omega)]
    refine moved_sp pup_same v2 (by omega) fun kvs3 v3 n3 => ?_
    rw [pup_pup]
    have P2 := P.dealt D nd h1 h2 hw v3 (by omega)
    (try simp only [evS, evE, evEs, evO, evB, evBs, evI, List.map_cons, List.map_nil, List.replicate_succ, List.replicate_zero, List.cons_append, List.nil_append, List.getElem?_cons_zero, List.getElem?_cons_succ, List.set_cons_zero, List.set_cons_succ, bv_add, bv_sub, bv_mul, bv_div, bv_mod, bv_pow, bv_str, av_add, av_sub, cv_lt, cv_le, cv_gt, cv_ge, cv_eq, cv_ne, cv_eqS, cv_neS, tv_bl, tv_int, List.length_cons, List.length_nil, pad, setT_nm, setT_tup, setTs_nil, setTs_cons, decide_eq_true_eq, Bool.not_eq_true', Bool.not_true, Bool.not_false, if_true, if_false, Bool.false_eq_true, Bool.true_eq_false, reduceIte, Nat.reduceAdd, Nat.reduceSub, Nat.reduceBEq, pow_10_9, pow_10_20, pow_10_30, cpow_10_9, cpow_10_20, cpow_10_30, divP_lit, mulP_r, mulP_l, lne_line, lt_line, isi_int, isi_bool, Int.reduceLT, Int.reduceLE, Int.reduceGT, Int.reduceGE, Int.reduceNeg, Int.reduceMul, Int.reduceAdd, Int.reduceSub, Nat.reduceLeDiff, Nat.reduceLT, true_and, and_true, decide_true, decide_false, sga, wipeP, List.set_cons_zero, List.set_cons_succ, evSs_nil, List.lookup, Nat.reduceBEq, seq_str, seq_tup, seq_fl, Bool.true_and, Bool.and_true, Bool.false_and, Bool.and_false, beq_self_eq_true])
    exact tT (C2.setO (kvs' := kvs3)).ct ml (fin g2 _ L2 kvs3 _ C2 D.f D.a rfl P2)
  · rw [if_neg (by simpa using hw2), evSs_cons]
    simp only [evS, evE, evEs, evO, evB, evBs, evI, List.map_cons, List.map_nil, List.replicate_succ, List.replicate_zero, List.cons_append, List.nil_append, List.getElem?_cons_zero, List.getElem?_cons_succ, List.set_cons_zero, List.set_cons_succ, bv_add, bv_sub, bv_mul, bv_div, bv_mod, bv_pow, bv_str, av_add, av_sub, cv_lt, cv_le, cv_gt, cv_ge, cv_eq, cv_ne, cv_eqS, cv_neS, tv_bl, tv_int, List.length_cons, List.length_nil, pad, setT_nm, setT_tup, setTs_nil, setTs_cons, decide_eq_true_eq, Bool.not_eq_true', Bool.not_true, Bool.not_false, if_true, if_false, Bool.false_eq_true, Bool.true_eq_false, reduceIte, Nat.reduceAdd, Nat.reduceSub, Nat.reduceBEq, pow_10_9, pow_10_20, pow_10_30, cpow_10_9, cpow_10_20, cpow_10_30, divP_lit, mulP_r, mulP_l, lne_line, lt_line, isi_int, isi_bool, Int.reduceLT, Int.reduceLE, Int.reduceGT, Int.reduceGE, Int.reduceNeg, Int.reduceMul, Int.reduceAdd, Int.reduceSub, Nat.reduceLeDiff, Nat.reduceLT, true_and, and_true, decide_true, decide_false, sga, wipeP, List.set_cons_zero, List.set_cons_succ, evSs_nil, List.lookup, Nat.reduceBEq, seq_str, seq_tup, seq_fl, Bool.true_and, Bool.and_true, Bool.false_and, Bool.and_false, beq_self_eq_true]
    by_cases hw3 : N / 108 % 4 = 2
    · rw [if_pos (by simpa using hw3), evSs_cons]
      simp only [evS, evE, evEs, evO, evB, evBs, evI, List.map_cons, List.map_nil, List.replicate_succ, List.replicate_zero, List.cons_append, List.nil_append, List.getElem?_cons_zero, List.getElem?_cons_succ, List.set_cons_zero, List.set_cons_succ, bv_add, bv_sub, bv_mul, bv_div, bv_mod, bv_pow, bv_str, av_add, av_sub, cv_lt, cv_le, cv_gt, cv_ge, cv_eq, cv_ne, cv_eqS, cv_neS, tv_bl, tv_int, List.length_cons, List.length_nil, pad, setT_nm, setT_tup, setTs_nil, setTs_cons, decide_eq_true_eq, Bool.not_eq_true', Bool.not_true, Bool.not_false, if_true, if_false, Bool.false_eq_true, Bool.true_eq_false, reduceIte, Nat.reduceAdd, Nat.reduceSub, Nat.reduceBEq, pow_10_9, pow_10_20, pow_10_30, cpow_10_9, cpow_10_20, cpow_10_30, divP_lit, mulP_r, mulP_l, lne_line, lt_line, isi_int, isi_bool, Int.reduceLT, Int.reduceLE, Int.reduceGT, Int.reduceGE, Int.reduceNeg, Int.reduceMul, Int.reduceAdd, Int.reduceSub, Nat.reduceLeDiff, Nat.reduceLT, true_and, and_true, decide_true, decide_false, sga, wipeP, List.set_cons_zero, List.set_cons_succ, evSs_nil, List.lookup, Nat.reduceBEq, seq_str, seq_tup, seq_fl, Bool.true_and, Bool.and_true, Bool.false_and, Bool.and_false, beq_self_eq_true, C1.l.o, List.lookup_nil, mulP_r (show -18446744073709551616 < pr by omega) (show pr < 18446744073709551616 by omega)]
      refine pay_sp (c := (am - pr) * pr) C1.l C1.i fun g2 l2 kp => ?_
      have C2 := C1.led l2 (pay_in C1.i h1 h2) kp
      (try simp only [evS, evE, evEs, evO, evB, evBs, evI, List.map_cons, List.map_nil, List.replicate_succ, List.replicate_zero, List.cons_append, List.nil_append, List.getElem?_cons_zero, List.getElem?_cons_succ, List.set_cons_zero, List.set_cons_succ, bv_add, bv_sub, bv_mul, bv_div, bv_mod, bv_pow, bv_str, av_add, av_sub, cv_lt, cv_le, cv_gt, cv_ge, cv_eq, cv_ne, cv_eqS, cv_neS, tv_bl, tv_int, List.length_cons, List.length_nil, pad, setT_nm, setT_tup, setTs_nil, setTs_cons, decide_eq_true_eq, Bool.not_eq_true', Bool.not_true, Bool.not_false, if_true, if_false, Bool.false_eq_true, Bool.true_eq_false, reduceIte, Nat.reduceAdd, Nat.reduceSub, Nat.reduceBEq, pow_10_9, pow_10_20, pow_10_30, cpow_10_9, cpow_10_20, cpow_10_30, divP_lit, mulP_r, mulP_l, lne_line, lt_line, isi_int, isi_bool, Int.reduceLT, Int.reduceLE, Int.reduceGT, Int.reduceGE, Int.reduceNeg, Int.reduceMul, Int.reduceAdd, Int.reduceSub, Nat.reduceLeDiff, Nat.reduceLT, true_and, and_true, decide_true, decide_false, sga, wipeP, List.set_cons_zero, List.set_cons_succ, evSs_nil, List.lookup, Nat.reduceBEq, seq_str, seq_tup, seq_fl, Bool.true_and, Bool.and_true, Bool.false_and, Bool.and_false, beq_self_eq_true])
      rw [evSs_cons]
      simp only [evS, evE, evEs, evO, evB, evBs, evI, List.map_cons, List.map_nil, List.replicate_succ, List.replicate_zero, List.cons_append, List.nil_append, List.getElem?_cons_zero, List.getElem?_cons_succ, List.set_cons_zero, List.set_cons_succ, bv_add, bv_sub, bv_mul, bv_div, bv_mod, bv_pow, bv_str, av_add, av_sub, cv_lt, cv_le, cv_gt, cv_ge, cv_eq, cv_ne, cv_eqS, cv_neS, tv_bl, tv_int, List.length_cons, List.length_nil, pad, setT_nm, setT_tup, setTs_nil, setTs_cons, decide_eq_true_eq, Bool.not_eq_true', Bool.not_true, Bool.not_false, if_true, if_false, Bool.false_eq_true, Bool.true_eq_false, reduceIte, Nat.reduceAdd, Nat.reduceSub, Nat.reduceBEq, pow_10_9, pow_10_20, pow_10_30, cpow_10_9, cpow_10_20, cpow_10_30, divP_lit, mulP_r, mulP_l, lne_line, lt_line, isi_int, isi_bool, Int.reduceLT, Int.reduceLE, Int.reduceGT, Int.reduceGE, Int.reduceNeg, Int.reduceMul, Int.reduceAdd, Int.reduceSub, Nat.reduceLeDiff, Nat.reduceLT, true_and, and_true, decide_true, decide_false, sga, wipeP, List.set_cons_zero, List.set_cons_succ, evSs_nil, List.lookup, Nat.reduceBEq, seq_str, seq_tup, seq_fl, Bool.true_and, Bool.and_true, Bool.false_and, Bool.and_false, beq_self_eq_true, mulP_r (show -18446744073709551616 < pr by omega) (show pr < 18446744073709551616 by omega)]
      refine moved_sp C2.co P.v (by omega) fun kvs2 v2 n2 => ?_
      have P2 := P.pay nd h1 h2 v2 (by omega)
      (try simp only [evS, evE, evEs, evO, evB, evBs, evI, List.map_cons, List.map_nil, List.replicate_succ, List.replicate_zero, List.cons_append, List.nil_append, List.getElem?_cons_zero, List.getElem?_cons_succ, List.set_cons_zero, List.set_cons_succ, bv_add, bv_sub, bv_mul, bv_div, bv_mod, bv_pow, bv_str, av_add, av_sub, cv_lt, cv_le, cv_gt, cv_ge, cv_eq, cv_ne, cv_eqS, cv_neS, tv_bl, tv_int, List.length_cons, List.length_nil, pad, setT_nm, setT_tup, setTs_nil, setTs_cons, decide_eq_true_eq, Bool.not_eq_true', Bool.not_true, Bool.not_false, if_true, if_false, Bool.false_eq_true, Bool.true_eq_false, reduceIte, Nat.reduceAdd, Nat.reduceSub, Nat.reduceBEq, pow_10_9, pow_10_20, pow_10_30, cpow_10_9, cpow_10_20, cpow_10_30, divP_lit, mulP_r, mulP_l, lne_line, lt_line, isi_int, isi_bool, Int.reduceLT, Int.reduceLE, Int.reduceGT, Int.reduceGE, Int.reduceNeg, Int.reduceMul, Int.reduceAdd, Int.reduceSub, Nat.reduceLeDiff, Nat.reduceLT, true_and, and_true, decide_true, decide_false, sga, wipeP, List.set_cons_zero, List.set_cons_succ, evSs_nil, List.lookup, Nat.reduceBEq, seq_str, seq_tup, seq_fl, Bool.true_and, Bool.and_true, Bool.false_and, Bool.and_false, beq_self_eq_true])
      exact tT (C2.setO (kvs' := kvs2)).ct ml (fin g2 _ (L.pay one other ((am - pr) * pr)) kvs2 _ C2 kp (fun b hb => .inl hb) rfl P2)
    · rw [if_neg (by simpa using hw3), evSs_cons]
      simp only [evS, evE, evEs, evO, evB, evBs, evI, List.map_cons, List.map_nil, List.replicate_succ, List.replicate_zero, List.cons_append, List.nil_append, List.getElem?_cons_zero, List.getElem?_cons_succ, List.set_cons_zero, List.set_cons_succ, bv_add, bv_sub, bv_mul, bv_div, bv_mod, bv_pow, bv_str, av_add, av_sub, cv_lt, cv_le, cv_gt, cv_ge, cv_eq, cv_ne, cv_eqS, cv_neS, tv_bl, tv_int, List.length_cons, List.length_nil, pad, setT_nm, setT_tup, setTs_nil, setTs_cons, decide_eq_true_eq, Bool.not_eq_true', Bool.not_true, Bool.not_false, if_true, if_false, Bool.false_eq_true, Bool.true_eq_false, reduceIte, Nat.reduceAdd, Nat.reduceSub, Nat.reduceBEq, pow_10_9, pow_10_20, pow_10_30, cpow_10_9, cpow_10_20, cpow_10_30, divP_lit, mulP_r, mulP_l, lne_line, lt_line, isi_int, isi_bool, Int.reduceLT, Int.reduceLE, Int.reduceGT, Int.reduceGE, Int.reduceNeg, Int.reduceMul, Int.reduceAdd, Int.reduceSub, Nat.reduceLeDiff, Nat.reduceLT, true_and, and_true, decide_true, decide_false, sga, wipeP, List.set_cons_zero, List.set_cons_succ, evSs_nil, List.lookup, Nat.reduceBEq, seq_str, seq_tup, seq_fl, Bool.true_and, Bool.and_true, Bool.false_and, Bool.and_false, beq_self_eq_true, C1.l.o, List.lookup_nil]
      refine hand_sp (x := pr - am) C1.l C1.i h1 h2 hw fun g2 L2 l2 i2 D => ?_
      have C2 := C1.led l2 i2 D.f
      (try simp only [evS, evE, evEs, evO, evB, evBs, evI, List.map_cons, List.map_nil, List.replicate_succ, List.replicate_zero, List.cons_append, List.nil_append, List.getElem?_cons_zero, List.getElem?_cons_succ, List.set_cons_zero, List.set_cons_succ, bv_add, bv_sub, bv_mul, bv_div, bv_mod, bv_pow, bv_str, av_add, av_sub, cv_lt, cv_le, cv_gt, cv_ge, cv_eq, cv_ne, cv_eqS, cv_neS, tv_bl, tv_int, List.length_cons, List.length_nil, pad, setT_nm, setT_tup, setTs_nil, setTs_cons, decide_eq_true_eq, Bool.not_eq_true', Bool.not_true, Bool.not_false, if_true, if_false, Bool.false_eq_true, Bool.true_eq_false, reduceIte, Nat.reduceAdd, Nat.reduceSub, Nat.reduceBEq, pow_10_9, pow_10_20, pow_10_30, cpow_10_9, cpow_10_20, cpow_10_30, divP_lit, mulP_r, mulP_l, lne_line, lt_line, isi_int, isi_bool, Int.reduceLT, Int.reduceLE, Int.reduceGT, Int.reduceGE, Int.reduceNeg, Int.reduceMul, Int.reduceAdd, Int.reduceSub, Nat.reduceLeDiff, Nat.reduceLT, true_and, and_true, decide_true, decide_false, sga, wipeP, List.set_cons_zero, List.set_cons_succ, evSs_nil, List.lookup, Nat.reduceBEq, seq_str, seq_tup, seq_fl, Bool.true_and, Bool.and_true, Bool.false_and, Bool.and_false, beq_self_eq_true])
      rw [evSs_cons]
      simp only [evS, evE, evEs, evO, evB, evBs, evI, List.map_cons, List.map_nil, List.replicate_succ, List.replicate_zero, List.cons_append, List.nil_append, List.getElem?_cons_zero, List.getElem?_cons_succ, List.set_cons_zero, List.set_cons_succ, bv_add, bv_sub, bv_mul, bv_div, bv_mod, bv_pow, bv_str, av_add, av_sub, cv_lt, cv_le, cv_gt, cv_ge, cv_eq, cv_ne, cv_eqS, cv_neS, tv_bl, tv_int, List.length_cons, List.length_nil, pad, setT_nm, setT_tup, setTs_nil, setTs_cons, decide_eq_true_eq, Bool.not_eq_true', Bool.not_true, Bool.not_false, if_true, if_false, Bool.false_eq_true, Bool.true_eq_false, reduceIte, Nat.reduceAdd, Nat.reduceSub, Nat.reduceBEq, pow_10_9, pow_10_20, pow_10_30, cpow_10_9, cpow_10_20, cpow_10_30, divP_lit, mulP_r, mulP_l, lne_line, lt_line, isi_int, isi_bool, Int.reduceLT, Int.reduceLE, Int.reduceGT, Int.reduceGE, Int.reduceNeg, Int.reduceMul, Int.reduceAdd, Int.reduceSub, Nat.reduceLeDiff, Nat.reduceLT, true_and, and_true, decide_true, decide_false, sga, wipeP, List.set_cons_zero, List.set_cons_succ, evSs_nil, List.lookup, Nat.reduceBEq, seq_str, seq_tup, seq_fl, Bool.true_and, Bool.and_true, Bool.false_and, Bool.and_false, beq_self_eq_true]
      refine moved_sp C2.co P.v (by omega) fun kvs2 v2 n2 => ?_
      have P2 := P.hand D nd h1 h2 hw v2 (by omega)
      (try simp only [evS, evE, evEs, evO, evB, evBs, evI, List.map_cons, List.map_nil, List.replicate_succ, List.replicate_zero, List.cons_append, List.nil_append, List.getElem?_cons_zero, List.getElem?_cons_succ, List.set_cons_zero, List.set_cons_succ, bv_add, bv_sub, bv_mul, bv_div, bv_mod, bv_pow, bv_str, av_add, av_sub, cv_lt, cv_le, cv_gt, cv_ge, cv_eq, cv_ne, cv_eqS, cv_neS, tv_bl, tv_int, List.length_cons, List.length_nil, pad, setT_nm, setT_tup, setTs_nil, setTs_cons, decide_eq_true_eq, Bool.not_eq_true', Bool.not_true, Bool.not_false, if_true, if_false, Bool.false_eq_true, Bool.true_eq_false, reduceIte, Nat.reduceAdd, Nat.reduceSub, Nat.reduceBEq, pow_10_9, pow_10_20, pow_10_30, cpow_10_9, cpow_10_20, cpow_10_30, divP_lit, mulP_r, mulP_l, lne_line, lt_line, isi_int, isi_bool, Int.reduceLT, Int.reduceLE, Int.reduceGT, Int.reduceGE, Int.reduceNeg, Int.reduceMul, Int.reduceAdd, Int.reduceSub, Nat.reduceLeDiff, Nat.reduceLT, true_and, and_true, decide_true, decide_false, sga, wipeP, List.set_cons_zero, List.set_cons_succ, evSs_nil, List.lookup, Nat.reduceBEq, seq_str, seq_tup, seq_fl, Bool.true_and, Bool.and_true, Bool.false_and, Bool.and_false, beq_self_eq_true])
      exact tT (C2.setO (kvs' := kvs2)).ct ml (fin g2 _ L2 kvs2 _ C2 D.f D.a rfl P2)
end
end LK

set_option autoImplicit false
namespace LK
open PySem L2 PySem.Spec Mir
open PyProof.Rows hiding St
/-! ### how a ledger stands -/
section
variable {n : Nat} {h : PH} {Q : QE} {X : Mir.XE} {a o t nl : Addr} {S : List Str} {L L' : Led} {kvs kvs' : List (List Key × PV)} {met : List Str} {f : Str → Str → Int} {k : Nat}
def wareB : Ss := match b14 with
  | .cons (.for _ _ b) _ => b
  | _ => .nil
theorem sizes_eq {p q : Addr} {v : Str → Int} {R : Bool → Prop} (e1 : h p = some (.lst (S.map fun m => .int (v m)))) (e2 : h q = some (.lst (S.map fun m => .int (v m)))) : eqK h (.loc p) (.loc q) R = R true :=
  eqK_lst (g := fun m => PV.int (v m)) e1 e2 fun x => by simp only [Mir.deq, beq_self_eq_true]
theorem wareEnd_sp {w : Str} {p q : Addr} {x0 x1 x2 x3 x7 x8 : Option PV} {D : PD} (e1 : h q = some (.lst (S.map fun m => .int (f m w)))) (e2 : h p = some (.lst (S.map fun m => .int (f m w)))) (z : Su (fun m => f m w) S = 0)
    (nx : D.nx [x0, x1, x2, x3, some (.str w), some (.loc p), some (.loc q), x7, x8] h) :
    evSs sg (sem sg (n + 8)) (match wareB with
      | .cons _ (.cons _ r) => r
      | _ => .nil) [x0, x1, x2, x3, some (.str w), some (.loc p), some (.loc q), x7, x8] h D := by
  rw [show wareB = _ from rfl, wareB, b14]
  (try dsimp only)
  rw [evSs_cons]
  simp only [evS, evE, evEs, evO, evB, evBs, evI, List.map_cons, List.map_nil, List.replicate_succ, List.replicate_zero, List.cons_append, List.nil_append, List.getElem?_cons_zero, List.getElem?_cons_succ, List.set_cons_zero, List.set_cons_succ, bv_add, bv_sub, bv_mul, bv_div, bv_mod, bv_pow, bv_str, av_add, av_sub, cv_lt, cv_le, cv_gt, cv_ge, cv_eq, cv_ne, cv_eqS, cv_neS, tv_bl, tv_int, List.length_cons, List.length_nil, pad, setT_nm, setT_tup, setTs_nil, setTs_cons, decide_eq_true_eq, Bool.not_eq_true', Bool.not_true, Bool.not_false, if_true, if_false, Bool.false_eq_true, Bool.true_eq_false, reduceIte, Nat.reduceAdd, Nat.reduceSub, Nat.reduceBEq, pow_10_9, pow_10_20, pow_10_30, cpow_10_9, cpow_10_20, cpow_10_30, divP_lit, mulP_r, mulP_l, lne_line, lt_line, isi_int, isi_bool, Int.reduceLT, Int.reduceLE, Int.reduceGT, Int.reduceGE, Int.reduceNeg, Int.reduceMul, Int.reduceAdd, Int.reduceSub, Nat.reduceLeDiff, Nat.reduceLT, true_and, and_true, decide_true, decide_false, sga, wipeP, List.set_cons_zero, List.set_cons_succ, evSs_nil, List.lookup, Nat.reduceBEq, seq_str, seq_tup, seq_fl, Bool.true_and, Bool.and_true, Bool.false_and, Bool.and_false, beq_self_eq_true]
  rw [cn_loc, sizes_eq e1 e2]
  simp only [evS, evE, evEs, evO, evB, evBs, evI, List.map_cons, List.map_nil, List.replicate_succ, List.replicate_zero, List.cons_append, List.nil_append, List.getElem?_cons_zero, List.getElem?_cons_succ, List.set_cons_zero, List.set_cons_succ, bv_add, bv_sub, bv_mul, bv_div, bv_mod, bv_pow, bv_str, av_add, av_sub, cv_lt, cv_le, cv_gt, cv_ge, cv_eq, cv_ne, cv_eqS, cv_neS, tv_bl, tv_int, List.length_cons, List.length_nil, pad, setT_nm, setT_tup, setTs_nil, setTs_cons, decide_eq_true_eq, Bool.not_eq_true', Bool.not_true, Bool.not_false, if_true, if_false, Bool.false_eq_true, Bool.true_eq_false, reduceIte, Nat.reduceAdd, Nat.reduceSub, Nat.reduceBEq, pow_10_9, pow_10_20, pow_10_30, cpow_10_9, cpow_10_20, cpow_10_30, divP_lit, mulP_r, mulP_l, lne_line, lt_line, isi_int, isi_bool, Int.reduceLT, Int.reduceLE, Int.reduceGT, Int.reduceGE, Int.reduceNeg, Int.reduceMul, Int.reduceAdd, Int.reduceSub, Nat.reduceLeDiff, Nat.reduceLT, true_and, and_true, decide_true, decide_false, sga, wipeP, List.set_cons_zero, List.set_cons_succ, evSs_nil, List.lookup, Nat.reduceBEq, seq_str, seq_tup, seq_fl, Bool.true_and, Bool.and_true, Bool.false_and, Bool.and_false, beq_self_eq_true]
  have e3 : h q = some (.lst ((S.map fun m => f m w).map .int)) := by rw [e1, List.map_map]; rfl
  rw [blt_sum e3]
  unfold Su at z
  rw [z]
  simp only [evS, evE, evEs, evO, evB, evBs, evI, List.map_cons, List.map_nil, List.replicate_succ, List.replicate_zero, List.cons_append, List.nil_append, List.getElem?_cons_zero, List.getElem?_cons_succ, List.set_cons_zero, List.set_cons_succ, bv_add, bv_sub, bv_mul, bv_div, bv_mod, bv_pow, bv_str, av_add, av_sub, cv_lt, cv_le, cv_gt, cv_ge, cv_eq, cv_ne, cv_eqS, cv_neS, tv_bl, tv_int, List.length_cons, List.length_nil, pad, setT_nm, setT_tup, setTs_nil, setTs_cons, decide_eq_true_eq, Bool.not_eq_true', Bool.not_true, Bool.not_false, if_true, if_false, Bool.false_eq_true, Bool.true_eq_false, reduceIte, Nat.reduceAdd, Nat.reduceSub, Nat.reduceBEq, pow_10_9, pow_10_20, pow_10_30, cpow_10_9, cpow_10_20, cpow_10_30, divP_lit, mulP_r, mulP_l, lne_line, lt_line, isi_int, isi_bool, Int.reduceLT, Int.reduceLE, Int.reduceGT, Int.reduceGE, Int.reduceNeg, Int.reduceMul, Int.reduceAdd, Int.reduceSub, Nat.reduceLeDiff, Nat.reduceLT, true_and, and_true, decide_true, decide_false, sga, wipeP, List.set_cons_zero, List.set_cons_succ, evSs_nil, List.lookup, Nat.reduceBEq, seq_str, seq_tup, seq_fl, Bool.true_and, Bool.and_true, Bool.false_and, Bool.and_false, beq_self_eq_true]
  exact nx
theorem ware_sp {w : Str} {x5 x6 x7 x8 : Option PV} {D : PD} (C : Cells h a o t nl S L kvs met) (P : Pl L kvs met f S k) (hS : S.length = 7) (hw : w = "" ∨ w ∈ W3)
    (nx : ∀ g p q, PLe h g → D.nx [some (.loc a), some (.loc o), some (.loc t), some (.loc nl), some (.str w), some (.loc p), some (.loc q), x7, x8] g) :
    evSs sg (sem sg (n + 8)) wareB [some (.loc a), some (.loc o), some (.loc t), some (.loc nl), some (.str w), x5, x6, x7, x8] h D := by
  have tE := @wareEnd_sp n
  rw [show wareB = _ from rfl, wareB, b14] at tE
  (try dsimp only at tE)
  rw [show wareB = _ from rfl, wareB, b14]
  (try dsimp only)
  rw [evSs_cons, evS]
  refine comp_f (fun _ => true) (fun m => .int (f m w)) (fun m => [some (.loc a), some (.loc o), some (.loc t), some (.loc nl), some (.str w), x5, x6, some (.str m), x8]) C.n (fun z => by simp only [evS, evE, evEs, evO, evB, evBs, evI, List.map_cons, List.map_nil, List.replicate_succ, List.replicate_zero, List.cons_append, List.nil_append, List.getElem?_cons_zero, List.getElem?_cons_succ, List.set_cons_zero, List.set_cons_succ, bv_add, bv_sub, bv_mul, bv_div, bv_mod, bv_pow, bv_str, av_add, av_sub, cv_lt, cv_le, cv_gt, cv_ge, cv_eq, cv_ne, cv_eqS, cv_neS, tv_bl, tv_int, List.length_cons, List.length_nil, pad, setT_nm, setT_tup, setTs_nil, setTs_cons, decide_eq_true_eq, Bool.not_eq_true', Bool.not_true, Bool.not_false, if_true, if_false, Bool.false_eq_true, Bool.true_eq_false, reduceIte, Nat.reduceAdd, Nat.reduceSub, Nat.reduceBEq, pow_10_9, pow_10_20, pow_10_30, cpow_10_9, cpow_10_20, cpow_10_30, divP_lit, mulP_r, mulP_l, lne_line, lt_line, isi_int, isi_bool, Int.reduceLT, Int.reduceLE, Int.reduceGT, Int.reduceGE, Int.reduceNeg, Int.reduceMul, Int.reduceAdd, Int.reduceSub, Nat.reduceLeDiff, Nat.reduceLT, true_and, and_true, decide_true, decide_false, sga, wipeP, List.set_cons_zero, List.set_cons_succ, evSs_nil, List.lookup, Nat.reduceBEq, seq_str, seq_tup, seq_fl, Bool.true_and, Bool.and_true, Bool.false_and, Bool.and_false, beq_self_eq_true]; exact z) (small_line (by omega)) (fun m T hm q => q) (fun m g N hm l q => q g (.refl g)) (fun m g N hm _ l q => ?_) fun p g np l1 e1 => ?_
  · simp only [evS, evE, evEs, evO, evB, evBs, evI, List.map_cons, List.map_nil, List.replicate_succ, List.replicate_zero, List.cons_append, List.nil_append, List.getElem?_cons_zero, List.getElem?_cons_succ, List.set_cons_zero, List.set_cons_succ, bv_add, bv_sub, bv_mul, bv_div, bv_mod, bv_pow, bv_str, av_add, av_sub, cv_lt, cv_le, cv_gt, cv_ge, cv_eq, cv_ne, cv_eqS, cv_neS, tv_bl, tv_int, List.length_cons, List.length_nil, pad, setT_nm, setT_tup, setTs_nil, setTs_cons, decide_eq_true_eq, Bool.not_eq_true', Bool.not_true, Bool.not_false, if_true, if_false, Bool.false_eq_true, Bool.true_eq_false, reduceIte, Nat.reduceAdd, Nat.reduceSub, Nat.reduceBEq, pow_10_9, pow_10_20, pow_10_30, cpow_10_9, cpow_10_20, cpow_10_30, divP_lit, mulP_r, mulP_l, lne_line, lt_line, isi_int, isi_bool, Int.reduceLT, Int.reduceLE, Int.reduceGT, Int.reduceGE, Int.reduceNeg, Int.reduceMul, Int.reduceAdd, Int.reduceSub, Nat.reduceLeDiff, Nat.reduceLT, true_and, and_true, decide_true, decide_false, sga, wipeP, List.set_cons_zero, List.set_cons_succ, evSs_nil, List.lookup, Nat.reduceBEq, seq_str, seq_tup, seq_fl, Bool.true_and, Bool.and_true, Bool.false_and, Bool.and_false, beq_self_eq_true]
    rw [Mir.isT]
    simp only [l _ _ C.co, true_and]
    rw [getTV]
    simp only [l _ _ C.co, keysT2, P.v m w]
    exact q g (.refl g)
  rw [filter_true] at e1
  have C1 := C.ple l1
  (try simp only [evS, evE, evEs, evO, evB, evBs, evI, List.map_cons, List.map_nil, List.replicate_succ, List.replicate_zero, List.cons_append, List.nil_append, List.getElem?_cons_zero, List.getElem?_cons_succ, List.set_cons_zero, List.set_cons_succ, bv_add, bv_sub, bv_mul, bv_div, bv_mod, bv_pow, bv_str, av_add, av_sub, cv_lt, cv_le, cv_gt, cv_ge, cv_eq, cv_ne, cv_eqS, cv_neS, tv_bl, tv_int, List.length_cons, List.length_nil, pad, setT_nm, setT_tup, setTs_nil, setTs_cons, decide_eq_true_eq, Bool.not_eq_true', Bool.not_true, Bool.not_false, if_true, if_false, Bool.false_eq_true, Bool.true_eq_false, reduceIte, Nat.reduceAdd, Nat.reduceSub, Nat.reduceBEq, pow_10_9, pow_10_20, pow_10_30, cpow_10_9, cpow_10_20, cpow_10_30, divP_lit, mulP_r, mulP_l, lne_line, lt_line, isi_int, isi_bool, Int.reduceLT, Int.reduceLE, Int.reduceGT, Int.reduceGE, Int.reduceNeg, Int.reduceMul, Int.reduceAdd, Int.reduceSub, Nat.reduceLeDiff, Nat.reduceLT, true_and, and_true, decide_true, decide_false, sga, wipeP, List.set_cons_zero, List.set_cons_succ, evSs_nil, List.lookup, Nat.reduceBEq, seq_str, seq_tup, seq_fl, Bool.true_and, Bool.and_true, Bool.false_and, Bool.and_false, beq_self_eq_true])
  rw [evSs_cons]
  by_cases hw2 : w = ""
  · simp only [evS, evE, evEs, evO, evB, evBs, evI, List.map_cons, List.map_nil, List.replicate_succ, List.replicate_zero, List.cons_append, List.nil_append, List.getElem?_cons_zero, List.getElem?_cons_succ, List.set_cons_zero, List.set_cons_succ, bv_add, bv_sub, bv_mul, bv_div, bv_mod, bv_pow, bv_str, av_add, av_sub, cv_lt, cv_le, cv_gt, cv_ge, cv_eq, cv_ne, cv_eqS, cv_neS, tv_bl, tv_int, List.length_cons, List.length_nil, pad, setT_nm, setT_tup, setTs_nil, setTs_cons, decide_eq_true_eq, Bool.not_eq_true', Bool.not_true, Bool.not_false, if_true, if_false, Bool.false_eq_true, Bool.true_eq_false, reduceIte, Nat.reduceAdd, Nat.reduceSub, Nat.reduceBEq, pow_10_9, pow_10_20, pow_10_30, cpow_10_9, cpow_10_20, cpow_10_30, divP_lit, mulP_r, mulP_l, lne_line, lt_line, isi_int, isi_bool, Int.reduceLT, Int.reduceLE, Int.reduceGT, Int.reduceGE, Int.reduceNeg, Int.reduceMul, Int.reduceAdd, Int.reduceSub, Nat.reduceLeDiff, Nat.reduceLT, true_and, and_true, decide_true, decide_false, sga, wipeP, List.set_cons_zero, List.set_cons_succ, evSs_nil, List.lookup, Nat.reduceBEq, seq_str, seq_tup, seq_fl, Bool.true_and, Bool.and_true, Bool.false_and, Bool.and_false, beq_self_eq_true]
    rw [if_pos (by simpa using hw2)]
    rw [evSs_cons, evS]
    refine comp_f (fun _ => true) (fun m => .int (f m w)) (fun m => [some (.loc a), some (.loc o), some (.loc t), some (.loc nl), some (.str w), some (.loc p), x6, some (.str m), x8]) C1.n (fun z => by simp only [evS, evE, evEs, evO, evB, evBs, evI, List.map_cons, List.map_nil, List.replicate_succ, List.replicate_zero, List.cons_append, List.nil_append, List.getElem?_cons_zero, List.getElem?_cons_succ, List.set_cons_zero, List.set_cons_succ, bv_add, bv_sub, bv_mul, bv_div, bv_mod, bv_pow, bv_str, av_add, av_sub, cv_lt, cv_le, cv_gt, cv_ge, cv_eq, cv_ne, cv_eqS, cv_neS, tv_bl, tv_int, List.length_cons, List.length_nil, pad, setT_nm, setT_tup, setTs_nil, setTs_cons, decide_eq_true_eq, Bool.not_eq_true', Bool.not_true, Bool.not_false, if_true, if_false, Bool.false_eq_true, Bool.true_eq_false, reduceIte, Nat.reduceAdd, Nat.reduceSub, Nat.reduceBEq, pow_10_9, pow_10_20, pow_10_30, cpow_10_9, cpow_10_20, cpow_10_30, divP_lit, mulP_r, mulP_l, lne_line, lt_line, isi_int, isi_bool, Int.reduceLT, Int.reduceLE, Int.reduceGT, Int.reduceGE, Int.reduceNeg, Int.reduceMul, Int.reduceAdd, Int.reduceSub, Nat.reduceLeDiff, Nat.reduceLT, true_and, and_true, decide_true, decide_false, sga, wipeP, List.set_cons_zero, List.set_cons_succ, evSs_nil, List.lookup, Nat.reduceBEq, seq_str, seq_tup, seq_fl, Bool.true_and, Bool.and_true, Bool.false_and, Bool.and_false, beq_self_eq_true]; exact z) (small_line (by omega)) (fun m T hm q => q) (fun m g N hm l q => q g (.refl g)) (fun m g N hm _ l q => ?_) fun q g2 nq l2 e2 => ?_
    · have C2 := C1.ple l
      simp only [evS, evE, evEs, evO, evB, evBs, evI, List.map_cons, List.map_nil, List.replicate_succ, List.replicate_zero, List.cons_append, List.nil_append, List.getElem?_cons_zero, List.getElem?_cons_succ, List.set_cons_zero, List.set_cons_succ, bv_add, bv_sub, bv_mul, bv_div, bv_mod, bv_pow, bv_str, av_add, av_sub, cv_lt, cv_le, cv_gt, cv_ge, cv_eq, cv_ne, cv_eqS, cv_neS, tv_bl, tv_int, List.length_cons, List.length_nil, pad, setT_nm, setT_tup, setTs_nil, setTs_cons, decide_eq_true_eq, Bool.not_eq_true', Bool.not_true, Bool.not_false, if_true, if_false, Bool.false_eq_true, Bool.true_eq_false, reduceIte, Nat.reduceAdd, Nat.reduceSub, Nat.reduceBEq, pow_10_9, pow_10_20, pow_10_30, cpow_10_9, cpow_10_20, cpow_10_30, divP_lit, mulP_r, mulP_l, lne_line, lt_line, isi_int, isi_bool, Int.reduceLT, Int.reduceLE, Int.reduceGT, Int.reduceGE, Int.reduceNeg, Int.reduceMul, Int.reduceAdd, Int.reduceSub, Nat.reduceLeDiff, Nat.reduceLT, true_and, and_true, decide_true, decide_false, sga, wipeP, List.set_cons_zero, List.set_cons_succ, evSs_nil, List.lookup, Nat.reduceBEq, seq_str, seq_tup, seq_fl, Bool.true_and, Bool.and_true, Bool.false_and, Bool.and_false, beq_self_eq_true, C2.l.o, List.lookup_nil]
      refine coins_sp C2.l ?_
      rw [P.p m, ← hw2]
      exact q g (.refl g)
    rw [filter_true] at e2
    (try simp only [evS, evE, evEs, evO, evB, evBs, evI, List.map_cons, List.map_nil, List.replicate_succ, List.replicate_zero, List.cons_append, List.nil_append, List.getElem?_cons_zero, List.getElem?_cons_succ, List.set_cons_zero, List.set_cons_succ, bv_add, bv_sub, bv_mul, bv_div, bv_mod, bv_pow, bv_str, av_add, av_sub, cv_lt, cv_le, cv_gt, cv_ge, cv_eq, cv_ne, cv_eqS, cv_neS, tv_bl, tv_int, List.length_cons, List.length_nil, pad, setT_nm, setT_tup, setTs_nil, setTs_cons, decide_eq_true_eq, Bool.not_eq_true', Bool.not_true, Bool.not_false, if_true, if_false, Bool.false_eq_true, Bool.true_eq_false, reduceIte, Nat.reduceAdd, Nat.reduceSub, Nat.reduceBEq, pow_10_9, pow_10_20, pow_10_30, cpow_10_9, cpow_10_20, cpow_10_30, divP_lit, mulP_r, mulP_l, lne_line, lt_line, isi_int, isi_bool, Int.reduceLT, Int.reduceLE, Int.reduceGT, Int.reduceGE, Int.reduceNeg, Int.reduceMul, Int.reduceAdd, Int.reduceSub, Nat.reduceLeDiff, Nat.reduceLT, true_and, and_true, decide_true, decide_false, sga, wipeP, List.set_cons_zero, List.set_cons_succ, evSs_nil, List.lookup, Nat.reduceBEq, seq_str, seq_tup, seq_fl, Bool.true_and, Bool.and_true, Bool.false_and, Bool.and_false, beq_self_eq_true])
    exact tE e2 (l2 _ _ e1) (P.s w) (nx g2 p q (l1.trans l2))
  · simp only [evS, evE, evEs, evO, evB, evBs, evI, List.map_cons, List.map_nil, List.replicate_succ, List.replicate_zero, List.cons_append, List.nil_append, List.getElem?_cons_zero, List.getElem?_cons_succ, List.set_cons_zero, List.set_cons_succ, bv_add, bv_sub, bv_mul, bv_div, bv_mod, bv_pow, bv_str, av_add, av_sub, cv_lt, cv_le, cv_gt, cv_ge, cv_eq, cv_ne, cv_eqS, cv_neS, tv_bl, tv_int, List.length_cons, List.length_nil, pad, setT_nm, setT_tup, setTs_nil, setTs_cons, decide_eq_true_eq, Bool.not_eq_true', Bool.not_true, Bool.not_false, if_true, if_false, Bool.false_eq_true, Bool.true_eq_false, reduceIte, Nat.reduceAdd, Nat.reduceSub, Nat.reduceBEq, pow_10_9, pow_10_20, pow_10_30, cpow_10_9, cpow_10_20, cpow_10_30, divP_lit, mulP_r, mulP_l, lne_line, lt_line, isi_int, isi_bool, Int.reduceLT, Int.reduceLE, Int.reduceGT, Int.reduceGE, Int.reduceNeg, Int.reduceMul, Int.reduceAdd, Int.reduceSub, Nat.reduceLeDiff, Nat.reduceLT, true_and, and_true, decide_true, decide_false, sga, wipeP, List.set_cons_zero, List.set_cons_succ, evSs_nil, List.lookup, Nat.reduceBEq, seq_str, seq_tup, seq_fl, Bool.true_and, Bool.and_true, Bool.false_and, Bool.and_false, beq_self_eq_true]
    rw [if_neg (by simpa using hw2)]
    rw [evSs_cons, evS]
    refine comp_f (fun _ => true) (fun m => .int (f m w)) (fun m => [some (.loc a), some (.loc o), some (.loc t), some (.loc nl), some (.str w), some (.loc p), x6, some (.str m), x8]) C1.n (fun z => by simp only [evS, evE, evEs, evO, evB, evBs, evI, List.map_cons, List.map_nil, List.replicate_succ, List.replicate_zero, List.cons_append, List.nil_append, List.getElem?_cons_zero, List.getElem?_cons_succ, List.set_cons_zero, List.set_cons_succ, bv_add, bv_sub, bv_mul, bv_div, bv_mod, bv_pow, bv_str, av_add, av_sub, cv_lt, cv_le, cv_gt, cv_ge, cv_eq, cv_ne, cv_eqS, cv_neS, tv_bl, tv_int, List.length_cons, List.length_nil, pad, setT_nm, setT_tup, setTs_nil, setTs_cons, decide_eq_true_eq, Bool.not_eq_true', Bool.not_true, Bool.not_false, if_true, if_false, Bool.false_eq_true, Bool.true_eq_false, reduceIte, Nat.reduceAdd, Nat.reduceSub, Nat.reduceBEq, pow_10_9, pow_10_20, pow_10_30, cpow_10_9, cpow_10_20, cpow_10_30, divP_lit, mulP_r, mulP_l, lne_line, lt_line, isi_int, isi_bool, Int.reduceLT, Int.reduceLE, Int.reduceGT, Int.reduceGE, Int.reduceNeg, Int.reduceMul, Int.reduceAdd, Int.reduceSub, Nat.reduceLeDiff, Nat.reduceLT, true_and, and_true, decide_true, decide_false, sga, wipeP, List.set_cons_zero, List.set_cons_succ, evSs_nil, List.lookup, Nat.reduceBEq, seq_str, seq_tup, seq_fl, Bool.true_and, Bool.and_true, Bool.false_and, Bool.and_false, beq_self_eq_true]; exact z) (small_line (by omega)) (fun m T hm q => q) (fun m g N hm l q => q g (.refl g)) (fun m g N hm _ l q => ?_) fun q g2 nq l2 e2 => ?_
    · have C2 := C1.ple l
      simp only [evS, evE, evEs, evO, evB, evBs, evI, List.map_cons, List.map_nil, List.replicate_succ, List.replicate_zero, List.cons_append, List.nil_append, List.getElem?_cons_zero, List.getElem?_cons_succ, List.set_cons_zero, List.set_cons_succ, bv_add, bv_sub, bv_mul, bv_div, bv_mod, bv_pow, bv_str, av_add, av_sub, cv_lt, cv_le, cv_gt, cv_ge, cv_eq, cv_ne, cv_eqS, cv_neS, tv_bl, tv_int, List.length_cons, List.length_nil, pad, setT_nm, setT_tup, setTs_nil, setTs_cons, decide_eq_true_eq, Bool.not_eq_true', Bool.not_true, Bool.not_false, if_true, if_false, Bool.false_eq_true, Bool.true_eq_false, reduceIte, Nat.reduceAdd, Nat.reduceSub, Nat.reduceBEq, pow_10_9, pow_10_20, pow_10_30, cpow_10_9, cpow_10_20, cpow_10_30, divP_lit, mulP_r, mulP_l, lne_line, lt_line, isi_int, isi_bool, Int.reduceLT, Int.reduceLE, Int.reduceGT, Int.reduceGE, Int.reduceNeg, Int.reduceMul, Int.reduceAdd, Int.reduceSub, Nat.reduceLeDiff, Nat.reduceLT, true_and, and_true, decide_true, decide_false, sga, wipeP, List.set_cons_zero, List.set_cons_succ, evSs_nil, List.lookup, Nat.reduceBEq, seq_str, seq_tup, seq_fl, Bool.true_and, Bool.and_true, Bool.false_and, Bool.and_false, beq_self_eq_true, C2.l.o, List.lookup_nil]
      refine holds_sp C2.l ?_
      rw [P.w m w (hw.resolve_left hw2)]
      exact q g (.refl g)
    rw [filter_true] at e2
    (try simp only [evS, evE, evEs, evO, evB, evBs, evI, List.map_cons, List.map_nil, List.replicate_succ, List.replicate_zero, List.cons_append, List.nil_append, List.getElem?_cons_zero, List.getElem?_cons_succ, List.set_cons_zero, List.set_cons_succ, bv_add, bv_sub, bv_mul, bv_div, bv_mod, bv_pow, bv_str, av_add, av_sub, cv_lt, cv_le, cv_gt, cv_ge, cv_eq, cv_ne, cv_eqS, cv_neS, tv_bl, tv_int, List.length_cons, List.length_nil, pad, setT_nm, setT_tup, setTs_nil, setTs_cons, decide_eq_true_eq, Bool.not_eq_true', Bool.not_true, Bool.not_false, if_true, if_false, Bool.false_eq_true, Bool.true_eq_false, reduceIte, Nat.reduceAdd, Nat.reduceSub, Nat.reduceBEq, pow_10_9, pow_10_20, pow_10_30, cpow_10_9, cpow_10_20, cpow_10_30, divP_lit, mulP_r, mulP_l, lne_line, lt_line, isi_int, isi_bool, Int.reduceLT, Int.reduceLE, Int.reduceGT, Int.reduceGE, Int.reduceNeg, Int.reduceMul, Int.reduceAdd, Int.reduceSub, Nat.reduceLeDiff, Nat.reduceLT, true_and, and_true, decide_true, decide_false, sga, wipeP, List.set_cons_zero, List.set_cons_succ, evSs_nil, List.lookup, Nat.reduceBEq, seq_str, seq_tup, seq_fl, Bool.true_and, Bool.and_true, Bool.false_and, Bool.and_false, beq_self_eq_true])
    exact tE e2 (l2 _ _ e1) (P.s w) (nx g2 p q (l1.trans l2))
def W4 : List Str := ["ore", "tin", "zinc", ""]
theorem W4_mem {w : Str} (h : w ∈ W4) : w = "" ∨ w ∈ W3 := by
  simp only [W4, W3, List.mem_cons, List.mem_nil_iff, or_false] at h ⊢
  rcases h with h | h | h | h <;> simp [h]
theorem W3_sorted (p : Str → Bool) : sortedS (W3.filter p) = true := by
  unfold W3
  simp only [List.filter]
  cases p "ore" <;> cases p "tin" <;> cases p "zinc" <;> decide +kernel
theorem W3_nd : W3.Nodup := by decide +kernel
def dueB : Ss := match b14 with
  | .cons _ (.cons _ (.cons (.for _ _ b) _)) => b
  | _ => .nil
theorem due_sp {m : Str} {x4 x5 x6 x8 : Option PV} {D : PD} (C : Cells h a o t nl S L kvs met) (P : Pl L kvs met f S k)
    (nx : ∀ g x8, PLe h g → D.nx [some (.loc a), some (.loc o), some (.loc t), some (.loc nl), x4, x5, x6, some (.str m), x8] g) :
    evSs sg (sem sg (n + 8)) dueB [some (.loc a), some (.loc o), some (.loc t), some (.loc nl), x4, x5, x6, some (.str m), x8] h D := by
  rw [show dueB = _ from rfl, dueB, b14]
  (try dsimp only)
  rw [evSs_cons]
  simp only [evS, evE, evEs, evO, evB, evBs, evI, List.map_cons, List.map_nil, List.replicate_succ, List.replicate_zero, List.cons_append, List.nil_append, List.getElem?_cons_zero, List.getElem?_cons_succ, List.set_cons_zero, List.set_cons_succ, bv_add, bv_sub, bv_mul, bv_div, bv_mod, bv_pow, bv_str, av_add, av_sub, cv_lt, cv_le, cv_gt, cv_ge, cv_eq, cv_ne, cv_eqS, cv_neS, tv_bl, tv_int, List.length_cons, List.length_nil, pad, setT_nm, setT_tup, setTs_nil, setTs_cons, decide_eq_true_eq, Bool.not_eq_true', Bool.not_true, Bool.not_false, if_true, if_false, Bool.false_eq_true, Bool.true_eq_false, reduceIte, Nat.reduceAdd, Nat.reduceSub, Nat.reduceBEq, pow_10_9, pow_10_20, pow_10_30, cpow_10_9, cpow_10_20, cpow_10_30, divP_lit, mulP_r, mulP_l, lne_line, lt_line, isi_int, isi_bool, Int.reduceLT, Int.reduceLE, Int.reduceGT, Int.reduceGE, Int.reduceNeg, Int.reduceMul, Int.reduceAdd, Int.reduceSub, Nat.reduceLeDiff, Nat.reduceLT, true_and, and_true, decide_true, decide_false, sga, wipeP, List.set_cons_zero, List.set_cons_succ, evSs_nil, List.lookup, Nat.reduceBEq, seq_str, seq_tup, seq_fl, Bool.true_and, Bool.and_true, Bool.false_and, Bool.and_false, beq_self_eq_true]
  intro p np
  rw [show [PV.str (Str.ofString "ore"), .str (Str.ofString "tin"), .str (Str.ofString "zinc")] = W3.map .str from rfl]
  refine compGo_f (fun w => !(f m w == 0)) (fun w => .str w) (fun w => [some (.loc a), some (.loc o), some (.loc t), some (.loc nl), some (.str w), x5, x6, some (.str m), x8]) np (small_line (by decide)) (fun g l => trivial) (fun w T hw q => ?_) (fun w g N hw l q => ?_) (fun w g N hw _ l q => ?_) fun g l1 e1 => ?_
  · exact q
  · simp only [evS, evE, evEs, evO, evB, evBs, evI, List.map_cons, List.map_nil, List.replicate_succ, List.replicate_zero, List.cons_append, List.nil_append, List.getElem?_cons_zero, List.getElem?_cons_succ, List.set_cons_zero, List.set_cons_succ, bv_add, bv_sub, bv_mul, bv_div, bv_mod, bv_pow, bv_str, av_add, av_sub, cv_lt, cv_le, cv_gt, cv_ge, cv_eq, cv_ne, cv_eqS, cv_neS, tv_bl, tv_int, List.length_cons, List.length_nil, pad, setT_nm, setT_tup, setTs_nil, setTs_cons, decide_eq_true_eq, Bool.not_eq_true', Bool.not_true, Bool.not_false, if_true, if_false, Bool.false_eq_true, Bool.true_eq_false, reduceIte, Nat.reduceAdd, Nat.reduceSub, Nat.reduceBEq, pow_10_9, pow_10_20, pow_10_30, cpow_10_9, cpow_10_20, cpow_10_30, divP_lit, mulP_r, mulP_l, lne_line, lt_line, isi_int, isi_bool, Int.reduceLT, Int.reduceLE, Int.reduceGT, Int.reduceGE, Int.reduceNeg, Int.reduceMul, Int.reduceAdd, Int.reduceSub, Nat.reduceLeDiff, Nat.reduceLT, true_and, and_true, decide_true, decide_false, sga, wipeP, List.set_cons_zero, List.set_cons_succ, evSs_nil, List.lookup, Nat.reduceBEq, seq_str, seq_tup, seq_fl, Bool.true_and, Bool.and_true, Bool.false_and, Bool.and_false, beq_self_eq_true]
    rw [Mir.isT]
    simp only [l _ _ C.co, true_and]
    rw [getTV]
    simp only [l _ _ C.co, keysT2, P.v m w]
    simp only [evS, evE, evEs, evO, evB, evBs, evI, List.map_cons, List.map_nil, List.replicate_succ, List.replicate_zero, List.cons_append, List.nil_append, List.getElem?_cons_zero, List.getElem?_cons_succ, List.set_cons_zero, List.set_cons_succ, bv_add, bv_sub, bv_mul, bv_div, bv_mod, bv_pow, bv_str, av_add, av_sub, cv_lt, cv_le, cv_gt, cv_ge, cv_eq, cv_ne, cv_eqS, cv_neS, tv_bl, tv_int, List.length_cons, List.length_nil, pad, setT_nm, setT_tup, setTs_nil, setTs_cons, decide_eq_true_eq, Bool.not_eq_true', Bool.not_true, Bool.not_false, if_true, if_false, Bool.false_eq_true, Bool.true_eq_false, reduceIte, Nat.reduceAdd, Nat.reduceSub, Nat.reduceBEq, pow_10_9, pow_10_20, pow_10_30, cpow_10_9, cpow_10_20, cpow_10_30, divP_lit, mulP_r, mulP_l, lne_line, lt_line, isi_int, isi_bool, Int.reduceLT, Int.reduceLE, Int.reduceGT, Int.reduceGE, Int.reduceNeg, Int.reduceMul, Int.reduceAdd, Int.reduceSub, Nat.reduceLeDiff, Nat.reduceLT, true_and, and_true, decide_true, decide_false, sga, wipeP, List.set_cons_zero, List.set_cons_succ, evSs_nil, List.lookup, Nat.reduceBEq, seq_str, seq_tup, seq_fl, Bool.true_and, Bool.and_true, Bool.false_and, Bool.and_false, beq_self_eq_true]
    have := q g (.refl g)
    simpa using this
  · simp only [evS, evE, evEs, evO, evB, evBs, evI, List.map_cons, List.map_nil, List.replicate_succ, List.replicate_zero, List.cons_append, List.nil_append, List.getElem?_cons_zero, List.getElem?_cons_succ, List.set_cons_zero, List.set_cons_succ, bv_add, bv_sub, bv_mul, bv_div, bv_mod, bv_pow, bv_str, av_add, av_sub, cv_lt, cv_le, cv_gt, cv_ge, cv_eq, cv_ne, cv_eqS, cv_neS, tv_bl, tv_int, List.length_cons, List.length_nil, pad, setT_nm, setT_tup, setTs_nil, setTs_cons, decide_eq_true_eq, Bool.not_eq_true', Bool.not_true, Bool.not_false, if_true, if_false, Bool.false_eq_true, Bool.true_eq_false, reduceIte, Nat.reduceAdd, Nat.reduceSub, Nat.reduceBEq, pow_10_9, pow_10_20, pow_10_30, cpow_10_9, cpow_10_20, cpow_10_30, divP_lit, mulP_r, mulP_l, lne_line, lt_line, isi_int, isi_bool, Int.reduceLT, Int.reduceLE, Int.reduceGT, Int.reduceGE, Int.reduceNeg, Int.reduceMul, Int.reduceAdd, Int.reduceSub, Nat.reduceLeDiff, Nat.reduceLT, true_and, and_true, decide_true, decide_false, sga, wipeP, List.set_cons_zero, List.set_cons_succ, evSs_nil, List.lookup, Nat.reduceBEq, seq_str, seq_tup, seq_fl, Bool.true_and, Bool.and_true, Bool.false_and, Bool.and_false, beq_self_eq_true]
    exact q g (.refl g)
  have C1 := C.ple l1
  (try simp only [evS, evE, evEs, evO, evB, evBs, evI, List.map_cons, List.map_nil, List.replicate_succ, List.replicate_zero, List.cons_append, List.nil_append, List.getElem?_cons_zero, List.getElem?_cons_succ, List.set_cons_zero, List.set_cons_succ, bv_add, bv_sub, bv_mul, bv_div, bv_mod, bv_pow, bv_str, av_add, av_sub, cv_lt, cv_le, cv_gt, cv_ge, cv_eq, cv_ne, cv_eqS, cv_neS, tv_bl, tv_int, List.length_cons, List.length_nil, pad, setT_nm, setT_tup, setTs_nil, setTs_cons, decide_eq_true_eq, Bool.not_eq_true', Bool.not_true, Bool.not_false, if_true, if_false, Bool.false_eq_true, Bool.true_eq_false, reduceIte, Nat.reduceAdd, Nat.reduceSub, Nat.reduceBEq, pow_10_9, pow_10_20, pow_10_30, cpow_10_9, cpow_10_20, cpow_10_30, divP_lit, mulP_r, mulP_l, lne_line, lt_line, isi_int, isi_bool, Int.reduceLT, Int.reduceLE, Int.reduceGT, Int.reduceGE, Int.reduceNeg, Int.reduceMul, Int.reduceAdd, Int.reduceSub, Nat.reduceLeDiff, Nat.reduceLT, true_and, and_true, decide_true, decide_false, sga, wipeP, List.set_cons_zero, List.set_cons_succ, evSs_nil, List.lookup, Nat.reduceBEq, seq_str, seq_tup, seq_fl, Bool.true_and, Bool.and_true, Bool.false_and, Bool.and_false, beq_self_eq_true])
  rw [evSs_cons]
  simp only [evS, evE, evEs, evO, evB, evBs, evI, List.map_cons, List.map_nil, List.replicate_succ, List.replicate_zero, List.cons_append, List.nil_append, List.getElem?_cons_zero, List.getElem?_cons_succ, List.set_cons_zero, List.set_cons_succ, bv_add, bv_sub, bv_mul, bv_div, bv_mod, bv_pow, bv_str, av_add, av_sub, cv_lt, cv_le, cv_gt, cv_ge, cv_eq, cv_ne, cv_eqS, cv_neS, tv_bl, tv_int, List.length_cons, List.length_nil, pad, setT_nm, setT_tup, setTs_nil, setTs_cons, decide_eq_true_eq, Bool.not_eq_true', Bool.not_true, Bool.not_false, if_true, if_false, Bool.false_eq_true, Bool.true_eq_false, reduceIte, Nat.reduceAdd, Nat.reduceSub, Nat.reduceBEq, pow_10_9, pow_10_20, pow_10_30, cpow_10_9, cpow_10_20, cpow_10_30, divP_lit, mulP_r, mulP_l, lne_line, lt_line, isi_int, isi_bool, Int.reduceLT, Int.reduceLE, Int.reduceGT, Int.reduceGE, Int.reduceNeg, Int.reduceMul, Int.reduceAdd, Int.reduceSub, Nat.reduceLeDiff, Nat.reduceLT, true_and, and_true, decide_true, decide_false, sga, wipeP, List.set_cons_zero, List.set_cons_succ, evSs_nil, List.lookup, Nat.reduceBEq, seq_str, seq_tup, seq_fl, Bool.true_and, Bool.and_true, Bool.false_and, Bool.and_false, beq_self_eq_true, C1.l.o, List.lookup_nil]
  refine wares_sp C1.l C1.i (by decide) fun ys r pm so nr => ?_
  have l2 := PLe.new (c := .lst (ys.map .str)) nr
  have e2 := l2 _ _ e1
  have e3 := at_of_pup (rfl : pup g r (.lst (ys.map .str)) = _)
  have e : ys = W3.filter fun w => !(f m w == 0) := by
    refine sorted_uniq (pm.trans ((List.perm_ext_iff_of_nodup ((C1.l.wn m).filter _) (W3_nd.filter _)).mpr fun w => ?_)) so (W3_sorted _)
    simp only [List.mem_filter, Bool.not_eq_true', beq_eq_false_iff_ne]
    constructor
    · intro ⟨x, y⟩
      have := C1.i.w m w x
      exact ⟨this, by rw [← P.w m w this]; exact y⟩
    · intro ⟨x, y⟩
      rw [← P.w m w x] at y
      exact ⟨Classical.byContradiction fun z => y (C1.l.wz m w z), y⟩
  subst e
  generalize pup g r _ = g2 at l2 e2 e3 ⊢
  (try simp only [evS, evE, evEs, evO, evB, evBs, evI, List.map_cons, List.map_nil, List.replicate_succ, List.replicate_zero, List.cons_append, List.nil_append, List.getElem?_cons_zero, List.getElem?_cons_succ, List.set_cons_zero, List.set_cons_succ, bv_add, bv_sub, bv_mul, bv_div, bv_mod, bv_pow, bv_str, av_add, av_sub, cv_lt, cv_le, cv_gt, cv_ge, cv_eq, cv_ne, cv_eqS, cv_neS, tv_bl, tv_int, List.length_cons, List.length_nil, pad, setT_nm, setT_tup, setTs_nil, setTs_cons, decide_eq_true_eq, Bool.not_eq_true', Bool.not_true, Bool.not_false, if_true, if_false, Bool.false_eq_true, Bool.true_eq_false, reduceIte, Nat.reduceAdd, Nat.reduceSub, Nat.reduceBEq, pow_10_9, pow_10_20, pow_10_30, cpow_10_9, cpow_10_20, cpow_10_30, divP_lit, mulP_r, mulP_l, lne_line, lt_line, isi_int, isi_bool, Int.reduceLT, Int.reduceLE, Int.reduceGT, Int.reduceGE, Int.reduceNeg, Int.reduceMul, Int.reduceAdd, Int.reduceSub, Nat.reduceLeDiff, Nat.reduceLT, true_and, and_true, decide_true, decide_false, sga, wipeP, List.set_cons_zero, List.set_cons_succ, evSs_nil, List.lookup, Nat.reduceBEq, seq_str, seq_tup, seq_fl, Bool.true_and, Bool.and_true, Bool.false_and, Bool.and_false, beq_self_eq_true])
  rw [cn_loc, eqK_strs e3 e2]
  simp only [evS, evE, evEs, evO, evB, evBs, evI, List.map_cons, List.map_nil, List.replicate_succ, List.replicate_zero, List.cons_append, List.nil_append, List.getElem?_cons_zero, List.getElem?_cons_succ, List.set_cons_zero, List.set_cons_succ, bv_add, bv_sub, bv_mul, bv_div, bv_mod, bv_pow, bv_str, av_add, av_sub, cv_lt, cv_le, cv_gt, cv_ge, cv_eq, cv_ne, cv_eqS, cv_neS, tv_bl, tv_int, List.length_cons, List.length_nil, pad, setT_nm, setT_tup, setTs_nil, setTs_cons, decide_eq_true_eq, Bool.not_eq_true', Bool.not_true, Bool.not_false, if_true, if_false, Bool.false_eq_true, Bool.true_eq_false, reduceIte, Nat.reduceAdd, Nat.reduceSub, Nat.reduceBEq, pow_10_9, pow_10_20, pow_10_30, cpow_10_9, cpow_10_20, cpow_10_30, divP_lit, mulP_r, mulP_l, lne_line, lt_line, isi_int, isi_bool, Int.reduceLT, Int.reduceLE, Int.reduceGT, Int.reduceGE, Int.reduceNeg, Int.reduceMul, Int.reduceAdd, Int.reduceSub, Nat.reduceLeDiff, Nat.reduceLT, true_and, and_true, decide_true, decide_false, sga, wipeP, List.set_cons_zero, List.set_cons_succ, evSs_nil, List.lookup, Nat.reduceBEq, seq_str, seq_tup, seq_fl, Bool.true_and, Bool.and_true, Bool.false_and, Bool.and_false, beq_self_eq_true]
  exact nx g2 _ (l1.trans l2)
theorem stands_sp (C : Cells h a o t nl S L kvs met) (P : Pl L kvs met f S k) (hS : S.length = 7) (q : ∀ g, PLe h g → Q (.bl true) g) : sem sg (n + 9) 14 [.loc a, .loc o, .loc t, .loc nl] h Q X := by
  have tW := @ware_sp n
  have tD := @due_sp n
  rw [show wareB = _ from rfl, wareB, b14] at tW
  rw [show dueB = _ from rfl, dueB, b14] at tD
  (try dsimp only at tW)
  (try dsimp only at tD)
  have ml : met.length ≤ 7 := by
    have h1 : ∀ x ∈ met, x ∈ S := fun x hx => ((P.m x).mp hx).elim (C.i.p x) (C.i.s x)
    have := sub_len P.n h1
    omega
  refine ⟨⟨4, 9, b14, []⟩, rfl, rfl, ?_⟩
  rw [b14, evSs_cons]
  simp only [evS, evE, evEs, evO, evB, evBs, evI, List.map_cons, List.map_nil, List.replicate_succ, List.replicate_zero, List.cons_append, List.nil_append, List.getElem?_cons_zero, List.getElem?_cons_succ, List.set_cons_zero, List.set_cons_succ, bv_add, bv_sub, bv_mul, bv_div, bv_mod, bv_pow, bv_str, av_add, av_sub, cv_lt, cv_le, cv_gt, cv_ge, cv_eq, cv_ne, cv_eqS, cv_neS, tv_bl, tv_int, List.length_cons, List.length_nil, pad, setT_nm, setT_tup, setTs_nil, setTs_cons, decide_eq_true_eq, Bool.not_eq_true', Bool.not_true, Bool.not_false, if_true, if_false, Bool.false_eq_true, Bool.true_eq_false, reduceIte, Nat.reduceAdd, Nat.reduceSub, Nat.reduceBEq, pow_10_9, pow_10_20, pow_10_30, cpow_10_9, cpow_10_20, cpow_10_30, divP_lit, mulP_r, mulP_l, lne_line, lt_line, isi_int, isi_bool, Int.reduceLT, Int.reduceLE, Int.reduceGT, Int.reduceGE, Int.reduceNeg, Int.reduceMul, Int.reduceAdd, Int.reduceSub, Nat.reduceLeDiff, Nat.reduceLT, true_and, and_true, decide_true, decide_false, sga, wipeP, List.set_cons_zero, List.set_cons_succ, evSs_nil, List.lookup, Nat.reduceBEq, seq_str, seq_tup, seq_fl, Bool.true_and, Bool.and_true, Bool.false_and, Bool.and_false, beq_self_eq_true]
  rw [show [PV.str (Str.ofString "ore"), .str (Str.ofString "tin"), .str (Str.ofString "zinc"), .str (Str.ofString "")] = W4.map .str from rfl]
  refine forGo_list (f := PV.str) (as := W4) (fun done env g => ∃ x4 x5 x6, PLe h g ∧ env = [some (.loc a), some (.loc o), some (.loc t), some (.loc nl), x4, x5, x6, none, none])
    (fun done w rest env g K e I nx => ?_) (fun env g I => ?_) ⟨none, none, none, .refl h, rfl⟩
  · obtain ⟨x4, x5, x6, l, rfl⟩ := I
    refine ⟨trivial, ?_⟩
    have hw : w = "" ∨ w ∈ W3 := by
      exact W4_mem (by rw [e]; simp)
    simp only [evS, evE, evEs, evO, evB, evBs, evI, List.map_cons, List.map_nil, List.replicate_succ, List.replicate_zero, List.cons_append, List.nil_append, List.getElem?_cons_zero, List.getElem?_cons_succ, List.set_cons_zero, List.set_cons_succ, bv_add, bv_sub, bv_mul, bv_div, bv_mod, bv_pow, bv_str, av_add, av_sub, cv_lt, cv_le, cv_gt, cv_ge, cv_eq, cv_ne, cv_eqS, cv_neS, tv_bl, tv_int, List.length_cons, List.length_nil, pad, setT_nm, setT_tup, setTs_nil, setTs_cons, decide_eq_true_eq, Bool.not_eq_true', Bool.not_true, Bool.not_false, if_true, if_false, Bool.false_eq_true, Bool.true_eq_false, reduceIte, Nat.reduceAdd, Nat.reduceSub, Nat.reduceBEq, pow_10_9, pow_10_20, pow_10_30, cpow_10_9, cpow_10_20, cpow_10_30, divP_lit, mulP_r, mulP_l, lne_line, lt_line, isi_int, isi_bool, Int.reduceLT, Int.reduceLE, Int.reduceGT, Int.reduceGE, Int.reduceNeg, Int.reduceMul, Int.reduceAdd, Int.reduceSub, Nat.reduceLeDiff, Nat.reduceLT, true_and, and_true, decide_true, decide_false, sga, wipeP, List.set_cons_zero, List.set_cons_succ, evSs_nil, List.lookup, Nat.reduceBEq, seq_str, seq_tup, seq_fl, Bool.true_and, Bool.and_true, Bool.false_and, Bool.and_false, beq_self_eq_true]
    exact tW (C.ple l) P hS hw fun g2 p q l2 => nx _ g2 ⟨_, _, _, l.trans l2, rfl⟩
  · obtain ⟨x4, x5, x6, l, rfl⟩ := I
    refine ⟨trivial, ?_⟩
    have C1 := C.ple l
    (try dsimp only)
    rw [evSs_cons]
    simp only [evS, evE, evEs, evO, evB, evBs, evI, List.map_cons, List.map_nil, List.replicate_succ, List.replicate_zero, List.cons_append, List.nil_append, List.getElem?_cons_zero, List.getElem?_cons_succ, List.set_cons_zero, List.set_cons_succ, bv_add, bv_sub, bv_mul, bv_div, bv_mod, bv_pow, bv_str, av_add, av_sub, cv_lt, cv_le, cv_gt, cv_ge, cv_eq, cv_ne, cv_eqS, cv_neS, tv_bl, tv_int, List.length_cons, List.length_nil, pad, setT_nm, setT_tup, setTs_nil, setTs_cons, decide_eq_true_eq, Bool.not_eq_true', Bool.not_true, Bool.not_false, if_true, if_false, Bool.false_eq_true, Bool.true_eq_false, reduceIte, Nat.reduceAdd, Nat.reduceSub, Nat.reduceBEq, pow_10_9, pow_10_20, pow_10_30, cpow_10_9, cpow_10_20, cpow_10_30, divP_lit, mulP_r, mulP_l, lne_line, lt_line, isi_int, isi_bool, Int.reduceLT, Int.reduceLE, Int.reduceGT, Int.reduceGE, Int.reduceNeg, Int.reduceMul, Int.reduceAdd, Int.reduceSub, Nat.reduceLeDiff, Nat.reduceLT, true_and, and_true, decide_true, decide_false, sga, wipeP, List.set_cons_zero, List.set_cons_succ, evSs_nil, List.lookup, Nat.reduceBEq, seq_str, seq_tup, seq_fl, Bool.true_and, Bool.and_true, Bool.false_and, Bool.and_false, beq_self_eq_true, C1.l.o, List.lookup_nil]
    refine members_sp C1.l C1.i (by omega) fun ys g2 p my l2 np e1 => ?_
    have C2 := C1.ple l2
    (try simp only [evS, evE, evEs, evO, evB, evBs, evI, List.map_cons, List.map_nil, List.replicate_succ, List.replicate_zero, List.cons_append, List.nil_append, List.getElem?_cons_zero, List.getElem?_cons_succ, List.set_cons_zero, List.set_cons_succ, bv_add, bv_sub, bv_mul, bv_div, bv_mod, bv_pow, bv_str, av_add, av_sub, cv_lt, cv_le, cv_gt, cv_ge, cv_eq, cv_ne, cv_eqS, cv_neS, tv_bl, tv_int, List.length_cons, List.length_nil, pad, setT_nm, setT_tup, setTs_nil, setTs_cons, decide_eq_true_eq, Bool.not_eq_true', Bool.not_true, Bool.not_false, if_true, if_false, Bool.false_eq_true, Bool.true_eq_false, reduceIte, Nat.reduceAdd, Nat.reduceSub, Nat.reduceBEq, pow_10_9, pow_10_20, pow_10_30, cpow_10_9, cpow_10_20, cpow_10_30, divP_lit, mulP_r, mulP_l, lne_line, lt_line, isi_int, isi_bool, Int.reduceLT, Int.reduceLE, Int.reduceGT, Int.reduceGE, Int.reduceNeg, Int.reduceMul, Int.reduceAdd, Int.reduceSub, Nat.reduceLeDiff, Nat.reduceLT, true_and, and_true, decide_true, decide_false, sga, wipeP, List.set_cons_zero, List.set_cons_succ, evSs_nil, List.lookup, Nat.reduceBEq, seq_str, seq_tup, seq_fl, Bool.true_and, Bool.and_true, Bool.false_and, Bool.and_false, beq_self_eq_true])
    refine blt_sortedL C2.ct (by omega) fun zs r pm so nr => ?_
    have l3 := PLe.new (c := .lst (zs.map .str)) nr
    have e2 := l3 _ _ e1
    have e3 := at_of_pup (rfl : pup g2 r (.lst (zs.map .str)) = _)
    have e : zs = ys := by
      refine sorted_uniq (pm.trans ((List.perm_ext_iff_of_nodup P.n my.1).mpr fun x => ?_)) so my.2.2
      rw [my.2.1 x]
      exact P.m x
    subst e
    have C3 := C2.ple l3
    have l13 := l.trans (l2.trans l3)
    generalize pup g2 r _ = g3 at C3 l13 e2 e3 ⊢
    (try simp only [evS, evE, evEs, evO, evB, evBs, evI, List.map_cons, List.map_nil, List.replicate_succ, List.replicate_zero, List.cons_append, List.nil_append, List.getElem?_cons_zero, List.getElem?_cons_succ, List.set_cons_zero, List.set_cons_succ, bv_add, bv_sub, bv_mul, bv_div, bv_mod, bv_pow, bv_str, av_add, av_sub, cv_lt, cv_le, cv_gt, cv_ge, cv_eq, cv_ne, cv_eqS, cv_neS, tv_bl, tv_int, List.length_cons, List.length_nil, pad, setT_nm, setT_tup, setTs_nil, setTs_cons, decide_eq_true_eq, Bool.not_eq_true', Bool.not_true, Bool.not_false, if_true, if_false, Bool.false_eq_true, Bool.true_eq_false, reduceIte, Nat.reduceAdd, Nat.reduceSub, Nat.reduceBEq, pow_10_9, pow_10_20, pow_10_30, cpow_10_9, cpow_10_20, cpow_10_30, divP_lit, mulP_r, mulP_l, lne_line, lt_line, isi_int, isi_bool, Int.reduceLT, Int.reduceLE, Int.reduceGT, Int.reduceGE, Int.reduceNeg, Int.reduceMul, Int.reduceAdd, Int.reduceSub, Nat.reduceLeDiff, Nat.reduceLT, true_and, and_true, decide_true, decide_false, sga, wipeP, List.set_cons_zero, List.set_cons_succ, evSs_nil, List.lookup, Nat.reduceBEq, seq_str, seq_tup, seq_fl, Bool.true_and, Bool.and_true, Bool.false_and, Bool.and_false, beq_self_eq_true])
    rw [cn_loc, eqK_strs e2 e3]
    simp only [evS, evE, evEs, evO, evB, evBs, evI, List.map_cons, List.map_nil, List.replicate_succ, List.replicate_zero, List.cons_append, List.nil_append, List.getElem?_cons_zero, List.getElem?_cons_succ, List.set_cons_zero, List.set_cons_succ, bv_add, bv_sub, bv_mul, bv_div, bv_mod, bv_pow, bv_str, av_add, av_sub, cv_lt, cv_le, cv_gt, cv_ge, cv_eq, cv_ne, cv_eqS, cv_neS, tv_bl, tv_int, List.length_cons, List.length_nil, pad, setT_nm, setT_tup, setTs_nil, setTs_cons, decide_eq_true_eq, Bool.not_eq_true', Bool.not_true, Bool.not_false, if_true, if_false, Bool.false_eq_true, Bool.true_eq_false, reduceIte, Nat.reduceAdd, Nat.reduceSub, Nat.reduceBEq, pow_10_9, pow_10_20, pow_10_30, cpow_10_9, cpow_10_20, cpow_10_30, divP_lit, mulP_r, mulP_l, lne_line, lt_line, isi_int, isi_bool, Int.reduceLT, Int.reduceLE, Int.reduceGT, Int.reduceGE, Int.reduceNeg, Int.reduceMul, Int.reduceAdd, Int.reduceSub, Nat.reduceLeDiff, Nat.reduceLT, true_and, and_true, decide_true, decide_false, sga, wipeP, List.set_cons_zero, List.set_cons_succ, evSs_nil, List.lookup, Nat.reduceBEq, seq_str, seq_tup, seq_fl, Bool.true_and, Bool.and_true, Bool.false_and, Bool.and_false, beq_self_eq_true]
    rw [evSs_cons]
    simp only [evS, evE, evEs, evO, evB, evBs, evI, List.map_cons, List.map_nil, List.replicate_succ, List.replicate_zero, List.cons_append, List.nil_append, List.getElem?_cons_zero, List.getElem?_cons_succ, List.set_cons_zero, List.set_cons_succ, bv_add, bv_sub, bv_mul, bv_div, bv_mod, bv_pow, bv_str, av_add, av_sub, cv_lt, cv_le, cv_gt, cv_ge, cv_eq, cv_ne, cv_eqS, cv_neS, tv_bl, tv_int, List.length_cons, List.length_nil, pad, setT_nm, setT_tup, setTs_nil, setTs_cons, decide_eq_true_eq, Bool.not_eq_true', Bool.not_true, Bool.not_false, if_true, if_false, Bool.false_eq_true, Bool.true_eq_false, reduceIte, Nat.reduceAdd, Nat.reduceSub, Nat.reduceBEq, pow_10_9, pow_10_20, pow_10_30, cpow_10_9, cpow_10_20, cpow_10_30, divP_lit, mulP_r, mulP_l, lne_line, lt_line, isi_int, isi_bool, Int.reduceLT, Int.reduceLE, Int.reduceGT, Int.reduceGE, Int.reduceNeg, Int.reduceMul, Int.reduceAdd, Int.reduceSub, Nat.reduceLeDiff, Nat.reduceLT, true_and, and_true, decide_true, decide_false, sga, wipeP, List.set_cons_zero, List.set_cons_succ, evSs_nil, List.lookup, Nat.reduceBEq, seq_str, seq_tup, seq_fl, Bool.true_and, Bool.and_true, Bool.false_and, Bool.and_false, beq_self_eq_true]
    rw [seq_lst C3.n]
    refine forGo_list (f := PV.str) (as := S) (fun done env g => ∃ x7 x8, PLe g3 g ∧ env = [some (.loc a), some (.loc o), some (.loc t), some (.loc nl), x4, x5, x6, x7, x8])
      (fun done m rest env g K e I nx => ?_) (fun env g I => ?_) ⟨none, none, .refl g3, rfl⟩
    · obtain ⟨x7, x8, l, rfl⟩ := I
      refine ⟨l _ _ C3.n, ?_⟩
      simp only [evS, evE, evEs, evO, evB, evBs, evI, List.map_cons, List.map_nil, List.replicate_succ, List.replicate_zero, List.cons_append, List.nil_append, List.getElem?_cons_zero, List.getElem?_cons_succ, List.set_cons_zero, List.set_cons_succ, bv_add, bv_sub, bv_mul, bv_div, bv_mod, bv_pow, bv_str, av_add, av_sub, cv_lt, cv_le, cv_gt, cv_ge, cv_eq, cv_ne, cv_eqS, cv_neS, tv_bl, tv_int, List.length_cons, List.length_nil, pad, setT_nm, setT_tup, setTs_nil, setTs_cons, decide_eq_true_eq, Bool.not_eq_true', Bool.not_true, Bool.not_false, if_true, if_false, Bool.false_eq_true, Bool.true_eq_false, reduceIte, Nat.reduceAdd, Nat.reduceSub, Nat.reduceBEq, pow_10_9, pow_10_20, pow_10_30, cpow_10_9, cpow_10_20, cpow_10_30, divP_lit, mulP_r, mulP_l, lne_line, lt_line, isi_int, isi_bool, Int.reduceLT, Int.reduceLE, Int.reduceGT, Int.reduceGE, Int.reduceNeg, Int.reduceMul, Int.reduceAdd, Int.reduceSub, Nat.reduceLeDiff, Nat.reduceLT, true_and, and_true, decide_true, decide_false, sga, wipeP, List.set_cons_zero, List.set_cons_succ, evSs_nil, List.lookup, Nat.reduceBEq, seq_str, seq_tup, seq_fl, Bool.true_and, Bool.and_true, Bool.false_and, Bool.and_false, beq_self_eq_true]
      exact tD (C3.ple l) P fun g4 x8 l4 => nx _ g4 ⟨_, _, l.trans l4, rfl⟩
    · obtain ⟨x7, x8, l, rfl⟩ := I
      refine ⟨l _ _ C3.n, ?_⟩
      (try dsimp only)
      rw [evSs_cons]
      simp only [evS, evE, evEs, evO, evB, evBs, evI, List.map_cons, List.map_nil, List.replicate_succ, List.replicate_zero, List.cons_append, List.nil_append, List.getElem?_cons_zero, List.getElem?_cons_succ, List.set_cons_zero, List.set_cons_succ, bv_add, bv_sub, bv_mul, bv_div, bv_mod, bv_pow, bv_str, av_add, av_sub, cv_lt, cv_le, cv_gt, cv_ge, cv_eq, cv_ne, cv_eqS, cv_neS, tv_bl, tv_int, List.length_cons, List.length_nil, pad, setT_nm, setT_tup, setTs_nil, setTs_cons, decide_eq_true_eq, Bool.not_eq_true', Bool.not_true, Bool.not_false, if_true, if_false, Bool.false_eq_true, Bool.true_eq_false, reduceIte, Nat.reduceAdd, Nat.reduceSub, Nat.reduceBEq, pow_10_9, pow_10_20, pow_10_30, cpow_10_9, cpow_10_20, cpow_10_30, divP_lit, mulP_r, mulP_l, lne_line, lt_line, isi_int, isi_bool, Int.reduceLT, Int.reduceLE, Int.reduceGT, Int.reduceGE, Int.reduceNeg, Int.reduceMul, Int.reduceAdd, Int.reduceSub, Nat.reduceLeDiff, Nat.reduceLT, true_and, and_true, decide_true, decide_false, sga, wipeP, List.set_cons_zero, List.set_cons_succ, evSs_nil, List.lookup, Nat.reduceBEq, seq_str, seq_tup, seq_fl, Bool.true_and, Bool.and_true, Bool.false_and, Bool.and_false, beq_self_eq_true]
      exact ret_here (q g (l13.trans l))
end
end LK

set_option autoImplicit false
namespace LK
open PySem L2 PySem.Spec Mir
open PyProof.Rows hiding St
/-! ### two ledgers -/
section
variable {n : Nat} {h : PH} {Q : QE} {X : Mir.XE}
structure HD where
  L : Led
  kvs : List (List Key × PV)
  met : List Str
  f : Str → Str → Int
def dom (o t : Addr) (L : Led) : List Addr := o :: t :: L.ads
structure Two (h : PH) (nl al ol ml : Addr) (S : List Str) (A O T : Nat → Addr) (D : Nat → HD) (k : Nat) : Prop where
  c : ∀ i, i < 2 → Cells h (A i) (O i) (T i) nl S (D i).L (D i).kvs (D i).met
  p : ∀ i, i < 2 → Pl (D i).L (D i).kvs (D i).met (D i).f S k
  sep : ∀ i j, i < 2 → j < 2 → i ≠ j → ∀ b ∈ dom (O i) (T i) (D i).L, b ∉ dom (O j) (T j) (D j).L
  la : h al = some (.lst [.loc (A 0), .loc (A 1)])
  lo : h ol = some (.lst [.loc (O 0), .loc (O 1)])
  lm : h ml = some (.lst [.loc (T 0), .loc (T 1)])
  fx : ∀ i, i < 2 → al ≠ T i ∧ ol ≠ T i ∧ ml ≠ T i
variable {nl al ol ml : Addr} {S : List Str} {A O T : Nat → Addr} {D : Nat → HD} {k : Nat}
theorem Two.le {g : PH} (W : Two h nl al ol ml S A O T D k) (l : PLe h g) : Two g nl al ol ml S A O T D k :=
  { W with c := fun i hi => (W.c i hi).ple l, la := l _ _ W.la, lo := l _ _ W.lo, lm := l _ _ W.lm }
theorem Cells.dom_there {a o t nl : Addr} {S : List Str} {L : Led} {kvs : List (List Key × PV)} {met : List Str} (c : Cells h a o t nl S L kvs met) : ∀ b ∈ dom o t L, h b ≠ none := fun b hb => by
  unfold dom at hb
  simp only [List.mem_cons] at hb
  rcases hb with e | e | e
  · rw [e, c.co]; exact fun z => by cases z
  · rw [e, c.ct]; exact fun z => by cases z
  · exact c.l.there b (List.mem_cons_of_mem _ e)
theorem Cells.lst_kept {a o t nl x : Addr} {S : List Str} {L : Led} {kvs : List (List Key × PV)} {met : List Str} {g : PH} {xs : List PV} (c : Cells h a o t nl S L kvs met) (K : Keeps (dom o t L) h g) (e : h x = some (.lst xs)) (ne : x ≠ t) : g x = some (.lst xs) := by
  refine K _ _ (fun z => ?_) e
  unfold dom at z
  simp only [List.mem_cons] at z
  rcases z with z | z | z
  · rw [z, c.co] at e; cases e
  · exact ne z
  · exact not_ads c.l e (fun _ y => by cases y) z
theorem Cells.ins_kept {a o t nl x : Addr} {S : List Str} {L : Led} {kvs : List (List Key × PV)} {met : List Str} {g : PH} {k : Nat} {fs : List (Nat × PV)} (c : Cells h a o t nl S L kvs met) (K : Keeps (dom o t L) h g) (e : h x = some (.ins k fs)) : g x = some (.ins k fs) := by
  refine K _ _ (fun z => ?_) e
  unfold dom at z
  simp only [List.mem_cons] at z
  rcases z with z | z | z
  · rw [z, c.co] at e; cases e
  · rw [z, c.ct] at e; cases e
  · exact not_ads c.l e (fun _ y => by cases y) z
theorem Pl.up {L : Led} {kvs : List (List Key × PV)} {met : List Str} {f : Str → Str → Int} (P : Pl L kvs met f S k) : Pl L kvs met f S (k + 1) := { P with ln := by have := P.ln; omega }
/-- one of the two is changed -/
theorem Two.step {g : PH} {i : Nat} {L' : Led} {kvs' : List (List Key × PV)} {met' : List Str} {f' : Str → Str → Int} (W : Two h nl al ol ml S A O T D k) (hi : i < 2) (C' : Cells g (A i) (O i) (T i) nl S L' kvs' met') (P' : Pl L' kvs' met' f' S (k + 1)) (K : Keeps (dom (O i) (T i) (D i).L) h g) (N : ∀ b ∈ L'.ads, b ∈ (D i).L.ads ∨ h b = none) :
    Two g nl al ol ml S A O T (fun j => if j = i then ⟨L', kvs', met', f'⟩ else D j) (k + 1) := by
  have ci := W.c i hi
  have old : ∀ b ∈ dom (O i) (T i) L', b ∈ dom (O i) (T i) (D i).L ∨ h b = none := fun b hb => by
    unfold dom at hb ⊢
    simp only [List.mem_cons] at hb ⊢
    rcases hb with e | e | e
    · exact .inl (.inl e)
    · exact .inl (.inr (.inl e))
    · exact (N b e).imp (fun z => .inr (.inr z)) id
  refine ⟨fun j hj => ?_, fun j hj => ?_, fun x y hx hy ne b hb hb' => ?_, ci.lst_kept K W.la (W.fx i hi).1, ci.lst_kept K W.lo (W.fx i hi).2.1, ci.lst_kept K W.lm (W.fx i hi).2.2, W.fx⟩
  · by_cases e : j = i
    · subst e
      simp only [if_true]
      exact C'
    · simp only [if_neg e]
      have cj := W.c j hj
      have s := W.sep j i hj hi e
      have inD : ∀ b ∈ dom (O j) (T j) (D j).L, ∀ c, h b = some c → g b = some c := fun b hb c eb => K b c (s b hb) eb
      refine ⟨cj.l.keeps K fun b hb => ?_, cj.i, inD _ (by simp [dom]) _ cj.co, inD _ (by simp [dom]) _ cj.ct, ci.lst_kept K ci.n ci.d, cj.d⟩
      rcases List.mem_cons.mp hb with z | z
      · intro y
        rw [z] at y
        unfold dom at y
        simp only [List.mem_cons] at y
        have e0 := cj.l.o
        rcases y with y | y | y
        · rw [y, ci.co] at e0; cases e0
        · rw [y, ci.ct] at e0; cases e0
        · exact not_ads ci.l e0 (fun _ y => by cases y) y
      · exact s b (by unfold dom; simp [z])
  · by_cases e : j = i
    · subst e
      simp only [if_true]
      exact P'
    · simp only [if_neg e]
      exact (W.p j hj).up
  · by_cases ex : x = i
    · subst ex
      have ey : y ≠ x := ne.symm
      simp only [if_true, if_neg ey] at hb hb'
      rcases old b hb with z | z
      · exact W.sep x y hx hy ne b z hb'
      · exact (W.c y hy).dom_there b hb' z
    · simp only [if_neg ex] at hb
      by_cases ey : y = i
      · subst ey
        simp only [if_true] at hb'
        rcases old b hb' with z | z
        · exact W.sep x y hx hy ne b hb z
        · exact (W.c x hx).dom_there b hb z
      · simp only [if_neg ey] at hb'
        exact W.sep x y hx hy ne b hb hb'
theorem sub2 {i : Nat} {F : Nat → Addr} (hi : i < 2) (e : h al = some (.lst [.loc (F 0), .loc (F 1)])) : subV (.loc al) (.int (i : Nat)) h Q = Q (.loc (F i)) h := by
  have : i = 0 ∨ i = 1 := by omega
  rcases this with rfl | rfl
  · exact propext (by rw [sv_lst e rfl])
  · exact propext (by rw [sv_lst e rfl])
def deedB : Ss := match b15 with
  | .cons _ (.cons _ (.cons _ (.cons _ (.cons _ (.cons (.for _ _ b) _))))) => b
  | _ => .nil
theorem deedB_sp {c : Int} {j : Nat} {x0 x1 x8 : Option PV} {E : PD} (W : Two h nl al ol ml S A O T D k) (nd : S.Nodup) (hS : S.length = 7) (hk : k ≤ 200)
    (nx : ∀ g D', Two g nl al ol ml S A O T D' (k + 1) → (∀ x xs, h x = some (.lst xs) → x ≠ T 0 → x ≠ T 1 → g x = some (.lst xs)) → E.nx [x0, x1, some (.loc nl), some (.loc al), some (.loc ol), some (.loc ml), some (.int (j : Nat)), some (.int c), x8] g) :
    evSs sg (sem sg (n + 10)) deedB [x0, x1, some (.loc nl), some (.loc al), some (.loc ol), some (.loc ml), some (.int (j : Nat)), some (.int c), x8] h E := by
  rw [show deedB = _ from rfl, deedB, b15]
  (try dsimp only)
  rw [evSs_cons]
  simp only [evS, evE, evEs, evO, evB, evBs, evI, List.map_cons, List.map_nil, List.replicate_succ, List.replicate_zero, List.cons_append, List.nil_append, List.getElem?_cons_zero, List.getElem?_cons_succ, List.set_cons_zero, List.set_cons_succ, bv_add, bv_sub, bv_mul, bv_div, bv_mod, bv_pow, bv_str, av_add, av_sub, cv_lt, cv_le, cv_gt, cv_ge, cv_eq, cv_ne, cv_eqS, cv_neS, tv_bl, tv_int, List.length_cons, List.length_nil, pad, setT_nm, setT_tup, setTs_nil, setTs_cons, decide_eq_true_eq, Bool.not_eq_true', Bool.not_true, Bool.not_false, if_true, if_false, Bool.false_eq_true, Bool.true_eq_false, reduceIte, Nat.reduceAdd, Nat.reduceSub, Nat.reduceBEq, pow_10_9, pow_10_20, pow_10_30, cpow_10_9, cpow_10_20, cpow_10_30, divP_lit, mulP_r, mulP_l, lne_line, lt_line, isi_int, isi_bool, Int.reduceLT, Int.reduceLE, Int.reduceGT, Int.reduceGE, Int.reduceNeg, Int.reduceMul, Int.reduceAdd, Int.reduceSub, Nat.reduceLeDiff, Nat.reduceLT, true_and, and_true, decide_true, decide_false, sga, wipeP, List.set_cons_zero, List.set_cons_succ, evSs_nil, List.lookup, Nat.reduceBEq, seq_str, seq_tup, seq_fl, Bool.true_and, Bool.and_true, Bool.false_and, Bool.and_false, beq_self_eq_true]
  have hi : j % 2 < 2 := Nat.mod_lt _ (by decide)
  rw [show ((j : Nat) : Int) % 2 = ((j % 2 : Nat) : Int) from rfl, sub2 hi W.la]
  (try simp only [evS, evE, evEs, evO, evB, evBs, evI, List.map_cons, List.map_nil, List.replicate_succ, List.replicate_zero, List.cons_append, List.nil_append, List.getElem?_cons_zero, List.getElem?_cons_succ, List.set_cons_zero, List.set_cons_succ, bv_add, bv_sub, bv_mul, bv_div, bv_mod, bv_pow, bv_str, av_add, av_sub, cv_lt, cv_le, cv_gt, cv_ge, cv_eq, cv_ne, cv_eqS, cv_neS, tv_bl, tv_int, List.length_cons, List.length_nil, pad, setT_nm, setT_tup, setTs_nil, setTs_cons, decide_eq_true_eq, Bool.not_eq_true', Bool.not_true, Bool.not_false, if_true, if_false, Bool.false_eq_true, Bool.true_eq_false, reduceIte, Nat.reduceAdd, Nat.reduceSub, Nat.reduceBEq, pow_10_9, pow_10_20, pow_10_30, cpow_10_9, cpow_10_20, cpow_10_30, divP_lit, mulP_r, mulP_l, lne_line, lt_line, isi_int, isi_bool, Int.reduceLT, Int.reduceLE, Int.reduceGT, Int.reduceGE, Int.reduceNeg, Int.reduceMul, Int.reduceAdd, Int.reduceSub, Nat.reduceLeDiff, Nat.reduceLT, true_and, and_true, decide_true, decide_false, sga, wipeP, List.set_cons_zero, List.set_cons_succ, evSs_nil, List.lookup, Nat.reduceBEq, seq_str, seq_tup, seq_fl, Bool.true_and, Bool.and_true, Bool.false_and, Bool.and_false, beq_self_eq_true])
  rw [sub2 hi W.lo]
  (try simp only [evS, evE, evEs, evO, evB, evBs, evI, List.map_cons, List.map_nil, List.replicate_succ, List.replicate_zero, List.cons_append, List.nil_append, List.getElem?_cons_zero, List.getElem?_cons_succ, List.set_cons_zero, List.set_cons_succ, bv_add, bv_sub, bv_mul, bv_div, bv_mod, bv_pow, bv_str, av_add, av_sub, cv_lt, cv_le, cv_gt, cv_ge, cv_eq, cv_ne, cv_eqS, cv_neS, tv_bl, tv_int, List.length_cons, List.length_nil, pad, setT_nm, setT_tup, setTs_nil, setTs_cons, decide_eq_true_eq, Bool.not_eq_true', Bool.not_true, Bool.not_false, if_true, if_false, Bool.false_eq_true, Bool.true_eq_false, reduceIte, Nat.reduceAdd, Nat.reduceSub, Nat.reduceBEq, pow_10_9, pow_10_20, pow_10_30, cpow_10_9, cpow_10_20, cpow_10_30, divP_lit, mulP_r, mulP_l, lne_line, lt_line, isi_int, isi_bool, Int.reduceLT, Int.reduceLE, Int.reduceGT, Int.reduceGE, Int.reduceNeg, Int.reduceMul, Int.reduceAdd, Int.reduceSub, Nat.reduceLeDiff, Nat.reduceLT, true_and, and_true, decide_true, decide_false, sga, wipeP, List.set_cons_zero, List.set_cons_succ, evSs_nil, List.lookup, Nat.reduceBEq, seq_str, seq_tup, seq_fl, Bool.true_and, Bool.and_true, Bool.false_and, Bool.and_false, beq_self_eq_true])
  rw [sub2 hi W.lm]
  (try simp only [evS, evE, evEs, evO, evB, evBs, evI, List.map_cons, List.map_nil, List.replicate_succ, List.replicate_zero, List.cons_append, List.nil_append, List.getElem?_cons_zero, List.getElem?_cons_succ, List.set_cons_zero, List.set_cons_succ, bv_add, bv_sub, bv_mul, bv_div, bv_mod, bv_pow, bv_str, av_add, av_sub, cv_lt, cv_le, cv_gt, cv_ge, cv_eq, cv_ne, cv_eqS, cv_neS, tv_bl, tv_int, List.length_cons, List.length_nil, pad, setT_nm, setT_tup, setTs_nil, setTs_cons, decide_eq_true_eq, Bool.not_eq_true', Bool.not_true, Bool.not_false, if_true, if_false, Bool.false_eq_true, Bool.true_eq_false, reduceIte, Nat.reduceAdd, Nat.reduceSub, Nat.reduceBEq, pow_10_9, pow_10_20, pow_10_30, cpow_10_9, cpow_10_20, cpow_10_30, divP_lit, mulP_r, mulP_l, lne_line, lt_line, isi_int, isi_bool, Int.reduceLT, Int.reduceLE, Int.reduceGT, Int.reduceGE, Int.reduceNeg, Int.reduceMul, Int.reduceAdd, Int.reduceSub, Nat.reduceLeDiff, Nat.reduceLT, true_and, and_true, decide_true, decide_false, sga, wipeP, List.set_cons_zero, List.set_cons_succ, evSs_nil, List.lookup, Nat.reduceBEq, seq_str, seq_tup, seq_fl, Bool.true_and, Bool.and_true, Bool.false_and, Bool.and_false, beq_self_eq_true])
  refine mixed_sp (by omega) (by omega) ?_
  refine deed_sp (W.c _ hi) (W.p _ hi) hk nd hS (mix_lo _ _) fun g L' kvs' met' f' C' P' K N => ?_
  have W' := W.step hi C' P' K N
  have kept : ∀ x xs, h x = some (.lst xs) → x ≠ T 0 → x ≠ T 1 → g x = some (.lst xs) := fun x xs e n0 n1 => by
    refine (W.c _ hi).lst_kept K e ?_
    have : j % 2 = 0 ∨ j % 2 = 1 := by omega
    rcases this with z | z <;> rw [z]
    · exact n0
    · exact n1
  (try simp only [evS, evE, evEs, evO, evB, evBs, evI, List.map_cons, List.map_nil, List.replicate_succ, List.replicate_zero, List.cons_append, List.nil_append, List.getElem?_cons_zero, List.getElem?_cons_succ, List.set_cons_zero, List.set_cons_succ, bv_add, bv_sub, bv_mul, bv_div, bv_mod, bv_pow, bv_str, av_add, av_sub, cv_lt, cv_le, cv_gt, cv_ge, cv_eq, cv_ne, cv_eqS, cv_neS, tv_bl, tv_int, List.length_cons, List.length_nil, pad, setT_nm, setT_tup, setTs_nil, setTs_cons, decide_eq_true_eq, Bool.not_eq_true', Bool.not_true, Bool.not_false, if_true, if_false, Bool.false_eq_true, Bool.true_eq_false, reduceIte, Nat.reduceAdd, Nat.reduceSub, Nat.reduceBEq, pow_10_9, pow_10_20, pow_10_30, cpow_10_9, cpow_10_20, cpow_10_30, divP_lit, mulP_r, mulP_l, lne_line, lt_line, isi_int, isi_bool, Int.reduceLT, Int.reduceLE, Int.reduceGT, Int.reduceGE, Int.reduceNeg, Int.reduceMul, Int.reduceAdd, Int.reduceSub, Nat.reduceLeDiff, Nat.reduceLT, true_and, and_true, decide_true, decide_false, sga, wipeP, List.set_cons_zero, List.set_cons_succ, evSs_nil, List.lookup, Nat.reduceBEq, seq_str, seq_tup, seq_fl, Bool.true_and, Bool.and_true, Bool.false_and, Bool.and_false, beq_self_eq_true])
  rw [evSs_cons]
  simp only [evS, evE, evEs, evO, evB, evBs, evI, List.map_cons, List.map_nil, List.replicate_succ, List.replicate_zero, List.cons_append, List.nil_append, List.getElem?_cons_zero, List.getElem?_cons_succ, List.set_cons_zero, List.set_cons_succ, bv_add, bv_sub, bv_mul, bv_div, bv_mod, bv_pow, bv_str, av_add, av_sub, cv_lt, cv_le, cv_gt, cv_ge, cv_eq, cv_ne, cv_eqS, cv_neS, tv_bl, tv_int, List.length_cons, List.length_nil, pad, setT_nm, setT_tup, setTs_nil, setTs_cons, decide_eq_true_eq, Bool.not_eq_true', Bool.not_true, Bool.not_false, if_true, if_false, Bool.false_eq_true, Bool.true_eq_false, reduceIte, Nat.reduceAdd, Nat.reduceSub, Nat.reduceBEq, pow_10_9, pow_10_20, pow_10_30, cpow_10_9, cpow_10_20, cpow_10_30, divP_lit, mulP_r, mulP_l, lne_line, lt_line, isi_int, isi_bool, Int.reduceLT, Int.reduceLE, Int.reduceGT, Int.reduceGE, Int.reduceNeg, Int.reduceMul, Int.reduceAdd, Int.reduceSub, Nat.reduceLeDiff, Nat.reduceLT, true_and, and_true, decide_true, decide_false, sga, wipeP, List.set_cons_zero, List.set_cons_succ, evSs_nil, List.lookup, Nat.reduceBEq, seq_str, seq_tup, seq_fl, Bool.true_and, Bool.and_true, Bool.false_and, Bool.and_false, beq_self_eq_true]
  by_cases hj : ((j : Nat) : Int) < 12
  · rw [if_pos (by simpa using hj)]
    (try simp only [evS, evE, evEs, evO, evB, evBs, evI, List.map_cons, List.map_nil, List.replicate_succ, List.replicate_zero, List.cons_append, List.nil_append, List.getElem?_cons_zero, List.getElem?_cons_succ, List.set_cons_zero, List.set_cons_succ, bv_add, bv_sub, bv_mul, bv_div, bv_mod, bv_pow, bv_str, av_add, av_sub, cv_lt, cv_le, cv_gt, cv_ge, cv_eq, cv_ne, cv_eqS, cv_neS, tv_bl, tv_int, List.length_cons, List.length_nil, pad, setT_nm, setT_tup, setTs_nil, setTs_cons, decide_eq_true_eq, Bool.not_eq_true', Bool.not_true, Bool.not_false, if_true, if_false, Bool.false_eq_true, Bool.true_eq_false, reduceIte, Nat.reduceAdd, Nat.reduceSub, Nat.reduceBEq, pow_10_9, pow_10_20, pow_10_30, cpow_10_9, cpow_10_20, cpow_10_30, divP_lit, mulP_r, mulP_l, lne_line, lt_line, isi_int, isi_bool, Int.reduceLT, Int.reduceLE, Int.reduceGT, Int.reduceGE, Int.reduceNeg, Int.reduceMul, Int.reduceAdd, Int.reduceSub, Nat.reduceLeDiff, Nat.reduceLT, true_and, and_true, decide_true, decide_false, sga, wipeP, List.set_cons_zero, List.set_cons_succ, evSs_nil, List.lookup, Nat.reduceBEq, seq_str, seq_tup, seq_fl, Bool.true_and, Bool.and_true, Bool.false_and, Bool.and_false, beq_self_eq_true])
    rw [show ((j : Nat) : Int) % 2 = ((j % 2 : Nat) : Int) from rfl, sub2 hi W'.la]
    (try simp only [evS, evE, evEs, evO, evB, evBs, evI, List.map_cons, List.map_nil, List.replicate_succ, List.replicate_zero, List.cons_append, List.nil_append, List.getElem?_cons_zero, List.getElem?_cons_succ, List.set_cons_zero, List.set_cons_succ, bv_add, bv_sub, bv_mul, bv_div, bv_mod, bv_pow, bv_str, av_add, av_sub, cv_lt, cv_le, cv_gt, cv_ge, cv_eq, cv_ne, cv_eqS, cv_neS, tv_bl, tv_int, List.length_cons, List.length_nil, pad, setT_nm, setT_tup, setTs_nil, setTs_cons, decide_eq_true_eq, Bool.not_eq_true', Bool.not_true, Bool.not_false, if_true, if_false, Bool.false_eq_true, Bool.true_eq_false, reduceIte, Nat.reduceAdd, Nat.reduceSub, Nat.reduceBEq, pow_10_9, pow_10_20, pow_10_30, cpow_10_9, cpow_10_20, cpow_10_30, divP_lit, mulP_r, mulP_l, lne_line, lt_line, isi_int, isi_bool, Int.reduceLT, Int.reduceLE, Int.reduceGT, Int.reduceGE, Int.reduceNeg, Int.reduceMul, Int.reduceAdd, Int.reduceSub, Nat.reduceLeDiff, Nat.reduceLT, true_and, and_true, decide_true, decide_false, sga, wipeP, List.set_cons_zero, List.set_cons_succ, evSs_nil, List.lookup, Nat.reduceBEq, seq_str, seq_tup, seq_fl, Bool.true_and, Bool.and_true, Bool.false_and, Bool.and_false, beq_self_eq_true])
    rw [sub2 hi W'.lo]
    (try simp only [evS, evE, evEs, evO, evB, evBs, evI, List.map_cons, List.map_nil, List.replicate_succ, List.replicate_zero, List.cons_append, List.nil_append, List.getElem?_cons_zero, List.getElem?_cons_succ, List.set_cons_zero, List.set_cons_succ, bv_add, bv_sub, bv_mul, bv_div, bv_mod, bv_pow, bv_str, av_add, av_sub, cv_lt, cv_le, cv_gt, cv_ge, cv_eq, cv_ne, cv_eqS, cv_neS, tv_bl, tv_int, List.length_cons, List.length_nil, pad, setT_nm, setT_tup, setTs_nil, setTs_cons, decide_eq_true_eq, Bool.not_eq_true', Bool.not_true, Bool.not_false, if_true, if_false, Bool.false_eq_true, Bool.true_eq_false, reduceIte, Nat.reduceAdd, Nat.reduceSub, Nat.reduceBEq, pow_10_9, pow_10_20, pow_10_30, cpow_10_9, cpow_10_20, cpow_10_30, divP_lit, mulP_r, mulP_l, lne_line, lt_line, isi_int, isi_bool, Int.reduceLT, Int.reduceLE, Int.reduceGT, Int.reduceGE, Int.reduceNeg, Int.reduceMul, Int.reduceAdd, Int.reduceSub, Nat.reduceLeDiff, Nat.reduceLT, true_and, and_true, decide_true, decide_false, sga, wipeP, List.set_cons_zero, List.set_cons_succ, evSs_nil, List.lookup, Nat.reduceBEq, seq_str, seq_tup, seq_fl, Bool.true_and, Bool.and_true, Bool.false_and, Bool.and_false, beq_self_eq_true])
    rw [sub2 hi W'.lm]
    (try simp only [evS, evE, evEs, evO, evB, evBs, evI, List.map_cons, List.map_nil, List.replicate_succ, List.replicate_zero, List.cons_append, List.nil_append, List.getElem?_cons_zero, List.getElem?_cons_succ, List.set_cons_zero, List.set_cons_succ, bv_add, bv_sub, bv_mul, bv_div, bv_mod, bv_pow, bv_str, av_add, av_sub, cv_lt, cv_le, cv_gt, cv_ge, cv_eq, cv_ne, cv_eqS, cv_neS, tv_bl, tv_int, List.length_cons, List.length_nil, pad, setT_nm, setT_tup, setTs_nil, setTs_cons, decide_eq_true_eq, Bool.not_eq_true', Bool.not_true, Bool.not_false, if_true, if_false, Bool.false_eq_true, Bool.true_eq_false, reduceIte, Nat.reduceAdd, Nat.reduceSub, Nat.reduceBEq, pow_10_9, pow_10_20, pow_10_30, cpow_10_9, cpow_10_20, cpow_10_30, divP_lit, mulP_r, mulP_l, lne_line, lt_line, isi_int, isi_bool, Int.reduceLT, Int.reduceLE, Int.reduceGT, Int.reduceGE, Int.reduceNeg, Int.reduceMul, Int.reduceAdd, Int.reduceSub, Nat.reduceLeDiff, Nat.reduceLT, true_and, and_true, decide_true, decide_false, sga, wipeP, List.set_cons_zero, List.set_cons_succ, evSs_nil, List.lookup, Nat.reduceBEq, seq_str, seq_tup, seq_fl, Bool.true_and, Bool.and_true, Bool.false_and, Bool.and_false, beq_self_eq_true])
    refine stands_sp (W'.c _ hi) (W'.p _ hi) hS fun g2 l2 => ?_
    (try simp only [evS, evE, evEs, evO, evB, evBs, evI, List.map_cons, List.map_nil, List.replicate_succ, List.replicate_zero, List.cons_append, List.nil_append, List.getElem?_cons_zero, List.getElem?_cons_succ, List.set_cons_zero, List.set_cons_succ, bv_add, bv_sub, bv_mul, bv_div, bv_mod, bv_pow, bv_str, av_add, av_sub, cv_lt, cv_le, cv_gt, cv_ge, cv_eq, cv_ne, cv_eqS, cv_neS, tv_bl, tv_int, List.length_cons, List.length_nil, pad, setT_nm, setT_tup, setTs_nil, setTs_cons, decide_eq_true_eq, Bool.not_eq_true', Bool.not_true, Bool.not_false, if_true, if_false, Bool.false_eq_true, Bool.true_eq_false, reduceIte, Nat.reduceAdd, Nat.reduceSub, Nat.reduceBEq, pow_10_9, pow_10_20, pow_10_30, cpow_10_9, cpow_10_20, cpow_10_30, divP_lit, mulP_r, mulP_l, lne_line, lt_line, isi_int, isi_bool, Int.reduceLT, Int.reduceLE, Int.reduceGT, Int.reduceGE, Int.reduceNeg, Int.reduceMul, Int.reduceAdd, Int.reduceSub, Nat.reduceLeDiff, Nat.reduceLT, true_and, and_true, decide_true, decide_false, sga, wipeP, List.set_cons_zero, List.set_cons_succ, evSs_nil, List.lookup, Nat.reduceBEq, seq_str, seq_tup, seq_fl, Bool.true_and, Bool.and_true, Bool.false_and, Bool.and_false, beq_self_eq_true])
    exact nx g2 _ (W'.le l2) fun x xs e n0 n1 => l2 _ _ (kept x xs e n0 n1)
  · rw [if_neg (by simpa using hj)]
    (try simp only [evS, evE, evEs, evO, evB, evBs, evI, List.map_cons, List.map_nil, List.replicate_succ, List.replicate_zero, List.cons_append, List.nil_append, List.getElem?_cons_zero, List.getElem?_cons_succ, List.set_cons_zero, List.set_cons_succ, bv_add, bv_sub, bv_mul, bv_div, bv_mod, bv_pow, bv_str, av_add, av_sub, cv_lt, cv_le, cv_gt, cv_ge, cv_eq, cv_ne, cv_eqS, cv_neS, tv_bl, tv_int, List.length_cons, List.length_nil, pad, setT_nm, setT_tup, setTs_nil, setTs_cons, decide_eq_true_eq, Bool.not_eq_true', Bool.not_true, Bool.not_false, if_true, if_false, Bool.false_eq_true, Bool.true_eq_false, reduceIte, Nat.reduceAdd, Nat.reduceSub, Nat.reduceBEq, pow_10_9, pow_10_20, pow_10_30, cpow_10_9, cpow_10_20, cpow_10_30, divP_lit, mulP_r, mulP_l, lne_line, lt_line, isi_int, isi_bool, Int.reduceLT, Int.reduceLE, Int.reduceGT, Int.reduceGE, Int.reduceNeg, Int.reduceMul, Int.reduceAdd, Int.reduceSub, Nat.reduceLeDiff, Nat.reduceLT, true_and, and_true, decide_true, decide_false, sga, wipeP, List.set_cons_zero, List.set_cons_succ, evSs_nil, List.lookup, Nat.reduceBEq, seq_str, seq_tup, seq_fl, Bool.true_and, Bool.and_true, Bool.false_and, Bool.and_false, beq_self_eq_true])
    exact nx g _ W' kept
end
end LK

set_option autoImplicit false
namespace LK
open PySem L2 PySem.Spec Mir
open PyProof.Rows hiding St
/-! ### the law of ledgers -/
section
variable {n : Nat} {h : PH} {Q : QE} {X : Mir.XE} {nl al ol ml : Addr} {S : List Str} {A O T : Nat → Addr} {D : Nat → HD} {k : Nat}
theorem nodup_map2 {α β : Type} {f : α → β} : ∀ {L : List α}, L.Nodup → (∀ x ∈ L, ∀ y ∈ L, f x = f y → x = y) → (L.map f).Nodup
  | [], _, _ => .nil
  | a :: L, nd, inj => by
    rw [List.nodup_cons] at nd
    rw [List.map_cons, List.nodup_cons]
    refine ⟨fun z => ?_, nodup_map2 nd.2 fun x hx y hy => inj x (List.mem_cons_of_mem _ hx) y (List.mem_cons_of_mem _ hy)⟩
    obtain ⟨y, hy, e⟩ := List.mem_map.mp z
    have := inj y (List.mem_cons_of_mem _ hy) a (by simp) e
    subst this
    exact nd.1 hy
def nmS (hd : Int) : List Str := (List.range 7).map fun i : Nat => nm hd ((0 : Int) + (i : Nat))
theorem nmS_nodup (hd : Int) : (nmS hd).Nodup := by
  refine nodup_map2 List.nodup_range fun x hx y hy e => ?_
  rw [List.mem_range] at hx hy
  have := nm_inj (b := hd) (k := 0 + (x : Int)) (l := 0 + (y : Int)) (by omega) (by omega) e
  omega
theorem nmS_len (hd : Int) : (nmS hd).length = 7 := by unfold nmS; rw [List.length_map, List.length_range]
theorem zip_strs (ns : List Str) : ((ns.map PV.str).zipIdx.map fun p => PV.tup [.int (p.2 : Nat), p.1]) = ns.zipIdx.map fun p => .tup [.int (p.2 : Nat), .str p.1] := by
  rw [List.zipIdx_map, List.map_map]
  rfl
abbrev moreS : Str := "more"
theorem le_newly {g : PH} {p : Addr} {c : Cell} (l : PLe h g) (np : h p = none) : PLe h (pup g p c) := fun b e eb => (pup_ne (fun z => by rw [z, np] at eb; cases eb)).trans (l b e eb)
theorem app_more {p : Addr} {ys : List Str} {R : QE} {x : Str} (e : h p = some (.lst (ys.map .str))) (ln : ys.length ≤ 900) (q : R .non (pup h p (.lst ((ys ++ [x]).map .str)))) : tyP .list (.loc p) h ∧ bmV .append (.loc p) [.str x] h R := by
  simp only [tyP, bmV, e]
  refine ⟨trivial, small1000 (by rw [List.length_map]; omega), ?_⟩
  rw [List.map_append] at q
  exact q
def lastB : Ss := match b15 with
  | .cons _ (.cons _ (.cons _ (.cons _ (.cons _ (.cons _ (.cons (.for _ _ (.cons (.for _ _ b) _)) _)))))) => b
  | _ => .nil
theorem lastB_sp {i : Nat} {x0 x1 x7 x8 : Option PV} {E : PD} (hi : i < 2) (W : Two h nl al ol ml S A O T D k) (hS : S.length = 7)
    (nx : ∀ g, Two g nl al ol ml S A O T D k → E.nx [x0, x1, some (.loc nl), some (.loc al), some (.loc ol), some (.loc ml), some (.int (i : Nat)), x7, x8] g) :
    evSs sg (sem sg (n + 10)) lastB [x0, x1, some (.loc nl), some (.loc al), some (.loc ol), some (.loc ml), some (.int (i : Nat)), x7, x8] h E := by
  rw [show lastB = _ from rfl, lastB, b15]
  (try dsimp only)
  rw [evSs_cons]
  simp only [evS, evE, evEs, evO, evB, evBs, evI, List.map_cons, List.map_nil, List.replicate_succ, List.replicate_zero, List.cons_append, List.nil_append, List.getElem?_cons_zero, List.getElem?_cons_succ, List.set_cons_zero, List.set_cons_succ, bv_add, bv_sub, bv_mul, bv_div, bv_mod, bv_pow, bv_str, av_add, av_sub, cv_lt, cv_le, cv_gt, cv_ge, cv_eq, cv_ne, cv_eqS, cv_neS, tv_bl, tv_int, List.length_cons, List.length_nil, pad, setT_nm, setT_tup, setTs_nil, setTs_cons, decide_eq_true_eq, Bool.not_eq_true', Bool.not_true, Bool.not_false, if_true, if_false, Bool.false_eq_true, Bool.true_eq_false, reduceIte, Nat.reduceAdd, Nat.reduceSub, Nat.reduceBEq, pow_10_9, pow_10_20, pow_10_30, cpow_10_9, cpow_10_20, cpow_10_30, divP_lit, mulP_r, mulP_l, lne_line, lt_line, isi_int, isi_bool, Int.reduceLT, Int.reduceLE, Int.reduceGT, Int.reduceGE, Int.reduceNeg, Int.reduceMul, Int.reduceAdd, Int.reduceSub, Nat.reduceLeDiff, Nat.reduceLT, true_and, and_true, decide_true, decide_false, sga, wipeP, List.set_cons_zero, List.set_cons_succ, evSs_nil, List.lookup, Nat.reduceBEq, seq_str, seq_tup, seq_fl, Bool.true_and, Bool.and_true, Bool.false_and, Bool.and_false, beq_self_eq_true]
  rw [sub2 hi W.la]
  (try simp only [evS, evE, evEs, evO, evB, evBs, evI, List.map_cons, List.map_nil, List.replicate_succ, List.replicate_zero, List.cons_append, List.nil_append, List.getElem?_cons_zero, List.getElem?_cons_succ, List.set_cons_zero, List.set_cons_succ, bv_add, bv_sub, bv_mul, bv_div, bv_mod, bv_pow, bv_str, av_add, av_sub, cv_lt, cv_le, cv_gt, cv_ge, cv_eq, cv_ne, cv_eqS, cv_neS, tv_bl, tv_int, List.length_cons, List.length_nil, pad, setT_nm, setT_tup, setTs_nil, setTs_cons, decide_eq_true_eq, Bool.not_eq_true', Bool.not_true, Bool.not_false, if_true, if_false, Bool.false_eq_true, Bool.true_eq_false, reduceIte, Nat.reduceAdd, Nat.reduceSub, Nat.reduceBEq, pow_10_9, pow_10_20, pow_10_30, cpow_10_9, cpow_10_20, cpow_10_30, divP_lit, mulP_r, mulP_l, lne_line, lt_line, isi_int, isi_bool, Int.reduceLT, Int.reduceLE, Int.reduceGT, Int.reduceGE, Int.reduceNeg, Int.reduceMul, Int.reduceAdd, Int.reduceSub, Nat.reduceLeDiff, Nat.reduceLT, true_and, and_true, decide_true, decide_false, sga, wipeP, List.set_cons_zero, List.set_cons_succ, evSs_nil, List.lookup, Nat.reduceBEq, seq_str, seq_tup, seq_fl, Bool.true_and, Bool.and_true, Bool.false_and, Bool.and_false, beq_self_eq_true])
  rw [sub2 hi W.lo]
  (try simp only [evS, evE, evEs, evO, evB, evBs, evI, List.map_cons, List.map_nil, List.replicate_succ, List.replicate_zero, List.cons_append, List.nil_append, List.getElem?_cons_zero, List.getElem?_cons_succ, List.set_cons_zero, List.set_cons_succ, bv_add, bv_sub, bv_mul, bv_div, bv_mod, bv_pow, bv_str, av_add, av_sub, cv_lt, cv_le, cv_gt, cv_ge, cv_eq, cv_ne, cv_eqS, cv_neS, tv_bl, tv_int, List.length_cons, List.length_nil, pad, setT_nm, setT_tup, setTs_nil, setTs_cons, decide_eq_true_eq, Bool.not_eq_true', Bool.not_true, Bool.not_false, if_true, if_false, Bool.false_eq_true, Bool.true_eq_false, reduceIte, Nat.reduceAdd, Nat.reduceSub, Nat.reduceBEq, pow_10_9, pow_10_20, pow_10_30, cpow_10_9, cpow_10_20, cpow_10_30, divP_lit, mulP_r, mulP_l, lne_line, lt_line, isi_int, isi_bool, Int.reduceLT, Int.reduceLE, Int.reduceGT, Int.reduceGE, Int.reduceNeg, Int.reduceMul, Int.reduceAdd, Int.reduceSub, Nat.reduceLeDiff, Nat.reduceLT, true_and, and_true, decide_true, decide_false, sga, wipeP, List.set_cons_zero, List.set_cons_succ, evSs_nil, List.lookup, Nat.reduceBEq, seq_str, seq_tup, seq_fl, Bool.true_and, Bool.and_true, Bool.false_and, Bool.and_false, beq_self_eq_true])
  rw [sub2 hi W.lm]
  (try simp only [evS, evE, evEs, evO, evB, evBs, evI, List.map_cons, List.map_nil, List.replicate_succ, List.replicate_zero, List.cons_append, List.nil_append, List.getElem?_cons_zero, List.getElem?_cons_succ, List.set_cons_zero, List.set_cons_succ, bv_add, bv_sub, bv_mul, bv_div, bv_mod, bv_pow, bv_str, av_add, av_sub, cv_lt, cv_le, cv_gt, cv_ge, cv_eq, cv_ne, cv_eqS, cv_neS, tv_bl, tv_int, List.length_cons, List.length_nil, pad, setT_nm, setT_tup, setTs_nil, setTs_cons, decide_eq_true_eq, Bool.not_eq_true', Bool.not_true, Bool.not_false, if_true, if_false, Bool.false_eq_true, Bool.true_eq_false, reduceIte, Nat.reduceAdd, Nat.reduceSub, Nat.reduceBEq, pow_10_9, pow_10_20, pow_10_30, cpow_10_9, cpow_10_20, cpow_10_30, divP_lit, mulP_r, mulP_l, lne_line, lt_line, isi_int, isi_bool, Int.reduceLT, Int.reduceLE, Int.reduceGT, Int.reduceGE, Int.reduceNeg, Int.reduceMul, Int.reduceAdd, Int.reduceSub, Nat.reduceLeDiff, Nat.reduceLT, true_and, and_true, decide_true, decide_false, sga, wipeP, List.set_cons_zero, List.set_cons_succ, evSs_nil, List.lookup, Nat.reduceBEq, seq_str, seq_tup, seq_fl, Bool.true_and, Bool.and_true, Bool.false_and, Bool.and_false, beq_self_eq_true])
  refine stands_sp (W.c _ hi) (W.p _ hi) hS fun g1 l1 => ?_
  have W1 := W.le l1
  (try simp only [evS, evE, evEs, evO, evB, evBs, evI, List.map_cons, List.map_nil, List.replicate_succ, List.replicate_zero, List.cons_append, List.nil_append, List.getElem?_cons_zero, List.getElem?_cons_succ, List.set_cons_zero, List.set_cons_succ, bv_add, bv_sub, bv_mul, bv_div, bv_mod, bv_pow, bv_str, av_add, av_sub, cv_lt, cv_le, cv_gt, cv_ge, cv_eq, cv_ne, cv_eqS, cv_neS, tv_bl, tv_int, List.length_cons, List.length_nil, pad, setT_nm, setT_tup, setTs_nil, setTs_cons, decide_eq_true_eq, Bool.not_eq_true', Bool.not_true, Bool.not_false, if_true, if_false, Bool.false_eq_true, Bool.true_eq_false, reduceIte, Nat.reduceAdd, Nat.reduceSub, Nat.reduceBEq, pow_10_9, pow_10_20, pow_10_30, cpow_10_9, cpow_10_20, cpow_10_30, divP_lit, mulP_r, mulP_l, lne_line, lt_line, isi_int, isi_bool, Int.reduceLT, Int.reduceLE, Int.reduceGT, Int.reduceGE, Int.reduceNeg, Int.reduceMul, Int.reduceAdd, Int.reduceSub, Nat.reduceLeDiff, Nat.reduceLT, true_and, and_true, decide_true, decide_false, sga, wipeP, List.set_cons_zero, List.set_cons_succ, evSs_nil, List.lookup, Nat.reduceBEq, seq_str, seq_tup, seq_fl, Bool.true_and, Bool.and_true, Bool.false_and, Bool.and_false, beq_self_eq_true])
  rw [evSs_cons]
  simp only [evS, evE, evEs, evO, evB, evBs, evI, List.map_cons, List.map_nil, List.replicate_succ, List.replicate_zero, List.cons_append, List.nil_append, List.getElem?_cons_zero, List.getElem?_cons_succ, List.set_cons_zero, List.set_cons_succ, bv_add, bv_sub, bv_mul, bv_div, bv_mod, bv_pow, bv_str, av_add, av_sub, cv_lt, cv_le, cv_gt, cv_ge, cv_eq, cv_ne, cv_eqS, cv_neS, tv_bl, tv_int, List.length_cons, List.length_nil, pad, setT_nm, setT_tup, setTs_nil, setTs_cons, decide_eq_true_eq, Bool.not_eq_true', Bool.not_true, Bool.not_false, if_true, if_false, Bool.false_eq_true, Bool.true_eq_false, reduceIte, Nat.reduceAdd, Nat.reduceSub, Nat.reduceBEq, pow_10_9, pow_10_20, pow_10_30, cpow_10_9, cpow_10_20, cpow_10_30, divP_lit, mulP_r, mulP_l, lne_line, lt_line, isi_int, isi_bool, Int.reduceLT, Int.reduceLE, Int.reduceGT, Int.reduceGE, Int.reduceNeg, Int.reduceMul, Int.reduceAdd, Int.reduceSub, Nat.reduceLeDiff, Nat.reduceLT, true_and, and_true, decide_true, decide_false, sga, wipeP, List.set_cons_zero, List.set_cons_succ, evSs_nil, List.lookup, Nat.reduceBEq, seq_str, seq_tup, seq_fl, Bool.true_and, Bool.and_true, Bool.false_and, Bool.and_false, beq_self_eq_true]
  rw [sub2 hi W1.la]
  simp only [evS, evE, evEs, evO, evB, evBs, evI, List.map_cons, List.map_nil, List.replicate_succ, List.replicate_zero, List.cons_append, List.nil_append, List.getElem?_cons_zero, List.getElem?_cons_succ, List.set_cons_zero, List.set_cons_succ, bv_add, bv_sub, bv_mul, bv_div, bv_mod, bv_pow, bv_str, av_add, av_sub, cv_lt, cv_le, cv_gt, cv_ge, cv_eq, cv_ne, cv_eqS, cv_neS, tv_bl, tv_int, List.length_cons, List.length_nil, pad, setT_nm, setT_tup, setTs_nil, setTs_cons, decide_eq_true_eq, Bool.not_eq_true', Bool.not_true, Bool.not_false, if_true, if_false, Bool.false_eq_true, Bool.true_eq_false, reduceIte, Nat.reduceAdd, Nat.reduceSub, Nat.reduceBEq, pow_10_9, pow_10_20, pow_10_30, cpow_10_9, cpow_10_20, cpow_10_30, divP_lit, mulP_r, mulP_l, lne_line, lt_line, isi_int, isi_bool, Int.reduceLT, Int.reduceLE, Int.reduceGT, Int.reduceGE, Int.reduceNeg, Int.reduceMul, Int.reduceAdd, Int.reduceSub, Nat.reduceLeDiff, Nat.reduceLT, true_and, and_true, decide_true, decide_false, sga, wipeP, List.set_cons_zero, List.set_cons_succ, evSs_nil, List.lookup, Nat.reduceBEq, seq_str, seq_tup, seq_fl, Bool.true_and, Bool.and_true, Bool.false_and, Bool.and_false, beq_self_eq_true, (W1.c _ hi).l.o, List.lookup_nil]
  refine members_sp (W1.c _ hi).l (W1.c _ hi).i (by omega) fun ys g2 p my l2 np e2 => ?_
  have yl : ys.length ≤ 7 := by
    have h1 : ∀ x ∈ ys, x ∈ S := fun x hx => ((my.2.1 x).mp hx).elim ((W1.c _ hi).i.p x) ((W1.c _ hi).i.s x)
    have := sub_len my.1 h1
    omega
  have l3 := le_newly (c := .lst ((ys ++ [moreS]).map .str)) l2 np
  have W3 := W1.le l3
  (try simp only [evS, evE, evEs, evO, evB, evBs, evI, List.map_cons, List.map_nil, List.replicate_succ, List.replicate_zero, List.cons_append, List.nil_append, List.getElem?_cons_zero, List.getElem?_cons_succ, List.set_cons_zero, List.set_cons_succ, bv_add, bv_sub, bv_mul, bv_div, bv_mod, bv_pow, bv_str, av_add, av_sub, cv_lt, cv_le, cv_gt, cv_ge, cv_eq, cv_ne, cv_eqS, cv_neS, tv_bl, tv_int, List.length_cons, List.length_nil, pad, setT_nm, setT_tup, setTs_nil, setTs_cons, decide_eq_true_eq, Bool.not_eq_true', Bool.not_true, Bool.not_false, if_true, if_false, Bool.false_eq_true, Bool.true_eq_false, reduceIte, Nat.reduceAdd, Nat.reduceSub, Nat.reduceBEq, pow_10_9, pow_10_20, pow_10_30, cpow_10_9, cpow_10_20, cpow_10_30, divP_lit, mulP_r, mulP_l, lne_line, lt_line, isi_int, isi_bool, Int.reduceLT, Int.reduceLE, Int.reduceGT, Int.reduceGE, Int.reduceNeg, Int.reduceMul, Int.reduceAdd, Int.reduceSub, Nat.reduceLeDiff, Nat.reduceLT, true_and, and_true, decide_true, decide_false, sga, wipeP, List.set_cons_zero, List.set_cons_succ, evSs_nil, List.lookup, Nat.reduceBEq, seq_str, seq_tup, seq_fl, Bool.true_and, Bool.and_true, Bool.false_and, Bool.and_false, beq_self_eq_true])
  refine app_more e2 (by omega) ?_
  generalize pup g2 p _ = g3 at W3 ⊢
  clear W1 W l1 l2 l3 e2 np
  (try simp only [evS, evE, evEs, evO, evB, evBs, evI, List.map_cons, List.map_nil, List.replicate_succ, List.replicate_zero, List.cons_append, List.nil_append, List.getElem?_cons_zero, List.getElem?_cons_succ, List.set_cons_zero, List.set_cons_succ, bv_add, bv_sub, bv_mul, bv_div, bv_mod, bv_pow, bv_str, av_add, av_sub, cv_lt, cv_le, cv_gt, cv_ge, cv_eq, cv_ne, cv_eqS, cv_neS, tv_bl, tv_int, List.length_cons, List.length_nil, pad, setT_nm, setT_tup, setTs_nil, setTs_cons, decide_eq_true_eq, Bool.not_eq_true', Bool.not_true, Bool.not_false, if_true, if_false, Bool.false_eq_true, Bool.true_eq_false, reduceIte, Nat.reduceAdd, Nat.reduceSub, Nat.reduceBEq, pow_10_9, pow_10_20, pow_10_30, cpow_10_9, cpow_10_20, cpow_10_30, divP_lit, mulP_r, mulP_l, lne_line, lt_line, isi_int, isi_bool, Int.reduceLT, Int.reduceLE, Int.reduceGT, Int.reduceGE, Int.reduceNeg, Int.reduceMul, Int.reduceAdd, Int.reduceSub, Nat.reduceLeDiff, Nat.reduceLT, true_and, and_true, decide_true, decide_false, sga, wipeP, List.set_cons_zero, List.set_cons_succ, evSs_nil, List.lookup, Nat.reduceBEq, seq_str, seq_tup, seq_fl, Bool.true_and, Bool.and_true, Bool.false_and, Bool.and_false, beq_self_eq_true])
  rw [evSs_cons]
  simp only [evS, evE, evEs, evO, evB, evBs, evI, List.map_cons, List.map_nil, List.replicate_succ, List.replicate_zero, List.cons_append, List.nil_append, List.getElem?_cons_zero, List.getElem?_cons_succ, List.set_cons_zero, List.set_cons_succ, bv_add, bv_sub, bv_mul, bv_div, bv_mod, bv_pow, bv_str, av_add, av_sub, cv_lt, cv_le, cv_gt, cv_ge, cv_eq, cv_ne, cv_eqS, cv_neS, tv_bl, tv_int, List.length_cons, List.length_nil, pad, setT_nm, setT_tup, setTs_nil, setTs_cons, decide_eq_true_eq, Bool.not_eq_true', Bool.not_true, Bool.not_false, if_true, if_false, Bool.false_eq_true, Bool.true_eq_false, reduceIte, Nat.reduceAdd, Nat.reduceSub, Nat.reduceBEq, pow_10_9, pow_10_20, pow_10_30, cpow_10_9, cpow_10_20, cpow_10_30, divP_lit, mulP_r, mulP_l, lne_line, lt_line, isi_int, isi_bool, Int.reduceLT, Int.reduceLE, Int.reduceGT, Int.reduceGE, Int.reduceNeg, Int.reduceMul, Int.reduceAdd, Int.reduceSub, Nat.reduceLeDiff, Nat.reduceLT, true_and, and_true, decide_true, decide_false, sga, wipeP, List.set_cons_zero, List.set_cons_succ, evSs_nil, List.lookup, Nat.reduceBEq, seq_str, seq_tup, seq_fl, Bool.true_and, Bool.and_true, Bool.false_and, Bool.and_false, beq_self_eq_true]
  rw [sub2 hi W3.la]
  obtain ⟨s, hs, es⟩ := at_map (f := PV.str) (xs := S) (i := 0) (by decide) (by rw [hS]; decide)
  simp only [evS, evE, evEs, evO, evB, evBs, evI, List.map_cons, List.map_nil, List.replicate_succ, List.replicate_zero, List.cons_append, List.nil_append, List.getElem?_cons_zero, List.getElem?_cons_succ, List.set_cons_zero, List.set_cons_succ, bv_add, bv_sub, bv_mul, bv_div, bv_mod, bv_pow, bv_str, av_add, av_sub, cv_lt, cv_le, cv_gt, cv_ge, cv_eq, cv_ne, cv_eqS, cv_neS, tv_bl, tv_int, List.length_cons, List.length_nil, pad, setT_nm, setT_tup, setTs_nil, setTs_cons, decide_eq_true_eq, Bool.not_eq_true', Bool.not_true, Bool.not_false, if_true, if_false, Bool.false_eq_true, Bool.true_eq_false, reduceIte, Nat.reduceAdd, Nat.reduceSub, Nat.reduceBEq, pow_10_9, pow_10_20, pow_10_30, cpow_10_9, cpow_10_20, cpow_10_30, divP_lit, mulP_r, mulP_l, lne_line, lt_line, isi_int, isi_bool, Int.reduceLT, Int.reduceLE, Int.reduceGT, Int.reduceGE, Int.reduceNeg, Int.reduceMul, Int.reduceAdd, Int.reduceSub, Nat.reduceLeDiff, Nat.reduceLT, true_and, and_true, decide_true, decide_false, sga, wipeP, List.set_cons_zero, List.set_cons_succ, evSs_nil, List.lookup, Nat.reduceBEq, seq_str, seq_tup, seq_fl, Bool.true_and, Bool.and_true, Bool.false_and, Bool.and_false, beq_self_eq_true, (W3.c _ hi).l.o, List.lookup_nil, subV, (W3.c _ hi).n, es]
  refine wares_sp (W3.c _ hi).l (W3.c _ hi).i (by decide) fun zs r pm so nr => ?_
  have l4 := PLe.new (c := .lst (zs.map .str)) nr
  have l5 := le_newly (c := .lst ((zs ++ [moreS]).map .str)) l4 nr
  have W5 := W3.le l5
  have zl : zs.length ≤ 100 := by
    rw [pm.length_eq]
    exact Nat.le_trans (List.length_filter_le _ _) ((W3.c _ hi).i.wl (W3.c _ hi).l s)
  (try simp only [evS, evE, evEs, evO, evB, evBs, evI, List.map_cons, List.map_nil, List.replicate_succ, List.replicate_zero, List.cons_append, List.nil_append, List.getElem?_cons_zero, List.getElem?_cons_succ, List.set_cons_zero, List.set_cons_succ, bv_add, bv_sub, bv_mul, bv_div, bv_mod, bv_pow, bv_str, av_add, av_sub, cv_lt, cv_le, cv_gt, cv_ge, cv_eq, cv_ne, cv_eqS, cv_neS, tv_bl, tv_int, List.length_cons, List.length_nil, pad, setT_nm, setT_tup, setTs_nil, setTs_cons, decide_eq_true_eq, Bool.not_eq_true', Bool.not_true, Bool.not_false, if_true, if_false, Bool.false_eq_true, Bool.true_eq_false, reduceIte, Nat.reduceAdd, Nat.reduceSub, Nat.reduceBEq, pow_10_9, pow_10_20, pow_10_30, cpow_10_9, cpow_10_20, cpow_10_30, divP_lit, mulP_r, mulP_l, lne_line, lt_line, isi_int, isi_bool, Int.reduceLT, Int.reduceLE, Int.reduceGT, Int.reduceGE, Int.reduceNeg, Int.reduceMul, Int.reduceAdd, Int.reduceSub, Nat.reduceLeDiff, Nat.reduceLT, true_and, and_true, decide_true, decide_false, sga, wipeP, List.set_cons_zero, List.set_cons_succ, evSs_nil, List.lookup, Nat.reduceBEq, seq_str, seq_tup, seq_fl, Bool.true_and, Bool.and_true, Bool.false_and, Bool.and_false, beq_self_eq_true])
  refine app_more pup_same (by omega) ?_
  exact nx _ W5
def loopS : Ss := match b15 with
  | .cons _ (.cons _ (.cons _ (.cons _ (.cons _ r)))) => r
  | _ => .nil
theorem loopS_sp {ns : List Int} {x1 : Option PV} (hns : ns.length ≤ 63) (W : Two h nl al ol ml S A O T D 0) (nd : S.Nodup) (hS : S.length = 7) (q : ∀ g, Q (.bl true) g) :
    evSs sg (sem sg (n + 10)) loopS [some (.fl (ns.map .int)), x1, some (.loc nl), some (.loc al), some (.loc ol), some (.loc ml), none, none, none] h (retD Q X) := by
  have tD := @deedB_sp n
  have tL := @lastB_sp n
  rw [show deedB = _ from rfl, deedB, b15] at tD
  rw [show lastB = _ from rfl, lastB, b15] at tL
  (try dsimp only at tD)
  (try dsimp only at tL)
  rw [show loopS = _ from rfl, loopS, b15]
  (try dsimp only)
  obtain ⟨ns', en, ln'⟩ := cut_ints ns none (some 200)
  rw [evSs_cons]
  simp only [evS, evE, evEs, evO, evB, evBs, evI, List.map_cons, List.map_nil, List.replicate_succ, List.replicate_zero, List.cons_append, List.nil_append, List.getElem?_cons_zero, List.getElem?_cons_succ, List.set_cons_zero, List.set_cons_succ, bv_add, bv_sub, bv_mul, bv_div, bv_mod, bv_pow, bv_str, av_add, av_sub, cv_lt, cv_le, cv_gt, cv_ge, cv_eq, cv_ne, cv_eqS, cv_neS, tv_bl, tv_int, List.length_cons, List.length_nil, pad, setT_nm, setT_tup, setTs_nil, setTs_cons, decide_eq_true_eq, Bool.not_eq_true', Bool.not_true, Bool.not_false, if_true, if_false, Bool.false_eq_true, Bool.true_eq_false, reduceIte, Nat.reduceAdd, Nat.reduceSub, Nat.reduceBEq, pow_10_9, pow_10_20, pow_10_30, cpow_10_9, cpow_10_20, cpow_10_30, divP_lit, mulP_r, mulP_l, lne_line, lt_line, isi_int, isi_bool, Int.reduceLT, Int.reduceLE, Int.reduceGT, Int.reduceGE, Int.reduceNeg, Int.reduceMul, Int.reduceAdd, Int.reduceSub, Nat.reduceLeDiff, Nat.reduceLT, true_and, and_true, decide_true, decide_false, sga, wipeP, List.set_cons_zero, List.set_cons_succ, evSs_nil, List.lookup, Nat.reduceBEq, seq_str, seq_tup, seq_fl, Bool.true_and, Bool.and_true, Bool.false_and, Bool.and_false, beq_self_eq_true, sliV, en]
  intro y ny
  have W1 := W.le (PLe.new (c := .lst (ns'.map .int)) ny)
  have ay := at_of_pup (rfl : pup h y (.lst (ns'.map .int)) = _)
  have n0 : y ≠ T 0 := ne_new ny (W.c 0 (by decide)).ct
  have n1 : y ≠ T 1 := ne_new ny (W.c 1 (by decide)).ct
  generalize pup h y _ = g5 at W1 ay ⊢
  simp only [evS, evE, evEs, evO, evB, evBs, evI, List.map_cons, List.map_nil, List.replicate_succ, List.replicate_zero, List.cons_append, List.nil_append, List.getElem?_cons_zero, List.getElem?_cons_succ, List.set_cons_zero, List.set_cons_succ, bv_add, bv_sub, bv_mul, bv_div, bv_mod, bv_pow, bv_str, av_add, av_sub, cv_lt, cv_le, cv_gt, cv_ge, cv_eq, cv_ne, cv_eqS, cv_neS, tv_bl, tv_int, List.length_cons, List.length_nil, pad, setT_nm, setT_tup, setTs_nil, setTs_cons, decide_eq_true_eq, Bool.not_eq_true', Bool.not_true, Bool.not_false, if_true, if_false, Bool.false_eq_true, Bool.true_eq_false, reduceIte, Nat.reduceAdd, Nat.reduceSub, Nat.reduceBEq, pow_10_9, pow_10_20, pow_10_30, cpow_10_9, cpow_10_20, cpow_10_30, divP_lit, mulP_r, mulP_l, lne_line, lt_line, isi_int, isi_bool, Int.reduceLT, Int.reduceLE, Int.reduceGT, Int.reduceGE, Int.reduceNeg, Int.reduceMul, Int.reduceAdd, Int.reduceSub, Nat.reduceLeDiff, Nat.reduceLT, true_and, and_true, decide_true, decide_false, sga, wipeP, List.set_cons_zero, List.set_cons_succ, evSs_nil, List.lookup, Nat.reduceBEq, seq_str, seq_tup, seq_fl, Bool.true_and, Bool.and_true, Bool.false_and, Bool.and_false, beq_self_eq_true, ay, zip_ints]
  refine forGo_list (f := fun p : Int × Nat => PV.tup [.int (p.2 : Nat), .int p.1]) (as := ns'.zipIdx) (fun done env g => ∃ D x6 x7, Two g nl al ol ml S A O T D done.length ∧ g y = some (.lst (ns'.map .int)) ∧ env = [some (.fl (ns.map .int)), x1, some (.loc nl), some (.loc al), some (.loc ol), some (.loc ml), x6, x7, none])
    (fun done p rest env g K e I nx => ?_) (fun env g I => ?_) ⟨D, none, none, W1, ay, rfl⟩
  · obtain ⟨D, x6, x7, W, ay, rfl⟩ := I
    refine ⟨ay, ?_⟩
    have len := congrArg List.length e
    rw [List.length_zipIdx, List.length_append, List.length_cons] at len
    simp only [evS, evE, evEs, evO, evB, evBs, evI, List.map_cons, List.map_nil, List.replicate_succ, List.replicate_zero, List.cons_append, List.nil_append, List.getElem?_cons_zero, List.getElem?_cons_succ, List.set_cons_zero, List.set_cons_succ, bv_add, bv_sub, bv_mul, bv_div, bv_mod, bv_pow, bv_str, av_add, av_sub, cv_lt, cv_le, cv_gt, cv_ge, cv_eq, cv_ne, cv_eqS, cv_neS, tv_bl, tv_int, List.length_cons, List.length_nil, pad, setT_nm, setT_tup, setTs_nil, setTs_cons, decide_eq_true_eq, Bool.not_eq_true', Bool.not_true, Bool.not_false, if_true, if_false, Bool.false_eq_true, Bool.true_eq_false, reduceIte, Nat.reduceAdd, Nat.reduceSub, Nat.reduceBEq, pow_10_9, pow_10_20, pow_10_30, cpow_10_9, cpow_10_20, cpow_10_30, divP_lit, mulP_r, mulP_l, lne_line, lt_line, isi_int, isi_bool, Int.reduceLT, Int.reduceLE, Int.reduceGT, Int.reduceGE, Int.reduceNeg, Int.reduceMul, Int.reduceAdd, Int.reduceSub, Nat.reduceLeDiff, Nat.reduceLT, true_and, and_true, decide_true, decide_false, sga, wipeP, List.set_cons_zero, List.set_cons_succ, evSs_nil, List.lookup, Nat.reduceBEq, seq_str, seq_tup, seq_fl, Bool.true_and, Bool.and_true, Bool.false_and, Bool.and_false, beq_self_eq_true]
    refine tD W nd hS (by omega) fun g' D' W' kept => ?_
    exact nx _ g' ⟨D', _, _, by rw [List.length_append]; exact W', kept _ _ ay n0 n1, rfl⟩
  · obtain ⟨D, x6, x7, W, ay, rfl⟩ := I
    refine ⟨ay, ?_⟩
    (try dsimp only)
    rw [evSs_cons]
    simp only [evS, evE, evEs, evO, evB, evBs, evI, List.map_cons, List.map_nil, List.replicate_succ, List.replicate_zero, List.cons_append, List.nil_append, List.getElem?_cons_zero, List.getElem?_cons_succ, List.set_cons_zero, List.set_cons_succ, bv_add, bv_sub, bv_mul, bv_div, bv_mod, bv_pow, bv_str, av_add, av_sub, cv_lt, cv_le, cv_gt, cv_ge, cv_eq, cv_ne, cv_eqS, cv_neS, tv_bl, tv_int, List.length_cons, List.length_nil, pad, setT_nm, setT_tup, setTs_nil, setTs_cons, decide_eq_true_eq, Bool.not_eq_true', Bool.not_true, Bool.not_false, if_true, if_false, Bool.false_eq_true, Bool.true_eq_false, reduceIte, Nat.reduceAdd, Nat.reduceSub, Nat.reduceBEq, pow_10_9, pow_10_20, pow_10_30, cpow_10_9, cpow_10_20, cpow_10_30, divP_lit, mulP_r, mulP_l, lne_line, lt_line, isi_int, isi_bool, Int.reduceLT, Int.reduceLE, Int.reduceGT, Int.reduceGE, Int.reduceNeg, Int.reduceMul, Int.reduceAdd, Int.reduceSub, Nat.reduceLeDiff, Nat.reduceLT, true_and, and_true, decide_true, decide_false, sga, wipeP, List.set_cons_zero, List.set_cons_succ, evSs_nil, List.lookup, Nat.reduceBEq, seq_str, seq_tup, seq_fl, Bool.true_and, Bool.and_true, Bool.false_and, Bool.and_false, beq_self_eq_true]
    refine ⟨by decide, by decide, ?_⟩
    refine forGo_list (f := fun i : Nat => PV.int ((0 : Int) + (i : Nat))) (as := List.range (2 : Int).toNat) (fun done env g => ∃ x6 x8, Two g nl al ol ml S A O T D ns'.zipIdx.length ∧ env = [some (.fl (ns.map .int)), x1, some (.loc nl), some (.loc al), some (.loc ol), some (.loc ml), x6, x7, x8])
      (fun done t rest env g K e I nx => ?_) (fun env g I => ?_) ⟨x6, none, W, rfl⟩
    · obtain ⟨x6, x8, W, rfl⟩ := I
      refine ⟨trivial, ?_⟩
      simp only [evS, evE, evEs, evO, evB, evBs, evI, List.map_cons, List.map_nil, List.replicate_succ, List.replicate_zero, List.cons_append, List.nil_append, List.getElem?_cons_zero, List.getElem?_cons_succ, List.set_cons_zero, List.set_cons_succ, bv_add, bv_sub, bv_mul, bv_div, bv_mod, bv_pow, bv_str, av_add, av_sub, cv_lt, cv_le, cv_gt, cv_ge, cv_eq, cv_ne, cv_eqS, cv_neS, tv_bl, tv_int, List.length_cons, List.length_nil, pad, setT_nm, setT_tup, setTs_nil, setTs_cons, decide_eq_true_eq, Bool.not_eq_true', Bool.not_true, Bool.not_false, if_true, if_false, Bool.false_eq_true, Bool.true_eq_false, reduceIte, Nat.reduceAdd, Nat.reduceSub, Nat.reduceBEq, pow_10_9, pow_10_20, pow_10_30, cpow_10_9, cpow_10_20, cpow_10_30, divP_lit, mulP_r, mulP_l, lne_line, lt_line, isi_int, isi_bool, Int.reduceLT, Int.reduceLE, Int.reduceGT, Int.reduceGE, Int.reduceNeg, Int.reduceMul, Int.reduceAdd, Int.reduceSub, Nat.reduceLeDiff, Nat.reduceLT, true_and, and_true, decide_true, decide_false, sga, wipeP, List.set_cons_zero, List.set_cons_succ, evSs_nil, List.lookup, Nat.reduceBEq, seq_str, seq_tup, seq_fl, Bool.true_and, Bool.and_true, Bool.false_and, Bool.and_false, beq_self_eq_true]
      rw [evSs_cons]
      simp only [evS, evE, evEs, evO, evB, evBs, evI, List.map_cons, List.map_nil, List.replicate_succ, List.replicate_zero, List.cons_append, List.nil_append, List.getElem?_cons_zero, List.getElem?_cons_succ, List.set_cons_zero, List.set_cons_succ, bv_add, bv_sub, bv_mul, bv_div, bv_mod, bv_pow, bv_str, av_add, av_sub, cv_lt, cv_le, cv_gt, cv_ge, cv_eq, cv_ne, cv_eqS, cv_neS, tv_bl, tv_int, List.length_cons, List.length_nil, pad, setT_nm, setT_tup, setTs_nil, setTs_cons, decide_eq_true_eq, Bool.not_eq_true', Bool.not_true, Bool.not_false, if_true, if_false, Bool.false_eq_true, Bool.true_eq_false, reduceIte, Nat.reduceAdd, Nat.reduceSub, Nat.reduceBEq, pow_10_9, pow_10_20, pow_10_30, cpow_10_9, cpow_10_20, cpow_10_30, divP_lit, mulP_r, mulP_l, lne_line, lt_line, isi_int, isi_bool, Int.reduceLT, Int.reduceLE, Int.reduceGT, Int.reduceGE, Int.reduceNeg, Int.reduceMul, Int.reduceAdd, Int.reduceSub, Nat.reduceLeDiff, Nat.reduceLT, true_and, and_true, decide_true, decide_false, sga, wipeP, List.set_cons_zero, List.set_cons_succ, evSs_nil, List.lookup, Nat.reduceBEq, seq_str, seq_tup, seq_fl, Bool.true_and, Bool.and_true, Bool.false_and, Bool.and_false, beq_self_eq_true]
      refine ⟨by decide, by decide, ?_⟩
      refine forGo_list (f := fun i : Nat => PV.int ((0 : Int) + (i : Nat))) (as := List.range (2 : Int).toNat) (fun done env g => ∃ x6, Two g nl al ol ml S A O T D ns'.zipIdx.length ∧ env = [some (.fl (ns.map .int)), x1, some (.loc nl), some (.loc al), some (.loc ol), some (.loc ml), x6, x7, some (.int ((0 : Int) + (t : Nat)))])
        (fun done i rest env g K e I nx => ?_) (fun env g I => ?_) ⟨x6, W, rfl⟩
      · obtain ⟨x6, W, rfl⟩ := I
        refine ⟨trivial, ?_⟩
        have hi : i < 2 := by
          have : i ∈ List.range (2 : Int).toNat := by rw [e]; simp
          exact List.mem_range.mp this
        simp only [evS, evE, evEs, evO, evB, evBs, evI, List.map_cons, List.map_nil, List.replicate_succ, List.replicate_zero, List.cons_append, List.nil_append, List.getElem?_cons_zero, List.getElem?_cons_succ, List.set_cons_zero, List.set_cons_succ, bv_add, bv_sub, bv_mul, bv_div, bv_mod, bv_pow, bv_str, av_add, av_sub, cv_lt, cv_le, cv_gt, cv_ge, cv_eq, cv_ne, cv_eqS, cv_neS, tv_bl, tv_int, List.length_cons, List.length_nil, pad, setT_nm, setT_tup, setTs_nil, setTs_cons, decide_eq_true_eq, Bool.not_eq_true', Bool.not_true, Bool.not_false, if_true, if_false, Bool.false_eq_true, Bool.true_eq_false, reduceIte, Nat.reduceAdd, Nat.reduceSub, Nat.reduceBEq, pow_10_9, pow_10_20, pow_10_30, cpow_10_9, cpow_10_20, cpow_10_30, divP_lit, mulP_r, mulP_l, lne_line, lt_line, isi_int, isi_bool, Int.reduceLT, Int.reduceLE, Int.reduceGT, Int.reduceGE, Int.reduceNeg, Int.reduceMul, Int.reduceAdd, Int.reduceSub, Nat.reduceLeDiff, Nat.reduceLT, true_and, and_true, decide_true, decide_false, sga, wipeP, List.set_cons_zero, List.set_cons_succ, evSs_nil, List.lookup, Nat.reduceBEq, seq_str, seq_tup, seq_fl, Bool.true_and, Bool.and_true, Bool.false_and, Bool.and_false, beq_self_eq_true]
        rw [show (0 : Int) + (i : Nat) = (i : Nat) by omega]
        exact tL hi W hS fun g' W' => nx _ g' ⟨_, W', rfl⟩
      · obtain ⟨x6, W, rfl⟩ := I
        refine ⟨trivial, ?_⟩
        (try dsimp only)
        (try simp only [evS, evE, evEs, evO, evB, evBs, evI, List.map_cons, List.map_nil, List.replicate_succ, List.replicate_zero, List.cons_append, List.nil_append, List.getElem?_cons_zero, List.getElem?_cons_succ, List.set_cons_zero, List.set_cons_succ, bv_add, bv_sub, bv_mul, bv_div, bv_mod, bv_pow, bv_str, av_add, av_sub, cv_lt, cv_le, cv_gt, cv_ge, cv_eq, cv_ne, cv_eqS, cv_neS, tv_bl, tv_int, List.length_cons, List.length_nil, pad, setT_nm, setT_tup, setTs_nil, setTs_cons, decide_eq_true_eq, Bool.not_eq_true', Bool.not_true, Bool.not_false, if_true, if_false, Bool.false_eq_true, Bool.true_eq_false, reduceIte, Nat.reduceAdd, Nat.reduceSub, Nat.reduceBEq, pow_10_9, pow_10_20, pow_10_30, cpow_10_9, cpow_10_20, cpow_10_30, divP_lit, mulP_r, mulP_l, lne_line, lt_line, isi_int, isi_bool, Int.reduceLT, Int.reduceLE, Int.reduceGT, Int.reduceGE, Int.reduceNeg, Int.reduceMul, Int.reduceAdd, Int.reduceSub, Nat.reduceLeDiff, Nat.reduceLT, true_and, and_true, decide_true, decide_false, sga, wipeP, List.set_cons_zero, List.set_cons_succ, evSs_nil, List.lookup, Nat.reduceBEq, seq_str, seq_tup, seq_fl, Bool.true_and, Bool.and_true, Bool.false_and, Bool.and_false, beq_self_eq_true])
        exact nx _ g ⟨_, _, W, rfl⟩
    · obtain ⟨x6, x8, W, rfl⟩ := I
      refine ⟨trivial, ?_⟩
      (try dsimp only)
      rw [evSs_cons]
      simp only [evS, evE, evEs, evO, evB, evBs, evI, List.map_cons, List.map_nil, List.replicate_succ, List.replicate_zero, List.cons_append, List.nil_append, List.getElem?_cons_zero, List.getElem?_cons_succ, List.set_cons_zero, List.set_cons_succ, bv_add, bv_sub, bv_mul, bv_div, bv_mod, bv_pow, bv_str, av_add, av_sub, cv_lt, cv_le, cv_gt, cv_ge, cv_eq, cv_ne, cv_eqS, cv_neS, tv_bl, tv_int, List.length_cons, List.length_nil, pad, setT_nm, setT_tup, setTs_nil, setTs_cons, decide_eq_true_eq, Bool.not_eq_true', Bool.not_true, Bool.not_false, if_true, if_false, Bool.false_eq_true, Bool.true_eq_false, reduceIte, Nat.reduceAdd, Nat.reduceSub, Nat.reduceBEq, pow_10_9, pow_10_20, pow_10_30, cpow_10_9, cpow_10_20, cpow_10_30, divP_lit, mulP_r, mulP_l, lne_line, lt_line, isi_int, isi_bool, Int.reduceLT, Int.reduceLE, Int.reduceGT, Int.reduceGE, Int.reduceNeg, Int.reduceMul, Int.reduceAdd, Int.reduceSub, Nat.reduceLeDiff, Nat.reduceLT, true_and, and_true, decide_true, decide_false, sga, wipeP, List.set_cons_zero, List.set_cons_succ, evSs_nil, List.lookup, Nat.reduceBEq, seq_str, seq_tup, seq_fl, Bool.true_and, Bool.and_true, Bool.false_and, Bool.and_false, beq_self_eq_true]
      exact ret_here (q g)
end
end LK

set_option autoImplicit false
namespace LK
open PySem L2 PySem.Spec Mir
open PyProof.Rows hiding St
section
variable {n : Nat} {h : PH} {Q : QE} {X : Mir.XE}
def twoF (x y : Addr) (i : Nat) : Addr := if i = 0 then x else y
theorem below2 {P : Nat → Prop} (h0 : P 0) (h1 : P 1) : ∀ i, i < 2 → P i := fun i hi => by
  have : i = 0 ∨ i = 1 := by omega
  rcases this with rfl | rfl
  · exact h0
  · exact h1
def hd0 (p s : Addr) : HD := ⟨led0 p s, [], [], fun _ _ => 0⟩
theorem pl0 {S : List Str} {p s : Addr} : Pl (led0 p s) [] [] (fun _ _ => 0) S 0 :=
  ⟨fun _ _ => rfl, fun _ => rfl, fun _ _ _ => rfl, fun _ => Su_zero S, .nil, fun x => ⟨fun z => (by cases z), fun z => z.elim (fun y => by cases y) fun y => by cases y⟩, Nat.le_refl _⟩
theorem in0 {S : List Str} {p s : Addr} (hS : S.length ≤ 100) : LedIn (led0 p s) S W3 := ⟨fun _ e => (by cases e), fun _ e => (by cases e), fun _ _ e => (by cases e), hS, (by decide)⟩
/-- all at the begin -/
theorem two0 {nl al ol ml a1 a2 o1 o2 t1 t2 p1 s1 p2 s2 : Addr} {S : List Str} (hS : S.length ≤ 100) (l1 : LedAt h a1 (led0 p1 s1)) (l2 : LedAt h a2 (led0 p2 s2)) (c1 : h o1 = some (.dctT [])) (c2 : h o2 = some (.dctT [])) (b1 : h t1 = some (.lst [])) (b2 : h t2 = some (.lst []))
    (hn : h nl = some (.lst (S.map .str))) (la : h al = some (.lst [.loc a1, .loc a2])) (lo : h ol = some (.lst [.loc o1, .loc o2])) (lm : h ml = some (.lst [.loc t1, .loc t2]))
    (no : o1 ≠ o2) (nt : t1 ≠ t2) (np : ∀ b ∈ [p1, s1], b ∉ [p2, s2]) (f1 : nl ≠ t1 ∧ al ≠ t1 ∧ ol ≠ t1 ∧ ml ≠ t1) (f2 : nl ≠ t2 ∧ al ≠ t2 ∧ ol ≠ t2 ∧ ml ≠ t2) :
    Two h nl al ol ml S (twoF a1 a2) (twoF o1 o2) (twoF t1 t2) (fun i => hd0 (twoF p1 p2 i) (twoF s1 s2 i)) 0 := by
  have sep12 : ∀ b ∈ dom o1 t1 (led0 p1 s1), b ∉ dom o2 t2 (led0 p2 s2) := fun b hb hb' => by
    have k1 := l1.hp
    have k2 := l2.hp
    have k3 := l1.hs
    have k4 := l2.hs
    unfold dom at hb hb'
    simp only [Led.ads, led0, List.map_nil, List.mem_cons, List.mem_nil_iff, or_false] at hb hb' k1 k2 k3 k4 np
    rcases hb with e | e | e | e <;> rcases hb' with e' | e' | e' | e' <;> subst e <;> first
      | (exact no e')
      | (exact nt e')
      | (exact np _ (.inl rfl) (.inl e'))
      | (exact np _ (.inl rfl) (.inr e'))
      | (exact np _ (.inr rfl) (.inl e'))
      | (exact np _ (.inr rfl) (.inr e'))
      | (subst e'; simp_all)
  refine ⟨below2 ⟨l1, in0 hS, c1, b1, hn, f1.1⟩ ⟨l2, in0 hS, c2, b2, hn, f2.1⟩, fun i hi => pl0, fun i j hi hj ne => ?_, la, lo, lm, below2 f1.2 f2.2⟩
  have e1 : i = 0 ∨ i = 1 := by omega
  have e2 : j = 0 ∨ j = 1 := by omega
  rcases e1 with rfl | rfl <;> rcases e2 with rfl | rfl
  · exact absurd rfl ne
  · exact sep12
  · exact fun b hb hb' => sep12 b hb' hb
  · exact absurd rfl ne
def headS : Ss := match b15 with
  | .cons _ (.cons _ r) => r
  | _ => .nil
theorem head_sp {nl : Addr} {ns : List Int} {hd : Int} (hns : ns.length ≤ 63) (hl : h nl = some (.lst ((nmS hd).map .str))) (q : ∀ g, Q (.bl true) g) :
    evSs sg (sem sg (n + 10)) headS [some (.fl (ns.map .int)), some (.int hd), some (.loc nl), none, none, none, none, none, none] h (retD Q X) := by
  have tL := @loopS_sp n
  rw [show loopS = _ from rfl, loopS, b15] at tL
  (try dsimp only at tL)
  rw [show headS = _ from rfl, headS, b15]
  (try dsimp only)
  rw [evSs_cons]
  simp only [evS, evE, evEs, evO, evB, evBs, evI, List.map_cons, List.map_nil, List.replicate_succ, List.replicate_zero, List.cons_append, List.nil_append, List.getElem?_cons_zero, List.getElem?_cons_succ, List.set_cons_zero, List.set_cons_succ, bv_add, bv_sub, bv_mul, bv_div, bv_mod, bv_pow, bv_str, av_add, av_sub, cv_lt, cv_le, cv_gt, cv_ge, cv_eq, cv_ne, cv_eqS, cv_neS, tv_bl, tv_int, List.length_cons, List.length_nil, pad, setT_nm, setT_tup, setTs_nil, setTs_cons, decide_eq_true_eq, Bool.not_eq_true', Bool.not_true, Bool.not_false, if_true, if_false, Bool.false_eq_true, Bool.true_eq_false, reduceIte, Nat.reduceAdd, Nat.reduceSub, Nat.reduceBEq, pow_10_9, pow_10_20, pow_10_30, cpow_10_9, cpow_10_20, cpow_10_30, divP_lit, mulP_r, mulP_l, lne_line, lt_line, isi_int, isi_bool, Int.reduceLT, Int.reduceLE, Int.reduceGT, Int.reduceGE, Int.reduceNeg, Int.reduceMul, Int.reduceAdd, Int.reduceSub, Nat.reduceLeDiff, Nat.reduceLT, true_and, and_true, decide_true, decide_false, sga, wipeP, List.set_cons_zero, List.set_cons_succ, evSs_nil, List.lookup, Nat.reduceBEq, seq_str, seq_tup, seq_fl, Bool.true_and, Bool.and_true, Bool.false_and, Bool.and_false, beq_self_eq_true]
  intro a1 na1
  have hl1 := (PLe.new (c := .ins 0 []) na1) _ _ hl
  refine newLed_sp pup_same fun p1 s1 g1 led1 same1 np1 ns1 => ?_
  have n1 : nl ≠ a1 := fun z => by rw [← z, hl] at na1; cases na1
  have hl2 : g1 nl = some (.lst ((nmS hd).map .str)) := by
    rw [same1 nl n1 (fun z => by rw [← z, hl1] at np1; cases np1) (fun z => by rw [← z, hl1] at ns1; cases ns1)]
    exact hl1
  refine ⟨rfl, ?_⟩
  (try simp only [evS, evE, evEs, evO, evB, evBs, evI, List.map_cons, List.map_nil, List.replicate_succ, List.replicate_zero, List.cons_append, List.nil_append, List.getElem?_cons_zero, List.getElem?_cons_succ, List.set_cons_zero, List.set_cons_succ, bv_add, bv_sub, bv_mul, bv_div, bv_mod, bv_pow, bv_str, av_add, av_sub, cv_lt, cv_le, cv_gt, cv_ge, cv_eq, cv_ne, cv_eqS, cv_neS, tv_bl, tv_int, List.length_cons, List.length_nil, pad, setT_nm, setT_tup, setTs_nil, setTs_cons, decide_eq_true_eq, Bool.not_eq_true', Bool.not_true, Bool.not_false, if_true, if_false, Bool.false_eq_true, Bool.true_eq_false, reduceIte, Nat.reduceAdd, Nat.reduceSub, Nat.reduceBEq, pow_10_9, pow_10_20, pow_10_30, cpow_10_9, cpow_10_20, cpow_10_30, divP_lit, mulP_r, mulP_l, lne_line, lt_line, isi_int, isi_bool, Int.reduceLT, Int.reduceLE, Int.reduceGT, Int.reduceGE, Int.reduceNeg, Int.reduceMul, Int.reduceAdd, Int.reduceSub, Nat.reduceLeDiff, Nat.reduceLT, true_and, and_true, decide_true, decide_false, sga, wipeP, List.set_cons_zero, List.set_cons_succ, evSs_nil, List.lookup, Nat.reduceBEq, seq_str, seq_tup, seq_fl, Bool.true_and, Bool.and_true, Bool.false_and, Bool.and_false, beq_self_eq_true])
  intro a2 na2
  have lz := PLe.new (c := .ins 0 []) na2
  refine newLed_sp pup_same fun p2 s2 g2 led2 same2 np2 ns2 => ?_
  have keep : PLe g1 g2 := fun b c e => by
    have e' := lz b c e
    have m1 : b ≠ a2 := fun z => by rw [z, na2] at e; cases e
    rw [same2 b m1 (fun z => by rw [z, np2] at e'; cases e') (fun z => by rw [z, ns2] at e'; cases e')]
    exact e'
  have sep : ∀ b ∈ [p1, s1], b ∉ [p2, s2] := fun b hb hb' => by
    have e : (pup g1 a2 (.ins 0 [])) b ≠ none := by
      simp only [List.mem_cons, List.mem_nil_iff, or_false] at hb
      rcases hb with e | e <;> subst e
      · rw [show pup g1 a2 (.ins 0 []) b = _ from lz _ _ led1.hp]; exact fun z => by cases z
      · rw [show pup g1 a2 (.ins 0 []) b = _ from lz _ _ led1.hs]; exact fun z => by cases z
    simp only [List.mem_cons, List.mem_nil_iff, or_false] at hb'
    rcases hb' with e' | e' <;> subst e'
    · exact e np2
    · exact e ns2
  have led1' := led1.ple keep
  have hl3 := keep _ _ hl2
  clear led1 same1 same2 lz np1 ns1 np2 ns2 hl1 hl2 hl na1 na2 n1
  refine ⟨rfl, ?_⟩
  (try simp only [evS, evE, evEs, evO, evB, evBs, evI, List.map_cons, List.map_nil, List.replicate_succ, List.replicate_zero, List.cons_append, List.nil_append, List.getElem?_cons_zero, List.getElem?_cons_succ, List.set_cons_zero, List.set_cons_succ, bv_add, bv_sub, bv_mul, bv_div, bv_mod, bv_pow, bv_str, av_add, av_sub, cv_lt, cv_le, cv_gt, cv_ge, cv_eq, cv_ne, cv_eqS, cv_neS, tv_bl, tv_int, List.length_cons, List.length_nil, pad, setT_nm, setT_tup, setTs_nil, setTs_cons, decide_eq_true_eq, Bool.not_eq_true', Bool.not_true, Bool.not_false, if_true, if_false, Bool.false_eq_true, Bool.true_eq_false, reduceIte, Nat.reduceAdd, Nat.reduceSub, Nat.reduceBEq, pow_10_9, pow_10_20, pow_10_30, cpow_10_9, cpow_10_20, cpow_10_30, divP_lit, mulP_r, mulP_l, lne_line, lt_line, isi_int, isi_bool, Int.reduceLT, Int.reduceLE, Int.reduceGT, Int.reduceGE, Int.reduceNeg, Int.reduceMul, Int.reduceAdd, Int.reduceSub, Nat.reduceLeDiff, Nat.reduceLT, true_and, and_true, decide_true, decide_false, sga, wipeP, List.set_cons_zero, List.set_cons_succ, evSs_nil, List.lookup, Nat.reduceBEq, seq_str, seq_tup, seq_fl, Bool.true_and, Bool.and_true, Bool.false_and, Bool.and_false, beq_self_eq_true])
  intro al nal
  have l1 := PLe.new (c := .lst [.loc a1, .loc a2]) nal
  have la := at_of_pup (rfl : pup g2 al (.lst [.loc a1, .loc a2]) = _)
  generalize pup g2 al _ = g3 at l1 la ⊢
  (try simp only [evS, evE, evEs, evO, evB, evBs, evI, List.map_cons, List.map_nil, List.replicate_succ, List.replicate_zero, List.cons_append, List.nil_append, List.getElem?_cons_zero, List.getElem?_cons_succ, List.set_cons_zero, List.set_cons_succ, bv_add, bv_sub, bv_mul, bv_div, bv_mod, bv_pow, bv_str, av_add, av_sub, cv_lt, cv_le, cv_gt, cv_ge, cv_eq, cv_ne, cv_eqS, cv_neS, tv_bl, tv_int, List.length_cons, List.length_nil, pad, setT_nm, setT_tup, setTs_nil, setTs_cons, decide_eq_true_eq, Bool.not_eq_true', Bool.not_true, Bool.not_false, if_true, if_false, Bool.false_eq_true, Bool.true_eq_false, reduceIte, Nat.reduceAdd, Nat.reduceSub, Nat.reduceBEq, pow_10_9, pow_10_20, pow_10_30, cpow_10_9, cpow_10_20, cpow_10_30, divP_lit, mulP_r, mulP_l, lne_line, lt_line, isi_int, isi_bool, Int.reduceLT, Int.reduceLE, Int.reduceGT, Int.reduceGE, Int.reduceNeg, Int.reduceMul, Int.reduceAdd, Int.reduceSub, Nat.reduceLeDiff, Nat.reduceLT, true_and, and_true, decide_true, decide_false, sga, wipeP, List.set_cons_zero, List.set_cons_succ, evSs_nil, List.lookup, Nat.reduceBEq, seq_str, seq_tup, seq_fl, Bool.true_and, Bool.and_true, Bool.false_and, Bool.and_false, beq_self_eq_true])
  rw [evSs_cons]
  simp only [evS, evE, evEs, evO, evB, evBs, evI, List.map_cons, List.map_nil, List.replicate_succ, List.replicate_zero, List.cons_append, List.nil_append, List.getElem?_cons_zero, List.getElem?_cons_succ, List.set_cons_zero, List.set_cons_succ, bv_add, bv_sub, bv_mul, bv_div, bv_mod, bv_pow, bv_str, av_add, av_sub, cv_lt, cv_le, cv_gt, cv_ge, cv_eq, cv_ne, cv_eqS, cv_neS, tv_bl, tv_int, List.length_cons, List.length_nil, pad, setT_nm, setT_tup, setTs_nil, setTs_cons, decide_eq_true_eq, Bool.not_eq_true', Bool.not_true, Bool.not_false, if_true, if_false, Bool.false_eq_true, Bool.true_eq_false, reduceIte, Nat.reduceAdd, Nat.reduceSub, Nat.reduceBEq, pow_10_9, pow_10_20, pow_10_30, cpow_10_9, cpow_10_20, cpow_10_30, divP_lit, mulP_r, mulP_l, lne_line, lt_line, isi_int, isi_bool, Int.reduceLT, Int.reduceLE, Int.reduceGT, Int.reduceGE, Int.reduceNeg, Int.reduceMul, Int.reduceAdd, Int.reduceSub, Nat.reduceLeDiff, Nat.reduceLT, true_and, and_true, decide_true, decide_false, sga, wipeP, List.set_cons_zero, List.set_cons_succ, evSs_nil, List.lookup, Nat.reduceBEq, seq_str, seq_tup, seq_fl, Bool.true_and, Bool.and_true, Bool.false_and, Bool.and_false, beq_self_eq_true]
  intro o1 no1
  have l2 := PLe.new (c := .dctT []) no1
  have e1 := at_of_pup (rfl : pup g3 o1 (.dctT []) = _)
  generalize pup g3 o1 _ = g4 at l2 e1 ⊢
  (try simp only [evS, evE, evEs, evO, evB, evBs, evI, List.map_cons, List.map_nil, List.replicate_succ, List.replicate_zero, List.cons_append, List.nil_append, List.getElem?_cons_zero, List.getElem?_cons_succ, List.set_cons_zero, List.set_cons_succ, bv_add, bv_sub, bv_mul, bv_div, bv_mod, bv_pow, bv_str, av_add, av_sub, cv_lt, cv_le, cv_gt, cv_ge, cv_eq, cv_ne, cv_eqS, cv_neS, tv_bl, tv_int, List.length_cons, List.length_nil, pad, setT_nm, setT_tup, setTs_nil, setTs_cons, decide_eq_true_eq, Bool.not_eq_true', Bool.not_true, Bool.not_false, if_true, if_false, Bool.false_eq_true, Bool.true_eq_false, reduceIte, Nat.reduceAdd, Nat.reduceSub, Nat.reduceBEq, pow_10_9, pow_10_20, pow_10_30, cpow_10_9, cpow_10_20, cpow_10_30, divP_lit, mulP_r, mulP_l, lne_line, lt_line, isi_int, isi_bool, Int.reduceLT, Int.reduceLE, Int.reduceGT, Int.reduceGE, Int.reduceNeg, Int.reduceMul, Int.reduceAdd, Int.reduceSub, Nat.reduceLeDiff, Nat.reduceLT, true_and, and_true, decide_true, decide_false, sga, wipeP, List.set_cons_zero, List.set_cons_succ, evSs_nil, List.lookup, Nat.reduceBEq, seq_str, seq_tup, seq_fl, Bool.true_and, Bool.and_true, Bool.false_and, Bool.and_false, beq_self_eq_true])
  intro o2 no2
  have l3 := PLe.new (c := .dctT []) no2
  have e2 := at_of_pup (rfl : pup g4 o2 (.dctT []) = _)
  have no : o1 ≠ o2 := (ne_new no2 e1).symm
  generalize pup g4 o2 _ = g5 at l3 e2 ⊢
  (try simp only [evS, evE, evEs, evO, evB, evBs, evI, List.map_cons, List.map_nil, List.replicate_succ, List.replicate_zero, List.cons_append, List.nil_append, List.getElem?_cons_zero, List.getElem?_cons_succ, List.set_cons_zero, List.set_cons_succ, bv_add, bv_sub, bv_mul, bv_div, bv_mod, bv_pow, bv_str, av_add, av_sub, cv_lt, cv_le, cv_gt, cv_ge, cv_eq, cv_ne, cv_eqS, cv_neS, tv_bl, tv_int, List.length_cons, List.length_nil, pad, setT_nm, setT_tup, setTs_nil, setTs_cons, decide_eq_true_eq, Bool.not_eq_true', Bool.not_true, Bool.not_false, if_true, if_false, Bool.false_eq_true, Bool.true_eq_false, reduceIte, Nat.reduceAdd, Nat.reduceSub, Nat.reduceBEq, pow_10_9, pow_10_20, pow_10_30, cpow_10_9, cpow_10_20, cpow_10_30, divP_lit, mulP_r, mulP_l, lne_line, lt_line, isi_int, isi_bool, Int.reduceLT, Int.reduceLE, Int.reduceGT, Int.reduceGE, Int.reduceNeg, Int.reduceMul, Int.reduceAdd, Int.reduceSub, Nat.reduceLeDiff, Nat.reduceLT, true_and, and_true, decide_true, decide_false, sga, wipeP, List.set_cons_zero, List.set_cons_succ, evSs_nil, List.lookup, Nat.reduceBEq, seq_str, seq_tup, seq_fl, Bool.true_and, Bool.and_true, Bool.false_and, Bool.and_false, beq_self_eq_true])
  intro ol nol
  have l4 := PLe.new (c := .lst [.loc o1, .loc o2]) nol
  have lo := at_of_pup (rfl : pup g5 ol (.lst [.loc o1, .loc o2]) = _)
  generalize pup g5 ol _ = g6 at l4 lo ⊢
  have l16 := l1.trans (l2.trans (l3.trans l4))
  have la6 := l4 _ _ (l3 _ _ (l2 _ _ la))
  have e16 := l4 _ _ (l3 _ _ e1)
  have e26 := l4 _ _ e2
  have hl6 := l16 _ _ hl3
  have d1 := led1'.ple l16
  have d2 := led2.ple l16
  clear l1 l2 l3 l4 la e1 e2 l16 hl3 led1' led2 no1 no2 nol nal
  (try simp only [evS, evE, evEs, evO, evB, evBs, evI, List.map_cons, List.map_nil, List.replicate_succ, List.replicate_zero, List.cons_append, List.nil_append, List.getElem?_cons_zero, List.getElem?_cons_succ, List.set_cons_zero, List.set_cons_succ, bv_add, bv_sub, bv_mul, bv_div, bv_mod, bv_pow, bv_str, av_add, av_sub, cv_lt, cv_le, cv_gt, cv_ge, cv_eq, cv_ne, cv_eqS, cv_neS, tv_bl, tv_int, List.length_cons, List.length_nil, pad, setT_nm, setT_tup, setTs_nil, setTs_cons, decide_eq_true_eq, Bool.not_eq_true', Bool.not_true, Bool.not_false, if_true, if_false, Bool.false_eq_true, Bool.true_eq_false, reduceIte, Nat.reduceAdd, Nat.reduceSub, Nat.reduceBEq, pow_10_9, pow_10_20, pow_10_30, cpow_10_9, cpow_10_20, cpow_10_30, divP_lit, mulP_r, mulP_l, lne_line, lt_line, isi_int, isi_bool, Int.reduceLT, Int.reduceLE, Int.reduceGT, Int.reduceGE, Int.reduceNeg, Int.reduceMul, Int.reduceAdd, Int.reduceSub, Nat.reduceLeDiff, Nat.reduceLT, true_and, and_true, decide_true, decide_false, sga, wipeP, List.set_cons_zero, List.set_cons_succ, evSs_nil, List.lookup, Nat.reduceBEq, seq_str, seq_tup, seq_fl, Bool.true_and, Bool.and_true, Bool.false_and, Bool.and_false, beq_self_eq_true])
  rw [evSs_cons]
  simp only [evS, evE, evEs, evO, evB, evBs, evI, List.map_cons, List.map_nil, List.replicate_succ, List.replicate_zero, List.cons_append, List.nil_append, List.getElem?_cons_zero, List.getElem?_cons_succ, List.set_cons_zero, List.set_cons_succ, bv_add, bv_sub, bv_mul, bv_div, bv_mod, bv_pow, bv_str, av_add, av_sub, cv_lt, cv_le, cv_gt, cv_ge, cv_eq, cv_ne, cv_eqS, cv_neS, tv_bl, tv_int, List.length_cons, List.length_nil, pad, setT_nm, setT_tup, setTs_nil, setTs_cons, decide_eq_true_eq, Bool.not_eq_true', Bool.not_true, Bool.not_false, if_true, if_false, Bool.false_eq_true, Bool.true_eq_false, reduceIte, Nat.reduceAdd, Nat.reduceSub, Nat.reduceBEq, pow_10_9, pow_10_20, pow_10_30, cpow_10_9, cpow_10_20, cpow_10_30, divP_lit, mulP_r, mulP_l, lne_line, lt_line, isi_int, isi_bool, Int.reduceLT, Int.reduceLE, Int.reduceGT, Int.reduceGE, Int.reduceNeg, Int.reduceMul, Int.reduceAdd, Int.reduceSub, Nat.reduceLeDiff, Nat.reduceLT, true_and, and_true, decide_true, decide_false, sga, wipeP, List.set_cons_zero, List.set_cons_succ, evSs_nil, List.lookup, Nat.reduceBEq, seq_str, seq_tup, seq_fl, Bool.true_and, Bool.and_true, Bool.false_and, Bool.and_false, beq_self_eq_true]
  intro t1 nt1
  have l1 := PLe.new (c := .lst []) nt1
  have b1 := at_of_pup (rfl : pup g6 t1 (.lst []) = _)
  have x1 : nl ≠ t1 := (ne_new nt1 hl6).symm
  have x2 : al ≠ t1 := (ne_new nt1 la6).symm
  have x3 : ol ≠ t1 := (ne_new nt1 lo).symm
  generalize pup g6 t1 _ = g7 at l1 b1 ⊢
  (try simp only [evS, evE, evEs, evO, evB, evBs, evI, List.map_cons, List.map_nil, List.replicate_succ, List.replicate_zero, List.cons_append, List.nil_append, List.getElem?_cons_zero, List.getElem?_cons_succ, List.set_cons_zero, List.set_cons_succ, bv_add, bv_sub, bv_mul, bv_div, bv_mod, bv_pow, bv_str, av_add, av_sub, cv_lt, cv_le, cv_gt, cv_ge, cv_eq, cv_ne, cv_eqS, cv_neS, tv_bl, tv_int, List.length_cons, List.length_nil, pad, setT_nm, setT_tup, setTs_nil, setTs_cons, decide_eq_true_eq, Bool.not_eq_true', Bool.not_true, Bool.not_false, if_true, if_false, Bool.false_eq_true, Bool.true_eq_false, reduceIte, Nat.reduceAdd, Nat.reduceSub, Nat.reduceBEq, pow_10_9, pow_10_20, pow_10_30, cpow_10_9, cpow_10_20, cpow_10_30, divP_lit, mulP_r, mulP_l, lne_line, lt_line, isi_int, isi_bool, Int.reduceLT, Int.reduceLE, Int.reduceGT, Int.reduceGE, Int.reduceNeg, Int.reduceMul, Int.reduceAdd, Int.reduceSub, Nat.reduceLeDiff, Nat.reduceLT, true_and, and_true, decide_true, decide_false, sga, wipeP, List.set_cons_zero, List.set_cons_succ, evSs_nil, List.lookup, Nat.reduceBEq, seq_str, seq_tup, seq_fl, Bool.true_and, Bool.and_true, Bool.false_and, Bool.and_false, beq_self_eq_true])
  intro t2 nt2
  have l2 := PLe.new (c := .lst []) nt2
  have b2 := at_of_pup (rfl : pup g7 t2 (.lst []) = _)
  have nt : t1 ≠ t2 := (ne_new nt2 b1).symm
  have y1 : nl ≠ t2 := (ne_new nt2 (l1 _ _ hl6)).symm
  have y2 : al ≠ t2 := (ne_new nt2 (l1 _ _ la6)).symm
  have y3 : ol ≠ t2 := (ne_new nt2 (l1 _ _ lo)).symm
  generalize pup g7 t2 _ = g8 at l2 b2 ⊢
  (try simp only [evS, evE, evEs, evO, evB, evBs, evI, List.map_cons, List.map_nil, List.replicate_succ, List.replicate_zero, List.cons_append, List.nil_append, List.getElem?_cons_zero, List.getElem?_cons_succ, List.set_cons_zero, List.set_cons_succ, bv_add, bv_sub, bv_mul, bv_div, bv_mod, bv_pow, bv_str, av_add, av_sub, cv_lt, cv_le, cv_gt, cv_ge, cv_eq, cv_ne, cv_eqS, cv_neS, tv_bl, tv_int, List.length_cons, List.length_nil, pad, setT_nm, setT_tup, setTs_nil, setTs_cons, decide_eq_true_eq, Bool.not_eq_true', Bool.not_true, Bool.not_false, if_true, if_false, Bool.false_eq_true, Bool.true_eq_false, reduceIte, Nat.reduceAdd, Nat.reduceSub, Nat.reduceBEq, pow_10_9, pow_10_20, pow_10_30, cpow_10_9, cpow_10_20, cpow_10_30, divP_lit, mulP_r, mulP_l, lne_line, lt_line, isi_int, isi_bool, Int.reduceLT, Int.reduceLE, Int.reduceGT, Int.reduceGE, Int.reduceNeg, Int.reduceMul, Int.reduceAdd, Int.reduceSub, Nat.reduceLeDiff, Nat.reduceLT, true_and, and_true, decide_true, decide_false, sga, wipeP, List.set_cons_zero, List.set_cons_succ, evSs_nil, List.lookup, Nat.reduceBEq, seq_str, seq_tup, seq_fl, Bool.true_and, Bool.and_true, Bool.false_and, Bool.and_false, beq_self_eq_true])
  intro ml nml
  have l3 := PLe.new (c := .lst [.loc t1, .loc t2]) nml
  have lm := at_of_pup (rfl : pup g8 ml (.lst [.loc t1, .loc t2]) = _)
  have x4 : ml ≠ t1 := ne_new nml (l2 _ _ b1)
  have y4 : ml ≠ t2 := ne_new nml b2
  generalize pup g8 ml _ = g9 at l3 lm ⊢
  have l := l1.trans (l2.trans l3)
  have W := two0 (S := nmS hd) (by rw [nmS_len]; decide) (d1.ple l) (d2.ple l) (l _ _ e16) (l _ _ e26) (l3 _ _ (l2 _ _ b1)) (l3 _ _ b2) (l _ _ hl6) (l _ _ la6) (l _ _ lo) lm no nt sep ⟨x1, x2, x3, x4⟩ ⟨y1, y2, y3, y4⟩
  (try simp only [evS, evE, evEs, evO, evB, evBs, evI, List.map_cons, List.map_nil, List.replicate_succ, List.replicate_zero, List.cons_append, List.nil_append, List.getElem?_cons_zero, List.getElem?_cons_succ, List.set_cons_zero, List.set_cons_succ, bv_add, bv_sub, bv_mul, bv_div, bv_mod, bv_pow, bv_str, av_add, av_sub, cv_lt, cv_le, cv_gt, cv_ge, cv_eq, cv_ne, cv_eqS, cv_neS, tv_bl, tv_int, List.length_cons, List.length_nil, pad, setT_nm, setT_tup, setTs_nil, setTs_cons, decide_eq_true_eq, Bool.not_eq_true', Bool.not_true, Bool.not_false, if_true, if_false, Bool.false_eq_true, Bool.true_eq_false, reduceIte, Nat.reduceAdd, Nat.reduceSub, Nat.reduceBEq, pow_10_9, pow_10_20, pow_10_30, cpow_10_9, cpow_10_20, cpow_10_30, divP_lit, mulP_r, mulP_l, lne_line, lt_line, isi_int, isi_bool, Int.reduceLT, Int.reduceLE, Int.reduceGT, Int.reduceGE, Int.reduceNeg, Int.reduceMul, Int.reduceAdd, Int.reduceSub, Nat.reduceLeDiff, Nat.reduceLT, true_and, and_true, decide_true, decide_false, sga, wipeP, List.set_cons_zero, List.set_cons_succ, evSs_nil, List.lookup, Nat.reduceBEq, seq_str, seq_tup, seq_fl, Bool.true_and, Bool.and_true, Bool.false_and, Bool.and_false, beq_self_eq_true])
  exact tL hns W (nmS_nodup hd) (nmS_len hd) q
end
theorem hp : ∀ ns : List Int, ns.length ≤ 63 → sem sg 12 15 [.fl (ns.map .int)] (fun _ => none) (fun v _ => v = .bl true) (fun _ _ => False) := by
  intro ns hns
  have tH := @head_sp 1
  rw [show headS = _ from rfl, headS, b15] at tH
  (try dsimp only at tH)
  refine ⟨⟨1, 9, b15, []⟩, rfl, rfl, ?_⟩
  rw [b15, evSs_cons]
  simp only [evS, evE, evEs, evO, evB, evBs, evI, List.map_cons, List.map_nil, List.replicate_succ, List.replicate_zero, List.cons_append, List.nil_append, List.getElem?_cons_zero, List.getElem?_cons_succ, List.set_cons_zero, List.set_cons_succ, bv_add, bv_sub, bv_mul, bv_div, bv_mod, bv_pow, bv_str, av_add, av_sub, cv_lt, cv_le, cv_gt, cv_ge, cv_eq, cv_ne, cv_eqS, cv_neS, tv_bl, tv_int, List.length_cons, List.length_nil, pad, setT_nm, setT_tup, setTs_nil, setTs_cons, decide_eq_true_eq, Bool.not_eq_true', Bool.not_true, Bool.not_false, if_true, if_false, Bool.false_eq_true, Bool.true_eq_false, reduceIte, Nat.reduceAdd, Nat.reduceSub, Nat.reduceBEq, pow_10_9, pow_10_20, pow_10_30, cpow_10_9, cpow_10_20, cpow_10_30, divP_lit, mulP_r, mulP_l, lne_line, lt_line, isi_int, isi_bool, Int.reduceLT, Int.reduceLE, Int.reduceGT, Int.reduceGE, Int.reduceNeg, Int.reduceMul, Int.reduceAdd, Int.reduceSub, Nat.reduceLeDiff, Nat.reduceLT, true_and, and_true, decide_true, decide_false, sga, wipeP, List.set_cons_zero, List.set_cons_succ, evSs_nil, List.lookup, Nat.reduceBEq, seq_str, seq_tup, seq_fl, Bool.true_and, Bool.and_true, Bool.false_and, Bool.and_false, beq_self_eq_true]
  refine cell_sp rfl ?_
  (try simp only [evS, evE, evEs, evO, evB, evBs, evI, List.map_cons, List.map_nil, List.replicate_succ, List.replicate_zero, List.cons_append, List.nil_append, List.getElem?_cons_zero, List.getElem?_cons_succ, List.set_cons_zero, List.set_cons_succ, bv_add, bv_sub, bv_mul, bv_div, bv_mod, bv_pow, bv_str, av_add, av_sub, cv_lt, cv_le, cv_gt, cv_ge, cv_eq, cv_ne, cv_eqS, cv_neS, tv_bl, tv_int, List.length_cons, List.length_nil, pad, setT_nm, setT_tup, setTs_nil, setTs_cons, decide_eq_true_eq, Bool.not_eq_true', Bool.not_true, Bool.not_false, if_true, if_false, Bool.false_eq_true, Bool.true_eq_false, reduceIte, Nat.reduceAdd, Nat.reduceSub, Nat.reduceBEq, pow_10_9, pow_10_20, pow_10_30, cpow_10_9, cpow_10_20, cpow_10_30, divP_lit, mulP_r, mulP_l, lne_line, lt_line, isi_int, isi_bool, Int.reduceLT, Int.reduceLE, Int.reduceGT, Int.reduceGE, Int.reduceNeg, Int.reduceMul, Int.reduceAdd, Int.reduceSub, Nat.reduceLeDiff, Nat.reduceLT, true_and, and_true, decide_true, decide_false, sga, wipeP, List.set_cons_zero, List.set_cons_succ, evSs_nil, List.lookup, Nat.reduceBEq, seq_str, seq_tup, seq_fl, Bool.true_and, Bool.and_true, Bool.false_and, Bool.and_false, beq_self_eq_true])
  refine mixed_sp (by decide) (by decide) ?_
  have h0 := mix_lo (ns.headD 0) 1
  have h1 := mix_hi (ns.headD 0) 1
  generalize mix (ns.headD 0) 1 = hd at h0 h1 ⊢
  (try simp only [evS, evE, evEs, evO, evB, evBs, evI, List.map_cons, List.map_nil, List.replicate_succ, List.replicate_zero, List.cons_append, List.nil_append, List.getElem?_cons_zero, List.getElem?_cons_succ, List.set_cons_zero, List.set_cons_succ, bv_add, bv_sub, bv_mul, bv_div, bv_mod, bv_pow, bv_str, av_add, av_sub, cv_lt, cv_le, cv_gt, cv_ge, cv_eq, cv_ne, cv_eqS, cv_neS, tv_bl, tv_int, List.length_cons, List.length_nil, pad, setT_nm, setT_tup, setTs_nil, setTs_cons, decide_eq_true_eq, Bool.not_eq_true', Bool.not_true, Bool.not_false, if_true, if_false, Bool.false_eq_true, Bool.true_eq_false, reduceIte, Nat.reduceAdd, Nat.reduceSub, Nat.reduceBEq, pow_10_9, pow_10_20, pow_10_30, cpow_10_9, cpow_10_20, cpow_10_30, divP_lit, mulP_r, mulP_l, lne_line, lt_line, isi_int, isi_bool, Int.reduceLT, Int.reduceLE, Int.reduceGT, Int.reduceGE, Int.reduceNeg, Int.reduceMul, Int.reduceAdd, Int.reduceSub, Nat.reduceLeDiff, Nat.reduceLT, true_and, and_true, decide_true, decide_false, sga, wipeP, List.set_cons_zero, List.set_cons_succ, evSs_nil, List.lookup, Nat.reduceBEq, seq_str, seq_tup, seq_fl, Bool.true_and, Bool.and_true, Bool.false_and, Bool.and_false, beq_self_eq_true])
  rw [evSs_cons]
  simp only [evS, evE, evEs, evO, evB, evBs, evI, List.map_cons, List.map_nil, List.replicate_succ, List.replicate_zero, List.cons_append, List.nil_append, List.getElem?_cons_zero, List.getElem?_cons_succ, List.set_cons_zero, List.set_cons_succ, bv_add, bv_sub, bv_mul, bv_div, bv_mod, bv_pow, bv_str, av_add, av_sub, cv_lt, cv_le, cv_gt, cv_ge, cv_eq, cv_ne, cv_eqS, cv_neS, tv_bl, tv_int, List.length_cons, List.length_nil, pad, setT_nm, setT_tup, setTs_nil, setTs_cons, decide_eq_true_eq, Bool.not_eq_true', Bool.not_true, Bool.not_false, if_true, if_false, Bool.false_eq_true, Bool.true_eq_false, reduceIte, Nat.reduceAdd, Nat.reduceSub, Nat.reduceBEq, pow_10_9, pow_10_20, pow_10_30, cpow_10_9, cpow_10_20, cpow_10_30, divP_lit, mulP_r, mulP_l, lne_line, lt_line, isi_int, isi_bool, Int.reduceLT, Int.reduceLE, Int.reduceGT, Int.reduceGE, Int.reduceNeg, Int.reduceMul, Int.reduceAdd, Int.reduceSub, Nat.reduceLeDiff, Nat.reduceLT, true_and, and_true, decide_true, decide_false, sga, wipeP, List.set_cons_zero, List.set_cons_succ, evSs_nil, List.lookup, Nat.reduceBEq, seq_str, seq_tup, seq_fl, Bool.true_and, Bool.and_true, Bool.false_and, Bool.and_false, beq_self_eq_true]
  refine ⟨by decide, by decide, ?_⟩
  intro nl nnl
  refine compGo_f (L := List.range (7 : Int).toNat) (key := fun i : Nat => PV.int ((0 : Int) + (i : Nat))) (fun _ => true) (fun i : Nat => .str (nm hd ((0 : Int) + (i : Nat)))) (fun i => [some (.fl (ns.map .int)), some (.int hd), none, none, none, none, some (.int ((0 : Int) + (i : Nat))), none, none]) (rfl : ((fun _ => none) : PH) nl = none) (by rw [List.length_range]; exact small_line (by decide)) (fun g l => trivial) (fun i T hi q => ?_) (fun i g N hi l q => ?_) (fun i g N hi _ l q => ?_) (fun g l e => ?_)
  · exact q
  · exact q g (.refl g)
  · simp only [evS, evE, evEs, evO, evB, evBs, evI, List.map_cons, List.map_nil, List.replicate_succ, List.replicate_zero, List.cons_append, List.nil_append, List.getElem?_cons_zero, List.getElem?_cons_succ, List.set_cons_zero, List.set_cons_succ, bv_add, bv_sub, bv_mul, bv_div, bv_mod, bv_pow, bv_str, av_add, av_sub, cv_lt, cv_le, cv_gt, cv_ge, cv_eq, cv_ne, cv_eqS, cv_neS, tv_bl, tv_int, List.length_cons, List.length_nil, pad, setT_nm, setT_tup, setTs_nil, setTs_cons, decide_eq_true_eq, Bool.not_eq_true', Bool.not_true, Bool.not_false, if_true, if_false, Bool.false_eq_true, Bool.true_eq_false, reduceIte, Nat.reduceAdd, Nat.reduceSub, Nat.reduceBEq, pow_10_9, pow_10_20, pow_10_30, cpow_10_9, cpow_10_20, cpow_10_30, divP_lit, mulP_r, mulP_l, lne_line, lt_line, isi_int, isi_bool, Int.reduceLT, Int.reduceLE, Int.reduceGT, Int.reduceGE, Int.reduceNeg, Int.reduceMul, Int.reduceAdd, Int.reduceSub, Nat.reduceLeDiff, Nat.reduceLT, true_and, and_true, decide_true, decide_false, sga, wipeP, List.set_cons_zero, List.set_cons_succ, evSs_nil, List.lookup, Nat.reduceBEq, seq_str, seq_tup, seq_fl, Bool.true_and, Bool.and_true, Bool.false_and, Bool.and_false, beq_self_eq_true]
    rw [List.mem_range] at hi
    have hi : i < 7 := hi
    refine name_sp h0 h1 (by omega) (by omega) ?_
    (try simp only [evS, evE, evEs, evO, evB, evBs, evI, List.map_cons, List.map_nil, List.replicate_succ, List.replicate_zero, List.cons_append, List.nil_append, List.getElem?_cons_zero, List.getElem?_cons_succ, List.set_cons_zero, List.set_cons_succ, bv_add, bv_sub, bv_mul, bv_div, bv_mod, bv_pow, bv_str, av_add, av_sub, cv_lt, cv_le, cv_gt, cv_ge, cv_eq, cv_ne, cv_eqS, cv_neS, tv_bl, tv_int, List.length_cons, List.length_nil, pad, setT_nm, setT_tup, setTs_nil, setTs_cons, decide_eq_true_eq, Bool.not_eq_true', Bool.not_true, Bool.not_false, if_true, if_false, Bool.false_eq_true, Bool.true_eq_false, reduceIte, Nat.reduceAdd, Nat.reduceSub, Nat.reduceBEq, pow_10_9, pow_10_20, pow_10_30, cpow_10_9, cpow_10_20, cpow_10_30, divP_lit, mulP_r, mulP_l, lne_line, lt_line, isi_int, isi_bool, Int.reduceLT, Int.reduceLE, Int.reduceGT, Int.reduceGE, Int.reduceNeg, Int.reduceMul, Int.reduceAdd, Int.reduceSub, Nat.reduceLeDiff, Nat.reduceLT, true_and, and_true, decide_true, decide_false, sga, wipeP, List.set_cons_zero, List.set_cons_succ, evSs_nil, List.lookup, Nat.reduceBEq, seq_str, seq_tup, seq_fl, Bool.true_and, Bool.and_true, Bool.false_and, Bool.and_false, beq_self_eq_true])
    exact q g (.refl g)
  rw [filter_true] at e
  have e2 : g nl = some (.lst ((nmS hd).map .str)) := by rw [e, nmS, List.map_map]; rfl
  (try simp only [evS, evE, evEs, evO, evB, evBs, evI, List.map_cons, List.map_nil, List.replicate_succ, List.replicate_zero, List.cons_append, List.nil_append, List.getElem?_cons_zero, List.getElem?_cons_succ, List.set_cons_zero, List.set_cons_succ, bv_add, bv_sub, bv_mul, bv_div, bv_mod, bv_pow, bv_str, av_add, av_sub, cv_lt, cv_le, cv_gt, cv_ge, cv_eq, cv_ne, cv_eqS, cv_neS, tv_bl, tv_int, List.length_cons, List.length_nil, pad, setT_nm, setT_tup, setTs_nil, setTs_cons, decide_eq_true_eq, Bool.not_eq_true', Bool.not_true, Bool.not_false, if_true, if_false, Bool.false_eq_true, Bool.true_eq_false, reduceIte, Nat.reduceAdd, Nat.reduceSub, Nat.reduceBEq, pow_10_9, pow_10_20, pow_10_30, cpow_10_9, cpow_10_20, cpow_10_30, divP_lit, mulP_r, mulP_l, lne_line, lt_line, isi_int, isi_bool, Int.reduceLT, Int.reduceLE, Int.reduceGT, Int.reduceGE, Int.reduceNeg, Int.reduceMul, Int.reduceAdd, Int.reduceSub, Nat.reduceLeDiff, Nat.reduceLT, true_and, and_true, decide_true, decide_false, sga, wipeP, List.set_cons_zero, List.set_cons_succ, evSs_nil, List.lookup, Nat.reduceBEq, seq_str, seq_tup, seq_fl, Bool.true_and, Bool.and_true, Bool.false_and, Bool.and_false, beq_self_eq_true])
  exact tH hns e2 fun g => rfl
end LK

set_option autoImplicit false
namespace LK
open PySem L2 PySem.Spec Mir
open PyProof.Rows hiding St
theorem all_mk {l : PySem.W.OpenLaw} {w : World} {K : PySem.W.Frag} {h : Heap} {mg : Str → Option Value} {fa f0 f1 f2 f3 f4 f5 f6 f7 f8 f9 f10 f11 f12 f13 f14 f15 C0 : Addr} (X : K.In h) (G : h.Ns mainGlobals mg) (hfa : mg "law" = some (.ref fa))
    {od0 an0 od1 an1 od2 an2 od3 an3 od4 an4 od5 an5 od6 an6 od7 an7 od8 an8 od9 an9 od10 an10 od11 an11 od12 an12 od13 an13 od14 an14 od15 an15 : Option Addr} {sl0 sl1 sl2 sl3 sl4 sl5 sl6 sl7 sl8 sl9 sl10 sl11 sl12 sl13 sl14 sl15 : Array (Option Value)} {oc0 kV0 dc0 pm0 cd0 ct0 oc1 kV1 dc1 pm1 cd1 ct1 oc2 kV2 dc2 pm2 cd2 ct2 oc3 kV3 dc3 pm3 cd3 ct3 oc4 kV4 dc4 pm4 cd4 ct4 oc5 kV5 dc5 pm5 cd5 ct5 oc6 kV6 dc6 pm6 cd6 ct6 oc7 kV7 dc7 pm7 cd7 ct7 oc8 kV8 dc8 pm8 cd8 ct8 oc9 kV9 dc9 pm9 cd9 ct9 oc10 kV10 dc10 pm10 cd10 ct10 oc11 kV11 dc11 pm11 cd11 ct11 oc12 kV12 dc12 pm12 cd12 ct12 oc13 kV13 dc13 pm13 cd13 ct13 oc14 kV14 dc14 pm14 cd14 ct14 oc15 kV15 dc15 pm15 cd15 ct15 : Value}
    (aC0 : PySem.W.nsIn K mainGlobals "Ledger" = some (some (.ref C0)))
    (pg0 : PySem.W.plainGet K C0 Str.empty = true)
    (hd0 : PySem.W.hasDictIn K C0 = true)
    (po0 : PySem.W.plainOver K C0 = true)
    (sa0 : PySem.W.findIn K (.ref C0) "__setattr__" = some (some (.builtin "object.__setattr__")))
    (mk0 : PySem.W.makesIn K C0 = true)
    (kc0 : PySem.W.keepIn K (.ref C0) = true)
    (nF0x0 : PySem.W.findIn K (.ref C0) "purse" = some none)
    (nF0x1 : PySem.W.findIn K (.ref C0) "stock" = some none)
    (mT0x4 : PySem.W.findIn K (.ref C0) "pay" = some (some (.ref f1)))
    (mT0x3 : PySem.W.findIn K (.ref C0) "hand" = some (some (.ref f2)))
    (mT0x5 : PySem.W.findIn K (.ref C0) "dealt" = some (some (.ref f3)))
    (mT0x6 : PySem.W.findIn K (.ref C0) "holds" = some (some (.ref f4)))
    (mT0x2 : PySem.W.findIn K (.ref C0) "coins" = some (some (.ref f5)))
    (mT0x7 : PySem.W.findIn K (.ref C0) "members" = some (some (.ref f6)))
    (mT0x8 : PySem.W.findIn K (.ref C0) "wares" = some (some (.ref f7)))
    (mI0 : PySem.W.findIn K (.ref C0) "__init__" = some (some (.ref f0)))
    (i0 : PySem.W.isFn K (.ref f0) = true)
    (l0 : K.lookup f0 = some ⟨oc0, od0, .func (PySem.W.fnOf "__init__" "Ledger.__init__" (defArgs s0) (defBody s0) (defScope s0) .none kV0 dc0 pm0 an0 cd0 ct0), sl0⟩) (c0 : PySem.W.codeIn K cd0 "Ledger.__init__" = true) (k0 : PySem.W.keepIn K (.ref f0) = true)
    (i1 : PySem.W.isFn K (.ref f1) = true)
    (l1 : K.lookup f1 = some ⟨oc1, od1, .func (PySem.W.fnOf "pay" "Ledger.pay" (defArgs s1) (defBody s1) (defScope s1) .none kV1 dc1 pm1 an1 cd1 ct1), sl1⟩) (c1 : PySem.W.codeIn K cd1 "Ledger.pay" = true) (k1 : PySem.W.keepIn K (.ref f1) = true)
    (i2 : PySem.W.isFn K (.ref f2) = true)
    (l2 : K.lookup f2 = some ⟨oc2, od2, .func (PySem.W.fnOf "hand" "Ledger.hand" (defArgs s2) (defBody s2) (defScope s2) .none kV2 dc2 pm2 an2 cd2 ct2), sl2⟩) (c2 : PySem.W.codeIn K cd2 "Ledger.hand" = true) (k2 : PySem.W.keepIn K (.ref f2) = true)
    (i3 : PySem.W.isFn K (.ref f3) = true)
    (l3 : K.lookup f3 = some ⟨oc3, od3, .func (PySem.W.fnOf "dealt" "Ledger.dealt" (defArgs s3) (defBody s3) (defScope s3) .none kV3 dc3 pm3 an3 cd3 ct3), sl3⟩) (c3 : PySem.W.codeIn K cd3 "Ledger.dealt" = true) (k3 : PySem.W.keepIn K (.ref f3) = true)
    (i4 : PySem.W.isFn K (.ref f4) = true)
    (l4 : K.lookup f4 = some ⟨oc4, od4, .func (PySem.W.fnOf "holds" "Ledger.holds" (defArgs s4) (defBody s4) (defScope s4) .none kV4 dc4 pm4 an4 cd4 ct4), sl4⟩) (c4 : PySem.W.codeIn K cd4 "Ledger.holds" = true) (k4 : PySem.W.keepIn K (.ref f4) = true)
    (i5 : PySem.W.isFn K (.ref f5) = true)
    (l5 : K.lookup f5 = some ⟨oc5, od5, .func (PySem.W.fnOf "coins" "Ledger.coins" (defArgs s5) (defBody s5) (defScope s5) .none kV5 dc5 pm5 an5 cd5 ct5), sl5⟩) (c5 : PySem.W.codeIn K cd5 "Ledger.coins" = true) (k5 : PySem.W.keepIn K (.ref f5) = true)
    (i6 : PySem.W.isFn K (.ref f6) = true)
    (l6 : K.lookup f6 = some ⟨oc6, od6, .func (PySem.W.fnOf "members" "Ledger.members" (defArgs s6) (defBody s6) (defScope s6) .none kV6 dc6 pm6 an6 cd6 ct6), sl6⟩) (c6 : PySem.W.codeIn K cd6 "Ledger.members" = true) (k6 : PySem.W.keepIn K (.ref f6) = true)
    (i7 : PySem.W.isFn K (.ref f7) = true)
    (l7 : K.lookup f7 = some ⟨oc7, od7, .func (PySem.W.fnOf "wares" "Ledger.wares" (defArgs s7) (defBody s7) (defScope s7) .none kV7 dc7 pm7 an7 cd7 ct7), sl7⟩) (c7 : PySem.W.codeIn K cd7 "Ledger.wares" = true) (k7 : PySem.W.keepIn K (.ref f7) = true)
    (a8 : PySem.W.nsIn K mainGlobals "_law_cell_at" = some (some (.ref f8)))
    (l8 : K.lookup f8 = some ⟨oc8, od8, .func (PySem.W.fnOf "_law_cell_at" "_law_cell_at" (defArgs s8) (defBody s8) (defScope s8) .none kV8 dc8 pm8 an8 cd8 ct8), sl8⟩) (c8 : PySem.W.codeIn K cd8 "_law_cell_at" = true) (k8 : PySem.W.keepIn K (.ref f8) = true)
    (a9 : PySem.W.nsIn K mainGlobals "_law_mixed" = some (some (.ref f9)))
    (l9 : K.lookup f9 = some ⟨oc9, od9, .func (PySem.W.fnOf "_law_mixed" "_law_mixed" (defArgs s9) (defBody s9) (defScope s9) .none kV9 dc9 pm9 an9 cd9 ct9), sl9⟩) (c9 : PySem.W.codeIn K cd9 "_law_mixed" = true) (k9 : PySem.W.keepIn K (.ref f9) = true)
    (a10 : PySem.W.nsIn K mainGlobals "_law_name" = some (some (.ref f10)))
    (l10 : K.lookup f10 = some ⟨oc10, od10, .func (PySem.W.fnOf "_law_name" "_law_name" (defArgs s10) (defBody s10) (defScope s10) .none kV10 dc10 pm10 an10 cd10 ct10), sl10⟩) (c10 : PySem.W.codeIn K cd10 "_law_name" = true) (k10 : PySem.W.keepIn K (.ref f10) = true)
    (a11 : PySem.W.nsIn K mainGlobals "_law_amount" = some (some (.ref f11)))
    (l11 : K.lookup f11 = some ⟨oc11, od11, .func (PySem.W.fnOf "_law_amount" "_law_amount" (defArgs s11) (defBody s11) (defScope s11) .none kV11 dc11 pm11 an11 cd11 ct11), sl11⟩) (c11 : PySem.W.codeIn K cd11 "_law_amount" = true) (k11 : PySem.W.keepIn K (.ref f11) = true)
    (a12 : PySem.W.nsIn K mainGlobals "_law_moved" = some (some (.ref f12)))
    (l12 : K.lookup f12 = some ⟨oc12, od12, .func (PySem.W.fnOf "_law_moved" "_law_moved" (defArgs s12) (defBody s12) (defScope s12) .none kV12 dc12 pm12 an12 cd12 ct12), sl12⟩) (c12 : PySem.W.codeIn K cd12 "_law_moved" = true) (k12 : PySem.W.keepIn K (.ref f12) = true)
    (a13 : PySem.W.nsIn K mainGlobals "_law_deed" = some (some (.ref f13)))
    (l13 : K.lookup f13 = some ⟨oc13, od13, .func (PySem.W.fnOf "_law_deed" "_law_deed" (defArgs s13) (defBody s13) (defScope s13) .none kV13 dc13 pm13 an13 cd13 ct13), sl13⟩) (c13 : PySem.W.codeIn K cd13 "_law_deed" = true) (k13 : PySem.W.keepIn K (.ref f13) = true)
    (a14 : PySem.W.nsIn K mainGlobals "_law_stands" = some (some (.ref f14)))
    (l14 : K.lookup f14 = some ⟨oc14, od14, .func (PySem.W.fnOf "_law_stands" "_law_stands" (defArgs s14) (defBody s14) (defScope s14) .none kV14 dc14 pm14 an14 cd14 ct14), sl14⟩) (c14 : PySem.W.codeIn K cd14 "_law_stands" = true) (k14 : PySem.W.keepIn K (.ref f14) = true)
    (a15 : PySem.W.nsIn K mainGlobals "law" = some (some (.ref f15)))
    (l15 : K.lookup f15 = some ⟨oc15, od15, .func (PySem.W.fnOf "law" "law" (defArgs s15) (defBody s15) (defScope s15) .none kV15 dc15 pm15 an15 cd15 ct15), sl15⟩) (c15 : PySem.W.codeIn K cd15 "law" = true) (k15 : PySem.W.keepIn K (.ref f15) = true)
    (z0 : PySem.W.nsIn K mainGlobals "sorted" = some none)
    (z1 : PySem.W.nsIn K mainGlobals "len" = some none)
    (z2 : PySem.W.nsIn K mainGlobals "range" = some none)
    (z3 : PySem.W.nsIn K mainGlobals "sum" = some none)
    (z4 : PySem.W.nsIn K mainGlobals "enumerate" = some none)
    (uq : ∀ p ∈ ([] : List (Addr × Str)), ∀ q ∈ ([] : List (Addr × Str)), p.1 = q.1 → p.2 = q.2)
    : ∃ fd : FuncData, (∀ (s : Shared) (v : Value), BindsTo s fd ⟨[v], []⟩ [("_law_script", v)]) ∧ ∀ base : Heap, K.In base → base.Ns mainGlobals mg → (∀ p ∈ ([] : List (Addr × Addr)), LamX.TabB base mg p.1 p.2) → FnOk l.prog w K mg base (L2.CX l.prog w) (8 * 12) fa fd ["_law_script"] (spT K []) := by
  letI : Tbl := ⟨[], uq⟩
  have e := hfa.symm.trans (PySem.W.mg_of X G a15)
  cases e
  have F0 := fun_mk (st := s0) l0 c0 k0
  have B0 := F0.binds (ps := P0) fun _ _ _ _ _ _ us hl => match us, hl with | [_], _ => rfl
  have F1 := fun_mk (st := s1) l1 c1 k1
  have B1 := F1.binds (ps := P1) fun _ _ _ _ _ _ us hl => match us, hl with | [_, _, _, _], _ => rfl
  have F2 := fun_mk (st := s2) l2 c2 k2
  have B2 := F2.binds (ps := P2) fun _ _ _ _ _ _ us hl => match us, hl with | [_, _, _, _, _], _ => rfl
  have F3 := fun_mk (st := s3) l3 c3 k3
  have B3 := F3.binds (ps := P3) fun _ _ _ _ _ _ us hl => match us, hl with | [_, _, _, _, _, _], _ => rfl
  have F4 := fun_mk (st := s4) l4 c4 k4
  have B4 := F4.binds (ps := P4) fun _ _ _ _ _ _ us hl => match us, hl with | [_, _, _], _ => rfl
  have F5 := fun_mk (st := s5) l5 c5 k5
  have B5 := F5.binds (ps := P5) fun _ _ _ _ _ _ us hl => match us, hl with | [_, _], _ => rfl
  have F6 := fun_mk (st := s6) l6 c6 k6
  have B6 := F6.binds (ps := P6) fun _ _ _ _ _ _ us hl => match us, hl with | [_], _ => rfl
  have F7 := fun_mk (st := s7) l7 c7 k7
  have B7 := F7.binds (ps := P7) fun _ _ _ _ _ _ us hl => match us, hl with | [_, _], _ => rfl
  have F8 := fun_mk (st := s8) l8 c8 k8
  have B8 := F8.binds (ps := P8) fun _ _ _ _ _ _ us hl => match us, hl with | [_, _], _ => rfl
  have F9 := fun_mk (st := s9) l9 c9 k9
  have B9 := F9.binds (ps := P9) fun _ _ _ _ _ _ us hl => match us, hl with | [_, _], _ => rfl
  have F10 := fun_mk (st := s10) l10 c10 k10
  have B10 := F10.binds (ps := P10) fun _ _ _ _ _ _ us hl => match us, hl with | [_, _], _ => rfl
  have F11 := fun_mk (st := s11) l11 c11 k11
  have B11 := F11.binds (ps := P11) fun _ _ _ _ _ _ us hl => match us, hl with | [_], _ => rfl
  have F12 := fun_mk (st := s12) l12 c12 k12
  have B12 := F12.binds (ps := P12) fun _ _ _ _ _ _ us hl => match us, hl with | [_, _, _, _, _], _ => rfl
  have F13 := fun_mk (st := s13) l13 c13 k13
  have B13 := F13.binds (ps := P13) fun _ _ _ _ _ _ us hl => match us, hl with | [_, _, _, _, _], _ => rfl
  have F14 := fun_mk (st := s14) l14 c14 k14
  have B14 := F14.binds (ps := P14) fun _ _ _ _ _ _ us hl => match us, hl with | [_, _, _, _], _ => rfl
  have F15 := fun_mk (st := s15) l15 c15 k15
  have B15 := F15.binds (ps := P15) fun _ _ _ _ _ _ us hl => match us, hl with | [_], _ => rfl
  let fas : List Addr := [f0, f1, f2, f3, f4, f5, f6, f7, f8, f9, f10, f11, f12, f13, f14, fa]
  let fds : List FuncData := [PySem.W.fnOf "__init__" "Ledger.__init__" (defArgs s0) (defBody s0) (defScope s0) .none kV0 dc0 pm0 an0 cd0 ct0, PySem.W.fnOf "pay" "Ledger.pay" (defArgs s1) (defBody s1) (defScope s1) .none kV1 dc1 pm1 an1 cd1 ct1, PySem.W.fnOf "hand" "Ledger.hand" (defArgs s2) (defBody s2) (defScope s2) .none kV2 dc2 pm2 an2 cd2 ct2, PySem.W.fnOf "dealt" "Ledger.dealt" (defArgs s3) (defBody s3) (defScope s3) .none kV3 dc3 pm3 an3 cd3 ct3, PySem.W.fnOf "holds" "Ledger.holds" (defArgs s4) (defBody s4) (defScope s4) .none kV4 dc4 pm4 an4 cd4 ct4, PySem.W.fnOf "coins" "Ledger.coins" (defArgs s5) (defBody s5) (defScope s5) .none kV5 dc5 pm5 an5 cd5 ct5, PySem.W.fnOf "members" "Ledger.members" (defArgs s6) (defBody s6) (defScope s6) .none kV6 dc6 pm6 an6 cd6 ct6, PySem.W.fnOf "wares" "Ledger.wares" (defArgs s7) (defBody s7) (defScope s7) .none kV7 dc7 pm7 an7 cd7 ct7, PySem.W.fnOf "_law_cell_at" "_law_cell_at" (defArgs s8) (defBody s8) (defScope s8) .none kV8 dc8 pm8 an8 cd8 ct8, PySem.W.fnOf "_law_mixed" "_law_mixed" (defArgs s9) (defBody s9) (defScope s9) .none kV9 dc9 pm9 an9 cd9 ct9, PySem.W.fnOf "_law_name" "_law_name" (defArgs s10) (defBody s10) (defScope s10) .none kV10 dc10 pm10 an10 cd10 ct10, PySem.W.fnOf "_law_amount" "_law_amount" (defArgs s11) (defBody s11) (defScope s11) .none kV11 dc11 pm11 an11 cd11 ct11, PySem.W.fnOf "_law_moved" "_law_moved" (defArgs s12) (defBody s12) (defScope s12) .none kV12 dc12 pm12 an12 cd12 ct12, PySem.W.fnOf "_law_deed" "_law_deed" (defArgs s13) (defBody s13) (defScope s13) .none kV13 dc13 pm13 an13 cd13 ct13, PySem.W.fnOf "_law_stands" "_law_stands" (defArgs s14) (defBody s14) (defScope s14) .none kV14 dc14 pm14 an14 cd14 ct14, PySem.W.fnOf "law" "law" (defArgs s15) (defBody s15) (defScope s15) .none kV15 dc15 pm15 an15 cd15 ct15]
  let F : FT := ⟨fun f => fas.getD f 0, fun f => fds.getD f (PySem.W.fnOf "__init__" "Ledger.__init__" (defArgs s0) (defBody s0) (defScope s0) .none kV0 dc0 pm0 an0 cd0 ct0), fun f => ([P0, P1, P2, P3, P4, P5, P6, P7, P8, P9, P10, P11, P12, P13, P14, P15] : List (List Str)).getD f [], []⟩
  let cl : Nat → Addr := fun k => ([C0] : List Addr).getD k 0
  have S : Wst ⟨sg, K, cl⟩ F ct mg := by
    refine ⟨rfl, fun f d e => ?df, fun f x e => ?mf, fun k x e => ?mc, fun k f e => ?mk, fun k f e => ?cl, fun k f s e e2 => ?na, fun k m f s e e2 => ?me, nd_nms, fun x hx => ?bn, fun g x v e e2 => ?gl, ⟨fun k e => ?w0, fun k e => ?w1, fun k e => ?w2, fun d k b e => ?w3, fun k e => ?w4, fun d k b e => ?w5, fun k e => ?w6, fun d b e => ?w7, fun k e => ?w8⟩, fun f d e => ?lm⟩
    case df =>
      match f, e with
      | 0, e => cases e; exact def_ok F0 sc0 rfl rfl ck0 B0 rfl
      | 1, e => cases e; exact def_ok F1 sc1 rfl rfl ck1 B1 rfl
      | 2, e => cases e; exact def_ok F2 sc2 rfl rfl ck2 B2 rfl
      | 3, e => cases e; exact def_ok F3 sc3 rfl rfl ck3 B3 rfl
      | 4, e => cases e; exact def_ok F4 sc4 rfl rfl ck4 B4 rfl
      | 5, e => cases e; exact def_ok F5 sc5 rfl rfl ck5 B5 rfl
      | 6, e => cases e; exact def_ok F6 sc6 rfl rfl ck6 B6 rfl
      | 7, e => cases e; exact def_ok F7 sc7 rfl rfl ck7 B7 rfl
      | 8, e => cases e; exact def_ok F8 sc8 rfl rfl ck8 B8 rfl
      | 9, e => cases e; exact def_ok F9 sc9 rfl rfl ck9 B9 rfl
      | 10, e => cases e; exact def_ok F10 sc10 rfl rfl ck10 B10 rfl
      | 11, e => cases e; exact def_ok F11 sc11 rfl rfl ck11 B11 rfl
      | 12, e => cases e; exact def_ok F12 sc12 rfl rfl ck12 B12 rfl
      | 13, e => cases e; exact def_ok F13 sc13 rfl rfl ck13 B13 rfl
      | 14, e => cases e; exact def_ok F14 sc14 rfl rfl ck14 B14 rfl
      | 15, e => cases e; exact def_ok F15 sc15 rfl rfl ck15 B15 rfl
    case mf =>
      have e := inOf_mem e
      simp only [fnT, List.mem_cons, List.mem_nil_iff, or_false, Prod.mk.injEq] at e
      rcases e with ⟨rfl, rfl⟩ | ⟨rfl, rfl⟩ | ⟨rfl, rfl⟩ | ⟨rfl, rfl⟩ | ⟨rfl, rfl⟩ | ⟨rfl, rfl⟩ | ⟨rfl, rfl⟩ | ⟨rfl, rfl⟩
      · exact ⟨PySem.W.mg_of X G a8, k8⟩
      · exact ⟨PySem.W.mg_of X G a9, k9⟩
      · exact ⟨PySem.W.mg_of X G a10, k10⟩
      · exact ⟨PySem.W.mg_of X G a11, k11⟩
      · exact ⟨PySem.W.mg_of X G a12, k12⟩
      · exact ⟨PySem.W.mg_of X G a13, k13⟩
      · exact ⟨PySem.W.mg_of X G a14, k14⟩
      · exact ⟨PySem.W.mg_of X G a15, k15⟩
    case mc =>
      have e := inOf_mem e
      simp only [clT, List.mem_cons, List.mem_nil_iff, or_false, Prod.mk.injEq] at e
      rcases e with ⟨rfl, rfl⟩
      · exact PySem.W.mg_of X G aC0
    case mk =>
      have e := inOf_mem e
      simp only [inT, List.mem_cons, List.mem_nil_iff, or_false, Prod.mk.injEq] at e
      rcases e with ⟨rfl, rfl⟩
      · exact ⟨mk0, mI0, i0, kc0⟩
    case cl =>
      have e := of_decide_eq_true e
      simp only [flT, List.mem_cons, List.mem_nil_iff, or_false, Prod.mk.injEq] at e
      rcases e with ⟨rfl, rfl⟩ | ⟨rfl, rfl⟩
      · exact ⟨pg0, hd0, po0, sa0⟩
      · exact ⟨pg0, hd0, po0, sa0⟩
    case na =>
      have e := of_decide_eq_true e
      simp only [flT, List.mem_cons, List.mem_nil_iff, or_false, Prod.mk.injEq] at e
      rcases e with ⟨rfl, rfl⟩ | ⟨rfl, rfl⟩
      · cases e2; exact nF0x0
      · cases e2; exact nF0x1
    case me =>
      have e := meOf_mem e
      simp only [meT, List.mem_cons, List.mem_nil_iff, or_false, Prod.mk.injEq] at e
      rcases e with ⟨rfl, rfl, rfl⟩ | ⟨rfl, rfl, rfl⟩ | ⟨rfl, rfl, rfl⟩ | ⟨rfl, rfl, rfl⟩ | ⟨rfl, rfl, rfl⟩ | ⟨rfl, rfl, rfl⟩ | ⟨rfl, rfl, rfl⟩
      · cases e2; exact ⟨⟨pg0, hd0, po0, sa0⟩, ⟨mT0x4, i1, k1⟩⟩
      · cases e2; exact ⟨⟨pg0, hd0, po0, sa0⟩, ⟨mT0x3, i2, k2⟩⟩
      · cases e2; exact ⟨⟨pg0, hd0, po0, sa0⟩, ⟨mT0x5, i3, k3⟩⟩
      · cases e2; exact ⟨⟨pg0, hd0, po0, sa0⟩, ⟨mT0x6, i4, k4⟩⟩
      · cases e2; exact ⟨⟨pg0, hd0, po0, sa0⟩, ⟨mT0x2, i5, k5⟩⟩
      · cases e2; exact ⟨⟨pg0, hd0, po0, sa0⟩, ⟨mT0x7, i6, k6⟩⟩
      · cases e2; exact ⟨⟨pg0, hd0, po0, sa0⟩, ⟨mT0x8, i7, k7⟩⟩
    case gl =>
      exact absurd (inOf_mem (l := glT) (k := g) e) (by simp [glT])
    case w0 =>
      exact absurd (of_decide_eq_true (p := k ∈ i0T) e) (by simp [i0T])
    case w1 =>
      exact absurd (of_decide_eq_true (p := k ∈ exT) e) (by simp [exT])
    case w2 =>
      exact absurd (of_decide_eq_true (p := k ∈ exT) e) (by simp [exT])
    case w3 =>
      exact absurd (twOf_mem (l := xmT) (d := d) (k := k) e) (by simp [xmT])
    case w4 =>
      exact absurd (of_decide_eq_true (p := k ∈ icT) e) (by simp [icT])
    case w5 =>
      exact absurd (twOf_mem (l := isT) (d := d) (k := k) e) (by simp [isT])
    case w6 =>
      exact absurd (of_decide_eq_true (p := k ∈ izT) e) (by simp [izT])
    case w7 =>
      exact absurd (inOf_mem (l := ivT) (k := d) e) (by simp [ivT])
    case w8 =>
      exact absurd (of_decide_eq_true (p := k ∈ eqT) e) (by simp [eqT])
    case lm =>
      exact absurd (inOf_mem (l := lfT) (k := f) e) (by simp [lfT])
    case bn =>
      simp only [ct, bls, List.mem_cons, List.mem_nil_iff, or_false] at hx
      rcases hx with rfl | rfl | rfl | rfl | rfl
      · exact PySem.W.mg_none_of X G z0
      · exact PySem.W.mg_none_of X G z1
      · exact PySem.W.mg_none_of X G z2
      · exact PySem.W.mg_none_of X G z3
      · exact PySem.W.mg_none_of X G z4
  exact ⟨PySem.W.fnOf "law" "law" (defArgs s15) (defBody s15) (defScope s15) .none kV15 dc15 pm15 an15 cd15 ct15, fun s v => .of_eq rfl, fun base _ _ hB => law_end (P := ⟨sg, K, cl⟩) (F := F) (law_fn (base := base) (w := w) (prog := l.prog) S hB 12 15 ⟨1, 9, b15, []⟩ rfl) rfl (fun q hq => by
    have hq : q ∈ ([] : List (Addr × Str)) := hq
    simp only [List.mem_cons, List.mem_nil_iff, or_false] at hq
    try exact hq.elim) hp⟩
end LK
open PySem PySem.W PyProof.Rows
set_option maxRecDepth 100000 in
set_option maxHeartbeats 0 in
theorem PySem.Challenge.cw_pitclear_k19_ledgers_holds : PySem.Challenge.rw_pitclear_k19_ledgers.Holds := by
  w_on; o_law; k_head; (case hw => w_witness2)
  k_fill
  refine Mir.walk (l := PySem.Challenge.rw_pitclear_k19_ledgers) (n := 12) [] rfl rfl ⟨rfl, by decide, by decide⟩ (fun w h Y => PySem.W.kIn_of Y) (fun _ _ _ p hp => by cases hp) (fun _ p hp => by cases hp) (fun _ p hp => by cases hp) ?F
  case F =>
    intro w mg fa h KX G hmg
    refine' LK.all_mk KX G hmg ?aC0 ?pg0 ?hd0 ?po0 ?sa0 ?mk0 ?kc0 ?nF0x0 ?nF0x1 ?mT0x4 ?mT0x3 ?mT0x5 ?mT0x6 ?mT0x2 ?mT0x7 ?mT0x8 ?mI0 ?i0 ?l0 ?c0 ?k0 ?i1 ?l1 ?c1 ?k1 ?i2 ?l2 ?c2 ?k2 ?i3 ?l3 ?c3 ?k3 ?i4 ?l4 ?c4 ?k4 ?i5 ?l5 ?c5 ?k5 ?i6 ?l6 ?c6 ?k6 ?i7 ?l7 ?c7 ?k7 ?a8 ?l8 ?c8 ?k8 ?a9 ?l9 ?c9 ?k9 ?a10 ?l10 ?c10 ?k10 ?a11 ?l11 ?c11 ?k11 ?a12 ?l12 ?c12 ?k12 ?a13 ?l13 ?c13 ?k13 ?a14 ?l14 ?c14 ?k14 ?a15 ?l15 ?c15 ?k15 ?z0 ?z1 ?z2 ?z3 ?z4 ?uq
    (case aC0 => k_is)
    (case pg0 => k_is)
    (case hd0 => k_is)
    (case po0 => k_is)
    (case sa0 => k_is)
    (case mk0 => k_is)
    (case kc0 => k_is)
    (case nF0x0 => k_is)
    (case nF0x1 => k_is)
    (case mT0x4 => k_is)
    (case mT0x3 => k_is)
    (case mT0x5 => k_is)
    (case mT0x6 => k_is)
    (case mT0x2 => k_is)
    (case mT0x7 => k_is)
    (case mT0x8 => k_is)
    (case mI0 => k_is)
    (case i0 => k_is)
    (case l0 => k_is)
    (case c0 => k_is)
    (case k0 => k_is)
    (case i1 => k_is)
    (case l1 => k_is)
    (case c1 => k_is)
    (case k1 => k_is)
    (case i2 => k_is)
    (case l2 => k_is)
    (case c2 => k_is)
    (case k2 => k_is)
    (case i3 => k_is)
    (case l3 => k_is)
    (case c3 => k_is)
    (case k3 => k_is)
    (case i4 => k_is)
    (case l4 => k_is)
    (case c4 => k_is)
    (case k4 => k_is)
    (case i5 => k_is)
    (case l5 => k_is)
    (case c5 => k_is)
    (case k5 => k_is)
    (case i6 => k_is)
    (case l6 => k_is)
    (case c6 => k_is)
    (case k6 => k_is)
    (case i7 => k_is)
    (case l7 => k_is)
    (case c7 => k_is)
    (case k7 => k_is)
    (case a8 => k_is)
    (case l8 => k_is)
    (case c8 => k_is)
    (case k8 => k_is)
    (case a9 => k_is)
    (case l9 => k_is)
    (case c9 => k_is)
    (case k9 => k_is)
    (case a10 => k_is)
    (case l10 => k_is)
    (case c10 => k_is)
    (case k10 => k_is)
    (case a11 => k_is)
    (case l11 => k_is)
    (case c11 => k_is)
    (case k11 => k_is)
    (case a12 => k_is)
    (case l12 => k_is)
    (case c12 => k_is)
    (case k12 => k_is)
    (case a13 => k_is)
    (case l13 => k_is)
    (case c13 => k_is)
    (case k13 => k_is)
    (case a14 => k_is)
    (case l14 => k_is)
    (case c14 => k_is)
    (case k14 => k_is)
    (case a15 => k_is)
    (case l15 => k_is)
    (case c15 => k_is)
    (case k15 => k_is)
    (case z0 => k_is)
    (case z1 => k_is)
    (case z2 => k_is)
    (case z3 => k_is)
    (case z4 => k_is)
    (case uq => decide)
