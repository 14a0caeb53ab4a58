import PyProof.Rows.All
import Wide.All
import OpenK.AllK
import Wide.FinOn
import HandS.ForMost
import HandS.Exc
import HandS.TryOnly
import HandS.ExcOwn
import HandS.WordsExc
import HandS.IsInst
import HandS.ExcIs
import HandS.Flow
import HandS.Wide
import HandS.ListItems
import HandS.Iter
import HandS.Style
import PyProof.NeData
import HandS.More
import HandS.SetKeys
import HandS.Conv
import HandS.Defaults
import PySem.Challenge.RW_pitclear_k10_sleepers
set_option Elab.async false
set_option linter.all false
set_option maxRecDepth 100000
set_option maxHeartbeats 4000000
set_option autoImplicit true
namespace Mir
open PySem PySem.Spec L2
open PyProof.Rows hiding St

/-! ## exceptions kept as values -/
/-- an exception that was caught, of the class cls, at a -/
def ExV (cls : Value) (a : Addr) : HO := .ext fun h => ∃ (oe : Obj) (vs : Array Value), h.get? a = some oe ∧ Zc cls none oe ∧ oe.data = .fields vs
theorem exV_ok {P : Program} {w : World} {H : Hp} {h : Heap} {a : Addr} {cls : Value} {oe : Obj} {vs : Array Value} (e : h.get? a = some oe) (z : Zc cls none oe) (d : oe.data = .fields vs) : ObjOk P w H h a (ExV cls a) :=
  ⟨⟨oe, vs, e, z, d⟩, ⟨oe, e⟩, fun _ _ ⟨o, v, q, r⟩ k => ⟨o, v, k o q, r⟩⟩
theorem Inv.trackE {X : Cx} {pins : List (Addr × Obj)} {σ : St} {H : Hp} {s : Shared} {a : Addr} {o : HO} (I : Inv X pins σ H s) (na : H a = none) (n0 : X.s_0.heap.get? a = none) (nL : a ≠ X.env.locals)
    (nP : ∀ p ∈ X.pn ++ pins, p.1 ≠ a) (nC : ∀ x c, X.env.cells.lookup x = some c → c ≠ a) (new : ObjOk X.prog X.w (upd H a o) s.heap a o) : Inv X pins σ (upd H a o) s := by
  have ne0 : ∀ b ob, X.s_0.heap.get? b = some ob → b ≠ a := fun b ob e z => by
    rw [z, n0] at e
    cases e
  refine ⟨I.ok, I.os, I.bare, ⟨I.base.keep, I.base.slot, fun b ob e n hq => ?_, I.base.there, fun b xs e => ?_, fun b ob u e => ?_, fun b ps e => ?_⟩, I.loc, I.cell, ?_, fun x c e => ?_, fun p hp => ?_, fun b u e => ?_, I.len⟩
  · rw [upd_ne (ne0 b ob e)]
    exact I.base.free b ob e n hq
  · have q := I.base.tups b xs e
    rw [upd_ne (ne_of_none q na)]
    exact q
  · have q := I.base.frzs b ob u e
    rw [upd_ne (ne_of_none q na)]
    exact q
  · obtain ⟨m, q⟩ := I.base.tbls b ps e
    exact ⟨m, by rw [upd_ne (ne_of_none q na)]; exact q⟩
  · rw [upd_ne nL.symm]
    exact I.free
  · rw [upd_ne (nC x c e)]
    exact I.freeC x c e
  · obtain ⟨e, n, r⟩ := I.pin p hp
    exact ⟨e, by rw [upd_ne (nP p hp)]; exact n, r⟩
  · by_cases hb : b = a
    · subst hb
      rw [upd_same] at e
      cases e
      exact new
    · rw [upd_ne hb] at e
      exact (I.hok b u e).stay (fun _ _ _ q => q) (fun c q => by rw [upd_ne (ne_of_none q na)]; exact q) fun c xs q => by rw [upd_ne (ne_of_none q na)]; exact q
/-- what the clause 'except x as n: m = n' wishes of an exception of the body: slot i is n's, slot j is m's -/
def wKeep (K : PySem.W.Frag) (c : Value) (i j : Nat) (Wout : WX) (D : Ends) : WX := fun cls d σ H =>
  d = none ∧ ∃ b, PySem.W.exmOne K cls c = some b ∧ (b = true → i ≠ j ∧ ∀ a, H a = none → D.nx (((σ.set i (some (.ref a))).set j (some (.ref a))).set i none) (upd H a (ExV cls a))) ∧ (b = false → Wout cls d σ H)
section
variable {X : Cx} {x n m : Str} {c : Value} {i j : Nat} {body : List Stmt} {np p1 p2 p3 pos pos' : Pos} {tb : WX → TS} {Wout : WX}
theorem ps_try_keep (hex : X.ex = []) (hs : X.stack = X.env :: X.outer) (hf : X.env.frame = some X.env.locals) (hN : X.N.Nodup) (hi : X.N[i]? = some n) (hj : X.N[j]? = some m) (hln : X.env.kindOf n = some .local) (hlm : L2.Loc X.env.scope m)
    (hfn : X.fn m = true ∨ X.env.kindOf m = some .local) (hv : Vis X.env.scope n) (hd1 : (n == ("__debug__" : Str)) = false) (hd2 : (n == ("__classdict__" : Str)) = false) (hc : Names X x c) (tk : Takes X Wout)
    (hb : ∀ (W : WX) (pn : List (Addr × Obj)) (xe : Value → Shared → Prop), Takes (X.tr pn xe) W → PassesOwn (model X.prog X.w) X.A X.env xe → PSs (X.tr pn xe) body (tb W)) :
    PS X (.Try body [.ExceptHandler (some (.Name x np)) (some n) [.Assign [.Name m p1] (.Name n p2) p3] pos'] [] [] pos) (fun D σ H => tb (wKeep X.K c i j Wout D) D σ H) := by
  refine ⟨fun pins s σ H D I h => ?_⟩
  have ok := I.ok
  have hfr : X.A.frames = some (X.env :: X.outer) := by rw [ok.frames, hs]
  have hloc : L2.Loc X.env.scope n := .inl hln
  refine wpAny_Try_except ?_
  refine wpAny_mono ((hb (wKeep X.K c i j Wout D) (X.pn ++ pins) (fun e s₁ => wpAny (model X.prog X.w) X.A (noteFrame e X.env) (fun _ s₂ => wpAny (model X.prog X.w) X.A (setFlight e none) (fun _ s₃ =>
    wpAny (model X.prog X.w) X.A (handleBy e X.env [.ExceptHandler (some (.Name x np)) (some n) [.Assign [.Name m p1] (.Name n p2) p3] pos']) (SP X pins D) X.xe s₃) X.xe s₂) X.xe s₁) (fun u s' xx => ?_) PassesOwn.looking).run [] s σ H D (I.toTry _) h) (fun f s1 hsp => ?_) (fun e s1 he => he)
  · obtain ⟨a, B, sI, pins', σ', H', cls, d, rfl, J', nb, up, sky, na, os, ag, hd0, b, hb1, hyes, hno⟩ := xx
    subst hd0
    have J : Inv X pins σ' H' sI := J'.ofTry ok
    have sky' : Sky B (X.env :: X.outer) a (Zc cls none) X.env.locals s'.heap := by rw [← hs]; exact sky
    have Ba : B.get? a = none := by
      rcases sky' with z | z | z
      · exact z.2.1
      · exact z.2.1
      · exact z.2.1
    show wpAny (model X.prog X.w) X.A (noteFrame (.ref a) X.env) _ _ _
    refine Sky.land Zc.steady hfr hf sky' fun h3 fl3 up3 => ?_
    have J3 : Inv X pins σ' H' { s' with heap := h3 } := J.landed nb fl3.1 (up.trans up3) os ag
    obtain ⟨oe3, vs3, he3, hz3, hd3⟩ := fl3.there
    have notFr : ∀ {h : Heap} {o : Obj} {vs : Array Value}, h.FunFrames B (X.env :: X.outer) → h.get? a = some o → o.data = .fields vs → a ∉ frs (X.env :: X.outer) := fun {h o vs} ff e dd hm => by
      obtain ⟨_, o', e', hnf⟩ := ff.mem hm
      rw [e] at e'; cases e'
      exact hnf _ dd
    have nfr := notFr fl3.2.2.1 he3 hd3
    have nL : a ≠ X.env.locals := fun z => nfr (List.mem_filterMap.mpr ⟨X.env, List.mem_cons_self, by rw [hf, z]⟩)
    have nF : a ∉ X.fs := fun hm => by
      obtain ⟨e, he, q⟩ := List.mem_filterMap.mp hm
      exact nfr (List.mem_filterMap.mpr ⟨e, List.mem_cons_of_mem _ he, q⟩)
    have nI : sI.heap.get? a = none := by
      cases e : sI.heap.get? a with
      | none => rfl
      | some o =>
        have z := nb a o e (by rw [hs]; exact nfr)
        rw [Ba] at z
        cases z
    have n0 : X.s_0.heap.get? a = none := by
      cases e : X.s_0.heap.get? a with
      | none => rfl
      | some o =>
        obtain ⟨o', q⟩ := J.base.there a o e (by rw [hex]; exact fun z => nomatch z)
        rw [nI] at q
        cases q
    have nP : ∀ p ∈ X.pn ++ pins, p.1 ≠ a := fun p hp z => by
      have := (J.pin p hp).1
      rw [z, nI] at this
      cases this
    have nC : ∀ x c, X.env.cells.lookup x = some c → c ≠ a := fun x c e z => by
      obtain ⟨v, o, ho, _⟩ := J.cell x c e
      rw [z, nI] at ho
      cases ho
    have S3 := J3.suite he3 hd3 na nL nF
    refine wpAny_handleBy_cons (codeAny_handlers_test ?_) (by intro q; cases q)
    have LT : PySem.W.Looks (model X.prog X.w) h3 (typeOf (.ref a)) cls := fun A Q E s k q => wpAny_typeOf_ref (k _ _ he3) (by rw [hz3.1]; exact q)
    have LM := PySem.W.exm_one (M := model X.prog X.w) (J3.kIn) LT hb1
    have test : ∀ {Q : Value → Shared → Prop} {E : Value → Shared → Prop}, Q c { s' with heap := h3 } → wpAny (model X.prog X.w) (X.A.mark (some (.ref a))) (eval (.Name x np) X.env) Q E { s' with heap := h3 } := fun {Q E} q => by
      obtain ⟨hg, hdbg, hm | ⟨hm, hv, hnn⟩⟩ := hc
      · exact ld_glob (X := X.suite a ((a, oe3) :: (X.pn ++ pins))) S3 hg hm q hdbg
      · exact ld_blt (X := X.suite a ((a, oe3) :: (X.pn ++ pins))) S3 hg hm hv q hnn hdbg
    refine test (LM.here ?_)
    cases b with
    | true =>
      obtain ⟨hij, hyes⟩ := hyes rfl
      refine codeAny_handlers_suite_as ?_
      refine HandSPX.lands_againZ fl3 fun h4 fl4 up4 => ?_
      have J4 : Inv X pins σ' H' { s' with heap := h4 } := J.landed nb fl4.1 ((up.trans up3).trans up4) os ag
      obtain ⟨oe4, vs4, he4, hz4, hd4⟩ := fl4.there
      have S4 := J4.suite he4 hd4 na nL nF
      refine store_ok (X := X.suite a ((a, oe4) :: (X.pn ++ pins))) (v := .ref a) S4 hN hi hloc rfl (fun s5 S5 => ?_) (.inr hln)
      have hσ : (σ'.set i (some (V.ref a)))[i]? = some (some (.ref a)) := by
        have : i < σ'.length := by
          rw [J.len]
          exact (List.getElem?_eq_some_iff.mp hi).1
        rw [List.getElem?_set_self this]
      have asg : PSs (X.suite a ((a, oe4) :: (X.pn ++ pins))) [.Assign [.Name m p1] (.Name n p2) p3] (tAsg (tVar i) (gName j)) :=
        pss_one (ps_set (X := X.suite a ((a, oe4) :: (X.pn ++ pins))) hN hj hlm (pe_var (X := X.suite a ((a, oe4) :: (X.pn ++ pins))) (i := i) hi hv hd1 hd2) (hf := hfn))
      refine wpAny_mono (asg.run [] s5 _ H' { nx := fun σ6 H6 => σ6 = ((σ'.set i (some (.ref a))).set j (some (.ref a))) ∧ H6 = H', rt := fun _ _ => False } S5 ⟨.ref a, hσ, rfl, rfl⟩) (fun f s6 hsp => ?_) (fun _ _ z => False.elim z)
      cases f with
      | next =>
        obtain ⟨σ6, H6, S6, e6, e7⟩ := hsp
        subst e6 e7
        have he6 := (S6.pin (a, oe4) (List.mem_append.mpr (.inl List.mem_cons_self))).1
        have J6 := S6.unsuite ok
        have J7 := Inv.trackE J6 na n0 nL nP nC (exV_ok (cls := cls) he6 hz4 hd4)
        exact gone_ok J7 hN hi hln fun s7 J8 => ⟨_, _, J8, hyes a na⟩
      | brk =>
        obtain ⟨σ6, H6, S6, q6⟩ := hsp
        exact q6.elim
      | cont =>
        obtain ⟨σ6, H6, S6, q6⟩ := hsp
        exact q6.elim
      | ret u =>
        obtain ⟨v6, σ6, H6, S6, r6, q6⟩ := hsp
        exact q6.elim
    | false =>
      show wpAny _ X.A (handleBy (.ref a) X.env []) _ _ _
      refine wpAny_handleBy_nil ?_
      obtain ⟨k1, k2, k3, oe, vs, T, oT, ts', he, hz, hd, h1, hr⟩ := id fl3
      unfold PySem.passOn
      refine wpAny_bind (wpAny_field he hd h1 ?_)
      rw [if_neg (show ¬ ((Value.ref T == Value.none) = true) from by simp)]
      have fin : wpAny (model X.prog X.w) X.A (setFlight (.ref a) X.env.frame) (fun _ s4 => wpAny (model X.prog X.w) X.A (throw (.ref a) : Sem Flow) (SP X pins D) X.xe s4) X.xe { s' with heap := h3 } := by
        rw [hf]
        refine HandSPX.setFlight_upZ fl3 fun h4 hh4 up4 => wpAny_throw (tk _ _ ?_)
        exact ⟨a, B, sI, pins, σ', H', cls, none, rfl, J, nb, (up.trans up3).trans up4, .inr (.inr (by rw [hs]; exact hh4)), na, os, ag, hno rfl⟩
      first
        | exact wpAny_bind (wpAny_pure (wpAny_bind fin))
        | exact wpAny_bind fin
  · cases f with
    | next =>
      obtain ⟨σ', H', J', q⟩ := hsp
      exact wpAny_execs_nil ⟨σ', H', J'.ofTry ok, q⟩
    | brk =>
      obtain ⟨σ', H', J', q⟩ := hsp
      exact ⟨σ', H', J'.ofTry ok, q⟩
    | cont =>
      obtain ⟨σ', H', J', q⟩ := hsp
      exact ⟨σ', H', J'.ofTry ok, q⟩
    | ret u =>
      obtain ⟨v, σ', H', J', r, q⟩ := hsp
      exact ⟨v, σ', H', J'.ofTry ok, r, q⟩
/-- isinstance(e, c), e an exception that was caught -/
theorem call_isX {X : Cx} {pins : List (Addr × Obj)} {s : Shared} {σ : St} {H : Hp} {a D : Addr} {cv : Value} {b : Bool} {Q : Value → Shared → Prop} {E : Value → Shared → Prop} (C : ExcC X.K D) (I : Inv X pins σ H s) (ha : H a = some (ExV (.ref D) a)) (e : PySem.W.kitOne X.K (.ref D) cv = some b)
    (h : ∀ tk, Q (.bool b) { s with toks := tk }) : wpAny (model X.prog X.w) X.A (call (.builtin "isinstance") [.ref a, cv]) Q E s := by
  obtain ⟨⟨oe, vs, hget, hz, hv⟩, _, _⟩ := I.hok a _ ha
  have J : PySem.W.InstAt s.heap a oe D none := by
    obtain ⟨oc, od, oda, osl⟩ := oe
    obtain ⟨h1, h2⟩ := hz
    dsimp only at h1 h2 hv
    subst h1 h2 hv
    exact ⟨hget, rfl, rfl, trivial⟩
  exact PySem.W.kia_one (PySem.W.handS_kitx_exc C.hg C.hk C.hs C.hd C.ha C.hn C.ht C.hm) I.kIn J e (fun z => nomatch z) h
/-- C() where there is no __init__ but object's -/
theorem run_make0 {X : Cx} {pins : List (Addr × Obj)} {σ : St} {H : Hp} {s : Shared} {Q : VK} {C : Addr} (hm : PySem.W.makesIn X.K C = true) (hi : PySem.W.findIn X.K (.ref C) "__init__" = some (some (.builtin "object.__init__")))
    (I : Inv X pins σ H s) (h : Q (.ref (s.heap.objs.size + 1)) (upd (upd H s.heap.objs.size (.own (s.heap.objs.size + 1))) (s.heap.objs.size + 1) (.ins C s.heap.objs.size []))) :
    wpAny (model X.prog X.w) X.A (call (.ref C) []) (EP X pins σ Q) X.xe s := by
  have I2 := L2.Inv.made (C := C) I
  have Y := PySem.W.makes_of (M := model X.prog X.w) I.kIn hm
  refine wpAny_call (make_map0 I.kIn hm hi (fun self => .of_pure (PySem.W.oi_bind self)) ?_)
  have e2 : ((s.heap.push PySem.W.emptyDict).push (PySem.W.instObj C s.heap.objs.size)).get? (s.heap.objs.size + 1) = some (PySem.W.instObj C s.heap.objs.size) := by
    have z := Heap.get?_push_size (s.heap.push PySem.W.emptyDict) (o := PySem.W.instObj C s.heap.objs.size) rfl
    rwa [Heap.size_push] at z
  have t1 : PySem.W.Looks (model X.prog X.w) ((s.heap.push PySem.W.emptyDict).push (PySem.W.instObj C s.heap.objs.size)) (typeOf (.ref (s.heap.objs.size + 1))) (.ref C) := (PySem.W.Looks.ld e2).andThen .now
  have t2 : PySem.W.Looks (model X.prog X.w) ((s.heap.push PySem.W.emptyDict).push (PySem.W.instObj C s.heap.objs.size)) (isInstance (.ref (s.heap.objs.size + 1)) (.type "object")) true := t1.andThen (Y.top.keeps fun b o e => Heap.get?_push_of_some _ (Heap.get?_push_of_some _ e))
  refine codeAny_call_builtin PySem.W.oi_plain PySem.W.entry_oi (@PySem.W.check_slot (model X.prog X.w) _ _ _ "object.__init__" "object" "__init__" (.ref (s.heap.objs.size + 1)) [] [] _ PySem.W.oi_kind PySem.W.oi_split t2 (PySem.W.oi_args (.ref (s.heap.objs.size + 1))) ?_)
  rw [PySem.W.oi_run]
  exact wpAny_pure (And.intro rfl ⟨V.ref (s.heap.objs.size + 1), _, I2, rfl, h⟩)
end
end Mir

set_option autoImplicit true
namespace Mir
open PySem L2
open PyProof.Rows hiding St

/-! ## values, cells, environments of the small language -/
inductive PV where
  | non | bl (b : Bool) | int (i : Int) | str (x : Str) | tup (xs : List PV) | fl (xs : List PV) | loc (a : Addr)
instance : Inhabited PV := ⟨.non⟩

inductive Cell where
  | lst (xs : List PV)
  | dct (f : Bool) (kvs : List (Key × PV))
  | ins (c : Nat) (fs : List (Nat × PV))
  | exc (c : Nat)

abbrev PH := Addr → Option Cell
abbrev PEnv := List (Option PV)
def pup (h : PH) (a : Addr) (c : Cell) : PH := fun b => if b = a then some c else h b
theorem pup_same {h : PH} {a : Addr} {c : Cell} : pup h a c a = some c := by simp [pup]
theorem pup_ne {h : PH} {a b : Addr} {c : Cell} (n : b ≠ a) : pup h a c b = h b := by simp [pup, n]
theorem pup_pup {h : PH} {a : Addr} {c d : Cell} : pup (pup h a c) a d = pup h a d := by
  funext b; simp only [pup]; split <;> rfl
/-- less is seen -/
def PLe (h h' : PH) : Prop := ∀ a c, h a = some c → h' a = some c
theorem PLe.refl (h : PH) : PLe h h := fun _ _ e => e
theorem PLe.trans {a b c : PH} (x : PLe a b) (y : PLe b c) : PLe a c := fun _ _ e => y _ _ (x _ _ e)
theorem PLe.new {h : PH} {p : Addr} {c : Cell} (n : h p = none) : PLe h (pup h p c) := fun a d e => by
  have : a ≠ p := fun z => by subst z; rw [n] at e; cases e
  rw [pup_ne this]; exact e

/-! ## syntax -/
inductive BinK where | add | sub | mul | div | mod | pow
inductive CmpK where | lt | le | gt | ge | eq | ne | isn | notn | isin | notin
/-- kinds for isinstance -/
inductive TyK where | int | bool | str | list | dict | tuple | own (c : Nat)
inductive BltK where | len | abs | int | str | sum | all | any | max | min | sorted | list | dict | tuple | ord | divmod
inductive BmK where | append | extend | popAt | get | setdefault | update | popK | clearL | clearD | join | split | find | startswith | upper | index | count | items | values

mutual
inductive E where
  | var (i : Nat) | int (i : Int) | str (s : Str) | bl (b : Bool) | non
  | glob (g : Nat)
  | bin (op : BinK) (a b : E) | neg (a : E)
  | cmp (op : CmpK) (a b : E) | chain (o p : CmpK) (a b c : E)
  | and (a b : E) | or (a b : E) | not (a : E)
  | ite (c : B) (a b : E)
  | sub (a i : E) | slice (a : E) (lo hi : O)
  | tup (es : Es) | lst (es : Es) | dict0 | dict (es : Es)
  | fld (e : E) (f : Nat)
  | call (f : Nat) (es : Es) | meth (o : E) (m : Nat) (es : Es) | make (c : Nat) (es : Es)
  | blt (b : BltK) (es : Es) | bm (m : BmK) (o : E) (es : Es)
  | isi (e : E) (t : TyK)
  | isx (e : E) (k : Option Nat) | make0 (c : Nat) | rev (e : E)
  | comp (elt : E) (t : T) (it : I) (ifs : Bs) (ws : List (Str × Nat))
  | compD (elt : E) (t : T) (e : E) (ifs : Bs) (ws : List (Str × Nat))
  | listItems (e : E)
inductive Es where
  | nil | cons (e : E) (es : Es)
inductive O where
  | non | some (e : E)
/-- tests -/
inductive B where
  | val (e : E) | and (a b : B) | or (a b : B) | not (a : B)
inductive Bs where
  | nil | one (b : B)
/-- what is walked -/
inductive I where
  | ex (e : E) | range1 (e : E) | range2 (a b : E) | range3 (a b : E) (k : Int) | enum (e : E)
/-- targets -/
inductive T where
  | nm (i : Nat) | tup (ts : Ts)
inductive Ts where
  | nil | cons (t : T) (ts : Ts)
end

mutual
inductive S where
  | skip | brk | cont
  | expr (e : E) | ret (e : E) | retN
  | set (i : Nat) (e : E) | setC (i : Nat) (e : E) | setT (ts : Ts) (e : E) | setL (ts : Ts) (e : E) | par (i j : Nat) (a b : E)
  | aug (i : Nat) (op : BinK) (e : E)
  | fldSet (o : E) (f : Nat) (e : E) | fldAug (o : E) (f : Nat) (op : BinK) (e : E)
  | subSet (o i e : E) | subAug (o i : E) (op : BinK) (e : E)
  | ite (c : B) (a b : Ss)
  | while (c : B) (b : Ss)
  | raise (k : Nat) | tryAs (b : Ss) (k i j : Nat) | tryO (b : Ss) (k i : Nat) (v : Option Bool)
  | for (t : T) (it : I) (b : Ss) | forD (t : T) (items : Bool) (e : E) (b : Ss)
inductive Ss where
  | nil | cons (s : S) (ss : Ss)
end

/-! ## the program as a table -/
structure FnI where
  np : Nat
  ns : Nat
  body : Ss
  dflt : List PV
structure Sig where
  nm : List Str
  fn : Nat → Option FnI
  me : Nat → Nat → Option Nat
  ini : Nat → Option Nat
  fl : Nat → Nat → Bool
  isa : Nat → Nat → Option Bool
  gl : Nat → Option PV
  in0 : Nat → Bool
  exc : Nat → Bool
  exm : Nat → Nat → Option Bool
  inc : Nat → Bool
  isz : Nat → Bool
  isv : Nat → Option Bool

/-! ## meanings -/
abbrev QE := PV → PH → Prop
abbrev XE := Nat → PH → Prop
abbrev CallS := Nat → List PV → PH → QE → XE → Prop
structure PD where
  nx : PEnv → PH → Prop
  rt : QE
  bk : PEnv → PH → Prop
  ct : PEnv → PH → Prop
  ex : Nat → PEnv → PH → Prop

/-- the defaults of what isn't given -/
def padD (G : Sig) (f : Nat) (vs : List PV) : List PV := match G.fn f with
  | some d => vs ++ d.dflt.drop (d.dflt.length - (d.np - vs.length))
  | none => vs
def CMulP (i j : Int) : Prop := CMul i j ∨ CMulW i j
def CDivP (i j : Int) : Prop := CDiv i j ∨ CDivW i j
def binV : BinK → PV → PV → PH → QE → Prop
  | .add, .int i, .int j, h, Q => Q (.int (i + j)) h
  | .add, .str i, .str j, h, Q => i.length + j.length ≤ sizeLine ∧ Q (.str (i ++ j)) h
  | .add, .tup i, .tup j, h, Q => i ≠ [] ∧ i.length + j.length ≤ sizeLine ∧ Q (.tup (i ++ j)) h
  | .add, .loc a, .loc b, h, Q => match h a, h b with
    | some (.lst xs), some (.lst ys) => xs.length + ys.length ≤ sizeLine ∧ ∀ p, h p = none → Q (.loc p) (pup h p (.lst (xs ++ ys)))
    | _, _ => False
  | .sub, .int i, .int j, h, Q => Q (.int (i - j)) h
  | .mul, .int i, .int j, h, Q => CMulP i j ∧ Q (.int (i * j)) h
  | .mul, .str x, .int n, h, Q => MulOk x n ∧ Q (.str (Txt.mul x n)) h
  | .div, .int i, .int j, h, Q => CDivP i j ∧ Q (.int (i / j)) h
  | .mod, .int i, .int j, h, Q => 0 < j ∧ Q (.int (i % j)) h
  | .pow, .int i, .int j, h, Q => CPow i j ∧ Q (.int (i ^ j.toNat)) h
  | _, _, _, _, _ => False


mutual
def peq : PV → PV → Bool
  | .non, .non => true
  | .bl a, .bl b => a == b
  | .bl a, .int j => (if a then 1 else 0) == j
  | .int i, .bl b => i == (if b then 1 else 0)
  | .int i, .int j => i == j
  | .str x, .str y => x == y
  | .tup xs, .tup ys => peqs xs ys
  | _, _ => false
def peqs : List PV → List PV → Bool
  | [], [] => true
  | x :: xs, y :: ys => peq x y && peqs xs ys
  | _, _ => false
end
/-- no place within, of nesting at most n -/
def pure : Nat → PV → Bool
  | _, .loc _ => false
  | _, .fl _ => false
  | n + 1, .tup xs => xs.all (pure n)
  | 0, .tup _ => false
  | _, _ => true
/-- a op= b -/
def augV : BinK → PV → PV → PH → QE → Prop
  | .add, .int i, .int j, h, Q => Q (.int (i + j)) h
  | .add, .str i, .str j, h, Q => i.length + j.length ≤ sizeLine ∧ Q (.str (i ++ j)) h
  | .add, .loc a, .loc b, h, Q => match h a, h b with
    | some (.lst xs), some (.lst ys) => xs.length + ys.length ≤ sizeLine ∧ Q (.loc a) (pup h a (.lst (xs ++ ys)))
    | _, _ => False
  | .sub, .int i, .int j, h, Q => Q (.int (i - j)) h
  | .mul, .int i, .int j, h, Q => CMul i j ∧ Q (.int (i * j)) h
  | _, _, _, _, _ => False
def deqL (f : PV → PV → Option Bool) : List PV → List PV → Option Bool
  | [], [] => some true
  | x :: xs, y :: ys => match f x y, deqL f xs ys with
    | some a, some b => some (a && b)
    | _, _ => none
  | _, _ => some false
/-- == of data, lists looked up, of nesting at most n -/
def deq (h : PH) : Nat → PV → PV → Option Bool
  | _, .non, .non => some true
  | _, .bl a, .bl b => some (a == b)
  | _, .int i, .int j => some (i == j)
  | _, .str x, .str y => some (x == y)
  | _, .bl a, .int j => some ((if a then 1 else 0) == j)
  | _, .int i, .bl b => some (i == (if b then 1 else 0))
  | _, .non, .bl _ => some false
  | _, .non, .int _ => some false
  | _, .non, .str _ => some false
  | _, .bl _, .non => some false
  | _, .bl _, .str _ => some false
  | _, .int _, .non => some false
  | _, .int _, .str _ => some false
  | _, .str _, .non => some false
  | _, .str _, .bl _ => some false
  | _, .str _, .int _ => some false
  | _ + 1, .tup _, .non => some false
  | _ + 1, .non, .tup _ => some false
  | _ + 1, .tup _, .int _ => some false
  | _ + 1, .int _, .tup _ => some false
  | _ + 1, .tup _, .str _ => some false
  | _ + 1, .str _, .tup _ => some false
  | n + 1, .tup xs, .tup ys => deqL (deq h n) xs ys
  | n + 1, .loc a, .loc b => match h a, h b with
    | some (.lst xs), some (.lst ys) => deqL (deq h n) xs ys
    | _, _ => none
  | _, _, _ => none
def dhit (f : PV → PV → Option Bool) (ls : List (Key × PV)) : List (Key × PV) → Option Bool
  | [] => some true
  | (k, v) :: r => match (ls.find? fun kv => decide (kv.1 = k)).map (·.2) with
    | none => some false
    | some u => match f v u, dhit f ls r with
      | some a, some b => some (a && b)
      | _, _ => none
def eqK (h : PH) (x y : PV) (Q : Bool → Prop) : Prop :=
  match x, y with
  | .loc a, .loc b => match h a, h b with
    | some (.dct false ks), some (.dct false ls) => if ks.length = ls.length then (match dhit (deq h 20) ls ks with
        | some k => Q k
        | none => False) else Q false
    | _, _ => match deq h 20 x y with
      | some k => Q k
      | none => False
  | _, _ => match deq h 20 x y with
    | some k => Q k
    | none => False
def signs (s : Str) : List PV := s.cps.toList.map fun c => .str ⟨#[c]⟩
def kP : Key → PV
  | .inl i => .int i
  | .inr s => .str s
def toKey : PV → Option Key
  | .int i => some (.inl i)
  | .str s => some (.inr s)
  | _ => none
def flatP : PV → Bool
  | .non | .bl _ | .int _ | .str _ => true
  | _ => false
def pIn (x : PV) (xs : List PV) : Bool := xs.any fun y => peq y x
def valP (kvs : List (Key × PV)) (k : Key) : Option PV := (kvs.find? fun kv => decide (kv.1 = k)).map (·.2)
def putP (kvs : List (Key × PV)) (k : Key) (v : PV) : List (Key × PV) :=
  if (kvs.any fun kv => decide (kv.1 = k)) = true then kvs.map (fun kv => if kv.1 = k then (kv.1, v) else kv) else kvs ++ [(k, v)]
def dropP (kvs : List (Key × PV)) (k : Key) : List (Key × PV) := kvs.filter fun kv => decide (kv.1 ≠ k)
/-- x in c -/
def inK (h : PH) (x c : PV) (Q : Bool → Prop) : Prop :=
  match c with
  | .tup xs => flatP x = true ∧ xs.all flatP = true ∧ Q (pIn x xs)
  | .fl xs => flatP x = true ∧ xs.all flatP = true ∧ Q (pIn x xs)
  | .loc a => match h a with
    | some (.lst xs) => flatP x = true ∧ xs.all flatP = true ∧ Q (pIn x xs)
    | some (.dct _ kvs) => match toKey x with
      | some k => Q (valP kvs k).isSome
      | none => False
    | _ => False
  | .str z => match x with
    | .str w => match w.cps.toList with
      | [c] => Q (decide (c ∈ z.cps.toList))
      | _ => False
    | _ => False
  | _ => False
def cmpV : CmpK → PV → PV → PH → (Bool → Prop) → Prop
  | .lt, .int i, .int j, _, Q => Q (decide (i < j))
  | .le, .int i, .int j, _, Q => Q (decide (i ≤ j))
  | .gt, .int i, .int j, _, Q => Q (decide (j < i))
  | .ge, .int i, .int j, _, Q => Q (decide (j ≤ i))
  | .lt, .str i, .str j, _, Q => Q (decide (i.cps.toList < j.cps.toList))
  | .le, .str i, .str j, _, Q => Q (!decide (j.cps.toList < i.cps.toList))
  | .gt, .str i, .str j, _, Q => Q (decide (j.cps.toList < i.cps.toList))
  | .ge, .str i, .str j, _, Q => Q (!decide (i.cps.toList < j.cps.toList))
  | .eq, x, y, h, Q => eqK h x y Q
  | .ne, x, y, h, Q => eqK h x y fun b => Q (!b)
  | .isn, .bl a, .bl b, _, Q => Q (decide (a = b))
  | .notn, .bl a, .bl b, _, Q => Q (!decide (a = b))
  | .isn, x, .non, _, Q => Q (match x with | .non => true | _ => false)
  | .notn, x, .non, _, Q => Q (!(match x with | .non => true | _ => false))
  | .isin, x, c, h, Q => inK h x c Q
  | .notin, x, c, h, Q => inK h x c fun b => Q (!b)
  | _, _, _, _, _ => False
def truV (x : PV) (h : PH) (Q : Bool → Prop) : Prop :=
  match x with
  | .non => Q false
  | .bl b => Q b
  | .int i => Q (i != 0)
  | .str s => s.length ≤ sizeLine ∧ Q ((s.length : Int) != 0)
  | .tup xs => Q (!xs.isEmpty)
  | .fl xs => Q (!xs.isEmpty)
  | .loc a => match h a with
    | some (.lst xs) => Q (!xs.isEmpty)
    | some (.dct false kvs) => Q (!kvs.isEmpty)
    | _ => False
/-- a[i] -/
def subV (a i : PV) (h : PH) (Q : QE) : Prop :=
  match a with
  | .fl xs => match i with
    | .int j => match atI xs j with
      | some v => Q v h
      | none => False
    | _ => False
  | .tup xs => match i with
    | .int j => match atI xs j with
      | some v => Q v h
      | none => False
    | _ => False
  | .str z => match i with
    | .int j => z.length ≤ sizeLine ∧ match atI z.cps.toList j with
      | some c => Q (.str ⟨#[c]⟩) h
      | none => False
    | _ => False
  | .loc p => match h p with
    | some (.lst xs) => match i with
      | .int j => match atI xs j with
        | some v => Q v h
        | none => False
      | _ => False
    | some (.dct _ kvs) => match toKey i with
      | some k => match valP kvs k with
        | some v => Q v h
        | none => False
      | none => False
    | _ => False
  | _ => False
def cutP (xs : List PV) (lo hi : Option Int) : List PV := (xs.drop (HT.sIx xs.length 0 lo)).take (HT.sIx xs.length xs.length hi - HT.sIx xs.length 0 lo)
def sliV (a : PV) (lo hi : Option Int) (h : PH) (Q : QE) : Prop :=
  match a with
  | .str z => z.length ≤ sizeLine ∧ Q (.str (cutS z lo hi)) h
  | .tup xs => ¬ (HT.sIx xs.length 0 lo = 0 ∧ HT.sIx xs.length xs.length hi = xs.length) ∧ Q (.tup (cutP xs lo hi)) h
  | .fl xs => ∀ q, h q = none → Q (.loc q) (pup h q (.lst (cutP xs lo hi)))
  | .loc p => match h p with
    | some (.lst xs) => ∀ q, h q = none → Q (.loc q) (pup h q (.lst (cutP xs lo hi)))
    | _ => False
  | _ => False
/-- what a value walks: its items, and what must stay -/
def seqK (x : PV) (h : PH) (K : List PV → (PH → Prop) → Prop) : Prop :=
  match x with
  | .tup xs => K xs fun _ => True
  | .fl xs => K xs fun _ => True
  | .str s => K (signs s) fun _ => True
  | .loc a => match h a with
    | some (.lst xs) => K xs fun h' => h' a = some (.lst xs)
    | _ => False
  | _ => False
def lenV (x : PV) (h : PH) (Q : Nat → Prop) : Prop :=
  match x with
  | .str s => s.length ≤ sizeLine ∧ Q s.length
  | .tup xs => Q xs.length
  | .fl xs => Q xs.length
  | .loc a => match h a with
    | some (.lst xs) => Q xs.length
    | some (.dct _ kvs) => Q kvs.length
    | _ => False
  | _ => False
def intsP : List PV → Option (List Int)
  | [] => some []
  | .int i :: r => (intsP r).map (i :: ·)
  | _ => none
def strsP : List PV → Option (List Str)
  | [] => some []
  | .str i :: r => (strsP r).map (i :: ·)
  | _ => none
def blsP : List PV → Option (List Bool)
  | [] => some []
  | .bl i :: r => (blsP r).map (i :: ·)
  | _ => none
/-- the items of a list or tuple -/
def itemsK (x : PV) (h : PH) (K : List PV → Prop) : Prop :=
  match x with
  | .tup xs => K xs
  | .fl xs => K xs
  | .loc a => match h a with
    | some (.lst xs) => K xs
    | _ => False
  | _ => False
def listK (x : PV) (h : PH) (K : List PV → Prop) : Prop :=
  match x with
  | .fl xs => K xs
  | .loc a => match h a with
    | some (.lst xs) => K xs
    | _ => False
  | _ => False
def pairsP : List PV → Option (List (Key × PV))
  | [] => some []
  | .tup [k, v] :: r => match toKey k with
    | some k => (pairsP r).map ((k, v) :: ·)
    | none => none
  | _ => none
def pairUp : List PV → Option (List (Key × PV))
  | [] => some []
  | k :: v :: r => match toKey k, pairUp r with
    | some k, some r => some ((k, v) :: r)
    | _, _ => none
  | [_] => none
def mergeP (kvs more : List (Key × PV)) : List (Key × PV) := more.foldl (fun acc kv => putP acc kv.1 kv.2) kvs
/-- sorted of ints, of texts -/
def sortK (xs : List PV) (Q : List PV → Prop) : Prop :=
  match intsP xs with
  | some ns => ns.length < 64 ∧ ∀ ns' : List Int, ns'.Perm ns → ns'.Pairwise (· ≤ ·) → Q (ns'.map .int)
  | none => match strsP xs with
    | some zs => zs.length < 64 ∧ ∀ ys : List Str, ys.Perm zs → sortedS ys = true → Q (ys.map .str)
    | none => False
def bltV : BltK → List PV → PH → QE → Prop
  | .len, [x], h, Q => lenV x h fun n => Q (.int n) h
  | .abs, [.int i], h, Q => Q (.int (if i < 0 then -i else i)) h
  | .int, [.int i], h, Q => Q (.int i) h
  | .int, [.bl b], h, Q => Q (.int (if b then 1 else 0)) h
  | .int, [.str s], h, Q => match PySem.intText? s with
    | some n => s.length ≤ 640 ∧ Q (.int n) h
    | none => False
  | .str, [.int i], h, Q => i.natAbs.log2 < 1920 ∧ Q (.str (toString i)) h
  | .sum, [x], h, Q => listK x h fun xs => match intsP xs with
    | some ns => Q (.int ns.sum) h
    | none => False
  | .all, [x], h, Q => listK x h fun xs => match blsP xs with
    | some bs => Q (.bl (bs.all id)) h
    | none => False
  | .any, [x], h, Q => listK x h fun xs => match blsP xs with
    | some bs => Q (.bl (bs.any id)) h
    | none => False
  | .max, [.int i, .int j], h, Q => Q (.int (if j > i then j else i)) h
  | .max, [.loc a], h, Q => match h a with
    | some (.lst xs) => match intsP xs with
      | some ns => 0 < ns.length ∧ ∀ m, m ∈ ns → (∀ y, y ∈ ns → y ≤ m) → Q (.int m) h
      | none => False
    | _ => False
  | .min, [.loc a], h, Q => match h a with
    | some (.lst xs) => match intsP xs with
      | some ns => 0 < ns.length ∧ ∀ m, m ∈ ns → (∀ y, y ∈ ns → m ≤ y) → Q (.int m) h
      | none => False
    | _ => False
  | .min, [.int i, .int j], h, Q => Q (.int (if j < i then j else i)) h
  | .divmod, [.int i, .int j], h, Q => CDiv i j ∧ Q (.tup [.int (i / j), .int (i % j)]) h
  | .sorted, [.loc a], h, Q => match h a with
    | some (.lst xs) => sortK xs fun ys => ∀ p, h p = none → Q (.loc p) (pup h p (.lst ys))
    | some (.dct _ kvs) => sortK (kvs.map fun kv => kP kv.1) fun ys => ∀ p, h p = none → Q (.loc p) (pup h p (.lst ys))
    | _ => False
  | .list, [x], h, Q => match x with
    | .tup xs => ∀ p, h p = none → Q (.loc p) (pup h p (.lst xs))
    | .fl xs => ∀ p, h p = none → Q (.loc p) (pup h p (.lst xs))
    | .loc a => match h a with
      | some (.lst xs) => ∀ p, h p = none → Q (.loc p) (pup h p (.lst xs))
      | some (.dct _ kvs) => ∀ p, h p = none → Q (.loc p) (pup h p (.lst (kvs.map fun kv => kP kv.1)))
      | _ => False
    | _ => False
  | .dict, [.loc a], h, Q => match h a with
    | some (.lst xs) => match pairsP xs with
      | some kvs => ∀ p, h p = none → Q (.loc p) (pup h p (.dct false (mergeP [] kvs)))
      | none => False
    | some (.dct _ kvs) => ∀ p, h p = none → Q (.loc p) (pup h p (.dct false kvs))
    | _ => False
  | _, _, _, _ => False
/-- whose method: a list's, a dict's, a text's -/
inductive BtK where | list | dict | str
def bmT : BmK → BtK
  | .append | .extend | .popAt | .clearL | .index => .list
  | .get | .setdefault | .update | .popK | .clearD | .items | .values => .dict
  | .join | .split | .find | .startswith | .upper | .count => .str
def tyP (t : BtK) (x : PV) (h : PH) : Prop :=
  match x with
  | .loc a => match h a with
    | some (.lst _) => match t with | .list => True | _ => False
    | some (.dct false _) => match t with | .dict => True | _ => False
    | _ => False
  | .fl _ => match t with | .list => True | _ => False
  | .str _ => match t with | .str => True | _ => False
  | _ => False
def bmV : BmK → PV → List PV → PH → QE → Prop
  | .append, .loc a, [y], h, Q => match h a with
    | some (.lst xs) => xs.length < sizeLine ∧ Q .non (pup h a (.lst (xs ++ [y])))
    | _ => False
  | .get, .loc a, [k, d], h, Q => match h a with
    | some (.dct _ kvs) => match toKey k with
      | some k => Q ((valP kvs k).getD d) h
      | none => False
    | _ => False
  | .setdefault, .loc a, [k, d], h, Q => match h a with
    | some (.dct false kvs) => match toKey k with
      | some k => kvs.length < sizeLine ∧ match valP kvs k with
        | some v => Q v h
        | none => Q d (pup h a (.dct false (putP kvs k d)))
      | none => False
    | _ => False
  | .find, .str a, [.str b], h, Q => Q (.int (Txt.find a b)) h
  | .startswith, .str a, [.str b], h, Q => Q (.bl (Txt.startswith a b)) h
  | .upper, .str a, [], h, Q => a.length ≤ 5592405 ∧ Q (.str (Txt.upper a)) h
  | .split, .str a, [.str b], h, Q => (b.length == 0) = false ∧ a.length + 2 ≤ sizeLine ∧ ∀ p, h p = none → Q (.loc p) (pup h p (.lst ((Txt.split a b).map .str)))
  | .popAt, .loc a, [.int i], h, Q => match h a with
    | some (.lst xs) => -(2 ^ 63) ≤ i ∧ i < 2 ^ 63 ∧ match seqIndex? i xs.length with
      | some k => match xs[k]? with
        | some y => Q y (pup h a (.lst (xs.eraseIdx k)))
        | none => False
      | none => False
    | _ => False
  | .extend, .loc a, [.loc b], h, Q => match h a, h b with
    | some (.lst xs), some (.lst ys) => xs.length + ys.length ≤ sizeLine ∧ Q .non (pup h a (.lst (xs ++ ys)))
    | _, _ => False
  | .popK, .loc a, [k], h, Q => match h a with
    | some (.dct false kvs) => match toKey k with
      | some k => match valP kvs k with
        | some v => Q v (pup h a (.dct false (dropP kvs k)))
        | none => False
      | none => False
    | _ => False
  | .clearD, .loc a, [], h, Q => match h a with
    | some (.dct false _) => Q .non (pup h a (.dct false []))
    | _ => False
  | .clearL, .loc a, [], h, Q => match h a with
    | some (.lst _) => Q .non (pup h a (.lst []))
    | _ => False
  | .update, .loc a, [.loc b], h, Q => match h a, h b with
    | some (.dct false ks), some (.dct false ls) => a ≠ b ∧ ks.length + ls.length ≤ sizeLine ∧ Q .non (pup h a (.dct false (mergeP ks ls)))
    | _, _ => False
  | .join, .str z, [x], h, Q => itemsK x h fun xs => match strsP xs with
    | some ys => (ys.map (·.length)).sum + ys.length * z.length ≤ 16777216 ∧ Q (.str (Txt.join z ys)) h
    | none => False
  | _, _, _, _, _ => False
/-- the answer of isinstance -/
def isiV (G : Sig) (x : PV) (h : PH) (t : TyK) (Q : Bool → Prop) : Prop :=
  match x with
  | .non => match t with | .own _ => False | _ => Q false
  | .bl _ => match t with | .int => Q true | .bool => Q true | .own _ => False | _ => Q false
  | .int _ => match t with | .int => Q true | .own _ => False | _ => Q false
  | .str _ => match t with | .str => Q true | .own _ => False | _ => Q false
  | .tup _ => match t with | .tuple => Q true | .own _ => False | _ => Q false
  | .fl _ => False
  | .loc a => match h a with
    | some (.lst _) => match t with | .list => Q true | .own _ => False | _ => Q false
    | some (.dct _ _) => match t with | .dict => Q true | .own _ => False | _ => Q false
    | _ => False

/-- the answer of isinstance for a class of the text (none: ValueError) -/
def isxV (G : Sig) (x : PV) (h : PH) (k : Option Nat) (Q : Bool → Prop) : Prop :=
  match x with
  | .non => match k with
    | none => Q false
    | some c => G.isz c = true ∧ Q false
  | .str _ => match k with
    | none => False
    | some c => G.isz c = true ∧ Q false
  | .loc a => match h a with
    | some (.exc d) => G.exc d = true ∧ match (match k with | none => G.isv d | some c => G.isa d c) with
      | some b => Q b
      | none => False
    | some (.ins d _) => G.inc d = true ∧ match (match k with | none => none | some c => G.isa d c) with
      | some b => Q b
      | none => False
    | _ => False
  | _ => False
def cstP : Option Bool → PV
  | none => .non
  | some b => .bl b
/-- a field is stored -/
def putA (f : Nat) (v : PV) : List (Nat × PV) → List (Nat × PV)
  | [] => [(f, v)]
  | (g, x) :: r => if g = f then (g, v) :: r else (g, x) :: putA f v r
/-- o[i] = v -/
def setV (o i v : PV) (h : PH) (Q : PH → Prop) : Prop :=
  match o with
  | .loc a => match h a with
    | some (.lst xs) => match i with
      | .int k => match ixN xs.length k with
        | some j => Q (pup h a (.lst (xs.set j v)))
        | none => False
      | _ => False
    | some (.dct false kvs) => match toKey i with
      | some k => kvs.length < sizeLine ∧ Q (pup h a (.dct false (putP kvs k v)))
      | none => False
    | _ => False
  | _ => False
def wipeP (env : PEnv) : List Nat → PEnv
  | [] => env
  | v :: vs => (wipeP env vs).set v none
mutual
def setT : T → PV → PEnv → (PEnv → Prop) → Prop
  | .nm i, v, env, K => K (env.set i (some v))
  | .tup ts, .tup vs, env, K => setTs ts vs env K
  | .tup _, _, _, _ => False
def setTs : Ts → List PV → PEnv → (PEnv → Prop) → Prop
  | .nil, [], env, K => K env
  | .cons t ts, v :: vs, env, K => setT t v env fun env' => setTs ts vs env' K
  | _, _, _, _ => False
end
/-- the loop of a for -/
def forGo (still : PH → Prop) (st : PV → PEnv → (PEnv → Prop) → Prop) (body : PEnv → PH → PD → Prop) (D : PD) : List PV → PEnv → PH → Prop
  | [], env, h => still h ∧ D.nx env h
  | x :: xs, env, h => still h ∧ st x env fun env' => body env' h { D with nx := forGo still st body D xs, ct := forGo still st body D xs, bk := D.nx }
/-- the loop of a comprehension; P: the new list's place -/
def compGo (still : PH → Prop) (st : PV → PEnv → (PEnv → Prop) → Prop) (ifs : PEnv → PH → (Bool → PH → Prop) → Prop) (elt : PEnv → PH → QE → Prop) (env : PEnv) (P : Addr) (K : PH → Prop) : List PV → PH → Prop
  | [], h => still h ∧ K h
  | x :: xs, h => still h ∧ st x env fun env' => ifs env' h fun b h1 =>
      if b = true then elt env' h1 fun y h2 => match h2 P with
        | some (.lst acc) => acc.length < sizeLine ∧ compGo still st ifs elt env P K xs (pup h2 P (.lst (acc ++ [y])))
        | _ => False
      else compGo still st ifs elt env P K xs h1

mutual
def evE (G : Sig) (C : CallS) : E → PEnv → PH → QE → XE → Prop
  | .var i, env, h, Q, _ => match env[i]? with
    | some (some v) => Q v h
    | _ => False
  | .int i, _, h, Q, _ => Q (.int i) h
  | .str s, _, h, Q, _ => Q (.str s) h
  | .bl b, _, h, Q, _ => Q (.bl b) h
  | .non, _, h, Q, _ => Q .non h
  | .glob g, _, h, Q, _ => match G.gl g with
    | some v => Q v h
    | none => False
  | .bin op a b, env, h, Q, X => evE G C a env h (fun x h1 => evE G C b env h1 (fun y h2 => binV op x y h2 Q) X) X
  | .neg a, env, h, Q, X => evE G C a env h (fun x h1 => match x with | .int i => Q (.int (-i)) h1 | _ => False) X
  | .cmp op a b, env, h, Q, X => evE G C a env h (fun x h1 => evE G C b env h1 (fun y h2 => cmpV op x y h2 fun k => Q (.bl k) h2) X) X
  | .chain o p a b c, env, h, Q, X => evE G C a env h (fun x h1 => evE G C b env h1 (fun y h2 => cmpV o x y h2 fun k =>
      if k = true then evE G C c env h2 (fun z h3 => cmpV p y z h3 fun k' => Q (.bl k') h3) X else Q (.bl false) h2) X) X
  | .and a b, env, h, Q, X => evE G C a env h (fun x h1 => truV x h1 fun k => if k = true then evE G C b env h1 Q X else Q x h1) X
  | .or a b, env, h, Q, X => evE G C a env h (fun x h1 => truV x h1 fun k => if k = true then Q x h1 else evE G C b env h1 Q X) X
  | .not a, env, h, Q, X => evE G C a env h (fun x h1 => truV x h1 fun k => Q (.bl (!k)) h1) X
  | .ite c a b, env, h, Q, X => evB G C c env h (fun k h1 => if k = true then evE G C a env h1 Q X else evE G C b env h1 Q X) X
  | .sub a i, env, h, Q, X => evE G C a env h (fun x h1 => evE G C i env h1 (fun y h2 => subV x y h2 Q) X) X
  | .slice a lo hi, env, h, Q, X => evE G C a env h (fun x h1 => evO G C lo env h1 (fun l h2 => evO G C hi env h2 (fun u h3 => sliV x l u h3 Q) X) X) X
  | .tup es, env, h, Q, X => evEs G C es env h (fun vs h1 => vs.length ≤ sizeLine ∧ Q (.tup vs) h1) X
  | .lst es, env, h, Q, X => evEs G C es env h (fun vs h1 => vs.length ≤ sizeLine ∧ ∀ p, h1 p = none → Q (.loc p) (pup h1 p (.lst vs))) X
  | .dict0, _, h, Q, _ => ∀ p, h p = none → Q (.loc p) (pup h p (.dct false []))
  | .dict es, env, h, Q, X => ∀ p, h p = none → evEs G C es env (pup h p (.dct false [])) (fun xs h1 => h1 p = some (.dct false []) ∧ match pairUp xs with
    | some kvs => kvs.length ≤ 15 ∧ Q (.loc p) (pup h1 p (.dct false (mergeP [] kvs)))
    | none => False) X
  | .fld e f, env, h, Q, X => evE G C e env h (fun x h1 => match x with
    | .loc a => match h1 a with
      | some (.ins c fs) => G.fl c f = true ∧ match fs.lookup f with
        | some v => Q v h1
        | none => False
      | _ => False
    | _ => False) X
  | .call f es, env, h, Q, X => evEs G C es env h (fun vs h1 => C f (padD G f vs) h1 Q X) X
  | .meth o m es, env, h, Q, X => evE G C o env h (fun x h1 => match x with
    | .loc a => match h1 a with
      | some (.ins c fs) => match G.me c m with
        | some f => fs.lookup m = none ∧ evEs G C es env h1 (fun vs h2 => C f (padD G f (x :: vs)) h2 Q X) X
        | none => False
      | _ => False
    | _ => False) X
  | .make c es, env, h, Q, X => evEs G C es env h (fun vs h1 => ∀ p, h1 p = none → match G.ini c with
    | some f => C f (padD G f (.loc p :: vs)) (pup h1 p (.ins c [])) (fun v h2 => v = .non ∧ Q (.loc p) h2) X
    | none => False) X
  | .blt b es, env, h, Q, X => evEs G C es env h (fun vs h1 => bltV b vs h1 Q) X
  | .bm m o es, env, h, Q, X => evE G C o env h (fun x h1 => tyP (bmT m) x h1 ∧ evEs G C es env h1 (fun vs h2 => bmV m x vs h2 Q) X) X
  | .isi e t, env, h, Q, X => evE G C e env h (fun x h1 => isiV G x h1 t fun b => Q (.bl b) h1) X
  | .make0 k, _, h, Q, _ => G.in0 k = true ∧ ∀ p, h p = none → Q (.loc p) (pup h p (.ins k []))
  | .rev e, env, h, Q, X => evE G C e env h (fun x h1 => listK x h1 fun xs => ∀ p, h1 p = none → Q (.loc p) (pup h1 p (.lst xs.reverse))) X
  | .isx e k, env, h, Q, X => evE G C e env h (fun x h1 => isxV G x h1 k fun b => Q (.bl b) h1) X
  | .comp elt t it ifs ws, env, h, Q, X => evI G C it env h (fun xs still h1 => ∀ P, h1 P = none →
      compGo still (setT t) (fun e g K => evBs G C ifs e g K fun _ _ => False) (fun e g K => evE G C elt e g K fun _ _ => False) (wipeP env (ws.map (·.2))) P (fun h2 => Q (.loc P) h2) xs (pup h1 P (.lst []))) X
  | .compD elt t e ifs ws, env, h, Q, X => ∃ d kvs, h d = some (.dct false kvs) ∧ evE G C e env (pup h d (.dct true kvs)) (fun x h1 => x = .loc d ∧ h1 d = some (.dct true kvs) ∧ ∀ P, h1 P = none →
      compGo (fun g => g d = some (.dct true kvs)) (setT t) (fun e g K => evBs G C ifs e g K fun _ _ => False) (fun e g K => evE G C elt e g K fun _ _ => False) (wipeP env (ws.map (·.2))) P
        (fun h2 => Q (.loc P) (pup h2 d (.dct false kvs))) (kvs.map fun kv => kP kv.1) (pup h1 P (.lst []))) fun _ _ => False
  | .listItems e, env, h, Q, X => evE G C e env h (fun x h1 => match x with
    | .loc d => match h1 d with
      | some (.dct false kvs) => ∀ p, h1 p = none → Q (.loc p) (pup h1 p (.lst (kvs.map fun kv => .tup [kP kv.1, kv.2])))
      | _ => False
    | _ => False) X
def evEs (G : Sig) (C : CallS) : Es → PEnv → PH → (List PV → PH → Prop) → XE → Prop
  | .nil, _, h, Q, _ => Q [] h
  | .cons e es, env, h, Q, X => evE G C e env h (fun v h1 => evEs G C es env h1 (fun vs h2 => Q (v :: vs) h2) X) X
def evO (G : Sig) (C : CallS) : O → PEnv → PH → (Option Int → PH → Prop) → XE → Prop
  | .non, _, h, Q, _ => Q none h
  | .some e, env, h, Q, X => evE G C e env h (fun v h1 => match v with | .int i => Q (some i) h1 | _ => False) X
def evB (G : Sig) (C : CallS) : B → PEnv → PH → (Bool → PH → Prop) → XE → Prop
  | .val e, env, h, Q, X => evE G C e env h (fun v h1 => truV v h1 fun k => Q k h1) X
  | .and a b, env, h, Q, X => evB G C a env h (fun k h1 => if k = true then evB G C b env h1 Q X else Q false h1) X
  | .or a b, env, h, Q, X => evB G C a env h (fun k h1 => if k = true then Q true h1 else evB G C b env h1 Q X) X
  | .not a, env, h, Q, X => evB G C a env h (fun k h1 => Q (!k) h1) X
def evBs (G : Sig) (C : CallS) : Bs → PEnv → PH → (Bool → PH → Prop) → XE → Prop
  | .nil, _, h, Q, _ => Q true h
  | .one b, env, h, Q, X => evB G C b env h Q X
def evI (G : Sig) (C : CallS) : I → PEnv → PH → (List PV → (PH → Prop) → PH → Prop) → XE → Prop
  | .ex e, env, h, K, X => evE G C e env h (fun v h1 => seqK v h1 fun xs still => K xs still h1) X
  | .range1 e, env, h, K, X => evE G C e env h (fun v h1 => match v with
    | .int j => -(2 ^ 62) ≤ j ∧ j < 2 ^ 62 ∧ K ((List.range j.toNat).map fun i => .int ((0 : Int) + (i : Nat))) (fun _ => True) h1
    | _ => False) X
  | .range2 a b, env, h, K, X => evE G C a env h (fun v h1 => evE G C b env h1 (fun u h2 => match v, u with
    | .int i, .int j => (-(2 ^ 62) ≤ i ∧ i < 2 ^ 62 ∧ -(2 ^ 62) ≤ j ∧ j < 2 ^ 62) ∧ K ((List.range (j - i).toNat).map fun k => .int (i + (k : Nat))) (fun _ => True) h2
    | _, _ => False) X) X
  | .range3 a b s, env, h, K, X => evE G C a env h (fun v h1 => evE G C b env h1 (fun u h2 => match v, u with
    | .int i, .int j => ∃ n, RgC i j s n ∧ K ((List.range n).map fun k => .int (i + (k : Nat) * s)) (fun _ => True) h2
    | _, _ => False) X) X
  | .enum e, env, h, K, X => evE G C e env h (fun v h1 => match v with
    | .fl xs => K (xs.zipIdx.map fun p => .tup [.int (p.2 : Nat), p.1]) (fun _ => True) h1
    | .loc a => match h1 a with
      | some (.lst xs) => K (xs.zipIdx.map fun p => .tup [.int (p.2 : Nat), p.1]) (fun h' => h' a = some (.lst xs)) h1
      | _ => False
    | _ => False) X
end

mutual
def evS (G : Sig) (C : CallS) : S → PEnv → PH → PD → Prop
  | .skip, env, h, D => D.nx env h
  | .brk, env, h, D => D.bk env h
  | .cont, env, h, D => D.ct env h
  | .expr e, env, h, D => evE G C e env h (fun _ h1 => D.nx env h1) fun c h1 => D.ex c env h1
  | .ret e, env, h, D => evE G C e env h D.rt fun c h1 => D.ex c env h1
  | .retN, _, h, D => D.rt .non h
  | .set i e, env, h, D => evE G C e env h (fun v h1 => D.nx (env.set i (some v)) h1) fun c h1 => D.ex c env h1
  | .setC i e, env, h, D => evE G C e env h (fun v h1 => D.nx (env.set i (some v)) h1) fun c h1 => D.ex c env h1
  | .setT ts e, env, h, D => evE G C e env h (fun v h1 => setT (.tup ts) v env fun env' => D.nx env' h1) fun c h1 => D.ex c env h1
  | .setL ts e, env, h, D => evE G C e env h (fun v h1 => match v with
    | .loc a => match h1 a with
      | some (.lst vs) => setTs ts vs env fun env' => D.nx env' h1
      | _ => False
    | _ => False) fun c h1 => D.ex c env h1
  | .par i j a b, env, h, D => evE G C a env h (fun v h1 => evE G C b env h1 (fun w h2 => D.nx ((env.set i (some v)).set j (some w)) h2) fun c h2 => D.ex c env h2) fun c h1 => D.ex c env h1
  | .aug i op e, env, h, D => match env[i]? with
    | some (some x) => evE G C e env h (fun y h1 => augV op x y h1 fun z h2 => D.nx (env.set i (some z)) h2) fun c h1 => D.ex c env h1
    | _ => False
  | .fldSet o f e, env, h, D => evE G C e env h (fun y h1 => evE G C o env h1 (fun x h2 => match x with
    | .loc a => match h2 a with
      | some (.ins c fs) => G.fl c f = true ∧ fs.length < 1000 ∧ D.nx env (pup h2 a (.ins c (putA f y fs)))
      | _ => False
    | _ => False) fun c h2 => D.ex c env h2) fun c h1 => D.ex c env h1
  | .fldAug o f op e, env, h, D => evE G C o env h (fun x h1 => match x with
    | .loc a => match h1 a with
      | some (.ins c fs) => G.fl c f = true ∧ match fs.lookup f with
        | some v => evE G C e env h1 (fun y h2 => augV op v y h2 fun z h3 => match h3 a with
          | some (.ins c' fs') => c' = c ∧ fs'.length < 1000 ∧ D.nx env (pup h3 a (.ins c' (putA f z fs')))
          | _ => False) fun c h2 => D.ex c env h2
        | none => False
      | _ => False
    | _ => False) fun c h1 => D.ex c env h1
  | .subSet o i e, env, h, D => evE G C e env h (fun v h1 => evE G C o env h1 (fun x h2 => evE G C i env h2 (fun y h3 => setV x y v h3 fun h4 => D.nx env h4) fun c h3 => D.ex c env h3) fun c h2 => D.ex c env h2) fun c h1 => D.ex c env h1
  | .subAug o i op e, env, h, D => evE G C o env h (fun x h1 => (∃ a, x = .loc a) ∧ evE G C i env h1 (fun y h2 => subV x y h2 fun v h3 => evE G C e env h3 (fun y2 h4 => augV op v y2 h4 fun z h5 => setV x y z h5 fun h6 => D.nx env h6)
      fun c h4 => D.ex c env h4) fun c h2 => D.ex c env h2) fun c h1 => D.ex c env h1
  | .ite c a b, env, h, D => evB G C c env h (fun k h1 => if k = true then evSs G C a env h1 D else evSs G C b env h1 D) fun c h1 => D.ex c env h1
  | .raise k, env, h, D => G.exc k = true ∧ D.ex k env h
  | .tryAs b k i j, env, h, D => evSs G C b env h { D with ex := fun d env' h' => match G.exm d k with
    | some true => i ≠ j ∧ ∀ a, h' a = none → D.nx (((env'.set i (some (.loc a))).set j (some (.loc a))).set i none) (pup h' a (.exc d))
    | some false => D.ex d env' h'
    | none => False }
  | .tryO b k i v, env, h, D => evSs G C b env h { D with ex := fun d env' h' => match G.exm d k with
    | some true => D.nx (env'.set i (some (cstP v))) h'
    | some false => D.ex d env' h'
    | none => False }
  | .while c b, env, h, D => ∃ W : Nat → PEnv → PH → Prop, (∃ m, W m env h) ∧ ∀ m env h, W m env h →
      evB G C c env h (fun k h1 => if k = true then evSs G C b env h1 { D with nx := fun e g => ∃ m', m' < m ∧ W m' e g, ct := fun e g => ∃ m', m' < m ∧ W m' e g, bk := D.nx } else D.nx env h1) fun c h1 => D.ex c env h1
  | .for t it b, env, h, D => evI G C it env h (fun xs still h1 => forGo still (setT t) (fun e g D' => evSs G C b e g D') D xs env h1) fun c h1 => D.ex c env h1
  | .forD t items e b, env, h, D => ∃ d kvs, h d = some (.dct false kvs) ∧ evE G C e env (pup h d (.dct true kvs)) (fun x h1 => x = .loc d ∧
      forGo (fun g => g d = some (.dct true kvs)) (setT t) (fun e g D' => evSs G C b e g D')
        ⟨fun e g => g d = some (.dct true kvs) ∧ D.nx e (pup g d (.dct false kvs)), fun v g => g d = some (.dct true kvs) ∧ D.rt v (pup g d (.dct false kvs)), fun e g => g d = some (.dct true kvs) ∧ D.bk e (pup g d (.dct false kvs)),
          fun e g => g d = some (.dct true kvs) ∧ D.ct e (pup g d (.dct false kvs)), fun _ _ _ => False⟩
        (kvs.map fun kv => if items then .tup [kP kv.1, kv.2] else kP kv.1) env h1) fun _ _ => False
def evSs (G : Sig) (C : CallS) : Ss → PEnv → PH → PD → Prop
  | .nil, env, h, D => D.nx env h
  | .cons s ss, env, h, D => evS G C s env h { D with nx := fun env' h' => evSs G C ss env' h' D }
end
end Mir

set_option autoImplicit true
namespace Mir
open PySem L2
open PyProof.Rows hiding St

/-! ## how the small language's values lie in the abstract heap -/
structure Pm where
  G : Sig
  K : PySem.W.Frag
  cls : Nat → Addr

def KTup (K : PySem.W.Frag) (a : Addr) (vs : List V) : Prop :=
  ∃ (ob : Obj) (arr : Array Value) (m : Nat), K.lookup a = some ob ∧ ob.cls = .type "tuple" ∧ ob.data = .seq arr m ∧ arr.size ≤ sizeLine ∧ Vals vs arr.toList
def KLst (K : PySem.W.Frag) (a : Addr) (vs : List V) : Prop :=
  ∃ (ob : Obj) (arr : Array Value) (m : Nat), K.lookup a = some ob ∧ ob.cls = .type "list" ∧ ob.dict = none ∧ ob.data = .seq arr m ∧ arr.size ≤ sizeLine ∧ Vals vs arr.toList
def TAt (K : PySem.W.Frag) (H : Hp) (a : Addr) (vs : List V) : Prop := H a = some (.tup vs) ∨ KTup K a vs
def LAt (K : PySem.W.Frag) (H : Hp) (a : Addr) (vs : List V) : Prop := (∃ o, H a = some (.frz o (.lst vs))) ∨ KLst K a vs
theorem TAt.sq {K : PySem.W.Frag} {H : Hp} {a : Addr} {vs : List V} (t : TAt K H a vs) : SqT K H a vs := by
  rcases t with t | t
  · exact .inl (.inl t)
  · exact .inr t
theorem LAt.sq {K : PySem.W.Frag} {H : Hp} {a : Addr} {vs : List V} (t : LAt K H a vs) : SqL K H a vs := by
  rcases t with t | t
  · exact .inl (.inr t)
  · exact .inr t

mutual
inductive RP (K : PySem.W.Frag) (H : Hp) : PV → V → Prop
  | non : RP K H .non .non
  | bl (b : Bool) : RP K H (.bl b) (.bl b)
  | int (i : Int) : RP K H (.int i) (.int i)
  | str (x : Str) : RP K H (.str x) (.str x)
  | tup {a : Addr} {xs : List PV} {vs : List V} : TAt K H a vs → RPs K H xs vs → RP K H (.tup xs) (.ref a)
  | fl {a : Addr} {xs : List PV} {vs : List V} : LAt K H a vs → RPs K H xs vs → RP K H (.fl xs) (.ref a)
  | loc (a : Addr) : RP K H (.loc a) (.ref a)
inductive RPs (K : PySem.W.Frag) (H : Hp) : List PV → List V → Prop
  | nil : RPs K H [] []
  | cons {x : PV} {v : V} {xs : List PV} {vs : List V} : RP K H x v → RPs K H xs vs → RPs K H (x :: xs) (v :: vs)
end

/-- what never changes is there still -/
structure Ext (H H' : Hp) : Prop where
  tp : ∀ a xs, H a = some (.tup xs) → H' a = some (.tup xs)
  fz : ∀ a o u, H a = some (.frz o u) → H' a = some (.frz o u)
theorem Ext.refl (H : Hp) : Ext H H := ⟨fun _ _ e => e, fun _ _ _ e => e⟩
theorem Ext.trans {H H1 H2 : Hp} (a : Ext H H1) (b : Ext H1 H2) : Ext H H2 := ⟨fun _ _ e => b.tp _ _ (a.tp _ _ e), fun _ _ _ e => b.fz _ _ _ (a.fz _ _ _ e)⟩
theorem Ext.new {H : Hp} {p : Addr} {o : HO} (n : H p = none) : Ext H (upd H p o) :=
  ⟨fun a xs e => by rw [upd_ne (ne_of_none e n)]; exact e, fun a q xs e => by rw [upd_ne (ne_of_none e n)]; exact e⟩
/-- what stands at p is none of what never changes -/
def Chg : HO → Prop
  | .tup _ => False
  | .frz _ _ => False
  | _ => True
theorem Ext.chg {H : Hp} {p : Addr} {o u : HO} (e : H p = some u) (c : Chg u) : Ext H (upd H p o) := by
  refine ⟨fun a xs q => ?_, fun a ob xs q => ?_⟩
  · by_cases h : a = p
    · subst h; rw [e] at q; cases q; exact c.elim
    · rw [upd_ne h]; exact q
  · by_cases h : a = p
    · subst h; rw [e] at q; cases q; exact c.elim
    · rw [upd_ne h]; exact q

mutual
theorem RP.ext {K : PySem.W.Frag} {H H' : Hp} (e : Ext H H') : ∀ {x : PV} {v : V}, RP K H x v → RP K H' x v
  | _, _, .non => .non
  | _, _, .bl b => .bl b
  | _, _, .int i => .int i
  | _, _, .str x => .str x
  | _, _, .tup t r => .tup (t.elim (fun z => .inl (e.tp _ _ z)) .inr) (RPs.ext e r)
  | _, _, .fl t r => .fl (t.elim (fun ⟨o, z⟩ => .inl ⟨o, e.fz _ _ _ z⟩) .inr) (RPs.ext e r)
  | _, _, .loc a => .loc a
theorem RPs.ext {K : PySem.W.Frag} {H H' : Hp} (e : Ext H H') : ∀ {x : List PV} {v : List V}, RPs K H x v → RPs K H' x v
  | _, _, .nil => .nil
  | _, _, .cons r t => .cons (RP.ext e r) (RPs.ext e t)
end
section
variable {K : PySem.W.Frag} {H : Hp}
theorem RPs.length : ∀ {xs : List PV} {vs : List V}, RPs K H xs vs → xs.length = vs.length
  | _, _, .nil => rfl
  | _, _, .cons _ t => by simp [RPs.length t]
theorem RPs.get : ∀ {xs : List PV} {vs : List V} {i : Nat} {x : PV}, RPs K H xs vs → xs[i]? = some x → ∃ v, vs[i]? = some v ∧ RP K H x v
  | _, _, _, _, .nil, e => by simp at e
  | _, _, 0, _, .cons r _, e => by simp at e; subst e; exact ⟨_, by simp, r⟩
  | _, _, i + 1, _, .cons _ t, e => by
    obtain ⟨v, a, b⟩ := RPs.get (i := i) t (by simpa using e)
    exact ⟨v, by simpa using a, b⟩
theorem RPs.getR : ∀ {xs : List PV} {vs : List V} {i : Nat} {v : V}, RPs K H xs vs → vs[i]? = some v → ∃ x, xs[i]? = some x ∧ RP K H x v
  | _, _, _, _, .nil, e => by simp at e
  | _, _, 0, _, .cons r _, e => by simp at e; subst e; exact ⟨_, by simp, r⟩
  | _, _, i + 1, _, .cons _ t, e => by
    obtain ⟨v, a, b⟩ := RPs.getR (i := i) t (by simpa using e)
    exact ⟨v, by simpa using a, b⟩
theorem RPs.append : ∀ {xs ys : List PV} {vs ws : List V}, RPs K H xs vs → RPs K H ys ws → RPs K H (xs ++ ys) (vs ++ ws)
  | _, _, _, _, .nil, s => s
  | _, _, _, _, .cons r t, s => .cons r (RPs.append t s)
theorem RPs.take : ∀ {xs : List PV} {vs : List V} (n : Nat), RPs K H xs vs → RPs K H (xs.take n) (vs.take n)
  | _, _, 0, _ => by simpa using RPs.nil
  | _, _, _ + 1, .nil => .nil
  | _, _, n + 1, .cons r t => .cons r (RPs.take n t)
theorem RPs.drop : ∀ {xs : List PV} {vs : List V} (n : Nat), RPs K H xs vs → RPs K H (xs.drop n) (vs.drop n)
  | _, _, 0, r => r
  | _, _, _ + 1, .nil => .nil
  | _, _, n + 1, .cons _ t => RPs.drop n t
theorem RPs.set {x : PV} {v : V} (r : RP K H x v) : ∀ {xs : List PV} {vs : List V} (i : Nat), RPs K H xs vs → RPs K H (xs.set i x) (vs.set i v)
  | _, _, _, .nil => .nil
  | _, _, 0, .cons _ t => .cons r t
  | _, _, i + 1, .cons q t => .cons q (RPs.set r i t)
theorem RPs.nil_iff {xs : List PV} {vs : List V} (r : RPs K H xs vs) : xs = [] ↔ vs = [] := by
  cases r <;> simp
theorem RPs.isEmpty {xs : List PV} {vs : List V} (r : RPs K H xs vs) : xs.isEmpty = vs.isEmpty := by
  cases r <;> rfl
theorem RPs.dropLast {xs : List PV} {vs : List V} (r : RPs K H xs vs) : RPs K H xs.dropLast vs.dropLast := by
  rw [List.dropLast_eq_take, List.dropLast_eq_take, r.length]
  exact r.take _
theorem RPs.map_int (ns : List Int) : RPs K H (ns.map PV.int) (ns.map V.int) := by
  induction ns with
  | nil => exact .nil
  | cons n r ih => exact .cons (.int n) ih
theorem RPs.map_str (ns : List Str) : RPs K H (ns.map PV.str) (ns.map V.str) := by
  induction ns with
  | nil => exact .nil
  | cons n r ih => exact .cons (.str n) ih
theorem RPs.ints : ∀ {xs : List PV} {vs : List V} {ns : List Int}, RPs K H xs vs → intsP xs = some ns → vs = ns.map V.int
  | _, _, _, .nil, e => by simp [intsP] at e; subst e; rfl
  | _, _, _, .cons (x := x) (xs := xs) r t, e => by
    cases r <;> simp only [intsP, Option.map_eq_some_iff, reduceCtorEq] at e
    obtain ⟨ns, h, rfl⟩ := e
    rw [RPs.ints t h]; rfl
theorem RPs.strs : ∀ {xs : List PV} {vs : List V} {ns : List Str}, RPs K H xs vs → strsP xs = some ns → vs = ns.map V.str
  | _, _, _, .nil, e => by simp [strsP] at e; subst e; rfl
  | _, _, _, .cons (x := x) (xs := xs) r t, e => by
    cases r <;> simp only [strsP, Option.map_eq_some_iff, reduceCtorEq] at e
    obtain ⟨ns, h, rfl⟩ := e
    rw [RPs.strs t h]; rfl
theorem RPs.bls : ∀ {xs : List PV} {vs : List V} {ns : List Bool}, RPs K H xs vs → blsP xs = some ns → vs = ns.map V.bl
  | _, _, _, .nil, e => by simp [blsP] at e; subst e; rfl
  | _, _, _, .cons (x := x) (xs := xs) r t, e => by
    cases r <;> simp only [blsP, Option.map_eq_some_iff, reduceCtorEq] at e
    obtain ⟨ns, h, rfl⟩ := e
    rw [RPs.bls t h]; rfl
end

abbrev RK (K : PySem.W.Frag) (H : Hp) : List (Key × PV) → List (Key × V) → Prop := Paired fun p q => p.1 = q.1 ∧ RP K H p.2 q.2
abbrev RF (nm : List Str) (K : PySem.W.Frag) (H : Hp) : List (Nat × PV) → List (Str × V) → Prop := Paired fun p q => nm[p.1]? = some q.1 ∧ RP K H p.2 q.2
theorem paired_imp {α β : Type} {F G : α → β → Prop} : ∀ {xs : List α} {ys : List β}, Paired F xs ys → (∀ x y, F x y → G x y) → Paired G xs ys
  | _, _, .nil, _ => .nil
  | _, _, .cons a b, f => .cons (f _ _ a) (paired_imp b f)
theorem paired_len {α β : Type} {F : α → β → Prop} : ∀ {xs : List α} {ys : List β}, Paired F xs ys → xs.length = ys.length
  | _, _, .nil => rfl
  | _, _, .cons a b => by simp [paired_len b]
theorem paired_at {α β : Type} {F : α → β → Prop} : ∀ {xs : List α} {ys : List β}, Paired F xs ys → ∀ {i : Nat} {y : β}, ys[i]? = some y → ∃ x, xs[i]? = some x ∧ F x y
  | _, _, .nil, _, _, e => by simp at e
  | _, _, .cons a b, 0, _, e => by simp at e; subst e; exact ⟨_, by simp, a⟩
  | _, _, .cons a b, i + 1, _, e => by
    obtain ⟨x, p, q⟩ := paired_at b (i := i) (by simpa using e)
    exact ⟨x, by simpa using p, q⟩
theorem paired_atL {α β : Type} {F : α → β → Prop} : ∀ {xs : List α} {ys : List β}, Paired F xs ys → ∀ {i : Nat} {x : α}, xs[i]? = some x → ∃ y, ys[i]? = some y ∧ F x y
  | _, _, .nil, _, _, e => by simp at e
  | _, _, .cons a b, 0, _, e => by simp at e; subst e; exact ⟨_, by simp, a⟩
  | _, _, .cons a b, i + 1, _, e => by
    obtain ⟨x, p, q⟩ := paired_atL b (i := i) (by simpa using e)
    exact ⟨x, by simpa using p, q⟩

/-- a cell as it lies -/
def CR (P : Pm) (H : Hp) (a : Addr) : Cell → Prop
  | .lst xs => ∃ vs, H a = some (.lst vs) ∧ RPs P.K H xs vs
  | .dct false kvs => ∃ ws, H a = some (.dK ws) ∧ RK P.K H kvs ws
  | .dct true kvs => ∃ o ws, H a = some (.frz o (.dK ws)) ∧ RK P.K H kvs ws
  | .ins c fs => ∃ dx gs, H a = some (.ins (P.cls c) dx gs) ∧ RF P.G.nm P.K H fs gs
  | .exc c => H a = some (ExV (.ref (P.cls c)) a)
def HR (P : Pm) (h : PH) (H : Hp) : Prop := ∀ a c, h a = some c → CR P H a c
theorem CR.ext {P : Pm} {H H' : Hp} {a : Addr} {c : Cell} (e : Ext H H') (s : H' a = H a) (r : CR P H a c) : CR P H' a c := by
  match c, r with
  | .lst xs, ⟨vs, q, r⟩ => exact ⟨vs, s.trans q, r.ext e⟩
  | .dct false kvs, ⟨ws, q, r⟩ => exact ⟨ws, s.trans q, paired_imp r fun _ _ z => ⟨z.1, z.2.ext e⟩⟩
  | .dct true kvs, ⟨o, ws, q, r⟩ => exact ⟨o, ws, s.trans q, paired_imp r fun _ _ z => ⟨z.1, z.2.ext e⟩⟩
  | .ins c fs, ⟨dx, gs, q, r⟩ => exact ⟨dx, gs, s.trans q, paired_imp r fun _ _ z => ⟨z.1, z.2.ext e⟩⟩
  | .exc c, q => exact s.trans q
theorem CR.there {P : Pm} {H : Hp} {a : Addr} {c : Cell} (r : CR P H a c) : ∃ u, H a = some u := by
  match c, r with
  | .lst xs, ⟨vs, q, r⟩ => exact ⟨_, q⟩
  | .dct false kvs, ⟨ws, q, r⟩ => exact ⟨_, q⟩
  | .dct true kvs, ⟨o, ws, q, r⟩ => exact ⟨_, q⟩
  | .ins c fs, ⟨dx, gs, q, r⟩ => exact ⟨_, q⟩
  | .exc c, q => exact ⟨_, q⟩
def Cell.free : Cell → Bool
  | .dct true _ => false
  | _ => true
theorem CR.chg {P : Pm} {H : Hp} {a : Addr} {c : Cell} (r : CR P H a c) (f : c.free = true) : ∃ u, H a = some u ∧ Chg u := by
  cases c with
  | lst xs => obtain ⟨vs, q, r⟩ := r; exact ⟨_, q, trivial⟩
  | dct b kvs =>
    cases b with
    | false => obtain ⟨vs, q, r⟩ := r; exact ⟨_, q, trivial⟩
    | true => simp [Cell.free] at f
  | ins c fs => obtain ⟨dx, gs, q, r⟩ := r; exact ⟨_, q, trivial⟩
  | exc c => exact ⟨_, r, trivial⟩
section
variable {P : Pm} {h : PH} {H : Hp}
theorem HR.free (r : HR P h H) {p : Addr} (n : H p = none) : h p = none := by
  cases e : h p with
  | none => rfl
  | some c =>
    obtain ⟨u, q⟩ := (r p c e).there
    rw [n] at q; cases q
theorem HR.chg (r : HR P h H) {p : Addr} {c : Cell} (e : h p = some c) (o : HO) (f : c.free = true := by rfl) : Ext H (upd H p o) := by
  obtain ⟨u, q, z⟩ := (r p c e).chg f
  exact .chg q z
/-- one cell new or changed -/
theorem HR.upd (r : HR P h H) {p : Addr} {c : Cell} {o : HO} (x : Ext H (upd H p o)) (n : CR P (upd H p o) p c) : HR P (pup h p c) (upd H p o) := fun a d e => by
  by_cases q : a = p
  · subst q; rw [pup_same] at e; cases e; exact n
  · rw [pup_ne q] at e
    exact (r a d e).ext x (upd_ne q)
/-- a thing new that is not in view -/
theorem HR.keep (r : HR P h H) {p : Addr} {o : HO} (n : H p = none) : HR P h (L2.upd H p o) := fun a d e => by
  have q : a ≠ p := fun z => by
    subst z
    obtain ⟨u, q⟩ := (r a d e).there
    rw [n] at q; cases q
  exact (r a d e).ext (.new n) (upd_ne q)
theorem HR.le {h' : PH} (r : HR P h H) (l : PLe h' h) : HR P h' H := fun a c e => r a c (l a c e)
theorem HR.lst (r : HR P h H) {p : Addr} {xs : List PV} (e : h p = some (.lst xs)) : ∃ vs, H p = some (.lst vs) ∧ RPs P.K H xs vs := r p _ e
theorem HR.dct (r : HR P h H) {p : Addr} {f : Bool} {kvs : List (Key × PV)} (e : h p = some (.dct f kvs)) : ∃ ws, Rd H p (.dK ws) ∧ RK P.K H kvs ws := by
  cases f with
  | false => obtain ⟨ws, q, z⟩ := r p _ e; exact ⟨ws, .inl q, z⟩
  | true => obtain ⟨o, ws, q, z⟩ := r p _ e; exact ⟨ws, .inr ⟨o, q⟩, z⟩
end

/-! ## environments -/
def RO (K : PySem.W.Frag) (H : Hp) (o : Option PV) (u : Option V) : Prop := ∀ x, o = some x → ∃ v, u = some v ∧ RP K H x v
abbrev RE (K : PySem.W.Frag) (H : Hp) : PEnv → St → Prop := Paired (RO K H)
theorem RE.ext {K : PySem.W.Frag} {H H' : Hp} {env : PEnv} {σ : St} (r : RE K H env σ) (e : Ext H H') : RE K H' env σ :=
  paired_imp r fun _ _ z x q => let ⟨v, a, b⟩ := z x q; ⟨v, a, b.ext e⟩
theorem RE.get {K : PySem.W.Frag} {H : Hp} : ∀ {env : PEnv} {σ : St} {i : Nat} {x : PV}, RE K H env σ → env[i]? = some (some x) → ∃ v, σ[i]? = some (some v) ∧ RP K H x v
  | _, _, _, _, .nil, e => by simp at e
  | _, _, 0, _, .cons a b, e => by
    simp at e
    obtain ⟨v, q, r⟩ := a _ e
    exact ⟨v, by simp [q], r⟩
  | _, _, i + 1, _, .cons a b, e => by
    obtain ⟨v, q, r⟩ := RE.get b (i := i) (by simpa using e)
    exact ⟨v, by simpa using q, r⟩
theorem RE.set {K : PySem.W.Frag} {H : Hp} {o : Option PV} {u : Option V} (r : RO K H o u) : ∀ {env : PEnv} {σ : St} (i : Nat), RE K H env σ → RE K H (env.set i o) (σ.set i u)
  | _, _, _, .nil => .nil
  | _, _, 0, .cons _ b => .cons r b
  | _, _, i + 1, .cons a b => .cons a (RE.set r i b)
theorem RE.put {K : PySem.W.Frag} {H : Hp} {x : PV} {v : V} (r : RP K H x v) {env : PEnv} {σ : St} (i : Nat) (q : RE K H env σ) : RE K H (env.set i (some x)) (σ.set i (some v)) :=
  RE.set (fun _ e => by cases e; exact ⟨v, rfl, r⟩) i q
theorem RE.off {K : PySem.W.Frag} {H : Hp} {u : Option V} {env : PEnv} {σ : St} (i : Nat) (q : RE K H env σ) : RE K H (env.set i none) (σ.set i u) :=
  RE.set (fun _ e => by cases e) i q
theorem RE.wipe {K : PySem.W.Frag} {H : Hp} {env : PEnv} {σ : St} (q : RE K H env σ) : ∀ ws : List Nat, RE K H (wipeP env ws) (wipe σ ws)
  | [] => q
  | v :: vs => RE.off v (RE.wipe q vs)

/-! ## what is wanted of values, carried over -/
/-- the wish Qp of the small language, as a wish Q -/
def Lft (P : Pm) (H : Hp) (Qp : QE) (Q : VK) : Prop := ∀ pr h' v H', Qp pr h' → Ext H H' → RP P.K H' pr v → HR P h' H' → Q v H'
theorem Lft.on {P : Pm} {H H1 : Hp} {Qp : QE} {Q : VK} (l : Lft P H Qp Q) (e : Ext H H1) : Lft P H1 Qp Q := fun pr h' v H' a b c d => l pr h' v H' a (e.trans b) c d
theorem Lft.here {P : Pm} {H : Hp} {Qp : QE} {Q : VK} (l : Lft P H Qp Q) {h : PH} {x : PV} {v : V} (q : Qp x h) (r : RP P.K H x v) (z : HR P h H) : Q v H := l x h v H q (.refl H) r z
/-- two values in, by the meaning f -/
def rTwo (P : Pm) (f : PV → PV → PH → QE → Prop) : R2 := fun x y H Q => ∃ a b h Qp, RP P.K H a x ∧ RP P.K H b y ∧ HR P h H ∧ f a b h Qp ∧ Lft P H Qp Q
theorem rlst_new {P : Pm} {h : PH} {H : Hp} {p : Addr} {xs : List PV} {vs : List V} (z : HR P h H) (n : H p = none) (r : RPs P.K H xs vs) : HR P (pup h p (.lst xs)) (upd H p (.lst vs)) :=
  z.upd (.new n) ⟨vs, upd_same, r.ext (.new n)⟩
theorem rlst_put {P : Pm} {h : PH} {H : Hp} {p : Addr} {c : Cell} {xs : List PV} {vs : List V} (z : HR P h H) (e : h p = some c) (r : RPs P.K H xs vs) (f : c.free = true := by rfl) : HR P (pup h p (.lst xs)) (upd H p (.lst vs)) :=
  z.upd (z.chg e _ f) ⟨vs, upd_same, r.ext (z.chg e _ f)⟩
theorem rdct_new {P : Pm} {h : PH} {H : Hp} {p : Addr} {xs : List (Key × PV)} {vs : List (Key × V)} (z : HR P h H) (n : H p = none) (r : RK P.K H xs vs) : HR P (pup h p (.dct false xs)) (upd H p (.dK vs)) :=
  z.upd (.new n) ⟨vs, upd_same, paired_imp r fun _ _ q => ⟨q.1, q.2.ext (.new n)⟩⟩
theorem rdct_put {P : Pm} {h : PH} {H : Hp} {p : Addr} {c : Cell} {xs : List (Key × PV)} {vs : List (Key × V)} (z : HR P h H) (e : h p = some c) (r : RK P.K H xs vs) (f : c.free = true := by rfl) : HR P (pup h p (.dct false xs)) (upd H p (.dK vs)) :=
  z.upd (z.chg e _ f) ⟨vs, upd_same, paired_imp r fun _ _ q => ⟨q.1, q.2.ext (z.chg e _ f)⟩⟩
def bOp : BinK → Operator
  | .add => .Add | .sub => .Sub | .mul => .Mult | .div => .FloorDiv | .mod => .Mod | .pow => .Pow
section
variable {X : Cx} {P : Pm}
theorem op_bin (hK : X.K = P.K) (k : BinK) : OpR X (binaryOp (bOp k)) (rTwo P (binV k)) := by
  intro pins s σ H x y v u Q I rx ry ⟨a, b, h, Qp, ra, rb, z, q, l⟩
  match k, a, b, ra, rb, q with
  | .add, .int i, .int j, .int _, .int _, q => exact op_add pins s σ H _ _ _ _ Q I rx ry ⟨i, j, rfl, rfl, l.here q (.int _) z⟩
  | .add, .str i, .str j, .str _, .str _, q => exact op_add_str pins s σ H _ _ _ _ Q I rx ry ⟨i, j, rfl, rfl, q.1, l.here q.2 (.str _) z⟩
  | .add, .tup i, .tup j, .tup (a := a) (vs := vs) t1 r1, .tup (a := b) (vs := ws) t2 r2, q =>
    refine op_catT pins s σ H _ _ _ _ Q I rx ry ⟨a, b, vs, ws, rfl, rfl, hK ▸ t1.sq, hK ▸ t2.sq, fun e => q.1 (r1.nil_iff.mpr e), by rw [← r1.length, ← r2.length]; exact q.2.1, fun e => ?_, fun _ p n => ?_⟩
    · have e2 : j = [] := r2.nil_iff.mpr e
      subst e2
      exact l.here q.2.2 (.tup t1 (by simpa using r1)) z
    · exact l _ _ _ _ q.2.2 (.new n) (.tup (.inl upd_same) ((r1.append r2).ext (.new n))) (z.keep n)
  | .add, .loc a, .loc b, .loc _, .loc _, q =>
    simp only [binV] at q
    split at q
    · rename_i xs ys e1 e2
      obtain ⟨vs, g1, r1⟩ := z.lst e1
      obtain ⟨ws, g2, r2⟩ := z.lst e2
      refine op_cat pins s σ H _ _ _ _ Q I rx ry ⟨a, b, vs, ws, rfl, rfl, g1, g2, by rw [← r1.length, ← r2.length]; exact q.1, fun p n => ?_⟩
      exact l _ _ _ _ (q.2 p (z.free n)) (.new n) (.loc p) (rlst_new z n (r1.append r2))
    · exact q.elim
  | .sub, .int i, .int j, .int _, .int _, q => exact op_sub pins s σ H _ _ _ _ Q I rx ry ⟨i, j, rfl, rfl, l.here q (.int _) z⟩
  | .mul, .int i, .int j, .int _, .int _, q =>
    rcases q.1 with c | c
    · exact op_mul pins s σ H _ _ _ _ Q I rx ry ⟨i, j, rfl, rfl, c, l.here q.2 (.int _) z⟩
    · exact op_mulW pins s σ H _ _ _ _ Q I rx ry ⟨i, j, rfl, rfl, c, l.here q.2 (.int _) z⟩
  | .mul, .str i, .int j, .str _, .int _, q =>
    obtain ⟨t, rfl⟩ := rx
    obtain ⟨t2, rfl⟩ := ry
    exact SB.mul q.1 fun t' k => ⟨.str _, H, I.tok k, ⟨t', rfl⟩, l.here q.2 (.str _) z⟩
  | .div, .int i, .int j, .int _, .int _, q =>
    rcases q.1 with c | c
    · exact op_fdiv pins s σ H _ _ _ _ Q I rx ry ⟨i, j, rfl, rfl, c, l.here q.2 (.int _) z⟩
    · exact op_fdivW pins s σ H _ _ _ _ Q I rx ry ⟨i, j, rfl, rfl, c, l.here q.2 (.int _) z⟩
  | .mod, .int i, .int j, .int _, .int _, q => exact op_mod pins s σ H _ _ _ _ Q I rx ry ⟨i, j, rfl, rfl, q.1, l.here q.2 (.int _) z⟩
  | .pow, .int i, .int j, .int _, .int _, q => exact op_pow pins s σ H _ _ _ _ Q I rx ry ⟨i, j, rfl, rfl, q.1, l.here q.2 (.int _) z⟩
theorem iop_bin (hK : X.K = P.K) (k : BinK) : OpR X (inplaceOp (bOp k)) (rTwo P (augV k)) := by
  intro pins s σ H x y v u Q I rx ry ⟨a, b, h, Qp, ra, rb, z, q, l⟩
  match k, a, b, ra, rb, q with
  | .add, .int i, .int j, .int _, .int _, q => exact iop_add pins s σ H _ _ _ _ Q I rx ry ⟨i, j, rfl, rfl, l.here q (.int _) z⟩
  | .add, .str i, .str j, .str _, .str _, q => exact iop_add_str pins s σ H _ _ _ _ Q I rx ry ⟨i, j, rfl, rfl, q.1, l.here q.2 (.str _) z⟩
  | .add, .loc a, .loc b, .loc _, .loc _, q =>
    simp only [augV] at q
    split at q
    · rename_i xs ys e1 e2
      obtain ⟨vs, g1, r1⟩ := z.lst e1
      obtain ⟨ws, g2, r2⟩ := z.lst e2
      refine iop_ext pins s σ H _ _ _ _ Q I rx ry ⟨a, b, vs, ws, rfl, rfl, g1, g2, by rw [← r1.length, ← r2.length]; exact q.1, ?_⟩
      exact l _ _ _ _ q.2 (z.chg e1 _) (.loc a) (rlst_put z e1 (r1.append r2))
    · exact q.elim
  | .sub, .int i, .int j, .int _, .int _, q => exact iop_sub pins s σ H _ _ _ _ Q I rx ry ⟨i, j, rfl, rfl, l.here q (.int _) z⟩
  | .mul, .int i, .int j, .int _, .int _, q => exact iop_mul pins s σ H _ _ _ _ Q I rx ry ⟨i, j, rfl, rfl, q.1, l.here q.2 (.int _) z⟩
end
end Mir

set_option autoImplicit true
namespace Mir
open PySem L2
open PyProof.Rows hiding St

/-! ## equality -/
theorem deqL_spec (f : PV → PV → Option Bool) : ∀ (xs ys : List PV) (b : Bool), deqL f xs ys = some b →
    b = ((List.range (min xs.length ys.length)).all (fun j => (f (xs.getD j .non) (ys.getD j .non)).getD false) && xs.length == ys.length) ∧
      ∀ j, j < xs.length → j < ys.length → ∃ c, f (xs.getD j .non) (ys.getD j .non) = some c
  | [], [], b, e => by simp [deqL] at e; subst e; simp
  | [], y :: ys, b, e => by simp [deqL] at e; subst e; simp
  | x :: xs, [], b, e => by simp [deqL] at e; subst e; simp
  | x :: xs, y :: ys, b, e => by
    simp only [deqL] at e
    split at e
    · rename_i a c e1 e2
      obtain ⟨h1, h2⟩ := deqL_spec f xs ys c e2
      cases e
      refine ⟨?_, fun j j1 j2 => ?_⟩
      · have m : min (x :: xs).length (y :: ys).length = min xs.length ys.length + 1 := by simp only [List.length_cons]; omega
        rw [m, List.range_succ_eq_map, List.all_cons, List.all_map, h1]
        simp [e1, Function.comp_def, Bool.and_assoc]
      · cases j with
        | zero => exact ⟨a, by simpa using e1⟩
        | succ j =>
          obtain ⟨d, q⟩ := h2 j (by simpa using j1) (by simpa using j2)
          exact ⟨d, by simpa using q⟩
    · cases e
section
variable {X : Cx} {P : Pm} {pins : List (Addr × Obj)} {σ : L2.St} {H : Hp} {s : Shared} {h : PH}
theorem TAt.inj (I : Inv X pins σ H s) {a : Addr} {vs ws : List V} (x : TAt X.K H a vs) (y : TAt X.K H a ws) : vs = ws := I.tuple_inj x.sq y.sq
mutual
theorem deq_same (I : Inv X pins σ H s) (z : HR P h H) (hK : X.K = P.K) : ∀ (n : Nat) {x y : PV} {v : V} {e : Bool}, RP X.K H x v → RP X.K H y v → deq h n x y = some e → e = true
  | n, _, _, _, _, .non, .non, e => by simp [deq] at e; exact e
  | n, _, _, _, _, .bl b, .bl _, e => by simp [deq] at e; exact e
  | n, _, _, _, _, .int i, .int _, e => by simp [deq] at e; exact e
  | n, _, _, _, _, .str i, .str _, e => by simp [deq] at e; exact e
  | 0, _, _, _, _, .tup t r, .tup t' r', e => by simp [deq] at e
  | n + 1, _, _, _, _, .tup t r, .tup t' r', e => by
    have q := TAt.inj I t t'
    subst q
    simp only [deq] at e
    exact deqL_same I z hK n r r' e
  | 0, _, _, _, _, .loc a, .loc _, e => by simp [deq] at e
  | n + 1, _, _, _, _, .loc a, .loc _, e => by
    simp only [deq] at e
    split at e
    · rename_i xs ys e1 e2
      rw [e1] at e2
      cases e2
      obtain ⟨vs, _, r⟩ := z.lst e1
      exact deqL_same I z hK n (hK ▸ r) (hK ▸ r) e
    · cases e
  | n, _, _, _, _, .fl .., .tup .., e => by cases n <;> simp [deq] at e
  | n, _, _, _, _, .fl .., .fl .., e => by cases n <;> simp [deq] at e
  | n, _, _, _, _, .fl .., .loc .., e => by cases n <;> simp [deq] at e
  | n, _, _, _, _, .tup .., .fl .., e => by cases n <;> simp [deq] at e
  | n, _, _, _, _, .tup .., .loc .., e => by cases n <;> simp [deq] at e
  | n, _, _, _, _, .loc .., .fl .., e => by cases n <;> simp [deq] at e
  | n, _, _, _, _, .loc .., .tup .., e => by cases n <;> simp [deq] at e
theorem deqL_same (I : Inv X pins σ H s) (z : HR P h H) (hK : X.K = P.K) : ∀ (n : Nat) {xs ys : List PV} {vs : List V} {e : Bool}, RPs X.K H xs vs → RPs X.K H ys vs → deqL (deq h n) xs ys = some e → e = true
  | n, _, _, _, _, .nil, .nil, e => by simp [deqL] at e; exact e
  | n, _, _, _, _, .cons r t, .cons r' t', e => by
    simp only [deqL] at e
    split at e
    · rename_i a b e1 e2
      cases e
      have h1 := deq_same I z hK n r r' e1
      have h2 := deqL_same I z hK n t t' e2
      simp [h1, h2]
    · cases e
end
theorem vals_at {vs : List V} {us : List Value} (r : Vals vs us) {j : Nat} (h1 : j < us.length) : ∃ v, vs[j]? = some v ∧ RelV v us[j] := by
  obtain ⟨v, e⟩ : ∃ v, vs[j]? = some v := by
    have l := r.length
    exact ⟨vs[j]'(by omega), List.getElem?_eq_getElem (by omega)⟩
  obtain ⟨u, q, rr⟩ := r.get e
  rw [List.getElem?_eq_getElem h1] at q
  cases q
  exact ⟨v, e, rr⟩
theorem in1_units (A : Around) : A.in1.units = A.units + 1 := rfl
/-- lists of values, item by item -/
theorem items_eq {f : PV → PV → Option Bool} {A : Around} {xs ys : List PV} {vs ws : List V} {us us' : List Value} {b : Bool}
    (ih : ∀ x y v w u u' e, RP X.K H x v → RP X.K H y w → RelV v u → RelV w u' → f x y = some e → SeqAt.EqAt A s u u' e)
    (r : RPs X.K H xs vs) (r' : RPs X.K H ys ws) (q : Vals vs us) (q' : Vals ws us') (e : deqL f xs ys = some b) :
    ∀ j (h1 : j < us.toArray.size) (h2 : j < us'.toArray.size), SeqAt.EqAt A s us.toArray[j] us'.toArray[j] ((f (xs.getD j .non) (ys.getD j .non)).getD false) := by
  intro j h1 h2
  obtain ⟨_, k⟩ := deqL_spec f xs ys b e
  have h1' : j < us.length := by simpa using h1
  have h2' : j < us'.length := by simpa using h2
  obtain ⟨v, e1, rv⟩ := vals_at q h1'
  obtain ⟨w, e2, rw'⟩ := vals_at q' h2'
  obtain ⟨x, f1, rx⟩ := r.getR e1
  obtain ⟨y, f2, ry⟩ := r'.getR e2
  have l1 : j < xs.length := (List.getElem?_eq_some_iff.mp f1).1
  have l2 : j < ys.length := (List.getElem?_eq_some_iff.mp f2).1
  obtain ⟨c, ec⟩ := k j l1 l2
  have g1 : xs.getD j .non = x := by simp [List.getD, f1]
  have g2 : ys.getD j .non = y := by simp [List.getD, f2]
  rw [g1, g2] at ec ⊢
  rw [ec]
  simpa using ih x y v w _ _ c rx ry rv rw' ec
theorem deqL_ans {f : PV → PV → Option Bool} {xs ys : List PV} {b : Bool} {n m : Nat} (e : deqL f xs ys = some b) (h1 : n = xs.length) (h2 : m = ys.length) :
    ((List.range (min n m)).all (fun j => (f (xs.getD j .non) (ys.getD j .non)).getD false) && n == m) = b := by
  subst h1 h2
  exact (deqL_spec f xs ys b e).1.symm
theorem size_of {vs : List V} {xs : List PV} {us : List Value} (r : RPs X.K H xs vs) (q : Vals vs us) : us.toArray.size = xs.length := by
  rw [List.size_toArray, ← q.length, ← r.length]
theorem eqAt_deq (I : Inv X pins σ H s) (z : HR P h H) (hK : X.K = P.K) : ∀ (n : Nat) (A : Around) (x y : PV) (v w : V) (u u' : Value) (e : Bool), A.units + n < cLine → RP X.K H x v → RP X.K H y w → RelV v u → RelV w u' → deq h n x y = some e → SeqAt.EqAt A s u u' e := by
  intro n
  induction n with
  | zero =>
    intro A x y v w u u' e hu rx ry rv rw' he
    cases rx with
    | tup t r => cases ry <;> simp [deq] at he
    | loc a => cases ry <;> simp [deq] at he
    | fl _ _ => cases ry <;> simp [deq] at he
    | non =>
      cases rv
      cases ry with
      | non => simp [deq] at he; subst he; cases rw'; exact .same _
      | bl _ => simp [deq] at he; subst he; cases rw'; exact .none_bool _
      | int _ => simp [deq] at he; subst he; obtain ⟨_, rfl⟩ := rw'; exact .none_int _ _
      | str _ => simp [deq] at he; subst he; obtain ⟨_, rfl⟩ := rw'; exact .none_str _ _
      | fl _ _ => simp [deq] at he
      | loc _ => simp [deq] at he
      | tup t r => simp [deq] at he
    | bl b =>
      cases rv
      cases ry with
      | non => simp [deq] at he; subst he; cases rw'; exact .bool_none _
      | bl _ => simp only [deq, Option.some.injEq] at he; subst he; cases rw'; exact .bool_bool _ _
      | int _ => simp only [deq, Option.some.injEq] at he; subst he; obtain ⟨_, rfl⟩ := rw'; exact .bool_int _ _ _
      | str _ => simp [deq] at he; subst he; obtain ⟨_, rfl⟩ := rw'; exact .bool_str _ _ _
      | fl _ _ => simp [deq] at he
      | loc _ => simp [deq] at he
      | tup t r => simp [deq] at he
    | int b =>
      obtain ⟨_, rfl⟩ := rv
      cases ry with
      | non => simp [deq] at he; subst he; cases rw'; exact .int_none _ _
      | bl _ => simp only [deq, Option.some.injEq] at he; subst he; cases rw'; exact .int_bool _ _ _
      | int _ => simp only [deq, Option.some.injEq] at he; subst he; obtain ⟨_, rfl⟩ := rw'; exact .int_int _ _ _ _
      | str _ => simp [deq] at he; subst he; obtain ⟨_, rfl⟩ := rw'; exact .int_str _ _ _ _
      | fl _ _ => simp [deq] at he
      | loc _ => simp [deq] at he
      | tup t r => simp [deq] at he
    | str b =>
      obtain ⟨_, rfl⟩ := rv
      cases ry with
      | non => simp [deq] at he; subst he; cases rw'; exact .str_none _ _
      | bl _ => simp [deq] at he; subst he; cases rw'; exact .str_bool _ _ _
      | int _ => simp [deq] at he; subst he; obtain ⟨_, rfl⟩ := rw'; exact .str_int _ _ _ _
      | str _ => simp only [deq, Option.some.injEq] at he; subst he; obtain ⟨_, rfl⟩ := rw'; exact .str_str _ _ _ _
      | fl _ _ => simp [deq] at he
      | loc _ => simp [deq] at he
      | tup t r => simp [deq] at he
  | succ n ih =>
    intro A x y v w u u' e hu rx ry rv rw' he
    have hu0 : A.units < cLine := by omega
    have hin : A.in1.units + n < cLine := by rw [in1_units]; omega
    have go : ∀ x y v w u u' e, RP X.K H x v → RP X.K H y w → RelV v u → RelV w u' → deq h n x y = some e → SeqAt.EqAt A.in1 s u u' e := fun x y v w u u' e a b c d k => ih A.in1 x y v w u u' e hin a b c d k
    cases rx with
    | tup t r =>
      rename_i a xs vs
      cases rv
      obtain ⟨us, q, p, _⟩ := I.tuple t.sq
      have p : s.heap.IsTuple a us.toArray := p
      cases ry with
      | tup t' r' =>
        rename_i a' ys ws
        cases rw'
        obtain ⟨us', q', p', _⟩ := I.tuple t'.sq
        have p' : s.heap.IsTuple a' us'.toArray := p'
        by_cases ha : a = a'
        · subst ha
          rw [deq_same I z hK (n + 1) (.tup t r) (.tup t' r') he]
          exact .same _
        · simp only [deq] at he
          rw [← deqL_ans he (size_of r q) (size_of r' q')]
          exact .of_refs ha (.tuples p p' hu0 (items_eq go r r' q q' he))
      | non => simp [deq] at he; subst he; cases rw'; exact .tuple_none p hu0
      | bl b => simp [deq] at he
      | int i => simp [deq] at he; subst he; obtain ⟨_, rfl⟩ := rw'; exact .tuple_int _ _ p hu0
      | str i => simp [deq] at he; subst he; obtain ⟨_, rfl⟩ := rw'; exact .tuple_str _ _ p hu0
      | fl _ _ => simp [deq] at he
      | loc b => simp [deq] at he
    | loc a =>
      cases rv
      cases ry with
      | loc a' =>
        cases rw'
        by_cases ha : a = a'
        · subst ha
          rw [deq_same I z hK (n + 1) (.loc a) (.loc a) he]
          exact .same _
        · simp only [deq] at he
          split at he
          · rename_i xs ys e1 e2
            obtain ⟨vs, g1, r⟩ := z.lst e1
            obtain ⟨ws, g2, r'⟩ := z.lst e2
            rw [← hK] at r r'
            obtain ⟨us, q, p, _⟩ := I.list (SqL.of (K := X.K) g1)
            obtain ⟨us', q', p', _⟩ := I.list (SqL.of (K := X.K) g2)
            have an := deqL_ans he (size_of r q) (size_of r' q')
            by_cases hs : us.toArray.size = us'.toArray.size
            · rw [← hs, Nat.min_self] at an
              rw [← an]
              simp only [beq_self_eq_true, Bool.and_true]
              exact .of_refs ha (.lists p.isList p'.isList hs hu0 (items_eq go r r' q q' he))
            · have : e = false := by rw [← an]; simp only [Bool.and_eq_false_iff, beq_eq_false_iff_ne]; exact .inr hs
              subst this
              exact .of_refs ha (.lists_lengths p.isList p'.isList (by simpa using hs) hu0)
          · cases he
      | non => simp [deq] at he
      | bl b => simp [deq] at he
      | int i => simp [deq] at he
      | str i => simp [deq] at he
      | fl _ _ => simp [deq] at he
      | tup _ _ => simp [deq] at he
    | fl _ _ => cases ry <;> simp [deq] at he
    | non =>
      cases rv
      cases ry with
      | non => simp [deq] at he; subst he; cases rw'; exact .same _
      | bl _ => simp [deq] at he; subst he; cases rw'; exact .none_bool _
      | int _ => simp [deq] at he; subst he; obtain ⟨_, rfl⟩ := rw'; exact .none_int _ _
      | str _ => simp [deq] at he; subst he; obtain ⟨_, rfl⟩ := rw'; exact .none_str _ _
      | fl _ _ => simp [deq] at he
      | loc _ => simp [deq] at he
      | tup t r => 
        simp [deq] at he
        subst he
        cases rw'
        obtain ⟨us, q, p, _⟩ := I.tuple t.sq
        exact .none_tuple p hu0
    | bl b =>
      cases rv
      cases ry with
      | non => simp [deq] at he; subst he; cases rw'; exact .bool_none _
      | bl _ => simp only [deq, Option.some.injEq] at he; subst he; cases rw'; exact .bool_bool _ _
      | int _ => simp only [deq, Option.some.injEq] at he; subst he; obtain ⟨_, rfl⟩ := rw'; exact .bool_int _ _ _
      | str _ => simp [deq] at he; subst he; obtain ⟨_, rfl⟩ := rw'; exact .bool_str _ _ _
      | fl _ _ => simp [deq] at he
      | loc _ => simp [deq] at he
      | tup t r => simp [deq] at he
    | int b =>
      obtain ⟨_, rfl⟩ := rv
      cases ry with
      | non => simp [deq] at he; subst he; cases rw'; exact .int_none _ _
      | bl _ => simp only [deq, Option.some.injEq] at he; subst he; cases rw'; exact .int_bool _ _ _
      | int _ => simp only [deq, Option.some.injEq] at he; subst he; obtain ⟨_, rfl⟩ := rw'; exact .int_int _ _ _ _
      | str _ => simp [deq] at he; subst he; obtain ⟨_, rfl⟩ := rw'; exact .int_str _ _ _ _
      | fl _ _ => simp [deq] at he
      | loc _ => simp [deq] at he
      | tup t r => 
        simp [deq] at he
        subst he
        cases rw'
        obtain ⟨us, q, p, _⟩ := I.tuple t.sq
        exact .int_tuple _ _ p hu0
    | str b =>
      obtain ⟨_, rfl⟩ := rv
      cases ry with
      | non => simp [deq] at he; subst he; cases rw'; exact .str_none _ _
      | bl _ => simp [deq] at he; subst he; cases rw'; exact .str_bool _ _ _
      | int _ => simp [deq] at he; subst he; obtain ⟨_, rfl⟩ := rw'; exact .str_int _ _ _ _
      | str _ => simp only [deq, Option.some.injEq] at he; subst he; obtain ⟨_, rfl⟩ := rw'; exact .str_str _ _ _ _
      | fl _ _ => simp [deq] at he
      | loc _ => simp [deq] at he
      | tup t r => 
        simp [deq] at he
        subst he
        cases rw'
        obtain ⟨us, q, p, _⟩ := I.tuple t.sq
        exact .str_tuple _ _ p hu0
end
end Mir

set_option autoImplicit true
namespace Mir
open PySem L2
open PyProof.Rows hiding St

section
variable {X : Cx} {P : Pm} {pins : List (Addr × Obj)} {σ : L2.St} {H : Hp} {s : Shared} {h : PH}
theorem items_all {f : PV → PV → Option Bool} {xs ys : List PV} {b : Bool} {n m : Nat} (an : ((List.range (min n m)).all (fun j => (f (xs.getD j .non) (ys.getD j .non)).getD false) && n == m) = b) (hs : n = m) :
    (List.range n).all (fun j => (f (xs.getD j .non) (ys.getD j .non)).getD false) = b := by
  rw [← hs, Nat.min_self] at an
  rw [← an]
  simp only [beq_self_eq_true, Bool.and_true]
/-- both comparisons at the top -/
theorem rc_both (I : Inv X pins σ H s) (z : HR P h H) (hK : X.K = P.K) (hu : X.A.units + 64 < cLine) {x y : PV} {v w : V} {u u' : Value} {e : Bool} (rx : RP X.K H x v) (ry : RP X.K H y w) (rv : RelV v u) (rw' : RelV w u') (he : deq h 20 x y = some e) :
    SeqAt.RcAt X.A s u u' e ∧ SeqAt.RcNeAt X.A s u u' (!e) := by
  have hu0 : X.A.units < cLine := by omega
  have hin : X.A.in1.units + 19 < cLine := by rw [in1_units]; omega
  have go : ∀ x y v w u u' e, RP X.K H x v → RP X.K H y w → RelV v u → RelV w u' → deq h 19 x y = some e → SeqAt.EqAt X.A.in1 s u u' e := fun x y v w u u' e a b c d k => eqAt_deq I z hK 19 X.A.in1 x y v w u u' e hin a b c d k
  cases rx with
  | tup t r =>
    rename_i a xs vs
    cases rv
    obtain ⟨us, q, p, _⟩ := I.tuple t.sq
    have p : s.heap.IsTuple a us.toArray := p
    cases ry with
    | tup t' r' =>
      rename_i a' ys ws
      cases rw'
      obtain ⟨us', q', p', _⟩ := I.tuple t'.sq
      have p' : s.heap.IsTuple a' us'.toArray := p'
      simp only [deq] at he
      have an := deqL_ans he (size_of r q) (size_of r' q')
      have it := items_eq go r r' q q' he
      refine ⟨?_, ?_⟩
      · rw [← an]; exact .tuples p p' hu0 it
      · rw [← an]; exact .tuples p p' hu0 it
    | non => simp [deq] at he; subst he; cases rw'; exact ⟨.tuple_none p hu0, .tuple_none p hu0⟩
    | bl b => simp [deq] at he
    | int i => simp [deq] at he; subst he; obtain ⟨_, rfl⟩ := rw'; exact ⟨.tuple_int _ _ p hu0, .tuple_int _ _ p hu0⟩
    | str i => simp [deq] at he; subst he; obtain ⟨_, rfl⟩ := rw'; exact ⟨.tuple_str _ _ p hu0, .tuple_str _ _ p hu0⟩
    | fl _ _ => simp [deq] at he
    | loc b => simp [deq] at he
  | loc a =>
    cases rv
    cases ry with
    | loc a' =>
      cases rw'
      simp only [deq] at he
      split at he
      · rename_i xs ys e1 e2
        obtain ⟨vs, g1, r⟩ := z.lst e1
        obtain ⟨ws, g2, r'⟩ := z.lst e2
        rw [← hK] at r r'
        obtain ⟨us, q, p, _⟩ := I.list (SqL.of (K := X.K) g1)
        obtain ⟨us', q', p', _⟩ := I.list (SqL.of (K := X.K) g2)
        have an := deqL_ans he (size_of r q) (size_of r' q')
        have it := items_eq go r r' q q' he
        by_cases hs : us.toArray.size = us'.toArray.size
        · have an' := items_all an hs
          refine ⟨?_, ?_⟩
          · rw [← an']; exact .lists p.isList p'.isList hs hu0 it
          · rw [← an']; exact .lists p.isList p'.isList hs hu0 it
        · have : e = false := by rw [← an]; simp only [Bool.and_eq_false_iff, beq_eq_false_iff_ne]; exact .inr hs
          subst this
          exact ⟨.lists_lengths p.isList p'.isList (by simpa using hs) hu0, .lists_lengths p.isList p'.isList (by simpa using hs) hu0⟩
      · cases he
    | non => simp [deq] at he
    | bl b => simp [deq] at he
    | int i => simp [deq] at he
    | str i => simp [deq] at he
    | fl _ _ => simp [deq] at he
    | tup _ _ => simp [deq] at he
  | fl _ _ => cases ry <;> simp [deq] at he
  | non =>
    cases rv
    cases ry with
    | non => simp [deq] at he; subst he; cases rw'; exact ⟨.none_none, .none_none⟩
    | bl _ => simp [deq] at he; subst he; cases rw'; exact ⟨.none_bool _, .none_bool _⟩
    | int _ => simp [deq] at he; subst he; obtain ⟨_, rfl⟩ := rw'; exact ⟨.none_int _ _, .none_int _ _⟩
    | str _ => simp [deq] at he; subst he; obtain ⟨_, rfl⟩ := rw'; exact ⟨.none_str _ _, .none_str _ _⟩
    | fl _ _ => simp [deq] at he
    | loc _ => simp [deq] at he
    | tup t r =>
      simp [deq] at he
      subst he
      cases rw'
      obtain ⟨us, q, p, _⟩ := I.tuple t.sq
      exact ⟨.none_tuple p hu0, .none_tuple p hu0⟩
  | bl b =>
    cases rv
    cases ry with
    | non => simp [deq] at he; subst he; cases rw'; exact ⟨.bool_none _, .bool_none _⟩
    | bl _ => simp only [deq, Option.some.injEq] at he; subst he; cases rw'; exact ⟨.bool_bool _ _, .bool_bool _ _⟩
    | int _ => simp only [deq, Option.some.injEq] at he; subst he; obtain ⟨_, rfl⟩ := rw'; exact ⟨.bool_int _ _ _, .bool_int _ _ _⟩
    | str _ => simp [deq] at he; subst he; obtain ⟨_, rfl⟩ := rw'; exact ⟨.bool_str _ _ _, .bool_str _ _ _⟩
    | fl _ _ => simp [deq] at he
    | loc _ => simp [deq] at he
    | tup t r => simp [deq] at he
  | int b =>
    obtain ⟨_, rfl⟩ := rv
    cases ry with
    | non => simp [deq] at he; subst he; cases rw'; exact ⟨.int_none _ _, .int_none _ _⟩
    | bl _ => simp only [deq, Option.some.injEq] at he; subst he; cases rw'; exact ⟨.int_bool _ _ _, .int_bool _ _ _⟩
    | int _ => simp only [deq, Option.some.injEq] at he; subst he; obtain ⟨_, rfl⟩ := rw'; exact ⟨.int_int _ _ _ _, .int_int _ _ _ _⟩
    | str _ => simp [deq] at he; subst he; obtain ⟨_, rfl⟩ := rw'; exact ⟨.int_str _ _ _ _, .int_str _ _ _ _⟩
    | fl _ _ => simp [deq] at he
    | loc _ => simp [deq] at he
    | tup t r =>
      simp [deq] at he
      subst he
      cases rw'
      obtain ⟨us, q, p, _⟩ := I.tuple t.sq
      exact ⟨.int_tuple _ _ p hu0, .int_tuple _ _ p hu0⟩
  | str b =>
    obtain ⟨_, rfl⟩ := rv
    cases ry with
    | non => simp [deq] at he; subst he; cases rw'; exact ⟨.str_none _ _, .str_none _ _⟩
    | bl _ => simp [deq] at he; subst he; cases rw'; exact ⟨.str_bool _ _ _, .str_bool _ _ _⟩
    | int _ => simp [deq] at he; subst he; obtain ⟨_, rfl⟩ := rw'; exact ⟨.str_int _ _ _ _, .str_int _ _ _ _⟩
    | str _ => simp only [deq, Option.some.injEq] at he; subst he; obtain ⟨_, rfl⟩ := rw'; exact ⟨.str_str _ _ _ _, .str_str _ _ _ _⟩
    | fl _ _ => simp [deq] at he
    | loc _ => simp [deq] at he
    | tup t r =>
      simp [deq] at he
      subst he
      cases rw'
      obtain ⟨us, q, p, _⟩ := I.tuple t.sq
      exact ⟨.str_tuple _ _ p hu0, .str_tuple _ _ p hu0⟩

/-! ## dicts -/
theorem valP_eq (kvs : List (Key × PV)) (k : Key) : valP kvs k = (kvs.find? fun kv => decide (kv.1 = k)).map (·.2) := rfl
theorem rk_val {K : PySem.W.Frag} {H : Hp} (k : Key) : ∀ {kvs : List (Key × PV)} {ws : List (Key × V)}, RK K H kvs ws → (∀ v, valP kvs k = some v → ∃ w, valV ws k = some w ∧ RP K H v w) ∧ (valP kvs k = none → valV ws k = none)
  | [], _, .nil => ⟨fun v e => by simp [valP] at e, fun _ => rfl⟩
  | p :: r, _, .cons (b := q) a t => by
    obtain ⟨h1, h2⟩ := rk_val k t
    obtain ⟨k1, v1⟩ := p
    obtain ⟨k2, v2⟩ := q
    obtain ⟨ek, er⟩ := a
    simp only at ek er
    subst ek
    by_cases e : k1 = k
    · subst e
      refine ⟨fun v q => ?_, fun q => ?_⟩
      · simp [valP] at q; subst q; exact ⟨v2, by simp [valV], er⟩
      · simp [valP] at q
    · refine ⟨fun v q => ?_, fun q => ?_⟩
      · have q' : valP r k = some v := by simpa [valP, e] using q
        obtain ⟨w, a, b⟩ := h1 v q'
        exact ⟨w, by simpa [valV, e] using a, b⟩
      · have q' : valP r k = none := by simpa [valP, e] using q
        simpa [valV, e] using h2 q'
theorem rk_any {K : PySem.W.Frag} {H : Hp} (k : Key) : ∀ {kvs : List (Key × PV)} {ws : List (Key × V)}, RK K H kvs ws → (kvs.any fun kv => decide (kv.1 = k)) = ws.any fun kv => decide (kv.1 = k)
  | _, _, .nil => rfl
  | _, _, .cons a t => by simp [rk_any k t, a.1]
theorem rk_append {K : PySem.W.Frag} {H : Hp} : ∀ {a b : List (Key × PV)} {c d : List (Key × V)}, RK K H a c → RK K H b d → RK K H (a ++ b) (c ++ d)
  | _, _, _, _, .nil, s => s
  | _, _, _, _, .cons r t, s => .cons r (rk_append t s)
theorem rk_repl {K : PySem.W.Frag} {H : Hp} {k : Key} {v : PV} {w : V} (r : RP K H v w) : ∀ {kvs : List (Key × PV)} {ws : List (Key × V)}, RK K H kvs ws →
    RK K H (kvs.map fun kv => if kv.1 = k then (kv.1, v) else kv) (ws.map fun kv => if kv.1 = k then (kv.1, w) else kv)
  | _, _, .nil => .nil
  | (k1, v1) :: _, (k2, v2) :: _, .cons a t => by
    obtain ⟨e, q⟩ := a
    simp only at e q
    subst e
    simp only [List.map_cons]
    refine .cons ?_ (rk_repl r t)
    by_cases e : k1 = k
    · rw [if_pos e, if_pos e]; exact ⟨rfl, r⟩
    · rw [if_neg e, if_neg e]; exact ⟨rfl, q⟩
theorem rk_put {K : PySem.W.Frag} {H : Hp} {k : Key} {v : PV} {w : V} (r : RP K H v w) {kvs : List (Key × PV)} {ws : List (Key × V)} (q : RK K H kvs ws) : RK K H (putP kvs k v) (putK ws k w) := by
  unfold putP putK
  rw [rk_any k q]
  split
  · exact rk_repl r q
  · exact rk_append q (.cons ⟨rfl, r⟩ .nil)
theorem rk_drop {K : PySem.W.Frag} {H : Hp} (k : Key) : ∀ {kvs : List (Key × PV)} {ws : List (Key × V)}, RK K H kvs ws → RK K H (dropP kvs k) (dropK ws k)
  | _, _, .nil => .nil
  | (k1, v1) :: _, (k2, v2) :: _, .cons a t => by
    obtain ⟨e, q⟩ := a
    simp only at e q
    subst e
    have ih := rk_drop k t
    by_cases e : k1 = k
    · simpa [dropP, dropK, e] using ih
    · simpa [dropP, dropK, e] using Paired.cons (F := fun (p : Key × PV) (q : Key × V) => p.1 = q.1 ∧ RP K H p.2 q.2) ⟨rfl, q⟩ ih
theorem rk_keys {K : PySem.W.Frag} {H : Hp} : ∀ {kvs : List (Key × PV)} {ws : List (Key × V)}, RK K H kvs ws → kvs.map (·.1) = ws.map (·.1)
  | _, _, .nil => rfl
  | _, _, .cons a t => by simp [rk_keys t, a.1]
theorem rk_keyvals {K : PySem.W.Frag} {H : Hp} : ∀ {kvs : List (Key × PV)} {ws : List (Key × V)}, RK K H kvs ws → RPs K H (kvs.map fun kv => kP kv.1) (ws.map fun kv => kV kv.1)
  | _, _, .nil => .nil
  | (k1, v1) :: _, (k2, v2) :: _, .cons a t => by
    obtain ⟨e, q⟩ := a
    simp only at e
    subst e
    refine .cons ?_ (rk_keyvals t)
    cases k1 with
    | inl i => exact .int i
    | inr x => exact .str x
theorem rk_merge {K : PySem.W.Frag} {H : Hp} : ∀ {more : List (Key × PV)} {ms : List (Key × V)} {kvs : List (Key × PV)} {ws : List (Key × V)}, RK K H more ms → RK K H kvs ws → RK K H (mergeP kvs more) (mergeK ws ms)
  | _, _, _, _, .nil, q => q
  | (k1, v1) :: _, (k2, v2) :: _, _, _, .cons a t, q => by
    obtain ⟨e, r⟩ := a
    simp only at e r
    subst e
    show RK K H (mergeP (putP _ k1 v1) _) (mergeK (putK _ k1 v2) _)
    exact rk_merge t (rk_put r q)
theorem toKey_rel {K : PySem.W.Frag} {H : Hp} {x : PV} {v : V} {k : Key} (r : RP K H x v) (e : toKey x = some k) : v = kV k := by
  cases r <;> simp [toKey] at e <;> subst e <;> rfl
theorem hits_of (I : Inv X pins σ H s) (z : HR P h H) (hK : X.K = P.K) (hu : X.A.units + 64 < cLine) {ls : List (Key × PV)} {wl : List (Key × V)} {vl : List (Key × Value)} (rl : RK X.K H ls wl) (kl : KV wl vl) :
    ∀ {ks : List (Key × PV)} {wk : List (Key × V)} {vk : List (Key × Value)} {b : Bool}, RK X.K H ks wk → KV wk vk → dhit (deq h 20) ls ks = some b → PySem.W.KeqHits X.A.in1 s vl vk b
  | _, _, _, _, .nil, .nil, e => by simp [dhit] at e; subst e; exact .nil
  | (k1, v1) :: _, (k2, v2) :: _, (k3, v3) :: _, b, .cons a t, .cons a' t', e => by
    obtain ⟨e1, r1⟩ := a
    obtain ⟨e2, r2⟩ := a'
    simp only at e1 r1 e2 r2
    subst e1 e2
    simp only [dhit] at e
    obtain ⟨p1, p2⟩ := rk_val k1 rl
    have kv := KV.val kl k1
    split at e
    · rename_i en
      cases e
      rw [p2 en] at kv
      exact .miss (RelO.none_of kv)
    · rename_i u en
      obtain ⟨w, q, rw'⟩ := p1 u en
      rw [q] at kv
      obtain ⟨y, ey, ry⟩ := RelO.some_of kv
      split at e
      · rename_i c d e3 e4
        cases e
        exact .hit ey (eqAt_deq I z hK 20 X.A.in1 v1 u v2 w v3 y c (by rw [in1_units]; omega) r1 rw' r2 ry e3) (hits_of I z hK hu rl kl t t' e4)
      · cases e
/-- == and != of dicts -/
theorem dict_both (I : Inv X pins σ H s) (z : HR P h H) (hK : X.K = P.K) (hu : X.A.units + 64 < cLine) {a b : Addr} {ks ls : List (Key × PV)} (e1 : h a = some (.dct false ks)) (e2 : h b = some (.dct false ls)) {k : Bool}
    (he : ks.length = ls.length → dhit (deq h 20) ls ks = some k) (hn : ks.length ≠ ls.length → k = false) :
    (∀ E Q, Q (.bool k) s → wpAny (model X.prog X.w) X.A (compareOp .Eq (.ref a) (.ref b)) Q E s) ∧ ∀ E Q, Q (.bool (!k)) s → wpAny (model X.prog X.w) X.A (compareOp .NotEq (.ref a) (.ref b)) Q E s := by
  obtain ⟨wk, g1, r1⟩ := z.dct e1
  obtain ⟨wl, g2, r2⟩ := z.dct e2
  rw [← hK] at r1 r2
  obtain ⟨_, y1, vk, k1, d1⟩ := dk_rd I.hok g1
  obtain ⟨_, y2, vl, k2, d2⟩ := dk_rd I.hok g2
  have l1 : ks.length = vk.length := (paired_len r1).trans k1.length
  have l2 : ls.length = vl.length := (paired_len r2).trans k2.length
  have hits : vk.length = vl.length → PySem.W.KeqHits X.A.in1 s vl vk k := fun e => hits_of I z hK hu r2 k2 r1 k1 (he (by omega))
  have ans : (vk.length == vl.length && k) = k := by
    by_cases e : vk.length = vl.length
    · simp [e]
    · rw [hn (by omega)]; simp
  refine ⟨fun E Q q => PySem.W.keq_eq y1 y2 d1 d2 (by omega) hits (by rw [ans]; exact q), fun E Q q => PySem.W.keq_ne y1 y2 d1 d2 (by omega) hits (by rw [ans]; exact q)⟩
end

def cOp : CmpK → CmpOp
  | .lt => .Lt | .le => .LtE | .gt => .Gt | .ge => .GtE | .eq => .Eq | .ne => .NotEq | .isn => .Is | .notn => .IsNot | .isin => .In | .notin => .NotIn
section
variable {X : Cx} {P : Pm}
theorem eqK_run (hK : X.K = P.K) (hu : X.A.units + 64 < cLine) {pins : List (Addr × Obj)} {s : Shared} {σ : L2.St} {H : Hp} {h : PH} {x y : PV} {v w : V} {u u' : Value} {Qb : Bool → Prop} (I : Inv X pins σ H s) (z : HR P h H)
    (rx : RP X.K H x v) (ry : RP X.K H y w) (rv : RelV v u) (rw' : RelV w u') (q : eqK h x y Qb) :
    ∃ k, Qb k ∧ (∀ E Q, Q (.bool k) s → wpAny (model X.prog X.w) X.A (compareOp .Eq u u') Q E s) ∧ ∀ E Q, Q (.bool (!k)) s → wpAny (model X.prog X.w) X.A (compareOp .NotEq u u') Q E s := by
  have flat : (match deq h 20 x y with | some k => Qb k | none => False) → ∃ k, Qb k ∧ (∀ E Q, Q (.bool k) s → wpAny (model X.prog X.w) X.A (compareOp .Eq u u') Q E s) ∧ ∀ E Q, Q (.bool (!k)) s → wpAny (model X.prog X.w) X.A (compareOp .NotEq u u') Q E s := by
    intro q
    split at q
    · rename_i k e
      obtain ⟨a, b⟩ := rc_both I z hK hu rx ry rv rw' e
      exact ⟨k, q, fun E Q qq => a X.prog X.w E Q qq, fun E Q qq => b X.prog X.w E Q qq⟩
    · exact q.elim
  unfold eqK at q
  split at q
  · rename_i a b
    cases rx
    cases ry
    cases rv
    cases rw'
    split at q
    · rename_i ks ls e1 e2
      split at q
      · rename_i hl
        split at q
        · rename_i k e
          obtain ⟨A, B⟩ := dict_both (k := k) I z hK hu e1 e2 (fun _ => e) (fun n => absurd hl n)
          exact ⟨k, q, A, B⟩
        · exact q.elim
      · rename_i hl
        obtain ⟨A, B⟩ := dict_both (k := false) I z hK hu e1 e2 (fun n => absurd n hl) (fun n => rfl)
        exact ⟨false, q, A, B⟩
    · exact flat q
  · exact flat q
theorem flat_rel {K : PySem.W.Frag} {H : Hp} {x : PV} {v : V} (r : RP K H x v) (f : flatP x = true) : flatV v = true := by
  cases r <;> simp [flatP] at f <;> rfl
theorem flats_rel {K : PySem.W.Frag} {H : Hp} : ∀ {xs : List PV} {vs : List V}, RPs K H xs vs → xs.all flatP = true → vs.all flatV = true
  | _, _, .nil, _ => rfl
  | _, _, .cons r t, f => by
    simp only [List.all_cons, Bool.and_eq_true] at f ⊢
    exact ⟨flat_rel r f.1, flats_rel t f.2⟩
theorem peq_eqV {K : PySem.W.Frag} {H : Hp} {x y : PV} {v w : V} (r : RP K H x v) (r' : RP K H y w) (f : flatP x = true) (g : flatP y = true) : peq x y = eqV v w := by
  cases r <;> simp [flatP] at f <;> cases r' <;> simp [flatP] at g <;> rfl
theorem pIn_inV {K : PySem.W.Frag} {H : Hp} {x : PV} {v : V} (r : RP K H x v) (f : flatP x = true) : ∀ {xs : List PV} {vs : List V}, RPs K H xs vs → xs.all flatP = true → pIn x xs = inV v vs
  | _, _, .nil, _ => rfl
  | _, _, .cons r' t, g => by
    simp only [List.all_cons, Bool.and_eq_true] at g
    simp only [pIn, inV, List.any_cons]
    have ih := pIn_inV r f t g.2
    simp only [pIn, inV] at ih
    rw [peq_eqV r' r g.1 f, ih]
theorem in_run (hK : X.K = P.K) (hu : X.A.units + 64 < cLine) {pins : List (Addr × Obj)} {s : Shared} {σ : L2.St} {H : Hp} {h : PH} {x c : PV} {v w : V} {u u' : Value} {Qb : Bool → Prop} (I : Inv X pins σ H s) (z : HR P h H)
    (rx : RP X.K H x v) (rc : RP X.K H c w) (rv : RelV v u) (rw' : RelV w u') (q : inK h x c Qb) :
    ∃ k, Qb k ∧ (∀ Q : VK, Q (.bl k) H → wpAny (model X.prog X.w) X.A (compareOp .In u u') (EP X pins σ Q) X.xe s) ∧ ∀ Q : VK, Q (.bl (!k)) H → wpAny (model X.prog X.w) X.A (compareOp .NotIn u u') (EP X pins σ Q) X.xe s := by
  have seq : ∀ {p : Addr} {xs : List PV} {vs : List V}, w = .ref p → (SqL X.K H p vs ∨ SqT X.K H p vs) → RPs X.K H xs vs → (flatP x = true ∧ xs.all flatP = true ∧ Qb (pIn x xs)) →
      ∃ k, Qb k ∧ (∀ Q : VK, Q (.bl k) H → wpAny (model X.prog X.w) X.A (compareOp .In u u') (EP X pins σ Q) X.xe s) ∧ ∀ Q : VK, Q (.bl (!k)) H → wpAny (model X.prog X.w) X.A (compareOp .NotIn u u') (EP X pins σ Q) X.xe s := by
    intro p xs vs ew sq r qq
    refine ⟨_, qq.2.2, fun Q g => ?_, fun Q g => ?_⟩
    · exact op_in_seq pins s σ H v w u u' Q I rv rw' ⟨p, vs, ew, sq, flat_rel rx qq.1, flats_rel r qq.2.1, by rw [← pIn_inV rx qq.1 r qq.2.1]; exact g⟩
    · exact op_notIn_seq pins s σ H v w u u' Q I rv rw' ⟨p, vs, ew, sq, flat_rel rx qq.1, flats_rel r qq.2.1, by rw [← pIn_inV rx qq.1 r qq.2.1]; exact g⟩
  unfold inK at q
  cases rc with
  | tup t r => exact seq rfl (.inr t.sq) r q
  | fl t r => exact seq rfl (.inl t.sq) r q
  | loc a =>
    simp only at q
    split at q
    · rename_i xs e
      obtain ⟨vs, g, r⟩ := z.lst e
      exact seq rfl (.inl (SqL.of g)) (hK ▸ r) q
    · rename_i f kvs e
      obtain ⟨ws, g, r⟩ := z.dct e
      split at q
      · rename_i k ek
        have ev := toKey_rel rx ek
        subst ev
        cases rw'
        have dg : DGet H a (kV k) (valV ws k) := .inl ⟨ws, k, g, rfl, rfl⟩
        have eo : (valV ws k).isSome = (valP kvs k).isSome := by
          obtain ⟨p1, p2⟩ := rk_val k r
          cases e3 : valP kvs k with
          | none => rw [p2 e3]; rfl
          | some v => obtain ⟨w, q, _⟩ := p1 v e3; rw [q]; rfl
        exact ⟨_, q, fun Q g => d_in (by omega) I dg rv fun s' I' => ⟨.bl _, H, I', rfl, by rw [eo]; exact g⟩, fun Q g => d_notIn (by omega) I dg rv fun s' I' => ⟨.bl _, H, I', rfl, by rw [eo]; exact g⟩⟩
      · exact q.elim
    · exact q.elim
  | str zz =>
    cases rx with
    | str ww =>
      simp only at q
      split at q
      · rename_i c ec
        have ew : ww = ⟨#[c]⟩ := TL.ext_tl ec
        subst ew
        exact ⟨_, q, fun Q g => op_in_sign pins s σ H _ _ u u' Q I rv rw' ⟨c, zz, rfl, rfl, g⟩, fun Q g => op_notIn_sign pins s σ H _ _ u u' Q I rv rw' ⟨c, zz, rfl, rfl, g⟩⟩
      · exact q.elim
    | _ => exact q.elim
  | _ => exact q.elim
theorem op_cmp (hK : X.K = P.K) (hu : X.A.units + 64 < cLine) (k : CmpK) : OpR X (compareOp (cOp k)) (rTwo P fun a b h Q => cmpV k a b h fun t => Q (.bl t) h) := by
  intro pins s σ H x y v u Q I rx ry ⟨a, b, h, Qp, ra, rb, z, q, l⟩
  cases k with
  | eq =>
    obtain ⟨k, qq, A, _⟩ := eqK_run hK hu I z (hK ▸ ra) (hK ▸ rb) rx ry q
    exact A _ _ ⟨.bl k, H, I, rfl, l.here qq (.bl _) z⟩
  | ne =>
    obtain ⟨k, qq, _, A⟩ := eqK_run hK hu I z (hK ▸ ra) (hK ▸ rb) rx ry q
    exact A _ _ ⟨.bl (!k), H, I, rfl, l.here qq (.bl _) z⟩
  | isin =>
    have q : inK h a b fun t => Qp (.bl t) h := by cases a <;> exact q
    obtain ⟨k, qq, A, _⟩ := in_run hK hu I z (hK ▸ ra) (hK ▸ rb) rx ry q
    exact A Q (l.here qq (.bl _) z)
  | notin =>
    have q : inK h a b fun t => Qp (.bl (!t)) h := by cases a <;> exact q
    obtain ⟨k, qq, _, A⟩ := in_run hK hu I z (hK ▸ ra) (hK ▸ rb) rx ry q
    exact A Q (l.here qq (.bl _) z)
  | isn =>
    cases rb with
    | non =>
      have q : Qp (.bl (match a with | .non => true | _ => false)) h := by cases a <;> exact q
      refine op_isN pins s σ H x _ v u Q I rx ry ⟨rfl, ?_⟩
      refine l.here q ?_ z
      cases ra <;> exact .bl _
    | bl b =>
      cases ra with
      | bl a => exact op_isBl pins s σ H _ _ v u Q I rx ry ⟨a, b, rfl, rfl, l.here q (.bl _) z⟩
      | _ => exact q.elim
    | _ => cases ra <;> exact q.elim
  | notn =>
    cases rb with
    | non =>
      have q : Qp (.bl (!(match a with | .non => true | _ => false))) h := by cases a <;> exact q
      refine op_notN pins s σ H x _ v u Q I rx ry ⟨rfl, ?_⟩
      refine l.here q ?_ z
      cases ra <;> exact .bl _
    | bl b =>
      cases ra with
      | bl a => exact op_notBl pins s σ H _ _ v u Q I rx ry ⟨a, b, rfl, rfl, l.here q (.bl _) z⟩
      | _ => exact q.elim
    | _ => cases ra <;> exact q.elim
  | lt =>
    cases ra <;> cases rb <;> first
      | exact op_lt pins s σ H _ _ v u Q I rx ry ⟨_, _, rfl, rfl, l.here q (.bl _) z⟩
      | exact op_lt_str pins s σ H _ _ v u Q I rx ry ⟨_, _, rfl, rfl, l.here q (.bl _) z⟩
      | exact q.elim
  | le =>
    cases ra <;> cases rb <;> first
      | exact op_le pins s σ H _ _ v u Q I rx ry ⟨_, _, rfl, rfl, l.here q (.bl _) z⟩
      | exact op_le_str pins s σ H _ _ v u Q I rx ry ⟨_, _, rfl, rfl, l.here q (.bl _) z⟩
      | exact q.elim
  | gt =>
    cases ra <;> cases rb <;> first
      | exact op_gt pins s σ H _ _ v u Q I rx ry ⟨_, _, rfl, rfl, l.here q (.bl _) z⟩
      | exact op_gt_str pins s σ H _ _ v u Q I rx ry ⟨_, _, rfl, rfl, l.here q (.bl _) z⟩
      | exact q.elim
  | ge =>
    cases ra <;> cases rb <;> first
      | exact op_ge pins s σ H _ _ v u Q I rx ry ⟨_, _, rfl, rfl, l.here q (.bl _) z⟩
      | exact op_ge_str pins s σ H _ _ v u Q I rx ry ⟨_, _, rfl, rfl, l.here q (.bl _) z⟩
      | exact q.elim
end
end Mir

set_option autoImplicit true
namespace Mir
open PySem L2
open PyProof.Rows hiding St

section
variable {X : Cx} {P : Pm} {H : Hp} {h : PH}
/-! ## truth -/
theorem tru_rel (z : HR P h H) {x : PV} {v : V} {Qb : Bool → Prop} (r : RP P.K H x v) (q : truV x h Qb) : ∃ k, TruV P.K v H k ∧ Qb k := by
  cases r with
  | non => exact ⟨false, rfl, q⟩
  | bl b => exact ⟨b, rfl, q⟩
  | int i => exact ⟨_, rfl, q⟩
  | str s => exact ⟨_, ⟨q.1, rfl⟩, q.2⟩
  | tup t r => exact ⟨_, .inr (.inl ⟨_, t.sq, rfl⟩), by rw [← r.isEmpty]; exact q⟩
  | fl t r => exact ⟨_, .inl ⟨_, t.sq, rfl⟩, by rw [← r.isEmpty]; exact q⟩
  | loc a =>
    simp only [truV] at q
    split at q
    · rename_i xs e
      obtain ⟨vs, g, r⟩ := z.lst e
      exact ⟨_, .inl ⟨_, SqL.of g, rfl⟩, by rw [← r.isEmpty]; exact q⟩
    · rename_i kvs e
      obtain ⟨ws, g, r⟩ := z a _ e
      refine ⟨_, .inr (.inr ⟨ws, g, rfl⟩), ?_⟩
      have : ws.isEmpty = kvs.isEmpty := by cases r <;> rfl
      rw [this]; exact q
    · exact q.elim

/-! ## subscripts -/
theorem atI_rel {xs : List PV} {vs : List V} {K : PySem.W.Frag} (r : RPs K H xs vs) {i : Int} {x : PV} (e : atI xs i = some x) : ∃ v, atI vs i = some v ∧ RP K H x v := by
  unfold atI at e ⊢
  rw [← r.length]
  cases q : ixN xs.length i with
  | none => rw [q] at e; cases e
  | some j =>
    rw [q] at e
    exact r.get (by simpa using e)
theorem ix_dct (hu : X.A.units + 1 < cLine) : IxR X (fun x y H Q => ∃ a v, x = .ref a ∧ DGet H a y (some v) ∧ Q v H) := by
  intro value slice pins s σ H x y v u Q I rx ry ⟨a, w, ex, g, q⟩ hs
  subst ex
  obtain rfl : v = Value.ref a := rx
  exact tail_any (dict_typeIs I g) PySem.F.slot_dict_getitem.lookup (d_getItem hu I g ry fun w' s3 I3 rw' => ⟨w, H, I3, rw', q⟩) hs
theorem ix_any (hK : X.K = P.K) (hu : X.A.units + 1 < cLine) : IxR X (rTwo P subV) := by
  intro value slice pins s σ H x y v u Q I rx ry ⟨a, b, h, Qp, ra, rb, z, q, l⟩ hs
  cases ra with
  | tup t r =>
    cases rb with
    | int i =>
      simp only [subV] at q
      split at q
      · rename_i x e
        obtain ⟨w, e', r'⟩ := atI_rel r e
        exact ix_tup value slice pins s σ H _ _ v u Q I rx ry ⟨_, _, i, w, rfl, rfl, hK ▸ t.sq, e', l.here q r' z⟩ hs
      · exact q.elim
    | _ => exact q.elim
  | fl t r =>
    cases rb with
    | int i =>
      simp only [subV] at q
      split at q
      · rename_i x e
        obtain ⟨w, e', r'⟩ := atI_rel r e
        exact ix_list value slice pins s σ H _ _ v u Q I rx ry ⟨_, _, i, w, rfl, rfl, hK ▸ t.sq, e', l.here q r' z⟩ hs
      · exact q.elim
    | _ => exact q.elim
  | str zz =>
    cases rb with
    | int i =>
      simp only [subV] at q
      obtain ⟨q0, q⟩ := q
      split at q
      · rename_i c e
        exact ix_str value slice pins s σ H _ _ v u Q I rx ry ⟨zz, i, c, rfl, rfl, q0, e, l.here q (.str _) z⟩ hs
      · exact q.elim
    | _ => exact q.elim
  | loc p =>
    simp only [subV] at q
    split at q
    · rename_i xs ex
      obtain ⟨vs, g, r⟩ := z.lst ex
      cases rb with
      | int i =>
        simp only at q
        split at q
        · rename_i x e
          obtain ⟨w, e', r'⟩ := atI_rel r e
          exact ix_list value slice pins s σ H _ _ v u Q I rx ry ⟨_, _, i, w, rfl, rfl, SqL.of g, e', l.here q r' z⟩ hs
        · exact q.elim
      | _ => exact q.elim
    · rename_i f kvs ex
      obtain ⟨ws, g, r⟩ := z.dct ex
      split at q
      · rename_i k ek
        split at q
        · rename_i x e
          have ev := toKey_rel rb ek
          subst ev
          obtain ⟨w, e', r'⟩ := (rk_val k r).1 x e
          exact ix_dct hu value slice pins s σ H _ _ v u Q I rx ry ⟨p, w, rfl, .inl ⟨ws, k, g, rfl, e'.symm⟩, l.here q r' z⟩ hs
        · exact q.elim
      · exact q.elim
    · exact q.elim
  | _ => exact q.elim
/-! ## slices -/
theorem cut_rel {xs : List PV} {vs : List V} {K : PySem.W.Frag} (r : RPs K H xs vs) (lo hi : Option Int) : RPs K H (cutP xs lo hi) (cutV vs lo hi) := by
  unfold cutP cutV
  rw [← r.length]
  exact (r.drop _).take _
def rSliP (P : Pm) : V → Option Int → Option Int → Hp → VK → Prop := fun x lo hi H Q => ∃ a h Qp, RP P.K H a x ∧ HR P h H ∧ sliV a lo hi h Qp ∧ Lft P H Qp Q
theorem sl_any (hK : X.K = P.K) : SlR X (rSliP P) := by
  intro pins s σ H x v vl vu lo hi sl Q I rx hs pl pu ⟨a, h, Qp, ra, z, q, l⟩
  cases ra with
  | str zz => exact sl_str pins s σ H _ v vl vu lo hi sl Q I rx hs pl pu ⟨zz, rfl, q.1, l.here q.2 (.str _) z⟩
  | tup t r =>
    refine sl_tup pins s σ H _ v vl vu lo hi sl Q I rx hs pl pu ⟨_, _, rfl, hK ▸ t.sq, by rw [← r.length]; exact q.1, fun p n => ?_⟩
    exact l _ _ _ _ q.2 (.new n) (.tup (.inl upd_same) ((cut_rel r lo hi).ext (.new n))) (z.keep n)
  | fl t r =>
    refine sl_list pins s σ H _ v vl vu lo hi sl Q I rx hs pl pu ⟨_, _, rfl, hK ▸ t.sq, fun p n => ?_⟩
    exact l _ _ _ _ (q p (z.free n)) (.new n) (.loc p) (rlst_new z n (cut_rel r lo hi))
  | loc p =>
    simp only [sliV] at q
    split at q
    · rename_i xs ex
      obtain ⟨vs, g, r⟩ := z.lst ex
      refine sl_list pins s σ H _ v vl vu lo hi sl Q I rx hs pl pu ⟨_, _, rfl, SqL.of g, fun p n => ?_⟩
      exact l _ _ _ _ (q p (z.free n)) (.new n) (.loc p) (rlst_new z n (cut_rel r lo hi))
    · exact q.elim
  | _ => exact q.elim
end

/-! ## built-in functions -/
def bltF : BltK → Value
  | .len => .builtin "len" | .abs => .builtin "abs" | .int => .type "int" | .str => .type "str" | .sum => .builtin "sum" | .all => .builtin "all" | .any => .builtin "any" | .max => .builtin "max" | .min => .builtin "min" | .divmod => .builtin "divmod"
  | .sorted => .builtin "sorted" | .list => .type "list" | .dict => .type "dict" | .tuple => .type "tuple" | .ord => .builtin "ord"
def bltN : BltK → Str
  | .len => "len" | .abs => "abs" | .int => "int" | .str => "str" | .sum => "sum" | .all => "all" | .any => "any" | .max => "max" | .min => "min"
  | .sorted => "sorted" | .list => "list" | .dict => "dict" | .tuple => "tuple" | .ord => "ord" | .divmod => "divmod"
def rBlt (P : Pm) (b : BltK) : List V → Hp → VK → Prop := fun xs H Q => ∃ ps h Qp, RPs P.K H ps xs ∧ HR P h H ∧ bltV b ps h Qp ∧ Lft P H Qp Q
theorem rps_one {K : PySem.W.Frag} {H : Hp} {x : PV} {vs : List V} (r : RPs K H [x] vs) : ∃ v, vs = [v] ∧ RP K H x v := by
  cases r with
  | cons a t => cases t; exact ⟨_, rfl, a⟩
theorem rps_two {K : PySem.W.Frag} {H : Hp} {x y : PV} {vs : List V} (r : RPs K H [x, y] vs) : ∃ v w, vs = [v, w] ∧ RP K H x v ∧ RP K H y w := by
  cases r with
  | cons a t => cases t with | cons b t => cases t; exact ⟨_, _, rfl, a, b⟩
theorem list_rel {P : Pm} {h : PH} {H : Hp} (z : HR P h H) {x : PV} {v : V} {Q : List PV → Prop} (r : RP P.K H x v) (q : listK x h Q) : ∃ p xs vs, v = .ref p ∧ SqL P.K H p vs ∧ RPs P.K H xs vs ∧ Q xs := by
  cases r with
  | fl t r => exact ⟨_, _, _, rfl, t.sq, r, q⟩
  | loc a =>
    simp only [listK] at q
    split at q
    · rename_i xs e
      obtain ⟨vs, g, r⟩ := z.lst e
      exact ⟨_, _, _, rfl, SqL.of g, r, q⟩
    · exact q.elim
  | _ => exact q.elim
theorem items_rel {P : Pm} {h : PH} {H : Hp} (z : HR P h H) {x : PV} {v : V} {Q : List PV → Prop} (r : RP P.K H x v) (q : itemsK x h Q) : ∃ p xs vs, v = .ref p ∧ (SqL P.K H p vs ∨ SqT P.K H p vs) ∧ RPs P.K H xs vs ∧ Q xs := by
  cases r with
  | tup t r => exact ⟨_, _, _, rfl, .inr t.sq, r, q⟩
  | fl t r => exact ⟨_, _, _, rfl, .inl t.sq, r, q⟩
  | loc a =>
    simp only [itemsK] at q
    split at q
    · rename_i xs e
      obtain ⟨vs, g, r⟩ := z.lst e
      exact ⟨_, _, _, rfl, .inl (SqL.of g), r, q⟩
    · exact q.elim
  | _ => exact q.elim
theorem ints_len : ∀ {xs : List PV} {ns : List Int}, intsP xs = some ns → ns.length = xs.length
  | [], ns, e => by simp [intsP] at e; subst e; rfl
  | x :: xs, ns, e => by
    cases x <;> simp only [intsP, Option.map_eq_some_iff, reduceCtorEq] at e
    obtain ⟨m, h, rfl⟩ := e
    simp [ints_len h]
theorem keys_ints : ∀ {kvs : List (Key × PV)} {ns : List Int}, intsP (kvs.map fun kv => kP kv.1) = some ns → kvs.map (·.1) = ns.map Sum.inl
  | [], ns, e => by simp [intsP] at e; subst e; rfl
  | (k, v) :: r, ns, e => by
    cases k <;> simp only [List.map_cons, kP, intsP, Option.map_eq_some_iff, reduceCtorEq] at e
    obtain ⟨m, h, rfl⟩ := e
    simp [keys_ints h]
theorem keys_strs : ∀ {kvs : List (Key × PV)} {ns : List Str}, strsP (kvs.map fun kv => kP kv.1) = some ns → kvs.map (·.1) = ns.map Sum.inr
  | [], ns, e => by simp [strsP] at e; subst e; rfl
  | (k, v) :: r, ns, e => by
    cases k <;> simp only [List.map_cons, kP, strsP, Option.map_eq_some_iff, reduceCtorEq] at e
    obtain ⟨m, h, rfl⟩ := e
    simp [keys_strs h]
theorem pairs_rel {K : PySem.W.Frag} {H : Hp} : ∀ {xs : List PV} {vs : List V} {kvs : List (Key × PV)}, RPs K H xs vs → pairsP xs = some kvs →
    ∃ (ps : List Addr) (ws : List (Key × V)), vs = ps.map V.ref ∧ Paired (fun p kv => SqT K H p [kV kv.1, kv.2]) ps ws ∧ RK K H kvs ws
  | _, _, _, .nil, e => by simp [pairsP] at e; subst e; exact ⟨[], [], rfl, .nil, .nil⟩
  | _, _, kvs, .cons (xs := xs) r t, e => by
    cases r with
    | tup ta rs =>
      rename_i a ys us
      cases rs with
      | nil => simp [pairsP] at e
      | cons r1 rs =>
        cases rs with
        | nil => simp [pairsP] at e
        | cons r2 rs =>
          cases rs with
          | cons _ _ => simp [pairsP] at e
          | nil =>
            simp only [pairsP] at e
            split at e
            · rename_i k ek
              simp only [Option.map_eq_some_iff] at e
              obtain ⟨m, h, rfl⟩ := e
              obtain ⟨ps, ws, e1, e2, e3⟩ := pairs_rel t h
              have ev := toKey_rel r1 ek
              subst ev
              exact ⟨a :: ps, (k, _) :: ws, by rw [e1]; rfl, .cons ta.sq e2, .cons ⟨rfl, r2⟩ e3⟩
            · cases e
    | _ => simp [pairsP] at e
theorem sort_run {X : Cx} {P : Pm} (hK : X.K = P.K) {pins : List (Addr × Obj)} {s : Shared} {σ : L2.St} {H : Hp} {h : PH} {a : Addr} {us : List Value} {xs : List PV} {vs : List V} {Q : VK} {Qs : List PV → Prop} (I : Inv X pins σ H s)
    (ru : Vals [.ref a] us) (sq : SqL X.K H a vs) (r : RPs X.K H xs vs) (q : sortK xs Qs) (fin : ∀ ys ws p, Qs ys → RPs X.K H ys ws → H p = none → Q (.ref p) (upd H p (.lst ws))) :
    wpAny (model X.prog X.w) X.A (call (.builtin "sorted") us) (EP X pins σ Q) X.xe s := by
  unfold sortK at q
  split at q
  · rename_i ns e
    have ev := r.ints e
    subst ev
    refine cr_sorted pins s σ H [.ref a] us Q I ru ⟨a, ns, rfl, sq, q.1, fun ns' p pm so n => fin _ _ p (q.2 ns' pm so) (RPs.map_int ns') n⟩
  · split at q
    · rename_i ns e
      have ev := r.strs e
      subst ev
      refine cr_sortedS pins s σ H [.ref a] us Q I ru ⟨a, ns, rfl, sq, q.1, fun ns' p pm so n => fin _ _ p (q.2 ns' pm so) (RPs.map_str ns') n⟩
    · exact q.elim
theorem sort_runD {X : Cx} {P : Pm} (hc : X.calm = true) (hK : X.K = P.K) {pins : List (Addr × Obj)} {s : Shared} {σ : L2.St} {H : Hp} {h : PH} {a : Addr} {us : List Value} {kvs : List (Key × PV)} {ws : List (Key × V)} {Q : VK} {Qs : List PV → Prop} (I : Inv X pins σ H s)
    (ru : Vals [.ref a] us) (sq : Rd H a (.dK ws)) (r : RK X.K H kvs ws) (q : sortK (kvs.map fun kv => kP kv.1) Qs) (fin : ∀ ys ws p, Qs ys → RPs X.K H ys ws → H p = none → Q (.ref p) (upd H p (.lst ws))) :
    wpAny (model X.prog X.w) X.A (call (.builtin "sorted") us) (EP X pins σ Q) X.xe s := by
  unfold sortK at q
  split at q
  · rename_i ns e
    have ev := keys_ints e
    rw [rk_keys r] at ev
    refine call_sortedDI hc pins s σ H [.ref a] us Q I ru ⟨a, ws, ns, rfl, sq, ev, q.1, fun ns' p pm so n => fin _ _ p (q.2 ns' pm so) (RPs.map_int ns') n⟩
  · split at q
    · rename_i ns e
      have ev := keys_strs e
      rw [rk_keys r] at ev
      refine call_sortedD hc pins s σ H [.ref a] us Q I ru ⟨a, ws, ns, rfl, sq, ev, q.1, fun ns' p pm so n => fin _ _ p (q.2 ns' pm so) (RPs.map_str ns') n⟩
    · exact q.elim
theorem call_blt {X : Cx} {P : Pm} (hc : X.calm = true) (hK : X.K = P.K) (b : BltK) : CallR X (bltF b) (rBlt P b) := by
  intro pins s σ H xs us Q I ru ⟨ps, h, Qp, rp, z, q, l⟩
  cases b with
  | len =>
    match ps, q with
    | [x], q =>
      obtain ⟨v, rfl, r⟩ := rps_one rp
      simp only [bltV] at q
      cases r with
      | str zz => exact call_len pins s σ H _ us Q I ru ⟨_, _, rfl, ⟨q.1, rfl⟩, l.here q.2 (.int _) z⟩
      | tup t r => exact call_len pins s σ H _ us Q I ru ⟨_, _, rfl, .inr ⟨_, hK ▸ t.sq, rfl⟩, l.here (by rw [← r.length]; exact q) (.int _) z⟩
      | fl t r => exact call_len pins s σ H _ us Q I ru ⟨_, _, rfl, .inl ⟨_, hK ▸ t.sq, rfl⟩, l.here (by rw [← r.length]; exact q) (.int _) z⟩
      | loc a =>
        simp only [lenV] at q
        split at q
        · rename_i xs e
          obtain ⟨vs, g, r⟩ := z.lst e
          exact call_len pins s σ H _ us Q I ru ⟨_, _, rfl, .inl ⟨_, SqL.of g, rfl⟩, l.here (by rw [← r.length]; exact q) (.int _) z⟩
        · rename_i f kvs e
          obtain ⟨ws, g, r⟩ := z.dct e
          cases ru with
          | cons a1 t1 =>
            cases t1
            cases a1
            exact d_len I g fun t s' I' => ⟨.int ws.length, H, I', ⟨t, rfl⟩, l.here (by rw [← paired_len r]; exact q) (.int _) z⟩
        · exact q.elim
      | _ => exact q.elim
    | [], q => exact q.elim
    | _ :: _ :: _, q => exact q.elim
  | abs =>
    match ps, q with
    | [.int i], q =>
      obtain ⟨v, rfl, r⟩ := rps_one rp
      cases r
      exact call_abs pins s σ H _ us Q I ru ⟨i, rfl, l.here q (.int _) z⟩
  | int =>
    match ps, q with
    | [.int i], q =>
      obtain ⟨v, rfl, r⟩ := rps_one rp
      cases r
      exact call_int1 pins s σ H _ us Q I ru (.inl ⟨i, rfl, l.here q (.int _) z⟩)
    | [.bl i], q =>
      obtain ⟨v, rfl, r⟩ := rps_one rp
      cases r
      exact call_int1 pins s σ H _ us Q I ru (.inr ⟨i, rfl, l.here q (.int _) z⟩)
    | [.str i], q =>
      obtain ⟨v, rfl, r⟩ := rps_one rp
      cases r
      simp only [bltV] at q
      split at q
      · rename_i n e
        exact call_int_str pins s σ H _ us Q I ru ⟨i, n, rfl, e, q.1, l.here q.2 (.int _) z⟩
      · exact q.elim
  | str =>
    match ps, q with
    | [.int i], q =>
      obtain ⟨v, rfl, r⟩ := rps_one rp
      cases r
      exact call_str_int pins s σ H _ us Q I ru ⟨i, rfl, q.1, l.here q.2 (.str _) z⟩
  | sum =>
    match ps, q with
    | [x], q =>
      obtain ⟨v, rfl, r⟩ := rps_one rp
      obtain ⟨p, xs, vs, rfl, sq, r, q⟩ := list_rel z r q
      split at q
      · rename_i ns e
        have ev := r.ints e
        subst ev
        exact cr_sum hc pins s σ H _ us Q I ru ⟨p, ns, rfl, hK ▸ sq, l.here q (.int _) z⟩
      · exact q.elim
    | [], q => exact q.elim
    | _ :: _ :: _, q => exact q.elim
  | all =>
    match ps, q with
    | [x], q =>
      obtain ⟨v, rfl, r⟩ := rps_one rp
      obtain ⟨p, xs, vs, rfl, sq, r, q⟩ := list_rel z r q
      split at q
      · rename_i ns e
        have ev := r.bls e
        subst ev
        exact cr_all hc pins s σ H _ us Q I ru ⟨p, ns, rfl, hK ▸ sq, l.here q (.bl _) z⟩
      · exact q.elim
    | [], q => exact q.elim
    | _ :: _ :: _, q => exact q.elim
  | any =>
    match ps, q with
    | [x], q =>
      obtain ⟨v, rfl, r⟩ := rps_one rp
      obtain ⟨p, xs, vs, rfl, sq, r, q⟩ := list_rel z r q
      split at q
      · rename_i ns e
        have ev := r.bls e
        subst ev
        exact cr_any hc pins s σ H _ us Q I ru ⟨p, ns, rfl, hK ▸ sq, l.here q (.bl _) z⟩
      · exact q.elim
    | [], q => exact q.elim
    | _ :: _ :: _, q => exact q.elim
  | max =>
    match ps, q with
    | [.int i, .int j], q =>
      obtain ⟨v, w, rfl, r, r'⟩ := rps_two rp
      cases r
      cases r'
      exact call_max2 hc pins s σ H _ us Q I ru ⟨i, j, rfl, l.here q (.int _) z⟩
    | [.loc a], q =>
      obtain ⟨v, rfl, r⟩ := rps_one rp
      cases r
      simp only [bltV] at q
      split at q
      · rename_i xs e
        obtain ⟨vs, g, rr⟩ := z.lst e
        split at q
        · rename_i ns e2
          have ev := rr.ints e2
          subst ev
          exact cr_max hc pins s σ H _ us Q I ru ⟨a, ns, rfl, hK ▸ SqL.of g, q.1, fun m h1 h2 => l.here (q.2 m h1 h2) (.int _) z⟩
        · exact q.elim
      · exact q.elim
  | min =>
    match ps, q with
    | [.int i, .int j], q =>
      obtain ⟨v, w, rfl, r, r'⟩ := rps_two rp
      cases r
      cases r'
      exact call_min2 hc pins s σ H _ us Q I ru ⟨i, j, rfl, l.here q (.int _) z⟩
    | [.loc a], q =>
      obtain ⟨v, rfl, r⟩ := rps_one rp
      cases r
      simp only [bltV] at q
      split at q
      · rename_i xs e
        obtain ⟨vs, g, rr⟩ := z.lst e
        split at q
        · rename_i ns e2
          have ev := rr.ints e2
          subst ev
          exact cr_min hc pins s σ H _ us Q I ru ⟨a, ns, rfl, hK ▸ SqL.of g, q.1, fun m h1 h2 => l.here (q.2 m h1 h2) (.int _) z⟩
        · exact q.elim
      · exact q.elim
  | sorted =>
    match ps, q with
    | [.loc a], q =>
      obtain ⟨v, rfl, r⟩ := rps_one rp
      cases r
      simp only [bltV] at q
      split at q
      · rename_i xs e
        obtain ⟨vs, g, r⟩ := z.lst e
        exact sort_run hK (h := h) I ru (SqL.of g) (hK ▸ r) q fun ys ws p qq rr n => l _ _ _ _ (qq p (z.free n)) (.new n) (.loc p) (rlst_new z n (hK ▸ rr))
      · rename_i f kvs e
        obtain ⟨ws, g, r⟩ := z.dct e
        exact sort_runD hc hK (h := h) I ru g (hK ▸ r) q fun ys ws p qq rr n => l _ _ _ _ (qq p (z.free n)) (.new n) (.loc p) (rlst_new z n (hK ▸ rr))
      · exact q.elim
  | list =>
    match ps, q with
    | [x], q =>
      obtain ⟨v, rfl, r⟩ := rps_one rp
      simp only [bltV] at q
      cases r with
      | tup t r => exact call_list_of pins s σ H _ us Q I ru ⟨_, _, rfl, .inr (hK ▸ t.sq), fun p n => l _ _ _ _ (q p (z.free n)) (.new n) (.loc p) (rlst_new z n r)⟩
      | fl t r => exact call_list_of pins s σ H _ us Q I ru ⟨_, _, rfl, .inl (hK ▸ t.sq), fun p n => l _ _ _ _ (q p (z.free n)) (.new n) (.loc p) (rlst_new z n r)⟩
      | loc a =>
        simp only at q
        split at q
        · rename_i xs e
          obtain ⟨vs, g, r⟩ := z.lst e
          exact call_list_of pins s σ H _ us Q I ru ⟨_, _, rfl, .inl (SqL.of g), fun p n => l _ _ _ _ (q p (z.free n)) (.new n) (.loc p) (rlst_new z n r)⟩
        · rename_i f kvs e
          obtain ⟨ws, g, r⟩ := z.dct e
          exact call_listD hc pins s σ H _ us Q I ru ⟨_, _, rfl, g, fun p n => l _ _ _ _ (q p (z.free n)) (.new n) (.loc p) (rlst_new z n (rk_keyvals r))⟩
        · exact q.elim
      | _ => exact q.elim
    | [], q => exact q.elim
    | _ :: _ :: _, q => exact q.elim
  | dict =>
    match ps, q with
    | [.loc a], q =>
      obtain ⟨v, rfl, r⟩ := rps_one rp
      cases r
      simp only [bltV] at q
      split at q
      · rename_i xs e
        obtain ⟨vs, g, r⟩ := z.lst e
        split at q
        · rename_i kvs ek
          obtain ⟨ps, ws, e1, e2, e3⟩ := pairs_rel r ek
          subst e1
          exact call_dictP hc pins s σ H _ us Q I ru ⟨a, ps, ws, rfl, SqL.of g, hK ▸ e2, fun p n => l _ _ _ _ (q p (z.free n)) (.new n) (.loc p) (rdct_new z n (rk_merge e3 .nil))⟩
        · exact q.elim
      · rename_i f kvs e
        obtain ⟨ws, g, r⟩ := z.dct e
        exact call_dictD pins s σ H _ us Q I ru ⟨a, ws, rfl, g, fun p n => l _ _ _ _ (q p (z.free n)) (.new n) (.loc p) (rdct_new z n r)⟩
      · exact q.elim
  | divmod =>
    match ps, q with
    | [.int i, .int j], q =>
      obtain ⟨v, w, rfl, r, r'⟩ := rps_two rp
      cases r
      cases r'
      exact call_divmod pins s σ H _ us Q I ru ⟨i, j, rfl, q.1, fun p n => l _ _ _ _ q.2 (.new n) (.tup (.inl upd_same) (.cons (.int _) (.cons (.int _) .nil))) (z.keep n)⟩
  | tuple => simp only [bltV] at q
  | ord => simp only [bltV] at q
end Mir

set_option autoImplicit true
namespace Mir
open PySem L2
open PyProof.Rows hiding St

def bmId : BmK → String
  | .append => "list.append" | .extend => "list.extend" | .popAt => "list.pop" | .clearL => "list.clear" | .index => "list.index"
  | .get => "dict.get" | .setdefault => "dict.setdefault" | .update => "dict.update" | .popK => "dict.pop" | .clearD => "dict.clear" | .items => "dict.items" | .values => "dict.values"
  | .join => "str.join" | .split => "str.split" | .find => "str.find" | .startswith => "str.startswith" | .upper => "str.upper" | .count => "str.count"
def bmN : BmK → Str
  | .append => "append" | .extend => "extend" | .popAt => "pop" | .clearL => "clear" | .index => "index"
  | .get => "get" | .setdefault => "setdefault" | .update => "update" | .popK => "pop" | .clearD => "clear" | .items => "items" | .values => "values"
  | .join => "join" | .split => "split" | .find => "find" | .startswith => "startswith" | .upper => "upper" | .count => "count"
def btS : BtK → String
  | .list => "list" | .dict => "dict" | .str => "str"
def rBm (P : Pm) (m : BmK) : V → List V → Hp → VK → Prop := fun x xs H Q => ∃ a ps h Qp, RP P.K H a x ∧ RPs P.K H ps xs ∧ HR P h H ∧ bmV m a ps h Qp ∧ Lft P H Qp Q
theorem rps_nil {K : PySem.W.Frag} {H : Hp} {vs : List V} (r : RPs K H [] vs) : vs = [] := by cases r; rfl
theorem vals_one' {x : V} {us : List Value} (r : Vals [x] us) : ∃ u, us = [u] ∧ RelV x u := by
  cases r with
  | cons a t => cases t; exact ⟨_, rfl, a⟩
theorem vals_two' {x y : V} {us : List Value} (r : Vals [x, y] us) : ∃ u w, us = [u, w] ∧ RelV x u ∧ RelV y w := by
  cases r with
  | cons a t => cases t with | cons b t => cases t; exact ⟨_, _, rfl, a, b⟩
theorem RPs.erase {K : PySem.W.Frag} {H : Hp} : ∀ {xs : List PV} {vs : List V} (i : Nat), RPs K H xs vs → RPs K H (xs.eraseIdx i) (vs.eraseIdx i)
  | _, _, _, .nil => .nil
  | _, _, 0, .cons _ t => t
  | _, _, i + 1, .cons r t => .cons r (RPs.erase i t)
theorem d_update {X : Cx} {pins : List (Addr × Obj)} {σ : St} {H : Hp} {s : Shared} {a b : Addr} {A : Around} {E : Value → Shared → Prop} {kvs more : List (Key × V)} {Q : Value → Shared → Prop} (I : Inv X pins σ H s) (e : H a = some (.dK kvs)) (e2 : H b = some (.dK more)) (ne : a ≠ b)
    (hl : kvs.length + more.length ≤ sizeLine) (h : ∀ s' : Shared, Inv X pins σ (upd H a (.dK (mergeK kvs more))) s' → Q .none s') : wpAny (model X.prog X.w) A (call (.builtin "dict.update") [.ref a, .ref b]) Q E s := by
  obtain ⟨z, hd, vs, rel, dd⟩ := dk_of I.hok e
  obtain ⟨z2, hd2, ws, rel2, dd2⟩ := dk_of I.hok e2
  refine PySem.call_meetsIn PySem.F.slot_dict_update dd.typeIs PySem.F.entry_dict_update (PySem.F.args_dict_update_2 _ _) (PySem.meets_dict_update (mixKind X.prog X.w) a b ne hd2)
    ⟨vs, ws, dd, dd2, (by rw [← rel.length, ← rel2.length]; exact hl), fun h' dd' _ hs => ?_⟩
  have hl2 : (mergeK kvs more).length ≤ sizeLine := Nat.le_trans (length_mergeK more kvs) hl
  have he : ∃ q, h'.get? a = some q := let ⟨q, _, _, hq, _⟩ := dd'; ⟨q, hq⟩
  exact h _ (d_write (t' := s.toks) I (by rw [e]; exact True.intro) hs he (dk_new hl2 hd (rel2.merge rel) dd'))
theorem mt_any {X : Cx} {P : Pm} (hc : X.calm = true) (hu : X.A.units + 1 < cLine) (hK : X.K = P.K) (m : BmK) : MtR X (bmId m) (rBm P m) := by
  intro pins s σ H x xs v us Q I rx ru ⟨a, ps, h, Qp, ra, rp, z, q, l⟩
  cases m with
  | append =>
    match a, ps, q with
    | .loc a, [y], q =>
      obtain ⟨w, rfl, r⟩ := rps_one rp
      cases ra
      simp only [bmV] at q
      split at q
      · rename_i xs e
        obtain ⟨vs, g, rr⟩ := z.lst e
        exact mt_append pins s σ H _ _ v us Q I rx ru ⟨a, vs, w, rfl, rfl, g, by rw [← rr.length]; exact q.1, l _ _ _ _ q.2 (z.chg e _) .non (rlst_put z e (rr.append (.cons r .nil)))⟩
      · exact q.elim
  | extend =>
    match a, ps, q with
    | .loc a, [.loc b], q =>
      obtain ⟨w, rfl, r⟩ := rps_one rp
      cases ra
      cases r
      simp only [bmV] at q
      split at q
      · rename_i xs ys e e2
        obtain ⟨vs, g, rr⟩ := z.lst e
        obtain ⟨ws, g2, rr2⟩ := z.lst e2
        exact mt_extend pins s σ H _ _ v us Q I rx ru ⟨a, b, vs, ws, rfl, rfl, g, g2, by rw [← rr.length, ← rr2.length]; exact q.1, l _ _ _ _ q.2 (z.chg e _) .non (rlst_put z e (rr.append rr2))⟩
      · exact q.elim
  | popAt =>
    match a, ps, q with
    | .loc a, [.int i], q =>
      obtain ⟨w, rfl, r⟩ := rps_one rp
      cases ra
      cases r
      simp only [bmV] at q
      split at q
      · rename_i xs e
        obtain ⟨vs, g, rr⟩ := z.lst e
        obtain ⟨q1, q2, q⟩ := q
        split at q
        · rename_i k ek
          split at q
          · rename_i y ey
            obtain ⟨w, ew, ry⟩ := rr.get ey
            exact mt_popAt pins s σ H _ _ v us Q I rx ru ⟨a, vs, i, k, w, rfl, rfl, g, q1, q2, by rw [← rr.length]; exact ek, ew, l _ _ _ _ q (z.chg e _) (ry.ext (z.chg e _)) (rlst_put z e (rr.erase k))⟩
          · exact q.elim
        · exact q.elim
      · exact q.elim
  | clearL =>
    match a, ps, q with
    | .loc a, [], q =>
      have e0 := rps_nil rp
      subst e0
      cases ra
      simp only [bmV] at q
      split at q
      · rename_i xs e
        obtain ⟨vs, g, rr⟩ := z.lst e
        exact mt_clear pins s σ H _ _ v us Q I rx ru ⟨a, vs, rfl, rfl, g, l _ _ _ _ q (z.chg e _) .non (rlst_put z e .nil)⟩
      · exact q.elim
  | get =>
    match a, ps, q with
    | .loc a, [k, d], q =>
      obtain ⟨w, w', rfl, r, r'⟩ := rps_two rp
      obtain ⟨u, u', rfl, ru1, ru2⟩ := vals_two' ru
      cases ra
      cases rx
      simp only [bmV] at q
      split at q
      · rename_i f kvs e
        obtain ⟨ws, g, rr⟩ := z.dct e
        split at q
        · rename_i k' ek
          have ev := toKey_rel r ek
          subst ev
          refine d_get2 hu I (.inl ⟨ws, k', g, rfl, rfl⟩) ru1 ru2 fun y s' I' ry => ⟨_, H, I', ry, ?_⟩
          obtain ⟨p1, p2⟩ := rk_val k' rr
          cases e3 : valP kvs k' with
          | none => rw [e3] at q; rw [p2 e3]; exact l.here q r' z
          | some x => obtain ⟨y, ey, rxy⟩ := p1 x e3; rw [e3] at q; rw [ey]; exact l.here q rxy z
        · exact q.elim
      · exact q.elim
  | setdefault =>
    match a, ps, q with
    | .loc a, [k, d], q =>
      obtain ⟨w, w', rfl, r, r'⟩ := rps_two rp
      obtain ⟨u, u', rfl, ru1, ru2⟩ := vals_two' ru
      cases ra
      cases rx
      simp only [bmV] at q
      split at q
      · rename_i kvs e
        obtain ⟨ws, g, rr⟩ := z a _ e
        split at q
        · rename_i k' ek
          obtain ⟨q0, q⟩ := q
          have ev := toKey_rel r ek
          subst ev
          obtain ⟨p1, p2⟩ := rk_val k' rr
          refine d_setd I g ru1 ru2 (by rw [← paired_len rr]; exact q0) (fun v0 ev y s' I' ry => ⟨v0, H, I', ry, ?_⟩) (fun en y s' I' ry => ⟨w', _, I', ry, ?_⟩)
          · cases e3 : valP kvs k' with
            | none => rw [p2 e3] at ev; cases ev
            | some x =>
              obtain ⟨y', ey, rxy⟩ := p1 x e3
              rw [ey] at ev
              cases ev
              rw [e3] at q
              exact l.here q rxy z
          · cases e3 : valP kvs k' with
            | some x => obtain ⟨y', ey, rxy⟩ := p1 x e3; rw [ey] at en; cases en
            | none =>
              rw [e3] at q
              exact l _ _ _ _ q (z.chg e _) (r'.ext (z.chg e _)) (rdct_put z e (rk_put r' rr))
        · exact q.elim
      · exact q.elim
  | update =>
    match a, ps, q with
    | .loc a, [.loc b], q =>
      obtain ⟨w, rfl, r⟩ := rps_one rp
      obtain ⟨u, rfl, ru1⟩ := vals_one' ru
      cases ra
      cases rx
      cases r
      cases ru1
      simp only [bmV] at q
      split at q
      · rename_i ks ls e e2
        obtain ⟨ws, g, rr⟩ := z a _ e
        obtain ⟨ws2, g2, rr2⟩ := z b _ e2
        exact d_update I g g2 q.1 (by rw [← paired_len rr, ← paired_len rr2]; exact q.2.1) fun s' I' => ⟨.non, _, I', rfl, l _ _ _ _ q.2.2 (z.chg e _) .non (rdct_put z e (rk_merge rr2 rr))⟩
      · exact q.elim
  | popK =>
    match a, ps, q with
    | .loc a, [k], q =>
      obtain ⟨w, rfl, r⟩ := rps_one rp
      obtain ⟨u, rfl, ru1⟩ := vals_one' ru
      cases ra
      cases rx
      simp only [bmV] at q
      split at q
      · rename_i kvs e
        obtain ⟨ws, g, rr⟩ := z a _ e
        split at q
        · rename_i k' ek
          have ev := toKey_rel r ek
          subst ev
          split at q
          · rename_i x e3
            obtain ⟨y', ey, rxy⟩ := (rk_val k' rr).1 x e3
            exact d_pop I g ru1 ey (.inl rfl) fun y s' I' ry => ⟨y', _, I', ry, l _ _ _ _ q (z.chg e _) (rxy.ext (z.chg e _)) (rdct_put z e (rk_drop k' rr))⟩
          · exact q.elim
        · exact q.elim
      · exact q.elim
  | clearD =>
    match a, ps, q with
    | .loc a, [], q =>
      have e0 := rps_nil rp
      subst e0
      cases ru
      cases ra
      cases rx
      simp only [bmV] at q
      split at q
      · rename_i kvs e
        obtain ⟨ws, g, rr⟩ := z a _ e
        exact d_clear I g fun s' I' => ⟨.non, _, I', rfl, l _ _ _ _ q (z.chg e _) .non (rdct_put z e .nil)⟩
      · exact q.elim
  | join =>
    match a, ps, q with
    | .str a, [y], q =>
      obtain ⟨w, rfl, r⟩ := rps_one rp
      cases ra
      obtain ⟨p, xs, vs, rfl, sq, rr, q⟩ := items_rel z r q
      split at q
      · rename_i ns e
        have ev := rr.strs e
        subst ev
        exact mt_join pins s σ H _ _ v us Q I rx ru ⟨a, p, ns, rfl, rfl, hK ▸ sq, q.1, l.here q.2 (.str _) z⟩
      · exact q.elim
  | split =>
    match a, ps, q with
    | .str a, [.str b], q =>
      obtain ⟨w, rfl, r⟩ := rps_one rp
      cases ra
      cases r
      exact mt_split pins s σ H _ _ v us Q I rx ru ⟨a, b, rfl, rfl, q.1, q.2.1, fun p n => l _ _ _ _ (q.2.2 p (z.free n)) (.new n) (.loc p) (rlst_new z n (RPs.map_str _))⟩
  | find =>
    match a, ps, q with
    | .str a, [.str b], q =>
      obtain ⟨w, rfl, r⟩ := rps_one rp
      cases ra
      cases r
      exact mt_find pins s σ H _ _ v us Q I rx ru ⟨a, b, rfl, rfl, l.here q (.int _) z⟩
  | startswith =>
    match a, ps, q with
    | .str a, [.str b], q =>
      obtain ⟨w, rfl, r⟩ := rps_one rp
      cases ra
      cases r
      exact mt_startswith pins s σ H _ _ v us Q I rx ru ⟨a, b, rfl, rfl, l.here q (.bl _) z⟩
  | upper =>
    match a, ps, q with
    | .str a, [], q =>
      have e0 := rps_nil rp
      subst e0
      cases ra
      exact mt_upper pins s σ H _ _ v us Q I rx ru ⟨a, rfl, rfl, q.1, l.here q.2 (.str _) z⟩
  | _ => exact absurd q (by cases a <;> simp [bmV])

theorem ty_rel {P : Pm} {h : PH} {H : Hp} (z : HR P h H) {t : BtK} {x : PV} {v : V} (r : RP P.K H x v) (q : tyP t x h) : tyV P.K (btS t) v H := by
  cases r with
  | str s => cases t <;> simp [tyP] at q; rfl
  | fl t' r => cases t <;> simp [tyP] at q; exact .inl ⟨rfl, _, t'.sq⟩
  | loc a =>
    simp only [tyP] at q
    split at q
    · rename_i xs e
      obtain ⟨vs, g, _⟩ := z.lst e
      cases t <;> simp at q
      exact .inl ⟨rfl, _, SqL.of g⟩
    · rename_i kvs e
      obtain ⟨ws, g, _⟩ := z a _ e
      cases t <;> simp at q
      exact .inr (.inr (.inl ⟨rfl, .inl ⟨ws, g⟩⟩))
    · exact q.elim
  | _ => cases t <;> simp [tyP] at q

/-! ## isinstance -/
def tyS : TyK → String
  | .int => "int" | .bool => "bool" | .str => "str" | .list => "list" | .dict => "dict" | .tuple => "tuple" | .own _ => ""
def rIsiP (P : Pm) (t : TyK) : List V → Hp → VK → Prop := fun xs H Q => ∃ a h Qp x, xs = [x, .ty (tyS t)] ∧ RP P.K H a x ∧ HR P h H ∧ (∀ c, t ≠ .own c) ∧ isiV P.G a h t (fun b => Qp (.bl b) h) ∧ Lft P H Qp Q
def tB1 : TyK → Bool | .int => true | .bool => true | _ => false
def tI1 : TyK → Bool | .int => true | _ => false
def tS1 : TyK → Bool | .str => true | _ => false
def tT1 : TyK → Bool | .tuple => true | _ => false
def tL1 : TyK → Bool | .list => true | _ => false
def tD1 : TyK → Bool | .dict => true | _ => false
theorem kit_tab (t : TyK) (n : ∀ c, t ≠ .own c) : kitB "NoneType" (tyS t) = some false ∧ kitB "bool" (tyS t) = some (tB1 t) ∧ kitB "int" (tyS t) = some (tI1 t) ∧
    kitB "str" (tyS t) = some (tS1 t) ∧ kitB "tuple" (tyS t) = some (tT1 t) ∧ kitB "list" (tyS t) = some (tL1 t) ∧ kitB "dict" (tyS t) = some (tD1 t) := by
  cases t with
  | own c => exact absurd rfl (n c)
  | int => clear n; decide +kernel
  | bool => clear n; decide +kernel
  | str => clear n; decide +kernel
  | list => clear n; decide +kernel
  | dict => clear n; decide +kernel
  | tuple => clear n; decide +kernel
theorem call_isiP {X : Cx} {P : Pm} (hK : X.K = P.K) (t : TyK) : CallR X (.builtin "isinstance") (rIsiP P t) := by
  intro pins s σ H xs us Q I ru ⟨a, h, Qp, x, ex, r, z, n, q, l⟩
  subst ex
  obtain ⟨k1, k2, k3, k4, k5, k6, k7⟩ := kit_tab t n
  have fin : ∀ {T : String} {b : Bool}, TyX X.K H x (.type T) → kitB T (tyS t) = some b → Qp (.bl b) h → wpAny (model X.prog X.w) X.A (call (.builtin "isinstance") us) (EP X pins σ Q) X.xe s := fun {T b} ty k qq =>
    call_isi pins s σ H _ us Q I ru ⟨x, _, _, _, b, rfl, .ty _, ty, kit_ty k, l.here qq (.bl _) z⟩
  cases r with
  | non => exact fin (.base .non) k1 (by cases t <;> first | exact q | exact absurd rfl (n _))
  | bl b => exact fin (.base (.bl b)) k2 (by cases t <;> first | exact q | exact absurd rfl (n _))
  | int b => exact fin (.base (.int b)) k3 (by cases t <;> first | exact q | exact absurd rfl (n _))
  | str b => exact fin (.base (.str b)) k4 (by cases t <;> first | exact q | exact absurd rfl (n _))
  | tup ta rr =>
    refine fin ?_ k5 (by cases t <;> first | exact q | exact absurd rfl (n _))
    rcases ta with ta | ⟨ob, arr, m, e, c, _⟩
    · exact .base (.tup ta)
    · exact .kTuple (hK ▸ e) c
  | fl ta rr => exact q.elim
  | loc p =>
    simp only [isiV] at q
    split at q
    · rename_i xs e
      obtain ⟨vs, g, _⟩ := z.lst e
      exact fin (.base (.lst g)) k6 (by cases t <;> first | exact q | exact absurd rfl (n _))
    · rename_i f kvs e
      obtain ⟨ws, g, _⟩ := z.dct e
      refine fin ?_ k7 (by cases t <;> first | exact q | exact absurd rfl (n _))
      rcases g with g | ⟨o, g⟩
      · exact .base (.dK g)
      · exact .fDict g
    · exact q.elim

/-! ## what is walked -/
def iAny (K : PySem.W.Frag) (te : TE) : TI := fun σ H R => te σ H fun x H1 => (∃ a, x = .ref a ∧ (∃ xs, SqL K H1 a xs) ∧ R (Itl K a) H1) ∨ (∃ a, x = .ref a ∧ (∃ xs, SqT K H1 a xs) ∧ R (Itt K a) H1) ∨ ∃ z, x = .str z ∧ R (Its z) H1
theorem pi_any {X : Cx} {tg e : Expr} {te : TE} (he : PE X e te) : PI X tg e (iAny X.K te) := by
  constructor
  intro pins s σ H R I hw
  refine thn (he.run pins s σ H _ I hw) ?_
  rintro v s1 ⟨x, H1, I1, r1, ⟨a, rfl, ⟨xs, sq⟩, q⟩ | ⟨a, rfl, ⟨xs, sq⟩, q⟩ | ⟨z, rfl, q⟩⟩
  · cases r1
    obtain ⟨us, _, p, _⟩ := I1.list sq
    exact wpAny_pyIter_list p.isList (pi_one (tk := s1.toks) I1 _ (turn_list a _)
      ⟨_, Heap.get?_push_size _ rfl, rfl, rfl⟩ q)
  · cases r1
    obtain ⟨us, _, p, _⟩ := I1.tuple sq
    exact wpAny_pyIter_tuple (show s1.heap.IsTuple a us.toArray from p) (pi_one (tk := s1.toks) I1 _ (turn_tuple a _)
      ⟨_, Heap.get?_push_size _ rfl, rfl, rfl⟩ q)
  · obtain ⟨t, rfl⟩ := r1
    by_cases ha : z.cps.all (· < 128) = true
    · exact wpAny_pyIter_ascii ha (pi_one (tk := s1.toks) I1 _ (turn_str _ z t "str_ascii_iterator" (.inl rfl))
        ⟨_, Heap.get?_push_size _ rfl, rfl, rfl⟩ q)
    · exact wpAny_pyIter_wide (by simpa using ha) (pi_one (tk := s1.toks) I1 _ (turn_str _ z t "str_iterator" (.inr rfl))
        ⟨_, Heap.get?_push_size _ rfl, rfl, rfl⟩ q)
end Mir

set_option autoImplicit true
namespace Mir
open PySem L2
open PyProof.Rows hiding St

/-! ## does a tree of the text say what a tree of the small language says -/
structure Ct where
  G : Sig
  N : List Str
  fnN : Nat → Option Str
  clN : Nat → Option Str
  bls : List Str
def visB (sc : Scope) (x : Str) : Bool := match sc.names.lookup x with
  | some .local => true | some .cell => true | some .free => true | _ => false
def locB (sc : Scope) (x : Str) : Bool := match sc.names.lookup x with
  | some .local => true | some .cell => true | _ => false
def glB (sc : Scope) (x : Str) : Bool := match sc.names.lookup x with
  | some .globalImplicit => true | _ => false
def at? (l : List Str) (i : Nat) (x : Str) : Bool := match l[i]? with
  | some y => decide (y = x) | none => false
def opt? (o : Option Str) (x : Str) : Bool := match o with
  | some y => decide (y = x) | none => false
/-- an ordinary expression -/
def okE : Expr → Bool
  | .Starred .. => false
  | .Slice .. => false
  | .Set .. => false
  | .SetComp .. => false
  | .DictComp .. => false
  | .ListComp .. => true
  | .Call (.Name x _) [] [] _ => decide (x ≠ "super")
  | _ => true
def noLc : Expr → Bool
  | .ListComp .. => false
  | _ => true
def dunB (x : Str) : Bool := !(x == ("__debug__" : Str)) && !(x == ("__classdict__" : Str)) && !(decide (x = "__name__"))
def isTup : Expr → Bool
  | .Tuple .. => true
  | _ => false
def plainB : Expr → Bool
  | .BoolOp .. => false
  | .UnaryOp .Not _ _ => false
  | .IfExp .. => false
  | _ => true
/-- the class that isinstance is asked for -/
def isiN (c : Ct) (sc : Scope) (t : TyK) (y : Expr) : Bool := match y with
  | .Name y _ => (match t with
    | .own _ => false
    | _ => true) && decide (y = Str.ofString (tyS t)) && glB sc y && decide (y ∈ c.bls)
  | _ => false
/-- the text's class (none: ValueError) that isinstance is asked for -/
def isxN (c : Ct) (sc : Scope) (k : Option Nat) (y : Expr) : Bool := match y with
  | .Name y _ => (match k with
    | some k => opt? (c.clN k) y && glB sc y && dunB y
    | none => decide (y = "ValueError") && glB sc y && decide (y ∈ c.bls))
  | _ => false
/-- except x as n: m = n2 -/
def asH : List ExceptHandler → Option (Str × Str × Str × Str)
  | [.ExceptHandler (some (.Name x _)) (some n) [.Assign [.Name m _] (.Name n2 _) _] _] => some (x, n, m, n2)
  | _ => none
theorem asH_eq {hs : List ExceptHandler} {x n m n2 : Str} (h : asH hs = some (x, n, m, n2)) : ∃ np p1 p2 p3 p4, hs = [.ExceptHandler (some (.Name x np)) (some n) [.Assign [.Name m p1] (.Name n2 p2) p3] p4] := by
  unfold asH at h
  split at h
  · cases h; exact ⟨_, _, _, _, _, rfl⟩
  · cases h
def cstE (v : Option Bool) (w : Expr) : Bool := match v, w with
  | none, .Constant .none _ _ => true
  | some b, .Constant (.bool d) _ _ => b == d
  | _, _ => false
/-- except x: m = w -/
def onH : List ExceptHandler → Option (Str × Str × Expr)
  | [.ExceptHandler (some (.Name x _)) none [.Assign [.Name m _] w _] _] => some (x, m, w)
  | _ => none
theorem onH_eq {hs : List ExceptHandler} {x m : Str} {w : Expr} (h : onH hs = some (x, m, w)) : ∃ np p1 p3 p4, hs = [.ExceptHandler (some (.Name x np)) none [.Assign [.Name m p1] w p3] p4] := by
  unfold onH at h
  split at h
  · cases h; exact ⟨_, _, _, _, rfl⟩
  · cases h
/-- [::-1] -/
def isRev : Expr → Bool
  | .Slice none none (some (.UnaryOp .USub (.Constant (.int i) _ _) _)) _ => decide (i = 1)
  | _ => false
theorem isRev_eq {e : Expr} (h : isRev e = true) : ∃ k p1 p2 p3, e = .Slice none none (some (.UnaryOp .USub (.Constant (.int 1) k p1) p2)) p3 := by
  unfold isRev at h
  split at h
  · have := of_decide_eq_true h
    subst this
    exact ⟨_, _, _, _, rfl⟩
  · cases h
/-- X('m') -/
def rsX : Expr → Option Str
  | .Call (.Name x _) [.Constant (.str _) _ _] [] _ => some x
  | _ => none
theorem rsX_eq {e : Expr} {x : Str} (h : rsX e = some x) : ∃ p m j p2 pos, e = .Call (.Name x p) [.Constant (.str m) j p2] [] pos := by
  unfold rsX at h
  split at h
  · cases h; exact ⟨_, _, _, _, _, rfl⟩
  · cases h
/-- e.items() -/
def liArg : Expr → Option Expr
  | .Call (.Attribute o s apos) [] [] cpos => if s = "items" ∧ (apos.endLine == cpos.line) = true then some o else none
  | _ => none
mutual
def chkE (c : Ct) : E → Scope → Expr → Bool
  | .var i, sc, .Name x _ => at? c.N i x && visB sc x && dunB x
  | .int i, _, .Constant (.int j) _ _ => decide (i = j)
  | .str s, _, .Constant (.str t) _ _ => decide (s = t)
  | .bl b, _, .Constant (.bool d) _ _ => b == d
  | .non, _, .Constant .none _ _ => true
  | .glob g, sc, .Name x _ => at? c.G.nm g x && glB sc x && dunB x && (c.G.gl g).isSome
  | .bin op a b, sc, .BinOp l o r _ => decide (o = bOp op) && okE l && okE r && chkE c a sc l && chkE c b sc r
  | .neg a, sc, .UnaryOp .USub e _ => okE e && chkE c a sc e
  | .cmp op a b, sc, .Compare l [o] [r] _ => decide (o = cOp op) && okE l && okE r && chkE c a sc l && chkE c b sc r
  | .chain o p a b d, sc, .Compare l [o', p'] [m, r] _ => decide (o' = cOp o) && decide (p' = cOp p) && okE l && okE m && okE r && chkE c a sc l && chkE c b sc m && chkE c d sc r
  | .and a b, sc, .BoolOp .And (x :: y :: rest) pos => okE x && okE y && chkE c a sc x && (match rest with
    | [] => chkE c b sc y
    | z :: zs => chkE c b sc (.BoolOp .And (y :: z :: zs) pos))
  | .or a b, sc, .BoolOp .Or (x :: y :: rest) pos => okE x && okE y && chkE c a sc x && (match rest with
    | [] => chkE c b sc y
    | z :: zs => chkE c b sc (.BoolOp .Or (y :: z :: zs) pos))
  | .not a, sc, .UnaryOp .Not e _ => okE e && chkE c a sc e
  | .ite d a b, sc, .IfExp t x y _ => okE x && okE y && chkB c d sc t && chkE c a sc x && chkE c b sc y
  | .sub a i, sc, .Subscript e j _ => okE e && okE j && chkE c a sc e && chkE c i sc j
  | .slice a lo hi, sc, .Subscript e (.Slice l u none _) _ => okE e && chkE c a sc e && chkO c lo sc l && chkO c hi sc u
  | .tup es, sc, .Tuple xs _ _ => chkEs c es sc xs
  | .lst es, sc, .List xs _ => chkEs c es sc xs
  | .dict0, _, .Dict [] [] _ => true
  | .dict es, sc, .Dict ks vs _ => decide (ks ≠ []) && decide (ks.length = vs.length) && decide (ks.length ≤ 15) && ks.all (·.isSome) && chkPs c es sc ks vs
  | .fld e f, sc, .Attribute o s _ => okE o && chkE c e sc o && at? c.G.nm f s
  | .call f es, sc, .Call (.Name x _) args [] _ => opt? (c.fnN f) x && glB sc x && dunB x && chkEs c es sc args
  | .meth o m es, sc, .Call (.Attribute e s apos) args [] cpos => okE e && at? c.G.nm m s && (apos.endLine == cpos.line) && decide (args.length < 29) && chkE c o sc e && chkEs c es sc args
  | .make k es, sc, .Call (.Name x _) args [] _ => (c.G.ini k).isSome && opt? (c.clN k) x && glB sc x && dunB x && chkEs c es sc args
  | .blt b es, sc, .Call (.Name x _) (a :: as) [] _ => decide (x = bltN b) && glB sc x && decide (x ∈ c.bls) && chkEs c es sc (a :: as)
  | .bm m o es, sc, .Call (.Attribute e s apos) args [] cpos => okE e && decide (s = bmN m) && (apos.endLine == cpos.line) && decide (args.length < 29) && chkE c o sc e && chkEs c es sc args
  | .isi e t, sc, .Call (.Name x _) args kws _ => decide (x = "isinstance") && glB sc x && decide (x ∈ c.bls) && (match args, kws with
    | [o, y], [] => okE o && chkE c e sc o && isiN c sc t y
    | _, _ => false)
  | .make0 k, sc, .Call (.Name x _) [] [] _ => c.G.in0 k && opt? (c.clN k) x && glB sc x && dunB x
  | .rev e, sc, .Subscript o sl _ => isRev sl && okE o && chkE c e sc o
  | .isx e k, sc, .Call (.Name x _) args kws _ => decide (x = "isinstance") && glB sc x && decide (x ∈ c.bls) && (match args, kws with
    | [o, y], [] => okE o && chkE c e sc o && isxN c sc k y
    | _, _ => false)
  | .comp elt t it ifs ws, sc, .ListComp el [⟨tg, iter, fs, k⟩] scope _ => decide (k = 0) && blkC c.N sc scope ws && okE el && chkI c it sc tg iter && chkT c t (relS scope sc) scope tg && chkBs c ifs (relS scope sc) fs && chkE c elt (relS scope sc) el && decide (ws.map (·.2) = tSlots t)
  | .compD elt t e ifs ws, sc, .ListComp el [⟨tg, iter, fs, k⟩] scope _ => decide (k = 0) && blkC c.N sc scope ws && okE el && okE iter && noLc iter && chkE c e sc iter && chkT c t (relS scope sc) scope tg && chkBs c ifs (relS scope sc) fs && chkE c elt (relS scope sc) el && decide (ws.map (·.2) = tSlots t)
  | .listItems e, sc, .Call (.Name x _) args kws _ => decide (x = "list") && glB sc x && decide (x ∈ c.bls) && (match args, kws with
    | [y], [] => (match liArg y with
      | some o => okE o && chkE c e sc o
      | none => false)
    | _, _ => false)
  | _, _, _ => false
def chkEs (c : Ct) : Es → Scope → List Expr → Bool
  | .nil, _, [] => true
  | .cons e es, sc, x :: xs => okE x && chkE c e sc x && chkEs c es sc xs
  | _, _, _ => false
def chkPs (c : Ct) : Es → Scope → List (Option Expr) → List Expr → Bool
  | .nil, _, [], [] => true
  | .cons k (.cons v r), sc, some x :: ks, y :: vs => chkE c k sc x && chkE c v sc y && chkPs c r sc ks vs
  | _, _, _, _ => false
def chkO (c : Ct) : O → Scope → Option Expr → Bool
  | .non, _, none => true
  | .some e, sc, some x => okE x && chkE c e sc x
  | _, _, _ => false
def chkB (c : Ct) : B → Scope → Expr → Bool
  | .and a b, sc, x => (match x with
    | .BoolOp .And (x :: y :: rest) pos => okE x && okE y && chkB c a sc x && (match rest with
      | [] => chkB c b sc y
      | z :: zs => chkB c b sc (.BoolOp .And (y :: z :: zs) pos))
    | _ => false)
  | .or a b, sc, x => (match x with
    | .BoolOp .Or (x :: y :: rest) pos => okE x && okE y && chkB c a sc x && (match rest with
      | [] => chkB c b sc y
      | z :: zs => chkB c b sc (.BoolOp .Or (y :: z :: zs) pos))
    | _ => false)
  | .not a, sc, x => (match x with
    | .UnaryOp .Not e _ => chkB c a sc e
    | _ => false)
  | .val e, sc, x => okE x && chkE c e sc x && plainB x
def chkBs (c : Ct) : Bs → Scope → List Expr → Bool
  | .nil, _, [] => true
  | .one b, sc, [x] => chkB c b sc x
  | _, _, _ => false
def chkI (c : Ct) : I → Scope → Expr → Expr → Bool
  | .ex e, sc, _, x => okE x && noLc x && chkE c e sc x
  | .range1 e, sc, _, .Call (.Name x _) args kws _ => decide (x = "range") && glB sc x && decide (x ∈ c.bls) && (match args, kws with
    | [a], [] => okE a && chkE c e sc a
    | _, _ => false)
  | .range2 e f, sc, _, .Call (.Name x _) args kws _ => decide (x = "range") && glB sc x && decide (x ∈ c.bls) && (match args, kws with
    | [a, b], [] => okE a && okE b && chkE c e sc a && chkE c f sc b
    | _, _ => false)
  | .range3 e f s, sc, _, .Call (.Name x _) args kws _ => decide (x = "range") && glB sc x && decide (x ∈ c.bls) && (match args, kws with
    | [a, b, .Constant (.int j) _ _], [] => okE a && okE b && decide (s = j) && chkE c e sc a && chkE c f sc b
    | _, _ => false)
  | .enum e, sc, tg, .Call (.Name x _) args kws _ => isTup tg && decide (x = "enumerate") && glB sc x && decide (x ∈ c.bls) && (match args, kws with
    | [a], [] => okE a && chkE c e sc a
    | _, _ => false)
  | _, _, _, _ => false
def chkT (c : Ct) : T → Scope → Scope → Expr → Bool
  | .nm i, sc, ow, .Name x _ => at? c.N i x && locB sc x && locB ow x
  | .tup ts, sc, ow, .Tuple xs _ _ => chkTs c ts sc ow xs
  | _, _, _, _ => false
def chkTs (c : Ct) : Ts → Scope → Scope → List Expr → Bool
  | .nil, _, _, [] => true
  | .cons t ts, sc, ow, x :: xs => okE x && chkT c t sc ow x && chkTs c ts sc ow xs
  | _, _, _, _ => false
def tSlots : T → List Nat
  | .nm i => [i]
  | .tup ts => tsSlots ts
def tsSlots : Ts → List Nat
  | .nil => []
  | .cons t ts => tSlots t ++ tsSlots ts
end
def noTup : Expr → Bool
  | .Tuple .. => false
  | _ => true
mutual
def chkS (c : Ct) : S → Scope → Stmt → Bool
  | .skip, _, .Pass _ => true
  | .skip, _, .Expr (.Constant (.str _) _ _) _ => true
  | .brk, _, .Break _ => true
  | .cont, _, .Continue _ => true
  | .expr e, sc, .Expr x _ => okE x && noLc x && chkE c e sc x
  | .ret e, sc, .Return (some x) _ => okE x && chkE c e sc x
  | .retN, _, .Return none _ => true
  | .set i e, sc, .Assign [.Name x _] v _ => at? c.N i x && locB sc x && okE v && noLc v && chkE c e sc v
  | .setC i (.comp elt t it ifs ws), sc, .Assign [.Name x px] (.ListComp el gs scope lp) _ => at? c.N i x && decide (sc.names.lookup x = some .local) && (px.line == lp.line) && !(scope.names.any fun (n, k) => n == x && (k == .local || k == .cell)) &&
      chkE c (.comp elt t it ifs ws) sc (.ListComp el gs scope lp)
  | .setT ts e, sc, .Assign [.Tuple xs _ _] v _ => chkTs c ts sc sc xs && okE v && noLc v && noTup v && chkE c e sc v
  | .setL ts e, sc, .Assign [.Tuple xs _ _] v _ => chkTs c ts sc sc xs && okE v && noLc v && noTup v && chkE c e sc v
  | .aug i op e, sc, .AugAssign (.Name x _) o v _ => at? c.N i x && locB sc x && decide (o = bOp op) && okE v && chkE c e sc v
  | .fldSet o f e, sc, .Assign [.Attribute ob s _] v _ => okE ob && okE v && at? c.G.nm f s && chkE c o sc ob && chkE c e sc v
  | .fldAug o f op e, sc, .AugAssign (.Attribute ob s _) p v _ => okE ob && okE v && at? c.G.nm f s && decide (p = bOp op) && chkE c o sc ob && chkE c e sc v
  | .subSet o i e, sc, .Assign [.Subscript ob ix _] v _ => okE ob && okE ix && okE v && chkE c o sc ob && chkE c i sc ix && chkE c e sc v
  | .subAug o i op e, sc, .AugAssign (.Subscript ob ix _) p v _ => okE ob && okE ix && okE v && decide (p = bOp op) && chkE c o sc ob && chkE c i sc ix && chkE c e sc v
  | .ite d a b, sc, .If t x y _ => chkB c d sc t && chkSs c a sc x && chkSs c b sc y
  | .raise k, sc, .Raise (some e) none _ => (match rsX e with
    | some x => opt? (c.clN k) x && glB sc x && dunB x && c.G.exc k
    | none => false)
  | .tryAs b k i j, sc, .Try body hs [] [] _ => (match asH hs with
    | some (x, n, m, n2) => decide (n2 = n) && at? c.N i n && at? c.N j m && decide (sc.names.lookup n = some .local) && locB sc m && dunB n && (opt? (c.clN k) x && glB sc x && dunB x)
    | none => false) && chkSs c b sc body
  | .tryO b k i v, sc, .Try body hs [] [] _ => (match onH hs with
    | some (x, m, w) => cstE v w && at? c.N i m && locB sc m && (opt? (c.clN k) x && glB sc x && dunB x)
    | none => false) && chkSs c b sc body
  | .while d b, sc, .While t x [] _ => chkB c d sc t && chkSs c b sc x
  | .for t it b, sc, .For tg iter x [] _ => chkI c it sc tg iter && chkT c t sc sc tg && chkSs c b sc x
  | .forD t false e b, sc, .For tg iter x [] _ => okE iter && noLc iter && chkE c e sc iter && chkT c t sc sc tg && chkSs c b sc x
  | .forD t true e b, sc, .For (.Tuple xs k p) (.Call (.Attribute o s apos) [] [] cpos) x [] _ => okE o && decide (s = "items") && (apos.endLine == cpos.line) && chkE c e sc o && chkT c t sc sc (.Tuple xs k p) && chkSs c b sc x
  | _, _, _ => false
def chkSs (c : Ct) : Ss → Scope → List Stmt → Bool
  | .nil, _, [] => true
  | .cons s ss, sc, x :: xs => chkS c s sc x && chkSs c ss sc xs
  | _, _, _ => false
end

/-! ## what the checks give -/
theorem at_get {l : List Str} {i : Nat} {x : Str} (h : at? l i x = true) : l[i]? = some x := by
  unfold at? at h
  split at h
  · rename_i y e; rw [e, of_decide_eq_true h]
  · cases h
theorem opt_get {o : Option Str} {x : Str} (h : opt? o x = true) : o = some x := by
  unfold opt? at h
  split at h
  · rw [of_decide_eq_true h]
  · cases h
theorem vis_of {sc : Scope} {x : Str} (h : visB sc x = true) : Vis sc x := by
  unfold visB at h
  unfold Vis
  split at h <;> first | exact .inl (by assumption) | exact .inr (.inl (by assumption)) | exact .inr (.inr (by assumption)) | cases h
theorem loc_of {sc : Scope} {x : Str} (h : locB sc x = true) : L2.Loc sc x := by
  unfold locB at h
  unfold L2.Loc
  split at h <;> first | exact .inl (by assumption) | exact .inr (by assumption) | cases h
theorem gl_of {X : Cx} {x : Str} (h : glB X.env.scope x = true) : Gl X x := by
  unfold glB at h
  unfold Gl Env.kindOf
  split at h
  · assumption
  · cases h
theorem dun_of {x : Str} (h : dunB x = true) : (x == ("__debug__" : Str)) = false ∧ (x == ("__classdict__" : Str)) = false ∧ x ≠ "__name__" := by
  simp only [dunB, Bool.and_eq_true, Bool.not_eq_true', decide_eq_false_iff_not] at h
  exact ⟨h.1.1, h.1.2, h.2⟩
theorem ok_star {e : Expr} (h : okE e = true) (es : List Expr) (env : Env) : starEach (e :: es) env = (false, eval e env) :: starEach es env := by
  cases e <;> first | rfl | simp [okE] at h
theorem ok_base {e : Expr} (h : okE e = true) (f : Str) (env : Env) : attributeBase e f env (eval e env) = eval e env := by
  unfold attributeBase
  split
  · rename_i id p q
    simp only [okE, ne_eq, decide_eq_true_eq] at h
    have h' : (id != ("super" : Str)) = true := by simpa using h
    simp [h']
  · rfl
theorem ok_sub {e : Expr} (h : okE e = true) (o i : Value) : subscripted e false o i = operate [o, i] (getItem o i) := by
  cases e <;> first | rfl | simp [okE] at h
theorem ok_in {e : Expr} (h : okE e = true) (op : CmpOp) : behindInMarks op e = false := by
  cases e <;> first | rfl | simp [okE] at h
theorem ok_set {e : Expr} (h : okE e = true) (env : Env) (x : Value) : foldedSetIterable e env x = Pure.pure x := by
  cases e <;> first | rfl | simp [okE] at h
theorem ok_swap {e : Expr} (h : okE e = true) (h2 : noLc e = true) (t : Option Expr) (l : Nat) (env : Env) : swapsWith e t l env = Pure.pure false := by
  cases e <;> first | rfl | (exfalso; revert h2; simp [noLc]; done) | (exfalso; revert h; simp [okE]; done)
theorem ok_swapA {e : Expr} (h : okE e = true) (o : Expr) (f : Str) (p : Pos) (l : Nat) (env : Env) : swapsWith e (some (.Attribute o f p)) l env = Pure.pure false := by
  cases e <;> first | rfl | simp [okE] at h
theorem ok_swapS {e : Expr} (h : okE e = true) (o i : Expr) (p : Pos) (l : Nat) (env : Env) : swapsWith e (some (.Subscript o i p)) l env = Pure.pure false := by
  cases e <;> first | rfl | simp [okE] at h
theorem star_plain {c : Ct} : ∀ {es : Es} {sc : Scope} {xs : List Expr}, chkEs c es sc xs = true → ∀ (pos : Pos) (env : Env), (backTo pos (starEach xs env)).any (·.1) = false
  | .nil, _, [], _, pos, env => rfl
  | .cons e es, sc, x :: xs, h, pos, env => by
    simp only [chkEs, Bool.and_eq_true] at h
    rw [ok_star h.1.1]
    simpa [backTo] using star_plain h.2 pos env
  | .nil, _, _ :: _, h, _, _ => by simp [chkEs] at h
  | .cons _ _, _, [], h, _, _ => by simp [chkEs] at h
theorem star_few {c : Ct} : ∀ {es : Es} {sc : Scope} {xs : List Expr}, chkEs c es sc xs = true → ∀ (pos : Pos) (env : Env), (backTo pos (starEach xs env)).all (fun x => !x.1) = true
  | .nil, _, [], _, pos, env => rfl
  | .cons e es, sc, x :: xs, h, pos, env => by
    simp only [chkEs, Bool.and_eq_true] at h
    rw [ok_star h.1.1]
    simpa [backTo] using star_few h.2 pos env
  | .nil, _, _ :: _, h, _, _ => by simp [chkEs] at h
  | .cons _ _, _, [], h, _, _ => by simp [chkEs] at h
theorem li_arg {y o : Expr} (h : liArg y = some o) : ∃ apos cpos, y = .Call (.Attribute o "items" apos) [] [] cpos ∧ (apos.endLine == cpos.line) = true := by
  unfold liArg at h
  split at h
  · split at h
    · rename_i q
      cases h
      obtain ⟨q1, q2⟩ := q
      subst q1
      exact ⟨_, _, rfl, q2⟩
    · cases h
  · cases h
theorem len_es {c : Ct} : ∀ {es : Es} {sc : Scope} {xs : List Expr}, chkEs c es sc xs = true → True := fun _ => trivial
end Mir

set_option autoImplicit false
namespace Mir
open PySem L2 PySem.Spec
open PyProof.Rows hiding St

structure FT where
  fa : Nat → Addr
  fd : Nat → FuncData
  ps : Nat → List Str
/-- a function's promise -/
def lsp (P : Pm) (C : CallS) (f : Nat) : Sp := fun vs H Q E => ∃ ps h Qp Xp, RPs P.K H ps vs ∧ HR P h H ∧ C f ps h Qp Xp ∧ Lft P H Qp Q ∧ ∀ c h' H', Xp c h' → Ext H H' → HR P h' H' → E (.ref (P.cls c)) none H'
/-- facts of own classes that isinstance asks for -/
structure InsC (K : PySem.W.Frag) (C : Addr) : Prop where
  cl : Cls K C
  ha : PySem.W.findIn K (.ref C) "__class__" = some (some (.builtin "object.__class__"))
  hn : PySem.W.specialIn K (.builtin "object.__class__") "__get__" = some (some (.builtin "getset_descriptor.__get__"))
  ht : PySem.W.takesIn K (.builtin "object.__class__") = some true
  hm : PySem.W.mroIn K C (.type "object") = some true
/-- exceptions and isinstance: what the text's top has left -/
structure Wex (P : Pm) : Prop where
  in0 : ∀ k, P.G.in0 k = true → PySem.W.makesIn P.K (P.cls k) = true ∧ PySem.W.findIn P.K (.ref (P.cls k)) "__init__" = some (some (.builtin "object.__init__")) ∧ PySem.W.keepIn P.K (.ref (P.cls k)) = true
  exf : ∀ k, P.G.exc k = true → PySem.W.excIn P.K (P.cls k) [.type "ValueError", .type "Exception", .type "BaseException", .type "object"] "ValueError.__new__" = true ∧ PySem.W.keepIn P.K (.ref (P.cls k)) = true ∧
    PySem.W.subIn P.K (.ref (P.cls k)) (.type "BaseException") = some true ∧ PySem.W.typeIn P.K (.ref (P.cls k)) = some (.type "type")
  xc : ∀ k, P.G.exc k = true → ExcC P.K (P.cls k)
  xm : ∀ d k b, P.G.exm d k = some b → PySem.W.exmOne P.K (.ref (P.cls d)) (.ref (P.cls k)) = some b
  ic : ∀ k, P.G.inc k = true → InsC P.K (P.cls k)
  isa : ∀ d k b, P.G.isa d k = some b → PySem.W.kitOne P.K (.ref (P.cls d)) (.ref (P.cls k)) = some b
  isz : ∀ k, P.G.isz k = true → PySem.W.kitOne P.K (.type "NoneType") (.ref (P.cls k)) = some false ∧ PySem.W.kitOne P.K (.type "str") (.ref (P.cls k)) = some false
  isv : ∀ d b, P.G.isv d = some b → PySem.W.kitOne P.K (.ref (P.cls d)) (.type "ValueError") = some b
/-- what the text's top has left -/
structure Wld (P : Pm) (F : FT) (C : CallS) (c : Ct) (lv : Nat) (mg : Str → Option Value) (prog : Program) (w : World) (base : Heap) : Prop where
  hG : c.G = P.G
  fn : ∀ f d, P.G.fn f = some d → FnOk prog w P.K mg base (L2.CX prog w) lv (F.fa f) (F.fd f) (F.ps f) (lsp P C f)
  len : ∀ f vs h Q X, C f vs h Q X → ∃ d, P.G.fn f = some d ∧ vs.length = d.np ∧ (F.ps f).length = d.np
  bd : ∀ f d n, P.G.fn f = some d → n ≤ d.np → d.np - n ≤ d.dflt.length → ∃ (ds : List Value) (dv : List V), Binds P.K (F.fd f) (F.ps f) ds ∧ Vals dv ds ∧ ∀ H, RPs P.K H (d.dflt.drop (d.dflt.length - (d.np - n))) dv
  mf : ∀ f x, c.fnN f = some x → mg x = some (.ref (F.fa f)) ∧ PySem.W.keepIn P.K (.ref (F.fa f)) = true
  mc : ∀ k x, c.clN k = some x → mg x = some (.ref (P.cls k))
  mks : ∀ k f, P.G.ini k = some f → Mk P.K (P.cls k) (F.fa f)
  cl : ∀ k f, P.G.fl k f = true → Cls P.K (P.cls k)
  na : ∀ k f s, P.G.fl k f = true → P.G.nm[f]? = some s → NoAttr P.K (P.cls k) s
  me : ∀ k m f s, P.G.me k m = some f → P.G.nm[m]? = some s → Cls P.K (P.cls k) ∧ Meth P.K (P.cls k) s (F.fa f)
  nd : P.G.nm.Nodup
  bn : ∀ x ∈ c.bls, mg x = none
  gl : ∀ g x v, P.G.gl g = some v → P.G.nm[g]? = some x → ∃ u w, mg x = some u ∧ RelV w u ∧ ∀ H, RP P.K H v w
  wx : Wex P
/-- a context in which the text's trees are read -/
structure Cok (P : Pm) (F : FT) (C : CallS) (c : Ct) (lv : Nat) (X : Cx) (sc ow : Scope) (W : WX) : Prop where
  wl : Wld P F C c lv X.mg X.prog X.w X.base
  hK : X.K = P.K
  hN : X.N = c.N
  nd : c.N.Nodup
  hsc : X.env.scope = sc
  calm : X.calm = true
  st : ∀ x, L2.Loc ow x → X.fn x = true ∨ sc.names.lookup x = some .local
  tk : Takes X W
  room : Room (lv + 1) X.A

/-! ## lifted meanings -/
def LftX (P : Pm) (W : WX) (σ : St) (H : Hp) (Xp : XE) : Prop := ∀ c h' H', Xp c h' → Ext H H' → HR P h' H' → W (.ref (P.cls c)) none σ H'
theorem LftX.on {P : Pm} {W : WX} {σ : St} {H H1 : Hp} {Xp : XE} (l : LftX P W σ H Xp) (e : Ext H H1) : LftX P W σ H1 Xp := fun c h' H' a b z => l c h' H' a (e.trans b) z
def LE (P : Pm) (W : WX) (ev : PEnv → PH → QE → XE → Prop) : TE := fun σ H Q => ∃ env h Qp Xp, RE P.K H env σ ∧ HR P h H ∧ ev env h Qp Xp ∧ Lft P H Qp Q ∧ LftX P W σ H Xp
def LftL (P : Pm) (H : Hp) (Qp : List PV → PH → Prop) (Q : List V → Hp → Prop) : Prop := ∀ pr h' v H', Qp pr h' → Ext H H' → RPs P.K H' pr v → HR P h' H' → Q v H'
def LEs (P : Pm) (W : WX) (ev : PEnv → PH → (List PV → PH → Prop) → XE → Prop) : TA := fun σ H Q => ∃ env h Qp Xp, RE P.K H env σ ∧ HR P h H ∧ ev env h Qp Xp ∧ LftL P H Qp Q ∧ LftX P W σ H Xp
def LftO (P : Pm) (H : Hp) (Qp : Option Int → PH → Prop) (Q : Option Int → Hp → Prop) : Prop := ∀ o h' H', Qp o h' → Ext H H' → HR P h' H' → Q o H'
def LO (P : Pm) (W : WX) (ev : PEnv → PH → (Option Int → PH → Prop) → XE → Prop) : TO := fun σ H Q => ∃ env h Qp Xp, RE P.K H env σ ∧ HR P h H ∧ ev env h Qp Xp ∧ LftO P H Qp Q ∧ LftX P W σ H Xp
def LftB (P : Pm) (H : Hp) (Qp : Bool → PH → Prop) (Q : Bool → Hp → Prop) : Prop := ∀ k h' H', Qp k h' → Ext H H' → HR P h' H' → Q k H'
def LB (P : Pm) (W : WX) (ev : PEnv → PH → (Bool → PH → Prop) → XE → Prop) : TT := fun σ H Q => ∃ env h Qp Xp, RE P.K H env σ ∧ HR P h H ∧ ev env h Qp Xp ∧ LftB P H Qp Q ∧ LftX P W σ H Xp
structure JOk (P : Pm) (H1 : Hp) (J : It) (xs : List PV) (still : PH → Prop) : Prop where
  go : ∀ i h' H', Ext H1 H' → HR P h' H' → still h' → i < xs.length → J.go i H'
  stop : ∀ h' H', Ext H1 H' → HR P h' H' → still h' → J.stop xs.length H'
  yld : ∀ i h' H' x H'', Ext H1 H' → HR P h' H' → still h' → i < xs.length → J.yld i H' x H'' → Ext H' H'' ∧ HR P h' H'' ∧ ∃ pv, xs[i]? = some pv ∧ RP P.K H'' pv x
def LftI (P : Pm) (H : Hp) (Kp : List PV → (PH → Prop) → PH → Prop) (R : It → Hp → Prop) : Prop := ∀ xs still h1 H1 J, Kp xs still h1 → Ext H H1 → HR P h1 H1 → JOk P H1 J xs still → R J H1
def LI (P : Pm) (W : WX) (ev : PEnv → PH → (List PV → (PH → Prop) → PH → Prop) → XE → Prop) : TI := fun σ H R => ∃ env h Kp Xp, RE P.K H env σ ∧ HR P h H ∧ ev env h Kp Xp ∧ LftI P H Kp R ∧ LftX P W σ H Xp
/-- nothing but the slots sl differs -/
def Off (sl : List Nat) (σ σ' : St) : Prop := σ'.length = σ.length ∧ ∀ i, i ∉ sl → σ'[i]? = σ[i]?
def LG (P : Pm) (sl : List Nat) (st : PV → PEnv → (PEnv → Prop) → Prop) : TG := fun v σ H Q => ∃ env x K, RE P.K H env σ ∧ RP P.K H x v ∧ st x env K ∧ ∀ env' σ', K env' → RE P.K H env' σ' → Off sl σ σ' → Q σ' H
def LGs (P : Pm) (sl : List Nat) (st : List PV → PEnv → (PEnv → Prop) → Prop) : TGs := fun v σ H Q => ∃ env x K, RE P.K H env σ ∧ RPs P.K H x v ∧ st x env K ∧ ∀ env' σ', K env' → RE P.K H env' σ' → Off sl σ σ' → Q σ' H
theorem _root_.L2.PE.imp {X : Cx} {e : Expr} {t t' : TE} (h : L2.PE X e t) (i : ∀ σ H Q, t' σ H Q → t σ H Q) : L2.PE X e t' := ⟨fun pins s σ H Q I hw => h.run pins s σ H Q I (i _ _ _ hw)⟩
theorem _root_.L2.PT.imp {X : Cx} {e : Expr} {t t' : TT} (h : L2.PT X e t) (i : ∀ σ H Q, t' σ H Q → t σ H Q) : L2.PT X e t' := ⟨fun pins s σ H Q I hw => h.run pins s σ H Q I (i _ _ _ hw)⟩
theorem _root_.L2.PW.imp {X : Cx} {e : Expr} {t t' : TT} (h : L2.PW X e t) (i : ∀ σ H Q, t' σ H Q → t σ H Q) : L2.PW X e t' := ⟨fun wh pins s σ H Q I hw => h.run wh pins s σ H Q I (i _ _ _ hw)⟩
theorem _root_.L2.PA.imp {X : Cx} {e : List Expr} {t t' : TA} (h : L2.PA X e t) (i : ∀ σ H Q, t' σ H Q → t σ H Q) : L2.PA X e t' := ⟨fun pos pins s σ H Q I hw => h.run pos pins s σ H Q I (i _ _ _ hw)⟩
theorem _root_.L2.PO.imp {X : Cx} {e : Option Expr} {t t' : TO} (h : L2.PO X e t) (i : ∀ σ H Q, t' σ H Q → t σ H Q) : L2.PO X e t' := ⟨fun pins s σ H Q I hw => h.run pins s σ H Q I (i _ _ _ hw)⟩
theorem _root_.L2.PI.imp {X : Cx} {g e : Expr} {t t' : TI} (h : L2.PI X g e t) (i : ∀ σ H Q, t' σ H Q → t σ H Q) : L2.PI X g e t' := ⟨fun pins s σ H Q I hw => h.run pins s σ H Q I (i _ _ _ hw)⟩
theorem _root_.L2.PG.imp {X : Cx} {g : Expr} {t t' : TG} (h : L2.PG X g t) (i : ∀ v σ H Q, t' v σ H Q → t v σ H Q) : L2.PG X g t' := ⟨fun pins s σ H v u Q I r hw => h.run pins s σ H v u Q I r (i _ _ _ _ hw)⟩
theorem _root_.L2.PS.imp {X : Cx} {e : Stmt} {t t' : TS} (h : L2.PS X e t) (i : ∀ D σ H, t' D σ H → t D σ H) : L2.PS X e t' := ⟨fun pins s σ H D I hw => h.run pins s σ H D I (i _ _ _ hw)⟩
theorem _root_.L2.PTs.imp {X : Cx} {e : List Expr} {t t' : TT} (h : L2.PTs X e t) (i : ∀ σ H Q, t' σ H Q → t σ H Q) : L2.PTs X e t' := ⟨fun pins s σ H Q I hw => h.run pins s σ H Q I (i _ _ _ hw)⟩

section
variable {P : Pm} {W : WX} {σ : St} {H : Hp}
/-- two in a row -/
theorem le_two {ea eb : PEnv → PH → QE → XE → Prop} {f : PV → PV → PH → QE → Prop} {Q : VK} (q : LE P W (fun env h Q X => ea env h (fun x h1 => eb env h1 (fun y h2 => f x y h2 Q) X) X) σ H Q) :
    LE P W ea σ H fun v H1 => LE P W eb σ H1 fun w H2 => rTwo P f v w H2 Q := by
  obtain ⟨env, h, Qp, Xp, re, hr, q, l, lx⟩ := q
  exact ⟨env, h, _, Xp, re, hr, q, fun x h1 v H1 q1 e1 r1 z1 => ⟨env, h1, _, Xp, re.ext e1, z1, q1, fun y h2 w H2 q2 e2 r2 z2 => ⟨x, y, h2, Qp, r1.ext e2, r2, z2, q2, l.on (e1.trans e2)⟩, lx.on e1⟩, lx⟩
/-- one -/
theorem le_one {ea : PEnv → PH → QE → XE → Prop} {f : PV → PH → QE → Prop} {Q : VK} (q : LE P W (fun env h Q X => ea env h (fun x h1 => f x h1 Q) X) σ H Q) :
    LE P W ea σ H fun v H1 => ∃ x h1 Qp, RP P.K H1 x v ∧ HR P h1 H1 ∧ f x h1 Qp ∧ Lft P H1 Qp Q := by
  obtain ⟨env, h, Qp, Xp, re, hr, q, l, lx⟩ := q
  exact ⟨env, h, _, Xp, re, hr, q, fun x h1 v H1 q1 e1 r1 z1 => ⟨x, h1, Qp, r1, z1, q1, l.on e1⟩, lx⟩
theorem le_args {ea : PEnv → PH → (List PV → PH → Prop) → XE → Prop} {f : List PV → PH → QE → XE → Prop} {Q : VK} (q : LE P W (fun env h Q X => ea env h (fun x h1 => f x h1 Q X) X) σ H Q) :
    LEs P W ea σ H fun v H1 => ∃ x h1 Qp Xp, RPs P.K H1 x v ∧ HR P h1 H1 ∧ f x h1 Qp Xp ∧ Lft P H1 Qp Q ∧ LftX P W σ H1 Xp := by
  obtain ⟨env, h, Qp, Xp, re, hr, q, l, lx⟩ := q
  exact ⟨env, h, _, Xp, re, hr, q, fun x h1 v H1 q1 e1 r1 z1 => ⟨x, h1, Qp, Xp, r1, z1, q1, l.on e1, lx.on e1⟩, lx⟩
end
section
variable {P : Pm} {F : FT} {C : CallS} {c : Ct} {lv : Nat} {X : Cx} {sc ow : Scope} {W : WX}
theorem Cok.hu (o : Cok P F C c lv X sc ow W) : X.A.units + 64 < cLine := o.room.units
theorem Cok.hu1 (o : Cok P F C c lv X sc ow W) : X.A.units + 1 < cLine := by have := o.room.units; omega
theorem Cok.bnone (o : Cok P F C c lv X sc ow W) {x : Str} (h : x ∈ c.bls) : X.mg x = none := o.wl.bn x h
theorem Cok.glx (o : Cok P F C c lv X sc ow W) {x : Str} (h : glB sc x = true) : Gl X x := gl_of (by rw [o.hsc]; exact h)

/-! ## calls of the text's own functions -/
theorem pad_facts (o : Cok P F C c lv X sc ow W) {f : Nat} {ps : List PV} {h : PH} {Qp : QE} {Xp : XE} (q : C f (padD P.G f ps) h Qp Xp) :
    ∃ d ds dv, P.G.fn f = some d ∧ Binds P.K (F.fd f) (F.ps f) ds ∧ Vals dv ds ∧ ∀ H, ∃ dp, padD P.G f ps = ps ++ dp ∧ RPs P.K H dp dv := by
  obtain ⟨d, e1, e2, e3⟩ := o.wl.len f _ _ _ _ q
  unfold padD at e2
  rw [e1] at e2
  simp only [List.length_append, List.length_drop] at e2
  obtain ⟨ds, dv, b, r, rr⟩ := o.wl.bd f d ps.length e1 (by omega) (by omega)
  exact ⟨d, ds, dv, e1, b, r, fun H => ⟨_, by unfold padD; rw [e1], rr H⟩⟩
theorem run_any (o : Cok P F C c lv X sc ow W) {pins : List (Addr × Obj)} {σ : St} {H : Hp} {s : Shared} {Q : VK} {us : List Value} {vs : List V} {f : Nat} {ps : List PV} {h : PH} {Qp : QE} {Xp : XE} (I : Inv X pins σ H s) (r : Vals vs us)
    (rp : RPs P.K H ps vs) (z : HR P h H) (q : C f (padD P.G f ps) h Qp Xp) (l : Lft P H Qp Q) (lx : LftX P W σ H Xp) : wpAny (model X.prog X.w) X.A (call (.ref (F.fa f)) us) (EP X pins σ Q) X.xe s := by
  obtain ⟨d, ds, dv, e1, b, rd, rr⟩ := pad_facts o q
  obtain ⟨dp, e2, rr⟩ := rr H
  have Fk := o.wl.fn f d e1
  have sp : lsp P C f (vs ++ dv) H Q (WE W σ) := ⟨_, h, Qp, Xp, e2 ▸ rp.append rr, z, q, l, lx⟩
  have r2 := r.append rd
  have hl : (us ++ ds).length = (F.ps f).length := by rw [← r2.length]; exact Fk.len _ _ _ _ sp
  have Fk : FnOk X.prog X.w X.K X.mg X.base (L2.CX X.prog X.w) lv (F.fa f) (F.fd f) (F.ps f) (lsp P C f) := by rw [o.hK]; exact Fk
  have b : Binds X.K (F.fd f) (F.ps f) ds := by rw [o.hK]; exact b
  refine wpAny_call (codeAny_mono (Fk.run X.A X.stack s H ⟨us, []⟩ (us ++ ds) (vs ++ dv) Q (WE W σ) (o.room.mono (Nat.le_succ _)) I.env0 (b s us I.kIn hl) r2 sp) fun r s' hq => ?_)
  match r, hq with
  | .error e, hq => exact passAt o.tk σ pins H s e s' I hq
  | .ok (.ret u), hq => exact I.after hq
theorem run_new (o : Cok P F C c lv X sc ow W) {pins : List (Addr × Obj)} {σ : St} {H : Hp} {s : Shared} {Q : VK} {us : List Value} {vs : List V} {k f : Nat} {ps : List PV} {h : PH} {Qp : QE} {Xp : XE} (I : Inv X pins σ H s) (r : Vals vs us)
    (rp : RPs P.K H ps vs) (z : HR P h H) (hk : P.G.ini k = some f)
    (q : ∀ p, h p = none → C f (padD P.G f (.loc p :: ps)) (pup h p (.ins k [])) (fun v h2 => v = .non ∧ Qp (.loc p) h2) Xp) (l : Lft P H Qp Q) (lx : LftX P W σ H Xp) : wpAny (model X.prog X.w) X.A (call (.ref (P.cls k)) us) (EP X pins σ Q) X.xe s := by
  have M := o.wl.mks k f hk
  rw [← o.hK] at M
  have n1 : H s.heap.objs.size = none := I.hok.fresh (Nat.le_refl _)
  have n2 : H (s.heap.objs.size + 1) = none := I.hok.fresh (Nat.le_succ _)
  have ne : s.heap.objs.size ≠ s.heap.objs.size + 1 := Nat.ne_of_lt (Nat.lt_succ_self _)
  have n3 : upd H s.heap.objs.size (.own (s.heap.objs.size + 1)) (s.heap.objs.size + 1) = none := by rw [upd_ne ne.symm]; exact n2
  have q := q (s.heap.objs.size + 1) (z.free n2)
  have x1 : Ext H (upd H s.heap.objs.size (.own (s.heap.objs.size + 1))) := .new n1
  have x2 : Ext (upd H s.heap.objs.size (.own (s.heap.objs.size + 1))) (upd (upd H s.heap.objs.size (.own (s.heap.objs.size + 1))) (s.heap.objs.size + 1) (.ins (P.cls k) s.heap.objs.size [])) := .new n3
  have z2 : HR P (pup h (s.heap.objs.size + 1) (.ins k [])) (upd (upd H s.heap.objs.size (.own (s.heap.objs.size + 1))) (s.heap.objs.size + 1) (.ins (P.cls k) s.heap.objs.size [])) :=
    (z.keep n1).upd x2 ⟨s.heap.objs.size, [], upd_same, .nil⟩
  obtain ⟨d, ds, dv, e1, b, rd, rr⟩ := pad_facts o q
  obtain ⟨dp, e2, rr⟩ := rr (upd (upd H s.heap.objs.size (.own (s.heap.objs.size + 1))) (s.heap.objs.size + 1) (.ins (P.cls k) s.heap.objs.size []))
  have Fk := o.wl.fn f d e1
  have sp : lsp P C f (.ref (s.heap.objs.size + 1) :: (vs ++ dv)) (upd (upd H s.heap.objs.size (.own (s.heap.objs.size + 1))) (s.heap.objs.size + 1) (.ins (P.cls k) s.heap.objs.size []))
      (fun v H2 => v = .non ∧ Q (.ref (s.heap.objs.size + 1)) H2) (WE W σ) := by
    refine ⟨_, _, _, Xp, e2 ▸ (RPs.cons (.loc _) (rp.ext (x1.trans x2))).append rr, z2, q, fun pr h' v H' qq e r3 z3 => ?_, lx.on (x1.trans x2)⟩
    obtain ⟨e4, qq⟩ := qq
    subst e4
    cases r3
    exact ⟨rfl, l _ _ _ _ qq ((x1.trans x2).trans e) (.loc _) z3⟩
  have r2 : Vals (V.ref (s.heap.objs.size + 1) :: (vs ++ dv)) (Value.ref (s.heap.objs.size + 1) :: us ++ ds) := .cons rfl (r.append rd)
  have hl : (Value.ref (s.heap.objs.size + 1) :: us ++ ds).length = (F.ps f).length := by rw [← r2.length]; exact Fk.len _ _ _ _ sp
  have Fk : FnOk X.prog X.w X.K X.mg X.base (L2.CX X.prog X.w) lv (F.fa f) (F.fd f) (F.ps f) (lsp P C f) := by rw [o.hK]; exact Fk
  have b : Binds X.K (F.fd f) (F.ps f) ds := by rw [o.hK]; exact b
  have I2 := Inv.made (C := P.cls k) I
  refine wpAny_call (make_map (f := F.fa f) I.kIn M.makes M.init (beq_iff_eq.mp M.fn) (codeAny_mono (Fk.run _ X.stack _ _ ⟨Value.ref (s.heap.objs.size + 1) :: us, []⟩ (Value.ref (s.heap.objs.size + 1) :: us ++ ds) _ _ (WE W σ)
    (o.room.make (P.cls k) us []) (I2.env0.make (P.cls k) us []) (b _ (Value.ref (s.heap.objs.size + 1) :: us) I2.kIn hl) r2 sp) fun r s' hq => ?_))
  match r, hq with
  | .error e, hq => exact passAt o.tk σ pins _ _ e s' I2 hq
  | .ok (.ret u), hq =>
    obtain ⟨v, H', I3, rv, ev, q3⟩ := I2.after hq
    subst ev
    exact ⟨rv, ⟨V.ref (s.heap.objs.size + 1), H', I3, rfl, q3⟩⟩
end
end Mir

set_option autoImplicit false
namespace Mir
open PySem L2 PySem.Spec
open PyProof.Rows hiding St

abbrev EvE := PEnv → PH → QE → XE → Prop
abbrev EvA := PEnv → PH → (List PV → PH → Prop) → XE → Prop
abbrev EvB := PEnv → PH → (Bool → PH → Prop) → XE → Prop
section
variable {P : Pm} {F : FT} {C : CallS} {c : Ct} {lv : Nat} {X : Cx} {sc ow : Scope} {W : WX}

theorem p_var (o : Cok P F C c lv X sc ow W) {i : Nat} {x : Str} {pos : Pos} (h : (at? c.N i x && visB sc x && dunB x) = true) : PE X (.Name x pos) (LE P W (evE P.G C (.var i))) := by
  simp only [Bool.and_eq_true] at h
  obtain ⟨d1, d2, _⟩ := dun_of h.2
  refine (pe_var (i := i) (by rw [o.hN]; exact at_get h.1.1) (by rw [o.hsc]; exact vis_of h.1.2) d1 d2).imp fun σ H Q ⟨env, h, Qp, Xp, re, hr, q, l, lx⟩ => ?_
  simp only [evE] at q
  split at q
  · rename_i v e
    obtain ⟨w, e', r⟩ := re.get e
    exact ⟨w, e', l.here q r hr⟩
  · exact q.elim
theorem p_const {e : Expr} {v : V} {x : PV} (h : PE X e (tC v)) (r : ∀ H, RP P.K H x v) : PE X e (LE P W fun _ h Q _ => Q x h) :=
  h.imp fun σ H Q ⟨env, h, Qp, Xp, re, hr, q, l, lx⟩ => l.here q (r H) hr
theorem p_glob (o : Cok P F C c lv X sc ow W) {g : Nat} {x : Str} {pos : Pos} (h : (at? P.G.nm g x && glB sc x && dunB x && (P.G.gl g).isSome) = true) : PE X (.Name x pos) (LE P W (evE P.G C (.glob g))) := by
  simp only [Bool.and_eq_true, Option.isSome_iff_exists] at h
  obtain ⟨⟨⟨h1, h2⟩, h3⟩, v, hv⟩ := h
  obtain ⟨u, w, a, b, r⟩ := o.wl.gl g x v hv (at_get h1)
  refine (pe_glob (o.glx h2) a b (dun_of h3).1).imp fun σ H Q ⟨env, h, Qp, Xp, re, hr, q, l, lx⟩ => ?_
  simp only [evE, hv] at q
  exact l.here q (r H) hr
theorem p_bin (o : Cok P F C c lv X sc ow W) {op : BinK} {l r : Expr} {pos : Pos} {ea eb : EvE} (hl : PE X l (LE P W ea)) (hr : PE X r (LE P W eb)) :
    PE X (.BinOp l (bOp op) r pos) (LE P W fun env h Q X => ea env h (fun x h1 => eb env h1 (fun y h2 => binV op x y h2 Q) X) X) :=
  (pe_op (op_bin o.hK op) hl hr).imp fun σ H Q q => le_two q
theorem p_neg {e : Expr} {pos : Pos} {ea : EvE} (hl : PE X e (LE P W ea)) :
    PE X (.UnaryOp .USub e pos) (LE P W fun env h Q X => ea env h (fun x h1 => match x with | .int i => Q (.int (-i)) h1 | _ => False) X) := by
  have R : UnR X (unaryOp .USub) (fun v H1 Q => ∃ x h1 Qp, RP P.K H1 x v ∧ HR P h1 H1 ∧ (match x with | .int i => Qp (.int (-i)) h1 | _ => False) ∧ Lft P H1 Qp Q) := by
    intro pins s σ H x v Q I rx ⟨a, h, Qp, r, z, q, l⟩
    cases r with
    | int i => exact un_neg pins s σ H _ v Q I rx ⟨i, rfl, l.here q (.int _) z⟩
    | _ => exact q.elim
  exact (pe_un R hl).imp fun σ H Q q => le_one (f := fun x h1 Q => match x with | .int i => Q (.int (-i)) h1 | _ => False) q
theorem p_cmp (o : Cok P F C c lv X sc ow W) {op : CmpK} {l r : Expr} {pos : Pos} {ea eb : EvE} (hl : PE X l (LE P W ea)) (hr : PE X r (LE P W eb)) (hm : behindInMarks (cOp op) r = false) :
    PE X (.Compare l [cOp op] [r] pos) (LE P W fun env h Q X => ea env h (fun x h1 => eb env h1 (fun y h2 => cmpV op x y h2 fun k => Q (.bl k) h2) X) X) :=
  (pe_cmpR (op_cmp o.hK o.hu op) hl hr hm).imp fun σ H Q q => le_two (f := fun x y h2 Q => cmpV op x y h2 fun k => Q (.bl k) h2) q
theorem lb_val {ea : EvE} {σ : St} {H : Hp} {Q : Bool → Hp → Prop} (q : LB P W (fun env h Q X => ea env h (fun v h1 => truV v h1 fun k => Q k h1) X) σ H Q) : LE P W ea σ H fun x H' => ∃ k, TruV P.K x H' k ∧ Q k H' := by
  obtain ⟨env, h, Qp, Xp, re, hr, q, l, lx⟩ := q
  refine ⟨env, h, _, Xp, re, hr, q, fun x h1 v H1 q1 e1 r1 z1 => ?_, lx⟩
  obtain ⟨k, t, qk⟩ := tru_rel z1 r1 q1
  exact ⟨k, t, l k h1 H1 qk e1 z1⟩
theorem p_val (o : Cok P F C c lv X sc ow W) {e : Expr} {ea : EvE} (h : PE X e (LE P W ea)) (he : ∀ whole, isTrue e X.env whole = (do let v ← whole; standAt e.pos; holding [v] (truthy v))) :
    PT X e (LB P W fun env h Q X => ea env h (fun v h1 => truV v h1 fun k => Q k h1) X) := by
  refine (pt_truth h he).imp fun σ H Q q => ?_
  rw [o.hK]
  exact lb_val q
/-- a truth as a test -/
def onB (Qp : Bool → PH → Prop) : QE := fun v h => match v with
  | .bl k => Qp k h
  | _ => False
theorem lft_onB {H : Hp} {Qp : Bool → PH → Prop} {Q : Bool → Hp → Prop} (l : LftB P H Qp Q) : Lft P H (onB Qp) fun x H' => ∃ k, x = .bl k ∧ Q k H' := by
  intro pr h' v H' q e r z
  cases r with
  | bl k => exact ⟨k, rfl, l k h' H' q e z⟩
  | _ => exact q.elim
/-- a comparison as a test: its value is a truth -/
theorem p_cmpT (o : Cok P F C c lv X sc ow W) {op : CmpK} {l r : Expr} {pos : Pos} {ea eb : EvE} (hl : PE X l (LE P W ea)) (hr : PE X r (LE P W eb)) (hm : behindInMarks (cOp op) r = false) :
    PT X (.Compare l [cOp op] [r] pos) (LB P W fun env h Q X => ea env h (fun x h1 => eb env h1 (fun y h2 => cmpV op x y h2 fun k => Q k h2) X) X) := by
  refine (pt_cmpR (op_cmp o.hK o.hu op) hl hr hm).imp fun σ H Q ⟨env, h, Qp, Xp, re, hr, q, l, lx⟩ => ?_
  exact le_two (f := fun x y h2 Q => cmpV op x y h2 fun k => Q (.bl k) h2) ⟨env, h, onB Qp, Xp, re, hr, q, lft_onB l, lx⟩
/-- two comparisons in a chain -/
theorem le_chain (o : Cok P F C c lv X sc ow W) {p q : CmpK} {ea eb ec : EvE} {σ : St} {H : Hp} {Q : VK}
    (h : LE P W (fun env h Q X => ea env h (fun x h1 => eb env h1 (fun y h2 => cmpV p x y h2 fun k => if k = true then ec env h2 (fun z h3 => cmpV q y z h3 fun k' => Q (.bl k') h3) X else Q (.bl false) h2) X) X) σ H Q) :
    tChain (rTwo P fun a b h Q => cmpV p a b h fun t => Q (.bl t) h) (rTwo P fun a b h Q => cmpV q a b h fun t => Q (.bl t) h) (LE P W ea) (LE P W eb) (LE P W ec) σ H Q := by
  obtain ⟨env, h, Qp, Xp, re, hr, q0, l, lx⟩ := h
  refine ⟨env, h, _, Xp, re, hr, q0, fun x h1 v H1 q1 e1 r1 z1 => ⟨env, h1, _, Xp, re.ext e1, z1, q1, fun y h2 w H2 q2 e2 r2 z2 => ?_, lx.on e1⟩, lx⟩
  refine ⟨x, y, h2, onB fun k h' => h' = h2 ∧ if k = true then ec env h2 (fun z h3 => cmpV q y z h3 fun k' => Qp (.bl k') h3) Xp else Qp (.bl false) h2, r1.ext e2, r2, z2, ?_, ?_⟩
  · simpa only [onB, true_and] using q2
  · intro pr h' u H3 q3 e3 r3 z3
    cases r3 with
    | bl k =>
      obtain ⟨eh, q3⟩ := q3
      subst eh
      refine ⟨k, rfl, ?_⟩
      cases k with
      | false => exact l _ _ _ _ q3 ((e1.trans e2).trans e3) (.bl _) z3
      | true =>
        refine ⟨env, _, _, Xp, ((re.ext e1).ext e2).ext e3, z3, q3, fun z h4 u4 H4 q4 e4 r4 z4 => ?_, ((lx.on e1).on e2).on e3⟩
        exact ⟨y, z, h4, Qp, (r2.ext e3).ext e4, r4, z4, q4, l.on (((e1.trans e2).trans e3).trans e4)⟩
    | _ => exact q3.elim
theorem p_chain (o : Cok P F C c lv X sc ow W) {p q : CmpK} {l m r : Expr} {pos : Pos} {ea eb ec : EvE} (hl : PE X l (LE P W ea)) (hm : PE X m (LE P W eb)) (hr : PE X r (LE P W ec)) (hb : behindInMarks (cOp q) r = false) :
    PE X (.Compare l [cOp p, cOp q] [m, r] pos) (LE P W fun env h Q X => ea env h (fun x h1 => eb env h1 (fun y h2 => cmpV p x y h2 fun k => if k = true then ec env h2 (fun z h3 => cmpV q y z h3 fun k' => Q (.bl k') h3) X else Q (.bl false) h2) X) X) :=
  (pe_chain (op_cmp o.hK o.hu p) (op_cmp o.hK o.hu q) hl hm hr hb).imp fun σ H Q h => le_chain o h
theorem p_chainT (o : Cok P F C c lv X sc ow W) {p q : CmpK} {l m r : Expr} {pos : Pos} {ea eb ec : EvE} (hl : PE X l (LE P W ea)) (hm : PE X m (LE P W eb)) (hr : PE X r (LE P W ec)) (hb : behindInMarks (cOp q) r = false) :
    PT X (.Compare l [cOp p, cOp q] [m, r] pos) (LB P W fun env h Q X => ea env h (fun x h1 => eb env h1 (fun y h2 => cmpV p x y h2 fun k => if k = true then ec env h2 (fun z h3 => cmpV q y z h3 fun k' => Q k' h3) X else Q false h2) X) X) :=
  (pt_chain (op_cmp o.hK o.hu p) (op_cmp o.hK o.hu q) hl hm hr hb).imp fun σ H Q ⟨env, h, Qp, Xp, re, hr, q, l, lx⟩ =>
    le_chain o ⟨env, h, onB Qp, Xp, re, hr, q, lft_onB l, lx⟩
/-! ### and, or, not -/
theorem p_and (o : Cok P F C c lv X sc ow W) {a b : Expr} {rest : List Expr} {pos : Pos} {ea eb : EvE} (ha : PE X a (LE P W ea)) (hb : PE X (.BoolOp .And (b :: rest) pos) (LE P W eb)) :
    PE X (.BoolOp .And (a :: b :: rest) pos) (LE P W fun env h Q X => ea env h (fun x h1 => truV x h1 fun k => if k = true then eb env h1 Q X else Q x h1) X) := by
  refine (pe_andT ha hb).imp fun σ H Q ⟨env, h, Qp, Xp, re, hr, q, l, lx⟩ => ⟨env, h, _, Xp, re, hr, q, fun x h1 v H1 q1 e1 r1 z1 => ?_, lx⟩
  obtain ⟨k, t, qk⟩ := tru_rel z1 r1 q1
  refine ⟨k, o.hK ▸ t, ?_⟩
  cases k with
  | true => exact ⟨env, h1, Qp, Xp, re.ext e1, z1, qk, l.on e1, lx.on e1⟩
  | false => exact l _ _ _ _ qk e1 r1 z1
theorem p_or (o : Cok P F C c lv X sc ow W) {a b : Expr} {rest : List Expr} {pos : Pos} {ea eb : EvE} (ha : PE X a (LE P W ea)) (hb : PE X (.BoolOp .Or (b :: rest) pos) (LE P W eb)) :
    PE X (.BoolOp .Or (a :: b :: rest) pos) (LE P W fun env h Q X => ea env h (fun x h1 => truV x h1 fun k => if k = true then Q x h1 else eb env h1 Q X) X) := by
  refine (pe_orT ha hb).imp fun σ H Q ⟨env, h, Qp, Xp, re, hr, q, l, lx⟩ => ⟨env, h, _, Xp, re, hr, q, fun x h1 v H1 q1 e1 r1 z1 => ?_, lx⟩
  obtain ⟨k, t, qk⟩ := tru_rel z1 r1 q1
  refine ⟨k, o.hK ▸ t, ?_⟩
  cases k with
  | false => exact ⟨env, h1, Qp, Xp, re.ext e1, z1, qk, l.on e1, lx.on e1⟩
  | true => exact l _ _ _ _ qk e1 r1 z1
theorem p_not (o : Cok P F C c lv X sc ow W) {a : Expr} {pos : Pos} {ea : EvE} (ha : PE X a (LE P W ea)) :
    PE X (.UnaryOp .Not a pos) (LE P W fun env h Q X => ea env h (fun x h1 => truV x h1 fun k => Q (.bl (!k)) h1) X) := by
  refine (pe_notT ha).imp fun σ H Q ⟨env, h, Qp, Xp, re, hr, q, l, lx⟩ => ⟨env, h, _, Xp, re, hr, q, fun x h1 v H1 q1 e1 r1 z1 => ?_, lx⟩
  obtain ⟨k, t, qk⟩ := tru_rel z1 r1 q1
  exact ⟨k, o.hK ▸ t, l _ _ _ _ qk e1 (.bl _) z1⟩
theorem p_ite (o : Cok P F C c lv X sc ow W) {t a b : Expr} {pos : Pos} {et : EvB} {ea eb : EvE} (ht : PT X t (LB P W et)) (ha : PE X a (LE P W ea)) (hb : PE X b (LE P W eb)) :
    PE X (.IfExp t a b pos) (LE P W fun env h Q X => et env h (fun k h1 => if k = true then ea env h1 Q X else eb env h1 Q X) X) := by
  refine (pe_ifExp ht ha hb).imp fun σ H Q ⟨env, h, Qp, Xp, re, hr, q, l, lx⟩ => ⟨env, h, _, Xp, re, hr, q, fun k h1 H1 q1 e1 z1 => ?_, lx⟩
  cases k with
  | true => exact ⟨env, h1, Qp, Xp, re.ext e1, z1, q1, l.on e1, lx.on e1⟩
  | false => exact ⟨env, h1, Qp, Xp, re.ext e1, z1, q1, l.on e1, lx.on e1⟩
theorem LftB.on {H H1 : Hp} {Qp : Bool → PH → Prop} {Q : Bool → Hp → Prop} (l : LftB P H Qp Q) (e : Ext H H1) : LftB P H1 Qp Q := fun k h' H' a b z => l k h' H' a (e.trans b) z
theorem q_and {a b : Expr} {rest : List Expr} {pos : Pos} {ea eb : EvB} (ha : PT X a (LB P W ea)) (hb : PW X (.BoolOp .And (b :: rest) pos) (LB P W eb)) :
    PW X (.BoolOp .And (a :: b :: rest) pos) (LB P W fun env h Q X => ea env h (fun k h1 => if k = true then eb env h1 Q X else Q false h1) X) := by
  refine (pw_and ha hb).imp fun σ H Q ⟨env, h, Qp, Xp, re, hr, q, l, lx⟩ => ⟨env, h, _, Xp, re, hr, q, fun k h1 H1 q1 e1 z1 => ?_, lx⟩
  cases k with
  | true => exact ⟨env, h1, Qp, Xp, re.ext e1, z1, q1, LftB.on l e1, lx.on e1⟩
  | false => exact l _ _ _ q1 e1 z1
theorem q_or {a b : Expr} {rest : List Expr} {pos : Pos} {ea eb : EvB} (ha : PT X a (LB P W ea)) (hb : PW X (.BoolOp .Or (b :: rest) pos) (LB P W eb)) :
    PW X (.BoolOp .Or (a :: b :: rest) pos) (LB P W fun env h Q X => ea env h (fun k h1 => if k = true then Q true h1 else eb env h1 Q X) X) := by
  refine (pw_or ha hb).imp fun σ H Q ⟨env, h, Qp, Xp, re, hr, q, l, lx⟩ => ⟨env, h, _, Xp, re, hr, q, fun k h1 H1 q1 e1 z1 => ?_, lx⟩
  cases k with
  | false => exact ⟨env, h1, Qp, Xp, re.ext e1, z1, q1, LftB.on l e1, lx.on e1⟩
  | true => exact l _ _ _ q1 e1 z1
theorem q_not {a : Expr} {pos : Pos} {ea : EvB} (ha : PT X a (LB P W ea)) :
    PT X (.UnaryOp .Not a pos) (LB P W fun env h Q X => ea env h (fun k h1 => Q (!k) h1) X) :=
  (pt_not ha).imp fun σ H Q ⟨env, h, Qp, Xp, re, hr, q, l, lx⟩ => ⟨env, h, _, Xp, re, hr, q, fun k h1 H1 q1 e1 z1 => l _ _ _ q1 e1 z1, lx⟩
/-! ### subscripts, slices, displays -/
theorem p_sub (o : Cok P F C c lv X sc ow W) {a b : Expr} {pos : Pos} {ea eb : EvE} (ha : PE X a (LE P W ea)) (hb : PE X b (LE P W eb)) (hs : okE b = true) :
    PE X (.Subscript a b pos) (LE P W fun env h Q X => ea env h (fun x h1 => eb env h1 (fun y h2 => subV x y h2 Q) X) X) :=
  (pe_ix (ix_any o.hK o.hu1) ha hb (ok_sub hs)).imp fun σ H Q q => le_two q
theorem p_none : PO X none (LO P W fun _ h Q _ => Q none h) := po_none.imp fun σ H Q ⟨env, h, Qp, Xp, re, hr, q, l, lx⟩ => l _ _ _ q (.refl H) hr
theorem p_some {e : Expr} {ea : EvE} (he : PE X e (LE P W ea)) : PO X (some e) (LO P W fun env h Q X => ea env h (fun v h1 => match v with | .int i => Q (some i) h1 | _ => False) X) := by
  refine (po_some he).imp fun σ H Q ⟨env, h, Qp, Xp, re, hr, q, l, lx⟩ => ⟨env, h, _, Xp, re, hr, q, fun x h1 v H1 q1 e1 r1 z1 => ?_, lx⟩
  cases r1 with
  | int i => exact ⟨i, rfl, l _ _ _ q1 e1 z1⟩
  | _ => exact q1.elim
abbrev EvO := PEnv → PH → (Option Int → PH → Prop) → XE → Prop
theorem p_slice (o : Cok P F C c lv X sc ow W) {a : Expr} {lo hi : Option Expr} {p2 pos : Pos} {ea : EvE} {el eh : EvO} (ha : PE X a (LE P W ea)) (hl : PO X lo (LO P W el)) (hh : PO X hi (LO P W eh)) :
    PE X (.Subscript a (.Slice lo hi none p2) pos) (LE P W fun env h Q X => ea env h (fun x h1 => el env h1 (fun l h2 => eh env h2 (fun u h3 => sliV x l u h3 Q) X) X) X) := by
  refine (pe_slice (sl_any o.hK) ha hl hh).imp fun σ H Q ⟨env, h, Qp, Xp, re, hr, q, l, lx⟩ => ⟨env, h, _, Xp, re, hr, q, fun x h1 v H1 q1 e1 r1 z1 => ?_, lx⟩
  refine ⟨env, h1, _, Xp, re.ext e1, z1, q1, fun lo' h2 H2 q2 e2 z2 => ?_, lx.on e1⟩
  refine ⟨env, h2, _, Xp, (re.ext e1).ext e2, z2, q2, fun hi' h3 H3 q3 e3 z3 => ?_, (lx.on e1).on e2⟩
  exact ⟨x, h3, Qp, (r1.ext e2).ext e3, z3, q3, l.on ((e1.trans e2).trans e3)⟩
theorem p_nil : PA X [] (LEs P W fun _ h Q _ => Q [] h) := pa_nil.imp fun σ H Q ⟨env, h, Qp, Xp, re, hr, q, l, lx⟩ => l _ _ _ _ q (.refl H) .nil hr
theorem p_cons {e : Expr} {es : List Expr} {ea : EvE} {eb : EvA} (he : PE X e (LE P W ea)) (hs : PA X es (LEs P W eb)) (h : okE e = true) :
    PA X (e :: es) (LEs P W fun env h Q X => ea env h (fun v h1 => eb env h1 (fun vs h2 => Q (v :: vs) h2) X) X) := by
  refine (pa_cons he hs (ok_star h _ _)).imp fun σ H Q ⟨env, h, Qp, Xp, re, hr, q, l, lx⟩ => ⟨env, h, _, Xp, re, hr, q, fun x h1 v H1 q1 e1 r1 z1 => ?_, lx⟩
  exact ⟨env, h1, _, Xp, re.ext e1, z1, q1, fun xs h2 vs H2 q2 e2 r2 z2 => l _ _ _ _ q2 (e1.trans e2) (.cons (r1.ext e2) r2) z2, lx.on e1⟩
theorem p_tup {es : List Expr} {k : Nat} {pos : Pos} {ea : EvA} (ha : PA X es (LEs P W ea)) : PE X (.Tuple es k pos) (LE P W fun env h Q X => ea env h (fun vs h1 => vs.length ≤ sizeLine ∧ Q (.tup vs) h1) X) := by
  refine (pe_tup ha).imp fun σ H Q ⟨env, h, Qp, Xp, re, hr, q, l, lx⟩ => ⟨env, h, _, Xp, re, hr, q, fun x h1 v H1 q1 e1 r1 z1 => ⟨by rw [← r1.length]; exact q1.1, fun p n => ?_⟩, lx⟩
  exact l _ _ _ _ q1.2 (e1.trans (.new n)) (.tup (.inl upd_same) (r1.ext (.new n))) (z1.keep n)
theorem p_lst {es : List Expr} {pos : Pos} {ea : EvA} (ha : PA X es (LEs P W ea)) :
    PE X (.List es pos) (LE P W fun env h Q X => ea env h (fun vs h1 => vs.length ≤ sizeLine ∧ ∀ p, h1 p = none → Q (.loc p) (pup h1 p (.lst vs))) X) := by
  refine (pe_lst ha).imp fun σ H Q ⟨env, h, Qp, Xp, re, hr, q, l, lx⟩ => ⟨env, h, _, Xp, re, hr, q, fun x h1 v H1 q1 e1 r1 z1 => ⟨by rw [← r1.length]; exact q1.1, fun p n => ?_⟩, lx⟩
  exact l _ _ _ _ (q1.2 p (z1.free n)) (e1.trans (.new n)) (.loc p) (rlst_new z1 n r1)
theorem p_dict0 {pos : Pos} : PE X (.Dict [] [] pos) (LE P W fun _ h Q _ => ∀ p, h p = none → Q (.loc p) (pup h p (.dct false []))) :=
  pe_dnewK.imp fun σ H Q ⟨env, h, Qp, Xp, re, hr, q, l, lx⟩ p n => l _ _ _ _ (q p (hr.free n)) (.new n) (.loc p) (rdct_new hr n .nil)
def LPs (P : Pm) (W : WX) (trs : List (TE × TE)) (ev : EvA) : Prop := ∀ σ H env h Qp Xp (Q : List (V × V) → Hp → Prop), RE P.K H env σ → HR P h H → ev env h Qp Xp →
  (∀ xs h' ps H', Qp xs h' → Ext H H' → HR P h' H' → RPs P.K H' xs (ps.flatMap fun p => [p.1, p.2]) → Q ps H') → LftX P W σ H Xp → tPairs trs σ H Q
theorem lps_nil : LPs P W [] fun _ h Q _ => Q [] h := fun σ H env h Qp Xp Q re z q l lx => l [] h [] H q (.refl H) z .nil
theorem lps_cons {trs : List (TE × TE)} {ek ev : EvE} {er : EvA} (ih : LPs P W trs er) :
    LPs P W ((LE P W ek, LE P W ev) :: trs) fun env h Q X => ek env h (fun k h1 => ev env h1 (fun v h2 => er env h2 (fun r h3 => Q (k :: v :: r) h3) X) X) X :=
  fun σ H env h Qp Xp Q re z q l lx => ⟨env, h, _, Xp, re, z, q, fun a h1 v H1 q1 e1 r1 z1 => ⟨env, h1, _, Xp, re.ext e1, z1, q1, fun b h2 w H2 q2 e2 r2 z2 =>
    ih σ H2 env h2 _ Xp _ ((re.ext e1).ext e2) z2 q2 (fun xs h' ps H' q3 e3 z3 r3 => l _ _ _ _ q3 ((e1.trans e2).trans e3) z3 (.cons ((r1.ext e2).ext e3) (.cons (r2.ext e3) r3))) ((lx.on e1).on e2), lx.on e1⟩, lx⟩
theorem pair_rel {K : PySem.W.Frag} {H : Hp} : ∀ {ps : List (V × V)} {xs : List PV} {kvs : List (Key × PV)}, RPs K H xs (ps.flatMap fun p => [p.1, p.2]) → pairUp xs = some kvs → ∃ ws : List (Key × V), ps = ws.map (fun kv => (kV kv.1, kv.2)) ∧ RK K H kvs ws
  | [], xs, kvs, r, e => by
    have r' : RPs K H xs [] := r
    cases r'
    cases e
    exact ⟨[], rfl, .nil⟩
  | (x, y) :: ps, xs, kvs, r, e => by
    have r' : RPs K H xs (x :: y :: ps.flatMap fun p => [p.1, p.2]) := r
    cases r' with
    | cons r1 r' =>
      cases r' with
      | cons r2 r3 =>
        unfold pairUp at e
        split at e
        · rename_i k' r' ek er
          cases e
          obtain ⟨ws, e1, e2⟩ := pair_rel r3 er
          have := toKey_rel r1 ek
          subst this
          exact ⟨(k', y) :: ws, by rw [e1]; rfl, .cons ⟨rfl, r2⟩ e2⟩
        · cases e
theorem p_disp {pos : Pos} {ks : List (Option Expr)} {vs : List Expr} {trs : List (TE × TE)} {ev : EvA} (hp : PPs X pos ks vs trs) (lp : LPs P W trs ev) (h0 : ks ≠ []) (h1 : ks.length = vs.length) (h2 : ks.length ≤ 15) (h3 : ks.all (·.isSome) = true) :
    PE X (.Dict ks vs pos) (LE P W fun env h Q X => ∀ p, h p = none → ev env (pup h p (.dct false [])) (fun xs h1 => h1 p = some (.dct false []) ∧ match pairUp xs with
      | some kvs => kvs.length ≤ 15 ∧ Q (.loc p) (pup h1 p (.dct false (mergeP [] kvs)))
      | none => False) X) := by
  refine (pe_disp hp h3 h1 h0 h2).imp fun σ H Q ⟨env, h, Qp, Xp, re, hr, q, l, lx⟩ p n => ?_
  have x0 : Ext H (upd H p (.dK [])) := .new n
  refine lp σ _ env _ _ Xp _ (re.ext x0) (rdct_new hr n .nil) (q p (hr.free n)) (fun xs h' ps H' q' e' z' r' => ?_) (lx.on x0)
  obtain ⟨q1, q2⟩ := q'
  split at q2
  · rename_i kvs ek
    obtain ⟨ws, g, rr⟩ := z' p _ q1
    have rr' : RK P.K H' [] ws := rr
    cases rr'
    obtain ⟨us, e1, e2⟩ := pair_rel r' ek
    refine ⟨g, us, e1, by rw [← paired_len e2]; exact q2.1, ?_⟩
    exact l _ _ _ _ q2.2 ((x0.trans e').trans (z'.chg q1 _)) (.loc p) (rdct_put z' q1 (rk_merge e2 .nil))
  · exact q2.elim
/-! ### fields -/
theorem rf_look {nm : List Str} (nd : nm.Nodup) {K : PySem.W.Frag} {H : Hp} {f : Nat} {s : Str} (hs : nm[f]? = some s) : ∀ {fs : List (Nat × PV)} {gs : List (Str × V)}, RF nm K H fs gs →
    (∀ v, fs.lookup f = some v → ∃ w, gs.lookup s = some w ∧ RP K H v w) ∧ (fs.lookup f = none → gs.lookup s = none)
  | _, _, .nil => ⟨fun v e => by simp at e, fun _ => rfl⟩
  | (i, x) :: fs, (t, y) :: gs, .cons a r => by
    obtain ⟨e, q⟩ := a
    simp only at e q
    obtain ⟨i1, i2⟩ := rf_look nd hs r
    by_cases hi : i = f
    · subst hi
      rw [hs] at e
      cases e
      exact ⟨fun v ev => by simp at ev; subst ev; exact ⟨y, by simp, q⟩, fun ev => by simp at ev⟩
    · have ht : t ≠ s := by
        intro z
        subst z
        have l1 := (List.getElem?_eq_some_iff.mp e).1
        exact hi ((List.getElem?_inj l1 nd).mp (e.trans hs.symm))
      have hi' : (f == i) = false := by simpa using Ne.symm hi
      have ht' : (s == t) = false := by simpa using Ne.symm ht
      exact ⟨fun v ev => i1 v (by simpa [List.lookup, hi'] using ev) |>.imp fun w ⟨a, b⟩ => ⟨by simpa [List.lookup, ht'] using a, b⟩, fun ev => by simpa [List.lookup, ht'] using i2 (by simpa [List.lookup, hi'] using ev)⟩
theorem rf_put {nm : List Str} (nd : nm.Nodup) {K : PySem.W.Frag} {H : Hp} {f : Nat} {s : Str} {v : PV} {w : V} (hs : nm[f]? = some s) (rv : RP K H v w) : ∀ {fs : List (Nat × PV)} {gs : List (Str × V)}, RF nm K H fs gs → RF nm K H (putA f v fs) (putF s w gs)
  | _, _, .nil => .cons ⟨hs, rv⟩ .nil
  | (i, x) :: fs, (t, y) :: gs, .cons a r => by
    obtain ⟨e, q⟩ := a
    simp only at e q
    unfold putA putF
    by_cases hi : i = f
    · subst hi
      rw [hs] at e
      cases e
      simp only [if_true]
      exact .cons ⟨hs, rv⟩ r
    · have ht : t ≠ s := by
        intro z
        subst z
        have l1 := (List.getElem?_eq_some_iff.mp e).1
        exact hi ((List.getElem?_inj l1 nd).mp (e.trans hs.symm))
      rw [if_neg hi, if_neg ht]
      exact .cons ⟨e, q⟩ (rf_put nd hs rv r)
theorem p_fld (o : Cok P F C c lv X sc ow W) {e : Expr} {s : Str} {f : Nat} {pos : Pos} {ea : EvE} (he : PE X e (LE P W ea)) (h : okE e = true) (hs : P.G.nm[f]? = some s) :
    PE X (.Attribute e s pos) (LE P W fun env h Q X => ea env h (fun x h1 => match x with
      | .loc a => match h1 a with
        | some (.ins c fs) => P.G.fl c f = true ∧ match fs.lookup f with
          | some v => Q v h1
          | none => False
        | _ => False
      | _ => False) X) := by
  refine (pe_fld he (ok_base h _ _)).imp fun σ H Q ⟨env, h, Qp, Xp, re, hr, q, l, lx⟩ => ⟨env, h, _, Xp, re, hr, q, fun x h1 v H1 q1 e1 r1 z1 => ?_, lx⟩
  cases r1 with
  | loc a =>
    simp only at q1
    split at q1
    · rename_i k fs ek
      obtain ⟨q0, q1⟩ := q1
      split at q1
      · rename_i y ey
        obtain ⟨dx, gs, g, rf⟩ := z1 a _ ek
        obtain ⟨w, ew, rw'⟩ := (rf_look o.wl.nd hs rf).1 y ey
        exact ⟨a, P.cls k, dx, gs, w, rfl, g, o.hK ▸ o.wl.cl k f q0, o.hK ▸ o.wl.na k f s q0 hs, ew, l _ _ _ _ q1 e1 rw' z1⟩
      · exact q1.elim
    · exact q1.elim
  | _ => exact q1.elim
end
end Mir

set_option autoImplicit false
namespace Mir
open PySem L2 PySem.Spec
open PyProof.Rows hiding St

section
variable {P : Pm} {F : FT} {C : CallS} {c : Ct} {lv : Nat} {X : Cx} {sc ow : Scope} {W : WX}
/-! ### calls -/
theorem rps_app {K : PySem.W.Frag} {H : Hp} : ∀ {xs : List PV} {vs : List V} {ys : List PV} {ws : List V}, RPs K H xs vs → RPs K H ys ws → RPs K H (xs ++ ys) (vs ++ ws)
  | _, _, _, _, .nil, r => r
  | _, _, _, _, .cons a t, r => .cons a (rps_app t r)
theorem rps_rev {K : PySem.W.Frag} {H : Hp} : ∀ {xs : List PV} {vs : List V}, RPs K H xs vs → RPs K H xs.reverse vs.reverse
  | _, _, .nil => .nil
  | _, _, .cons a t => by
    rw [List.reverse_cons, List.reverse_cons]
    exact rps_app (rps_rev t) (.cons a .nil)
theorem es_cons {es : Es} {a : Expr} {as : List Expr} (h : chkEs c es sc (a :: as) = true) : okE a = true ∧ ∀ (pos : Pos) (env : Env), (backTo pos (starEach as env)).any (·.1) = false := by
  cases es with
  | nil => simp [chkEs] at h
  | cons e es =>
    simp only [chkEs, Bool.and_eq_true] at h
    exact ⟨h.1.1, fun pos env => star_plain h.2 pos env⟩
theorem es_nil {es : Es} (h : chkEs c es sc [] = true) : es = .nil := by
  cases es with
  | nil => rfl
  | cons e es => simp [chkEs] at h
/-- the values of arguments, then a call of what is known to be kept -/
theorem with_args (o : Cok P F C c lv X sc ow W) {es : Es} {args : List Expr} {pos : Pos} {first : List Value} {f : Value} (hk : PySem.W.keepIn X.K f = true) (hc : chkEs c es sc args = true) (ha : PA X args (LEs P W (evEs P.G C es)))
    {g : List PV → PH → QE → XE → Prop} {pins : List (Addr × Obj)} {s : Shared} {σ : St} {H : Hp} {Q : VK} (I : Inv X pins σ H s) (q : LE P W (fun env h Q X => evEs P.G C es env h (fun vs h1 => g vs h1 Q X) X) σ H Q)
    (run : ∀ (us : List Value) (s1 : Shared) (H1 : Hp) (vs : List V) (ps : List PV) (h1 : PH) (Qp : QE) (Xp : XE), Inv X pins σ H1 s1 → Ext H H1 → Vals vs us → RPs P.K H1 ps vs → HR P h1 H1 → g ps h1 Qp Xp → Lft P H1 Qp Q → LftX P W σ H1 Xp →
      wpAny (model X.prog X.w) X.A (call f (first ++ us)) (EP X pins σ Q) X.xe s1) :
    wpAny (model X.prog X.w) X.A (callWith pos f first (backTo pos (starEach args X.env)) (backToKw pos (keywordEach [] X.env))) (EP X pins σ Q) X.xe s := by
  match args, hc, ha with
  | [], hc, _ =>
    have e := es_nil hc
    subst e
    obtain ⟨env, h, Qp, Xp, re, hr, q, l, lx⟩ := q
    refine PySem.W.callWith_K0 I.kIn hk ?_
    exact run [] s H [] [] h Qp Xp I (.refl H) .nil .nil hr q l lx
  | a :: as, hc, ha =>
    obtain ⟨o1, o2⟩ := es_cons hc
    obtain ⟨env, h, Qp, Xp, re, hr, q, l, lx⟩ := q
    have q' : LEs P W (evEs P.G C es) σ H fun vs H1 => ∃ ps h1, Ext H H1 ∧ RPs P.K H1 ps vs ∧ HR P h1 H1 ∧ g ps h1 Qp Xp := ⟨env, h, _, Xp, re, hr, q, fun x h1 v H1 q1 e1 r1 z1 => ⟨x, h1, e1, r1, z1, q1⟩, lx⟩
    refine PySem.W.callWith_K (h₀ := X.base) I.ok.mod.kin hk (thn (ha.run pos pins s σ H _ I q') ?_) (ok_star o1 _ _) (o2 pos X.env)
    rintro us s1 ⟨vs, H1, I1, r, ps, h1, e1, rp, z, q1⟩
    exact ⟨I1.kIn, run us s1 H1 vs ps h1 Qp Xp I1 e1 r rp z q1 (l.on e1) (lx.on e1)⟩
theorem p_call (o : Cok P F C c lv X sc ow W) {x : Str} {f : Nat} {es : Es} {args : List Expr} {p pos : Pos} (hf : c.fnN f = some x) (hg : glB sc x = true) (hd : dunB x = true) (hc : chkEs c es sc args = true) (ha : PA X args (LEs P W (evEs P.G C es))) :
    PE X (.Call (.Name x p) args [] pos) (LE P W (evE P.G C (.call f es))) := by
  obtain ⟨m1, m2⟩ := o.wl.mf f x hf
  rw [← o.hK] at m2
  refine ⟨fun pins s σ H Q I q => ?_⟩
  refine wpAny_Call_Name_kw (ld_glob I (o.glx hg) m1 ?_ (dun_of hd).1)
  exact with_args o (first := []) m2 hc ha (g := fun vs h1 Q X => C f (padD P.G f vs) h1 Q X) I q fun us s1 H1 vs ps h1 Qp Xp I1 e1 r rp z q1 l lx => run_any o I1 r rp z q1 l lx
theorem p_make (o : Cok P F C c lv X sc ow W) {x : Str} {k : Nat} {es : Es} {args : List Expr} {p pos : Pos} (hf : c.clN k = some x) (hg : glB sc x = true) (hd : dunB x = true) (hc : chkEs c es sc args = true) (ha : PA X args (LEs P W (evEs P.G C es)))
    (hi : ∃ f, P.G.ini k = some f) : PE X (.Call (.Name x p) args [] pos) (LE P W (evE P.G C (.make k es))) := by
  have m1 := o.wl.mc k x hf
  obtain ⟨f, ef⟩ := hi
  have M := o.wl.mks k f ef
  rw [← o.hK] at M
  refine ⟨fun pins s σ H Q I q => ?_⟩
  refine wpAny_Call_Name_kw (ld_glob I (o.glx hg) m1 ?_ (dun_of hd).1)
  simp only [evE, ef] at q
  exact with_args o (first := []) M.kp hc ha (g := fun vs h1 Q X => ∀ p, h1 p = none → C f (padD P.G f (.loc p :: vs)) (pup h1 p (.ins k [])) (fun v h2 => v = .non ∧ Q (.loc p) h2) X) I q
    fun us s1 H1 vs ps h1 Qp Xp I1 e1 r rp z q1 l lx => run_new o I1 r rp z ef q1 l lx
theorem few_of {es : Es} {args : List Expr} {pos : Pos} {env : Env} (hc : chkEs c es sc args = true) (hn : args.length < 29) : methodCallForm (args.length + ([] : List Keyword).length) (backTo pos (starEach args env)) (backToKw pos (keywordEach [] env)) = true := by
  unfold methodCallForm
  rw [star_few hc]
  simp only [Bool.true_and, Bool.and_eq_true, decide_eq_true_eq]
  exact ⟨rfl, by simp only [List.length_nil, keywordEach, backToKw, List.map_nil, List.isEmpty_nil, if_true]; omega⟩
theorem p_meth (o : Cok P F C c lv X sc ow W) {e : Expr} {s : Str} {m : Nat} {eo : E} {es : Es} {args : List Expr} {apos pos : Pos} (h : okE e = true) (hl : (apos.endLine == pos.line) = true) (hn : args.length < 29) (hs : P.G.nm[m]? = some s) (he : PE X e (LE P W (evE P.G C eo))) (hc : chkEs c es sc args = true) (ha : PA X args (LEs P W (evEs P.G C es))) :
    PE X (.Call (.Attribute e s apos) args [] pos) (LE P W (evE P.G C (.meth eo m es))) := by
  refine ⟨fun pins st σ H Q I q => ?_⟩
  obtain ⟨env, h0, Qp, Xp, re, hr, q, l, lx⟩ := q
  simp only [evE] at q
  have q' : LE P W (evE P.G C eo) σ H fun v H1 => ∃ x h1, Ext H H1 ∧ RP P.K H1 x v ∧ HR P h1 H1 ∧ _ := ⟨env, h0, _, Xp, re, hr, q, fun x h1 v H1 q1 e1 r1 z1 => ⟨x, h1, e1, r1, z1, q1⟩, lx⟩
  refine PySem.W.methodCall_KW (pl := ?pl) (thn (he.run pins st σ H _ I q') ?_) (by
    show (do
      let ov ← attributeBase e s X.env (eval e X.env)
      standAt apos.atName
      methodCall e s apos pos X.env ov (args.length + ([] : List Keyword).length) (backTo pos (starEach args X.env)) (backToKw pos (keywordEach [] X.env))) = _
    rw [ok_base h]
    unfold methodCall calleeOf methodCallPos
    rw [few_of hc hn]
    simp only [hl, Bool.not_true, Bool.false_or, if_true]
    rfl)
  rintro u s1 ⟨v, H1, I1, rv, x, h1, e1, rx, z1, q1⟩
  cases rx with
  | loc a =>
    cases rv
    simp only at q1
    split at q1
    · rename_i k fs ek
      split at q1
      · rename_i f ef
        obtain ⟨ln, q1⟩ := q1
        obtain ⟨dx, gs, g, rf⟩ := z1 a _ ek
        obtain ⟨cl, mt⟩ := o.wl.me k m f s ef hs
        rw [← o.hK] at cl mt
        refine getmeth_ok I1 g cl mt ((rf_look o.wl.nd hs rf).2 ln) ?_
        refine with_args o (first := [.ref a]) mt.kp hc ha (g := fun vs h2 Q X => C f (padD P.G f (.loc a :: vs)) h2 Q X) I1 ⟨env, h1, Qp, Xp, re.ext e1, z1, q1, l.on e1, lx.on e1⟩ ?_
        intro us s2 H2 vs ps h2 Qp Xp I2 e2 r rp z q2 l lx
        exact run_any o (us := .ref a :: us) (vs := .ref a :: vs) I2 (.cons rfl r) (.cons (.loc a) rp) z q2 l lx
      · exact q1.elim
    · exact q1.elim
  | _ => exact q1.elim
theorem blt_boot (b : BltK) : bootBuiltins (bltN b) = some (bltF b) := by cases b <;> decide +kernel
theorem blt_dun (b : BltK) : bltN b ≠ "__name__" ∧ (bltN b == ("__debug__" : Str)) = false := by cases b <;> decide +kernel
theorem p_blt (o : Cok P F C c lv X sc ow W) {b : BltK} {es : Es} {a : Expr} {as : List Expr} {p pos : Pos} (hg : glB sc (bltN b) = true) (hb : bltN b ∈ c.bls) (hc : chkEs c es sc (a :: as) = true) (ha : PA X (a :: as) (LEs P W (evEs P.G C es))) :
    PE X (.Call (.Name (bltN b) p) (a :: as) [] pos) (LE P W (evE P.G C (.blt b es))) := by
  obtain ⟨o1, o2⟩ := es_cons hc
  have go : ∀ σ H Q, LE P W (evE P.G C (.blt b es)) σ H Q → tCB (rBlt P b) (LEs P W (evEs P.G C es)) σ H Q := fun σ H Q ⟨env, h, Qp, Xp, re, hr, q, l, lx⟩ =>
    ⟨env, h, _, Xp, re, hr, q, fun x h1 v H1 q1 e1 r1 z1 => ⟨x, h1, Qp, r1, z1, q1, l.on e1⟩, lx⟩
  have cb := call_blt o.calm o.hK b
  have bo := blt_boot b
  have bn := o.bnone hb
  obtain ⟨d1, d2⟩ := blt_dun b
  have both : (∃ id, bltF b = .builtin id) ∨ ∃ T, bltF b = .type T := by cases b <;> first | exact .inl ⟨_, rfl⟩ | exact .inr ⟨_, rfl⟩
  rcases both with ⟨id, e⟩ | ⟨T, e⟩
  · rw [e] at cb bo
    exact (pe_callB cb (o.glx hg) bn bo ha d1 d2 (ok_star o1 _ _) (o2 pos X.env)).imp go
  · rw [e] at cb bo
    exact (pe_callTy cb (o.glx hg) bn bo ha d1 d2 (ok_star o1 _ _) (o2 pos X.env)).imp go
theorem bm_slot (m : BmK) : PlainAttrs (btS (bmT m)) ∧ Slot (btS (bmT m)) (bmN m) (bmId m) ∧ typeOf (.builtin (bmId m)) = Pure.pure (.type "method_descriptor") := by
  cases m with
  | append => exact ⟨PySem.F.plainAttrs_list, PySem.F.slot_list_append, PySem.F.type_list_append⟩
  | extend => exact ⟨PySem.F.plainAttrs_list, PySem.F.slot_list_extend, PySem.F.type_list_extend⟩
  | popAt => exact ⟨PySem.F.plainAttrs_list, PySem.F.slot_list_pop, PySem.F.type_list_pop⟩
  | clearL => exact ⟨PySem.F.plainAttrs_list, PySem.F.slot_list_clear, PySem.F.type_list_clear⟩
  | index => exact ⟨PySem.F.plainAttrs_list, PySem.F.slot_list_index, PySem.F.type_list_index⟩
  | get => exact ⟨PySem.F.plainAttrs_dict, PySem.F.slot_dict_get, PySem.F.type_dict_get⟩
  | setdefault => exact ⟨PySem.F.plainAttrs_dict, PySem.F.slot_dict_setdefault, PySem.F.type_dict_setdefault⟩
  | update => exact ⟨PySem.F.plainAttrs_dict, PySem.F.slot_dict_update, PySem.F.type_dict_update⟩
  | popK => exact ⟨PySem.F.plainAttrs_dict, PySem.F.slot_dict_pop, PySem.F.type_dict_pop⟩
  | clearD => exact ⟨PySem.F.plainAttrs_dict, PySem.F.slot_dict_clear, PySem.F.type_dict_clear⟩
  | items => exact ⟨PySem.F.plainAttrs_dict, PySem.F.slot_dict_items, PySem.F.type_dict_items⟩
  | values => exact ⟨PySem.F.plainAttrs_dict, PySem.F.slot_dict_values, PySem.F.type_dict_values⟩
  | join => exact ⟨PySem.F.plainAttrs_str, PySem.F.slot_str_join, PySem.F.type_str_join⟩
  | split => exact ⟨PySem.F.plainAttrs_str, PySem.F.slot_str_split, PySem.F.type_str_split⟩
  | find => exact ⟨PySem.F.plainAttrs_str, PySem.F.slot_str_find, PySem.F.type_str_find⟩
  | startswith => exact ⟨PySem.F.plainAttrs_str, PySem.F.slot_str_startswith, PySem.F.type_str_startswith⟩
  | upper => exact ⟨PySem.F.plainAttrs_str, PySem.F.slot_str_upper, PySem.F.type_str_upper⟩
  | count => exact ⟨PySem.F.plainAttrs_str, PySem.F.slot_str_count, PySem.F.type_str_count⟩
theorem p_bm (o : Cok P F C c lv X sc ow W) {m : BmK} {eo : E} {es : Es} {e : Expr} {args : List Expr} {apos cpos : Pos} (h : okE e = true) (hl : (apos.endLine == cpos.line) = true) (hn : args.length < 29) (he : PE X e (LE P W (evE P.G C eo))) (hc : chkEs c es sc args = true)
    (ha : PA X args (LEs P W (evEs P.G C es))) : PE X (.Call (.Attribute e (bmN m) apos) args [] cpos) (LE P W (evE P.G C (.bm m eo es))) := by
  obtain ⟨s1, s2, s3⟩ := bm_slot m
  have mt := mt_any (P := P) o.calm o.hu1 o.hK m
  match args, hc, ha, hn with
  | [], hc, _, _ =>
    have e := es_nil hc
    subst e
    refine (pe_bm0 s1 s2 s3 mt he (ok_base h _ _) hl).imp fun σ H Q ⟨env, h, Qp, Xp, re, hr, q, l, lx⟩ => ⟨env, h, _, Xp, re, hr, q, fun x h1 v H1 q1 e1 r1 z1 => ?_, lx⟩
    exact ⟨o.hK ▸ ty_rel z1 r1 q1.1, x, [], h1, Qp, r1, .nil, z1, q1.2, l.on e1⟩
  | a :: as, hc, ha, hn =>
    obtain ⟨o1, o2⟩ := es_cons hc
    have few : ((backTo cpos (starEach (a :: as) X.env)).all (fun x => !x.1) && (backToKw cpos (keywordEach [] X.env)).all (fun x => x.1.isSome)
        && decide ((a :: as).length + ([] : List Keyword).length + (if ([] : List Keyword).isEmpty then 0 else 1) < 30)) = true := by
      rw [star_few hc]
      simp only [Bool.true_and, Bool.and_eq_true, decide_eq_true_eq]
      exact ⟨rfl, by simp only [List.length_nil, List.isEmpty_nil, if_true]; omega⟩
    refine (pe_bm s1 s2 s3 mt he ha (ok_base h _ _) few hl (ok_star o1 _ _) (o2 cpos X.env)).imp fun σ H Q ⟨env, h, Qp, Xp, re, hr, q, l, lx⟩ => ⟨env, h, _, Xp, re, hr, q, fun x h1 v H1 q1 e1 r1 z1 => ?_, lx⟩
    refine ⟨o.hK ▸ ty_rel z1 r1 q1.1, env, h1, _, Xp, re.ext e1, z1, q1.2, fun xs h2 vs H2 q2 e2 r2 z2 => ?_, lx.on e1⟩
    exact ⟨x, xs, h2, Qp, r1.ext e2, r2, z2, q2, l.on (e1.trans e2)⟩
theorem p_isi (o : Cok P F C c lv X sc ow W) {t : TyK} {eo : E} {e : Expr} {p p2 pos : Pos} (n : ∀ k, t ≠ .own k) (hg : glB sc "isinstance" = true) (hb : ("isinstance" : Str) ∈ c.bls) (hg2 : glB sc (Str.ofString (tyS t)) = true) (hb2 : Str.ofString (tyS t) ∈ c.bls) (h : okE e = true)
    (he : PE X e (LE P W (evE P.G C eo))) : PE X (.Call (.Name "isinstance" p) [e, .Name (Str.ofString (tyS t)) p2] [] pos) (LE P W (evE P.G C (.isi eo t))) := by
  have bt : bootBuiltins (Str.ofString (tyS t)) = some (.type (tyS t)) ∧ Str.ofString (tyS t) ≠ "__name__" ∧ (Str.ofString (tyS t) == ("__debug__" : Str)) = false := by
    cases t with
    | own k => exact absurd rfl (n k)
    | _ => clear n hg2 hb2; decide +kernel
  have hT : PE X (.Name (Str.ofString (tyS t)) p2) (tC (.ty (tyS t))) := pe_bltn (o.glx hg2) (o.bnone hb2) bt.1 rfl bt.2.1 bt.2.2
  refine (pe_callB (call_isiP o.hK t) (o.glx hg) (o.bnone hb) (by decide +kernel) (pa_cons he (pa_cons hT pa_nil) (ok_star h _ _)) (by decide) (by decide) (ok_star h _ _)).imp ?_
  intro σ H Q ⟨env, h, Qp, Xp, re, hr, q, l, lx⟩
  refine ⟨env, h, _, Xp, re, hr, q, fun x h1 v H1 q1 e1 r1 z1 => ?_, lx⟩
  exact ⟨x, h1, Qp, v, rfl, r1, z1, n, q1, l.on e1⟩
theorem p_isx (o : Cok P F C c lv X sc ow W) {k : Option Nat} {eo : E} {e : Expr} {y : Str} {p p2 pos : Pos} (hg : glB sc "isinstance" = true) (hb : ("isinstance" : Str) ∈ c.bls) (hy : isxN c sc k (.Name y p2) = true) (h : okE e = true)
    (he : PE X e (LE P W (evE P.G C eo))) : PE X (.Call (.Name "isinstance" p) [e, .Name y p2] [] pos) (LE P W (evE P.G C (.isx eo k))) := by
  have run : ∀ (c : V) (cv : Value) (hT : PE X (.Name y p2) (tC c)) (hc : ClsV c cv) (hz : (∀ c, k = some c → P.G.isz c = true) → PySem.W.kitOne X.K (.type "NoneType") cv = some false) (hs : ∀ c, k = some c → P.G.isz c = true → PySem.W.kitOne X.K (.type "str") cv = some false)
      (hi : ∀ d b, (match k with | none => P.G.isv d | some c => P.G.isa d c) = some b → PySem.W.kitOne X.K (.ref (P.cls d)) cv = some b),
      PE X (.Call (.Name "isinstance" p) [e, .Name y p2] [] pos) (LE P W (evE P.G C (.isx eo k))) := by
    intro cc cv hT hc hz hs hi
    have R : CallR X (.builtin "isinstance") (fun xs H Q => ∃ x v h1 Qp, xs = [v, cc] ∧ RP P.K H x v ∧ HR P h1 H ∧ isxV P.G x h1 k (fun b => Qp (.bl b) h1) ∧ Lft P H Qp Q) := by
      intro pins s σ H xs us Q I ru ⟨x, v, h1, Qp, ex, r, z, q, l⟩
      subst ex
      have fin : ∀ {t : Value} {b : Bool}, TyX X.K H v t → PySem.W.kitOne X.K t cv = some b → Qp (.bl b) h1 → wpAny (model X.prog X.w) X.A (call (.builtin "isinstance") us) (EP X pins σ Q) X.xe s := fun {t b} ty kk qq =>
        call_isi pins s σ H _ us Q I ru ⟨v, _, _, _, b, rfl, hc, ty, kk, l.here qq (.bl _) z⟩
      cases r with
      | non =>
        refine fin (b := false) (.base .non) (hz fun c e => ?_) ?_
        · subst e
          exact q.1
        · cases k with
          | none => exact q
          | some c => exact q.2
      | str y =>
        cases k with
        | none => exact q.elim
        | some c => exact fin (b := false) (.base (.str _)) (hs c rfl q.1) q.2
      | loc a =>
        simp only [isxV] at q
        split at q
        · rename_i d ed
          obtain ⟨q0, q⟩ := q
          split at q
          · rename_i b eb
            have g : H a = some (ExV (.ref (P.cls d)) a) := z a _ ed
            obtain ⟨u1, u2, rfl, r1, r2⟩ := vals2 ru
            obtain rfl : u1 = Value.ref a := r1
            have e2 := hc.eq r2
            subst e2
            have EC := o.wl.wx.xc d q0
            rw [← o.hK] at EC
            exact call_isX EC I g (hi _ _ eb) fun tk => ⟨.bl b, H, I.tok tk, rfl, l.here q (.bl _) z⟩
          · exact q.elim
        · rename_i d fs ed
          obtain ⟨q0, q⟩ := q
          split at q
          · rename_i b eb
            obtain ⟨dx, gs, g, _⟩ := z a _ ed
            have IC := o.wl.wx.ic d q0
            rw [← o.hK] at IC
            refine fin (.base (.ins g IC.cl IC.ha IC.hn IC.ht IC.hm)) (hi d b ?_) q
            cases k with
            | none => cases eb
            | some c => exact eb
          · exact q.elim
        · exact q.elim
      | _ => exact q.elim
    refine (pe_callB R (o.glx hg) (o.bnone hb) (by decide +kernel) (pa_cons he (pa_cons hT pa_nil) (ok_star h _ _)) (by decide) (by decide) (ok_star h _ _)).imp ?_
    intro σ H Q ⟨env, h, Qp, Xp, re, hr, q, l, lx⟩
    exact ⟨env, h, _, Xp, re, hr, q, fun x h1 v H1 q1 e1 r1 z1 => ⟨x, v, h1, Qp, rfl, r1, z1, q1, l.on e1⟩, lx⟩
  cases k with
  | some k =>
    simp only [isxN, Bool.and_eq_true] at hy
    obtain ⟨⟨h1, h2⟩, h3⟩ := hy
    have m1 := o.wl.mc k y (opt_get h1)
    refine run (.ref (P.cls k)) (.ref (P.cls k)) (pe_glob (o.glx h2) m1 rfl (dun_of h3).1) (.own _) (fun e => ?_) (fun c e1 e2 => ?_) fun d b e => ?_
    · rw [o.hK]
      exact (o.wl.wx.isz k (e k rfl)).1
    · cases e1
      rw [o.hK]
      exact (o.wl.wx.isz k e2).2
    · rw [o.hK]
      exact o.wl.wx.isa d k b e
  | none =>
    simp only [isxN, Bool.and_eq_true, decide_eq_true_eq] at hy
    obtain ⟨⟨h1, h2⟩, h3⟩ := hy
    subst h1
    refine run (.ty "ValueError") (.type "ValueError") (pe_bltn (o.glx h2) (o.bnone h3) (by decide +kernel) rfl (by decide) (by decide)) (.ty _) (fun e => ?_) (fun c e => by cases e) fun d b e => ?_
    · exact kit_ty (by decide +kernel)
    · rw [o.hK]
      exact o.wl.wx.isv d b e
theorem p_make0 (o : Cok P F C c lv X sc ow W) {x : Str} {k : Nat} {p pos : Pos} (h0 : P.G.in0 k = true) (hf : c.clN k = some x) (hg : glB sc x = true) (hd : dunB x = true) : PE X (.Call (.Name x p) [] [] pos) (LE P W (evE P.G C (.make0 k))) := by
  have m1 := o.wl.mc k x hf
  obtain ⟨f1, f2, f3⟩ := o.wl.wx.in0 k h0
  rw [← o.hK] at f1 f2 f3
  refine ⟨fun pins s σ H Q I q => ?_⟩
  refine wpAny_Call_Name_kw (ld_glob I (o.glx hg) m1 ?_ (dun_of hd).1)
  obtain ⟨env, h, Qp, Xp, re, z, q, l, lx⟩ := q
  refine PySem.W.callWith_K0 I.kIn f3 (run_make0 f1 f2 I ?_)
  have n1 : H s.heap.objs.size = none := I.hok.fresh (Nat.le_refl _)
  have n2 : H (s.heap.objs.size + 1) = none := I.hok.fresh (Nat.le_succ _)
  have ne : s.heap.objs.size ≠ s.heap.objs.size + 1 := Nat.ne_of_lt (Nat.lt_succ_self _)
  have n3 : upd H s.heap.objs.size (.own (s.heap.objs.size + 1)) (s.heap.objs.size + 1) = none := by rw [upd_ne ne.symm]; exact n2
  have x1 : Ext H (upd H s.heap.objs.size (.own (s.heap.objs.size + 1))) := .new n1
  have x2 : Ext (upd H s.heap.objs.size (.own (s.heap.objs.size + 1))) (upd (upd H s.heap.objs.size (.own (s.heap.objs.size + 1))) (s.heap.objs.size + 1) (.ins (P.cls k) s.heap.objs.size [])) := .new n3
  have z2 : HR P (pup h (s.heap.objs.size + 1) (.ins k [])) (upd (upd H s.heap.objs.size (.own (s.heap.objs.size + 1))) (s.heap.objs.size + 1) (.ins (P.cls k) s.heap.objs.size [])) :=
    (z.keep n1).upd x2 ⟨s.heap.objs.size, [], upd_same, .nil⟩
  exact l _ _ _ _ (q.2 _ (z.free n2)) (x1.trans x2) (.loc _) z2
theorem p_rev (o : Cok P F C c lv X sc ow W) {e : Expr} {eo : E} {k : Nat} {p1 p2 p3 pos : Pos} (he : PE X e (LE P W (evE P.G C eo))) : PE X (.Subscript e (.Slice none none (some (.UnaryOp .USub (.Constant (.int 1) k p1) p2)) p3) pos) (LE P W (evE P.G C (.rev eo))) := by
  refine (pe_revL he).imp ?_
  intro σ H Q ⟨env, h, Qp, Xp, re, hr, q, l, lx⟩
  refine ⟨env, h, _, Xp, re, hr, q, fun x h1 v H1 q1 e1 r1 z1 => ?_, lx⟩
  rw [o.hK]
  cases r1 with
  | fl t r => exact ⟨_, _, rfl, t.sq, fun p n => l _ _ _ _ (q1 p (z1.free n)) (e1.trans (.new n)) (.loc p) (rlst_new z1 n (rps_rev r))⟩
  | loc a =>
    simp only [listK] at q1
    split at q1
    · rename_i xs ex
      obtain ⟨vs, g, r⟩ := z1.lst ex
      exact ⟨_, _, rfl, SqL.of g, fun p n => l _ _ _ _ (q1 p (z1.free n)) (e1.trans (.new n)) (.loc p) (rlst_new z1 n (rps_rev r))⟩
    · exact q1.elim
  | _ => exact q1.elim
theorem kp_rel {K : PySem.W.Frag} {H : Hp} (k : Key) : RP K H (kP k) (kV k) := by
  cases k with
  | inl i => exact .int i
  | inr s => exact .str s
theorem pairs_lie {K : PySem.W.Frag} {H H' : Hp} (ex : Ext H H') : ∀ {ts : List Addr} {ws : List (Key × V)} {kvs : List (Key × PV)}, Paired (fun (t : Addr) (q : Key × V) => H' t = some (.tup [kV q.1, q.2])) ts ws → RK K H kvs ws →
    RPs K H' (kvs.map fun kv => PV.tup [kP kv.1, kv.2]) (ts.map V.ref)
  | _, _, _, .nil, .nil => .nil
  | _, _, (k, x) :: _, .cons a1 a2, .cons b1 b2 => by
    obtain ⟨ek, rk⟩ := b1
    refine .cons (.tup (.inl a1) ?_) (pairs_lie ex a2 b2)
    rw [← ek]
    exact .cons (kp_rel k) (.cons (rk.ext ex) .nil)
theorem p_listItems (o : Cok P F C c lv X sc ow W) {eo : E} {e : Expr} {p apos cpos pos : Pos} (hg : glB sc "list" = true) (hb : ("list" : Str) ∈ c.bls) (h : okE e = true) (hl : (apos.endLine == cpos.line) = true) (he : PE X e (LE P W (evE P.G C eo))) :
    PE X (.Call (.Name "list" p) [.Call (.Attribute e "items" apos) [] [] cpos] [] pos) (LE P W (evE P.G C (.listItems eo))) := by
  refine (LiI.pe_listItems o.calm he (o.glx hg) (o.bnone hb) (by decide +kernel) (ok_base h _ _) hl).imp fun σ H Q ⟨env, h, Qp, Xp, re, hr, q, l, lx⟩ => ⟨env, h, _, Xp, re, hr, q, fun x h1 v H1 q1 e1 r1 z1 => ?_, lx⟩
  cases r1 with
  | loc d =>
    simp only at q1
    split at q1
    · rename_i kvs ed
      obtain ⟨ws, g, rr⟩ := z1 d _ ed
      refine ⟨d, ws, rfl, g, fun H' p' ts same np nt nn hp hts => ?_⟩
      have ex : Ext H1 H' := ⟨fun a xs e => same _ _ e, fun a o u e => same _ _ e⟩
      have z2 : HR P h1 H' := fun a c e => by
        obtain ⟨u, eu⟩ := (z1 a c e).there
        exact (z1 a c e).ext ex (by rw [eu, same _ _ eu])
      refine l _ _ _ _ (q1 p' (z1.free np)) (e1.trans ex) (.loc p') fun a cc e => ?_
      by_cases ea : a = p'
      · subst ea
        rw [pup_same] at e
        cases e
        refine ⟨ts.map V.ref, hp, ?_⟩
        exact pairs_lie ex hts rr
      · rw [pup_ne ea] at e
        exact z2 a cc e
    · exact q1.elim
  | _ => exact q1.elim
end
end Mir

set_option autoImplicit false
namespace Mir
open PySem L2 PySem.Spec
open PyProof.Rows hiding St

theorem LAt.ext {K : PySem.W.Frag} {H H' : Hp} {a : Addr} {vs : List V} (x : Ext H H') (t : LAt K H a vs) : LAt K H' a vs := t.elim (fun ⟨o, z⟩ => .inl ⟨o, x.fz _ _ _ z⟩) .inr
theorem TAt.ext {K : PySem.W.Frag} {H H' : Hp} {a : Addr} {vs : List V} (x : Ext H H') (t : TAt K H a vs) : TAt K H' a vs := t.elim (fun z => .inl (x.tp _ _ z)) .inr
section
variable {P : Pm} {H1 : Hp}
theorem j_lst {a : Addr} {xs : List PV} : JOk P H1 (Itl P.K a) xs fun h' => h' a = some (.lst xs) where
  go := fun i h' H' x z st hi => by
    obtain ⟨vs, g, r⟩ := z.lst st
    obtain ⟨v, e, _⟩ := r.get (List.getElem?_eq_getElem hi)
    exact ⟨vs, v, SqL.of g, e⟩
  stop := fun h' H' x z st => by
    obtain ⟨vs, g, r⟩ := z.lst st
    exact ⟨vs, SqL.of g, Nat.le_of_eq r.length.symm⟩
  yld := fun i h' H' y H'' x z st hi q => by
    obtain ⟨e, q⟩ := q
    subst e
    obtain ⟨vs, g, r⟩ := z.lst st
    obtain ⟨pv, e, rr⟩ := r.getR (q vs (SqL.of g))
    exact ⟨.refl _, z, pv, e, rr⟩
theorem j_fl {a : Addr} {xs : List PV} {vs : List V} (t : LAt P.K H1 a vs) (r : RPs P.K H1 xs vs) : JOk P H1 (Itl P.K a) xs fun _ => True where
  go := fun i h' H' x z st hi => by
    obtain ⟨v, e, _⟩ := r.get (List.getElem?_eq_getElem hi)
    exact ⟨vs, v, (t.ext x).sq, e⟩
  stop := fun h' H' x z st => ⟨vs, (t.ext x).sq, Nat.le_of_eq r.length.symm⟩
  yld := fun i h' H' y H'' x z st hi q => by
    obtain ⟨e, q⟩ := q
    subst e
    obtain ⟨pv, e, rr⟩ := r.getR (q vs (t.ext x).sq)
    exact ⟨.refl _, z, pv, e, rr.ext x⟩
theorem j_tup {a : Addr} {xs : List PV} {vs : List V} (t : TAt P.K H1 a vs) (r : RPs P.K H1 xs vs) : JOk P H1 (Itt P.K a) xs fun _ => True where
  go := fun i h' H' x z st hi => by
    obtain ⟨v, e, _⟩ := r.get (List.getElem?_eq_getElem hi)
    exact ⟨vs, v, (t.ext x).sq, e⟩
  stop := fun h' H' x z st => ⟨vs, (t.ext x).sq, Nat.le_of_eq r.length.symm⟩
  yld := fun i h' H' y H'' x z st hi q => by
    obtain ⟨e, q⟩ := q
    subst e
    obtain ⟨pv, e, rr⟩ := r.getR (q vs (t.ext x).sq)
    exact ⟨.refl _, z, pv, e, rr.ext x⟩
theorem signs_len (s : Str) : (signs s).length = s.cps.size := by simp [signs]
theorem j_str {s : Str} : JOk P H1 (Its s) (signs s) fun _ => True where
  go := fun i h' H' x z st hi => by rw [signs_len] at hi; exact hi
  stop := fun h' H' x z st => by rw [signs_len]; exact Nat.le_refl _
  yld := fun i h' H' y H'' x z st hi q => by
    obtain ⟨e, c, ec, ey⟩ := q
    subst e ey
    refine ⟨.refl _, z, .str ⟨#[c]⟩, ?_, .str _⟩
    simp only [signs, List.getElem?_map, Array.getElem?_toList, ec, Option.map_some]
theorem j_rng {lo : Int} {n : Nat} : JOk P H1 (Itr lo n) ((List.range n).map fun i => .int (lo + (i : Nat))) fun _ => True where
  go := fun i h' H' x z st hi => by show i < n; simpa using hi
  stop := fun h' H' x z st => by simp [Itr]
  yld := fun i h' H' y H'' x z st hi q => by
    obtain ⟨e, ey⟩ := q
    subst e ey
    refine ⟨.refl _, z, .int (lo + (i : Nat)), ?_, .int _⟩
    simp only [List.length_map, List.length_range] at hi
    simp [List.getElem?_map, List.getElem?_range hi]
theorem j_rngC {lo c : Int} {n : Nat} : JOk P H1 (Itc lo c n) ((List.range n).map fun i => .int (lo + (i : Nat) * c)) fun _ => True where
  go := fun i h' H' x z st hi => by show i < n; simpa using hi
  stop := fun h' H' x z st => by simp [Itc]
  yld := fun i h' H' y H'' x z st hi q => by
    obtain ⟨e, ey⟩ := q
    subst e ey
    refine ⟨.refl _, z, .int (lo + (i : Nat) * c), ?_, .int _⟩
    simp only [List.length_map, List.length_range] at hi
    simp [List.getElem?_map, List.getElem?_range hi]
theorem enum_at {xs : List PV} {i : Nat} {x : PV} (e : xs[i]? = some x) : (xs.zipIdx.map fun p => PV.tup [.int (p.2 : Nat), p.1])[i]? = some (.tup [.int (i : Nat), x]) := by
  simp [List.getElem?_map, List.getElem?_zipIdx, e]
theorem enum_len {xs : List PV} : (xs.zipIdx.map fun p => PV.tup [.int (p.2 : Nat), p.1]).length = xs.length := by simp
theorem enum_step {K : PySem.W.Frag} {H' : Hp} {T : Addr} {i : Nat} {x : V} {pv : PV} (n : H' T = none) (r : RP K H' pv x) : RP K (upd H' T (.tup [.int (i : Nat), x])) (.tup [.int (i : Nat), pv]) (.ref T) :=
  .tup (.inl upd_same) (.cons (.int _) (.cons (r.ext (.new n)) .nil))
theorem j_enum {a : Addr} {xs : List PV} : JOk P H1 (Ite P.K a) (xs.zipIdx.map fun p => .tup [.int (p.2 : Nat), p.1]) fun h' => h' a = some (.lst xs) where
  go := fun i h' H' x z st hi => by
    rw [enum_len] at hi
    obtain ⟨vs, g, r⟩ := z.lst st
    obtain ⟨v, e, _⟩ := r.get (List.getElem?_eq_getElem hi)
    exact ⟨vs, v, SqL.of g, e⟩
  stop := fun h' H' x z st => by
    rw [enum_len]
    obtain ⟨vs, g, r⟩ := z.lst st
    exact ⟨vs, SqL.of g, Nat.le_of_eq r.length.symm⟩
  yld := fun i h' H' y H'' x z st hi q => by
    obtain ⟨T, v, ey, n, eh, q⟩ := q
    subst ey eh
    obtain ⟨vs, g, r⟩ := z.lst st
    obtain ⟨pv, e, rr⟩ := r.getR (q vs (SqL.of g))
    exact ⟨.new n, z.keep n, _, enum_at e, enum_step n rr⟩
theorem j_enumF {a : Addr} {xs : List PV} {vs : List V} (t : LAt P.K H1 a vs) (r : RPs P.K H1 xs vs) : JOk P H1 (Ite P.K a) (xs.zipIdx.map fun p => .tup [.int (p.2 : Nat), p.1]) fun _ => True where
  go := fun i h' H' x z st hi => by
    rw [enum_len] at hi
    obtain ⟨v, e, _⟩ := r.get (List.getElem?_eq_getElem hi)
    exact ⟨vs, v, (t.ext x).sq, e⟩
  stop := fun h' H' x z st => by
    rw [enum_len]
    exact ⟨vs, (t.ext x).sq, Nat.le_of_eq r.length.symm⟩
  yld := fun i h' H' y H'' x z st hi q => by
    obtain ⟨T, v, ey, n, eh, q⟩ := q
    subst ey eh
    obtain ⟨pv, e, rr⟩ := r.getR (q vs (t.ext x).sq)
    exact ⟨.new n, z.keep n, _, enum_at e, enum_step n (rr.ext x)⟩
theorem rk_at {K : PySem.W.Frag} {H : Hp} {kvs : List (Key × PV)} {ws : List (Key × V)} (r : RK K H kvs ws) {i : Nat} {k : Key} {v : V} (e : ws[i]? = some (k, v)) : ∃ x, kvs[i]? = some (k, x) ∧ RP K H x v := by
  obtain ⟨⟨k', x⟩, q, a, b⟩ := paired_at r e
  simp only at a b
  subst a
  exact ⟨x, q, b⟩
theorem j_keys {d : Addr} {o : Obj} {kvs : List (Key × PV)} {ws : List (Key × V)} (g : H1 d = some (.frz o (.dK ws))) (r : RK P.K H1 kvs ws) : JOk P H1 (Itk d o ws) (kvs.map fun kv => kP kv.1) fun _ => True where
  go := fun i h' H' x z st hi => ⟨x.fz _ _ _ g, by rw [← paired_len r]; simpa using hi⟩
  stop := fun h' H' x z st => ⟨x.fz _ _ _ g, by rw [← paired_len r]; simp⟩
  yld := fun i h' H' y H'' x z st hi q => by
    obtain ⟨e, k, v, ew, ey⟩ := q
    subst e ey
    obtain ⟨pv, e, rr⟩ := rk_at r ew
    refine ⟨.refl _, z, kP k, ?_, kp_rel k⟩
    simp [List.getElem?_map, e]
theorem j_items {d : Addr} {o : Obj} {kvs : List (Key × PV)} {ws : List (Key × V)} (g : H1 d = some (.frz o (.dK ws))) (r : RK P.K H1 kvs ws) : JOk P H1 (Iti d o ws) (kvs.map fun kv => .tup [kP kv.1, kv.2]) fun _ => True where
  go := fun i h' H' x z st hi => ⟨x.fz _ _ _ g, by rw [← paired_len r]; simpa using hi⟩
  stop := fun h' H' x z st => ⟨x.fz _ _ _ g, by rw [← paired_len r]; simp⟩
  yld := fun i h' H' y H'' x z st hi q => by
    obtain ⟨T, k, v, ew, ey, n, eh⟩ := q
    subst ey eh
    obtain ⟨pv, e, rr⟩ := rk_at r ew
    refine ⟨.new n, z.keep n, .tup [kP k, pv], ?_, .tup (.inl upd_same) (.cons (kp_rel k) (.cons ((rr.ext x).ext (.new n)) .nil))⟩
    simp [List.getElem?_map, e]
end

abbrev EvI := PEnv → PH → (List PV → (PH → Prop) → PH → Prop) → XE → Prop
section
variable {P : Pm} {F : FT} {C : CallS} {c : Ct} {lv : Nat} {X : Cx} {sc ow : Scope} {W : WX}
theorem p_iex (o : Cok P F C c lv X sc ow W) {tg e : Expr} {ea : EvE} (he : PE X e (LE P W ea)) : PI X tg e (LI P W fun env h K X => ea env h (fun v h1 => seqK v h1 fun xs still => K xs still h1) X) := by
  refine (pi_any he).imp fun σ H R ⟨env, h, Kp, Xp, re, hr, q, l, lx⟩ => ⟨env, h, _, Xp, re, hr, q, fun x h1 v H1 q1 e1 r1 z1 => ?_, lx⟩
  rw [o.hK]
  cases r1 with
  | tup t r => exact .inr (.inl ⟨_, rfl, ⟨_, t.sq⟩, l _ _ _ _ _ q1 e1 z1 (j_tup t r)⟩)
  | fl t r => exact .inl ⟨_, rfl, ⟨_, t.sq⟩, l _ _ _ _ _ q1 e1 z1 (j_fl t r)⟩
  | str s => exact .inr (.inr ⟨s, rfl, l _ _ _ _ _ q1 e1 z1 j_str⟩)
  | loc a =>
    simp only [seqK] at q1
    split at q1
    · rename_i xs e
      obtain ⟨vs, g, r⟩ := z1.lst e
      exact .inl ⟨a, rfl, ⟨vs, SqL.of g⟩, l _ _ _ _ _ q1 e1 z1 j_lst⟩
    · exact q1.elim
  | _ => exact q1.elim
theorem p_irng1 (o : Cok P F C c lv X sc ow W) {tg a : Expr} {p pos : Pos} {ea : EvE} (hg : glB sc "range" = true) (hb : ("range" : Str) ∈ c.bls) (ok : okE a = true) (ha : PE X a (LE P W ea)) :
    PI X tg (.Call (.Name "range" p) [a] [] pos) (LI P W fun env h K X => ea env h (fun v h1 => match v with
      | .int j => -(2 ^ 62) ≤ j ∧ j < 2 ^ 62 ∧ K ((List.range j.toNat).map fun i => .int ((0 : Int) + (i : Nat))) (fun _ => True) h1
      | _ => False) X) := by
  refine (pi_range1 (o.glx hg) (o.bnone hb) (pa_cons ha pa_nil (ok_star ok _ _)) (ok_star ok _ _)).imp fun σ H R ⟨env, h, Kp, Xp, re, hr, q, l, lx⟩ => ⟨env, h, _, Xp, re, hr, q, fun x h1 v H1 q1 e1 r1 z1 => ?_, lx⟩
  cases r1 with
  | int j => exact ⟨j, rfl, q1.1, q1.2.1, l _ _ _ _ _ q1.2.2 e1 z1 j_rng⟩
  | _ => exact q1.elim
theorem p_irng2 (o : Cok P F C c lv X sc ow W) {tg a b : Expr} {p pos : Pos} {ea eb : EvE} (hg : glB sc "range" = true) (hb : ("range" : Str) ∈ c.bls) (ok : okE a = true) (ok2 : okE b = true) (ha : PE X a (LE P W ea)) (hb2 : PE X b (LE P W eb)) :
    PI X tg (.Call (.Name "range" p) [a, b] [] pos) (LI P W fun env h K X => ea env h (fun v h1 => eb env h1 (fun u h2 => match v, u with
      | .int i, .int j => (-(2 ^ 62) ≤ i ∧ i < 2 ^ 62 ∧ -(2 ^ 62) ≤ j ∧ j < 2 ^ 62) ∧ K ((List.range (j - i).toNat).map fun k => .int (i + (k : Nat))) (fun _ => True) h2
      | _, _ => False) X) X) := by
  refine (pi_range2 (o.glx hg) (o.bnone hb) (pa_cons ha (pa_cons hb2 pa_nil (ok_star ok2 _ _)) (ok_star ok _ _)) (by rw [ok_star ok, ok_star ok2]; rfl) (ok_star ok2 _ _)).imp fun σ H R ⟨env, h, Kp, Xp, re, hr, q, l, lx⟩ => ⟨env, h, _, Xp, re, hr, q, fun x h1 v H1 q1 e1 r1 z1 => ?_, lx⟩
  refine ⟨env, h1, _, Xp, re.ext e1, z1, q1, fun y h2 w H2 q2 e2 r2 z2 => ?_, lx.on e1⟩
  cases r1 with
  | int i =>
    cases r2 with
    | int j => exact ⟨i, j, rfl, q2.1, l _ _ _ _ _ q2.2 (e1.trans e2) z2 j_rng⟩
    | _ => exact q2.elim
  | _ => cases r2 <;> exact q2.elim
theorem p_irng3 (o : Cok P F C c lv X sc ow W) {tg a b : Expr} {s : Int} {p pos kp : Pos} {kk : Nat} {ea eb : EvE} (hg : glB sc "range" = true) (hb : ("range" : Str) ∈ c.bls) (ok : okE a = true) (ok2 : okE b = true) (ha : PE X a (LE P W ea)) (hb2 : PE X b (LE P W eb)) :
    PI X tg (.Call (.Name "range" p) [a, b, .Constant (.int s) kk kp] [] pos) (LI P W fun env h K X => ea env h (fun v h1 => eb env h1 (fun u h2 => match v, u with
      | .int i, .int j => ∃ n, RgC i j s n ∧ K ((List.range n).map fun k => .int (i + (k : Nat) * s)) (fun _ => True) h2
      | _, _ => False) X) X) := by
  have hc : PE X (.Constant (.int s) kk kp) (tC (.int s)) := pe_int
  refine (pi_range3 (o.glx hg) (o.bnone hb) (pa_cons ha (pa_cons hb2 (pa_cons hc pa_nil (ok_star (by rfl) _ _)) (ok_star ok2 _ _)) (ok_star ok _ _)) (ok_star ok _ _) (by rw [ok_star ok2]; rfl)).imp fun σ H R ⟨env, h, Kp, Xp, re, hr, q, l, lx⟩ => ⟨env, h, _, Xp, re, hr, q, fun x h1 v H1 q1 e1 r1 z1 => ?_, lx⟩
  refine ⟨env, h1, _, Xp, re.ext e1, z1, q1, fun y h2 w H2 q2 e2 r2 z2 => ?_, lx.on e1⟩
  cases r1 with
  | int i =>
    cases r2 with
    | int j =>
      obtain ⟨n, g, q2⟩ := q2
      exact ⟨i, j, s, n, rfl, g, l _ _ _ _ _ q2 (e1.trans e2) z2 j_rngC⟩
    | _ => exact q2.elim
  | _ => cases r2 <;> exact q2.elim
theorem p_ienum (o : Cok P F C c lv X sc ow W) {a : Expr} {elts : List Expr} {kk : Nat} {tpos p pos : Pos} {ea : EvE} (hg : glB sc "enumerate" = true) (hb : ("enumerate" : Str) ∈ c.bls) (ok : okE a = true) (ha : PE X a (LE P W ea)) :
    PI X (.Tuple elts kk tpos) (.Call (.Name "enumerate" p) [a] [] pos) (LI P W fun env h K X => ea env h (fun v h1 => match v with
      | .fl xs => K (xs.zipIdx.map fun p => .tup [.int (p.2 : Nat), p.1]) (fun _ => True) h1
      | .loc a => match h1 a with
        | some (.lst xs) => K (xs.zipIdx.map fun p => .tup [.int (p.2 : Nat), p.1]) (fun h' => h' a = some (.lst xs)) h1
        | _ => False
      | _ => False) X) := by
  refine (pi_enum (o.glx hg) (o.bnone hb) (pa_cons ha pa_nil (ok_star ok _ _)) (ok_star ok _ _)).imp fun σ H R ⟨env, h, Kp, Xp, re, hr, q, l, lx⟩ => ⟨env, h, _, Xp, re, hr, q, fun x h1 v H1 q1 e1 r1 z1 => ?_, lx⟩
  rw [o.hK]
  cases r1 with
  | fl t r => exact ⟨_, _, rfl, t.sq, l _ _ _ _ _ q1 e1 z1 (j_enumF t r)⟩
  | loc a =>
    simp only at q1
    split at q1
    · rename_i xs e
      obtain ⟨vs, g, r⟩ := z1.lst e
      exact ⟨_, _, rfl, SqL.of g, l _ _ _ _ _ q1 e1 z1 j_enum⟩
    · exact q1.elim
  | _ => exact q1.elim
/-! ### targets -/
theorem Off.refl (sl : List Nat) (σ : St) : Off sl σ σ := ⟨rfl, fun _ _ => rfl⟩
theorem Off.trans {a b : List Nat} {σ τ υ : St} (x : Off a σ τ) (y : Off b τ υ) : Off (a ++ b) σ υ :=
  ⟨y.1.trans x.1, fun i n => (y.2 i fun z => n (List.mem_append_right _ z)).trans (x.2 i fun z => n (List.mem_append_left _ z))⟩
theorem wipe_in {σ : St} {i : Nat} : ∀ {vs : List Nat}, i ∈ vs → (wipe σ vs)[i]? = if i < σ.length then some none else none
  | v :: vs, h => by
    show ((wipe σ vs).set v none)[i]? = _
    by_cases e : i = v
    · subst e
      rw [List.getElem?_set]
      simp [wipe_length]
    · have h' : i ∈ vs := by rcases List.mem_cons.mp h with z | z; exact absurd z e; exact z
      rw [List.getElem?_set_ne (Ne.symm e)]
      exact wipe_in h'
theorem wipe_off {sl : List Nat} {σ σ' : St} (x : Off sl (wipe σ sl) σ') : wipe σ' sl = wipe σ sl := by
  have l : σ'.length = σ.length := by rw [x.1, wipe_length]
  apply List.ext_getElem?
  intro i
  by_cases h : i ∈ sl
  · rw [wipe_in h, wipe_in h, l]
  · rw [wipe_out h, x.2 i h]
def tsLen : Ts → Nat
  | .nil => 0
  | .cons _ ts => tsLen ts + 1
mutual
theorem setT_ex : ∀ (t : T) {v : PV} {env : PEnv} {K : PEnv → Prop}, setT t v env K → ∃ e, K e
  | .nm i, v, env, K, q => ⟨_, q⟩
  | .tup ts, v, env, K, q => by
    cases v with
    | tup vs => exact (setTs_ex ts q).2
    | _ => exact q.elim
theorem setTs_ex : ∀ (ts : Ts) {vs : List PV} {env : PEnv} {K : PEnv → Prop}, setTs ts vs env K → vs.length = tsLen ts ∧ ∃ e, K e
  | .nil, [], env, K, q => ⟨rfl, _, q⟩
  | .nil, _ :: _, env, K, q => q.elim
  | .cons _ _, [], env, K, q => q.elim
  | .cons t ts, v :: vs, env, K, q => by
    obtain ⟨e, q⟩ := setT_ex t (show setT t v env _ from q)
    obtain ⟨l, q⟩ := setTs_ex ts q
    exact ⟨by simp [tsLen, l], q⟩
end
theorem chkTs_len : ∀ (ts : Ts) (xs : List Expr), chkTs c ts sc ow xs = true → xs.length = tsLen ts
  | .nil, [], _ => rfl
  | .nil, _ :: _, h => absurd h Bool.false_ne_true
  | .cons _ _, [], h => absurd h Bool.false_ne_true
  | .cons t ts, x :: xs, h => by
    simp only [chkTs, Bool.and_eq_true] at h
    simp [tsLen, chkTs_len ts xs h.2]
mutual
theorem sT (o : Cok P F C c lv X sc ow W) : ∀ (t : T) (x : Expr), chkT c t sc ow x = true → PG X x (LG P (tSlots t) (setT t))
  | .nm i, x, h => by
    cases x with
    | Name x pos =>
      simp only [chkT, Bool.and_eq_true] at h
      have nd : X.N.Nodup := by rw [o.hN]; exact o.nd
      refine (pg_name (i := i) nd (by rw [o.hN]; exact at_get h.1.1) (by rw [o.hsc]; exact loc_of h.1.2) (by rw [o.hsc]; exact o.st x (loc_of h.2))).imp fun v σ H Q ⟨env, x, K, re, r, q, l⟩ => ?_
      refine l _ _ q (re.put r i) ⟨by simp, fun j n => ?_⟩
      have n' : i ≠ j := fun e => n (by simp [tSlots, e])
      rw [List.getElem?_set_ne n']
    | _ => exact absurd h Bool.false_ne_true
  | .tup ts, x, h => by
    cases x with
    | Tuple xs k pos =>
      have h : chkTs c ts sc ow xs = true := h
      obtain ⟨g, e1, e2⟩ := sTs o ts xs h
      refine (pg_tup o.calm g e1 e2).imp fun v σ H Q ⟨env, x, K, re, r, q, l⟩ => ?_
      cases x with
      | tup ys =>
        cases r with
        | tup t rs =>
          have q : setTs ts ys env K := q
          rw [o.hK]
          exact ⟨_, _, rfl, t.sq, by rw [← rs.length, (setTs_ex ts q).1, chkTs_len ts xs h], env, ys, K, re, rs, q, l⟩
      | _ => exact q.elim
    | _ => exact absurd h Bool.false_ne_true
theorem sTs (o : Cok P F C c lv X sc ow W) : ∀ (ts : Ts) (xs : List Expr), chkTs c ts sc ow xs = true → PGs X xs (LGs P (tsSlots ts) (setTs ts)) ∧ (assignEach xs X.env).length = xs.length ∧ (assignEach xs X.env).findIdx? (·.1) = none
  | .nil, [], h => ⟨⟨fun pins s σ H vs us Q I r ⟨env, x, K, re, rs, q, l⟩ => by
      cases x with
      | nil =>
        cases rs
        exact pgs_nil.run pins s σ H [] us Q I r ⟨rfl, l _ _ q re (.refl _ _)⟩
      | cons _ _ => exact q.elim⟩, rfl, rfl⟩
  | .nil, _ :: _, h => absurd h Bool.false_ne_true
  | .cons _ _, [], h => absurd h Bool.false_ne_true
  | .cons t ts, x :: xs, h => by
    simp only [chkTs, Bool.and_eq_true] at h
    have a := sT o t x h.1.2
    obtain ⟨b, e1, e2⟩ := sTs o ts xs h.2
    have es : assignEach (x :: xs) X.env = (false, assign x X.env) :: assignEach xs X.env := by
      have ok := h.1.1
      cases x <;> first | rfl | simp [okE] at ok
    have g := pgs_cons a b (by rw [es]; rfl)
    refine ⟨⟨fun pins s σ H vs us Q I r ⟨env, ys, K, re, rs, q, l⟩ => ?_⟩, by rw [es]; simp [e1], by rw [es, List.findIdx?_cons]; simp only [Bool.false_eq_true, if_false]; rw [e2]; rfl⟩
    cases ys with
    | nil => exact q.elim
    | cons y ys =>
      cases rs with
      | cons r1 r2 =>
        refine g.run pins s σ H _ us Q I r ⟨_, _, rfl, env, y, _, re, r1, q, fun env' σ' q' re' of => ?_⟩
        exact ⟨env', ys, K, re', r2, q', fun env2 σ2 q2 re2 of2 => l env2 σ2 q2 re2 (of.trans of2)⟩
end
end
end Mir

set_option autoImplicit false
namespace Mir
open PySem L2 PySem.Spec
open PyProof.Rows hiding St

section
variable {P : Pm} {F : FT} {C : CallS} {c : Ct} {lv : Nat} {X : Cx} {sc ow : Scope} {W : WX}
/-- the context of a comprehension's block -/
theorem Cok.blk (o : Cok P F C c lv X sc ow W) (s : Shared) (H : Hp) (scope : Scope) (Cc : Addr) (cl : List (Str × Addr)) (fp : List Addr) :
    Cok P F C c lv (X.blk s H scope (compEnvC scope cl Cc X.env) fp) (relS scope sc) scope (fun _ _ _ _ => False) where
  wl := o.wl
  hK := o.hK
  hN := o.hN
  nd := o.nd
  hsc := by rw [← o.hsc]; rfl
  calm := o.calm
  st := fun x h => by
    rcases h with h | h
    · refine .inr ?_
      exact lookup_relS_keep (by decide) h
    · refine .inl ?_
      show (scope.names.lookup x == some .cell) = true
      rw [h]; rfl
  tk := takes0
  room := o.room
theorem ltb_false {σ : St} {H : Hp} : LftX P (fun _ _ _ _ => False) σ H fun _ _ => False := fun _ _ _ q => q.elim
/-- the turns of a comprehension -/
theorem comp_go {Kn : PySem.W.Frag} {J : It} {xs : List PV} {still : PH → Prop} {t : T} {ifs : EvB} {elt : EvE} {env : PEnv} {σ : St} {Kf : PH → Prop} {H1 : Hp} {D : Addr} {h1 : PH} {ws : List Nat} {Qd : Hp → Prop} {g : TG} {tt : TT} {te : TE}
    (hg : g = LG P (tSlots t) (setT t)) (htt : tt = LB P (fun _ _ _ _ => False) ifs) (hte : te = LE P (fun _ _ _ _ => False) elt) (jk : JOk P H1 J xs still) (hw : ws = tSlots t) (re : RE P.K H1 env σ) (z1 : HR P h1 H1) (n : H1 D = none)
    (q : compGo still (setT t) (fun e g K => ifs e g K fun _ _ => False) (fun e g K => elt e g K fun _ _ => False) (wipeP env ws) D Kf xs (pup h1 D (.lst []))) (fin : ∀ h2 H2, Kf h2 → Ext (upd H1 D (.lst [])) H2 → HR P h2 H2 → Qd H2) :
    ∃ W : Nat → Nat → Hp → Prop, (∃ m, W 0 m (upd H1 D (.lst []))) ∧ ∀ i m H, W i m H →
      (J.stop i H ∧ Qd H) ∨ (J.go i H ∧ ∃ Nx : Hp → Prop, (∀ H', Nx H' → ∃ m', m' < m ∧ W (i + 1) m' H') ∧ ∀ x H', J.yld i H x H' → g x (wipe σ ws) H' fun σ2 H2 => wipe σ2 ws = wipe σ ws ∧ tt σ2 H2 fun b H3 =>
        if b = true then te σ2 H3 fun y H4 => ∃ acc, H4 D = some (.lst acc) ∧ acc.length < sizeLine ∧ Nx (upd H4 D (.lst (acc ++ [y]))) else Nx H3) := by
  subst hg htt hte
  have x0 : Ext H1 (upd H1 D (.lst [])) := .new n
  refine ⟨fun i m H' => ∃ h', m = xs.length - i ∧ i ≤ xs.length ∧ HR P h' H' ∧ Ext (upd H1 D (.lst [])) H' ∧ compGo still (setT t) (fun e g K => ifs e g K fun _ _ => False) (fun e g K => elt e g K fun _ _ => False) (wipeP env ws) D Kf (xs.drop i) h',
    ⟨_, _, rfl, Nat.zero_le _, rlst_new z1 n .nil, .refl _, by simpa using q⟩, ?_⟩
  rintro i m H' ⟨h', rfl, hi, z, x, q⟩
  have x' : Ext H1 H' := x0.trans x
  by_cases hlt : i < xs.length
  · have ed : xs.drop i = xs[i] :: xs.drop (i + 1) := List.drop_eq_getElem_cons hlt
    rw [ed] at q
    obtain ⟨st, q⟩ := q
    refine .inr ⟨jk.go i h' H' x' z st hlt, fun H2 => ∃ h2, HR P h2 H2 ∧ Ext (upd H1 D (.lst [])) H2 ∧ compGo still (setT t) (fun e g K => ifs e g K fun _ _ => False) (fun e g K => elt e g K fun _ _ => False) (wipeP env ws) D Kf (xs.drop (i + 1)) h2,
      fun H2 ⟨h2, z2, x2, q2⟩ => ⟨xs.length - (i + 1), by omega, h2, rfl, hlt, z2, x2, q2⟩, ?_⟩
    intro v H2 y
    obtain ⟨xe, z2, pv, epv, rv⟩ := jk.yld i h' H' v H2 x' z st hlt y
    rw [List.getElem?_eq_getElem hlt] at epv
    cases epv
    refine ⟨wipeP env ws, xs[i], _, (re.ext (x'.trans xe)).wipe ws, rv, q, fun env2 σ2 q2 re2 of => ⟨?_, ?_⟩⟩
    · subst hw
      have e1 : wipe (wipe σ (tSlots t)) (tSlots t) = wipe σ (tSlots t) := wipe_off (.refl _ _)
      have e2 : wipe σ2 (tSlots t) = wipe (wipe σ (tSlots t)) (tSlots t) := wipe_off (by rw [e1]; exact of)
      rw [e2, e1]
    · refine ⟨env2, h', _, _, re2, z2, q2, fun b h3 H3 q3 e3 z3 => ?_, ltb_false⟩
      cases b with
      | false => exact ⟨h3, z3, (x.trans xe).trans e3, q3⟩
      | true =>
        refine ⟨env2, h3, _, _, re2.ext e3, z3, q3, fun y h4 w H4 q4 e4 r4 z4 => ?_, ltb_false⟩
        simp only at q4 ⊢
        split at q4
        · rename_i acc ea
          obtain ⟨vs, g, r⟩ := z4.lst ea
          exact ⟨vs, g, by rw [← r.length]; exact q4.1, _, rlst_put z4 ea (r.append (.cons r4 .nil)), (((x.trans xe).trans e3).trans e4).trans (z4.chg ea _), q4.2⟩
        · exact q4.elim
  · have e : i = xs.length := by omega
    subst e
    rw [List.drop_length] at q
    exact .inl ⟨jk.stop h' H' x' z q.1, fin h' H' q.2 x z⟩
theorem p_comp (o : Cok P F C c lv X sc ow W) {el tg iter : Expr} {fs : List Expr} {scope : Scope} {pos : Pos} {elt : E} {t : T} {it : I} {ifs : Bs} {ws : List (Str × Nat)} (hb : blkC c.N sc scope ws = true) (hw : ws.map (·.2) = tSlots t)
    (hi : PI X tg iter (LI P W (evI P.G C it))) (hs : ∀ x, foldedSetIterable iter X.env x = Pure.pure x)
    (hg : ∀ {X' : Cx} {W' : WX}, Cok P F C c lv X' (relS scope sc) scope W' → PG X' tg (LG P (tSlots t) (setT t))) (ht : ∀ {X' : Cx} {W' : WX}, Cok P F C c lv X' (relS scope sc) scope W' → PTs X' fs (LB P W' (evBs P.G C ifs)))
    (he : ∀ {X' : Cx} {W' : WX}, Cok P F C c lv X' (relS scope sc) scope W' → PE X' el (LE P W' (evE P.G C elt))) :
    PE X (.ListComp el [⟨tg, iter, fs, 0⟩] scope pos) (LE P W (evE P.G C (.comp elt t it ifs ws))) := by
  have nd : X.N.Nodup := by rw [o.hN]; exact o.nd
  have bk : BlkOk X.N X.env.scope scope ws := blkOk_by (by rw [o.hN, o.hsc]; exact hb)
  refine (pe_lc o.calm nd hi bk (fun s H Cc cl fp => hg (o.blk s H scope Cc cl fp)) (fun s H Cc cl fp => ht (o.blk s H scope Cc cl fp)) (fun s H Cc cl fp => he (o.blk s H scope Cc cl fp)) hs).imp
    fun σ H Q ⟨env, h, Qp, Xp, re, hr, q, l, lx⟩ => ⟨env, h, _, Xp, re, hr, q, fun xs still h1 H1 J q1 e1 z1 jk D nD => ?_, lx⟩
  rw [hw] at q1 ⊢
  exact comp_go (Kn := P.K) rfl rfl rfl jk rfl (re.ext e1) z1 nD (q1 D (z1.free nD)) fun h2 H2 q2 e2 z2 => l _ _ _ _ q2 ((e1.trans (.new nD)).trans e2) (.loc D) z2
/-- x = [..] -/
theorem p_setComp (o : Cok P F C c lv X sc ow W) {i : Nat} {y : Str} {py : Pos} {el tg iter : Expr} {fs : List Expr} {scope : Scope} {pos spos : Pos} {elt : E} {t : T} {it : I} {ifs : Bs} {ws : List (Str × Nat)} (hb : blkC c.N sc scope ws = true) (hw : ws.map (·.2) = tSlots t)
    (hi : PI X tg iter (LI P W (evI P.G C it))) (hs : ∀ x, foldedSetIterable iter X.env x = Pure.pure x)
    (hg : ∀ {X' : Cx} {W' : WX}, Cok P F C c lv X' (relS scope sc) scope W' → PG X' tg (LG P (tSlots t) (setT t))) (ht : ∀ {X' : Cx} {W' : WX}, Cok P F C c lv X' (relS scope sc) scope W' → PTs X' fs (LB P W' (evBs P.G C ifs)))
    (he : ∀ {X' : Cx} {W' : WX}, Cok P F C c lv X' (relS scope sc) scope W' → PE X' el (LE P W' (evE P.G C elt)))
    (hy : c.N[i]? = some y) (hyl : sc.names.lookup y = some .local) (hl : (py.line == pos.line) = true) (ha : (scope.names.any fun (n, k) => n == y && (k == .local || k == .cell)) = false) :
    PS X (.Assign [.Name y py] (.ListComp el [⟨tg, iter, fs, 0⟩] scope pos) spos) (tAsg (LE P W (evE P.G C (.comp elt t it ifs ws))) (gName i)) := by
  have nd : X.N.Nodup := by rw [o.hN]; exact o.nd
  have bk : BlkOk X.N X.env.scope scope ws := blkOk_by (by rw [o.hN, o.hsc]; exact hb)
  have k0 : X.env.scope.names.lookup y = some .local := by rw [o.hsc]; exact hyl
  refine ⟨fun pins s σ H D I q => ?_⟩
  have kd := I.ok.kind
  refine (ps_setLc (i := i) o.calm nd (by rw [o.hN]; exact hy) k0 (sw_true kd k0 hl ha) hi bk (fun s H Cc cl fp => hg (o.blk s H scope Cc cl fp)) (fun s H Cc cl fp => ht (o.blk s H scope Cc cl fp)) (fun s H Cc cl fp => he (o.blk s H scope Cc cl fp)) hs).run pins s σ H D I ?_
  obtain ⟨env, h, Qp, Xp, re, hr, q, l, lx⟩ := q
  refine ⟨env, h, _, Xp, re, hr, q, fun xs still h1 H1 J q1 e1 z1 jk D nD => ?_, lx⟩
  rw [hw] at q1 ⊢
  exact comp_go (Kn := P.K) rfl rfl rfl jk rfl (re.ext e1) z1 nD (q1 D (z1.free nD)) fun h2 H2 q2 e2 z2 => l _ _ _ _ q2 ((e1.trans (.new nD)).trans e2) (.loc D) z2
end
end Mir

set_option autoImplicit false
namespace Mir
open PySem L2 PySem.Spec
open PyProof.Rows hiding St

/-! ## a dict unlocked -/
structure ExtW (H H' : Hp) : Prop where
  tp : ∀ a xs, H a = some (.tup xs) → H' a = some (.tup xs)
  fl : ∀ a o xs, H a = some (.frz o (.lst xs)) → H' a = some (.frz o (.lst xs))
mutual
theorem RP.extW {K : PySem.W.Frag} {H H' : Hp} (e : ExtW H H') : ∀ {x : PV} {v : V}, RP K H x v → RP K H' x v
  | _, _, .non => .non
  | _, _, .bl b => .bl b
  | _, _, .int i => .int i
  | _, _, .str x => .str x
  | _, _, .tup t r => .tup (t.elim (fun z => .inl (e.tp _ _ z)) .inr) (RPs.extW e r)
  | _, _, .fl t r => .fl (t.elim (fun ⟨o, z⟩ => .inl ⟨o, e.fl _ _ _ z⟩) .inr) (RPs.extW e r)
  | _, _, .loc a => .loc a
theorem RPs.extW {K : PySem.W.Frag} {H H' : Hp} (e : ExtW H H') : ∀ {x : List PV} {v : List V}, RPs K H x v → RPs K H' x v
  | _, _, .nil => .nil
  | _, _, .cons r t => .cons (RP.extW e r) (RPs.extW e t)
end
theorem CR.extW {P : Pm} {H H' : Hp} {a : Addr} {c : Cell} (e : ExtW H H') (s : H' a = H a) (r : CR P H a c) : CR P H' a c := by
  match c, r with
  | .lst xs, ⟨vs, q, r⟩ => exact ⟨vs, s.trans q, r.extW e⟩
  | .dct false kvs, ⟨ws, q, r⟩ => exact ⟨ws, s.trans q, paired_imp r fun _ _ z => ⟨z.1, z.2.extW e⟩⟩
  | .dct true kvs, ⟨o, ws, q, r⟩ => exact ⟨o, ws, s.trans q, paired_imp r fun _ _ z => ⟨z.1, z.2.extW e⟩⟩
  | .ins c fs, ⟨dx, gs, q, r⟩ => exact ⟨dx, gs, s.trans q, paired_imp r fun _ _ z => ⟨z.1, z.2.extW e⟩⟩
  | .exc c, q => exact s.trans q
theorem RE.extW {K : PySem.W.Frag} {H H' : Hp} {env : PEnv} {σ : St} (r : RE K H env σ) (e : ExtW H H') : RE K H' env σ :=
  paired_imp r fun _ _ z x q => let ⟨v, a, b⟩ := z x q; ⟨v, a, b.extW e⟩
section
variable {P : Pm} {h h' : PH} {H H' : Hp} {d : Addr} {od : Obj} {kvs : List (Key × PV)} {ws : List (Key × V)}
theorem lock_hr (z : HR P h H) (e : h d = some (.dct false kvs)) (g : H d = some (.dK ws)) (r : RK P.K H kvs ws) : Ext H (upd H d (.frz od (.dK ws))) ∧ HR P (pup h d (.dct true kvs)) (upd H d (.frz od (.dK ws))) := by
  have x : Ext H (upd H d (.frz od (.dK ws))) := z.chg e _
  exact ⟨x, z.upd x ⟨od, ws, upd_same, paired_imp r fun _ _ q => ⟨q.1, q.2.ext x⟩⟩⟩
theorem unlock_w (g : H' d = some (.frz od (.dK ws))) : ExtW H' (upd H' d (.dK ws)) := by
  refine ⟨fun a xs e => ?_, fun a o xs e => ?_⟩
  · have n : a ≠ d := fun q => by subst q; rw [g] at e; cases e
    rw [upd_ne n]; exact e
  · have n : a ≠ d := fun q => by subst q; rw [g] at e; cases e
    rw [upd_ne n]; exact e
theorem unlock_ext (g0 : H d = some (.dK ws)) (x : Ext (upd H d (.frz od (.dK ws))) H') : Ext H (upd H' d (.dK ws)) := by
  refine ⟨fun a xs e => ?_, fun a o xs e => ?_⟩
  · have n : a ≠ d := fun q => by subst q; rw [g0] at e; cases e
    rw [upd_ne n]
    exact x.tp _ _ (by rw [upd_ne n]; exact e)
  · have n : a ≠ d := fun q => by subst q; rw [g0] at e; cases e
    rw [upd_ne n]
    exact x.fz _ _ _ (by rw [upd_ne n]; exact e)
theorem unlock_hr (g0 : H d = some (.dK ws)) (r : RK P.K H kvs ws) (x : Ext (upd H d (.frz od (.dK ws))) H') (z : HR P h' H') : H' d = some (.frz od (.dK ws)) ∧ HR P (pup h' d (.dct false kvs)) (upd H' d (.dK ws)) := by
  have g : H' d = some (.frz od (.dK ws)) := x.fz _ _ _ upd_same
  refine ⟨g, fun a c e => ?_⟩
  by_cases ea : a = d
  · subst ea
    rw [pup_same] at e
    cases e
    exact ⟨ws, upd_same, paired_imp r fun _ _ q => ⟨q.1, q.2.ext (unlock_ext g0 x)⟩⟩
  · rw [pup_ne ea] at e
    exact (z a c e).extW (unlock_w g) (upd_ne ea)
end
section
variable {P : Pm} {F : FT} {C : CallS} {c : Ct} {lv : Nat} {X : Cx} {sc ow : Scope} {W : WX}
theorem p_compD (o : Cok P F C c lv X sc ow W) {el tg iter : Expr} {fs : List Expr} {scope : Scope} {pos : Pos} {elt : E} {t : T} {e : E} {ifs : Bs} {ws : List (Str × Nat)} (hb : blkC c.N sc scope ws = true) (hw : ws.map (·.2) = tSlots t)
    (hi : PE X iter (LE P W (evE P.G C e))) (hs : ∀ x, foldedSetIterable iter X.env x = Pure.pure x)
    (hg : ∀ {X' : Cx} {W' : WX}, Cok P F C c lv X' (relS scope sc) scope W' → PG X' tg (LG P (tSlots t) (setT t))) (ht : ∀ {X' : Cx} {W' : WX}, Cok P F C c lv X' (relS scope sc) scope W' → PTs X' fs (LB P W' (evBs P.G C ifs)))
    (he : ∀ {X' : Cx} {W' : WX}, Cok P F C c lv X' (relS scope sc) scope W' → PE X' el (LE P W' (evE P.G C elt))) (hW : ∀ a b d e, W a b d e → True) :
    PE X (.ListComp el [⟨tg, iter, fs, 0⟩] scope pos) (LE P W fun env h Q X => ∃ d kvs, h d = some (.dct false kvs) ∧ evE P.G C e env (pup h d (.dct true kvs)) (fun x h1 => x = .loc d ∧ h1 d = some (.dct true kvs) ∧ ∀ P', h1 P' = none →
      compGo (fun g => g d = some (.dct true kvs)) (setT t) (fun e g K => evBs P.G C ifs e g K fun _ _ => False) (fun e g K => evE P.G C elt e g K fun _ _ => False) (wipeP env (ws.map (·.2))) P'
        (fun h2 => Q (.loc P') (pup h2 d (.dct false kvs))) (kvs.map fun kv => kP kv.1) (pup h1 P' (.lst []))) fun _ _ => False) := by
  have nd : X.N.Nodup := by rw [o.hN]; exact o.nd
  have bk : BlkOk X.N X.env.scope scope ws := blkOk_by (by rw [o.hN, o.hsc]; exact hb)
  refine (pe_lock (pe_lc o.calm nd (pi_keys hi) bk (fun s H Cc cl fp => hg (o.blk s H scope Cc cl fp)) (fun s H Cc cl fp => ht (o.blk s H scope Cc cl fp)) (fun s H Cc cl fp => he (o.blk s H scope Cc cl fp)) hs)).imp
    fun σ H Q ⟨env, h, Qp, Xp, re, hr, ⟨d, kvs, ed, q⟩, l, lx⟩ => ?_
  obtain ⟨vs, g, r⟩ := hr d _ ed
  refine ⟨d, _, g, trivial, fun od => ?_⟩
  obtain ⟨x0, z0⟩ := lock_hr (od := od) hr ed g r
  refine ⟨env, _, _, fun _ _ => False, re.ext x0, z0, q, fun x h1 v H1 q1 e1 r1 z1 => ?_, fun _ _ _ q => q.elim⟩
  obtain ⟨ex, eh, q1⟩ := q1
  subst ex
  cases r1
  have g1 : H1 d = some (.frz od (.dK vs)) := e1.fz _ _ _ upd_same
  refine ⟨d, od, rfl, .inl ⟨vs, g1, fun D nD => ?_⟩⟩
  rw [hw] at q1 ⊢
  have jk : JOk P H1 (Itk d od vs) (kvs.map fun kv => kP kv.1) fun g => g d = some (.dct true kvs) := by
    have j := j_keys g1 (paired_imp r fun _ _ q => ⟨q.1, (q.2.ext x0).ext e1⟩)
    exact ⟨fun i h' H' x z st hi => j.go i h' H' x z trivial hi, fun h' H' x z st => j.stop h' H' x z trivial, fun i h' H' y H'' x z st hi q => j.yld i h' H' y H'' x z trivial hi q⟩
  refine comp_go (Kn := P.K) rfl rfl rfl jk rfl ((re.ext x0).ext e1) z1 nD (q1 D (z1.free nD)) fun h2 H2 q2 e2 z2 => ?_
  have xx : Ext (upd H d (.frz od (.dK vs))) H2 := (e1.trans (.new nD)).trans e2
  obtain ⟨g2, z3⟩ := unlock_hr g r xx z2
  exact ⟨g2, l _ _ _ _ q2 (unlock_ext g xx) (.loc D) z3⟩
end
end Mir

set_option autoImplicit false
namespace Mir
open PySem L2 PySem.Spec
open PyProof.Rows hiding St

theorem plain_true {e : Expr} (h : plainB e = true) (hc : ∀ l os rs p, e ≠ .Compare l os rs p) (env : Env) (whole : Sem Value) :
    isTrue e env whole = (do let v ← whole; standAt e.pos; holding [v] (truthy v)) := by
  cases e with
  | BoolOp => cases h
  | UnaryOp op _ _ => cases op <;> first | rfl | cases h
  | IfExp => cases h
  | Compare l os rs p => exact absurd rfl (hc l os rs p)
  | _ => rfl
section
variable {P : Pm} {F : FT} {C : CallS} {c : Ct} {lv : Nat}
mutual
theorem sE : ∀ (e : E) (sc ow : Scope) (x : Expr), chkE c e sc x = true → ∀ {X : Cx} {W : WX}, Cok P F C c lv X sc ow W → PE X x (LE P W (evE P.G C e))
  | .var i, sc, ow, x, h, X, W, o => by
    cases x with
    | Name x pos => exact p_var o h
    | _ => exact absurd h Bool.false_ne_true
  | .int i, sc, ow, x, h, X, W, o => by
    cases x with
    | Constant k j pos =>
      cases k with
      | int n => rw [show i = n from of_decide_eq_true h]; exact p_const pe_int fun _ => .int _
      | _ => exact absurd h Bool.false_ne_true
    | _ => exact absurd h Bool.false_ne_true
  | .str i, sc, ow, x, h, X, W, o => by
    cases x with
    | Constant k j pos =>
      cases k with
      | str n => rw [show i = n from of_decide_eq_true h]; exact p_const pe_str fun _ => .str _
      | _ => exact absurd h Bool.false_ne_true
    | _ => exact absurd h Bool.false_ne_true
  | .bl i, sc, ow, x, h, X, W, o => by
    cases x with
    | Constant k j pos =>
      cases k with
      | bool n => rw [show i = n from beq_iff_eq.mp h]; exact p_const pe_bl fun _ => .bl _
      | _ => exact absurd h Bool.false_ne_true
    | _ => exact absurd h Bool.false_ne_true
  | .non, sc, ow, x, h, X, W, o => by
    cases x with
    | Constant k j pos =>
      cases k with
      | none => exact p_const pe_non fun _ => .non
      | _ => exact absurd h Bool.false_ne_true
    | _ => exact absurd h Bool.false_ne_true
  | .glob g, sc, ow, x, h, X, W, o => by
    cases x with
    | Name x pos => exact p_glob o (by rw [← o.wl.hG]; exact h)
    | _ => exact absurd h Bool.false_ne_true
  | .bin op a b, sc, ow, x, h, X, W, o => by
    cases x with
    | BinOp l q r pos =>
      simp only [chkE, Bool.and_eq_true, decide_eq_true_eq] at h
      rw [h.1.1.1.1]
      exact p_bin o (sE a sc ow l h.1.2 o) (sE b sc ow r h.2 o)
    | _ => exact absurd h Bool.false_ne_true
  | .neg a, sc, ow, x, h, X, W, o => by
    cases x with
    | UnaryOp q e pos =>
      cases q with
      | USub =>
        simp only [chkE, Bool.and_eq_true] at h
        exact p_neg (sE a sc ow e h.2 o)
      | _ => exact absurd h Bool.false_ne_true
    | _ => exact absurd h Bool.false_ne_true
  | .cmp op a b, sc, ow, x, h, X, W, o => by
    cases x with
    | Compare l os rs pos =>
      match os, rs, h with
      | [q], [r], h =>
        simp only [chkE, Bool.and_eq_true, decide_eq_true_eq] at h
        rw [h.1.1.1.1]
        exact p_cmp o (sE a sc ow l h.1.2 o) (sE b sc ow r h.2 o) (ok_in h.1.1.2 _)
      | [], _, h => exact absurd h Bool.false_ne_true
      | [_], [], h => exact absurd h Bool.false_ne_true
      | [_], _ :: _ :: _, h => exact absurd h Bool.false_ne_true
      | _ :: _ :: _, _, h => exact absurd h Bool.false_ne_true
    | _ => exact absurd h Bool.false_ne_true
  | .chain op q a b d, sc, ow, x, h, X, W, o => by
    cases x with
    | Compare l os rs pos =>
      match os, rs, h with
      | [q1, q2], [m, r], h =>
        simp only [chkE, Bool.and_eq_true, decide_eq_true_eq] at h
        obtain ⟨⟨⟨⟨⟨⟨⟨h1, h2⟩, h3⟩, h4⟩, h5⟩, h6⟩, h7⟩, h8⟩ := h
        rw [h1, h2]
        exact p_chain o (sE a sc ow l h6 o) (sE b sc ow m h7 o) (sE d sc ow r h8 o) (ok_in h5 _)
      | [], _, h => exact absurd h Bool.false_ne_true
      | [_], _, h => exact absurd h Bool.false_ne_true
      | [_, _], [], h => exact absurd h Bool.false_ne_true
      | [_, _], [_], h => exact absurd h Bool.false_ne_true
      | [_, _], _ :: _ :: _ :: _, h => exact absurd h Bool.false_ne_true
      | _ :: _ :: _ :: _, _, h => exact absurd h Bool.false_ne_true
    | _ => exact absurd h Bool.false_ne_true
  | .and a b, sc, ow, x, h, X, W, o => by
    cases x with
    | BoolOp q xs pos =>
      match q, xs, h with
      | .And, x :: y :: [], h =>
        simp only [chkE, Bool.and_eq_true] at h
        exact p_and o (sE a sc ow x h.1.2 o) (pe_one (sE b sc ow y h.2 o))
      | .And, x :: y :: z :: zs, h =>
        simp only [chkE, Bool.and_eq_true] at h
        exact p_and o (sE a sc ow x h.1.2 o) (sE b sc ow _ h.2 o)
      | .And, [], h => exact absurd h Bool.false_ne_true
      | .And, [_], h => exact absurd h Bool.false_ne_true
      | .Or, _, h => exact absurd h Bool.false_ne_true
    | _ => exact absurd h Bool.false_ne_true
  | .or a b, sc, ow, x, h, X, W, o => by
    cases x with
    | BoolOp q xs pos =>
      match q, xs, h with
      | .Or, x :: y :: [], h =>
        simp only [chkE, Bool.and_eq_true] at h
        exact p_or o (sE a sc ow x h.1.2 o) (pe_one (sE b sc ow y h.2 o))
      | .Or, x :: y :: z :: zs, h =>
        simp only [chkE, Bool.and_eq_true] at h
        exact p_or o (sE a sc ow x h.1.2 o) (sE b sc ow _ h.2 o)
      | .Or, [], h => exact absurd h Bool.false_ne_true
      | .Or, [_], h => exact absurd h Bool.false_ne_true
      | .And, _, h => exact absurd h Bool.false_ne_true
    | _ => exact absurd h Bool.false_ne_true
  | .not a, sc, ow, x, h, X, W, o => by
    cases x with
    | UnaryOp q e pos =>
      cases q with
      | Not =>
        simp only [chkE, Bool.and_eq_true] at h
        exact p_not o (sE a sc ow e h.2 o)
      | _ => exact absurd h Bool.false_ne_true
    | _ => exact absurd h Bool.false_ne_true
  | .ite d a b, sc, ow, x, h, X, W, o => by
    cases x with
    | IfExp t x y pos =>
      simp only [chkE, Bool.and_eq_true] at h
      exact p_ite o (sB d sc ow t h.1.1.2 o) (sE a sc ow x h.1.2 o) (sE b sc ow y h.2 o)
    | _ => exact absurd h Bool.false_ne_true
  | .sub a i, sc, ow, x, h, X, W, o => by
    cases x with
    | Subscript e j pos =>
      have h : (okE e && okE j && chkE c a sc e && chkE c i sc j) = true := by
        cases j <;> exact h
      simp only [Bool.and_eq_true] at h
      exact p_sub o (sE a sc ow e h.1.2 o) (sE i sc ow j h.2 o) h.1.1.2
    | _ => exact absurd h Bool.false_ne_true
  | .slice a lo hi, sc, ow, x, h, X, W, o => by
    cases x with
    | Subscript e j pos =>
      cases j with
      | Slice l u st p2 =>
        cases st with
        | none =>
          simp only [chkE, Bool.and_eq_true] at h
          exact p_slice o (sE a sc ow e h.1.1.2 o) (sO lo sc ow l h.1.2 o) (sO hi sc ow u h.2 o)
        | some _ => exact absurd h Bool.false_ne_true
      | _ => exact absurd h Bool.false_ne_true
    | _ => exact absurd h Bool.false_ne_true
  | .tup es, sc, ow, x, h, X, W, o => by
    cases x with
    | Tuple xs k pos => exact p_tup (sEs es sc ow xs h o)
    | _ => exact absurd h Bool.false_ne_true
  | .lst es, sc, ow, x, h, X, W, o => by
    cases x with
    | List xs pos => exact p_lst (sEs es sc ow xs h o)
    | _ => exact absurd h Bool.false_ne_true
  | .dict0, sc, ow, x, h, X, W, o => by
    cases x with
    | Dict ks vs pos =>
      match ks, vs, h with
      | [], [], h => exact p_dict0
      | _ :: _, _, h => exact absurd h Bool.false_ne_true
      | [], _ :: _, h => exact absurd h Bool.false_ne_true
    | _ => exact absurd h Bool.false_ne_true
  | .dict es, sc, ow, x, h, X, W, o => by
    cases x with
    | Dict ks vs pos =>
      have h : (decide (ks ≠ []) && decide (ks.length = vs.length) && decide (ks.length ≤ 15) && ks.all (·.isSome) && chkPs c es sc ks vs) = true := by
        cases ks with
        | nil => cases vs <;> exact h
        | cons _ _ => exact h
      simp only [Bool.and_eq_true, decide_eq_true_eq] at h
      obtain ⟨trs, g1, g2⟩ := sPs es sc ow ks vs pos h.2 o
      exact p_disp g1 g2 h.1.1.1.1 h.1.1.1.2 h.1.1.2 h.1.2
    | _ => exact absurd h Bool.false_ne_true
  | .fld e f, sc, ow, x, h, X, W, o => by
    cases x with
    | Attribute ob s pos =>
      simp only [chkE, Bool.and_eq_true] at h
      exact p_fld o (sE e sc ow ob h.1.2 o) h.1.1 (by rw [← o.wl.hG]; exact at_get h.2)
    | _ => exact absurd h Bool.false_ne_true
  | .call f es, sc, ow, x, h, X, W, o => by
    cases x with
    | Call fn args kws pos =>
      cases fn with
      | Name x p =>
        cases kws with
        | nil =>
          simp only [chkE, Bool.and_eq_true] at h
          exact p_call o (opt_get h.1.1.1) h.1.1.2 h.1.2 h.2 (sEs es sc ow args h.2 o)
        | cons _ _ => exact absurd h Bool.false_ne_true
      | _ => exact absurd h Bool.false_ne_true
    | _ => exact absurd h Bool.false_ne_true
  | .meth ob m es, sc, ow, x, h, X, W, o => by
    cases x with
    | Call fn args kws pos =>
      cases fn with
      | Attribute e s apos =>
        cases kws with
        | nil =>
          simp only [chkE, Bool.and_eq_true, decide_eq_true_eq] at h
          obtain ⟨⟨⟨⟨⟨h1, h2⟩, h3⟩, h4⟩, h5⟩, h6⟩ := h
          exact p_meth o h1 h3 h4 (by rw [← o.wl.hG]; exact at_get h2) (sE ob sc ow e h5 o) h6 (sEs es sc ow args h6 o)
        | cons _ _ => exact absurd h Bool.false_ne_true
      | _ => exact absurd h Bool.false_ne_true
    | _ => exact absurd h Bool.false_ne_true
  | .make k es, sc, ow, x, h, X, W, o => by
    cases x with
    | Call fn args kws pos =>
      cases fn with
      | Name x p =>
        cases kws with
        | nil =>
          simp only [chkE, Bool.and_eq_true, Option.isSome_iff_exists] at h
          obtain ⟨⟨⟨⟨h0, h1⟩, h2⟩, h3⟩, h4⟩ := h
          exact p_make o (opt_get h1) h2 h3 h4 (sEs es sc ow args h4 o) (by rw [← o.wl.hG]; exact h0)
        | cons _ _ => exact absurd h Bool.false_ne_true
      | _ => exact absurd h Bool.false_ne_true
    | _ => exact absurd h Bool.false_ne_true
  | .blt b es, sc, ow, x, h, X, W, o => by
    cases x with
    | Call fn args kws pos =>
      cases fn with
      | Name x p =>
        match args, kws, h with
        | a :: as, [], h =>
          simp only [chkE, Bool.and_eq_true, decide_eq_true_eq] at h
          obtain ⟨⟨⟨h1, h2⟩, h3⟩, h4⟩ := h
          subst h1
          exact p_blt o h2 h3 h4 (sEs es sc ow _ h4 o)
        | [], _, h => exact absurd h Bool.false_ne_true
        | _ :: _, _ :: _, h => exact absurd h Bool.false_ne_true
      | _ => exact absurd h Bool.false_ne_true
    | _ => exact absurd h Bool.false_ne_true
  | .bm m ob es, sc, ow, x, h, X, W, o => by
    cases x with
    | Call fn args kws pos =>
      cases fn with
      | Attribute e s apos =>
        cases kws with
        | nil =>
          simp only [chkE, Bool.and_eq_true, decide_eq_true_eq] at h
          obtain ⟨⟨⟨⟨⟨h1, h2⟩, h3⟩, h4⟩, h5⟩, h6⟩ := h
          subst h2
          exact p_bm o h1 h3 h4 (sE ob sc ow e h5 o) h6 (sEs es sc ow args h6 o)
        | cons _ _ => exact absurd h Bool.false_ne_true
      | _ => exact absurd h Bool.false_ne_true
    | _ => exact absurd h Bool.false_ne_true
  | .isi e t, sc, ow, x, h, X, W, o => by
    cases x with
    | Call fn args kws pos =>
      cases fn with
      | Name x p =>
        simp only [chkE, Bool.and_eq_true, decide_eq_true_eq] at h
        obtain ⟨⟨⟨h1, h2⟩, h3⟩, h4⟩ := h
        subst h1
        split at h4
        · rename_i a y
          simp only [Bool.and_eq_true] at h4
          obtain ⟨⟨g1, g2⟩, g3⟩ := h4
          cases y with
          | Name y p2 =>
            simp only [isiN, Bool.and_eq_true, decide_eq_true_eq] at g3
            obtain ⟨⟨⟨k1, k2⟩, k3⟩, k4⟩ := g3
            subst k2
            exact p_isi o (fun k e => by subst e; exact absurd k1 Bool.false_ne_true) h2 h3 k3 k4 g1 (sE e sc ow a g2 o)
          | _ => exact absurd g3 Bool.false_ne_true
        · exact absurd h4 Bool.false_ne_true
      | _ => exact absurd h Bool.false_ne_true
    | _ => exact absurd h Bool.false_ne_true
  | .isx e k, sc, ow, x, h, X, W, o => by
    cases x with
    | Call fn args kws pos =>
      cases fn with
      | Name x p =>
        simp only [chkE, Bool.and_eq_true, decide_eq_true_eq] at h
        obtain ⟨⟨⟨h1, h2⟩, h3⟩, h4⟩ := h
        subst h1
        split at h4
        · rename_i a y
          simp only [Bool.and_eq_true] at h4
          obtain ⟨⟨g1, g2⟩, g3⟩ := h4
          cases y with
          | Name y p2 => exact p_isx o h2 h3 g3 g1 (sE e sc ow a g2 o)
          | _ => exact absurd g3 Bool.false_ne_true
        · exact absurd h4 Bool.false_ne_true
      | _ => exact absurd h Bool.false_ne_true
    | _ => exact absurd h Bool.false_ne_true
  | .make0 k, sc, ow, x, h, X, W, o => by
    cases x with
    | Call fn args kws pos =>
      cases fn with
      | Name x p =>
        cases args with
        | nil =>
          cases kws with
          | nil =>
            simp only [chkE, Bool.and_eq_true] at h
            obtain ⟨⟨⟨h0, h1⟩, h2⟩, h3⟩ := h
            exact p_make0 o (by rw [← o.wl.hG]; exact h0) (opt_get h1) h2 h3
          | cons _ _ => exact absurd h Bool.false_ne_true
        | cons _ _ => exact absurd h Bool.false_ne_true
      | _ => exact absurd h Bool.false_ne_true
    | _ => exact absurd h Bool.false_ne_true
  | .rev e, sc, ow, x, h, X, W, o => by
    cases x with
    | Subscript a i pos =>
      simp only [chkE, Bool.and_eq_true] at h
      obtain ⟨k, p1, p2, p3, rfl⟩ := isRev_eq h.1.1
      exact p_rev o (sE e sc ow a h.2 o)
    | _ => exact absurd h Bool.false_ne_true
  | .comp elt t it ifs ws, sc, ow, x, h, X, W, o => by
    cases x with
    | ListComp el gs scope pos =>
      match gs, h with
      | [⟨tg, iter, fs, k⟩], h =>
        simp only [chkE, Bool.and_eq_true, decide_eq_true_eq] at h
        obtain ⟨⟨⟨⟨⟨⟨⟨h0, h1⟩, h2⟩, h3⟩, h4⟩, h5⟩, h6⟩, h7⟩ := h
        subst h0
        exact p_comp o h1 h7 (sI it sc ow tg iter h3 o) (i_set it sc tg iter h3 _) (fun o' => sT o' t tg h4) (fun o' => sBs ifs _ _ fs h5 o') (fun o' => sE elt _ _ el h6 o')
      | [], h => simp [chkE] at h
      | _ :: _ :: _, h => simp [chkE] at h
    | _ => exact absurd h Bool.false_ne_true
  | .compD elt t e ifs ws, sc, ow, x, h, X, W, o => by
    cases x with
    | ListComp el gs scope pos =>
      match gs, h with
      | [⟨tg, iter, fs, k⟩], h =>
        simp only [chkE, Bool.and_eq_true, decide_eq_true_eq] at h
        obtain ⟨⟨⟨⟨⟨⟨⟨⟨⟨h0, h1⟩, h2⟩, h3⟩, h4⟩, h5⟩, h6⟩, h7⟩, h8⟩, h9⟩ := h
        subst h0
        exact p_compD o h1 h9 (sE e sc ow iter h5 o) (ok_set h3 _) (fun o' => sT o' t tg h6) (fun o' => sBs ifs _ _ fs h7 o') (fun o' => sE elt _ _ el h8 o') (fun _ _ _ _ _ => trivial)
      | [], h => simp [chkE] at h
      | _ :: _ :: _, h => simp [chkE] at h
    | _ => exact absurd h Bool.false_ne_true
  | .listItems e, sc, ow, x, h, X, W, o => by
    cases x with
    | Call fn args kws pos =>
      cases fn with
      | Name x p =>
        simp only [chkE, Bool.and_eq_true, decide_eq_true_eq] at h
        obtain ⟨⟨⟨h1, h2⟩, h3⟩, h4⟩ := h
        subst h1
        split at h4
        · rename_i y
          split at h4
          · rename_i ob eo
            obtain ⟨apos, cpos, e1, e2⟩ := li_arg eo
            subst e1
            simp only [Bool.and_eq_true] at h4
            exact p_listItems o h2 h3 h4.1 e2 (sE e sc ow ob h4.2 o)
          · exact absurd h4 Bool.false_ne_true
        · exact absurd h4 Bool.false_ne_true
      | _ => exact absurd h Bool.false_ne_true
    | _ => exact absurd h Bool.false_ne_true
theorem sEs : ∀ (es : Es) (sc ow : Scope) (xs : List Expr), chkEs c es sc xs = true → ∀ {X : Cx} {W : WX}, Cok P F C c lv X sc ow W → PA X xs (LEs P W (evEs P.G C es))
  | .nil, sc, ow, [], h, X, W, o => p_nil
  | .nil, _, _, _ :: _, h, _, _, _ => absurd h Bool.false_ne_true
  | .cons _ _, _, _, [], h, _, _, _ => absurd h Bool.false_ne_true
  | .cons e es, sc, ow, x :: xs, h, X, W, o => by
    simp only [chkEs, Bool.and_eq_true] at h
    exact p_cons (sE e sc ow x h.1.2 o) (sEs es sc ow xs h.2 o) h.1.1
theorem sPs : ∀ (es : Es) (sc ow : Scope) (ks : List (Option Expr)) (vs : List Expr) (pos : Pos), chkPs c es sc ks vs = true → ∀ {X : Cx} {W : WX}, Cok P F C c lv X sc ow W → ∃ trs, PPs X pos ks vs trs ∧ LPs P W trs (evEs P.G C es)
  | .nil, sc, ow, [], [], pos, h, X, W, o => ⟨[], pps_nil, lps_nil⟩
  | .nil, sc, ow, _ :: _, _, pos, h, X, W, o => absurd h Bool.false_ne_true
  | .nil, sc, ow, [], _ :: _, pos, h, X, W, o => absurd h Bool.false_ne_true
  | .cons k (.cons v r), sc, ow, some x :: ks, y :: vs, pos, h, X, W, o => by
    simp only [chkPs, Bool.and_eq_true] at h
    obtain ⟨trs, g1, g2⟩ := sPs r sc ow ks vs pos h.2 o
    exact ⟨_, pps_cons (sE k sc ow x h.1.1 o) (sE v sc ow y h.1.2 o) g1, lps_cons g2⟩
  | .cons k .nil, sc, ow, ks, vs, pos, h, X, W, o => absurd h (by cases ks <;> cases vs <;> simp [chkPs])
  | .cons k (.cons v r), sc, ow, [], _, pos, h, X, W, o => absurd h (by simp [chkPs])
  | .cons k (.cons v r), sc, ow, none :: _, _, pos, h, X, W, o => absurd h (by simp [chkPs])
  | .cons k (.cons v r), sc, ow, some x :: _, [], pos, h, X, W, o => absurd h (by simp [chkPs])
theorem sO : ∀ (e : O) (sc ow : Scope) (x : Option Expr), chkO c e sc x = true → ∀ {X : Cx} {W : WX}, Cok P F C c lv X sc ow W → PO X x (LO P W (evO P.G C e))
  | .non, sc, ow, none, h, X, W, o => p_none
  | .non, _, _, some _, h, _, _, _ => absurd h Bool.false_ne_true
  | .some _, _, _, none, h, _, _, _ => absurd h Bool.false_ne_true
  | .some e, sc, ow, some x, h, X, W, o => by
    simp only [chkO, Bool.and_eq_true] at h
    exact p_some (sE e sc ow x h.2 o)
theorem sB : ∀ (b : B) (sc ow : Scope) (x : Expr), chkB c b sc x = true → ∀ {X : Cx} {W : WX}, Cok P F C c lv X sc ow W → PT X x (LB P W (evB P.G C b))
  | .val (.var i), sc, ow, x, h, X, W, o => by
    have h : (okE x && chkE c (.var i) sc x && plainB x) = true := h
    simp only [Bool.and_eq_true] at h
    exact p_val o (sE (.var i) sc ow x h.1.2 o) (plain_true h.2 (fun l os rs p e => by subst e; exact absurd h.1.2 Bool.false_ne_true) X.env)
  | .val (.int i), sc, ow, x, h, X, W, o => by
    have h : (okE x && chkE c (.int i) sc x && plainB x) = true := h
    simp only [Bool.and_eq_true] at h
    exact p_val o (sE (.int i) sc ow x h.1.2 o) (plain_true h.2 (fun l os rs p e => by subst e; exact absurd h.1.2 Bool.false_ne_true) X.env)
  | .val (.str s), sc, ow, x, h, X, W, o => by
    have h : (okE x && chkE c (.str s) sc x && plainB x) = true := h
    simp only [Bool.and_eq_true] at h
    exact p_val o (sE (.str s) sc ow x h.1.2 o) (plain_true h.2 (fun l os rs p e => by subst e; exact absurd h.1.2 Bool.false_ne_true) X.env)
  | .val (.bl b), sc, ow, x, h, X, W, o => by
    have h : (okE x && chkE c (.bl b) sc x && plainB x) = true := h
    simp only [Bool.and_eq_true] at h
    exact p_val o (sE (.bl b) sc ow x h.1.2 o) (plain_true h.2 (fun l os rs p e => by subst e; exact absurd h.1.2 Bool.false_ne_true) X.env)
  | .val (.non), sc, ow, x, h, X, W, o => by
    have h : (okE x && chkE c (.non) sc x && plainB x) = true := h
    simp only [Bool.and_eq_true] at h
    exact p_val o (sE (.non) sc ow x h.1.2 o) (plain_true h.2 (fun l os rs p e => by subst e; exact absurd h.1.2 Bool.false_ne_true) X.env)
  | .val (.glob g), sc, ow, x, h, X, W, o => by
    have h : (okE x && chkE c (.glob g) sc x && plainB x) = true := h
    simp only [Bool.and_eq_true] at h
    exact p_val o (sE (.glob g) sc ow x h.1.2 o) (plain_true h.2 (fun l os rs p e => by subst e; exact absurd h.1.2 Bool.false_ne_true) X.env)
  | .val (.bin op a b), sc, ow, x, h, X, W, o => by
    have h : (okE x && chkE c (.bin op a b) sc x && plainB x) = true := h
    simp only [Bool.and_eq_true] at h
    exact p_val o (sE (.bin op a b) sc ow x h.1.2 o) (plain_true h.2 (fun l os rs p e => by subst e; exact absurd h.1.2 Bool.false_ne_true) X.env)
  | .val (.neg a), sc, ow, x, h, X, W, o => by
    have h : (okE x && chkE c (.neg a) sc x && plainB x) = true := h
    simp only [Bool.and_eq_true] at h
    exact p_val o (sE (.neg a) sc ow x h.1.2 o) (plain_true h.2 (fun l os rs p e => by subst e; exact absurd h.1.2 Bool.false_ne_true) X.env)
  | .val (.and a b), sc, ow, x, h, X, W, o => by
    have h : (okE x && chkE c (.and a b) sc x && plainB x) = true := h
    simp only [Bool.and_eq_true] at h
    exact p_val o (sE (.and a b) sc ow x h.1.2 o) (plain_true h.2 (fun l os rs p e => by subst e; exact absurd h.1.2 Bool.false_ne_true) X.env)
  | .val (.or a b), sc, ow, x, h, X, W, o => by
    have h : (okE x && chkE c (.or a b) sc x && plainB x) = true := h
    simp only [Bool.and_eq_true] at h
    exact p_val o (sE (.or a b) sc ow x h.1.2 o) (plain_true h.2 (fun l os rs p e => by subst e; exact absurd h.1.2 Bool.false_ne_true) X.env)
  | .val (.not a), sc, ow, x, h, X, W, o => by
    have h : (okE x && chkE c (.not a) sc x && plainB x) = true := h
    simp only [Bool.and_eq_true] at h
    exact p_val o (sE (.not a) sc ow x h.1.2 o) (plain_true h.2 (fun l os rs p e => by subst e; exact absurd h.1.2 Bool.false_ne_true) X.env)
  | .val (.ite d a b), sc, ow, x, h, X, W, o => by
    have h : (okE x && chkE c (.ite d a b) sc x && plainB x) = true := h
    simp only [Bool.and_eq_true] at h
    exact p_val o (sE (.ite d a b) sc ow x h.1.2 o) (plain_true h.2 (fun l os rs p e => by subst e; exact absurd h.1.2 Bool.false_ne_true) X.env)
  | .val (.sub a i), sc, ow, x, h, X, W, o => by
    have h : (okE x && chkE c (.sub a i) sc x && plainB x) = true := h
    simp only [Bool.and_eq_true] at h
    exact p_val o (sE (.sub a i) sc ow x h.1.2 o) (plain_true h.2 (fun l os rs p e => by subst e; exact absurd h.1.2 Bool.false_ne_true) X.env)
  | .val (.slice a lo hi), sc, ow, x, h, X, W, o => by
    have h : (okE x && chkE c (.slice a lo hi) sc x && plainB x) = true := h
    simp only [Bool.and_eq_true] at h
    exact p_val o (sE (.slice a lo hi) sc ow x h.1.2 o) (plain_true h.2 (fun l os rs p e => by subst e; exact absurd h.1.2 Bool.false_ne_true) X.env)
  | .val (.tup es), sc, ow, x, h, X, W, o => by
    have h : (okE x && chkE c (.tup es) sc x && plainB x) = true := h
    simp only [Bool.and_eq_true] at h
    exact p_val o (sE (.tup es) sc ow x h.1.2 o) (plain_true h.2 (fun l os rs p e => by subst e; exact absurd h.1.2 Bool.false_ne_true) X.env)
  | .val (.lst es), sc, ow, x, h, X, W, o => by
    have h : (okE x && chkE c (.lst es) sc x && plainB x) = true := h
    simp only [Bool.and_eq_true] at h
    exact p_val o (sE (.lst es) sc ow x h.1.2 o) (plain_true h.2 (fun l os rs p e => by subst e; exact absurd h.1.2 Bool.false_ne_true) X.env)
  | .val (.dict0), sc, ow, x, h, X, W, o => by
    have h : (okE x && chkE c (.dict0) sc x && plainB x) = true := h
    simp only [Bool.and_eq_true] at h
    exact p_val o (sE (.dict0) sc ow x h.1.2 o) (plain_true h.2 (fun l os rs p e => by subst e; exact absurd h.1.2 Bool.false_ne_true) X.env)
  | .val (.dict es), sc, ow, x, h, X, W, o => by
    have h : (okE x && chkE c (.dict es) sc x && plainB x) = true := h
    simp only [Bool.and_eq_true] at h
    exact p_val o (sE (.dict es) sc ow x h.1.2 o) (plain_true h.2 (fun l os rs p e => by subst e; exact absurd h.1.2 Bool.false_ne_true) X.env)
  | .val (.fld e f), sc, ow, x, h, X, W, o => by
    have h : (okE x && chkE c (.fld e f) sc x && plainB x) = true := h
    simp only [Bool.and_eq_true] at h
    exact p_val o (sE (.fld e f) sc ow x h.1.2 o) (plain_true h.2 (fun l os rs p e => by subst e; exact absurd h.1.2 Bool.false_ne_true) X.env)
  | .val (.call f es), sc, ow, x, h, X, W, o => by
    have h : (okE x && chkE c (.call f es) sc x && plainB x) = true := h
    simp only [Bool.and_eq_true] at h
    exact p_val o (sE (.call f es) sc ow x h.1.2 o) (plain_true h.2 (fun l os rs p e => by subst e; exact absurd h.1.2 Bool.false_ne_true) X.env)
  | .val (.meth ob m es), sc, ow, x, h, X, W, o => by
    have h : (okE x && chkE c (.meth ob m es) sc x && plainB x) = true := h
    simp only [Bool.and_eq_true] at h
    exact p_val o (sE (.meth ob m es) sc ow x h.1.2 o) (plain_true h.2 (fun l os rs p e => by subst e; exact absurd h.1.2 Bool.false_ne_true) X.env)
  | .val (.make k es), sc, ow, x, h, X, W, o => by
    have h : (okE x && chkE c (.make k es) sc x && plainB x) = true := h
    simp only [Bool.and_eq_true] at h
    exact p_val o (sE (.make k es) sc ow x h.1.2 o) (plain_true h.2 (fun l os rs p e => by subst e; exact absurd h.1.2 Bool.false_ne_true) X.env)
  | .val (.blt b es), sc, ow, x, h, X, W, o => by
    have h : (okE x && chkE c (.blt b es) sc x && plainB x) = true := h
    simp only [Bool.and_eq_true] at h
    exact p_val o (sE (.blt b es) sc ow x h.1.2 o) (plain_true h.2 (fun l os rs p e => by subst e; exact absurd h.1.2 Bool.false_ne_true) X.env)
  | .val (.bm m ob es), sc, ow, x, h, X, W, o => by
    have h : (okE x && chkE c (.bm m ob es) sc x && plainB x) = true := h
    simp only [Bool.and_eq_true] at h
    exact p_val o (sE (.bm m ob es) sc ow x h.1.2 o) (plain_true h.2 (fun l os rs p e => by subst e; exact absurd h.1.2 Bool.false_ne_true) X.env)
  | .val (.isi e t), sc, ow, x, h, X, W, o => by
    have h : (okE x && chkE c (.isi e t) sc x && plainB x) = true := h
    simp only [Bool.and_eq_true] at h
    exact p_val o (sE (.isi e t) sc ow x h.1.2 o) (plain_true h.2 (fun l os rs p e => by subst e; exact absurd h.1.2 Bool.false_ne_true) X.env)
  | .val (.isx e t), sc, ow, x, h, X, W, o => by
    have h : (okE x && chkE c (.isx e t) sc x && plainB x) = true := h
    simp only [Bool.and_eq_true] at h
    exact p_val o (sE (.isx e t) sc ow x h.1.2 o) (plain_true h.2 (fun l os rs p e => by subst e; exact absurd h.1.2 Bool.false_ne_true) X.env)
  | .val (.make0 e), sc, ow, x, h, X, W, o => by
    have h : (okE x && chkE c (.make0 e) sc x && plainB x) = true := h
    simp only [Bool.and_eq_true] at h
    exact p_val o (sE (.make0 e) sc ow x h.1.2 o) (plain_true h.2 (fun l os rs p e => by subst e; exact absurd h.1.2 Bool.false_ne_true) X.env)
  | .val (.rev e), sc, ow, x, h, X, W, o => by
    have h : (okE x && chkE c (.rev e) sc x && plainB x) = true := h
    simp only [Bool.and_eq_true] at h
    exact p_val o (sE (.rev e) sc ow x h.1.2 o) (plain_true h.2 (fun l os rs p e => by subst e; exact absurd h.1.2 Bool.false_ne_true) X.env)
  | .val (.comp elt t it ifs ws), sc, ow, x, h, X, W, o => by
    have h : (okE x && chkE c (.comp elt t it ifs ws) sc x && plainB x) = true := h
    simp only [Bool.and_eq_true] at h
    exact p_val o (sE (.comp elt t it ifs ws) sc ow x h.1.2 o) (plain_true h.2 (fun l os rs p e => by subst e; exact absurd h.1.2 Bool.false_ne_true) X.env)
  | .val (.compD elt t e ifs ws), sc, ow, x, h, X, W, o => by
    have h : (okE x && chkE c (.compD elt t e ifs ws) sc x && plainB x) = true := h
    simp only [Bool.and_eq_true] at h
    exact p_val o (sE (.compD elt t e ifs ws) sc ow x h.1.2 o) (plain_true h.2 (fun l os rs p e => by subst e; exact absurd h.1.2 Bool.false_ne_true) X.env)
  | .val (.listItems e), sc, ow, x, h, X, W, o => by
    have h : (okE x && chkE c (.listItems e) sc x && plainB x) = true := h
    simp only [Bool.and_eq_true] at h
    exact p_val o (sE (.listItems e) sc ow x h.1.2 o) (plain_true h.2 (fun l os rs p e => by subst e; exact absurd h.1.2 Bool.false_ne_true) X.env)
  | .val (.cmp op a b), sc, ow, x, h, X, W, o => by
    have h : (okE x && chkE c (.cmp op a b) sc x && plainB x) = true := h
    simp only [Bool.and_eq_true] at h
    obtain ⟨⟨_, h⟩, _⟩ := h
    cases x with
    | Compare l os rs pos =>
      match os, rs, h with
      | [q], [r], h =>
        simp only [chkE, Bool.and_eq_true, decide_eq_true_eq] at h
        rw [h.1.1.1.1]
        exact p_cmpT o (sE a sc ow l h.1.2 o) (sE b sc ow r h.2 o) (ok_in h.1.1.2 _)
      | [], _, h => exact absurd h Bool.false_ne_true
      | [_], [], h => exact absurd h Bool.false_ne_true
      | [_], _ :: _ :: _, h => exact absurd h Bool.false_ne_true
      | _ :: _ :: _, _, h => exact absurd h Bool.false_ne_true
    | _ => exact absurd h Bool.false_ne_true
  | .val (.chain op q a b d), sc, ow, x, h, X, W, o => by
    have h : (okE x && chkE c (.chain op q a b d) sc x && plainB x) = true := h
    simp only [Bool.and_eq_true] at h
    obtain ⟨⟨_, h⟩, _⟩ := h
    cases x with
    | Compare l os rs pos =>
      match os, rs, h with
      | [q1, q2], [m, r], h =>
        simp only [chkE, Bool.and_eq_true, decide_eq_true_eq] at h
        obtain ⟨⟨⟨⟨⟨⟨⟨h1, h2⟩, h3⟩, h4⟩, h5⟩, h6⟩, h7⟩, h8⟩ := h
        rw [h1, h2]
        exact p_chainT o (sE a sc ow l h6 o) (sE b sc ow m h7 o) (sE d sc ow r h8 o) (ok_in h5 _)
      | [], _, h => exact absurd h Bool.false_ne_true
      | [_], _, h => exact absurd h Bool.false_ne_true
      | [_, _], [], h => exact absurd h Bool.false_ne_true
      | [_, _], [_], h => exact absurd h Bool.false_ne_true
      | [_, _], _ :: _ :: _ :: _, h => exact absurd h Bool.false_ne_true
      | _ :: _ :: _ :: _, _, h => exact absurd h Bool.false_ne_true
    | _ => exact absurd h Bool.false_ne_true
  | .and a b, sc, ow, x, h, X, W, o => by
    cases x with
    | BoolOp q xs pos =>
      match q, xs, h with
      | .And, x :: y :: [], h =>
        simp only [chkB, Bool.and_eq_true] at h
        exact (q_and (sB a sc ow x h.1.2 o) (pw_and1 (sB b sc ow y h.2 o))).pt
      | .And, x :: y :: z :: zs, h =>
        simp only [chkB, Bool.and_eq_true] at h
        exact (q_and (sB a sc ow x h.1.2 o) (sBW b sc ow _ h.2 o rfl)).pt
      | .And, [], h => exact absurd h Bool.false_ne_true
      | .And, [_], h => exact absurd h Bool.false_ne_true
      | .Or, _, h => exact absurd h Bool.false_ne_true
    | _ => exact absurd h Bool.false_ne_true
  | .or a b, sc, ow, x, h, X, W, o => by
    cases x with
    | BoolOp q xs pos =>
      match q, xs, h with
      | .Or, x :: y :: [], h =>
        simp only [chkB, Bool.and_eq_true] at h
        exact (q_or (sB a sc ow x h.1.2 o) (pw_or1 (sB b sc ow y h.2 o))).pt
      | .Or, x :: y :: z :: zs, h =>
        simp only [chkB, Bool.and_eq_true] at h
        exact (q_or (sB a sc ow x h.1.2 o) (sBW b sc ow _ h.2 o rfl)).pt
      | .Or, [], h => exact absurd h Bool.false_ne_true
      | .Or, [_], h => exact absurd h Bool.false_ne_true
      | .And, _, h => exact absurd h Bool.false_ne_true
    | _ => exact absurd h Bool.false_ne_true
  | .not a, sc, ow, x, h, X, W, o => by
    cases x with
    | UnaryOp q e pos =>
      cases q with
      | Not => exact q_not (sB a sc ow e h o)
      | _ => exact absurd h Bool.false_ne_true
    | _ => exact absurd h Bool.false_ne_true
theorem sBW : ∀ (b : B) (sc ow : Scope) (x : Expr), chkB c b sc x = true → ∀ {X : Cx} {W : WX}, Cok P F C c lv X sc ow W → ∀ {op : BoolOp} {xs : List Expr} {pos : Pos}, x = .BoolOp op xs pos → PW X (.BoolOp op xs pos) (LB P W (evB P.G C b))
  | .val e, sc, ow, x, h, X, W, o, op, xs, pos, hx => by
    subst hx
    have h : (okE _ && chkE c e sc _ && plainB (.BoolOp op xs pos)) = true := h
    simp only [Bool.and_eq_true] at h
    exact absurd h.2 Bool.false_ne_true
  | .and a b, sc, ow, x, h, X, W, o, q, xs, pos, hx => by
    subst hx
    match q, xs, h with
    | .And, x :: y :: [], h =>
      simp only [chkB, Bool.and_eq_true] at h
      exact q_and (sB a sc ow x h.1.2 o) (pw_and1 (sB b sc ow y h.2 o))
    | .And, x :: y :: z :: zs, h =>
      simp only [chkB, Bool.and_eq_true] at h
      exact q_and (sB a sc ow x h.1.2 o) (sBW b sc ow _ h.2 o rfl)
    | .And, [], h => exact absurd h Bool.false_ne_true
    | .And, [_], h => exact absurd h Bool.false_ne_true
    | .Or, _, h => exact absurd h Bool.false_ne_true
  | .or a b, sc, ow, x, h, X, W, o, q, xs, pos, hx => by
    subst hx
    match q, xs, h with
    | .Or, x :: y :: [], h =>
      simp only [chkB, Bool.and_eq_true] at h
      exact q_or (sB a sc ow x h.1.2 o) (pw_or1 (sB b sc ow y h.2 o))
    | .Or, x :: y :: z :: zs, h =>
      simp only [chkB, Bool.and_eq_true] at h
      exact q_or (sB a sc ow x h.1.2 o) (sBW b sc ow _ h.2 o rfl)
    | .Or, [], h => exact absurd h Bool.false_ne_true
    | .Or, [_], h => exact absurd h Bool.false_ne_true
    | .And, _, h => exact absurd h Bool.false_ne_true
  | .not a, sc, ow, x, h, X, W, o, q, xs, pos, hx => by
    subst hx
    exact absurd h Bool.false_ne_true
theorem sBs : ∀ (b : Bs) (sc ow : Scope) (x : List Expr), chkBs c b sc x = true → ∀ {X : Cx} {W : WX}, Cok P F C c lv X sc ow W → PTs X x (LB P W (evBs P.G C b))
  | .nil, sc, ow, [], h, X, W, o => pts_nil.imp fun σ H Q ⟨env, h, Qp, Xp, re, hr, q, l, lx⟩ => l _ _ _ q (.refl H) hr
  | .nil, _, _, _ :: _, h, _, _, _ => absurd h Bool.false_ne_true
  | .one _, _, _, [], h, _, _, _ => absurd h Bool.false_ne_true
  | .one _, _, _, _ :: _ :: _, h, _, _, _ => absurd h Bool.false_ne_true
  | .one b, sc, ow, [x], h, X, W, o => pts_one (sB b sc ow x h o)
theorem sI : ∀ (i : I) (sc ow : Scope) (tg x : Expr), chkI c i sc tg x = true → ∀ {X : Cx} {W : WX}, Cok P F C c lv X sc ow W → PI X tg x (LI P W (evI P.G C i))
  | .ex e, sc, ow, tg, x, h, X, W, o => by
    simp only [chkI, Bool.and_eq_true] at h
    exact p_iex o (sE e sc ow x h.2 o)
  | .range1 e, sc, ow, tg, x, h, X, W, o => by
    cases x with
    | Call fn args kws pos =>
      cases fn with
      | Name x p =>
        simp only [chkI, Bool.and_eq_true, decide_eq_true_eq] at h
        obtain ⟨⟨⟨h1, h2⟩, h3⟩, h4⟩ := h
        subst h1
        split at h4
        · simp only [Bool.and_eq_true] at h4
          exact p_irng1 o h2 h3 h4.1 (sE e sc ow _ h4.2 o)
        · exact absurd h4 Bool.false_ne_true
      | _ => exact absurd h Bool.false_ne_true
    | _ => exact absurd h Bool.false_ne_true
  | .range2 e f, sc, ow, tg, x, h, X, W, o => by
    cases x with
    | Call fn args kws pos =>
      cases fn with
      | Name x p =>
        simp only [chkI, Bool.and_eq_true, decide_eq_true_eq] at h
        obtain ⟨⟨⟨h1, h2⟩, h3⟩, h4⟩ := h
        subst h1
        split at h4
        · simp only [Bool.and_eq_true] at h4
          exact p_irng2 o h2 h3 h4.1.1.1 h4.1.1.2 (sE e sc ow _ h4.1.2 o) (sE f sc ow _ h4.2 o)
        · exact absurd h4 Bool.false_ne_true
      | _ => exact absurd h Bool.false_ne_true
    | _ => exact absurd h Bool.false_ne_true
  | .range3 e f s, sc, ow, tg, x, h, X, W, o => by
    cases x with
    | Call fn args kws pos =>
      cases fn with
      | Name x p =>
        simp only [chkI, Bool.and_eq_true, decide_eq_true_eq] at h
        obtain ⟨⟨⟨h1, h2⟩, h3⟩, h4⟩ := h
        subst h1
        split at h4
        · simp only [Bool.and_eq_true, decide_eq_true_eq] at h4
          obtain ⟨⟨⟨⟨g1, g2⟩, g3⟩, g4⟩, g5⟩ := h4
          subst g3
          exact p_irng3 o h2 h3 g1 g2 (sE e sc ow _ g4 o) (sE f sc ow _ g5 o)
        · exact absurd h4 Bool.false_ne_true
      | _ => exact absurd h Bool.false_ne_true
    | _ => exact absurd h Bool.false_ne_true
  | .enum e, sc, ow, tg, x, h, X, W, o => by
    cases x with
    | Call fn args kws pos =>
      cases fn with
      | Name x p =>
        simp only [chkI, Bool.and_eq_true, decide_eq_true_eq] at h
        obtain ⟨⟨⟨⟨h0, h1⟩, h2⟩, h3⟩, h4⟩ := h
        subst h1
        split at h4
        · simp only [Bool.and_eq_true] at h4
          cases tg with
          | Tuple _ _ _ => exact p_ienum o h2 h3 h4.1 (sE e sc ow _ h4.2 o)
          | _ => exact absurd h0 Bool.false_ne_true
        · exact absurd h4 Bool.false_ne_true
      | _ => exact absurd h Bool.false_ne_true
    | _ => exact absurd h Bool.false_ne_true
theorem i_set : ∀ (i : I) (sc : Scope) (tg x : Expr), chkI c i sc tg x = true → ∀ (env : Env) (v : Value), foldedSetIterable x env v = Pure.pure v
  | .ex e, sc, tg, x, h, env, v => by
    simp only [chkI, Bool.and_eq_true] at h
    exact ok_set h.1.1 env v
  | .range1 e, sc, tg, x, h, env, v => by cases x <;> first | rfl | exact absurd h Bool.false_ne_true
  | .range2 e f, sc, tg, x, h, env, v => by cases x <;> first | rfl | exact absurd h Bool.false_ne_true
  | .range3 e f s, sc, tg, x, h, env, v => by cases x <;> first | rfl | exact absurd h Bool.false_ne_true
  | .enum e, sc, tg, x, h, env, v => by cases x <;> first | rfl | exact absurd h Bool.false_ne_true
end
end
end Mir

set_option autoImplicit false
namespace Mir
open PySem L2 PySem.Spec
open PyProof.Rows hiding St

/-! ## statements -/
structure LftD (P : Pm) (W : WX) (H : Hp) (Dp : PD) (D : Ends) : Prop where
  nx : ∀ env h' σ' H', Dp.nx env h' → Ext H H' → RE P.K H' env σ' → HR P h' H' → D.nx σ' H'
  rt : Lft P H Dp.rt D.rt
  bk : ∀ env h' σ' H', Dp.bk env h' → Ext H H' → RE P.K H' env σ' → HR P h' H' → D.bk σ' H'
  ct : ∀ env h' σ' H', Dp.ct env h' → Ext H H' → RE P.K H' env σ' → HR P h' H' → D.ct σ' H'
  ex : ∀ c env h' σ' H', Dp.ex c env h' → Ext H H' → RE P.K H' env σ' → HR P h' H' → W (.ref (P.cls c)) none σ' H'
theorem LftD.on {P : Pm} {W : WX} {H H1 : Hp} {Dp : PD} {D : Ends} (l : LftD P W H Dp D) (e : Ext H H1) : LftD P W H1 Dp D where
  nx := fun a b c d q x => l.nx a b c d q (e.trans x)
  rt := l.rt.on e
  bk := fun a b c d q x => l.bk a b c d q (e.trans x)
  ct := fun a b c d q x => l.ct a b c d q (e.trans x)
  ex := fun k a b c d q x => l.ex k a b c d q (e.trans x)
theorem LftD.exx {P : Pm} {W : WX} {H : Hp} {Dp : PD} {D : Ends} (l : LftD P W H Dp D) {env : PEnv} {σ : St} (re : RE P.K H env σ) : LftX P W σ H fun c h1 => Dp.ex c env h1 :=
  fun c h' H' q e z => l.ex c env h' σ H' q e (re.ext e) z
abbrev EvS := PEnv → PH → PD → Prop
def LS (P : Pm) (W : WX) (ev : EvS) : TS := fun D σ H => ∃ env h Dp, RE P.K H env σ ∧ HR P h H ∧ ev env h Dp ∧ LftD P W H Dp D
theorem _root_.L2.PSs.imp {X : Cx} {e : List Stmt} {t t' : TS} (h : L2.PSs X e t) (i : ∀ D σ H, t' D σ H → t D σ H) : L2.PSs X e t' := ⟨fun pins s σ H D I hw => h.run pins s σ H D I (i _ _ _ hw)⟩
section
variable {P : Pm} {F : FT} {C : CallS} {c : Ct} {lv : Nat} {X : Cx} {sc ow : Scope} {W : WX}
theorem s_expr (o : Cok P F C c lv X sc ow W) {x : Expr} {pos : Pos} {ea : EvE} (he : PE X x (LE P W ea)) (ok : okE x = true) (nl : noLc x = true) :
    PS X (.Expr x pos) (LS P W fun env h D => ea env h (fun _ h1 => D.nx env h1) fun c h1 => D.ex c env h1) :=
  (ps_expr he (ok_swap ok nl _ _ _)).imp fun D σ H ⟨env, h, Dp, re, z, q, l⟩ => ⟨env, h, _, _, re, z, q, fun pr h' v H' q e r z => l.nx _ _ _ _ q e (re.ext e) z, l.exx re⟩
theorem s_ret (o : Cok P F C c lv X sc ow W) {x : Expr} {pos : Pos} {ea : EvE} (he : PE X x (LE P W ea)) :
    PS X (.Return (some x) pos) (LS P W fun env h D => ea env h D.rt fun c h1 => D.ex c env h1) :=
  (ps_ret he).imp fun D σ H ⟨env, h, Dp, re, z, q, l⟩ => ⟨env, h, _, _, re, z, q, l.rt, l.exx re⟩
theorem s_retN {pos : Pos} : PS X (.Return none pos) (LS P W fun env h D => D.rt .non h) :=
  ps_retN.imp fun D σ H ⟨env, h, Dp, re, z, q, l⟩ => l.rt _ _ _ _ q (.refl H) .non z
theorem s_asgN (o : Cok P F C c lv X sc ow W) {st : Stmt} {i : Nat} {ea : EvE} (hs : PS X st (tAsg (LE P W ea) (gName i))) :
    PS X st (LS P W fun env h D => ea env h (fun v h1 => D.nx (env.set i (some v)) h1) fun c h1 => D.ex c env h1) :=
  hs.imp fun D σ H ⟨env, h, Dp, re, z, q, l⟩ => ⟨env, h, _, _, re, z, q, fun pr h' v H' q e r z => l.nx _ _ _ _ q e ((re.ext e).put r i) z, l.exx re⟩
theorem s_set (o : Cok P F C c lv X sc ow W) {i : Nat} {y : Str} {x : Expr} {p pos : Pos} {ea : EvE} (he : PE X x (LE P W ea)) (ok : okE x = true) (nl : noLc x = true) (hy : c.N[i]? = some y) (hl : locB sc y = true) (ht : L2.Loc ow y) :
    PS X (.Assign [.Name y p] x pos) (LS P W fun env h D => ea env h (fun v h1 => D.nx (env.set i (some v)) h1) fun c h1 => D.ex c env h1) :=
  s_asgN o (ps_set (by rw [o.hN]; exact o.nd) (by rw [o.hN]; exact hy) (by rw [o.hsc]; exact loc_of hl) he (ok_swap ok nl _ _ _) (by rw [o.hsc]; exact o.st y ht))
theorem sw_none {ts : List Expr} {e : Expr} {env : Env} (h : noTup e = true) : swappedStores ts e env = Pure.pure none := by
  unfold swappedStores
  split
  · rename_i heq
    split at heq
    · exact absurd h Bool.false_ne_true
    · exact absurd h Bool.false_ne_true
    · cases heq
  · rfl
theorem s_setT (o : Cok P F C c lv X sc ow W) {ts : Ts} {xs : List Expr} {k : Nat} {x : Expr} {p pos : Pos} {ea : EvE} (he : PE X x (LE P W ea)) (ok : okE x = true) (nl : noLc x = true) (nt : noTup x = true) (hg : PG X (.Tuple xs k p) (LG P (tSlots (.tup ts)) (setT (.tup ts)))) :
    PS X (.Assign [.Tuple xs k p] x pos) (LS P W fun env h D => ea env h (fun v h1 => setT (.tup ts) v env fun env' => D.nx env' h1) fun c h1 => D.ex c env h1) :=
  (ps_asg he hg (by unfold swapsWithSole; exact ok_swap ok nl _ _ _) (sw_none nt)).imp fun D σ H ⟨env, h, Dp, re, z, q, l⟩ => ⟨env, h, _, _, re, z, q, fun pr h' v H' q e r z => ⟨env, pr, _, re.ext e, r, q, fun env' σ' q' re' _ => l.nx _ _ _ _ q' e re' z⟩, l.exx re⟩
theorem s_setL (o : Cok P F C c lv X sc ow W) {ts : Ts} {xs : List Expr} {k : Nat} {x : Expr} {p pos : Pos} {ea : EvE} (he : PE X x (LE P W ea)) (ok : okE x = true) (nl : noLc x = true) (nt : noTup x = true) (hc : chkTs c ts sc ow xs = true) :
    PS X (.Assign [.Tuple xs k p] x pos) (LS P W fun env h D => ea env h (fun v h1 => match v with
      | .loc a => match h1 a with
        | some (.lst vs) => setTs ts vs env fun env' => D.nx env' h1
        | _ => False
      | _ => False) fun c h1 => D.ex c env h1) := by
  obtain ⟨g, e1, e2⟩ := sTs o ts xs hc
  refine (ps_asg he (pg_lst o.calm g e1 e2) (by unfold swapsWithSole; exact ok_swap ok nl _ _ _) (sw_none nt)).imp fun D σ H ⟨env, h, Dp, re, z, q, l⟩ => ⟨env, h, _, _, re, z, q, fun pr h' v H' q e r z => ?_, l.exx re⟩
  simp only at q
  split at q
  · rename_i a
    cases r
    split at q
    · rename_i vs ev
      obtain ⟨ws, e3, rs⟩ := z a _ ev
      rw [o.hK]
      exact ⟨_, _, rfl, .inl (.inl e3), by rw [← rs.length, (setTs_ex ts q).1, chkTs_len ts xs hc], env, vs, _, re.ext e, rs, q, fun env' σ' q' re' _ => l.nx _ _ _ _ q' e re' z⟩
    · exact q.elim
  · exact q.elim
theorem s_aug (o : Cok P F C c lv X sc ow W) {i : Nat} {y : Str} {x : Expr} {op : BinK} {p pos : Pos} {ea : EvE} (he : PE X x (LE P W ea)) (hy : c.N[i]? = some y) (hl : locB sc y = true) (ht : L2.Loc ow y) :
    PS X (.AugAssign (.Name y p) (bOp op) x pos) (LS P W fun env h D => match env[i]? with
      | some (some x) => ea env h (fun y h1 => augV op x y h1 fun z h2 => D.nx (env.set i (some z)) h2) fun c h1 => D.ex c env h1
      | _ => False) := by
  have ip : PIp X (bOp op) (rTwo P (augV op)) := iop_bin o.hK op
  refine (ps_aug (by rw [o.hN]; exact o.nd) (by rw [o.hN]; exact hy) (by rw [o.hsc]; exact loc_of hl) he ip (by rw [o.hsc]; exact o.st y ht)).imp fun D σ H ⟨env, h, Dp, re, z, q, l⟩ => ?_
  simp only at q
  split at q
  · rename_i v ev
    obtain ⟨w, ew, r⟩ := re.get ev
    refine ⟨w, ew, env, h, _, _, re, z, q, fun pr h' u H' q e r2 z => ?_, l.exx re⟩
    exact ⟨v, pr, h', _, r.ext e, r2, z, q, fun y h2 u2 H2 q2 e2 r3 z2 => l.nx _ _ _ _ q2 (e.trans e2) ((re.ext (e.trans e2)).put r3 i) z2⟩
  · exact q.elim
theorem s_fldSet (o : Cok P F C c lv X sc ow W) {ob x : Expr} {s : Str} {f : Nat} {p pos : Pos} {eo ea : EvE} (ho : PE X ob (LE P W eo)) (he : PE X x (LE P W ea)) (ok : okE x = true) (hs : P.G.nm[f]? = some s) :
    PS X (.Assign [.Attribute ob s p] x pos) (LS P W fun env h D => ea env h (fun y h1 => eo env h1 (fun x h2 => match x with
      | .loc a => match h2 a with
        | some (.ins c fs) => P.G.fl c f = true ∧ fs.length < 1000 ∧ D.nx env (pup h2 a (.ins c (putA f y fs)))
        | _ => False
      | _ => False) fun c h2 => D.ex c env h2) fun c h1 => D.ex c env h1) := by
  refine (ps_fld ho he (ok_swapA ok _ _ _ _ _)).imp fun D σ H ⟨env, h, Dp, re, z, q, l⟩ => ⟨env, h, _, _, re, z, q, fun y h1 v H1 q1 e1 r1 z1 => ?_, l.exx re⟩
  refine ⟨env, h1, _, _, re.ext e1, z1, q1, fun x h2 w H2 q2 e2 r2 z2 => ?_, (l.on e1).exx (re.ext e1)⟩
  cases r2 with
  | loc a =>
    simp only at q2
    split at q2
    · rename_i k fs ek
      obtain ⟨q0, ql, q2⟩ := q2
      obtain ⟨dx, gs, g, rf⟩ := z2 a _ ek
      have e3 := z2.chg ek (.ins (P.cls k) dx (putF s v gs))
      refine ⟨a, P.cls k, dx, gs, rfl, g, o.hK ▸ o.wl.cl k f q0, o.hK ▸ o.wl.na k f s q0 hs, by rw [← paired_len rf]; exact ql, ?_⟩
      refine l.nx _ _ _ _ q2 ((e1.trans e2).trans e3) (re.ext ((e1.trans e2).trans e3)) (z2.upd e3 ⟨dx, _, upd_same, ?_⟩)
      exact paired_imp (rf_put o.wl.nd hs (r1.ext e2) rf) fun _ _ q => ⟨q.1, q.2.ext e3⟩
    · exact q2.elim
  | _ => exact q2.elim
theorem s_fldAug (o : Cok P F C c lv X sc ow W) {ob x : Expr} {s : Str} {f : Nat} {op : BinK} {p pos : Pos} {eo ea : EvE} (ho : PE X ob (LE P W eo)) (he : PE X x (LE P W ea)) (hs : P.G.nm[f]? = some s) :
    PS X (.AugAssign (.Attribute ob s p) (bOp op) x pos) (LS P W fun env h D => eo env h (fun x h1 => match x with
      | .loc a => match h1 a with
        | some (.ins c fs) => P.G.fl c f = true ∧ match fs.lookup f with
          | some v => ea env h1 (fun y h2 => augV op v y h2 fun z h3 => match h3 a with
            | some (.ins c' fs') => c' = c ∧ fs'.length < 1000 ∧ D.nx env (pup h3 a (.ins c' (putA f z fs')))
            | _ => False) fun c h2 => D.ex c env h2
          | none => False
        | _ => False
      | _ => False) fun c h1 => D.ex c env h1) := by
  have ip : InOp X (bOp op) (rTwo P (augV op)) := iop_bin o.hK op
  refine (ps_fldaug ho he ip).imp fun D σ H ⟨env, h, Dp, re, z, q, l⟩ => ⟨env, h, _, _, re, z, q, fun x h1 v H1 q1 e1 r1 z1 => ?_, l.exx re⟩
  cases r1 with
  | loc a =>
    simp only at q1
    split at q1
    · rename_i k fs ek
      obtain ⟨q0, q1⟩ := q1
      split at q1
      · rename_i y ey
        obtain ⟨dx, gs, g, rf⟩ := z1 a _ ek
        obtain ⟨w, ew, rw'⟩ := (rf_look o.wl.nd hs rf).1 y ey
        refine ⟨a, P.cls k, dx, gs, w, rfl, g, o.hK ▸ o.wl.cl k f q0, o.hK ▸ o.wl.na k f s q0 hs, ew, env, h1, _, _, re.ext e1, z1, q1, fun pr h2 u H2 q2 e2 r2 z2 => ?_, (l.on e1).exx (re.ext e1)⟩
        refine ⟨y, pr, h2, _, rw'.ext e2, r2, z2, q2, fun zz h3 u3 H3 q3 e3 r3 z3 => ?_⟩
        split at q3
        · rename_i k' fs' ek'
          obtain ⟨rfl, ql, q3⟩ := q3
          obtain ⟨dx', gs', g', rf'⟩ := z3 a _ ek'
          have e4 := z3.chg ek' (.ins (P.cls k') dx' (putF s u3 gs'))
          refine ⟨dx', gs', g', by rw [← paired_len rf']; exact ql, ?_⟩
          refine l.nx _ _ _ _ q3 (((e1.trans e2).trans e3).trans e4) (re.ext (((e1.trans e2).trans e3).trans e4)) (z3.upd e4 ⟨dx', _, upd_same, ?_⟩)
          exact paired_imp (rf_put o.wl.nd hs r3 rf') fun _ _ q => ⟨q.1, q.2.ext e4⟩
        · exact q3.elim
      · exact q1.elim
    · exact q1.elim
  | _ => exact q1.elim
/-! ### o[i] = v -/
def rSet3 (P : Pm) : TSet := fun x y v H Q => ∃ a b w h Qp, RP P.K H a x ∧ RP P.K H b y ∧ RP P.K H w v ∧ HR P h H ∧ setV a b w h Qp ∧ ∀ h' H', Qp h' → Ext H H' → HR P h' H' → Q H'
theorem set_any (hK : X.K = P.K) (hu : X.A.units + 1 < cLine) : PSet X (rSet3 P) := by
  intro pins s σ H x y v ov iv u Q I rx ry rv ⟨a, b, w, h, Qp, ra, rb, rw', z, q, l⟩
  cases ra with
  | loc p =>
    unfold Mir.setV at q
    simp only at q
    split at q
    · rename_i xs e
      split at q
      · rename_i k
        split at q
        · rename_i j ej
          obtain ⟨vs, g, r⟩ := z.lst e
          cases rb
          exact set_list pins s σ H _ _ v ov iv u Q I rx ry rv ⟨p, vs, k, j, rfl, rfl, g, by rw [← r.length]; exact ej, l _ _ q (z.chg e _) (rlst_put z e (r.set rw' j))⟩
        · exact q.elim
      · exact q.elim
    · rename_i kvs e
      split at q
      · rename_i k ek
        obtain ⟨ql, q⟩ := q
        obtain ⟨ws, g, r⟩ := z p _ e
        have ev := toKey_rel rb ek
        subst ev
        cases rx
        exact d_setItem hu I (.k g (by rw [← paired_len r]; exact ql)) ry rv fun s' I' => ⟨_, I', l _ _ q (z.chg e _) (rdct_put z e (rk_put rw' r))⟩
      · exact q.elim
    · exact q.elim
  | _ => exact q.elim
theorem ok_asg {i : Expr} (h : okE i = true) (o : Expr) (pos : Pos) (env : Env) (v : Value) : assign (.Subscript o i pos) env v = (do
      let ov ← holding [v] (eval o env)
      let iv ← holding [v, ov] (eval i env)
      standAt pos
      holding [v, ov, iv] (setItem ov iv v)
      release [v, ov, iv] []) := by
  cases i <;> first | rfl | (exfalso; revert h; simp [okE]; done)
theorem s_subSet (o : Cok P F C c lv X sc ow W) {ob ix x : Expr} {p pos : Pos} {eo ei ea : EvE} (ho : PE X ob (LE P W eo)) (hi : PE X ix (LE P W ei)) (he : PE X x (LE P W ea)) (ok : okE x = true) (oki : okE ix = true) :
    PS X (.Assign [.Subscript ob ix p] x pos) (LS P W fun env h D => ea env h (fun v h1 => eo env h1 (fun x h2 => ei env h2 (fun y h3 => setV x y v h3 fun h4 => D.nx env h4) fun c h3 => D.ex c env h3) fun c h2 => D.ex c env h2) fun c h1 => D.ex c env h1) := by
  refine (ps_asg he (pg_sub ho hi (set_any o.hK o.hu1) (fun v => ok_asg oki ob p X.env v)) (by unfold swapsWithSole; exact ok_swapS ok _ _ _ _ _) (by rfl)).imp fun D σ H ⟨env, h, Dp, re, z, q, l⟩ => ⟨env, h, _, _, re, z, q, fun v h1 v1 H1 q1 e1 r1 z1 => ?_, l.exx re⟩
  refine ⟨env, h1, _, _, re.ext e1, z1, q1, fun x h2 v2 H2 q2 e2 r2 z2 => ?_, (l.on e1).exx (re.ext e1)⟩
  refine ⟨env, h2, _, _, re.ext (e1.trans e2), z2, q2, fun y h3 v3 H3 q3 e3 r3 z3 => ?_, (l.on (e1.trans e2)).exx (re.ext (e1.trans e2))⟩
  exact ⟨x, y, v, h3, _, r2.ext e3, r3, r1.ext (e2.trans e3), z3, q3, fun h4 H4 q4 e4 z4 => l.nx _ _ _ _ q4 (((e1.trans e2).trans e3).trans e4) (re.ext (((e1.trans e2).trans e3).trans e4)) z4⟩
/-! ### o[i] op= v -/
def rGet (P : Pm) : V → V → Hp → VK → Prop := fun x y H Q => ∃ a b h Qp, RP P.K H (.loc a) x ∧ RP P.K H b y ∧ HR P h H ∧ subV (.loc a) b h Qp ∧ Lft P H Qp Q
theorem get_any (hK : X.K = P.K) (hu : X.A.units + 1 < cLine) : PGet X (rGet P) := by
  intro pins s σ H x y ov iv Q I rx ry ⟨p, b, h, Qp, ra, rb, z, q, l⟩
  have two : ∀ {p : Addr} {xs : List V} {k : Int} {w : V}, x = .ref p → y = .int k → SqL X.K H p xs → atI xs k = some w → Q w H → wpAny (model X.prog X.w) X.A (getItem ov iv) (EP X pins σ Q) X.xe s := by
    intro p xs k w ex ey hq he q
    subst ex ey
    cases rx
    obtain ⟨t, rfl⟩ := ry
    obtain ⟨its, r, pl, hz⟩ := I.list hq
    obtain ⟨j, h1, h2, h3, h4, h5⟩ := atI_get he
    obtain ⟨u, ew, ru⟩ := r.get h2
    have hl := r.length
    have hn := line63
    have fin : EP X pins σ Q u s := ⟨w, H, I, ru, q⟩
    by_cases h0 : 0 ≤ k
    · have hj : k.toNat = j := by
        rw [seqIndex_of h0 h5] at h1
        exact Option.some.inj h1
      exact wpAny_getItem_list pl.isList h0 (by omega) (by rw [hj]; simpa using ew) fin
    · have hj : (k + (its.toArray.size : Int)).toNat = j := by
        rw [seqIndex_neg (by omega) h4] at h1
        rw [List.size_toArray, ← hl]
        exact Option.some.inj h1
      exact wpAny_getItem_list_neg pl.isList (by omega) (by rw [List.size_toArray] <;> omega) (by omega) (by rw [hj]; simpa using ew) fin
  cases ra with
  | loc p =>
    simp only [subV] at q
    split at q
    · rename_i xs e
      obtain ⟨vs, g, r⟩ := z.lst e
      cases rb with
      | int i =>
        simp only at q
        split at q
        · rename_i v e
          obtain ⟨w, e', r'⟩ := atI_rel r e
          exact two rfl rfl (SqL.of g) e' (l.here q r' z)
        · exact q.elim
      | _ => exact q.elim
    · rename_i f kvs e
      split at q
      · rename_i k ek
        split at q
        · rename_i v ev
          obtain ⟨ws, g, r⟩ := z.dct e
          have ew := toKey_rel rb ek
          subst ew
          obtain ⟨w, e2, r2⟩ := (rk_val k r).1 v ev
          cases rx
          exact d_getItem hu I (.inl ⟨ws, k, g, rfl, e2.symm⟩) ry fun w' s' I' rw' => ⟨w, H, I', rw', l.here q r2 z⟩
        · exact q.elim
      · exact q.elim
    · exact q.elim
theorem s_subAug (o : Cok P F C c lv X sc ow W) {ob ix x : Expr} {op : BinK} {p pos : Pos} {eo ei ea : EvE} (ho : PE X ob (LE P W eo)) (hi : PE X ix (LE P W ei)) (he : PE X x (LE P W ea)) (oki : okE ix = true) :
    PS X (.AugAssign (.Subscript ob ix p) (bOp op) x pos) (LS P W fun env h D => eo env h (fun x h1 => (∃ a, x = .loc a) ∧ ei env h1 (fun y h2 => subV x y h2 fun v h3 => ea env h3 (fun y2 h4 => augV op v y2 h4 fun z h5 => setV x y z h5 fun h6 => D.nx env h6)
      fun c h4 => D.ex c env h4) fun c h2 => D.ex c env h2) fun c h1 => D.ex c env h1) := by
  have ip : PIp X (bOp op) (rTwo P (augV op)) := iop_bin o.hK op
  refine (ps_augS ho hi (get_any o.hK o.hu1) he ip (set_any o.hK o.hu1) (by intros; cases ix <;> first | rfl | (exfalso; revert oki; simp [okE]; done))).imp fun D σ H ⟨env, h, Dp, re, z, q, l⟩ => ⟨env, h, _, _, re, z, q, fun a h1 v1 H1 q1 e1 r1 z1 => ?_, l.exx re⟩
  obtain ⟨⟨a', rfl⟩, q1⟩ := q1
  refine ⟨env, h1, _, _, re.ext e1, z1, q1, fun b h2 v2 H2 q2 e2 r2 z2 => ?_, (l.on e1).exx (re.ext e1)⟩
  have e12 := e1.trans e2
  refine ⟨a', b, h2, _, r1.ext e2, r2, z2, q2, fun v h3 v3 H3 q3 e3 r3 z3 => ?_⟩
  have e13 := e12.trans e3
  refine ⟨env, h3, _, _, re.ext e13, z3, q3, fun y h4 v4 H4 q4 e4 r4 z4 => ?_, (l.on e13).exx (re.ext e13)⟩
  refine ⟨v, y, h4, _, r3.ext e4, r4, z4, q4, fun zz h5 v5 H5 q5 e5 r5 z5 => ?_⟩
  have e25 := (e3.trans e4).trans e5
  exact ⟨.loc a', b, zz, h5, _, (r1.ext e2).ext e25, r2.ext e25, r5, z5, q5, fun h6 H6 q6 e6 z6 => l.nx _ _ _ _ q6 ((e12.trans e25).trans e6) (re.ext ((e12.trans e25).trans e6)) z6⟩
/-! ### if, while, for -/
theorem s_if (o : Cok P F C c lv X sc ow W) {t : Expr} {a b : List Stmt} {pos : Pos} {et : EvB} {ea eb : EvS} (ht : PT X t (LB P W et)) (ha : PSs X a (LS P W ea)) (hb : PSs X b (LS P W eb)) :
    PS X (.If t a b pos) (LS P W fun env h D => et env h (fun k h1 => if k = true then ea env h1 D else eb env h1 D) fun c h1 => D.ex c env h1) := by
  refine (ps_if ht ha hb).imp fun D σ H ⟨env, h, Dp, re, z, q, l⟩ => ⟨env, h, _, _, re, z, q, fun k h1 H1 q1 e1 z1 => ?_, l.exx re⟩
  cases k with
  | true => exact ⟨env, h1, Dp, re.ext e1, z1, q1, l.on e1⟩
  | false => exact ⟨env, h1, Dp, re.ext e1, z1, q1, l.on e1⟩
theorem s_while (o : Cok P F C c lv X sc ow W) (hp : PassesOwn (model X.prog X.w) X.A X.env X.xe) {t : Expr} {b : List Stmt} {pos : Pos} {et : EvB} {eb : EvS} (ht : PT X t (LB P W et)) (hb : PSs X b (LS P W eb)) :
    PS X (.While t b [] pos) (LS P W fun env h D => ∃ V : Nat → PEnv → PH → Prop, (∃ m, V m env h) ∧ ∀ m env h, V m env h →
      et env h (fun k h1 => if k = true then eb env h1 { D with nx := fun e g => ∃ m', m' < m ∧ V m' e g, ct := fun e g => ∃ m', m' < m ∧ V m' e g, bk := D.nx } else D.nx env h1) fun c h1 => D.ex c env h1) := by
  refine (ps_while hp ht hb).imp fun D σ H ⟨env, h, Dp, re, z, ⟨V, ⟨m, q⟩, st⟩, l⟩ => ?_
  refine ⟨fun m σ' H' => ∃ env' h', Ext H H' ∧ RE P.K H' env' σ' ∧ HR P h' H' ∧ V m env' h', ⟨m, env, h, .refl H, re, z, q⟩, ?_⟩
  rintro m σ' H' ⟨env', h', e', re', z', q'⟩
  refine ⟨env', h', _, _, re', z', st m env' h' q', fun k h1 H1 q1 e1 z1 => ?_, (l.on e').exx re'⟩
  cases k with
  | false => exact l.nx _ _ _ _ q1 (e'.trans e1) (re'.ext e1) z1
  | true =>
    refine ⟨fun σ2 H2 => ∃ m', m' < m ∧ ∃ env2 h2, Ext H H2 ∧ RE P.K H2 env2 σ2 ∧ HR P h2 H2 ∧ V m' env2 h2, fun σ2 H2 ⟨m', lt, q⟩ => ⟨m', lt, q⟩, env', h1, _, re'.ext e1, z1, q1, ?_⟩
    have l' := l.on (e'.trans e1)
    exact ⟨fun env2 h2 σ2 H2 ⟨m', lt, q2⟩ e2 re2 z2 => ⟨m', lt, env2, h2, (e'.trans e1).trans e2, re2, z2, q2⟩, l'.rt, l'.nx, fun env2 h2 σ2 H2 ⟨m', lt, q2⟩ e2 re2 z2 => ⟨m', lt, env2, h2, (e'.trans e1).trans e2, re2, z2, q2⟩, l'.ex⟩
/-- the turns of a for -/
theorem for_go {J : It} {xs : List PV} {still : PH → Prop} {t : T} {eb : EvS} {env : PEnv} {σ : St} {H1 : Hp} {h1 : PH} {Dp : PD} {D : Ends} {g : TG} {tb : TS}
    (hg : g = LG P (tSlots t) (setT t)) (hb : tb = LS P W eb) (jk : JOk P H1 J xs still) (re : RE P.K H1 env σ) (z1 : HR P h1 H1)
    (q : forGo still (setT t) (fun e g D' => eb e g D') Dp xs env h1) (l : LftD P W H1 Dp D) :
    ∃ W : Nat → Nat → St → Hp → Prop, (∃ m, W 0 m σ H1) ∧ ∀ i m σ H, W i m σ H →
      (J.stop i H ∧ D.nx σ H) ∨ (J.go i H ∧ ∃ N : St → Hp → Prop, (∀ σ' H', N σ' H' → ∃ m', m' < m ∧ W (i + 1) m' σ' H') ∧ ∀ x H', J.yld i H x H' → g x σ H' fun σ2 H2 => tb { D with nx := N, ct := N, bk := D.nx } σ2 H2) := by
  subst hg hb
  refine ⟨fun i m σ' H' => ∃ env' h', m = xs.length - i ∧ i ≤ xs.length ∧ Ext H1 H' ∧ RE P.K H' env' σ' ∧ HR P h' H' ∧ forGo still (setT t) (fun e g D' => eb e g D') Dp (xs.drop i) env' h',
    ⟨_, env, h1, rfl, Nat.zero_le _, .refl _, re, z1, by simpa using q⟩, ?_⟩
  rintro i m σ' H' ⟨env', h', rfl, hi, x, re', z, q⟩
  by_cases hlt : i < xs.length
  · have ed : xs.drop i = xs[i] :: xs.drop (i + 1) := List.drop_eq_getElem_cons hlt
    rw [ed] at q
    obtain ⟨st, q⟩ := q
    have nxt : ∀ env2 h2 σ2 H2, forGo still (setT t) (fun e g D' => eb e g D') Dp (xs.drop (i + 1)) env2 h2 → Ext H1 H2 → RE P.K H2 env2 σ2 → HR P h2 H2 →
        ∃ env2 h2, Ext H1 H2 ∧ RE P.K H2 env2 σ2 ∧ HR P h2 H2 ∧ forGo still (setT t) (fun e g D' => eb e g D') Dp (xs.drop (i + 1)) env2 h2 := fun env2 h2 σ2 H2 a b c d => ⟨env2, h2, b, c, d, a⟩
    refine .inr ⟨jk.go i h' H' x z st hlt, fun σ2 H2 => ∃ env2 h2, Ext H1 H2 ∧ RE P.K H2 env2 σ2 ∧ HR P h2 H2 ∧ forGo still (setT t) (fun e g D' => eb e g D') Dp (xs.drop (i + 1)) env2 h2,
      fun σ2 H2 ⟨env2, h2, a, b, c, d⟩ => ⟨xs.length - (i + 1), by omega, env2, h2, rfl, hlt, a, b, c, d⟩, ?_⟩
    intro v H2 y
    obtain ⟨xe, z2, pv, epv, rv⟩ := jk.yld i h' H' v H2 x z st hlt y
    rw [List.getElem?_eq_getElem hlt] at epv
    cases epv
    refine ⟨env', xs[i], _, re'.ext xe, rv, q, fun env2 σ2 q2 re2 of => ⟨env2, h', _, re2, z2, q2, ?_⟩⟩
    have x2 := x.trans xe
    have l' := l.on x2
    exact ⟨fun a b c d q e r z => nxt a b c d q (x2.trans e) r z, l'.rt, l'.nx, fun a b c d q e r z => nxt a b c d q (x2.trans e) r z, l'.ex⟩
  · have e : i = xs.length := by omega
    subst e
    rw [List.drop_length] at q
    exact .inl ⟨jk.stop h' H' x z q.1, l.nx _ _ _ _ q.2 x re' z⟩
theorem s_for (o : Cok P F C c lv X sc ow W) (hp : PassesOwn (model X.prog X.w) X.A X.env X.xe) {tg iter : Expr} {b : List Stmt} {pos : Pos} {t : T} {ei : EvI} {eb : EvS} (hi : PI X tg iter (LI P W ei)) (hs : ∀ x, foldedSetIterable iter X.env x = Pure.pure x)
    (hg : PG X tg (LG P (tSlots t) (setT t))) (hb : PSs X b (LS P W eb)) :
    PS X (.For tg iter b [] pos) (LS P W fun env h D => ei env h (fun xs still h1 => forGo still (setT t) (fun e g D' => eb e g D') D xs env h1) fun c h1 => D.ex c env h1) :=
  (ps_for hp o.calm hi hg hb hs).imp fun D σ H ⟨env, h, Dp, re, z, q, l⟩ => ⟨env, h, _, _, re, z, q, fun xs still h1 H1 J q1 e1 z1 jk => for_go rfl rfl jk (re.ext e1) z1 q1 (l.on e1), l.exx re⟩
end
end Mir

set_option autoImplicit false
namespace Mir
open PySem L2 PySem.Spec
open PyProof.Rows hiding St

section
variable {P : Pm} {F : FT} {C : CallS} {c : Ct} {lv : Nat} {X : Cx} {sc ow : Scope} {W : WX}
/-- a dict walked by a for: its keys, or its pairs -/
theorem s_forD (o : Cok P F C c lv X sc ow W) (hp : PassesOwn (model X.prog X.w) X.A X.env X.xe) {tg iter : Expr} {b : List Stmt} {pos : Pos} {t : T} {items : Bool} {ea : EvE} {eb : EvS} {wi : TI} (hi : PI X tg iter wi)
    (hw : ∀ σ H R, LE P W ea σ H (fun x H1 => ∃ d o kvs, x = .ref d ∧ H1 d = some (.frz o (.dK kvs)) ∧ R ((if items = true then Iti else Itk) d o kvs) H1) → wi σ H R) (hs : ∀ x, foldedSetIterable iter X.env x = Pure.pure x)
    (hg : PG X tg (LG P (tSlots t) (setT t))) (hb : PSs X b (LS P W eb)) :
    PS X (.For tg iter b [] pos) (LS P W fun env h D => ∃ d kvs, h d = some (.dct false kvs) ∧ ea env (pup h d (.dct true kvs)) (fun x h1 => x = .loc d ∧
      forGo (fun g => g d = some (.dct true kvs)) (setT t) (fun e g D' => eb e g D')
        ⟨fun e g => g d = some (.dct true kvs) ∧ D.nx e (pup g d (.dct false kvs)), fun v g => g d = some (.dct true kvs) ∧ D.rt v (pup g d (.dct false kvs)), fun e g => g d = some (.dct true kvs) ∧ D.bk e (pup g d (.dct false kvs)),
          fun e g => g d = some (.dct true kvs) ∧ D.ct e (pup g d (.dct false kvs)), fun _ _ _ => False⟩
        (kvs.map fun kv => if items then .tup [kP kv.1, kv.2] else kP kv.1) env h1) fun _ _ => False) := by
  refine (ps_lock (ps_for hp o.calm hi hg hb hs)).imp fun D σ H ⟨env, h, Dp, re, z, ⟨d, kvs, ed, q⟩, l⟩ => ?_
  obtain ⟨vs, g, r⟩ := z d _ ed
  refine ⟨d, _, g, trivial, fun od => hw _ _ _ ?_⟩
  obtain ⟨x0, z0⟩ := lock_hr (od := od) z ed g r
  refine ⟨env, _, _, fun _ _ => False, re.ext x0, z0, q, fun x h1 v H1 q1 e1 r1 z1 => ?_, fun _ _ _ q => q.elim⟩
  obtain ⟨ex, q1⟩ := q1
  subst ex
  cases r1
  have g1 : H1 d = some (.frz od (.dK vs)) := e1.fz _ _ _ upd_same
  have r1 : RK P.K H1 kvs vs := paired_imp r fun _ _ q => ⟨q.1, (q.2.ext x0).ext e1⟩
  have jk : JOk P H1 ((if items = true then Iti else Itk) d od vs) (kvs.map fun kv => if items then .tup [kP kv.1, kv.2] else kP kv.1) fun g => g d = some (.dct true kvs) := by
    cases items with
    | true =>
      have j := j_items (P := P) g1 r1
      exact ⟨fun i h' H' x z st hi => j.go i h' H' x z trivial hi, fun h' H' x z st => j.stop h' H' x z trivial, fun i h' H' y H'' x z st hi q => j.yld i h' H' y H'' x z trivial hi q⟩
    | false =>
      have j := j_keys (P := P) g1 r1
      exact ⟨fun i h' H' x z st hi => j.go i h' H' x z trivial hi, fun h' H' x z st => j.stop h' H' x z trivial, fun i h' H' y H'' x z st hi q => j.yld i h' H' y H'' x z trivial hi q⟩
  refine ⟨d, od, vs, rfl, g1, for_go rfl rfl jk ((re.ext x0).ext e1) z1 q1 ?_⟩
  have out : ∀ {h' : PH} {H' : Hp}, Ext H1 H' → HR P h' H' → H' d = some (.frz od (.dK vs)) ∧ Ext H (upd H' d (.dK vs)) ∧ ExtW H' (upd H' d (.dK vs)) ∧ HR P (pup h' d (.dct false kvs)) (upd H' d (.dK vs)) := fun e z => by
    have xx := e1.trans e
    obtain ⟨g2, z3⟩ := unlock_hr g r xx z
    exact ⟨g2, unlock_ext g xx, unlock_w g2, z3⟩
  refine ⟨fun a b c k q e re z => ?_, fun a b c k q e rv z => ?_, fun a b c k q e re z => ?_, fun a b c k q e re z => ?_, fun _ _ _ _ _ q => q.elim⟩
  · obtain ⟨g2, x2, w2, z3⟩ := out e z
    exact ⟨g2, l.nx _ _ _ _ q.2 x2 (re.extW w2) z3⟩
  · obtain ⟨g2, x2, w2, z3⟩ := out e z
    exact ⟨g2, l.rt _ _ _ _ q.2 x2 (rv.extW w2) z3⟩
  · obtain ⟨g2, x2, w2, z3⟩ := out e z
    exact ⟨g2, l.bk _ _ _ _ q.2 x2 (re.extW w2) z3⟩
  · obtain ⟨g2, x2, w2, z3⟩ := out e z
    exact ⟨g2, l.ct _ _ _ _ q.2 x2 (re.extW w2) z3⟩
theorem pss_ls_nil : PSs X [] (LS P W fun env h D => D.nx env h) := pss_nil.imp fun D σ H ⟨env, h, Dp, re, z, q, l⟩ => l.nx _ _ _ _ q (.refl H) re z
theorem pss_ls_cons {s : Stmt} {ss : List Stmt} {ea eb : EvS} (ha : PS X s (LS P W ea)) (hb : PSs X ss (LS P W eb)) :
    PSs X (s :: ss) (LS P W fun env h D => ea env h { D with nx := fun env' h' => eb env' h' D }) :=
  (pss_cons ha hb).imp fun D σ H ⟨env, h, Dp, re, z, q, l⟩ => ⟨env, h, _, re, z, q, fun env' h' σ' H' q e re z => ⟨env', h', Dp, re, z, q, l.on e⟩, l.rt, l.bk, l.ct, l.ex⟩
end
section
structure StOk (X : Cx) : Prop where
  hp : PassesOwn (model X.prog X.w) X.A X.env X.xe
  hex : X.ex = []
  hs : X.stack = X.env :: X.outer
  hf : X.env.frame = some X.env.locals
section
variable {P : Pm} {F : FT} {C : CallS} {c : Ct} {lv : Nat} {X : Cx} {sc ow : Scope} {W : WX}
theorem s_raise (o : Cok P F C c lv X sc sc W) {k : Nat} {x m : Str} {j p2 p pos pos2} (hx : c.clN k = some x) (hg : glB sc x = true) (hd : dunB x = true) (hk : P.G.exc k = true) :
    PS X (.Raise (some (.Call (.Name x p) [.Constant (.str m) j p2] [] pos2)) none pos) (LS P W (evS P.G C (.raise k))) := by
  obtain ⟨f1, f2, f3, f4⟩ := o.wl.wx.exf k hk
  rw [← o.hK] at f1 f2 f3 f4
  refine (ps_raise o.calm o.tk (pmk_own PySem.F.excBase_ValueError f1 (o.wl.mc k x hx) f2 (raises_own f3 f4) (o.glx hg) (dun_of hd).1)).imp ?_
  intro D σ H ⟨env, h, Dp, re, z, q, l⟩
  exact l.ex _ _ _ _ _ q.2 (.refl H) re z
theorem re_none {K : PySem.W.Frag} {H : Hp} : ∀ {env : PEnv} {σ : St} (i : Nat), RE K H env σ → RE K H (env.set i none) (σ.set i none)
  | _, _, _, .nil => .nil
  | _, _, 0, .cons a b => .cons (fun x e => by cases e) b
  | _, _, i + 1, .cons a b => .cons a (re_none i b)
theorem Cok.tr (o : Cok P F C c lv X sc ow W) {pn : List (Addr × Obj)} {xe : Value → Shared → Prop} {W' : WX} (tk : Takes (X.tr pn xe) W') : Cok P F C c lv (X.tr pn xe) sc ow W' :=
  ⟨o.wl, o.hK, o.hN, o.nd, o.hsc, o.calm, o.st, tk, o.room⟩
theorem StOk.tr (s : StOk X) {pn : List (Addr × Obj)} {xe : Value → Shared → Prop} (hp : PassesOwn (model X.prog X.w) X.A X.env xe) : StOk (X.tr pn xe) := ⟨hp, s.hex, s.hs, s.hf⟩
theorem s_tryAs (o : Cok P F C c lv X sc sc W) (hp : StOk X) {b : Ss} {k i j : Nat} {x n m : Str} {body : List Stmt} {np p1 p2 p3 p4 pos : Pos} (hi : c.N[i]? = some n) (hj : c.N[j]? = some m) (hn : sc.names.lookup n = some .local) (hm : locB sc m = true)
    (hdn : dunB n = true) (hx : c.clN k = some x) (hg : glB sc x = true) (hd : dunB x = true) (hb : ∀ {X : Cx} {W : WX}, Cok P F C c lv X sc sc W → StOk X → PSs X body (LS P W (evSs P.G C b))) :
    PS X (.Try body [.ExceptHandler (some (.Name x np)) (some n) [.Assign [.Name m p1] (.Name n p2) p3] p4] [] [] pos) (LS P W (evS P.G C (.tryAs b k i j))) := by
  have hln : X.env.kindOf n = some .local := by unfold Env.kindOf; rw [o.hsc]; exact hn
  have e : ∀ x, X.env.kindOf x = sc.names.lookup x := fun x => by unfold Env.kindOf; rw [o.hsc]
  refine (ps_try_keep (i := i) (j := j) (c := .ref (P.cls k)) (tb := fun W' => LS P W' (evSs P.G C b)) (Wout := W) hp.hex hp.hs hp.hf (by rw [o.hN]; exact o.nd) (by rw [o.hN]; exact hi) (by rw [o.hN]; exact hj) hln (by rw [o.hsc]; exact loc_of hm)
    (by rw [e]; exact o.st m (loc_of hm)) (by rw [o.hsc]; exact .inl hn) (dun_of hdn).1 (dun_of hdn).2.1 ⟨o.glx hg, (dun_of hd).1, .inl (o.wl.mc k x hx)⟩ o.tk fun W' pn xe tk hpo => hb (o.tr tk) (hp.tr hpo)).imp ?_
  intro D σ H ⟨env, h, Dp, re, z, q, l⟩
  refine ⟨env, h, _, re, z, q, ⟨l.nx, l.rt, l.bk, l.ct, fun d env' h' σ' H' q' e' re' z' => ?_⟩⟩
  refine ⟨rfl, ?_⟩
  dsimp only at q'
  cases ex : P.G.exm d k with
  | none => rw [ex] at q'; exact q'.elim
  | some b =>
    rw [ex] at q'
    refine ⟨b, by rw [o.hK]; exact o.wl.wx.xm d k b ex, fun hb => ?_, fun hb => ?_⟩
    · subst hb
      refine ⟨q'.1, fun a na => ?_⟩
      have x1 : Ext H' (upd H' a (ExV (.ref (P.cls d)) a)) := .new na
      have z1 : HR P (pup h' a (.exc d)) (upd H' a (ExV (.ref (P.cls d)) a)) := z'.upd x1 (by exact upd_same)
      exact l.nx _ _ _ _ (q'.2 a (z'.free na)) (e'.trans x1) (re_none i (((re'.ext x1).put (.loc a) i).put (.loc a) j)) z1
    · subst hb
      exact l.ex _ _ _ _ _ q' e' re' z'
theorem s_tryO (o : Cok P F C c lv X sc sc W) (hp : StOk X) {b : Ss} {k i : Nat} {v : Option Bool} {x m : Str} {w : Expr} {body : List Stmt} {np p1 p3 p4 pos : Pos} (hv : cstE v w = true) (hi : c.N[i]? = some m) (hm : locB sc m = true)
    (hx : c.clN k = some x) (hg : glB sc x = true) (hd : dunB x = true) (hb : ∀ {X : Cx} {W : WX}, Cok P F C c lv X sc sc W → StOk X → PSs X body (LS P W (evSs P.G C b))) :
    PS X (.Try body [.ExceptHandler (some (.Name x np)) none [.Assign [.Name m p1] w p3] p4] [] [] pos) (LS P W (evS P.G C (.tryO b k i v))) := by
  have e : ∀ x, X.env.kindOf x = sc.names.lookup x := fun x => by unfold Env.kindOf; rw [o.hsc]
  have su : ∃ (cv : V), (∀ (H : Hp), RP P.K H (cstP v) cv) ∧ ∀ (Y : Cx), Y.N = X.N → Y.env = X.env → Y.fn = X.fn → PS Y (.Assign [.Name m p1] w p3) (fun D σ H => D.nx (σ.set i (some cv)) H) := by
    have hN : X.N[i]? = some m := by rw [o.hN]; exact hi
    have nd : X.N.Nodup := by rw [o.hN]; exact o.nd
    have hl : L2.Loc X.env.scope m := by rw [o.hsc]; exact loc_of hm
    have hf : X.fn m = true ∨ X.env.scope.names.lookup m = some .local := by
      have := o.st m (loc_of hm)
      rw [o.hsc]
      exact this
    unfold cstE at hv
    split at hv
    · exact ⟨.non, fun H => .non, fun Y e1 e2 e3 => ps_set (X := Y) (by rw [e1]; exact nd) (by rw [e1]; exact hN) (by rw [e2]; exact hl) pe_non rfl (by rw [e2, e3]; exact hf)⟩
    · rename_i b d _ _
      have : b = d := by simpa using hv
      subst this
      exact ⟨.bl b, fun H => .bl b, fun Y e1 e2 e3 => ps_set (X := Y) (by rw [e1]; exact nd) (by rw [e1]; exact hN) (by rw [e2]; exact hl) pe_bl rfl (by rw [e2, e3]; exact hf)⟩
    · cases hv
  obtain ⟨cv, rc, su⟩ := su
  refine (ps_try_only (c := .ref (P.cls k)) (tb := fun W' => LS P W' (evSs P.G C b)) (ts := fun _ _ _ D σ H => D.nx (σ.set i (some cv)) H) (Wout := W) hp.hs hp.hf ⟨o.glx hg, (dun_of hd).1, .inl (o.wl.mc k x hx)⟩ o.tk (fun W' pn xe tk hpo => hb (o.tr tk) (hp.tr hpo))
    fun a oe cls d pn _ _ => pss_one (su _ rfl rfl rfl)).imp ?_
  intro D σ H ⟨env, h, Dp, re, z, q, l⟩
  refine ⟨env, h, _, re, z, q, ⟨l.nx, l.rt, l.bk, l.ct, fun d env' h' σ' H' q' e' re' z' => ?_⟩⟩
  dsimp only at q'
  cases ex : P.G.exm d k with
  | none => rw [ex] at q'; exact q'.elim
  | some b =>
    rw [ex] at q'
    refine ⟨b, by rw [o.hK]; exact o.wl.wx.xm d k b ex, fun hb a na => ?_, fun hb => ?_⟩
    · subst hb
      exact l.nx _ _ _ _ q' e' (re'.put (rc _) i) z'
    · subst hb
      exact l.ex _ _ _ _ _ q' e' re' z'
end
section
variable {P : Pm} {F : FT} {C : CallS} {c : Ct} {lv : Nat}
mutual
theorem sS : ∀ (s : S) (sc : Scope) (x : Stmt), chkS c s sc x = true → ∀ {X : Cx} {W : WX}, Cok P F C c lv X sc sc W → StOk X → PS X x (LS P W (evS P.G C s))
  | .skip, sc, x, h, X, W, o, hp => by
    cases x with
    | Pass => exact ps_pass.imp fun D σ H ⟨env, h, Dp, re, z, q, l⟩ => l.nx _ _ _ _ q (.refl H) re z
    | Expr e pos =>
      cases e with
      | Constant k j p =>
        cases k with
        | str s => exact ps_doc.imp fun D σ H ⟨env, h, Dp, re, z, q, l⟩ => l.nx _ _ _ _ q (.refl H) re z
        | _ => exact absurd h Bool.false_ne_true
      | _ => exact absurd h Bool.false_ne_true
    | _ => exact absurd h Bool.false_ne_true
  | .brk, sc, x, h, X, W, o, hp => by
    cases x with
    | Break => exact ps_break.imp fun D σ H ⟨env, h, Dp, re, z, q, l⟩ => l.bk _ _ _ _ q (.refl H) re z
    | _ => exact absurd h Bool.false_ne_true
  | .cont, sc, x, h, X, W, o, hp => by
    cases x with
    | Continue => exact ps_continue.imp fun D σ H ⟨env, h, Dp, re, z, q, l⟩ => l.ct _ _ _ _ q (.refl H) re z
    | _ => exact absurd h Bool.false_ne_true
  | .expr e, sc, x, h, X, W, o, hp => by
    cases x with
    | Expr y pos =>
      simp only [chkS, Bool.and_eq_true] at h
      exact s_expr o (sE e sc sc y h.2 o) h.1.1 h.1.2
    | _ => exact absurd h Bool.false_ne_true
  | .ret e, sc, x, h, X, W, o, hp => by
    cases x with
    | Return y pos =>
      cases y with
      | some y =>
        simp only [chkS, Bool.and_eq_true] at h
        exact s_ret o (sE e sc sc y h.2 o)
      | none => exact absurd h Bool.false_ne_true
    | _ => exact absurd h Bool.false_ne_true
  | .retN, sc, x, h, X, W, o, hp => by
    cases x with
    | Return y pos =>
      cases y with
      | some y => exact absurd h Bool.false_ne_true
      | none => exact s_retN
    | _ => exact absurd h Bool.false_ne_true
  | .set i e, sc, x, h, X, W, o, hp => by
    cases x with
    | Assign ts v pos =>
      match ts, h with
      | [.Name y p], h =>
        simp only [chkS, Bool.and_eq_true] at h
        obtain ⟨⟨⟨⟨h1, h2⟩, h3⟩, h4⟩, h5⟩ := h
        exact s_set o (sE e sc sc v h5 o) h3 h4 (at_get h1) h2 (loc_of h2)
    | _ => exact absurd h Bool.false_ne_true
  | .setC i e, sc, x, h, X, W, o, hp => by
    cases e with
    | comp elt t it ifs ws =>
      cases x with
      | Assign ts v pos =>
        cases ts with
        | nil => exact absurd h Bool.false_ne_true
        | cons a as =>
          cases a with
          | Name y p =>
            cases as with
            | cons _ _ => exact absurd h Bool.false_ne_true
            | nil =>
              cases v with
              | ListComp el gs scope lp =>
                simp only [chkS, Bool.and_eq_true, decide_eq_true_eq, Bool.not_eq_true'] at h
                obtain ⟨⟨⟨⟨g1, g2⟩, g3⟩, g4⟩, h⟩ := h
                match gs, h with
                | [⟨tg, iter, fs, k⟩], h =>
                  simp only [chkE, Bool.and_eq_true, decide_eq_true_eq] at h
                  obtain ⟨⟨⟨⟨⟨⟨⟨h0, h1⟩, h2⟩, h3⟩, h4⟩, h5⟩, h6⟩, h7⟩ := h
                  subst h0
                  exact s_asgN o (p_setComp o h1 h7 (sI it sc sc tg iter h3 o) (i_set (P := P) (F := F) (C := C) (lv := lv) it sc tg iter h3 _) (fun o' => sT o' t tg h4) (fun o' => sBs ifs _ _ fs h5 o') (fun o' => sE elt _ _ el h6 o') (at_get g1) g2 g3 g4)
                | [], h => simp [chkE] at h
                | _ :: _ :: _, h => simp [chkE] at h
              | _ => exact absurd h Bool.false_ne_true
          | _ => exact absurd h Bool.false_ne_true
      | _ => exact absurd h Bool.false_ne_true
    | _ => exact absurd h (by cases x <;> simp [chkS])
  | .setT ts e, sc, x, h, X, W, o, hp => by
    cases x with
    | Assign us v pos =>
      match us, h with
      | [.Tuple xs k p], h =>
        simp only [chkS, Bool.and_eq_true] at h
        obtain ⟨⟨⟨⟨h1, h2⟩, h3⟩, h4⟩, h5⟩ := h
        exact s_setT o (sE e sc sc v h5 o) h2 h3 h4 (sT o (.tup ts) _ h1)
    | _ => exact absurd h Bool.false_ne_true
  | .setL ts e, sc, x, h, X, W, o, hp => by
    cases x with
    | Assign us v pos =>
      match us, h with
      | [.Tuple xs k p], h =>
        simp only [chkS, Bool.and_eq_true] at h
        obtain ⟨⟨⟨⟨h1, h2⟩, h3⟩, h4⟩, h5⟩ := h
        exact s_setL o (sE e sc sc v h5 o) h2 h3 h4 h1
    | _ => exact absurd h Bool.false_ne_true
  | .par _ _ _ _, sc, x, h, X, W, o, hp => by cases x <;> exact absurd h Bool.false_ne_true
  | .aug i op e, sc, x, h, X, W, o, hp => by
    cases x with
    | AugAssign tg q v pos =>
      cases tg with
      | Name y p =>
        simp only [chkS, Bool.and_eq_true, decide_eq_true_eq] at h
        obtain ⟨⟨⟨⟨h1, h2⟩, h3⟩, h4⟩, h5⟩ := h
        rw [h3]
        exact s_aug o (sE e sc sc v h5 o) (at_get h1) h2 (loc_of h2)
      | _ => exact absurd h Bool.false_ne_true
    | _ => exact absurd h Bool.false_ne_true
  | .fldSet ob f e, sc, x, h, X, W, o, hp => by
    cases x with
    | Assign us v pos =>
      match us, h with
      | [.Attribute y s p], h =>
        simp only [chkS, Bool.and_eq_true] at h
        obtain ⟨⟨⟨⟨h1, h2⟩, h3⟩, h4⟩, h5⟩ := h
        exact s_fldSet o (sE ob sc sc y h4 o) (sE e sc sc v h5 o) h2 (by rw [← o.wl.hG]; exact at_get h3)
    | _ => exact absurd h Bool.false_ne_true
  | .fldAug ob f op e, sc, x, h, X, W, o, hp => by
    cases x with
    | AugAssign tg q v pos =>
      cases tg with
      | Attribute y s p =>
        simp only [chkS, Bool.and_eq_true, decide_eq_true_eq] at h
        obtain ⟨⟨⟨⟨⟨h1, h2⟩, h3⟩, h4⟩, h5⟩, h6⟩ := h
        rw [h4]
        exact s_fldAug o (sE ob sc sc y h5 o) (sE e sc sc v h6 o) (by rw [← o.wl.hG]; exact at_get h3)
      | _ => exact absurd h Bool.false_ne_true
    | _ => exact absurd h Bool.false_ne_true
  | .subSet ob i e, sc, x, h, X, W, o, hp => by
    cases x with
    | Assign us v pos =>
      match us, h with
      | [.Subscript y j p], h =>
        simp only [chkS, Bool.and_eq_true] at h
        obtain ⟨⟨⟨⟨⟨h1, h2⟩, h3⟩, h4⟩, h5⟩, h6⟩ := h
        exact s_subSet o (sE ob sc sc y h4 o) (sE i sc sc j h5 o) (sE e sc sc v h6 o) h3 h2
    | _ => exact absurd h Bool.false_ne_true
  | .subAug ob i op e, sc, x, h, X, W, o, hp => by
    cases x with
    | AugAssign tg q v pos =>
      cases tg with
      | Subscript y j p =>
        simp only [chkS, Bool.and_eq_true, decide_eq_true_eq] at h
        obtain ⟨⟨⟨⟨⟨⟨h1, h2⟩, h3⟩, h4⟩, h5⟩, h6⟩, h7⟩ := h
        rw [h4]
        exact s_subAug o (sE ob sc sc y h5 o) (sE i sc sc j h6 o) (sE e sc sc v h7 o) h2
      | _ => exact absurd h Bool.false_ne_true
    | _ => exact absurd h Bool.false_ne_true
  | .ite d a b, sc, x, h, X, W, o, hp => by
    cases x with
    | If t x y pos =>
      simp only [chkS, Bool.and_eq_true] at h
      exact s_if o (sB d sc sc t h.1.1 o) (sSs a sc x h.1.2 o hp) (sSs b sc y h.2 o hp)
    | _ => exact absurd h Bool.false_ne_true
  | .raise k, sc, x, h, X, W, o, hp => by
    cases x with
    | Raise a b pos =>
      cases a with
      | none => exact absurd h Bool.false_ne_true
      | some e =>
        cases b with
        | some _ => exact absurd h Bool.false_ne_true
        | none =>
          simp only [chkS] at h
          split at h
          · rename_i x ex
            simp only [Bool.and_eq_true] at h
            obtain ⟨⟨⟨h1, h2⟩, h3⟩, h4⟩ := h
            obtain ⟨p, m, j, p2, pos2, rfl⟩ := rsX_eq ex
            exact s_raise o (opt_get h1) h2 h3 (by rw [← o.wl.hG]; exact h4)
          · cases h
    | _ => exact absurd h Bool.false_ne_true
  | .tryAs b k i j, sc, x, h, X, W, o, hp => by
    cases x with
    | Try body hs orelse fin pos =>
      cases orelse with
      | cons _ _ => exact absurd h Bool.false_ne_true
      | nil =>
        cases fin with
        | cons _ _ => exact absurd h Bool.false_ne_true
        | nil =>
          simp only [chkS, Bool.and_eq_true] at h
          obtain ⟨h, hb⟩ := h
          split at h
          · rename_i x n m n2 ex
            simp only [Bool.and_eq_true, decide_eq_true_eq] at h
            obtain ⟨⟨⟨⟨⟨⟨h1, h2⟩, h3⟩, h4⟩, h5⟩, h6⟩, h7, h8⟩ := h
            subst h1
            obtain ⟨np, p1, p2, p3, p4, rfl⟩ := asH_eq ex
            exact s_tryAs o hp (at_get h2) (at_get h3) h4 h5 h6 (opt_get h7.1) h7.2 h8 fun o' hp' => sSs b sc body hb o' hp'
          · cases h
    | _ => exact absurd h Bool.false_ne_true
  | .tryO b k i v, sc, x, h, X, W, o, hp => by
    cases x with
    | Try body hs orelse fin pos =>
      cases orelse with
      | cons _ _ => exact absurd h Bool.false_ne_true
      | nil =>
        cases fin with
        | cons _ _ => exact absurd h Bool.false_ne_true
        | nil =>
          simp only [chkS, Bool.and_eq_true] at h
          obtain ⟨h, hb⟩ := h
          split at h
          · rename_i x m w ex
            simp only [Bool.and_eq_true] at h
            obtain ⟨⟨⟨h1, h2⟩, h3⟩, h7, h8⟩ := h
            obtain ⟨np, p1, p3, p4, rfl⟩ := onH_eq ex
            exact s_tryO o hp h1 (at_get h2) h3 (opt_get h7.1) h7.2 h8 fun o' hp' => sSs b sc body hb o' hp'
          · cases h
    | _ => exact absurd h Bool.false_ne_true
  | .while d b, sc, x, h, X, W, o, hp => by
    cases x with
    | While t x y pos =>
      cases y with
      | nil =>
        simp only [chkS, Bool.and_eq_true] at h
        exact s_while o hp.hp (sB d sc sc t h.1 o) (sSs b sc x h.2 o hp)
      | cons _ _ => exact absurd h Bool.false_ne_true
    | _ => exact absurd h Bool.false_ne_true
  | .for t it b, sc, x, h, X, W, o, hp => by
    cases x with
    | For tg iter x y pos =>
      cases y with
      | nil =>
        simp only [chkS, Bool.and_eq_true] at h
        exact s_for o hp.hp (sI it sc sc tg iter h.1.1 o) (i_set (P := P) (F := F) (C := C) (lv := lv) it sc tg iter h.1.1 _) (sT o t tg h.1.2) (sSs b sc x h.2 o hp)
      | cons _ _ => exact absurd h Bool.false_ne_true
    | _ => exact absurd h Bool.false_ne_true
  | .forD t false e b, sc, x, h, X, W, o, hp => by
    cases x with
    | For tg iter x y pos =>
      cases y with
      | nil =>
        have h : (okE iter && noLc iter && chkE c e sc iter && chkT c t sc sc tg && chkSs c b sc x) = true := h
        simp only [Bool.and_eq_true] at h
        obtain ⟨⟨⟨⟨h1, h2⟩, h3⟩, h4⟩, h5⟩ := h
        exact s_forD o hp.hp (pi_keys (sE e sc sc iter h3 o)) (fun σ H R ⟨env, h, Qp, Xp, re, z, q, l, lx⟩ => ⟨env, h, Qp, Xp, re, z, q, fun a b c d q e r z => by
          obtain ⟨p1, p2, p3, p4, p5, p6⟩ := l a b c d q e r z
          exact ⟨p1, p2, p4, .inl ⟨p3, p5, p6⟩⟩, lx⟩) (ok_set h1 _) (sT o t tg h4) (sSs b sc x h5 o hp)
      | cons _ _ => exact absurd h Bool.false_ne_true
    | _ => exact absurd h Bool.false_ne_true
  | .forD t true e b, sc, x, h, X, W, o, hp => by
    cases x with
    | For tg iter x y pos =>
      match tg, iter, y, h with
      | .Tuple xs k p, .Call (.Attribute ob s apos) [] [] cpos, [], h =>
        simp only [chkS, Bool.and_eq_true, decide_eq_true_eq] at h
        obtain ⟨⟨⟨⟨⟨h1, h2⟩, h3⟩, h4⟩, h5⟩, h6⟩ := h
        subst h2
        exact s_forD o hp.hp (pi_items (sE e sc sc ob h4 o) (ok_base h1 _ _) h3) (fun σ H R q => q) (fun _ => rfl) (sT o t _ h5) (sSs b sc x h6 o hp)
    | _ => exact absurd h Bool.false_ne_true
theorem sSs : ∀ (s : Ss) (sc : Scope) (x : List Stmt), chkSs c s sc x = true → ∀ {X : Cx} {W : WX}, Cok P F C c lv X sc sc W → StOk X → PSs X x (LS P W (evSs P.G C s))
  | .nil, sc, [], h, X, W, o, hp => pss_ls_nil
  | .nil, sc, _ :: _, h, X, W, o, hp => absurd h Bool.false_ne_true
  | .cons s ss, sc, [], h, X, W, o, hp => absurd h Bool.false_ne_true
  | .cons s ss, sc, x :: xs, h, X, W, o, hp => by
    simp only [chkSs, Bool.and_eq_true] at h
    exact pss_ls_cons (ea := evS P.G C s) (eb := evSs P.G C ss) (sS s sc x h.1 o hp) (sSs ss sc xs h.2 o hp)
end
end
end
end Mir

set_option autoImplicit false
namespace Mir
open PySem L2 PySem.Spec
open PyProof.Rows hiding St

/-! ## the table of the defs -/
/-- what a def does, n calls deep; behind it less may be told of the heap -/
def sem (G : Sig) : Nat → CallS
  | 0 => fun _ _ _ _ _ => False
  | n + 1 => fun f vs h Q X => ∃ d, G.fn f = some d ∧ vs.length = d.np ∧ evSs G (sem G n) d.body (vs.map some ++ List.replicate (d.ns - d.np) none) h
      ⟨fun _ h1 => ∃ h2, PLe h2 h1 ∧ Q .non h2, fun v h1 => ∃ h2, PLe h2 h1 ∧ Q v h2, fun _ _ => False, fun _ _ => False, fun c _ h1 => ∃ h2, PLe h2 h1 ∧ X c h2⟩
theorem funD_of {K : PySem.W.Frag} {x qual : Str} {st : Stmt} {f : Addr} {fd : FuncData} (F : Fun K x qual st f fd) : FunD K x qual (defArgs st) (defBody st) (defScope st) [] [] f fd := by
  obtain ⟨oc, od, kV, doc, pm, an, cdv, ct, osl, e, l, c⟩ := F.ex
  exact ⟨⟨oc, od, .none, kV, doc, pm, an, cdv, ct, osl, e, l, c, .inl ⟨rfl, rfl⟩, .inl rfl⟩, F.kp⟩
structure DefOk (K : PySem.W.Frag) (F : FT) (c : Ct) (f : Nat) (d : FnI) : Prop where
  ex : ∃ (x qual : Str) (st : Stmt) (N : List Str) (dvs : List V), FunD K x qual (defArgs st) (defBody st) (defScope st) dvs [] (F.fa f) (F.fd f) ∧ FnScope N (F.ps f) (defScope st) ∧ (F.ps f).length = d.np ∧ N.length = d.ns ∧ chkSs { c with N := N } d.body (defScope st) (defBody st) = true
  bd : ∀ n, n ≤ d.np → d.np - n ≤ d.dflt.length → ∃ (ds : List Value) (dv : List V), Binds K (F.fd f) (F.ps f) ds ∧ Vals dv ds ∧ ∀ H, RPs K H (d.dflt.drop (d.dflt.length - (d.np - n))) dv
/-- a def with defaults: its values in K, and what they stand for -/
theorem def_okD {K : PySem.W.Frag} {F : FT} {c : Ct} {f : Nat} {d : FnI} {x qual : Str} {st : Stmt} {N : List Str} {dvs : List V} (Fd : FunD K x qual (defArgs st) (defBody st) (defScope st) dvs [] (F.fa f) (F.fd f))
    (S : FnScope N (F.ps f) (defScope st)) (h1 : (F.ps f).length = d.np) (h2 : N.length = d.ns) (h3 : chkSs { c with N := N } d.body (defScope st) (defBody st) = true)
    (b : ∀ n, n ≤ d.np → d.np - n ≤ d.dflt.length → ∃ ds, Vals (dvs.drop (d.dflt.length - (d.np - n))) ds ∧ Binds K (F.fd f) (F.ps f) ds)
    (r : ∀ H, RPs K H d.dflt dvs) : DefOk K F c f d :=
  ⟨⟨x, qual, st, N, dvs, Fd, S, h1, h2, h3⟩, fun n h4 h5 => by
    obtain ⟨ds, e1, e2⟩ := b n h4 h5
    exact ⟨ds, _, e2, e1, fun H => (r H).drop _⟩⟩
/-- what the top has left, and how the text is read -/
structure Wst (P : Pm) (F : FT) (c : Ct) (mg : Str → Option Value) : Prop where
  hG : c.G = P.G
  df : ∀ f d, P.G.fn f = some d → DefOk P.K F c f d
  mf : ∀ f x, c.fnN f = some x → mg x = some (.ref (F.fa f)) ∧ PySem.W.keepIn P.K (.ref (F.fa f)) = true
  mc : ∀ k x, c.clN k = some x → mg x = some (.ref (P.cls k))
  mks : ∀ k f, P.G.ini k = some f → Mk P.K (P.cls k) (F.fa f)
  cl : ∀ k f, P.G.fl k f = true → Cls P.K (P.cls k)
  na : ∀ k f s, P.G.fl k f = true → P.G.nm[f]? = some s → NoAttr P.K (P.cls k) s
  me : ∀ k m f s, P.G.me k m = some f → P.G.nm[m]? = some s → Cls P.K (P.cls k) ∧ Meth P.K (P.cls k) s (F.fa f)
  nd : P.G.nm.Nodup
  bn : ∀ x ∈ c.bls, mg x = none
  gl : ∀ g x v, P.G.gl g = some v → P.G.nm[g]? = some x → ∃ u w, mg x = some u ∧ RelV w u ∧ ∀ H, RP P.K H v w
  wx : Wex P
theorem re_start {K : PySem.W.Frag} {H : Hp} : ∀ {ps : List PV} {vs : List V} (n : Nat), RPs K H ps vs → RE K H (ps.map some ++ List.replicate n none) (vs.map some ++ List.replicate n none)
  | _, _, 0, .nil => .nil
  | _, _, n + 1, .nil => .cons (fun x e => by cases e) (re_start n .nil)
  | _, _, n, .cons r t => .cons (fun x e => by cases e; exact ⟨_, rfl, r⟩) (re_start n t)
theorem Wld.names {P : Pm} {F : FT} {C : CallS} {c : Ct} {lv : Nat} {mg : Str → Option Value} {prog : Program} {w : World} {base : Heap} (wl : Wld P F C c lv mg prog w base) (N : List Str) : Wld P F C { c with N := N } lv mg prog w base :=
  ⟨wl.hG, wl.fn, wl.len, wl.bd, wl.mf, wl.mc, wl.mks, wl.cl, wl.na, wl.me, wl.nd, wl.bn, wl.gl, wl.wx⟩
theorem wld_of {P : Pm} {F : FT} {c : Ct} {mg : Str → Option Value} {prog : Program} {w : World} {base : Heap} (S : Wst P F c mg) : ∀ n, Wld P F (sem P.G n) c (2 * n) mg prog w base
  | 0 => ⟨S.hG, fun f d e => ⟨fun vs H Q E ⟨ps, h, Qp, Xp, _, _, q, _⟩ => q.elim, fun A outer s H args us vs Q E _ _ _ _ ⟨ps, h, Qp, Xp, _, _, q, _⟩ => q.elim⟩, fun f vs h Q X q => q.elim, fun f d n e => (S.df f d e).bd n, S.mf, S.mc, S.mks, S.cl, S.na, S.me, S.nd, S.bn, S.gl, S.wx⟩
  | n + 1 => by
    have ih := wld_of (prog := prog) (w := w) (base := base) S n
    refine ⟨S.hG, fun f d e => ?_, fun f vs h Q X ⟨d, e, hl, q⟩ => ?_, fun f d n e => (S.df f d e).bd n, S.mf, S.mc, S.mks, S.cl, S.na, S.me, S.nd, S.bn, S.gl, S.wx⟩
    · obtain ⟨x, qual, st, N, dvs, Fn, sco, h1, h2, h3⟩ := (S.df f d e).ex
      refine Fn.ok (k := 2 * n + 1) sco (fun vs H Q E ⟨ps, h, Qp, Xp, rp, z, ⟨d', e', hl, q⟩, l, lx⟩ => ?_) (fun cdv A outer s H vs Q E hr ⟨ps, h, Qp, Xp, rp, z, ⟨d', e', hl, q⟩, l, lx⟩ => ?_)
      · rw [e] at e'; cases e'
        rw [← rp.length, hl, h1]
      · rw [e] at e'; cases e'
        have tk : Takes (cxOf (L2.CX prog w) prog w P.K mg base N qual (defScope st) (F.fa f) cdv A outer s H E) (fun cls d _ H => E cls d H) := takes_of rfl rfl rfl rfl
        have o : Cok P F (sem P.G n) { c with N := N } (2 * n) (cxOf (L2.CX prog w) prog w P.K mg base N qual (defScope st) (F.fa f) cdv A outer s H E) (defScope st) (defScope st) (fun cls d _ H => E cls d H) :=
          ⟨ih.names N, rfl, rfl, sco.nd, rfl, rfl, fun _ _ => .inl rfl, tk, hr⟩
        refine ⟨_, sSs d.body (defScope st) (defBody st) h3 o ⟨passes_of rfl, rfl, rfl, rfl⟩, _, h, _, ?_, z, q, ?_⟩
        · unfold L2.start
          rw [← rp.length, hl, h2]
          exact re_start _ rp
        · refine ⟨fun env h' σ' H' ⟨h2, le, q⟩ e re z => ?_, fun pr h' v H' ⟨h2, le, q⟩ e r z => ?_, fun _ _ _ _ q => q.elim, fun _ _ _ _ q => q.elim, fun k env h' σ' H' ⟨h2, le, q⟩ e re z => ?_⟩
          · exact l _ _ _ _ q e .non (z.le le)
          · exact l _ _ _ _ q e r (z.le le)
          · exact lx _ _ _ q e (z.le le)
    · obtain ⟨x, qual, st, N, dvs, Fn, sco, h1, h2, h3⟩ := (S.df f d e).ex
      exact ⟨d, e, hl, h1⟩
/-- the law's def: it tells True of the script -/
theorem law_fn {P : Pm} {F : FT} {c : Ct} {mg : Str → Option Value} {prog : Program} {w : World} {base : Heap} (S : Wst P F c mg) (n f : Nat) (d : FnI) (e : P.G.fn f = some d) :
    FnOk prog w P.K mg base (L2.CX prog w) (2 * n) (F.fa f) (F.fd f) (F.ps f) (lsp P (sem P.G n) f) := (wld_of S n).fn f d e
theorem lat_of {K : PySem.W.Frag} {H : Hp} {a : Addr} {vs : List V} (o : Only H) (h : SqL K H a vs) : LAt K H a vs := by
  rcases h with h | h
  · rcases o a with z | ⟨ob, xs, z⟩
    · rcases h with ⟨h⟩ | ⟨ob, h⟩ <;> (rw [z] at h; cases h)
    · rcases h with h | ⟨ob', h⟩
      · rw [z] at h; cases h
      · exact .inl ⟨ob', h⟩
  · exact .inr h
def inOf {α : Type} (l : List (Nat × α)) (k : Nat) : Option α := l.lookup k
def meOf (l : List (Nat × Nat × Nat)) (k m : Nat) : Option Nat := (l.find? fun t => decide (t.1 = k ∧ t.2.1 = m)).map (·.2.2)
def twOf (l : List (Nat × Nat × Bool)) (d k : Nat) : Option Bool := (l.find? fun t => decide (t.1 = d ∧ t.2.1 = k)).map (·.2.2)
theorem twOf_mem {l : List (Nat × Nat × Bool)} {d k : Nat} {b : Bool} (e : twOf l d k = some b) : (d, k, b) ∈ l := by
  unfold twOf at e
  cases z : l.find? fun t => decide (t.1 = d ∧ t.2.1 = k) with
  | none => rw [z] at e; cases e
  | some t =>
    rw [z] at e
    cases e
    have h0 := List.find?_some z
    have h1 : t.1 = d ∧ t.2.1 = k := of_decide_eq_true h0
    have h2 := List.mem_of_find?_eq_some z
    obtain ⟨a, b, c⟩ := t
    obtain ⟨rfl, rfl⟩ := h1
    exact h2
theorem inOf_mem {α : Type} : ∀ {l : List (Nat × α)} {k : Nat} {x : α}, inOf l k = some x → (k, x) ∈ l
  | (a, b) :: l, k, x, e => by
    unfold inOf at e
    rw [List.lookup_cons] at e
    split at e
    · rename_i z
      have := beq_iff_eq.mp z
      cases e
      subst this
      exact List.mem_cons_self
    · exact List.mem_cons_of_mem _ (inOf_mem e)
theorem meOf_mem {l : List (Nat × Nat × Nat)} {k m f : Nat} (e : meOf l k m = some f) : (k, m, f) ∈ l := by
  unfold meOf at e
  cases z : l.find? fun t => decide (t.1 = k ∧ t.2.1 = m) with
  | none => rw [z] at e; cases e
  | some t =>
    rw [z] at e
    cases e
    have h0 := List.find?_some z
    have h1 : t.1 = k ∧ t.2.1 = m := of_decide_eq_true h0
    have h2 := List.mem_of_find?_eq_some z
    obtain ⟨a, b, c⟩ := t
    obtain ⟨rfl, rfl⟩ := h1
    exact h2
section
variable {K : PySem.W.Frag} {C D : Addr} {b : Bool}
theorem cls_some (h : PySem.W.isClsIn K C = true) (ht : PySem.W.typeIn K (.ref C) = some (.type "type")) : ((PySem.W.clsIn K C).isSome && PySem.W.typeIn K (.ref C) == some (.type "type")) = true := by
  have h' : (PySem.W.clsIn K C).isSome = true := h
  rw [h', ht] <;> rfl
theorem exm_of (h1 : PySem.W.subIn K (.ref C) (.type "BaseException") = some true) (h2 : PySem.W.isClsIn K C = true) (h3 : PySem.W.typeIn K (.ref C) = some (.type "type")) (h4 : PySem.W.subIn K (.ref D) (.ref C) = some b) : PySem.W.exmOne K (.ref D) (.ref C) = some b := by
  have e1 : (PySem.W.subIn K (.ref C) (.type "BaseException") == some true) = true := by rw [h1] <;> rfl
  show (if (PySem.W.subIn K (.ref C) (.type "BaseException") == some true) = true then (if ((PySem.W.clsIn K C).isSome && PySem.W.typeIn K (.ref C) == some (.type "type")) = true then PySem.W.subIn K (.ref D) (.ref C) else none) else none) = some b
  rw [if_pos e1, if_pos (cls_some h2 h3)]
  exact h4
theorem kit_any (h2 : PySem.W.isClsIn K C = true) (h3 : PySem.W.typeIn K (.ref C) = some (.type "type")) {t : Value} (h4 : PySem.W.subIn K t (.ref C) = some b) : PySem.W.kitCls K t (.ref C) = some b := by
  show (if ((PySem.W.clsIn K C).isSome && PySem.W.typeIn K (.ref C) == some (.type "type")) = true then PySem.W.subIn K t (.ref C) else none) = some b
  rw [if_pos (cls_some h2 h3)]
  exact h4
theorem kit_ofT (h2 : PySem.W.isClsIn K C = true) (h3 : PySem.W.typeIn K (.ref C) = some (.type "type")) (_ : PySem.W.subIn K (.ref C) (.ref C) = some true) (h4 : PySem.W.subIn K (.ref D) (.ref C) = some true) : PySem.W.kitOne K (.ref D) (.ref C) = some true := by
  unfold PySem.W.kitOne
  split
  · rfl
  · exact kit_any h2 h3 h4
theorem kit_ofF (h2 : PySem.W.isClsIn K C = true) (h3 : PySem.W.typeIn K (.ref C) = some (.type "type")) (hs : PySem.W.subIn K (.ref C) (.ref C) = some true) (h4 : PySem.W.subIn K (.ref D) (.ref C) = some false) : PySem.W.kitOne K (.ref D) (.ref C) = some false := by
  unfold PySem.W.kitOne
  split
  · rename_i z
    have e : Value.ref D = Value.ref C := beq_iff_eq.mp z
    rw [e, hs] at h4
    cases h4
  · exact kit_any h2 h3 h4
theorem kit_str (h2 : PySem.W.isClsIn K C = true) (h3 : PySem.W.typeIn K (.ref C) = some (.type "type")) : PySem.W.kitOne K (.type "str") (.ref C) = some false := by
  unfold PySem.W.kitOne
  rw [if_neg (by intro z; have := beq_iff_eq.mp z; cases this)]
  refine kit_any h2 h3 ?_
  have e : PySem.fastBuiltinMro "str" = some [.type "str", .type "object"] := by decide +kernel
  show (PySem.fastBuiltinMro "str").map (·.contains (Value.ref C)) = some false
  rw [e]
  show some (List.contains [Value.type "str", Value.type "object"] (Value.ref C)) = some false
  congr 1
theorem kit_none (h2 : PySem.W.isClsIn K C = true) (h3 : PySem.W.typeIn K (.ref C) = some (.type "type")) : PySem.W.kitOne K (.type "NoneType") (.ref C) = some false := by
  unfold PySem.W.kitOne
  rw [if_neg (by intro z; have := beq_iff_eq.mp z; cases this)]
  refine kit_any h2 h3 ?_
  have e : PySem.fastBuiltinMro "NoneType" = some [.type "NoneType", .type "object"] := by decide +kernel
  show (PySem.fastBuiltinMro "NoneType").map (·.contains (Value.ref C)) = some false
  rw [e]
  show some (List.contains [Value.type "NoneType", Value.type "object"] (Value.ref C)) = some false
  congr 1
theorem kit_zero (h2 : PySem.W.isClsIn K C = true) (h3 : PySem.W.typeIn K (.ref C) = some (.type "type")) : PySem.W.kitOne K (.type "NoneType") (.ref C) = some false ∧ PySem.W.kitOne K (.type "str") (.ref C) = some false := ⟨kit_none h2 h3, kit_str h2 h3⟩
theorem kit_val (h : PySem.W.subIn K (.ref D) (.type "ValueError") = some true) : PySem.W.kitOne K (.ref D) (.type "ValueError") = some true := by
  unfold PySem.W.kitOne
  split
  · rfl
  · show (if PySem.W.kitMeta "ValueError" = true then PySem.W.subIn K (.ref D) (.type "ValueError") else none) = some true
    rw [if_pos (by decide +kernel)]
    exact h
end
/-- the law's promise of the script -/
def spT (K : PySem.W.Frag) : Sp := fun vs H Q _ => ∃ (a : Addr) (ns : List Int), vs = [.ref a] ∧ Only H ∧ SqL K H a (ns.map V.int) ∧ ns.length ≤ 63 ∧ ∀ H', Q (.bl true) H'
theorem law_end {P : Pm} {prog : Program} {w : World} {mg : Str → Option Value} {base : Heap} {n k f : Nat} {fa : Addr} {fd : FuncData} {ps : List Str} (F : FnOk prog w P.K mg base (L2.CX prog w) k fa fd ps (lsp P (sem P.G n) f))
    (hp : ∀ ns : List Int, ns.length ≤ 63 → sem P.G n f [.fl (ns.map .int)] (fun _ => none) (fun v _ => v = .bl true) (fun _ _ => False)) : FnOk prog w P.K mg base (L2.CX prog w) k fa fd ps (spT P.K) :=
  F.imp fun vs H Q E ⟨a, ns, e, o, h, hl, q⟩ => by
    subst e
    exact ⟨[.fl (ns.map .int)], fun _ => none, _, _, .cons (.fl (lat_of o h) (RPs.map_int ns)) .nil, (fun a c e => by cases e), hp ns hl, (fun pr h' v H' q' e r z => by subst q'; cases r; exact q H'), fun _ _ _ q => q.elim⟩
theorem def_ok {K : PySem.W.Frag} {F : FT} {c : Ct} {f : Nat} {d : FnI} {x qual : Str} {st : Stmt} {N : List Str} (Fn : Fun K x qual st (F.fa f) (F.fd f)) (S : FnScope N (F.ps f) (defScope st)) (h1 : (F.ps f).length = d.np) (h2 : N.length = d.ns)
    (h3 : chkSs { c with N := N } d.body (defScope st) (defBody st) = true) (b : Binds K (F.fd f) (F.ps f) []) (hd : d.dflt = []) : DefOk K F c f d :=
  ⟨⟨x, qual, st, N, [], funD_of Fn, S, h1, h2, h3⟩, fun n h4 h5 => ⟨[], [], b, .nil, fun H => by rw [hd, List.drop_nil]; exact .nil⟩⟩
/-- the end of a law's row -/
theorem walk {l : PySem.W.OpenLaw} {q : Program} {loose : List Str} {XP : (Str → Option Value) → Heap → Prop} {YP : World → Heap → Prop} {d : DefRec} {K : Params → PySem.W.Frag} {n : Nat} (hn : l.most = some 63) (hdf : d.params.defaults = []) (hr : Room (2 * n) callerA)
    (hY : ∀ (w : World) (h : Heap), YP w h → (K w.params).In h)
    (F : ∀ (w : World) (mg : Str → Option Value) (fa : Addr) (h : Heap), (K w.params).In h → h.Ns mainGlobals mg → mg d.name = some (.ref fa) →
      ∃ fd : FuncData, (∀ (s : Shared) (u : Value), BindsTo s fd ⟨[u], []⟩ [("_law_script", u)]) ∧ ∀ base : Heap, (K w.params).In base → base.Ns mainGlobals mg →
        FnOk l.prog w (K w.params) mg base (L2.CX l.prog w) (2 * n) fa fd ["_law_script"] (spT (K w.params))) :
    PySem.W.WalkO q loose XP YP l.row.toRowW d [] (fun f vs => PySem.call f vs) :=
  L2.walk_of (n := 63) (k := 2 * n) (x := "_law_script") (CX := fun w => L2.CX l.prog w) (sp := fun w => spT (K w.params)) hn (by decide) hdf hr hY F
    (fun w H a ns hl o hS => ⟨a, ns, rfl, o, hS, hl, fun _ => rfl⟩) fun w H s e s' ⟨_, _, _, _, _, _, _, _, _, _, _, _, z⟩ => z
end Mir

set_option autoImplicit false
namespace Mir
open PySem L2 PySem.Spec
open PyProof.Rows hiding St

/-! ## rules for plain laws -/
theorem padD_nil {G : Sig} (hd : ∀ f d, G.fn f = some d → d.dflt = []) (f : Nat) (vs : List PV) : padD G f vs = vs := by
  unfold padD
  split
  · rename_i d e
    rw [hd f d e, List.drop_nil, List.append_nil]
  · rfl
theorem forGo_list {α : Type} {still : PH → Prop} {st : PV → PEnv → (PEnv → Prop) → Prop} {body : PEnv → PH → PD → Prop} {D : PD} {f : α → PV} (I : List α → PEnv → PH → Prop) {as : List α}
    (step : ∀ done a rest env h (K : PEnv → PH → Prop), as = done ++ a :: rest → I done env h → (∀ env' h', I (done ++ [a]) env' h' → K env' h') → still h ∧ st (f a) env fun env' => body env' h { D with nx := K, ct := K, bk := D.nx })
    (fin : ∀ env h, I as env h → still h ∧ D.nx env h) {env : PEnv} {h : PH} (start : I [] env h) : forGo still st body D (as.map f) env h := by
  have go : ∀ (rest done : List α) (env : PEnv) (h : PH), as = done ++ rest → I done env h → forGo still st body D (rest.map f) env h := by
    intro rest
    induction rest with
    | nil =>
      intro done env h e i
      rw [List.append_nil] at e
      subst e
      exact fin env h i
    | cons a rest ih =>
      intro done env h e i
      exact step done a rest env h _ e i fun env' h' i' => ih (done ++ [a]) env' h' (by rw [e]; simp) i'
  exact go as [] env h rfl start
theorem compGo_list {α : Type} {still : PH → Prop} {st : PV → PEnv → (PEnv → Prop) → Prop} {ifs : PEnv → PH → (Bool → PH → Prop) → Prop} {elt : PEnv → PH → QE → Prop} {env : PEnv} {P : Addr} {K : PH → Prop} {f : α → PV} (I : List α → PH → Prop) {as : List α}
    (step : ∀ done a rest h (N : PH → Prop), as = done ++ a :: rest → I done h → (∀ h', I (done ++ [a]) h' → N h') → still h ∧ st (f a) env fun env' => ifs env' h fun b h1 =>
      if b = true then elt env' h1 fun y h2 => match h2 P with
        | some (.lst acc) => acc.length < sizeLine ∧ N (pup h2 P (.lst (acc ++ [y])))
        | _ => False
      else N h1)
    (fin : ∀ h, I as h → still h ∧ K h) {h : PH} (start : I [] h) : compGo still st ifs elt env P K (as.map f) h := by
  have go : ∀ (rest done : List α) (h : PH), as = done ++ rest → I done h → compGo still st ifs elt env P K (rest.map f) h := by
    intro rest
    induction rest with
    | nil =>
      intro done h e i
      rw [List.append_nil] at e
      subst e
      exact fin h i
    | cons a rest ih =>
      intro done h e i
      obtain ⟨s1, s2⟩ := step done a rest h _ e i fun h' i' => ih (done ++ [a]) h' (by rw [e]; simp) i'
      exact ⟨s1, s2⟩
  exact go as [] h rfl start
/-- a comprehension without a test, whose element leaves the heap as it is -/
theorem compGo_map {α : Type} {still : PH → Prop} {st : PV → PEnv → (PEnv → Prop) → Prop} {elt : PEnv → PH → QE → Prop} {env : PEnv} {P : Addr} {K : PH → Prop} {f : α → PV} (g : α → PV) {as : List α} {h : PH} (hl : as.length ≤ sizeLine)
    (hs : ∀ acc, still (pup h P (.lst acc))) (he : ∀ a acc (Q : QE), a ∈ as → Q (g a) (pup h P (.lst acc)) → st (f a) env fun env' => elt env' (pup h P (.lst acc)) Q)
    (q : K (pup h P (.lst (as.map g)))) : compGo still st (fun _ h K => K true h) elt env P K (as.map f) (pup h P (.lst [])) := by
  refine compGo_list (f := f) (as := as) (fun done h' => h' = pup h P (.lst (done.map g))) (fun done a rest h' N e i nx => ?_) (fun h' i => ?_) rfl
  · subst i
    refine ⟨hs _, he a _ _ (by rw [e]; simp) ?_⟩
    rw [pup_same]
    refine ⟨?_, ?_⟩
    · rw [List.length_map]
      rw [e] at hl
      simp at hl
      omega
    · rw [pup_pup]
      exact nx _ (by rw [List.map_append]; rfl)
  · subst i
    exact ⟨hs _, q⟩
/-- ints in a row -/
theorem intsP_map (ns : List Int) : intsP (ns.map .int) = some ns := by
  induction ns with
  | nil => rfl
  | cons n ns ih => simp [intsP, ih]
theorem strsP_map (ns : List Str) : strsP (ns.map .str) = some ns := by
  induction ns with
  | nil => rfl
  | cons n ns ih => simp [strsP, ih]
theorem intsP_strs {n : Str} {ns : List Str} : intsP ((n :: ns).map .str) = none := rfl
/-! ### small steps -/
section
variable {h : PH} {Q : QE} {R : Bool → Prop}
theorem bv_add {i j : Int} : binV .add (.int i) (.int j) h Q = Q (.int (i + j)) h := rfl
theorem bv_sub {i j : Int} : binV .sub (.int i) (.int j) h Q = Q (.int (i - j)) h := rfl
theorem bv_mul {i j : Int} : binV .mul (.int i) (.int j) h Q = (CMulP i j ∧ Q (.int (i * j)) h) := rfl
theorem bv_div {i j : Int} : binV .div (.int i) (.int j) h Q = (CDivP i j ∧ Q (.int (i / j)) h) := rfl
theorem bv_mod {i j : Int} : binV .mod (.int i) (.int j) h Q = (0 < j ∧ Q (.int (i % j)) h) := rfl
theorem bv_pow {i j : Int} : binV .pow (.int i) (.int j) h Q = (CPow i j ∧ Q (.int (i ^ j.toNat)) h) := rfl
theorem bv_str {i j : Str} : binV .add (.str i) (.str j) h Q = (i.length + j.length ≤ sizeLine ∧ Q (.str (i ++ j)) h) := rfl
theorem av_add {i j : Int} : augV .add (.int i) (.int j) h Q = Q (.int (i + j)) h := rfl
theorem av_sub {i j : Int} : augV .sub (.int i) (.int j) h Q = Q (.int (i - j)) h := rfl
theorem cv_lt {i j : Int} : cmpV .lt (.int i) (.int j) h R = R (decide (i < j)) := rfl
theorem cv_le {i j : Int} : cmpV .le (.int i) (.int j) h R = R (decide (i ≤ j)) := rfl
theorem cv_gt {i j : Int} : cmpV .gt (.int i) (.int j) h R = R (decide (j < i)) := rfl
theorem cv_ge {i j : Int} : cmpV .ge (.int i) (.int j) h R = R (decide (j ≤ i)) := rfl
theorem cv_eq {i j : Int} : cmpV .eq (.int i) (.int j) h R = R (i == j) := rfl
theorem cv_ne {i j : Int} : cmpV .ne (.int i) (.int j) h R = R (!(i == j)) := rfl
theorem cv_eqS {i j : Str} : cmpV .eq (.str i) (.str j) h R = R (i == j) := rfl
theorem cv_neS {i j : Str} : cmpV .ne (.str i) (.str j) h R = R (!(i == j)) := rfl
theorem tv_bl {b : Bool} : truV (.bl b) h R = R b := rfl
theorem tv_int {i : Int} : truV (.int i) h R = R (i != 0) := rfl
theorem sv_lst {p : Addr} {i : Int} {xs : List PV} {v : PV} (e : h p = some (.lst xs)) (a : atI xs i = some v) : subV (.loc p) (.int i) h Q = Q v h := by simp only [subV, e, a]
theorem sv_fl {i : Int} {xs : List PV} {v : PV} (a : atI xs i = some v) : subV (.fl xs) (.int i) h Q = Q v h := by simp only [subV, a]
theorem sv_tup {i : Int} {xs : List PV} {v : PV} (a : atI xs i = some v) : subV (.tup xs) (.int i) h Q = Q v h := by simp only [subV, a]
theorem sv_dct {p : Addr} {k : PV} {key : Key} {f : Bool} {kvs : List (Key × PV)} {v : PV} (e : h p = some (.dct f kvs)) (ek : toKey k = some key) (a : valP kvs key = some v) : subV (.loc p) k h Q = Q v h := by simp only [subV, e, ek, a]
theorem sv_str {i : Int} {z : Str} {c : Nat} (hl : z.length ≤ sizeLine) (a : atI z.cps.toList i = some c) : subV (.str z) (.int i) h Q = Q (.str ⟨#[c]⟩) h := by simp only [subV, a, hl, true_and]
theorem setV_dct {p : Addr} {k v : PV} {key : Key} {kvs : List (Key × PV)} {R : PH → Prop} (e : h p = some (.dct false kvs)) (ek : toKey k = some key) (hl : kvs.length < sizeLine) : Mir.setV (.loc p) k v h R = R (pup h p (.dct false (putP kvs key v))) := by simp only [Mir.setV, e, ek, hl, true_and]
theorem mulP_of {i j : Int} (h0 : -(2 ^ 64) < j) (h1 : j < 2 ^ 64) : CMulP i j := .inl (.inr ⟨h0, h1⟩)
theorem mulP_of' {i j : Int} (h0 : -(2 ^ 64) < i) (h1 : i < 2 ^ 64) : CMulP i j := .inl (.inl ⟨h0, h1⟩)
theorem divP_of {i j : Int} (h0 : 0 < j) (h1 : j < 1073741824) : CDivP i j := .inl ⟨h0, h1⟩
theorem setT_nm {i : Nat} {v : PV} {env : PEnv} {K : PEnv → Prop} : setT (.nm i) v env K = K (env.set i (some v)) := rfl
theorem setT_tup {ts : Ts} {vs : List PV} {env : PEnv} {K : PEnv → Prop} : setT (.tup ts) (.tup vs) env K = setTs ts vs env K := rfl
theorem setTs_nil {env : PEnv} {K : PEnv → Prop} : setTs .nil [] env K = K env := rfl
theorem setTs_cons {t : T} {ts : Ts} {v : PV} {vs : List PV} {env : PEnv} {K : PEnv → Prop} : setTs (.cons t ts) (v :: vs) env K = setT t v env fun env' => setTs ts vs env' K := rfl
theorem get0 {α : Type} {a : α} {l : List α} : (a :: l)[0]? = some a := rfl
theorem getS {α : Type} {a : α} {l : List α} {n : Nat} : (a :: l)[n + 1]? = l[n]? := rfl
end
end Mir

set_option autoImplicit false
namespace Mir
open PySem L2 PySem.Spec
open PyProof.Rows hiding St

/-! ## texts in order -/
theorem le_pair : ∀ {l : List Str} {p : Str}, risingS p l = true → (p :: l).Pairwise (fun a b => a.cps.toList ≤ b.cps.toList)
  | [], p, _ => List.pairwise_singleton _ _
  | x :: r, p, h => by
    unfold risingS at h
    simp only [Bool.and_eq_true, Bool.not_eq_true', ltCps_eq, decide_eq_false_iff_not] at h
    have h1 : p.cps.toList ≤ x.cps.toList := List.not_lt.mp h.1
    have ih := le_pair h.2
    refine List.pairwise_cons.mpr ⟨fun y hy => ?_, ih⟩
    rcases List.mem_cons.mp hy with e | e
    · subst e; exact h1
    · exact List.le_trans h1 ((List.pairwise_cons.mp ih).1 y e)
theorem sorted_pair : ∀ {l : List Str}, sortedS l = true → l.Pairwise (fun a b => a.cps.toList ≤ b.cps.toList)
  | [], _ => .nil
  | x :: r, h => le_pair h
theorem str_ext {a b : Str} (h : a.cps.toList = b.cps.toList) : a = b := by
  cases a; cases b
  simp at h
  exact congrArg _ h
theorem sorted_uniq {ys zs : List Str} (p : ys.Perm zs) (h1 : sortedS ys = true) (h2 : sortedS zs = true) : ys = zs :=
  p.eq_of_pairwise (fun a b _ _ x y => str_ext (List.le_antisymm x y)) (sorted_pair h1) (sorted_pair h2)
/-! ## dicts from texts to ints -/
def dOf (ks : List Str) (v : Str → Int) : List (Key × PV) := ks.map fun s => (.inr s, .int (v s))
theorem dOf_keys {ks : List Str} {v : Str → Int} : ((dOf ks v).map fun kv => kP kv.1) = ks.map .str := by
  unfold dOf
  rw [List.map_map]
  rfl
theorem dOf_len {ks : List Str} {v : Str → Int} : (dOf ks v).length = ks.length := by simp [dOf]
theorem dOf_val {ks : List Str} {v : Str → Int} {s : Str} (h : s ∈ ks) : valP (dOf ks v) (.inr s) = some (.int (v s)) := by
  induction ks with
  | nil => cases h
  | cons k ks ih =>
    unfold valP dOf
    rw [List.map_cons, List.find?_cons]
    by_cases e : k = s
    · subst e; simp
    · have : s ∈ ks := by rcases List.mem_cons.mp h with z | z; exact absurd z.symm e; exact z
      have n : decide ((Sum.inr k : Key) = .inr s) = false := by simp [e]
      simp only [n]
      exact ih this
theorem dOf_any {ks : List Str} {v : Str → Int} {s : Str} : ((dOf ks v).any fun kv => decide (kv.1 = (.inr s : Key))) = decide (s ∈ ks) := by
  induction ks with
  | nil => rfl
  | cons k ks ih =>
    unfold dOf at ih ⊢
    rw [List.map_cons, List.any_cons, ih]
    by_cases e : k = s
    · subst e; simp
    · have : ¬ s = k := fun z => e z.symm
      simp [e, this]
theorem dOf_put {ks : List Str} {v : Str → Int} {s : Str} {x : Int} (h : s ∈ ks) : putP (dOf ks v) (.inr s) (.int x) = dOf ks fun t => if t = s then x else v t := by
  unfold putP
  rw [dOf_any, if_pos (by simpa using h)]
  unfold dOf
  rw [List.map_map]
  refine List.map_congr_left fun t _ => ?_
  simp only [Function.comp]
  by_cases e : t = s
  · subst e; simp
  · simp [e]
theorem pairs_map {ks : List Str} {v : Str → Int} : pairsP (ks.map fun s => .tup [.str s, .int (v s)]) = some (dOf ks v) := by
  induction ks with
  | nil => rfl
  | cons k ks ih => simp only [List.map_cons, pairsP, toKey, ih]; rfl
theorem put_new {kvs : List (Key × PV)} {k : Key} {v : PV} (h : k ∉ kvs.map (·.1)) : putP kvs k v = kvs ++ [(k, v)] := by
  unfold putP
  rw [if_neg]
  simp only [List.any_eq_true, decide_eq_true_eq, not_exists, not_and]
  intro kv hkv e
  exact h (e ▸ List.mem_map_of_mem hkv)
theorem merge_new : ∀ {more kvs : List (Key × PV)}, ((kvs ++ more).map (·.1)).Nodup → mergeP kvs more = kvs ++ more
  | [], kvs, _ => by simp [mergeP]
  | (k, v) :: more, kvs, h => by
    have hk : k ∉ kvs.map (·.1) := by
      rw [List.map_append, List.nodup_append] at h
      intro z
      exact h.2.2 k z k (by simp) rfl
    have e : mergeP kvs ((k, v) :: more) = mergeP (putP kvs k v) more := rfl
    rw [e, put_new hk, merge_new (by simpa using h)]
    simp
theorem dOf_nodup {ks : List Str} {v : Str → Int} (h : ks.Nodup) : ((dOf ks v).map (·.1)).Nodup := by
  unfold dOf
  rw [List.map_map]
  exact List.Pairwise.map _ (fun a b (e : a ≠ b) z => e (by cases z; rfl)) h
theorem val_append {a b : List (Key × PV)} {k : Key} : valP (a ++ b) k = (valP a k).or (valP b k) := by
  unfold valP
  rw [List.find?_append]
  cases List.find? (fun kv => decide (kv.1 = k)) a <;> rfl
/-! ## rules -/
section
variable {G : Sig} {C : CallS} {h : PH} {Q : QE} {X : XE} {env : PEnv}
theorem blt_sortedD {a : Addr} {f : Bool} {ks : List Str} {v : Str → Int} (e : h a = some (.dct f (dOf ks v))) (hl : ks.length < 64) (q : ∀ ys p, ys.Perm ks → sortedS ys = true → h p = none → Q (.loc p) (pup h p (.lst (ys.map .str)))) :
    bltV .sorted [.loc a] h Q := by
  simp only [bltV, e, dOf_keys, sortK]
  cases ks with
  | nil =>
    refine ⟨by decide, fun ns' pm _ => ?_⟩
    cases List.Perm.eq_nil pm
    exact fun p hp => q [] p (.refl _) rfl hp
  | cons k ks =>
    rw [intsP_strs, strsP_map]
    exact ⟨hl, fun ys pm hs p hp => q ys p pm hs hp⟩
theorem blt_sortedL {a : Addr} {ks : List Str} (e : h a = some (.lst (ks.map .str))) (hl : ks.length < 64) (q : ∀ ys p, ys.Perm ks → sortedS ys = true → h p = none → Q (.loc p) (pup h p (.lst (ys.map .str)))) :
    bltV .sorted [.loc a] h Q := by
  simp only [bltV, e, sortK]
  cases ks with
  | nil =>
    refine ⟨by decide, fun ns' pm _ => ?_⟩
    cases List.Perm.eq_nil pm
    exact fun p hp => q [] p (.refl _) rfl hp
  | cons k ks =>
    rw [intsP_strs, strsP_map]
    exact ⟨hl, fun ys pm hs p hp => q ys p pm hs hp⟩
theorem blt_sum {a : Addr} {ns : List Int} (e : h a = some (.lst (ns.map .int))) : bltV .sum [.loc a] h Q = Q (.int ns.sum) h := by
  simp only [bltV, listK, e, intsP_map]
theorem blt_sumF {ns : List Int} : bltV .sum [.fl (ns.map .int)] h Q = Q (.int ns.sum) h := by
  simp only [bltV, listK, intsP_map]
theorem seq_lst {p : Addr} {xs : List PV} {K : List PV → (PH → Prop) → Prop} (e : h p = some (.lst xs)) : seqK (.loc p) h K = K xs fun h' => h' p = some (.lst xs) := by simp only [seqK, e]
theorem unlock_eq {d P : Addr} {kvs : List (Key × PV)} {c : Cell} (e : h d = some (.dct false kvs)) (n : h P = none) : pup (pup (pup h d (.dct true kvs)) P c) d (.dct false kvs) = pup h P c := by
  funext b
  have ne : d ≠ P := fun z => by subst z; rw [n] at e; cases e
  unfold pup
  by_cases h1 : b = d
  · subst h1
    simp [ne, e]
  · simp [h1]
/-- [.. for k in a dict], the element leaving the heap as it is -/
theorem compD_rule {elt : E} {t : T} {i : Nat} {ws : List (Str × Nat)} {d : Addr} {ks : List Str} {v : Str → Int} (g : Str → PV) (ei : env[i]? = some (some (.loc d))) (e : h d = some (.dct false (dOf ks v))) (hl : ks.length ≤ sizeLine)
    (he : ∀ s acc P (N : QE), s ∈ ks → P ≠ d → N (g s) (pup (pup h d (.dct true (dOf ks v))) P (.lst acc)) → setT t (.str s) (wipeP env (ws.map (·.2))) fun env' => evE G C elt env' (pup (pup h d (.dct true (dOf ks v))) P (.lst acc)) N fun _ _ => False)
    (q : ∀ P, h P = none → Q (.loc P) (pup h P (.lst (ks.map g)))) : evE G C (.compD elt t (.var i) .nil ws) env h Q X := by
  unfold evE
  refine ⟨d, dOf ks v, e, ?_⟩
  unfold evE
  rw [ei]
  refine ⟨rfl, pup_same, fun P nP => ?_⟩
  have ne : P ≠ d := fun z => by subst z; rw [pup_same] at nP; cases nP
  have nP' : h P = none := by rw [pup_ne ne] at nP; exact nP
  rw [dOf_keys]
  refine compGo_map (f := PV.str) (as := ks) g hl (fun acc => ?_) (fun s acc N hs n => he s acc P N hs ne n) ?_
  · rw [pup_ne ne.symm, pup_same]
  · rw [unlock_eq e nP']
    exact q P nP'
theorem compD_go {st : PV → PEnv → (PEnv → Prop) → Prop} {elt : PEnv → PH → QE → Prop} {P d : Addr} {K : PH → Prop} {ks : List Str} {v : Str → Int} (g : Str → PV) (e : h d = some (.dct false (dOf ks v))) (hl : ks.length ≤ sizeLine)
    (nP : pup h d (.dct true (dOf ks v)) P = none)
    (he : ∀ s acc (N : QE), s ∈ ks → h P = none → P ≠ d → N (g s) (pup (pup h d (.dct true (dOf ks v))) P (.lst acc)) → st (.str s) env fun env' => elt env' (pup (pup h d (.dct true (dOf ks v))) P (.lst acc)) N)
    (q : h P = none → P ≠ d → K (pup h P (.lst (ks.map g)))) :
    compGo (fun g => g d = some (.dct true (dOf ks v))) st (fun _ h K => K true h) elt env P (fun h2 => K (pup h2 d (.dct false (dOf ks v)))) ((dOf ks v).map fun kv => kP kv.1) (pup (pup h d (.dct true (dOf ks v))) P (.lst [])) := by
  have ne : P ≠ d := fun z => by subst z; rw [pup_same] at nP; cases nP
  have nP' : h P = none := by rw [pup_ne ne] at nP; exact nP
  rw [dOf_keys]
  refine compGo_map (f := PV.str) (as := ks) g hl (fun acc => ?_) (fun s acc N hs n => he s acc N hs nP' ne n) ?_
  · rw [pup_ne ne.symm, pup_same]
  · rw [unlock_eq e nP']
    exact q nP' ne
theorem compGo_range {st : PV → PEnv → (PEnv → Prop) → Prop} {elt : PEnv → PH → QE → Prop} {P : Addr} {K : PH → Prop} {m : Nat} (g : Nat → PV) (hl : m ≤ 1000)
    (he : ∀ a acc (N : QE), a < m → N (g a) (pup h P (.lst acc)) → st (.int (a : Nat)) env fun env' => elt env' (pup h P (.lst acc)) N) (q : K (pup h P (.lst ((List.range m).map g)))) :
    compGo (fun _ => True) st (fun _ h K => K true h) elt env P K ((List.range m).map fun i => .int ((0 : Int) + (i : Nat))) (pup h P (.lst [])) := by
  refine compGo_map (f := fun i => PV.int ((0 : Int) + (i : Nat))) (as := List.range m) g (Nat.le_of_lt (small1000 (by rw [List.length_range]; omega))) (fun acc => trivial) (fun a acc N ha n => ?_) q
  rw [Int.zero_add]
  exact he a acc N (List.mem_range.mp ha) n
theorem bm_join {p : Addr} {z : Str} {ys : List Str} (e : h p = some (.lst (ys.map .str))) : bmV .join (.str z) [.loc p] h Q = ((ys.map (·.length)).sum + ys.length * z.length ≤ 16777216 ∧ Q (.str (Txt.join z ys)) h) := by
  simp only [bmV, itemsK, e, strsP_map]
end
end Mir

set_option autoImplicit false
namespace Mir
open PySem L2 PySem.Spec
open PyProof.Rows hiding St
section
variable {n : Nat} {h : PH} {Q : QE} {X : Mir.XE} {R : Bool → Prop}
theorem ret_here {P : PH → Prop} (p : P h) : ∃ h2, PLe h2 h ∧ P h2 := ⟨h, PLe.refl h, p⟩
theorem small_line {n : Nat} (h : n ≤ 1000) : n ≤ sizeLine := Nat.le_of_lt (small1000 h)
theorem at_mem {α : Type} {xs : List α} {i : Int} (h0 : 0 ≤ i) (h1 : i < xs.length) : ∃ x ∈ xs, atI xs i = some x := by
  have hi : i.toNat < xs.length := by omega
  refine ⟨xs[i.toNat], List.getElem_mem hi, ?_⟩
  have e : ((i.toNat : Nat) : Int) = i := by omega
  have z := atI_nat (List.getElem?_eq_getElem hi)
  rw [e] at z
  exact z
theorem at_map {α : Type} {f : α → PV} {xs : List α} {i : Int} (h0 : 0 ≤ i) (h1 : i < xs.length) : ∃ x ∈ xs, atI (xs.map f) i = some (f x) := by
  obtain ⟨y, hy, e⟩ := at_mem (xs := xs.map f) h0 (by rw [List.length_map]; exact h1)
  obtain ⟨x, hx, rfl⟩ := List.mem_map.mp hy
  exact ⟨x, hx, e⟩
theorem ple_pup {h g : PH} {p : Addr} {c : Cell} (l : PLe h g) (e : g p = some c) : PLe (pup h p c) g := fun a d ed => by
  unfold pup at ed
  split at ed
  · rename_i z; subst z; cases ed; exact e
  · exact l a d ed
theorem zip_ints (ns : List Int) : ((ns.map PV.int).zipIdx.map fun p => PV.tup [.int (p.2 : Nat), p.1]) = ns.zipIdx.map fun p => .tup [.int (p.2 : Nat), .int p.1] := by
  rw [List.zipIdx_map, List.map_map]
  rfl
theorem join_len : ∀ (ys : List Str), (∀ y ∈ ys, y.length = 1) → (Str.join "" ys).length = ys.length
  | [], _ => rfl
  | [y], h => h y (by simp)
  | y :: z :: r, h => by
    have e : Str.join "" (y :: z :: r) = y ++ ("" : Str) ++ Str.join "" (z :: r) := rfl
    have ih := join_len (z :: r) fun w hw => h w (List.mem_cons_of_mem _ hw)
    have hy := h y (by simp)
    rw [e]
    show (y.cps ++ (Str.ofString "").cps ++ (Str.join "" (z :: r)).cps).size = _
    rw [Array.size_append, Array.size_append]
    have e0 : (Str.ofString "").cps.size = 0 := by decide +kernel
    have e1 : (Str.join "" (z :: r)).cps.size = (z :: r).length := ih
    have e2 : y.cps.size = 1 := hy
    rw [e0, e1, e2]
    simp only [List.length_cons]
    omega
theorem cut_len (z : Str) (lo hi : Option Int) : (cutS z lo hi).length ≤ z.length := by
  unfold cutS
  show (List.toArray _).size ≤ _
  rw [List.size_toArray, List.length_take, List.length_drop]
  have : z.cps.toList.length = z.length := by simp [Str.length]
  omega
theorem sum_ones {α : Type} (l : List α) : (l.map fun _ => 1).sum = l.length := by
  induction l with
  | nil => rfl
  | cons a l ih => simp [ih]; omega
theorem nodup_map {α β : Type} {f : α → β} : ∀ {l : List α}, l.Nodup → (∀ x ∈ l, ∀ y ∈ l, f x = f y → x = y) → (l.map f).Nodup
  | [], _, _ => .nil
  | a :: l, nd, inj => by
    rw [List.nodup_cons] at nd
    rw [List.map_cons, List.nodup_cons]
    refine ⟨fun z => ?_, nodup_map nd.2 fun x hx y hy => inj x (List.mem_cons_of_mem _ hx) y (List.mem_cons_of_mem _ hy)⟩
    obtain ⟨y, hy, e⟩ := List.mem_map.mp z
    have := inj y (List.mem_cons_of_mem _ hy) a (by simp) e
    subst this
    exact nd.1 hy
theorem ce_loc {a b : Addr} : cmpV .eq (.loc a) (.loc b) h R = eqK h (.loc a) (.loc b) R := rfl
theorem cn_loc {a b : Addr} : cmpV .ne (.loc a) (.loc b) h R = eqK h (.loc a) (.loc b) fun k => R (!k) := rfl
theorem isi_int {G : Sig} {i : Int} {R : Bool → Prop} : isiV G (.int i) h .int R = R true := rfl
theorem isi_bool {G : Sig} {i : Int} {R : Bool → Prop} : isiV G (.int i) h .bool R = R false := rfl
theorem isi_dict {G : Sig} {a : Addr} {f : Bool} {kvs : List (Key × PV)} (e : h a = some (.dct f kvs)) : isiV G (.loc a) h .dict R = R true := by simp only [isiV, e]
theorem isi_tup {G : Sig} {xs : List PV} : isiV G (.tup xs) h .tuple R = R true := rfl
theorem blt_dictD {a : Addr} {f : Bool} {kvs : List (Key × PV)} (e : h a = some (.dct f kvs)) : bltV .dict [.loc a] h Q = ∀ p, h p = none → Q (.loc p) (pup h p (.dct false kvs)) := by simp only [bltV, e]
theorem blt_min {i j : Int} : bltV .min [.int i, .int j] h Q = Q (.int (if j < i then j else i)) h := rfl
theorem blt_max {i j : Int} : bltV .max [.int i, .int j] h Q = Q (.int (if j > i then j else i)) h := rfl
theorem blt_intb {b : Bool} : bltV .int [.bl b] h Q = Q (.int (if b = true then 1 else 0)) h := by cases b <;> rfl
theorem blt_listL {a : Addr} {xs : List PV} (e : h a = some (.lst xs)) : bltV .list [.loc a] h Q = ∀ p, h p = none → Q (.loc p) (pup h p (.lst xs)) := by simp only [bltV, e]
theorem tyP_d {a : Addr} {kvs : List (Key × PV)} (e : h a = some (.dct false kvs)) : tyP .dict (.loc a) h = True := by simp only [tyP, e]
theorem tyP_l {a : Addr} {xs : List PV} (e : h a = some (.lst xs)) : tyP .list (.loc a) h = True := by simp only [tyP, e]
theorem bm_append {a : Addr} {xs : List PV} {y : PV} (e : h a = some (.lst xs)) (hl : xs.length < sizeLine) : bmV .append (.loc a) [y] h Q = Q .non (pup h a (.lst (xs ++ [y]))) := by simp only [bmV, e, hl, true_and]
theorem sub_len : ∀ {K ks : List Str}, K.Nodup → (∀ s ∈ K, s ∈ ks) → K.length ≤ ks.length
  | [], _, _, _ => Nat.zero_le _
  | a :: K, ks, kn, kk => by
    rw [List.nodup_cons] at kn
    have ha := kk a (by simp)
    have ih := sub_len (ks := ks.erase a) kn.2 fun s hs => (List.mem_erase_of_ne (fun e => kn.1 (by rw [← e]; exact hs))).mpr (kk s (List.mem_cons_of_mem _ hs))
    rw [List.length_erase_of_mem ha] at ih
    have := List.length_pos_of_mem ha
    rw [List.length_cons]
    omega
theorem dOf_snoc {ks : List Str} {v : Str → Int} {a : Str} : dOf (ks ++ [a]) v = dOf ks v ++ [(.inr a, .int (v a))] := by simp [dOf]
theorem dOf_notin {ks : List Str} {v : Str → Int} {a : Str} (h : a ∉ ks) : (.inr a : Key) ∉ (dOf ks v).map (·.1) := by
  unfold dOf
  rw [List.map_map]
  intro z
  obtain ⟨s, hs, e⟩ := List.mem_map.mp z
  cases e
  exact h hs
theorem deq_strs {k : Nat} : ∀ ks : List Str, deqL (deq h k) (ks.map .str) (ks.map .str) = some true
  | [] => rfl
  | s :: ks => by
    have e : deq h k (.str s) (.str s) = some true := by cases k <;> simp [deq]
    simp only [List.map_cons, deqL, e, deq_strs ks, Bool.and_self]
theorem eqK_strs {a b : Addr} {ks : List Str} (e1 : h a = some (.lst (ks.map .str))) (e2 : h b = some (.lst (ks.map .str))) : eqK h (.loc a) (.loc b) R = R true := by
  simp only [eqK, e1, e2, deq, deq_strs]
theorem dhit_self {ks : List Str} {v : Str → Int} : ∀ {r : List Str}, (∀ s ∈ r, s ∈ ks) → dhit (deq h 20) (dOf ks v) (dOf r v) = some true
  | [], _ => rfl
  | s :: r, hr => by
    have ih := dhit_self (ks := ks) (v := v) (r := r) fun t ht => hr t (List.mem_cons_of_mem _ ht)
    have e := dOf_val (v := v) (hr s (by simp))
    have e2 : deq h 20 (.int (v s)) (.int (v s)) = some true := by simp [deq]
    show dhit (deq h 20) (dOf ks v) ((.inr s, .int (v s)) :: dOf r v) = some true
    unfold dhit
    unfold valP at e
    rw [e]
    simp only [e2, ih, Bool.and_self]
theorem eqK_dct {a b : Addr} {ks : List Str} {v : Str → Int} (e1 : h a = some (.dct false (dOf ks v))) (e2 : h b = some (.dct false (dOf ks v))) : eqK h (.loc a) (.loc b) R = R true := by
  simp only [eqK, e1, e2, if_true, dhit_self (ks := ks) (v := v) (r := ks) fun _ x => x]
theorem deqL_self {f : PV → PV → Option Bool} {α : Type} {g : α → PV} (hf : ∀ x, f (g x) (g x) = some true) : ∀ xs : List α, deqL f (xs.map g) (xs.map g) = some true
  | [] => rfl
  | x :: xs => by simp only [List.map_cons, deqL, hf, deqL_self hf xs, Bool.and_self]
theorem eqK_lst {a b : Addr} {α : Type} {g : α → PV} {xs : List α} (e1 : h a = some (.lst (xs.map g))) (e2 : h b = some (.lst (xs.map g))) (hf : ∀ x, deq h 19 (g x) (g x) = some true) : eqK h (.loc a) (.loc b) R = R true := by
  simp only [eqK, e1, e2, deq, deqL_self hf]
def ins (K : List Str) (m : Str) : List Str := if m ∈ K then K else K ++ [m]
def up (f : Str → Int) (m : Str) (x : Int) : Str → Int := fun t => if t = m then x else f t
theorem ins_mem {K : List Str} {m t : Str} : t ∈ ins K m ↔ t ∈ K ∨ t = m := by
  unfold ins
  split
  · rename_i h
    exact ⟨.inl, fun z => z.elim id fun e => e ▸ h⟩
  · simp
theorem ins_nodup {K : List Str} {m : Str} (h : K.Nodup) : (ins K m).Nodup := by
  unfold ins
  split
  · exact h
  · rename_i n
    rw [List.nodup_append]
    exact ⟨h, by simp, fun a ha b hb e => n (by rw [List.mem_singleton] at hb; rw [← hb, ← e]; exact ha)⟩
theorem dOf_ins {K : List Str} {f : Str → Int} {m : Str} {x : Int} : putP (dOf K f) (.inr m) (.int x) = dOf (ins K m) (up f m x) := by
  unfold ins
  split
  · rename_i h
    exact dOf_put h
  · rename_i h
    rw [put_new (dOf_notin h)]
    unfold dOf up
    rw [List.map_append]
    congr 1
    · refine List.map_congr_left fun t ht => ?_
      have : t ≠ m := fun e => h (e ▸ ht)
      rw [if_neg this]
    · simp
theorem dOf_getD {K : List Str} {f : Str → Int} {m : Str} (z : m ∉ K → f m = 0) : (valP (dOf K f) (.inr m)).getD (.int 0) = .int (f m) := by
  by_cases h : m ∈ K
  · rw [dOf_val h]; rfl
  · have e : valP (dOf K f) (.inr m) = none := by
      unfold valP
      rw [List.find?_eq_none.mpr]
      · rfl
      · intro kv hkv e
        have e' : kv.1 = .inr m := of_decide_eq_true e
        exact dOf_notin (v := f) h (e' ▸ List.mem_map_of_mem (f := (·.1)) hkv)
    rw [e, z h]; rfl
theorem bm_get {a : Addr} {f : Bool} {K : List Str} {v : Str → Int} {m : Str} (e : h a = some (.dct f (dOf K v))) (z : m ∉ K → v m = 0) : bmV .get (.loc a) [.str m, .int 0] h Q = Q (.int (v m)) h := by
  simp only [bmV, e, toKey, dOf_getD z]
/-! ### small facts for straight lines -/
theorem divP_lit {i j : Int} (h0 : 0 < j) (h1 : j < 1073741824) : CDivP i j = True := eq_true (divP_of h0 h1)
theorem mulP_r {i j : Int} (h0 : -18446744073709551616 < j) (h1 : j < 18446744073709551616) : CMulP i j = True := eq_true (mulP_of h0 h1)
theorem mulP_l {i j : Int} (h0 : -18446744073709551616 < i) (h1 : i < 18446744073709551616) : CMulP i j = True := eq_true (mulP_of' h0 h1)
theorem lineSize : sizeLine = 16777216 := by decide
theorem lne_line {n : Nat} (h : n ≤ 16777216) : (n ≤ sizeLine) = True := eq_true h
theorem lt_line {n : Nat} (h : n < 16777216) : (n < sizeLine) = True := eq_true h
theorem cat_len (a b : Str) : (a ++ b).length = a.length + b.length := by
  show (a.cps ++ b.cps).size = _
  rw [Array.size_append]
  rfl
theorem cut_le (z : Str) (lo hi : Option Int) : (cutS z lo hi).length ≤ z.length := cut_len z lo hi
theorem len_tl (a : Str) : a.length = a.cps.toList.length := by simp [Str.length]
theorem ofL (a : Str) : (⟨a.cps.toList.toArray⟩ : Str) = a := by cases a; simp
theorem new_ext {h : PH} {p : Addr} {c : Cell} (np : h p = none) {a : Addr} {d : Cell} (e : h a = some d) : pup h p c a = some d := by
  rw [pup_ne (fun z => by subst z; rw [np] at e; cases e)]; exact e
/-- a comprehension with a test, both leaving the heap as it is -/
theorem compGo_filter {α : Type} {still : PH → Prop} {st : PV → PEnv → (PEnv → Prop) → Prop} {ifs : PEnv → PH → (Bool → PH → Prop) → Prop} {elt : PEnv → PH → QE → Prop} {env : PEnv} {P : Addr} {K : PH → Prop} {f : α → PV} (p : α → Bool) (g : α → PV) (e : α → PEnv) {as : List α} {h : PH} (hl : as.length ≤ sizeLine)
    (hs : ∀ acc, still (pup h P (.lst acc))) (ht : ∀ a (T : PEnv → Prop), a ∈ as → T (e a) → st (f a) env T) (hi : ∀ a acc (N : Bool → PH → Prop), a ∈ as → N (p a) (pup h P (.lst acc)) → ifs (e a) (pup h P (.lst acc)) N)
    (he : ∀ a acc (Q : QE), a ∈ as → p a = true → Q (g a) (pup h P (.lst acc)) → elt (e a) (pup h P (.lst acc)) Q)
    (q : K (pup h P (.lst ((as.filter p).map g)))) : compGo still st ifs elt env P K (as.map f) (pup h P (.lst [])) := by
  refine compGo_list (f := f) (as := as) (fun done h' => h' = pup h P (.lst ((done.filter p).map g))) (fun done a rest h' N ee i nx => ?_) (fun h' i => ?_) rfl
  · subst i
    have ha : a ∈ as := by rw [ee]; simp
    refine ⟨hs _, ht a _ ha (hi a _ _ ha ?_)⟩
    by_cases hp : p a = true
    · rw [if_pos hp]
      refine he a _ _ ha hp ?_
      rw [pup_same]
      refine ⟨?_, ?_⟩
      · rw [List.length_map]
        have := List.length_filter_le p done
        rw [ee] at hl
        simp at hl
        omega
      · rw [pup_pup]
        exact nx _ (by rw [List.filter_append, List.map_append]; simp [hp])
    · rw [if_neg hp]
      exact nx _ (by rw [List.filter_append]; simp [hp])
  · subst i
    exact ⟨hs _, q⟩
theorem eqK_nil {a b : Addr} {xs : List PV} (e1 : h a = some (.lst xs)) (e2 : h b = some (.lst [])) : eqK h (.loc a) (.loc b) R = R xs.isEmpty := by
  simp only [eqK, e1, e2, deq]
  cases xs <;> rfl
theorem pow_10_9 : (10 : Int) ^ Int.toNat 9 = 1000000000 := by decide
theorem pow_10_20 : (10 : Int) ^ Int.toNat 20 = 100000000000000000000 := by decide
theorem pow_10_30 : (10 : Int) ^ Int.toNat 30 = 1000000000000000000000000000000 := by decide
theorem cpow_10_9 : CPow 10 9 = True := eq_true ⟨by decide, by decide, by decide⟩
theorem cpow_10_20 : CPow 10 20 = True := eq_true ⟨by decide, by decide, by decide⟩
theorem cpow_10_30 : CPow 10 30 = True := eq_true ⟨by decide, by decide, by decide⟩
theorem seq_str {s : Str} {K : List PV → (PH → Prop) → Prop} : seqK (.str s) h K = K (signs s) fun _ => True := rfl
theorem seq_tup {xs : List PV} {K : List PV → (PH → Prop) → Prop} : seqK (.tup xs) h K = K xs fun _ => True := rfl
theorem seq_fl {xs : List PV} {K : List PV → (PH → Prop) → Prop} : seqK (.fl xs) h K = K xs fun _ => True := rfl
theorem new_new {h : PH} {p q : Addr} {c : Cell} (e : pup h p c q = none) : q ≠ p ∧ h q = none := by
  have ne : q ≠ p := fun z => by subst z; rw [pup_same] at e; cases e
  exact ⟨ne, by rw [pup_ne ne] at e; exact e⟩
/-- what follows a body -/
abbrev retD (Q : QE) (X : XE) : PD := ⟨fun _ h1 => ∃ h2, PLe h2 h1 ∧ Q .non h2, fun v h1 => ∃ h2, PLe h2 h1 ∧ Q v h2, fun _ _ => False, fun _ _ => False, fun c _ h1 => ∃ h2, PLe h2 h1 ∧ X c h2⟩
theorem evSs_nil {G : Sig} {C : CallS} {env : PEnv} {D : PD} : evSs G C .nil env h D = D.nx env h := by rw [evSs]
theorem evSs_cons {G : Sig} {C : CallS} {s : S} {ss : Ss} {env : PEnv} {D : PD} : evSs G C (.cons s ss) env h D = evS G C s env h { D with nx := fun env' h' => evSs G C ss env' h' D } := by rw [evSs]
/-- a dict walked by its keys: an invariant over the done part, the dict locked -/
theorem forD_list {G : Sig} {C : CallS} {tg : T} {i : Nat} {b : Ss} {D : PD} {env : PEnv} {d : Addr} {kvs : List (Key × PV)} (I : List (Key × PV) → PEnv → PH → Prop) (ei : env[i]? = some (some (.loc d))) (ed : h d = some (.dct false kvs))
    (hI : ∀ done env g, I done env g → g d = some (.dct true kvs))
    (step : ∀ done kv rest env g (K : PEnv → PH → Prop), kvs = done ++ kv :: rest → I done env g → (∀ env' g', I (done ++ [kv]) env' g' → K env' g') → setT tg (kP kv.1) env fun env' => evSs G C b env' g
      ⟨K, fun v g => g d = some (.dct true kvs) ∧ D.rt v (pup g d (.dct false kvs)), fun e g => g d = some (.dct true kvs) ∧ D.nx e (pup g d (.dct false kvs)), K, fun _ _ _ => False⟩)
    (fin : ∀ env g, I kvs env g → D.nx env (pup g d (.dct false kvs))) (start : I [] env (pup h d (.dct true kvs))) : evS G C (.forD tg false (.var i) b) env h D := by
  unfold evS
  refine ⟨d, kvs, ed, ?_⟩
  unfold evE
  rw [ei]
  refine ⟨rfl, ?_⟩
  refine forGo_list (f := fun kv : Key × PV => kP kv.1) (as := kvs) I (fun done kv rest env g K e i nx => ?_) (fun env g i => ?_) start
  · exact ⟨hI _ _ _ i, step done kv rest env g K e i nx⟩
  · exact ⟨hI _ _ _ i, hI _ _ _ i, fin env g i⟩
theorem zip_mid {α : Type} {as : List α} {done rest : List (α × Nat)} {c : α} {j : Nat} (e : as.zipIdx = done ++ (c, j) :: rest) : j = done.length ∧ as[j]? = some c ∧ j < as.length := by
  have h := congrArg (fun l => l[done.length]?) e
  simp at h
  obtain ⟨x, hx, e1, e2⟩ : ∃ x, as[done.length]? = some x ∧ x = c ∧ done.length = j := by
    revert h
    cases as[done.length]? with
    | none => simp
    | some x => intro h; simpa using h
  subst e1 e2
  exact ⟨rfl, hx, (List.getElem?_eq_some_iff.mp hx).1⟩
/-- [.. for k in a dict if ..], test and element leaving the heap as it is -/
theorem compD_filter {G : Sig} {C : CallS} {env : PEnv} {elt : E} {t : T} {i : Nat} {ifs : Bs} {ws : List (Str × Nat)} {d : Addr} {ks : List Str} {v : Str → Int} (p : Str → Bool) (g : Str → PV) (e' : Str → PEnv) (ei : env[i]? = some (some (.loc d))) (e : h d = some (.dct false (dOf ks v))) (hl : ks.length ≤ sizeLine)
    (ht : ∀ s (T : PEnv → Prop), s ∈ ks → T (e' s) → setT t (.str s) (wipeP env (ws.map (·.2))) T)
    (hi : ∀ s acc P (N : Bool → PH → Prop), s ∈ ks → P ≠ d → N (p s) (pup (pup h d (.dct true (dOf ks v))) P (.lst acc)) → evBs G C ifs (e' s) (pup (pup h d (.dct true (dOf ks v))) P (.lst acc)) N fun _ _ => False)
    (he : ∀ s acc P (N : QE), s ∈ ks → P ≠ d → p s = true → N (g s) (pup (pup h d (.dct true (dOf ks v))) P (.lst acc)) → evE G C elt (e' s) (pup (pup h d (.dct true (dOf ks v))) P (.lst acc)) N fun _ _ => False)
    (q : ∀ P, h P = none → Q (.loc P) (pup h P (.lst ((ks.filter p).map g)))) : evE G C (.compD elt t (.var i) ifs ws) env h Q X := by
  unfold evE
  refine ⟨d, dOf ks v, e, ?_⟩
  unfold evE
  rw [ei]
  refine ⟨rfl, pup_same, fun P nP => ?_⟩
  have ne : P ≠ d := fun z => by subst z; rw [pup_same] at nP; cases nP
  have nP' : h P = none := by rw [pup_ne ne] at nP; exact nP
  rw [dOf_keys]
  refine compGo_filter (f := PV.str) (as := ks) p g e' hl (fun acc => ?_) (fun s T hs q => ht s T hs q) (fun s acc N hs n => hi s acc P N hs ne n) (fun s acc N hs hp n => he s acc P N hs ne hp n) ?_
  · rw [pup_ne ne.symm, pup_same]
  · rw [unlock_eq e nP']
    exact q P nP'
theorem cut_ints (ns : List Int) (lo hi : Option Int) : ∃ ns' : List Int, cutP (ns.map PV.int) lo hi = ns'.map PV.int ∧ ns'.length ≤ ns.length := by
  refine ⟨(ns.drop (HT.sIx (ns.map PV.int).length 0 lo)).take (HT.sIx (ns.map PV.int).length (ns.map PV.int).length hi - HT.sIx (ns.map PV.int).length 0 lo), by unfold cutP; rw [List.map_take, List.map_drop], ?_⟩
  rw [List.length_take, List.length_drop]
  omega
theorem val_key {kvs : List (Key × PV)} (nk : (kvs.map (·.1)).Nodup) {k : Key} {v : PV} (hm : (k, v) ∈ kvs) : valP kvs k = some v := by
  induction kvs with
  | nil => cases hm
  | cons q kvs ih =>
    rw [List.map_cons, List.nodup_cons] at nk
    unfold valP
    rw [List.find?_cons]
    rcases List.mem_cons.mp hm with z | z
    · subst z; simp
    · have ne : q.1 ≠ k := fun y => nk.1 (by rw [y]; exact List.mem_map_of_mem (f := (·.1)) z)
      have n2 : decide (q.1 = k) = false := by simp [ne]
      simp only [n2]
      exact ih nk.2 z
theorem dhit_refl {f : PV → PV → Option Bool} {kvs : List (Key × PV)} (nk : (kvs.map (·.1)).Nodup) (hf : ∀ kv ∈ kvs, f kv.2 kv.2 = some true) : ∀ r : List (Key × PV), (∀ kv ∈ r, kv ∈ kvs) → dhit f kvs r = some true
  | [], _ => rfl
  | (k, v) :: r, hr => by
    have ih := dhit_refl nk hf r fun kv h => hr kv (List.mem_cons_of_mem _ h)
    have hm := hr (k, v) (by simp)
    have e : (kvs.find? fun kv => decide (kv.1 = k)).map (·.2) = some v := val_key nk hm
    unfold dhit
    rw [e]
    simp only [hf (k, v) hm, ih, Bool.and_self]
theorem eqK_dcts {a b : Addr} {kvs : List (Key × PV)} (e1 : h a = some (.dct false kvs)) (e2 : h b = some (.dct false kvs)) (nk : (kvs.map (·.1)).Nodup) (hf : ∀ kv ∈ kvs, deq h 20 kv.2 kv.2 = some true) : eqK h (.loc a) (.loc b) R = R true := by
  simp only [eqK, e1, e2, if_true, dhit_refl nk hf kvs fun _ h => h]
end
end Mir

set_option autoImplicit false
namespace LK
open PySem L2 PySem.Spec Mir
open PyProof.Rows hiding St
/-- _wall: 0 k -/
def b0 : Ss :=
  (.cons (.while (.val (.bl true)) (.cons .skip
    .nil))
  .nil)
/-- Side.name: 0 self -/
def b1 : Ss :=
  (.cons (.ret (.str "buy"))
  .nil)
/-- Side.other: 0 self -/
def b2 : Ss :=
  (.cons (.expr (.call 0 (.cons (.int 0) .nil)))
  .nil)
/-- Side.is_ahead: 0 self, 1 price, 2 second -/
def b3 : Ss :=
  (.cons (.ret (.cmp .gt (.var 1) (.var 2)))
  .nil)
/-- Side.takes: 0 self, 1 limit, 2 price -/
def b4 : Ss :=
  (.cons (.expr (.call 0 (.cons (.int 1) .nil)))
  .nil)
/-- Side.wakes: 0 self, 1 wake, 2 last -/
def b5 : Ss :=
  (.cons (.ret (.not (.meth (.var 0) 0 (.cons (.var 1) (.cons (.var 2) .nil)))))
  .nil)
/-- Sell.name: 0 self -/
def b6 : Ss :=
  (.cons (.ret (.str "sell"))
  .nil)
/-- Sell.other: 0 self -/
def b7 : Ss :=
  (.cons (.expr (.call 0 (.cons (.int 2) .nil)))
  .nil)
/-- Sell.is_ahead: 0 self, 1 price, 2 second -/
def b8 : Ss :=
  (.cons (.ret (.cmp .lt (.var 1) (.var 2)))
  .nil)
/-- side_of: 0 name -/
def b9 : Ss :=
  (.cons (.ite (.and (.val (.isi (.var 0) .str)) (.val (.cmp .eq (.var 0) (.str "buy")))) (.cons (.ret (.make0 8))
    .nil) .nil)
  (.cons (.ite (.and (.val (.isi (.var 0) .str)) (.val (.cmp .eq (.var 0) (.str "sell")))) (.cons (.ret (.make0 9))
    .nil) .nil)
  (.cons (.raise 2)
  .nil)))
/-- Sleepers.__init__: 0 self -/
def b10 : Ss :=
  (.cons (.fldSet (.var 0) 1 .dict0)
  .nil)
/-- Sleepers.need: 0 self, 1 number -/
def b11 : Ss :=
  (.cons (.ite (.or (.not (.val (.isi (.var 1) .int))) (.or (.val (.isi (.var 1) .bool)) (.val (.cmp .notin (.var 1) (.fld (.var 0) 1))))) (.cons (.raise 6)
    .nil) .nil)
  .nil)
/-- Sleepers.put: 0 self, 1 number, 2 order -/
def b12 : Ss :=
  (.cons (.subSet (.fld (.var 0) 1) (.var 1) (.var 2))
  .nil)
/-- Sleepers.numbers: 0 self -/
def b13 : Ss :=
  (.cons (.ret (.blt .sorted (.cons (.fld (.var 0) 1) .nil)))
  .nil)
/-- Sleepers.due: 0 self, 1 last, 2 number, 3 order -/
def b14 : Ss :=
  (.cons (.for (.nm 2) (.ex (.meth (.var 0) 2 .nil)) (.cons (.set 3 (.sub (.fld (.var 0) 1) (.var 2)))
    (.cons (.ite (.val (.meth (.call 9 (.cons (.fld (.var 3) 3) .nil)) 4 (.cons (.fld (.var 3) 5) (.cons (.var 1) .nil)))) (.cons (.ret (.var 2))
      .nil) .nil)
    .nil)))
  (.cons (.ret .non)
  .nil))
/-- Sleepers.drop: 0 self, 1 number -/
def b15 : Ss :=
  (.cons (.expr (.meth (.var 0) 6 (.cons (.var 1) .nil)))
  (.cons (.ret (.bm .popK (.fld (.var 0) 1) (.cons (.var 1) .nil)))
  .nil))
/-- Sleepers.order: 0 self, 1 number -/
def b16 : Ss :=
  (.cons (.expr (.meth (.var 0) 6 (.cons (.var 1) .nil)))
  (.cons (.ret (.sub (.fld (.var 0) 1) (.var 1)))
  .nil))
/-- is_whole: 0 thing, 1 least, 2 most -/
def b17 : Ss :=
  (.cons (.ret (.and (.isi (.var 0) .int) (.and (.not (.isi (.var 0) .bool)) (.chain .le .le (.var 1) (.var 0) (.var 2)))))
  .nil)
/-- is_name: 0 thing, 1 sign -/
def b18 : Ss :=
  (.cons (.ite (.or (.not (.val (.isi (.var 0) .str))) (.not (.val (.chain .le .le (.int 1) (.blt .len (.cons (.var 0) .nil)) (.glob 7))))) (.cons (.ret (.bl false))
    .nil) .nil)
  (.cons (.ret (.blt .all (.cons (.comp (.cmp .isin (.var 1) (.glob 8)) (.nm 1) (.ex (.var 0)) .nil [("sign", 1)]) .nil)))
  .nil))
/-- is_price: 0 thing -/
def b19 : Ss :=
  (.cons (.ret (.call 17 (.cons (.var 0) (.cons (.int 1) (.cons (.glob 9) .nil)))))
  .nil)
/-- need_amounts: 0 amount, 1 shown, 2 least -/
def b20 : Ss :=
  (.cons (.ite (.not (.val (.call 19 (.cons (.var 0) .nil)))) (.cons (.raise 4)
    .nil) .nil)
  (.cons (.ite (.and (.val (.cmp .notn (.var 1) .non)) (.not (.val (.call 17 (.cons (.var 1) (.cons (.bin .div (.bin .sub (.bin .add (.var 0) (.glob 10)) (.int 1)) (.glob 10)) (.cons (.var 0) .nil))))))) (.cons (.raise 4)
    .nil) .nil)
  (.cons (.ite (.not (.val (.call 17 (.cons (.var 2) (.cons (.int 0) (.cons (.var 0) .nil)))))) (.cons (.raise 4)
    .nil) .nil)
  .nil)))
/-- need_stay: 0 stay, 1 price, 2 shown -/
def b21 : Ss :=
  (.cons (.ite (.or (.not (.val (.isi (.var 0) .str))) (.val (.cmp .notin (.var 0) (.glob 11)))) (.cons (.raise 5)
    .nil) .nil)
  (.cons (.ite (.and (.val (.cmp .isn (.var 1) .non)) (.val (.cmp .ne (.var 0) (.str "now")))) (.cons (.raise 5)
    .nil) .nil)
  (.cons (.ite (.and (.val (.cmp .eq (.var 0) (.str "now"))) (.val (.cmp .notn (.var 2) .non))) (.cons (.raise 5)
    .nil) .nil)
  .nil)))
/-- Order.__init__: 0 self, 1 member, 2 side, 3 price, 4 amount, 5 shown, 6 least, 7 stay, 8 wake -/
def b22 : Ss :=
  (.cons (.ite (.not (.val (.call 18 (.cons (.var 1) .nil)))) (.cons (.raise 1)
    .nil) .nil)
  (.cons (.expr (.call 9 (.cons (.var 2) .nil)))
  (.cons (.ite (.and (.val (.cmp .notn (.var 3) .non)) (.not (.val (.call 19 (.cons (.var 3) .nil))))) (.cons (.raise 3)
    .nil) .nil)
  (.cons (.expr (.call 20 (.cons (.var 4) (.cons (.var 5) (.cons (.var 6) .nil)))))
  (.cons (.expr (.call 21 (.cons (.var 7) (.cons (.var 3) (.cons (.var 5) .nil)))))
  (.cons (.ite (.and (.val (.cmp .notn (.var 8) .non)) (.not (.val (.call 19 (.cons (.var 8) .nil))))) (.cons (.raise 3)
    .nil) .nil)
  (.cons (.fldSet (.var 0) 12 (.var 1))
  (.cons (.fldSet (.var 0) 3 (.var 2))
  (.cons (.fldSet (.var 0) 13 (.var 3))
  (.cons (.fldSet (.var 0) 14 (.var 4))
  (.cons (.fldSet (.var 0) 15 (.var 5))
  (.cons (.fldSet (.var 0) 16 (.var 6))
  (.cons (.fldSet (.var 0) 17 (.var 7))
  (.cons (.fldSet (.var 0) 5 (.var 8))
  .nil))))))))))))))
/-- _law_cell_at: 0 _law_script, 1 _law_k -/
def b23 : Ss :=
  (.cons (.ite (.val (.cmp .lt (.var 1) (.blt .len (.cons (.var 0) .nil)))) (.cons (.ret (.sub (.var 0) (.var 1)))
    .nil) .nil)
  (.cons (.ret (.int 0))
  .nil))
/-- _law_mixed: 0 _law_cell, 1 _law_k -/
def b24 : Ss :=
  (.cons (.ret (.bin .mod (.bin .mul (.bin .mod (.bin .add (.bin .add (.bin .mul (.var 0) (.bin .add (.int 48271) (.bin .mul (.bin .mul (.int 2) (.var 1)) (.var 1)))) (.bin .mul (.int 69621) (.var 1))) (.int 11)) (.int 2147483647)) (.int 69621)) (.int 2147483629)))
  .nil)
/-- _law_sleeper: 0 _law_cell, 1 _law_base, 2 _law_more, 3 _law_price, 4 _law_wake -/
def b25 : Ss :=
  (.cons (.set 2 (.call 24 (.cons (.var 0) (.cons (.int 3) .nil))))
  (.cons (.set 3 (.sub (.lst (.cons .non (.cons (.bin .add (.int 1) (.bin .mod (.bin .div (.var 2) (.int 4)) (.bin .pow (.int 10) (.int 9)))) .nil))) (.bin .mod (.bin .div (.var 2) (.int 2)) (.int 2))))
  (.cons (.set 4 (.blt .min (.cons (.bin .pow (.int 10) (.int 9)) (.cons (.bin .add (.var 1) (.bin .mod (.call 24 (.cons (.var 0) (.cons (.int 4) .nil))) (.sub (.lst (.cons (.int 2) (.cons (.int 7) (.cons (.int 40) .nil)))) (.bin .mod (.bin .div (.var 2) (.int 8)) (.int 3))))) .nil))))
  (.cons (.ret (.tup (.cons (.sub (.lst (.cons (.str "buy") (.cons (.str "sell") .nil))) (.bin .mod (.var 2) (.int 2))) (.cons (.var 3) (.cons (.bin .add (.int 1) (.bin .mod (.call 24 (.cons (.var 0) (.cons (.int 5) .nil))) (.bin .pow (.int 10) (.int 9)))) (.cons (.var 4) .nil))))))
  .nil))))
/-- _law_made: 0 _law_parts, 1 _law_stay -/
def b26 : Ss :=
  (.cons (.set 1 (.ite (.val (.cmp .isn (.sub (.var 0) (.int 1)) .non)) (.str "now") (.str "stay")))
  (.cons (.ret (.make 11 (.cons (.str "ann") (.cons (.sub (.var 0) (.int 0)) (.cons (.sub (.var 0) (.int 1)) (.cons (.sub (.var 0) (.int 2)) (.cons .non (.cons (.int 0) (.cons (.var 1) (.cons (.sub (.var 0) (.int 3)) .nil))))))))))
  .nil))
/-- _law_due: 0 _law_rows, 1 _law_last, 2 _law_number, 3 _law_side, 4 _law_price, 5 _law_amount, 6 _law_wake -/
def b27 : Ss :=
  (.cons (.for (.nm 2) (.ex (.blt .sorted (.cons (.var 0) .nil))) (.cons (.setT (.cons (.nm 3) (.cons (.nm 4) (.cons (.nm 5) (.cons (.nm 6) .nil)))) (.sub (.var 0) (.var 2)))
    (.cons (.ite (.or (.and (.val (.cmp .eq (.var 3) (.str "buy"))) (.val (.cmp .ge (.var 1) (.var 6)))) (.and (.val (.cmp .eq (.var 3) (.str "sell"))) (.val (.cmp .le (.var 1) (.var 6))))) (.cons (.ret (.var 2))
      .nil) .nil)
    .nil)))
  (.cons (.ret .non)
  .nil))
/-- _law_caught: 0 _law_sleepers, 1 _law_number, 2 _law_way, 3 _law_found, 4 e -/
def b28 : Ss :=
  (.cons (.set 3 .non)
  (.cons (.tryAs (.cons (.ite (.val (.cmp .eq (.var 2) (.int 0))) (.cons (.expr (.meth (.var 0) 18 (.cons (.var 1) .nil)))
      .nil) (.cons (.expr (.meth (.var 0) 19 (.cons (.var 1) .nil)))
      .nil))
    .nil) 0 4 3)
  (.cons (.ret (.var 3))
  .nil)))
/-- _law_refused: 0 _law_sleepers, 1 _law_rows, 2 _law_cell, 3 _law_odd, 4 _law_way, 5 _law_found -/
def b29 : Ss :=
  (.cons (.set 3 (.sub (.lst (.cons (.neg (.int 1)) (.cons .non (.cons (.bl true) (.cons (.str "0") (.cons (.lst (.cons (.int 0) .nil)) (.cons (.bin .add (.bin .add (.blt .max (.cons (.bin .add (.lst (.cons (.int 0) .nil)) (.blt .list (.cons (.var 1) .nil))) .nil)) (.int 1)) (.bin .mod (.bin .div (.var 2) (.int 7)) (.int 9))) (.cons (.tup .nil) .nil)))))))) (.bin .mod (.var 2) (.int 7))))
  (.cons (.for (.nm 4) (.range1 (.int 2)) (.cons (.set 5 (.call 28 (.cons (.var 0) (.cons (.var 3) (.cons (.var 4) .nil)))))
    (.cons (.ite (.or (.not (.val (.isx (.var 5) (some 6)))) (.not (.val (.isx (.var 5) none)))) (.cons (.ret (.bl false))
      .nil) .nil)
    .nil)))
  (.cons (.ret (.bl true))
  .nil)))
/-- _law_like: 0 _law_order, 1 _law_parts, 2 _law_values -/
def b30 : Ss :=
  (.cons (.set 2 (.tup (.cons (.fld (.var 0) 3) (.cons (.fld (.var 0) 13) (.cons (.fld (.var 0) 14) (.cons (.fld (.var 0) 5) .nil))))))
  (.cons (.ret (.and (.cmp .eq (.var 2) (.var 1)) (.cmp .eq (.fld (.var 0) 12) (.str "ann"))))
  .nil))
/-- _law_stands: 0 _law_sleepers, 1 _law_rows, 2 _law_cell, 3 _law_base, 4 _law_turn, 5 _law_way, 6 _law_found, 7 _law_last, 8 _law_number -/
def b31 : Ss :=
  (.cons (.for (.nm 4) (.range1 (.int 3)) (.cons (.set 5 (.bin .mod (.bin .add (.var 2) (.bin .mul (.var 4) (.bin .add (.int 1) (.bin .mod (.bin .div (.var 2) (.int 3)) (.int 2))))) (.int 3)))
    (.cons (.ite (.val (.cmp .eq (.var 5) (.int 0))) (.cons (.set 6 (.meth (.var 0) 2 .nil))
      (.cons (.ite (.or (.not (.val (.isi (.var 6) .list))) (.val (.cmp .ne (.var 6) (.blt .sorted (.cons (.var 1) .nil))))) (.cons (.ret (.bl false))
        .nil) .nil)
      (.cons (.expr (.bm .append (.var 6) (.cons (.int 5) .nil)))
      .nil))) (.cons (.ite (.val (.cmp .eq (.var 5) (.int 1))) (.cons (.for (.nm 7) (.ex (.tup (.cons (.blt .max (.cons (.int 1) (.cons (.bin .add (.bin .sub (.var 3) (.int 2)) (.bin .mod (.bin .div (.var 2) (.int 6)) (.int 44))) .nil))) (.cons (.bin .add (.var 3) (.bin .mod (.bin .div (.var 2) (.int 264)) (.int 9))) .nil)))) (.cons (.set 6 (.meth (.var 0) 20 (.cons (.var 7) .nil)))
          (.cons (.ite (.or (.val (.isi (.var 6) .bool)) (.or (.val (.cmp .ne (.var 6) (.call 27 (.cons (.var 1) (.cons (.var 7) .nil))))) (.val (.cmp .ne (.meth (.var 0) 20 (.cons (.var 7) .nil)) (.var 6))))) (.cons (.ret (.bl false))
            .nil) .nil)
          .nil)))
        .nil) (.cons (.ite (.val (.cmp .ne (.compD (.var 8) (.nm 8) (.var 1) (.one (.not (.val (.call 30 (.cons (.meth (.var 0) 18 (.cons (.var 8) .nil)) (.cons (.sub (.var 1) (.var 8)) .nil)))))) [("_law_number", 8)]) (.lst .nil))) (.cons (.ret (.bl false))
          .nil) .nil)
        .nil))
      .nil))
    .nil)))
  (.cons (.ret (.bl true))
  .nil))
/-- law: 0 _law_script, 1 _law_base, 2 _law_sleepers, 3 _law_other, 4 _law_rows, 5 _law_k, 6 _law_cell, 7 _law_more, 8 _law_gone, 9 _law_number -/
def b32 : Ss :=
  (.cons (.set 1 (.bin .add (.int 1) (.bin .mod (.call 24 (.cons (.call 23 (.cons (.var 0) (.cons (.int 0) .nil))) (.cons (.int 1) .nil))) (.bin .sub (.bin .pow (.int 10) (.int 9)) (.int 50)))))
  (.cons (.set 2 (.make 10 .nil))
  (.cons (.set 3 (.make 10 .nil))
  (.cons (.expr (.meth (.var 3) 21 (.cons (.int 4) (.cons (.call 26 (.cons (.tup (.cons (.str "buy") (.cons .non (.cons (.int 5) (.cons (.var 1) .nil))))) .nil)) .nil))))
  (.cons (.set 4 .dict0)
  (.cons (.for (.nm 5) (.range3 (.int 1) (.blt .min (.cons (.int 49) (.cons (.blt .len (.cons (.var 0) .nil)) .nil))) 2) (.cons (.set 6 (.call 24 (.cons (.sub (.var 0) (.var 5)) (.cons (.var 5) .nil))))
    (.cons (.set 7 (.call 24 (.cons (.call 23 (.cons (.var 0) (.cons (.bin .add (.var 5) (.int 1)) .nil))) (.cons (.bin .add (.var 5) (.int 1)) .nil))))
    (.cons (.ite (.and (.val (.cmp .eq (.bin .mod (.var 6) (.int 4)) (.int 1))) (.val (.cmp .ne (.var 4) .dict0))) (.cons (.set 8 (.sub (.blt .sorted (.cons (.var 4) .nil)) (.bin .mod (.var 7) (.blt .len (.cons (.var 4) .nil)))))
      (.cons (.ite (.not (.val (.call 30 (.cons (.meth (.var 2) 19 (.cons (.var 8) .nil)) (.cons (.bm .popK (.var 4) (.cons (.var 8) .nil)) .nil))))) (.cons (.ret (.bl false))
        .nil) .nil)
      .nil)) (.cons (.set 9 (.bin .mod (.bin .div (.var 6) (.int 4)) (.int 400)))
      (.cons (.while (.val (.cmp .isin (.var 9) (.var 4))) (.cons (.set 9 (.bin .add (.var 9) (.int 1)))
        .nil))
      (.cons (.subSet (.var 4) (.var 9) (.call 25 (.cons (.var 7) (.cons (.var 1) .nil))))
      (.cons (.ite (.val (.cmp .notn (.meth (.var 2) 21 (.cons (.var 9) (.cons (.call 26 (.cons (.sub (.var 4) (.var 9)) .nil)) .nil))) .non)) (.cons (.ret (.bl false))
        .nil) .nil)
      .nil)))))
    (.cons (.ite (.not (.val (.call 31 (.cons (.var 2) (.cons (.var 4) (.cons (.bin .div (.var 7) (.int 9)) (.cons (.var 1) .nil))))))) (.cons (.ret (.bl false))
      .nil) .nil)
    (.cons (.ite (.and (.val (.cmp .eq (.bin .mod (.bin .div (.var 6) (.int 20)) (.int 3)) (.int 1))) (.not (.val (.call 29 (.cons (.var 2) (.cons (.var 4) (.cons (.bin .div (.var 6) (.int 60)) .nil))))))) (.cons (.ret (.bl false))
      .nil) .nil)
    .nil))))))
  (.cons (.ret (.and (.cmp .eq (.meth (.var 3) 2 .nil) (.lst (.cons (.int 4) .nil))) (.and (.cmp .eq (.meth (.var 3) 20 (.cons (.var 1) .nil)) (.int 4)) (.cmp .eq (.meth (.var 3) 20 (.cons (.blt .max (.cons (.int 1) (.cons (.bin .sub (.var 1) (.int 1)) .nil))) .nil)) (.ite (.val (.cmp .eq (.var 1) (.int 1))) (.int 4) .non)))))
  .nil)))))))
def tab : List FnI := [⟨1, 1, b0, []⟩, ⟨1, 1, b1, []⟩, ⟨1, 1, b2, []⟩, ⟨3, 3, b3, []⟩, ⟨3, 3, b4, []⟩, ⟨3, 3, b5, []⟩, ⟨1, 1, b6, []⟩, ⟨1, 1, b7, []⟩, ⟨3, 3, b8, []⟩, ⟨1, 1, b9, []⟩, ⟨1, 1, b10, []⟩, ⟨2, 2, b11, []⟩, ⟨3, 3, b12, []⟩, ⟨1, 1, b13, []⟩, ⟨2, 4, b14, []⟩, ⟨2, 2, b15, []⟩, ⟨2, 2, b16, []⟩, ⟨3, 3, b17, []⟩, ⟨1, 2, b18, []⟩, ⟨1, 1, b19, []⟩, ⟨3, 3, b20, []⟩, ⟨3, 3, b21, []⟩, ⟨9, 9, b22, [.non, .int 0, .str "stay", .non]⟩, ⟨2, 2, b23, []⟩, ⟨2, 2, b24, []⟩, ⟨2, 5, b25, []⟩, ⟨1, 2, b26, []⟩, ⟨2, 7, b27, []⟩, ⟨3, 5, b28, []⟩, ⟨3, 6, b29, []⟩, ⟨2, 3, b30, []⟩, ⟨4, 9, b31, []⟩, ⟨1, 10, b32, []⟩]
def nms : List Str := ["is_ahead", "orders", "numbers", "side", "wakes", "wake", "need", "MOST_LETTERS", "LETTERS", "MOST", "MOST_PARTS", "STAYS", "member", "price", "amount", "shown", "least", "stay", "order", "drop", "due", "put", "name", "other", "takes"]
theorem nd_nms : nms.Nodup := by decide +kernel
def meT : List (Nat × Nat × Nat) := [(8, 22, 1), (8, 23, 2), (8, 0, 3), (8, 24, 4), (8, 4, 5), (9, 22, 6), (9, 23, 7), (9, 0, 8), (9, 24, 4), (9, 4, 5), (10, 6, 11), (10, 21, 12), (10, 2, 13), (10, 20, 14), (10, 19, 15), (10, 18, 16)]
def inT : List (Nat × Nat) := [(10, 10), (11, 22)]
def flT : List (Nat × Nat) := [(10, 1), (11, 12), (11, 3), (11, 13), (11, 14), (11, 15), (11, 16), (11, 17), (11, 5)]
def isT : List (Nat × Nat × Bool) := [(2, 6, false), (6, 6, true), (4, 6, false), (5, 6, false), (1, 6, false), (3, 6, false)]
def xmT : List (Nat × Nat × Bool) := [(2, 0, true), (6, 0, true), (4, 0, true), (5, 0, true), (1, 0, true), (3, 0, true)]
def exT : List Nat := [2, 6, 4, 5, 1, 3]
def icT : List Nat := []
def izT : List Nat := [6]
def ivT : List (Nat × Bool) := [(2, true), (6, true), (4, true), (5, true), (1, true), (3, true)]
def i0T : List Nat := [8, 9]
def glT : List (Nat × PV) := [(7, .int 8), (8, .str "abcdefghijklmnopqrstuvwxyz"), (9, .int 1000000000), (10, .int 50), (11, .tup [.str "stay", .str "bell", .str "now"])]
def clT : List (Nat × Str) := [(0, "PitError"), (1, "BadName"), (2, "BadSide"), (3, "BadPrice"), (4, "BadAmount"), (5, "BadStay"), (6, "NoOrder"), (8, "Buy"), (9, "Sell"), (10, "Sleepers"), (11, "Order")]
def sg : Sig := ⟨nms, fun f => tab[f]?, meOf meT, inOf inT, fun k f => decide ((k, f) ∈ flT), twOf isT, inOf glT, fun k => decide (k ∈ i0T), fun k => decide (k ∈ exT), twOf xmT, fun k => decide (k ∈ icT), fun k => decide (k ∈ izT), inOf ivT⟩
def fnT : List (Nat × Str) := [(0, "_wall"), (9, "side_of"), (17, "is_whole"), (18, "is_name"), (19, "is_price"), (20, "need_amounts"), (21, "need_stay"), (23, "_law_cell_at"), (24, "_law_mixed"), (25, "_law_sleeper"), (26, "_law_made"), (27, "_law_due"), (28, "_law_caught"), (29, "_law_refused"), (30, "_law_like"), (31, "_law_stands"), (32, "law")]
def bls : List Str := ["isinstance", "str", "bool", "int", "sorted", "len", "all", "min", "max", "list", "range", "ValueError"]
def ct : Ct := ⟨sg, [], inOf fnT, inOf clT, bls⟩
def top (i : Nat) : Stmt := PySem.Challenge.pw_pitclear_k10_sleepers.main.body.getD i (.Pass ⟨0, 0, 0, 0⟩)
abbrev s0 : Stmt := top 0
def N0 : List Str := ["k"]
def P0 : List Str := ["k"]
theorem sc0 : FnScope N0 P0 (defScope s0) := ⟨rfl, rfl, rfl, by decide +kernel, rfl, by decide +kernel, by decide +kernel⟩
theorem ck0 : chkSs { ct with N := N0 } b0 (defScope s0) (defBody s0) = true := by decide +kernel
abbrev s1 : Stmt := inClass (top 10) 0
def N1 : List Str := ["self"]
def P1 : List Str := ["self"]
theorem sc1 : FnScope N1 P1 (defScope s1) := ⟨rfl, rfl, rfl, by decide +kernel, rfl, by decide +kernel, by decide +kernel⟩
theorem ck1 : chkSs { ct with N := N1 } b1 (defScope s1) (defBody s1) = true := by decide +kernel
abbrev s2 : Stmt := inClass (top 10) 1
def N2 : List Str := ["self"]
def P2 : List Str := ["self"]
theorem sc2 : FnScope N2 P2 (defScope s2) := ⟨rfl, rfl, rfl, by decide +kernel, rfl, by decide +kernel, by decide +kernel⟩
theorem ck2 : chkSs { ct with N := N2 } b2 (defScope s2) (defBody s2) = true := by decide +kernel
abbrev s3 : Stmt := inClass (top 10) 2
def N3 : List Str := ["self", "price", "second"]
def P3 : List Str := ["self", "price", "second"]
theorem sc3 : FnScope N3 P3 (defScope s3) := ⟨rfl, rfl, rfl, by decide +kernel, rfl, by decide +kernel, by decide +kernel⟩
theorem ck3 : chkSs { ct with N := N3 } b3 (defScope s3) (defBody s3) = true := by decide +kernel
abbrev s4 : Stmt := inClass (top 10) 3
def N4 : List Str := ["self", "limit", "price"]
def P4 : List Str := ["self", "limit", "price"]
theorem sc4 : FnScope N4 P4 (defScope s4) := ⟨rfl, rfl, rfl, by decide +kernel, rfl, by decide +kernel, by decide +kernel⟩
theorem ck4 : chkSs { ct with N := N4 } b4 (defScope s4) (defBody s4) = true := by decide +kernel
abbrev s5 : Stmt := inClass (top 10) 4
def N5 : List Str := ["self", "wake", "last"]
def P5 : List Str := ["self", "wake", "last"]
theorem sc5 : FnScope N5 P5 (defScope s5) := ⟨rfl, rfl, rfl, by decide +kernel, rfl, by decide +kernel, by decide +kernel⟩
theorem ck5 : chkSs { ct with N := N5 } b5 (defScope s5) (defBody s5) = true := by decide +kernel
abbrev s6 : Stmt := inClass (top 12) 0
def N6 : List Str := ["self"]
def P6 : List Str := ["self"]
theorem sc6 : FnScope N6 P6 (defScope s6) := ⟨rfl, rfl, rfl, by decide +kernel, rfl, by decide +kernel, by decide +kernel⟩
theorem ck6 : chkSs { ct with N := N6 } b6 (defScope s6) (defBody s6) = true := by decide +kernel
abbrev s7 : Stmt := inClass (top 12) 1
def N7 : List Str := ["self"]
def P7 : List Str := ["self"]
theorem sc7 : FnScope N7 P7 (defScope s7) := ⟨rfl, rfl, rfl, by decide +kernel, rfl, by decide +kernel, by decide +kernel⟩
theorem ck7 : chkSs { ct with N := N7 } b7 (defScope s7) (defBody s7) = true := by decide +kernel
abbrev s8 : Stmt := inClass (top 12) 2
def N8 : List Str := ["self", "price", "second"]
def P8 : List Str := ["self", "price", "second"]
theorem sc8 : FnScope N8 P8 (defScope s8) := ⟨rfl, rfl, rfl, by decide +kernel, rfl, by decide +kernel, by decide +kernel⟩
theorem ck8 : chkSs { ct with N := N8 } b8 (defScope s8) (defBody s8) = true := by decide +kernel
abbrev s9 : Stmt := top 13
def N9 : List Str := ["name"]
def P9 : List Str := ["name"]
theorem sc9 : FnScope N9 P9 (defScope s9) := ⟨rfl, rfl, rfl, by decide +kernel, rfl, by decide +kernel, by decide +kernel⟩
theorem ck9 : chkSs { ct with N := N9 } b9 (defScope s9) (defBody s9) = true := by decide +kernel
abbrev s10 : Stmt := inClass (top 15) 0
def N10 : List Str := ["self"]
def P10 : List Str := ["self"]
theorem sc10 : FnScope N10 P10 (defScope s10) := ⟨rfl, rfl, rfl, by decide +kernel, rfl, by decide +kernel, by decide +kernel⟩
theorem ck10 : chkSs { ct with N := N10 } b10 (defScope s10) (defBody s10) = true := by decide +kernel
abbrev s11 : Stmt := inClass (top 15) 1
def N11 : List Str := ["self", "number"]
def P11 : List Str := ["self", "number"]
theorem sc11 : FnScope N11 P11 (defScope s11) := ⟨rfl, rfl, rfl, by decide +kernel, rfl, by decide +kernel, by decide +kernel⟩
theorem ck11 : chkSs { ct with N := N11 } b11 (defScope s11) (defBody s11) = true := by decide +kernel
abbrev s12 : Stmt := inClass (top 15) 2
def N12 : List Str := ["self", "number", "order"]
def P12 : List Str := ["self", "number", "order"]
theorem sc12 : FnScope N12 P12 (defScope s12) := ⟨rfl, rfl, rfl, by decide +kernel, rfl, by decide +kernel, by decide +kernel⟩
theorem ck12 : chkSs { ct with N := N12 } b12 (defScope s12) (defBody s12) = true := by decide +kernel
abbrev s13 : Stmt := inClass (top 15) 3
def N13 : List Str := ["self"]
def P13 : List Str := ["self"]
theorem sc13 : FnScope N13 P13 (defScope s13) := ⟨rfl, rfl, rfl, by decide +kernel, rfl, by decide +kernel, by decide +kernel⟩
theorem ck13 : chkSs { ct with N := N13 } b13 (defScope s13) (defBody s13) = true := by decide +kernel
abbrev s14 : Stmt := inClass (top 15) 4
def N14 : List Str := ["self", "last", "number", "order"]
def P14 : List Str := ["self", "last"]
theorem sc14 : FnScope N14 P14 (defScope s14) := ⟨rfl, rfl, rfl, by decide +kernel, rfl, by decide +kernel, by decide +kernel⟩
theorem ck14 : chkSs { ct with N := N14 } b14 (defScope s14) (defBody s14) = true := by decide +kernel
abbrev s15 : Stmt := inClass (top 15) 5
def N15 : List Str := ["self", "number"]
def P15 : List Str := ["self", "number"]
theorem sc15 : FnScope N15 P15 (defScope s15) := ⟨rfl, rfl, rfl, by decide +kernel, rfl, by decide +kernel, by decide +kernel⟩
theorem ck15 : chkSs { ct with N := N15 } b15 (defScope s15) (defBody s15) = true := by decide +kernel
abbrev s16 : Stmt := inClass (top 15) 6
def N16 : List Str := ["self", "number"]
def P16 : List Str := ["self", "number"]
theorem sc16 : FnScope N16 P16 (defScope s16) := ⟨rfl, rfl, rfl, by decide +kernel, rfl, by decide +kernel, by decide +kernel⟩
theorem ck16 : chkSs { ct with N := N16 } b16 (defScope s16) (defBody s16) = true := by decide +kernel
abbrev s17 : Stmt := top 20
def N17 : List Str := ["thing", "least", "most"]
def P17 : List Str := ["thing", "least", "most"]
theorem sc17 : FnScope N17 P17 (defScope s17) := ⟨rfl, rfl, rfl, by decide +kernel, rfl, by decide +kernel, by decide +kernel⟩
theorem ck17 : chkSs { ct with N := N17 } b17 (defScope s17) (defBody s17) = true := by decide +kernel
abbrev s18 : Stmt := top 21
def N18 : List Str := ["thing", "sign"]
def P18 : List Str := ["thing"]
theorem sc18 : FnScope N18 P18 (defScope s18) := ⟨rfl, rfl, rfl, by decide +kernel, rfl, by decide +kernel, by decide +kernel⟩
theorem ck18 : chkSs { ct with N := N18 } b18 (defScope s18) (defBody s18) = true := by decide +kernel
abbrev s19 : Stmt := top 22
def N19 : List Str := ["thing"]
def P19 : List Str := ["thing"]
theorem sc19 : FnScope N19 P19 (defScope s19) := ⟨rfl, rfl, rfl, by decide +kernel, rfl, by decide +kernel, by decide +kernel⟩
theorem ck19 : chkSs { ct with N := N19 } b19 (defScope s19) (defBody s19) = true := by decide +kernel
abbrev s20 : Stmt := top 26
def N20 : List Str := ["amount", "shown", "least"]
def P20 : List Str := ["amount", "shown", "least"]
theorem sc20 : FnScope N20 P20 (defScope s20) := ⟨rfl, rfl, rfl, by decide +kernel, rfl, by decide +kernel, by decide +kernel⟩
theorem ck20 : chkSs { ct with N := N20 } b20 (defScope s20) (defBody s20) = true := by decide +kernel
abbrev s21 : Stmt := top 27
def N21 : List Str := ["stay", "price", "shown"]
def P21 : List Str := ["stay", "price", "shown"]
theorem sc21 : FnScope N21 P21 (defScope s21) := ⟨rfl, rfl, rfl, by decide +kernel, rfl, by decide +kernel, by decide +kernel⟩
theorem ck21 : chkSs { ct with N := N21 } b21 (defScope s21) (defBody s21) = true := by decide +kernel
abbrev s22 : Stmt := inClass (top 28) 0
def N22 : List Str := ["self", "member", "side", "price", "amount", "shown", "least", "stay", "wake"]
def P22 : List Str := ["self", "member", "side", "price", "amount", "shown", "least", "stay", "wake"]
theorem sc22 : FnScope N22 P22 (defScope s22) := ⟨rfl, rfl, rfl, by decide +kernel, rfl, by decide +kernel, by decide +kernel⟩
theorem ck22 : chkSs { ct with N := N22 } b22 (defScope s22) (defBody s22) = true := by decide +kernel
abbrev s23 : Stmt := top 30
def N23 : List Str := ["_law_script", "_law_k"]
def P23 : List Str := ["_law_script", "_law_k"]
theorem sc23 : FnScope N23 P23 (defScope s23) := ⟨rfl, rfl, rfl, by decide +kernel, rfl, by decide +kernel, by decide +kernel⟩
theorem ck23 : chkSs { ct with N := N23 } b23 (defScope s23) (defBody s23) = true := by decide +kernel
abbrev s24 : Stmt := top 31
def N24 : List Str := ["_law_cell", "_law_k"]
def P24 : List Str := ["_law_cell", "_law_k"]
theorem sc24 : FnScope N24 P24 (defScope s24) := ⟨rfl, rfl, rfl, by decide +kernel, rfl, by decide +kernel, by decide +kernel⟩
theorem ck24 : chkSs { ct with N := N24 } b24 (defScope s24) (defBody s24) = true := by decide +kernel
abbrev s25 : Stmt := top 32
def N25 : List Str := ["_law_cell", "_law_base", "_law_more", "_law_price", "_law_wake"]
def P25 : List Str := ["_law_cell", "_law_base"]
theorem sc25 : FnScope N25 P25 (defScope s25) := ⟨rfl, rfl, rfl, by decide +kernel, rfl, by decide +kernel, by decide +kernel⟩
theorem ck25 : chkSs { ct with N := N25 } b25 (defScope s25) (defBody s25) = true := by decide +kernel
abbrev s26 : Stmt := top 33
def N26 : List Str := ["_law_parts", "_law_stay"]
def P26 : List Str := ["_law_parts"]
theorem sc26 : FnScope N26 P26 (defScope s26) := ⟨rfl, rfl, rfl, by decide +kernel, rfl, by decide +kernel, by decide +kernel⟩
theorem ck26 : chkSs { ct with N := N26 } b26 (defScope s26) (defBody s26) = true := by decide +kernel
abbrev s27 : Stmt := top 34
def N27 : List Str := ["_law_rows", "_law_last", "_law_number", "_law_side", "_law_price", "_law_amount", "_law_wake"]
def P27 : List Str := ["_law_rows", "_law_last"]
theorem sc27 : FnScope N27 P27 (defScope s27) := ⟨rfl, rfl, rfl, by decide +kernel, rfl, by decide +kernel, by decide +kernel⟩
theorem ck27 : chkSs { ct with N := N27 } b27 (defScope s27) (defBody s27) = true := by decide +kernel
abbrev s28 : Stmt := top 35
def N28 : List Str := ["_law_sleepers", "_law_number", "_law_way", "_law_found", "e"]
def P28 : List Str := ["_law_sleepers", "_law_number", "_law_way"]
theorem sc28 : FnScope N28 P28 (defScope s28) := ⟨rfl, rfl, rfl, by decide +kernel, rfl, by decide +kernel, by decide +kernel⟩
theorem ck28 : chkSs { ct with N := N28 } b28 (defScope s28) (defBody s28) = true := by decide +kernel
abbrev s29 : Stmt := top 36
def N29 : List Str := ["_law_sleepers", "_law_rows", "_law_cell", "_law_odd", "_law_way", "_law_found"]
def P29 : List Str := ["_law_sleepers", "_law_rows", "_law_cell"]
theorem sc29 : FnScope N29 P29 (defScope s29) := ⟨rfl, rfl, rfl, by decide +kernel, rfl, by decide +kernel, by decide +kernel⟩
theorem ck29 : chkSs { ct with N := N29 } b29 (defScope s29) (defBody s29) = true := by decide +kernel
abbrev s30 : Stmt := top 37
def N30 : List Str := ["_law_order", "_law_parts", "_law_values"]
def P30 : List Str := ["_law_order", "_law_parts"]
theorem sc30 : FnScope N30 P30 (defScope s30) := ⟨rfl, rfl, rfl, by decide +kernel, rfl, by decide +kernel, by decide +kernel⟩
theorem ck30 : chkSs { ct with N := N30 } b30 (defScope s30) (defBody s30) = true := by decide +kernel
abbrev s31 : Stmt := top 38
def N31 : List Str := ["_law_sleepers", "_law_rows", "_law_cell", "_law_base", "_law_turn", "_law_way", "_law_found", "_law_last", "_law_number"]
def P31 : List Str := ["_law_sleepers", "_law_rows", "_law_cell", "_law_base"]
theorem sc31 : FnScope N31 P31 (defScope s31) := ⟨rfl, rfl, rfl, by decide +kernel, rfl, by decide +kernel, by decide +kernel⟩
theorem ck31 : chkSs { ct with N := N31 } b31 (defScope s31) (defBody s31) = true := by decide +kernel
abbrev s32 : Stmt := top 39
def N32 : List Str := ["_law_script", "_law_base", "_law_sleepers", "_law_other", "_law_rows", "_law_k", "_law_cell", "_law_more", "_law_gone", "_law_number"]
def P32 : List Str := ["_law_script"]
theorem sc32 : FnScope N32 P32 (defScope s32) := ⟨rfl, rfl, rfl, by decide +kernel, rfl, by decide +kernel, by decide +kernel⟩
theorem ck32 : chkSs { ct with N := N32 } b32 (defScope s32) (defBody s32) = true := by decide +kernel
theorem pad (f : Nat) (vs : List PV) (h22 : (f == 22) = false) : padD sg f vs = vs := by
  unfold padD
  split
  · rename_i d e
    have h : ∀ d ∈ tab.zipIdx, (d.2 == 22) = false → d.1.dflt = [] := by simp [tab]
    rw [h (d, f) (List.mem_zipIdx_iff_getElem?.mpr e) h22, List.drop_nil, List.append_nil]
  · rfl
theorem sgf_pad_22_5 (x0 x1 x2 x3 x4 : PV) : padD sg 22 [x0, x1, x2, x3, x4] = [x0, x1, x2, x3, x4, .non, .int 0, .str "stay", .non] := rfl
theorem sgf_pad_22_6 (x0 x1 x2 x3 x4 x5 : PV) : padD sg 22 [x0, x1, x2, x3, x4, x5] = [x0, x1, x2, x3, x4, x5, .int 0, .str "stay", .non] := rfl
theorem sgf_pad_22_7 (x0 x1 x2 x3 x4 x5 x6 : PV) : padD sg 22 [x0, x1, x2, x3, x4, x5, x6] = [x0, x1, x2, x3, x4, x5, x6, .str "stay", .non] := rfl
theorem sgf_pad_22_8 (x0 x1 x2 x3 x4 x5 x6 x7 : PV) : padD sg 22 [x0, x1, x2, x3, x4, x5, x6, x7] = [x0, x1, x2, x3, x4, x5, x6, x7, .non] := rfl
theorem sgf_pad_22_9 (x0 x1 x2 x3 x4 x5 x6 x7 x8 : PV) : padD sg 22 [x0, x1, x2, x3, x4, x5, x6, x7, x8] = [x0, x1, x2, x3, x4, x5, x6, x7, x8] := rfl
theorem sgf_me_8_22 : sg.me 8 22 = some 1 := rfl
theorem sgf_me_8_23 : sg.me 8 23 = some 2 := rfl
theorem sgf_me_8_0 : sg.me 8 0 = some 3 := rfl
theorem sgf_me_8_24 : sg.me 8 24 = some 4 := rfl
theorem sgf_me_8_4 : sg.me 8 4 = some 5 := rfl
theorem sgf_me_9_22 : sg.me 9 22 = some 6 := rfl
theorem sgf_me_9_23 : sg.me 9 23 = some 7 := rfl
theorem sgf_me_9_0 : sg.me 9 0 = some 8 := rfl
theorem sgf_me_9_24 : sg.me 9 24 = some 4 := rfl
theorem sgf_me_9_4 : sg.me 9 4 = some 5 := rfl
theorem sgf_me_10_6 : sg.me 10 6 = some 11 := rfl
theorem sgf_me_10_21 : sg.me 10 21 = some 12 := rfl
theorem sgf_me_10_2 : sg.me 10 2 = some 13 := rfl
theorem sgf_me_10_20 : sg.me 10 20 = some 14 := rfl
theorem sgf_me_10_19 : sg.me 10 19 = some 15 := rfl
theorem sgf_me_10_18 : sg.me 10 18 = some 16 := rfl
theorem sgf_ini_10 : sg.ini 10 = some 10 := rfl
theorem sgf_ini_11 : sg.ini 11 = some 22 := rfl
theorem sgf_in0_8 : sg.in0 8 = true := rfl
theorem sgf_in0_9 : sg.in0 9 = true := rfl
theorem sgf_fl_10_1 : sg.fl 10 1 = true := rfl
theorem sgf_fl_11_12 : sg.fl 11 12 = true := rfl
theorem sgf_fl_11_3 : sg.fl 11 3 = true := rfl
theorem sgf_fl_11_13 : sg.fl 11 13 = true := rfl
theorem sgf_fl_11_14 : sg.fl 11 14 = true := rfl
theorem sgf_fl_11_15 : sg.fl 11 15 = true := rfl
theorem sgf_fl_11_16 : sg.fl 11 16 = true := rfl
theorem sgf_fl_11_17 : sg.fl 11 17 = true := rfl
theorem sgf_fl_11_5 : sg.fl 11 5 = true := rfl
theorem sgf_exc_2 : sg.exc 2 = true := rfl
theorem sgf_exc_6 : sg.exc 6 = true := rfl
theorem sgf_exc_4 : sg.exc 4 = true := rfl
theorem sgf_exc_5 : sg.exc 5 = true := rfl
theorem sgf_exc_1 : sg.exc 1 = true := rfl
theorem sgf_exc_3 : sg.exc 3 = true := rfl
theorem sgf_exm_2_0 : sg.exm 2 0 = some true := rfl
theorem sgf_exm_6_0 : sg.exm 6 0 = some true := rfl
theorem sgf_exm_4_0 : sg.exm 4 0 = some true := rfl
theorem sgf_exm_5_0 : sg.exm 5 0 = some true := rfl
theorem sgf_exm_1_0 : sg.exm 1 0 = some true := rfl
theorem sgf_exm_3_0 : sg.exm 3 0 = some true := rfl
theorem sgf_isa_2_6 : sg.isa 2 6 = some false := rfl
theorem sgf_isa_6_6 : sg.isa 6 6 = some true := rfl
theorem sgf_isa_4_6 : sg.isa 4 6 = some false := rfl
theorem sgf_isa_5_6 : sg.isa 5 6 = some false := rfl
theorem sgf_isa_1_6 : sg.isa 1 6 = some false := rfl
theorem sgf_isa_3_6 : sg.isa 3 6 = some false := rfl
theorem sgf_isz_6 : sg.isz 6 = true := rfl
theorem sgf_isv_2 : sg.isv 2 = some true := rfl
theorem sgf_isv_6 : sg.isv 6 = some true := rfl
theorem sgf_isv_4 : sg.isv 4 = some true := rfl
theorem sgf_isv_5 : sg.isv 5 = some true := rfl
theorem sgf_isv_1 : sg.isv 1 = some true := rfl
theorem sgf_isv_3 : sg.isv 3 = some true := rfl
theorem gl_MOST_LETTERS : sg.gl 7 = some (.int 8) := rfl
theorem gl_LETTERS : sg.gl 8 = some (.str "abcdefghijklmnopqrstuvwxyz") := rfl
theorem gl_MOST : sg.gl 9 = some (.int 1000000000) := rfl
theorem gl_MOST_PARTS : sg.gl 10 = some (.int 50) := rfl
theorem gl_STAYS : sg.gl 11 = some (.tup [.str "stay", .str "bell", .str "now"]) := rfl
end LK

set_option autoImplicit false
namespace LK
open PySem L2 PySem.Spec Mir
open PyProof.Rows hiding St
section
variable {n : Nat} {h : PH} {Q : QE} {X : Mir.XE}
theorem at_fin {f : Int → PV} {xs : List Int} {i : Int} (h0 : 0 ≤ i) (h1 : i < xs.length) : ∃ x ∈ xs, atI (xs.map f) i = some (f x) := at_map h0 h1
def mix (c k : Int) : Int := (c * (48271 + 2 * k * k) + 69621 * k + 11) % 2147483647 * 69621 % 2147483629
theorem mix_lo (c k : Int) : 0 ≤ mix c k := Int.emod_nonneg _ (by decide)
theorem mix_hi (c k : Int) : mix c k < 2147483629 := Int.emod_lt_of_pos _ (by decide)
theorem mixed_sp {c k : Int} (h0 : 0 ≤ k) (h1 : k ≤ 1000) (q : Q (.int (mix c k)) h) : sem sg (n + 1) 24 [.int c, .int k] h Q X := by
  refine ⟨⟨2, 2, b24, []⟩, rfl, rfl, ?_⟩
  simp only [evSs, evS, evE, evEs, evO, evB, evBs, evI, List.map_cons, List.map_nil, List.replicate_succ, List.replicate_zero, List.cons_append, List.nil_append, List.getElem?_cons_zero, List.getElem?_cons_succ, List.set_cons_zero, List.set_cons_succ, bv_add, bv_sub, bv_mul, bv_div, bv_mod, bv_pow, bv_str, av_add, av_sub, cv_lt, cv_le, cv_gt, cv_ge, cv_eq, cv_ne, cv_eqS, cv_neS, tv_bl, tv_int, List.length_cons, List.length_nil, pad, setT_nm, setT_tup, setTs_nil, setTs_cons, decide_eq_true_eq, Bool.not_eq_true', Bool.not_true, Bool.not_false, if_true, if_false, Bool.false_eq_true, Bool.true_eq_false, reduceIte, Nat.reduceAdd, Nat.reduceSub, Nat.reduceBEq, b24]
  have k2 : 2 * k * k ≤ 2000000 := by
    have := Int.mul_le_mul (a := 2 * k) (b := k) (c := 2000) (d := 1000) (by omega) h1 h0 (by decide)
    omega
  have k3 : 0 ≤ 2 * k * k := Int.mul_nonneg (by omega) h0
  exact ⟨mulP_of (by omega) (by omega), mulP_of (by omega) (by omega), mulP_of (by omega) (by omega), mulP_of (by omega) (by omega), by decide, mulP_of (by decide) (by decide), by decide, ret_here q⟩
theorem cell_sp {ns : List Int} {v : Int} (hv : v = ns.headD 0) (q : Q (.int v) h) : sem sg (n + 1) 23 [.fl (ns.map .int), .int 0] h Q X := by
  refine ⟨⟨2, 2, b23, []⟩, rfl, rfl, ?_⟩
  simp only [evSs, evS, evE, evEs, evO, evB, evBs, evI, List.map_cons, List.map_nil, List.replicate_succ, List.replicate_zero, List.cons_append, List.nil_append, List.getElem?_cons_zero, List.getElem?_cons_succ, List.set_cons_zero, List.set_cons_succ, bv_add, bv_sub, bv_mul, bv_div, bv_mod, bv_pow, bv_str, av_add, av_sub, cv_lt, cv_le, cv_gt, cv_ge, cv_eq, cv_ne, cv_eqS, cv_neS, tv_bl, tv_int, List.length_cons, List.length_nil, pad, setT_nm, setT_tup, setTs_nil, setTs_cons, decide_eq_true_eq, Bool.not_eq_true', Bool.not_true, Bool.not_false, if_true, if_false, Bool.false_eq_true, Bool.true_eq_false, reduceIte, Nat.reduceAdd, Nat.reduceSub, Nat.reduceBEq, b23, bltV, lenV, List.length_map]
  subst hv
  cases ns with
  | nil => exact ret_here q
  | cons a ns =>
    rw [if_pos (by rw [List.length_cons]; omega)]
    rw [sv_fl (v := .int a) (show atI ((a :: ns).map PV.int) (0 : Int) = some (.int a) from atI_nat (j := 0) rfl)]
    exact ret_here q
end
section
variable {n : Nat} {h : PH} {Q : QE} {X : Mir.XE}
/-- a thing of a kind that isinstance knows -/
def Dat (x : PV) (h : PH) : Prop := match x with
  | .fl _ => False
  | .loc a => (∃ xs, h a = some (.lst xs)) ∨ (∃ f kvs, h a = some (.dct f kvs))
  | _ => True
def wholeB (x : PV) (lo hi : Int) : Bool := match x with
  | .int i => decide (lo ≤ i) && decide (i ≤ hi)
  | _ => false
theorem whole_sp {x : PV} {lo hi : Int} (hx : Dat x h) (q : Q (.bl (wholeB x lo hi)) h) : sem sg (n + 1) 17 [x, .int lo, .int hi] h Q X := by
  refine ⟨⟨3, 3, b17, []⟩, rfl, rfl, ?_⟩
  simp only [evSs, evS, evE, evEs, evO, evB, evBs, evI, List.map_cons, List.map_nil, List.replicate_succ, List.replicate_zero, List.cons_append, List.nil_append, List.getElem?_cons_zero, List.getElem?_cons_succ, List.set_cons_zero, List.set_cons_succ, bv_add, bv_sub, bv_mul, bv_div, bv_mod, bv_pow, bv_str, av_add, av_sub, cv_lt, cv_le, cv_gt, cv_ge, cv_eq, cv_ne, cv_eqS, cv_neS, tv_bl, tv_int, List.length_cons, List.length_nil, pad, setT_nm, setT_tup, setTs_nil, setTs_cons, decide_eq_true_eq, Bool.not_eq_true', Bool.not_true, Bool.not_false, if_true, if_false, Bool.false_eq_true, Bool.true_eq_false, reduceIte, Nat.reduceAdd, Nat.reduceSub, Nat.reduceBEq, pow_10_9, pow_10_20, pow_10_30, cpow_10_9, cpow_10_20, cpow_10_30, divP_lit, mulP_r, mulP_l, lne_line, lt_line, isi_int, isi_bool, Int.reduceLT, Int.reduceLE, Int.reduceGT, Int.reduceGE, Int.reduceNeg, Int.reduceMul, Int.reduceAdd, Int.reduceSub, Nat.reduceLeDiff, Nat.reduceLT, true_and, and_true, decide_true, decide_false, sgf_pad_22_5, sgf_pad_22_6, sgf_pad_22_7, sgf_pad_22_8, sgf_pad_22_9, sgf_me_8_22, sgf_me_8_23, sgf_me_8_0, sgf_me_8_24, sgf_me_8_4, sgf_me_9_22, sgf_me_9_23, sgf_me_9_0, sgf_me_9_24, sgf_me_9_4, sgf_me_10_6, sgf_me_10_21, sgf_me_10_2, sgf_me_10_20, sgf_me_10_19, sgf_me_10_18, sgf_ini_10, sgf_ini_11, sgf_in0_8, sgf_in0_9, sgf_fl_10_1, sgf_fl_11_12, sgf_fl_11_3, sgf_fl_11_13, sgf_fl_11_14, sgf_fl_11_15, sgf_fl_11_16, sgf_fl_11_17, sgf_fl_11_5, sgf_exc_2, sgf_exc_6, sgf_exc_4, sgf_exc_5, sgf_exc_1, sgf_exc_3, sgf_exm_2_0, sgf_exm_6_0, sgf_exm_4_0, sgf_exm_5_0, sgf_exm_1_0, sgf_exm_3_0, sgf_isa_2_6, sgf_isa_6_6, sgf_isa_4_6, sgf_isa_5_6, sgf_isa_1_6, sgf_isa_3_6, sgf_isz_6, sgf_isv_2, sgf_isv_6, sgf_isv_4, sgf_isv_5, sgf_isv_1, sgf_isv_3, gl_MOST_LETTERS, gl_LETTERS, gl_MOST, gl_MOST_PARTS, gl_STAYS, wipeP, List.set_cons_zero, List.set_cons_succ, seqK, listK, itemsK, b17]
  cases x with
  | int i =>
    simp only [evSs, evS, evE, evEs, evO, evB, evBs, evI, List.map_cons, List.map_nil, List.replicate_succ, List.replicate_zero, List.cons_append, List.nil_append, List.getElem?_cons_zero, List.getElem?_cons_succ, List.set_cons_zero, List.set_cons_succ, bv_add, bv_sub, bv_mul, bv_div, bv_mod, bv_pow, bv_str, av_add, av_sub, cv_lt, cv_le, cv_gt, cv_ge, cv_eq, cv_ne, cv_eqS, cv_neS, tv_bl, tv_int, List.length_cons, List.length_nil, pad, setT_nm, setT_tup, setTs_nil, setTs_cons, decide_eq_true_eq, Bool.not_eq_true', Bool.not_true, Bool.not_false, if_true, if_false, Bool.false_eq_true, Bool.true_eq_false, reduceIte, Nat.reduceAdd, Nat.reduceSub, Nat.reduceBEq, pow_10_9, pow_10_20, pow_10_30, cpow_10_9, cpow_10_20, cpow_10_30, divP_lit, mulP_r, mulP_l, lne_line, lt_line, isi_int, isi_bool, Int.reduceLT, Int.reduceLE, Int.reduceGT, Int.reduceGE, Int.reduceNeg, Int.reduceMul, Int.reduceAdd, Int.reduceSub, Nat.reduceLeDiff, Nat.reduceLT, true_and, and_true, decide_true, decide_false, sgf_pad_22_5, sgf_pad_22_6, sgf_pad_22_7, sgf_pad_22_8, sgf_pad_22_9, sgf_me_8_22, sgf_me_8_23, sgf_me_8_0, sgf_me_8_24, sgf_me_8_4, sgf_me_9_22, sgf_me_9_23, sgf_me_9_0, sgf_me_9_24, sgf_me_9_4, sgf_me_10_6, sgf_me_10_21, sgf_me_10_2, sgf_me_10_20, sgf_me_10_19, sgf_me_10_18, sgf_ini_10, sgf_ini_11, sgf_in0_8, sgf_in0_9, sgf_fl_10_1, sgf_fl_11_12, sgf_fl_11_3, sgf_fl_11_13, sgf_fl_11_14, sgf_fl_11_15, sgf_fl_11_16, sgf_fl_11_17, sgf_fl_11_5, sgf_exc_2, sgf_exc_6, sgf_exc_4, sgf_exc_5, sgf_exc_1, sgf_exc_3, sgf_exm_2_0, sgf_exm_6_0, sgf_exm_4_0, sgf_exm_5_0, sgf_exm_1_0, sgf_exm_3_0, sgf_isa_2_6, sgf_isa_6_6, sgf_isa_4_6, sgf_isa_5_6, sgf_isa_1_6, sgf_isa_3_6, sgf_isz_6, sgf_isv_2, sgf_isv_6, sgf_isv_4, sgf_isv_5, sgf_isv_1, sgf_isv_3, gl_MOST_LETTERS, gl_LETTERS, gl_MOST, gl_MOST_PARTS, gl_STAYS, wipeP, List.set_cons_zero, List.set_cons_succ, seqK, listK, itemsK, isiV]
    by_cases h1 : lo ≤ i
    · rw [if_pos h1]
      refine ret_here ?_
      simpa [wholeB, h1] using q
    · rw [if_neg h1]
      refine ret_here ?_
      simpa [wholeB, h1] using q
  | bl b => simp only [evSs, evS, evE, evEs, evO, evB, evBs, evI, List.map_cons, List.map_nil, List.replicate_succ, List.replicate_zero, List.cons_append, List.nil_append, List.getElem?_cons_zero, List.getElem?_cons_succ, List.set_cons_zero, List.set_cons_succ, bv_add, bv_sub, bv_mul, bv_div, bv_mod, bv_pow, bv_str, av_add, av_sub, cv_lt, cv_le, cv_gt, cv_ge, cv_eq, cv_ne, cv_eqS, cv_neS, tv_bl, tv_int, List.length_cons, List.length_nil, pad, setT_nm, setT_tup, setTs_nil, setTs_cons, decide_eq_true_eq, Bool.not_eq_true', Bool.not_true, Bool.not_false, if_true, if_false, Bool.false_eq_true, Bool.true_eq_false, reduceIte, Nat.reduceAdd, Nat.reduceSub, Nat.reduceBEq, pow_10_9, pow_10_20, pow_10_30, cpow_10_9, cpow_10_20, cpow_10_30, divP_lit, mulP_r, mulP_l, lne_line, lt_line, isi_int, isi_bool, Int.reduceLT, Int.reduceLE, Int.reduceGT, Int.reduceGE, Int.reduceNeg, Int.reduceMul, Int.reduceAdd, Int.reduceSub, Nat.reduceLeDiff, Nat.reduceLT, true_and, and_true, decide_true, decide_false, sgf_pad_22_5, sgf_pad_22_6, sgf_pad_22_7, sgf_pad_22_8, sgf_pad_22_9, sgf_me_8_22, sgf_me_8_23, sgf_me_8_0, sgf_me_8_24, sgf_me_8_4, sgf_me_9_22, sgf_me_9_23, sgf_me_9_0, sgf_me_9_24, sgf_me_9_4, sgf_me_10_6, sgf_me_10_21, sgf_me_10_2, sgf_me_10_20, sgf_me_10_19, sgf_me_10_18, sgf_ini_10, sgf_ini_11, sgf_in0_8, sgf_in0_9, sgf_fl_10_1, sgf_fl_11_12, sgf_fl_11_3, sgf_fl_11_13, sgf_fl_11_14, sgf_fl_11_15, sgf_fl_11_16, sgf_fl_11_17, sgf_fl_11_5, sgf_exc_2, sgf_exc_6, sgf_exc_4, sgf_exc_5, sgf_exc_1, sgf_exc_3, sgf_exm_2_0, sgf_exm_6_0, sgf_exm_4_0, sgf_exm_5_0, sgf_exm_1_0, sgf_exm_3_0, sgf_isa_2_6, sgf_isa_6_6, sgf_isa_4_6, sgf_isa_5_6, sgf_isa_1_6, sgf_isa_3_6, sgf_isz_6, sgf_isv_2, sgf_isv_6, sgf_isv_4, sgf_isv_5, sgf_isv_1, sgf_isv_3, gl_MOST_LETTERS, gl_LETTERS, gl_MOST, gl_MOST_PARTS, gl_STAYS, wipeP, List.set_cons_zero, List.set_cons_succ, seqK, listK, itemsK, isiV]; exact ret_here q
  | non => simp only [evSs, evS, evE, evEs, evO, evB, evBs, evI, List.map_cons, List.map_nil, List.replicate_succ, List.replicate_zero, List.cons_append, List.nil_append, List.getElem?_cons_zero, List.getElem?_cons_succ, List.set_cons_zero, List.set_cons_succ, bv_add, bv_sub, bv_mul, bv_div, bv_mod, bv_pow, bv_str, av_add, av_sub, cv_lt, cv_le, cv_gt, cv_ge, cv_eq, cv_ne, cv_eqS, cv_neS, tv_bl, tv_int, List.length_cons, List.length_nil, pad, setT_nm, setT_tup, setTs_nil, setTs_cons, decide_eq_true_eq, Bool.not_eq_true', Bool.not_true, Bool.not_false, if_true, if_false, Bool.false_eq_true, Bool.true_eq_false, reduceIte, Nat.reduceAdd, Nat.reduceSub, Nat.reduceBEq, pow_10_9, pow_10_20, pow_10_30, cpow_10_9, cpow_10_20, cpow_10_30, divP_lit, mulP_r, mulP_l, lne_line, lt_line, isi_int, isi_bool, Int.reduceLT, Int.reduceLE, Int.reduceGT, Int.reduceGE, Int.reduceNeg, Int.reduceMul, Int.reduceAdd, Int.reduceSub, Nat.reduceLeDiff, Nat.reduceLT, true_and, and_true, decide_true, decide_false, sgf_pad_22_5, sgf_pad_22_6, sgf_pad_22_7, sgf_pad_22_8, sgf_pad_22_9, sgf_me_8_22, sgf_me_8_23, sgf_me_8_0, sgf_me_8_24, sgf_me_8_4, sgf_me_9_22, sgf_me_9_23, sgf_me_9_0, sgf_me_9_24, sgf_me_9_4, sgf_me_10_6, sgf_me_10_21, sgf_me_10_2, sgf_me_10_20, sgf_me_10_19, sgf_me_10_18, sgf_ini_10, sgf_ini_11, sgf_in0_8, sgf_in0_9, sgf_fl_10_1, sgf_fl_11_12, sgf_fl_11_3, sgf_fl_11_13, sgf_fl_11_14, sgf_fl_11_15, sgf_fl_11_16, sgf_fl_11_17, sgf_fl_11_5, sgf_exc_2, sgf_exc_6, sgf_exc_4, sgf_exc_5, sgf_exc_1, sgf_exc_3, sgf_exm_2_0, sgf_exm_6_0, sgf_exm_4_0, sgf_exm_5_0, sgf_exm_1_0, sgf_exm_3_0, sgf_isa_2_6, sgf_isa_6_6, sgf_isa_4_6, sgf_isa_5_6, sgf_isa_1_6, sgf_isa_3_6, sgf_isz_6, sgf_isv_2, sgf_isv_6, sgf_isv_4, sgf_isv_5, sgf_isv_1, sgf_isv_3, gl_MOST_LETTERS, gl_LETTERS, gl_MOST, gl_MOST_PARTS, gl_STAYS, wipeP, List.set_cons_zero, List.set_cons_succ, seqK, listK, itemsK, isiV]; exact ret_here q
  | str s => simp only [evSs, evS, evE, evEs, evO, evB, evBs, evI, List.map_cons, List.map_nil, List.replicate_succ, List.replicate_zero, List.cons_append, List.nil_append, List.getElem?_cons_zero, List.getElem?_cons_succ, List.set_cons_zero, List.set_cons_succ, bv_add, bv_sub, bv_mul, bv_div, bv_mod, bv_pow, bv_str, av_add, av_sub, cv_lt, cv_le, cv_gt, cv_ge, cv_eq, cv_ne, cv_eqS, cv_neS, tv_bl, tv_int, List.length_cons, List.length_nil, pad, setT_nm, setT_tup, setTs_nil, setTs_cons, decide_eq_true_eq, Bool.not_eq_true', Bool.not_true, Bool.not_false, if_true, if_false, Bool.false_eq_true, Bool.true_eq_false, reduceIte, Nat.reduceAdd, Nat.reduceSub, Nat.reduceBEq, pow_10_9, pow_10_20, pow_10_30, cpow_10_9, cpow_10_20, cpow_10_30, divP_lit, mulP_r, mulP_l, lne_line, lt_line, isi_int, isi_bool, Int.reduceLT, Int.reduceLE, Int.reduceGT, Int.reduceGE, Int.reduceNeg, Int.reduceMul, Int.reduceAdd, Int.reduceSub, Nat.reduceLeDiff, Nat.reduceLT, true_and, and_true, decide_true, decide_false, sgf_pad_22_5, sgf_pad_22_6, sgf_pad_22_7, sgf_pad_22_8, sgf_pad_22_9, sgf_me_8_22, sgf_me_8_23, sgf_me_8_0, sgf_me_8_24, sgf_me_8_4, sgf_me_9_22, sgf_me_9_23, sgf_me_9_0, sgf_me_9_24, sgf_me_9_4, sgf_me_10_6, sgf_me_10_21, sgf_me_10_2, sgf_me_10_20, sgf_me_10_19, sgf_me_10_18, sgf_ini_10, sgf_ini_11, sgf_in0_8, sgf_in0_9, sgf_fl_10_1, sgf_fl_11_12, sgf_fl_11_3, sgf_fl_11_13, sgf_fl_11_14, sgf_fl_11_15, sgf_fl_11_16, sgf_fl_11_17, sgf_fl_11_5, sgf_exc_2, sgf_exc_6, sgf_exc_4, sgf_exc_5, sgf_exc_1, sgf_exc_3, sgf_exm_2_0, sgf_exm_6_0, sgf_exm_4_0, sgf_exm_5_0, sgf_exm_1_0, sgf_exm_3_0, sgf_isa_2_6, sgf_isa_6_6, sgf_isa_4_6, sgf_isa_5_6, sgf_isa_1_6, sgf_isa_3_6, sgf_isz_6, sgf_isv_2, sgf_isv_6, sgf_isv_4, sgf_isv_5, sgf_isv_1, sgf_isv_3, gl_MOST_LETTERS, gl_LETTERS, gl_MOST, gl_MOST_PARTS, gl_STAYS, wipeP, List.set_cons_zero, List.set_cons_succ, seqK, listK, itemsK, isiV]; exact ret_here q
  | tup s => simp only [evSs, evS, evE, evEs, evO, evB, evBs, evI, List.map_cons, List.map_nil, List.replicate_succ, List.replicate_zero, List.cons_append, List.nil_append, List.getElem?_cons_zero, List.getElem?_cons_succ, List.set_cons_zero, List.set_cons_succ, bv_add, bv_sub, bv_mul, bv_div, bv_mod, bv_pow, bv_str, av_add, av_sub, cv_lt, cv_le, cv_gt, cv_ge, cv_eq, cv_ne, cv_eqS, cv_neS, tv_bl, tv_int, List.length_cons, List.length_nil, pad, setT_nm, setT_tup, setTs_nil, setTs_cons, decide_eq_true_eq, Bool.not_eq_true', Bool.not_true, Bool.not_false, if_true, if_false, Bool.false_eq_true, Bool.true_eq_false, reduceIte, Nat.reduceAdd, Nat.reduceSub, Nat.reduceBEq, pow_10_9, pow_10_20, pow_10_30, cpow_10_9, cpow_10_20, cpow_10_30, divP_lit, mulP_r, mulP_l, lne_line, lt_line, isi_int, isi_bool, Int.reduceLT, Int.reduceLE, Int.reduceGT, Int.reduceGE, Int.reduceNeg, Int.reduceMul, Int.reduceAdd, Int.reduceSub, Nat.reduceLeDiff, Nat.reduceLT, true_and, and_true, decide_true, decide_false, sgf_pad_22_5, sgf_pad_22_6, sgf_pad_22_7, sgf_pad_22_8, sgf_pad_22_9, sgf_me_8_22, sgf_me_8_23, sgf_me_8_0, sgf_me_8_24, sgf_me_8_4, sgf_me_9_22, sgf_me_9_23, sgf_me_9_0, sgf_me_9_24, sgf_me_9_4, sgf_me_10_6, sgf_me_10_21, sgf_me_10_2, sgf_me_10_20, sgf_me_10_19, sgf_me_10_18, sgf_ini_10, sgf_ini_11, sgf_in0_8, sgf_in0_9, sgf_fl_10_1, sgf_fl_11_12, sgf_fl_11_3, sgf_fl_11_13, sgf_fl_11_14, sgf_fl_11_15, sgf_fl_11_16, sgf_fl_11_17, sgf_fl_11_5, sgf_exc_2, sgf_exc_6, sgf_exc_4, sgf_exc_5, sgf_exc_1, sgf_exc_3, sgf_exm_2_0, sgf_exm_6_0, sgf_exm_4_0, sgf_exm_5_0, sgf_exm_1_0, sgf_exm_3_0, sgf_isa_2_6, sgf_isa_6_6, sgf_isa_4_6, sgf_isa_5_6, sgf_isa_1_6, sgf_isa_3_6, sgf_isz_6, sgf_isv_2, sgf_isv_6, sgf_isv_4, sgf_isv_5, sgf_isv_1, sgf_isv_3, gl_MOST_LETTERS, gl_LETTERS, gl_MOST, gl_MOST_PARTS, gl_STAYS, wipeP, List.set_cons_zero, List.set_cons_succ, seqK, listK, itemsK, isiV]; exact ret_here q
  | fl s => exact hx.elim
  | loc a =>
    rcases hx with ⟨xs, e⟩ | ⟨f, kvs, e⟩
    · simp only [evSs, evS, evE, evEs, evO, evB, evBs, evI, List.map_cons, List.map_nil, List.replicate_succ, List.replicate_zero, List.cons_append, List.nil_append, List.getElem?_cons_zero, List.getElem?_cons_succ, List.set_cons_zero, List.set_cons_succ, bv_add, bv_sub, bv_mul, bv_div, bv_mod, bv_pow, bv_str, av_add, av_sub, cv_lt, cv_le, cv_gt, cv_ge, cv_eq, cv_ne, cv_eqS, cv_neS, tv_bl, tv_int, List.length_cons, List.length_nil, pad, setT_nm, setT_tup, setTs_nil, setTs_cons, decide_eq_true_eq, Bool.not_eq_true', Bool.not_true, Bool.not_false, if_true, if_false, Bool.false_eq_true, Bool.true_eq_false, reduceIte, Nat.reduceAdd, Nat.reduceSub, Nat.reduceBEq, pow_10_9, pow_10_20, pow_10_30, cpow_10_9, cpow_10_20, cpow_10_30, divP_lit, mulP_r, mulP_l, lne_line, lt_line, isi_int, isi_bool, Int.reduceLT, Int.reduceLE, Int.reduceGT, Int.reduceGE, Int.reduceNeg, Int.reduceMul, Int.reduceAdd, Int.reduceSub, Nat.reduceLeDiff, Nat.reduceLT, true_and, and_true, decide_true, decide_false, sgf_pad_22_5, sgf_pad_22_6, sgf_pad_22_7, sgf_pad_22_8, sgf_pad_22_9, sgf_me_8_22, sgf_me_8_23, sgf_me_8_0, sgf_me_8_24, sgf_me_8_4, sgf_me_9_22, sgf_me_9_23, sgf_me_9_0, sgf_me_9_24, sgf_me_9_4, sgf_me_10_6, sgf_me_10_21, sgf_me_10_2, sgf_me_10_20, sgf_me_10_19, sgf_me_10_18, sgf_ini_10, sgf_ini_11, sgf_in0_8, sgf_in0_9, sgf_fl_10_1, sgf_fl_11_12, sgf_fl_11_3, sgf_fl_11_13, sgf_fl_11_14, sgf_fl_11_15, sgf_fl_11_16, sgf_fl_11_17, sgf_fl_11_5, sgf_exc_2, sgf_exc_6, sgf_exc_4, sgf_exc_5, sgf_exc_1, sgf_exc_3, sgf_exm_2_0, sgf_exm_6_0, sgf_exm_4_0, sgf_exm_5_0, sgf_exm_1_0, sgf_exm_3_0, sgf_isa_2_6, sgf_isa_6_6, sgf_isa_4_6, sgf_isa_5_6, sgf_isa_1_6, sgf_isa_3_6, sgf_isz_6, sgf_isv_2, sgf_isv_6, sgf_isv_4, sgf_isv_5, sgf_isv_1, sgf_isv_3, gl_MOST_LETTERS, gl_LETTERS, gl_MOST, gl_MOST_PARTS, gl_STAYS, wipeP, List.set_cons_zero, List.set_cons_succ, seqK, listK, itemsK, isiV, e]; exact ret_here q
    · simp only [evSs, evS, evE, evEs, evO, evB, evBs, evI, List.map_cons, List.map_nil, List.replicate_succ, List.replicate_zero, List.cons_append, List.nil_append, List.getElem?_cons_zero, List.getElem?_cons_succ, List.set_cons_zero, List.set_cons_succ, bv_add, bv_sub, bv_mul, bv_div, bv_mod, bv_pow, bv_str, av_add, av_sub, cv_lt, cv_le, cv_gt, cv_ge, cv_eq, cv_ne, cv_eqS, cv_neS, tv_bl, tv_int, List.length_cons, List.length_nil, pad, setT_nm, setT_tup, setTs_nil, setTs_cons, decide_eq_true_eq, Bool.not_eq_true', Bool.not_true, Bool.not_false, if_true, if_false, Bool.false_eq_true, Bool.true_eq_false, reduceIte, Nat.reduceAdd, Nat.reduceSub, Nat.reduceBEq, pow_10_9, pow_10_20, pow_10_30, cpow_10_9, cpow_10_20, cpow_10_30, divP_lit, mulP_r, mulP_l, lne_line, lt_line, isi_int, isi_bool, Int.reduceLT, Int.reduceLE, Int.reduceGT, Int.reduceGE, Int.reduceNeg, Int.reduceMul, Int.reduceAdd, Int.reduceSub, Nat.reduceLeDiff, Nat.reduceLT, true_and, and_true, decide_true, decide_false, sgf_pad_22_5, sgf_pad_22_6, sgf_pad_22_7, sgf_pad_22_8, sgf_pad_22_9, sgf_me_8_22, sgf_me_8_23, sgf_me_8_0, sgf_me_8_24, sgf_me_8_4, sgf_me_9_22, sgf_me_9_23, sgf_me_9_0, sgf_me_9_24, sgf_me_9_4, sgf_me_10_6, sgf_me_10_21, sgf_me_10_2, sgf_me_10_20, sgf_me_10_19, sgf_me_10_18, sgf_ini_10, sgf_ini_11, sgf_in0_8, sgf_in0_9, sgf_fl_10_1, sgf_fl_11_12, sgf_fl_11_3, sgf_fl_11_13, sgf_fl_11_14, sgf_fl_11_15, sgf_fl_11_16, sgf_fl_11_17, sgf_fl_11_5, sgf_exc_2, sgf_exc_6, sgf_exc_4, sgf_exc_5, sgf_exc_1, sgf_exc_3, sgf_exm_2_0, sgf_exm_6_0, sgf_exm_4_0, sgf_exm_5_0, sgf_exm_1_0, sgf_exm_3_0, sgf_isa_2_6, sgf_isa_6_6, sgf_isa_4_6, sgf_isa_5_6, sgf_isa_1_6, sgf_isa_3_6, sgf_isz_6, sgf_isv_2, sgf_isv_6, sgf_isv_4, sgf_isv_5, sgf_isv_1, sgf_isv_3, gl_MOST_LETTERS, gl_LETTERS, gl_MOST, gl_MOST_PARTS, gl_STAYS, wipeP, List.set_cons_zero, List.set_cons_succ, seqK, listK, itemsK, isiV, e]; exact ret_here q
theorem price_sp {x : PV} (hx : Dat x h) (q : Q (.bl (wholeB x 1 1000000000)) h) : sem sg (n + 2) 19 [x] h Q X := by
  refine ⟨⟨1, 1, b19, []⟩, rfl, rfl, ?_⟩
  simp only [evSs, evS, evE, evEs, evO, evB, evBs, evI, List.map_cons, List.map_nil, List.replicate_succ, List.replicate_zero, List.cons_append, List.nil_append, List.getElem?_cons_zero, List.getElem?_cons_succ, List.set_cons_zero, List.set_cons_succ, bv_add, bv_sub, bv_mul, bv_div, bv_mod, bv_pow, bv_str, av_add, av_sub, cv_lt, cv_le, cv_gt, cv_ge, cv_eq, cv_ne, cv_eqS, cv_neS, tv_bl, tv_int, List.length_cons, List.length_nil, pad, setT_nm, setT_tup, setTs_nil, setTs_cons, decide_eq_true_eq, Bool.not_eq_true', Bool.not_true, Bool.not_false, if_true, if_false, Bool.false_eq_true, Bool.true_eq_false, reduceIte, Nat.reduceAdd, Nat.reduceSub, Nat.reduceBEq, pow_10_9, pow_10_20, pow_10_30, cpow_10_9, cpow_10_20, cpow_10_30, divP_lit, mulP_r, mulP_l, lne_line, lt_line, isi_int, isi_bool, Int.reduceLT, Int.reduceLE, Int.reduceGT, Int.reduceGE, Int.reduceNeg, Int.reduceMul, Int.reduceAdd, Int.reduceSub, Nat.reduceLeDiff, Nat.reduceLT, true_and, and_true, decide_true, decide_false, sgf_pad_22_5, sgf_pad_22_6, sgf_pad_22_7, sgf_pad_22_8, sgf_pad_22_9, sgf_me_8_22, sgf_me_8_23, sgf_me_8_0, sgf_me_8_24, sgf_me_8_4, sgf_me_9_22, sgf_me_9_23, sgf_me_9_0, sgf_me_9_24, sgf_me_9_4, sgf_me_10_6, sgf_me_10_21, sgf_me_10_2, sgf_me_10_20, sgf_me_10_19, sgf_me_10_18, sgf_ini_10, sgf_ini_11, sgf_in0_8, sgf_in0_9, sgf_fl_10_1, sgf_fl_11_12, sgf_fl_11_3, sgf_fl_11_13, sgf_fl_11_14, sgf_fl_11_15, sgf_fl_11_16, sgf_fl_11_17, sgf_fl_11_5, sgf_exc_2, sgf_exc_6, sgf_exc_4, sgf_exc_5, sgf_exc_1, sgf_exc_3, sgf_exm_2_0, sgf_exm_6_0, sgf_exm_4_0, sgf_exm_5_0, sgf_exm_1_0, sgf_exm_3_0, sgf_isa_2_6, sgf_isa_6_6, sgf_isa_4_6, sgf_isa_5_6, sgf_isa_1_6, sgf_isa_3_6, sgf_isz_6, sgf_isv_2, sgf_isv_6, sgf_isv_4, sgf_isv_5, sgf_isv_1, sgf_isv_3, gl_MOST_LETTERS, gl_LETTERS, gl_MOST, gl_MOST_PARTS, gl_STAYS, wipeP, List.set_cons_zero, List.set_cons_succ, seqK, listK, itemsK, b19]
  show sem sg (n + 1) 17 [x, .int 1, .int 1000000000] h _ _
  exact whole_sp hx (ret_here q)
def letters : Str := "abcdefghijklmnopqrstuvwxyz"
theorem in_letters (c : Nat) : decide (c ∈ letters.cps.toList) = (decide (97 ≤ c) && decide (c ≤ 122)) := by
  by_cases h : c ≤ 122
  · have all : ∀ m : Nat, m < 123 → decide (m ∈ letters.cps.toList) = (decide (97 ≤ m) && decide (m ≤ 122)) := by decide +kernel
    exact all c (by omega)
  · have all : ∀ m ∈ letters.cps.toList, m ≤ 122 := by decide +kernel
    have n : c ∉ letters.cps.toList := fun z => h (all c z)
    simp [n, h]
def lowC (c : Nat) : Bool := decide (97 ≤ c) && decide (c ≤ 122)
def nameB (x : PV) : Bool := match x with
  | .str s => decide (1 ≤ s.length) && decide (s.length ≤ 8) && s.cps.toList.all lowC
  | _ => false
theorem bls_map {α : Type} {f : α → Bool} (l : List α) : blsP (l.map fun c => PV.bl (f c)) = some (l.map f) := by
  induction l with
  | nil => rfl
  | cons a l ih => simp only [List.map_cons, blsP, ih]; rfl
theorem blt_allM {a : Addr} {α : Type} {f : α → Bool} {l : List α} (e : h a = some (.lst (l.map fun c => PV.bl (f c)))) : bltV .all [.loc a] h Q = Q (.bl (l.all f)) h := by
  simp only [bltV, listK, e, bls_map, List.all_map]
  rfl
/-- all([.. for sign in text]) -/
theorem signs_all {f : Nat → Bool} {s : Str} (hs : s.length ≤ 1000) {st : PV → PEnv → (PEnv → Prop) → Prop} {elt : PEnv → PH → QE → Prop} {env : PEnv} {P : Addr} {K : PH → Prop}
    (he : ∀ c acc (N : QE), N (.bl (f c)) (pup h P (.lst acc)) → st (.str ⟨#[c]⟩) env fun env' => elt env' (pup h P (.lst acc)) N) (q : K (pup h P (.lst (s.cps.toList.map fun c => PV.bl (f c))))) :
    compGo (fun _ => True) st (fun _ h K => K true h) elt env P K (signs s) (pup h P (.lst [])) :=
  compGo_map (f := fun c => PV.str ⟨#[c]⟩) (as := s.cps.toList) (fun c => PV.bl (f c)) (by rw [← len_tl]; exact small_line hs) (fun _ => trivial) (fun c acc N _ n => he c acc N n) q
theorem isname_sp {x : PV} (hx : Dat x h) (hl : ∀ s, x = .str s → s.length ≤ 1000) (q : Q (.bl (nameB x)) h) : sem sg (n + 1) 18 [x] h Q X := by
  refine ⟨⟨1, 2, b18, []⟩, rfl, rfl, ?_⟩
  simp only [evSs, evS, evE, evEs, evO, evB, evBs, evI, List.map_cons, List.map_nil, List.replicate_succ, List.replicate_zero, List.cons_append, List.nil_append, List.getElem?_cons_zero, List.getElem?_cons_succ, List.set_cons_zero, List.set_cons_succ, bv_add, bv_sub, bv_mul, bv_div, bv_mod, bv_pow, bv_str, av_add, av_sub, cv_lt, cv_le, cv_gt, cv_ge, cv_eq, cv_ne, cv_eqS, cv_neS, tv_bl, tv_int, List.length_cons, List.length_nil, pad, setT_nm, setT_tup, setTs_nil, setTs_cons, decide_eq_true_eq, Bool.not_eq_true', Bool.not_true, Bool.not_false, if_true, if_false, Bool.false_eq_true, Bool.true_eq_false, reduceIte, Nat.reduceAdd, Nat.reduceSub, Nat.reduceBEq, pow_10_9, pow_10_20, pow_10_30, cpow_10_9, cpow_10_20, cpow_10_30, divP_lit, mulP_r, mulP_l, lne_line, lt_line, isi_int, isi_bool, Int.reduceLT, Int.reduceLE, Int.reduceGT, Int.reduceGE, Int.reduceNeg, Int.reduceMul, Int.reduceAdd, Int.reduceSub, Nat.reduceLeDiff, Nat.reduceLT, true_and, and_true, decide_true, decide_false, sgf_pad_22_5, sgf_pad_22_6, sgf_pad_22_7, sgf_pad_22_8, sgf_pad_22_9, sgf_me_8_22, sgf_me_8_23, sgf_me_8_0, sgf_me_8_24, sgf_me_8_4, sgf_me_9_22, sgf_me_9_23, sgf_me_9_0, sgf_me_9_24, sgf_me_9_4, sgf_me_10_6, sgf_me_10_21, sgf_me_10_2, sgf_me_10_20, sgf_me_10_19, sgf_me_10_18, sgf_ini_10, sgf_ini_11, sgf_in0_8, sgf_in0_9, sgf_fl_10_1, sgf_fl_11_12, sgf_fl_11_3, sgf_fl_11_13, sgf_fl_11_14, sgf_fl_11_15, sgf_fl_11_16, sgf_fl_11_17, sgf_fl_11_5, sgf_exc_2, sgf_exc_6, sgf_exc_4, sgf_exc_5, sgf_exc_1, sgf_exc_3, sgf_exm_2_0, sgf_exm_6_0, sgf_exm_4_0, sgf_exm_5_0, sgf_exm_1_0, sgf_exm_3_0, sgf_isa_2_6, sgf_isa_6_6, sgf_isa_4_6, sgf_isa_5_6, sgf_isa_1_6, sgf_isa_3_6, sgf_isz_6, sgf_isv_2, sgf_isv_6, sgf_isv_4, sgf_isv_5, sgf_isv_1, sgf_isv_3, gl_MOST_LETTERS, gl_LETTERS, gl_MOST, gl_MOST_PARTS, gl_STAYS, wipeP, List.set_cons_zero, List.set_cons_succ, seqK, listK, itemsK, b18]
  cases x with
  | str s =>
    have l := hl s rfl
    simp only [evSs, evS, evE, evEs, evO, evB, evBs, evI, List.map_cons, List.map_nil, List.replicate_succ, List.replicate_zero, List.cons_append, List.nil_append, List.getElem?_cons_zero, List.getElem?_cons_succ, List.set_cons_zero, List.set_cons_succ, bv_add, bv_sub, bv_mul, bv_div, bv_mod, bv_pow, bv_str, av_add, av_sub, cv_lt, cv_le, cv_gt, cv_ge, cv_eq, cv_ne, cv_eqS, cv_neS, tv_bl, tv_int, List.length_cons, List.length_nil, pad, setT_nm, setT_tup, setTs_nil, setTs_cons, decide_eq_true_eq, Bool.not_eq_true', Bool.not_true, Bool.not_false, if_true, if_false, Bool.false_eq_true, Bool.true_eq_false, reduceIte, Nat.reduceAdd, Nat.reduceSub, Nat.reduceBEq, pow_10_9, pow_10_20, pow_10_30, cpow_10_9, cpow_10_20, cpow_10_30, divP_lit, mulP_r, mulP_l, lne_line, lt_line, isi_int, isi_bool, Int.reduceLT, Int.reduceLE, Int.reduceGT, Int.reduceGE, Int.reduceNeg, Int.reduceMul, Int.reduceAdd, Int.reduceSub, Nat.reduceLeDiff, Nat.reduceLT, true_and, and_true, decide_true, decide_false, sgf_pad_22_5, sgf_pad_22_6, sgf_pad_22_7, sgf_pad_22_8, sgf_pad_22_9, sgf_me_8_22, sgf_me_8_23, sgf_me_8_0, sgf_me_8_24, sgf_me_8_4, sgf_me_9_22, sgf_me_9_23, sgf_me_9_0, sgf_me_9_24, sgf_me_9_4, sgf_me_10_6, sgf_me_10_21, sgf_me_10_2, sgf_me_10_20, sgf_me_10_19, sgf_me_10_18, sgf_ini_10, sgf_ini_11, sgf_in0_8, sgf_in0_9, sgf_fl_10_1, sgf_fl_11_12, sgf_fl_11_3, sgf_fl_11_13, sgf_fl_11_14, sgf_fl_11_15, sgf_fl_11_16, sgf_fl_11_17, sgf_fl_11_5, sgf_exc_2, sgf_exc_6, sgf_exc_4, sgf_exc_5, sgf_exc_1, sgf_exc_3, sgf_exm_2_0, sgf_exm_6_0, sgf_exm_4_0, sgf_exm_5_0, sgf_exm_1_0, sgf_exm_3_0, sgf_isa_2_6, sgf_isa_6_6, sgf_isa_4_6, sgf_isa_5_6, sgf_isa_1_6, sgf_isa_3_6, sgf_isz_6, sgf_isv_2, sgf_isv_6, sgf_isv_4, sgf_isv_5, sgf_isv_1, sgf_isv_3, gl_MOST_LETTERS, gl_LETTERS, gl_MOST, gl_MOST_PARTS, gl_STAYS, wipeP, List.set_cons_zero, List.set_cons_succ, seqK, listK, itemsK, isiV, bltV, lenV, small_line l]
    unfold nameB at q
    dsimp only at q
    by_cases h1 : 1 ≤ (s.length : Int)
    · by_cases h2 : (s.length : Int) ≤ 8
      · rw [if_pos h1, if_neg (by simp [h2])]
        intro P nP
        refine signs_all (f := lowC) l (fun c acc N nx => ?_) ?_
        · simp only [evSs, evS, evE, evEs, evO, evB, evBs, evI, List.map_cons, List.map_nil, List.replicate_succ, List.replicate_zero, List.cons_append, List.nil_append, List.getElem?_cons_zero, List.getElem?_cons_succ, List.set_cons_zero, List.set_cons_succ, bv_add, bv_sub, bv_mul, bv_div, bv_mod, bv_pow, bv_str, av_add, av_sub, cv_lt, cv_le, cv_gt, cv_ge, cv_eq, cv_ne, cv_eqS, cv_neS, tv_bl, tv_int, List.length_cons, List.length_nil, pad, setT_nm, setT_tup, setTs_nil, setTs_cons, decide_eq_true_eq, Bool.not_eq_true', Bool.not_true, Bool.not_false, if_true, if_false, Bool.false_eq_true, Bool.true_eq_false, reduceIte, Nat.reduceAdd, Nat.reduceSub, Nat.reduceBEq, pow_10_9, pow_10_20, pow_10_30, cpow_10_9, cpow_10_20, cpow_10_30, divP_lit, mulP_r, mulP_l, lne_line, lt_line, isi_int, isi_bool, Int.reduceLT, Int.reduceLE, Int.reduceGT, Int.reduceGE, Int.reduceNeg, Int.reduceMul, Int.reduceAdd, Int.reduceSub, Nat.reduceLeDiff, Nat.reduceLT, true_and, and_true, decide_true, decide_false, sgf_pad_22_5, sgf_pad_22_6, sgf_pad_22_7, sgf_pad_22_8, sgf_pad_22_9, sgf_me_8_22, sgf_me_8_23, sgf_me_8_0, sgf_me_8_24, sgf_me_8_4, sgf_me_9_22, sgf_me_9_23, sgf_me_9_0, sgf_me_9_24, sgf_me_9_4, sgf_me_10_6, sgf_me_10_21, sgf_me_10_2, sgf_me_10_20, sgf_me_10_19, sgf_me_10_18, sgf_ini_10, sgf_ini_11, sgf_in0_8, sgf_in0_9, sgf_fl_10_1, sgf_fl_11_12, sgf_fl_11_3, sgf_fl_11_13, sgf_fl_11_14, sgf_fl_11_15, sgf_fl_11_16, sgf_fl_11_17, sgf_fl_11_5, sgf_exc_2, sgf_exc_6, sgf_exc_4, sgf_exc_5, sgf_exc_1, sgf_exc_3, sgf_exm_2_0, sgf_exm_6_0, sgf_exm_4_0, sgf_exm_5_0, sgf_exm_1_0, sgf_exm_3_0, sgf_isa_2_6, sgf_isa_6_6, sgf_isa_4_6, sgf_isa_5_6, sgf_isa_1_6, sgf_isa_3_6, sgf_isz_6, sgf_isv_2, sgf_isv_6, sgf_isv_4, sgf_isv_5, sgf_isv_1, sgf_isv_3, gl_MOST_LETTERS, gl_LETTERS, gl_MOST, gl_MOST_PARTS, gl_STAYS, wipeP, List.set_cons_zero, List.set_cons_succ, seqK, listK, itemsK, inK, cmpV]
          rw [show (Str.ofString "abcdefghijklmnopqrstuvwxyz") = letters from rfl, in_letters]
          exact nx
        · rw [pup_same]
          simp only [bls_map, List.all_map]
          refine ⟨h, PLe.new nP, ?_⟩
          have e1 : 1 ≤ s.length := by omega
          have e2 : s.length ≤ 8 := by omega
          simpa [e1, e2] using q
      · rw [if_pos h1, if_pos (by simp [h2])]
        refine ret_here ?_
        have e2 : ¬ s.length ≤ 8 := by omega
        simpa [e2] using q
    · rw [if_neg h1]
      refine ret_here ?_
      have e2 : ¬ 1 ≤ s.length := by omega
      simpa [e2] using q
  | fl s => exact hx.elim
  | loc a =>
    rcases hx with ⟨xs, e⟩ | ⟨f, kvs, e⟩
    · simp only [evSs, evS, evE, evEs, evO, evB, evBs, evI, List.map_cons, List.map_nil, List.replicate_succ, List.replicate_zero, List.cons_append, List.nil_append, List.getElem?_cons_zero, List.getElem?_cons_succ, List.set_cons_zero, List.set_cons_succ, bv_add, bv_sub, bv_mul, bv_div, bv_mod, bv_pow, bv_str, av_add, av_sub, cv_lt, cv_le, cv_gt, cv_ge, cv_eq, cv_ne, cv_eqS, cv_neS, tv_bl, tv_int, List.length_cons, List.length_nil, pad, setT_nm, setT_tup, setTs_nil, setTs_cons, decide_eq_true_eq, Bool.not_eq_true', Bool.not_true, Bool.not_false, if_true, if_false, Bool.false_eq_true, Bool.true_eq_false, reduceIte, Nat.reduceAdd, Nat.reduceSub, Nat.reduceBEq, pow_10_9, pow_10_20, pow_10_30, cpow_10_9, cpow_10_20, cpow_10_30, divP_lit, mulP_r, mulP_l, lne_line, lt_line, isi_int, isi_bool, Int.reduceLT, Int.reduceLE, Int.reduceGT, Int.reduceGE, Int.reduceNeg, Int.reduceMul, Int.reduceAdd, Int.reduceSub, Nat.reduceLeDiff, Nat.reduceLT, true_and, and_true, decide_true, decide_false, sgf_pad_22_5, sgf_pad_22_6, sgf_pad_22_7, sgf_pad_22_8, sgf_pad_22_9, sgf_me_8_22, sgf_me_8_23, sgf_me_8_0, sgf_me_8_24, sgf_me_8_4, sgf_me_9_22, sgf_me_9_23, sgf_me_9_0, sgf_me_9_24, sgf_me_9_4, sgf_me_10_6, sgf_me_10_21, sgf_me_10_2, sgf_me_10_20, sgf_me_10_19, sgf_me_10_18, sgf_ini_10, sgf_ini_11, sgf_in0_8, sgf_in0_9, sgf_fl_10_1, sgf_fl_11_12, sgf_fl_11_3, sgf_fl_11_13, sgf_fl_11_14, sgf_fl_11_15, sgf_fl_11_16, sgf_fl_11_17, sgf_fl_11_5, sgf_exc_2, sgf_exc_6, sgf_exc_4, sgf_exc_5, sgf_exc_1, sgf_exc_3, sgf_exm_2_0, sgf_exm_6_0, sgf_exm_4_0, sgf_exm_5_0, sgf_exm_1_0, sgf_exm_3_0, sgf_isa_2_6, sgf_isa_6_6, sgf_isa_4_6, sgf_isa_5_6, sgf_isa_1_6, sgf_isa_3_6, sgf_isz_6, sgf_isv_2, sgf_isv_6, sgf_isv_4, sgf_isv_5, sgf_isv_1, sgf_isv_3, gl_MOST_LETTERS, gl_LETTERS, gl_MOST, gl_MOST_PARTS, gl_STAYS, wipeP, List.set_cons_zero, List.set_cons_succ, seqK, listK, itemsK, isiV, e]; exact ret_here q
    · simp only [evSs, evS, evE, evEs, evO, evB, evBs, evI, List.map_cons, List.map_nil, List.replicate_succ, List.replicate_zero, List.cons_append, List.nil_append, List.getElem?_cons_zero, List.getElem?_cons_succ, List.set_cons_zero, List.set_cons_succ, bv_add, bv_sub, bv_mul, bv_div, bv_mod, bv_pow, bv_str, av_add, av_sub, cv_lt, cv_le, cv_gt, cv_ge, cv_eq, cv_ne, cv_eqS, cv_neS, tv_bl, tv_int, List.length_cons, List.length_nil, pad, setT_nm, setT_tup, setTs_nil, setTs_cons, decide_eq_true_eq, Bool.not_eq_true', Bool.not_true, Bool.not_false, if_true, if_false, Bool.false_eq_true, Bool.true_eq_false, reduceIte, Nat.reduceAdd, Nat.reduceSub, Nat.reduceBEq, pow_10_9, pow_10_20, pow_10_30, cpow_10_9, cpow_10_20, cpow_10_30, divP_lit, mulP_r, mulP_l, lne_line, lt_line, isi_int, isi_bool, Int.reduceLT, Int.reduceLE, Int.reduceGT, Int.reduceGE, Int.reduceNeg, Int.reduceMul, Int.reduceAdd, Int.reduceSub, Nat.reduceLeDiff, Nat.reduceLT, true_and, and_true, decide_true, decide_false, sgf_pad_22_5, sgf_pad_22_6, sgf_pad_22_7, sgf_pad_22_8, sgf_pad_22_9, sgf_me_8_22, sgf_me_8_23, sgf_me_8_0, sgf_me_8_24, sgf_me_8_4, sgf_me_9_22, sgf_me_9_23, sgf_me_9_0, sgf_me_9_24, sgf_me_9_4, sgf_me_10_6, sgf_me_10_21, sgf_me_10_2, sgf_me_10_20, sgf_me_10_19, sgf_me_10_18, sgf_ini_10, sgf_ini_11, sgf_in0_8, sgf_in0_9, sgf_fl_10_1, sgf_fl_11_12, sgf_fl_11_3, sgf_fl_11_13, sgf_fl_11_14, sgf_fl_11_15, sgf_fl_11_16, sgf_fl_11_17, sgf_fl_11_5, sgf_exc_2, sgf_exc_6, sgf_exc_4, sgf_exc_5, sgf_exc_1, sgf_exc_3, sgf_exm_2_0, sgf_exm_6_0, sgf_exm_4_0, sgf_exm_5_0, sgf_exm_1_0, sgf_exm_3_0, sgf_isa_2_6, sgf_isa_6_6, sgf_isa_4_6, sgf_isa_5_6, sgf_isa_1_6, sgf_isa_3_6, sgf_isz_6, sgf_isv_2, sgf_isv_6, sgf_isv_4, sgf_isv_5, sgf_isv_1, sgf_isv_3, gl_MOST_LETTERS, gl_LETTERS, gl_MOST, gl_MOST_PARTS, gl_STAYS, wipeP, List.set_cons_zero, List.set_cons_succ, seqK, listK, itemsK, isiV, e]; exact ret_here q
  | _ => simp only [evSs, evS, evE, evEs, evO, evB, evBs, evI, List.map_cons, List.map_nil, List.replicate_succ, List.replicate_zero, List.cons_append, List.nil_append, List.getElem?_cons_zero, List.getElem?_cons_succ, List.set_cons_zero, List.set_cons_succ, bv_add, bv_sub, bv_mul, bv_div, bv_mod, bv_pow, bv_str, av_add, av_sub, cv_lt, cv_le, cv_gt, cv_ge, cv_eq, cv_ne, cv_eqS, cv_neS, tv_bl, tv_int, List.length_cons, List.length_nil, pad, setT_nm, setT_tup, setTs_nil, setTs_cons, decide_eq_true_eq, Bool.not_eq_true', Bool.not_true, Bool.not_false, if_true, if_false, Bool.false_eq_true, Bool.true_eq_false, reduceIte, Nat.reduceAdd, Nat.reduceSub, Nat.reduceBEq, pow_10_9, pow_10_20, pow_10_30, cpow_10_9, cpow_10_20, cpow_10_30, divP_lit, mulP_r, mulP_l, lne_line, lt_line, isi_int, isi_bool, Int.reduceLT, Int.reduceLE, Int.reduceGT, Int.reduceGE, Int.reduceNeg, Int.reduceMul, Int.reduceAdd, Int.reduceSub, Nat.reduceLeDiff, Nat.reduceLT, true_and, and_true, decide_true, decide_false, sgf_pad_22_5, sgf_pad_22_6, sgf_pad_22_7, sgf_pad_22_8, sgf_pad_22_9, sgf_me_8_22, sgf_me_8_23, sgf_me_8_0, sgf_me_8_24, sgf_me_8_4, sgf_me_9_22, sgf_me_9_23, sgf_me_9_0, sgf_me_9_24, sgf_me_9_4, sgf_me_10_6, sgf_me_10_21, sgf_me_10_2, sgf_me_10_20, sgf_me_10_19, sgf_me_10_18, sgf_ini_10, sgf_ini_11, sgf_in0_8, sgf_in0_9, sgf_fl_10_1, sgf_fl_11_12, sgf_fl_11_3, sgf_fl_11_13, sgf_fl_11_14, sgf_fl_11_15, sgf_fl_11_16, sgf_fl_11_17, sgf_fl_11_5, sgf_exc_2, sgf_exc_6, sgf_exc_4, sgf_exc_5, sgf_exc_1, sgf_exc_3, sgf_exm_2_0, sgf_exm_6_0, sgf_exm_4_0, sgf_exm_5_0, sgf_exm_1_0, sgf_exm_3_0, sgf_isa_2_6, sgf_isa_6_6, sgf_isa_4_6, sgf_isa_5_6, sgf_isa_1_6, sgf_isa_3_6, sgf_isz_6, sgf_isv_2, sgf_isv_6, sgf_isv_4, sgf_isv_5, sgf_isv_1, sgf_isv_3, gl_MOST_LETTERS, gl_LETTERS, gl_MOST, gl_MOST_PARTS, gl_STAYS, wipeP, List.set_cons_zero, List.set_cons_succ, seqK, listK, itemsK, isiV]; exact ret_here q
theorem lt_one (a b : Nat) : decide ([a] < [b]) = decide (a < b) := by
  by_cases z : a < b
  · simp only [z, decide_true, decide_eq_true_eq]; exact List.Lex.rel z
  · simp only [z, decide_false, decide_eq_false_iff_not]
    intro y
    cases y with
    | rel r => exact z r
    | cons r => cases r
end
/-! ### both sides -/
section
variable {n : Nat} {h : PH} {Q : QE} {X : Mir.XE}
def sideC (b : Bool) : Nat := if b then 8 else 9
def sideW (b : Bool) : Str := if b then "buy" else "sell"
theorem sideOf_sp {b : Bool} (q : ∀ p, h p = none → Q (.loc p) (pup h p (.ins (sideC b) []))) : sem sg (n + 1) 9 [.str (sideW b)] h Q X := by
  refine ⟨⟨1, 1, b9, []⟩, rfl, rfl, ?_⟩
  cases b with
  | true =>
    simp only [evSs, evS, evE, evEs, evO, evB, evBs, evI, List.map_cons, List.map_nil, List.replicate_succ, List.replicate_zero, List.cons_append, List.nil_append, List.getElem?_cons_zero, List.getElem?_cons_succ, List.set_cons_zero, List.set_cons_succ, bv_add, bv_sub, bv_mul, bv_div, bv_mod, bv_pow, bv_str, av_add, av_sub, cv_lt, cv_le, cv_gt, cv_ge, cv_eq, cv_ne, cv_eqS, cv_neS, tv_bl, tv_int, List.length_cons, List.length_nil, pad, setT_nm, setT_tup, setTs_nil, setTs_cons, decide_eq_true_eq, Bool.not_eq_true', Bool.not_true, Bool.not_false, if_true, if_false, Bool.false_eq_true, Bool.true_eq_false, reduceIte, Nat.reduceAdd, Nat.reduceSub, Nat.reduceBEq, pow_10_9, pow_10_20, pow_10_30, cpow_10_9, cpow_10_20, cpow_10_30, divP_lit, mulP_r, mulP_l, lne_line, lt_line, isi_int, isi_bool, Int.reduceLT, Int.reduceLE, Int.reduceGT, Int.reduceGE, Int.reduceNeg, Int.reduceMul, Int.reduceAdd, Int.reduceSub, Nat.reduceLeDiff, Nat.reduceLT, true_and, and_true, decide_true, decide_false, sgf_pad_22_5, sgf_pad_22_6, sgf_pad_22_7, sgf_pad_22_8, sgf_pad_22_9, sgf_me_8_22, sgf_me_8_23, sgf_me_8_0, sgf_me_8_24, sgf_me_8_4, sgf_me_9_22, sgf_me_9_23, sgf_me_9_0, sgf_me_9_24, sgf_me_9_4, sgf_me_10_6, sgf_me_10_21, sgf_me_10_2, sgf_me_10_20, sgf_me_10_19, sgf_me_10_18, sgf_ini_10, sgf_ini_11, sgf_in0_8, sgf_in0_9, sgf_fl_10_1, sgf_fl_11_12, sgf_fl_11_3, sgf_fl_11_13, sgf_fl_11_14, sgf_fl_11_15, sgf_fl_11_16, sgf_fl_11_17, sgf_fl_11_5, sgf_exc_2, sgf_exc_6, sgf_exc_4, sgf_exc_5, sgf_exc_1, sgf_exc_3, sgf_exm_2_0, sgf_exm_6_0, sgf_exm_4_0, sgf_exm_5_0, sgf_exm_1_0, sgf_exm_3_0, sgf_isa_2_6, sgf_isa_6_6, sgf_isa_4_6, sgf_isa_5_6, sgf_isa_1_6, sgf_isa_3_6, sgf_isz_6, sgf_isv_2, sgf_isv_6, sgf_isv_4, sgf_isv_5, sgf_isv_1, sgf_isv_3, gl_MOST_LETTERS, gl_LETTERS, gl_MOST, gl_MOST_PARTS, gl_STAYS, wipeP, List.set_cons_zero, List.set_cons_succ, evSs_nil, List.lookup, Nat.reduceBEq, seq_str, seq_tup, seq_fl, Bool.true_and, Bool.and_true, Bool.false_and, Bool.and_false, beq_self_eq_true, b9, sideW, isiV]
    intro p np
    exact ret_here (q p np)
  | false =>
    simp only [evSs, evS, evE, evEs, evO, evB, evBs, evI, List.map_cons, List.map_nil, List.replicate_succ, List.replicate_zero, List.cons_append, List.nil_append, List.getElem?_cons_zero, List.getElem?_cons_succ, List.set_cons_zero, List.set_cons_succ, bv_add, bv_sub, bv_mul, bv_div, bv_mod, bv_pow, bv_str, av_add, av_sub, cv_lt, cv_le, cv_gt, cv_ge, cv_eq, cv_ne, cv_eqS, cv_neS, tv_bl, tv_int, List.length_cons, List.length_nil, pad, setT_nm, setT_tup, setTs_nil, setTs_cons, decide_eq_true_eq, Bool.not_eq_true', Bool.not_true, Bool.not_false, if_true, if_false, Bool.false_eq_true, Bool.true_eq_false, reduceIte, Nat.reduceAdd, Nat.reduceSub, Nat.reduceBEq, pow_10_9, pow_10_20, pow_10_30, cpow_10_9, cpow_10_20, cpow_10_30, divP_lit, mulP_r, mulP_l, lne_line, lt_line, isi_int, isi_bool, Int.reduceLT, Int.reduceLE, Int.reduceGT, Int.reduceGE, Int.reduceNeg, Int.reduceMul, Int.reduceAdd, Int.reduceSub, Nat.reduceLeDiff, Nat.reduceLT, true_and, and_true, decide_true, decide_false, sgf_pad_22_5, sgf_pad_22_6, sgf_pad_22_7, sgf_pad_22_8, sgf_pad_22_9, sgf_me_8_22, sgf_me_8_23, sgf_me_8_0, sgf_me_8_24, sgf_me_8_4, sgf_me_9_22, sgf_me_9_23, sgf_me_9_0, sgf_me_9_24, sgf_me_9_4, sgf_me_10_6, sgf_me_10_21, sgf_me_10_2, sgf_me_10_20, sgf_me_10_19, sgf_me_10_18, sgf_ini_10, sgf_ini_11, sgf_in0_8, sgf_in0_9, sgf_fl_10_1, sgf_fl_11_12, sgf_fl_11_3, sgf_fl_11_13, sgf_fl_11_14, sgf_fl_11_15, sgf_fl_11_16, sgf_fl_11_17, sgf_fl_11_5, sgf_exc_2, sgf_exc_6, sgf_exc_4, sgf_exc_5, sgf_exc_1, sgf_exc_3, sgf_exm_2_0, sgf_exm_6_0, sgf_exm_4_0, sgf_exm_5_0, sgf_exm_1_0, sgf_exm_3_0, sgf_isa_2_6, sgf_isa_6_6, sgf_isa_4_6, sgf_isa_5_6, sgf_isa_1_6, sgf_isa_3_6, sgf_isz_6, sgf_isv_2, sgf_isv_6, sgf_isv_4, sgf_isv_5, sgf_isv_1, sgf_isv_3, gl_MOST_LETTERS, gl_LETTERS, gl_MOST, gl_MOST_PARTS, gl_STAYS, wipeP, List.set_cons_zero, List.set_cons_succ, evSs_nil, List.lookup, Nat.reduceBEq, seq_str, seq_tup, seq_fl, Bool.true_and, Bool.and_true, Bool.false_and, Bool.and_false, beq_self_eq_true, b9, sideW, isiV]
    try rw [if_neg (by decide)]
    intro p np
    exact ret_here (q p np)
/-- what is no side -/
theorem sideOf_no {x : PV} (hx : match x with | .fl _ => False | .loc a => (∃ xs, h a = some (.lst xs)) ∨ (∃ f kvs, h a = some (.dct f kvs)) | .str s => s ≠ "buy" ∧ s ≠ "sell" | _ => True) (q : X 2 h) : sem sg (n + 1) 9 [x] h Q X := by
  refine ⟨⟨1, 1, b9, []⟩, rfl, rfl, ?_⟩
  simp only [evSs, evS, evE, evEs, evO, evB, evBs, evI, List.map_cons, List.map_nil, List.replicate_succ, List.replicate_zero, List.cons_append, List.nil_append, List.getElem?_cons_zero, List.getElem?_cons_succ, List.set_cons_zero, List.set_cons_succ, bv_add, bv_sub, bv_mul, bv_div, bv_mod, bv_pow, bv_str, av_add, av_sub, cv_lt, cv_le, cv_gt, cv_ge, cv_eq, cv_ne, cv_eqS, cv_neS, tv_bl, tv_int, List.length_cons, List.length_nil, pad, setT_nm, setT_tup, setTs_nil, setTs_cons, decide_eq_true_eq, Bool.not_eq_true', Bool.not_true, Bool.not_false, if_true, if_false, Bool.false_eq_true, Bool.true_eq_false, reduceIte, Nat.reduceAdd, Nat.reduceSub, Nat.reduceBEq, pow_10_9, pow_10_20, pow_10_30, cpow_10_9, cpow_10_20, cpow_10_30, divP_lit, mulP_r, mulP_l, lne_line, lt_line, isi_int, isi_bool, Int.reduceLT, Int.reduceLE, Int.reduceGT, Int.reduceGE, Int.reduceNeg, Int.reduceMul, Int.reduceAdd, Int.reduceSub, Nat.reduceLeDiff, Nat.reduceLT, true_and, and_true, decide_true, decide_false, sgf_pad_22_5, sgf_pad_22_6, sgf_pad_22_7, sgf_pad_22_8, sgf_pad_22_9, sgf_me_8_22, sgf_me_8_23, sgf_me_8_0, sgf_me_8_24, sgf_me_8_4, sgf_me_9_22, sgf_me_9_23, sgf_me_9_0, sgf_me_9_24, sgf_me_9_4, sgf_me_10_6, sgf_me_10_21, sgf_me_10_2, sgf_me_10_20, sgf_me_10_19, sgf_me_10_18, sgf_ini_10, sgf_ini_11, sgf_in0_8, sgf_in0_9, sgf_fl_10_1, sgf_fl_11_12, sgf_fl_11_3, sgf_fl_11_13, sgf_fl_11_14, sgf_fl_11_15, sgf_fl_11_16, sgf_fl_11_17, sgf_fl_11_5, sgf_exc_2, sgf_exc_6, sgf_exc_4, sgf_exc_5, sgf_exc_1, sgf_exc_3, sgf_exm_2_0, sgf_exm_6_0, sgf_exm_4_0, sgf_exm_5_0, sgf_exm_1_0, sgf_exm_3_0, sgf_isa_2_6, sgf_isa_6_6, sgf_isa_4_6, sgf_isa_5_6, sgf_isa_1_6, sgf_isa_3_6, sgf_isz_6, sgf_isv_2, sgf_isv_6, sgf_isv_4, sgf_isv_5, sgf_isv_1, sgf_isv_3, gl_MOST_LETTERS, gl_LETTERS, gl_MOST, gl_MOST_PARTS, gl_STAYS, wipeP, List.set_cons_zero, List.set_cons_succ, evSs_nil, List.lookup, Nat.reduceBEq, seq_str, seq_tup, seq_fl, Bool.true_and, Bool.and_true, Bool.false_and, Bool.and_false, beq_self_eq_true, b9]
  cases x with
  | str s =>
    simp only [evSs, evS, evE, evEs, evO, evB, evBs, evI, List.map_cons, List.map_nil, List.replicate_succ, List.replicate_zero, List.cons_append, List.nil_append, List.getElem?_cons_zero, List.getElem?_cons_succ, List.set_cons_zero, List.set_cons_succ, bv_add, bv_sub, bv_mul, bv_div, bv_mod, bv_pow, bv_str, av_add, av_sub, cv_lt, cv_le, cv_gt, cv_ge, cv_eq, cv_ne, cv_eqS, cv_neS, tv_bl, tv_int, List.length_cons, List.length_nil, pad, setT_nm, setT_tup, setTs_nil, setTs_cons, decide_eq_true_eq, Bool.not_eq_true', Bool.not_true, Bool.not_false, if_true, if_false, Bool.false_eq_true, Bool.true_eq_false, reduceIte, Nat.reduceAdd, Nat.reduceSub, Nat.reduceBEq, pow_10_9, pow_10_20, pow_10_30, cpow_10_9, cpow_10_20, cpow_10_30, divP_lit, mulP_r, mulP_l, lne_line, lt_line, isi_int, isi_bool, Int.reduceLT, Int.reduceLE, Int.reduceGT, Int.reduceGE, Int.reduceNeg, Int.reduceMul, Int.reduceAdd, Int.reduceSub, Nat.reduceLeDiff, Nat.reduceLT, true_and, and_true, decide_true, decide_false, sgf_pad_22_5, sgf_pad_22_6, sgf_pad_22_7, sgf_pad_22_8, sgf_pad_22_9, sgf_me_8_22, sgf_me_8_23, sgf_me_8_0, sgf_me_8_24, sgf_me_8_4, sgf_me_9_22, sgf_me_9_23, sgf_me_9_0, sgf_me_9_24, sgf_me_9_4, sgf_me_10_6, sgf_me_10_21, sgf_me_10_2, sgf_me_10_20, sgf_me_10_19, sgf_me_10_18, sgf_ini_10, sgf_ini_11, sgf_in0_8, sgf_in0_9, sgf_fl_10_1, sgf_fl_11_12, sgf_fl_11_3, sgf_fl_11_13, sgf_fl_11_14, sgf_fl_11_15, sgf_fl_11_16, sgf_fl_11_17, sgf_fl_11_5, sgf_exc_2, sgf_exc_6, sgf_exc_4, sgf_exc_5, sgf_exc_1, sgf_exc_3, sgf_exm_2_0, sgf_exm_6_0, sgf_exm_4_0, sgf_exm_5_0, sgf_exm_1_0, sgf_exm_3_0, sgf_isa_2_6, sgf_isa_6_6, sgf_isa_4_6, sgf_isa_5_6, sgf_isa_1_6, sgf_isa_3_6, sgf_isz_6, sgf_isv_2, sgf_isv_6, sgf_isv_4, sgf_isv_5, sgf_isv_1, sgf_isv_3, gl_MOST_LETTERS, gl_LETTERS, gl_MOST, gl_MOST_PARTS, gl_STAYS, wipeP, List.set_cons_zero, List.set_cons_succ, evSs_nil, List.lookup, Nat.reduceBEq, seq_str, seq_tup, seq_fl, Bool.true_and, Bool.and_true, Bool.false_and, Bool.and_false, beq_self_eq_true, isiV]
    rw [if_neg (by simpa using hx.1), if_neg (by simpa using hx.2)]
    exact ret_here q
  | fl s => exact hx.elim
  | loc a =>
    rcases hx with ⟨xs, e⟩ | ⟨f, kvs, e⟩
    · simp only [evSs, evS, evE, evEs, evO, evB, evBs, evI, List.map_cons, List.map_nil, List.replicate_succ, List.replicate_zero, List.cons_append, List.nil_append, List.getElem?_cons_zero, List.getElem?_cons_succ, List.set_cons_zero, List.set_cons_succ, bv_add, bv_sub, bv_mul, bv_div, bv_mod, bv_pow, bv_str, av_add, av_sub, cv_lt, cv_le, cv_gt, cv_ge, cv_eq, cv_ne, cv_eqS, cv_neS, tv_bl, tv_int, List.length_cons, List.length_nil, pad, setT_nm, setT_tup, setTs_nil, setTs_cons, decide_eq_true_eq, Bool.not_eq_true', Bool.not_true, Bool.not_false, if_true, if_false, Bool.false_eq_true, Bool.true_eq_false, reduceIte, Nat.reduceAdd, Nat.reduceSub, Nat.reduceBEq, pow_10_9, pow_10_20, pow_10_30, cpow_10_9, cpow_10_20, cpow_10_30, divP_lit, mulP_r, mulP_l, lne_line, lt_line, isi_int, isi_bool, Int.reduceLT, Int.reduceLE, Int.reduceGT, Int.reduceGE, Int.reduceNeg, Int.reduceMul, Int.reduceAdd, Int.reduceSub, Nat.reduceLeDiff, Nat.reduceLT, true_and, and_true, decide_true, decide_false, sgf_pad_22_5, sgf_pad_22_6, sgf_pad_22_7, sgf_pad_22_8, sgf_pad_22_9, sgf_me_8_22, sgf_me_8_23, sgf_me_8_0, sgf_me_8_24, sgf_me_8_4, sgf_me_9_22, sgf_me_9_23, sgf_me_9_0, sgf_me_9_24, sgf_me_9_4, sgf_me_10_6, sgf_me_10_21, sgf_me_10_2, sgf_me_10_20, sgf_me_10_19, sgf_me_10_18, sgf_ini_10, sgf_ini_11, sgf_in0_8, sgf_in0_9, sgf_fl_10_1, sgf_fl_11_12, sgf_fl_11_3, sgf_fl_11_13, sgf_fl_11_14, sgf_fl_11_15, sgf_fl_11_16, sgf_fl_11_17, sgf_fl_11_5, sgf_exc_2, sgf_exc_6, sgf_exc_4, sgf_exc_5, sgf_exc_1, sgf_exc_3, sgf_exm_2_0, sgf_exm_6_0, sgf_exm_4_0, sgf_exm_5_0, sgf_exm_1_0, sgf_exm_3_0, sgf_isa_2_6, sgf_isa_6_6, sgf_isa_4_6, sgf_isa_5_6, sgf_isa_1_6, sgf_isa_3_6, sgf_isz_6, sgf_isv_2, sgf_isv_6, sgf_isv_4, sgf_isv_5, sgf_isv_1, sgf_isv_3, gl_MOST_LETTERS, gl_LETTERS, gl_MOST, gl_MOST_PARTS, gl_STAYS, wipeP, List.set_cons_zero, List.set_cons_succ, evSs_nil, List.lookup, Nat.reduceBEq, seq_str, seq_tup, seq_fl, Bool.true_and, Bool.and_true, Bool.false_and, Bool.and_false, beq_self_eq_true, isiV, e]; exact ret_here q
    · simp only [evSs, evS, evE, evEs, evO, evB, evBs, evI, List.map_cons, List.map_nil, List.replicate_succ, List.replicate_zero, List.cons_append, List.nil_append, List.getElem?_cons_zero, List.getElem?_cons_succ, List.set_cons_zero, List.set_cons_succ, bv_add, bv_sub, bv_mul, bv_div, bv_mod, bv_pow, bv_str, av_add, av_sub, cv_lt, cv_le, cv_gt, cv_ge, cv_eq, cv_ne, cv_eqS, cv_neS, tv_bl, tv_int, List.length_cons, List.length_nil, pad, setT_nm, setT_tup, setTs_nil, setTs_cons, decide_eq_true_eq, Bool.not_eq_true', Bool.not_true, Bool.not_false, if_true, if_false, Bool.false_eq_true, Bool.true_eq_false, reduceIte, Nat.reduceAdd, Nat.reduceSub, Nat.reduceBEq, pow_10_9, pow_10_20, pow_10_30, cpow_10_9, cpow_10_20, cpow_10_30, divP_lit, mulP_r, mulP_l, lne_line, lt_line, isi_int, isi_bool, Int.reduceLT, Int.reduceLE, Int.reduceGT, Int.reduceGE, Int.reduceNeg, Int.reduceMul, Int.reduceAdd, Int.reduceSub, Nat.reduceLeDiff, Nat.reduceLT, true_and, and_true, decide_true, decide_false, sgf_pad_22_5, sgf_pad_22_6, sgf_pad_22_7, sgf_pad_22_8, sgf_pad_22_9, sgf_me_8_22, sgf_me_8_23, sgf_me_8_0, sgf_me_8_24, sgf_me_8_4, sgf_me_9_22, sgf_me_9_23, sgf_me_9_0, sgf_me_9_24, sgf_me_9_4, sgf_me_10_6, sgf_me_10_21, sgf_me_10_2, sgf_me_10_20, sgf_me_10_19, sgf_me_10_18, sgf_ini_10, sgf_ini_11, sgf_in0_8, sgf_in0_9, sgf_fl_10_1, sgf_fl_11_12, sgf_fl_11_3, sgf_fl_11_13, sgf_fl_11_14, sgf_fl_11_15, sgf_fl_11_16, sgf_fl_11_17, sgf_fl_11_5, sgf_exc_2, sgf_exc_6, sgf_exc_4, sgf_exc_5, sgf_exc_1, sgf_exc_3, sgf_exm_2_0, sgf_exm_6_0, sgf_exm_4_0, sgf_exm_5_0, sgf_exm_1_0, sgf_exm_3_0, sgf_isa_2_6, sgf_isa_6_6, sgf_isa_4_6, sgf_isa_5_6, sgf_isa_1_6, sgf_isa_3_6, sgf_isz_6, sgf_isv_2, sgf_isv_6, sgf_isv_4, sgf_isv_5, sgf_isv_1, sgf_isv_3, gl_MOST_LETTERS, gl_LETTERS, gl_MOST, gl_MOST_PARTS, gl_STAYS, wipeP, List.set_cons_zero, List.set_cons_succ, evSs_nil, List.lookup, Nat.reduceBEq, seq_str, seq_tup, seq_fl, Bool.true_and, Bool.and_true, Bool.false_and, Bool.and_false, beq_self_eq_true, isiV, e]; exact ret_here q
  | _ => simp only [evSs, evS, evE, evEs, evO, evB, evBs, evI, List.map_cons, List.map_nil, List.replicate_succ, List.replicate_zero, List.cons_append, List.nil_append, List.getElem?_cons_zero, List.getElem?_cons_succ, List.set_cons_zero, List.set_cons_succ, bv_add, bv_sub, bv_mul, bv_div, bv_mod, bv_pow, bv_str, av_add, av_sub, cv_lt, cv_le, cv_gt, cv_ge, cv_eq, cv_ne, cv_eqS, cv_neS, tv_bl, tv_int, List.length_cons, List.length_nil, pad, setT_nm, setT_tup, setTs_nil, setTs_cons, decide_eq_true_eq, Bool.not_eq_true', Bool.not_true, Bool.not_false, if_true, if_false, Bool.false_eq_true, Bool.true_eq_false, reduceIte, Nat.reduceAdd, Nat.reduceSub, Nat.reduceBEq, pow_10_9, pow_10_20, pow_10_30, cpow_10_9, cpow_10_20, cpow_10_30, divP_lit, mulP_r, mulP_l, lne_line, lt_line, isi_int, isi_bool, Int.reduceLT, Int.reduceLE, Int.reduceGT, Int.reduceGE, Int.reduceNeg, Int.reduceMul, Int.reduceAdd, Int.reduceSub, Nat.reduceLeDiff, Nat.reduceLT, true_and, and_true, decide_true, decide_false, sgf_pad_22_5, sgf_pad_22_6, sgf_pad_22_7, sgf_pad_22_8, sgf_pad_22_9, sgf_me_8_22, sgf_me_8_23, sgf_me_8_0, sgf_me_8_24, sgf_me_8_4, sgf_me_9_22, sgf_me_9_23, sgf_me_9_0, sgf_me_9_24, sgf_me_9_4, sgf_me_10_6, sgf_me_10_21, sgf_me_10_2, sgf_me_10_20, sgf_me_10_19, sgf_me_10_18, sgf_ini_10, sgf_ini_11, sgf_in0_8, sgf_in0_9, sgf_fl_10_1, sgf_fl_11_12, sgf_fl_11_3, sgf_fl_11_13, sgf_fl_11_14, sgf_fl_11_15, sgf_fl_11_16, sgf_fl_11_17, sgf_fl_11_5, sgf_exc_2, sgf_exc_6, sgf_exc_4, sgf_exc_5, sgf_exc_1, sgf_exc_3, sgf_exm_2_0, sgf_exm_6_0, sgf_exm_4_0, sgf_exm_5_0, sgf_exm_1_0, sgf_exm_3_0, sgf_isa_2_6, sgf_isa_6_6, sgf_isa_4_6, sgf_isa_5_6, sgf_isa_1_6, sgf_isa_3_6, sgf_isz_6, sgf_isv_2, sgf_isv_6, sgf_isv_4, sgf_isv_5, sgf_isv_1, sgf_isv_3, gl_MOST_LETTERS, gl_LETTERS, gl_MOST, gl_MOST_PARTS, gl_STAYS, wipeP, List.set_cons_zero, List.set_cons_succ, evSs_nil, List.lookup, Nat.reduceBEq, seq_str, seq_tup, seq_fl, Bool.true_and, Bool.and_true, Bool.false_and, Bool.and_false, beq_self_eq_true, isiV]; exact ret_here q
end
section
variable {n : Nat} {h : PH} {Q : QE} {X : Mir.XE}
/-- a side's object -/
def Sd (h : PH) (a : Addr) (b : Bool) : Prop := h a = some (.ins (sideC b) [])
def aheadB (b : Bool) (p s : Int) : Bool := if b then decide (s < p) else decide (p < s)
def optP : Option Int → PV
  | none => .non
  | some i => .int i
theorem ahead_m {C : CallS} {a : Addr} {b : Bool} {i : Nat} {x y : E} {env : PEnv} {p s : Int} (e : env[i]? = some (some (.loc a))) (ha : Sd h a b) (hx : ∀ {Q : QE}, Q (.int p) h → evE sg C x env h Q X) (hy : ∀ {Q : QE}, Q (.int s) h → evE sg C y env h Q X)
    (hC : C = sem sg (n + 1)) (q : Q (.bl (aheadB b p s)) h) : evE sg C (.meth (.var i) 0 (.cons x (.cons y .nil))) env h Q X := by
  subst hC
  unfold Sd at ha
  simp only [evS, evE, evEs, evO, evB, evBs, evI, List.map_cons, List.map_nil, List.replicate_succ, List.replicate_zero, List.cons_append, List.nil_append, List.getElem?_cons_zero, List.getElem?_cons_succ, List.set_cons_zero, List.set_cons_succ, bv_add, bv_sub, bv_mul, bv_div, bv_mod, bv_pow, bv_str, av_add, av_sub, cv_lt, cv_le, cv_gt, cv_ge, cv_eq, cv_ne, cv_eqS, cv_neS, tv_bl, tv_int, List.length_cons, List.length_nil, pad, setT_nm, setT_tup, setTs_nil, setTs_cons, decide_eq_true_eq, Bool.not_eq_true', Bool.not_true, Bool.not_false, if_true, if_false, Bool.false_eq_true, Bool.true_eq_false, reduceIte, Nat.reduceAdd, Nat.reduceSub, Nat.reduceBEq, pow_10_9, pow_10_20, pow_10_30, cpow_10_9, cpow_10_20, cpow_10_30, divP_lit, mulP_r, mulP_l, lne_line, lt_line, isi_int, isi_bool, Int.reduceLT, Int.reduceLE, Int.reduceGT, Int.reduceGE, Int.reduceNeg, Int.reduceMul, Int.reduceAdd, Int.reduceSub, Nat.reduceLeDiff, Nat.reduceLT, true_and, and_true, decide_true, decide_false, sgf_pad_22_5, sgf_pad_22_6, sgf_pad_22_7, sgf_pad_22_8, sgf_pad_22_9, sgf_me_8_22, sgf_me_8_23, sgf_me_8_0, sgf_me_8_24, sgf_me_8_4, sgf_me_9_22, sgf_me_9_23, sgf_me_9_0, sgf_me_9_24, sgf_me_9_4, sgf_me_10_6, sgf_me_10_21, sgf_me_10_2, sgf_me_10_20, sgf_me_10_19, sgf_me_10_18, sgf_ini_10, sgf_ini_11, sgf_in0_8, sgf_in0_9, sgf_fl_10_1, sgf_fl_11_12, sgf_fl_11_3, sgf_fl_11_13, sgf_fl_11_14, sgf_fl_11_15, sgf_fl_11_16, sgf_fl_11_17, sgf_fl_11_5, sgf_exc_2, sgf_exc_6, sgf_exc_4, sgf_exc_5, sgf_exc_1, sgf_exc_3, sgf_exm_2_0, sgf_exm_6_0, sgf_exm_4_0, sgf_exm_5_0, sgf_exm_1_0, sgf_exm_3_0, sgf_isa_2_6, sgf_isa_6_6, sgf_isa_4_6, sgf_isa_5_6, sgf_isa_1_6, sgf_isa_3_6, sgf_isz_6, sgf_isv_2, sgf_isv_6, sgf_isv_4, sgf_isv_5, sgf_isv_1, sgf_isv_3, gl_MOST_LETTERS, gl_LETTERS, gl_MOST, gl_MOST_PARTS, gl_STAYS, wipeP, List.set_cons_zero, List.set_cons_succ, evSs_nil, List.lookup, Nat.reduceBEq, seq_str, seq_tup, seq_fl, Bool.true_and, Bool.and_true, Bool.false_and, Bool.and_false, beq_self_eq_true, e, ha]
  cases b with
  | true =>
    simp only [evS, evE, evEs, evO, evB, evBs, evI, List.map_cons, List.map_nil, List.replicate_succ, List.replicate_zero, List.cons_append, List.nil_append, List.getElem?_cons_zero, List.getElem?_cons_succ, List.set_cons_zero, List.set_cons_succ, bv_add, bv_sub, bv_mul, bv_div, bv_mod, bv_pow, bv_str, av_add, av_sub, cv_lt, cv_le, cv_gt, cv_ge, cv_eq, cv_ne, cv_eqS, cv_neS, tv_bl, tv_int, List.length_cons, List.length_nil, pad, setT_nm, setT_tup, setTs_nil, setTs_cons, decide_eq_true_eq, Bool.not_eq_true', Bool.not_true, Bool.not_false, if_true, if_false, Bool.false_eq_true, Bool.true_eq_false, reduceIte, Nat.reduceAdd, Nat.reduceSub, Nat.reduceBEq, pow_10_9, pow_10_20, pow_10_30, cpow_10_9, cpow_10_20, cpow_10_30, divP_lit, mulP_r, mulP_l, lne_line, lt_line, isi_int, isi_bool, Int.reduceLT, Int.reduceLE, Int.reduceGT, Int.reduceGE, Int.reduceNeg, Int.reduceMul, Int.reduceAdd, Int.reduceSub, Nat.reduceLeDiff, Nat.reduceLT, true_and, and_true, decide_true, decide_false, sgf_pad_22_5, sgf_pad_22_6, sgf_pad_22_7, sgf_pad_22_8, sgf_pad_22_9, sgf_me_8_22, sgf_me_8_23, sgf_me_8_0, sgf_me_8_24, sgf_me_8_4, sgf_me_9_22, sgf_me_9_23, sgf_me_9_0, sgf_me_9_24, sgf_me_9_4, sgf_me_10_6, sgf_me_10_21, sgf_me_10_2, sgf_me_10_20, sgf_me_10_19, sgf_me_10_18, sgf_ini_10, sgf_ini_11, sgf_in0_8, sgf_in0_9, sgf_fl_10_1, sgf_fl_11_12, sgf_fl_11_3, sgf_fl_11_13, sgf_fl_11_14, sgf_fl_11_15, sgf_fl_11_16, sgf_fl_11_17, sgf_fl_11_5, sgf_exc_2, sgf_exc_6, sgf_exc_4, sgf_exc_5, sgf_exc_1, sgf_exc_3, sgf_exm_2_0, sgf_exm_6_0, sgf_exm_4_0, sgf_exm_5_0, sgf_exm_1_0, sgf_exm_3_0, sgf_isa_2_6, sgf_isa_6_6, sgf_isa_4_6, sgf_isa_5_6, sgf_isa_1_6, sgf_isa_3_6, sgf_isz_6, sgf_isv_2, sgf_isv_6, sgf_isv_4, sgf_isv_5, sgf_isv_1, sgf_isv_3, gl_MOST_LETTERS, gl_LETTERS, gl_MOST, gl_MOST_PARTS, gl_STAYS, wipeP, List.set_cons_zero, List.set_cons_succ, evSs_nil, List.lookup, Nat.reduceBEq, seq_str, seq_tup, seq_fl, Bool.true_and, Bool.and_true, Bool.false_and, Bool.and_false, beq_self_eq_true, sideC, List.lookup_nil]
    refine hx (hy ?_)
    refine ⟨⟨3, 3, b3, []⟩, rfl, rfl, ?_⟩
    simp only [evSs, evS, evE, evEs, evO, evB, evBs, evI, List.map_cons, List.map_nil, List.replicate_succ, List.replicate_zero, List.cons_append, List.nil_append, List.getElem?_cons_zero, List.getElem?_cons_succ, List.set_cons_zero, List.set_cons_succ, bv_add, bv_sub, bv_mul, bv_div, bv_mod, bv_pow, bv_str, av_add, av_sub, cv_lt, cv_le, cv_gt, cv_ge, cv_eq, cv_ne, cv_eqS, cv_neS, tv_bl, tv_int, List.length_cons, List.length_nil, pad, setT_nm, setT_tup, setTs_nil, setTs_cons, decide_eq_true_eq, Bool.not_eq_true', Bool.not_true, Bool.not_false, if_true, if_false, Bool.false_eq_true, Bool.true_eq_false, reduceIte, Nat.reduceAdd, Nat.reduceSub, Nat.reduceBEq, pow_10_9, pow_10_20, pow_10_30, cpow_10_9, cpow_10_20, cpow_10_30, divP_lit, mulP_r, mulP_l, lne_line, lt_line, isi_int, isi_bool, Int.reduceLT, Int.reduceLE, Int.reduceGT, Int.reduceGE, Int.reduceNeg, Int.reduceMul, Int.reduceAdd, Int.reduceSub, Nat.reduceLeDiff, Nat.reduceLT, true_and, and_true, decide_true, decide_false, sgf_pad_22_5, sgf_pad_22_6, sgf_pad_22_7, sgf_pad_22_8, sgf_pad_22_9, sgf_me_8_22, sgf_me_8_23, sgf_me_8_0, sgf_me_8_24, sgf_me_8_4, sgf_me_9_22, sgf_me_9_23, sgf_me_9_0, sgf_me_9_24, sgf_me_9_4, sgf_me_10_6, sgf_me_10_21, sgf_me_10_2, sgf_me_10_20, sgf_me_10_19, sgf_me_10_18, sgf_ini_10, sgf_ini_11, sgf_in0_8, sgf_in0_9, sgf_fl_10_1, sgf_fl_11_12, sgf_fl_11_3, sgf_fl_11_13, sgf_fl_11_14, sgf_fl_11_15, sgf_fl_11_16, sgf_fl_11_17, sgf_fl_11_5, sgf_exc_2, sgf_exc_6, sgf_exc_4, sgf_exc_5, sgf_exc_1, sgf_exc_3, sgf_exm_2_0, sgf_exm_6_0, sgf_exm_4_0, sgf_exm_5_0, sgf_exm_1_0, sgf_exm_3_0, sgf_isa_2_6, sgf_isa_6_6, sgf_isa_4_6, sgf_isa_5_6, sgf_isa_1_6, sgf_isa_3_6, sgf_isz_6, sgf_isv_2, sgf_isv_6, sgf_isv_4, sgf_isv_5, sgf_isv_1, sgf_isv_3, gl_MOST_LETTERS, gl_LETTERS, gl_MOST, gl_MOST_PARTS, gl_STAYS, wipeP, List.set_cons_zero, List.set_cons_succ, evSs_nil, List.lookup, Nat.reduceBEq, seq_str, seq_tup, seq_fl, Bool.true_and, Bool.and_true, Bool.false_and, Bool.and_false, beq_self_eq_true, b3]
    exact ret_here q
  | false =>
    simp only [evS, evE, evEs, evO, evB, evBs, evI, List.map_cons, List.map_nil, List.replicate_succ, List.replicate_zero, List.cons_append, List.nil_append, List.getElem?_cons_zero, List.getElem?_cons_succ, List.set_cons_zero, List.set_cons_succ, bv_add, bv_sub, bv_mul, bv_div, bv_mod, bv_pow, bv_str, av_add, av_sub, cv_lt, cv_le, cv_gt, cv_ge, cv_eq, cv_ne, cv_eqS, cv_neS, tv_bl, tv_int, List.length_cons, List.length_nil, pad, setT_nm, setT_tup, setTs_nil, setTs_cons, decide_eq_true_eq, Bool.not_eq_true', Bool.not_true, Bool.not_false, if_true, if_false, Bool.false_eq_true, Bool.true_eq_false, reduceIte, Nat.reduceAdd, Nat.reduceSub, Nat.reduceBEq, pow_10_9, pow_10_20, pow_10_30, cpow_10_9, cpow_10_20, cpow_10_30, divP_lit, mulP_r, mulP_l, lne_line, lt_line, isi_int, isi_bool, Int.reduceLT, Int.reduceLE, Int.reduceGT, Int.reduceGE, Int.reduceNeg, Int.reduceMul, Int.reduceAdd, Int.reduceSub, Nat.reduceLeDiff, Nat.reduceLT, true_and, and_true, decide_true, decide_false, sgf_pad_22_5, sgf_pad_22_6, sgf_pad_22_7, sgf_pad_22_8, sgf_pad_22_9, sgf_me_8_22, sgf_me_8_23, sgf_me_8_0, sgf_me_8_24, sgf_me_8_4, sgf_me_9_22, sgf_me_9_23, sgf_me_9_0, sgf_me_9_24, sgf_me_9_4, sgf_me_10_6, sgf_me_10_21, sgf_me_10_2, sgf_me_10_20, sgf_me_10_19, sgf_me_10_18, sgf_ini_10, sgf_ini_11, sgf_in0_8, sgf_in0_9, sgf_fl_10_1, sgf_fl_11_12, sgf_fl_11_3, sgf_fl_11_13, sgf_fl_11_14, sgf_fl_11_15, sgf_fl_11_16, sgf_fl_11_17, sgf_fl_11_5, sgf_exc_2, sgf_exc_6, sgf_exc_4, sgf_exc_5, sgf_exc_1, sgf_exc_3, sgf_exm_2_0, sgf_exm_6_0, sgf_exm_4_0, sgf_exm_5_0, sgf_exm_1_0, sgf_exm_3_0, sgf_isa_2_6, sgf_isa_6_6, sgf_isa_4_6, sgf_isa_5_6, sgf_isa_1_6, sgf_isa_3_6, sgf_isz_6, sgf_isv_2, sgf_isv_6, sgf_isv_4, sgf_isv_5, sgf_isv_1, sgf_isv_3, gl_MOST_LETTERS, gl_LETTERS, gl_MOST, gl_MOST_PARTS, gl_STAYS, wipeP, List.set_cons_zero, List.set_cons_succ, evSs_nil, List.lookup, Nat.reduceBEq, seq_str, seq_tup, seq_fl, Bool.true_and, Bool.and_true, Bool.false_and, Bool.and_false, beq_self_eq_true, sideC, List.lookup_nil]
    refine hx (hy ?_)
    refine ⟨⟨3, 3, b8, []⟩, rfl, rfl, ?_⟩
    simp only [evSs, evS, evE, evEs, evO, evB, evBs, evI, List.map_cons, List.map_nil, List.replicate_succ, List.replicate_zero, List.cons_append, List.nil_append, List.getElem?_cons_zero, List.getElem?_cons_succ, List.set_cons_zero, List.set_cons_succ, bv_add, bv_sub, bv_mul, bv_div, bv_mod, bv_pow, bv_str, av_add, av_sub, cv_lt, cv_le, cv_gt, cv_ge, cv_eq, cv_ne, cv_eqS, cv_neS, tv_bl, tv_int, List.length_cons, List.length_nil, pad, setT_nm, setT_tup, setTs_nil, setTs_cons, decide_eq_true_eq, Bool.not_eq_true', Bool.not_true, Bool.not_false, if_true, if_false, Bool.false_eq_true, Bool.true_eq_false, reduceIte, Nat.reduceAdd, Nat.reduceSub, Nat.reduceBEq, pow_10_9, pow_10_20, pow_10_30, cpow_10_9, cpow_10_20, cpow_10_30, divP_lit, mulP_r, mulP_l, lne_line, lt_line, isi_int, isi_bool, Int.reduceLT, Int.reduceLE, Int.reduceGT, Int.reduceGE, Int.reduceNeg, Int.reduceMul, Int.reduceAdd, Int.reduceSub, Nat.reduceLeDiff, Nat.reduceLT, true_and, and_true, decide_true, decide_false, sgf_pad_22_5, sgf_pad_22_6, sgf_pad_22_7, sgf_pad_22_8, sgf_pad_22_9, sgf_me_8_22, sgf_me_8_23, sgf_me_8_0, sgf_me_8_24, sgf_me_8_4, sgf_me_9_22, sgf_me_9_23, sgf_me_9_0, sgf_me_9_24, sgf_me_9_4, sgf_me_10_6, sgf_me_10_21, sgf_me_10_2, sgf_me_10_20, sgf_me_10_19, sgf_me_10_18, sgf_ini_10, sgf_ini_11, sgf_in0_8, sgf_in0_9, sgf_fl_10_1, sgf_fl_11_12, sgf_fl_11_3, sgf_fl_11_13, sgf_fl_11_14, sgf_fl_11_15, sgf_fl_11_16, sgf_fl_11_17, sgf_fl_11_5, sgf_exc_2, sgf_exc_6, sgf_exc_4, sgf_exc_5, sgf_exc_1, sgf_exc_3, sgf_exm_2_0, sgf_exm_6_0, sgf_exm_4_0, sgf_exm_5_0, sgf_exm_1_0, sgf_exm_3_0, sgf_isa_2_6, sgf_isa_6_6, sgf_isa_4_6, sgf_isa_5_6, sgf_isa_1_6, sgf_isa_3_6, sgf_isz_6, sgf_isv_2, sgf_isv_6, sgf_isv_4, sgf_isv_5, sgf_isv_1, sgf_isv_3, gl_MOST_LETTERS, gl_LETTERS, gl_MOST, gl_MOST_PARTS, gl_STAYS, wipeP, List.set_cons_zero, List.set_cons_succ, evSs_nil, List.lookup, Nat.reduceBEq, seq_str, seq_tup, seq_fl, Bool.true_and, Bool.and_true, Bool.false_and, Bool.and_false, beq_self_eq_true, b8]
    exact ret_here q
theorem ahead_sp {a : Addr} {b : Bool} {p s : Int} (q : Q (.bl (aheadB b p s)) h) : sem sg (n + 1) (if b = true then 3 else 8) [.loc a, .int p, .int s] h Q X := by
  cases b with
  | true =>
    refine ⟨⟨3, 3, b3, []⟩, rfl, rfl, ?_⟩
    simp only [evSs, evS, evE, evEs, evO, evB, evBs, evI, List.map_cons, List.map_nil, List.replicate_succ, List.replicate_zero, List.cons_append, List.nil_append, List.getElem?_cons_zero, List.getElem?_cons_succ, List.set_cons_zero, List.set_cons_succ, bv_add, bv_sub, bv_mul, bv_div, bv_mod, bv_pow, bv_str, av_add, av_sub, cv_lt, cv_le, cv_gt, cv_ge, cv_eq, cv_ne, cv_eqS, cv_neS, tv_bl, tv_int, List.length_cons, List.length_nil, pad, setT_nm, setT_tup, setTs_nil, setTs_cons, decide_eq_true_eq, Bool.not_eq_true', Bool.not_true, Bool.not_false, if_true, if_false, Bool.false_eq_true, Bool.true_eq_false, reduceIte, Nat.reduceAdd, Nat.reduceSub, Nat.reduceBEq, pow_10_9, pow_10_20, pow_10_30, cpow_10_9, cpow_10_20, cpow_10_30, divP_lit, mulP_r, mulP_l, lne_line, lt_line, isi_int, isi_bool, Int.reduceLT, Int.reduceLE, Int.reduceGT, Int.reduceGE, Int.reduceNeg, Int.reduceMul, Int.reduceAdd, Int.reduceSub, Nat.reduceLeDiff, Nat.reduceLT, true_and, and_true, decide_true, decide_false, sgf_pad_22_5, sgf_pad_22_6, sgf_pad_22_7, sgf_pad_22_8, sgf_pad_22_9, sgf_me_8_22, sgf_me_8_23, sgf_me_8_0, sgf_me_8_24, sgf_me_8_4, sgf_me_9_22, sgf_me_9_23, sgf_me_9_0, sgf_me_9_24, sgf_me_9_4, sgf_me_10_6, sgf_me_10_21, sgf_me_10_2, sgf_me_10_20, sgf_me_10_19, sgf_me_10_18, sgf_ini_10, sgf_ini_11, sgf_in0_8, sgf_in0_9, sgf_fl_10_1, sgf_fl_11_12, sgf_fl_11_3, sgf_fl_11_13, sgf_fl_11_14, sgf_fl_11_15, sgf_fl_11_16, sgf_fl_11_17, sgf_fl_11_5, sgf_exc_2, sgf_exc_6, sgf_exc_4, sgf_exc_5, sgf_exc_1, sgf_exc_3, sgf_exm_2_0, sgf_exm_6_0, sgf_exm_4_0, sgf_exm_5_0, sgf_exm_1_0, sgf_exm_3_0, sgf_isa_2_6, sgf_isa_6_6, sgf_isa_4_6, sgf_isa_5_6, sgf_isa_1_6, sgf_isa_3_6, sgf_isz_6, sgf_isv_2, sgf_isv_6, sgf_isv_4, sgf_isv_5, sgf_isv_1, sgf_isv_3, gl_MOST_LETTERS, gl_LETTERS, gl_MOST, gl_MOST_PARTS, gl_STAYS, wipeP, List.set_cons_zero, List.set_cons_succ, evSs_nil, List.lookup, Nat.reduceBEq, seq_str, seq_tup, seq_fl, Bool.true_and, Bool.and_true, Bool.false_and, Bool.and_false, beq_self_eq_true, b3]
    exact ret_here q
  | false =>
    refine ⟨⟨3, 3, b8, []⟩, rfl, rfl, ?_⟩
    simp only [evSs, evS, evE, evEs, evO, evB, evBs, evI, List.map_cons, List.map_nil, List.replicate_succ, List.replicate_zero, List.cons_append, List.nil_append, List.getElem?_cons_zero, List.getElem?_cons_succ, List.set_cons_zero, List.set_cons_succ, bv_add, bv_sub, bv_mul, bv_div, bv_mod, bv_pow, bv_str, av_add, av_sub, cv_lt, cv_le, cv_gt, cv_ge, cv_eq, cv_ne, cv_eqS, cv_neS, tv_bl, tv_int, List.length_cons, List.length_nil, pad, setT_nm, setT_tup, setTs_nil, setTs_cons, decide_eq_true_eq, Bool.not_eq_true', Bool.not_true, Bool.not_false, if_true, if_false, Bool.false_eq_true, Bool.true_eq_false, reduceIte, Nat.reduceAdd, Nat.reduceSub, Nat.reduceBEq, pow_10_9, pow_10_20, pow_10_30, cpow_10_9, cpow_10_20, cpow_10_30, divP_lit, mulP_r, mulP_l, lne_line, lt_line, isi_int, isi_bool, Int.reduceLT, Int.reduceLE, Int.reduceGT, Int.reduceGE, Int.reduceNeg, Int.reduceMul, Int.reduceAdd, Int.reduceSub, Nat.reduceLeDiff, Nat.reduceLT, true_and, and_true, decide_true, decide_false, sgf_pad_22_5, sgf_pad_22_6, sgf_pad_22_7, sgf_pad_22_8, sgf_pad_22_9, sgf_me_8_22, sgf_me_8_23, sgf_me_8_0, sgf_me_8_24, sgf_me_8_4, sgf_me_9_22, sgf_me_9_23, sgf_me_9_0, sgf_me_9_24, sgf_me_9_4, sgf_me_10_6, sgf_me_10_21, sgf_me_10_2, sgf_me_10_20, sgf_me_10_19, sgf_me_10_18, sgf_ini_10, sgf_ini_11, sgf_in0_8, sgf_in0_9, sgf_fl_10_1, sgf_fl_11_12, sgf_fl_11_3, sgf_fl_11_13, sgf_fl_11_14, sgf_fl_11_15, sgf_fl_11_16, sgf_fl_11_17, sgf_fl_11_5, sgf_exc_2, sgf_exc_6, sgf_exc_4, sgf_exc_5, sgf_exc_1, sgf_exc_3, sgf_exm_2_0, sgf_exm_6_0, sgf_exm_4_0, sgf_exm_5_0, sgf_exm_1_0, sgf_exm_3_0, sgf_isa_2_6, sgf_isa_6_6, sgf_isa_4_6, sgf_isa_5_6, sgf_isa_1_6, sgf_isa_3_6, sgf_isz_6, sgf_isv_2, sgf_isv_6, sgf_isv_4, sgf_isv_5, sgf_isv_1, sgf_isv_3, gl_MOST_LETTERS, gl_LETTERS, gl_MOST, gl_MOST_PARTS, gl_STAYS, wipeP, List.set_cons_zero, List.set_cons_succ, evSs_nil, List.lookup, Nat.reduceBEq, seq_str, seq_tup, seq_fl, Bool.true_and, Bool.and_true, Bool.false_and, Bool.and_false, beq_self_eq_true, b8]
    exact ret_here q
end
section
variable {n : Nat} {h : PH} {Q : QE} {X : Mir.XE}
def wakesB (b : Bool) (w l : Int) : Bool := !aheadB b w l
theorem wakes_sp {a : Addr} {b : Bool} {w l : Int} (ha : Sd h a b) (q : Q (.bl (wakesB b w l)) h) : sem sg (n + 2) 5 [.loc a, .int w, .int l] h Q X := by
  refine ⟨⟨3, 3, b5, []⟩, rfl, rfl, ?_⟩
  rw [b5]
  unfold Sd at ha
  simp only [evSs, evS, evE, evEs, evO, evB, evBs, evI, List.map_cons, List.map_nil, List.replicate_succ, List.replicate_zero, List.cons_append, List.nil_append, List.getElem?_cons_zero, List.getElem?_cons_succ, List.set_cons_zero, List.set_cons_succ, bv_add, bv_sub, bv_mul, bv_div, bv_mod, bv_pow, bv_str, av_add, av_sub, cv_lt, cv_le, cv_gt, cv_ge, cv_eq, cv_ne, cv_eqS, cv_neS, tv_bl, tv_int, List.length_cons, List.length_nil, pad, setT_nm, setT_tup, setTs_nil, setTs_cons, decide_eq_true_eq, Bool.not_eq_true', Bool.not_true, Bool.not_false, if_true, if_false, Bool.false_eq_true, Bool.true_eq_false, reduceIte, Nat.reduceAdd, Nat.reduceSub, Nat.reduceBEq, pow_10_9, pow_10_20, pow_10_30, cpow_10_9, cpow_10_20, cpow_10_30, divP_lit, mulP_r, mulP_l, lne_line, lt_line, isi_int, isi_bool, Int.reduceLT, Int.reduceLE, Int.reduceGT, Int.reduceGE, Int.reduceNeg, Int.reduceMul, Int.reduceAdd, Int.reduceSub, Nat.reduceLeDiff, Nat.reduceLT, true_and, and_true, decide_true, decide_false, sgf_pad_22_5, sgf_pad_22_6, sgf_pad_22_7, sgf_pad_22_8, sgf_pad_22_9, sgf_me_8_22, sgf_me_8_23, sgf_me_8_0, sgf_me_8_24, sgf_me_8_4, sgf_me_9_22, sgf_me_9_23, sgf_me_9_0, sgf_me_9_24, sgf_me_9_4, sgf_me_10_6, sgf_me_10_21, sgf_me_10_2, sgf_me_10_20, sgf_me_10_19, sgf_me_10_18, sgf_ini_10, sgf_ini_11, sgf_in0_8, sgf_in0_9, sgf_fl_10_1, sgf_fl_11_12, sgf_fl_11_3, sgf_fl_11_13, sgf_fl_11_14, sgf_fl_11_15, sgf_fl_11_16, sgf_fl_11_17, sgf_fl_11_5, sgf_exc_2, sgf_exc_6, sgf_exc_4, sgf_exc_5, sgf_exc_1, sgf_exc_3, sgf_exm_2_0, sgf_exm_6_0, sgf_exm_4_0, sgf_exm_5_0, sgf_exm_1_0, sgf_exm_3_0, sgf_isa_2_6, sgf_isa_6_6, sgf_isa_4_6, sgf_isa_5_6, sgf_isa_1_6, sgf_isa_3_6, sgf_isz_6, sgf_isv_2, sgf_isv_6, sgf_isv_4, sgf_isv_5, sgf_isv_1, sgf_isv_3, gl_MOST_LETTERS, gl_LETTERS, gl_MOST, gl_MOST_PARTS, gl_STAYS, wipeP, List.set_cons_zero, List.set_cons_succ, evSs_nil, List.lookup, Nat.reduceBEq, seq_str, seq_tup, seq_fl, Bool.true_and, Bool.and_true, Bool.false_and, Bool.and_false, beq_self_eq_true, ha]
  cases b with
  | true =>
    simp only [evSs, evS, evE, evEs, evO, evB, evBs, evI, List.map_cons, List.map_nil, List.replicate_succ, List.replicate_zero, List.cons_append, List.nil_append, List.getElem?_cons_zero, List.getElem?_cons_succ, List.set_cons_zero, List.set_cons_succ, bv_add, bv_sub, bv_mul, bv_div, bv_mod, bv_pow, bv_str, av_add, av_sub, cv_lt, cv_le, cv_gt, cv_ge, cv_eq, cv_ne, cv_eqS, cv_neS, tv_bl, tv_int, List.length_cons, List.length_nil, pad, setT_nm, setT_tup, setTs_nil, setTs_cons, decide_eq_true_eq, Bool.not_eq_true', Bool.not_true, Bool.not_false, if_true, if_false, Bool.false_eq_true, Bool.true_eq_false, reduceIte, Nat.reduceAdd, Nat.reduceSub, Nat.reduceBEq, pow_10_9, pow_10_20, pow_10_30, cpow_10_9, cpow_10_20, cpow_10_30, divP_lit, mulP_r, mulP_l, lne_line, lt_line, isi_int, isi_bool, Int.reduceLT, Int.reduceLE, Int.reduceGT, Int.reduceGE, Int.reduceNeg, Int.reduceMul, Int.reduceAdd, Int.reduceSub, Nat.reduceLeDiff, Nat.reduceLT, true_and, and_true, decide_true, decide_false, sgf_pad_22_5, sgf_pad_22_6, sgf_pad_22_7, sgf_pad_22_8, sgf_pad_22_9, sgf_me_8_22, sgf_me_8_23, sgf_me_8_0, sgf_me_8_24, sgf_me_8_4, sgf_me_9_22, sgf_me_9_23, sgf_me_9_0, sgf_me_9_24, sgf_me_9_4, sgf_me_10_6, sgf_me_10_21, sgf_me_10_2, sgf_me_10_20, sgf_me_10_19, sgf_me_10_18, sgf_ini_10, sgf_ini_11, sgf_in0_8, sgf_in0_9, sgf_fl_10_1, sgf_fl_11_12, sgf_fl_11_3, sgf_fl_11_13, sgf_fl_11_14, sgf_fl_11_15, sgf_fl_11_16, sgf_fl_11_17, sgf_fl_11_5, sgf_exc_2, sgf_exc_6, sgf_exc_4, sgf_exc_5, sgf_exc_1, sgf_exc_3, sgf_exm_2_0, sgf_exm_6_0, sgf_exm_4_0, sgf_exm_5_0, sgf_exm_1_0, sgf_exm_3_0, sgf_isa_2_6, sgf_isa_6_6, sgf_isa_4_6, sgf_isa_5_6, sgf_isa_1_6, sgf_isa_3_6, sgf_isz_6, sgf_isv_2, sgf_isv_6, sgf_isv_4, sgf_isv_5, sgf_isv_1, sgf_isv_3, gl_MOST_LETTERS, gl_LETTERS, gl_MOST, gl_MOST_PARTS, gl_STAYS, wipeP, List.set_cons_zero, List.set_cons_succ, evSs_nil, List.lookup, Nat.reduceBEq, seq_str, seq_tup, seq_fl, Bool.true_and, Bool.and_true, Bool.false_and, Bool.and_false, beq_self_eq_true, sideC, List.lookup_nil]
    refine ahead_sp (b := true) ?_
    simp only [evSs, evS, evE, evEs, evO, evB, evBs, evI, List.map_cons, List.map_nil, List.replicate_succ, List.replicate_zero, List.cons_append, List.nil_append, List.getElem?_cons_zero, List.getElem?_cons_succ, List.set_cons_zero, List.set_cons_succ, bv_add, bv_sub, bv_mul, bv_div, bv_mod, bv_pow, bv_str, av_add, av_sub, cv_lt, cv_le, cv_gt, cv_ge, cv_eq, cv_ne, cv_eqS, cv_neS, tv_bl, tv_int, List.length_cons, List.length_nil, pad, setT_nm, setT_tup, setTs_nil, setTs_cons, decide_eq_true_eq, Bool.not_eq_true', Bool.not_true, Bool.not_false, if_true, if_false, Bool.false_eq_true, Bool.true_eq_false, reduceIte, Nat.reduceAdd, Nat.reduceSub, Nat.reduceBEq, pow_10_9, pow_10_20, pow_10_30, cpow_10_9, cpow_10_20, cpow_10_30, divP_lit, mulP_r, mulP_l, lne_line, lt_line, isi_int, isi_bool, Int.reduceLT, Int.reduceLE, Int.reduceGT, Int.reduceGE, Int.reduceNeg, Int.reduceMul, Int.reduceAdd, Int.reduceSub, Nat.reduceLeDiff, Nat.reduceLT, true_and, and_true, decide_true, decide_false, sgf_pad_22_5, sgf_pad_22_6, sgf_pad_22_7, sgf_pad_22_8, sgf_pad_22_9, sgf_me_8_22, sgf_me_8_23, sgf_me_8_0, sgf_me_8_24, sgf_me_8_4, sgf_me_9_22, sgf_me_9_23, sgf_me_9_0, sgf_me_9_24, sgf_me_9_4, sgf_me_10_6, sgf_me_10_21, sgf_me_10_2, sgf_me_10_20, sgf_me_10_19, sgf_me_10_18, sgf_ini_10, sgf_ini_11, sgf_in0_8, sgf_in0_9, sgf_fl_10_1, sgf_fl_11_12, sgf_fl_11_3, sgf_fl_11_13, sgf_fl_11_14, sgf_fl_11_15, sgf_fl_11_16, sgf_fl_11_17, sgf_fl_11_5, sgf_exc_2, sgf_exc_6, sgf_exc_4, sgf_exc_5, sgf_exc_1, sgf_exc_3, sgf_exm_2_0, sgf_exm_6_0, sgf_exm_4_0, sgf_exm_5_0, sgf_exm_1_0, sgf_exm_3_0, sgf_isa_2_6, sgf_isa_6_6, sgf_isa_4_6, sgf_isa_5_6, sgf_isa_1_6, sgf_isa_3_6, sgf_isz_6, sgf_isv_2, sgf_isv_6, sgf_isv_4, sgf_isv_5, sgf_isv_1, sgf_isv_3, gl_MOST_LETTERS, gl_LETTERS, gl_MOST, gl_MOST_PARTS, gl_STAYS, wipeP, List.set_cons_zero, List.set_cons_succ, evSs_nil, List.lookup, Nat.reduceBEq, seq_str, seq_tup, seq_fl, Bool.true_and, Bool.and_true, Bool.false_and, Bool.and_false, beq_self_eq_true]
    exact ret_here q
  | false =>
    simp only [evSs, evS, evE, evEs, evO, evB, evBs, evI, List.map_cons, List.map_nil, List.replicate_succ, List.replicate_zero, List.cons_append, List.nil_append, List.getElem?_cons_zero, List.getElem?_cons_succ, List.set_cons_zero, List.set_cons_succ, bv_add, bv_sub, bv_mul, bv_div, bv_mod, bv_pow, bv_str, av_add, av_sub, cv_lt, cv_le, cv_gt, cv_ge, cv_eq, cv_ne, cv_eqS, cv_neS, tv_bl, tv_int, List.length_cons, List.length_nil, pad, setT_nm, setT_tup, setTs_nil, setTs_cons, decide_eq_true_eq, Bool.not_eq_true', Bool.not_true, Bool.not_false, if_true, if_false, Bool.false_eq_true, Bool.true_eq_false, reduceIte, Nat.reduceAdd, Nat.reduceSub, Nat.reduceBEq, pow_10_9, pow_10_20, pow_10_30, cpow_10_9, cpow_10_20, cpow_10_30, divP_lit, mulP_r, mulP_l, lne_line, lt_line, isi_int, isi_bool, Int.reduceLT, Int.reduceLE, Int.reduceGT, Int.reduceGE, Int.reduceNeg, Int.reduceMul, Int.reduceAdd, Int.reduceSub, Nat.reduceLeDiff, Nat.reduceLT, true_and, and_true, decide_true, decide_false, sgf_pad_22_5, sgf_pad_22_6, sgf_pad_22_7, sgf_pad_22_8, sgf_pad_22_9, sgf_me_8_22, sgf_me_8_23, sgf_me_8_0, sgf_me_8_24, sgf_me_8_4, sgf_me_9_22, sgf_me_9_23, sgf_me_9_0, sgf_me_9_24, sgf_me_9_4, sgf_me_10_6, sgf_me_10_21, sgf_me_10_2, sgf_me_10_20, sgf_me_10_19, sgf_me_10_18, sgf_ini_10, sgf_ini_11, sgf_in0_8, sgf_in0_9, sgf_fl_10_1, sgf_fl_11_12, sgf_fl_11_3, sgf_fl_11_13, sgf_fl_11_14, sgf_fl_11_15, sgf_fl_11_16, sgf_fl_11_17, sgf_fl_11_5, sgf_exc_2, sgf_exc_6, sgf_exc_4, sgf_exc_5, sgf_exc_1, sgf_exc_3, sgf_exm_2_0, sgf_exm_6_0, sgf_exm_4_0, sgf_exm_5_0, sgf_exm_1_0, sgf_exm_3_0, sgf_isa_2_6, sgf_isa_6_6, sgf_isa_4_6, sgf_isa_5_6, sgf_isa_1_6, sgf_isa_3_6, sgf_isz_6, sgf_isv_2, sgf_isv_6, sgf_isv_4, sgf_isv_5, sgf_isv_1, sgf_isv_3, gl_MOST_LETTERS, gl_LETTERS, gl_MOST, gl_MOST_PARTS, gl_STAYS, wipeP, List.set_cons_zero, List.set_cons_succ, evSs_nil, List.lookup, Nat.reduceBEq, seq_str, seq_tup, seq_fl, Bool.true_and, Bool.and_true, Bool.false_and, Bool.and_false, beq_self_eq_true, sideC, List.lookup_nil]
    refine ahead_sp (b := false) ?_
    simp only [evSs, evS, evE, evEs, evO, evB, evBs, evI, List.map_cons, List.map_nil, List.replicate_succ, List.replicate_zero, List.cons_append, List.nil_append, List.getElem?_cons_zero, List.getElem?_cons_succ, List.set_cons_zero, List.set_cons_succ, bv_add, bv_sub, bv_mul, bv_div, bv_mod, bv_pow, bv_str, av_add, av_sub, cv_lt, cv_le, cv_gt, cv_ge, cv_eq, cv_ne, cv_eqS, cv_neS, tv_bl, tv_int, List.length_cons, List.length_nil, pad, setT_nm, setT_tup, setTs_nil, setTs_cons, decide_eq_true_eq, Bool.not_eq_true', Bool.not_true, Bool.not_false, if_true, if_false, Bool.false_eq_true, Bool.true_eq_false, reduceIte, Nat.reduceAdd, Nat.reduceSub, Nat.reduceBEq, pow_10_9, pow_10_20, pow_10_30, cpow_10_9, cpow_10_20, cpow_10_30, divP_lit, mulP_r, mulP_l, lne_line, lt_line, isi_int, isi_bool, Int.reduceLT, Int.reduceLE, Int.reduceGT, Int.reduceGE, Int.reduceNeg, Int.reduceMul, Int.reduceAdd, Int.reduceSub, Nat.reduceLeDiff, Nat.reduceLT, true_and, and_true, decide_true, decide_false, sgf_pad_22_5, sgf_pad_22_6, sgf_pad_22_7, sgf_pad_22_8, sgf_pad_22_9, sgf_me_8_22, sgf_me_8_23, sgf_me_8_0, sgf_me_8_24, sgf_me_8_4, sgf_me_9_22, sgf_me_9_23, sgf_me_9_0, sgf_me_9_24, sgf_me_9_4, sgf_me_10_6, sgf_me_10_21, sgf_me_10_2, sgf_me_10_20, sgf_me_10_19, sgf_me_10_18, sgf_ini_10, sgf_ini_11, sgf_in0_8, sgf_in0_9, sgf_fl_10_1, sgf_fl_11_12, sgf_fl_11_3, sgf_fl_11_13, sgf_fl_11_14, sgf_fl_11_15, sgf_fl_11_16, sgf_fl_11_17, sgf_fl_11_5, sgf_exc_2, sgf_exc_6, sgf_exc_4, sgf_exc_5, sgf_exc_1, sgf_exc_3, sgf_exm_2_0, sgf_exm_6_0, sgf_exm_4_0, sgf_exm_5_0, sgf_exm_1_0, sgf_exm_3_0, sgf_isa_2_6, sgf_isa_6_6, sgf_isa_4_6, sgf_isa_5_6, sgf_isa_1_6, sgf_isa_3_6, sgf_isz_6, sgf_isv_2, sgf_isv_6, sgf_isv_4, sgf_isv_5, sgf_isv_1, sgf_isv_3, gl_MOST_LETTERS, gl_LETTERS, gl_MOST, gl_MOST_PARTS, gl_STAYS, wipeP, List.set_cons_zero, List.set_cons_succ, evSs_nil, List.lookup, Nat.reduceBEq, seq_str, seq_tup, seq_fl, Bool.true_and, Bool.and_true, Bool.false_and, Bool.and_false, beq_self_eq_true]
    exact ret_here q
end
/-! ### orders: what makes one -/
section
variable {n : Nat} {h : PH} {Q : QE} {X : Mir.XE}
/-- a part of an order as it may be given -/
def Ok (x : PV) (h : PH) : Prop := Dat x h ∧ (∀ s, x = .str s → s.length ≤ 1000) ∧ (∀ i, x = .int i → -1000000000000000000000 ≤ i ∧ i ≤ 1000000000000000000000)
theorem Dat.le {x : PV} {h g : PH} (l : PLe h g) (d : Dat x h) : Dat x g := by
  cases x with
  | loc a =>
    rcases d with ⟨xs, e⟩ | ⟨f, kvs, e⟩
    · exact .inl ⟨xs, l _ _ e⟩
    · exact .inr ⟨f, kvs, l _ _ e⟩
  | fl s => exact d
  | _ => trivial
theorem Ok.le {x : PV} {h g : PH} (l : PLe h g) (d : Ok x h) : Ok x g := ⟨d.1.le l, d.2⟩
def isI (x : PV) : Bool := match x with | .int _ => true | _ => false
def isN (x : PV) : Bool := match x with | .non => true | _ => false
def intOf (x : PV) : Int := match x with | .int i => i | _ => 0
def optB (x : PV) (lo hi : Int) : Bool := isN x || wholeB x lo hi
def sideB (x : PV) : Bool := match x with | .str s => s == "buy" || s == "sell" | _ => false
def nowB (x : PV) : Bool := match x with | .str s => s == "now" | _ => false
def stayB (x : PV) : Bool := match x with | .str s => s == "stay" || (s == "bell" || s == "now") | _ => false
def dueW (m s p am sh le st wk : PV) : Str :=
  if nameB m = false then "name" else
  if sideB s = false then "side" else
  if optB p 1 1000000000 = false then "price" else
  if wholeB am 1 1000000000 = false then "amount" else
  if optB sh ((intOf am + 49) / 50) (intOf am) = false then "amount" else
  if wholeB le 0 (intOf am) = false then "amount" else
  if stayB st = false then "stay" else
  if (isN p && !nowB st || nowB st && !isN sh) = true then "stay" else
  if optB wk 1 1000000000 = false then "price" else ""
theorem isI_V {g : PH} {x : PV} {R : PV → Prop} (d : Dat x g) (r : R (.bl (isI x))) : isiV sg x g .int fun b => if b = true then isiV sg x g .bool fun k => R (.bl !k) else R (.bl b) := by
  cases x with
  | fl s => exact d.elim
  | loc a =>
    rcases d with ⟨xs, z⟩ | ⟨f, kvs, z⟩
    · simp only [isiV, z]; exact r
    · simp only [isiV, z]; exact r
  | _ => simp only [isiV]; exact r
/-- what is no text is none -/
theorem isS_V {g : PH} {x : PV} {R : Bool → Prop} (d : Dat x g) (hn : (∀ s, x ≠ .str s) → R false) (hy : ∀ s, x = .str s → R true) : isiV sg x g .str R := by
  cases x with
  | fl s => exact d.elim
  | str s => simp only [isiV]; exact hy s rfl
  | loc a =>
    rcases d with ⟨xs, z⟩ | ⟨f, kvs, z⟩
    · simp only [isiV, z]; exact hn fun s e => by cases e
    · simp only [isiV, z]; exact hn fun s e => by cases e
  | _ => simp only [isiV]; exact hn fun s e => by cases e
theorem notn_V {g : PH} {x : PV} {R : Bool → Prop} : cmpV .notn x .non g R = R (!isN x) := by cases x <;> rfl
theorem isn_V {g : PH} {x : PV} {R : Bool → Prop} : cmpV .isn x .non g R = R (isN x) := by cases x <;> rfl
theorem kind3 (x : PV) : x = .non ∨ (∃ i, x = .int i) ∨ (isI x = false ∧ isN x = false ∧ ∀ lo hi, wholeB x lo hi = false) := by
  cases x with
  | non => exact .inl rfl
  | int i => exact .inr (.inl ⟨i, rfl⟩)
  | _ => exact .inr (.inr ⟨rfl, rfl, fun _ _ => rfl⟩)
theorem whole_int {x : PV} {lo hi : Int} (b : wholeB x lo hi = true) : ∃ i, x = .int i ∧ lo ≤ i ∧ i ≤ hi := by
  cases x with
  | int i => simp only [wholeB, Bool.and_eq_true, decide_eq_true_eq] at b; exact ⟨i, rfl, b⟩
  | _ => cases b
theorem whlT {g : PH} {x : PV} {lo hi : Int} {F N : Prop} (hf : wholeB x lo hi = false → F) (hn : wholeB x lo hi = true → N) :
    if isI x = false then F else cmpV .le (.int lo) x g fun k => if k = true then cmpV .le x (.int hi) g fun k => if k = false then F else N else F := by
  rcases kind3 x with rfl | ⟨i, rfl⟩ | ⟨z1, z2, z3⟩
  · exact hf rfl
  · rw [if_neg (by simp [isI])]
    show if decide (lo ≤ i) = true then (if decide (i ≤ hi) = false then F else N) else F
    by_cases h1 : lo ≤ i
    · rw [if_pos (by simp [h1])]
      by_cases h2 : i ≤ hi
      · rw [if_neg (by simp [h2])]
        exact hn (by simp [wholeB, h1, h2])
      · rw [if_pos (by simp [h2])]
        exact hf (by simp [wholeB, h2])
    · rw [if_neg (by simp [h1])]
      exact hf (by simp [wholeB, h1])
  · rw [if_pos z1]
    exact hf (z3 _ _)
theorem optT {g : PH} {x : PV} {lo hi : Int} {F N : Prop} (hf : optB x lo hi = false → F) (hn : optB x lo hi = true → N) :
    if isN x = false then (if isI x = false then F else cmpV .le (.int lo) x g fun k => if k = true then cmpV .le x (.int hi) g fun k => if k = false then F else N else F) else N := by
  by_cases z : isN x = false
  · rw [if_pos z]
    refine whlT (fun b => hf (by simp [optB, z, b])) fun b => hn (by simp [optB, b])
  · rw [if_neg z]
    exact hn (by simp [optB, z])
theorem stayT {b1 b2 b3 : Bool} {F N : Prop} (hf : (b1 && !b2 || b2 && !b3) = true → F) (hn : (b1 && !b2 || b2 && !b3) = false → N) : if b1 = true then (if b2 = false then F else if b2 = true then (if b3 = false then F else N) else N) else if b2 = true then (if b3 = false then F else N) else N := by
  cases b1 <;> cases b2 <;> cases b3 <;> simp at hf hn ⊢ <;> first | exact hf | exact hn
theorem optC {g : PH} {x : PV} {lo hi : Int} {F N : PH → Prop} (d : Dat x g) (hf : optB x lo hi = false → F g) (hn : optB x lo hi = true → N g) :
    if isN x = false then sem sg (n + 1) 17 [x, .int lo, .int hi] g (fun v h1 => truV v h1 fun k => if k = false then F h1 else N h1) X else N g := by
  by_cases z : isN x = false
  · rw [if_pos z]
    refine whole_sp d ?_
    show if wholeB x lo hi = false then F g else N g
    have e : optB x lo hi = wholeB x lo hi := by rw [optB, z, Bool.false_or]
    rw [e] at hf hn
    by_cases y : wholeB x lo hi = false
    · rw [if_pos y]; exact hf y
    · rw [if_neg y]; exact hn (by simpa using y)
  · rw [if_neg z]
    exact hn (by rw [optB]; simp at z; rw [z]; rfl)
theorem optPr {g : PH} {x : PV} {F N : PH → Prop} (d : Dat x g) (hf : optB x 1 1000000000 = false → F g) (hn : optB x 1 1000000000 = true → N g) :
    if isN x = false then sem sg (n + 2) 19 [x] g (fun v h1 => truV v h1 fun k => if k = false then F h1 else N h1) X else N g := by
  by_cases z : isN x = false
  · rw [if_pos z]
    refine price_sp d ?_
    show if wholeB x 1 1000000000 = false then F g else N g
    have e : optB x 1 1000000000 = wholeB x 1 1000000000 := by rw [optB, z, Bool.false_or]
    rw [e] at hf hn
    by_cases y : wholeB x 1 1000000000 = false
    · rw [if_pos y]; exact hf y
    · rw [if_neg y]; exact hn (by simpa using y)
  · rw [if_neg z]
    exact hn (by rw [optB]; simp at z; rw [z]; rfl)
theorem needAm_sp {am sh le : PV} (ka : Dat am h) (kh : Dat sh h) (kl : Dat le h) (hX : (wholeB am 1 1000000000 && (optB sh ((intOf am + 49) / 50) (intOf am) && wholeB le 0 (intOf am))) = false → X 4 h)
    (hN : (wholeB am 1 1000000000 && (optB sh ((intOf am + 49) / 50) (intOf am) && wholeB le 0 (intOf am))) = true → Q .non h) : sem sg (n + 3) 20 [am, sh, le] h Q X := by
  refine ⟨⟨3, 3, b20, []⟩, rfl, rfl, ?_⟩
  rw [b20, evSs_cons]
  simp only [evS, evE, evEs, evO, evB, evBs, evI, List.map_cons, List.map_nil, List.replicate_succ, List.replicate_zero, List.cons_append, List.nil_append, List.getElem?_cons_zero, List.getElem?_cons_succ, List.set_cons_zero, List.set_cons_succ, bv_add, bv_sub, bv_mul, bv_div, bv_mod, bv_pow, bv_str, av_add, av_sub, cv_lt, cv_le, cv_gt, cv_ge, cv_eq, cv_ne, cv_eqS, cv_neS, tv_bl, tv_int, List.length_cons, List.length_nil, pad, setT_nm, setT_tup, setTs_nil, setTs_cons, decide_eq_true_eq, Bool.not_eq_true', Bool.not_true, Bool.not_false, if_true, if_false, Bool.false_eq_true, Bool.true_eq_false, reduceIte, Nat.reduceAdd, Nat.reduceSub, Nat.reduceBEq, pow_10_9, pow_10_20, pow_10_30, cpow_10_9, cpow_10_20, cpow_10_30, divP_lit, mulP_r, mulP_l, lne_line, lt_line, isi_int, isi_bool, Int.reduceLT, Int.reduceLE, Int.reduceGT, Int.reduceGE, Int.reduceNeg, Int.reduceMul, Int.reduceAdd, Int.reduceSub, Nat.reduceLeDiff, Nat.reduceLT, true_and, and_true, decide_true, decide_false, sgf_pad_22_5, sgf_pad_22_6, sgf_pad_22_7, sgf_pad_22_8, sgf_pad_22_9, sgf_me_8_22, sgf_me_8_23, sgf_me_8_0, sgf_me_8_24, sgf_me_8_4, sgf_me_9_22, sgf_me_9_23, sgf_me_9_0, sgf_me_9_24, sgf_me_9_4, sgf_me_10_6, sgf_me_10_21, sgf_me_10_2, sgf_me_10_20, sgf_me_10_19, sgf_me_10_18, sgf_ini_10, sgf_ini_11, sgf_in0_8, sgf_in0_9, sgf_fl_10_1, sgf_fl_11_12, sgf_fl_11_3, sgf_fl_11_13, sgf_fl_11_14, sgf_fl_11_15, sgf_fl_11_16, sgf_fl_11_17, sgf_fl_11_5, sgf_exc_2, sgf_exc_6, sgf_exc_4, sgf_exc_5, sgf_exc_1, sgf_exc_3, sgf_exm_2_0, sgf_exm_6_0, sgf_exm_4_0, sgf_exm_5_0, sgf_exm_1_0, sgf_exm_3_0, sgf_isa_2_6, sgf_isa_6_6, sgf_isa_4_6, sgf_isa_5_6, sgf_isa_1_6, sgf_isa_3_6, sgf_isz_6, sgf_isv_2, sgf_isv_6, sgf_isv_4, sgf_isv_5, sgf_isv_1, sgf_isv_3, gl_MOST_LETTERS, gl_LETTERS, gl_MOST, gl_MOST_PARTS, gl_STAYS, wipeP, List.set_cons_zero, List.set_cons_succ, evSs_nil, List.lookup, Nat.reduceBEq, seq_str, seq_tup, seq_fl, Bool.true_and, Bool.and_true, Bool.false_and, Bool.and_false, beq_self_eq_true]
  refine price_sp ka ?_
  simp only [evS, evE, evEs, evO, evB, evBs, evI, List.map_cons, List.map_nil, List.replicate_succ, List.replicate_zero, List.cons_append, List.nil_append, List.getElem?_cons_zero, List.getElem?_cons_succ, List.set_cons_zero, List.set_cons_succ, bv_add, bv_sub, bv_mul, bv_div, bv_mod, bv_pow, bv_str, av_add, av_sub, cv_lt, cv_le, cv_gt, cv_ge, cv_eq, cv_ne, cv_eqS, cv_neS, tv_bl, tv_int, List.length_cons, List.length_nil, pad, setT_nm, setT_tup, setTs_nil, setTs_cons, decide_eq_true_eq, Bool.not_eq_true', Bool.not_true, Bool.not_false, if_true, if_false, Bool.false_eq_true, Bool.true_eq_false, reduceIte, Nat.reduceAdd, Nat.reduceSub, Nat.reduceBEq, pow_10_9, pow_10_20, pow_10_30, cpow_10_9, cpow_10_20, cpow_10_30, divP_lit, mulP_r, mulP_l, lne_line, lt_line, isi_int, isi_bool, Int.reduceLT, Int.reduceLE, Int.reduceGT, Int.reduceGE, Int.reduceNeg, Int.reduceMul, Int.reduceAdd, Int.reduceSub, Nat.reduceLeDiff, Nat.reduceLT, true_and, and_true, decide_true, decide_false, sgf_pad_22_5, sgf_pad_22_6, sgf_pad_22_7, sgf_pad_22_8, sgf_pad_22_9, sgf_me_8_22, sgf_me_8_23, sgf_me_8_0, sgf_me_8_24, sgf_me_8_4, sgf_me_9_22, sgf_me_9_23, sgf_me_9_0, sgf_me_9_24, sgf_me_9_4, sgf_me_10_6, sgf_me_10_21, sgf_me_10_2, sgf_me_10_20, sgf_me_10_19, sgf_me_10_18, sgf_ini_10, sgf_ini_11, sgf_in0_8, sgf_in0_9, sgf_fl_10_1, sgf_fl_11_12, sgf_fl_11_3, sgf_fl_11_13, sgf_fl_11_14, sgf_fl_11_15, sgf_fl_11_16, sgf_fl_11_17, sgf_fl_11_5, sgf_exc_2, sgf_exc_6, sgf_exc_4, sgf_exc_5, sgf_exc_1, sgf_exc_3, sgf_exm_2_0, sgf_exm_6_0, sgf_exm_4_0, sgf_exm_5_0, sgf_exm_1_0, sgf_exm_3_0, sgf_isa_2_6, sgf_isa_6_6, sgf_isa_4_6, sgf_isa_5_6, sgf_isa_1_6, sgf_isa_3_6, sgf_isz_6, sgf_isv_2, sgf_isv_6, sgf_isv_4, sgf_isv_5, sgf_isv_1, sgf_isv_3, gl_MOST_LETTERS, gl_LETTERS, gl_MOST, gl_MOST_PARTS, gl_STAYS, wipeP, List.set_cons_zero, List.set_cons_succ, evSs_nil, List.lookup, Nat.reduceBEq, seq_str, seq_tup, seq_fl, Bool.true_and, Bool.and_true, Bool.false_and, Bool.and_false, beq_self_eq_true]
  cases b4 : wholeB am 1 1000000000 with
  | false =>
    simp only [evS, evE, evEs, evO, evB, evBs, evI, List.map_cons, List.map_nil, List.replicate_succ, List.replicate_zero, List.cons_append, List.nil_append, List.getElem?_cons_zero, List.getElem?_cons_succ, List.set_cons_zero, List.set_cons_succ, bv_add, bv_sub, bv_mul, bv_div, bv_mod, bv_pow, bv_str, av_add, av_sub, cv_lt, cv_le, cv_gt, cv_ge, cv_eq, cv_ne, cv_eqS, cv_neS, tv_bl, tv_int, List.length_cons, List.length_nil, pad, setT_nm, setT_tup, setTs_nil, setTs_cons, decide_eq_true_eq, Bool.not_eq_true', Bool.not_true, Bool.not_false, if_true, if_false, Bool.false_eq_true, Bool.true_eq_false, reduceIte, Nat.reduceAdd, Nat.reduceSub, Nat.reduceBEq, pow_10_9, pow_10_20, pow_10_30, cpow_10_9, cpow_10_20, cpow_10_30, divP_lit, mulP_r, mulP_l, lne_line, lt_line, isi_int, isi_bool, Int.reduceLT, Int.reduceLE, Int.reduceGT, Int.reduceGE, Int.reduceNeg, Int.reduceMul, Int.reduceAdd, Int.reduceSub, Nat.reduceLeDiff, Nat.reduceLT, true_and, and_true, decide_true, decide_false, sgf_pad_22_5, sgf_pad_22_6, sgf_pad_22_7, sgf_pad_22_8, sgf_pad_22_9, sgf_me_8_22, sgf_me_8_23, sgf_me_8_0, sgf_me_8_24, sgf_me_8_4, sgf_me_9_22, sgf_me_9_23, sgf_me_9_0, sgf_me_9_24, sgf_me_9_4, sgf_me_10_6, sgf_me_10_21, sgf_me_10_2, sgf_me_10_20, sgf_me_10_19, sgf_me_10_18, sgf_ini_10, sgf_ini_11, sgf_in0_8, sgf_in0_9, sgf_fl_10_1, sgf_fl_11_12, sgf_fl_11_3, sgf_fl_11_13, sgf_fl_11_14, sgf_fl_11_15, sgf_fl_11_16, sgf_fl_11_17, sgf_fl_11_5, sgf_exc_2, sgf_exc_6, sgf_exc_4, sgf_exc_5, sgf_exc_1, sgf_exc_3, sgf_exm_2_0, sgf_exm_6_0, sgf_exm_4_0, sgf_exm_5_0, sgf_exm_1_0, sgf_exm_3_0, sgf_isa_2_6, sgf_isa_6_6, sgf_isa_4_6, sgf_isa_5_6, sgf_isa_1_6, sgf_isa_3_6, sgf_isz_6, sgf_isv_2, sgf_isv_6, sgf_isv_4, sgf_isv_5, sgf_isv_1, sgf_isv_3, gl_MOST_LETTERS, gl_LETTERS, gl_MOST, gl_MOST_PARTS, gl_STAYS, wipeP, List.set_cons_zero, List.set_cons_succ, evSs_nil, List.lookup, Nat.reduceBEq, seq_str, seq_tup, seq_fl, Bool.true_and, Bool.and_true, Bool.false_and, Bool.and_false, beq_self_eq_true]
    exact ⟨rfl, ret_here (hX (by rw [b4]; rfl))⟩
  | true =>
  obtain ⟨A, rfl, A1, A2⟩ := whole_int b4
  have iA : intOf (.int A) = A := rfl
  rw [b4, Bool.true_and, iA] at hX hN
  simp only [evS, evE, evEs, evO, evB, evBs, evI, List.map_cons, List.map_nil, List.replicate_succ, List.replicate_zero, List.cons_append, List.nil_append, List.getElem?_cons_zero, List.getElem?_cons_succ, List.set_cons_zero, List.set_cons_succ, bv_add, bv_sub, bv_mul, bv_div, bv_mod, bv_pow, bv_str, av_add, av_sub, cv_lt, cv_le, cv_gt, cv_ge, cv_eq, cv_ne, cv_eqS, cv_neS, tv_bl, tv_int, List.length_cons, List.length_nil, pad, setT_nm, setT_tup, setTs_nil, setTs_cons, decide_eq_true_eq, Bool.not_eq_true', Bool.not_true, Bool.not_false, if_true, if_false, Bool.false_eq_true, Bool.true_eq_false, reduceIte, Nat.reduceAdd, Nat.reduceSub, Nat.reduceBEq, pow_10_9, pow_10_20, pow_10_30, cpow_10_9, cpow_10_20, cpow_10_30, divP_lit, mulP_r, mulP_l, lne_line, lt_line, isi_int, isi_bool, Int.reduceLT, Int.reduceLE, Int.reduceGT, Int.reduceGE, Int.reduceNeg, Int.reduceMul, Int.reduceAdd, Int.reduceSub, Nat.reduceLeDiff, Nat.reduceLT, true_and, and_true, decide_true, decide_false, sgf_pad_22_5, sgf_pad_22_6, sgf_pad_22_7, sgf_pad_22_8, sgf_pad_22_9, sgf_me_8_22, sgf_me_8_23, sgf_me_8_0, sgf_me_8_24, sgf_me_8_4, sgf_me_9_22, sgf_me_9_23, sgf_me_9_0, sgf_me_9_24, sgf_me_9_4, sgf_me_10_6, sgf_me_10_21, sgf_me_10_2, sgf_me_10_20, sgf_me_10_19, sgf_me_10_18, sgf_ini_10, sgf_ini_11, sgf_in0_8, sgf_in0_9, sgf_fl_10_1, sgf_fl_11_12, sgf_fl_11_3, sgf_fl_11_13, sgf_fl_11_14, sgf_fl_11_15, sgf_fl_11_16, sgf_fl_11_17, sgf_fl_11_5, sgf_exc_2, sgf_exc_6, sgf_exc_4, sgf_exc_5, sgf_exc_1, sgf_exc_3, sgf_exm_2_0, sgf_exm_6_0, sgf_exm_4_0, sgf_exm_5_0, sgf_exm_1_0, sgf_exm_3_0, sgf_isa_2_6, sgf_isa_6_6, sgf_isa_4_6, sgf_isa_5_6, sgf_isa_1_6, sgf_isa_3_6, sgf_isz_6, sgf_isv_2, sgf_isv_6, sgf_isv_4, sgf_isv_5, sgf_isv_1, sgf_isv_3, gl_MOST_LETTERS, gl_LETTERS, gl_MOST, gl_MOST_PARTS, gl_STAYS, wipeP, List.set_cons_zero, List.set_cons_succ, evSs_nil, List.lookup, Nat.reduceBEq, seq_str, seq_tup, seq_fl, Bool.true_and, Bool.and_true, Bool.false_and, Bool.and_false, beq_self_eq_true]
  rw [evSs_cons]
  simp only [evS, evE, evEs, evO, evB, evBs, evI, List.map_cons, List.map_nil, List.replicate_succ, List.replicate_zero, List.cons_append, List.nil_append, List.getElem?_cons_zero, List.getElem?_cons_succ, List.set_cons_zero, List.set_cons_succ, bv_add, bv_sub, bv_mul, bv_div, bv_mod, bv_pow, bv_str, av_add, av_sub, cv_lt, cv_le, cv_gt, cv_ge, cv_eq, cv_ne, cv_eqS, cv_neS, tv_bl, tv_int, List.length_cons, List.length_nil, pad, setT_nm, setT_tup, setTs_nil, setTs_cons, decide_eq_true_eq, Bool.not_eq_true', Bool.not_true, Bool.not_false, if_true, if_false, Bool.false_eq_true, Bool.true_eq_false, reduceIte, Nat.reduceAdd, Nat.reduceSub, Nat.reduceBEq, pow_10_9, pow_10_20, pow_10_30, cpow_10_9, cpow_10_20, cpow_10_30, divP_lit, mulP_r, mulP_l, lne_line, lt_line, isi_int, isi_bool, Int.reduceLT, Int.reduceLE, Int.reduceGT, Int.reduceGE, Int.reduceNeg, Int.reduceMul, Int.reduceAdd, Int.reduceSub, Nat.reduceLeDiff, Nat.reduceLT, true_and, and_true, decide_true, decide_false, sgf_pad_22_5, sgf_pad_22_6, sgf_pad_22_7, sgf_pad_22_8, sgf_pad_22_9, sgf_me_8_22, sgf_me_8_23, sgf_me_8_0, sgf_me_8_24, sgf_me_8_4, sgf_me_9_22, sgf_me_9_23, sgf_me_9_0, sgf_me_9_24, sgf_me_9_4, sgf_me_10_6, sgf_me_10_21, sgf_me_10_2, sgf_me_10_20, sgf_me_10_19, sgf_me_10_18, sgf_ini_10, sgf_ini_11, sgf_in0_8, sgf_in0_9, sgf_fl_10_1, sgf_fl_11_12, sgf_fl_11_3, sgf_fl_11_13, sgf_fl_11_14, sgf_fl_11_15, sgf_fl_11_16, sgf_fl_11_17, sgf_fl_11_5, sgf_exc_2, sgf_exc_6, sgf_exc_4, sgf_exc_5, sgf_exc_1, sgf_exc_3, sgf_exm_2_0, sgf_exm_6_0, sgf_exm_4_0, sgf_exm_5_0, sgf_exm_1_0, sgf_exm_3_0, sgf_isa_2_6, sgf_isa_6_6, sgf_isa_4_6, sgf_isa_5_6, sgf_isa_1_6, sgf_isa_3_6, sgf_isz_6, sgf_isv_2, sgf_isv_6, sgf_isv_4, sgf_isv_5, sgf_isv_1, sgf_isv_3, gl_MOST_LETTERS, gl_LETTERS, gl_MOST, gl_MOST_PARTS, gl_STAYS, wipeP, List.set_cons_zero, List.set_cons_succ, evSs_nil, List.lookup, Nat.reduceBEq, seq_str, seq_tup, seq_fl, Bool.true_and, Bool.and_true, Bool.false_and, Bool.and_false, beq_self_eq_true, notn_V]
  rw [show A + 50 - 1 = A + 49 from by omega]
  refine optC kh (fun b5 => ?_) (fun b5 => ?_)
  · exact ⟨rfl, ret_here (hX (by rw [b5]; rfl))⟩
  rw [b5, Bool.true_and] at hX hN
  (try simp only [evS, evE, evEs, evO, evB, evBs, evI, List.map_cons, List.map_nil, List.replicate_succ, List.replicate_zero, List.cons_append, List.nil_append, List.getElem?_cons_zero, List.getElem?_cons_succ, List.set_cons_zero, List.set_cons_succ, bv_add, bv_sub, bv_mul, bv_div, bv_mod, bv_pow, bv_str, av_add, av_sub, cv_lt, cv_le, cv_gt, cv_ge, cv_eq, cv_ne, cv_eqS, cv_neS, tv_bl, tv_int, List.length_cons, List.length_nil, pad, setT_nm, setT_tup, setTs_nil, setTs_cons, decide_eq_true_eq, Bool.not_eq_true', Bool.not_true, Bool.not_false, if_true, if_false, Bool.false_eq_true, Bool.true_eq_false, reduceIte, Nat.reduceAdd, Nat.reduceSub, Nat.reduceBEq, pow_10_9, pow_10_20, pow_10_30, cpow_10_9, cpow_10_20, cpow_10_30, divP_lit, mulP_r, mulP_l, lne_line, lt_line, isi_int, isi_bool, Int.reduceLT, Int.reduceLE, Int.reduceGT, Int.reduceGE, Int.reduceNeg, Int.reduceMul, Int.reduceAdd, Int.reduceSub, Nat.reduceLeDiff, Nat.reduceLT, true_and, and_true, decide_true, decide_false, sgf_pad_22_5, sgf_pad_22_6, sgf_pad_22_7, sgf_pad_22_8, sgf_pad_22_9, sgf_me_8_22, sgf_me_8_23, sgf_me_8_0, sgf_me_8_24, sgf_me_8_4, sgf_me_9_22, sgf_me_9_23, sgf_me_9_0, sgf_me_9_24, sgf_me_9_4, sgf_me_10_6, sgf_me_10_21, sgf_me_10_2, sgf_me_10_20, sgf_me_10_19, sgf_me_10_18, sgf_ini_10, sgf_ini_11, sgf_in0_8, sgf_in0_9, sgf_fl_10_1, sgf_fl_11_12, sgf_fl_11_3, sgf_fl_11_13, sgf_fl_11_14, sgf_fl_11_15, sgf_fl_11_16, sgf_fl_11_17, sgf_fl_11_5, sgf_exc_2, sgf_exc_6, sgf_exc_4, sgf_exc_5, sgf_exc_1, sgf_exc_3, sgf_exm_2_0, sgf_exm_6_0, sgf_exm_4_0, sgf_exm_5_0, sgf_exm_1_0, sgf_exm_3_0, sgf_isa_2_6, sgf_isa_6_6, sgf_isa_4_6, sgf_isa_5_6, sgf_isa_1_6, sgf_isa_3_6, sgf_isz_6, sgf_isv_2, sgf_isv_6, sgf_isv_4, sgf_isv_5, sgf_isv_1, sgf_isv_3, gl_MOST_LETTERS, gl_LETTERS, gl_MOST, gl_MOST_PARTS, gl_STAYS, wipeP, List.set_cons_zero, List.set_cons_succ, evSs_nil, List.lookup, Nat.reduceBEq, seq_str, seq_tup, seq_fl, Bool.true_and, Bool.and_true, Bool.false_and, Bool.and_false, beq_self_eq_true])
  rw [evSs_cons]
  simp only [evS, evE, evEs, evO, evB, evBs, evI, List.map_cons, List.map_nil, List.replicate_succ, List.replicate_zero, List.cons_append, List.nil_append, List.getElem?_cons_zero, List.getElem?_cons_succ, List.set_cons_zero, List.set_cons_succ, bv_add, bv_sub, bv_mul, bv_div, bv_mod, bv_pow, bv_str, av_add, av_sub, cv_lt, cv_le, cv_gt, cv_ge, cv_eq, cv_ne, cv_eqS, cv_neS, tv_bl, tv_int, List.length_cons, List.length_nil, pad, setT_nm, setT_tup, setTs_nil, setTs_cons, decide_eq_true_eq, Bool.not_eq_true', Bool.not_true, Bool.not_false, if_true, if_false, Bool.false_eq_true, Bool.true_eq_false, reduceIte, Nat.reduceAdd, Nat.reduceSub, Nat.reduceBEq, pow_10_9, pow_10_20, pow_10_30, cpow_10_9, cpow_10_20, cpow_10_30, divP_lit, mulP_r, mulP_l, lne_line, lt_line, isi_int, isi_bool, Int.reduceLT, Int.reduceLE, Int.reduceGT, Int.reduceGE, Int.reduceNeg, Int.reduceMul, Int.reduceAdd, Int.reduceSub, Nat.reduceLeDiff, Nat.reduceLT, true_and, and_true, decide_true, decide_false, sgf_pad_22_5, sgf_pad_22_6, sgf_pad_22_7, sgf_pad_22_8, sgf_pad_22_9, sgf_me_8_22, sgf_me_8_23, sgf_me_8_0, sgf_me_8_24, sgf_me_8_4, sgf_me_9_22, sgf_me_9_23, sgf_me_9_0, sgf_me_9_24, sgf_me_9_4, sgf_me_10_6, sgf_me_10_21, sgf_me_10_2, sgf_me_10_20, sgf_me_10_19, sgf_me_10_18, sgf_ini_10, sgf_ini_11, sgf_in0_8, sgf_in0_9, sgf_fl_10_1, sgf_fl_11_12, sgf_fl_11_3, sgf_fl_11_13, sgf_fl_11_14, sgf_fl_11_15, sgf_fl_11_16, sgf_fl_11_17, sgf_fl_11_5, sgf_exc_2, sgf_exc_6, sgf_exc_4, sgf_exc_5, sgf_exc_1, sgf_exc_3, sgf_exm_2_0, sgf_exm_6_0, sgf_exm_4_0, sgf_exm_5_0, sgf_exm_1_0, sgf_exm_3_0, sgf_isa_2_6, sgf_isa_6_6, sgf_isa_4_6, sgf_isa_5_6, sgf_isa_1_6, sgf_isa_3_6, sgf_isz_6, sgf_isv_2, sgf_isv_6, sgf_isv_4, sgf_isv_5, sgf_isv_1, sgf_isv_3, gl_MOST_LETTERS, gl_LETTERS, gl_MOST, gl_MOST_PARTS, gl_STAYS, wipeP, List.set_cons_zero, List.set_cons_succ, evSs_nil, List.lookup, Nat.reduceBEq, seq_str, seq_tup, seq_fl, Bool.true_and, Bool.and_true, Bool.false_and, Bool.and_false, beq_self_eq_true]
  refine whole_sp kl ?_
  simp only [evS, evE, evEs, evO, evB, evBs, evI, List.map_cons, List.map_nil, List.replicate_succ, List.replicate_zero, List.cons_append, List.nil_append, List.getElem?_cons_zero, List.getElem?_cons_succ, List.set_cons_zero, List.set_cons_succ, bv_add, bv_sub, bv_mul, bv_div, bv_mod, bv_pow, bv_str, av_add, av_sub, cv_lt, cv_le, cv_gt, cv_ge, cv_eq, cv_ne, cv_eqS, cv_neS, tv_bl, tv_int, List.length_cons, List.length_nil, pad, setT_nm, setT_tup, setTs_nil, setTs_cons, decide_eq_true_eq, Bool.not_eq_true', Bool.not_true, Bool.not_false, if_true, if_false, Bool.false_eq_true, Bool.true_eq_false, reduceIte, Nat.reduceAdd, Nat.reduceSub, Nat.reduceBEq, pow_10_9, pow_10_20, pow_10_30, cpow_10_9, cpow_10_20, cpow_10_30, divP_lit, mulP_r, mulP_l, lne_line, lt_line, isi_int, isi_bool, Int.reduceLT, Int.reduceLE, Int.reduceGT, Int.reduceGE, Int.reduceNeg, Int.reduceMul, Int.reduceAdd, Int.reduceSub, Nat.reduceLeDiff, Nat.reduceLT, true_and, and_true, decide_true, decide_false, sgf_pad_22_5, sgf_pad_22_6, sgf_pad_22_7, sgf_pad_22_8, sgf_pad_22_9, sgf_me_8_22, sgf_me_8_23, sgf_me_8_0, sgf_me_8_24, sgf_me_8_4, sgf_me_9_22, sgf_me_9_23, sgf_me_9_0, sgf_me_9_24, sgf_me_9_4, sgf_me_10_6, sgf_me_10_21, sgf_me_10_2, sgf_me_10_20, sgf_me_10_19, sgf_me_10_18, sgf_ini_10, sgf_ini_11, sgf_in0_8, sgf_in0_9, sgf_fl_10_1, sgf_fl_11_12, sgf_fl_11_3, sgf_fl_11_13, sgf_fl_11_14, sgf_fl_11_15, sgf_fl_11_16, sgf_fl_11_17, sgf_fl_11_5, sgf_exc_2, sgf_exc_6, sgf_exc_4, sgf_exc_5, sgf_exc_1, sgf_exc_3, sgf_exm_2_0, sgf_exm_6_0, sgf_exm_4_0, sgf_exm_5_0, sgf_exm_1_0, sgf_exm_3_0, sgf_isa_2_6, sgf_isa_6_6, sgf_isa_4_6, sgf_isa_5_6, sgf_isa_1_6, sgf_isa_3_6, sgf_isz_6, sgf_isv_2, sgf_isv_6, sgf_isv_4, sgf_isv_5, sgf_isv_1, sgf_isv_3, gl_MOST_LETTERS, gl_LETTERS, gl_MOST, gl_MOST_PARTS, gl_STAYS, wipeP, List.set_cons_zero, List.set_cons_succ, evSs_nil, List.lookup, Nat.reduceBEq, seq_str, seq_tup, seq_fl, Bool.true_and, Bool.and_true, Bool.false_and, Bool.and_false, beq_self_eq_true]
  cases b6 : wholeB le 0 A with
  | false =>
    simp only [evS, evE, evEs, evO, evB, evBs, evI, List.map_cons, List.map_nil, List.replicate_succ, List.replicate_zero, List.cons_append, List.nil_append, List.getElem?_cons_zero, List.getElem?_cons_succ, List.set_cons_zero, List.set_cons_succ, bv_add, bv_sub, bv_mul, bv_div, bv_mod, bv_pow, bv_str, av_add, av_sub, cv_lt, cv_le, cv_gt, cv_ge, cv_eq, cv_ne, cv_eqS, cv_neS, tv_bl, tv_int, List.length_cons, List.length_nil, pad, setT_nm, setT_tup, setTs_nil, setTs_cons, decide_eq_true_eq, Bool.not_eq_true', Bool.not_true, Bool.not_false, if_true, if_false, Bool.false_eq_true, Bool.true_eq_false, reduceIte, Nat.reduceAdd, Nat.reduceSub, Nat.reduceBEq, pow_10_9, pow_10_20, pow_10_30, cpow_10_9, cpow_10_20, cpow_10_30, divP_lit, mulP_r, mulP_l, lne_line, lt_line, isi_int, isi_bool, Int.reduceLT, Int.reduceLE, Int.reduceGT, Int.reduceGE, Int.reduceNeg, Int.reduceMul, Int.reduceAdd, Int.reduceSub, Nat.reduceLeDiff, Nat.reduceLT, true_and, and_true, decide_true, decide_false, sgf_pad_22_5, sgf_pad_22_6, sgf_pad_22_7, sgf_pad_22_8, sgf_pad_22_9, sgf_me_8_22, sgf_me_8_23, sgf_me_8_0, sgf_me_8_24, sgf_me_8_4, sgf_me_9_22, sgf_me_9_23, sgf_me_9_0, sgf_me_9_24, sgf_me_9_4, sgf_me_10_6, sgf_me_10_21, sgf_me_10_2, sgf_me_10_20, sgf_me_10_19, sgf_me_10_18, sgf_ini_10, sgf_ini_11, sgf_in0_8, sgf_in0_9, sgf_fl_10_1, sgf_fl_11_12, sgf_fl_11_3, sgf_fl_11_13, sgf_fl_11_14, sgf_fl_11_15, sgf_fl_11_16, sgf_fl_11_17, sgf_fl_11_5, sgf_exc_2, sgf_exc_6, sgf_exc_4, sgf_exc_5, sgf_exc_1, sgf_exc_3, sgf_exm_2_0, sgf_exm_6_0, sgf_exm_4_0, sgf_exm_5_0, sgf_exm_1_0, sgf_exm_3_0, sgf_isa_2_6, sgf_isa_6_6, sgf_isa_4_6, sgf_isa_5_6, sgf_isa_1_6, sgf_isa_3_6, sgf_isz_6, sgf_isv_2, sgf_isv_6, sgf_isv_4, sgf_isv_5, sgf_isv_1, sgf_isv_3, gl_MOST_LETTERS, gl_LETTERS, gl_MOST, gl_MOST_PARTS, gl_STAYS, wipeP, List.set_cons_zero, List.set_cons_succ, evSs_nil, List.lookup, Nat.reduceBEq, seq_str, seq_tup, seq_fl, Bool.true_and, Bool.and_true, Bool.false_and, Bool.and_false, beq_self_eq_true]
    exact ⟨rfl, ret_here (hX b6)⟩
  | true =>
    simp only [evS, evE, evEs, evO, evB, evBs, evI, List.map_cons, List.map_nil, List.replicate_succ, List.replicate_zero, List.cons_append, List.nil_append, List.getElem?_cons_zero, List.getElem?_cons_succ, List.set_cons_zero, List.set_cons_succ, bv_add, bv_sub, bv_mul, bv_div, bv_mod, bv_pow, bv_str, av_add, av_sub, cv_lt, cv_le, cv_gt, cv_ge, cv_eq, cv_ne, cv_eqS, cv_neS, tv_bl, tv_int, List.length_cons, List.length_nil, pad, setT_nm, setT_tup, setTs_nil, setTs_cons, decide_eq_true_eq, Bool.not_eq_true', Bool.not_true, Bool.not_false, if_true, if_false, Bool.false_eq_true, Bool.true_eq_false, reduceIte, Nat.reduceAdd, Nat.reduceSub, Nat.reduceBEq, pow_10_9, pow_10_20, pow_10_30, cpow_10_9, cpow_10_20, cpow_10_30, divP_lit, mulP_r, mulP_l, lne_line, lt_line, isi_int, isi_bool, Int.reduceLT, Int.reduceLE, Int.reduceGT, Int.reduceGE, Int.reduceNeg, Int.reduceMul, Int.reduceAdd, Int.reduceSub, Nat.reduceLeDiff, Nat.reduceLT, true_and, and_true, decide_true, decide_false, sgf_pad_22_5, sgf_pad_22_6, sgf_pad_22_7, sgf_pad_22_8, sgf_pad_22_9, sgf_me_8_22, sgf_me_8_23, sgf_me_8_0, sgf_me_8_24, sgf_me_8_4, sgf_me_9_22, sgf_me_9_23, sgf_me_9_0, sgf_me_9_24, sgf_me_9_4, sgf_me_10_6, sgf_me_10_21, sgf_me_10_2, sgf_me_10_20, sgf_me_10_19, sgf_me_10_18, sgf_ini_10, sgf_ini_11, sgf_in0_8, sgf_in0_9, sgf_fl_10_1, sgf_fl_11_12, sgf_fl_11_3, sgf_fl_11_13, sgf_fl_11_14, sgf_fl_11_15, sgf_fl_11_16, sgf_fl_11_17, sgf_fl_11_5, sgf_exc_2, sgf_exc_6, sgf_exc_4, sgf_exc_5, sgf_exc_1, sgf_exc_3, sgf_exm_2_0, sgf_exm_6_0, sgf_exm_4_0, sgf_exm_5_0, sgf_exm_1_0, sgf_exm_3_0, sgf_isa_2_6, sgf_isa_6_6, sgf_isa_4_6, sgf_isa_5_6, sgf_isa_1_6, sgf_isa_3_6, sgf_isz_6, sgf_isv_2, sgf_isv_6, sgf_isv_4, sgf_isv_5, sgf_isv_1, sgf_isv_3, gl_MOST_LETTERS, gl_LETTERS, gl_MOST, gl_MOST_PARTS, gl_STAYS, wipeP, List.set_cons_zero, List.set_cons_succ, evSs_nil, List.lookup, Nat.reduceBEq, seq_str, seq_tup, seq_fl, Bool.true_and, Bool.and_true, Bool.false_and, Bool.and_false, beq_self_eq_true]
    exact ret_here (hN b6)
theorem twoT {b1 b2 : Bool} {F N : Prop} (hf : (b1 && !b2) = true → F) (hn : (b1 && !b2) = false → N) : if b1 = true then (if b2 = false then F else N) else N := by
  cases b1 <;> cases b2 <;> first | exact hf rfl | exact hn rfl
theorem needSt_sp {st p sh : PV} (kt : Ok st h) (hX : (stayB st && !(isN p && !nowB st || nowB st && !isN sh)) = false → X 5 h)
    (hN : (stayB st && !(isN p && !nowB st || nowB st && !isN sh)) = true → Q .non h) : sem sg (n + 1) 21 [st, p, sh] h Q X := by
  refine ⟨⟨3, 3, b21, []⟩, rfl, rfl, ?_⟩
  rw [b21, evSs_cons]
  simp only [evS, evE, evEs, evO, evB, evBs, evI, List.map_cons, List.map_nil, List.replicate_succ, List.replicate_zero, List.cons_append, List.nil_append, List.getElem?_cons_zero, List.getElem?_cons_succ, List.set_cons_zero, List.set_cons_succ, bv_add, bv_sub, bv_mul, bv_div, bv_mod, bv_pow, bv_str, av_add, av_sub, cv_lt, cv_le, cv_gt, cv_ge, cv_eq, cv_ne, cv_eqS, cv_neS, tv_bl, tv_int, List.length_cons, List.length_nil, pad, setT_nm, setT_tup, setTs_nil, setTs_cons, decide_eq_true_eq, Bool.not_eq_true', Bool.not_true, Bool.not_false, if_true, if_false, Bool.false_eq_true, Bool.true_eq_false, reduceIte, Nat.reduceAdd, Nat.reduceSub, Nat.reduceBEq, pow_10_9, pow_10_20, pow_10_30, cpow_10_9, cpow_10_20, cpow_10_30, divP_lit, mulP_r, mulP_l, lne_line, lt_line, isi_int, isi_bool, Int.reduceLT, Int.reduceLE, Int.reduceGT, Int.reduceGE, Int.reduceNeg, Int.reduceMul, Int.reduceAdd, Int.reduceSub, Nat.reduceLeDiff, Nat.reduceLT, true_and, and_true, decide_true, decide_false, sgf_pad_22_5, sgf_pad_22_6, sgf_pad_22_7, sgf_pad_22_8, sgf_pad_22_9, sgf_me_8_22, sgf_me_8_23, sgf_me_8_0, sgf_me_8_24, sgf_me_8_4, sgf_me_9_22, sgf_me_9_23, sgf_me_9_0, sgf_me_9_24, sgf_me_9_4, sgf_me_10_6, sgf_me_10_21, sgf_me_10_2, sgf_me_10_20, sgf_me_10_19, sgf_me_10_18, sgf_ini_10, sgf_ini_11, sgf_in0_8, sgf_in0_9, sgf_fl_10_1, sgf_fl_11_12, sgf_fl_11_3, sgf_fl_11_13, sgf_fl_11_14, sgf_fl_11_15, sgf_fl_11_16, sgf_fl_11_17, sgf_fl_11_5, sgf_exc_2, sgf_exc_6, sgf_exc_4, sgf_exc_5, sgf_exc_1, sgf_exc_3, sgf_exm_2_0, sgf_exm_6_0, sgf_exm_4_0, sgf_exm_5_0, sgf_exm_1_0, sgf_exm_3_0, sgf_isa_2_6, sgf_isa_6_6, sgf_isa_4_6, sgf_isa_5_6, sgf_isa_1_6, sgf_isa_3_6, sgf_isz_6, sgf_isv_2, sgf_isv_6, sgf_isv_4, sgf_isv_5, sgf_isv_1, sgf_isv_3, gl_MOST_LETTERS, gl_LETTERS, gl_MOST, gl_MOST_PARTS, gl_STAYS, wipeP, List.set_cons_zero, List.set_cons_succ, evSs_nil, List.lookup, Nat.reduceBEq, seq_str, seq_tup, seq_fl, Bool.true_and, Bool.and_true, Bool.false_and, Bool.and_false, beq_self_eq_true]
  refine isS_V kt.1 (fun nm => ?_) (fun s7 e7 => ?_)
  · exact ⟨rfl, ret_here (hX (by cases st with
      | str s => exact absurd rfl (nm s)
      | _ => rfl))⟩
  subst e7
  simp only [evS, evE, evEs, evO, evB, evBs, evI, List.map_cons, List.map_nil, List.replicate_succ, List.replicate_zero, List.cons_append, List.nil_append, List.getElem?_cons_zero, List.getElem?_cons_succ, List.set_cons_zero, List.set_cons_succ, bv_add, bv_sub, bv_mul, bv_div, bv_mod, bv_pow, bv_str, av_add, av_sub, cv_lt, cv_le, cv_gt, cv_ge, cv_eq, cv_ne, cv_eqS, cv_neS, tv_bl, tv_int, List.length_cons, List.length_nil, pad, setT_nm, setT_tup, setTs_nil, setTs_cons, decide_eq_true_eq, Bool.not_eq_true', Bool.not_true, Bool.not_false, if_true, if_false, Bool.false_eq_true, Bool.true_eq_false, reduceIte, Nat.reduceAdd, Nat.reduceSub, Nat.reduceBEq, pow_10_9, pow_10_20, pow_10_30, cpow_10_9, cpow_10_20, cpow_10_30, divP_lit, mulP_r, mulP_l, lne_line, lt_line, isi_int, isi_bool, Int.reduceLT, Int.reduceLE, Int.reduceGT, Int.reduceGE, Int.reduceNeg, Int.reduceMul, Int.reduceAdd, Int.reduceSub, Nat.reduceLeDiff, Nat.reduceLT, true_and, and_true, decide_true, decide_false, sgf_pad_22_5, sgf_pad_22_6, sgf_pad_22_7, sgf_pad_22_8, sgf_pad_22_9, sgf_me_8_22, sgf_me_8_23, sgf_me_8_0, sgf_me_8_24, sgf_me_8_4, sgf_me_9_22, sgf_me_9_23, sgf_me_9_0, sgf_me_9_24, sgf_me_9_4, sgf_me_10_6, sgf_me_10_21, sgf_me_10_2, sgf_me_10_20, sgf_me_10_19, sgf_me_10_18, sgf_ini_10, sgf_ini_11, sgf_in0_8, sgf_in0_9, sgf_fl_10_1, sgf_fl_11_12, sgf_fl_11_3, sgf_fl_11_13, sgf_fl_11_14, sgf_fl_11_15, sgf_fl_11_16, sgf_fl_11_17, sgf_fl_11_5, sgf_exc_2, sgf_exc_6, sgf_exc_4, sgf_exc_5, sgf_exc_1, sgf_exc_3, sgf_exm_2_0, sgf_exm_6_0, sgf_exm_4_0, sgf_exm_5_0, sgf_exm_1_0, sgf_exm_3_0, sgf_isa_2_6, sgf_isa_6_6, sgf_isa_4_6, sgf_isa_5_6, sgf_isa_1_6, sgf_isa_3_6, sgf_isz_6, sgf_isv_2, sgf_isv_6, sgf_isv_4, sgf_isv_5, sgf_isv_1, sgf_isv_3, gl_MOST_LETTERS, gl_LETTERS, gl_MOST, gl_MOST_PARTS, gl_STAYS, wipeP, List.set_cons_zero, List.set_cons_succ, evSs_nil, List.lookup, Nat.reduceBEq, seq_str, seq_tup, seq_fl, Bool.true_and, Bool.and_true, Bool.false_and, Bool.and_false, beq_self_eq_true, inK, cmpV]
  refine ⟨rfl, rfl, ?_⟩
  have pe : pIn (.str s7) [.str (Str.ofString "stay"), .str (Str.ofString "bell"), .str (Str.ofString "now")] = stayB (.str s7) := by
    simp only [pIn, List.any_cons, List.any_nil, Bool.or_false, peq, stayB]
    rw [Bool.beq_comm (a := s7), Bool.beq_comm (a := s7), Bool.beq_comm (a := s7)]
  rw [pe]
  cases b7 : stayB (.str s7) with
  | false =>
    exact ⟨rfl, ret_here (hX (by rw [b7]; rfl))⟩
  | true =>
  rw [b7, Bool.true_and, show nowB (.str s7) = (s7 == Str.ofString "now") from rfl] at hX hN
  simp only [evS, evE, evEs, evO, evB, evBs, evI, List.map_cons, List.map_nil, List.replicate_succ, List.replicate_zero, List.cons_append, List.nil_append, List.getElem?_cons_zero, List.getElem?_cons_succ, List.set_cons_zero, List.set_cons_succ, bv_add, bv_sub, bv_mul, bv_div, bv_mod, bv_pow, bv_str, av_add, av_sub, cv_lt, cv_le, cv_gt, cv_ge, cv_eq, cv_ne, cv_eqS, cv_neS, tv_bl, tv_int, List.length_cons, List.length_nil, pad, setT_nm, setT_tup, setTs_nil, setTs_cons, decide_eq_true_eq, Bool.not_eq_true', Bool.not_true, Bool.not_false, if_true, if_false, Bool.false_eq_true, Bool.true_eq_false, reduceIte, Nat.reduceAdd, Nat.reduceSub, Nat.reduceBEq, pow_10_9, pow_10_20, pow_10_30, cpow_10_9, cpow_10_20, cpow_10_30, divP_lit, mulP_r, mulP_l, lne_line, lt_line, isi_int, isi_bool, Int.reduceLT, Int.reduceLE, Int.reduceGT, Int.reduceGE, Int.reduceNeg, Int.reduceMul, Int.reduceAdd, Int.reduceSub, Nat.reduceLeDiff, Nat.reduceLT, true_and, and_true, decide_true, decide_false, sgf_pad_22_5, sgf_pad_22_6, sgf_pad_22_7, sgf_pad_22_8, sgf_pad_22_9, sgf_me_8_22, sgf_me_8_23, sgf_me_8_0, sgf_me_8_24, sgf_me_8_4, sgf_me_9_22, sgf_me_9_23, sgf_me_9_0, sgf_me_9_24, sgf_me_9_4, sgf_me_10_6, sgf_me_10_21, sgf_me_10_2, sgf_me_10_20, sgf_me_10_19, sgf_me_10_18, sgf_ini_10, sgf_ini_11, sgf_in0_8, sgf_in0_9, sgf_fl_10_1, sgf_fl_11_12, sgf_fl_11_3, sgf_fl_11_13, sgf_fl_11_14, sgf_fl_11_15, sgf_fl_11_16, sgf_fl_11_17, sgf_fl_11_5, sgf_exc_2, sgf_exc_6, sgf_exc_4, sgf_exc_5, sgf_exc_1, sgf_exc_3, sgf_exm_2_0, sgf_exm_6_0, sgf_exm_4_0, sgf_exm_5_0, sgf_exm_1_0, sgf_exm_3_0, sgf_isa_2_6, sgf_isa_6_6, sgf_isa_4_6, sgf_isa_5_6, sgf_isa_1_6, sgf_isa_3_6, sgf_isz_6, sgf_isv_2, sgf_isv_6, sgf_isv_4, sgf_isv_5, sgf_isv_1, sgf_isv_3, gl_MOST_LETTERS, gl_LETTERS, gl_MOST, gl_MOST_PARTS, gl_STAYS, wipeP, List.set_cons_zero, List.set_cons_succ, evSs_nil, List.lookup, Nat.reduceBEq, seq_str, seq_tup, seq_fl, Bool.true_and, Bool.and_true, Bool.false_and, Bool.and_false, beq_self_eq_true]
  rw [evSs_cons]
  simp only [evS, evE, evEs, evO, evB, evBs, evI, List.map_cons, List.map_nil, List.replicate_succ, List.replicate_zero, List.cons_append, List.nil_append, List.getElem?_cons_zero, List.getElem?_cons_succ, List.set_cons_zero, List.set_cons_succ, bv_add, bv_sub, bv_mul, bv_div, bv_mod, bv_pow, bv_str, av_add, av_sub, cv_lt, cv_le, cv_gt, cv_ge, cv_eq, cv_ne, cv_eqS, cv_neS, tv_bl, tv_int, List.length_cons, List.length_nil, pad, setT_nm, setT_tup, setTs_nil, setTs_cons, decide_eq_true_eq, Bool.not_eq_true', Bool.not_true, Bool.not_false, if_true, if_false, Bool.false_eq_true, Bool.true_eq_false, reduceIte, Nat.reduceAdd, Nat.reduceSub, Nat.reduceBEq, pow_10_9, pow_10_20, pow_10_30, cpow_10_9, cpow_10_20, cpow_10_30, divP_lit, mulP_r, mulP_l, lne_line, lt_line, isi_int, isi_bool, Int.reduceLT, Int.reduceLE, Int.reduceGT, Int.reduceGE, Int.reduceNeg, Int.reduceMul, Int.reduceAdd, Int.reduceSub, Nat.reduceLeDiff, Nat.reduceLT, true_and, and_true, decide_true, decide_false, sgf_pad_22_5, sgf_pad_22_6, sgf_pad_22_7, sgf_pad_22_8, sgf_pad_22_9, sgf_me_8_22, sgf_me_8_23, sgf_me_8_0, sgf_me_8_24, sgf_me_8_4, sgf_me_9_22, sgf_me_9_23, sgf_me_9_0, sgf_me_9_24, sgf_me_9_4, sgf_me_10_6, sgf_me_10_21, sgf_me_10_2, sgf_me_10_20, sgf_me_10_19, sgf_me_10_18, sgf_ini_10, sgf_ini_11, sgf_in0_8, sgf_in0_9, sgf_fl_10_1, sgf_fl_11_12, sgf_fl_11_3, sgf_fl_11_13, sgf_fl_11_14, sgf_fl_11_15, sgf_fl_11_16, sgf_fl_11_17, sgf_fl_11_5, sgf_exc_2, sgf_exc_6, sgf_exc_4, sgf_exc_5, sgf_exc_1, sgf_exc_3, sgf_exm_2_0, sgf_exm_6_0, sgf_exm_4_0, sgf_exm_5_0, sgf_exm_1_0, sgf_exm_3_0, sgf_isa_2_6, sgf_isa_6_6, sgf_isa_4_6, sgf_isa_5_6, sgf_isa_1_6, sgf_isa_3_6, sgf_isz_6, sgf_isv_2, sgf_isv_6, sgf_isv_4, sgf_isv_5, sgf_isv_1, sgf_isv_3, gl_MOST_LETTERS, gl_LETTERS, gl_MOST, gl_MOST_PARTS, gl_STAYS, wipeP, List.set_cons_zero, List.set_cons_succ, evSs_nil, List.lookup, Nat.reduceBEq, seq_str, seq_tup, seq_fl, Bool.true_and, Bool.and_true, Bool.false_and, Bool.and_false, beq_self_eq_true, isn_V, notn_V]
  refine twoT (fun b8 => ?_) (fun b8 => ?_)
  · exact ⟨rfl, ret_here (hX (by rw [b8]; rfl))⟩
  rw [b8, Bool.false_or] at hX hN
  (try simp only [evS, evE, evEs, evO, evB, evBs, evI, List.map_cons, List.map_nil, List.replicate_succ, List.replicate_zero, List.cons_append, List.nil_append, List.getElem?_cons_zero, List.getElem?_cons_succ, List.set_cons_zero, List.set_cons_succ, bv_add, bv_sub, bv_mul, bv_div, bv_mod, bv_pow, bv_str, av_add, av_sub, cv_lt, cv_le, cv_gt, cv_ge, cv_eq, cv_ne, cv_eqS, cv_neS, tv_bl, tv_int, List.length_cons, List.length_nil, pad, setT_nm, setT_tup, setTs_nil, setTs_cons, decide_eq_true_eq, Bool.not_eq_true', Bool.not_true, Bool.not_false, if_true, if_false, Bool.false_eq_true, Bool.true_eq_false, reduceIte, Nat.reduceAdd, Nat.reduceSub, Nat.reduceBEq, pow_10_9, pow_10_20, pow_10_30, cpow_10_9, cpow_10_20, cpow_10_30, divP_lit, mulP_r, mulP_l, lne_line, lt_line, isi_int, isi_bool, Int.reduceLT, Int.reduceLE, Int.reduceGT, Int.reduceGE, Int.reduceNeg, Int.reduceMul, Int.reduceAdd, Int.reduceSub, Nat.reduceLeDiff, Nat.reduceLT, true_and, and_true, decide_true, decide_false, sgf_pad_22_5, sgf_pad_22_6, sgf_pad_22_7, sgf_pad_22_8, sgf_pad_22_9, sgf_me_8_22, sgf_me_8_23, sgf_me_8_0, sgf_me_8_24, sgf_me_8_4, sgf_me_9_22, sgf_me_9_23, sgf_me_9_0, sgf_me_9_24, sgf_me_9_4, sgf_me_10_6, sgf_me_10_21, sgf_me_10_2, sgf_me_10_20, sgf_me_10_19, sgf_me_10_18, sgf_ini_10, sgf_ini_11, sgf_in0_8, sgf_in0_9, sgf_fl_10_1, sgf_fl_11_12, sgf_fl_11_3, sgf_fl_11_13, sgf_fl_11_14, sgf_fl_11_15, sgf_fl_11_16, sgf_fl_11_17, sgf_fl_11_5, sgf_exc_2, sgf_exc_6, sgf_exc_4, sgf_exc_5, sgf_exc_1, sgf_exc_3, sgf_exm_2_0, sgf_exm_6_0, sgf_exm_4_0, sgf_exm_5_0, sgf_exm_1_0, sgf_exm_3_0, sgf_isa_2_6, sgf_isa_6_6, sgf_isa_4_6, sgf_isa_5_6, sgf_isa_1_6, sgf_isa_3_6, sgf_isz_6, sgf_isv_2, sgf_isv_6, sgf_isv_4, sgf_isv_5, sgf_isv_1, sgf_isv_3, gl_MOST_LETTERS, gl_LETTERS, gl_MOST, gl_MOST_PARTS, gl_STAYS, wipeP, List.set_cons_zero, List.set_cons_succ, evSs_nil, List.lookup, Nat.reduceBEq, seq_str, seq_tup, seq_fl, Bool.true_and, Bool.and_true, Bool.false_and, Bool.and_false, beq_self_eq_true])
  rw [evSs_cons]
  simp only [evS, evE, evEs, evO, evB, evBs, evI, List.map_cons, List.map_nil, List.replicate_succ, List.replicate_zero, List.cons_append, List.nil_append, List.getElem?_cons_zero, List.getElem?_cons_succ, List.set_cons_zero, List.set_cons_succ, bv_add, bv_sub, bv_mul, bv_div, bv_mod, bv_pow, bv_str, av_add, av_sub, cv_lt, cv_le, cv_gt, cv_ge, cv_eq, cv_ne, cv_eqS, cv_neS, tv_bl, tv_int, List.length_cons, List.length_nil, pad, setT_nm, setT_tup, setTs_nil, setTs_cons, decide_eq_true_eq, Bool.not_eq_true', Bool.not_true, Bool.not_false, if_true, if_false, Bool.false_eq_true, Bool.true_eq_false, reduceIte, Nat.reduceAdd, Nat.reduceSub, Nat.reduceBEq, pow_10_9, pow_10_20, pow_10_30, cpow_10_9, cpow_10_20, cpow_10_30, divP_lit, mulP_r, mulP_l, lne_line, lt_line, isi_int, isi_bool, Int.reduceLT, Int.reduceLE, Int.reduceGT, Int.reduceGE, Int.reduceNeg, Int.reduceMul, Int.reduceAdd, Int.reduceSub, Nat.reduceLeDiff, Nat.reduceLT, true_and, and_true, decide_true, decide_false, sgf_pad_22_5, sgf_pad_22_6, sgf_pad_22_7, sgf_pad_22_8, sgf_pad_22_9, sgf_me_8_22, sgf_me_8_23, sgf_me_8_0, sgf_me_8_24, sgf_me_8_4, sgf_me_9_22, sgf_me_9_23, sgf_me_9_0, sgf_me_9_24, sgf_me_9_4, sgf_me_10_6, sgf_me_10_21, sgf_me_10_2, sgf_me_10_20, sgf_me_10_19, sgf_me_10_18, sgf_ini_10, sgf_ini_11, sgf_in0_8, sgf_in0_9, sgf_fl_10_1, sgf_fl_11_12, sgf_fl_11_3, sgf_fl_11_13, sgf_fl_11_14, sgf_fl_11_15, sgf_fl_11_16, sgf_fl_11_17, sgf_fl_11_5, sgf_exc_2, sgf_exc_6, sgf_exc_4, sgf_exc_5, sgf_exc_1, sgf_exc_3, sgf_exm_2_0, sgf_exm_6_0, sgf_exm_4_0, sgf_exm_5_0, sgf_exm_1_0, sgf_exm_3_0, sgf_isa_2_6, sgf_isa_6_6, sgf_isa_4_6, sgf_isa_5_6, sgf_isa_1_6, sgf_isa_3_6, sgf_isz_6, sgf_isv_2, sgf_isv_6, sgf_isv_4, sgf_isv_5, sgf_isv_1, sgf_isv_3, gl_MOST_LETTERS, gl_LETTERS, gl_MOST, gl_MOST_PARTS, gl_STAYS, wipeP, List.set_cons_zero, List.set_cons_succ, evSs_nil, List.lookup, Nat.reduceBEq, seq_str, seq_tup, seq_fl, Bool.true_and, Bool.and_true, Bool.false_and, Bool.and_false, beq_self_eq_true, isn_V, notn_V]
  refine twoT (fun b9 => ?_) (fun b9 => ?_)
  · exact ⟨rfl, ret_here (hX (by rw [b9]; rfl))⟩
  · exact ret_here (hN (by rw [b9]; rfl))
inductive Ref : Str → Nat → Prop where
  | name : Ref "name" 1
  | side : Ref "side" 2
  | price : Ref "price" 3
  | amount : Ref "amount" 4
  | stay : Ref "stay" 5
def oFs (m s p am sh le st wk : PV) : List (Nat × PV) := [(12, m), (3, s), (13, p), (14, am), (15, sh), (16, le), (17, st), (5, wk)]
theorem side_yes {w : Str} (e : sideB (.str w) = true) : ∃ b, w = sideW b := by
  simp only [sideB, Bool.or_eq_true, beq_iff_eq] at e
  rcases e with e | e
  · exact ⟨true, e⟩
  · exact ⟨false, e⟩
theorem init_sp {o : Addr} {m s p am sh le st wk : PV} (ho : h o = some (.ins 11 [])) (km : Ok m h) (ks : Ok s h) (kp : Ok p h) (ka : Ok am h) (kh : Ok sh h) (kl : Ok le h) (kt : Ok st h) (kw : Ok wk h)
    (hX : ∀ w k g, Ref w k → dueW m s p am sh le st wk = w → PLe h g → X k g)
    (hN : ∀ g, dueW m s p am sh le st wk = "" → PLe h g → Q .non (pup g o (.ins 11 (oFs m s p am sh le st wk)))) : sem sg (n + 4) 22 [.loc o, m, s, p, am, sh, le, st, wk] h Q X := by
  refine ⟨⟨9, 9, b22, [.non, .int 0, .str "stay", .non]⟩, rfl, rfl, ?_⟩
  rw [dueW] at hX hN
  rw [b22, evSs_cons]
  simp only [evS, evE, evEs, evO, evB, evBs, evI, List.map_cons, List.map_nil, List.replicate_succ, List.replicate_zero, List.cons_append, List.nil_append, List.getElem?_cons_zero, List.getElem?_cons_succ, List.set_cons_zero, List.set_cons_succ, bv_add, bv_sub, bv_mul, bv_div, bv_mod, bv_pow, bv_str, av_add, av_sub, cv_lt, cv_le, cv_gt, cv_ge, cv_eq, cv_ne, cv_eqS, cv_neS, tv_bl, tv_int, List.length_cons, List.length_nil, pad, setT_nm, setT_tup, setTs_nil, setTs_cons, decide_eq_true_eq, Bool.not_eq_true', Bool.not_true, Bool.not_false, if_true, if_false, Bool.false_eq_true, Bool.true_eq_false, reduceIte, Nat.reduceAdd, Nat.reduceSub, Nat.reduceBEq, pow_10_9, pow_10_20, pow_10_30, cpow_10_9, cpow_10_20, cpow_10_30, divP_lit, mulP_r, mulP_l, lne_line, lt_line, isi_int, isi_bool, Int.reduceLT, Int.reduceLE, Int.reduceGT, Int.reduceGE, Int.reduceNeg, Int.reduceMul, Int.reduceAdd, Int.reduceSub, Nat.reduceLeDiff, Nat.reduceLT, true_and, and_true, decide_true, decide_false, sgf_pad_22_5, sgf_pad_22_6, sgf_pad_22_7, sgf_pad_22_8, sgf_pad_22_9, sgf_me_8_22, sgf_me_8_23, sgf_me_8_0, sgf_me_8_24, sgf_me_8_4, sgf_me_9_22, sgf_me_9_23, sgf_me_9_0, sgf_me_9_24, sgf_me_9_4, sgf_me_10_6, sgf_me_10_21, sgf_me_10_2, sgf_me_10_20, sgf_me_10_19, sgf_me_10_18, sgf_ini_10, sgf_ini_11, sgf_in0_8, sgf_in0_9, sgf_fl_10_1, sgf_fl_11_12, sgf_fl_11_3, sgf_fl_11_13, sgf_fl_11_14, sgf_fl_11_15, sgf_fl_11_16, sgf_fl_11_17, sgf_fl_11_5, sgf_exc_2, sgf_exc_6, sgf_exc_4, sgf_exc_5, sgf_exc_1, sgf_exc_3, sgf_exm_2_0, sgf_exm_6_0, sgf_exm_4_0, sgf_exm_5_0, sgf_exm_1_0, sgf_exm_3_0, sgf_isa_2_6, sgf_isa_6_6, sgf_isa_4_6, sgf_isa_5_6, sgf_isa_1_6, sgf_isa_3_6, sgf_isz_6, sgf_isv_2, sgf_isv_6, sgf_isv_4, sgf_isv_5, sgf_isv_1, sgf_isv_3, gl_MOST_LETTERS, gl_LETTERS, gl_MOST, gl_MOST_PARTS, gl_STAYS, wipeP, List.set_cons_zero, List.set_cons_succ, evSs_nil, List.lookup, Nat.reduceBEq, seq_str, seq_tup, seq_fl, Bool.true_and, Bool.and_true, Bool.false_and, Bool.and_false, beq_self_eq_true]
  refine isname_sp km.1 km.2.1 ?_
  simp only [evS, evE, evEs, evO, evB, evBs, evI, List.map_cons, List.map_nil, List.replicate_succ, List.replicate_zero, List.cons_append, List.nil_append, List.getElem?_cons_zero, List.getElem?_cons_succ, List.set_cons_zero, List.set_cons_succ, bv_add, bv_sub, bv_mul, bv_div, bv_mod, bv_pow, bv_str, av_add, av_sub, cv_lt, cv_le, cv_gt, cv_ge, cv_eq, cv_ne, cv_eqS, cv_neS, tv_bl, tv_int, List.length_cons, List.length_nil, pad, setT_nm, setT_tup, setTs_nil, setTs_cons, decide_eq_true_eq, Bool.not_eq_true', Bool.not_true, Bool.not_false, if_true, if_false, Bool.false_eq_true, Bool.true_eq_false, reduceIte, Nat.reduceAdd, Nat.reduceSub, Nat.reduceBEq, pow_10_9, pow_10_20, pow_10_30, cpow_10_9, cpow_10_20, cpow_10_30, divP_lit, mulP_r, mulP_l, lne_line, lt_line, isi_int, isi_bool, Int.reduceLT, Int.reduceLE, Int.reduceGT, Int.reduceGE, Int.reduceNeg, Int.reduceMul, Int.reduceAdd, Int.reduceSub, Nat.reduceLeDiff, Nat.reduceLT, true_and, and_true, decide_true, decide_false, sgf_pad_22_5, sgf_pad_22_6, sgf_pad_22_7, sgf_pad_22_8, sgf_pad_22_9, sgf_me_8_22, sgf_me_8_23, sgf_me_8_0, sgf_me_8_24, sgf_me_8_4, sgf_me_9_22, sgf_me_9_23, sgf_me_9_0, sgf_me_9_24, sgf_me_9_4, sgf_me_10_6, sgf_me_10_21, sgf_me_10_2, sgf_me_10_20, sgf_me_10_19, sgf_me_10_18, sgf_ini_10, sgf_ini_11, sgf_in0_8, sgf_in0_9, sgf_fl_10_1, sgf_fl_11_12, sgf_fl_11_3, sgf_fl_11_13, sgf_fl_11_14, sgf_fl_11_15, sgf_fl_11_16, sgf_fl_11_17, sgf_fl_11_5, sgf_exc_2, sgf_exc_6, sgf_exc_4, sgf_exc_5, sgf_exc_1, sgf_exc_3, sgf_exm_2_0, sgf_exm_6_0, sgf_exm_4_0, sgf_exm_5_0, sgf_exm_1_0, sgf_exm_3_0, sgf_isa_2_6, sgf_isa_6_6, sgf_isa_4_6, sgf_isa_5_6, sgf_isa_1_6, sgf_isa_3_6, sgf_isz_6, sgf_isv_2, sgf_isv_6, sgf_isv_4, sgf_isv_5, sgf_isv_1, sgf_isv_3, gl_MOST_LETTERS, gl_LETTERS, gl_MOST, gl_MOST_PARTS, gl_STAYS, wipeP, List.set_cons_zero, List.set_cons_succ, evSs_nil, List.lookup, Nat.reduceBEq, seq_str, seq_tup, seq_fl, Bool.true_and, Bool.and_true, Bool.false_and, Bool.and_false, beq_self_eq_true]
  cases b1 : nameB m with
  | false =>
    simp only [evS, evE, evEs, evO, evB, evBs, evI, List.map_cons, List.map_nil, List.replicate_succ, List.replicate_zero, List.cons_append, List.nil_append, List.getElem?_cons_zero, List.getElem?_cons_succ, List.set_cons_zero, List.set_cons_succ, bv_add, bv_sub, bv_mul, bv_div, bv_mod, bv_pow, bv_str, av_add, av_sub, cv_lt, cv_le, cv_gt, cv_ge, cv_eq, cv_ne, cv_eqS, cv_neS, tv_bl, tv_int, List.length_cons, List.length_nil, pad, setT_nm, setT_tup, setTs_nil, setTs_cons, decide_eq_true_eq, Bool.not_eq_true', Bool.not_true, Bool.not_false, if_true, if_false, Bool.false_eq_true, Bool.true_eq_false, reduceIte, Nat.reduceAdd, Nat.reduceSub, Nat.reduceBEq, pow_10_9, pow_10_20, pow_10_30, cpow_10_9, cpow_10_20, cpow_10_30, divP_lit, mulP_r, mulP_l, lne_line, lt_line, isi_int, isi_bool, Int.reduceLT, Int.reduceLE, Int.reduceGT, Int.reduceGE, Int.reduceNeg, Int.reduceMul, Int.reduceAdd, Int.reduceSub, Nat.reduceLeDiff, Nat.reduceLT, true_and, and_true, decide_true, decide_false, sgf_pad_22_5, sgf_pad_22_6, sgf_pad_22_7, sgf_pad_22_8, sgf_pad_22_9, sgf_me_8_22, sgf_me_8_23, sgf_me_8_0, sgf_me_8_24, sgf_me_8_4, sgf_me_9_22, sgf_me_9_23, sgf_me_9_0, sgf_me_9_24, sgf_me_9_4, sgf_me_10_6, sgf_me_10_21, sgf_me_10_2, sgf_me_10_20, sgf_me_10_19, sgf_me_10_18, sgf_ini_10, sgf_ini_11, sgf_in0_8, sgf_in0_9, sgf_fl_10_1, sgf_fl_11_12, sgf_fl_11_3, sgf_fl_11_13, sgf_fl_11_14, sgf_fl_11_15, sgf_fl_11_16, sgf_fl_11_17, sgf_fl_11_5, sgf_exc_2, sgf_exc_6, sgf_exc_4, sgf_exc_5, sgf_exc_1, sgf_exc_3, sgf_exm_2_0, sgf_exm_6_0, sgf_exm_4_0, sgf_exm_5_0, sgf_exm_1_0, sgf_exm_3_0, sgf_isa_2_6, sgf_isa_6_6, sgf_isa_4_6, sgf_isa_5_6, sgf_isa_1_6, sgf_isa_3_6, sgf_isz_6, sgf_isv_2, sgf_isv_6, sgf_isv_4, sgf_isv_5, sgf_isv_1, sgf_isv_3, gl_MOST_LETTERS, gl_LETTERS, gl_MOST, gl_MOST_PARTS, gl_STAYS, wipeP, List.set_cons_zero, List.set_cons_succ, evSs_nil, List.lookup, Nat.reduceBEq, seq_str, seq_tup, seq_fl, Bool.true_and, Bool.and_true, Bool.false_and, Bool.and_false, beq_self_eq_true]
    exact ⟨rfl, ret_here (hX _ _ _ .name (if_pos b1) (.refl h))⟩
  | true =>
  rw [if_neg (by rw [b1]; exact Bool.noConfusion)] at hX hN
  simp only [evS, evE, evEs, evO, evB, evBs, evI, List.map_cons, List.map_nil, List.replicate_succ, List.replicate_zero, List.cons_append, List.nil_append, List.getElem?_cons_zero, List.getElem?_cons_succ, List.set_cons_zero, List.set_cons_succ, bv_add, bv_sub, bv_mul, bv_div, bv_mod, bv_pow, bv_str, av_add, av_sub, cv_lt, cv_le, cv_gt, cv_ge, cv_eq, cv_ne, cv_eqS, cv_neS, tv_bl, tv_int, List.length_cons, List.length_nil, pad, setT_nm, setT_tup, setTs_nil, setTs_cons, decide_eq_true_eq, Bool.not_eq_true', Bool.not_true, Bool.not_false, if_true, if_false, Bool.false_eq_true, Bool.true_eq_false, reduceIte, Nat.reduceAdd, Nat.reduceSub, Nat.reduceBEq, pow_10_9, pow_10_20, pow_10_30, cpow_10_9, cpow_10_20, cpow_10_30, divP_lit, mulP_r, mulP_l, lne_line, lt_line, isi_int, isi_bool, Int.reduceLT, Int.reduceLE, Int.reduceGT, Int.reduceGE, Int.reduceNeg, Int.reduceMul, Int.reduceAdd, Int.reduceSub, Nat.reduceLeDiff, Nat.reduceLT, true_and, and_true, decide_true, decide_false, sgf_pad_22_5, sgf_pad_22_6, sgf_pad_22_7, sgf_pad_22_8, sgf_pad_22_9, sgf_me_8_22, sgf_me_8_23, sgf_me_8_0, sgf_me_8_24, sgf_me_8_4, sgf_me_9_22, sgf_me_9_23, sgf_me_9_0, sgf_me_9_24, sgf_me_9_4, sgf_me_10_6, sgf_me_10_21, sgf_me_10_2, sgf_me_10_20, sgf_me_10_19, sgf_me_10_18, sgf_ini_10, sgf_ini_11, sgf_in0_8, sgf_in0_9, sgf_fl_10_1, sgf_fl_11_12, sgf_fl_11_3, sgf_fl_11_13, sgf_fl_11_14, sgf_fl_11_15, sgf_fl_11_16, sgf_fl_11_17, sgf_fl_11_5, sgf_exc_2, sgf_exc_6, sgf_exc_4, sgf_exc_5, sgf_exc_1, sgf_exc_3, sgf_exm_2_0, sgf_exm_6_0, sgf_exm_4_0, sgf_exm_5_0, sgf_exm_1_0, sgf_exm_3_0, sgf_isa_2_6, sgf_isa_6_6, sgf_isa_4_6, sgf_isa_5_6, sgf_isa_1_6, sgf_isa_3_6, sgf_isz_6, sgf_isv_2, sgf_isv_6, sgf_isv_4, sgf_isv_5, sgf_isv_1, sgf_isv_3, gl_MOST_LETTERS, gl_LETTERS, gl_MOST, gl_MOST_PARTS, gl_STAYS, wipeP, List.set_cons_zero, List.set_cons_succ, evSs_nil, List.lookup, Nat.reduceBEq, seq_str, seq_tup, seq_fl, Bool.true_and, Bool.and_true, Bool.false_and, Bool.and_false, beq_self_eq_true]
  rw [evSs_cons]
  simp only [evS, evE, evEs, evO, evB, evBs, evI, List.map_cons, List.map_nil, List.replicate_succ, List.replicate_zero, List.cons_append, List.nil_append, List.getElem?_cons_zero, List.getElem?_cons_succ, List.set_cons_zero, List.set_cons_succ, bv_add, bv_sub, bv_mul, bv_div, bv_mod, bv_pow, bv_str, av_add, av_sub, cv_lt, cv_le, cv_gt, cv_ge, cv_eq, cv_ne, cv_eqS, cv_neS, tv_bl, tv_int, List.length_cons, List.length_nil, pad, setT_nm, setT_tup, setTs_nil, setTs_cons, decide_eq_true_eq, Bool.not_eq_true', Bool.not_true, Bool.not_false, if_true, if_false, Bool.false_eq_true, Bool.true_eq_false, reduceIte, Nat.reduceAdd, Nat.reduceSub, Nat.reduceBEq, pow_10_9, pow_10_20, pow_10_30, cpow_10_9, cpow_10_20, cpow_10_30, divP_lit, mulP_r, mulP_l, lne_line, lt_line, isi_int, isi_bool, Int.reduceLT, Int.reduceLE, Int.reduceGT, Int.reduceGE, Int.reduceNeg, Int.reduceMul, Int.reduceAdd, Int.reduceSub, Nat.reduceLeDiff, Nat.reduceLT, true_and, and_true, decide_true, decide_false, sgf_pad_22_5, sgf_pad_22_6, sgf_pad_22_7, sgf_pad_22_8, sgf_pad_22_9, sgf_me_8_22, sgf_me_8_23, sgf_me_8_0, sgf_me_8_24, sgf_me_8_4, sgf_me_9_22, sgf_me_9_23, sgf_me_9_0, sgf_me_9_24, sgf_me_9_4, sgf_me_10_6, sgf_me_10_21, sgf_me_10_2, sgf_me_10_20, sgf_me_10_19, sgf_me_10_18, sgf_ini_10, sgf_ini_11, sgf_in0_8, sgf_in0_9, sgf_fl_10_1, sgf_fl_11_12, sgf_fl_11_3, sgf_fl_11_13, sgf_fl_11_14, sgf_fl_11_15, sgf_fl_11_16, sgf_fl_11_17, sgf_fl_11_5, sgf_exc_2, sgf_exc_6, sgf_exc_4, sgf_exc_5, sgf_exc_1, sgf_exc_3, sgf_exm_2_0, sgf_exm_6_0, sgf_exm_4_0, sgf_exm_5_0, sgf_exm_1_0, sgf_exm_3_0, sgf_isa_2_6, sgf_isa_6_6, sgf_isa_4_6, sgf_isa_5_6, sgf_isa_1_6, sgf_isa_3_6, sgf_isz_6, sgf_isv_2, sgf_isv_6, sgf_isv_4, sgf_isv_5, sgf_isv_1, sgf_isv_3, gl_MOST_LETTERS, gl_LETTERS, gl_MOST, gl_MOST_PARTS, gl_STAYS, wipeP, List.set_cons_zero, List.set_cons_succ, evSs_nil, List.lookup, Nat.reduceBEq, seq_str, seq_tup, seq_fl, Bool.true_and, Bool.and_true, Bool.false_and, Bool.and_false, beq_self_eq_true]
  cases b2 : sideB s with
  | false =>
    refine sideOf_no ?_ ?_
    · have d := ks.1
      cases s with
      | str w =>
        simp only [sideB, Bool.or_eq_false_iff] at b2
        exact ⟨by simpa using b2.1, by simpa using b2.2⟩
      | _ => exact d
    · exact ret_here (hX _ _ _ .side (if_pos b2) (.refl h))
  | true =>
  rw [if_neg (by rw [b2]; exact Bool.noConfusion)] at hX hN
  have es : ∃ b, s = .str (sideW b) := by
    cases s with
    | str w => obtain ⟨b, rfl⟩ := side_yes b2; exact ⟨b, rfl⟩
    | _ => cases b2
  obtain ⟨b, rfl⟩ := es
  refine sideOf_sp fun p2 np2 => ?_
  have gl : PLe h (pup h p2 (.ins (sideC b) [])) := PLe.new np2
  have go := gl _ _ ho
  generalize pup h p2 _ = g at gl go ⊢
  (try simp only [evS, evE, evEs, evO, evB, evBs, evI, List.map_cons, List.map_nil, List.replicate_succ, List.replicate_zero, List.cons_append, List.nil_append, List.getElem?_cons_zero, List.getElem?_cons_succ, List.set_cons_zero, List.set_cons_succ, bv_add, bv_sub, bv_mul, bv_div, bv_mod, bv_pow, bv_str, av_add, av_sub, cv_lt, cv_le, cv_gt, cv_ge, cv_eq, cv_ne, cv_eqS, cv_neS, tv_bl, tv_int, List.length_cons, List.length_nil, pad, setT_nm, setT_tup, setTs_nil, setTs_cons, decide_eq_true_eq, Bool.not_eq_true', Bool.not_true, Bool.not_false, if_true, if_false, Bool.false_eq_true, Bool.true_eq_false, reduceIte, Nat.reduceAdd, Nat.reduceSub, Nat.reduceBEq, pow_10_9, pow_10_20, pow_10_30, cpow_10_9, cpow_10_20, cpow_10_30, divP_lit, mulP_r, mulP_l, lne_line, lt_line, isi_int, isi_bool, Int.reduceLT, Int.reduceLE, Int.reduceGT, Int.reduceGE, Int.reduceNeg, Int.reduceMul, Int.reduceAdd, Int.reduceSub, Nat.reduceLeDiff, Nat.reduceLT, true_and, and_true, decide_true, decide_false, sgf_pad_22_5, sgf_pad_22_6, sgf_pad_22_7, sgf_pad_22_8, sgf_pad_22_9, sgf_me_8_22, sgf_me_8_23, sgf_me_8_0, sgf_me_8_24, sgf_me_8_4, sgf_me_9_22, sgf_me_9_23, sgf_me_9_0, sgf_me_9_24, sgf_me_9_4, sgf_me_10_6, sgf_me_10_21, sgf_me_10_2, sgf_me_10_20, sgf_me_10_19, sgf_me_10_18, sgf_ini_10, sgf_ini_11, sgf_in0_8, sgf_in0_9, sgf_fl_10_1, sgf_fl_11_12, sgf_fl_11_3, sgf_fl_11_13, sgf_fl_11_14, sgf_fl_11_15, sgf_fl_11_16, sgf_fl_11_17, sgf_fl_11_5, sgf_exc_2, sgf_exc_6, sgf_exc_4, sgf_exc_5, sgf_exc_1, sgf_exc_3, sgf_exm_2_0, sgf_exm_6_0, sgf_exm_4_0, sgf_exm_5_0, sgf_exm_1_0, sgf_exm_3_0, sgf_isa_2_6, sgf_isa_6_6, sgf_isa_4_6, sgf_isa_5_6, sgf_isa_1_6, sgf_isa_3_6, sgf_isz_6, sgf_isv_2, sgf_isv_6, sgf_isv_4, sgf_isv_5, sgf_isv_1, sgf_isv_3, gl_MOST_LETTERS, gl_LETTERS, gl_MOST, gl_MOST_PARTS, gl_STAYS, wipeP, List.set_cons_zero, List.set_cons_succ, evSs_nil, List.lookup, Nat.reduceBEq, seq_str, seq_tup, seq_fl, Bool.true_and, Bool.and_true, Bool.false_and, Bool.and_false, beq_self_eq_true])
  rw [evSs_cons]
  simp only [evS, evE, evEs, evO, evB, evBs, evI, List.map_cons, List.map_nil, List.replicate_succ, List.replicate_zero, List.cons_append, List.nil_append, List.getElem?_cons_zero, List.getElem?_cons_succ, List.set_cons_zero, List.set_cons_succ, bv_add, bv_sub, bv_mul, bv_div, bv_mod, bv_pow, bv_str, av_add, av_sub, cv_lt, cv_le, cv_gt, cv_ge, cv_eq, cv_ne, cv_eqS, cv_neS, tv_bl, tv_int, List.length_cons, List.length_nil, pad, setT_nm, setT_tup, setTs_nil, setTs_cons, decide_eq_true_eq, Bool.not_eq_true', Bool.not_true, Bool.not_false, if_true, if_false, Bool.false_eq_true, Bool.true_eq_false, reduceIte, Nat.reduceAdd, Nat.reduceSub, Nat.reduceBEq, pow_10_9, pow_10_20, pow_10_30, cpow_10_9, cpow_10_20, cpow_10_30, divP_lit, mulP_r, mulP_l, lne_line, lt_line, isi_int, isi_bool, Int.reduceLT, Int.reduceLE, Int.reduceGT, Int.reduceGE, Int.reduceNeg, Int.reduceMul, Int.reduceAdd, Int.reduceSub, Nat.reduceLeDiff, Nat.reduceLT, true_and, and_true, decide_true, decide_false, sgf_pad_22_5, sgf_pad_22_6, sgf_pad_22_7, sgf_pad_22_8, sgf_pad_22_9, sgf_me_8_22, sgf_me_8_23, sgf_me_8_0, sgf_me_8_24, sgf_me_8_4, sgf_me_9_22, sgf_me_9_23, sgf_me_9_0, sgf_me_9_24, sgf_me_9_4, sgf_me_10_6, sgf_me_10_21, sgf_me_10_2, sgf_me_10_20, sgf_me_10_19, sgf_me_10_18, sgf_ini_10, sgf_ini_11, sgf_in0_8, sgf_in0_9, sgf_fl_10_1, sgf_fl_11_12, sgf_fl_11_3, sgf_fl_11_13, sgf_fl_11_14, sgf_fl_11_15, sgf_fl_11_16, sgf_fl_11_17, sgf_fl_11_5, sgf_exc_2, sgf_exc_6, sgf_exc_4, sgf_exc_5, sgf_exc_1, sgf_exc_3, sgf_exm_2_0, sgf_exm_6_0, sgf_exm_4_0, sgf_exm_5_0, sgf_exm_1_0, sgf_exm_3_0, sgf_isa_2_6, sgf_isa_6_6, sgf_isa_4_6, sgf_isa_5_6, sgf_isa_1_6, sgf_isa_3_6, sgf_isz_6, sgf_isv_2, sgf_isv_6, sgf_isv_4, sgf_isv_5, sgf_isv_1, sgf_isv_3, gl_MOST_LETTERS, gl_LETTERS, gl_MOST, gl_MOST_PARTS, gl_STAYS, wipeP, List.set_cons_zero, List.set_cons_succ, evSs_nil, List.lookup, Nat.reduceBEq, seq_str, seq_tup, seq_fl, Bool.true_and, Bool.and_true, Bool.false_and, Bool.and_false, beq_self_eq_true, notn_V]
  refine optPr (kp.1.le gl) (fun b3 => ?_) (fun b3 => ?_)
  · exact ⟨rfl, g, .refl g, hX _ _ _ .price (if_pos b3) gl⟩
  rw [if_neg (by rw [b3]; exact Bool.noConfusion)] at hX hN
  (try simp only [evS, evE, evEs, evO, evB, evBs, evI, List.map_cons, List.map_nil, List.replicate_succ, List.replicate_zero, List.cons_append, List.nil_append, List.getElem?_cons_zero, List.getElem?_cons_succ, List.set_cons_zero, List.set_cons_succ, bv_add, bv_sub, bv_mul, bv_div, bv_mod, bv_pow, bv_str, av_add, av_sub, cv_lt, cv_le, cv_gt, cv_ge, cv_eq, cv_ne, cv_eqS, cv_neS, tv_bl, tv_int, List.length_cons, List.length_nil, pad, setT_nm, setT_tup, setTs_nil, setTs_cons, decide_eq_true_eq, Bool.not_eq_true', Bool.not_true, Bool.not_false, if_true, if_false, Bool.false_eq_true, Bool.true_eq_false, reduceIte, Nat.reduceAdd, Nat.reduceSub, Nat.reduceBEq, pow_10_9, pow_10_20, pow_10_30, cpow_10_9, cpow_10_20, cpow_10_30, divP_lit, mulP_r, mulP_l, lne_line, lt_line, isi_int, isi_bool, Int.reduceLT, Int.reduceLE, Int.reduceGT, Int.reduceGE, Int.reduceNeg, Int.reduceMul, Int.reduceAdd, Int.reduceSub, Nat.reduceLeDiff, Nat.reduceLT, true_and, and_true, decide_true, decide_false, sgf_pad_22_5, sgf_pad_22_6, sgf_pad_22_7, sgf_pad_22_8, sgf_pad_22_9, sgf_me_8_22, sgf_me_8_23, sgf_me_8_0, sgf_me_8_24, sgf_me_8_4, sgf_me_9_22, sgf_me_9_23, sgf_me_9_0, sgf_me_9_24, sgf_me_9_4, sgf_me_10_6, sgf_me_10_21, sgf_me_10_2, sgf_me_10_20, sgf_me_10_19, sgf_me_10_18, sgf_ini_10, sgf_ini_11, sgf_in0_8, sgf_in0_9, sgf_fl_10_1, sgf_fl_11_12, sgf_fl_11_3, sgf_fl_11_13, sgf_fl_11_14, sgf_fl_11_15, sgf_fl_11_16, sgf_fl_11_17, sgf_fl_11_5, sgf_exc_2, sgf_exc_6, sgf_exc_4, sgf_exc_5, sgf_exc_1, sgf_exc_3, sgf_exm_2_0, sgf_exm_6_0, sgf_exm_4_0, sgf_exm_5_0, sgf_exm_1_0, sgf_exm_3_0, sgf_isa_2_6, sgf_isa_6_6, sgf_isa_4_6, sgf_isa_5_6, sgf_isa_1_6, sgf_isa_3_6, sgf_isz_6, sgf_isv_2, sgf_isv_6, sgf_isv_4, sgf_isv_5, sgf_isv_1, sgf_isv_3, gl_MOST_LETTERS, gl_LETTERS, gl_MOST, gl_MOST_PARTS, gl_STAYS, wipeP, List.set_cons_zero, List.set_cons_succ, evSs_nil, List.lookup, Nat.reduceBEq, seq_str, seq_tup, seq_fl, Bool.true_and, Bool.and_true, Bool.false_and, Bool.and_false, beq_self_eq_true])
  rw [evSs_cons]
  simp only [evS, evE, evEs, evO, evB, evBs, evI, List.map_cons, List.map_nil, List.replicate_succ, List.replicate_zero, List.cons_append, List.nil_append, List.getElem?_cons_zero, List.getElem?_cons_succ, List.set_cons_zero, List.set_cons_succ, bv_add, bv_sub, bv_mul, bv_div, bv_mod, bv_pow, bv_str, av_add, av_sub, cv_lt, cv_le, cv_gt, cv_ge, cv_eq, cv_ne, cv_eqS, cv_neS, tv_bl, tv_int, List.length_cons, List.length_nil, pad, setT_nm, setT_tup, setTs_nil, setTs_cons, decide_eq_true_eq, Bool.not_eq_true', Bool.not_true, Bool.not_false, if_true, if_false, Bool.false_eq_true, Bool.true_eq_false, reduceIte, Nat.reduceAdd, Nat.reduceSub, Nat.reduceBEq, pow_10_9, pow_10_20, pow_10_30, cpow_10_9, cpow_10_20, cpow_10_30, divP_lit, mulP_r, mulP_l, lne_line, lt_line, isi_int, isi_bool, Int.reduceLT, Int.reduceLE, Int.reduceGT, Int.reduceGE, Int.reduceNeg, Int.reduceMul, Int.reduceAdd, Int.reduceSub, Nat.reduceLeDiff, Nat.reduceLT, true_and, and_true, decide_true, decide_false, sgf_pad_22_5, sgf_pad_22_6, sgf_pad_22_7, sgf_pad_22_8, sgf_pad_22_9, sgf_me_8_22, sgf_me_8_23, sgf_me_8_0, sgf_me_8_24, sgf_me_8_4, sgf_me_9_22, sgf_me_9_23, sgf_me_9_0, sgf_me_9_24, sgf_me_9_4, sgf_me_10_6, sgf_me_10_21, sgf_me_10_2, sgf_me_10_20, sgf_me_10_19, sgf_me_10_18, sgf_ini_10, sgf_ini_11, sgf_in0_8, sgf_in0_9, sgf_fl_10_1, sgf_fl_11_12, sgf_fl_11_3, sgf_fl_11_13, sgf_fl_11_14, sgf_fl_11_15, sgf_fl_11_16, sgf_fl_11_17, sgf_fl_11_5, sgf_exc_2, sgf_exc_6, sgf_exc_4, sgf_exc_5, sgf_exc_1, sgf_exc_3, sgf_exm_2_0, sgf_exm_6_0, sgf_exm_4_0, sgf_exm_5_0, sgf_exm_1_0, sgf_exm_3_0, sgf_isa_2_6, sgf_isa_6_6, sgf_isa_4_6, sgf_isa_5_6, sgf_isa_1_6, sgf_isa_3_6, sgf_isz_6, sgf_isv_2, sgf_isv_6, sgf_isv_4, sgf_isv_5, sgf_isv_1, sgf_isv_3, gl_MOST_LETTERS, gl_LETTERS, gl_MOST, gl_MOST_PARTS, gl_STAYS, wipeP, List.set_cons_zero, List.set_cons_succ, evSs_nil, List.lookup, Nat.reduceBEq, seq_str, seq_tup, seq_fl, Bool.true_and, Bool.and_true, Bool.false_and, Bool.and_false, beq_self_eq_true]
  refine needAm_sp (ka.1.le gl) (kh.1.le gl) (kl.1.le gl) (fun b4 => ?_) (fun b4 => ?_)
  · refine ⟨g, .refl g, hX _ _ _ .amount ?_ gl⟩
    cases y1 : wholeB am 1 1000000000 with
    | false => rfl
    | true =>
      cases y2 : optB sh ((intOf am + 49) / 50) (intOf am) with
      | false => rfl
      | true =>
        rw [y1, y2] at b4
        rw [if_neg Bool.noConfusion, if_neg Bool.noConfusion, if_pos (show wholeB le 0 (intOf am) = false from b4)]
  simp only [Bool.and_eq_true] at b4
  rw [if_neg (by rw [b4.1]; exact Bool.noConfusion), if_neg (by rw [b4.2.1]; exact Bool.noConfusion), if_neg (by rw [b4.2.2]; exact Bool.noConfusion)] at hX hN
  (try simp only [evS, evE, evEs, evO, evB, evBs, evI, List.map_cons, List.map_nil, List.replicate_succ, List.replicate_zero, List.cons_append, List.nil_append, List.getElem?_cons_zero, List.getElem?_cons_succ, List.set_cons_zero, List.set_cons_succ, bv_add, bv_sub, bv_mul, bv_div, bv_mod, bv_pow, bv_str, av_add, av_sub, cv_lt, cv_le, cv_gt, cv_ge, cv_eq, cv_ne, cv_eqS, cv_neS, tv_bl, tv_int, List.length_cons, List.length_nil, pad, setT_nm, setT_tup, setTs_nil, setTs_cons, decide_eq_true_eq, Bool.not_eq_true', Bool.not_true, Bool.not_false, if_true, if_false, Bool.false_eq_true, Bool.true_eq_false, reduceIte, Nat.reduceAdd, Nat.reduceSub, Nat.reduceBEq, pow_10_9, pow_10_20, pow_10_30, cpow_10_9, cpow_10_20, cpow_10_30, divP_lit, mulP_r, mulP_l, lne_line, lt_line, isi_int, isi_bool, Int.reduceLT, Int.reduceLE, Int.reduceGT, Int.reduceGE, Int.reduceNeg, Int.reduceMul, Int.reduceAdd, Int.reduceSub, Nat.reduceLeDiff, Nat.reduceLT, true_and, and_true, decide_true, decide_false, sgf_pad_22_5, sgf_pad_22_6, sgf_pad_22_7, sgf_pad_22_8, sgf_pad_22_9, sgf_me_8_22, sgf_me_8_23, sgf_me_8_0, sgf_me_8_24, sgf_me_8_4, sgf_me_9_22, sgf_me_9_23, sgf_me_9_0, sgf_me_9_24, sgf_me_9_4, sgf_me_10_6, sgf_me_10_21, sgf_me_10_2, sgf_me_10_20, sgf_me_10_19, sgf_me_10_18, sgf_ini_10, sgf_ini_11, sgf_in0_8, sgf_in0_9, sgf_fl_10_1, sgf_fl_11_12, sgf_fl_11_3, sgf_fl_11_13, sgf_fl_11_14, sgf_fl_11_15, sgf_fl_11_16, sgf_fl_11_17, sgf_fl_11_5, sgf_exc_2, sgf_exc_6, sgf_exc_4, sgf_exc_5, sgf_exc_1, sgf_exc_3, sgf_exm_2_0, sgf_exm_6_0, sgf_exm_4_0, sgf_exm_5_0, sgf_exm_1_0, sgf_exm_3_0, sgf_isa_2_6, sgf_isa_6_6, sgf_isa_4_6, sgf_isa_5_6, sgf_isa_1_6, sgf_isa_3_6, sgf_isz_6, sgf_isv_2, sgf_isv_6, sgf_isv_4, sgf_isv_5, sgf_isv_1, sgf_isv_3, gl_MOST_LETTERS, gl_LETTERS, gl_MOST, gl_MOST_PARTS, gl_STAYS, wipeP, List.set_cons_zero, List.set_cons_succ, evSs_nil, List.lookup, Nat.reduceBEq, seq_str, seq_tup, seq_fl, Bool.true_and, Bool.and_true, Bool.false_and, Bool.and_false, beq_self_eq_true])
  rw [evSs_cons]
  simp only [evS, evE, evEs, evO, evB, evBs, evI, List.map_cons, List.map_nil, List.replicate_succ, List.replicate_zero, List.cons_append, List.nil_append, List.getElem?_cons_zero, List.getElem?_cons_succ, List.set_cons_zero, List.set_cons_succ, bv_add, bv_sub, bv_mul, bv_div, bv_mod, bv_pow, bv_str, av_add, av_sub, cv_lt, cv_le, cv_gt, cv_ge, cv_eq, cv_ne, cv_eqS, cv_neS, tv_bl, tv_int, List.length_cons, List.length_nil, pad, setT_nm, setT_tup, setTs_nil, setTs_cons, decide_eq_true_eq, Bool.not_eq_true', Bool.not_true, Bool.not_false, if_true, if_false, Bool.false_eq_true, Bool.true_eq_false, reduceIte, Nat.reduceAdd, Nat.reduceSub, Nat.reduceBEq, pow_10_9, pow_10_20, pow_10_30, cpow_10_9, cpow_10_20, cpow_10_30, divP_lit, mulP_r, mulP_l, lne_line, lt_line, isi_int, isi_bool, Int.reduceLT, Int.reduceLE, Int.reduceGT, Int.reduceGE, Int.reduceNeg, Int.reduceMul, Int.reduceAdd, Int.reduceSub, Nat.reduceLeDiff, Nat.reduceLT, true_and, and_true, decide_true, decide_false, sgf_pad_22_5, sgf_pad_22_6, sgf_pad_22_7, sgf_pad_22_8, sgf_pad_22_9, sgf_me_8_22, sgf_me_8_23, sgf_me_8_0, sgf_me_8_24, sgf_me_8_4, sgf_me_9_22, sgf_me_9_23, sgf_me_9_0, sgf_me_9_24, sgf_me_9_4, sgf_me_10_6, sgf_me_10_21, sgf_me_10_2, sgf_me_10_20, sgf_me_10_19, sgf_me_10_18, sgf_ini_10, sgf_ini_11, sgf_in0_8, sgf_in0_9, sgf_fl_10_1, sgf_fl_11_12, sgf_fl_11_3, sgf_fl_11_13, sgf_fl_11_14, sgf_fl_11_15, sgf_fl_11_16, sgf_fl_11_17, sgf_fl_11_5, sgf_exc_2, sgf_exc_6, sgf_exc_4, sgf_exc_5, sgf_exc_1, sgf_exc_3, sgf_exm_2_0, sgf_exm_6_0, sgf_exm_4_0, sgf_exm_5_0, sgf_exm_1_0, sgf_exm_3_0, sgf_isa_2_6, sgf_isa_6_6, sgf_isa_4_6, sgf_isa_5_6, sgf_isa_1_6, sgf_isa_3_6, sgf_isz_6, sgf_isv_2, sgf_isv_6, sgf_isv_4, sgf_isv_5, sgf_isv_1, sgf_isv_3, gl_MOST_LETTERS, gl_LETTERS, gl_MOST, gl_MOST_PARTS, gl_STAYS, wipeP, List.set_cons_zero, List.set_cons_succ, evSs_nil, List.lookup, Nat.reduceBEq, seq_str, seq_tup, seq_fl, Bool.true_and, Bool.and_true, Bool.false_and, Bool.and_false, beq_self_eq_true]
  refine needSt_sp (kt.le gl) (fun b5 => ?_) (fun b5 => ?_)
  · refine ⟨g, .refl g, hX _ _ _ .stay ?_ gl⟩
    cases y1 : stayB st with
    | false => rfl
    | true =>
      rw [y1, Bool.true_and] at b5
      rw [Bool.not_eq_false'] at b5
      rw [if_neg Bool.noConfusion, if_pos b5]
  simp only [Bool.and_eq_true, Bool.not_eq_true'] at b5
  rw [if_neg (by rw [b5.1]; exact Bool.noConfusion), if_neg (by rw [b5.2]; exact Bool.noConfusion)] at hX hN
  (try simp only [evS, evE, evEs, evO, evB, evBs, evI, List.map_cons, List.map_nil, List.replicate_succ, List.replicate_zero, List.cons_append, List.nil_append, List.getElem?_cons_zero, List.getElem?_cons_succ, List.set_cons_zero, List.set_cons_succ, bv_add, bv_sub, bv_mul, bv_div, bv_mod, bv_pow, bv_str, av_add, av_sub, cv_lt, cv_le, cv_gt, cv_ge, cv_eq, cv_ne, cv_eqS, cv_neS, tv_bl, tv_int, List.length_cons, List.length_nil, pad, setT_nm, setT_tup, setTs_nil, setTs_cons, decide_eq_true_eq, Bool.not_eq_true', Bool.not_true, Bool.not_false, if_true, if_false, Bool.false_eq_true, Bool.true_eq_false, reduceIte, Nat.reduceAdd, Nat.reduceSub, Nat.reduceBEq, pow_10_9, pow_10_20, pow_10_30, cpow_10_9, cpow_10_20, cpow_10_30, divP_lit, mulP_r, mulP_l, lne_line, lt_line, isi_int, isi_bool, Int.reduceLT, Int.reduceLE, Int.reduceGT, Int.reduceGE, Int.reduceNeg, Int.reduceMul, Int.reduceAdd, Int.reduceSub, Nat.reduceLeDiff, Nat.reduceLT, true_and, and_true, decide_true, decide_false, sgf_pad_22_5, sgf_pad_22_6, sgf_pad_22_7, sgf_pad_22_8, sgf_pad_22_9, sgf_me_8_22, sgf_me_8_23, sgf_me_8_0, sgf_me_8_24, sgf_me_8_4, sgf_me_9_22, sgf_me_9_23, sgf_me_9_0, sgf_me_9_24, sgf_me_9_4, sgf_me_10_6, sgf_me_10_21, sgf_me_10_2, sgf_me_10_20, sgf_me_10_19, sgf_me_10_18, sgf_ini_10, sgf_ini_11, sgf_in0_8, sgf_in0_9, sgf_fl_10_1, sgf_fl_11_12, sgf_fl_11_3, sgf_fl_11_13, sgf_fl_11_14, sgf_fl_11_15, sgf_fl_11_16, sgf_fl_11_17, sgf_fl_11_5, sgf_exc_2, sgf_exc_6, sgf_exc_4, sgf_exc_5, sgf_exc_1, sgf_exc_3, sgf_exm_2_0, sgf_exm_6_0, sgf_exm_4_0, sgf_exm_5_0, sgf_exm_1_0, sgf_exm_3_0, sgf_isa_2_6, sgf_isa_6_6, sgf_isa_4_6, sgf_isa_5_6, sgf_isa_1_6, sgf_isa_3_6, sgf_isz_6, sgf_isv_2, sgf_isv_6, sgf_isv_4, sgf_isv_5, sgf_isv_1, sgf_isv_3, gl_MOST_LETTERS, gl_LETTERS, gl_MOST, gl_MOST_PARTS, gl_STAYS, wipeP, List.set_cons_zero, List.set_cons_succ, evSs_nil, List.lookup, Nat.reduceBEq, seq_str, seq_tup, seq_fl, Bool.true_and, Bool.and_true, Bool.false_and, Bool.and_false, beq_self_eq_true])
  rw [evSs_cons]
  simp only [evS, evE, evEs, evO, evB, evBs, evI, List.map_cons, List.map_nil, List.replicate_succ, List.replicate_zero, List.cons_append, List.nil_append, List.getElem?_cons_zero, List.getElem?_cons_succ, List.set_cons_zero, List.set_cons_succ, bv_add, bv_sub, bv_mul, bv_div, bv_mod, bv_pow, bv_str, av_add, av_sub, cv_lt, cv_le, cv_gt, cv_ge, cv_eq, cv_ne, cv_eqS, cv_neS, tv_bl, tv_int, List.length_cons, List.length_nil, pad, setT_nm, setT_tup, setTs_nil, setTs_cons, decide_eq_true_eq, Bool.not_eq_true', Bool.not_true, Bool.not_false, if_true, if_false, Bool.false_eq_true, Bool.true_eq_false, reduceIte, Nat.reduceAdd, Nat.reduceSub, Nat.reduceBEq, pow_10_9, pow_10_20, pow_10_30, cpow_10_9, cpow_10_20, cpow_10_30, divP_lit, mulP_r, mulP_l, lne_line, lt_line, isi_int, isi_bool, Int.reduceLT, Int.reduceLE, Int.reduceGT, Int.reduceGE, Int.reduceNeg, Int.reduceMul, Int.reduceAdd, Int.reduceSub, Nat.reduceLeDiff, Nat.reduceLT, true_and, and_true, decide_true, decide_false, sgf_pad_22_5, sgf_pad_22_6, sgf_pad_22_7, sgf_pad_22_8, sgf_pad_22_9, sgf_me_8_22, sgf_me_8_23, sgf_me_8_0, sgf_me_8_24, sgf_me_8_4, sgf_me_9_22, sgf_me_9_23, sgf_me_9_0, sgf_me_9_24, sgf_me_9_4, sgf_me_10_6, sgf_me_10_21, sgf_me_10_2, sgf_me_10_20, sgf_me_10_19, sgf_me_10_18, sgf_ini_10, sgf_ini_11, sgf_in0_8, sgf_in0_9, sgf_fl_10_1, sgf_fl_11_12, sgf_fl_11_3, sgf_fl_11_13, sgf_fl_11_14, sgf_fl_11_15, sgf_fl_11_16, sgf_fl_11_17, sgf_fl_11_5, sgf_exc_2, sgf_exc_6, sgf_exc_4, sgf_exc_5, sgf_exc_1, sgf_exc_3, sgf_exm_2_0, sgf_exm_6_0, sgf_exm_4_0, sgf_exm_5_0, sgf_exm_1_0, sgf_exm_3_0, sgf_isa_2_6, sgf_isa_6_6, sgf_isa_4_6, sgf_isa_5_6, sgf_isa_1_6, sgf_isa_3_6, sgf_isz_6, sgf_isv_2, sgf_isv_6, sgf_isv_4, sgf_isv_5, sgf_isv_1, sgf_isv_3, gl_MOST_LETTERS, gl_LETTERS, gl_MOST, gl_MOST_PARTS, gl_STAYS, wipeP, List.set_cons_zero, List.set_cons_succ, evSs_nil, List.lookup, Nat.reduceBEq, seq_str, seq_tup, seq_fl, Bool.true_and, Bool.and_true, Bool.false_and, Bool.and_false, beq_self_eq_true, notn_V]
  refine optPr (kw.1.le gl) (fun b6 => ?_) (fun b6 => ?_)
  · exact ⟨rfl, g, .refl g, hX _ _ _ .price (if_pos b6) gl⟩
  rw [if_neg (by rw [b6]; exact Bool.noConfusion)] at hX hN
  (try simp only [evS, evE, evEs, evO, evB, evBs, evI, List.map_cons, List.map_nil, List.replicate_succ, List.replicate_zero, List.cons_append, List.nil_append, List.getElem?_cons_zero, List.getElem?_cons_succ, List.set_cons_zero, List.set_cons_succ, bv_add, bv_sub, bv_mul, bv_div, bv_mod, bv_pow, bv_str, av_add, av_sub, cv_lt, cv_le, cv_gt, cv_ge, cv_eq, cv_ne, cv_eqS, cv_neS, tv_bl, tv_int, List.length_cons, List.length_nil, pad, setT_nm, setT_tup, setTs_nil, setTs_cons, decide_eq_true_eq, Bool.not_eq_true', Bool.not_true, Bool.not_false, if_true, if_false, Bool.false_eq_true, Bool.true_eq_false, reduceIte, Nat.reduceAdd, Nat.reduceSub, Nat.reduceBEq, pow_10_9, pow_10_20, pow_10_30, cpow_10_9, cpow_10_20, cpow_10_30, divP_lit, mulP_r, mulP_l, lne_line, lt_line, isi_int, isi_bool, Int.reduceLT, Int.reduceLE, Int.reduceGT, Int.reduceGE, Int.reduceNeg, Int.reduceMul, Int.reduceAdd, Int.reduceSub, Nat.reduceLeDiff, Nat.reduceLT, true_and, and_true, decide_true, decide_false, sgf_pad_22_5, sgf_pad_22_6, sgf_pad_22_7, sgf_pad_22_8, sgf_pad_22_9, sgf_me_8_22, sgf_me_8_23, sgf_me_8_0, sgf_me_8_24, sgf_me_8_4, sgf_me_9_22, sgf_me_9_23, sgf_me_9_0, sgf_me_9_24, sgf_me_9_4, sgf_me_10_6, sgf_me_10_21, sgf_me_10_2, sgf_me_10_20, sgf_me_10_19, sgf_me_10_18, sgf_ini_10, sgf_ini_11, sgf_in0_8, sgf_in0_9, sgf_fl_10_1, sgf_fl_11_12, sgf_fl_11_3, sgf_fl_11_13, sgf_fl_11_14, sgf_fl_11_15, sgf_fl_11_16, sgf_fl_11_17, sgf_fl_11_5, sgf_exc_2, sgf_exc_6, sgf_exc_4, sgf_exc_5, sgf_exc_1, sgf_exc_3, sgf_exm_2_0, sgf_exm_6_0, sgf_exm_4_0, sgf_exm_5_0, sgf_exm_1_0, sgf_exm_3_0, sgf_isa_2_6, sgf_isa_6_6, sgf_isa_4_6, sgf_isa_5_6, sgf_isa_1_6, sgf_isa_3_6, sgf_isz_6, sgf_isv_2, sgf_isv_6, sgf_isv_4, sgf_isv_5, sgf_isv_1, sgf_isv_3, gl_MOST_LETTERS, gl_LETTERS, gl_MOST, gl_MOST_PARTS, gl_STAYS, wipeP, List.set_cons_zero, List.set_cons_succ, evSs_nil, List.lookup, Nat.reduceBEq, seq_str, seq_tup, seq_fl, Bool.true_and, Bool.and_true, Bool.false_and, Bool.and_false, beq_self_eq_true])
  simp only [evSs, evS, evE, evEs, evO, evB, evBs, evI, List.map_cons, List.map_nil, List.replicate_succ, List.replicate_zero, List.cons_append, List.nil_append, List.getElem?_cons_zero, List.getElem?_cons_succ, List.set_cons_zero, List.set_cons_succ, bv_add, bv_sub, bv_mul, bv_div, bv_mod, bv_pow, bv_str, av_add, av_sub, cv_lt, cv_le, cv_gt, cv_ge, cv_eq, cv_ne, cv_eqS, cv_neS, tv_bl, tv_int, List.length_cons, List.length_nil, pad, setT_nm, setT_tup, setTs_nil, setTs_cons, decide_eq_true_eq, Bool.not_eq_true', Bool.not_true, Bool.not_false, if_true, if_false, Bool.false_eq_true, Bool.true_eq_false, reduceIte, Nat.reduceAdd, Nat.reduceSub, Nat.reduceBEq, pow_10_9, pow_10_20, pow_10_30, cpow_10_9, cpow_10_20, cpow_10_30, divP_lit, mulP_r, mulP_l, lne_line, lt_line, isi_int, isi_bool, Int.reduceLT, Int.reduceLE, Int.reduceGT, Int.reduceGE, Int.reduceNeg, Int.reduceMul, Int.reduceAdd, Int.reduceSub, Nat.reduceLeDiff, Nat.reduceLT, true_and, and_true, decide_true, decide_false, sgf_pad_22_5, sgf_pad_22_6, sgf_pad_22_7, sgf_pad_22_8, sgf_pad_22_9, sgf_me_8_22, sgf_me_8_23, sgf_me_8_0, sgf_me_8_24, sgf_me_8_4, sgf_me_9_22, sgf_me_9_23, sgf_me_9_0, sgf_me_9_24, sgf_me_9_4, sgf_me_10_6, sgf_me_10_21, sgf_me_10_2, sgf_me_10_20, sgf_me_10_19, sgf_me_10_18, sgf_ini_10, sgf_ini_11, sgf_in0_8, sgf_in0_9, sgf_fl_10_1, sgf_fl_11_12, sgf_fl_11_3, sgf_fl_11_13, sgf_fl_11_14, sgf_fl_11_15, sgf_fl_11_16, sgf_fl_11_17, sgf_fl_11_5, sgf_exc_2, sgf_exc_6, sgf_exc_4, sgf_exc_5, sgf_exc_1, sgf_exc_3, sgf_exm_2_0, sgf_exm_6_0, sgf_exm_4_0, sgf_exm_5_0, sgf_exm_1_0, sgf_exm_3_0, sgf_isa_2_6, sgf_isa_6_6, sgf_isa_4_6, sgf_isa_5_6, sgf_isa_1_6, sgf_isa_3_6, sgf_isz_6, sgf_isv_2, sgf_isv_6, sgf_isv_4, sgf_isv_5, sgf_isv_1, sgf_isv_3, gl_MOST_LETTERS, gl_LETTERS, gl_MOST, gl_MOST_PARTS, gl_STAYS, wipeP, List.set_cons_zero, List.set_cons_succ, evSs_nil, List.lookup, Nat.reduceBEq, seq_str, seq_tup, seq_fl, Bool.true_and, Bool.and_true, Bool.false_and, Bool.and_false, beq_self_eq_true, go, pup_same, pup_pup, putA]
  exact ⟨(show (2 : Nat) < 1000 by decide), (show (3 : Nat) < 1000 by decide), (show (4 : Nat) < 1000 by decide), (show (5 : Nat) < 1000 by decide), (show (6 : Nat) < 1000 by decide), (show (7 : Nat) < 1000 by decide), ret_here (hN g rfl gl)⟩
theorem ok_int {g : PH} {i : Int} (h0 : -1000000000000000000000 ≤ i) (h1 : i ≤ 1000000000000000000000) : Ok (.int i) g := ⟨trivial, fun s e => (by cases e), fun j e => (by cases e; exact ⟨h0, h1⟩)⟩
theorem ok_str {g : PH} {s : Str} (l : s.length ≤ 1000) : Ok (.str s) g := ⟨trivial, fun t e => (by cases e; exact l), fun j e => (by cases e)⟩
theorem ok_non {g : PH} : Ok .non g := ⟨trivial, fun t e => (by cases e), fun j e => (by cases e)⟩
theorem ok_bl {g : PH} {b : Bool} : Ok (.bl b) g := ⟨trivial, fun t e => (by cases e), fun j e => (by cases e)⟩
theorem ok_tup {g : PH} {b : List PV} : Ok (.tup b) g := ⟨trivial, fun t e => (by cases e), fun j e => (by cases e)⟩
theorem ok_lst {g : PH} {a : Addr} {xs : List PV} (e : g a = some (.lst xs)) : Ok (.loc a) g := ⟨.inl ⟨xs, e⟩, fun t e => (by cases e), fun j e => (by cases e)⟩
theorem ok_dct {g : PH} {a : Addr} {f : Bool} {xs : List (Key × PV)} (e : g a = some (.dct f xs)) : Ok (.loc a) g := ⟨.inr ⟨f, xs, e⟩, fun t e => (by cases e), fun j e => (by cases e)⟩
theorem ok_name {g : PH} {x : PV} (e : nameB x = true) : Ok x g := by
  cases x with
  | str s =>
    simp only [nameB, Bool.and_eq_true, decide_eq_true_eq] at e
    exact ok_str (by omega)
  | _ => cases e
theorem ok_sideB {g : PH} {x : PV} (e : sideB x = true) : Ok x g := by
  cases x with
  | str s =>
    obtain ⟨b, rfl⟩ := side_yes e
    cases b <;> exact ok_str (by decide +kernel)
  | _ => cases e
theorem ok_stayB {g : PH} {x : PV} (e : stayB x = true) : Ok x g := by
  cases x with
  | str s =>
    simp only [stayB, Bool.or_eq_true, beq_iff_eq] at e
    rcases e with e | e | e <;> (rw [e]; exact ok_str (by decide +kernel))
  | _ => cases e
theorem ok_whole {g : PH} {x : PV} {lo hi : Int} (e : wholeB x lo hi = true) (h0 : -1000000000000000000000 ≤ lo) (h1 : hi ≤ 1000000000000000000000) : Ok x g := by
  obtain ⟨i, rfl, a, b⟩ := whole_int e
  exact ok_int (by omega) (by omega)
theorem ok_opt {g : PH} {x : PV} {lo hi : Int} (e : optB x lo hi = true) (h0 : -1000000000000000000000 ≤ lo) (h1 : hi ≤ 1000000000000000000000) : Ok x g := by
  cases z : isN x with
  | true => cases x <;> first | exact ok_non | cases z
  | false =>
    rw [optB, z, Bool.false_or] at e
    exact ok_whole e h0 h1
theorem due_conds {m s p am sh le st wk : PV} (e : dueW m s p am sh le st wk = "") : nameB m = true ∧ sideB s = true ∧ optB p 1 1000000000 = true ∧ wholeB am 1 1000000000 = true ∧ optB sh ((intOf am + 49) / 50) (intOf am) = true ∧ wholeB le 0 (intOf am) = true ∧ stayB st = true ∧ optB wk 1 1000000000 = true := by
  rw [dueW] at e
  by_cases b1 : nameB m = false
  · rw [if_pos b1] at e; exact absurd e (by decide +kernel)
  rw [if_neg b1] at e
  by_cases b2 : sideB s = false
  · rw [if_pos b2] at e; exact absurd e (by decide +kernel)
  rw [if_neg b2] at e
  by_cases b3 : optB p 1 1000000000 = false
  · rw [if_pos b3] at e; exact absurd e (by decide +kernel)
  rw [if_neg b3] at e
  by_cases b4 : wholeB am 1 1000000000 = false
  · rw [if_pos b4] at e; exact absurd e (by decide +kernel)
  rw [if_neg b4] at e
  by_cases b5 : optB sh ((intOf am + 49) / 50) (intOf am) = false
  · rw [if_pos b5] at e; exact absurd e (by decide +kernel)
  rw [if_neg b5] at e
  by_cases b6 : wholeB le 0 (intOf am) = false
  · rw [if_pos b6] at e; exact absurd e (by decide +kernel)
  rw [if_neg b6] at e
  by_cases b7 : stayB st = false
  · rw [if_pos b7] at e; exact absurd e (by decide +kernel)
  rw [if_neg b7] at e
  by_cases b8 : (isN p && !nowB st || nowB st && !isN sh) = true
  · rw [if_pos b8] at e; exact absurd e (by decide +kernel)
  rw [if_neg b8] at e
  by_cases b9 : optB wk 1 1000000000 = false
  · rw [if_pos b9] at e; exact absurd e (by decide +kernel)
  simp only [Bool.not_eq_false] at b1 b2 b3 b4 b5 b6 b7 b9
  exact ⟨b1, b2, b3, b4, b5, b6, b7, b9⟩
end
end LK

set_option autoImplicit false
namespace LK
open PySem L2 PySem.Spec Mir
open PyProof.Rows hiding St
section
variable {n : Nat} {h : PH} {Q : QE} {X : Mir.XE}
structure Part where
  b : Bool
  p : Option Int
  A : Int
  W : Int
def stW (p : Option Int) : Str := match p with | none => "now" | some _ => "stay"
def ordFs (e : Part) : List (Nat × PV) := oFs (.str "ann") (.str (sideW e.b)) (optP e.p) (.int e.A) .non (.int 0) (.str (stW e.p)) (.int e.W)
def tupP (e : Part) : PV := .tup [.str (sideW e.b), optP e.p, .int e.A, .int e.W]
def PGood (e : Part) : Prop := (∀ i, e.p = some i → 1 ≤ i ∧ i ≤ 1000000000) ∧ (1 ≤ e.A ∧ e.A ≤ 1000000000) ∧ (1 ≤ e.W ∧ e.W ≤ 1000000000)
abbrev Ent := Int × Addr × Part
def dS (L : List Ent) : List (Key × PV) := L.map fun e => (.inl e.1, .loc e.2.1)
def dR (L : List Ent) : List (Key × PV) := L.map fun e => (.inl e.1, tupP e.2.2)
def SlAt (h : PH) (sl d : Addr) (L : List Ent) : Prop := h sl = some (.ins 10 [(1, .loc d)]) ∧ h d = some (.dct false (dS L)) ∧ ∀ e ∈ L, h e.2.1 = some (.ins 11 (ordFs e.2.2))
theorem SlAt.le {g : PH} {sl d : Addr} {L : List Ent} (l : PLe h g) (s : SlAt h sl d L) : SlAt g sl d L := ⟨l _ _ s.1, l _ _ s.2.1, fun e he => l _ _ (s.2.2 e he)⟩
theorem key_nd {L : List Ent} {f : Ent → PV} (nd : (L.map (·.1)).Nodup) : ((L.map fun e => ((.inl e.1 : Key), f e)).map (·.1)).Nodup := by
  rw [List.map_map]
  have : (L.map ((fun x : Key × PV => x.1) ∘ fun e => ((.inl e.1 : Key), f e))) = (L.map (·.1)).map (fun k => (.inl k : Key)) := by rw [List.map_map]; rfl
  rw [this]
  exact nodup_map nd fun x _ y _ e => by cases e; rfl
theorem val_ent {L : List Ent} {f : Ent → PV} (nd : (L.map (·.1)).Nodup) {e : Ent} (he : e ∈ L) : valP (L.map fun e => ((.inl e.1 : Key), f e)) (.inl e.1) = some (f e) :=
  val_key (key_nd nd) (List.mem_map_of_mem (f := fun e => ((.inl e.1 : Key), f e)) he)
theorem val_out {L : List Ent} {f : Ent → PV} {k : Int} (he : k ∉ L.map (·.1)) : valP (L.map fun e => ((.inl e.1 : Key), f e)) (.inl k) = none := by
  unfold valP
  rw [Option.map_eq_none_iff, List.find?_eq_none]
  intro x hx
  obtain ⟨e, h1, rfl⟩ := List.mem_map.mp hx
  simp only [decide_eq_true_eq]
  intro z
  cases z
  exact he (List.mem_map_of_mem h1)
theorem need_yes {sl d : Addr} {L : List Ent} {k : Int} (s : SlAt h sl d L) (nd : (L.map (·.1)).Nodup) (hk : k ∈ L.map (·.1)) (q : Q .non h) : sem sg (n + 1) 11 [.loc sl, .int k] h Q X := by
  refine ⟨⟨2, 2, b11, []⟩, rfl, rfl, ?_⟩
  obtain ⟨e, he, rfl⟩ := List.mem_map.mp hk
  have hv : valP (dS L) (.inl e.1) = some (.loc e.2.1) := val_ent (f := fun e => .loc e.2.1) nd he
  rw [b11, evSs_cons]
  simp only [evS, evE, evEs, evO, evB, evBs, evI, List.map_cons, List.map_nil, List.replicate_succ, List.replicate_zero, List.cons_append, List.nil_append, List.getElem?_cons_zero, List.getElem?_cons_succ, List.set_cons_zero, List.set_cons_succ, bv_add, bv_sub, bv_mul, bv_div, bv_mod, bv_pow, bv_str, av_add, av_sub, cv_lt, cv_le, cv_gt, cv_ge, cv_eq, cv_ne, cv_eqS, cv_neS, tv_bl, tv_int, List.length_cons, List.length_nil, pad, setT_nm, setT_tup, setTs_nil, setTs_cons, decide_eq_true_eq, Bool.not_eq_true', Bool.not_true, Bool.not_false, if_true, if_false, Bool.false_eq_true, Bool.true_eq_false, reduceIte, Nat.reduceAdd, Nat.reduceSub, Nat.reduceBEq, pow_10_9, pow_10_20, pow_10_30, cpow_10_9, cpow_10_20, cpow_10_30, divP_lit, mulP_r, mulP_l, lne_line, lt_line, isi_int, isi_bool, Int.reduceLT, Int.reduceLE, Int.reduceGT, Int.reduceGE, Int.reduceNeg, Int.reduceMul, Int.reduceAdd, Int.reduceSub, Nat.reduceLeDiff, Nat.reduceLT, true_and, and_true, decide_true, decide_false, sgf_pad_22_5, sgf_pad_22_6, sgf_pad_22_7, sgf_pad_22_8, sgf_pad_22_9, sgf_me_8_22, sgf_me_8_23, sgf_me_8_0, sgf_me_8_24, sgf_me_8_4, sgf_me_9_22, sgf_me_9_23, sgf_me_9_0, sgf_me_9_24, sgf_me_9_4, sgf_me_10_6, sgf_me_10_21, sgf_me_10_2, sgf_me_10_20, sgf_me_10_19, sgf_me_10_18, sgf_ini_10, sgf_ini_11, sgf_in0_8, sgf_in0_9, sgf_fl_10_1, sgf_fl_11_12, sgf_fl_11_3, sgf_fl_11_13, sgf_fl_11_14, sgf_fl_11_15, sgf_fl_11_16, sgf_fl_11_17, sgf_fl_11_5, sgf_exc_2, sgf_exc_6, sgf_exc_4, sgf_exc_5, sgf_exc_1, sgf_exc_3, sgf_exm_2_0, sgf_exm_6_0, sgf_exm_4_0, sgf_exm_5_0, sgf_exm_1_0, sgf_exm_3_0, sgf_isa_2_6, sgf_isa_6_6, sgf_isa_4_6, sgf_isa_5_6, sgf_isa_1_6, sgf_isa_3_6, sgf_isz_6, sgf_isv_2, sgf_isv_6, sgf_isv_4, sgf_isv_5, sgf_isv_1, sgf_isv_3, gl_MOST_LETTERS, gl_LETTERS, gl_MOST, gl_MOST_PARTS, gl_STAYS, wipeP, List.set_cons_zero, List.set_cons_succ, evSs_nil, List.lookup, Nat.reduceBEq, seq_str, seq_tup, seq_fl, Bool.true_and, Bool.and_true, Bool.false_and, Bool.and_false, beq_self_eq_true, isiV, s.1, cmpV, inK, s.2.1, toKey, hv, Option.isSome_some]
  exact ret_here q
theorem order_sp {sl d : Addr} {L : List Ent} {e : Ent} (s : SlAt h sl d L) (nd : (L.map (·.1)).Nodup) (he : e ∈ L) (q : Q (.loc e.2.1) h) : sem sg (n + 2) 16 [.loc sl, .int e.1] h Q X := by
  refine ⟨⟨2, 2, b16, []⟩, rfl, rfl, ?_⟩
  have hv : valP (dS L) (.inl e.1) = some (.loc e.2.1) := val_ent (f := fun e => .loc e.2.1) nd he
  rw [b16, evSs_cons]
  simp only [evS, evE, evEs, evO, evB, evBs, evI, List.map_cons, List.map_nil, List.replicate_succ, List.replicate_zero, List.cons_append, List.nil_append, List.getElem?_cons_zero, List.getElem?_cons_succ, List.set_cons_zero, List.set_cons_succ, bv_add, bv_sub, bv_mul, bv_div, bv_mod, bv_pow, bv_str, av_add, av_sub, cv_lt, cv_le, cv_gt, cv_ge, cv_eq, cv_ne, cv_eqS, cv_neS, tv_bl, tv_int, List.length_cons, List.length_nil, pad, setT_nm, setT_tup, setTs_nil, setTs_cons, decide_eq_true_eq, Bool.not_eq_true', Bool.not_true, Bool.not_false, if_true, if_false, Bool.false_eq_true, Bool.true_eq_false, reduceIte, Nat.reduceAdd, Nat.reduceSub, Nat.reduceBEq, pow_10_9, pow_10_20, pow_10_30, cpow_10_9, cpow_10_20, cpow_10_30, divP_lit, mulP_r, mulP_l, lne_line, lt_line, isi_int, isi_bool, Int.reduceLT, Int.reduceLE, Int.reduceGT, Int.reduceGE, Int.reduceNeg, Int.reduceMul, Int.reduceAdd, Int.reduceSub, Nat.reduceLeDiff, Nat.reduceLT, true_and, and_true, decide_true, decide_false, sgf_pad_22_5, sgf_pad_22_6, sgf_pad_22_7, sgf_pad_22_8, sgf_pad_22_9, sgf_me_8_22, sgf_me_8_23, sgf_me_8_0, sgf_me_8_24, sgf_me_8_4, sgf_me_9_22, sgf_me_9_23, sgf_me_9_0, sgf_me_9_24, sgf_me_9_4, sgf_me_10_6, sgf_me_10_21, sgf_me_10_2, sgf_me_10_20, sgf_me_10_19, sgf_me_10_18, sgf_ini_10, sgf_ini_11, sgf_in0_8, sgf_in0_9, sgf_fl_10_1, sgf_fl_11_12, sgf_fl_11_3, sgf_fl_11_13, sgf_fl_11_14, sgf_fl_11_15, sgf_fl_11_16, sgf_fl_11_17, sgf_fl_11_5, sgf_exc_2, sgf_exc_6, sgf_exc_4, sgf_exc_5, sgf_exc_1, sgf_exc_3, sgf_exm_2_0, sgf_exm_6_0, sgf_exm_4_0, sgf_exm_5_0, sgf_exm_1_0, sgf_exm_3_0, sgf_isa_2_6, sgf_isa_6_6, sgf_isa_4_6, sgf_isa_5_6, sgf_isa_1_6, sgf_isa_3_6, sgf_isz_6, sgf_isv_2, sgf_isv_6, sgf_isv_4, sgf_isv_5, sgf_isv_1, sgf_isv_3, gl_MOST_LETTERS, gl_LETTERS, gl_MOST, gl_MOST_PARTS, gl_STAYS, wipeP, List.set_cons_zero, List.set_cons_succ, evSs_nil, List.lookup, Nat.reduceBEq, seq_str, seq_tup, seq_fl, Bool.true_and, Bool.and_true, Bool.false_and, Bool.and_false, beq_self_eq_true, s.1]
  refine need_yes s nd (List.mem_map_of_mem he) ?_
  (try simp only [evS, evE, evEs, evO, evB, evBs, evI, List.map_cons, List.map_nil, List.replicate_succ, List.replicate_zero, List.cons_append, List.nil_append, List.getElem?_cons_zero, List.getElem?_cons_succ, List.set_cons_zero, List.set_cons_succ, bv_add, bv_sub, bv_mul, bv_div, bv_mod, bv_pow, bv_str, av_add, av_sub, cv_lt, cv_le, cv_gt, cv_ge, cv_eq, cv_ne, cv_eqS, cv_neS, tv_bl, tv_int, List.length_cons, List.length_nil, pad, setT_nm, setT_tup, setTs_nil, setTs_cons, decide_eq_true_eq, Bool.not_eq_true', Bool.not_true, Bool.not_false, if_true, if_false, Bool.false_eq_true, Bool.true_eq_false, reduceIte, Nat.reduceAdd, Nat.reduceSub, Nat.reduceBEq, pow_10_9, pow_10_20, pow_10_30, cpow_10_9, cpow_10_20, cpow_10_30, divP_lit, mulP_r, mulP_l, lne_line, lt_line, isi_int, isi_bool, Int.reduceLT, Int.reduceLE, Int.reduceGT, Int.reduceGE, Int.reduceNeg, Int.reduceMul, Int.reduceAdd, Int.reduceSub, Nat.reduceLeDiff, Nat.reduceLT, true_and, and_true, decide_true, decide_false, sgf_pad_22_5, sgf_pad_22_6, sgf_pad_22_7, sgf_pad_22_8, sgf_pad_22_9, sgf_me_8_22, sgf_me_8_23, sgf_me_8_0, sgf_me_8_24, sgf_me_8_4, sgf_me_9_22, sgf_me_9_23, sgf_me_9_0, sgf_me_9_24, sgf_me_9_4, sgf_me_10_6, sgf_me_10_21, sgf_me_10_2, sgf_me_10_20, sgf_me_10_19, sgf_me_10_18, sgf_ini_10, sgf_ini_11, sgf_in0_8, sgf_in0_9, sgf_fl_10_1, sgf_fl_11_12, sgf_fl_11_3, sgf_fl_11_13, sgf_fl_11_14, sgf_fl_11_15, sgf_fl_11_16, sgf_fl_11_17, sgf_fl_11_5, sgf_exc_2, sgf_exc_6, sgf_exc_4, sgf_exc_5, sgf_exc_1, sgf_exc_3, sgf_exm_2_0, sgf_exm_6_0, sgf_exm_4_0, sgf_exm_5_0, sgf_exm_1_0, sgf_exm_3_0, sgf_isa_2_6, sgf_isa_6_6, sgf_isa_4_6, sgf_isa_5_6, sgf_isa_1_6, sgf_isa_3_6, sgf_isz_6, sgf_isv_2, sgf_isv_6, sgf_isv_4, sgf_isv_5, sgf_isv_1, sgf_isv_3, gl_MOST_LETTERS, gl_LETTERS, gl_MOST, gl_MOST_PARTS, gl_STAYS, wipeP, List.set_cons_zero, List.set_cons_succ, evSs_nil, List.lookup, Nat.reduceBEq, seq_str, seq_tup, seq_fl, Bool.true_and, Bool.and_true, Bool.false_and, Bool.and_false, beq_self_eq_true])
  rw [evSs_cons]
  simp only [evS, evE, evEs, evO, evB, evBs, evI, List.map_cons, List.map_nil, List.replicate_succ, List.replicate_zero, List.cons_append, List.nil_append, List.getElem?_cons_zero, List.getElem?_cons_succ, List.set_cons_zero, List.set_cons_succ, bv_add, bv_sub, bv_mul, bv_div, bv_mod, bv_pow, bv_str, av_add, av_sub, cv_lt, cv_le, cv_gt, cv_ge, cv_eq, cv_ne, cv_eqS, cv_neS, tv_bl, tv_int, List.length_cons, List.length_nil, pad, setT_nm, setT_tup, setTs_nil, setTs_cons, decide_eq_true_eq, Bool.not_eq_true', Bool.not_true, Bool.not_false, if_true, if_false, Bool.false_eq_true, Bool.true_eq_false, reduceIte, Nat.reduceAdd, Nat.reduceSub, Nat.reduceBEq, pow_10_9, pow_10_20, pow_10_30, cpow_10_9, cpow_10_20, cpow_10_30, divP_lit, mulP_r, mulP_l, lne_line, lt_line, isi_int, isi_bool, Int.reduceLT, Int.reduceLE, Int.reduceGT, Int.reduceGE, Int.reduceNeg, Int.reduceMul, Int.reduceAdd, Int.reduceSub, Nat.reduceLeDiff, Nat.reduceLT, true_and, and_true, decide_true, decide_false, sgf_pad_22_5, sgf_pad_22_6, sgf_pad_22_7, sgf_pad_22_8, sgf_pad_22_9, sgf_me_8_22, sgf_me_8_23, sgf_me_8_0, sgf_me_8_24, sgf_me_8_4, sgf_me_9_22, sgf_me_9_23, sgf_me_9_0, sgf_me_9_24, sgf_me_9_4, sgf_me_10_6, sgf_me_10_21, sgf_me_10_2, sgf_me_10_20, sgf_me_10_19, sgf_me_10_18, sgf_ini_10, sgf_ini_11, sgf_in0_8, sgf_in0_9, sgf_fl_10_1, sgf_fl_11_12, sgf_fl_11_3, sgf_fl_11_13, sgf_fl_11_14, sgf_fl_11_15, sgf_fl_11_16, sgf_fl_11_17, sgf_fl_11_5, sgf_exc_2, sgf_exc_6, sgf_exc_4, sgf_exc_5, sgf_exc_1, sgf_exc_3, sgf_exm_2_0, sgf_exm_6_0, sgf_exm_4_0, sgf_exm_5_0, sgf_exm_1_0, sgf_exm_3_0, sgf_isa_2_6, sgf_isa_6_6, sgf_isa_4_6, sgf_isa_5_6, sgf_isa_1_6, sgf_isa_3_6, sgf_isz_6, sgf_isv_2, sgf_isv_6, sgf_isv_4, sgf_isv_5, sgf_isv_1, sgf_isv_3, gl_MOST_LETTERS, gl_LETTERS, gl_MOST, gl_MOST_PARTS, gl_STAYS, wipeP, List.set_cons_zero, List.set_cons_succ, evSs_nil, List.lookup, Nat.reduceBEq, seq_str, seq_tup, seq_fl, Bool.true_and, Bool.and_true, Bool.false_and, Bool.and_false, beq_self_eq_true, s.1, subV, s.2.1, toKey, hv]
  exact ret_here q
def wk (e : Part) (last : Int) : Bool := wakesB e.b e.W last
def partOf (L : List Ent) (k : Int) : Part := ((L.find? fun e => e.1 == k).map (·.2.2)).getD ⟨true, none, 1, 1⟩
theorem part_of {L : List Ent} (nd : (L.map (·.1)).Nodup) {e : Ent} (he : e ∈ L) : partOf L e.1 = e.2.2 := by
  induction L with
  | nil => cases he
  | cons a L ih =>
    rw [List.map_cons, List.nodup_cons] at nd
    unfold partOf
    rw [List.find?_cons]
    rcases List.mem_cons.mp he with rfl | h1
    · simp
    · have ne : (a.1 == e.1) = false := by
        rw [beq_eq_false_iff_ne]
        intro z
        exact nd.1 (z ▸ List.mem_map_of_mem h1)
      rw [ne]
      exact ih nd.2 h1
theorem sort_uniq {a b : List Int} (p : a.Perm b) (ha : a.Pairwise (· ≤ ·)) (hb : b.Pairwise (· ≤ ·)) : a = b :=
  p.eq_of_pairwise (fun _ _ _ _ x y => Int.le_antisymm x y) ha hb
def srt (l : List Int) : List Int := l.mergeSort fun a b => decide (a ≤ b)
theorem srt_perm (l : List Int) : (srt l).Perm l := List.mergeSort_perm ..
theorem srt_pair (l : List Int) : (srt l).Pairwise (· ≤ ·) := by
  have := List.pairwise_mergeSort (le := fun a b : Int => decide (a ≤ b)) (fun a b c h1 h2 => by simp at *; omega) (fun a b => by simp; omega) l
  exact this.imp fun h => by simpa using h
theorem ints_keys {L : List Ent} {f : Ent → PV} : intsP ((L.map fun e => ((.inl e.1 : Key), f e)).map fun kv => kP kv.1) = some (L.map (·.1)) := by
  induction L with
  | nil => rfl
  | cons a L ih =>
    simp only [List.map_cons]
    show Option.map (a.1 :: ·) (intsP ((L.map fun e => ((.inl e.1 : Key), f e)).map fun kv => kP kv.1)) = _
    rw [ih]
    rfl
theorem blt_sorted {L : List Ent} {f : Ent → PV} {b : Bool} {d : Addr} (e : h d = some (.dct b (L.map fun e => ((.inl e.1 : Key), f e)))) (hl : L.length < 64) (q : ∀ p, h p = none → Q (.loc p) (pup h p (.lst ((srt (L.map (·.1))).map .int)))) : bltV .sorted [.loc d] h Q := by
  simp only [bltV, e, sortK, ints_keys]
  refine ⟨by rw [List.length_map]; exact hl, fun ns' p1 p2 p np => ?_⟩
  rw [sort_uniq (p1.trans (srt_perm _).symm) p2 (srt_pair _)]
  exact q p np
theorem numbers_sp {sl d : Addr} {L : List Ent} (s : SlAt h sl d L) (hl : L.length < 64) (q : ∀ p, h p = none → Q (.loc p) (pup h p (.lst ((srt (L.map (·.1))).map .int)))) : sem sg (n + 1) 13 [.loc sl] h Q X := by
  refine ⟨⟨1, 1, b13, []⟩, rfl, rfl, ?_⟩
  rw [b13, evSs_cons]
  simp only [evS, evE, evEs, evO, evB, evBs, evI, List.map_cons, List.map_nil, List.replicate_succ, List.replicate_zero, List.cons_append, List.nil_append, List.getElem?_cons_zero, List.getElem?_cons_succ, List.set_cons_zero, List.set_cons_succ, bv_add, bv_sub, bv_mul, bv_div, bv_mod, bv_pow, bv_str, av_add, av_sub, cv_lt, cv_le, cv_gt, cv_ge, cv_eq, cv_ne, cv_eqS, cv_neS, tv_bl, tv_int, List.length_cons, List.length_nil, pad, setT_nm, setT_tup, setTs_nil, setTs_cons, decide_eq_true_eq, Bool.not_eq_true', Bool.not_true, Bool.not_false, if_true, if_false, Bool.false_eq_true, Bool.true_eq_false, reduceIte, Nat.reduceAdd, Nat.reduceSub, Nat.reduceBEq, pow_10_9, pow_10_20, pow_10_30, cpow_10_9, cpow_10_20, cpow_10_30, divP_lit, mulP_r, mulP_l, lne_line, lt_line, isi_int, isi_bool, Int.reduceLT, Int.reduceLE, Int.reduceGT, Int.reduceGE, Int.reduceNeg, Int.reduceMul, Int.reduceAdd, Int.reduceSub, Nat.reduceLeDiff, Nat.reduceLT, true_and, and_true, decide_true, decide_false, sgf_pad_22_5, sgf_pad_22_6, sgf_pad_22_7, sgf_pad_22_8, sgf_pad_22_9, sgf_me_8_22, sgf_me_8_23, sgf_me_8_0, sgf_me_8_24, sgf_me_8_4, sgf_me_9_22, sgf_me_9_23, sgf_me_9_0, sgf_me_9_24, sgf_me_9_4, sgf_me_10_6, sgf_me_10_21, sgf_me_10_2, sgf_me_10_20, sgf_me_10_19, sgf_me_10_18, sgf_ini_10, sgf_ini_11, sgf_in0_8, sgf_in0_9, sgf_fl_10_1, sgf_fl_11_12, sgf_fl_11_3, sgf_fl_11_13, sgf_fl_11_14, sgf_fl_11_15, sgf_fl_11_16, sgf_fl_11_17, sgf_fl_11_5, sgf_exc_2, sgf_exc_6, sgf_exc_4, sgf_exc_5, sgf_exc_1, sgf_exc_3, sgf_exm_2_0, sgf_exm_6_0, sgf_exm_4_0, sgf_exm_5_0, sgf_exm_1_0, sgf_exm_3_0, sgf_isa_2_6, sgf_isa_6_6, sgf_isa_4_6, sgf_isa_5_6, sgf_isa_1_6, sgf_isa_3_6, sgf_isz_6, sgf_isv_2, sgf_isv_6, sgf_isv_4, sgf_isv_5, sgf_isv_1, sgf_isv_3, gl_MOST_LETTERS, gl_LETTERS, gl_MOST, gl_MOST_PARTS, gl_STAYS, wipeP, List.set_cons_zero, List.set_cons_succ, evSs_nil, List.lookup, Nat.reduceBEq, seq_str, seq_tup, seq_fl, Bool.true_and, Bool.and_true, Bool.false_and, Bool.and_false, beq_self_eq_true, s.1]
  refine blt_sorted (f := fun e => .loc e.2.1) s.2.1 hl fun p np => ?_
  exact ret_here (q p np)
def dueV (L : List Ent) (last : Int) : PV := match (srt (L.map (·.1))).find? fun k => wk (partOf L k) last with
  | some k => .int k
  | none => .non
theorem due_at {L : List Ent} {last : Int} {done rest : List Int} {k : Int} (e : srt (L.map (·.1)) = done ++ k :: rest) (hd : ∀ k ∈ done, wk (partOf L k) last = false) (hk : wk (partOf L k) last = true) : dueV L last = .int k := by
  unfold dueV
  rw [e, List.find?_append, List.find?_eq_none.mpr (fun x hx => by rw [hd x hx]; exact Bool.noConfusion), Option.none_or, List.find?_cons, hk]
theorem due_none {L : List Ent} {last : Int} (hd : ∀ k ∈ srt (L.map (·.1)), wk (partOf L k) last = false) : dueV L last = .non := by
  unfold dueV
  rw [List.find?_eq_none.mpr (fun x hx => by rw [hd x hx]; exact Bool.noConfusion)]
theorem due_sp {sl d : Addr} {L : List Ent} {last : Int} (s : SlAt h sl d L) (nd : (L.map (·.1)).Nodup) (hl : L.length < 64) (q : ∀ g, PLe h g → Q (dueV L last) g) : sem sg (n + 3) 14 [.loc sl, .int last] h Q X := by
  refine ⟨⟨2, 4, b14, []⟩, rfl, rfl, ?_⟩
  rw [b14, evSs_cons]
  simp only [evS, evE, evEs, evO, evB, evBs, evI, List.map_cons, List.map_nil, List.replicate_succ, List.replicate_zero, List.cons_append, List.nil_append, List.getElem?_cons_zero, List.getElem?_cons_succ, List.set_cons_zero, List.set_cons_succ, bv_add, bv_sub, bv_mul, bv_div, bv_mod, bv_pow, bv_str, av_add, av_sub, cv_lt, cv_le, cv_gt, cv_ge, cv_eq, cv_ne, cv_eqS, cv_neS, tv_bl, tv_int, List.length_cons, List.length_nil, pad, setT_nm, setT_tup, setTs_nil, setTs_cons, decide_eq_true_eq, Bool.not_eq_true', Bool.not_true, Bool.not_false, if_true, if_false, Bool.false_eq_true, Bool.true_eq_false, reduceIte, Nat.reduceAdd, Nat.reduceSub, Nat.reduceBEq, pow_10_9, pow_10_20, pow_10_30, cpow_10_9, cpow_10_20, cpow_10_30, divP_lit, mulP_r, mulP_l, lne_line, lt_line, isi_int, isi_bool, Int.reduceLT, Int.reduceLE, Int.reduceGT, Int.reduceGE, Int.reduceNeg, Int.reduceMul, Int.reduceAdd, Int.reduceSub, Nat.reduceLeDiff, Nat.reduceLT, true_and, and_true, decide_true, decide_false, sgf_pad_22_5, sgf_pad_22_6, sgf_pad_22_7, sgf_pad_22_8, sgf_pad_22_9, sgf_me_8_22, sgf_me_8_23, sgf_me_8_0, sgf_me_8_24, sgf_me_8_4, sgf_me_9_22, sgf_me_9_23, sgf_me_9_0, sgf_me_9_24, sgf_me_9_4, sgf_me_10_6, sgf_me_10_21, sgf_me_10_2, sgf_me_10_20, sgf_me_10_19, sgf_me_10_18, sgf_ini_10, sgf_ini_11, sgf_in0_8, sgf_in0_9, sgf_fl_10_1, sgf_fl_11_12, sgf_fl_11_3, sgf_fl_11_13, sgf_fl_11_14, sgf_fl_11_15, sgf_fl_11_16, sgf_fl_11_17, sgf_fl_11_5, sgf_exc_2, sgf_exc_6, sgf_exc_4, sgf_exc_5, sgf_exc_1, sgf_exc_3, sgf_exm_2_0, sgf_exm_6_0, sgf_exm_4_0, sgf_exm_5_0, sgf_exm_1_0, sgf_exm_3_0, sgf_isa_2_6, sgf_isa_6_6, sgf_isa_4_6, sgf_isa_5_6, sgf_isa_1_6, sgf_isa_3_6, sgf_isz_6, sgf_isv_2, sgf_isv_6, sgf_isv_4, sgf_isv_5, sgf_isv_1, sgf_isv_3, gl_MOST_LETTERS, gl_LETTERS, gl_MOST, gl_MOST_PARTS, gl_STAYS, wipeP, List.set_cons_zero, List.set_cons_succ, evSs_nil, List.lookup, Nat.reduceBEq, seq_str, seq_tup, seq_fl, Bool.true_and, Bool.and_true, Bool.false_and, Bool.and_false, beq_self_eq_true, s.1]
  refine numbers_sp s hl fun p np => ?_
  have s1 := s.le (PLe.new (c := .lst ((srt (L.map (·.1))).map .int)) np)
  have l1 := PLe.new (c := .lst ((srt (L.map (·.1))).map .int)) np
  have e1 : (pup h p (.lst ((srt (L.map (·.1))).map .int))) p = some (.lst ((srt (L.map (·.1))).map .int)) := pup_same
  generalize pup h p _ = g at s1 l1 e1 ⊢
  simp only [evS, evE, evEs, evO, evB, evBs, evI, List.map_cons, List.map_nil, List.replicate_succ, List.replicate_zero, List.cons_append, List.nil_append, List.getElem?_cons_zero, List.getElem?_cons_succ, List.set_cons_zero, List.set_cons_succ, bv_add, bv_sub, bv_mul, bv_div, bv_mod, bv_pow, bv_str, av_add, av_sub, cv_lt, cv_le, cv_gt, cv_ge, cv_eq, cv_ne, cv_eqS, cv_neS, tv_bl, tv_int, List.length_cons, List.length_nil, pad, setT_nm, setT_tup, setTs_nil, setTs_cons, decide_eq_true_eq, Bool.not_eq_true', Bool.not_true, Bool.not_false, if_true, if_false, Bool.false_eq_true, Bool.true_eq_false, reduceIte, Nat.reduceAdd, Nat.reduceSub, Nat.reduceBEq, pow_10_9, pow_10_20, pow_10_30, cpow_10_9, cpow_10_20, cpow_10_30, divP_lit, mulP_r, mulP_l, lne_line, lt_line, isi_int, isi_bool, Int.reduceLT, Int.reduceLE, Int.reduceGT, Int.reduceGE, Int.reduceNeg, Int.reduceMul, Int.reduceAdd, Int.reduceSub, Nat.reduceLeDiff, Nat.reduceLT, true_and, and_true, decide_true, decide_false, sgf_pad_22_5, sgf_pad_22_6, sgf_pad_22_7, sgf_pad_22_8, sgf_pad_22_9, sgf_me_8_22, sgf_me_8_23, sgf_me_8_0, sgf_me_8_24, sgf_me_8_4, sgf_me_9_22, sgf_me_9_23, sgf_me_9_0, sgf_me_9_24, sgf_me_9_4, sgf_me_10_6, sgf_me_10_21, sgf_me_10_2, sgf_me_10_20, sgf_me_10_19, sgf_me_10_18, sgf_ini_10, sgf_ini_11, sgf_in0_8, sgf_in0_9, sgf_fl_10_1, sgf_fl_11_12, sgf_fl_11_3, sgf_fl_11_13, sgf_fl_11_14, sgf_fl_11_15, sgf_fl_11_16, sgf_fl_11_17, sgf_fl_11_5, sgf_exc_2, sgf_exc_6, sgf_exc_4, sgf_exc_5, sgf_exc_1, sgf_exc_3, sgf_exm_2_0, sgf_exm_6_0, sgf_exm_4_0, sgf_exm_5_0, sgf_exm_1_0, sgf_exm_3_0, sgf_isa_2_6, sgf_isa_6_6, sgf_isa_4_6, sgf_isa_5_6, sgf_isa_1_6, sgf_isa_3_6, sgf_isz_6, sgf_isv_2, sgf_isv_6, sgf_isv_4, sgf_isv_5, sgf_isv_1, sgf_isv_3, gl_MOST_LETTERS, gl_LETTERS, gl_MOST, gl_MOST_PARTS, gl_STAYS, wipeP, List.set_cons_zero, List.set_cons_succ, evSs_nil, List.lookup, Nat.reduceBEq, seq_str, seq_tup, seq_fl, Bool.true_and, Bool.and_true, Bool.false_and, Bool.and_false, beq_self_eq_true, seq_lst e1]
  refine forGo_list (f := PV.int) (as := srt (L.map (·.1))) (fun done env g' => PLe g g' ∧ (∀ k ∈ done, wk (partOf L k) last = false) ∧ ∃ x2 x3, env = [some (.loc sl), some (.int last), x2, x3])
    (fun done k rest env g' K e I nx => ?_) (fun env g' I => ?_) ⟨.refl _, (fun k hk => by cases hk), none, none, rfl⟩
  · obtain ⟨lg, hd, x2, x3, rfl⟩ := I
    have s2 := s1.le lg
    refine ⟨lg _ _ e1, ?_⟩
    have km : k ∈ L.map (·.1) := (srt_perm _).mem_iff.mp (by rw [e]; simp)
    obtain ⟨⟨k, o, b, pp, A, W⟩, he, rfl⟩ := List.mem_map.mp km
    have hv : valP (dS L) (.inl k) = some (.loc o) := val_ent (f := fun e => .loc e.2.1) nd he
    have pk : partOf L k = ⟨b, pp, A, W⟩ := part_of nd he
    dsimp only at e nx
    simp only [evS, evE, evEs, evO, evB, evBs, evI, List.map_cons, List.map_nil, List.replicate_succ, List.replicate_zero, List.cons_append, List.nil_append, List.getElem?_cons_zero, List.getElem?_cons_succ, List.set_cons_zero, List.set_cons_succ, bv_add, bv_sub, bv_mul, bv_div, bv_mod, bv_pow, bv_str, av_add, av_sub, cv_lt, cv_le, cv_gt, cv_ge, cv_eq, cv_ne, cv_eqS, cv_neS, tv_bl, tv_int, List.length_cons, List.length_nil, pad, setT_nm, setT_tup, setTs_nil, setTs_cons, decide_eq_true_eq, Bool.not_eq_true', Bool.not_true, Bool.not_false, if_true, if_false, Bool.false_eq_true, Bool.true_eq_false, reduceIte, Nat.reduceAdd, Nat.reduceSub, Nat.reduceBEq, pow_10_9, pow_10_20, pow_10_30, cpow_10_9, cpow_10_20, cpow_10_30, divP_lit, mulP_r, mulP_l, lne_line, lt_line, isi_int, isi_bool, Int.reduceLT, Int.reduceLE, Int.reduceGT, Int.reduceGE, Int.reduceNeg, Int.reduceMul, Int.reduceAdd, Int.reduceSub, Nat.reduceLeDiff, Nat.reduceLT, true_and, and_true, decide_true, decide_false, sgf_pad_22_5, sgf_pad_22_6, sgf_pad_22_7, sgf_pad_22_8, sgf_pad_22_9, sgf_me_8_22, sgf_me_8_23, sgf_me_8_0, sgf_me_8_24, sgf_me_8_4, sgf_me_9_22, sgf_me_9_23, sgf_me_9_0, sgf_me_9_24, sgf_me_9_4, sgf_me_10_6, sgf_me_10_21, sgf_me_10_2, sgf_me_10_20, sgf_me_10_19, sgf_me_10_18, sgf_ini_10, sgf_ini_11, sgf_in0_8, sgf_in0_9, sgf_fl_10_1, sgf_fl_11_12, sgf_fl_11_3, sgf_fl_11_13, sgf_fl_11_14, sgf_fl_11_15, sgf_fl_11_16, sgf_fl_11_17, sgf_fl_11_5, sgf_exc_2, sgf_exc_6, sgf_exc_4, sgf_exc_5, sgf_exc_1, sgf_exc_3, sgf_exm_2_0, sgf_exm_6_0, sgf_exm_4_0, sgf_exm_5_0, sgf_exm_1_0, sgf_exm_3_0, sgf_isa_2_6, sgf_isa_6_6, sgf_isa_4_6, sgf_isa_5_6, sgf_isa_1_6, sgf_isa_3_6, sgf_isz_6, sgf_isv_2, sgf_isv_6, sgf_isv_4, sgf_isv_5, sgf_isv_1, sgf_isv_3, gl_MOST_LETTERS, gl_LETTERS, gl_MOST, gl_MOST_PARTS, gl_STAYS, wipeP, List.set_cons_zero, List.set_cons_succ, evSs_nil, List.lookup, Nat.reduceBEq, seq_str, seq_tup, seq_fl, Bool.true_and, Bool.and_true, Bool.false_and, Bool.and_false, beq_self_eq_true]
    (try dsimp only); (try simp only [evS, evE, evEs, evO, evB, evBs, evI, List.map_cons, List.map_nil, List.replicate_succ, List.replicate_zero, List.cons_append, List.nil_append, List.getElem?_cons_zero, List.getElem?_cons_succ, List.set_cons_zero, List.set_cons_succ, bv_add, bv_sub, bv_mul, bv_div, bv_mod, bv_pow, bv_str, av_add, av_sub, cv_lt, cv_le, cv_gt, cv_ge, cv_eq, cv_ne, cv_eqS, cv_neS, tv_bl, tv_int, List.length_cons, List.length_nil, pad, setT_nm, setT_tup, setTs_nil, setTs_cons, decide_eq_true_eq, Bool.not_eq_true', Bool.not_true, Bool.not_false, if_true, if_false, Bool.false_eq_true, Bool.true_eq_false, reduceIte, Nat.reduceAdd, Nat.reduceSub, Nat.reduceBEq, pow_10_9, pow_10_20, pow_10_30, cpow_10_9, cpow_10_20, cpow_10_30, divP_lit, mulP_r, mulP_l, lne_line, lt_line, isi_int, isi_bool, Int.reduceLT, Int.reduceLE, Int.reduceGT, Int.reduceGE, Int.reduceNeg, Int.reduceMul, Int.reduceAdd, Int.reduceSub, Nat.reduceLeDiff, Nat.reduceLT, true_and, and_true, decide_true, decide_false, sgf_pad_22_5, sgf_pad_22_6, sgf_pad_22_7, sgf_pad_22_8, sgf_pad_22_9, sgf_me_8_22, sgf_me_8_23, sgf_me_8_0, sgf_me_8_24, sgf_me_8_4, sgf_me_9_22, sgf_me_9_23, sgf_me_9_0, sgf_me_9_24, sgf_me_9_4, sgf_me_10_6, sgf_me_10_21, sgf_me_10_2, sgf_me_10_20, sgf_me_10_19, sgf_me_10_18, sgf_ini_10, sgf_ini_11, sgf_in0_8, sgf_in0_9, sgf_fl_10_1, sgf_fl_11_12, sgf_fl_11_3, sgf_fl_11_13, sgf_fl_11_14, sgf_fl_11_15, sgf_fl_11_16, sgf_fl_11_17, sgf_fl_11_5, sgf_exc_2, sgf_exc_6, sgf_exc_4, sgf_exc_5, sgf_exc_1, sgf_exc_3, sgf_exm_2_0, sgf_exm_6_0, sgf_exm_4_0, sgf_exm_5_0, sgf_exm_1_0, sgf_exm_3_0, sgf_isa_2_6, sgf_isa_6_6, sgf_isa_4_6, sgf_isa_5_6, sgf_isa_1_6, sgf_isa_3_6, sgf_isz_6, sgf_isv_2, sgf_isv_6, sgf_isv_4, sgf_isv_5, sgf_isv_1, sgf_isv_3, gl_MOST_LETTERS, gl_LETTERS, gl_MOST, gl_MOST_PARTS, gl_STAYS, wipeP, List.set_cons_zero, List.set_cons_succ, evSs_nil, List.lookup, Nat.reduceBEq, seq_str, seq_tup, seq_fl, Bool.true_and, Bool.and_true, Bool.false_and, Bool.and_false, beq_self_eq_true]); rw [evSs_cons]; simp only [evS, evE, evEs, evO, evB, evBs, evI, List.map_cons, List.map_nil, List.replicate_succ, List.replicate_zero, List.cons_append, List.nil_append, List.getElem?_cons_zero, List.getElem?_cons_succ, List.set_cons_zero, List.set_cons_succ, bv_add, bv_sub, bv_mul, bv_div, bv_mod, bv_pow, bv_str, av_add, av_sub, cv_lt, cv_le, cv_gt, cv_ge, cv_eq, cv_ne, cv_eqS, cv_neS, tv_bl, tv_int, List.length_cons, List.length_nil, pad, setT_nm, setT_tup, setTs_nil, setTs_cons, decide_eq_true_eq, Bool.not_eq_true', Bool.not_true, Bool.not_false, if_true, if_false, Bool.false_eq_true, Bool.true_eq_false, reduceIte, Nat.reduceAdd, Nat.reduceSub, Nat.reduceBEq, pow_10_9, pow_10_20, pow_10_30, cpow_10_9, cpow_10_20, cpow_10_30, divP_lit, mulP_r, mulP_l, lne_line, lt_line, isi_int, isi_bool, Int.reduceLT, Int.reduceLE, Int.reduceGT, Int.reduceGE, Int.reduceNeg, Int.reduceMul, Int.reduceAdd, Int.reduceSub, Nat.reduceLeDiff, Nat.reduceLT, true_and, and_true, decide_true, decide_false, sgf_pad_22_5, sgf_pad_22_6, sgf_pad_22_7, sgf_pad_22_8, sgf_pad_22_9, sgf_me_8_22, sgf_me_8_23, sgf_me_8_0, sgf_me_8_24, sgf_me_8_4, sgf_me_9_22, sgf_me_9_23, sgf_me_9_0, sgf_me_9_24, sgf_me_9_4, sgf_me_10_6, sgf_me_10_21, sgf_me_10_2, sgf_me_10_20, sgf_me_10_19, sgf_me_10_18, sgf_ini_10, sgf_ini_11, sgf_in0_8, sgf_in0_9, sgf_fl_10_1, sgf_fl_11_12, sgf_fl_11_3, sgf_fl_11_13, sgf_fl_11_14, sgf_fl_11_15, sgf_fl_11_16, sgf_fl_11_17, sgf_fl_11_5, sgf_exc_2, sgf_exc_6, sgf_exc_4, sgf_exc_5, sgf_exc_1, sgf_exc_3, sgf_exm_2_0, sgf_exm_6_0, sgf_exm_4_0, sgf_exm_5_0, sgf_exm_1_0, sgf_exm_3_0, sgf_isa_2_6, sgf_isa_6_6, sgf_isa_4_6, sgf_isa_5_6, sgf_isa_1_6, sgf_isa_3_6, sgf_isz_6, sgf_isv_2, sgf_isv_6, sgf_isv_4, sgf_isv_5, sgf_isv_1, sgf_isv_3, gl_MOST_LETTERS, gl_LETTERS, gl_MOST, gl_MOST_PARTS, gl_STAYS, wipeP, List.set_cons_zero, List.set_cons_succ, evSs_nil, List.lookup, Nat.reduceBEq, seq_str, seq_tup, seq_fl, Bool.true_and, Bool.and_true, Bool.false_and, Bool.and_false, beq_self_eq_true, s2.1, subV, s2.2.1, toKey, hv]
    have ho := s2.2.2 _ he
    dsimp only at ho
    unfold ordFs oFs at ho
    (try dsimp only); (try simp only [evS, evE, evEs, evO, evB, evBs, evI, List.map_cons, List.map_nil, List.replicate_succ, List.replicate_zero, List.cons_append, List.nil_append, List.getElem?_cons_zero, List.getElem?_cons_succ, List.set_cons_zero, List.set_cons_succ, bv_add, bv_sub, bv_mul, bv_div, bv_mod, bv_pow, bv_str, av_add, av_sub, cv_lt, cv_le, cv_gt, cv_ge, cv_eq, cv_ne, cv_eqS, cv_neS, tv_bl, tv_int, List.length_cons, List.length_nil, pad, setT_nm, setT_tup, setTs_nil, setTs_cons, decide_eq_true_eq, Bool.not_eq_true', Bool.not_true, Bool.not_false, if_true, if_false, Bool.false_eq_true, Bool.true_eq_false, reduceIte, Nat.reduceAdd, Nat.reduceSub, Nat.reduceBEq, pow_10_9, pow_10_20, pow_10_30, cpow_10_9, cpow_10_20, cpow_10_30, divP_lit, mulP_r, mulP_l, lne_line, lt_line, isi_int, isi_bool, Int.reduceLT, Int.reduceLE, Int.reduceGT, Int.reduceGE, Int.reduceNeg, Int.reduceMul, Int.reduceAdd, Int.reduceSub, Nat.reduceLeDiff, Nat.reduceLT, true_and, and_true, decide_true, decide_false, sgf_pad_22_5, sgf_pad_22_6, sgf_pad_22_7, sgf_pad_22_8, sgf_pad_22_9, sgf_me_8_22, sgf_me_8_23, sgf_me_8_0, sgf_me_8_24, sgf_me_8_4, sgf_me_9_22, sgf_me_9_23, sgf_me_9_0, sgf_me_9_24, sgf_me_9_4, sgf_me_10_6, sgf_me_10_21, sgf_me_10_2, sgf_me_10_20, sgf_me_10_19, sgf_me_10_18, sgf_ini_10, sgf_ini_11, sgf_in0_8, sgf_in0_9, sgf_fl_10_1, sgf_fl_11_12, sgf_fl_11_3, sgf_fl_11_13, sgf_fl_11_14, sgf_fl_11_15, sgf_fl_11_16, sgf_fl_11_17, sgf_fl_11_5, sgf_exc_2, sgf_exc_6, sgf_exc_4, sgf_exc_5, sgf_exc_1, sgf_exc_3, sgf_exm_2_0, sgf_exm_6_0, sgf_exm_4_0, sgf_exm_5_0, sgf_exm_1_0, sgf_exm_3_0, sgf_isa_2_6, sgf_isa_6_6, sgf_isa_4_6, sgf_isa_5_6, sgf_isa_1_6, sgf_isa_3_6, sgf_isz_6, sgf_isv_2, sgf_isv_6, sgf_isv_4, sgf_isv_5, sgf_isv_1, sgf_isv_3, gl_MOST_LETTERS, gl_LETTERS, gl_MOST, gl_MOST_PARTS, gl_STAYS, wipeP, List.set_cons_zero, List.set_cons_succ, evSs_nil, List.lookup, Nat.reduceBEq, seq_str, seq_tup, seq_fl, Bool.true_and, Bool.and_true, Bool.false_and, Bool.and_false, beq_self_eq_true]); rw [evSs_cons]; simp only [evS, evE, evEs, evO, evB, evBs, evI, List.map_cons, List.map_nil, List.replicate_succ, List.replicate_zero, List.cons_append, List.nil_append, List.getElem?_cons_zero, List.getElem?_cons_succ, List.set_cons_zero, List.set_cons_succ, bv_add, bv_sub, bv_mul, bv_div, bv_mod, bv_pow, bv_str, av_add, av_sub, cv_lt, cv_le, cv_gt, cv_ge, cv_eq, cv_ne, cv_eqS, cv_neS, tv_bl, tv_int, List.length_cons, List.length_nil, pad, setT_nm, setT_tup, setTs_nil, setTs_cons, decide_eq_true_eq, Bool.not_eq_true', Bool.not_true, Bool.not_false, if_true, if_false, Bool.false_eq_true, Bool.true_eq_false, reduceIte, Nat.reduceAdd, Nat.reduceSub, Nat.reduceBEq, pow_10_9, pow_10_20, pow_10_30, cpow_10_9, cpow_10_20, cpow_10_30, divP_lit, mulP_r, mulP_l, lne_line, lt_line, isi_int, isi_bool, Int.reduceLT, Int.reduceLE, Int.reduceGT, Int.reduceGE, Int.reduceNeg, Int.reduceMul, Int.reduceAdd, Int.reduceSub, Nat.reduceLeDiff, Nat.reduceLT, true_and, and_true, decide_true, decide_false, sgf_pad_22_5, sgf_pad_22_6, sgf_pad_22_7, sgf_pad_22_8, sgf_pad_22_9, sgf_me_8_22, sgf_me_8_23, sgf_me_8_0, sgf_me_8_24, sgf_me_8_4, sgf_me_9_22, sgf_me_9_23, sgf_me_9_0, sgf_me_9_24, sgf_me_9_4, sgf_me_10_6, sgf_me_10_21, sgf_me_10_2, sgf_me_10_20, sgf_me_10_19, sgf_me_10_18, sgf_ini_10, sgf_ini_11, sgf_in0_8, sgf_in0_9, sgf_fl_10_1, sgf_fl_11_12, sgf_fl_11_3, sgf_fl_11_13, sgf_fl_11_14, sgf_fl_11_15, sgf_fl_11_16, sgf_fl_11_17, sgf_fl_11_5, sgf_exc_2, sgf_exc_6, sgf_exc_4, sgf_exc_5, sgf_exc_1, sgf_exc_3, sgf_exm_2_0, sgf_exm_6_0, sgf_exm_4_0, sgf_exm_5_0, sgf_exm_1_0, sgf_exm_3_0, sgf_isa_2_6, sgf_isa_6_6, sgf_isa_4_6, sgf_isa_5_6, sgf_isa_1_6, sgf_isa_3_6, sgf_isz_6, sgf_isv_2, sgf_isv_6, sgf_isv_4, sgf_isv_5, sgf_isv_1, sgf_isv_3, gl_MOST_LETTERS, gl_LETTERS, gl_MOST, gl_MOST_PARTS, gl_STAYS, wipeP, List.set_cons_zero, List.set_cons_succ, evSs_nil, List.lookup, Nat.reduceBEq, seq_str, seq_tup, seq_fl, Bool.true_and, Bool.and_true, Bool.false_and, Bool.and_false, beq_self_eq_true, ho]
    refine sideOf_sp fun sd nsd => ?_
    have lg2 := lg.trans (PLe.new (c := .ins (sideC b) []) nsd)
    have hsd : Sd (pup g' sd (.ins (sideC b) [])) sd b := pup_same
    have ho2 := new_ext (c := .ins (sideC b) []) nsd ho
    generalize pup g' sd _ = g2 at lg2 hsd ho2 ⊢
    have fin : ∀ {env : PEnv} {F : Prop}, (F ↔ ∃ h2, PLe h2 g2 ∧ Q (.int k) h2) → env = [some (.loc sl), some (.int last), some (.int k), some (.loc o)] → if wakesB b W last = true then F else K env g2 := by
      intro env F hF he
      subst he
      by_cases z : wakesB b W last = true
      · rw [if_pos z]
        refine hF.mpr ⟨g2, .refl _, ?_⟩
        rw [← due_at e hd (by rw [pk]; exact z)]
        exact q _ (l1.trans lg2)
      · rw [if_neg z]
        refine nx _ _ ⟨lg2, fun k' hk' => ?_, _, _, rfl⟩
        rcases List.mem_append.mp hk' with hk' | hk'
        · exact hd k' hk'
        · rw [List.mem_singleton.mp hk', pk]
          show wakesB b W last = false
          simpa using z
    have hsd2 := hsd
    unfold Sd at hsd2
    cases b with
    | true =>
      rw [show sideC true = 8 from rfl] at hsd2
      simp only [evS, evE, evEs, evO, evB, evBs, evI, List.map_cons, List.map_nil, List.replicate_succ, List.replicate_zero, List.cons_append, List.nil_append, List.getElem?_cons_zero, List.getElem?_cons_succ, List.set_cons_zero, List.set_cons_succ, bv_add, bv_sub, bv_mul, bv_div, bv_mod, bv_pow, bv_str, av_add, av_sub, cv_lt, cv_le, cv_gt, cv_ge, cv_eq, cv_ne, cv_eqS, cv_neS, tv_bl, tv_int, List.length_cons, List.length_nil, pad, setT_nm, setT_tup, setTs_nil, setTs_cons, decide_eq_true_eq, Bool.not_eq_true', Bool.not_true, Bool.not_false, if_true, if_false, Bool.false_eq_true, Bool.true_eq_false, reduceIte, Nat.reduceAdd, Nat.reduceSub, Nat.reduceBEq, pow_10_9, pow_10_20, pow_10_30, cpow_10_9, cpow_10_20, cpow_10_30, divP_lit, mulP_r, mulP_l, lne_line, lt_line, isi_int, isi_bool, Int.reduceLT, Int.reduceLE, Int.reduceGT, Int.reduceGE, Int.reduceNeg, Int.reduceMul, Int.reduceAdd, Int.reduceSub, Nat.reduceLeDiff, Nat.reduceLT, true_and, and_true, decide_true, decide_false, sgf_pad_22_5, sgf_pad_22_6, sgf_pad_22_7, sgf_pad_22_8, sgf_pad_22_9, sgf_me_8_22, sgf_me_8_23, sgf_me_8_0, sgf_me_8_24, sgf_me_8_4, sgf_me_9_22, sgf_me_9_23, sgf_me_9_0, sgf_me_9_24, sgf_me_9_4, sgf_me_10_6, sgf_me_10_21, sgf_me_10_2, sgf_me_10_20, sgf_me_10_19, sgf_me_10_18, sgf_ini_10, sgf_ini_11, sgf_in0_8, sgf_in0_9, sgf_fl_10_1, sgf_fl_11_12, sgf_fl_11_3, sgf_fl_11_13, sgf_fl_11_14, sgf_fl_11_15, sgf_fl_11_16, sgf_fl_11_17, sgf_fl_11_5, sgf_exc_2, sgf_exc_6, sgf_exc_4, sgf_exc_5, sgf_exc_1, sgf_exc_3, sgf_exm_2_0, sgf_exm_6_0, sgf_exm_4_0, sgf_exm_5_0, sgf_exm_1_0, sgf_exm_3_0, sgf_isa_2_6, sgf_isa_6_6, sgf_isa_4_6, sgf_isa_5_6, sgf_isa_1_6, sgf_isa_3_6, sgf_isz_6, sgf_isv_2, sgf_isv_6, sgf_isv_4, sgf_isv_5, sgf_isv_1, sgf_isv_3, gl_MOST_LETTERS, gl_LETTERS, gl_MOST, gl_MOST_PARTS, gl_STAYS, wipeP, List.set_cons_zero, List.set_cons_succ, evSs_nil, List.lookup, Nat.reduceBEq, seq_str, seq_tup, seq_fl, Bool.true_and, Bool.and_true, Bool.false_and, Bool.and_false, beq_self_eq_true, hsd2, ho2, List.lookup_nil]
      refine wakes_sp hsd ?_
      simp only [evS, evE, evEs, evO, evB, evBs, evI, List.map_cons, List.map_nil, List.replicate_succ, List.replicate_zero, List.cons_append, List.nil_append, List.getElem?_cons_zero, List.getElem?_cons_succ, List.set_cons_zero, List.set_cons_succ, bv_add, bv_sub, bv_mul, bv_div, bv_mod, bv_pow, bv_str, av_add, av_sub, cv_lt, cv_le, cv_gt, cv_ge, cv_eq, cv_ne, cv_eqS, cv_neS, tv_bl, tv_int, List.length_cons, List.length_nil, pad, setT_nm, setT_tup, setTs_nil, setTs_cons, decide_eq_true_eq, Bool.not_eq_true', Bool.not_true, Bool.not_false, if_true, if_false, Bool.false_eq_true, Bool.true_eq_false, reduceIte, Nat.reduceAdd, Nat.reduceSub, Nat.reduceBEq, pow_10_9, pow_10_20, pow_10_30, cpow_10_9, cpow_10_20, cpow_10_30, divP_lit, mulP_r, mulP_l, lne_line, lt_line, isi_int, isi_bool, Int.reduceLT, Int.reduceLE, Int.reduceGT, Int.reduceGE, Int.reduceNeg, Int.reduceMul, Int.reduceAdd, Int.reduceSub, Nat.reduceLeDiff, Nat.reduceLT, true_and, and_true, decide_true, decide_false, sgf_pad_22_5, sgf_pad_22_6, sgf_pad_22_7, sgf_pad_22_8, sgf_pad_22_9, sgf_me_8_22, sgf_me_8_23, sgf_me_8_0, sgf_me_8_24, sgf_me_8_4, sgf_me_9_22, sgf_me_9_23, sgf_me_9_0, sgf_me_9_24, sgf_me_9_4, sgf_me_10_6, sgf_me_10_21, sgf_me_10_2, sgf_me_10_20, sgf_me_10_19, sgf_me_10_18, sgf_ini_10, sgf_ini_11, sgf_in0_8, sgf_in0_9, sgf_fl_10_1, sgf_fl_11_12, sgf_fl_11_3, sgf_fl_11_13, sgf_fl_11_14, sgf_fl_11_15, sgf_fl_11_16, sgf_fl_11_17, sgf_fl_11_5, sgf_exc_2, sgf_exc_6, sgf_exc_4, sgf_exc_5, sgf_exc_1, sgf_exc_3, sgf_exm_2_0, sgf_exm_6_0, sgf_exm_4_0, sgf_exm_5_0, sgf_exm_1_0, sgf_exm_3_0, sgf_isa_2_6, sgf_isa_6_6, sgf_isa_4_6, sgf_isa_5_6, sgf_isa_1_6, sgf_isa_3_6, sgf_isz_6, sgf_isv_2, sgf_isv_6, sgf_isv_4, sgf_isv_5, sgf_isv_1, sgf_isv_3, gl_MOST_LETTERS, gl_LETTERS, gl_MOST, gl_MOST_PARTS, gl_STAYS, wipeP, List.set_cons_zero, List.set_cons_succ, evSs_nil, List.lookup, Nat.reduceBEq, seq_str, seq_tup, seq_fl, Bool.true_and, Bool.and_true, Bool.false_and, Bool.and_false, beq_self_eq_true]
      exact fin Iff.rfl rfl
    | false =>
      rw [show sideC false = 9 from rfl] at hsd2
      simp only [evS, evE, evEs, evO, evB, evBs, evI, List.map_cons, List.map_nil, List.replicate_succ, List.replicate_zero, List.cons_append, List.nil_append, List.getElem?_cons_zero, List.getElem?_cons_succ, List.set_cons_zero, List.set_cons_succ, bv_add, bv_sub, bv_mul, bv_div, bv_mod, bv_pow, bv_str, av_add, av_sub, cv_lt, cv_le, cv_gt, cv_ge, cv_eq, cv_ne, cv_eqS, cv_neS, tv_bl, tv_int, List.length_cons, List.length_nil, pad, setT_nm, setT_tup, setTs_nil, setTs_cons, decide_eq_true_eq, Bool.not_eq_true', Bool.not_true, Bool.not_false, if_true, if_false, Bool.false_eq_true, Bool.true_eq_false, reduceIte, Nat.reduceAdd, Nat.reduceSub, Nat.reduceBEq, pow_10_9, pow_10_20, pow_10_30, cpow_10_9, cpow_10_20, cpow_10_30, divP_lit, mulP_r, mulP_l, lne_line, lt_line, isi_int, isi_bool, Int.reduceLT, Int.reduceLE, Int.reduceGT, Int.reduceGE, Int.reduceNeg, Int.reduceMul, Int.reduceAdd, Int.reduceSub, Nat.reduceLeDiff, Nat.reduceLT, true_and, and_true, decide_true, decide_false, sgf_pad_22_5, sgf_pad_22_6, sgf_pad_22_7, sgf_pad_22_8, sgf_pad_22_9, sgf_me_8_22, sgf_me_8_23, sgf_me_8_0, sgf_me_8_24, sgf_me_8_4, sgf_me_9_22, sgf_me_9_23, sgf_me_9_0, sgf_me_9_24, sgf_me_9_4, sgf_me_10_6, sgf_me_10_21, sgf_me_10_2, sgf_me_10_20, sgf_me_10_19, sgf_me_10_18, sgf_ini_10, sgf_ini_11, sgf_in0_8, sgf_in0_9, sgf_fl_10_1, sgf_fl_11_12, sgf_fl_11_3, sgf_fl_11_13, sgf_fl_11_14, sgf_fl_11_15, sgf_fl_11_16, sgf_fl_11_17, sgf_fl_11_5, sgf_exc_2, sgf_exc_6, sgf_exc_4, sgf_exc_5, sgf_exc_1, sgf_exc_3, sgf_exm_2_0, sgf_exm_6_0, sgf_exm_4_0, sgf_exm_5_0, sgf_exm_1_0, sgf_exm_3_0, sgf_isa_2_6, sgf_isa_6_6, sgf_isa_4_6, sgf_isa_5_6, sgf_isa_1_6, sgf_isa_3_6, sgf_isz_6, sgf_isv_2, sgf_isv_6, sgf_isv_4, sgf_isv_5, sgf_isv_1, sgf_isv_3, gl_MOST_LETTERS, gl_LETTERS, gl_MOST, gl_MOST_PARTS, gl_STAYS, wipeP, List.set_cons_zero, List.set_cons_succ, evSs_nil, List.lookup, Nat.reduceBEq, seq_str, seq_tup, seq_fl, Bool.true_and, Bool.and_true, Bool.false_and, Bool.and_false, beq_self_eq_true, hsd2, ho2, List.lookup_nil]
      refine wakes_sp hsd ?_
      simp only [evS, evE, evEs, evO, evB, evBs, evI, List.map_cons, List.map_nil, List.replicate_succ, List.replicate_zero, List.cons_append, List.nil_append, List.getElem?_cons_zero, List.getElem?_cons_succ, List.set_cons_zero, List.set_cons_succ, bv_add, bv_sub, bv_mul, bv_div, bv_mod, bv_pow, bv_str, av_add, av_sub, cv_lt, cv_le, cv_gt, cv_ge, cv_eq, cv_ne, cv_eqS, cv_neS, tv_bl, tv_int, List.length_cons, List.length_nil, pad, setT_nm, setT_tup, setTs_nil, setTs_cons, decide_eq_true_eq, Bool.not_eq_true', Bool.not_true, Bool.not_false, if_true, if_false, Bool.false_eq_true, Bool.true_eq_false, reduceIte, Nat.reduceAdd, Nat.reduceSub, Nat.reduceBEq, pow_10_9, pow_10_20, pow_10_30, cpow_10_9, cpow_10_20, cpow_10_30, divP_lit, mulP_r, mulP_l, lne_line, lt_line, isi_int, isi_bool, Int.reduceLT, Int.reduceLE, Int.reduceGT, Int.reduceGE, Int.reduceNeg, Int.reduceMul, Int.reduceAdd, Int.reduceSub, Nat.reduceLeDiff, Nat.reduceLT, true_and, and_true, decide_true, decide_false, sgf_pad_22_5, sgf_pad_22_6, sgf_pad_22_7, sgf_pad_22_8, sgf_pad_22_9, sgf_me_8_22, sgf_me_8_23, sgf_me_8_0, sgf_me_8_24, sgf_me_8_4, sgf_me_9_22, sgf_me_9_23, sgf_me_9_0, sgf_me_9_24, sgf_me_9_4, sgf_me_10_6, sgf_me_10_21, sgf_me_10_2, sgf_me_10_20, sgf_me_10_19, sgf_me_10_18, sgf_ini_10, sgf_ini_11, sgf_in0_8, sgf_in0_9, sgf_fl_10_1, sgf_fl_11_12, sgf_fl_11_3, sgf_fl_11_13, sgf_fl_11_14, sgf_fl_11_15, sgf_fl_11_16, sgf_fl_11_17, sgf_fl_11_5, sgf_exc_2, sgf_exc_6, sgf_exc_4, sgf_exc_5, sgf_exc_1, sgf_exc_3, sgf_exm_2_0, sgf_exm_6_0, sgf_exm_4_0, sgf_exm_5_0, sgf_exm_1_0, sgf_exm_3_0, sgf_isa_2_6, sgf_isa_6_6, sgf_isa_4_6, sgf_isa_5_6, sgf_isa_1_6, sgf_isa_3_6, sgf_isz_6, sgf_isv_2, sgf_isv_6, sgf_isv_4, sgf_isv_5, sgf_isv_1, sgf_isv_3, gl_MOST_LETTERS, gl_LETTERS, gl_MOST, gl_MOST_PARTS, gl_STAYS, wipeP, List.set_cons_zero, List.set_cons_succ, evSs_nil, List.lookup, Nat.reduceBEq, seq_str, seq_tup, seq_fl, Bool.true_and, Bool.and_true, Bool.false_and, Bool.and_false, beq_self_eq_true]
      exact fin Iff.rfl rfl
  · obtain ⟨lg, hd, x2, x3, rfl⟩ := I
    refine ⟨lg _ _ e1, ?_⟩
    (try dsimp only); (try simp only [evS, evE, evEs, evO, evB, evBs, evI, List.map_cons, List.map_nil, List.replicate_succ, List.replicate_zero, List.cons_append, List.nil_append, List.getElem?_cons_zero, List.getElem?_cons_succ, List.set_cons_zero, List.set_cons_succ, bv_add, bv_sub, bv_mul, bv_div, bv_mod, bv_pow, bv_str, av_add, av_sub, cv_lt, cv_le, cv_gt, cv_ge, cv_eq, cv_ne, cv_eqS, cv_neS, tv_bl, tv_int, List.length_cons, List.length_nil, pad, setT_nm, setT_tup, setTs_nil, setTs_cons, decide_eq_true_eq, Bool.not_eq_true', Bool.not_true, Bool.not_false, if_true, if_false, Bool.false_eq_true, Bool.true_eq_false, reduceIte, Nat.reduceAdd, Nat.reduceSub, Nat.reduceBEq, pow_10_9, pow_10_20, pow_10_30, cpow_10_9, cpow_10_20, cpow_10_30, divP_lit, mulP_r, mulP_l, lne_line, lt_line, isi_int, isi_bool, Int.reduceLT, Int.reduceLE, Int.reduceGT, Int.reduceGE, Int.reduceNeg, Int.reduceMul, Int.reduceAdd, Int.reduceSub, Nat.reduceLeDiff, Nat.reduceLT, true_and, and_true, decide_true, decide_false, sgf_pad_22_5, sgf_pad_22_6, sgf_pad_22_7, sgf_pad_22_8, sgf_pad_22_9, sgf_me_8_22, sgf_me_8_23, sgf_me_8_0, sgf_me_8_24, sgf_me_8_4, sgf_me_9_22, sgf_me_9_23, sgf_me_9_0, sgf_me_9_24, sgf_me_9_4, sgf_me_10_6, sgf_me_10_21, sgf_me_10_2, sgf_me_10_20, sgf_me_10_19, sgf_me_10_18, sgf_ini_10, sgf_ini_11, sgf_in0_8, sgf_in0_9, sgf_fl_10_1, sgf_fl_11_12, sgf_fl_11_3, sgf_fl_11_13, sgf_fl_11_14, sgf_fl_11_15, sgf_fl_11_16, sgf_fl_11_17, sgf_fl_11_5, sgf_exc_2, sgf_exc_6, sgf_exc_4, sgf_exc_5, sgf_exc_1, sgf_exc_3, sgf_exm_2_0, sgf_exm_6_0, sgf_exm_4_0, sgf_exm_5_0, sgf_exm_1_0, sgf_exm_3_0, sgf_isa_2_6, sgf_isa_6_6, sgf_isa_4_6, sgf_isa_5_6, sgf_isa_1_6, sgf_isa_3_6, sgf_isz_6, sgf_isv_2, sgf_isv_6, sgf_isv_4, sgf_isv_5, sgf_isv_1, sgf_isv_3, gl_MOST_LETTERS, gl_LETTERS, gl_MOST, gl_MOST_PARTS, gl_STAYS, wipeP, List.set_cons_zero, List.set_cons_succ, evSs_nil, List.lookup, Nat.reduceBEq, seq_str, seq_tup, seq_fl, Bool.true_and, Bool.and_true, Bool.false_and, Bool.and_false, beq_self_eq_true]); rw [evSs_cons]; simp only [evS, evE, evEs, evO, evB, evBs, evI, List.map_cons, List.map_nil, List.replicate_succ, List.replicate_zero, List.cons_append, List.nil_append, List.getElem?_cons_zero, List.getElem?_cons_succ, List.set_cons_zero, List.set_cons_succ, bv_add, bv_sub, bv_mul, bv_div, bv_mod, bv_pow, bv_str, av_add, av_sub, cv_lt, cv_le, cv_gt, cv_ge, cv_eq, cv_ne, cv_eqS, cv_neS, tv_bl, tv_int, List.length_cons, List.length_nil, pad, setT_nm, setT_tup, setTs_nil, setTs_cons, decide_eq_true_eq, Bool.not_eq_true', Bool.not_true, Bool.not_false, if_true, if_false, Bool.false_eq_true, Bool.true_eq_false, reduceIte, Nat.reduceAdd, Nat.reduceSub, Nat.reduceBEq, pow_10_9, pow_10_20, pow_10_30, cpow_10_9, cpow_10_20, cpow_10_30, divP_lit, mulP_r, mulP_l, lne_line, lt_line, isi_int, isi_bool, Int.reduceLT, Int.reduceLE, Int.reduceGT, Int.reduceGE, Int.reduceNeg, Int.reduceMul, Int.reduceAdd, Int.reduceSub, Nat.reduceLeDiff, Nat.reduceLT, true_and, and_true, decide_true, decide_false, sgf_pad_22_5, sgf_pad_22_6, sgf_pad_22_7, sgf_pad_22_8, sgf_pad_22_9, sgf_me_8_22, sgf_me_8_23, sgf_me_8_0, sgf_me_8_24, sgf_me_8_4, sgf_me_9_22, sgf_me_9_23, sgf_me_9_0, sgf_me_9_24, sgf_me_9_4, sgf_me_10_6, sgf_me_10_21, sgf_me_10_2, sgf_me_10_20, sgf_me_10_19, sgf_me_10_18, sgf_ini_10, sgf_ini_11, sgf_in0_8, sgf_in0_9, sgf_fl_10_1, sgf_fl_11_12, sgf_fl_11_3, sgf_fl_11_13, sgf_fl_11_14, sgf_fl_11_15, sgf_fl_11_16, sgf_fl_11_17, sgf_fl_11_5, sgf_exc_2, sgf_exc_6, sgf_exc_4, sgf_exc_5, sgf_exc_1, sgf_exc_3, sgf_exm_2_0, sgf_exm_6_0, sgf_exm_4_0, sgf_exm_5_0, sgf_exm_1_0, sgf_exm_3_0, sgf_isa_2_6, sgf_isa_6_6, sgf_isa_4_6, sgf_isa_5_6, sgf_isa_1_6, sgf_isa_3_6, sgf_isz_6, sgf_isv_2, sgf_isv_6, sgf_isv_4, sgf_isv_5, sgf_isv_1, sgf_isv_3, gl_MOST_LETTERS, gl_LETTERS, gl_MOST, gl_MOST_PARTS, gl_STAYS, wipeP, List.set_cons_zero, List.set_cons_succ, evSs_nil, List.lookup, Nat.reduceBEq, seq_str, seq_tup, seq_fl, Bool.true_and, Bool.and_true, Bool.false_and, Bool.and_false, beq_self_eq_true]
    refine ⟨_, .refl _, ?_⟩
    rw [← due_none hd]
    exact q _ (l1.trans lg)
end
end LK

set_option autoImplicit false
namespace LK
open PySem L2 PySem.Spec Mir
open PyProof.Rows hiding St
section
variable {n : Nat} {h : PH} {Q : QE} {X : Mir.XE}
theorem wk_buy {W last : Int} : wakesB true W last = decide (W ≤ last) := by
  simp only [wakesB, aheadB, if_true]
  by_cases z : last < W <;> simp [z] <;> omega
theorem wk_sell {W last : Int} : wakesB false W last = decide (last ≤ W) := by
  simp only [wakesB, aheadB]
  by_cases z : W < last <;> simp [z] <;> omega
theorem lawdue_sp {r : Addr} {L : List Ent} {last : Int} (s : h r = some (.dct false (dR L))) (nd : (L.map (·.1)).Nodup) (hl : L.length < 64) (q : ∀ g, PLe h g → Q (dueV L last) g) : sem sg (n + 1) 27 [.loc r, .int last] h Q X := by
  refine ⟨⟨2, 7, b27, []⟩, rfl, rfl, ?_⟩
  rw [b27, evSs_cons]
  simp only [evS, evE, evEs, evO, evB, evBs, evI, List.map_cons, List.map_nil, List.replicate_succ, List.replicate_zero, List.cons_append, List.nil_append, List.getElem?_cons_zero, List.getElem?_cons_succ, List.set_cons_zero, List.set_cons_succ, bv_add, bv_sub, bv_mul, bv_div, bv_mod, bv_pow, bv_str, av_add, av_sub, cv_lt, cv_le, cv_gt, cv_ge, cv_eq, cv_ne, cv_eqS, cv_neS, tv_bl, tv_int, List.length_cons, List.length_nil, pad, setT_nm, setT_tup, setTs_nil, setTs_cons, decide_eq_true_eq, Bool.not_eq_true', Bool.not_true, Bool.not_false, if_true, if_false, Bool.false_eq_true, Bool.true_eq_false, reduceIte, Nat.reduceAdd, Nat.reduceSub, Nat.reduceBEq, pow_10_9, pow_10_20, pow_10_30, cpow_10_9, cpow_10_20, cpow_10_30, divP_lit, mulP_r, mulP_l, lne_line, lt_line, isi_int, isi_bool, Int.reduceLT, Int.reduceLE, Int.reduceGT, Int.reduceGE, Int.reduceNeg, Int.reduceMul, Int.reduceAdd, Int.reduceSub, Nat.reduceLeDiff, Nat.reduceLT, true_and, and_true, decide_true, decide_false, sgf_pad_22_5, sgf_pad_22_6, sgf_pad_22_7, sgf_pad_22_8, sgf_pad_22_9, sgf_me_8_22, sgf_me_8_23, sgf_me_8_0, sgf_me_8_24, sgf_me_8_4, sgf_me_9_22, sgf_me_9_23, sgf_me_9_0, sgf_me_9_24, sgf_me_9_4, sgf_me_10_6, sgf_me_10_21, sgf_me_10_2, sgf_me_10_20, sgf_me_10_19, sgf_me_10_18, sgf_ini_10, sgf_ini_11, sgf_in0_8, sgf_in0_9, sgf_fl_10_1, sgf_fl_11_12, sgf_fl_11_3, sgf_fl_11_13, sgf_fl_11_14, sgf_fl_11_15, sgf_fl_11_16, sgf_fl_11_17, sgf_fl_11_5, sgf_exc_2, sgf_exc_6, sgf_exc_4, sgf_exc_5, sgf_exc_1, sgf_exc_3, sgf_exm_2_0, sgf_exm_6_0, sgf_exm_4_0, sgf_exm_5_0, sgf_exm_1_0, sgf_exm_3_0, sgf_isa_2_6, sgf_isa_6_6, sgf_isa_4_6, sgf_isa_5_6, sgf_isa_1_6, sgf_isa_3_6, sgf_isz_6, sgf_isv_2, sgf_isv_6, sgf_isv_4, sgf_isv_5, sgf_isv_1, sgf_isv_3, gl_MOST_LETTERS, gl_LETTERS, gl_MOST, gl_MOST_PARTS, gl_STAYS, wipeP, List.set_cons_zero, List.set_cons_succ, evSs_nil, List.lookup, Nat.reduceBEq, seq_str, seq_tup, seq_fl, Bool.true_and, Bool.and_true, Bool.false_and, Bool.and_false, beq_self_eq_true]
  refine blt_sorted (f := fun e => tupP e.2.2) s hl fun p np => ?_
  have l1 := PLe.new (c := .lst ((srt (L.map (·.1))).map .int)) np
  have s1 := l1 _ _ s
  have e1 : (pup h p (.lst ((srt (L.map (·.1))).map .int))) p = some (.lst ((srt (L.map (·.1))).map .int)) := pup_same
  generalize pup h p _ = g at s1 l1 e1 ⊢
  rw [seq_lst e1]
  refine forGo_list (f := PV.int) (as := srt (L.map (·.1))) (fun done env g' => PLe g g' ∧ (∀ k ∈ done, wk (partOf L k) last = false) ∧ ∃ x2 x3 x4 x5 x6, env = [some (.loc r), some (.int last), x2, x3, x4, x5, x6])
    (fun done k rest env g' K e I nx => ?_) (fun env g' I => ?_) ⟨.refl _, (fun k hk => by cases hk), none, none, none, none, none, rfl⟩
  · obtain ⟨lg, hd, x2, x3, x4, x5, x6, rfl⟩ := I
    have s2 := lg _ _ s1
    refine ⟨lg _ _ e1, ?_⟩
    have km : k ∈ L.map (·.1) := (srt_perm _).mem_iff.mp (by rw [e]; simp)
    obtain ⟨⟨k, o, b, pp, A, W⟩, he, rfl⟩ := List.mem_map.mp km
    have hv : valP (dR L) (.inl k) = some (tupP ⟨b, pp, A, W⟩) := val_ent (f := fun e => tupP e.2.2) nd he
    have pk : partOf L k = ⟨b, pp, A, W⟩ := part_of nd he
    dsimp only at e nx
    unfold tupP at hv
    simp only [evS, evE, evEs, evO, evB, evBs, evI, List.map_cons, List.map_nil, List.replicate_succ, List.replicate_zero, List.cons_append, List.nil_append, List.getElem?_cons_zero, List.getElem?_cons_succ, List.set_cons_zero, List.set_cons_succ, bv_add, bv_sub, bv_mul, bv_div, bv_mod, bv_pow, bv_str, av_add, av_sub, cv_lt, cv_le, cv_gt, cv_ge, cv_eq, cv_ne, cv_eqS, cv_neS, tv_bl, tv_int, List.length_cons, List.length_nil, pad, setT_nm, setT_tup, setTs_nil, setTs_cons, decide_eq_true_eq, Bool.not_eq_true', Bool.not_true, Bool.not_false, if_true, if_false, Bool.false_eq_true, Bool.true_eq_false, reduceIte, Nat.reduceAdd, Nat.reduceSub, Nat.reduceBEq, pow_10_9, pow_10_20, pow_10_30, cpow_10_9, cpow_10_20, cpow_10_30, divP_lit, mulP_r, mulP_l, lne_line, lt_line, isi_int, isi_bool, Int.reduceLT, Int.reduceLE, Int.reduceGT, Int.reduceGE, Int.reduceNeg, Int.reduceMul, Int.reduceAdd, Int.reduceSub, Nat.reduceLeDiff, Nat.reduceLT, true_and, and_true, decide_true, decide_false, sgf_pad_22_5, sgf_pad_22_6, sgf_pad_22_7, sgf_pad_22_8, sgf_pad_22_9, sgf_me_8_22, sgf_me_8_23, sgf_me_8_0, sgf_me_8_24, sgf_me_8_4, sgf_me_9_22, sgf_me_9_23, sgf_me_9_0, sgf_me_9_24, sgf_me_9_4, sgf_me_10_6, sgf_me_10_21, sgf_me_10_2, sgf_me_10_20, sgf_me_10_19, sgf_me_10_18, sgf_ini_10, sgf_ini_11, sgf_in0_8, sgf_in0_9, sgf_fl_10_1, sgf_fl_11_12, sgf_fl_11_3, sgf_fl_11_13, sgf_fl_11_14, sgf_fl_11_15, sgf_fl_11_16, sgf_fl_11_17, sgf_fl_11_5, sgf_exc_2, sgf_exc_6, sgf_exc_4, sgf_exc_5, sgf_exc_1, sgf_exc_3, sgf_exm_2_0, sgf_exm_6_0, sgf_exm_4_0, sgf_exm_5_0, sgf_exm_1_0, sgf_exm_3_0, sgf_isa_2_6, sgf_isa_6_6, sgf_isa_4_6, sgf_isa_5_6, sgf_isa_1_6, sgf_isa_3_6, sgf_isz_6, sgf_isv_2, sgf_isv_6, sgf_isv_4, sgf_isv_5, sgf_isv_1, sgf_isv_3, gl_MOST_LETTERS, gl_LETTERS, gl_MOST, gl_MOST_PARTS, gl_STAYS, wipeP, List.set_cons_zero, List.set_cons_succ, evSs_nil, List.lookup, Nat.reduceBEq, seq_str, seq_tup, seq_fl, Bool.true_and, Bool.and_true, Bool.false_and, Bool.and_false, beq_self_eq_true]
    (try dsimp only); (try simp only [evS, evE, evEs, evO, evB, evBs, evI, List.map_cons, List.map_nil, List.replicate_succ, List.replicate_zero, List.cons_append, List.nil_append, List.getElem?_cons_zero, List.getElem?_cons_succ, List.set_cons_zero, List.set_cons_succ, bv_add, bv_sub, bv_mul, bv_div, bv_mod, bv_pow, bv_str, av_add, av_sub, cv_lt, cv_le, cv_gt, cv_ge, cv_eq, cv_ne, cv_eqS, cv_neS, tv_bl, tv_int, List.length_cons, List.length_nil, pad, setT_nm, setT_tup, setTs_nil, setTs_cons, decide_eq_true_eq, Bool.not_eq_true', Bool.not_true, Bool.not_false, if_true, if_false, Bool.false_eq_true, Bool.true_eq_false, reduceIte, Nat.reduceAdd, Nat.reduceSub, Nat.reduceBEq, pow_10_9, pow_10_20, pow_10_30, cpow_10_9, cpow_10_20, cpow_10_30, divP_lit, mulP_r, mulP_l, lne_line, lt_line, isi_int, isi_bool, Int.reduceLT, Int.reduceLE, Int.reduceGT, Int.reduceGE, Int.reduceNeg, Int.reduceMul, Int.reduceAdd, Int.reduceSub, Nat.reduceLeDiff, Nat.reduceLT, true_and, and_true, decide_true, decide_false, sgf_pad_22_5, sgf_pad_22_6, sgf_pad_22_7, sgf_pad_22_8, sgf_pad_22_9, sgf_me_8_22, sgf_me_8_23, sgf_me_8_0, sgf_me_8_24, sgf_me_8_4, sgf_me_9_22, sgf_me_9_23, sgf_me_9_0, sgf_me_9_24, sgf_me_9_4, sgf_me_10_6, sgf_me_10_21, sgf_me_10_2, sgf_me_10_20, sgf_me_10_19, sgf_me_10_18, sgf_ini_10, sgf_ini_11, sgf_in0_8, sgf_in0_9, sgf_fl_10_1, sgf_fl_11_12, sgf_fl_11_3, sgf_fl_11_13, sgf_fl_11_14, sgf_fl_11_15, sgf_fl_11_16, sgf_fl_11_17, sgf_fl_11_5, sgf_exc_2, sgf_exc_6, sgf_exc_4, sgf_exc_5, sgf_exc_1, sgf_exc_3, sgf_exm_2_0, sgf_exm_6_0, sgf_exm_4_0, sgf_exm_5_0, sgf_exm_1_0, sgf_exm_3_0, sgf_isa_2_6, sgf_isa_6_6, sgf_isa_4_6, sgf_isa_5_6, sgf_isa_1_6, sgf_isa_3_6, sgf_isz_6, sgf_isv_2, sgf_isv_6, sgf_isv_4, sgf_isv_5, sgf_isv_1, sgf_isv_3, gl_MOST_LETTERS, gl_LETTERS, gl_MOST, gl_MOST_PARTS, gl_STAYS, wipeP, List.set_cons_zero, List.set_cons_succ, evSs_nil, List.lookup, Nat.reduceBEq, seq_str, seq_tup, seq_fl, Bool.true_and, Bool.and_true, Bool.false_and, Bool.and_false, beq_self_eq_true]); rw [evSs_cons]; simp only [evS, evE, evEs, evO, evB, evBs, evI, List.map_cons, List.map_nil, List.replicate_succ, List.replicate_zero, List.cons_append, List.nil_append, List.getElem?_cons_zero, List.getElem?_cons_succ, List.set_cons_zero, List.set_cons_succ, bv_add, bv_sub, bv_mul, bv_div, bv_mod, bv_pow, bv_str, av_add, av_sub, cv_lt, cv_le, cv_gt, cv_ge, cv_eq, cv_ne, cv_eqS, cv_neS, tv_bl, tv_int, List.length_cons, List.length_nil, pad, setT_nm, setT_tup, setTs_nil, setTs_cons, decide_eq_true_eq, Bool.not_eq_true', Bool.not_true, Bool.not_false, if_true, if_false, Bool.false_eq_true, Bool.true_eq_false, reduceIte, Nat.reduceAdd, Nat.reduceSub, Nat.reduceBEq, pow_10_9, pow_10_20, pow_10_30, cpow_10_9, cpow_10_20, cpow_10_30, divP_lit, mulP_r, mulP_l, lne_line, lt_line, isi_int, isi_bool, Int.reduceLT, Int.reduceLE, Int.reduceGT, Int.reduceGE, Int.reduceNeg, Int.reduceMul, Int.reduceAdd, Int.reduceSub, Nat.reduceLeDiff, Nat.reduceLT, true_and, and_true, decide_true, decide_false, sgf_pad_22_5, sgf_pad_22_6, sgf_pad_22_7, sgf_pad_22_8, sgf_pad_22_9, sgf_me_8_22, sgf_me_8_23, sgf_me_8_0, sgf_me_8_24, sgf_me_8_4, sgf_me_9_22, sgf_me_9_23, sgf_me_9_0, sgf_me_9_24, sgf_me_9_4, sgf_me_10_6, sgf_me_10_21, sgf_me_10_2, sgf_me_10_20, sgf_me_10_19, sgf_me_10_18, sgf_ini_10, sgf_ini_11, sgf_in0_8, sgf_in0_9, sgf_fl_10_1, sgf_fl_11_12, sgf_fl_11_3, sgf_fl_11_13, sgf_fl_11_14, sgf_fl_11_15, sgf_fl_11_16, sgf_fl_11_17, sgf_fl_11_5, sgf_exc_2, sgf_exc_6, sgf_exc_4, sgf_exc_5, sgf_exc_1, sgf_exc_3, sgf_exm_2_0, sgf_exm_6_0, sgf_exm_4_0, sgf_exm_5_0, sgf_exm_1_0, sgf_exm_3_0, sgf_isa_2_6, sgf_isa_6_6, sgf_isa_4_6, sgf_isa_5_6, sgf_isa_1_6, sgf_isa_3_6, sgf_isz_6, sgf_isv_2, sgf_isv_6, sgf_isv_4, sgf_isv_5, sgf_isv_1, sgf_isv_3, gl_MOST_LETTERS, gl_LETTERS, gl_MOST, gl_MOST_PARTS, gl_STAYS, wipeP, List.set_cons_zero, List.set_cons_succ, evSs_nil, List.lookup, Nat.reduceBEq, seq_str, seq_tup, seq_fl, Bool.true_and, Bool.and_true, Bool.false_and, Bool.and_false, beq_self_eq_true, subV, s2, toKey, hv]
    have fin : ∀ {env : PEnv} {F : Prop}, (F ↔ ∃ h2, PLe h2 g' ∧ Q (.int k) h2) → (∃ x3 x4 x5 x6, env = [some (.loc r), some (.int last), some (.int k), x3, x4, x5, x6]) → if wakesB b W last = true then F else K env g' := by
      intro env F hF ⟨x3, x4, x5, x6, he⟩
      subst he
      by_cases z : wakesB b W last = true
      · rw [if_pos z]
        refine hF.mpr ⟨g', .refl _, ?_⟩
        rw [← due_at e hd (by rw [pk]; exact z)]
        exact q _ (l1.trans lg)
      · rw [if_neg z]
        refine nx _ _ ⟨lg, fun k' hk' => ?_, _, _, _, _, _, rfl⟩
        rcases List.mem_append.mp hk' with hk' | hk'
        · exact hd k' hk'
        · rw [List.mem_singleton.mp hk', pk]
          show wakesB b W last = false
          simpa using z
    cases b with
    | true =>
      rw [wk_buy] at fin
      simp only [decide_eq_true_eq] at fin
      (try dsimp only); (try simp only [evS, evE, evEs, evO, evB, evBs, evI, List.map_cons, List.map_nil, List.replicate_succ, List.replicate_zero, List.cons_append, List.nil_append, List.getElem?_cons_zero, List.getElem?_cons_succ, List.set_cons_zero, List.set_cons_succ, bv_add, bv_sub, bv_mul, bv_div, bv_mod, bv_pow, bv_str, av_add, av_sub, cv_lt, cv_le, cv_gt, cv_ge, cv_eq, cv_ne, cv_eqS, cv_neS, tv_bl, tv_int, List.length_cons, List.length_nil, pad, setT_nm, setT_tup, setTs_nil, setTs_cons, decide_eq_true_eq, Bool.not_eq_true', Bool.not_true, Bool.not_false, if_true, if_false, Bool.false_eq_true, Bool.true_eq_false, reduceIte, Nat.reduceAdd, Nat.reduceSub, Nat.reduceBEq, pow_10_9, pow_10_20, pow_10_30, cpow_10_9, cpow_10_20, cpow_10_30, divP_lit, mulP_r, mulP_l, lne_line, lt_line, isi_int, isi_bool, Int.reduceLT, Int.reduceLE, Int.reduceGT, Int.reduceGE, Int.reduceNeg, Int.reduceMul, Int.reduceAdd, Int.reduceSub, Nat.reduceLeDiff, Nat.reduceLT, true_and, and_true, decide_true, decide_false, sgf_pad_22_5, sgf_pad_22_6, sgf_pad_22_7, sgf_pad_22_8, sgf_pad_22_9, sgf_me_8_22, sgf_me_8_23, sgf_me_8_0, sgf_me_8_24, sgf_me_8_4, sgf_me_9_22, sgf_me_9_23, sgf_me_9_0, sgf_me_9_24, sgf_me_9_4, sgf_me_10_6, sgf_me_10_21, sgf_me_10_2, sgf_me_10_20, sgf_me_10_19, sgf_me_10_18, sgf_ini_10, sgf_ini_11, sgf_in0_8, sgf_in0_9, sgf_fl_10_1, sgf_fl_11_12, sgf_fl_11_3, sgf_fl_11_13, sgf_fl_11_14, sgf_fl_11_15, sgf_fl_11_16, sgf_fl_11_17, sgf_fl_11_5, sgf_exc_2, sgf_exc_6, sgf_exc_4, sgf_exc_5, sgf_exc_1, sgf_exc_3, sgf_exm_2_0, sgf_exm_6_0, sgf_exm_4_0, sgf_exm_5_0, sgf_exm_1_0, sgf_exm_3_0, sgf_isa_2_6, sgf_isa_6_6, sgf_isa_4_6, sgf_isa_5_6, sgf_isa_1_6, sgf_isa_3_6, sgf_isz_6, sgf_isv_2, sgf_isv_6, sgf_isv_4, sgf_isv_5, sgf_isv_1, sgf_isv_3, gl_MOST_LETTERS, gl_LETTERS, gl_MOST, gl_MOST_PARTS, gl_STAYS, wipeP, List.set_cons_zero, List.set_cons_succ, evSs_nil, List.lookup, Nat.reduceBEq, seq_str, seq_tup, seq_fl, Bool.true_and, Bool.and_true, Bool.false_and, Bool.and_false, beq_self_eq_true]); rw [evSs_cons]; simp only [evS, evE, evEs, evO, evB, evBs, evI, List.map_cons, List.map_nil, List.replicate_succ, List.replicate_zero, List.cons_append, List.nil_append, List.getElem?_cons_zero, List.getElem?_cons_succ, List.set_cons_zero, List.set_cons_succ, bv_add, bv_sub, bv_mul, bv_div, bv_mod, bv_pow, bv_str, av_add, av_sub, cv_lt, cv_le, cv_gt, cv_ge, cv_eq, cv_ne, cv_eqS, cv_neS, tv_bl, tv_int, List.length_cons, List.length_nil, pad, setT_nm, setT_tup, setTs_nil, setTs_cons, decide_eq_true_eq, Bool.not_eq_true', Bool.not_true, Bool.not_false, if_true, if_false, Bool.false_eq_true, Bool.true_eq_false, reduceIte, Nat.reduceAdd, Nat.reduceSub, Nat.reduceBEq, pow_10_9, pow_10_20, pow_10_30, cpow_10_9, cpow_10_20, cpow_10_30, divP_lit, mulP_r, mulP_l, lne_line, lt_line, isi_int, isi_bool, Int.reduceLT, Int.reduceLE, Int.reduceGT, Int.reduceGE, Int.reduceNeg, Int.reduceMul, Int.reduceAdd, Int.reduceSub, Nat.reduceLeDiff, Nat.reduceLT, true_and, and_true, decide_true, decide_false, sgf_pad_22_5, sgf_pad_22_6, sgf_pad_22_7, sgf_pad_22_8, sgf_pad_22_9, sgf_me_8_22, sgf_me_8_23, sgf_me_8_0, sgf_me_8_24, sgf_me_8_4, sgf_me_9_22, sgf_me_9_23, sgf_me_9_0, sgf_me_9_24, sgf_me_9_4, sgf_me_10_6, sgf_me_10_21, sgf_me_10_2, sgf_me_10_20, sgf_me_10_19, sgf_me_10_18, sgf_ini_10, sgf_ini_11, sgf_in0_8, sgf_in0_9, sgf_fl_10_1, sgf_fl_11_12, sgf_fl_11_3, sgf_fl_11_13, sgf_fl_11_14, sgf_fl_11_15, sgf_fl_11_16, sgf_fl_11_17, sgf_fl_11_5, sgf_exc_2, sgf_exc_6, sgf_exc_4, sgf_exc_5, sgf_exc_1, sgf_exc_3, sgf_exm_2_0, sgf_exm_6_0, sgf_exm_4_0, sgf_exm_5_0, sgf_exm_1_0, sgf_exm_3_0, sgf_isa_2_6, sgf_isa_6_6, sgf_isa_4_6, sgf_isa_5_6, sgf_isa_1_6, sgf_isa_3_6, sgf_isz_6, sgf_isv_2, sgf_isv_6, sgf_isv_4, sgf_isv_5, sgf_isv_1, sgf_isv_3, gl_MOST_LETTERS, gl_LETTERS, gl_MOST, gl_MOST_PARTS, gl_STAYS, wipeP, List.set_cons_zero, List.set_cons_succ, evSs_nil, List.lookup, Nat.reduceBEq, seq_str, seq_tup, seq_fl, Bool.true_and, Bool.and_true, Bool.false_and, Bool.and_false, beq_self_eq_true, sideW]
      have bs : (Str.ofString "buy" == Str.ofString "sell") = false := by decide +kernel
      simp only [bs, Bool.false_eq_true, if_false]
      exact fin Iff.rfl ⟨_, _, _, _, rfl⟩
    | false =>
      rw [wk_sell] at fin
      simp only [decide_eq_true_eq] at fin
      (try dsimp only); (try simp only [evS, evE, evEs, evO, evB, evBs, evI, List.map_cons, List.map_nil, List.replicate_succ, List.replicate_zero, List.cons_append, List.nil_append, List.getElem?_cons_zero, List.getElem?_cons_succ, List.set_cons_zero, List.set_cons_succ, bv_add, bv_sub, bv_mul, bv_div, bv_mod, bv_pow, bv_str, av_add, av_sub, cv_lt, cv_le, cv_gt, cv_ge, cv_eq, cv_ne, cv_eqS, cv_neS, tv_bl, tv_int, List.length_cons, List.length_nil, pad, setT_nm, setT_tup, setTs_nil, setTs_cons, decide_eq_true_eq, Bool.not_eq_true', Bool.not_true, Bool.not_false, if_true, if_false, Bool.false_eq_true, Bool.true_eq_false, reduceIte, Nat.reduceAdd, Nat.reduceSub, Nat.reduceBEq, pow_10_9, pow_10_20, pow_10_30, cpow_10_9, cpow_10_20, cpow_10_30, divP_lit, mulP_r, mulP_l, lne_line, lt_line, isi_int, isi_bool, Int.reduceLT, Int.reduceLE, Int.reduceGT, Int.reduceGE, Int.reduceNeg, Int.reduceMul, Int.reduceAdd, Int.reduceSub, Nat.reduceLeDiff, Nat.reduceLT, true_and, and_true, decide_true, decide_false, sgf_pad_22_5, sgf_pad_22_6, sgf_pad_22_7, sgf_pad_22_8, sgf_pad_22_9, sgf_me_8_22, sgf_me_8_23, sgf_me_8_0, sgf_me_8_24, sgf_me_8_4, sgf_me_9_22, sgf_me_9_23, sgf_me_9_0, sgf_me_9_24, sgf_me_9_4, sgf_me_10_6, sgf_me_10_21, sgf_me_10_2, sgf_me_10_20, sgf_me_10_19, sgf_me_10_18, sgf_ini_10, sgf_ini_11, sgf_in0_8, sgf_in0_9, sgf_fl_10_1, sgf_fl_11_12, sgf_fl_11_3, sgf_fl_11_13, sgf_fl_11_14, sgf_fl_11_15, sgf_fl_11_16, sgf_fl_11_17, sgf_fl_11_5, sgf_exc_2, sgf_exc_6, sgf_exc_4, sgf_exc_5, sgf_exc_1, sgf_exc_3, sgf_exm_2_0, sgf_exm_6_0, sgf_exm_4_0, sgf_exm_5_0, sgf_exm_1_0, sgf_exm_3_0, sgf_isa_2_6, sgf_isa_6_6, sgf_isa_4_6, sgf_isa_5_6, sgf_isa_1_6, sgf_isa_3_6, sgf_isz_6, sgf_isv_2, sgf_isv_6, sgf_isv_4, sgf_isv_5, sgf_isv_1, sgf_isv_3, gl_MOST_LETTERS, gl_LETTERS, gl_MOST, gl_MOST_PARTS, gl_STAYS, wipeP, List.set_cons_zero, List.set_cons_succ, evSs_nil, List.lookup, Nat.reduceBEq, seq_str, seq_tup, seq_fl, Bool.true_and, Bool.and_true, Bool.false_and, Bool.and_false, beq_self_eq_true]); rw [evSs_cons]; simp only [evS, evE, evEs, evO, evB, evBs, evI, List.map_cons, List.map_nil, List.replicate_succ, List.replicate_zero, List.cons_append, List.nil_append, List.getElem?_cons_zero, List.getElem?_cons_succ, List.set_cons_zero, List.set_cons_succ, bv_add, bv_sub, bv_mul, bv_div, bv_mod, bv_pow, bv_str, av_add, av_sub, cv_lt, cv_le, cv_gt, cv_ge, cv_eq, cv_ne, cv_eqS, cv_neS, tv_bl, tv_int, List.length_cons, List.length_nil, pad, setT_nm, setT_tup, setTs_nil, setTs_cons, decide_eq_true_eq, Bool.not_eq_true', Bool.not_true, Bool.not_false, if_true, if_false, Bool.false_eq_true, Bool.true_eq_false, reduceIte, Nat.reduceAdd, Nat.reduceSub, Nat.reduceBEq, pow_10_9, pow_10_20, pow_10_30, cpow_10_9, cpow_10_20, cpow_10_30, divP_lit, mulP_r, mulP_l, lne_line, lt_line, isi_int, isi_bool, Int.reduceLT, Int.reduceLE, Int.reduceGT, Int.reduceGE, Int.reduceNeg, Int.reduceMul, Int.reduceAdd, Int.reduceSub, Nat.reduceLeDiff, Nat.reduceLT, true_and, and_true, decide_true, decide_false, sgf_pad_22_5, sgf_pad_22_6, sgf_pad_22_7, sgf_pad_22_8, sgf_pad_22_9, sgf_me_8_22, sgf_me_8_23, sgf_me_8_0, sgf_me_8_24, sgf_me_8_4, sgf_me_9_22, sgf_me_9_23, sgf_me_9_0, sgf_me_9_24, sgf_me_9_4, sgf_me_10_6, sgf_me_10_21, sgf_me_10_2, sgf_me_10_20, sgf_me_10_19, sgf_me_10_18, sgf_ini_10, sgf_ini_11, sgf_in0_8, sgf_in0_9, sgf_fl_10_1, sgf_fl_11_12, sgf_fl_11_3, sgf_fl_11_13, sgf_fl_11_14, sgf_fl_11_15, sgf_fl_11_16, sgf_fl_11_17, sgf_fl_11_5, sgf_exc_2, sgf_exc_6, sgf_exc_4, sgf_exc_5, sgf_exc_1, sgf_exc_3, sgf_exm_2_0, sgf_exm_6_0, sgf_exm_4_0, sgf_exm_5_0, sgf_exm_1_0, sgf_exm_3_0, sgf_isa_2_6, sgf_isa_6_6, sgf_isa_4_6, sgf_isa_5_6, sgf_isa_1_6, sgf_isa_3_6, sgf_isz_6, sgf_isv_2, sgf_isv_6, sgf_isv_4, sgf_isv_5, sgf_isv_1, sgf_isv_3, gl_MOST_LETTERS, gl_LETTERS, gl_MOST, gl_MOST_PARTS, gl_STAYS, wipeP, List.set_cons_zero, List.set_cons_succ, evSs_nil, List.lookup, Nat.reduceBEq, seq_str, seq_tup, seq_fl, Bool.true_and, Bool.and_true, Bool.false_and, Bool.and_false, beq_self_eq_true, sideW]
      have bs : (Str.ofString "sell" == Str.ofString "buy") = false := by decide +kernel
      simp only [bs, Bool.false_eq_true, if_false]
      exact fin Iff.rfl ⟨_, _, _, _, rfl⟩
  · obtain ⟨lg, hd, x2, x3, x4, x5, x6, rfl⟩ := I
    refine ⟨lg _ _ e1, ?_⟩
    (try dsimp only); (try simp only [evS, evE, evEs, evO, evB, evBs, evI, List.map_cons, List.map_nil, List.replicate_succ, List.replicate_zero, List.cons_append, List.nil_append, List.getElem?_cons_zero, List.getElem?_cons_succ, List.set_cons_zero, List.set_cons_succ, bv_add, bv_sub, bv_mul, bv_div, bv_mod, bv_pow, bv_str, av_add, av_sub, cv_lt, cv_le, cv_gt, cv_ge, cv_eq, cv_ne, cv_eqS, cv_neS, tv_bl, tv_int, List.length_cons, List.length_nil, pad, setT_nm, setT_tup, setTs_nil, setTs_cons, decide_eq_true_eq, Bool.not_eq_true', Bool.not_true, Bool.not_false, if_true, if_false, Bool.false_eq_true, Bool.true_eq_false, reduceIte, Nat.reduceAdd, Nat.reduceSub, Nat.reduceBEq, pow_10_9, pow_10_20, pow_10_30, cpow_10_9, cpow_10_20, cpow_10_30, divP_lit, mulP_r, mulP_l, lne_line, lt_line, isi_int, isi_bool, Int.reduceLT, Int.reduceLE, Int.reduceGT, Int.reduceGE, Int.reduceNeg, Int.reduceMul, Int.reduceAdd, Int.reduceSub, Nat.reduceLeDiff, Nat.reduceLT, true_and, and_true, decide_true, decide_false, sgf_pad_22_5, sgf_pad_22_6, sgf_pad_22_7, sgf_pad_22_8, sgf_pad_22_9, sgf_me_8_22, sgf_me_8_23, sgf_me_8_0, sgf_me_8_24, sgf_me_8_4, sgf_me_9_22, sgf_me_9_23, sgf_me_9_0, sgf_me_9_24, sgf_me_9_4, sgf_me_10_6, sgf_me_10_21, sgf_me_10_2, sgf_me_10_20, sgf_me_10_19, sgf_me_10_18, sgf_ini_10, sgf_ini_11, sgf_in0_8, sgf_in0_9, sgf_fl_10_1, sgf_fl_11_12, sgf_fl_11_3, sgf_fl_11_13, sgf_fl_11_14, sgf_fl_11_15, sgf_fl_11_16, sgf_fl_11_17, sgf_fl_11_5, sgf_exc_2, sgf_exc_6, sgf_exc_4, sgf_exc_5, sgf_exc_1, sgf_exc_3, sgf_exm_2_0, sgf_exm_6_0, sgf_exm_4_0, sgf_exm_5_0, sgf_exm_1_0, sgf_exm_3_0, sgf_isa_2_6, sgf_isa_6_6, sgf_isa_4_6, sgf_isa_5_6, sgf_isa_1_6, sgf_isa_3_6, sgf_isz_6, sgf_isv_2, sgf_isv_6, sgf_isv_4, sgf_isv_5, sgf_isv_1, sgf_isv_3, gl_MOST_LETTERS, gl_LETTERS, gl_MOST, gl_MOST_PARTS, gl_STAYS, wipeP, List.set_cons_zero, List.set_cons_succ, evSs_nil, List.lookup, Nat.reduceBEq, seq_str, seq_tup, seq_fl, Bool.true_and, Bool.and_true, Bool.false_and, Bool.and_false, beq_self_eq_true]); rw [evSs_cons]; simp only [evS, evE, evEs, evO, evB, evBs, evI, List.map_cons, List.map_nil, List.replicate_succ, List.replicate_zero, List.cons_append, List.nil_append, List.getElem?_cons_zero, List.getElem?_cons_succ, List.set_cons_zero, List.set_cons_succ, bv_add, bv_sub, bv_mul, bv_div, bv_mod, bv_pow, bv_str, av_add, av_sub, cv_lt, cv_le, cv_gt, cv_ge, cv_eq, cv_ne, cv_eqS, cv_neS, tv_bl, tv_int, List.length_cons, List.length_nil, pad, setT_nm, setT_tup, setTs_nil, setTs_cons, decide_eq_true_eq, Bool.not_eq_true', Bool.not_true, Bool.not_false, if_true, if_false, Bool.false_eq_true, Bool.true_eq_false, reduceIte, Nat.reduceAdd, Nat.reduceSub, Nat.reduceBEq, pow_10_9, pow_10_20, pow_10_30, cpow_10_9, cpow_10_20, cpow_10_30, divP_lit, mulP_r, mulP_l, lne_line, lt_line, isi_int, isi_bool, Int.reduceLT, Int.reduceLE, Int.reduceGT, Int.reduceGE, Int.reduceNeg, Int.reduceMul, Int.reduceAdd, Int.reduceSub, Nat.reduceLeDiff, Nat.reduceLT, true_and, and_true, decide_true, decide_false, sgf_pad_22_5, sgf_pad_22_6, sgf_pad_22_7, sgf_pad_22_8, sgf_pad_22_9, sgf_me_8_22, sgf_me_8_23, sgf_me_8_0, sgf_me_8_24, sgf_me_8_4, sgf_me_9_22, sgf_me_9_23, sgf_me_9_0, sgf_me_9_24, sgf_me_9_4, sgf_me_10_6, sgf_me_10_21, sgf_me_10_2, sgf_me_10_20, sgf_me_10_19, sgf_me_10_18, sgf_ini_10, sgf_ini_11, sgf_in0_8, sgf_in0_9, sgf_fl_10_1, sgf_fl_11_12, sgf_fl_11_3, sgf_fl_11_13, sgf_fl_11_14, sgf_fl_11_15, sgf_fl_11_16, sgf_fl_11_17, sgf_fl_11_5, sgf_exc_2, sgf_exc_6, sgf_exc_4, sgf_exc_5, sgf_exc_1, sgf_exc_3, sgf_exm_2_0, sgf_exm_6_0, sgf_exm_4_0, sgf_exm_5_0, sgf_exm_1_0, sgf_exm_3_0, sgf_isa_2_6, sgf_isa_6_6, sgf_isa_4_6, sgf_isa_5_6, sgf_isa_1_6, sgf_isa_3_6, sgf_isz_6, sgf_isv_2, sgf_isv_6, sgf_isv_4, sgf_isv_5, sgf_isv_1, sgf_isv_3, gl_MOST_LETTERS, gl_LETTERS, gl_MOST, gl_MOST_PARTS, gl_STAYS, wipeP, List.set_cons_zero, List.set_cons_succ, evSs_nil, List.lookup, Nat.reduceBEq, seq_str, seq_tup, seq_fl, Bool.true_and, Bool.and_true, Bool.false_and, Bool.and_false, beq_self_eq_true]
    refine ⟨_, .refl _, ?_⟩
    rw [← due_none hd]
    exact q _ (l1.trans lg)
theorem deq_opt {k : Nat} {g : PH} {p : Option Int} : deq g k (optP p) (optP p) = some true := by
  cases p <;> cases k <;> simp [optP, deq]
theorem like_sp {o : Addr} {e : Part} (ho : h o = some (.ins 11 (ordFs e))) (q : Q (.bl true) h) : sem sg (n + 1) 30 [.loc o, tupP e] h Q X := by
  refine ⟨⟨2, 3, b30, []⟩, rfl, rfl, ?_⟩
  unfold ordFs oFs at ho
  rw [b30]
  unfold tupP
  (try dsimp only); (try simp only [evS, evE, evEs, evO, evB, evBs, evI, List.map_cons, List.map_nil, List.replicate_succ, List.replicate_zero, List.cons_append, List.nil_append, List.getElem?_cons_zero, List.getElem?_cons_succ, List.set_cons_zero, List.set_cons_succ, bv_add, bv_sub, bv_mul, bv_div, bv_mod, bv_pow, bv_str, av_add, av_sub, cv_lt, cv_le, cv_gt, cv_ge, cv_eq, cv_ne, cv_eqS, cv_neS, tv_bl, tv_int, List.length_cons, List.length_nil, pad, setT_nm, setT_tup, setTs_nil, setTs_cons, decide_eq_true_eq, Bool.not_eq_true', Bool.not_true, Bool.not_false, if_true, if_false, Bool.false_eq_true, Bool.true_eq_false, reduceIte, Nat.reduceAdd, Nat.reduceSub, Nat.reduceBEq, pow_10_9, pow_10_20, pow_10_30, cpow_10_9, cpow_10_20, cpow_10_30, divP_lit, mulP_r, mulP_l, lne_line, lt_line, isi_int, isi_bool, Int.reduceLT, Int.reduceLE, Int.reduceGT, Int.reduceGE, Int.reduceNeg, Int.reduceMul, Int.reduceAdd, Int.reduceSub, Nat.reduceLeDiff, Nat.reduceLT, true_and, and_true, decide_true, decide_false, sgf_pad_22_5, sgf_pad_22_6, sgf_pad_22_7, sgf_pad_22_8, sgf_pad_22_9, sgf_me_8_22, sgf_me_8_23, sgf_me_8_0, sgf_me_8_24, sgf_me_8_4, sgf_me_9_22, sgf_me_9_23, sgf_me_9_0, sgf_me_9_24, sgf_me_9_4, sgf_me_10_6, sgf_me_10_21, sgf_me_10_2, sgf_me_10_20, sgf_me_10_19, sgf_me_10_18, sgf_ini_10, sgf_ini_11, sgf_in0_8, sgf_in0_9, sgf_fl_10_1, sgf_fl_11_12, sgf_fl_11_3, sgf_fl_11_13, sgf_fl_11_14, sgf_fl_11_15, sgf_fl_11_16, sgf_fl_11_17, sgf_fl_11_5, sgf_exc_2, sgf_exc_6, sgf_exc_4, sgf_exc_5, sgf_exc_1, sgf_exc_3, sgf_exm_2_0, sgf_exm_6_0, sgf_exm_4_0, sgf_exm_5_0, sgf_exm_1_0, sgf_exm_3_0, sgf_isa_2_6, sgf_isa_6_6, sgf_isa_4_6, sgf_isa_5_6, sgf_isa_1_6, sgf_isa_3_6, sgf_isz_6, sgf_isv_2, sgf_isv_6, sgf_isv_4, sgf_isv_5, sgf_isv_1, sgf_isv_3, gl_MOST_LETTERS, gl_LETTERS, gl_MOST, gl_MOST_PARTS, gl_STAYS, wipeP, List.set_cons_zero, List.set_cons_succ, evSs_nil, List.lookup, Nat.reduceBEq, seq_str, seq_tup, seq_fl, Bool.true_and, Bool.and_true, Bool.false_and, Bool.and_false, beq_self_eq_true]); rw [evSs_cons]; simp only [evS, evE, evEs, evO, evB, evBs, evI, List.map_cons, List.map_nil, List.replicate_succ, List.replicate_zero, List.cons_append, List.nil_append, List.getElem?_cons_zero, List.getElem?_cons_succ, List.set_cons_zero, List.set_cons_succ, bv_add, bv_sub, bv_mul, bv_div, bv_mod, bv_pow, bv_str, av_add, av_sub, cv_lt, cv_le, cv_gt, cv_ge, cv_eq, cv_ne, cv_eqS, cv_neS, tv_bl, tv_int, List.length_cons, List.length_nil, pad, setT_nm, setT_tup, setTs_nil, setTs_cons, decide_eq_true_eq, Bool.not_eq_true', Bool.not_true, Bool.not_false, if_true, if_false, Bool.false_eq_true, Bool.true_eq_false, reduceIte, Nat.reduceAdd, Nat.reduceSub, Nat.reduceBEq, pow_10_9, pow_10_20, pow_10_30, cpow_10_9, cpow_10_20, cpow_10_30, divP_lit, mulP_r, mulP_l, lne_line, lt_line, isi_int, isi_bool, Int.reduceLT, Int.reduceLE, Int.reduceGT, Int.reduceGE, Int.reduceNeg, Int.reduceMul, Int.reduceAdd, Int.reduceSub, Nat.reduceLeDiff, Nat.reduceLT, true_and, and_true, decide_true, decide_false, sgf_pad_22_5, sgf_pad_22_6, sgf_pad_22_7, sgf_pad_22_8, sgf_pad_22_9, sgf_me_8_22, sgf_me_8_23, sgf_me_8_0, sgf_me_8_24, sgf_me_8_4, sgf_me_9_22, sgf_me_9_23, sgf_me_9_0, sgf_me_9_24, sgf_me_9_4, sgf_me_10_6, sgf_me_10_21, sgf_me_10_2, sgf_me_10_20, sgf_me_10_19, sgf_me_10_18, sgf_ini_10, sgf_ini_11, sgf_in0_8, sgf_in0_9, sgf_fl_10_1, sgf_fl_11_12, sgf_fl_11_3, sgf_fl_11_13, sgf_fl_11_14, sgf_fl_11_15, sgf_fl_11_16, sgf_fl_11_17, sgf_fl_11_5, sgf_exc_2, sgf_exc_6, sgf_exc_4, sgf_exc_5, sgf_exc_1, sgf_exc_3, sgf_exm_2_0, sgf_exm_6_0, sgf_exm_4_0, sgf_exm_5_0, sgf_exm_1_0, sgf_exm_3_0, sgf_isa_2_6, sgf_isa_6_6, sgf_isa_4_6, sgf_isa_5_6, sgf_isa_1_6, sgf_isa_3_6, sgf_isz_6, sgf_isv_2, sgf_isv_6, sgf_isv_4, sgf_isv_5, sgf_isv_1, sgf_isv_3, gl_MOST_LETTERS, gl_LETTERS, gl_MOST, gl_MOST_PARTS, gl_STAYS, wipeP, List.set_cons_zero, List.set_cons_succ, evSs_nil, List.lookup, Nat.reduceBEq, seq_str, seq_tup, seq_fl, Bool.true_and, Bool.and_true, Bool.false_and, Bool.and_false, beq_self_eq_true, ho]
  (try dsimp only); (try simp only [evS, evE, evEs, evO, evB, evBs, evI, List.map_cons, List.map_nil, List.replicate_succ, List.replicate_zero, List.cons_append, List.nil_append, List.getElem?_cons_zero, List.getElem?_cons_succ, List.set_cons_zero, List.set_cons_succ, bv_add, bv_sub, bv_mul, bv_div, bv_mod, bv_pow, bv_str, av_add, av_sub, cv_lt, cv_le, cv_gt, cv_ge, cv_eq, cv_ne, cv_eqS, cv_neS, tv_bl, tv_int, List.length_cons, List.length_nil, pad, setT_nm, setT_tup, setTs_nil, setTs_cons, decide_eq_true_eq, Bool.not_eq_true', Bool.not_true, Bool.not_false, if_true, if_false, Bool.false_eq_true, Bool.true_eq_false, reduceIte, Nat.reduceAdd, Nat.reduceSub, Nat.reduceBEq, pow_10_9, pow_10_20, pow_10_30, cpow_10_9, cpow_10_20, cpow_10_30, divP_lit, mulP_r, mulP_l, lne_line, lt_line, isi_int, isi_bool, Int.reduceLT, Int.reduceLE, Int.reduceGT, Int.reduceGE, Int.reduceNeg, Int.reduceMul, Int.reduceAdd, Int.reduceSub, Nat.reduceLeDiff, Nat.reduceLT, true_and, and_true, decide_true, decide_false, sgf_pad_22_5, sgf_pad_22_6, sgf_pad_22_7, sgf_pad_22_8, sgf_pad_22_9, sgf_me_8_22, sgf_me_8_23, sgf_me_8_0, sgf_me_8_24, sgf_me_8_4, sgf_me_9_22, sgf_me_9_23, sgf_me_9_0, sgf_me_9_24, sgf_me_9_4, sgf_me_10_6, sgf_me_10_21, sgf_me_10_2, sgf_me_10_20, sgf_me_10_19, sgf_me_10_18, sgf_ini_10, sgf_ini_11, sgf_in0_8, sgf_in0_9, sgf_fl_10_1, sgf_fl_11_12, sgf_fl_11_3, sgf_fl_11_13, sgf_fl_11_14, sgf_fl_11_15, sgf_fl_11_16, sgf_fl_11_17, sgf_fl_11_5, sgf_exc_2, sgf_exc_6, sgf_exc_4, sgf_exc_5, sgf_exc_1, sgf_exc_3, sgf_exm_2_0, sgf_exm_6_0, sgf_exm_4_0, sgf_exm_5_0, sgf_exm_1_0, sgf_exm_3_0, sgf_isa_2_6, sgf_isa_6_6, sgf_isa_4_6, sgf_isa_5_6, sgf_isa_1_6, sgf_isa_3_6, sgf_isz_6, sgf_isv_2, sgf_isv_6, sgf_isv_4, sgf_isv_5, sgf_isv_1, sgf_isv_3, gl_MOST_LETTERS, gl_LETTERS, gl_MOST, gl_MOST_PARTS, gl_STAYS, wipeP, List.set_cons_zero, List.set_cons_succ, evSs_nil, List.lookup, Nat.reduceBEq, seq_str, seq_tup, seq_fl, Bool.true_and, Bool.and_true, Bool.false_and, Bool.and_false, beq_self_eq_true]); rw [evSs_cons]; simp only [evS, evE, evEs, evO, evB, evBs, evI, List.map_cons, List.map_nil, List.replicate_succ, List.replicate_zero, List.cons_append, List.nil_append, List.getElem?_cons_zero, List.getElem?_cons_succ, List.set_cons_zero, List.set_cons_succ, bv_add, bv_sub, bv_mul, bv_div, bv_mod, bv_pow, bv_str, av_add, av_sub, cv_lt, cv_le, cv_gt, cv_ge, cv_eq, cv_ne, cv_eqS, cv_neS, tv_bl, tv_int, List.length_cons, List.length_nil, pad, setT_nm, setT_tup, setTs_nil, setTs_cons, decide_eq_true_eq, Bool.not_eq_true', Bool.not_true, Bool.not_false, if_true, if_false, Bool.false_eq_true, Bool.true_eq_false, reduceIte, Nat.reduceAdd, Nat.reduceSub, Nat.reduceBEq, pow_10_9, pow_10_20, pow_10_30, cpow_10_9, cpow_10_20, cpow_10_30, divP_lit, mulP_r, mulP_l, lne_line, lt_line, isi_int, isi_bool, Int.reduceLT, Int.reduceLE, Int.reduceGT, Int.reduceGE, Int.reduceNeg, Int.reduceMul, Int.reduceAdd, Int.reduceSub, Nat.reduceLeDiff, Nat.reduceLT, true_and, and_true, decide_true, decide_false, sgf_pad_22_5, sgf_pad_22_6, sgf_pad_22_7, sgf_pad_22_8, sgf_pad_22_9, sgf_me_8_22, sgf_me_8_23, sgf_me_8_0, sgf_me_8_24, sgf_me_8_4, sgf_me_9_22, sgf_me_9_23, sgf_me_9_0, sgf_me_9_24, sgf_me_9_4, sgf_me_10_6, sgf_me_10_21, sgf_me_10_2, sgf_me_10_20, sgf_me_10_19, sgf_me_10_18, sgf_ini_10, sgf_ini_11, sgf_in0_8, sgf_in0_9, sgf_fl_10_1, sgf_fl_11_12, sgf_fl_11_3, sgf_fl_11_13, sgf_fl_11_14, sgf_fl_11_15, sgf_fl_11_16, sgf_fl_11_17, sgf_fl_11_5, sgf_exc_2, sgf_exc_6, sgf_exc_4, sgf_exc_5, sgf_exc_1, sgf_exc_3, sgf_exm_2_0, sgf_exm_6_0, sgf_exm_4_0, sgf_exm_5_0, sgf_exm_1_0, sgf_exm_3_0, sgf_isa_2_6, sgf_isa_6_6, sgf_isa_4_6, sgf_isa_5_6, sgf_isa_1_6, sgf_isa_3_6, sgf_isz_6, sgf_isv_2, sgf_isv_6, sgf_isv_4, sgf_isv_5, sgf_isv_1, sgf_isv_3, gl_MOST_LETTERS, gl_LETTERS, gl_MOST, gl_MOST_PARTS, gl_STAYS, wipeP, List.set_cons_zero, List.set_cons_succ, evSs_nil, List.lookup, Nat.reduceBEq, seq_str, seq_tup, seq_fl, Bool.true_and, Bool.and_true, Bool.false_and, Bool.and_false, beq_self_eq_true, ho, cmpV, eqK, deq, deqL, deq_opt]
  exact ret_here q
theorem dueW_part {e : Part} (g : PGood e) : dueW (.str "ann") (.str (sideW e.b)) (optP e.p) (.int e.A) .non (.int 0) (.str (stW e.p)) (.int e.W) = "" := by
  obtain ⟨b, p, A, W⟩ := e
  obtain ⟨g1, g2, g3⟩ := g
  dsimp only at g1 g2 g3 ⊢
  rw [dueW, if_neg (by decide +kernel), if_neg (by cases b <;> decide +kernel), if_neg (by
    cases p with
    | none => exact Bool.noConfusion
    | some i =>
      have z : optB (optP (some i)) 1 1000000000 = true := by simp [optB, optP, isN, wholeB, g1 i rfl]
      rw [z]; exact Bool.noConfusion), if_neg (by simp [wholeB, g2]), if_neg (by simp [optB, isN]), if_neg (by
    have z : wholeB (.int 0) 0 (intOf (.int A)) = true := by
      simp only [wholeB, Bool.and_eq_true, decide_eq_true_eq]
      exact ⟨by decide, by show 0 ≤ A; omega⟩
    rw [z]; exact Bool.noConfusion), if_neg (by
    cases p with
    | none => decide +kernel
    | some i => show ¬ stayB (.str (Str.ofString "stay")) = false; decide +kernel), if_neg (by
    cases p with
    | none => decide +kernel
    | some i =>
      have z : nowB (.str (stW (some i))) = false := by show nowB (.str (Str.ofString "stay")) = false; decide +kernel
      rw [z]; simp [optP, isN]), if_neg (by simp [optB, isN, wholeB, g3])]
def restM : Ss := match b26 with
  | .cons _ r => r
  | _ => .nil
theorem made_sp {e : Part} (g : PGood e) (q : ∀ g o, PLe h g → g o = some (.ins 11 (ordFs e)) → Q (.loc o) g) : sem sg (n + 5) 26 [tupP e] h Q X := by
  refine ⟨⟨1, 2, b26, []⟩, rfl, rfl, ?_⟩
  have dw := dueW_part g
  obtain ⟨b, p, A, W⟩ := e
  obtain ⟨g1, g2, g3⟩ := g
  dsimp only at g1 g2 g3 dw
  rw [b26]
  unfold tupP
  dsimp only
  have s0 : ∀ {R : QE} {g : PH}, subV (.tup [.str (sideW b), optP p, .int A, .int W]) (.int 0) g R = R (.str (sideW b)) g := by intro R g; rfl
  have s1 : ∀ {R : QE} {g : PH}, subV (.tup [.str (sideW b), optP p, .int A, .int W]) (.int 1) g R = R (optP p) g := by intro R g; rfl
  have s2 : ∀ {R : QE} {g : PH}, subV (.tup [.str (sideW b), optP p, .int A, .int W]) (.int 2) g R = R (.int A) g := by intro R g; rfl
  have s3 : ∀ {R : QE} {g : PH}, subV (.tup [.str (sideW b), optP p, .int A, .int W]) (.int 3) g R = R (.int W) g := by intro R g; rfl
  have fin : ∀ ss, ss = stW p → evSs sg (sem sg (n + 4)) restM [some (.tup [.str (sideW b), optP p, .int A, .int W]), some (.str ss)] h (retD Q X) := by
    intro ss e
    subst e
    rw [show restM = _ from rfl, restM, b26]
    (try dsimp only); (try simp only [evS, evE, evEs, evO, evB, evBs, evI, List.map_cons, List.map_nil, List.replicate_succ, List.replicate_zero, List.cons_append, List.nil_append, List.getElem?_cons_zero, List.getElem?_cons_succ, List.set_cons_zero, List.set_cons_succ, bv_add, bv_sub, bv_mul, bv_div, bv_mod, bv_pow, bv_str, av_add, av_sub, cv_lt, cv_le, cv_gt, cv_ge, cv_eq, cv_ne, cv_eqS, cv_neS, tv_bl, tv_int, List.length_cons, List.length_nil, pad, setT_nm, setT_tup, setTs_nil, setTs_cons, decide_eq_true_eq, Bool.not_eq_true', Bool.not_true, Bool.not_false, if_true, if_false, Bool.false_eq_true, Bool.true_eq_false, reduceIte, Nat.reduceAdd, Nat.reduceSub, Nat.reduceBEq, pow_10_9, pow_10_20, pow_10_30, cpow_10_9, cpow_10_20, cpow_10_30, divP_lit, mulP_r, mulP_l, lne_line, lt_line, isi_int, isi_bool, Int.reduceLT, Int.reduceLE, Int.reduceGT, Int.reduceGE, Int.reduceNeg, Int.reduceMul, Int.reduceAdd, Int.reduceSub, Nat.reduceLeDiff, Nat.reduceLT, true_and, and_true, decide_true, decide_false, sgf_pad_22_5, sgf_pad_22_6, sgf_pad_22_7, sgf_pad_22_8, sgf_pad_22_9, sgf_me_8_22, sgf_me_8_23, sgf_me_8_0, sgf_me_8_24, sgf_me_8_4, sgf_me_9_22, sgf_me_9_23, sgf_me_9_0, sgf_me_9_24, sgf_me_9_4, sgf_me_10_6, sgf_me_10_21, sgf_me_10_2, sgf_me_10_20, sgf_me_10_19, sgf_me_10_18, sgf_ini_10, sgf_ini_11, sgf_in0_8, sgf_in0_9, sgf_fl_10_1, sgf_fl_11_12, sgf_fl_11_3, sgf_fl_11_13, sgf_fl_11_14, sgf_fl_11_15, sgf_fl_11_16, sgf_fl_11_17, sgf_fl_11_5, sgf_exc_2, sgf_exc_6, sgf_exc_4, sgf_exc_5, sgf_exc_1, sgf_exc_3, sgf_exm_2_0, sgf_exm_6_0, sgf_exm_4_0, sgf_exm_5_0, sgf_exm_1_0, sgf_exm_3_0, sgf_isa_2_6, sgf_isa_6_6, sgf_isa_4_6, sgf_isa_5_6, sgf_isa_1_6, sgf_isa_3_6, sgf_isz_6, sgf_isv_2, sgf_isv_6, sgf_isv_4, sgf_isv_5, sgf_isv_1, sgf_isv_3, gl_MOST_LETTERS, gl_LETTERS, gl_MOST, gl_MOST_PARTS, gl_STAYS, wipeP, List.set_cons_zero, List.set_cons_succ, evSs_nil, List.lookup, Nat.reduceBEq, seq_str, seq_tup, seq_fl, Bool.true_and, Bool.and_true, Bool.false_and, Bool.and_false, beq_self_eq_true]); rw [evSs_cons]; simp only [evS, evE, evEs, evO, evB, evBs, evI, List.map_cons, List.map_nil, List.replicate_succ, List.replicate_zero, List.cons_append, List.nil_append, List.getElem?_cons_zero, List.getElem?_cons_succ, List.set_cons_zero, List.set_cons_succ, bv_add, bv_sub, bv_mul, bv_div, bv_mod, bv_pow, bv_str, av_add, av_sub, cv_lt, cv_le, cv_gt, cv_ge, cv_eq, cv_ne, cv_eqS, cv_neS, tv_bl, tv_int, List.length_cons, List.length_nil, pad, setT_nm, setT_tup, setTs_nil, setTs_cons, decide_eq_true_eq, Bool.not_eq_true', Bool.not_true, Bool.not_false, if_true, if_false, Bool.false_eq_true, Bool.true_eq_false, reduceIte, Nat.reduceAdd, Nat.reduceSub, Nat.reduceBEq, pow_10_9, pow_10_20, pow_10_30, cpow_10_9, cpow_10_20, cpow_10_30, divP_lit, mulP_r, mulP_l, lne_line, lt_line, isi_int, isi_bool, Int.reduceLT, Int.reduceLE, Int.reduceGT, Int.reduceGE, Int.reduceNeg, Int.reduceMul, Int.reduceAdd, Int.reduceSub, Nat.reduceLeDiff, Nat.reduceLT, true_and, and_true, decide_true, decide_false, sgf_pad_22_5, sgf_pad_22_6, sgf_pad_22_7, sgf_pad_22_8, sgf_pad_22_9, sgf_me_8_22, sgf_me_8_23, sgf_me_8_0, sgf_me_8_24, sgf_me_8_4, sgf_me_9_22, sgf_me_9_23, sgf_me_9_0, sgf_me_9_24, sgf_me_9_4, sgf_me_10_6, sgf_me_10_21, sgf_me_10_2, sgf_me_10_20, sgf_me_10_19, sgf_me_10_18, sgf_ini_10, sgf_ini_11, sgf_in0_8, sgf_in0_9, sgf_fl_10_1, sgf_fl_11_12, sgf_fl_11_3, sgf_fl_11_13, sgf_fl_11_14, sgf_fl_11_15, sgf_fl_11_16, sgf_fl_11_17, sgf_fl_11_5, sgf_exc_2, sgf_exc_6, sgf_exc_4, sgf_exc_5, sgf_exc_1, sgf_exc_3, sgf_exm_2_0, sgf_exm_6_0, sgf_exm_4_0, sgf_exm_5_0, sgf_exm_1_0, sgf_exm_3_0, sgf_isa_2_6, sgf_isa_6_6, sgf_isa_4_6, sgf_isa_5_6, sgf_isa_1_6, sgf_isa_3_6, sgf_isz_6, sgf_isv_2, sgf_isv_6, sgf_isv_4, sgf_isv_5, sgf_isv_1, sgf_isv_3, gl_MOST_LETTERS, gl_LETTERS, gl_MOST, gl_MOST_PARTS, gl_STAYS, wipeP, List.set_cons_zero, List.set_cons_succ, evSs_nil, List.lookup, Nat.reduceBEq, seq_str, seq_tup, seq_fl, Bool.true_and, Bool.and_true, Bool.false_and, Bool.and_false, beq_self_eq_true, s0, s1, s2, s3]
    intro o no
    have u := PLe.new (c := .ins 11 []) no
    refine init_sp (h := pup h o (.ins 11 [])) pup_same (ok_str (by decide +kernel)) (ok_str (by cases b <;> decide +kernel)) (by cases p with
      | none => exact ok_non
      | some i => have := g1 i rfl; exact ok_int (by omega) (by omega)) (ok_int (by omega) (by omega)) ok_non (ok_int (by decide) (by decide)) (ok_str (by
      cases p with
      | none => show (Str.ofString "now").length ≤ 1000; decide +kernel
      | some i => show (Str.ofString "stay").length ≤ 1000; decide +kernel)) (ok_int (by omega) (by omega)) (fun w k g r e2 l => ?_) (fun g _ l => ?_)
    · rw [dw] at e2
      cases r <;> exact absurd e2 (by decide +kernel)
    · refine ⟨rfl, ?_⟩
      refine ret_here (q _ o ?_ pup_same)
      intro x c hx
      have ne : x ≠ o := fun z => by subst z; rw [no] at hx; cases hx
      rw [pup_ne ne]
      exact l _ _ (u _ _ hx)
  (try dsimp only); (try simp only [evS, evE, evEs, evO, evB, evBs, evI, List.map_cons, List.map_nil, List.replicate_succ, List.replicate_zero, List.cons_append, List.nil_append, List.getElem?_cons_zero, List.getElem?_cons_succ, List.set_cons_zero, List.set_cons_succ, bv_add, bv_sub, bv_mul, bv_div, bv_mod, bv_pow, bv_str, av_add, av_sub, cv_lt, cv_le, cv_gt, cv_ge, cv_eq, cv_ne, cv_eqS, cv_neS, tv_bl, tv_int, List.length_cons, List.length_nil, pad, setT_nm, setT_tup, setTs_nil, setTs_cons, decide_eq_true_eq, Bool.not_eq_true', Bool.not_true, Bool.not_false, if_true, if_false, Bool.false_eq_true, Bool.true_eq_false, reduceIte, Nat.reduceAdd, Nat.reduceSub, Nat.reduceBEq, pow_10_9, pow_10_20, pow_10_30, cpow_10_9, cpow_10_20, cpow_10_30, divP_lit, mulP_r, mulP_l, lne_line, lt_line, isi_int, isi_bool, Int.reduceLT, Int.reduceLE, Int.reduceGT, Int.reduceGE, Int.reduceNeg, Int.reduceMul, Int.reduceAdd, Int.reduceSub, Nat.reduceLeDiff, Nat.reduceLT, true_and, and_true, decide_true, decide_false, sgf_pad_22_5, sgf_pad_22_6, sgf_pad_22_7, sgf_pad_22_8, sgf_pad_22_9, sgf_me_8_22, sgf_me_8_23, sgf_me_8_0, sgf_me_8_24, sgf_me_8_4, sgf_me_9_22, sgf_me_9_23, sgf_me_9_0, sgf_me_9_24, sgf_me_9_4, sgf_me_10_6, sgf_me_10_21, sgf_me_10_2, sgf_me_10_20, sgf_me_10_19, sgf_me_10_18, sgf_ini_10, sgf_ini_11, sgf_in0_8, sgf_in0_9, sgf_fl_10_1, sgf_fl_11_12, sgf_fl_11_3, sgf_fl_11_13, sgf_fl_11_14, sgf_fl_11_15, sgf_fl_11_16, sgf_fl_11_17, sgf_fl_11_5, sgf_exc_2, sgf_exc_6, sgf_exc_4, sgf_exc_5, sgf_exc_1, sgf_exc_3, sgf_exm_2_0, sgf_exm_6_0, sgf_exm_4_0, sgf_exm_5_0, sgf_exm_1_0, sgf_exm_3_0, sgf_isa_2_6, sgf_isa_6_6, sgf_isa_4_6, sgf_isa_5_6, sgf_isa_1_6, sgf_isa_3_6, sgf_isz_6, sgf_isv_2, sgf_isv_6, sgf_isv_4, sgf_isv_5, sgf_isv_1, sgf_isv_3, gl_MOST_LETTERS, gl_LETTERS, gl_MOST, gl_MOST_PARTS, gl_STAYS, wipeP, List.set_cons_zero, List.set_cons_succ, evSs_nil, List.lookup, Nat.reduceBEq, seq_str, seq_tup, seq_fl, Bool.true_and, Bool.and_true, Bool.false_and, Bool.and_false, beq_self_eq_true]); rw [evSs_cons]; simp only [evS, evE, evEs, evO, evB, evBs, evI, List.map_cons, List.map_nil, List.replicate_succ, List.replicate_zero, List.cons_append, List.nil_append, List.getElem?_cons_zero, List.getElem?_cons_succ, List.set_cons_zero, List.set_cons_succ, bv_add, bv_sub, bv_mul, bv_div, bv_mod, bv_pow, bv_str, av_add, av_sub, cv_lt, cv_le, cv_gt, cv_ge, cv_eq, cv_ne, cv_eqS, cv_neS, tv_bl, tv_int, List.length_cons, List.length_nil, pad, setT_nm, setT_tup, setTs_nil, setTs_cons, decide_eq_true_eq, Bool.not_eq_true', Bool.not_true, Bool.not_false, if_true, if_false, Bool.false_eq_true, Bool.true_eq_false, reduceIte, Nat.reduceAdd, Nat.reduceSub, Nat.reduceBEq, pow_10_9, pow_10_20, pow_10_30, cpow_10_9, cpow_10_20, cpow_10_30, divP_lit, mulP_r, mulP_l, lne_line, lt_line, isi_int, isi_bool, Int.reduceLT, Int.reduceLE, Int.reduceGT, Int.reduceGE, Int.reduceNeg, Int.reduceMul, Int.reduceAdd, Int.reduceSub, Nat.reduceLeDiff, Nat.reduceLT, true_and, and_true, decide_true, decide_false, sgf_pad_22_5, sgf_pad_22_6, sgf_pad_22_7, sgf_pad_22_8, sgf_pad_22_9, sgf_me_8_22, sgf_me_8_23, sgf_me_8_0, sgf_me_8_24, sgf_me_8_4, sgf_me_9_22, sgf_me_9_23, sgf_me_9_0, sgf_me_9_24, sgf_me_9_4, sgf_me_10_6, sgf_me_10_21, sgf_me_10_2, sgf_me_10_20, sgf_me_10_19, sgf_me_10_18, sgf_ini_10, sgf_ini_11, sgf_in0_8, sgf_in0_9, sgf_fl_10_1, sgf_fl_11_12, sgf_fl_11_3, sgf_fl_11_13, sgf_fl_11_14, sgf_fl_11_15, sgf_fl_11_16, sgf_fl_11_17, sgf_fl_11_5, sgf_exc_2, sgf_exc_6, sgf_exc_4, sgf_exc_5, sgf_exc_1, sgf_exc_3, sgf_exm_2_0, sgf_exm_6_0, sgf_exm_4_0, sgf_exm_5_0, sgf_exm_1_0, sgf_exm_3_0, sgf_isa_2_6, sgf_isa_6_6, sgf_isa_4_6, sgf_isa_5_6, sgf_isa_1_6, sgf_isa_3_6, sgf_isz_6, sgf_isv_2, sgf_isv_6, sgf_isv_4, sgf_isv_5, sgf_isv_1, sgf_isv_3, gl_MOST_LETTERS, gl_LETTERS, gl_MOST, gl_MOST_PARTS, gl_STAYS, wipeP, List.set_cons_zero, List.set_cons_succ, evSs_nil, List.lookup, Nat.reduceBEq, seq_str, seq_tup, seq_fl, Bool.true_and, Bool.and_true, Bool.false_and, Bool.and_false, beq_self_eq_true, s1, isn_V]
  cases p with
  | none => rw [if_pos (show isN (optP none) = true from rfl)]; exact fin _ rfl
  | some i => rw [if_neg (show ¬ isN (optP (some i)) = true from Bool.noConfusion)]; exact fin _ rfl
end
end LK

set_option autoImplicit false
namespace LK
open PySem L2 PySem.Spec Mir
open PyProof.Rows hiding St
section
variable {n : Nat} {h : PH} {Q : QE} {X : Mir.XE}
theorem put_sp {sl d : Addr} {L : List Ent} {k : Int} {o : Addr} {e : Part} (s : SlAt h sl d L) (hk : k ∉ L.map (·.1)) (hl : L.length < 64) (q : Q .non (pup h d (.dct false (dS (L ++ [(k, o, e)]))))) : sem sg (n + 1) 12 [.loc sl, .int k, .loc o] h Q X := by
  refine ⟨⟨3, 3, b12, []⟩, rfl, rfl, ?_⟩
  have hp : putP (dS L) (.inl k) (.loc o) = dS (L ++ [(k, o, e)]) := by
    rw [put_new]
    · simp [dS]
    · rw [show (dS L).map (·.1) = (L.map (·.1)).map fun k => (.inl k : Key) by rw [dS, List.map_map, List.map_map]; rfl]
      intro z
      obtain ⟨y, hy, e⟩ := List.mem_map.mp z
      cases e
      exact hk hy
  rw [b12, evSs_cons]
  simp only [evS, evE, evEs, evO, evB, evBs, evI, List.map_cons, List.map_nil, List.replicate_succ, List.replicate_zero, List.cons_append, List.nil_append, List.getElem?_cons_zero, List.getElem?_cons_succ, List.set_cons_zero, List.set_cons_succ, bv_add, bv_sub, bv_mul, bv_div, bv_mod, bv_pow, bv_str, av_add, av_sub, cv_lt, cv_le, cv_gt, cv_ge, cv_eq, cv_ne, cv_eqS, cv_neS, tv_bl, tv_int, List.length_cons, List.length_nil, pad, setT_nm, setT_tup, setTs_nil, setTs_cons, decide_eq_true_eq, Bool.not_eq_true', Bool.not_true, Bool.not_false, if_true, if_false, Bool.false_eq_true, Bool.true_eq_false, reduceIte, Nat.reduceAdd, Nat.reduceSub, Nat.reduceBEq, pow_10_9, pow_10_20, pow_10_30, cpow_10_9, cpow_10_20, cpow_10_30, divP_lit, mulP_r, mulP_l, lne_line, lt_line, isi_int, isi_bool, Int.reduceLT, Int.reduceLE, Int.reduceGT, Int.reduceGE, Int.reduceNeg, Int.reduceMul, Int.reduceAdd, Int.reduceSub, Nat.reduceLeDiff, Nat.reduceLT, true_and, and_true, decide_true, decide_false, sgf_pad_22_5, sgf_pad_22_6, sgf_pad_22_7, sgf_pad_22_8, sgf_pad_22_9, sgf_me_8_22, sgf_me_8_23, sgf_me_8_0, sgf_me_8_24, sgf_me_8_4, sgf_me_9_22, sgf_me_9_23, sgf_me_9_0, sgf_me_9_24, sgf_me_9_4, sgf_me_10_6, sgf_me_10_21, sgf_me_10_2, sgf_me_10_20, sgf_me_10_19, sgf_me_10_18, sgf_ini_10, sgf_ini_11, sgf_in0_8, sgf_in0_9, sgf_fl_10_1, sgf_fl_11_12, sgf_fl_11_3, sgf_fl_11_13, sgf_fl_11_14, sgf_fl_11_15, sgf_fl_11_16, sgf_fl_11_17, sgf_fl_11_5, sgf_exc_2, sgf_exc_6, sgf_exc_4, sgf_exc_5, sgf_exc_1, sgf_exc_3, sgf_exm_2_0, sgf_exm_6_0, sgf_exm_4_0, sgf_exm_5_0, sgf_exm_1_0, sgf_exm_3_0, sgf_isa_2_6, sgf_isa_6_6, sgf_isa_4_6, sgf_isa_5_6, sgf_isa_1_6, sgf_isa_3_6, sgf_isz_6, sgf_isv_2, sgf_isv_6, sgf_isv_4, sgf_isv_5, sgf_isv_1, sgf_isv_3, gl_MOST_LETTERS, gl_LETTERS, gl_MOST, gl_MOST_PARTS, gl_STAYS, wipeP, List.set_cons_zero, List.set_cons_succ, evSs_nil, List.lookup, Nat.reduceBEq, seq_str, seq_tup, seq_fl, Bool.true_and, Bool.and_true, Bool.false_and, Bool.and_false, beq_self_eq_true, s.1, setV, s.2.1, toKey, hp]
  refine ⟨?_, ret_here q⟩
  show (dS L).length < sizeLine
  rw [dS, List.length_map]
  exact small1000 (by omega)
theorem SlAt.put {sl d : Addr} {L : List Ent} {k : Int} {o : Addr} {e : Part} (s : SlAt h sl d L) (ho : h o = some (.ins 11 (ordFs e))) : SlAt (pup h d (.dct false (dS (L ++ [(k, o, e)])))) sl d (L ++ [(k, o, e)]) := by
  have nd : ∀ {a : Addr} {c : Nat} {fs : List (Nat × PV)}, h a = some (.ins c fs) → a ≠ d := fun e z => by subst z; rw [s.2.1] at e; cases e
  refine ⟨by rw [pup_ne (nd s.1)]; exact s.1, pup_same, fun x hx => ?_⟩
  rcases List.mem_append.mp hx with hx | hx
  · rw [pup_ne (nd (s.2.2 x hx))]; exact s.2.2 x hx
  · rw [List.mem_singleton.mp hx]
    show pup h d _ o = _
    rw [pup_ne (nd ho)]; exact ho
theorem drop_dS {L : List Ent} {f : Ent → PV} {k : Int} : dropP (L.map fun e => ((.inl e.1 : Key), f e)) (.inl k) = (L.filter fun e => decide (e.1 ≠ k)).map fun e => ((.inl e.1 : Key), f e) := by
  induction L with
  | nil => rfl
  | cons a L ih =>
    unfold dropP at ih ⊢
    rw [List.map_cons, List.filter_cons, List.filter_cons, ih]
    by_cases z : a.1 = k
    · simp [z]
    · have : ((.inl a.1 : Key) ≠ .inl k) := fun e => z (by cases e; rfl)
      simp [z, this]
def out (L : List Ent) (k : Int) : List Ent := L.filter fun e => decide (e.1 ≠ k)
theorem drop_sp {sl d : Addr} {L : List Ent} {e : Ent} (s : SlAt h sl d L) (nd : (L.map (·.1)).Nodup) (he : e ∈ L) (q : Q (.loc e.2.1) (pup h d (.dct false (dS (out L e.1))))) : sem sg (n + 2) 15 [.loc sl, .int e.1] h Q X := by
  refine ⟨⟨2, 2, b15, []⟩, rfl, rfl, ?_⟩
  have hv : valP (dS L) (.inl e.1) = some (.loc e.2.1) := val_ent (f := fun e => .loc e.2.1) nd he
  have hd : dropP (dS L) (.inl e.1) = dS (out L e.1) := drop_dS (f := fun e => .loc e.2.1)
  rw [b15, evSs_cons]
  simp only [evS, evE, evEs, evO, evB, evBs, evI, List.map_cons, List.map_nil, List.replicate_succ, List.replicate_zero, List.cons_append, List.nil_append, List.getElem?_cons_zero, List.getElem?_cons_succ, List.set_cons_zero, List.set_cons_succ, bv_add, bv_sub, bv_mul, bv_div, bv_mod, bv_pow, bv_str, av_add, av_sub, cv_lt, cv_le, cv_gt, cv_ge, cv_eq, cv_ne, cv_eqS, cv_neS, tv_bl, tv_int, List.length_cons, List.length_nil, pad, setT_nm, setT_tup, setTs_nil, setTs_cons, decide_eq_true_eq, Bool.not_eq_true', Bool.not_true, Bool.not_false, if_true, if_false, Bool.false_eq_true, Bool.true_eq_false, reduceIte, Nat.reduceAdd, Nat.reduceSub, Nat.reduceBEq, pow_10_9, pow_10_20, pow_10_30, cpow_10_9, cpow_10_20, cpow_10_30, divP_lit, mulP_r, mulP_l, lne_line, lt_line, isi_int, isi_bool, Int.reduceLT, Int.reduceLE, Int.reduceGT, Int.reduceGE, Int.reduceNeg, Int.reduceMul, Int.reduceAdd, Int.reduceSub, Nat.reduceLeDiff, Nat.reduceLT, true_and, and_true, decide_true, decide_false, sgf_pad_22_5, sgf_pad_22_6, sgf_pad_22_7, sgf_pad_22_8, sgf_pad_22_9, sgf_me_8_22, sgf_me_8_23, sgf_me_8_0, sgf_me_8_24, sgf_me_8_4, sgf_me_9_22, sgf_me_9_23, sgf_me_9_0, sgf_me_9_24, sgf_me_9_4, sgf_me_10_6, sgf_me_10_21, sgf_me_10_2, sgf_me_10_20, sgf_me_10_19, sgf_me_10_18, sgf_ini_10, sgf_ini_11, sgf_in0_8, sgf_in0_9, sgf_fl_10_1, sgf_fl_11_12, sgf_fl_11_3, sgf_fl_11_13, sgf_fl_11_14, sgf_fl_11_15, sgf_fl_11_16, sgf_fl_11_17, sgf_fl_11_5, sgf_exc_2, sgf_exc_6, sgf_exc_4, sgf_exc_5, sgf_exc_1, sgf_exc_3, sgf_exm_2_0, sgf_exm_6_0, sgf_exm_4_0, sgf_exm_5_0, sgf_exm_1_0, sgf_exm_3_0, sgf_isa_2_6, sgf_isa_6_6, sgf_isa_4_6, sgf_isa_5_6, sgf_isa_1_6, sgf_isa_3_6, sgf_isz_6, sgf_isv_2, sgf_isv_6, sgf_isv_4, sgf_isv_5, sgf_isv_1, sgf_isv_3, gl_MOST_LETTERS, gl_LETTERS, gl_MOST, gl_MOST_PARTS, gl_STAYS, wipeP, List.set_cons_zero, List.set_cons_succ, evSs_nil, List.lookup, Nat.reduceBEq, seq_str, seq_tup, seq_fl, Bool.true_and, Bool.and_true, Bool.false_and, Bool.and_false, beq_self_eq_true, s.1]
  refine need_yes s nd (List.mem_map_of_mem he) ?_
  (try simp only [evS, evE, evEs, evO, evB, evBs, evI, List.map_cons, List.map_nil, List.replicate_succ, List.replicate_zero, List.cons_append, List.nil_append, List.getElem?_cons_zero, List.getElem?_cons_succ, List.set_cons_zero, List.set_cons_succ, bv_add, bv_sub, bv_mul, bv_div, bv_mod, bv_pow, bv_str, av_add, av_sub, cv_lt, cv_le, cv_gt, cv_ge, cv_eq, cv_ne, cv_eqS, cv_neS, tv_bl, tv_int, List.length_cons, List.length_nil, pad, setT_nm, setT_tup, setTs_nil, setTs_cons, decide_eq_true_eq, Bool.not_eq_true', Bool.not_true, Bool.not_false, if_true, if_false, Bool.false_eq_true, Bool.true_eq_false, reduceIte, Nat.reduceAdd, Nat.reduceSub, Nat.reduceBEq, pow_10_9, pow_10_20, pow_10_30, cpow_10_9, cpow_10_20, cpow_10_30, divP_lit, mulP_r, mulP_l, lne_line, lt_line, isi_int, isi_bool, Int.reduceLT, Int.reduceLE, Int.reduceGT, Int.reduceGE, Int.reduceNeg, Int.reduceMul, Int.reduceAdd, Int.reduceSub, Nat.reduceLeDiff, Nat.reduceLT, true_and, and_true, decide_true, decide_false, sgf_pad_22_5, sgf_pad_22_6, sgf_pad_22_7, sgf_pad_22_8, sgf_pad_22_9, sgf_me_8_22, sgf_me_8_23, sgf_me_8_0, sgf_me_8_24, sgf_me_8_4, sgf_me_9_22, sgf_me_9_23, sgf_me_9_0, sgf_me_9_24, sgf_me_9_4, sgf_me_10_6, sgf_me_10_21, sgf_me_10_2, sgf_me_10_20, sgf_me_10_19, sgf_me_10_18, sgf_ini_10, sgf_ini_11, sgf_in0_8, sgf_in0_9, sgf_fl_10_1, sgf_fl_11_12, sgf_fl_11_3, sgf_fl_11_13, sgf_fl_11_14, sgf_fl_11_15, sgf_fl_11_16, sgf_fl_11_17, sgf_fl_11_5, sgf_exc_2, sgf_exc_6, sgf_exc_4, sgf_exc_5, sgf_exc_1, sgf_exc_3, sgf_exm_2_0, sgf_exm_6_0, sgf_exm_4_0, sgf_exm_5_0, sgf_exm_1_0, sgf_exm_3_0, sgf_isa_2_6, sgf_isa_6_6, sgf_isa_4_6, sgf_isa_5_6, sgf_isa_1_6, sgf_isa_3_6, sgf_isz_6, sgf_isv_2, sgf_isv_6, sgf_isv_4, sgf_isv_5, sgf_isv_1, sgf_isv_3, gl_MOST_LETTERS, gl_LETTERS, gl_MOST, gl_MOST_PARTS, gl_STAYS, wipeP, List.set_cons_zero, List.set_cons_succ, evSs_nil, List.lookup, Nat.reduceBEq, seq_str, seq_tup, seq_fl, Bool.true_and, Bool.and_true, Bool.false_and, Bool.and_false, beq_self_eq_true])
  rw [evSs_cons]
  simp only [evS, evE, evEs, evO, evB, evBs, evI, List.map_cons, List.map_nil, List.replicate_succ, List.replicate_zero, List.cons_append, List.nil_append, List.getElem?_cons_zero, List.getElem?_cons_succ, List.set_cons_zero, List.set_cons_succ, bv_add, bv_sub, bv_mul, bv_div, bv_mod, bv_pow, bv_str, av_add, av_sub, cv_lt, cv_le, cv_gt, cv_ge, cv_eq, cv_ne, cv_eqS, cv_neS, tv_bl, tv_int, List.length_cons, List.length_nil, pad, setT_nm, setT_tup, setTs_nil, setTs_cons, decide_eq_true_eq, Bool.not_eq_true', Bool.not_true, Bool.not_false, if_true, if_false, Bool.false_eq_true, Bool.true_eq_false, reduceIte, Nat.reduceAdd, Nat.reduceSub, Nat.reduceBEq, pow_10_9, pow_10_20, pow_10_30, cpow_10_9, cpow_10_20, cpow_10_30, divP_lit, mulP_r, mulP_l, lne_line, lt_line, isi_int, isi_bool, Int.reduceLT, Int.reduceLE, Int.reduceGT, Int.reduceGE, Int.reduceNeg, Int.reduceMul, Int.reduceAdd, Int.reduceSub, Nat.reduceLeDiff, Nat.reduceLT, true_and, and_true, decide_true, decide_false, sgf_pad_22_5, sgf_pad_22_6, sgf_pad_22_7, sgf_pad_22_8, sgf_pad_22_9, sgf_me_8_22, sgf_me_8_23, sgf_me_8_0, sgf_me_8_24, sgf_me_8_4, sgf_me_9_22, sgf_me_9_23, sgf_me_9_0, sgf_me_9_24, sgf_me_9_4, sgf_me_10_6, sgf_me_10_21, sgf_me_10_2, sgf_me_10_20, sgf_me_10_19, sgf_me_10_18, sgf_ini_10, sgf_ini_11, sgf_in0_8, sgf_in0_9, sgf_fl_10_1, sgf_fl_11_12, sgf_fl_11_3, sgf_fl_11_13, sgf_fl_11_14, sgf_fl_11_15, sgf_fl_11_16, sgf_fl_11_17, sgf_fl_11_5, sgf_exc_2, sgf_exc_6, sgf_exc_4, sgf_exc_5, sgf_exc_1, sgf_exc_3, sgf_exm_2_0, sgf_exm_6_0, sgf_exm_4_0, sgf_exm_5_0, sgf_exm_1_0, sgf_exm_3_0, sgf_isa_2_6, sgf_isa_6_6, sgf_isa_4_6, sgf_isa_5_6, sgf_isa_1_6, sgf_isa_3_6, sgf_isz_6, sgf_isv_2, sgf_isv_6, sgf_isv_4, sgf_isv_5, sgf_isv_1, sgf_isv_3, gl_MOST_LETTERS, gl_LETTERS, gl_MOST, gl_MOST_PARTS, gl_STAYS, wipeP, List.set_cons_zero, List.set_cons_succ, evSs_nil, List.lookup, Nat.reduceBEq, seq_str, seq_tup, seq_fl, Bool.true_and, Bool.and_true, Bool.false_and, Bool.and_false, beq_self_eq_true, s.1, bmT, tyP, bmV, s.2.1, toKey, hv, hd]
  exact ret_here q
theorem SlAt.out {sl d : Addr} {L : List Ent} {k : Int} (s : SlAt h sl d L) : SlAt (pup h d (.dct false (dS (out L k)))) sl d (LK.out L k) := by
  have nd : ∀ {a : Addr} {c : Nat} {fs : List (Nat × PV)}, h a = some (.ins c fs) → a ≠ d := fun e z => by subst z; rw [s.2.1] at e; cases e
  refine ⟨by rw [pup_ne (nd s.1)]; exact s.1, pup_same, fun x hx => ?_⟩
  have hx := (List.mem_filter.mp hx).1
  rw [pup_ne (nd (s.2.2 x hx))]; exact s.2.2 x hx
/-- what is no key -/
def NoK (x : PV) (h : PH) (L : List Ent) : Prop := match x with
  | .int k => k ∉ L.map (·.1)
  | .fl _ => False
  | .loc a => ∃ xs, h a = some (.lst xs)
  | _ => True
theorem need_no {sl d : Addr} {L : List Ent} {x : PV} (s : SlAt h sl d L) (hx : NoK x h L) (q : X 6 h) : sem sg (n + 1) 11 [.loc sl, x] h Q X := by
  refine ⟨⟨2, 2, b11, []⟩, rfl, rfl, ?_⟩
  rw [b11, evSs_cons]
  cases x with
  | fl _ => exact hx.elim
  | int k =>
    have hv : valP (dS L) (.inl k) = none := val_out (f := fun e => .loc e.2.1) hx
    simp only [evS, evE, evEs, evO, evB, evBs, evI, List.map_cons, List.map_nil, List.replicate_succ, List.replicate_zero, List.cons_append, List.nil_append, List.getElem?_cons_zero, List.getElem?_cons_succ, List.set_cons_zero, List.set_cons_succ, bv_add, bv_sub, bv_mul, bv_div, bv_mod, bv_pow, bv_str, av_add, av_sub, cv_lt, cv_le, cv_gt, cv_ge, cv_eq, cv_ne, cv_eqS, cv_neS, tv_bl, tv_int, List.length_cons, List.length_nil, pad, setT_nm, setT_tup, setTs_nil, setTs_cons, decide_eq_true_eq, Bool.not_eq_true', Bool.not_true, Bool.not_false, if_true, if_false, Bool.false_eq_true, Bool.true_eq_false, reduceIte, Nat.reduceAdd, Nat.reduceSub, Nat.reduceBEq, pow_10_9, pow_10_20, pow_10_30, cpow_10_9, cpow_10_20, cpow_10_30, divP_lit, mulP_r, mulP_l, lne_line, lt_line, isi_int, isi_bool, Int.reduceLT, Int.reduceLE, Int.reduceGT, Int.reduceGE, Int.reduceNeg, Int.reduceMul, Int.reduceAdd, Int.reduceSub, Nat.reduceLeDiff, Nat.reduceLT, true_and, and_true, decide_true, decide_false, sgf_pad_22_5, sgf_pad_22_6, sgf_pad_22_7, sgf_pad_22_8, sgf_pad_22_9, sgf_me_8_22, sgf_me_8_23, sgf_me_8_0, sgf_me_8_24, sgf_me_8_4, sgf_me_9_22, sgf_me_9_23, sgf_me_9_0, sgf_me_9_24, sgf_me_9_4, sgf_me_10_6, sgf_me_10_21, sgf_me_10_2, sgf_me_10_20, sgf_me_10_19, sgf_me_10_18, sgf_ini_10, sgf_ini_11, sgf_in0_8, sgf_in0_9, sgf_fl_10_1, sgf_fl_11_12, sgf_fl_11_3, sgf_fl_11_13, sgf_fl_11_14, sgf_fl_11_15, sgf_fl_11_16, sgf_fl_11_17, sgf_fl_11_5, sgf_exc_2, sgf_exc_6, sgf_exc_4, sgf_exc_5, sgf_exc_1, sgf_exc_3, sgf_exm_2_0, sgf_exm_6_0, sgf_exm_4_0, sgf_exm_5_0, sgf_exm_1_0, sgf_exm_3_0, sgf_isa_2_6, sgf_isa_6_6, sgf_isa_4_6, sgf_isa_5_6, sgf_isa_1_6, sgf_isa_3_6, sgf_isz_6, sgf_isv_2, sgf_isv_6, sgf_isv_4, sgf_isv_5, sgf_isv_1, sgf_isv_3, gl_MOST_LETTERS, gl_LETTERS, gl_MOST, gl_MOST_PARTS, gl_STAYS, wipeP, List.set_cons_zero, List.set_cons_succ, evSs_nil, List.lookup, Nat.reduceBEq, seq_str, seq_tup, seq_fl, Bool.true_and, Bool.and_true, Bool.false_and, Bool.and_false, beq_self_eq_true, isiV, s.1, cmpV, inK, s.2.1, toKey, hv, Option.isSome_none]
    exact ⟨rfl, ret_here q⟩
  | loc a =>
    obtain ⟨xs, e⟩ := hx
    simp only [evS, evE, evEs, evO, evB, evBs, evI, List.map_cons, List.map_nil, List.replicate_succ, List.replicate_zero, List.cons_append, List.nil_append, List.getElem?_cons_zero, List.getElem?_cons_succ, List.set_cons_zero, List.set_cons_succ, bv_add, bv_sub, bv_mul, bv_div, bv_mod, bv_pow, bv_str, av_add, av_sub, cv_lt, cv_le, cv_gt, cv_ge, cv_eq, cv_ne, cv_eqS, cv_neS, tv_bl, tv_int, List.length_cons, List.length_nil, pad, setT_nm, setT_tup, setTs_nil, setTs_cons, decide_eq_true_eq, Bool.not_eq_true', Bool.not_true, Bool.not_false, if_true, if_false, Bool.false_eq_true, Bool.true_eq_false, reduceIte, Nat.reduceAdd, Nat.reduceSub, Nat.reduceBEq, pow_10_9, pow_10_20, pow_10_30, cpow_10_9, cpow_10_20, cpow_10_30, divP_lit, mulP_r, mulP_l, lne_line, lt_line, isi_int, isi_bool, Int.reduceLT, Int.reduceLE, Int.reduceGT, Int.reduceGE, Int.reduceNeg, Int.reduceMul, Int.reduceAdd, Int.reduceSub, Nat.reduceLeDiff, Nat.reduceLT, true_and, and_true, decide_true, decide_false, sgf_pad_22_5, sgf_pad_22_6, sgf_pad_22_7, sgf_pad_22_8, sgf_pad_22_9, sgf_me_8_22, sgf_me_8_23, sgf_me_8_0, sgf_me_8_24, sgf_me_8_4, sgf_me_9_22, sgf_me_9_23, sgf_me_9_0, sgf_me_9_24, sgf_me_9_4, sgf_me_10_6, sgf_me_10_21, sgf_me_10_2, sgf_me_10_20, sgf_me_10_19, sgf_me_10_18, sgf_ini_10, sgf_ini_11, sgf_in0_8, sgf_in0_9, sgf_fl_10_1, sgf_fl_11_12, sgf_fl_11_3, sgf_fl_11_13, sgf_fl_11_14, sgf_fl_11_15, sgf_fl_11_16, sgf_fl_11_17, sgf_fl_11_5, sgf_exc_2, sgf_exc_6, sgf_exc_4, sgf_exc_5, sgf_exc_1, sgf_exc_3, sgf_exm_2_0, sgf_exm_6_0, sgf_exm_4_0, sgf_exm_5_0, sgf_exm_1_0, sgf_exm_3_0, sgf_isa_2_6, sgf_isa_6_6, sgf_isa_4_6, sgf_isa_5_6, sgf_isa_1_6, sgf_isa_3_6, sgf_isz_6, sgf_isv_2, sgf_isv_6, sgf_isv_4, sgf_isv_5, sgf_isv_1, sgf_isv_3, gl_MOST_LETTERS, gl_LETTERS, gl_MOST, gl_MOST_PARTS, gl_STAYS, wipeP, List.set_cons_zero, List.set_cons_succ, evSs_nil, List.lookup, Nat.reduceBEq, seq_str, seq_tup, seq_fl, Bool.true_and, Bool.and_true, Bool.false_and, Bool.and_false, beq_self_eq_true, isiV, e]
    exact ⟨rfl, ret_here q⟩
  | _ =>
    simp only [evS, evE, evEs, evO, evB, evBs, evI, List.map_cons, List.map_nil, List.replicate_succ, List.replicate_zero, List.cons_append, List.nil_append, List.getElem?_cons_zero, List.getElem?_cons_succ, List.set_cons_zero, List.set_cons_succ, bv_add, bv_sub, bv_mul, bv_div, bv_mod, bv_pow, bv_str, av_add, av_sub, cv_lt, cv_le, cv_gt, cv_ge, cv_eq, cv_ne, cv_eqS, cv_neS, tv_bl, tv_int, List.length_cons, List.length_nil, pad, setT_nm, setT_tup, setTs_nil, setTs_cons, decide_eq_true_eq, Bool.not_eq_true', Bool.not_true, Bool.not_false, if_true, if_false, Bool.false_eq_true, Bool.true_eq_false, reduceIte, Nat.reduceAdd, Nat.reduceSub, Nat.reduceBEq, pow_10_9, pow_10_20, pow_10_30, cpow_10_9, cpow_10_20, cpow_10_30, divP_lit, mulP_r, mulP_l, lne_line, lt_line, isi_int, isi_bool, Int.reduceLT, Int.reduceLE, Int.reduceGT, Int.reduceGE, Int.reduceNeg, Int.reduceMul, Int.reduceAdd, Int.reduceSub, Nat.reduceLeDiff, Nat.reduceLT, true_and, and_true, decide_true, decide_false, sgf_pad_22_5, sgf_pad_22_6, sgf_pad_22_7, sgf_pad_22_8, sgf_pad_22_9, sgf_me_8_22, sgf_me_8_23, sgf_me_8_0, sgf_me_8_24, sgf_me_8_4, sgf_me_9_22, sgf_me_9_23, sgf_me_9_0, sgf_me_9_24, sgf_me_9_4, sgf_me_10_6, sgf_me_10_21, sgf_me_10_2, sgf_me_10_20, sgf_me_10_19, sgf_me_10_18, sgf_ini_10, sgf_ini_11, sgf_in0_8, sgf_in0_9, sgf_fl_10_1, sgf_fl_11_12, sgf_fl_11_3, sgf_fl_11_13, sgf_fl_11_14, sgf_fl_11_15, sgf_fl_11_16, sgf_fl_11_17, sgf_fl_11_5, sgf_exc_2, sgf_exc_6, sgf_exc_4, sgf_exc_5, sgf_exc_1, sgf_exc_3, sgf_exm_2_0, sgf_exm_6_0, sgf_exm_4_0, sgf_exm_5_0, sgf_exm_1_0, sgf_exm_3_0, sgf_isa_2_6, sgf_isa_6_6, sgf_isa_4_6, sgf_isa_5_6, sgf_isa_1_6, sgf_isa_3_6, sgf_isz_6, sgf_isv_2, sgf_isv_6, sgf_isv_4, sgf_isv_5, sgf_isv_1, sgf_isv_3, gl_MOST_LETTERS, gl_LETTERS, gl_MOST, gl_MOST_PARTS, gl_STAYS, wipeP, List.set_cons_zero, List.set_cons_succ, evSs_nil, List.lookup, Nat.reduceBEq, seq_str, seq_tup, seq_fl, Bool.true_and, Bool.and_true, Bool.false_and, Bool.and_false, beq_self_eq_true, isiV]
    exact ⟨rfl, ret_here q⟩
theorem caught_sp {sl d : Addr} {L : List Ent} {x : PV} {w : Nat} (hw : w < 2) (s : SlAt h sl d L) (hx : NoK x h L) (q : ∀ e, h e = none → Q (.loc e) (pup h e (.exc 6))) : sem sg (n + 3) 28 [.loc sl, x, .int w] h Q X := by
  refine ⟨⟨3, 5, b28, []⟩, rfl, rfl, ?_⟩
  rw [b28]
  (try dsimp only); (try simp only [evS, evE, evEs, evO, evB, evBs, evI, List.map_cons, List.map_nil, List.replicate_succ, List.replicate_zero, List.cons_append, List.nil_append, List.getElem?_cons_zero, List.getElem?_cons_succ, List.set_cons_zero, List.set_cons_succ, bv_add, bv_sub, bv_mul, bv_div, bv_mod, bv_pow, bv_str, av_add, av_sub, cv_lt, cv_le, cv_gt, cv_ge, cv_eq, cv_ne, cv_eqS, cv_neS, tv_bl, tv_int, List.length_cons, List.length_nil, pad, setT_nm, setT_tup, setTs_nil, setTs_cons, decide_eq_true_eq, Bool.not_eq_true', Bool.not_true, Bool.not_false, if_true, if_false, Bool.false_eq_true, Bool.true_eq_false, reduceIte, Nat.reduceAdd, Nat.reduceSub, Nat.reduceBEq, pow_10_9, pow_10_20, pow_10_30, cpow_10_9, cpow_10_20, cpow_10_30, divP_lit, mulP_r, mulP_l, lne_line, lt_line, isi_int, isi_bool, Int.reduceLT, Int.reduceLE, Int.reduceGT, Int.reduceGE, Int.reduceNeg, Int.reduceMul, Int.reduceAdd, Int.reduceSub, Nat.reduceLeDiff, Nat.reduceLT, true_and, and_true, decide_true, decide_false, sgf_pad_22_5, sgf_pad_22_6, sgf_pad_22_7, sgf_pad_22_8, sgf_pad_22_9, sgf_me_8_22, sgf_me_8_23, sgf_me_8_0, sgf_me_8_24, sgf_me_8_4, sgf_me_9_22, sgf_me_9_23, sgf_me_9_0, sgf_me_9_24, sgf_me_9_4, sgf_me_10_6, sgf_me_10_21, sgf_me_10_2, sgf_me_10_20, sgf_me_10_19, sgf_me_10_18, sgf_ini_10, sgf_ini_11, sgf_in0_8, sgf_in0_9, sgf_fl_10_1, sgf_fl_11_12, sgf_fl_11_3, sgf_fl_11_13, sgf_fl_11_14, sgf_fl_11_15, sgf_fl_11_16, sgf_fl_11_17, sgf_fl_11_5, sgf_exc_2, sgf_exc_6, sgf_exc_4, sgf_exc_5, sgf_exc_1, sgf_exc_3, sgf_exm_2_0, sgf_exm_6_0, sgf_exm_4_0, sgf_exm_5_0, sgf_exm_1_0, sgf_exm_3_0, sgf_isa_2_6, sgf_isa_6_6, sgf_isa_4_6, sgf_isa_5_6, sgf_isa_1_6, sgf_isa_3_6, sgf_isz_6, sgf_isv_2, sgf_isv_6, sgf_isv_4, sgf_isv_5, sgf_isv_1, sgf_isv_3, gl_MOST_LETTERS, gl_LETTERS, gl_MOST, gl_MOST_PARTS, gl_STAYS, wipeP, List.set_cons_zero, List.set_cons_succ, evSs_nil, List.lookup, Nat.reduceBEq, seq_str, seq_tup, seq_fl, Bool.true_and, Bool.and_true, Bool.false_and, Bool.and_false, beq_self_eq_true]); rw [evSs_cons]; simp only [evS, evE, evEs, evO, evB, evBs, evI, List.map_cons, List.map_nil, List.replicate_succ, List.replicate_zero, List.cons_append, List.nil_append, List.getElem?_cons_zero, List.getElem?_cons_succ, List.set_cons_zero, List.set_cons_succ, bv_add, bv_sub, bv_mul, bv_div, bv_mod, bv_pow, bv_str, av_add, av_sub, cv_lt, cv_le, cv_gt, cv_ge, cv_eq, cv_ne, cv_eqS, cv_neS, tv_bl, tv_int, List.length_cons, List.length_nil, pad, setT_nm, setT_tup, setTs_nil, setTs_cons, decide_eq_true_eq, Bool.not_eq_true', Bool.not_true, Bool.not_false, if_true, if_false, Bool.false_eq_true, Bool.true_eq_false, reduceIte, Nat.reduceAdd, Nat.reduceSub, Nat.reduceBEq, pow_10_9, pow_10_20, pow_10_30, cpow_10_9, cpow_10_20, cpow_10_30, divP_lit, mulP_r, mulP_l, lne_line, lt_line, isi_int, isi_bool, Int.reduceLT, Int.reduceLE, Int.reduceGT, Int.reduceGE, Int.reduceNeg, Int.reduceMul, Int.reduceAdd, Int.reduceSub, Nat.reduceLeDiff, Nat.reduceLT, true_and, and_true, decide_true, decide_false, sgf_pad_22_5, sgf_pad_22_6, sgf_pad_22_7, sgf_pad_22_8, sgf_pad_22_9, sgf_me_8_22, sgf_me_8_23, sgf_me_8_0, sgf_me_8_24, sgf_me_8_4, sgf_me_9_22, sgf_me_9_23, sgf_me_9_0, sgf_me_9_24, sgf_me_9_4, sgf_me_10_6, sgf_me_10_21, sgf_me_10_2, sgf_me_10_20, sgf_me_10_19, sgf_me_10_18, sgf_ini_10, sgf_ini_11, sgf_in0_8, sgf_in0_9, sgf_fl_10_1, sgf_fl_11_12, sgf_fl_11_3, sgf_fl_11_13, sgf_fl_11_14, sgf_fl_11_15, sgf_fl_11_16, sgf_fl_11_17, sgf_fl_11_5, sgf_exc_2, sgf_exc_6, sgf_exc_4, sgf_exc_5, sgf_exc_1, sgf_exc_3, sgf_exm_2_0, sgf_exm_6_0, sgf_exm_4_0, sgf_exm_5_0, sgf_exm_1_0, sgf_exm_3_0, sgf_isa_2_6, sgf_isa_6_6, sgf_isa_4_6, sgf_isa_5_6, sgf_isa_1_6, sgf_isa_3_6, sgf_isz_6, sgf_isv_2, sgf_isv_6, sgf_isv_4, sgf_isv_5, sgf_isv_1, sgf_isv_3, gl_MOST_LETTERS, gl_LETTERS, gl_MOST, gl_MOST_PARTS, gl_STAYS, wipeP, List.set_cons_zero, List.set_cons_succ, evSs_nil, List.lookup, Nat.reduceBEq, seq_str, seq_tup, seq_fl, Bool.true_and, Bool.and_true, Bool.false_and, Bool.and_false, beq_self_eq_true]
  rw [evSs_cons]
  simp only [evS, evE, evEs, evO, evB, evBs, evI, List.map_cons, List.map_nil, List.replicate_succ, List.replicate_zero, List.cons_append, List.nil_append, List.getElem?_cons_zero, List.getElem?_cons_succ, List.set_cons_zero, List.set_cons_succ, bv_add, bv_sub, bv_mul, bv_div, bv_mod, bv_pow, bv_str, av_add, av_sub, cv_lt, cv_le, cv_gt, cv_ge, cv_eq, cv_ne, cv_eqS, cv_neS, tv_bl, tv_int, List.length_cons, List.length_nil, pad, setT_nm, setT_tup, setTs_nil, setTs_cons, decide_eq_true_eq, Bool.not_eq_true', Bool.not_true, Bool.not_false, if_true, if_false, Bool.false_eq_true, Bool.true_eq_false, reduceIte, Nat.reduceAdd, Nat.reduceSub, Nat.reduceBEq, pow_10_9, pow_10_20, pow_10_30, cpow_10_9, cpow_10_20, cpow_10_30, divP_lit, mulP_r, mulP_l, lne_line, lt_line, isi_int, isi_bool, Int.reduceLT, Int.reduceLE, Int.reduceGT, Int.reduceGE, Int.reduceNeg, Int.reduceMul, Int.reduceAdd, Int.reduceSub, Nat.reduceLeDiff, Nat.reduceLT, true_and, and_true, decide_true, decide_false, sgf_pad_22_5, sgf_pad_22_6, sgf_pad_22_7, sgf_pad_22_8, sgf_pad_22_9, sgf_me_8_22, sgf_me_8_23, sgf_me_8_0, sgf_me_8_24, sgf_me_8_4, sgf_me_9_22, sgf_me_9_23, sgf_me_9_0, sgf_me_9_24, sgf_me_9_4, sgf_me_10_6, sgf_me_10_21, sgf_me_10_2, sgf_me_10_20, sgf_me_10_19, sgf_me_10_18, sgf_ini_10, sgf_ini_11, sgf_in0_8, sgf_in0_9, sgf_fl_10_1, sgf_fl_11_12, sgf_fl_11_3, sgf_fl_11_13, sgf_fl_11_14, sgf_fl_11_15, sgf_fl_11_16, sgf_fl_11_17, sgf_fl_11_5, sgf_exc_2, sgf_exc_6, sgf_exc_4, sgf_exc_5, sgf_exc_1, sgf_exc_3, sgf_exm_2_0, sgf_exm_6_0, sgf_exm_4_0, sgf_exm_5_0, sgf_exm_1_0, sgf_exm_3_0, sgf_isa_2_6, sgf_isa_6_6, sgf_isa_4_6, sgf_isa_5_6, sgf_isa_1_6, sgf_isa_3_6, sgf_isz_6, sgf_isv_2, sgf_isv_6, sgf_isv_4, sgf_isv_5, sgf_isv_1, sgf_isv_3, gl_MOST_LETTERS, gl_LETTERS, gl_MOST, gl_MOST_PARTS, gl_STAYS, wipeP, List.set_cons_zero, List.set_cons_succ, evSs_nil, List.lookup, Nat.reduceBEq, seq_str, seq_tup, seq_fl, Bool.true_and, Bool.and_true, Bool.false_and, Bool.and_false, beq_self_eq_true]
  rw [evSs_cons]
  rcases (show w = 0 ∨ w = 1 by omega) with rfl | rfl
  · simp only [evS, evE, evEs, evO, evB, evBs, evI, List.map_cons, List.map_nil, List.replicate_succ, List.replicate_zero, List.cons_append, List.nil_append, List.getElem?_cons_zero, List.getElem?_cons_succ, List.set_cons_zero, List.set_cons_succ, bv_add, bv_sub, bv_mul, bv_div, bv_mod, bv_pow, bv_str, av_add, av_sub, cv_lt, cv_le, cv_gt, cv_ge, cv_eq, cv_ne, cv_eqS, cv_neS, tv_bl, tv_int, List.length_cons, List.length_nil, pad, setT_nm, setT_tup, setTs_nil, setTs_cons, decide_eq_true_eq, Bool.not_eq_true', Bool.not_true, Bool.not_false, if_true, if_false, Bool.false_eq_true, Bool.true_eq_false, reduceIte, Nat.reduceAdd, Nat.reduceSub, Nat.reduceBEq, pow_10_9, pow_10_20, pow_10_30, cpow_10_9, cpow_10_20, cpow_10_30, divP_lit, mulP_r, mulP_l, lne_line, lt_line, isi_int, isi_bool, Int.reduceLT, Int.reduceLE, Int.reduceGT, Int.reduceGE, Int.reduceNeg, Int.reduceMul, Int.reduceAdd, Int.reduceSub, Nat.reduceLeDiff, Nat.reduceLT, true_and, and_true, decide_true, decide_false, sgf_pad_22_5, sgf_pad_22_6, sgf_pad_22_7, sgf_pad_22_8, sgf_pad_22_9, sgf_me_8_22, sgf_me_8_23, sgf_me_8_0, sgf_me_8_24, sgf_me_8_4, sgf_me_9_22, sgf_me_9_23, sgf_me_9_0, sgf_me_9_24, sgf_me_9_4, sgf_me_10_6, sgf_me_10_21, sgf_me_10_2, sgf_me_10_20, sgf_me_10_19, sgf_me_10_18, sgf_ini_10, sgf_ini_11, sgf_in0_8, sgf_in0_9, sgf_fl_10_1, sgf_fl_11_12, sgf_fl_11_3, sgf_fl_11_13, sgf_fl_11_14, sgf_fl_11_15, sgf_fl_11_16, sgf_fl_11_17, sgf_fl_11_5, sgf_exc_2, sgf_exc_6, sgf_exc_4, sgf_exc_5, sgf_exc_1, sgf_exc_3, sgf_exm_2_0, sgf_exm_6_0, sgf_exm_4_0, sgf_exm_5_0, sgf_exm_1_0, sgf_exm_3_0, sgf_isa_2_6, sgf_isa_6_6, sgf_isa_4_6, sgf_isa_5_6, sgf_isa_1_6, sgf_isa_3_6, sgf_isz_6, sgf_isv_2, sgf_isv_6, sgf_isv_4, sgf_isv_5, sgf_isv_1, sgf_isv_3, gl_MOST_LETTERS, gl_LETTERS, gl_MOST, gl_MOST_PARTS, gl_STAYS, wipeP, List.set_cons_zero, List.set_cons_succ, evSs_nil, List.lookup, Nat.reduceBEq, seq_str, seq_tup, seq_fl, Bool.true_and, Bool.and_true, Bool.false_and, Bool.and_false, beq_self_eq_true, s.1, List.lookup_nil]
    rw [evSs_cons]
    simp only [evS, evE, evEs, evO, evB, evBs, evI, List.map_cons, List.map_nil, List.replicate_succ, List.replicate_zero, List.cons_append, List.nil_append, List.getElem?_cons_zero, List.getElem?_cons_succ, List.set_cons_zero, List.set_cons_succ, bv_add, bv_sub, bv_mul, bv_div, bv_mod, bv_pow, bv_str, av_add, av_sub, cv_lt, cv_le, cv_gt, cv_ge, cv_eq, cv_ne, cv_eqS, cv_neS, tv_bl, tv_int, List.length_cons, List.length_nil, pad, setT_nm, setT_tup, setTs_nil, setTs_cons, decide_eq_true_eq, Bool.not_eq_true', Bool.not_true, Bool.not_false, if_true, if_false, Bool.false_eq_true, Bool.true_eq_false, reduceIte, Nat.reduceAdd, Nat.reduceSub, Nat.reduceBEq, pow_10_9, pow_10_20, pow_10_30, cpow_10_9, cpow_10_20, cpow_10_30, divP_lit, mulP_r, mulP_l, lne_line, lt_line, isi_int, isi_bool, Int.reduceLT, Int.reduceLE, Int.reduceGT, Int.reduceGE, Int.reduceNeg, Int.reduceMul, Int.reduceAdd, Int.reduceSub, Nat.reduceLeDiff, Nat.reduceLT, true_and, and_true, decide_true, decide_false, sgf_pad_22_5, sgf_pad_22_6, sgf_pad_22_7, sgf_pad_22_8, sgf_pad_22_9, sgf_me_8_22, sgf_me_8_23, sgf_me_8_0, sgf_me_8_24, sgf_me_8_4, sgf_me_9_22, sgf_me_9_23, sgf_me_9_0, sgf_me_9_24, sgf_me_9_4, sgf_me_10_6, sgf_me_10_21, sgf_me_10_2, sgf_me_10_20, sgf_me_10_19, sgf_me_10_18, sgf_ini_10, sgf_ini_11, sgf_in0_8, sgf_in0_9, sgf_fl_10_1, sgf_fl_11_12, sgf_fl_11_3, sgf_fl_11_13, sgf_fl_11_14, sgf_fl_11_15, sgf_fl_11_16, sgf_fl_11_17, sgf_fl_11_5, sgf_exc_2, sgf_exc_6, sgf_exc_4, sgf_exc_5, sgf_exc_1, sgf_exc_3, sgf_exm_2_0, sgf_exm_6_0, sgf_exm_4_0, sgf_exm_5_0, sgf_exm_1_0, sgf_exm_3_0, sgf_isa_2_6, sgf_isa_6_6, sgf_isa_4_6, sgf_isa_5_6, sgf_isa_1_6, sgf_isa_3_6, sgf_isz_6, sgf_isv_2, sgf_isv_6, sgf_isv_4, sgf_isv_5, sgf_isv_1, sgf_isv_3, gl_MOST_LETTERS, gl_LETTERS, gl_MOST, gl_MOST_PARTS, gl_STAYS, wipeP, List.set_cons_zero, List.set_cons_succ, evSs_nil, List.lookup, Nat.reduceBEq, seq_str, seq_tup, seq_fl, Bool.true_and, Bool.and_true, Bool.false_and, Bool.and_false, beq_self_eq_true, s.1, List.lookup_nil]
    refine ⟨⟨2, 2, b16, []⟩, rfl, rfl, ?_⟩
    rw [b16, evSs_cons]
    simp only [evS, evE, evEs, evO, evB, evBs, evI, List.map_cons, List.map_nil, List.replicate_succ, List.replicate_zero, List.cons_append, List.nil_append, List.getElem?_cons_zero, List.getElem?_cons_succ, List.set_cons_zero, List.set_cons_succ, bv_add, bv_sub, bv_mul, bv_div, bv_mod, bv_pow, bv_str, av_add, av_sub, cv_lt, cv_le, cv_gt, cv_ge, cv_eq, cv_ne, cv_eqS, cv_neS, tv_bl, tv_int, List.length_cons, List.length_nil, pad, setT_nm, setT_tup, setTs_nil, setTs_cons, decide_eq_true_eq, Bool.not_eq_true', Bool.not_true, Bool.not_false, if_true, if_false, Bool.false_eq_true, Bool.true_eq_false, reduceIte, Nat.reduceAdd, Nat.reduceSub, Nat.reduceBEq, pow_10_9, pow_10_20, pow_10_30, cpow_10_9, cpow_10_20, cpow_10_30, divP_lit, mulP_r, mulP_l, lne_line, lt_line, isi_int, isi_bool, Int.reduceLT, Int.reduceLE, Int.reduceGT, Int.reduceGE, Int.reduceNeg, Int.reduceMul, Int.reduceAdd, Int.reduceSub, Nat.reduceLeDiff, Nat.reduceLT, true_and, and_true, decide_true, decide_false, sgf_pad_22_5, sgf_pad_22_6, sgf_pad_22_7, sgf_pad_22_8, sgf_pad_22_9, sgf_me_8_22, sgf_me_8_23, sgf_me_8_0, sgf_me_8_24, sgf_me_8_4, sgf_me_9_22, sgf_me_9_23, sgf_me_9_0, sgf_me_9_24, sgf_me_9_4, sgf_me_10_6, sgf_me_10_21, sgf_me_10_2, sgf_me_10_20, sgf_me_10_19, sgf_me_10_18, sgf_ini_10, sgf_ini_11, sgf_in0_8, sgf_in0_9, sgf_fl_10_1, sgf_fl_11_12, sgf_fl_11_3, sgf_fl_11_13, sgf_fl_11_14, sgf_fl_11_15, sgf_fl_11_16, sgf_fl_11_17, sgf_fl_11_5, sgf_exc_2, sgf_exc_6, sgf_exc_4, sgf_exc_5, sgf_exc_1, sgf_exc_3, sgf_exm_2_0, sgf_exm_6_0, sgf_exm_4_0, sgf_exm_5_0, sgf_exm_1_0, sgf_exm_3_0, sgf_isa_2_6, sgf_isa_6_6, sgf_isa_4_6, sgf_isa_5_6, sgf_isa_1_6, sgf_isa_3_6, sgf_isz_6, sgf_isv_2, sgf_isv_6, sgf_isv_4, sgf_isv_5, sgf_isv_1, sgf_isv_3, gl_MOST_LETTERS, gl_LETTERS, gl_MOST, gl_MOST_PARTS, gl_STAYS, wipeP, List.set_cons_zero, List.set_cons_succ, evSs_nil, List.lookup, Nat.reduceBEq, seq_str, seq_tup, seq_fl, Bool.true_and, Bool.and_true, Bool.false_and, Bool.and_false, beq_self_eq_true, s.1, List.lookup_nil]
    refine need_no s hx ?_
    refine ⟨h, .refl h, ?_⟩
    simp only [evS, evE, evEs, evO, evB, evBs, evI, List.map_cons, List.map_nil, List.replicate_succ, List.replicate_zero, List.cons_append, List.nil_append, List.getElem?_cons_zero, List.getElem?_cons_succ, List.set_cons_zero, List.set_cons_succ, bv_add, bv_sub, bv_mul, bv_div, bv_mod, bv_pow, bv_str, av_add, av_sub, cv_lt, cv_le, cv_gt, cv_ge, cv_eq, cv_ne, cv_eqS, cv_neS, tv_bl, tv_int, List.length_cons, List.length_nil, pad, setT_nm, setT_tup, setTs_nil, setTs_cons, decide_eq_true_eq, Bool.not_eq_true', Bool.not_true, Bool.not_false, if_true, if_false, Bool.false_eq_true, Bool.true_eq_false, reduceIte, Nat.reduceAdd, Nat.reduceSub, Nat.reduceBEq, pow_10_9, pow_10_20, pow_10_30, cpow_10_9, cpow_10_20, cpow_10_30, divP_lit, mulP_r, mulP_l, lne_line, lt_line, isi_int, isi_bool, Int.reduceLT, Int.reduceLE, Int.reduceGT, Int.reduceGE, Int.reduceNeg, Int.reduceMul, Int.reduceAdd, Int.reduceSub, Nat.reduceLeDiff, Nat.reduceLT, true_and, and_true, decide_true, decide_false, sgf_pad_22_5, sgf_pad_22_6, sgf_pad_22_7, sgf_pad_22_8, sgf_pad_22_9, sgf_me_8_22, sgf_me_8_23, sgf_me_8_0, sgf_me_8_24, sgf_me_8_4, sgf_me_9_22, sgf_me_9_23, sgf_me_9_0, sgf_me_9_24, sgf_me_9_4, sgf_me_10_6, sgf_me_10_21, sgf_me_10_2, sgf_me_10_20, sgf_me_10_19, sgf_me_10_18, sgf_ini_10, sgf_ini_11, sgf_in0_8, sgf_in0_9, sgf_fl_10_1, sgf_fl_11_12, sgf_fl_11_3, sgf_fl_11_13, sgf_fl_11_14, sgf_fl_11_15, sgf_fl_11_16, sgf_fl_11_17, sgf_fl_11_5, sgf_exc_2, sgf_exc_6, sgf_exc_4, sgf_exc_5, sgf_exc_1, sgf_exc_3, sgf_exm_2_0, sgf_exm_6_0, sgf_exm_4_0, sgf_exm_5_0, sgf_exm_1_0, sgf_exm_3_0, sgf_isa_2_6, sgf_isa_6_6, sgf_isa_4_6, sgf_isa_5_6, sgf_isa_1_6, sgf_isa_3_6, sgf_isz_6, sgf_isv_2, sgf_isv_6, sgf_isv_4, sgf_isv_5, sgf_isv_1, sgf_isv_3, gl_MOST_LETTERS, gl_LETTERS, gl_MOST, gl_MOST_PARTS, gl_STAYS, wipeP, List.set_cons_zero, List.set_cons_succ, evSs_nil, List.lookup, Nat.reduceBEq, seq_str, seq_tup, seq_fl, Bool.true_and, Bool.and_true, Bool.false_and, Bool.and_false, beq_self_eq_true]
    refine ⟨by decide, fun e ne => ?_⟩
    rw [evSs_cons]
    simp only [evS, evE, evEs, evO, evB, evBs, evI, List.map_cons, List.map_nil, List.replicate_succ, List.replicate_zero, List.cons_append, List.nil_append, List.getElem?_cons_zero, List.getElem?_cons_succ, List.set_cons_zero, List.set_cons_succ, bv_add, bv_sub, bv_mul, bv_div, bv_mod, bv_pow, bv_str, av_add, av_sub, cv_lt, cv_le, cv_gt, cv_ge, cv_eq, cv_ne, cv_eqS, cv_neS, tv_bl, tv_int, List.length_cons, List.length_nil, pad, setT_nm, setT_tup, setTs_nil, setTs_cons, decide_eq_true_eq, Bool.not_eq_true', Bool.not_true, Bool.not_false, if_true, if_false, Bool.false_eq_true, Bool.true_eq_false, reduceIte, Nat.reduceAdd, Nat.reduceSub, Nat.reduceBEq, pow_10_9, pow_10_20, pow_10_30, cpow_10_9, cpow_10_20, cpow_10_30, divP_lit, mulP_r, mulP_l, lne_line, lt_line, isi_int, isi_bool, Int.reduceLT, Int.reduceLE, Int.reduceGT, Int.reduceGE, Int.reduceNeg, Int.reduceMul, Int.reduceAdd, Int.reduceSub, Nat.reduceLeDiff, Nat.reduceLT, true_and, and_true, decide_true, decide_false, sgf_pad_22_5, sgf_pad_22_6, sgf_pad_22_7, sgf_pad_22_8, sgf_pad_22_9, sgf_me_8_22, sgf_me_8_23, sgf_me_8_0, sgf_me_8_24, sgf_me_8_4, sgf_me_9_22, sgf_me_9_23, sgf_me_9_0, sgf_me_9_24, sgf_me_9_4, sgf_me_10_6, sgf_me_10_21, sgf_me_10_2, sgf_me_10_20, sgf_me_10_19, sgf_me_10_18, sgf_ini_10, sgf_ini_11, sgf_in0_8, sgf_in0_9, sgf_fl_10_1, sgf_fl_11_12, sgf_fl_11_3, sgf_fl_11_13, sgf_fl_11_14, sgf_fl_11_15, sgf_fl_11_16, sgf_fl_11_17, sgf_fl_11_5, sgf_exc_2, sgf_exc_6, sgf_exc_4, sgf_exc_5, sgf_exc_1, sgf_exc_3, sgf_exm_2_0, sgf_exm_6_0, sgf_exm_4_0, sgf_exm_5_0, sgf_exm_1_0, sgf_exm_3_0, sgf_isa_2_6, sgf_isa_6_6, sgf_isa_4_6, sgf_isa_5_6, sgf_isa_1_6, sgf_isa_3_6, sgf_isz_6, sgf_isv_2, sgf_isv_6, sgf_isv_4, sgf_isv_5, sgf_isv_1, sgf_isv_3, gl_MOST_LETTERS, gl_LETTERS, gl_MOST, gl_MOST_PARTS, gl_STAYS, wipeP, List.set_cons_zero, List.set_cons_succ, evSs_nil, List.lookup, Nat.reduceBEq, seq_str, seq_tup, seq_fl, Bool.true_and, Bool.and_true, Bool.false_and, Bool.and_false, beq_self_eq_true]
    exact ret_here (q e ne)
  · simp only [evS, evE, evEs, evO, evB, evBs, evI, List.map_cons, List.map_nil, List.replicate_succ, List.replicate_zero, List.cons_append, List.nil_append, List.getElem?_cons_zero, List.getElem?_cons_succ, List.set_cons_zero, List.set_cons_succ, bv_add, bv_sub, bv_mul, bv_div, bv_mod, bv_pow, bv_str, av_add, av_sub, cv_lt, cv_le, cv_gt, cv_ge, cv_eq, cv_ne, cv_eqS, cv_neS, tv_bl, tv_int, List.length_cons, List.length_nil, pad, setT_nm, setT_tup, setTs_nil, setTs_cons, decide_eq_true_eq, Bool.not_eq_true', Bool.not_true, Bool.not_false, if_true, if_false, Bool.false_eq_true, Bool.true_eq_false, reduceIte, Nat.reduceAdd, Nat.reduceSub, Nat.reduceBEq, pow_10_9, pow_10_20, pow_10_30, cpow_10_9, cpow_10_20, cpow_10_30, divP_lit, mulP_r, mulP_l, lne_line, lt_line, isi_int, isi_bool, Int.reduceLT, Int.reduceLE, Int.reduceGT, Int.reduceGE, Int.reduceNeg, Int.reduceMul, Int.reduceAdd, Int.reduceSub, Nat.reduceLeDiff, Nat.reduceLT, true_and, and_true, decide_true, decide_false, sgf_pad_22_5, sgf_pad_22_6, sgf_pad_22_7, sgf_pad_22_8, sgf_pad_22_9, sgf_me_8_22, sgf_me_8_23, sgf_me_8_0, sgf_me_8_24, sgf_me_8_4, sgf_me_9_22, sgf_me_9_23, sgf_me_9_0, sgf_me_9_24, sgf_me_9_4, sgf_me_10_6, sgf_me_10_21, sgf_me_10_2, sgf_me_10_20, sgf_me_10_19, sgf_me_10_18, sgf_ini_10, sgf_ini_11, sgf_in0_8, sgf_in0_9, sgf_fl_10_1, sgf_fl_11_12, sgf_fl_11_3, sgf_fl_11_13, sgf_fl_11_14, sgf_fl_11_15, sgf_fl_11_16, sgf_fl_11_17, sgf_fl_11_5, sgf_exc_2, sgf_exc_6, sgf_exc_4, sgf_exc_5, sgf_exc_1, sgf_exc_3, sgf_exm_2_0, sgf_exm_6_0, sgf_exm_4_0, sgf_exm_5_0, sgf_exm_1_0, sgf_exm_3_0, sgf_isa_2_6, sgf_isa_6_6, sgf_isa_4_6, sgf_isa_5_6, sgf_isa_1_6, sgf_isa_3_6, sgf_isz_6, sgf_isv_2, sgf_isv_6, sgf_isv_4, sgf_isv_5, sgf_isv_1, sgf_isv_3, gl_MOST_LETTERS, gl_LETTERS, gl_MOST, gl_MOST_PARTS, gl_STAYS, wipeP, List.set_cons_zero, List.set_cons_succ, evSs_nil, List.lookup, Nat.reduceBEq, seq_str, seq_tup, seq_fl, Bool.true_and, Bool.and_true, Bool.false_and, Bool.and_false, beq_self_eq_true, s.1, List.lookup_nil]
    rw [if_neg (by decide), evSs_cons]
    simp only [evS, evE, evEs, evO, evB, evBs, evI, List.map_cons, List.map_nil, List.replicate_succ, List.replicate_zero, List.cons_append, List.nil_append, List.getElem?_cons_zero, List.getElem?_cons_succ, List.set_cons_zero, List.set_cons_succ, bv_add, bv_sub, bv_mul, bv_div, bv_mod, bv_pow, bv_str, av_add, av_sub, cv_lt, cv_le, cv_gt, cv_ge, cv_eq, cv_ne, cv_eqS, cv_neS, tv_bl, tv_int, List.length_cons, List.length_nil, pad, setT_nm, setT_tup, setTs_nil, setTs_cons, decide_eq_true_eq, Bool.not_eq_true', Bool.not_true, Bool.not_false, if_true, if_false, Bool.false_eq_true, Bool.true_eq_false, reduceIte, Nat.reduceAdd, Nat.reduceSub, Nat.reduceBEq, pow_10_9, pow_10_20, pow_10_30, cpow_10_9, cpow_10_20, cpow_10_30, divP_lit, mulP_r, mulP_l, lne_line, lt_line, isi_int, isi_bool, Int.reduceLT, Int.reduceLE, Int.reduceGT, Int.reduceGE, Int.reduceNeg, Int.reduceMul, Int.reduceAdd, Int.reduceSub, Nat.reduceLeDiff, Nat.reduceLT, true_and, and_true, decide_true, decide_false, sgf_pad_22_5, sgf_pad_22_6, sgf_pad_22_7, sgf_pad_22_8, sgf_pad_22_9, sgf_me_8_22, sgf_me_8_23, sgf_me_8_0, sgf_me_8_24, sgf_me_8_4, sgf_me_9_22, sgf_me_9_23, sgf_me_9_0, sgf_me_9_24, sgf_me_9_4, sgf_me_10_6, sgf_me_10_21, sgf_me_10_2, sgf_me_10_20, sgf_me_10_19, sgf_me_10_18, sgf_ini_10, sgf_ini_11, sgf_in0_8, sgf_in0_9, sgf_fl_10_1, sgf_fl_11_12, sgf_fl_11_3, sgf_fl_11_13, sgf_fl_11_14, sgf_fl_11_15, sgf_fl_11_16, sgf_fl_11_17, sgf_fl_11_5, sgf_exc_2, sgf_exc_6, sgf_exc_4, sgf_exc_5, sgf_exc_1, sgf_exc_3, sgf_exm_2_0, sgf_exm_6_0, sgf_exm_4_0, sgf_exm_5_0, sgf_exm_1_0, sgf_exm_3_0, sgf_isa_2_6, sgf_isa_6_6, sgf_isa_4_6, sgf_isa_5_6, sgf_isa_1_6, sgf_isa_3_6, sgf_isz_6, sgf_isv_2, sgf_isv_6, sgf_isv_4, sgf_isv_5, sgf_isv_1, sgf_isv_3, gl_MOST_LETTERS, gl_LETTERS, gl_MOST, gl_MOST_PARTS, gl_STAYS, wipeP, List.set_cons_zero, List.set_cons_succ, evSs_nil, List.lookup, Nat.reduceBEq, seq_str, seq_tup, seq_fl, Bool.true_and, Bool.and_true, Bool.false_and, Bool.and_false, beq_self_eq_true, s.1, List.lookup_nil]
    refine ⟨⟨2, 2, b15, []⟩, rfl, rfl, ?_⟩
    rw [b15, evSs_cons]
    simp only [evS, evE, evEs, evO, evB, evBs, evI, List.map_cons, List.map_nil, List.replicate_succ, List.replicate_zero, List.cons_append, List.nil_append, List.getElem?_cons_zero, List.getElem?_cons_succ, List.set_cons_zero, List.set_cons_succ, bv_add, bv_sub, bv_mul, bv_div, bv_mod, bv_pow, bv_str, av_add, av_sub, cv_lt, cv_le, cv_gt, cv_ge, cv_eq, cv_ne, cv_eqS, cv_neS, tv_bl, tv_int, List.length_cons, List.length_nil, pad, setT_nm, setT_tup, setTs_nil, setTs_cons, decide_eq_true_eq, Bool.not_eq_true', Bool.not_true, Bool.not_false, if_true, if_false, Bool.false_eq_true, Bool.true_eq_false, reduceIte, Nat.reduceAdd, Nat.reduceSub, Nat.reduceBEq, pow_10_9, pow_10_20, pow_10_30, cpow_10_9, cpow_10_20, cpow_10_30, divP_lit, mulP_r, mulP_l, lne_line, lt_line, isi_int, isi_bool, Int.reduceLT, Int.reduceLE, Int.reduceGT, Int.reduceGE, Int.reduceNeg, Int.reduceMul, Int.reduceAdd, Int.reduceSub, Nat.reduceLeDiff, Nat.reduceLT, true_and, and_true, decide_true, decide_false, sgf_pad_22_5, sgf_pad_22_6, sgf_pad_22_7, sgf_pad_22_8, sgf_pad_22_9, sgf_me_8_22, sgf_me_8_23, sgf_me_8_0, sgf_me_8_24, sgf_me_8_4, sgf_me_9_22, sgf_me_9_23, sgf_me_9_0, sgf_me_9_24, sgf_me_9_4, sgf_me_10_6, sgf_me_10_21, sgf_me_10_2, sgf_me_10_20, sgf_me_10_19, sgf_me_10_18, sgf_ini_10, sgf_ini_11, sgf_in0_8, sgf_in0_9, sgf_fl_10_1, sgf_fl_11_12, sgf_fl_11_3, sgf_fl_11_13, sgf_fl_11_14, sgf_fl_11_15, sgf_fl_11_16, sgf_fl_11_17, sgf_fl_11_5, sgf_exc_2, sgf_exc_6, sgf_exc_4, sgf_exc_5, sgf_exc_1, sgf_exc_3, sgf_exm_2_0, sgf_exm_6_0, sgf_exm_4_0, sgf_exm_5_0, sgf_exm_1_0, sgf_exm_3_0, sgf_isa_2_6, sgf_isa_6_6, sgf_isa_4_6, sgf_isa_5_6, sgf_isa_1_6, sgf_isa_3_6, sgf_isz_6, sgf_isv_2, sgf_isv_6, sgf_isv_4, sgf_isv_5, sgf_isv_1, sgf_isv_3, gl_MOST_LETTERS, gl_LETTERS, gl_MOST, gl_MOST_PARTS, gl_STAYS, wipeP, List.set_cons_zero, List.set_cons_succ, evSs_nil, List.lookup, Nat.reduceBEq, seq_str, seq_tup, seq_fl, Bool.true_and, Bool.and_true, Bool.false_and, Bool.and_false, beq_self_eq_true, s.1, List.lookup_nil]
    refine need_no s hx ?_
    refine ⟨h, .refl h, ?_⟩
    simp only [evS, evE, evEs, evO, evB, evBs, evI, List.map_cons, List.map_nil, List.replicate_succ, List.replicate_zero, List.cons_append, List.nil_append, List.getElem?_cons_zero, List.getElem?_cons_succ, List.set_cons_zero, List.set_cons_succ, bv_add, bv_sub, bv_mul, bv_div, bv_mod, bv_pow, bv_str, av_add, av_sub, cv_lt, cv_le, cv_gt, cv_ge, cv_eq, cv_ne, cv_eqS, cv_neS, tv_bl, tv_int, List.length_cons, List.length_nil, pad, setT_nm, setT_tup, setTs_nil, setTs_cons, decide_eq_true_eq, Bool.not_eq_true', Bool.not_true, Bool.not_false, if_true, if_false, Bool.false_eq_true, Bool.true_eq_false, reduceIte, Nat.reduceAdd, Nat.reduceSub, Nat.reduceBEq, pow_10_9, pow_10_20, pow_10_30, cpow_10_9, cpow_10_20, cpow_10_30, divP_lit, mulP_r, mulP_l, lne_line, lt_line, isi_int, isi_bool, Int.reduceLT, Int.reduceLE, Int.reduceGT, Int.reduceGE, Int.reduceNeg, Int.reduceMul, Int.reduceAdd, Int.reduceSub, Nat.reduceLeDiff, Nat.reduceLT, true_and, and_true, decide_true, decide_false, sgf_pad_22_5, sgf_pad_22_6, sgf_pad_22_7, sgf_pad_22_8, sgf_pad_22_9, sgf_me_8_22, sgf_me_8_23, sgf_me_8_0, sgf_me_8_24, sgf_me_8_4, sgf_me_9_22, sgf_me_9_23, sgf_me_9_0, sgf_me_9_24, sgf_me_9_4, sgf_me_10_6, sgf_me_10_21, sgf_me_10_2, sgf_me_10_20, sgf_me_10_19, sgf_me_10_18, sgf_ini_10, sgf_ini_11, sgf_in0_8, sgf_in0_9, sgf_fl_10_1, sgf_fl_11_12, sgf_fl_11_3, sgf_fl_11_13, sgf_fl_11_14, sgf_fl_11_15, sgf_fl_11_16, sgf_fl_11_17, sgf_fl_11_5, sgf_exc_2, sgf_exc_6, sgf_exc_4, sgf_exc_5, sgf_exc_1, sgf_exc_3, sgf_exm_2_0, sgf_exm_6_0, sgf_exm_4_0, sgf_exm_5_0, sgf_exm_1_0, sgf_exm_3_0, sgf_isa_2_6, sgf_isa_6_6, sgf_isa_4_6, sgf_isa_5_6, sgf_isa_1_6, sgf_isa_3_6, sgf_isz_6, sgf_isv_2, sgf_isv_6, sgf_isv_4, sgf_isv_5, sgf_isv_1, sgf_isv_3, gl_MOST_LETTERS, gl_LETTERS, gl_MOST, gl_MOST_PARTS, gl_STAYS, wipeP, List.set_cons_zero, List.set_cons_succ, evSs_nil, List.lookup, Nat.reduceBEq, seq_str, seq_tup, seq_fl, Bool.true_and, Bool.and_true, Bool.false_and, Bool.and_false, beq_self_eq_true]
    refine ⟨by decide, fun e ne => ?_⟩
    rw [evSs_cons]
    simp only [evS, evE, evEs, evO, evB, evBs, evI, List.map_cons, List.map_nil, List.replicate_succ, List.replicate_zero, List.cons_append, List.nil_append, List.getElem?_cons_zero, List.getElem?_cons_succ, List.set_cons_zero, List.set_cons_succ, bv_add, bv_sub, bv_mul, bv_div, bv_mod, bv_pow, bv_str, av_add, av_sub, cv_lt, cv_le, cv_gt, cv_ge, cv_eq, cv_ne, cv_eqS, cv_neS, tv_bl, tv_int, List.length_cons, List.length_nil, pad, setT_nm, setT_tup, setTs_nil, setTs_cons, decide_eq_true_eq, Bool.not_eq_true', Bool.not_true, Bool.not_false, if_true, if_false, Bool.false_eq_true, Bool.true_eq_false, reduceIte, Nat.reduceAdd, Nat.reduceSub, Nat.reduceBEq, pow_10_9, pow_10_20, pow_10_30, cpow_10_9, cpow_10_20, cpow_10_30, divP_lit, mulP_r, mulP_l, lne_line, lt_line, isi_int, isi_bool, Int.reduceLT, Int.reduceLE, Int.reduceGT, Int.reduceGE, Int.reduceNeg, Int.reduceMul, Int.reduceAdd, Int.reduceSub, Nat.reduceLeDiff, Nat.reduceLT, true_and, and_true, decide_true, decide_false, sgf_pad_22_5, sgf_pad_22_6, sgf_pad_22_7, sgf_pad_22_8, sgf_pad_22_9, sgf_me_8_22, sgf_me_8_23, sgf_me_8_0, sgf_me_8_24, sgf_me_8_4, sgf_me_9_22, sgf_me_9_23, sgf_me_9_0, sgf_me_9_24, sgf_me_9_4, sgf_me_10_6, sgf_me_10_21, sgf_me_10_2, sgf_me_10_20, sgf_me_10_19, sgf_me_10_18, sgf_ini_10, sgf_ini_11, sgf_in0_8, sgf_in0_9, sgf_fl_10_1, sgf_fl_11_12, sgf_fl_11_3, sgf_fl_11_13, sgf_fl_11_14, sgf_fl_11_15, sgf_fl_11_16, sgf_fl_11_17, sgf_fl_11_5, sgf_exc_2, sgf_exc_6, sgf_exc_4, sgf_exc_5, sgf_exc_1, sgf_exc_3, sgf_exm_2_0, sgf_exm_6_0, sgf_exm_4_0, sgf_exm_5_0, sgf_exm_1_0, sgf_exm_3_0, sgf_isa_2_6, sgf_isa_6_6, sgf_isa_4_6, sgf_isa_5_6, sgf_isa_1_6, sgf_isa_3_6, sgf_isz_6, sgf_isv_2, sgf_isv_6, sgf_isv_4, sgf_isv_5, sgf_isv_1, sgf_isv_3, gl_MOST_LETTERS, gl_LETTERS, gl_MOST, gl_MOST_PARTS, gl_STAYS, wipeP, List.set_cons_zero, List.set_cons_succ, evSs_nil, List.lookup, Nat.reduceBEq, seq_str, seq_tup, seq_fl, Bool.true_and, Bool.and_true, Bool.false_and, Bool.and_false, beq_self_eq_true]
    exact ret_here (q e ne)
theorem blt_listD {d : Addr} {b : Bool} {kvs : List (Key × PV)} (e : h d = some (.dct b kvs)) : bltV .list [.loc d] h Q = ∀ p, h p = none → Q (.loc p) (pup h p (.lst (kvs.map fun kv => kP kv.1))) := by simp only [bltV, e]
theorem ints_map (ns : List Int) : intsP (ns.map .int) = some ns := by
  induction ns with
  | nil => rfl
  | cons a l ih => rw [List.map_cons]; show Option.map (a :: ·) (intsP (l.map .int)) = _; rw [ih]; rfl
theorem keys_dR {L : List Ent} {f : Ent → PV} : ((L.map fun e => ((.inl e.1 : Key), f e)).map fun kv => kP kv.1) = (L.map (·.1)).map .int := by
  rw [List.map_map, List.map_map]; rfl
theorem bv_lst {a b : Addr} {xs ys : List PV} (e1 : h a = some (.lst xs)) (e2 : h b = some (.lst ys)) : binV .add (.loc a) (.loc b) h Q = (xs.length + ys.length ≤ sizeLine ∧ ∀ p, h p = none → Q (.loc p) (pup h p (.lst (xs ++ ys)))) := by simp only [binV, e1, e2]
theorem pickL {p : Addr} {g : PH} {xs : List PV} {i : Int} {R : QE} (gp : g p = some (.lst xs)) (h0 : 0 ≤ i) (h1 : i < xs.length) (q : ∀ x ∈ xs, R x g) : subV (.loc p) (.int i) g R := by
  obtain ⟨x, hx, ex⟩ := at_mem h0 h1
  rw [sv_lst gp ex]
  exact q x hx
theorem NoK.le {g : PH} {x : PV} {L : List Ent} (l : PLe h g) (k : NoK x h L) : NoK x g L := by
  cases x with
  | loc a => obtain ⟨xs, e⟩ := k; exact ⟨xs, l _ _ e⟩
  | _ => exact k
theorem refused_sp {sl d r : Addr} {L : List Ent} {c : Int} (s : SlAt h sl d L) (hr : h r = some (.dct false (dR L))) (hp : ∀ k ∈ L.map (·.1), 0 ≤ k) (hl : L.length < 64) (q : ∀ g, PLe h g → Q (.bl true) g) : sem sg (n + 4) 29 [.loc sl, .loc r, .int c] h Q X := by
  refine ⟨⟨3, 6, b29, []⟩, rfl, rfl, ?_⟩
  rw [b29]
  (try dsimp only); (try simp only [evS, evE, evEs, evO, evB, evBs, evI, List.map_cons, List.map_nil, List.replicate_succ, List.replicate_zero, List.cons_append, List.nil_append, List.getElem?_cons_zero, List.getElem?_cons_succ, List.set_cons_zero, List.set_cons_succ, bv_add, bv_sub, bv_mul, bv_div, bv_mod, bv_pow, bv_str, av_add, av_sub, cv_lt, cv_le, cv_gt, cv_ge, cv_eq, cv_ne, cv_eqS, cv_neS, tv_bl, tv_int, List.length_cons, List.length_nil, pad, setT_nm, setT_tup, setTs_nil, setTs_cons, decide_eq_true_eq, Bool.not_eq_true', Bool.not_true, Bool.not_false, if_true, if_false, Bool.false_eq_true, Bool.true_eq_false, reduceIte, Nat.reduceAdd, Nat.reduceSub, Nat.reduceBEq, pow_10_9, pow_10_20, pow_10_30, cpow_10_9, cpow_10_20, cpow_10_30, divP_lit, mulP_r, mulP_l, lne_line, lt_line, isi_int, isi_bool, Int.reduceLT, Int.reduceLE, Int.reduceGT, Int.reduceGE, Int.reduceNeg, Int.reduceMul, Int.reduceAdd, Int.reduceSub, Nat.reduceLeDiff, Nat.reduceLT, true_and, and_true, decide_true, decide_false, sgf_pad_22_5, sgf_pad_22_6, sgf_pad_22_7, sgf_pad_22_8, sgf_pad_22_9, sgf_me_8_22, sgf_me_8_23, sgf_me_8_0, sgf_me_8_24, sgf_me_8_4, sgf_me_9_22, sgf_me_9_23, sgf_me_9_0, sgf_me_9_24, sgf_me_9_4, sgf_me_10_6, sgf_me_10_21, sgf_me_10_2, sgf_me_10_20, sgf_me_10_19, sgf_me_10_18, sgf_ini_10, sgf_ini_11, sgf_in0_8, sgf_in0_9, sgf_fl_10_1, sgf_fl_11_12, sgf_fl_11_3, sgf_fl_11_13, sgf_fl_11_14, sgf_fl_11_15, sgf_fl_11_16, sgf_fl_11_17, sgf_fl_11_5, sgf_exc_2, sgf_exc_6, sgf_exc_4, sgf_exc_5, sgf_exc_1, sgf_exc_3, sgf_exm_2_0, sgf_exm_6_0, sgf_exm_4_0, sgf_exm_5_0, sgf_exm_1_0, sgf_exm_3_0, sgf_isa_2_6, sgf_isa_6_6, sgf_isa_4_6, sgf_isa_5_6, sgf_isa_1_6, sgf_isa_3_6, sgf_isz_6, sgf_isv_2, sgf_isv_6, sgf_isv_4, sgf_isv_5, sgf_isv_1, sgf_isv_3, gl_MOST_LETTERS, gl_LETTERS, gl_MOST, gl_MOST_PARTS, gl_STAYS, wipeP, List.set_cons_zero, List.set_cons_succ, evSs_nil, List.lookup, Nat.reduceBEq, seq_str, seq_tup, seq_fl, Bool.true_and, Bool.and_true, Bool.false_and, Bool.and_false, beq_self_eq_true]); rw [evSs_cons]; simp only [evS, evE, evEs, evO, evB, evBs, evI, List.map_cons, List.map_nil, List.replicate_succ, List.replicate_zero, List.cons_append, List.nil_append, List.getElem?_cons_zero, List.getElem?_cons_succ, List.set_cons_zero, List.set_cons_succ, bv_add, bv_sub, bv_mul, bv_div, bv_mod, bv_pow, bv_str, av_add, av_sub, cv_lt, cv_le, cv_gt, cv_ge, cv_eq, cv_ne, cv_eqS, cv_neS, tv_bl, tv_int, List.length_cons, List.length_nil, pad, setT_nm, setT_tup, setTs_nil, setTs_cons, decide_eq_true_eq, Bool.not_eq_true', Bool.not_true, Bool.not_false, if_true, if_false, Bool.false_eq_true, Bool.true_eq_false, reduceIte, Nat.reduceAdd, Nat.reduceSub, Nat.reduceBEq, pow_10_9, pow_10_20, pow_10_30, cpow_10_9, cpow_10_20, cpow_10_30, divP_lit, mulP_r, mulP_l, lne_line, lt_line, isi_int, isi_bool, Int.reduceLT, Int.reduceLE, Int.reduceGT, Int.reduceGE, Int.reduceNeg, Int.reduceMul, Int.reduceAdd, Int.reduceSub, Nat.reduceLeDiff, Nat.reduceLT, true_and, and_true, decide_true, decide_false, sgf_pad_22_5, sgf_pad_22_6, sgf_pad_22_7, sgf_pad_22_8, sgf_pad_22_9, sgf_me_8_22, sgf_me_8_23, sgf_me_8_0, sgf_me_8_24, sgf_me_8_4, sgf_me_9_22, sgf_me_9_23, sgf_me_9_0, sgf_me_9_24, sgf_me_9_4, sgf_me_10_6, sgf_me_10_21, sgf_me_10_2, sgf_me_10_20, sgf_me_10_19, sgf_me_10_18, sgf_ini_10, sgf_ini_11, sgf_in0_8, sgf_in0_9, sgf_fl_10_1, sgf_fl_11_12, sgf_fl_11_3, sgf_fl_11_13, sgf_fl_11_14, sgf_fl_11_15, sgf_fl_11_16, sgf_fl_11_17, sgf_fl_11_5, sgf_exc_2, sgf_exc_6, sgf_exc_4, sgf_exc_5, sgf_exc_1, sgf_exc_3, sgf_exm_2_0, sgf_exm_6_0, sgf_exm_4_0, sgf_exm_5_0, sgf_exm_1_0, sgf_exm_3_0, sgf_isa_2_6, sgf_isa_6_6, sgf_isa_4_6, sgf_isa_5_6, sgf_isa_1_6, sgf_isa_3_6, sgf_isz_6, sgf_isv_2, sgf_isv_6, sgf_isv_4, sgf_isv_5, sgf_isv_1, sgf_isv_3, gl_MOST_LETTERS, gl_LETTERS, gl_MOST, gl_MOST_PARTS, gl_STAYS, wipeP, List.set_cons_zero, List.set_cons_succ, evSs_nil, List.lookup, Nat.reduceBEq, seq_str, seq_tup, seq_fl, Bool.true_and, Bool.and_true, Bool.false_and, Bool.and_false, beq_self_eq_true]
  intro p1 n1
  have u1 := PLe.new (c := .lst [.int 0]) n1
  have e1 : (pup h p1 (.lst [.int 0])) p1 = some (.lst [.int 0]) := pup_same
  generalize pup h p1 _ = g1 at u1 e1 ⊢
  intro p2 n2
  have u2 := PLe.new (c := .lst [.int 0]) n2
  have e2 : (pup g1 p2 (.lst [.int 0])) p2 = some (.lst [.int 0]) := pup_same
  generalize pup g1 p2 _ = g2 at u2 e2 ⊢
  rw [blt_listD (u2 _ _ (u1 _ _ hr)), dR, keys_dR]
  intro p3 n3
  have u3 := PLe.new (c := .lst ((L.map (·.1)).map .int)) n3
  have e3 : (pup g2 p3 (.lst ((L.map (·.1)).map .int))) p3 = some (.lst ((L.map (·.1)).map .int)) := pup_same
  generalize pup g2 p3 _ = g3 at u3 e3 ⊢
  rw [bv_lst (u3 _ _ e2) e3]
  refine ⟨by rw [List.length_map, List.length_map]; exact small_line (by simp; omega), fun p4 n4 => ?_⟩
  rw [show [PV.int 0] ++ (L.map (·.1)).map PV.int = (0 :: L.map (·.1)).map PV.int from rfl]
  have u4 := PLe.new (c := .lst ((0 :: L.map (·.1)).map .int)) n4
  have e4 : (pup g3 p4 (.lst ((0 :: L.map (·.1)).map .int))) p4 = some (.lst ((0 :: L.map (·.1)).map .int)) := pup_same
  generalize pup g3 p4 _ = g4 at u4 e4 ⊢
  simp only [bltV, e4, ints_map]
  refine ⟨by simp, fun m hm hle => ?_⟩
  simp only [evS, evE, evEs, evO, evB, evBs, evI, List.map_cons, List.map_nil, List.replicate_succ, List.replicate_zero, List.cons_append, List.nil_append, List.getElem?_cons_zero, List.getElem?_cons_succ, List.set_cons_zero, List.set_cons_succ, bv_add, bv_sub, bv_mul, bv_div, bv_mod, bv_pow, bv_str, av_add, av_sub, cv_lt, cv_le, cv_gt, cv_ge, cv_eq, cv_ne, cv_eqS, cv_neS, tv_bl, tv_int, List.length_cons, List.length_nil, pad, setT_nm, setT_tup, setTs_nil, setTs_cons, decide_eq_true_eq, Bool.not_eq_true', Bool.not_true, Bool.not_false, if_true, if_false, Bool.false_eq_true, Bool.true_eq_false, reduceIte, Nat.reduceAdd, Nat.reduceSub, Nat.reduceBEq, pow_10_9, pow_10_20, pow_10_30, cpow_10_9, cpow_10_20, cpow_10_30, divP_lit, mulP_r, mulP_l, lne_line, lt_line, isi_int, isi_bool, Int.reduceLT, Int.reduceLE, Int.reduceGT, Int.reduceGE, Int.reduceNeg, Int.reduceMul, Int.reduceAdd, Int.reduceSub, Nat.reduceLeDiff, Nat.reduceLT, true_and, and_true, decide_true, decide_false, sgf_pad_22_5, sgf_pad_22_6, sgf_pad_22_7, sgf_pad_22_8, sgf_pad_22_9, sgf_me_8_22, sgf_me_8_23, sgf_me_8_0, sgf_me_8_24, sgf_me_8_4, sgf_me_9_22, sgf_me_9_23, sgf_me_9_0, sgf_me_9_24, sgf_me_9_4, sgf_me_10_6, sgf_me_10_21, sgf_me_10_2, sgf_me_10_20, sgf_me_10_19, sgf_me_10_18, sgf_ini_10, sgf_ini_11, sgf_in0_8, sgf_in0_9, sgf_fl_10_1, sgf_fl_11_12, sgf_fl_11_3, sgf_fl_11_13, sgf_fl_11_14, sgf_fl_11_15, sgf_fl_11_16, sgf_fl_11_17, sgf_fl_11_5, sgf_exc_2, sgf_exc_6, sgf_exc_4, sgf_exc_5, sgf_exc_1, sgf_exc_3, sgf_exm_2_0, sgf_exm_6_0, sgf_exm_4_0, sgf_exm_5_0, sgf_exm_1_0, sgf_exm_3_0, sgf_isa_2_6, sgf_isa_6_6, sgf_isa_4_6, sgf_isa_5_6, sgf_isa_1_6, sgf_isa_3_6, sgf_isz_6, sgf_isv_2, sgf_isv_6, sgf_isv_4, sgf_isv_5, sgf_isv_1, sgf_isv_3, gl_MOST_LETTERS, gl_LETTERS, gl_MOST, gl_MOST_PARTS, gl_STAYS, wipeP, List.set_cons_zero, List.set_cons_succ, evSs_nil, List.lookup, Nat.reduceBEq, seq_str, seq_tup, seq_fl, Bool.true_and, Bool.and_true, Bool.false_and, Bool.and_false, beq_self_eq_true]
  intro p5 n5
  refine pickL pup_same (Int.emod_nonneg _ (by decide)) (Int.emod_lt_of_pos _ (by decide)) fun x hx => ?_
  have u5 := PLe.new (c := .lst [.int (-1), .non, .bl true, .str (Str.ofString "0"), .loc p1, .int (m + 1 + c / 7 % 9), .tup []]) n5
  generalize pup g4 p5 _ = g5 at u5 ⊢
  have l5 := (((u1.trans u2).trans u3).trans u4).trans u5
  have s5 := s.le l5
  have c0 := Int.emod_nonneg (c / 7) (b := 9) (by decide)
  have nk : NoK x g5 L := by
    simp only [List.mem_cons, List.mem_nil_iff, or_false] at hx
    rcases hx with rfl | rfl | rfl | rfl | rfl | rfl | rfl
    · exact fun z => absurd (hp _ z) (by decide)
    · trivial
    · trivial
    · trivial
    · exact ⟨_, u5 _ _ (u4 _ _ (u3 _ _ (u2 _ _ e1)))⟩
    · intro z
      have := hle _ (List.mem_cons_of_mem _ z)
      omega
    · trivial
  rw [evSs_cons]
  simp only [evS, evE, evEs, evO, evB, evBs, evI, List.map_cons, List.map_nil, List.replicate_succ, List.replicate_zero, List.cons_append, List.nil_append, List.getElem?_cons_zero, List.getElem?_cons_succ, List.set_cons_zero, List.set_cons_succ, bv_add, bv_sub, bv_mul, bv_div, bv_mod, bv_pow, bv_str, av_add, av_sub, cv_lt, cv_le, cv_gt, cv_ge, cv_eq, cv_ne, cv_eqS, cv_neS, tv_bl, tv_int, List.length_cons, List.length_nil, pad, setT_nm, setT_tup, setTs_nil, setTs_cons, decide_eq_true_eq, Bool.not_eq_true', Bool.not_true, Bool.not_false, if_true, if_false, Bool.false_eq_true, Bool.true_eq_false, reduceIte, Nat.reduceAdd, Nat.reduceSub, Nat.reduceBEq, pow_10_9, pow_10_20, pow_10_30, cpow_10_9, cpow_10_20, cpow_10_30, divP_lit, mulP_r, mulP_l, lne_line, lt_line, isi_int, isi_bool, Int.reduceLT, Int.reduceLE, Int.reduceGT, Int.reduceGE, Int.reduceNeg, Int.reduceMul, Int.reduceAdd, Int.reduceSub, Nat.reduceLeDiff, Nat.reduceLT, true_and, and_true, decide_true, decide_false, sgf_pad_22_5, sgf_pad_22_6, sgf_pad_22_7, sgf_pad_22_8, sgf_pad_22_9, sgf_me_8_22, sgf_me_8_23, sgf_me_8_0, sgf_me_8_24, sgf_me_8_4, sgf_me_9_22, sgf_me_9_23, sgf_me_9_0, sgf_me_9_24, sgf_me_9_4, sgf_me_10_6, sgf_me_10_21, sgf_me_10_2, sgf_me_10_20, sgf_me_10_19, sgf_me_10_18, sgf_ini_10, sgf_ini_11, sgf_in0_8, sgf_in0_9, sgf_fl_10_1, sgf_fl_11_12, sgf_fl_11_3, sgf_fl_11_13, sgf_fl_11_14, sgf_fl_11_15, sgf_fl_11_16, sgf_fl_11_17, sgf_fl_11_5, sgf_exc_2, sgf_exc_6, sgf_exc_4, sgf_exc_5, sgf_exc_1, sgf_exc_3, sgf_exm_2_0, sgf_exm_6_0, sgf_exm_4_0, sgf_exm_5_0, sgf_exm_1_0, sgf_exm_3_0, sgf_isa_2_6, sgf_isa_6_6, sgf_isa_4_6, sgf_isa_5_6, sgf_isa_1_6, sgf_isa_3_6, sgf_isz_6, sgf_isv_2, sgf_isv_6, sgf_isv_4, sgf_isv_5, sgf_isv_1, sgf_isv_3, gl_MOST_LETTERS, gl_LETTERS, gl_MOST, gl_MOST_PARTS, gl_STAYS, wipeP, List.set_cons_zero, List.set_cons_succ, evSs_nil, List.lookup, Nat.reduceBEq, seq_str, seq_tup, seq_fl, Bool.true_and, Bool.and_true, Bool.false_and, Bool.and_false, beq_self_eq_true]
  refine ⟨by decide, by decide, ?_⟩
  refine forGo_list (f := fun i : Nat => PV.int ((0 : Int) + (i : Nat))) (as := List.range 2) (fun done env g => PLe g5 g ∧ ∃ x4 x5, env = [some (.loc sl), some (.loc r), some (.int c), some x, x4, x5])
    (fun done w rest env g K e I nx => ?_) (fun env g I => ?_) ⟨.refl _, none, none, rfl⟩
  · obtain ⟨lg, x4, x5, rfl⟩ := I
    refine ⟨trivial, ?_⟩
    have hw : w < 2 := List.mem_range.mp (by rw [e]; simp)
    simp only [evS, evE, evEs, evO, evB, evBs, evI, List.map_cons, List.map_nil, List.replicate_succ, List.replicate_zero, List.cons_append, List.nil_append, List.getElem?_cons_zero, List.getElem?_cons_succ, List.set_cons_zero, List.set_cons_succ, bv_add, bv_sub, bv_mul, bv_div, bv_mod, bv_pow, bv_str, av_add, av_sub, cv_lt, cv_le, cv_gt, cv_ge, cv_eq, cv_ne, cv_eqS, cv_neS, tv_bl, tv_int, List.length_cons, List.length_nil, pad, setT_nm, setT_tup, setTs_nil, setTs_cons, decide_eq_true_eq, Bool.not_eq_true', Bool.not_true, Bool.not_false, if_true, if_false, Bool.false_eq_true, Bool.true_eq_false, reduceIte, Nat.reduceAdd, Nat.reduceSub, Nat.reduceBEq, pow_10_9, pow_10_20, pow_10_30, cpow_10_9, cpow_10_20, cpow_10_30, divP_lit, mulP_r, mulP_l, lne_line, lt_line, isi_int, isi_bool, Int.reduceLT, Int.reduceLE, Int.reduceGT, Int.reduceGE, Int.reduceNeg, Int.reduceMul, Int.reduceAdd, Int.reduceSub, Nat.reduceLeDiff, Nat.reduceLT, true_and, and_true, decide_true, decide_false, sgf_pad_22_5, sgf_pad_22_6, sgf_pad_22_7, sgf_pad_22_8, sgf_pad_22_9, sgf_me_8_22, sgf_me_8_23, sgf_me_8_0, sgf_me_8_24, sgf_me_8_4, sgf_me_9_22, sgf_me_9_23, sgf_me_9_0, sgf_me_9_24, sgf_me_9_4, sgf_me_10_6, sgf_me_10_21, sgf_me_10_2, sgf_me_10_20, sgf_me_10_19, sgf_me_10_18, sgf_ini_10, sgf_ini_11, sgf_in0_8, sgf_in0_9, sgf_fl_10_1, sgf_fl_11_12, sgf_fl_11_3, sgf_fl_11_13, sgf_fl_11_14, sgf_fl_11_15, sgf_fl_11_16, sgf_fl_11_17, sgf_fl_11_5, sgf_exc_2, sgf_exc_6, sgf_exc_4, sgf_exc_5, sgf_exc_1, sgf_exc_3, sgf_exm_2_0, sgf_exm_6_0, sgf_exm_4_0, sgf_exm_5_0, sgf_exm_1_0, sgf_exm_3_0, sgf_isa_2_6, sgf_isa_6_6, sgf_isa_4_6, sgf_isa_5_6, sgf_isa_1_6, sgf_isa_3_6, sgf_isz_6, sgf_isv_2, sgf_isv_6, sgf_isv_4, sgf_isv_5, sgf_isv_1, sgf_isv_3, gl_MOST_LETTERS, gl_LETTERS, gl_MOST, gl_MOST_PARTS, gl_STAYS, wipeP, List.set_cons_zero, List.set_cons_succ, evSs_nil, List.lookup, Nat.reduceBEq, seq_str, seq_tup, seq_fl, Bool.true_and, Bool.and_true, Bool.false_and, Bool.and_false, beq_self_eq_true]
    (try dsimp only); (try simp only [evS, evE, evEs, evO, evB, evBs, evI, List.map_cons, List.map_nil, List.replicate_succ, List.replicate_zero, List.cons_append, List.nil_append, List.getElem?_cons_zero, List.getElem?_cons_succ, List.set_cons_zero, List.set_cons_succ, bv_add, bv_sub, bv_mul, bv_div, bv_mod, bv_pow, bv_str, av_add, av_sub, cv_lt, cv_le, cv_gt, cv_ge, cv_eq, cv_ne, cv_eqS, cv_neS, tv_bl, tv_int, List.length_cons, List.length_nil, pad, setT_nm, setT_tup, setTs_nil, setTs_cons, decide_eq_true_eq, Bool.not_eq_true', Bool.not_true, Bool.not_false, if_true, if_false, Bool.false_eq_true, Bool.true_eq_false, reduceIte, Nat.reduceAdd, Nat.reduceSub, Nat.reduceBEq, pow_10_9, pow_10_20, pow_10_30, cpow_10_9, cpow_10_20, cpow_10_30, divP_lit, mulP_r, mulP_l, lne_line, lt_line, isi_int, isi_bool, Int.reduceLT, Int.reduceLE, Int.reduceGT, Int.reduceGE, Int.reduceNeg, Int.reduceMul, Int.reduceAdd, Int.reduceSub, Nat.reduceLeDiff, Nat.reduceLT, true_and, and_true, decide_true, decide_false, sgf_pad_22_5, sgf_pad_22_6, sgf_pad_22_7, sgf_pad_22_8, sgf_pad_22_9, sgf_me_8_22, sgf_me_8_23, sgf_me_8_0, sgf_me_8_24, sgf_me_8_4, sgf_me_9_22, sgf_me_9_23, sgf_me_9_0, sgf_me_9_24, sgf_me_9_4, sgf_me_10_6, sgf_me_10_21, sgf_me_10_2, sgf_me_10_20, sgf_me_10_19, sgf_me_10_18, sgf_ini_10, sgf_ini_11, sgf_in0_8, sgf_in0_9, sgf_fl_10_1, sgf_fl_11_12, sgf_fl_11_3, sgf_fl_11_13, sgf_fl_11_14, sgf_fl_11_15, sgf_fl_11_16, sgf_fl_11_17, sgf_fl_11_5, sgf_exc_2, sgf_exc_6, sgf_exc_4, sgf_exc_5, sgf_exc_1, sgf_exc_3, sgf_exm_2_0, sgf_exm_6_0, sgf_exm_4_0, sgf_exm_5_0, sgf_exm_1_0, sgf_exm_3_0, sgf_isa_2_6, sgf_isa_6_6, sgf_isa_4_6, sgf_isa_5_6, sgf_isa_1_6, sgf_isa_3_6, sgf_isz_6, sgf_isv_2, sgf_isv_6, sgf_isv_4, sgf_isv_5, sgf_isv_1, sgf_isv_3, gl_MOST_LETTERS, gl_LETTERS, gl_MOST, gl_MOST_PARTS, gl_STAYS, wipeP, List.set_cons_zero, List.set_cons_succ, evSs_nil, List.lookup, Nat.reduceBEq, seq_str, seq_tup, seq_fl, Bool.true_and, Bool.and_true, Bool.false_and, Bool.and_false, beq_self_eq_true]); rw [evSs_cons]; simp only [evS, evE, evEs, evO, evB, evBs, evI, List.map_cons, List.map_nil, List.replicate_succ, List.replicate_zero, List.cons_append, List.nil_append, List.getElem?_cons_zero, List.getElem?_cons_succ, List.set_cons_zero, List.set_cons_succ, bv_add, bv_sub, bv_mul, bv_div, bv_mod, bv_pow, bv_str, av_add, av_sub, cv_lt, cv_le, cv_gt, cv_ge, cv_eq, cv_ne, cv_eqS, cv_neS, tv_bl, tv_int, List.length_cons, List.length_nil, pad, setT_nm, setT_tup, setTs_nil, setTs_cons, decide_eq_true_eq, Bool.not_eq_true', Bool.not_true, Bool.not_false, if_true, if_false, Bool.false_eq_true, Bool.true_eq_false, reduceIte, Nat.reduceAdd, Nat.reduceSub, Nat.reduceBEq, pow_10_9, pow_10_20, pow_10_30, cpow_10_9, cpow_10_20, cpow_10_30, divP_lit, mulP_r, mulP_l, lne_line, lt_line, isi_int, isi_bool, Int.reduceLT, Int.reduceLE, Int.reduceGT, Int.reduceGE, Int.reduceNeg, Int.reduceMul, Int.reduceAdd, Int.reduceSub, Nat.reduceLeDiff, Nat.reduceLT, true_and, and_true, decide_true, decide_false, sgf_pad_22_5, sgf_pad_22_6, sgf_pad_22_7, sgf_pad_22_8, sgf_pad_22_9, sgf_me_8_22, sgf_me_8_23, sgf_me_8_0, sgf_me_8_24, sgf_me_8_4, sgf_me_9_22, sgf_me_9_23, sgf_me_9_0, sgf_me_9_24, sgf_me_9_4, sgf_me_10_6, sgf_me_10_21, sgf_me_10_2, sgf_me_10_20, sgf_me_10_19, sgf_me_10_18, sgf_ini_10, sgf_ini_11, sgf_in0_8, sgf_in0_9, sgf_fl_10_1, sgf_fl_11_12, sgf_fl_11_3, sgf_fl_11_13, sgf_fl_11_14, sgf_fl_11_15, sgf_fl_11_16, sgf_fl_11_17, sgf_fl_11_5, sgf_exc_2, sgf_exc_6, sgf_exc_4, sgf_exc_5, sgf_exc_1, sgf_exc_3, sgf_exm_2_0, sgf_exm_6_0, sgf_exm_4_0, sgf_exm_5_0, sgf_exm_1_0, sgf_exm_3_0, sgf_isa_2_6, sgf_isa_6_6, sgf_isa_4_6, sgf_isa_5_6, sgf_isa_1_6, sgf_isa_3_6, sgf_isz_6, sgf_isv_2, sgf_isv_6, sgf_isv_4, sgf_isv_5, sgf_isv_1, sgf_isv_3, gl_MOST_LETTERS, gl_LETTERS, gl_MOST, gl_MOST_PARTS, gl_STAYS, wipeP, List.set_cons_zero, List.set_cons_succ, evSs_nil, List.lookup, Nat.reduceBEq, seq_str, seq_tup, seq_fl, Bool.true_and, Bool.and_true, Bool.false_and, Bool.and_false, beq_self_eq_true]
    rw [show (0 : Int) + (w : Nat) = ((w : Nat) : Int) by omega]
    refine caught_sp hw (s5.le lg) (nk.le lg) fun ex nex => ?_
    (try dsimp only); (try simp only [evS, evE, evEs, evO, evB, evBs, evI, List.map_cons, List.map_nil, List.replicate_succ, List.replicate_zero, List.cons_append, List.nil_append, List.getElem?_cons_zero, List.getElem?_cons_succ, List.set_cons_zero, List.set_cons_succ, bv_add, bv_sub, bv_mul, bv_div, bv_mod, bv_pow, bv_str, av_add, av_sub, cv_lt, cv_le, cv_gt, cv_ge, cv_eq, cv_ne, cv_eqS, cv_neS, tv_bl, tv_int, List.length_cons, List.length_nil, pad, setT_nm, setT_tup, setTs_nil, setTs_cons, decide_eq_true_eq, Bool.not_eq_true', Bool.not_true, Bool.not_false, if_true, if_false, Bool.false_eq_true, Bool.true_eq_false, reduceIte, Nat.reduceAdd, Nat.reduceSub, Nat.reduceBEq, pow_10_9, pow_10_20, pow_10_30, cpow_10_9, cpow_10_20, cpow_10_30, divP_lit, mulP_r, mulP_l, lne_line, lt_line, isi_int, isi_bool, Int.reduceLT, Int.reduceLE, Int.reduceGT, Int.reduceGE, Int.reduceNeg, Int.reduceMul, Int.reduceAdd, Int.reduceSub, Nat.reduceLeDiff, Nat.reduceLT, true_and, and_true, decide_true, decide_false, sgf_pad_22_5, sgf_pad_22_6, sgf_pad_22_7, sgf_pad_22_8, sgf_pad_22_9, sgf_me_8_22, sgf_me_8_23, sgf_me_8_0, sgf_me_8_24, sgf_me_8_4, sgf_me_9_22, sgf_me_9_23, sgf_me_9_0, sgf_me_9_24, sgf_me_9_4, sgf_me_10_6, sgf_me_10_21, sgf_me_10_2, sgf_me_10_20, sgf_me_10_19, sgf_me_10_18, sgf_ini_10, sgf_ini_11, sgf_in0_8, sgf_in0_9, sgf_fl_10_1, sgf_fl_11_12, sgf_fl_11_3, sgf_fl_11_13, sgf_fl_11_14, sgf_fl_11_15, sgf_fl_11_16, sgf_fl_11_17, sgf_fl_11_5, sgf_exc_2, sgf_exc_6, sgf_exc_4, sgf_exc_5, sgf_exc_1, sgf_exc_3, sgf_exm_2_0, sgf_exm_6_0, sgf_exm_4_0, sgf_exm_5_0, sgf_exm_1_0, sgf_exm_3_0, sgf_isa_2_6, sgf_isa_6_6, sgf_isa_4_6, sgf_isa_5_6, sgf_isa_1_6, sgf_isa_3_6, sgf_isz_6, sgf_isv_2, sgf_isv_6, sgf_isv_4, sgf_isv_5, sgf_isv_1, sgf_isv_3, gl_MOST_LETTERS, gl_LETTERS, gl_MOST, gl_MOST_PARTS, gl_STAYS, wipeP, List.set_cons_zero, List.set_cons_succ, evSs_nil, List.lookup, Nat.reduceBEq, seq_str, seq_tup, seq_fl, Bool.true_and, Bool.and_true, Bool.false_and, Bool.and_false, beq_self_eq_true]); rw [evSs_cons]; simp only [evS, evE, evEs, evO, evB, evBs, evI, List.map_cons, List.map_nil, List.replicate_succ, List.replicate_zero, List.cons_append, List.nil_append, List.getElem?_cons_zero, List.getElem?_cons_succ, List.set_cons_zero, List.set_cons_succ, bv_add, bv_sub, bv_mul, bv_div, bv_mod, bv_pow, bv_str, av_add, av_sub, cv_lt, cv_le, cv_gt, cv_ge, cv_eq, cv_ne, cv_eqS, cv_neS, tv_bl, tv_int, List.length_cons, List.length_nil, pad, setT_nm, setT_tup, setTs_nil, setTs_cons, decide_eq_true_eq, Bool.not_eq_true', Bool.not_true, Bool.not_false, if_true, if_false, Bool.false_eq_true, Bool.true_eq_false, reduceIte, Nat.reduceAdd, Nat.reduceSub, Nat.reduceBEq, pow_10_9, pow_10_20, pow_10_30, cpow_10_9, cpow_10_20, cpow_10_30, divP_lit, mulP_r, mulP_l, lne_line, lt_line, isi_int, isi_bool, Int.reduceLT, Int.reduceLE, Int.reduceGT, Int.reduceGE, Int.reduceNeg, Int.reduceMul, Int.reduceAdd, Int.reduceSub, Nat.reduceLeDiff, Nat.reduceLT, true_and, and_true, decide_true, decide_false, sgf_pad_22_5, sgf_pad_22_6, sgf_pad_22_7, sgf_pad_22_8, sgf_pad_22_9, sgf_me_8_22, sgf_me_8_23, sgf_me_8_0, sgf_me_8_24, sgf_me_8_4, sgf_me_9_22, sgf_me_9_23, sgf_me_9_0, sgf_me_9_24, sgf_me_9_4, sgf_me_10_6, sgf_me_10_21, sgf_me_10_2, sgf_me_10_20, sgf_me_10_19, sgf_me_10_18, sgf_ini_10, sgf_ini_11, sgf_in0_8, sgf_in0_9, sgf_fl_10_1, sgf_fl_11_12, sgf_fl_11_3, sgf_fl_11_13, sgf_fl_11_14, sgf_fl_11_15, sgf_fl_11_16, sgf_fl_11_17, sgf_fl_11_5, sgf_exc_2, sgf_exc_6, sgf_exc_4, sgf_exc_5, sgf_exc_1, sgf_exc_3, sgf_exm_2_0, sgf_exm_6_0, sgf_exm_4_0, sgf_exm_5_0, sgf_exm_1_0, sgf_exm_3_0, sgf_isa_2_6, sgf_isa_6_6, sgf_isa_4_6, sgf_isa_5_6, sgf_isa_1_6, sgf_isa_3_6, sgf_isz_6, sgf_isv_2, sgf_isv_6, sgf_isv_4, sgf_isv_5, sgf_isv_1, sgf_isv_3, gl_MOST_LETTERS, gl_LETTERS, gl_MOST, gl_MOST_PARTS, gl_STAYS, wipeP, List.set_cons_zero, List.set_cons_succ, evSs_nil, List.lookup, Nat.reduceBEq, seq_str, seq_tup, seq_fl, Bool.true_and, Bool.and_true, Bool.false_and, Bool.and_false, beq_self_eq_true, isxV, pup_same]
    exact nx _ _ ⟨lg.trans (PLe.new nex), _, _, rfl⟩
  · obtain ⟨lg, x4, x5, rfl⟩ := I
    refine ⟨trivial, ?_⟩
    (try dsimp only); (try simp only [evS, evE, evEs, evO, evB, evBs, evI, List.map_cons, List.map_nil, List.replicate_succ, List.replicate_zero, List.cons_append, List.nil_append, List.getElem?_cons_zero, List.getElem?_cons_succ, List.set_cons_zero, List.set_cons_succ, bv_add, bv_sub, bv_mul, bv_div, bv_mod, bv_pow, bv_str, av_add, av_sub, cv_lt, cv_le, cv_gt, cv_ge, cv_eq, cv_ne, cv_eqS, cv_neS, tv_bl, tv_int, List.length_cons, List.length_nil, pad, setT_nm, setT_tup, setTs_nil, setTs_cons, decide_eq_true_eq, Bool.not_eq_true', Bool.not_true, Bool.not_false, if_true, if_false, Bool.false_eq_true, Bool.true_eq_false, reduceIte, Nat.reduceAdd, Nat.reduceSub, Nat.reduceBEq, pow_10_9, pow_10_20, pow_10_30, cpow_10_9, cpow_10_20, cpow_10_30, divP_lit, mulP_r, mulP_l, lne_line, lt_line, isi_int, isi_bool, Int.reduceLT, Int.reduceLE, Int.reduceGT, Int.reduceGE, Int.reduceNeg, Int.reduceMul, Int.reduceAdd, Int.reduceSub, Nat.reduceLeDiff, Nat.reduceLT, true_and, and_true, decide_true, decide_false, sgf_pad_22_5, sgf_pad_22_6, sgf_pad_22_7, sgf_pad_22_8, sgf_pad_22_9, sgf_me_8_22, sgf_me_8_23, sgf_me_8_0, sgf_me_8_24, sgf_me_8_4, sgf_me_9_22, sgf_me_9_23, sgf_me_9_0, sgf_me_9_24, sgf_me_9_4, sgf_me_10_6, sgf_me_10_21, sgf_me_10_2, sgf_me_10_20, sgf_me_10_19, sgf_me_10_18, sgf_ini_10, sgf_ini_11, sgf_in0_8, sgf_in0_9, sgf_fl_10_1, sgf_fl_11_12, sgf_fl_11_3, sgf_fl_11_13, sgf_fl_11_14, sgf_fl_11_15, sgf_fl_11_16, sgf_fl_11_17, sgf_fl_11_5, sgf_exc_2, sgf_exc_6, sgf_exc_4, sgf_exc_5, sgf_exc_1, sgf_exc_3, sgf_exm_2_0, sgf_exm_6_0, sgf_exm_4_0, sgf_exm_5_0, sgf_exm_1_0, sgf_exm_3_0, sgf_isa_2_6, sgf_isa_6_6, sgf_isa_4_6, sgf_isa_5_6, sgf_isa_1_6, sgf_isa_3_6, sgf_isz_6, sgf_isv_2, sgf_isv_6, sgf_isv_4, sgf_isv_5, sgf_isv_1, sgf_isv_3, gl_MOST_LETTERS, gl_LETTERS, gl_MOST, gl_MOST_PARTS, gl_STAYS, wipeP, List.set_cons_zero, List.set_cons_succ, evSs_nil, List.lookup, Nat.reduceBEq, seq_str, seq_tup, seq_fl, Bool.true_and, Bool.and_true, Bool.false_and, Bool.and_false, beq_self_eq_true]); rw [evSs_cons]; simp only [evS, evE, evEs, evO, evB, evBs, evI, List.map_cons, List.map_nil, List.replicate_succ, List.replicate_zero, List.cons_append, List.nil_append, List.getElem?_cons_zero, List.getElem?_cons_succ, List.set_cons_zero, List.set_cons_succ, bv_add, bv_sub, bv_mul, bv_div, bv_mod, bv_pow, bv_str, av_add, av_sub, cv_lt, cv_le, cv_gt, cv_ge, cv_eq, cv_ne, cv_eqS, cv_neS, tv_bl, tv_int, List.length_cons, List.length_nil, pad, setT_nm, setT_tup, setTs_nil, setTs_cons, decide_eq_true_eq, Bool.not_eq_true', Bool.not_true, Bool.not_false, if_true, if_false, Bool.false_eq_true, Bool.true_eq_false, reduceIte, Nat.reduceAdd, Nat.reduceSub, Nat.reduceBEq, pow_10_9, pow_10_20, pow_10_30, cpow_10_9, cpow_10_20, cpow_10_30, divP_lit, mulP_r, mulP_l, lne_line, lt_line, isi_int, isi_bool, Int.reduceLT, Int.reduceLE, Int.reduceGT, Int.reduceGE, Int.reduceNeg, Int.reduceMul, Int.reduceAdd, Int.reduceSub, Nat.reduceLeDiff, Nat.reduceLT, true_and, and_true, decide_true, decide_false, sgf_pad_22_5, sgf_pad_22_6, sgf_pad_22_7, sgf_pad_22_8, sgf_pad_22_9, sgf_me_8_22, sgf_me_8_23, sgf_me_8_0, sgf_me_8_24, sgf_me_8_4, sgf_me_9_22, sgf_me_9_23, sgf_me_9_0, sgf_me_9_24, sgf_me_9_4, sgf_me_10_6, sgf_me_10_21, sgf_me_10_2, sgf_me_10_20, sgf_me_10_19, sgf_me_10_18, sgf_ini_10, sgf_ini_11, sgf_in0_8, sgf_in0_9, sgf_fl_10_1, sgf_fl_11_12, sgf_fl_11_3, sgf_fl_11_13, sgf_fl_11_14, sgf_fl_11_15, sgf_fl_11_16, sgf_fl_11_17, sgf_fl_11_5, sgf_exc_2, sgf_exc_6, sgf_exc_4, sgf_exc_5, sgf_exc_1, sgf_exc_3, sgf_exm_2_0, sgf_exm_6_0, sgf_exm_4_0, sgf_exm_5_0, sgf_exm_1_0, sgf_exm_3_0, sgf_isa_2_6, sgf_isa_6_6, sgf_isa_4_6, sgf_isa_5_6, sgf_isa_1_6, sgf_isa_3_6, sgf_isz_6, sgf_isv_2, sgf_isv_6, sgf_isv_4, sgf_isv_5, sgf_isv_1, sgf_isv_3, gl_MOST_LETTERS, gl_LETTERS, gl_MOST, gl_MOST_PARTS, gl_STAYS, wipeP, List.set_cons_zero, List.set_cons_succ, evSs_nil, List.lookup, Nat.reduceBEq, seq_str, seq_tup, seq_fl, Bool.true_and, Bool.and_true, Bool.false_and, Bool.and_false, beq_self_eq_true]
    exact ret_here (q _ (l5.trans lg))
theorem sleeper_sp {c base : Int} (hb : 1 ≤ base ∧ base ≤ 1000000000) (q : ∀ g e, PLe h g → PGood e → Q (tupP e) g) : sem sg (n + 2) 25 [.int c, .int base] h Q X := by
  refine ⟨⟨2, 5, b25, []⟩, rfl, rfl, ?_⟩
  rw [b25]
  (try dsimp only); (try simp only [evS, evE, evEs, evO, evB, evBs, evI, List.map_cons, List.map_nil, List.replicate_succ, List.replicate_zero, List.cons_append, List.nil_append, List.getElem?_cons_zero, List.getElem?_cons_succ, List.set_cons_zero, List.set_cons_succ, bv_add, bv_sub, bv_mul, bv_div, bv_mod, bv_pow, bv_str, av_add, av_sub, cv_lt, cv_le, cv_gt, cv_ge, cv_eq, cv_ne, cv_eqS, cv_neS, tv_bl, tv_int, List.length_cons, List.length_nil, pad, setT_nm, setT_tup, setTs_nil, setTs_cons, decide_eq_true_eq, Bool.not_eq_true', Bool.not_true, Bool.not_false, if_true, if_false, Bool.false_eq_true, Bool.true_eq_false, reduceIte, Nat.reduceAdd, Nat.reduceSub, Nat.reduceBEq, pow_10_9, pow_10_20, pow_10_30, cpow_10_9, cpow_10_20, cpow_10_30, divP_lit, mulP_r, mulP_l, lne_line, lt_line, isi_int, isi_bool, Int.reduceLT, Int.reduceLE, Int.reduceGT, Int.reduceGE, Int.reduceNeg, Int.reduceMul, Int.reduceAdd, Int.reduceSub, Nat.reduceLeDiff, Nat.reduceLT, true_and, and_true, decide_true, decide_false, sgf_pad_22_5, sgf_pad_22_6, sgf_pad_22_7, sgf_pad_22_8, sgf_pad_22_9, sgf_me_8_22, sgf_me_8_23, sgf_me_8_0, sgf_me_8_24, sgf_me_8_4, sgf_me_9_22, sgf_me_9_23, sgf_me_9_0, sgf_me_9_24, sgf_me_9_4, sgf_me_10_6, sgf_me_10_21, sgf_me_10_2, sgf_me_10_20, sgf_me_10_19, sgf_me_10_18, sgf_ini_10, sgf_ini_11, sgf_in0_8, sgf_in0_9, sgf_fl_10_1, sgf_fl_11_12, sgf_fl_11_3, sgf_fl_11_13, sgf_fl_11_14, sgf_fl_11_15, sgf_fl_11_16, sgf_fl_11_17, sgf_fl_11_5, sgf_exc_2, sgf_exc_6, sgf_exc_4, sgf_exc_5, sgf_exc_1, sgf_exc_3, sgf_exm_2_0, sgf_exm_6_0, sgf_exm_4_0, sgf_exm_5_0, sgf_exm_1_0, sgf_exm_3_0, sgf_isa_2_6, sgf_isa_6_6, sgf_isa_4_6, sgf_isa_5_6, sgf_isa_1_6, sgf_isa_3_6, sgf_isz_6, sgf_isv_2, sgf_isv_6, sgf_isv_4, sgf_isv_5, sgf_isv_1, sgf_isv_3, gl_MOST_LETTERS, gl_LETTERS, gl_MOST, gl_MOST_PARTS, gl_STAYS, wipeP, List.set_cons_zero, List.set_cons_succ, evSs_nil, List.lookup, Nat.reduceBEq, seq_str, seq_tup, seq_fl, Bool.true_and, Bool.and_true, Bool.false_and, Bool.and_false, beq_self_eq_true]); rw [evSs_cons]; simp only [evS, evE, evEs, evO, evB, evBs, evI, List.map_cons, List.map_nil, List.replicate_succ, List.replicate_zero, List.cons_append, List.nil_append, List.getElem?_cons_zero, List.getElem?_cons_succ, List.set_cons_zero, List.set_cons_succ, bv_add, bv_sub, bv_mul, bv_div, bv_mod, bv_pow, bv_str, av_add, av_sub, cv_lt, cv_le, cv_gt, cv_ge, cv_eq, cv_ne, cv_eqS, cv_neS, tv_bl, tv_int, List.length_cons, List.length_nil, pad, setT_nm, setT_tup, setTs_nil, setTs_cons, decide_eq_true_eq, Bool.not_eq_true', Bool.not_true, Bool.not_false, if_true, if_false, Bool.false_eq_true, Bool.true_eq_false, reduceIte, Nat.reduceAdd, Nat.reduceSub, Nat.reduceBEq, pow_10_9, pow_10_20, pow_10_30, cpow_10_9, cpow_10_20, cpow_10_30, divP_lit, mulP_r, mulP_l, lne_line, lt_line, isi_int, isi_bool, Int.reduceLT, Int.reduceLE, Int.reduceGT, Int.reduceGE, Int.reduceNeg, Int.reduceMul, Int.reduceAdd, Int.reduceSub, Nat.reduceLeDiff, Nat.reduceLT, true_and, and_true, decide_true, decide_false, sgf_pad_22_5, sgf_pad_22_6, sgf_pad_22_7, sgf_pad_22_8, sgf_pad_22_9, sgf_me_8_22, sgf_me_8_23, sgf_me_8_0, sgf_me_8_24, sgf_me_8_4, sgf_me_9_22, sgf_me_9_23, sgf_me_9_0, sgf_me_9_24, sgf_me_9_4, sgf_me_10_6, sgf_me_10_21, sgf_me_10_2, sgf_me_10_20, sgf_me_10_19, sgf_me_10_18, sgf_ini_10, sgf_ini_11, sgf_in0_8, sgf_in0_9, sgf_fl_10_1, sgf_fl_11_12, sgf_fl_11_3, sgf_fl_11_13, sgf_fl_11_14, sgf_fl_11_15, sgf_fl_11_16, sgf_fl_11_17, sgf_fl_11_5, sgf_exc_2, sgf_exc_6, sgf_exc_4, sgf_exc_5, sgf_exc_1, sgf_exc_3, sgf_exm_2_0, sgf_exm_6_0, sgf_exm_4_0, sgf_exm_5_0, sgf_exm_1_0, sgf_exm_3_0, sgf_isa_2_6, sgf_isa_6_6, sgf_isa_4_6, sgf_isa_5_6, sgf_isa_1_6, sgf_isa_3_6, sgf_isz_6, sgf_isv_2, sgf_isv_6, sgf_isv_4, sgf_isv_5, sgf_isv_1, sgf_isv_3, gl_MOST_LETTERS, gl_LETTERS, gl_MOST, gl_MOST_PARTS, gl_STAYS, wipeP, List.set_cons_zero, List.set_cons_succ, evSs_nil, List.lookup, Nat.reduceBEq, seq_str, seq_tup, seq_fl, Bool.true_and, Bool.and_true, Bool.false_and, Bool.and_false, beq_self_eq_true]
  refine mixed_sp (by decide) (by decide) ?_
  have M0 := mix_lo c 3
  generalize mix c 3 = M at M0 ⊢
  (try dsimp only); (try simp only [evS, evE, evEs, evO, evB, evBs, evI, List.map_cons, List.map_nil, List.replicate_succ, List.replicate_zero, List.cons_append, List.nil_append, List.getElem?_cons_zero, List.getElem?_cons_succ, List.set_cons_zero, List.set_cons_succ, bv_add, bv_sub, bv_mul, bv_div, bv_mod, bv_pow, bv_str, av_add, av_sub, cv_lt, cv_le, cv_gt, cv_ge, cv_eq, cv_ne, cv_eqS, cv_neS, tv_bl, tv_int, List.length_cons, List.length_nil, pad, setT_nm, setT_tup, setTs_nil, setTs_cons, decide_eq_true_eq, Bool.not_eq_true', Bool.not_true, Bool.not_false, if_true, if_false, Bool.false_eq_true, Bool.true_eq_false, reduceIte, Nat.reduceAdd, Nat.reduceSub, Nat.reduceBEq, pow_10_9, pow_10_20, pow_10_30, cpow_10_9, cpow_10_20, cpow_10_30, divP_lit, mulP_r, mulP_l, lne_line, lt_line, isi_int, isi_bool, Int.reduceLT, Int.reduceLE, Int.reduceGT, Int.reduceGE, Int.reduceNeg, Int.reduceMul, Int.reduceAdd, Int.reduceSub, Nat.reduceLeDiff, Nat.reduceLT, true_and, and_true, decide_true, decide_false, sgf_pad_22_5, sgf_pad_22_6, sgf_pad_22_7, sgf_pad_22_8, sgf_pad_22_9, sgf_me_8_22, sgf_me_8_23, sgf_me_8_0, sgf_me_8_24, sgf_me_8_4, sgf_me_9_22, sgf_me_9_23, sgf_me_9_0, sgf_me_9_24, sgf_me_9_4, sgf_me_10_6, sgf_me_10_21, sgf_me_10_2, sgf_me_10_20, sgf_me_10_19, sgf_me_10_18, sgf_ini_10, sgf_ini_11, sgf_in0_8, sgf_in0_9, sgf_fl_10_1, sgf_fl_11_12, sgf_fl_11_3, sgf_fl_11_13, sgf_fl_11_14, sgf_fl_11_15, sgf_fl_11_16, sgf_fl_11_17, sgf_fl_11_5, sgf_exc_2, sgf_exc_6, sgf_exc_4, sgf_exc_5, sgf_exc_1, sgf_exc_3, sgf_exm_2_0, sgf_exm_6_0, sgf_exm_4_0, sgf_exm_5_0, sgf_exm_1_0, sgf_exm_3_0, sgf_isa_2_6, sgf_isa_6_6, sgf_isa_4_6, sgf_isa_5_6, sgf_isa_1_6, sgf_isa_3_6, sgf_isz_6, sgf_isv_2, sgf_isv_6, sgf_isv_4, sgf_isv_5, sgf_isv_1, sgf_isv_3, gl_MOST_LETTERS, gl_LETTERS, gl_MOST, gl_MOST_PARTS, gl_STAYS, wipeP, List.set_cons_zero, List.set_cons_succ, evSs_nil, List.lookup, Nat.reduceBEq, seq_str, seq_tup, seq_fl, Bool.true_and, Bool.and_true, Bool.false_and, Bool.and_false, beq_self_eq_true]); rw [evSs_cons]; simp only [evS, evE, evEs, evO, evB, evBs, evI, List.map_cons, List.map_nil, List.replicate_succ, List.replicate_zero, List.cons_append, List.nil_append, List.getElem?_cons_zero, List.getElem?_cons_succ, List.set_cons_zero, List.set_cons_succ, bv_add, bv_sub, bv_mul, bv_div, bv_mod, bv_pow, bv_str, av_add, av_sub, cv_lt, cv_le, cv_gt, cv_ge, cv_eq, cv_ne, cv_eqS, cv_neS, tv_bl, tv_int, List.length_cons, List.length_nil, pad, setT_nm, setT_tup, setTs_nil, setTs_cons, decide_eq_true_eq, Bool.not_eq_true', Bool.not_true, Bool.not_false, if_true, if_false, Bool.false_eq_true, Bool.true_eq_false, reduceIte, Nat.reduceAdd, Nat.reduceSub, Nat.reduceBEq, pow_10_9, pow_10_20, pow_10_30, cpow_10_9, cpow_10_20, cpow_10_30, divP_lit, mulP_r, mulP_l, lne_line, lt_line, isi_int, isi_bool, Int.reduceLT, Int.reduceLE, Int.reduceGT, Int.reduceGE, Int.reduceNeg, Int.reduceMul, Int.reduceAdd, Int.reduceSub, Nat.reduceLeDiff, Nat.reduceLT, true_and, and_true, decide_true, decide_false, sgf_pad_22_5, sgf_pad_22_6, sgf_pad_22_7, sgf_pad_22_8, sgf_pad_22_9, sgf_me_8_22, sgf_me_8_23, sgf_me_8_0, sgf_me_8_24, sgf_me_8_4, sgf_me_9_22, sgf_me_9_23, sgf_me_9_0, sgf_me_9_24, sgf_me_9_4, sgf_me_10_6, sgf_me_10_21, sgf_me_10_2, sgf_me_10_20, sgf_me_10_19, sgf_me_10_18, sgf_ini_10, sgf_ini_11, sgf_in0_8, sgf_in0_9, sgf_fl_10_1, sgf_fl_11_12, sgf_fl_11_3, sgf_fl_11_13, sgf_fl_11_14, sgf_fl_11_15, sgf_fl_11_16, sgf_fl_11_17, sgf_fl_11_5, sgf_exc_2, sgf_exc_6, sgf_exc_4, sgf_exc_5, sgf_exc_1, sgf_exc_3, sgf_exm_2_0, sgf_exm_6_0, sgf_exm_4_0, sgf_exm_5_0, sgf_exm_1_0, sgf_exm_3_0, sgf_isa_2_6, sgf_isa_6_6, sgf_isa_4_6, sgf_isa_5_6, sgf_isa_1_6, sgf_isa_3_6, sgf_isz_6, sgf_isv_2, sgf_isv_6, sgf_isv_4, sgf_isv_5, sgf_isv_1, sgf_isv_3, gl_MOST_LETTERS, gl_LETTERS, gl_MOST, gl_MOST_PARTS, gl_STAYS, wipeP, List.set_cons_zero, List.set_cons_succ, evSs_nil, List.lookup, Nat.reduceBEq, seq_str, seq_tup, seq_fl, Bool.true_and, Bool.and_true, Bool.false_and, Bool.and_false, beq_self_eq_true]
  intro p1 n1
  refine pickL pup_same (Int.emod_nonneg _ (by decide)) (Int.emod_lt_of_pos _ (by decide)) fun pv hpv => ?_
  have u1 := PLe.new (c := .lst [.non, .int (1 + M / 4 % 1000000000)]) n1
  generalize pup h p1 _ = g1 at u1 ⊢
  have a0 := Int.emod_nonneg (M / 4) (b := 1000000000) (by decide)
  have a1 := Int.emod_lt_of_pos (M / 4) (b := 1000000000) (by decide)
  obtain ⟨po, rfl, hpo⟩ : ∃ po, pv = optP po ∧ ∀ i, po = some i → 1 ≤ i ∧ i ≤ 1000000000 := by
    simp only [List.mem_cons, List.mem_nil_iff, or_false] at hpv
    rcases hpv with rfl | rfl
    · exact ⟨none, rfl, fun i e => (by cases e)⟩
    · exact ⟨some (1 + M / 4 % 1000000000), rfl, fun i e => (by cases e; omega)⟩
  (try dsimp only); (try simp only [evS, evE, evEs, evO, evB, evBs, evI, List.map_cons, List.map_nil, List.replicate_succ, List.replicate_zero, List.cons_append, List.nil_append, List.getElem?_cons_zero, List.getElem?_cons_succ, List.set_cons_zero, List.set_cons_succ, bv_add, bv_sub, bv_mul, bv_div, bv_mod, bv_pow, bv_str, av_add, av_sub, cv_lt, cv_le, cv_gt, cv_ge, cv_eq, cv_ne, cv_eqS, cv_neS, tv_bl, tv_int, List.length_cons, List.length_nil, pad, setT_nm, setT_tup, setTs_nil, setTs_cons, decide_eq_true_eq, Bool.not_eq_true', Bool.not_true, Bool.not_false, if_true, if_false, Bool.false_eq_true, Bool.true_eq_false, reduceIte, Nat.reduceAdd, Nat.reduceSub, Nat.reduceBEq, pow_10_9, pow_10_20, pow_10_30, cpow_10_9, cpow_10_20, cpow_10_30, divP_lit, mulP_r, mulP_l, lne_line, lt_line, isi_int, isi_bool, Int.reduceLT, Int.reduceLE, Int.reduceGT, Int.reduceGE, Int.reduceNeg, Int.reduceMul, Int.reduceAdd, Int.reduceSub, Nat.reduceLeDiff, Nat.reduceLT, true_and, and_true, decide_true, decide_false, sgf_pad_22_5, sgf_pad_22_6, sgf_pad_22_7, sgf_pad_22_8, sgf_pad_22_9, sgf_me_8_22, sgf_me_8_23, sgf_me_8_0, sgf_me_8_24, sgf_me_8_4, sgf_me_9_22, sgf_me_9_23, sgf_me_9_0, sgf_me_9_24, sgf_me_9_4, sgf_me_10_6, sgf_me_10_21, sgf_me_10_2, sgf_me_10_20, sgf_me_10_19, sgf_me_10_18, sgf_ini_10, sgf_ini_11, sgf_in0_8, sgf_in0_9, sgf_fl_10_1, sgf_fl_11_12, sgf_fl_11_3, sgf_fl_11_13, sgf_fl_11_14, sgf_fl_11_15, sgf_fl_11_16, sgf_fl_11_17, sgf_fl_11_5, sgf_exc_2, sgf_exc_6, sgf_exc_4, sgf_exc_5, sgf_exc_1, sgf_exc_3, sgf_exm_2_0, sgf_exm_6_0, sgf_exm_4_0, sgf_exm_5_0, sgf_exm_1_0, sgf_exm_3_0, sgf_isa_2_6, sgf_isa_6_6, sgf_isa_4_6, sgf_isa_5_6, sgf_isa_1_6, sgf_isa_3_6, sgf_isz_6, sgf_isv_2, sgf_isv_6, sgf_isv_4, sgf_isv_5, sgf_isv_1, sgf_isv_3, gl_MOST_LETTERS, gl_LETTERS, gl_MOST, gl_MOST_PARTS, gl_STAYS, wipeP, List.set_cons_zero, List.set_cons_succ, evSs_nil, List.lookup, Nat.reduceBEq, seq_str, seq_tup, seq_fl, Bool.true_and, Bool.and_true, Bool.false_and, Bool.and_false, beq_self_eq_true]); rw [evSs_cons]; simp only [evS, evE, evEs, evO, evB, evBs, evI, List.map_cons, List.map_nil, List.replicate_succ, List.replicate_zero, List.cons_append, List.nil_append, List.getElem?_cons_zero, List.getElem?_cons_succ, List.set_cons_zero, List.set_cons_succ, bv_add, bv_sub, bv_mul, bv_div, bv_mod, bv_pow, bv_str, av_add, av_sub, cv_lt, cv_le, cv_gt, cv_ge, cv_eq, cv_ne, cv_eqS, cv_neS, tv_bl, tv_int, List.length_cons, List.length_nil, pad, setT_nm, setT_tup, setTs_nil, setTs_cons, decide_eq_true_eq, Bool.not_eq_true', Bool.not_true, Bool.not_false, if_true, if_false, Bool.false_eq_true, Bool.true_eq_false, reduceIte, Nat.reduceAdd, Nat.reduceSub, Nat.reduceBEq, pow_10_9, pow_10_20, pow_10_30, cpow_10_9, cpow_10_20, cpow_10_30, divP_lit, mulP_r, mulP_l, lne_line, lt_line, isi_int, isi_bool, Int.reduceLT, Int.reduceLE, Int.reduceGT, Int.reduceGE, Int.reduceNeg, Int.reduceMul, Int.reduceAdd, Int.reduceSub, Nat.reduceLeDiff, Nat.reduceLT, true_and, and_true, decide_true, decide_false, sgf_pad_22_5, sgf_pad_22_6, sgf_pad_22_7, sgf_pad_22_8, sgf_pad_22_9, sgf_me_8_22, sgf_me_8_23, sgf_me_8_0, sgf_me_8_24, sgf_me_8_4, sgf_me_9_22, sgf_me_9_23, sgf_me_9_0, sgf_me_9_24, sgf_me_9_4, sgf_me_10_6, sgf_me_10_21, sgf_me_10_2, sgf_me_10_20, sgf_me_10_19, sgf_me_10_18, sgf_ini_10, sgf_ini_11, sgf_in0_8, sgf_in0_9, sgf_fl_10_1, sgf_fl_11_12, sgf_fl_11_3, sgf_fl_11_13, sgf_fl_11_14, sgf_fl_11_15, sgf_fl_11_16, sgf_fl_11_17, sgf_fl_11_5, sgf_exc_2, sgf_exc_6, sgf_exc_4, sgf_exc_5, sgf_exc_1, sgf_exc_3, sgf_exm_2_0, sgf_exm_6_0, sgf_exm_4_0, sgf_exm_5_0, sgf_exm_1_0, sgf_exm_3_0, sgf_isa_2_6, sgf_isa_6_6, sgf_isa_4_6, sgf_isa_5_6, sgf_isa_1_6, sgf_isa_3_6, sgf_isz_6, sgf_isv_2, sgf_isv_6, sgf_isv_4, sgf_isv_5, sgf_isv_1, sgf_isv_3, gl_MOST_LETTERS, gl_LETTERS, gl_MOST, gl_MOST_PARTS, gl_STAYS, wipeP, List.set_cons_zero, List.set_cons_succ, evSs_nil, List.lookup, Nat.reduceBEq, seq_str, seq_tup, seq_fl, Bool.true_and, Bool.and_true, Bool.false_and, Bool.and_false, beq_self_eq_true]
  refine mixed_sp (by decide) (by decide) ?_
  have M4 := mix_lo c 4
  generalize mix c 4 = N at M4 ⊢
  intro p2 n2
  refine pickL pup_same (Int.emod_nonneg _ (by decide)) (Int.emod_lt_of_pos _ (by decide)) fun dv hdv => ?_
  have u2 := PLe.new (c := .lst [.int 2, .int 7, .int 40]) n2
  generalize pup g1 p2 _ = g2 at u2 ⊢
  obtain ⟨D, rfl, D0⟩ : ∃ D, dv = .int D ∧ 1 ≤ D ∧ D ≤ 40 := by
    simp only [List.mem_cons, List.mem_nil_iff, or_false] at hdv
    rcases hdv with rfl | rfl | rfl
    · exact ⟨_, rfl, by decide⟩
    · exact ⟨_, rfl, by decide⟩
    · exact ⟨_, rfl, by decide⟩
  have b0 := Int.emod_nonneg N (b := D) (by omega)
  simp only [evS, evE, evEs, evO, evB, evBs, evI, List.map_cons, List.map_nil, List.replicate_succ, List.replicate_zero, List.cons_append, List.nil_append, List.getElem?_cons_zero, List.getElem?_cons_succ, List.set_cons_zero, List.set_cons_succ, bv_add, bv_sub, bv_mul, bv_div, bv_mod, bv_pow, bv_str, av_add, av_sub, cv_lt, cv_le, cv_gt, cv_ge, cv_eq, cv_ne, cv_eqS, cv_neS, tv_bl, tv_int, List.length_cons, List.length_nil, pad, setT_nm, setT_tup, setTs_nil, setTs_cons, decide_eq_true_eq, Bool.not_eq_true', Bool.not_true, Bool.not_false, if_true, if_false, Bool.false_eq_true, Bool.true_eq_false, reduceIte, Nat.reduceAdd, Nat.reduceSub, Nat.reduceBEq, pow_10_9, pow_10_20, pow_10_30, cpow_10_9, cpow_10_20, cpow_10_30, divP_lit, mulP_r, mulP_l, lne_line, lt_line, isi_int, isi_bool, Int.reduceLT, Int.reduceLE, Int.reduceGT, Int.reduceGE, Int.reduceNeg, Int.reduceMul, Int.reduceAdd, Int.reduceSub, Nat.reduceLeDiff, Nat.reduceLT, true_and, and_true, decide_true, decide_false, sgf_pad_22_5, sgf_pad_22_6, sgf_pad_22_7, sgf_pad_22_8, sgf_pad_22_9, sgf_me_8_22, sgf_me_8_23, sgf_me_8_0, sgf_me_8_24, sgf_me_8_4, sgf_me_9_22, sgf_me_9_23, sgf_me_9_0, sgf_me_9_24, sgf_me_9_4, sgf_me_10_6, sgf_me_10_21, sgf_me_10_2, sgf_me_10_20, sgf_me_10_19, sgf_me_10_18, sgf_ini_10, sgf_ini_11, sgf_in0_8, sgf_in0_9, sgf_fl_10_1, sgf_fl_11_12, sgf_fl_11_3, sgf_fl_11_13, sgf_fl_11_14, sgf_fl_11_15, sgf_fl_11_16, sgf_fl_11_17, sgf_fl_11_5, sgf_exc_2, sgf_exc_6, sgf_exc_4, sgf_exc_5, sgf_exc_1, sgf_exc_3, sgf_exm_2_0, sgf_exm_6_0, sgf_exm_4_0, sgf_exm_5_0, sgf_exm_1_0, sgf_exm_3_0, sgf_isa_2_6, sgf_isa_6_6, sgf_isa_4_6, sgf_isa_5_6, sgf_isa_1_6, sgf_isa_3_6, sgf_isz_6, sgf_isv_2, sgf_isv_6, sgf_isv_4, sgf_isv_5, sgf_isv_1, sgf_isv_3, gl_MOST_LETTERS, gl_LETTERS, gl_MOST, gl_MOST_PARTS, gl_STAYS, wipeP, List.set_cons_zero, List.set_cons_succ, evSs_nil, List.lookup, Nat.reduceBEq, seq_str, seq_tup, seq_fl, Bool.true_and, Bool.and_true, Bool.false_and, Bool.and_false, beq_self_eq_true, bltV]
  refine ⟨by omega, ?_⟩
  obtain ⟨W, hW, W0⟩ : ∃ W, (if base + N % D < 1000000000 then base + N % D else 1000000000) = W ∧ 1 ≤ W ∧ W ≤ 1000000000 := ⟨_, rfl, by split <;> omega⟩
  rw [hW]
  (try dsimp only); (try simp only [evS, evE, evEs, evO, evB, evBs, evI, List.map_cons, List.map_nil, List.replicate_succ, List.replicate_zero, List.cons_append, List.nil_append, List.getElem?_cons_zero, List.getElem?_cons_succ, List.set_cons_zero, List.set_cons_succ, bv_add, bv_sub, bv_mul, bv_div, bv_mod, bv_pow, bv_str, av_add, av_sub, cv_lt, cv_le, cv_gt, cv_ge, cv_eq, cv_ne, cv_eqS, cv_neS, tv_bl, tv_int, List.length_cons, List.length_nil, pad, setT_nm, setT_tup, setTs_nil, setTs_cons, decide_eq_true_eq, Bool.not_eq_true', Bool.not_true, Bool.not_false, if_true, if_false, Bool.false_eq_true, Bool.true_eq_false, reduceIte, Nat.reduceAdd, Nat.reduceSub, Nat.reduceBEq, pow_10_9, pow_10_20, pow_10_30, cpow_10_9, cpow_10_20, cpow_10_30, divP_lit, mulP_r, mulP_l, lne_line, lt_line, isi_int, isi_bool, Int.reduceLT, Int.reduceLE, Int.reduceGT, Int.reduceGE, Int.reduceNeg, Int.reduceMul, Int.reduceAdd, Int.reduceSub, Nat.reduceLeDiff, Nat.reduceLT, true_and, and_true, decide_true, decide_false, sgf_pad_22_5, sgf_pad_22_6, sgf_pad_22_7, sgf_pad_22_8, sgf_pad_22_9, sgf_me_8_22, sgf_me_8_23, sgf_me_8_0, sgf_me_8_24, sgf_me_8_4, sgf_me_9_22, sgf_me_9_23, sgf_me_9_0, sgf_me_9_24, sgf_me_9_4, sgf_me_10_6, sgf_me_10_21, sgf_me_10_2, sgf_me_10_20, sgf_me_10_19, sgf_me_10_18, sgf_ini_10, sgf_ini_11, sgf_in0_8, sgf_in0_9, sgf_fl_10_1, sgf_fl_11_12, sgf_fl_11_3, sgf_fl_11_13, sgf_fl_11_14, sgf_fl_11_15, sgf_fl_11_16, sgf_fl_11_17, sgf_fl_11_5, sgf_exc_2, sgf_exc_6, sgf_exc_4, sgf_exc_5, sgf_exc_1, sgf_exc_3, sgf_exm_2_0, sgf_exm_6_0, sgf_exm_4_0, sgf_exm_5_0, sgf_exm_1_0, sgf_exm_3_0, sgf_isa_2_6, sgf_isa_6_6, sgf_isa_4_6, sgf_isa_5_6, sgf_isa_1_6, sgf_isa_3_6, sgf_isz_6, sgf_isv_2, sgf_isv_6, sgf_isv_4, sgf_isv_5, sgf_isv_1, sgf_isv_3, gl_MOST_LETTERS, gl_LETTERS, gl_MOST, gl_MOST_PARTS, gl_STAYS, wipeP, List.set_cons_zero, List.set_cons_succ, evSs_nil, List.lookup, Nat.reduceBEq, seq_str, seq_tup, seq_fl, Bool.true_and, Bool.and_true, Bool.false_and, Bool.and_false, beq_self_eq_true]); rw [evSs_cons]; simp only [evS, evE, evEs, evO, evB, evBs, evI, List.map_cons, List.map_nil, List.replicate_succ, List.replicate_zero, List.cons_append, List.nil_append, List.getElem?_cons_zero, List.getElem?_cons_succ, List.set_cons_zero, List.set_cons_succ, bv_add, bv_sub, bv_mul, bv_div, bv_mod, bv_pow, bv_str, av_add, av_sub, cv_lt, cv_le, cv_gt, cv_ge, cv_eq, cv_ne, cv_eqS, cv_neS, tv_bl, tv_int, List.length_cons, List.length_nil, pad, setT_nm, setT_tup, setTs_nil, setTs_cons, decide_eq_true_eq, Bool.not_eq_true', Bool.not_true, Bool.not_false, if_true, if_false, Bool.false_eq_true, Bool.true_eq_false, reduceIte, Nat.reduceAdd, Nat.reduceSub, Nat.reduceBEq, pow_10_9, pow_10_20, pow_10_30, cpow_10_9, cpow_10_20, cpow_10_30, divP_lit, mulP_r, mulP_l, lne_line, lt_line, isi_int, isi_bool, Int.reduceLT, Int.reduceLE, Int.reduceGT, Int.reduceGE, Int.reduceNeg, Int.reduceMul, Int.reduceAdd, Int.reduceSub, Nat.reduceLeDiff, Nat.reduceLT, true_and, and_true, decide_true, decide_false, sgf_pad_22_5, sgf_pad_22_6, sgf_pad_22_7, sgf_pad_22_8, sgf_pad_22_9, sgf_me_8_22, sgf_me_8_23, sgf_me_8_0, sgf_me_8_24, sgf_me_8_4, sgf_me_9_22, sgf_me_9_23, sgf_me_9_0, sgf_me_9_24, sgf_me_9_4, sgf_me_10_6, sgf_me_10_21, sgf_me_10_2, sgf_me_10_20, sgf_me_10_19, sgf_me_10_18, sgf_ini_10, sgf_ini_11, sgf_in0_8, sgf_in0_9, sgf_fl_10_1, sgf_fl_11_12, sgf_fl_11_3, sgf_fl_11_13, sgf_fl_11_14, sgf_fl_11_15, sgf_fl_11_16, sgf_fl_11_17, sgf_fl_11_5, sgf_exc_2, sgf_exc_6, sgf_exc_4, sgf_exc_5, sgf_exc_1, sgf_exc_3, sgf_exm_2_0, sgf_exm_6_0, sgf_exm_4_0, sgf_exm_5_0, sgf_exm_1_0, sgf_exm_3_0, sgf_isa_2_6, sgf_isa_6_6, sgf_isa_4_6, sgf_isa_5_6, sgf_isa_1_6, sgf_isa_3_6, sgf_isz_6, sgf_isv_2, sgf_isv_6, sgf_isv_4, sgf_isv_5, sgf_isv_1, sgf_isv_3, gl_MOST_LETTERS, gl_LETTERS, gl_MOST, gl_MOST_PARTS, gl_STAYS, wipeP, List.set_cons_zero, List.set_cons_succ, evSs_nil, List.lookup, Nat.reduceBEq, seq_str, seq_tup, seq_fl, Bool.true_and, Bool.and_true, Bool.false_and, Bool.and_false, beq_self_eq_true]
  intro p3 n3
  refine pickL pup_same (Int.emod_nonneg _ (by decide)) (Int.emod_lt_of_pos _ (by decide)) fun sd hsd => ?_
  have u3 := PLe.new (c := .lst [.str (Str.ofString "buy"), .str (Str.ofString "sell")]) n3
  generalize pup g2 p3 _ = g3 at u3 ⊢
  obtain ⟨b, rfl⟩ : ∃ b, sd = .str (sideW b) := by
    simp only [List.mem_cons, List.mem_nil_iff, or_false] at hsd
    rcases hsd with rfl | rfl
    · exact ⟨true, rfl⟩
    · exact ⟨false, rfl⟩
  refine mixed_sp (by decide) (by decide) ?_
  have M5 := mix_lo c 5
  generalize mix c 5 = R at M5 ⊢
  have c0 := Int.emod_nonneg R (b := 1000000000) (by decide)
  have c1 := Int.emod_lt_of_pos R (b := 1000000000) (by decide)
  (try simp only [evS, evE, evEs, evO, evB, evBs, evI, List.map_cons, List.map_nil, List.replicate_succ, List.replicate_zero, List.cons_append, List.nil_append, List.getElem?_cons_zero, List.getElem?_cons_succ, List.set_cons_zero, List.set_cons_succ, bv_add, bv_sub, bv_mul, bv_div, bv_mod, bv_pow, bv_str, av_add, av_sub, cv_lt, cv_le, cv_gt, cv_ge, cv_eq, cv_ne, cv_eqS, cv_neS, tv_bl, tv_int, List.length_cons, List.length_nil, pad, setT_nm, setT_tup, setTs_nil, setTs_cons, decide_eq_true_eq, Bool.not_eq_true', Bool.not_true, Bool.not_false, if_true, if_false, Bool.false_eq_true, Bool.true_eq_false, reduceIte, Nat.reduceAdd, Nat.reduceSub, Nat.reduceBEq, pow_10_9, pow_10_20, pow_10_30, cpow_10_9, cpow_10_20, cpow_10_30, divP_lit, mulP_r, mulP_l, lne_line, lt_line, isi_int, isi_bool, Int.reduceLT, Int.reduceLE, Int.reduceGT, Int.reduceGE, Int.reduceNeg, Int.reduceMul, Int.reduceAdd, Int.reduceSub, Nat.reduceLeDiff, Nat.reduceLT, true_and, and_true, decide_true, decide_false, sgf_pad_22_5, sgf_pad_22_6, sgf_pad_22_7, sgf_pad_22_8, sgf_pad_22_9, sgf_me_8_22, sgf_me_8_23, sgf_me_8_0, sgf_me_8_24, sgf_me_8_4, sgf_me_9_22, sgf_me_9_23, sgf_me_9_0, sgf_me_9_24, sgf_me_9_4, sgf_me_10_6, sgf_me_10_21, sgf_me_10_2, sgf_me_10_20, sgf_me_10_19, sgf_me_10_18, sgf_ini_10, sgf_ini_11, sgf_in0_8, sgf_in0_9, sgf_fl_10_1, sgf_fl_11_12, sgf_fl_11_3, sgf_fl_11_13, sgf_fl_11_14, sgf_fl_11_15, sgf_fl_11_16, sgf_fl_11_17, sgf_fl_11_5, sgf_exc_2, sgf_exc_6, sgf_exc_4, sgf_exc_5, sgf_exc_1, sgf_exc_3, sgf_exm_2_0, sgf_exm_6_0, sgf_exm_4_0, sgf_exm_5_0, sgf_exm_1_0, sgf_exm_3_0, sgf_isa_2_6, sgf_isa_6_6, sgf_isa_4_6, sgf_isa_5_6, sgf_isa_1_6, sgf_isa_3_6, sgf_isz_6, sgf_isv_2, sgf_isv_6, sgf_isv_4, sgf_isv_5, sgf_isv_1, sgf_isv_3, gl_MOST_LETTERS, gl_LETTERS, gl_MOST, gl_MOST_PARTS, gl_STAYS, wipeP, List.set_cons_zero, List.set_cons_succ, evSs_nil, List.lookup, Nat.reduceBEq, seq_str, seq_tup, seq_fl, Bool.true_and, Bool.and_true, Bool.false_and, Bool.and_false, beq_self_eq_true])
  exact ret_here (q _ ⟨b, po, 1 + R % 1000000000, W⟩ ((u1.trans u2).trans u3) ⟨hpo, ⟨by show 1 ≤ 1 + R % 1000000000; omega, by show 1 + R % 1000000000 ≤ 1000000000; omega⟩, W0⟩)
end
end LK

set_option autoImplicit false
namespace LK
open PySem L2 PySem.Spec Mir
open PyProof.Rows hiding St
section
variable {n : Nat} {h : PH} {Q : QE} {X : Mir.XE}
theorem ne_new {g : PH} {p x : Addr} {c : Cell} (m : g p = none) (e : g x = some c) : p ≠ x := fun z => by subst z; rw [m] at e; cases e
theorem none_le {g g' : PH} {p : Addr} (l : PLe g g') (m : g' p = none) : g p = none := by
  cases z : g p with
  | none => rfl
  | some c => rw [l _ _ z] at m; cases m
theorem due_kind (L : List Ent) (last : Int) : dueV L last = .non ∨ ∃ k, dueV L last = .int k := by
  unfold dueV
  split
  · exact .inr ⟨_, rfl⟩
  · exact .inl rfl
theorem isi_due {L : List Ent} {last : Int} {R : Bool → Prop} : isiV sg (dueV L last) h .bool R = R false := by
  rcases due_kind L last with e | ⟨k, e⟩ <;> rw [e] <;> rfl
theorem ne_due {L : List Ent} {last : Int} {R : Bool → Prop} : cmpV .ne (dueV L last) (dueV L last) h R = R false := by
  rcases due_kind L last with e | ⟨k, e⟩ <;> rw [e]
  · rfl
  · simp only [cv_ne]
    simp
theorem SlAt.off {sl d r : Addr} {L : List Ent} {c : Cell} {b : Bool} {kvs : List (Key × PV)} (s : SlAt h sl d L) (hr : h r = some (.dct b kvs)) (ne : r ≠ d) : SlAt (pup h r c) sl d L := by
  have nd : ∀ {a : Addr} {c : Nat} {fs : List (Nat × PV)}, h a = some (.ins c fs) → a ≠ r := fun e z => by subst z; rw [hr] at e; cases e
  exact ⟨by rw [pup_ne (nd s.1)]; exact s.1, by rw [pup_ne ne.symm]; exact s.2.1, fun x hx => by rw [pup_ne (nd (s.2.2 x hx))]; exact s.2.2 x hx⟩
theorem stands_sp {sl d r : Addr} {L : List Ent} {c base : Int} (s : SlAt h sl d L) (hr : h r = some (.dct false (dR L))) (nrd : r ≠ d) (nd : (L.map (·.1)).Nodup) (hl : L.length < 64) (q : ∀ g, PLe h g → Q (.bl true) g) : sem sg (n + 5) 31 [.loc sl, .loc r, .int c, .int base] h Q X := by
  refine ⟨⟨4, 9, b31, []⟩, rfl, rfl, ?_⟩
  rw [b31]
  rw [evSs_cons]
  simp only [evS, evE, evEs, evO, evB, evBs, evI, List.map_cons, List.map_nil, List.replicate_succ, List.replicate_zero, List.cons_append, List.nil_append, List.getElem?_cons_zero, List.getElem?_cons_succ, List.set_cons_zero, List.set_cons_succ, bv_add, bv_sub, bv_mul, bv_div, bv_mod, bv_pow, bv_str, av_add, av_sub, cv_lt, cv_le, cv_gt, cv_ge, cv_eq, cv_ne, cv_eqS, cv_neS, tv_bl, tv_int, List.length_cons, List.length_nil, pad, setT_nm, setT_tup, setTs_nil, setTs_cons, decide_eq_true_eq, Bool.not_eq_true', Bool.not_true, Bool.not_false, if_true, if_false, Bool.false_eq_true, Bool.true_eq_false, reduceIte, Nat.reduceAdd, Nat.reduceSub, Nat.reduceBEq, pow_10_9, pow_10_20, pow_10_30, cpow_10_9, cpow_10_20, cpow_10_30, divP_lit, mulP_r, mulP_l, lne_line, lt_line, isi_int, isi_bool, Int.reduceLT, Int.reduceLE, Int.reduceGT, Int.reduceGE, Int.reduceNeg, Int.reduceMul, Int.reduceAdd, Int.reduceSub, Nat.reduceLeDiff, Nat.reduceLT, true_and, and_true, decide_true, decide_false, sgf_pad_22_5, sgf_pad_22_6, sgf_pad_22_7, sgf_pad_22_8, sgf_pad_22_9, sgf_me_8_22, sgf_me_8_23, sgf_me_8_0, sgf_me_8_24, sgf_me_8_4, sgf_me_9_22, sgf_me_9_23, sgf_me_9_0, sgf_me_9_24, sgf_me_9_4, sgf_me_10_6, sgf_me_10_21, sgf_me_10_2, sgf_me_10_20, sgf_me_10_19, sgf_me_10_18, sgf_ini_10, sgf_ini_11, sgf_in0_8, sgf_in0_9, sgf_fl_10_1, sgf_fl_11_12, sgf_fl_11_3, sgf_fl_11_13, sgf_fl_11_14, sgf_fl_11_15, sgf_fl_11_16, sgf_fl_11_17, sgf_fl_11_5, sgf_exc_2, sgf_exc_6, sgf_exc_4, sgf_exc_5, sgf_exc_1, sgf_exc_3, sgf_exm_2_0, sgf_exm_6_0, sgf_exm_4_0, sgf_exm_5_0, sgf_exm_1_0, sgf_exm_3_0, sgf_isa_2_6, sgf_isa_6_6, sgf_isa_4_6, sgf_isa_5_6, sgf_isa_1_6, sgf_isa_3_6, sgf_isz_6, sgf_isv_2, sgf_isv_6, sgf_isv_4, sgf_isv_5, sgf_isv_1, sgf_isv_3, gl_MOST_LETTERS, gl_LETTERS, gl_MOST, gl_MOST_PARTS, gl_STAYS, wipeP, List.set_cons_zero, List.set_cons_succ, evSs_nil, List.lookup, Nat.reduceBEq, seq_str, seq_tup, seq_fl, Bool.true_and, Bool.and_true, Bool.false_and, Bool.and_false, beq_self_eq_true]
  refine ⟨by decide, by decide, ?_⟩
  refine forGo_list (f := fun i : Nat => PV.int ((0 : Int) + (i : Nat))) (as := List.range 3) (fun done env g => PLe h g ∧ ∃ x4 x5 x6 x7 x8, env = [some (.loc sl), some (.loc r), some (.int c), some (.int base), x4, x5, x6, x7, x8])
    (fun done w rest env g K e I nx => ?_) (fun env g I => ?_) ⟨.refl _, none, none, none, none, none, rfl⟩
  · obtain ⟨lg, x4, x5, x6, x7, x8, rfl⟩ := I
    refine ⟨trivial, ?_⟩
    have hw : w < 3 := List.mem_range.mp (by rw [e]; simp)
    have sg' := s.le lg
    have hr' := lg _ _ hr
    have c0 := Int.emod_nonneg (c / 3) (b := 2) (by decide)
    have c1 := Int.emod_lt_of_pos (c / 3) (b := 2) (by decide)
    have y0 := Int.emod_nonneg (c + ((0 : Int) + (w : Nat)) * (1 + c / 3 % 2)) (b := 3) (by decide)
    have y1 := Int.emod_lt_of_pos (c + ((0 : Int) + (w : Nat)) * (1 + c / 3 % 2)) (b := 3) (by decide)
    simp only [evS, evE, evEs, evO, evB, evBs, evI, List.map_cons, List.map_nil, List.replicate_succ, List.replicate_zero, List.cons_append, List.nil_append, List.getElem?_cons_zero, List.getElem?_cons_succ, List.set_cons_zero, List.set_cons_succ, bv_add, bv_sub, bv_mul, bv_div, bv_mod, bv_pow, bv_str, av_add, av_sub, cv_lt, cv_le, cv_gt, cv_ge, cv_eq, cv_ne, cv_eqS, cv_neS, tv_bl, tv_int, List.length_cons, List.length_nil, pad, setT_nm, setT_tup, setTs_nil, setTs_cons, decide_eq_true_eq, Bool.not_eq_true', Bool.not_true, Bool.not_false, if_true, if_false, Bool.false_eq_true, Bool.true_eq_false, reduceIte, Nat.reduceAdd, Nat.reduceSub, Nat.reduceBEq, pow_10_9, pow_10_20, pow_10_30, cpow_10_9, cpow_10_20, cpow_10_30, divP_lit, mulP_r, mulP_l, lne_line, lt_line, isi_int, isi_bool, Int.reduceLT, Int.reduceLE, Int.reduceGT, Int.reduceGE, Int.reduceNeg, Int.reduceMul, Int.reduceAdd, Int.reduceSub, Nat.reduceLeDiff, Nat.reduceLT, true_and, and_true, decide_true, decide_false, sgf_pad_22_5, sgf_pad_22_6, sgf_pad_22_7, sgf_pad_22_8, sgf_pad_22_9, sgf_me_8_22, sgf_me_8_23, sgf_me_8_0, sgf_me_8_24, sgf_me_8_4, sgf_me_9_22, sgf_me_9_23, sgf_me_9_0, sgf_me_9_24, sgf_me_9_4, sgf_me_10_6, sgf_me_10_21, sgf_me_10_2, sgf_me_10_20, sgf_me_10_19, sgf_me_10_18, sgf_ini_10, sgf_ini_11, sgf_in0_8, sgf_in0_9, sgf_fl_10_1, sgf_fl_11_12, sgf_fl_11_3, sgf_fl_11_13, sgf_fl_11_14, sgf_fl_11_15, sgf_fl_11_16, sgf_fl_11_17, sgf_fl_11_5, sgf_exc_2, sgf_exc_6, sgf_exc_4, sgf_exc_5, sgf_exc_1, sgf_exc_3, sgf_exm_2_0, sgf_exm_6_0, sgf_exm_4_0, sgf_exm_5_0, sgf_exm_1_0, sgf_exm_3_0, sgf_isa_2_6, sgf_isa_6_6, sgf_isa_4_6, sgf_isa_5_6, sgf_isa_1_6, sgf_isa_3_6, sgf_isz_6, sgf_isv_2, sgf_isv_6, sgf_isv_4, sgf_isv_5, sgf_isv_1, sgf_isv_3, gl_MOST_LETTERS, gl_LETTERS, gl_MOST, gl_MOST_PARTS, gl_STAYS, wipeP, List.set_cons_zero, List.set_cons_succ, evSs_nil, List.lookup, Nat.reduceBEq, seq_str, seq_tup, seq_fl, Bool.true_and, Bool.and_true, Bool.false_and, Bool.and_false, beq_self_eq_true]
    (try dsimp only); (try simp only [evS, evE, evEs, evO, evB, evBs, evI, List.map_cons, List.map_nil, List.replicate_succ, List.replicate_zero, List.cons_append, List.nil_append, List.getElem?_cons_zero, List.getElem?_cons_succ, List.set_cons_zero, List.set_cons_succ, bv_add, bv_sub, bv_mul, bv_div, bv_mod, bv_pow, bv_str, av_add, av_sub, cv_lt, cv_le, cv_gt, cv_ge, cv_eq, cv_ne, cv_eqS, cv_neS, tv_bl, tv_int, List.length_cons, List.length_nil, pad, setT_nm, setT_tup, setTs_nil, setTs_cons, decide_eq_true_eq, Bool.not_eq_true', Bool.not_true, Bool.not_false, if_true, if_false, Bool.false_eq_true, Bool.true_eq_false, reduceIte, Nat.reduceAdd, Nat.reduceSub, Nat.reduceBEq, pow_10_9, pow_10_20, pow_10_30, cpow_10_9, cpow_10_20, cpow_10_30, divP_lit, mulP_r, mulP_l, lne_line, lt_line, isi_int, isi_bool, Int.reduceLT, Int.reduceLE, Int.reduceGT, Int.reduceGE, Int.reduceNeg, Int.reduceMul, Int.reduceAdd, Int.reduceSub, Nat.reduceLeDiff, Nat.reduceLT, true_and, and_true, decide_true, decide_false, sgf_pad_22_5, sgf_pad_22_6, sgf_pad_22_7, sgf_pad_22_8, sgf_pad_22_9, sgf_me_8_22, sgf_me_8_23, sgf_me_8_0, sgf_me_8_24, sgf_me_8_4, sgf_me_9_22, sgf_me_9_23, sgf_me_9_0, sgf_me_9_24, sgf_me_9_4, sgf_me_10_6, sgf_me_10_21, sgf_me_10_2, sgf_me_10_20, sgf_me_10_19, sgf_me_10_18, sgf_ini_10, sgf_ini_11, sgf_in0_8, sgf_in0_9, sgf_fl_10_1, sgf_fl_11_12, sgf_fl_11_3, sgf_fl_11_13, sgf_fl_11_14, sgf_fl_11_15, sgf_fl_11_16, sgf_fl_11_17, sgf_fl_11_5, sgf_exc_2, sgf_exc_6, sgf_exc_4, sgf_exc_5, sgf_exc_1, sgf_exc_3, sgf_exm_2_0, sgf_exm_6_0, sgf_exm_4_0, sgf_exm_5_0, sgf_exm_1_0, sgf_exm_3_0, sgf_isa_2_6, sgf_isa_6_6, sgf_isa_4_6, sgf_isa_5_6, sgf_isa_1_6, sgf_isa_3_6, sgf_isz_6, sgf_isv_2, sgf_isv_6, sgf_isv_4, sgf_isv_5, sgf_isv_1, sgf_isv_3, gl_MOST_LETTERS, gl_LETTERS, gl_MOST, gl_MOST_PARTS, gl_STAYS, wipeP, List.set_cons_zero, List.set_cons_succ, evSs_nil, List.lookup, Nat.reduceBEq, seq_str, seq_tup, seq_fl, Bool.true_and, Bool.and_true, Bool.false_and, Bool.and_false, beq_self_eq_true]); rw [evSs_cons]; simp only [evS, evE, evEs, evO, evB, evBs, evI, List.map_cons, List.map_nil, List.replicate_succ, List.replicate_zero, List.cons_append, List.nil_append, List.getElem?_cons_zero, List.getElem?_cons_succ, List.set_cons_zero, List.set_cons_succ, bv_add, bv_sub, bv_mul, bv_div, bv_mod, bv_pow, bv_str, av_add, av_sub, cv_lt, cv_le, cv_gt, cv_ge, cv_eq, cv_ne, cv_eqS, cv_neS, tv_bl, tv_int, List.length_cons, List.length_nil, pad, setT_nm, setT_tup, setTs_nil, setTs_cons, decide_eq_true_eq, Bool.not_eq_true', Bool.not_true, Bool.not_false, if_true, if_false, Bool.false_eq_true, Bool.true_eq_false, reduceIte, Nat.reduceAdd, Nat.reduceSub, Nat.reduceBEq, pow_10_9, pow_10_20, pow_10_30, cpow_10_9, cpow_10_20, cpow_10_30, divP_lit, mulP_r, mulP_l, lne_line, lt_line, isi_int, isi_bool, Int.reduceLT, Int.reduceLE, Int.reduceGT, Int.reduceGE, Int.reduceNeg, Int.reduceMul, Int.reduceAdd, Int.reduceSub, Nat.reduceLeDiff, Nat.reduceLT, true_and, and_true, decide_true, decide_false, sgf_pad_22_5, sgf_pad_22_6, sgf_pad_22_7, sgf_pad_22_8, sgf_pad_22_9, sgf_me_8_22, sgf_me_8_23, sgf_me_8_0, sgf_me_8_24, sgf_me_8_4, sgf_me_9_22, sgf_me_9_23, sgf_me_9_0, sgf_me_9_24, sgf_me_9_4, sgf_me_10_6, sgf_me_10_21, sgf_me_10_2, sgf_me_10_20, sgf_me_10_19, sgf_me_10_18, sgf_ini_10, sgf_ini_11, sgf_in0_8, sgf_in0_9, sgf_fl_10_1, sgf_fl_11_12, sgf_fl_11_3, sgf_fl_11_13, sgf_fl_11_14, sgf_fl_11_15, sgf_fl_11_16, sgf_fl_11_17, sgf_fl_11_5, sgf_exc_2, sgf_exc_6, sgf_exc_4, sgf_exc_5, sgf_exc_1, sgf_exc_3, sgf_exm_2_0, sgf_exm_6_0, sgf_exm_4_0, sgf_exm_5_0, sgf_exm_1_0, sgf_exm_3_0, sgf_isa_2_6, sgf_isa_6_6, sgf_isa_4_6, sgf_isa_5_6, sgf_isa_1_6, sgf_isa_3_6, sgf_isz_6, sgf_isv_2, sgf_isv_6, sgf_isv_4, sgf_isv_5, sgf_isv_1, sgf_isv_3, gl_MOST_LETTERS, gl_LETTERS, gl_MOST, gl_MOST_PARTS, gl_STAYS, wipeP, List.set_cons_zero, List.set_cons_succ, evSs_nil, List.lookup, Nat.reduceBEq, seq_str, seq_tup, seq_fl, Bool.true_and, Bool.and_true, Bool.false_and, Bool.and_false, beq_self_eq_true]
    refine ⟨mulP_of (by omega) (by omega), ?_⟩
    generalize (c + ((0 : Int) + (w : Nat)) * (1 + c / 3 % 2)) % 3 = y at y0 y1 ⊢
    (try dsimp only); (try simp only [evS, evE, evEs, evO, evB, evBs, evI, List.map_cons, List.map_nil, List.replicate_succ, List.replicate_zero, List.cons_append, List.nil_append, List.getElem?_cons_zero, List.getElem?_cons_succ, List.set_cons_zero, List.set_cons_succ, bv_add, bv_sub, bv_mul, bv_div, bv_mod, bv_pow, bv_str, av_add, av_sub, cv_lt, cv_le, cv_gt, cv_ge, cv_eq, cv_ne, cv_eqS, cv_neS, tv_bl, tv_int, List.length_cons, List.length_nil, pad, setT_nm, setT_tup, setTs_nil, setTs_cons, decide_eq_true_eq, Bool.not_eq_true', Bool.not_true, Bool.not_false, if_true, if_false, Bool.false_eq_true, Bool.true_eq_false, reduceIte, Nat.reduceAdd, Nat.reduceSub, Nat.reduceBEq, pow_10_9, pow_10_20, pow_10_30, cpow_10_9, cpow_10_20, cpow_10_30, divP_lit, mulP_r, mulP_l, lne_line, lt_line, isi_int, isi_bool, Int.reduceLT, Int.reduceLE, Int.reduceGT, Int.reduceGE, Int.reduceNeg, Int.reduceMul, Int.reduceAdd, Int.reduceSub, Nat.reduceLeDiff, Nat.reduceLT, true_and, and_true, decide_true, decide_false, sgf_pad_22_5, sgf_pad_22_6, sgf_pad_22_7, sgf_pad_22_8, sgf_pad_22_9, sgf_me_8_22, sgf_me_8_23, sgf_me_8_0, sgf_me_8_24, sgf_me_8_4, sgf_me_9_22, sgf_me_9_23, sgf_me_9_0, sgf_me_9_24, sgf_me_9_4, sgf_me_10_6, sgf_me_10_21, sgf_me_10_2, sgf_me_10_20, sgf_me_10_19, sgf_me_10_18, sgf_ini_10, sgf_ini_11, sgf_in0_8, sgf_in0_9, sgf_fl_10_1, sgf_fl_11_12, sgf_fl_11_3, sgf_fl_11_13, sgf_fl_11_14, sgf_fl_11_15, sgf_fl_11_16, sgf_fl_11_17, sgf_fl_11_5, sgf_exc_2, sgf_exc_6, sgf_exc_4, sgf_exc_5, sgf_exc_1, sgf_exc_3, sgf_exm_2_0, sgf_exm_6_0, sgf_exm_4_0, sgf_exm_5_0, sgf_exm_1_0, sgf_exm_3_0, sgf_isa_2_6, sgf_isa_6_6, sgf_isa_4_6, sgf_isa_5_6, sgf_isa_1_6, sgf_isa_3_6, sgf_isz_6, sgf_isv_2, sgf_isv_6, sgf_isv_4, sgf_isv_5, sgf_isv_1, sgf_isv_3, gl_MOST_LETTERS, gl_LETTERS, gl_MOST, gl_MOST_PARTS, gl_STAYS, wipeP, List.set_cons_zero, List.set_cons_succ, evSs_nil, List.lookup, Nat.reduceBEq, seq_str, seq_tup, seq_fl, Bool.true_and, Bool.and_true, Bool.false_and, Bool.and_false, beq_self_eq_true]); rw [evSs_cons]; simp only [evS, evE, evEs, evO, evB, evBs, evI, List.map_cons, List.map_nil, List.replicate_succ, List.replicate_zero, List.cons_append, List.nil_append, List.getElem?_cons_zero, List.getElem?_cons_succ, List.set_cons_zero, List.set_cons_succ, bv_add, bv_sub, bv_mul, bv_div, bv_mod, bv_pow, bv_str, av_add, av_sub, cv_lt, cv_le, cv_gt, cv_ge, cv_eq, cv_ne, cv_eqS, cv_neS, tv_bl, tv_int, List.length_cons, List.length_nil, pad, setT_nm, setT_tup, setTs_nil, setTs_cons, decide_eq_true_eq, Bool.not_eq_true', Bool.not_true, Bool.not_false, if_true, if_false, Bool.false_eq_true, Bool.true_eq_false, reduceIte, Nat.reduceAdd, Nat.reduceSub, Nat.reduceBEq, pow_10_9, pow_10_20, pow_10_30, cpow_10_9, cpow_10_20, cpow_10_30, divP_lit, mulP_r, mulP_l, lne_line, lt_line, isi_int, isi_bool, Int.reduceLT, Int.reduceLE, Int.reduceGT, Int.reduceGE, Int.reduceNeg, Int.reduceMul, Int.reduceAdd, Int.reduceSub, Nat.reduceLeDiff, Nat.reduceLT, true_and, and_true, decide_true, decide_false, sgf_pad_22_5, sgf_pad_22_6, sgf_pad_22_7, sgf_pad_22_8, sgf_pad_22_9, sgf_me_8_22, sgf_me_8_23, sgf_me_8_0, sgf_me_8_24, sgf_me_8_4, sgf_me_9_22, sgf_me_9_23, sgf_me_9_0, sgf_me_9_24, sgf_me_9_4, sgf_me_10_6, sgf_me_10_21, sgf_me_10_2, sgf_me_10_20, sgf_me_10_19, sgf_me_10_18, sgf_ini_10, sgf_ini_11, sgf_in0_8, sgf_in0_9, sgf_fl_10_1, sgf_fl_11_12, sgf_fl_11_3, sgf_fl_11_13, sgf_fl_11_14, sgf_fl_11_15, sgf_fl_11_16, sgf_fl_11_17, sgf_fl_11_5, sgf_exc_2, sgf_exc_6, sgf_exc_4, sgf_exc_5, sgf_exc_1, sgf_exc_3, sgf_exm_2_0, sgf_exm_6_0, sgf_exm_4_0, sgf_exm_5_0, sgf_exm_1_0, sgf_exm_3_0, sgf_isa_2_6, sgf_isa_6_6, sgf_isa_4_6, sgf_isa_5_6, sgf_isa_1_6, sgf_isa_3_6, sgf_isz_6, sgf_isv_2, sgf_isv_6, sgf_isv_4, sgf_isv_5, sgf_isv_1, sgf_isv_3, gl_MOST_LETTERS, gl_LETTERS, gl_MOST, gl_MOST_PARTS, gl_STAYS, wipeP, List.set_cons_zero, List.set_cons_succ, evSs_nil, List.lookup, Nat.reduceBEq, seq_str, seq_tup, seq_fl, Bool.true_and, Bool.and_true, Bool.false_and, Bool.and_false, beq_self_eq_true]
    by_cases z0 : (y == 0) = true
    · rw [if_pos z0, evSs_cons]
      simp only [evS, evE, evEs, evO, evB, evBs, evI, List.map_cons, List.map_nil, List.replicate_succ, List.replicate_zero, List.cons_append, List.nil_append, List.getElem?_cons_zero, List.getElem?_cons_succ, List.set_cons_zero, List.set_cons_succ, bv_add, bv_sub, bv_mul, bv_div, bv_mod, bv_pow, bv_str, av_add, av_sub, cv_lt, cv_le, cv_gt, cv_ge, cv_eq, cv_ne, cv_eqS, cv_neS, tv_bl, tv_int, List.length_cons, List.length_nil, pad, setT_nm, setT_tup, setTs_nil, setTs_cons, decide_eq_true_eq, Bool.not_eq_true', Bool.not_true, Bool.not_false, if_true, if_false, Bool.false_eq_true, Bool.true_eq_false, reduceIte, Nat.reduceAdd, Nat.reduceSub, Nat.reduceBEq, pow_10_9, pow_10_20, pow_10_30, cpow_10_9, cpow_10_20, cpow_10_30, divP_lit, mulP_r, mulP_l, lne_line, lt_line, isi_int, isi_bool, Int.reduceLT, Int.reduceLE, Int.reduceGT, Int.reduceGE, Int.reduceNeg, Int.reduceMul, Int.reduceAdd, Int.reduceSub, Nat.reduceLeDiff, Nat.reduceLT, true_and, and_true, decide_true, decide_false, sgf_pad_22_5, sgf_pad_22_6, sgf_pad_22_7, sgf_pad_22_8, sgf_pad_22_9, sgf_me_8_22, sgf_me_8_23, sgf_me_8_0, sgf_me_8_24, sgf_me_8_4, sgf_me_9_22, sgf_me_9_23, sgf_me_9_0, sgf_me_9_24, sgf_me_9_4, sgf_me_10_6, sgf_me_10_21, sgf_me_10_2, sgf_me_10_20, sgf_me_10_19, sgf_me_10_18, sgf_ini_10, sgf_ini_11, sgf_in0_8, sgf_in0_9, sgf_fl_10_1, sgf_fl_11_12, sgf_fl_11_3, sgf_fl_11_13, sgf_fl_11_14, sgf_fl_11_15, sgf_fl_11_16, sgf_fl_11_17, sgf_fl_11_5, sgf_exc_2, sgf_exc_6, sgf_exc_4, sgf_exc_5, sgf_exc_1, sgf_exc_3, sgf_exm_2_0, sgf_exm_6_0, sgf_exm_4_0, sgf_exm_5_0, sgf_exm_1_0, sgf_exm_3_0, sgf_isa_2_6, sgf_isa_6_6, sgf_isa_4_6, sgf_isa_5_6, sgf_isa_1_6, sgf_isa_3_6, sgf_isz_6, sgf_isv_2, sgf_isv_6, sgf_isv_4, sgf_isv_5, sgf_isv_1, sgf_isv_3, gl_MOST_LETTERS, gl_LETTERS, gl_MOST, gl_MOST_PARTS, gl_STAYS, wipeP, List.set_cons_zero, List.set_cons_succ, evSs_nil, List.lookup, Nat.reduceBEq, seq_str, seq_tup, seq_fl, Bool.true_and, Bool.and_true, Bool.false_and, Bool.and_false, beq_self_eq_true, sg'.1, List.lookup_nil]
      refine numbers_sp sg' hl fun p np => ?_
      (try dsimp only); (try simp only [evS, evE, evEs, evO, evB, evBs, evI, List.map_cons, List.map_nil, List.replicate_succ, List.replicate_zero, List.cons_append, List.nil_append, List.getElem?_cons_zero, List.getElem?_cons_succ, List.set_cons_zero, List.set_cons_succ, bv_add, bv_sub, bv_mul, bv_div, bv_mod, bv_pow, bv_str, av_add, av_sub, cv_lt, cv_le, cv_gt, cv_ge, cv_eq, cv_ne, cv_eqS, cv_neS, tv_bl, tv_int, List.length_cons, List.length_nil, pad, setT_nm, setT_tup, setTs_nil, setTs_cons, decide_eq_true_eq, Bool.not_eq_true', Bool.not_true, Bool.not_false, if_true, if_false, Bool.false_eq_true, Bool.true_eq_false, reduceIte, Nat.reduceAdd, Nat.reduceSub, Nat.reduceBEq, pow_10_9, pow_10_20, pow_10_30, cpow_10_9, cpow_10_20, cpow_10_30, divP_lit, mulP_r, mulP_l, lne_line, lt_line, isi_int, isi_bool, Int.reduceLT, Int.reduceLE, Int.reduceGT, Int.reduceGE, Int.reduceNeg, Int.reduceMul, Int.reduceAdd, Int.reduceSub, Nat.reduceLeDiff, Nat.reduceLT, true_and, and_true, decide_true, decide_false, sgf_pad_22_5, sgf_pad_22_6, sgf_pad_22_7, sgf_pad_22_8, sgf_pad_22_9, sgf_me_8_22, sgf_me_8_23, sgf_me_8_0, sgf_me_8_24, sgf_me_8_4, sgf_me_9_22, sgf_me_9_23, sgf_me_9_0, sgf_me_9_24, sgf_me_9_4, sgf_me_10_6, sgf_me_10_21, sgf_me_10_2, sgf_me_10_20, sgf_me_10_19, sgf_me_10_18, sgf_ini_10, sgf_ini_11, sgf_in0_8, sgf_in0_9, sgf_fl_10_1, sgf_fl_11_12, sgf_fl_11_3, sgf_fl_11_13, sgf_fl_11_14, sgf_fl_11_15, sgf_fl_11_16, sgf_fl_11_17, sgf_fl_11_5, sgf_exc_2, sgf_exc_6, sgf_exc_4, sgf_exc_5, sgf_exc_1, sgf_exc_3, sgf_exm_2_0, sgf_exm_6_0, sgf_exm_4_0, sgf_exm_5_0, sgf_exm_1_0, sgf_exm_3_0, sgf_isa_2_6, sgf_isa_6_6, sgf_isa_4_6, sgf_isa_5_6, sgf_isa_1_6, sgf_isa_3_6, sgf_isz_6, sgf_isv_2, sgf_isv_6, sgf_isv_4, sgf_isv_5, sgf_isv_1, sgf_isv_3, gl_MOST_LETTERS, gl_LETTERS, gl_MOST, gl_MOST_PARTS, gl_STAYS, wipeP, List.set_cons_zero, List.set_cons_succ, evSs_nil, List.lookup, Nat.reduceBEq, seq_str, seq_tup, seq_fl, Bool.true_and, Bool.and_true, Bool.false_and, Bool.and_false, beq_self_eq_true]); rw [evSs_cons]; simp only [evS, evE, evEs, evO, evB, evBs, evI, List.map_cons, List.map_nil, List.replicate_succ, List.replicate_zero, List.cons_append, List.nil_append, List.getElem?_cons_zero, List.getElem?_cons_succ, List.set_cons_zero, List.set_cons_succ, bv_add, bv_sub, bv_mul, bv_div, bv_mod, bv_pow, bv_str, av_add, av_sub, cv_lt, cv_le, cv_gt, cv_ge, cv_eq, cv_ne, cv_eqS, cv_neS, tv_bl, tv_int, List.length_cons, List.length_nil, pad, setT_nm, setT_tup, setTs_nil, setTs_cons, decide_eq_true_eq, Bool.not_eq_true', Bool.not_true, Bool.not_false, if_true, if_false, Bool.false_eq_true, Bool.true_eq_false, reduceIte, Nat.reduceAdd, Nat.reduceSub, Nat.reduceBEq, pow_10_9, pow_10_20, pow_10_30, cpow_10_9, cpow_10_20, cpow_10_30, divP_lit, mulP_r, mulP_l, lne_line, lt_line, isi_int, isi_bool, Int.reduceLT, Int.reduceLE, Int.reduceGT, Int.reduceGE, Int.reduceNeg, Int.reduceMul, Int.reduceAdd, Int.reduceSub, Nat.reduceLeDiff, Nat.reduceLT, true_and, and_true, decide_true, decide_false, sgf_pad_22_5, sgf_pad_22_6, sgf_pad_22_7, sgf_pad_22_8, sgf_pad_22_9, sgf_me_8_22, sgf_me_8_23, sgf_me_8_0, sgf_me_8_24, sgf_me_8_4, sgf_me_9_22, sgf_me_9_23, sgf_me_9_0, sgf_me_9_24, sgf_me_9_4, sgf_me_10_6, sgf_me_10_21, sgf_me_10_2, sgf_me_10_20, sgf_me_10_19, sgf_me_10_18, sgf_ini_10, sgf_ini_11, sgf_in0_8, sgf_in0_9, sgf_fl_10_1, sgf_fl_11_12, sgf_fl_11_3, sgf_fl_11_13, sgf_fl_11_14, sgf_fl_11_15, sgf_fl_11_16, sgf_fl_11_17, sgf_fl_11_5, sgf_exc_2, sgf_exc_6, sgf_exc_4, sgf_exc_5, sgf_exc_1, sgf_exc_3, sgf_exm_2_0, sgf_exm_6_0, sgf_exm_4_0, sgf_exm_5_0, sgf_exm_1_0, sgf_exm_3_0, sgf_isa_2_6, sgf_isa_6_6, sgf_isa_4_6, sgf_isa_5_6, sgf_isa_1_6, sgf_isa_3_6, sgf_isz_6, sgf_isv_2, sgf_isv_6, sgf_isv_4, sgf_isv_5, sgf_isv_1, sgf_isv_3, gl_MOST_LETTERS, gl_LETTERS, gl_MOST, gl_MOST_PARTS, gl_STAYS, wipeP, List.set_cons_zero, List.set_cons_succ, evSs_nil, List.lookup, Nat.reduceBEq, seq_str, seq_tup, seq_fl, Bool.true_and, Bool.and_true, Bool.false_and, Bool.and_false, beq_self_eq_true, isiV, pup_same]
      have u1 := PLe.new (c := .lst ((srt (L.map (·.1))).map .int)) np
      have e1 : (pup g p (.lst ((srt (L.map (·.1))).map .int))) p = some (.lst ((srt (L.map (·.1))).map .int)) := pup_same
      have hp0 := none_le lg np
      generalize pup g p _ = g1 at u1 e1 ⊢
      refine blt_sorted (f := fun e => tupP e.2.2) (u1 _ _ hr') hl fun p2 np2 => ?_
      have ne : p ≠ p2 := (ne_new np2 e1).symm
      have e2 : (pup g1 p2 (.lst ((srt (L.map (·.1))).map .int))) p = some (.lst ((srt (L.map (·.1))).map .int)) := by rw [pup_ne ne]; exact e1
      rw [cn_loc, eqK_lst (g := PV.int) (xs := srt (L.map (·.1))) e2 pup_same (fun x => by simp [deq])]
      have u2 := PLe.new (c := .lst ((srt (L.map (·.1))).map .int)) np2
      generalize pup g1 p2 _ = g2 at e2 u2 ⊢
      simp only [evS, evE, evEs, evO, evB, evBs, evI, List.map_cons, List.map_nil, List.replicate_succ, List.replicate_zero, List.cons_append, List.nil_append, List.getElem?_cons_zero, List.getElem?_cons_succ, List.set_cons_zero, List.set_cons_succ, bv_add, bv_sub, bv_mul, bv_div, bv_mod, bv_pow, bv_str, av_add, av_sub, cv_lt, cv_le, cv_gt, cv_ge, cv_eq, cv_ne, cv_eqS, cv_neS, tv_bl, tv_int, List.length_cons, List.length_nil, pad, setT_nm, setT_tup, setTs_nil, setTs_cons, decide_eq_true_eq, Bool.not_eq_true', Bool.not_true, Bool.not_false, if_true, if_false, Bool.false_eq_true, Bool.true_eq_false, reduceIte, Nat.reduceAdd, Nat.reduceSub, Nat.reduceBEq, pow_10_9, pow_10_20, pow_10_30, cpow_10_9, cpow_10_20, cpow_10_30, divP_lit, mulP_r, mulP_l, lne_line, lt_line, isi_int, isi_bool, Int.reduceLT, Int.reduceLE, Int.reduceGT, Int.reduceGE, Int.reduceNeg, Int.reduceMul, Int.reduceAdd, Int.reduceSub, Nat.reduceLeDiff, Nat.reduceLT, true_and, and_true, decide_true, decide_false, sgf_pad_22_5, sgf_pad_22_6, sgf_pad_22_7, sgf_pad_22_8, sgf_pad_22_9, sgf_me_8_22, sgf_me_8_23, sgf_me_8_0, sgf_me_8_24, sgf_me_8_4, sgf_me_9_22, sgf_me_9_23, sgf_me_9_0, sgf_me_9_24, sgf_me_9_4, sgf_me_10_6, sgf_me_10_21, sgf_me_10_2, sgf_me_10_20, sgf_me_10_19, sgf_me_10_18, sgf_ini_10, sgf_ini_11, sgf_in0_8, sgf_in0_9, sgf_fl_10_1, sgf_fl_11_12, sgf_fl_11_3, sgf_fl_11_13, sgf_fl_11_14, sgf_fl_11_15, sgf_fl_11_16, sgf_fl_11_17, sgf_fl_11_5, sgf_exc_2, sgf_exc_6, sgf_exc_4, sgf_exc_5, sgf_exc_1, sgf_exc_3, sgf_exm_2_0, sgf_exm_6_0, sgf_exm_4_0, sgf_exm_5_0, sgf_exm_1_0, sgf_exm_3_0, sgf_isa_2_6, sgf_isa_6_6, sgf_isa_4_6, sgf_isa_5_6, sgf_isa_1_6, sgf_isa_3_6, sgf_isz_6, sgf_isv_2, sgf_isv_6, sgf_isv_4, sgf_isv_5, sgf_isv_1, sgf_isv_3, gl_MOST_LETTERS, gl_LETTERS, gl_MOST, gl_MOST_PARTS, gl_STAYS, wipeP, List.set_cons_zero, List.set_cons_succ, evSs_nil, List.lookup, Nat.reduceBEq, seq_str, seq_tup, seq_fl, Bool.true_and, Bool.and_true, Bool.false_and, Bool.and_false, beq_self_eq_true]
      rw [evSs_cons]
      simp only [evS, evE, evEs, evO, evB, evBs, evI, List.map_cons, List.map_nil, List.replicate_succ, List.replicate_zero, List.cons_append, List.nil_append, List.getElem?_cons_zero, List.getElem?_cons_succ, List.set_cons_zero, List.set_cons_succ, bv_add, bv_sub, bv_mul, bv_div, bv_mod, bv_pow, bv_str, av_add, av_sub, cv_lt, cv_le, cv_gt, cv_ge, cv_eq, cv_ne, cv_eqS, cv_neS, tv_bl, tv_int, List.length_cons, List.length_nil, pad, setT_nm, setT_tup, setTs_nil, setTs_cons, decide_eq_true_eq, Bool.not_eq_true', Bool.not_true, Bool.not_false, if_true, if_false, Bool.false_eq_true, Bool.true_eq_false, reduceIte, Nat.reduceAdd, Nat.reduceSub, Nat.reduceBEq, pow_10_9, pow_10_20, pow_10_30, cpow_10_9, cpow_10_20, cpow_10_30, divP_lit, mulP_r, mulP_l, lne_line, lt_line, isi_int, isi_bool, Int.reduceLT, Int.reduceLE, Int.reduceGT, Int.reduceGE, Int.reduceNeg, Int.reduceMul, Int.reduceAdd, Int.reduceSub, Nat.reduceLeDiff, Nat.reduceLT, true_and, and_true, decide_true, decide_false, sgf_pad_22_5, sgf_pad_22_6, sgf_pad_22_7, sgf_pad_22_8, sgf_pad_22_9, sgf_me_8_22, sgf_me_8_23, sgf_me_8_0, sgf_me_8_24, sgf_me_8_4, sgf_me_9_22, sgf_me_9_23, sgf_me_9_0, sgf_me_9_24, sgf_me_9_4, sgf_me_10_6, sgf_me_10_21, sgf_me_10_2, sgf_me_10_20, sgf_me_10_19, sgf_me_10_18, sgf_ini_10, sgf_ini_11, sgf_in0_8, sgf_in0_9, sgf_fl_10_1, sgf_fl_11_12, sgf_fl_11_3, sgf_fl_11_13, sgf_fl_11_14, sgf_fl_11_15, sgf_fl_11_16, sgf_fl_11_17, sgf_fl_11_5, sgf_exc_2, sgf_exc_6, sgf_exc_4, sgf_exc_5, sgf_exc_1, sgf_exc_3, sgf_exm_2_0, sgf_exm_6_0, sgf_exm_4_0, sgf_exm_5_0, sgf_exm_1_0, sgf_exm_3_0, sgf_isa_2_6, sgf_isa_6_6, sgf_isa_4_6, sgf_isa_5_6, sgf_isa_1_6, sgf_isa_3_6, sgf_isz_6, sgf_isv_2, sgf_isv_6, sgf_isv_4, sgf_isv_5, sgf_isv_1, sgf_isv_3, gl_MOST_LETTERS, gl_LETTERS, gl_MOST, gl_MOST_PARTS, gl_STAYS, wipeP, List.set_cons_zero, List.set_cons_succ, evSs_nil, List.lookup, Nat.reduceBEq, seq_str, seq_tup, seq_fl, Bool.true_and, Bool.and_true, Bool.false_and, Bool.and_false, beq_self_eq_true, bmT, tyP, bmV, e2]
      refine ⟨?_, nx _ _ ⟨fun x cc hx => ?_, _, _, _, _, _, rfl⟩⟩
      · rw [List.length_map, (srt_perm _).length_eq, List.length_map]; exact small1000 (by omega)
      · have nx : x ≠ p := fun z => by subst z; rw [hp0] at hx; cases hx
        rw [pup_ne nx]
        exact u2 _ _ (u1 _ _ (lg _ _ hx))
    · rw [if_neg z0, evSs_cons]
      simp only [evS, evE, evEs, evO, evB, evBs, evI, List.map_cons, List.map_nil, List.replicate_succ, List.replicate_zero, List.cons_append, List.nil_append, List.getElem?_cons_zero, List.getElem?_cons_succ, List.set_cons_zero, List.set_cons_succ, bv_add, bv_sub, bv_mul, bv_div, bv_mod, bv_pow, bv_str, av_add, av_sub, cv_lt, cv_le, cv_gt, cv_ge, cv_eq, cv_ne, cv_eqS, cv_neS, tv_bl, tv_int, List.length_cons, List.length_nil, pad, setT_nm, setT_tup, setTs_nil, setTs_cons, decide_eq_true_eq, Bool.not_eq_true', Bool.not_true, Bool.not_false, if_true, if_false, Bool.false_eq_true, Bool.true_eq_false, reduceIte, Nat.reduceAdd, Nat.reduceSub, Nat.reduceBEq, pow_10_9, pow_10_20, pow_10_30, cpow_10_9, cpow_10_20, cpow_10_30, divP_lit, mulP_r, mulP_l, lne_line, lt_line, isi_int, isi_bool, Int.reduceLT, Int.reduceLE, Int.reduceGT, Int.reduceGE, Int.reduceNeg, Int.reduceMul, Int.reduceAdd, Int.reduceSub, Nat.reduceLeDiff, Nat.reduceLT, true_and, and_true, decide_true, decide_false, sgf_pad_22_5, sgf_pad_22_6, sgf_pad_22_7, sgf_pad_22_8, sgf_pad_22_9, sgf_me_8_22, sgf_me_8_23, sgf_me_8_0, sgf_me_8_24, sgf_me_8_4, sgf_me_9_22, sgf_me_9_23, sgf_me_9_0, sgf_me_9_24, sgf_me_9_4, sgf_me_10_6, sgf_me_10_21, sgf_me_10_2, sgf_me_10_20, sgf_me_10_19, sgf_me_10_18, sgf_ini_10, sgf_ini_11, sgf_in0_8, sgf_in0_9, sgf_fl_10_1, sgf_fl_11_12, sgf_fl_11_3, sgf_fl_11_13, sgf_fl_11_14, sgf_fl_11_15, sgf_fl_11_16, sgf_fl_11_17, sgf_fl_11_5, sgf_exc_2, sgf_exc_6, sgf_exc_4, sgf_exc_5, sgf_exc_1, sgf_exc_3, sgf_exm_2_0, sgf_exm_6_0, sgf_exm_4_0, sgf_exm_5_0, sgf_exm_1_0, sgf_exm_3_0, sgf_isa_2_6, sgf_isa_6_6, sgf_isa_4_6, sgf_isa_5_6, sgf_isa_1_6, sgf_isa_3_6, sgf_isz_6, sgf_isv_2, sgf_isv_6, sgf_isv_4, sgf_isv_5, sgf_isv_1, sgf_isv_3, gl_MOST_LETTERS, gl_LETTERS, gl_MOST, gl_MOST_PARTS, gl_STAYS, wipeP, List.set_cons_zero, List.set_cons_succ, evSs_nil, List.lookup, Nat.reduceBEq, seq_str, seq_tup, seq_fl, Bool.true_and, Bool.and_true, Bool.false_and, Bool.and_false, beq_self_eq_true]
      by_cases z1 : (y == 1) = true
      · rw [if_pos z1, evSs_cons]
        simp only [evS, evE, evEs, evO, evB, evBs, evI, List.map_cons, List.map_nil, List.replicate_succ, List.replicate_zero, List.cons_append, List.nil_append, List.getElem?_cons_zero, List.getElem?_cons_succ, List.set_cons_zero, List.set_cons_succ, bv_add, bv_sub, bv_mul, bv_div, bv_mod, bv_pow, bv_str, av_add, av_sub, cv_lt, cv_le, cv_gt, cv_ge, cv_eq, cv_ne, cv_eqS, cv_neS, tv_bl, tv_int, List.length_cons, List.length_nil, pad, setT_nm, setT_tup, setTs_nil, setTs_cons, decide_eq_true_eq, Bool.not_eq_true', Bool.not_true, Bool.not_false, if_true, if_false, Bool.false_eq_true, Bool.true_eq_false, reduceIte, Nat.reduceAdd, Nat.reduceSub, Nat.reduceBEq, pow_10_9, pow_10_20, pow_10_30, cpow_10_9, cpow_10_20, cpow_10_30, divP_lit, mulP_r, mulP_l, lne_line, lt_line, isi_int, isi_bool, Int.reduceLT, Int.reduceLE, Int.reduceGT, Int.reduceGE, Int.reduceNeg, Int.reduceMul, Int.reduceAdd, Int.reduceSub, Nat.reduceLeDiff, Nat.reduceLT, true_and, and_true, decide_true, decide_false, sgf_pad_22_5, sgf_pad_22_6, sgf_pad_22_7, sgf_pad_22_8, sgf_pad_22_9, sgf_me_8_22, sgf_me_8_23, sgf_me_8_0, sgf_me_8_24, sgf_me_8_4, sgf_me_9_22, sgf_me_9_23, sgf_me_9_0, sgf_me_9_24, sgf_me_9_4, sgf_me_10_6, sgf_me_10_21, sgf_me_10_2, sgf_me_10_20, sgf_me_10_19, sgf_me_10_18, sgf_ini_10, sgf_ini_11, sgf_in0_8, sgf_in0_9, sgf_fl_10_1, sgf_fl_11_12, sgf_fl_11_3, sgf_fl_11_13, sgf_fl_11_14, sgf_fl_11_15, sgf_fl_11_16, sgf_fl_11_17, sgf_fl_11_5, sgf_exc_2, sgf_exc_6, sgf_exc_4, sgf_exc_5, sgf_exc_1, sgf_exc_3, sgf_exm_2_0, sgf_exm_6_0, sgf_exm_4_0, sgf_exm_5_0, sgf_exm_1_0, sgf_exm_3_0, sgf_isa_2_6, sgf_isa_6_6, sgf_isa_4_6, sgf_isa_5_6, sgf_isa_1_6, sgf_isa_3_6, sgf_isz_6, sgf_isv_2, sgf_isv_6, sgf_isv_4, sgf_isv_5, sgf_isv_1, sgf_isv_3, gl_MOST_LETTERS, gl_LETTERS, gl_MOST, gl_MOST_PARTS, gl_STAYS, wipeP, List.set_cons_zero, List.set_cons_succ, evSs_nil, List.lookup, Nat.reduceBEq, seq_str, seq_tup, seq_fl, Bool.true_and, Bool.and_true, Bool.false_and, Bool.and_false, beq_self_eq_true, bltV]
        refine forGo_list (f := PV.int) (as := [if base - 2 + c / 6 % 44 > 1 then base - 2 + c / 6 % 44 else 1, base + c / 264 % 9]) (fun done env g' => PLe g g' ∧ ∃ x6 x7, env = [some (.loc sl), some (.loc r), some (.int c), some (.int base), some (.int ((0 : Int) + (w : Nat))), some (.int y), x6, x7, x8])
          (fun done last rest env g' K' e I nx' => ?_) (fun env g' I => ?_) ⟨.refl _, _, _, rfl⟩
        · obtain ⟨l0, x6, x7, rfl⟩ := I
          refine ⟨trivial, ?_⟩
          have sa := sg'.le l0
          simp only [evS, evE, evEs, evO, evB, evBs, evI, List.map_cons, List.map_nil, List.replicate_succ, List.replicate_zero, List.cons_append, List.nil_append, List.getElem?_cons_zero, List.getElem?_cons_succ, List.set_cons_zero, List.set_cons_succ, bv_add, bv_sub, bv_mul, bv_div, bv_mod, bv_pow, bv_str, av_add, av_sub, cv_lt, cv_le, cv_gt, cv_ge, cv_eq, cv_ne, cv_eqS, cv_neS, tv_bl, tv_int, List.length_cons, List.length_nil, pad, setT_nm, setT_tup, setTs_nil, setTs_cons, decide_eq_true_eq, Bool.not_eq_true', Bool.not_true, Bool.not_false, if_true, if_false, Bool.false_eq_true, Bool.true_eq_false, reduceIte, Nat.reduceAdd, Nat.reduceSub, Nat.reduceBEq, pow_10_9, pow_10_20, pow_10_30, cpow_10_9, cpow_10_20, cpow_10_30, divP_lit, mulP_r, mulP_l, lne_line, lt_line, isi_int, isi_bool, Int.reduceLT, Int.reduceLE, Int.reduceGT, Int.reduceGE, Int.reduceNeg, Int.reduceMul, Int.reduceAdd, Int.reduceSub, Nat.reduceLeDiff, Nat.reduceLT, true_and, and_true, decide_true, decide_false, sgf_pad_22_5, sgf_pad_22_6, sgf_pad_22_7, sgf_pad_22_8, sgf_pad_22_9, sgf_me_8_22, sgf_me_8_23, sgf_me_8_0, sgf_me_8_24, sgf_me_8_4, sgf_me_9_22, sgf_me_9_23, sgf_me_9_0, sgf_me_9_24, sgf_me_9_4, sgf_me_10_6, sgf_me_10_21, sgf_me_10_2, sgf_me_10_20, sgf_me_10_19, sgf_me_10_18, sgf_ini_10, sgf_ini_11, sgf_in0_8, sgf_in0_9, sgf_fl_10_1, sgf_fl_11_12, sgf_fl_11_3, sgf_fl_11_13, sgf_fl_11_14, sgf_fl_11_15, sgf_fl_11_16, sgf_fl_11_17, sgf_fl_11_5, sgf_exc_2, sgf_exc_6, sgf_exc_4, sgf_exc_5, sgf_exc_1, sgf_exc_3, sgf_exm_2_0, sgf_exm_6_0, sgf_exm_4_0, sgf_exm_5_0, sgf_exm_1_0, sgf_exm_3_0, sgf_isa_2_6, sgf_isa_6_6, sgf_isa_4_6, sgf_isa_5_6, sgf_isa_1_6, sgf_isa_3_6, sgf_isz_6, sgf_isv_2, sgf_isv_6, sgf_isv_4, sgf_isv_5, sgf_isv_1, sgf_isv_3, gl_MOST_LETTERS, gl_LETTERS, gl_MOST, gl_MOST_PARTS, gl_STAYS, wipeP, List.set_cons_zero, List.set_cons_succ, evSs_nil, List.lookup, Nat.reduceBEq, seq_str, seq_tup, seq_fl, Bool.true_and, Bool.and_true, Bool.false_and, Bool.and_false, beq_self_eq_true]
          (try dsimp only); (try simp only [evS, evE, evEs, evO, evB, evBs, evI, List.map_cons, List.map_nil, List.replicate_succ, List.replicate_zero, List.cons_append, List.nil_append, List.getElem?_cons_zero, List.getElem?_cons_succ, List.set_cons_zero, List.set_cons_succ, bv_add, bv_sub, bv_mul, bv_div, bv_mod, bv_pow, bv_str, av_add, av_sub, cv_lt, cv_le, cv_gt, cv_ge, cv_eq, cv_ne, cv_eqS, cv_neS, tv_bl, tv_int, List.length_cons, List.length_nil, pad, setT_nm, setT_tup, setTs_nil, setTs_cons, decide_eq_true_eq, Bool.not_eq_true', Bool.not_true, Bool.not_false, if_true, if_false, Bool.false_eq_true, Bool.true_eq_false, reduceIte, Nat.reduceAdd, Nat.reduceSub, Nat.reduceBEq, pow_10_9, pow_10_20, pow_10_30, cpow_10_9, cpow_10_20, cpow_10_30, divP_lit, mulP_r, mulP_l, lne_line, lt_line, isi_int, isi_bool, Int.reduceLT, Int.reduceLE, Int.reduceGT, Int.reduceGE, Int.reduceNeg, Int.reduceMul, Int.reduceAdd, Int.reduceSub, Nat.reduceLeDiff, Nat.reduceLT, true_and, and_true, decide_true, decide_false, sgf_pad_22_5, sgf_pad_22_6, sgf_pad_22_7, sgf_pad_22_8, sgf_pad_22_9, sgf_me_8_22, sgf_me_8_23, sgf_me_8_0, sgf_me_8_24, sgf_me_8_4, sgf_me_9_22, sgf_me_9_23, sgf_me_9_0, sgf_me_9_24, sgf_me_9_4, sgf_me_10_6, sgf_me_10_21, sgf_me_10_2, sgf_me_10_20, sgf_me_10_19, sgf_me_10_18, sgf_ini_10, sgf_ini_11, sgf_in0_8, sgf_in0_9, sgf_fl_10_1, sgf_fl_11_12, sgf_fl_11_3, sgf_fl_11_13, sgf_fl_11_14, sgf_fl_11_15, sgf_fl_11_16, sgf_fl_11_17, sgf_fl_11_5, sgf_exc_2, sgf_exc_6, sgf_exc_4, sgf_exc_5, sgf_exc_1, sgf_exc_3, sgf_exm_2_0, sgf_exm_6_0, sgf_exm_4_0, sgf_exm_5_0, sgf_exm_1_0, sgf_exm_3_0, sgf_isa_2_6, sgf_isa_6_6, sgf_isa_4_6, sgf_isa_5_6, sgf_isa_1_6, sgf_isa_3_6, sgf_isz_6, sgf_isv_2, sgf_isv_6, sgf_isv_4, sgf_isv_5, sgf_isv_1, sgf_isv_3, gl_MOST_LETTERS, gl_LETTERS, gl_MOST, gl_MOST_PARTS, gl_STAYS, wipeP, List.set_cons_zero, List.set_cons_succ, evSs_nil, List.lookup, Nat.reduceBEq, seq_str, seq_tup, seq_fl, Bool.true_and, Bool.and_true, Bool.false_and, Bool.and_false, beq_self_eq_true]); rw [evSs_cons]; simp only [evS, evE, evEs, evO, evB, evBs, evI, List.map_cons, List.map_nil, List.replicate_succ, List.replicate_zero, List.cons_append, List.nil_append, List.getElem?_cons_zero, List.getElem?_cons_succ, List.set_cons_zero, List.set_cons_succ, bv_add, bv_sub, bv_mul, bv_div, bv_mod, bv_pow, bv_str, av_add, av_sub, cv_lt, cv_le, cv_gt, cv_ge, cv_eq, cv_ne, cv_eqS, cv_neS, tv_bl, tv_int, List.length_cons, List.length_nil, pad, setT_nm, setT_tup, setTs_nil, setTs_cons, decide_eq_true_eq, Bool.not_eq_true', Bool.not_true, Bool.not_false, if_true, if_false, Bool.false_eq_true, Bool.true_eq_false, reduceIte, Nat.reduceAdd, Nat.reduceSub, Nat.reduceBEq, pow_10_9, pow_10_20, pow_10_30, cpow_10_9, cpow_10_20, cpow_10_30, divP_lit, mulP_r, mulP_l, lne_line, lt_line, isi_int, isi_bool, Int.reduceLT, Int.reduceLE, Int.reduceGT, Int.reduceGE, Int.reduceNeg, Int.reduceMul, Int.reduceAdd, Int.reduceSub, Nat.reduceLeDiff, Nat.reduceLT, true_and, and_true, decide_true, decide_false, sgf_pad_22_5, sgf_pad_22_6, sgf_pad_22_7, sgf_pad_22_8, sgf_pad_22_9, sgf_me_8_22, sgf_me_8_23, sgf_me_8_0, sgf_me_8_24, sgf_me_8_4, sgf_me_9_22, sgf_me_9_23, sgf_me_9_0, sgf_me_9_24, sgf_me_9_4, sgf_me_10_6, sgf_me_10_21, sgf_me_10_2, sgf_me_10_20, sgf_me_10_19, sgf_me_10_18, sgf_ini_10, sgf_ini_11, sgf_in0_8, sgf_in0_9, sgf_fl_10_1, sgf_fl_11_12, sgf_fl_11_3, sgf_fl_11_13, sgf_fl_11_14, sgf_fl_11_15, sgf_fl_11_16, sgf_fl_11_17, sgf_fl_11_5, sgf_exc_2, sgf_exc_6, sgf_exc_4, sgf_exc_5, sgf_exc_1, sgf_exc_3, sgf_exm_2_0, sgf_exm_6_0, sgf_exm_4_0, sgf_exm_5_0, sgf_exm_1_0, sgf_exm_3_0, sgf_isa_2_6, sgf_isa_6_6, sgf_isa_4_6, sgf_isa_5_6, sgf_isa_1_6, sgf_isa_3_6, sgf_isz_6, sgf_isv_2, sgf_isv_6, sgf_isv_4, sgf_isv_5, sgf_isv_1, sgf_isv_3, gl_MOST_LETTERS, gl_LETTERS, gl_MOST, gl_MOST_PARTS, gl_STAYS, wipeP, List.set_cons_zero, List.set_cons_succ, evSs_nil, List.lookup, Nat.reduceBEq, seq_str, seq_tup, seq_fl, Bool.true_and, Bool.and_true, Bool.false_and, Bool.and_false, beq_self_eq_true, sa.1, List.lookup_nil]
          refine due_sp sa nd hl fun g1 l1 => ?_
          have sb := sa.le l1
          (try dsimp only); (try simp only [evS, evE, evEs, evO, evB, evBs, evI, List.map_cons, List.map_nil, List.replicate_succ, List.replicate_zero, List.cons_append, List.nil_append, List.getElem?_cons_zero, List.getElem?_cons_succ, List.set_cons_zero, List.set_cons_succ, bv_add, bv_sub, bv_mul, bv_div, bv_mod, bv_pow, bv_str, av_add, av_sub, cv_lt, cv_le, cv_gt, cv_ge, cv_eq, cv_ne, cv_eqS, cv_neS, tv_bl, tv_int, List.length_cons, List.length_nil, pad, setT_nm, setT_tup, setTs_nil, setTs_cons, decide_eq_true_eq, Bool.not_eq_true', Bool.not_true, Bool.not_false, if_true, if_false, Bool.false_eq_true, Bool.true_eq_false, reduceIte, Nat.reduceAdd, Nat.reduceSub, Nat.reduceBEq, pow_10_9, pow_10_20, pow_10_30, cpow_10_9, cpow_10_20, cpow_10_30, divP_lit, mulP_r, mulP_l, lne_line, lt_line, isi_int, isi_bool, Int.reduceLT, Int.reduceLE, Int.reduceGT, Int.reduceGE, Int.reduceNeg, Int.reduceMul, Int.reduceAdd, Int.reduceSub, Nat.reduceLeDiff, Nat.reduceLT, true_and, and_true, decide_true, decide_false, sgf_pad_22_5, sgf_pad_22_6, sgf_pad_22_7, sgf_pad_22_8, sgf_pad_22_9, sgf_me_8_22, sgf_me_8_23, sgf_me_8_0, sgf_me_8_24, sgf_me_8_4, sgf_me_9_22, sgf_me_9_23, sgf_me_9_0, sgf_me_9_24, sgf_me_9_4, sgf_me_10_6, sgf_me_10_21, sgf_me_10_2, sgf_me_10_20, sgf_me_10_19, sgf_me_10_18, sgf_ini_10, sgf_ini_11, sgf_in0_8, sgf_in0_9, sgf_fl_10_1, sgf_fl_11_12, sgf_fl_11_3, sgf_fl_11_13, sgf_fl_11_14, sgf_fl_11_15, sgf_fl_11_16, sgf_fl_11_17, sgf_fl_11_5, sgf_exc_2, sgf_exc_6, sgf_exc_4, sgf_exc_5, sgf_exc_1, sgf_exc_3, sgf_exm_2_0, sgf_exm_6_0, sgf_exm_4_0, sgf_exm_5_0, sgf_exm_1_0, sgf_exm_3_0, sgf_isa_2_6, sgf_isa_6_6, sgf_isa_4_6, sgf_isa_5_6, sgf_isa_1_6, sgf_isa_3_6, sgf_isz_6, sgf_isv_2, sgf_isv_6, sgf_isv_4, sgf_isv_5, sgf_isv_1, sgf_isv_3, gl_MOST_LETTERS, gl_LETTERS, gl_MOST, gl_MOST_PARTS, gl_STAYS, wipeP, List.set_cons_zero, List.set_cons_succ, evSs_nil, List.lookup, Nat.reduceBEq, seq_str, seq_tup, seq_fl, Bool.true_and, Bool.and_true, Bool.false_and, Bool.and_false, beq_self_eq_true]); rw [evSs_cons]; simp only [evS, evE, evEs, evO, evB, evBs, evI, List.map_cons, List.map_nil, List.replicate_succ, List.replicate_zero, List.cons_append, List.nil_append, List.getElem?_cons_zero, List.getElem?_cons_succ, List.set_cons_zero, List.set_cons_succ, bv_add, bv_sub, bv_mul, bv_div, bv_mod, bv_pow, bv_str, av_add, av_sub, cv_lt, cv_le, cv_gt, cv_ge, cv_eq, cv_ne, cv_eqS, cv_neS, tv_bl, tv_int, List.length_cons, List.length_nil, pad, setT_nm, setT_tup, setTs_nil, setTs_cons, decide_eq_true_eq, Bool.not_eq_true', Bool.not_true, Bool.not_false, if_true, if_false, Bool.false_eq_true, Bool.true_eq_false, reduceIte, Nat.reduceAdd, Nat.reduceSub, Nat.reduceBEq, pow_10_9, pow_10_20, pow_10_30, cpow_10_9, cpow_10_20, cpow_10_30, divP_lit, mulP_r, mulP_l, lne_line, lt_line, isi_int, isi_bool, Int.reduceLT, Int.reduceLE, Int.reduceGT, Int.reduceGE, Int.reduceNeg, Int.reduceMul, Int.reduceAdd, Int.reduceSub, Nat.reduceLeDiff, Nat.reduceLT, true_and, and_true, decide_true, decide_false, sgf_pad_22_5, sgf_pad_22_6, sgf_pad_22_7, sgf_pad_22_8, sgf_pad_22_9, sgf_me_8_22, sgf_me_8_23, sgf_me_8_0, sgf_me_8_24, sgf_me_8_4, sgf_me_9_22, sgf_me_9_23, sgf_me_9_0, sgf_me_9_24, sgf_me_9_4, sgf_me_10_6, sgf_me_10_21, sgf_me_10_2, sgf_me_10_20, sgf_me_10_19, sgf_me_10_18, sgf_ini_10, sgf_ini_11, sgf_in0_8, sgf_in0_9, sgf_fl_10_1, sgf_fl_11_12, sgf_fl_11_3, sgf_fl_11_13, sgf_fl_11_14, sgf_fl_11_15, sgf_fl_11_16, sgf_fl_11_17, sgf_fl_11_5, sgf_exc_2, sgf_exc_6, sgf_exc_4, sgf_exc_5, sgf_exc_1, sgf_exc_3, sgf_exm_2_0, sgf_exm_6_0, sgf_exm_4_0, sgf_exm_5_0, sgf_exm_1_0, sgf_exm_3_0, sgf_isa_2_6, sgf_isa_6_6, sgf_isa_4_6, sgf_isa_5_6, sgf_isa_1_6, sgf_isa_3_6, sgf_isz_6, sgf_isv_2, sgf_isv_6, sgf_isv_4, sgf_isv_5, sgf_isv_1, sgf_isv_3, gl_MOST_LETTERS, gl_LETTERS, gl_MOST, gl_MOST_PARTS, gl_STAYS, wipeP, List.set_cons_zero, List.set_cons_succ, evSs_nil, List.lookup, Nat.reduceBEq, seq_str, seq_tup, seq_fl, Bool.true_and, Bool.and_true, Bool.false_and, Bool.and_false, beq_self_eq_true, isi_due]
          refine lawdue_sp (l1 _ _ (l0 _ _ hr')) nd hl fun g2 l2 => ?_
          have sc := sb.le l2
          simp only [evS, evE, evEs, evO, evB, evBs, evI, List.map_cons, List.map_nil, List.replicate_succ, List.replicate_zero, List.cons_append, List.nil_append, List.getElem?_cons_zero, List.getElem?_cons_succ, List.set_cons_zero, List.set_cons_succ, bv_add, bv_sub, bv_mul, bv_div, bv_mod, bv_pow, bv_str, av_add, av_sub, cv_lt, cv_le, cv_gt, cv_ge, cv_eq, cv_ne, cv_eqS, cv_neS, tv_bl, tv_int, List.length_cons, List.length_nil, pad, setT_nm, setT_tup, setTs_nil, setTs_cons, decide_eq_true_eq, Bool.not_eq_true', Bool.not_true, Bool.not_false, if_true, if_false, Bool.false_eq_true, Bool.true_eq_false, reduceIte, Nat.reduceAdd, Nat.reduceSub, Nat.reduceBEq, pow_10_9, pow_10_20, pow_10_30, cpow_10_9, cpow_10_20, cpow_10_30, divP_lit, mulP_r, mulP_l, lne_line, lt_line, isi_int, isi_bool, Int.reduceLT, Int.reduceLE, Int.reduceGT, Int.reduceGE, Int.reduceNeg, Int.reduceMul, Int.reduceAdd, Int.reduceSub, Nat.reduceLeDiff, Nat.reduceLT, true_and, and_true, decide_true, decide_false, sgf_pad_22_5, sgf_pad_22_6, sgf_pad_22_7, sgf_pad_22_8, sgf_pad_22_9, sgf_me_8_22, sgf_me_8_23, sgf_me_8_0, sgf_me_8_24, sgf_me_8_4, sgf_me_9_22, sgf_me_9_23, sgf_me_9_0, sgf_me_9_24, sgf_me_9_4, sgf_me_10_6, sgf_me_10_21, sgf_me_10_2, sgf_me_10_20, sgf_me_10_19, sgf_me_10_18, sgf_ini_10, sgf_ini_11, sgf_in0_8, sgf_in0_9, sgf_fl_10_1, sgf_fl_11_12, sgf_fl_11_3, sgf_fl_11_13, sgf_fl_11_14, sgf_fl_11_15, sgf_fl_11_16, sgf_fl_11_17, sgf_fl_11_5, sgf_exc_2, sgf_exc_6, sgf_exc_4, sgf_exc_5, sgf_exc_1, sgf_exc_3, sgf_exm_2_0, sgf_exm_6_0, sgf_exm_4_0, sgf_exm_5_0, sgf_exm_1_0, sgf_exm_3_0, sgf_isa_2_6, sgf_isa_6_6, sgf_isa_4_6, sgf_isa_5_6, sgf_isa_1_6, sgf_isa_3_6, sgf_isz_6, sgf_isv_2, sgf_isv_6, sgf_isv_4, sgf_isv_5, sgf_isv_1, sgf_isv_3, gl_MOST_LETTERS, gl_LETTERS, gl_MOST, gl_MOST_PARTS, gl_STAYS, wipeP, List.set_cons_zero, List.set_cons_succ, evSs_nil, List.lookup, Nat.reduceBEq, seq_str, seq_tup, seq_fl, Bool.true_and, Bool.and_true, Bool.false_and, Bool.and_false, beq_self_eq_true, ne_due, sc.1, List.lookup_nil]
          refine due_sp sc nd hl fun g3 l3 => ?_
          simp only [evS, evE, evEs, evO, evB, evBs, evI, List.map_cons, List.map_nil, List.replicate_succ, List.replicate_zero, List.cons_append, List.nil_append, List.getElem?_cons_zero, List.getElem?_cons_succ, List.set_cons_zero, List.set_cons_succ, bv_add, bv_sub, bv_mul, bv_div, bv_mod, bv_pow, bv_str, av_add, av_sub, cv_lt, cv_le, cv_gt, cv_ge, cv_eq, cv_ne, cv_eqS, cv_neS, tv_bl, tv_int, List.length_cons, List.length_nil, pad, setT_nm, setT_tup, setTs_nil, setTs_cons, decide_eq_true_eq, Bool.not_eq_true', Bool.not_true, Bool.not_false, if_true, if_false, Bool.false_eq_true, Bool.true_eq_false, reduceIte, Nat.reduceAdd, Nat.reduceSub, Nat.reduceBEq, pow_10_9, pow_10_20, pow_10_30, cpow_10_9, cpow_10_20, cpow_10_30, divP_lit, mulP_r, mulP_l, lne_line, lt_line, isi_int, isi_bool, Int.reduceLT, Int.reduceLE, Int.reduceGT, Int.reduceGE, Int.reduceNeg, Int.reduceMul, Int.reduceAdd, Int.reduceSub, Nat.reduceLeDiff, Nat.reduceLT, true_and, and_true, decide_true, decide_false, sgf_pad_22_5, sgf_pad_22_6, sgf_pad_22_7, sgf_pad_22_8, sgf_pad_22_9, sgf_me_8_22, sgf_me_8_23, sgf_me_8_0, sgf_me_8_24, sgf_me_8_4, sgf_me_9_22, sgf_me_9_23, sgf_me_9_0, sgf_me_9_24, sgf_me_9_4, sgf_me_10_6, sgf_me_10_21, sgf_me_10_2, sgf_me_10_20, sgf_me_10_19, sgf_me_10_18, sgf_ini_10, sgf_ini_11, sgf_in0_8, sgf_in0_9, sgf_fl_10_1, sgf_fl_11_12, sgf_fl_11_3, sgf_fl_11_13, sgf_fl_11_14, sgf_fl_11_15, sgf_fl_11_16, sgf_fl_11_17, sgf_fl_11_5, sgf_exc_2, sgf_exc_6, sgf_exc_4, sgf_exc_5, sgf_exc_1, sgf_exc_3, sgf_exm_2_0, sgf_exm_6_0, sgf_exm_4_0, sgf_exm_5_0, sgf_exm_1_0, sgf_exm_3_0, sgf_isa_2_6, sgf_isa_6_6, sgf_isa_4_6, sgf_isa_5_6, sgf_isa_1_6, sgf_isa_3_6, sgf_isz_6, sgf_isv_2, sgf_isv_6, sgf_isv_4, sgf_isv_5, sgf_isv_1, sgf_isv_3, gl_MOST_LETTERS, gl_LETTERS, gl_MOST, gl_MOST_PARTS, gl_STAYS, wipeP, List.set_cons_zero, List.set_cons_succ, evSs_nil, List.lookup, Nat.reduceBEq, seq_str, seq_tup, seq_fl, Bool.true_and, Bool.and_true, Bool.false_and, Bool.and_false, beq_self_eq_true, ne_due]
          exact nx' _ _ ⟨((l0.trans l1).trans l2).trans l3, _, _, rfl⟩
        · obtain ⟨l0, x6, x7, rfl⟩ := I
          refine ⟨trivial, ?_⟩
          exact nx _ _ ⟨lg.trans l0, _, _, _, _, _, rfl⟩
      · rw [if_neg z1, evSs_cons]
        simp only [evS, evE, evEs, evO, evB, evBs, evI, List.map_cons, List.map_nil, List.replicate_succ, List.replicate_zero, List.cons_append, List.nil_append, List.getElem?_cons_zero, List.getElem?_cons_succ, List.set_cons_zero, List.set_cons_succ, bv_add, bv_sub, bv_mul, bv_div, bv_mod, bv_pow, bv_str, av_add, av_sub, cv_lt, cv_le, cv_gt, cv_ge, cv_eq, cv_ne, cv_eqS, cv_neS, tv_bl, tv_int, List.length_cons, List.length_nil, pad, setT_nm, setT_tup, setTs_nil, setTs_cons, decide_eq_true_eq, Bool.not_eq_true', Bool.not_true, Bool.not_false, if_true, if_false, Bool.false_eq_true, Bool.true_eq_false, reduceIte, Nat.reduceAdd, Nat.reduceSub, Nat.reduceBEq, pow_10_9, pow_10_20, pow_10_30, cpow_10_9, cpow_10_20, cpow_10_30, divP_lit, mulP_r, mulP_l, lne_line, lt_line, isi_int, isi_bool, Int.reduceLT, Int.reduceLE, Int.reduceGT, Int.reduceGE, Int.reduceNeg, Int.reduceMul, Int.reduceAdd, Int.reduceSub, Nat.reduceLeDiff, Nat.reduceLT, true_and, and_true, decide_true, decide_false, sgf_pad_22_5, sgf_pad_22_6, sgf_pad_22_7, sgf_pad_22_8, sgf_pad_22_9, sgf_me_8_22, sgf_me_8_23, sgf_me_8_0, sgf_me_8_24, sgf_me_8_4, sgf_me_9_22, sgf_me_9_23, sgf_me_9_0, sgf_me_9_24, sgf_me_9_4, sgf_me_10_6, sgf_me_10_21, sgf_me_10_2, sgf_me_10_20, sgf_me_10_19, sgf_me_10_18, sgf_ini_10, sgf_ini_11, sgf_in0_8, sgf_in0_9, sgf_fl_10_1, sgf_fl_11_12, sgf_fl_11_3, sgf_fl_11_13, sgf_fl_11_14, sgf_fl_11_15, sgf_fl_11_16, sgf_fl_11_17, sgf_fl_11_5, sgf_exc_2, sgf_exc_6, sgf_exc_4, sgf_exc_5, sgf_exc_1, sgf_exc_3, sgf_exm_2_0, sgf_exm_6_0, sgf_exm_4_0, sgf_exm_5_0, sgf_exm_1_0, sgf_exm_3_0, sgf_isa_2_6, sgf_isa_6_6, sgf_isa_4_6, sgf_isa_5_6, sgf_isa_1_6, sgf_isa_3_6, sgf_isz_6, sgf_isv_2, sgf_isv_6, sgf_isv_4, sgf_isv_5, sgf_isv_1, sgf_isv_3, gl_MOST_LETTERS, gl_LETTERS, gl_MOST, gl_MOST_PARTS, gl_STAYS, wipeP, List.set_cons_zero, List.set_cons_succ, evSs_nil, List.lookup, Nat.reduceBEq, seq_str, seq_tup, seq_fl, Bool.true_and, Bool.and_true, Bool.false_and, Bool.and_false, beq_self_eq_true]
        refine ⟨r, dR L, hr', rfl, pup_same, fun P nP => ?_⟩
        have st := sg'.off (c := .dct true (dR L)) hr' nrd
        have nPr : P ≠ r := ne_new nP pup_same
        have nPg : g P = none := by rw [pup_ne nPr] at nP; exact nP
        rw [show (dR L).map (fun kv => kP kv.1) = L.map fun e => .int e.1 by rw [dR, List.map_map]; rfl]
        refine compGo_filter (f := fun e : Ent => PV.int e.1) (as := L) (fun _ => false) (fun e => .int e.1) (fun en => [some (.loc sl), some (.loc r), some (.int c), some (.int base), some (.int ((0 : Int) + (w : Nat))), some (.int y), x6, x7, some (.int en.1)]) (small_line (by omega)) (fun acc => by rw [pup_ne nPr.symm]; exact pup_same) (fun en T _ q => q) (fun en acc N he nx => ?_) (fun en acc N _ z _ => by cases z) ?_
        · have sp := st.le (PLe.new (c := .lst acc) nP)
          have hv : valP (dR L) (.inl en.1) = some (tupP en.2.2) := val_ent (f := fun e => tupP e.2.2) nd he
          simp only [evS, evE, evEs, evO, evB, evBs, evI, List.map_cons, List.map_nil, List.replicate_succ, List.replicate_zero, List.cons_append, List.nil_append, List.getElem?_cons_zero, List.getElem?_cons_succ, List.set_cons_zero, List.set_cons_succ, bv_add, bv_sub, bv_mul, bv_div, bv_mod, bv_pow, bv_str, av_add, av_sub, cv_lt, cv_le, cv_gt, cv_ge, cv_eq, cv_ne, cv_eqS, cv_neS, tv_bl, tv_int, List.length_cons, List.length_nil, pad, setT_nm, setT_tup, setTs_nil, setTs_cons, decide_eq_true_eq, Bool.not_eq_true', Bool.not_true, Bool.not_false, if_true, if_false, Bool.false_eq_true, Bool.true_eq_false, reduceIte, Nat.reduceAdd, Nat.reduceSub, Nat.reduceBEq, pow_10_9, pow_10_20, pow_10_30, cpow_10_9, cpow_10_20, cpow_10_30, divP_lit, mulP_r, mulP_l, lne_line, lt_line, isi_int, isi_bool, Int.reduceLT, Int.reduceLE, Int.reduceGT, Int.reduceGE, Int.reduceNeg, Int.reduceMul, Int.reduceAdd, Int.reduceSub, Nat.reduceLeDiff, Nat.reduceLT, true_and, and_true, decide_true, decide_false, sgf_pad_22_5, sgf_pad_22_6, sgf_pad_22_7, sgf_pad_22_8, sgf_pad_22_9, sgf_me_8_22, sgf_me_8_23, sgf_me_8_0, sgf_me_8_24, sgf_me_8_4, sgf_me_9_22, sgf_me_9_23, sgf_me_9_0, sgf_me_9_24, sgf_me_9_4, sgf_me_10_6, sgf_me_10_21, sgf_me_10_2, sgf_me_10_20, sgf_me_10_19, sgf_me_10_18, sgf_ini_10, sgf_ini_11, sgf_in0_8, sgf_in0_9, sgf_fl_10_1, sgf_fl_11_12, sgf_fl_11_3, sgf_fl_11_13, sgf_fl_11_14, sgf_fl_11_15, sgf_fl_11_16, sgf_fl_11_17, sgf_fl_11_5, sgf_exc_2, sgf_exc_6, sgf_exc_4, sgf_exc_5, sgf_exc_1, sgf_exc_3, sgf_exm_2_0, sgf_exm_6_0, sgf_exm_4_0, sgf_exm_5_0, sgf_exm_1_0, sgf_exm_3_0, sgf_isa_2_6, sgf_isa_6_6, sgf_isa_4_6, sgf_isa_5_6, sgf_isa_1_6, sgf_isa_3_6, sgf_isz_6, sgf_isv_2, sgf_isv_6, sgf_isv_4, sgf_isv_5, sgf_isv_1, sgf_isv_3, gl_MOST_LETTERS, gl_LETTERS, gl_MOST, gl_MOST_PARTS, gl_STAYS, wipeP, List.set_cons_zero, List.set_cons_succ, evSs_nil, List.lookup, Nat.reduceBEq, seq_str, seq_tup, seq_fl, Bool.true_and, Bool.and_true, Bool.false_and, Bool.and_false, beq_self_eq_true, sp.1, List.lookup_nil]
          refine order_sp sp nd he ?_
          have hr2 : (pup (pup g r (.dct true (dR L))) P (.lst acc)) r = some (.dct true (dR L)) := by rw [pup_ne nPr.symm]; exact pup_same
          simp only [evS, evE, evEs, evO, evB, evBs, evI, List.map_cons, List.map_nil, List.replicate_succ, List.replicate_zero, List.cons_append, List.nil_append, List.getElem?_cons_zero, List.getElem?_cons_succ, List.set_cons_zero, List.set_cons_succ, bv_add, bv_sub, bv_mul, bv_div, bv_mod, bv_pow, bv_str, av_add, av_sub, cv_lt, cv_le, cv_gt, cv_ge, cv_eq, cv_ne, cv_eqS, cv_neS, tv_bl, tv_int, List.length_cons, List.length_nil, pad, setT_nm, setT_tup, setTs_nil, setTs_cons, decide_eq_true_eq, Bool.not_eq_true', Bool.not_true, Bool.not_false, if_true, if_false, Bool.false_eq_true, Bool.true_eq_false, reduceIte, Nat.reduceAdd, Nat.reduceSub, Nat.reduceBEq, pow_10_9, pow_10_20, pow_10_30, cpow_10_9, cpow_10_20, cpow_10_30, divP_lit, mulP_r, mulP_l, lne_line, lt_line, isi_int, isi_bool, Int.reduceLT, Int.reduceLE, Int.reduceGT, Int.reduceGE, Int.reduceNeg, Int.reduceMul, Int.reduceAdd, Int.reduceSub, Nat.reduceLeDiff, Nat.reduceLT, true_and, and_true, decide_true, decide_false, sgf_pad_22_5, sgf_pad_22_6, sgf_pad_22_7, sgf_pad_22_8, sgf_pad_22_9, sgf_me_8_22, sgf_me_8_23, sgf_me_8_0, sgf_me_8_24, sgf_me_8_4, sgf_me_9_22, sgf_me_9_23, sgf_me_9_0, sgf_me_9_24, sgf_me_9_4, sgf_me_10_6, sgf_me_10_21, sgf_me_10_2, sgf_me_10_20, sgf_me_10_19, sgf_me_10_18, sgf_ini_10, sgf_ini_11, sgf_in0_8, sgf_in0_9, sgf_fl_10_1, sgf_fl_11_12, sgf_fl_11_3, sgf_fl_11_13, sgf_fl_11_14, sgf_fl_11_15, sgf_fl_11_16, sgf_fl_11_17, sgf_fl_11_5, sgf_exc_2, sgf_exc_6, sgf_exc_4, sgf_exc_5, sgf_exc_1, sgf_exc_3, sgf_exm_2_0, sgf_exm_6_0, sgf_exm_4_0, sgf_exm_5_0, sgf_exm_1_0, sgf_exm_3_0, sgf_isa_2_6, sgf_isa_6_6, sgf_isa_4_6, sgf_isa_5_6, sgf_isa_1_6, sgf_isa_3_6, sgf_isz_6, sgf_isv_2, sgf_isv_6, sgf_isv_4, sgf_isv_5, sgf_isv_1, sgf_isv_3, gl_MOST_LETTERS, gl_LETTERS, gl_MOST, gl_MOST_PARTS, gl_STAYS, wipeP, List.set_cons_zero, List.set_cons_succ, evSs_nil, List.lookup, Nat.reduceBEq, seq_str, seq_tup, seq_fl, Bool.true_and, Bool.and_true, Bool.false_and, Bool.and_false, beq_self_eq_true, subV, hr2, toKey, hv]
          refine like_sp (sp.2.2 en he) ?_
          simp only [evS, evE, evEs, evO, evB, evBs, evI, List.map_cons, List.map_nil, List.replicate_succ, List.replicate_zero, List.cons_append, List.nil_append, List.getElem?_cons_zero, List.getElem?_cons_succ, List.set_cons_zero, List.set_cons_succ, bv_add, bv_sub, bv_mul, bv_div, bv_mod, bv_pow, bv_str, av_add, av_sub, cv_lt, cv_le, cv_gt, cv_ge, cv_eq, cv_ne, cv_eqS, cv_neS, tv_bl, tv_int, List.length_cons, List.length_nil, pad, setT_nm, setT_tup, setTs_nil, setTs_cons, decide_eq_true_eq, Bool.not_eq_true', Bool.not_true, Bool.not_false, if_true, if_false, Bool.false_eq_true, Bool.true_eq_false, reduceIte, Nat.reduceAdd, Nat.reduceSub, Nat.reduceBEq, pow_10_9, pow_10_20, pow_10_30, cpow_10_9, cpow_10_20, cpow_10_30, divP_lit, mulP_r, mulP_l, lne_line, lt_line, isi_int, isi_bool, Int.reduceLT, Int.reduceLE, Int.reduceGT, Int.reduceGE, Int.reduceNeg, Int.reduceMul, Int.reduceAdd, Int.reduceSub, Nat.reduceLeDiff, Nat.reduceLT, true_and, and_true, decide_true, decide_false, sgf_pad_22_5, sgf_pad_22_6, sgf_pad_22_7, sgf_pad_22_8, sgf_pad_22_9, sgf_me_8_22, sgf_me_8_23, sgf_me_8_0, sgf_me_8_24, sgf_me_8_4, sgf_me_9_22, sgf_me_9_23, sgf_me_9_0, sgf_me_9_24, sgf_me_9_4, sgf_me_10_6, sgf_me_10_21, sgf_me_10_2, sgf_me_10_20, sgf_me_10_19, sgf_me_10_18, sgf_ini_10, sgf_ini_11, sgf_in0_8, sgf_in0_9, sgf_fl_10_1, sgf_fl_11_12, sgf_fl_11_3, sgf_fl_11_13, sgf_fl_11_14, sgf_fl_11_15, sgf_fl_11_16, sgf_fl_11_17, sgf_fl_11_5, sgf_exc_2, sgf_exc_6, sgf_exc_4, sgf_exc_5, sgf_exc_1, sgf_exc_3, sgf_exm_2_0, sgf_exm_6_0, sgf_exm_4_0, sgf_exm_5_0, sgf_exm_1_0, sgf_exm_3_0, sgf_isa_2_6, sgf_isa_6_6, sgf_isa_4_6, sgf_isa_5_6, sgf_isa_1_6, sgf_isa_3_6, sgf_isz_6, sgf_isv_2, sgf_isv_6, sgf_isv_4, sgf_isv_5, sgf_isv_1, sgf_isv_3, gl_MOST_LETTERS, gl_LETTERS, gl_MOST, gl_MOST_PARTS, gl_STAYS, wipeP, List.set_cons_zero, List.set_cons_succ, evSs_nil, List.lookup, Nat.reduceBEq, seq_str, seq_tup, seq_fl, Bool.true_and, Bool.and_true, Bool.false_and, Bool.and_false, beq_self_eq_true]
          exact nx
        · intro p2 np2
          have ne : P ≠ p2 := fun z => by subst z; rw [pup_ne nPr, pup_same] at np2; cases np2
          rw [cn_loc, eqK_nil (a := P) (b := p2) (by rw [pup_ne ne, pup_ne nPr, pup_same]) pup_same]
          rw [show ((L.filter fun _ => false).map fun e => PV.int e.1) = [] by simp]
          simp only [evS, evE, evEs, evO, evB, evBs, evI, List.map_cons, List.map_nil, List.replicate_succ, List.replicate_zero, List.cons_append, List.nil_append, List.getElem?_cons_zero, List.getElem?_cons_succ, List.set_cons_zero, List.set_cons_succ, bv_add, bv_sub, bv_mul, bv_div, bv_mod, bv_pow, bv_str, av_add, av_sub, cv_lt, cv_le, cv_gt, cv_ge, cv_eq, cv_ne, cv_eqS, cv_neS, tv_bl, tv_int, List.length_cons, List.length_nil, pad, setT_nm, setT_tup, setTs_nil, setTs_cons, decide_eq_true_eq, Bool.not_eq_true', Bool.not_true, Bool.not_false, if_true, if_false, Bool.false_eq_true, Bool.true_eq_false, reduceIte, Nat.reduceAdd, Nat.reduceSub, Nat.reduceBEq, pow_10_9, pow_10_20, pow_10_30, cpow_10_9, cpow_10_20, cpow_10_30, divP_lit, mulP_r, mulP_l, lne_line, lt_line, isi_int, isi_bool, Int.reduceLT, Int.reduceLE, Int.reduceGT, Int.reduceGE, Int.reduceNeg, Int.reduceMul, Int.reduceAdd, Int.reduceSub, Nat.reduceLeDiff, Nat.reduceLT, true_and, and_true, decide_true, decide_false, sgf_pad_22_5, sgf_pad_22_6, sgf_pad_22_7, sgf_pad_22_8, sgf_pad_22_9, sgf_me_8_22, sgf_me_8_23, sgf_me_8_0, sgf_me_8_24, sgf_me_8_4, sgf_me_9_22, sgf_me_9_23, sgf_me_9_0, sgf_me_9_24, sgf_me_9_4, sgf_me_10_6, sgf_me_10_21, sgf_me_10_2, sgf_me_10_20, sgf_me_10_19, sgf_me_10_18, sgf_ini_10, sgf_ini_11, sgf_in0_8, sgf_in0_9, sgf_fl_10_1, sgf_fl_11_12, sgf_fl_11_3, sgf_fl_11_13, sgf_fl_11_14, sgf_fl_11_15, sgf_fl_11_16, sgf_fl_11_17, sgf_fl_11_5, sgf_exc_2, sgf_exc_6, sgf_exc_4, sgf_exc_5, sgf_exc_1, sgf_exc_3, sgf_exm_2_0, sgf_exm_6_0, sgf_exm_4_0, sgf_exm_5_0, sgf_exm_1_0, sgf_exm_3_0, sgf_isa_2_6, sgf_isa_6_6, sgf_isa_4_6, sgf_isa_5_6, sgf_isa_1_6, sgf_isa_3_6, sgf_isz_6, sgf_isv_2, sgf_isv_6, sgf_isv_4, sgf_isv_5, sgf_isv_1, sgf_isv_3, gl_MOST_LETTERS, gl_LETTERS, gl_MOST, gl_MOST_PARTS, gl_STAYS, wipeP, List.set_cons_zero, List.set_cons_succ, evSs_nil, List.lookup, Nat.reduceBEq, seq_str, seq_tup, seq_fl, Bool.true_and, Bool.and_true, Bool.false_and, Bool.and_false, beq_self_eq_true, List.isEmpty_nil]
          refine nx _ _ ⟨fun x cc hx => ?_, _, _, _, _, _, rfl⟩
          have hx' := lg _ _ hx
          have n2 : x ≠ P := fun z => by subst z; rw [nPg] at hx'; cases hx'
          have n1 : x ≠ p2 := fun z => by
            subst z
            by_cases zr : x = r
            · subst zr; rw [pup_same] at np2; cases np2
            · rw [pup_ne zr, pup_ne n2, pup_ne zr] at np2; rw [np2] at hx'; cases hx'
          rw [pup_ne n1]
          by_cases zr : x = r
          · subst zr
            rw [pup_same]
            rw [hr'] at hx'
            exact hx'
          · rw [pup_ne zr, pup_ne n2, pup_ne zr]
            exact hx'
  · obtain ⟨lg, x4, x5, x6, x7, x8, rfl⟩ := I
    refine ⟨trivial, ?_⟩
    (try dsimp only); (try simp only [evS, evE, evEs, evO, evB, evBs, evI, List.map_cons, List.map_nil, List.replicate_succ, List.replicate_zero, List.cons_append, List.nil_append, List.getElem?_cons_zero, List.getElem?_cons_succ, List.set_cons_zero, List.set_cons_succ, bv_add, bv_sub, bv_mul, bv_div, bv_mod, bv_pow, bv_str, av_add, av_sub, cv_lt, cv_le, cv_gt, cv_ge, cv_eq, cv_ne, cv_eqS, cv_neS, tv_bl, tv_int, List.length_cons, List.length_nil, pad, setT_nm, setT_tup, setTs_nil, setTs_cons, decide_eq_true_eq, Bool.not_eq_true', Bool.not_true, Bool.not_false, if_true, if_false, Bool.false_eq_true, Bool.true_eq_false, reduceIte, Nat.reduceAdd, Nat.reduceSub, Nat.reduceBEq, pow_10_9, pow_10_20, pow_10_30, cpow_10_9, cpow_10_20, cpow_10_30, divP_lit, mulP_r, mulP_l, lne_line, lt_line, isi_int, isi_bool, Int.reduceLT, Int.reduceLE, Int.reduceGT, Int.reduceGE, Int.reduceNeg, Int.reduceMul, Int.reduceAdd, Int.reduceSub, Nat.reduceLeDiff, Nat.reduceLT, true_and, and_true, decide_true, decide_false, sgf_pad_22_5, sgf_pad_22_6, sgf_pad_22_7, sgf_pad_22_8, sgf_pad_22_9, sgf_me_8_22, sgf_me_8_23, sgf_me_8_0, sgf_me_8_24, sgf_me_8_4, sgf_me_9_22, sgf_me_9_23, sgf_me_9_0, sgf_me_9_24, sgf_me_9_4, sgf_me_10_6, sgf_me_10_21, sgf_me_10_2, sgf_me_10_20, sgf_me_10_19, sgf_me_10_18, sgf_ini_10, sgf_ini_11, sgf_in0_8, sgf_in0_9, sgf_fl_10_1, sgf_fl_11_12, sgf_fl_11_3, sgf_fl_11_13, sgf_fl_11_14, sgf_fl_11_15, sgf_fl_11_16, sgf_fl_11_17, sgf_fl_11_5, sgf_exc_2, sgf_exc_6, sgf_exc_4, sgf_exc_5, sgf_exc_1, sgf_exc_3, sgf_exm_2_0, sgf_exm_6_0, sgf_exm_4_0, sgf_exm_5_0, sgf_exm_1_0, sgf_exm_3_0, sgf_isa_2_6, sgf_isa_6_6, sgf_isa_4_6, sgf_isa_5_6, sgf_isa_1_6, sgf_isa_3_6, sgf_isz_6, sgf_isv_2, sgf_isv_6, sgf_isv_4, sgf_isv_5, sgf_isv_1, sgf_isv_3, gl_MOST_LETTERS, gl_LETTERS, gl_MOST, gl_MOST_PARTS, gl_STAYS, wipeP, List.set_cons_zero, List.set_cons_succ, evSs_nil, List.lookup, Nat.reduceBEq, seq_str, seq_tup, seq_fl, Bool.true_and, Bool.and_true, Bool.false_and, Bool.and_false, beq_self_eq_true]); rw [evSs_cons]; simp only [evS, evE, evEs, evO, evB, evBs, evI, List.map_cons, List.map_nil, List.replicate_succ, List.replicate_zero, List.cons_append, List.nil_append, List.getElem?_cons_zero, List.getElem?_cons_succ, List.set_cons_zero, List.set_cons_succ, bv_add, bv_sub, bv_mul, bv_div, bv_mod, bv_pow, bv_str, av_add, av_sub, cv_lt, cv_le, cv_gt, cv_ge, cv_eq, cv_ne, cv_eqS, cv_neS, tv_bl, tv_int, List.length_cons, List.length_nil, pad, setT_nm, setT_tup, setTs_nil, setTs_cons, decide_eq_true_eq, Bool.not_eq_true', Bool.not_true, Bool.not_false, if_true, if_false, Bool.false_eq_true, Bool.true_eq_false, reduceIte, Nat.reduceAdd, Nat.reduceSub, Nat.reduceBEq, pow_10_9, pow_10_20, pow_10_30, cpow_10_9, cpow_10_20, cpow_10_30, divP_lit, mulP_r, mulP_l, lne_line, lt_line, isi_int, isi_bool, Int.reduceLT, Int.reduceLE, Int.reduceGT, Int.reduceGE, Int.reduceNeg, Int.reduceMul, Int.reduceAdd, Int.reduceSub, Nat.reduceLeDiff, Nat.reduceLT, true_and, and_true, decide_true, decide_false, sgf_pad_22_5, sgf_pad_22_6, sgf_pad_22_7, sgf_pad_22_8, sgf_pad_22_9, sgf_me_8_22, sgf_me_8_23, sgf_me_8_0, sgf_me_8_24, sgf_me_8_4, sgf_me_9_22, sgf_me_9_23, sgf_me_9_0, sgf_me_9_24, sgf_me_9_4, sgf_me_10_6, sgf_me_10_21, sgf_me_10_2, sgf_me_10_20, sgf_me_10_19, sgf_me_10_18, sgf_ini_10, sgf_ini_11, sgf_in0_8, sgf_in0_9, sgf_fl_10_1, sgf_fl_11_12, sgf_fl_11_3, sgf_fl_11_13, sgf_fl_11_14, sgf_fl_11_15, sgf_fl_11_16, sgf_fl_11_17, sgf_fl_11_5, sgf_exc_2, sgf_exc_6, sgf_exc_4, sgf_exc_5, sgf_exc_1, sgf_exc_3, sgf_exm_2_0, sgf_exm_6_0, sgf_exm_4_0, sgf_exm_5_0, sgf_exm_1_0, sgf_exm_3_0, sgf_isa_2_6, sgf_isa_6_6, sgf_isa_4_6, sgf_isa_5_6, sgf_isa_1_6, sgf_isa_3_6, sgf_isz_6, sgf_isv_2, sgf_isv_6, sgf_isv_4, sgf_isv_5, sgf_isv_1, sgf_isv_3, gl_MOST_LETTERS, gl_LETTERS, gl_MOST, gl_MOST_PARTS, gl_STAYS, wipeP, List.set_cons_zero, List.set_cons_succ, evSs_nil, List.lookup, Nat.reduceBEq, seq_str, seq_tup, seq_fl, Bool.true_and, Bool.and_true, Bool.false_and, Bool.and_false, beq_self_eq_true]
    exact ret_here (q _ lg)
end
end LK

set_option autoImplicit false
namespace LK
open PySem L2 PySem.Spec Mir
open PyProof.Rows hiding St
section
variable {n : Nat} {h : PH} {Q : QE} {X : Mir.XE}
theorem newSl {p : Addr} (np : h p = none) (q : ∀ g d, PLe h g → SlAt g p d [] → h d = none → Q .non g) : sem sg (n + 1) 10 [.loc p] (pup h p (.ins 10 [])) Q X := by
  refine ⟨⟨1, 1, b10, []⟩, rfl, rfl, ?_⟩
  rw [b10, evSs_cons]
  simp only [evS, evE, evEs, evO, evB, evBs, evI, List.map_cons, List.map_nil, List.replicate_succ, List.replicate_zero, List.cons_append, List.nil_append, List.getElem?_cons_zero, List.getElem?_cons_succ, List.set_cons_zero, List.set_cons_succ, bv_add, bv_sub, bv_mul, bv_div, bv_mod, bv_pow, bv_str, av_add, av_sub, cv_lt, cv_le, cv_gt, cv_ge, cv_eq, cv_ne, cv_eqS, cv_neS, tv_bl, tv_int, List.length_cons, List.length_nil, pad, setT_nm, setT_tup, setTs_nil, setTs_cons, decide_eq_true_eq, Bool.not_eq_true', Bool.not_true, Bool.not_false, if_true, if_false, Bool.false_eq_true, Bool.true_eq_false, reduceIte, Nat.reduceAdd, Nat.reduceSub, Nat.reduceBEq, pow_10_9, pow_10_20, pow_10_30, cpow_10_9, cpow_10_20, cpow_10_30, divP_lit, mulP_r, mulP_l, lne_line, lt_line, isi_int, isi_bool, Int.reduceLT, Int.reduceLE, Int.reduceGT, Int.reduceGE, Int.reduceNeg, Int.reduceMul, Int.reduceAdd, Int.reduceSub, Nat.reduceLeDiff, Nat.reduceLT, true_and, and_true, decide_true, decide_false, sgf_pad_22_5, sgf_pad_22_6, sgf_pad_22_7, sgf_pad_22_8, sgf_pad_22_9, sgf_me_8_22, sgf_me_8_23, sgf_me_8_0, sgf_me_8_24, sgf_me_8_4, sgf_me_9_22, sgf_me_9_23, sgf_me_9_0, sgf_me_9_24, sgf_me_9_4, sgf_me_10_6, sgf_me_10_21, sgf_me_10_2, sgf_me_10_20, sgf_me_10_19, sgf_me_10_18, sgf_ini_10, sgf_ini_11, sgf_in0_8, sgf_in0_9, sgf_fl_10_1, sgf_fl_11_12, sgf_fl_11_3, sgf_fl_11_13, sgf_fl_11_14, sgf_fl_11_15, sgf_fl_11_16, sgf_fl_11_17, sgf_fl_11_5, sgf_exc_2, sgf_exc_6, sgf_exc_4, sgf_exc_5, sgf_exc_1, sgf_exc_3, sgf_exm_2_0, sgf_exm_6_0, sgf_exm_4_0, sgf_exm_5_0, sgf_exm_1_0, sgf_exm_3_0, sgf_isa_2_6, sgf_isa_6_6, sgf_isa_4_6, sgf_isa_5_6, sgf_isa_1_6, sgf_isa_3_6, sgf_isz_6, sgf_isv_2, sgf_isv_6, sgf_isv_4, sgf_isv_5, sgf_isv_1, sgf_isv_3, gl_MOST_LETTERS, gl_LETTERS, gl_MOST, gl_MOST_PARTS, gl_STAYS, wipeP, List.set_cons_zero, List.set_cons_succ, evSs_nil, List.lookup, Nat.reduceBEq, seq_str, seq_tup, seq_fl, Bool.true_and, Bool.and_true, Bool.false_and, Bool.and_false, beq_self_eq_true]
  intro d nd
  have ne : p ≠ d := fun z => by subst z; rw [pup_same] at nd; cases nd
  have nd' : h d = none := by rw [pup_ne ne.symm] at nd; exact nd
  simp only [evS, evE, evEs, evO, evB, evBs, evI, List.map_cons, List.map_nil, List.replicate_succ, List.replicate_zero, List.cons_append, List.nil_append, List.getElem?_cons_zero, List.getElem?_cons_succ, List.set_cons_zero, List.set_cons_succ, bv_add, bv_sub, bv_mul, bv_div, bv_mod, bv_pow, bv_str, av_add, av_sub, cv_lt, cv_le, cv_gt, cv_ge, cv_eq, cv_ne, cv_eqS, cv_neS, tv_bl, tv_int, List.length_cons, List.length_nil, pad, setT_nm, setT_tup, setTs_nil, setTs_cons, decide_eq_true_eq, Bool.not_eq_true', Bool.not_true, Bool.not_false, if_true, if_false, Bool.false_eq_true, Bool.true_eq_false, reduceIte, Nat.reduceAdd, Nat.reduceSub, Nat.reduceBEq, pow_10_9, pow_10_20, pow_10_30, cpow_10_9, cpow_10_20, cpow_10_30, divP_lit, mulP_r, mulP_l, lne_line, lt_line, isi_int, isi_bool, Int.reduceLT, Int.reduceLE, Int.reduceGT, Int.reduceGE, Int.reduceNeg, Int.reduceMul, Int.reduceAdd, Int.reduceSub, Nat.reduceLeDiff, Nat.reduceLT, true_and, and_true, decide_true, decide_false, sgf_pad_22_5, sgf_pad_22_6, sgf_pad_22_7, sgf_pad_22_8, sgf_pad_22_9, sgf_me_8_22, sgf_me_8_23, sgf_me_8_0, sgf_me_8_24, sgf_me_8_4, sgf_me_9_22, sgf_me_9_23, sgf_me_9_0, sgf_me_9_24, sgf_me_9_4, sgf_me_10_6, sgf_me_10_21, sgf_me_10_2, sgf_me_10_20, sgf_me_10_19, sgf_me_10_18, sgf_ini_10, sgf_ini_11, sgf_in0_8, sgf_in0_9, sgf_fl_10_1, sgf_fl_11_12, sgf_fl_11_3, sgf_fl_11_13, sgf_fl_11_14, sgf_fl_11_15, sgf_fl_11_16, sgf_fl_11_17, sgf_fl_11_5, sgf_exc_2, sgf_exc_6, sgf_exc_4, sgf_exc_5, sgf_exc_1, sgf_exc_3, sgf_exm_2_0, sgf_exm_6_0, sgf_exm_4_0, sgf_exm_5_0, sgf_exm_1_0, sgf_exm_3_0, sgf_isa_2_6, sgf_isa_6_6, sgf_isa_4_6, sgf_isa_5_6, sgf_isa_1_6, sgf_isa_3_6, sgf_isz_6, sgf_isv_2, sgf_isv_6, sgf_isv_4, sgf_isv_5, sgf_isv_1, sgf_isv_3, gl_MOST_LETTERS, gl_LETTERS, gl_MOST, gl_MOST_PARTS, gl_STAYS, wipeP, List.set_cons_zero, List.set_cons_succ, evSs_nil, List.lookup, Nat.reduceBEq, seq_str, seq_tup, seq_fl, Bool.true_and, Bool.and_true, Bool.false_and, Bool.and_false, beq_self_eq_true, pup_ne ne, pup_same]
  refine ret_here (q _ d (fun x c hx => ?_) ⟨pup_same, by rw [pup_ne ne.symm, pup_same]; rfl, fun e he => by cases he⟩ nd')
  have n1 : x ≠ p := fun z => by subst z; rw [np] at hx; cases hx
  have n2 : x ≠ d := fun z => by subst z; rw [nd'] at hx; cases hx
  rw [pup_ne n1, pup_ne n2, pup_ne n1]
  exact hx
theorem cellk_sp {ns : List Int} {k : Int} (hk : 0 ≤ k) (q : ∀ v, Q (.int v) h) : sem sg (n + 1) 23 [.fl (ns.map .int), .int k] h Q X := by
  refine ⟨⟨2, 2, b23, []⟩, rfl, rfl, ?_⟩
  simp only [evSs, evS, evE, evEs, evO, evB, evBs, evI, List.map_cons, List.map_nil, List.replicate_succ, List.replicate_zero, List.cons_append, List.nil_append, List.getElem?_cons_zero, List.getElem?_cons_succ, List.set_cons_zero, List.set_cons_succ, bv_add, bv_sub, bv_mul, bv_div, bv_mod, bv_pow, bv_str, av_add, av_sub, cv_lt, cv_le, cv_gt, cv_ge, cv_eq, cv_ne, cv_eqS, cv_neS, tv_bl, tv_int, List.length_cons, List.length_nil, pad, setT_nm, setT_tup, setTs_nil, setTs_cons, decide_eq_true_eq, Bool.not_eq_true', Bool.not_true, Bool.not_false, if_true, if_false, Bool.false_eq_true, Bool.true_eq_false, reduceIte, Nat.reduceAdd, Nat.reduceSub, Nat.reduceBEq, b23, bltV, lenV, List.length_map]
  by_cases z : k < (ns.length : Int)
  · rw [if_pos z]
    obtain ⟨v, hv, ev⟩ := at_map (f := PV.int) (xs := ns) (i := k) hk z
    rw [sv_fl ev]
    exact ret_here (q v)
  · rw [if_neg z]
    exact ret_here (q 0)
def e4 (o4 : Addr) (base : Int) : Ent := (4, o4, ⟨true, none, 5, base⟩)
structure Iv (g : PH) (sl d so dd r : Addr) (base : Int) (o4 : Addr) (L : List Ent) : Prop where
  s : SlAt g sl d L
  rr : g r = some (.dct false (dR L))
  o : SlAt g so dd [e4 o4 base]
  nd : (L.map (·.1)).Nodup
  ps : ∀ k ∈ L.map (·.1), 0 ≤ k
  n1 : r ≠ d
  n2 : r ≠ dd
  n3 : d ≠ dd
theorem Iv.le {g g' : PH} {sl d so dd r : Addr} {base : Int} {o4 : Addr} {L : List Ent} (l : PLe g g') (i : Iv g sl d so dd r base o4 L) : Iv g' sl d so dd r base o4 L :=
  ⟨i.s.le l, l _ _ i.rr, i.o.le l, i.nd, i.ps, i.n1, i.n2, i.n3⟩
def forB : Ss := match b32 with
  | .cons _ (.cons _ (.cons _ (.cons _ (.cons _ (.cons (.for _ _ b) _))))) => b
  | _ => .nil
def restF : Ss := match b32 with
  | .cons _ (.cons _ (.cons _ (.cons _ (.cons _ (.cons _ r))))) => r
  | _ => .nil
def restT : Ss := match forB with
  | .cons _ (.cons _ (.cons _ r)) => r
  | _ => .nil
theorem tail_sp {g : PH} {sl d so dd r o4 : Addr} {base k cell more : Int} {L : List Ent} {x0 x8 x9 : Option PV} {D : PD} (I : Iv g sl d so dd r base o4 L) (hl : L.length < 64)
    (nx : ∀ g', PLe g g' → D.nx [x0, some (.int base), some (.loc sl), some (.loc so), some (.loc r), some (.int k), some (.int cell), some (.int more), x8, x9] g') :
    evSs sg (sem sg 7) restT [x0, some (.int base), some (.loc sl), some (.loc so), some (.loc r), some (.int k), some (.int cell), some (.int more), x8, x9] g D := by
  rw [show restT = _ from rfl, restT, forB, b32]
  (try dsimp only)
  rw [evSs_cons]
  simp only [evS, evE, evEs, evO, evB, evBs, evI, List.map_cons, List.map_nil, List.replicate_succ, List.replicate_zero, List.cons_append, List.nil_append, List.getElem?_cons_zero, List.getElem?_cons_succ, List.set_cons_zero, List.set_cons_succ, bv_add, bv_sub, bv_mul, bv_div, bv_mod, bv_pow, bv_str, av_add, av_sub, cv_lt, cv_le, cv_gt, cv_ge, cv_eq, cv_ne, cv_eqS, cv_neS, tv_bl, tv_int, List.length_cons, List.length_nil, pad, setT_nm, setT_tup, setTs_nil, setTs_cons, decide_eq_true_eq, Bool.not_eq_true', Bool.not_true, Bool.not_false, if_true, if_false, Bool.false_eq_true, Bool.true_eq_false, reduceIte, Nat.reduceAdd, Nat.reduceSub, Nat.reduceBEq, pow_10_9, pow_10_20, pow_10_30, cpow_10_9, cpow_10_20, cpow_10_30, divP_lit, mulP_r, mulP_l, lne_line, lt_line, isi_int, isi_bool, Int.reduceLT, Int.reduceLE, Int.reduceGT, Int.reduceGE, Int.reduceNeg, Int.reduceMul, Int.reduceAdd, Int.reduceSub, Nat.reduceLeDiff, Nat.reduceLT, true_and, and_true, decide_true, decide_false, sgf_pad_22_5, sgf_pad_22_6, sgf_pad_22_7, sgf_pad_22_8, sgf_pad_22_9, sgf_me_8_22, sgf_me_8_23, sgf_me_8_0, sgf_me_8_24, sgf_me_8_4, sgf_me_9_22, sgf_me_9_23, sgf_me_9_0, sgf_me_9_24, sgf_me_9_4, sgf_me_10_6, sgf_me_10_21, sgf_me_10_2, sgf_me_10_20, sgf_me_10_19, sgf_me_10_18, sgf_ini_10, sgf_ini_11, sgf_in0_8, sgf_in0_9, sgf_fl_10_1, sgf_fl_11_12, sgf_fl_11_3, sgf_fl_11_13, sgf_fl_11_14, sgf_fl_11_15, sgf_fl_11_16, sgf_fl_11_17, sgf_fl_11_5, sgf_exc_2, sgf_exc_6, sgf_exc_4, sgf_exc_5, sgf_exc_1, sgf_exc_3, sgf_exm_2_0, sgf_exm_6_0, sgf_exm_4_0, sgf_exm_5_0, sgf_exm_1_0, sgf_exm_3_0, sgf_isa_2_6, sgf_isa_6_6, sgf_isa_4_6, sgf_isa_5_6, sgf_isa_1_6, sgf_isa_3_6, sgf_isz_6, sgf_isv_2, sgf_isv_6, sgf_isv_4, sgf_isv_5, sgf_isv_1, sgf_isv_3, gl_MOST_LETTERS, gl_LETTERS, gl_MOST, gl_MOST_PARTS, gl_STAYS, wipeP, List.set_cons_zero, List.set_cons_succ, evSs_nil, List.lookup, Nat.reduceBEq, seq_str, seq_tup, seq_fl, Bool.true_and, Bool.and_true, Bool.false_and, Bool.and_false, beq_self_eq_true]
  refine stands_sp I.s I.rr I.n1 I.nd hl fun g1 l1 => ?_
  (try dsimp only); (try simp only [evS, evE, evEs, evO, evB, evBs, evI, List.map_cons, List.map_nil, List.replicate_succ, List.replicate_zero, List.cons_append, List.nil_append, List.getElem?_cons_zero, List.getElem?_cons_succ, List.set_cons_zero, List.set_cons_succ, bv_add, bv_sub, bv_mul, bv_div, bv_mod, bv_pow, bv_str, av_add, av_sub, cv_lt, cv_le, cv_gt, cv_ge, cv_eq, cv_ne, cv_eqS, cv_neS, tv_bl, tv_int, List.length_cons, List.length_nil, pad, setT_nm, setT_tup, setTs_nil, setTs_cons, decide_eq_true_eq, Bool.not_eq_true', Bool.not_true, Bool.not_false, if_true, if_false, Bool.false_eq_true, Bool.true_eq_false, reduceIte, Nat.reduceAdd, Nat.reduceSub, Nat.reduceBEq, pow_10_9, pow_10_20, pow_10_30, cpow_10_9, cpow_10_20, cpow_10_30, divP_lit, mulP_r, mulP_l, lne_line, lt_line, isi_int, isi_bool, Int.reduceLT, Int.reduceLE, Int.reduceGT, Int.reduceGE, Int.reduceNeg, Int.reduceMul, Int.reduceAdd, Int.reduceSub, Nat.reduceLeDiff, Nat.reduceLT, true_and, and_true, decide_true, decide_false, sgf_pad_22_5, sgf_pad_22_6, sgf_pad_22_7, sgf_pad_22_8, sgf_pad_22_9, sgf_me_8_22, sgf_me_8_23, sgf_me_8_0, sgf_me_8_24, sgf_me_8_4, sgf_me_9_22, sgf_me_9_23, sgf_me_9_0, sgf_me_9_24, sgf_me_9_4, sgf_me_10_6, sgf_me_10_21, sgf_me_10_2, sgf_me_10_20, sgf_me_10_19, sgf_me_10_18, sgf_ini_10, sgf_ini_11, sgf_in0_8, sgf_in0_9, sgf_fl_10_1, sgf_fl_11_12, sgf_fl_11_3, sgf_fl_11_13, sgf_fl_11_14, sgf_fl_11_15, sgf_fl_11_16, sgf_fl_11_17, sgf_fl_11_5, sgf_exc_2, sgf_exc_6, sgf_exc_4, sgf_exc_5, sgf_exc_1, sgf_exc_3, sgf_exm_2_0, sgf_exm_6_0, sgf_exm_4_0, sgf_exm_5_0, sgf_exm_1_0, sgf_exm_3_0, sgf_isa_2_6, sgf_isa_6_6, sgf_isa_4_6, sgf_isa_5_6, sgf_isa_1_6, sgf_isa_3_6, sgf_isz_6, sgf_isv_2, sgf_isv_6, sgf_isv_4, sgf_isv_5, sgf_isv_1, sgf_isv_3, gl_MOST_LETTERS, gl_LETTERS, gl_MOST, gl_MOST_PARTS, gl_STAYS, wipeP, List.set_cons_zero, List.set_cons_succ, evSs_nil, List.lookup, Nat.reduceBEq, seq_str, seq_tup, seq_fl, Bool.true_and, Bool.and_true, Bool.false_and, Bool.and_false, beq_self_eq_true]); rw [evSs_cons]; simp only [evS, evE, evEs, evO, evB, evBs, evI, List.map_cons, List.map_nil, List.replicate_succ, List.replicate_zero, List.cons_append, List.nil_append, List.getElem?_cons_zero, List.getElem?_cons_succ, List.set_cons_zero, List.set_cons_succ, bv_add, bv_sub, bv_mul, bv_div, bv_mod, bv_pow, bv_str, av_add, av_sub, cv_lt, cv_le, cv_gt, cv_ge, cv_eq, cv_ne, cv_eqS, cv_neS, tv_bl, tv_int, List.length_cons, List.length_nil, pad, setT_nm, setT_tup, setTs_nil, setTs_cons, decide_eq_true_eq, Bool.not_eq_true', Bool.not_true, Bool.not_false, if_true, if_false, Bool.false_eq_true, Bool.true_eq_false, reduceIte, Nat.reduceAdd, Nat.reduceSub, Nat.reduceBEq, pow_10_9, pow_10_20, pow_10_30, cpow_10_9, cpow_10_20, cpow_10_30, divP_lit, mulP_r, mulP_l, lne_line, lt_line, isi_int, isi_bool, Int.reduceLT, Int.reduceLE, Int.reduceGT, Int.reduceGE, Int.reduceNeg, Int.reduceMul, Int.reduceAdd, Int.reduceSub, Nat.reduceLeDiff, Nat.reduceLT, true_and, and_true, decide_true, decide_false, sgf_pad_22_5, sgf_pad_22_6, sgf_pad_22_7, sgf_pad_22_8, sgf_pad_22_9, sgf_me_8_22, sgf_me_8_23, sgf_me_8_0, sgf_me_8_24, sgf_me_8_4, sgf_me_9_22, sgf_me_9_23, sgf_me_9_0, sgf_me_9_24, sgf_me_9_4, sgf_me_10_6, sgf_me_10_21, sgf_me_10_2, sgf_me_10_20, sgf_me_10_19, sgf_me_10_18, sgf_ini_10, sgf_ini_11, sgf_in0_8, sgf_in0_9, sgf_fl_10_1, sgf_fl_11_12, sgf_fl_11_3, sgf_fl_11_13, sgf_fl_11_14, sgf_fl_11_15, sgf_fl_11_16, sgf_fl_11_17, sgf_fl_11_5, sgf_exc_2, sgf_exc_6, sgf_exc_4, sgf_exc_5, sgf_exc_1, sgf_exc_3, sgf_exm_2_0, sgf_exm_6_0, sgf_exm_4_0, sgf_exm_5_0, sgf_exm_1_0, sgf_exm_3_0, sgf_isa_2_6, sgf_isa_6_6, sgf_isa_4_6, sgf_isa_5_6, sgf_isa_1_6, sgf_isa_3_6, sgf_isz_6, sgf_isv_2, sgf_isv_6, sgf_isv_4, sgf_isv_5, sgf_isv_1, sgf_isv_3, gl_MOST_LETTERS, gl_LETTERS, gl_MOST, gl_MOST_PARTS, gl_STAYS, wipeP, List.set_cons_zero, List.set_cons_succ, evSs_nil, List.lookup, Nat.reduceBEq, seq_str, seq_tup, seq_fl, Bool.true_and, Bool.and_true, Bool.false_and, Bool.and_false, beq_self_eq_true]
  have I1 := I.le l1
  by_cases z : (cell / 20 % 3 == 1) = true
  · rw [if_pos z]
    refine refused_sp I1.s I1.rr I1.ps hl fun g2 l2 => ?_
    simp only [evS, evE, evEs, evO, evB, evBs, evI, List.map_cons, List.map_nil, List.replicate_succ, List.replicate_zero, List.cons_append, List.nil_append, List.getElem?_cons_zero, List.getElem?_cons_succ, List.set_cons_zero, List.set_cons_succ, bv_add, bv_sub, bv_mul, bv_div, bv_mod, bv_pow, bv_str, av_add, av_sub, cv_lt, cv_le, cv_gt, cv_ge, cv_eq, cv_ne, cv_eqS, cv_neS, tv_bl, tv_int, List.length_cons, List.length_nil, pad, setT_nm, setT_tup, setTs_nil, setTs_cons, decide_eq_true_eq, Bool.not_eq_true', Bool.not_true, Bool.not_false, if_true, if_false, Bool.false_eq_true, Bool.true_eq_false, reduceIte, Nat.reduceAdd, Nat.reduceSub, Nat.reduceBEq, pow_10_9, pow_10_20, pow_10_30, cpow_10_9, cpow_10_20, cpow_10_30, divP_lit, mulP_r, mulP_l, lne_line, lt_line, isi_int, isi_bool, Int.reduceLT, Int.reduceLE, Int.reduceGT, Int.reduceGE, Int.reduceNeg, Int.reduceMul, Int.reduceAdd, Int.reduceSub, Nat.reduceLeDiff, Nat.reduceLT, true_and, and_true, decide_true, decide_false, sgf_pad_22_5, sgf_pad_22_6, sgf_pad_22_7, sgf_pad_22_8, sgf_pad_22_9, sgf_me_8_22, sgf_me_8_23, sgf_me_8_0, sgf_me_8_24, sgf_me_8_4, sgf_me_9_22, sgf_me_9_23, sgf_me_9_0, sgf_me_9_24, sgf_me_9_4, sgf_me_10_6, sgf_me_10_21, sgf_me_10_2, sgf_me_10_20, sgf_me_10_19, sgf_me_10_18, sgf_ini_10, sgf_ini_11, sgf_in0_8, sgf_in0_9, sgf_fl_10_1, sgf_fl_11_12, sgf_fl_11_3, sgf_fl_11_13, sgf_fl_11_14, sgf_fl_11_15, sgf_fl_11_16, sgf_fl_11_17, sgf_fl_11_5, sgf_exc_2, sgf_exc_6, sgf_exc_4, sgf_exc_5, sgf_exc_1, sgf_exc_3, sgf_exm_2_0, sgf_exm_6_0, sgf_exm_4_0, sgf_exm_5_0, sgf_exm_1_0, sgf_exm_3_0, sgf_isa_2_6, sgf_isa_6_6, sgf_isa_4_6, sgf_isa_5_6, sgf_isa_1_6, sgf_isa_3_6, sgf_isz_6, sgf_isv_2, sgf_isv_6, sgf_isv_4, sgf_isv_5, sgf_isv_1, sgf_isv_3, gl_MOST_LETTERS, gl_LETTERS, gl_MOST, gl_MOST_PARTS, gl_STAYS, wipeP, List.set_cons_zero, List.set_cons_succ, evSs_nil, List.lookup, Nat.reduceBEq, seq_str, seq_tup, seq_fl, Bool.true_and, Bool.and_true, Bool.false_and, Bool.and_false, beq_self_eq_true]
    exact nx _ (l1.trans l2)
  · rw [if_neg z]
    exact nx _ l1
theorem final_sp {g : PH} {sl d so dd r o4 : Addr} {base : Int} {L : List Ent} {x0 x5 x6 x7 x8 x9 : Option PV} (hb : 1 ≤ base ∧ base ≤ 1000000000) (I : Iv g sl d so dd r base o4 L) :
    evSs sg (sem sg 7) restF [x0, some (.int base), some (.loc sl), some (.loc so), some (.loc r), x5, x6, x7, x8, x9] g (retD (fun v _ => v = .bl true) X) := by
  rw [show restF = _ from rfl, restF, b32]
  (try dsimp only)
  rw [evSs_cons]
  have s := I.o
  have hs : srt ([e4 o4 base].map (·.1)) = [4] := by
    refine sort_uniq (b := [4]) (srt_perm _) (srt_pair _) (by simp)
  have nd4 : ([e4 o4 base].map (·.1)).Nodup := by simp
  have du : ∀ last, dueV [e4 o4 base] last = if base ≤ last then .int 4 else .non := by
    intro last
    unfold dueV
    rw [hs]
    have hp : partOf [e4 o4 base] 4 = ⟨true, none, 5, base⟩ := by simp [partOf, e4]
    rw [List.find?_cons, hp]
    show (match (match wakesB true base last with | true => some (4 : Int) | false => List.find? _ []) with | some k => PV.int k | none => .non) = _
    rw [wk_buy]
    by_cases z : base ≤ last
    · simp [z]
    · simp [z]
  simp only [evS, evE, evEs, evO, evB, evBs, evI, List.map_cons, List.map_nil, List.replicate_succ, List.replicate_zero, List.cons_append, List.nil_append, List.getElem?_cons_zero, List.getElem?_cons_succ, List.set_cons_zero, List.set_cons_succ, bv_add, bv_sub, bv_mul, bv_div, bv_mod, bv_pow, bv_str, av_add, av_sub, cv_lt, cv_le, cv_gt, cv_ge, cv_eq, cv_ne, cv_eqS, cv_neS, tv_bl, tv_int, List.length_cons, List.length_nil, pad, setT_nm, setT_tup, setTs_nil, setTs_cons, decide_eq_true_eq, Bool.not_eq_true', Bool.not_true, Bool.not_false, if_true, if_false, Bool.false_eq_true, Bool.true_eq_false, reduceIte, Nat.reduceAdd, Nat.reduceSub, Nat.reduceBEq, pow_10_9, pow_10_20, pow_10_30, cpow_10_9, cpow_10_20, cpow_10_30, divP_lit, mulP_r, mulP_l, lne_line, lt_line, isi_int, isi_bool, Int.reduceLT, Int.reduceLE, Int.reduceGT, Int.reduceGE, Int.reduceNeg, Int.reduceMul, Int.reduceAdd, Int.reduceSub, Nat.reduceLeDiff, Nat.reduceLT, true_and, and_true, decide_true, decide_false, sgf_pad_22_5, sgf_pad_22_6, sgf_pad_22_7, sgf_pad_22_8, sgf_pad_22_9, sgf_me_8_22, sgf_me_8_23, sgf_me_8_0, sgf_me_8_24, sgf_me_8_4, sgf_me_9_22, sgf_me_9_23, sgf_me_9_0, sgf_me_9_24, sgf_me_9_4, sgf_me_10_6, sgf_me_10_21, sgf_me_10_2, sgf_me_10_20, sgf_me_10_19, sgf_me_10_18, sgf_ini_10, sgf_ini_11, sgf_in0_8, sgf_in0_9, sgf_fl_10_1, sgf_fl_11_12, sgf_fl_11_3, sgf_fl_11_13, sgf_fl_11_14, sgf_fl_11_15, sgf_fl_11_16, sgf_fl_11_17, sgf_fl_11_5, sgf_exc_2, sgf_exc_6, sgf_exc_4, sgf_exc_5, sgf_exc_1, sgf_exc_3, sgf_exm_2_0, sgf_exm_6_0, sgf_exm_4_0, sgf_exm_5_0, sgf_exm_1_0, sgf_exm_3_0, sgf_isa_2_6, sgf_isa_6_6, sgf_isa_4_6, sgf_isa_5_6, sgf_isa_1_6, sgf_isa_3_6, sgf_isz_6, sgf_isv_2, sgf_isv_6, sgf_isv_4, sgf_isv_5, sgf_isv_1, sgf_isv_3, gl_MOST_LETTERS, gl_LETTERS, gl_MOST, gl_MOST_PARTS, gl_STAYS, wipeP, List.set_cons_zero, List.set_cons_succ, evSs_nil, List.lookup, Nat.reduceBEq, seq_str, seq_tup, seq_fl, Bool.true_and, Bool.and_true, Bool.false_and, Bool.and_false, beq_self_eq_true, s.1, List.lookup_nil]
  refine numbers_sp s (by simp) fun p np => ?_
  rw [hs]
  have u1 := PLe.new (c := .lst ([4].map PV.int)) np
  have e1 : (pup g p (.lst ([4].map PV.int))) p = some (.lst ([4].map PV.int)) := pup_same
  generalize pup g p _ = g1 at u1 e1 ⊢
  intro p2 np2
  have ne : p ≠ p2 := (ne_new np2 e1).symm
  rw [ce_loc, eqK_lst (g := PV.int) (xs := [4]) (by rw [pup_ne ne]; exact e1) (show (pup g1 p2 (.lst [.int 4])) p2 = some (.lst ([4].map PV.int)) from pup_same) (fun x => by simp [deq])]
  have u2 := PLe.new (c := .lst [.int 4]) np2
  generalize pup g1 p2 _ = g2 at u2 ⊢
  have s2 := (s.le u1).le u2
  simp only [evS, evE, evEs, evO, evB, evBs, evI, List.map_cons, List.map_nil, List.replicate_succ, List.replicate_zero, List.cons_append, List.nil_append, List.getElem?_cons_zero, List.getElem?_cons_succ, List.set_cons_zero, List.set_cons_succ, bv_add, bv_sub, bv_mul, bv_div, bv_mod, bv_pow, bv_str, av_add, av_sub, cv_lt, cv_le, cv_gt, cv_ge, cv_eq, cv_ne, cv_eqS, cv_neS, tv_bl, tv_int, List.length_cons, List.length_nil, pad, setT_nm, setT_tup, setTs_nil, setTs_cons, decide_eq_true_eq, Bool.not_eq_true', Bool.not_true, Bool.not_false, if_true, if_false, Bool.false_eq_true, Bool.true_eq_false, reduceIte, Nat.reduceAdd, Nat.reduceSub, Nat.reduceBEq, pow_10_9, pow_10_20, pow_10_30, cpow_10_9, cpow_10_20, cpow_10_30, divP_lit, mulP_r, mulP_l, lne_line, lt_line, isi_int, isi_bool, Int.reduceLT, Int.reduceLE, Int.reduceGT, Int.reduceGE, Int.reduceNeg, Int.reduceMul, Int.reduceAdd, Int.reduceSub, Nat.reduceLeDiff, Nat.reduceLT, true_and, and_true, decide_true, decide_false, sgf_pad_22_5, sgf_pad_22_6, sgf_pad_22_7, sgf_pad_22_8, sgf_pad_22_9, sgf_me_8_22, sgf_me_8_23, sgf_me_8_0, sgf_me_8_24, sgf_me_8_4, sgf_me_9_22, sgf_me_9_23, sgf_me_9_0, sgf_me_9_24, sgf_me_9_4, sgf_me_10_6, sgf_me_10_21, sgf_me_10_2, sgf_me_10_20, sgf_me_10_19, sgf_me_10_18, sgf_ini_10, sgf_ini_11, sgf_in0_8, sgf_in0_9, sgf_fl_10_1, sgf_fl_11_12, sgf_fl_11_3, sgf_fl_11_13, sgf_fl_11_14, sgf_fl_11_15, sgf_fl_11_16, sgf_fl_11_17, sgf_fl_11_5, sgf_exc_2, sgf_exc_6, sgf_exc_4, sgf_exc_5, sgf_exc_1, sgf_exc_3, sgf_exm_2_0, sgf_exm_6_0, sgf_exm_4_0, sgf_exm_5_0, sgf_exm_1_0, sgf_exm_3_0, sgf_isa_2_6, sgf_isa_6_6, sgf_isa_4_6, sgf_isa_5_6, sgf_isa_1_6, sgf_isa_3_6, sgf_isz_6, sgf_isv_2, sgf_isv_6, sgf_isv_4, sgf_isv_5, sgf_isv_1, sgf_isv_3, gl_MOST_LETTERS, gl_LETTERS, gl_MOST, gl_MOST_PARTS, gl_STAYS, wipeP, List.set_cons_zero, List.set_cons_succ, evSs_nil, List.lookup, Nat.reduceBEq, seq_str, seq_tup, seq_fl, Bool.true_and, Bool.and_true, Bool.false_and, Bool.and_false, beq_self_eq_true, s2.1, List.lookup_nil]
  refine due_sp s2 nd4 (by simp) fun g3 l3 => ?_
  rw [du, if_pos (Int.le_refl _)]
  have s3 := s2.le l3
  simp only [evS, evE, evEs, evO, evB, evBs, evI, List.map_cons, List.map_nil, List.replicate_succ, List.replicate_zero, List.cons_append, List.nil_append, List.getElem?_cons_zero, List.getElem?_cons_succ, List.set_cons_zero, List.set_cons_succ, bv_add, bv_sub, bv_mul, bv_div, bv_mod, bv_pow, bv_str, av_add, av_sub, cv_lt, cv_le, cv_gt, cv_ge, cv_eq, cv_ne, cv_eqS, cv_neS, tv_bl, tv_int, List.length_cons, List.length_nil, pad, setT_nm, setT_tup, setTs_nil, setTs_cons, decide_eq_true_eq, Bool.not_eq_true', Bool.not_true, Bool.not_false, if_true, if_false, Bool.false_eq_true, Bool.true_eq_false, reduceIte, Nat.reduceAdd, Nat.reduceSub, Nat.reduceBEq, pow_10_9, pow_10_20, pow_10_30, cpow_10_9, cpow_10_20, cpow_10_30, divP_lit, mulP_r, mulP_l, lne_line, lt_line, isi_int, isi_bool, Int.reduceLT, Int.reduceLE, Int.reduceGT, Int.reduceGE, Int.reduceNeg, Int.reduceMul, Int.reduceAdd, Int.reduceSub, Nat.reduceLeDiff, Nat.reduceLT, true_and, and_true, decide_true, decide_false, sgf_pad_22_5, sgf_pad_22_6, sgf_pad_22_7, sgf_pad_22_8, sgf_pad_22_9, sgf_me_8_22, sgf_me_8_23, sgf_me_8_0, sgf_me_8_24, sgf_me_8_4, sgf_me_9_22, sgf_me_9_23, sgf_me_9_0, sgf_me_9_24, sgf_me_9_4, sgf_me_10_6, sgf_me_10_21, sgf_me_10_2, sgf_me_10_20, sgf_me_10_19, sgf_me_10_18, sgf_ini_10, sgf_ini_11, sgf_in0_8, sgf_in0_9, sgf_fl_10_1, sgf_fl_11_12, sgf_fl_11_3, sgf_fl_11_13, sgf_fl_11_14, sgf_fl_11_15, sgf_fl_11_16, sgf_fl_11_17, sgf_fl_11_5, sgf_exc_2, sgf_exc_6, sgf_exc_4, sgf_exc_5, sgf_exc_1, sgf_exc_3, sgf_exm_2_0, sgf_exm_6_0, sgf_exm_4_0, sgf_exm_5_0, sgf_exm_1_0, sgf_exm_3_0, sgf_isa_2_6, sgf_isa_6_6, sgf_isa_4_6, sgf_isa_5_6, sgf_isa_1_6, sgf_isa_3_6, sgf_isz_6, sgf_isv_2, sgf_isv_6, sgf_isv_4, sgf_isv_5, sgf_isv_1, sgf_isv_3, gl_MOST_LETTERS, gl_LETTERS, gl_MOST, gl_MOST_PARTS, gl_STAYS, wipeP, List.set_cons_zero, List.set_cons_succ, evSs_nil, List.lookup, Nat.reduceBEq, seq_str, seq_tup, seq_fl, Bool.true_and, Bool.and_true, Bool.false_and, Bool.and_false, beq_self_eq_true, s3.1, List.lookup_nil, bltV]
  refine due_sp s3 nd4 (by simp) fun g4 l4 => ?_
  rw [du]
  by_cases z : base = 1
  · subst z
    simp only [beq_self_eq_true, if_true]
    rw [if_pos (by decide)]
    simp only [evS, evE, evEs, evO, evB, evBs, evI, List.map_cons, List.map_nil, List.replicate_succ, List.replicate_zero, List.cons_append, List.nil_append, List.getElem?_cons_zero, List.getElem?_cons_succ, List.set_cons_zero, List.set_cons_succ, bv_add, bv_sub, bv_mul, bv_div, bv_mod, bv_pow, bv_str, av_add, av_sub, cv_lt, cv_le, cv_gt, cv_ge, cv_eq, cv_ne, cv_eqS, cv_neS, tv_bl, tv_int, List.length_cons, List.length_nil, pad, setT_nm, setT_tup, setTs_nil, setTs_cons, decide_eq_true_eq, Bool.not_eq_true', Bool.not_true, Bool.not_false, if_true, if_false, Bool.false_eq_true, Bool.true_eq_false, reduceIte, Nat.reduceAdd, Nat.reduceSub, Nat.reduceBEq, pow_10_9, pow_10_20, pow_10_30, cpow_10_9, cpow_10_20, cpow_10_30, divP_lit, mulP_r, mulP_l, lne_line, lt_line, isi_int, isi_bool, Int.reduceLT, Int.reduceLE, Int.reduceGT, Int.reduceGE, Int.reduceNeg, Int.reduceMul, Int.reduceAdd, Int.reduceSub, Nat.reduceLeDiff, Nat.reduceLT, true_and, and_true, decide_true, decide_false, sgf_pad_22_5, sgf_pad_22_6, sgf_pad_22_7, sgf_pad_22_8, sgf_pad_22_9, sgf_me_8_22, sgf_me_8_23, sgf_me_8_0, sgf_me_8_24, sgf_me_8_4, sgf_me_9_22, sgf_me_9_23, sgf_me_9_0, sgf_me_9_24, sgf_me_9_4, sgf_me_10_6, sgf_me_10_21, sgf_me_10_2, sgf_me_10_20, sgf_me_10_19, sgf_me_10_18, sgf_ini_10, sgf_ini_11, sgf_in0_8, sgf_in0_9, sgf_fl_10_1, sgf_fl_11_12, sgf_fl_11_3, sgf_fl_11_13, sgf_fl_11_14, sgf_fl_11_15, sgf_fl_11_16, sgf_fl_11_17, sgf_fl_11_5, sgf_exc_2, sgf_exc_6, sgf_exc_4, sgf_exc_5, sgf_exc_1, sgf_exc_3, sgf_exm_2_0, sgf_exm_6_0, sgf_exm_4_0, sgf_exm_5_0, sgf_exm_1_0, sgf_exm_3_0, sgf_isa_2_6, sgf_isa_6_6, sgf_isa_4_6, sgf_isa_5_6, sgf_isa_1_6, sgf_isa_3_6, sgf_isz_6, sgf_isv_2, sgf_isv_6, sgf_isv_4, sgf_isv_5, sgf_isv_1, sgf_isv_3, gl_MOST_LETTERS, gl_LETTERS, gl_MOST, gl_MOST_PARTS, gl_STAYS, wipeP, List.set_cons_zero, List.set_cons_succ, evSs_nil, List.lookup, Nat.reduceBEq, seq_str, seq_tup, seq_fl, Bool.true_and, Bool.and_true, Bool.false_and, Bool.and_false, beq_self_eq_true]
    exact ⟨g4, PLe.refl _⟩
  · have z2 : (base == 1) = false := by simpa using z
    simp only [z2, Bool.false_eq_true, if_false]
    rw [if_neg (by split <;> omega)]
    exact ⟨g4, PLe.refl _, rfl⟩
def elseB : Ss := match forB with
  | .cons _ (.cons _ (.cons (.ite _ _ b) _)) => b
  | _ => .nil
def thenB : Ss := match forB with
  | .cons _ (.cons _ (.cons (.ite _ a _) _)) => a
  | _ => .nil
theorem else_sp {g : PH} {sl d so dd r o4 : Addr} {base k cell more : Int} {L : List Ent} {x0 x8 x9 : Option PV} {D : PD} (hb : 1 ≤ base ∧ base ≤ 1000000000) (I : Iv g sl d so dd r base o4 L) (hl : L.length < 63)
    (nx : ∀ g' L' num, Iv g' sl d so dd r base o4 L' → L'.length ≤ L.length + 1 → D.nx [x0, some (.int base), some (.loc sl), some (.loc so), some (.loc r), some (.int k), some (.int cell), some (.int more), x8, some (.int num)] g') :
    evSs sg (sem sg 7) elseB [x0, some (.int base), some (.loc sl), some (.loc so), some (.loc r), some (.int k), some (.int cell), some (.int more), x8, x9] g D := by
  rw [show elseB = _ from rfl, elseB, forB, b32]
  (try dsimp only)
  rw [evSs_cons]
  simp only [evS, evE, evEs, evO, evB, evBs, evI, List.map_cons, List.map_nil, List.replicate_succ, List.replicate_zero, List.cons_append, List.nil_append, List.getElem?_cons_zero, List.getElem?_cons_succ, List.set_cons_zero, List.set_cons_succ, bv_add, bv_sub, bv_mul, bv_div, bv_mod, bv_pow, bv_str, av_add, av_sub, cv_lt, cv_le, cv_gt, cv_ge, cv_eq, cv_ne, cv_eqS, cv_neS, tv_bl, tv_int, List.length_cons, List.length_nil, pad, setT_nm, setT_tup, setTs_nil, setTs_cons, decide_eq_true_eq, Bool.not_eq_true', Bool.not_true, Bool.not_false, if_true, if_false, Bool.false_eq_true, Bool.true_eq_false, reduceIte, Nat.reduceAdd, Nat.reduceSub, Nat.reduceBEq, pow_10_9, pow_10_20, pow_10_30, cpow_10_9, cpow_10_20, cpow_10_30, divP_lit, mulP_r, mulP_l, lne_line, lt_line, isi_int, isi_bool, Int.reduceLT, Int.reduceLE, Int.reduceGT, Int.reduceGE, Int.reduceNeg, Int.reduceMul, Int.reduceAdd, Int.reduceSub, Nat.reduceLeDiff, Nat.reduceLT, true_and, and_true, decide_true, decide_false, sgf_pad_22_5, sgf_pad_22_6, sgf_pad_22_7, sgf_pad_22_8, sgf_pad_22_9, sgf_me_8_22, sgf_me_8_23, sgf_me_8_0, sgf_me_8_24, sgf_me_8_4, sgf_me_9_22, sgf_me_9_23, sgf_me_9_0, sgf_me_9_24, sgf_me_9_4, sgf_me_10_6, sgf_me_10_21, sgf_me_10_2, sgf_me_10_20, sgf_me_10_19, sgf_me_10_18, sgf_ini_10, sgf_ini_11, sgf_in0_8, sgf_in0_9, sgf_fl_10_1, sgf_fl_11_12, sgf_fl_11_3, sgf_fl_11_13, sgf_fl_11_14, sgf_fl_11_15, sgf_fl_11_16, sgf_fl_11_17, sgf_fl_11_5, sgf_exc_2, sgf_exc_6, sgf_exc_4, sgf_exc_5, sgf_exc_1, sgf_exc_3, sgf_exm_2_0, sgf_exm_6_0, sgf_exm_4_0, sgf_exm_5_0, sgf_exm_1_0, sgf_exm_3_0, sgf_isa_2_6, sgf_isa_6_6, sgf_isa_4_6, sgf_isa_5_6, sgf_isa_1_6, sgf_isa_3_6, sgf_isz_6, sgf_isv_2, sgf_isv_6, sgf_isv_4, sgf_isv_5, sgf_isv_1, sgf_isv_3, gl_MOST_LETTERS, gl_LETTERS, gl_MOST, gl_MOST_PARTS, gl_STAYS, wipeP, List.set_cons_zero, List.set_cons_succ, evSs_nil, List.lookup, Nat.reduceBEq, seq_str, seq_tup, seq_fl, Bool.true_and, Bool.and_true, Bool.false_and, Bool.and_false, beq_self_eq_true]
  have num0 := Int.emod_nonneg (cell / 4) (b := 400) (by decide)
  generalize cell / 4 % 400 = num at num0 ⊢
  (try dsimp only); (try simp only [evS, evE, evEs, evO, evB, evBs, evI, List.map_cons, List.map_nil, List.replicate_succ, List.replicate_zero, List.cons_append, List.nil_append, List.getElem?_cons_zero, List.getElem?_cons_succ, List.set_cons_zero, List.set_cons_succ, bv_add, bv_sub, bv_mul, bv_div, bv_mod, bv_pow, bv_str, av_add, av_sub, cv_lt, cv_le, cv_gt, cv_ge, cv_eq, cv_ne, cv_eqS, cv_neS, tv_bl, tv_int, List.length_cons, List.length_nil, pad, setT_nm, setT_tup, setTs_nil, setTs_cons, decide_eq_true_eq, Bool.not_eq_true', Bool.not_true, Bool.not_false, if_true, if_false, Bool.false_eq_true, Bool.true_eq_false, reduceIte, Nat.reduceAdd, Nat.reduceSub, Nat.reduceBEq, pow_10_9, pow_10_20, pow_10_30, cpow_10_9, cpow_10_20, cpow_10_30, divP_lit, mulP_r, mulP_l, lne_line, lt_line, isi_int, isi_bool, Int.reduceLT, Int.reduceLE, Int.reduceGT, Int.reduceGE, Int.reduceNeg, Int.reduceMul, Int.reduceAdd, Int.reduceSub, Nat.reduceLeDiff, Nat.reduceLT, true_and, and_true, decide_true, decide_false, sgf_pad_22_5, sgf_pad_22_6, sgf_pad_22_7, sgf_pad_22_8, sgf_pad_22_9, sgf_me_8_22, sgf_me_8_23, sgf_me_8_0, sgf_me_8_24, sgf_me_8_4, sgf_me_9_22, sgf_me_9_23, sgf_me_9_0, sgf_me_9_24, sgf_me_9_4, sgf_me_10_6, sgf_me_10_21, sgf_me_10_2, sgf_me_10_20, sgf_me_10_19, sgf_me_10_18, sgf_ini_10, sgf_ini_11, sgf_in0_8, sgf_in0_9, sgf_fl_10_1, sgf_fl_11_12, sgf_fl_11_3, sgf_fl_11_13, sgf_fl_11_14, sgf_fl_11_15, sgf_fl_11_16, sgf_fl_11_17, sgf_fl_11_5, sgf_exc_2, sgf_exc_6, sgf_exc_4, sgf_exc_5, sgf_exc_1, sgf_exc_3, sgf_exm_2_0, sgf_exm_6_0, sgf_exm_4_0, sgf_exm_5_0, sgf_exm_1_0, sgf_exm_3_0, sgf_isa_2_6, sgf_isa_6_6, sgf_isa_4_6, sgf_isa_5_6, sgf_isa_1_6, sgf_isa_3_6, sgf_isz_6, sgf_isv_2, sgf_isv_6, sgf_isv_4, sgf_isv_5, sgf_isv_1, sgf_isv_3, gl_MOST_LETTERS, gl_LETTERS, gl_MOST, gl_MOST_PARTS, gl_STAYS, wipeP, List.set_cons_zero, List.set_cons_succ, evSs_nil, List.lookup, Nat.reduceBEq, seq_str, seq_tup, seq_fl, Bool.true_and, Bool.and_true, Bool.false_and, Bool.and_false, beq_self_eq_true]); rw [evSs_cons]; simp only [evS, evE, evEs, evO, evB, evBs, evI, List.map_cons, List.map_nil, List.replicate_succ, List.replicate_zero, List.cons_append, List.nil_append, List.getElem?_cons_zero, List.getElem?_cons_succ, List.set_cons_zero, List.set_cons_succ, bv_add, bv_sub, bv_mul, bv_div, bv_mod, bv_pow, bv_str, av_add, av_sub, cv_lt, cv_le, cv_gt, cv_ge, cv_eq, cv_ne, cv_eqS, cv_neS, tv_bl, tv_int, List.length_cons, List.length_nil, pad, setT_nm, setT_tup, setTs_nil, setTs_cons, decide_eq_true_eq, Bool.not_eq_true', Bool.not_true, Bool.not_false, if_true, if_false, Bool.false_eq_true, Bool.true_eq_false, reduceIte, Nat.reduceAdd, Nat.reduceSub, Nat.reduceBEq, pow_10_9, pow_10_20, pow_10_30, cpow_10_9, cpow_10_20, cpow_10_30, divP_lit, mulP_r, mulP_l, lne_line, lt_line, isi_int, isi_bool, Int.reduceLT, Int.reduceLE, Int.reduceGT, Int.reduceGE, Int.reduceNeg, Int.reduceMul, Int.reduceAdd, Int.reduceSub, Nat.reduceLeDiff, Nat.reduceLT, true_and, and_true, decide_true, decide_false, sgf_pad_22_5, sgf_pad_22_6, sgf_pad_22_7, sgf_pad_22_8, sgf_pad_22_9, sgf_me_8_22, sgf_me_8_23, sgf_me_8_0, sgf_me_8_24, sgf_me_8_4, sgf_me_9_22, sgf_me_9_23, sgf_me_9_0, sgf_me_9_24, sgf_me_9_4, sgf_me_10_6, sgf_me_10_21, sgf_me_10_2, sgf_me_10_20, sgf_me_10_19, sgf_me_10_18, sgf_ini_10, sgf_ini_11, sgf_in0_8, sgf_in0_9, sgf_fl_10_1, sgf_fl_11_12, sgf_fl_11_3, sgf_fl_11_13, sgf_fl_11_14, sgf_fl_11_15, sgf_fl_11_16, sgf_fl_11_17, sgf_fl_11_5, sgf_exc_2, sgf_exc_6, sgf_exc_4, sgf_exc_5, sgf_exc_1, sgf_exc_3, sgf_exm_2_0, sgf_exm_6_0, sgf_exm_4_0, sgf_exm_5_0, sgf_exm_1_0, sgf_exm_3_0, sgf_isa_2_6, sgf_isa_6_6, sgf_isa_4_6, sgf_isa_5_6, sgf_isa_1_6, sgf_isa_3_6, sgf_isz_6, sgf_isv_2, sgf_isv_6, sgf_isv_4, sgf_isv_5, sgf_isv_1, sgf_isv_3, gl_MOST_LETTERS, gl_LETTERS, gl_MOST, gl_MOST_PARTS, gl_STAYS, wipeP, List.set_cons_zero, List.set_cons_succ, evSs_nil, List.lookup, Nat.reduceBEq, seq_str, seq_tup, seq_fl, Bool.true_and, Bool.and_true, Bool.false_and, Bool.and_false, beq_self_eq_true]
  refine ⟨fun m env g' => g' = g ∧ ∃ x : Int, 0 ≤ x ∧ env = [x0, some (.int base), some (.loc sl), some (.loc so), some (.loc r), some (.int k), some (.int cell), some (.int more), x8, some (.int x)] ∧ m = (L.filter fun e => decide (x ≤ e.1)).length, ⟨_, rfl, num, num0, rfl, rfl⟩, fun m env g' W => ?_⟩
  obtain ⟨rfl, x, hx, rfl, rfl⟩ := W
  simp only [evS, evE, evEs, evO, evB, evBs, evI, List.map_cons, List.map_nil, List.replicate_succ, List.replicate_zero, List.cons_append, List.nil_append, List.getElem?_cons_zero, List.getElem?_cons_succ, List.set_cons_zero, List.set_cons_succ, bv_add, bv_sub, bv_mul, bv_div, bv_mod, bv_pow, bv_str, av_add, av_sub, cv_lt, cv_le, cv_gt, cv_ge, cv_eq, cv_ne, cv_eqS, cv_neS, tv_bl, tv_int, List.length_cons, List.length_nil, pad, setT_nm, setT_tup, setTs_nil, setTs_cons, decide_eq_true_eq, Bool.not_eq_true', Bool.not_true, Bool.not_false, if_true, if_false, Bool.false_eq_true, Bool.true_eq_false, reduceIte, Nat.reduceAdd, Nat.reduceSub, Nat.reduceBEq, pow_10_9, pow_10_20, pow_10_30, cpow_10_9, cpow_10_20, cpow_10_30, divP_lit, mulP_r, mulP_l, lne_line, lt_line, isi_int, isi_bool, Int.reduceLT, Int.reduceLE, Int.reduceGT, Int.reduceGE, Int.reduceNeg, Int.reduceMul, Int.reduceAdd, Int.reduceSub, Nat.reduceLeDiff, Nat.reduceLT, true_and, and_true, decide_true, decide_false, sgf_pad_22_5, sgf_pad_22_6, sgf_pad_22_7, sgf_pad_22_8, sgf_pad_22_9, sgf_me_8_22, sgf_me_8_23, sgf_me_8_0, sgf_me_8_24, sgf_me_8_4, sgf_me_9_22, sgf_me_9_23, sgf_me_9_0, sgf_me_9_24, sgf_me_9_4, sgf_me_10_6, sgf_me_10_21, sgf_me_10_2, sgf_me_10_20, sgf_me_10_19, sgf_me_10_18, sgf_ini_10, sgf_ini_11, sgf_in0_8, sgf_in0_9, sgf_fl_10_1, sgf_fl_11_12, sgf_fl_11_3, sgf_fl_11_13, sgf_fl_11_14, sgf_fl_11_15, sgf_fl_11_16, sgf_fl_11_17, sgf_fl_11_5, sgf_exc_2, sgf_exc_6, sgf_exc_4, sgf_exc_5, sgf_exc_1, sgf_exc_3, sgf_exm_2_0, sgf_exm_6_0, sgf_exm_4_0, sgf_exm_5_0, sgf_exm_1_0, sgf_exm_3_0, sgf_isa_2_6, sgf_isa_6_6, sgf_isa_4_6, sgf_isa_5_6, sgf_isa_1_6, sgf_isa_3_6, sgf_isz_6, sgf_isv_2, sgf_isv_6, sgf_isv_4, sgf_isv_5, sgf_isv_1, sgf_isv_3, gl_MOST_LETTERS, gl_LETTERS, gl_MOST, gl_MOST_PARTS, gl_STAYS, wipeP, List.set_cons_zero, List.set_cons_succ, evSs_nil, List.lookup, Nat.reduceBEq, seq_str, seq_tup, seq_fl, Bool.true_and, Bool.and_true, Bool.false_and, Bool.and_false, beq_self_eq_true, cmpV, inK, I.rr, toKey]
  by_cases hk : x ∈ L.map (·.1)
  · obtain ⟨e, he, rfl⟩ := List.mem_map.mp hk
    have hv : valP (dR L) (.inl e.1) = some (tupP e.2.2) := val_ent (f := fun e => tupP e.2.2) I.nd he
    rw [hv, Option.isSome_some, if_pos rfl]
    rw [evSs_cons]
    simp only [evS, evE, evEs, evO, evB, evBs, evI, List.map_cons, List.map_nil, List.replicate_succ, List.replicate_zero, List.cons_append, List.nil_append, List.getElem?_cons_zero, List.getElem?_cons_succ, List.set_cons_zero, List.set_cons_succ, bv_add, bv_sub, bv_mul, bv_div, bv_mod, bv_pow, bv_str, av_add, av_sub, cv_lt, cv_le, cv_gt, cv_ge, cv_eq, cv_ne, cv_eqS, cv_neS, tv_bl, tv_int, List.length_cons, List.length_nil, pad, setT_nm, setT_tup, setTs_nil, setTs_cons, decide_eq_true_eq, Bool.not_eq_true', Bool.not_true, Bool.not_false, if_true, if_false, Bool.false_eq_true, Bool.true_eq_false, reduceIte, Nat.reduceAdd, Nat.reduceSub, Nat.reduceBEq, pow_10_9, pow_10_20, pow_10_30, cpow_10_9, cpow_10_20, cpow_10_30, divP_lit, mulP_r, mulP_l, lne_line, lt_line, isi_int, isi_bool, Int.reduceLT, Int.reduceLE, Int.reduceGT, Int.reduceGE, Int.reduceNeg, Int.reduceMul, Int.reduceAdd, Int.reduceSub, Nat.reduceLeDiff, Nat.reduceLT, true_and, and_true, decide_true, decide_false, sgf_pad_22_5, sgf_pad_22_6, sgf_pad_22_7, sgf_pad_22_8, sgf_pad_22_9, sgf_me_8_22, sgf_me_8_23, sgf_me_8_0, sgf_me_8_24, sgf_me_8_4, sgf_me_9_22, sgf_me_9_23, sgf_me_9_0, sgf_me_9_24, sgf_me_9_4, sgf_me_10_6, sgf_me_10_21, sgf_me_10_2, sgf_me_10_20, sgf_me_10_19, sgf_me_10_18, sgf_ini_10, sgf_ini_11, sgf_in0_8, sgf_in0_9, sgf_fl_10_1, sgf_fl_11_12, sgf_fl_11_3, sgf_fl_11_13, sgf_fl_11_14, sgf_fl_11_15, sgf_fl_11_16, sgf_fl_11_17, sgf_fl_11_5, sgf_exc_2, sgf_exc_6, sgf_exc_4, sgf_exc_5, sgf_exc_1, sgf_exc_3, sgf_exm_2_0, sgf_exm_6_0, sgf_exm_4_0, sgf_exm_5_0, sgf_exm_1_0, sgf_exm_3_0, sgf_isa_2_6, sgf_isa_6_6, sgf_isa_4_6, sgf_isa_5_6, sgf_isa_1_6, sgf_isa_3_6, sgf_isz_6, sgf_isv_2, sgf_isv_6, sgf_isv_4, sgf_isv_5, sgf_isv_1, sgf_isv_3, gl_MOST_LETTERS, gl_LETTERS, gl_MOST, gl_MOST_PARTS, gl_STAYS, wipeP, List.set_cons_zero, List.set_cons_succ, evSs_nil, List.lookup, Nat.reduceBEq, seq_str, seq_tup, seq_fl, Bool.true_and, Bool.and_true, Bool.false_and, Bool.and_false, beq_self_eq_true]
    refine ⟨_, ?_, e.1 + 1, by omega, rfl, rfl⟩
    have sub : ∀ l : List Ent, e ∈ l → (l.filter fun y => decide (e.1 + 1 ≤ y.1)).length < (l.filter fun y => decide (e.1 ≤ y.1)).length := by
      intro l
      induction l with
      | nil => intro h; cases h
      | cons a l ih =>
        intro h
        have le : (l.filter fun y => decide (e.1 + 1 ≤ y.1)).length ≤ (l.filter fun y => decide (e.1 ≤ y.1)).length := by
          clear ih h
          induction l with
          | nil => simp
          | cons b l ih =>
            rw [List.filter_cons, List.filter_cons]
            by_cases z1 : e.1 + 1 ≤ b.1
            · have z2 : e.1 ≤ b.1 := by omega
              simp only [z1, z2, decide_true, if_true, List.length_cons]; omega
            · by_cases z2 : e.1 ≤ b.1
              · simp only [z1, z2, decide_true, decide_false, if_true, List.length_cons]; simp; omega
              · simp only [z1, z2, decide_false]; simpa using ih
        rw [List.filter_cons, List.filter_cons]
        rcases List.mem_cons.mp h with rfl | h
        · simp only [Int.le_refl, decide_true, if_true, List.length_cons, show ¬ e.1 + 1 ≤ e.1 by omega, decide_false]
          simp
          omega
        · have := ih h
          by_cases z1 : e.1 + 1 ≤ a.1
          · have z2 : e.1 ≤ a.1 := by omega
            simp only [z1, z2, decide_true, if_true, List.length_cons]; omega
          · by_cases z2 : e.1 ≤ a.1
            · simp only [z1, z2, decide_true, decide_false, if_true, List.length_cons]; simp; omega
            · simp only [z1, z2, decide_false]; simpa using this
    exact sub L he
  · have hv : valP (dR L) (.inl x) = none := val_out (f := fun e => tupP e.2.2) hk
    rw [hv, Option.isSome_none, if_neg Bool.noConfusion]
    (try dsimp only); (try simp only [evS, evE, evEs, evO, evB, evBs, evI, List.map_cons, List.map_nil, List.replicate_succ, List.replicate_zero, List.cons_append, List.nil_append, List.getElem?_cons_zero, List.getElem?_cons_succ, List.set_cons_zero, List.set_cons_succ, bv_add, bv_sub, bv_mul, bv_div, bv_mod, bv_pow, bv_str, av_add, av_sub, cv_lt, cv_le, cv_gt, cv_ge, cv_eq, cv_ne, cv_eqS, cv_neS, tv_bl, tv_int, List.length_cons, List.length_nil, pad, setT_nm, setT_tup, setTs_nil, setTs_cons, decide_eq_true_eq, Bool.not_eq_true', Bool.not_true, Bool.not_false, if_true, if_false, Bool.false_eq_true, Bool.true_eq_false, reduceIte, Nat.reduceAdd, Nat.reduceSub, Nat.reduceBEq, pow_10_9, pow_10_20, pow_10_30, cpow_10_9, cpow_10_20, cpow_10_30, divP_lit, mulP_r, mulP_l, lne_line, lt_line, isi_int, isi_bool, Int.reduceLT, Int.reduceLE, Int.reduceGT, Int.reduceGE, Int.reduceNeg, Int.reduceMul, Int.reduceAdd, Int.reduceSub, Nat.reduceLeDiff, Nat.reduceLT, true_and, and_true, decide_true, decide_false, sgf_pad_22_5, sgf_pad_22_6, sgf_pad_22_7, sgf_pad_22_8, sgf_pad_22_9, sgf_me_8_22, sgf_me_8_23, sgf_me_8_0, sgf_me_8_24, sgf_me_8_4, sgf_me_9_22, sgf_me_9_23, sgf_me_9_0, sgf_me_9_24, sgf_me_9_4, sgf_me_10_6, sgf_me_10_21, sgf_me_10_2, sgf_me_10_20, sgf_me_10_19, sgf_me_10_18, sgf_ini_10, sgf_ini_11, sgf_in0_8, sgf_in0_9, sgf_fl_10_1, sgf_fl_11_12, sgf_fl_11_3, sgf_fl_11_13, sgf_fl_11_14, sgf_fl_11_15, sgf_fl_11_16, sgf_fl_11_17, sgf_fl_11_5, sgf_exc_2, sgf_exc_6, sgf_exc_4, sgf_exc_5, sgf_exc_1, sgf_exc_3, sgf_exm_2_0, sgf_exm_6_0, sgf_exm_4_0, sgf_exm_5_0, sgf_exm_1_0, sgf_exm_3_0, sgf_isa_2_6, sgf_isa_6_6, sgf_isa_4_6, sgf_isa_5_6, sgf_isa_1_6, sgf_isa_3_6, sgf_isz_6, sgf_isv_2, sgf_isv_6, sgf_isv_4, sgf_isv_5, sgf_isv_1, sgf_isv_3, gl_MOST_LETTERS, gl_LETTERS, gl_MOST, gl_MOST_PARTS, gl_STAYS, wipeP, List.set_cons_zero, List.set_cons_succ, evSs_nil, List.lookup, Nat.reduceBEq, seq_str, seq_tup, seq_fl, Bool.true_and, Bool.and_true, Bool.false_and, Bool.and_false, beq_self_eq_true]); rw [evSs_cons]; simp only [evS, evE, evEs, evO, evB, evBs, evI, List.map_cons, List.map_nil, List.replicate_succ, List.replicate_zero, List.cons_append, List.nil_append, List.getElem?_cons_zero, List.getElem?_cons_succ, List.set_cons_zero, List.set_cons_succ, bv_add, bv_sub, bv_mul, bv_div, bv_mod, bv_pow, bv_str, av_add, av_sub, cv_lt, cv_le, cv_gt, cv_ge, cv_eq, cv_ne, cv_eqS, cv_neS, tv_bl, tv_int, List.length_cons, List.length_nil, pad, setT_nm, setT_tup, setTs_nil, setTs_cons, decide_eq_true_eq, Bool.not_eq_true', Bool.not_true, Bool.not_false, if_true, if_false, Bool.false_eq_true, Bool.true_eq_false, reduceIte, Nat.reduceAdd, Nat.reduceSub, Nat.reduceBEq, pow_10_9, pow_10_20, pow_10_30, cpow_10_9, cpow_10_20, cpow_10_30, divP_lit, mulP_r, mulP_l, lne_line, lt_line, isi_int, isi_bool, Int.reduceLT, Int.reduceLE, Int.reduceGT, Int.reduceGE, Int.reduceNeg, Int.reduceMul, Int.reduceAdd, Int.reduceSub, Nat.reduceLeDiff, Nat.reduceLT, true_and, and_true, decide_true, decide_false, sgf_pad_22_5, sgf_pad_22_6, sgf_pad_22_7, sgf_pad_22_8, sgf_pad_22_9, sgf_me_8_22, sgf_me_8_23, sgf_me_8_0, sgf_me_8_24, sgf_me_8_4, sgf_me_9_22, sgf_me_9_23, sgf_me_9_0, sgf_me_9_24, sgf_me_9_4, sgf_me_10_6, sgf_me_10_21, sgf_me_10_2, sgf_me_10_20, sgf_me_10_19, sgf_me_10_18, sgf_ini_10, sgf_ini_11, sgf_in0_8, sgf_in0_9, sgf_fl_10_1, sgf_fl_11_12, sgf_fl_11_3, sgf_fl_11_13, sgf_fl_11_14, sgf_fl_11_15, sgf_fl_11_16, sgf_fl_11_17, sgf_fl_11_5, sgf_exc_2, sgf_exc_6, sgf_exc_4, sgf_exc_5, sgf_exc_1, sgf_exc_3, sgf_exm_2_0, sgf_exm_6_0, sgf_exm_4_0, sgf_exm_5_0, sgf_exm_1_0, sgf_exm_3_0, sgf_isa_2_6, sgf_isa_6_6, sgf_isa_4_6, sgf_isa_5_6, sgf_isa_1_6, sgf_isa_3_6, sgf_isz_6, sgf_isv_2, sgf_isv_6, sgf_isv_4, sgf_isv_5, sgf_isv_1, sgf_isv_3, gl_MOST_LETTERS, gl_LETTERS, gl_MOST, gl_MOST_PARTS, gl_STAYS, wipeP, List.set_cons_zero, List.set_cons_succ, evSs_nil, List.lookup, Nat.reduceBEq, seq_str, seq_tup, seq_fl, Bool.true_and, Bool.and_true, Bool.false_and, Bool.and_false, beq_self_eq_true]
    refine sleeper_sp hb fun g1 e l1 ge => ?_
    have I1 := I.le l1
    have hp : ∀ o, putP (dR L) (.inl x) (tupP e) = dR (L ++ [(x, o, e)]) := fun o => by
      rw [put_new]
      · simp [dR]
      · rw [show (dR L).map (·.1) = (L.map (·.1)).map fun k => (.inl k : Key) by rw [dR, List.map_map, List.map_map]; rfl]
        intro z
        obtain ⟨y, hy, e⟩ := List.mem_map.mp z
        cases e
        exact hk hy
    have nd2 : ∀ o, ((L ++ [((x, o, e) : Ent)]).map (·.1)).Nodup := fun o => by
      rw [List.map_append, List.nodup_append]
      refine ⟨I.nd, by simp, fun a ha b hb z => ?_⟩
      subst z
      have : a = x := by simpa using hb
      exact hk (this ▸ ha)
    simp only [evS, evE, evEs, evO, evB, evBs, evI, List.map_cons, List.map_nil, List.replicate_succ, List.replicate_zero, List.cons_append, List.nil_append, List.getElem?_cons_zero, List.getElem?_cons_succ, List.set_cons_zero, List.set_cons_succ, bv_add, bv_sub, bv_mul, bv_div, bv_mod, bv_pow, bv_str, av_add, av_sub, cv_lt, cv_le, cv_gt, cv_ge, cv_eq, cv_ne, cv_eqS, cv_neS, tv_bl, tv_int, List.length_cons, List.length_nil, pad, setT_nm, setT_tup, setTs_nil, setTs_cons, decide_eq_true_eq, Bool.not_eq_true', Bool.not_true, Bool.not_false, if_true, if_false, Bool.false_eq_true, Bool.true_eq_false, reduceIte, Nat.reduceAdd, Nat.reduceSub, Nat.reduceBEq, pow_10_9, pow_10_20, pow_10_30, cpow_10_9, cpow_10_20, cpow_10_30, divP_lit, mulP_r, mulP_l, lne_line, lt_line, isi_int, isi_bool, Int.reduceLT, Int.reduceLE, Int.reduceGT, Int.reduceGE, Int.reduceNeg, Int.reduceMul, Int.reduceAdd, Int.reduceSub, Nat.reduceLeDiff, Nat.reduceLT, true_and, and_true, decide_true, decide_false, sgf_pad_22_5, sgf_pad_22_6, sgf_pad_22_7, sgf_pad_22_8, sgf_pad_22_9, sgf_me_8_22, sgf_me_8_23, sgf_me_8_0, sgf_me_8_24, sgf_me_8_4, sgf_me_9_22, sgf_me_9_23, sgf_me_9_0, sgf_me_9_24, sgf_me_9_4, sgf_me_10_6, sgf_me_10_21, sgf_me_10_2, sgf_me_10_20, sgf_me_10_19, sgf_me_10_18, sgf_ini_10, sgf_ini_11, sgf_in0_8, sgf_in0_9, sgf_fl_10_1, sgf_fl_11_12, sgf_fl_11_3, sgf_fl_11_13, sgf_fl_11_14, sgf_fl_11_15, sgf_fl_11_16, sgf_fl_11_17, sgf_fl_11_5, sgf_exc_2, sgf_exc_6, sgf_exc_4, sgf_exc_5, sgf_exc_1, sgf_exc_3, sgf_exm_2_0, sgf_exm_6_0, sgf_exm_4_0, sgf_exm_5_0, sgf_exm_1_0, sgf_exm_3_0, sgf_isa_2_6, sgf_isa_6_6, sgf_isa_4_6, sgf_isa_5_6, sgf_isa_1_6, sgf_isa_3_6, sgf_isz_6, sgf_isv_2, sgf_isv_6, sgf_isv_4, sgf_isv_5, sgf_isv_1, sgf_isv_3, gl_MOST_LETTERS, gl_LETTERS, gl_MOST, gl_MOST_PARTS, gl_STAYS, wipeP, List.set_cons_zero, List.set_cons_succ, evSs_nil, List.lookup, Nat.reduceBEq, seq_str, seq_tup, seq_fl, Bool.true_and, Bool.and_true, Bool.false_and, Bool.and_false, beq_self_eq_true, setV, I1.rr, toKey, hp 0]
    refine ⟨by rw [dR, List.length_map]; exact small1000 (by omega), ?_⟩
    have sa := I1.s.off (c := .dct false (dR (L ++ [(x, 0, e)]))) I1.rr I1.n1
    have oa := I1.o.off (c := .dct false (dR (L ++ [(x, 0, e)]))) I1.rr I1.n2
    have ra : (pup g1 r (.dct false (dR (L ++ [(x, 0, e)])))) r = some (.dct false (dR (L ++ [(x, 0, e)]))) := pup_same
    generalize pup g1 r _ = g2 at sa oa ra ⊢
    have hv2 : valP (dR (L ++ [(x, 0, e)])) (.inl x) = some (tupP e) := val_ent (f := fun e => tupP e.2.2) (e := (x, 0, e)) (nd2 0) (by simp)
    (try dsimp only); (try simp only [evS, evE, evEs, evO, evB, evBs, evI, List.map_cons, List.map_nil, List.replicate_succ, List.replicate_zero, List.cons_append, List.nil_append, List.getElem?_cons_zero, List.getElem?_cons_succ, List.set_cons_zero, List.set_cons_succ, bv_add, bv_sub, bv_mul, bv_div, bv_mod, bv_pow, bv_str, av_add, av_sub, cv_lt, cv_le, cv_gt, cv_ge, cv_eq, cv_ne, cv_eqS, cv_neS, tv_bl, tv_int, List.length_cons, List.length_nil, pad, setT_nm, setT_tup, setTs_nil, setTs_cons, decide_eq_true_eq, Bool.not_eq_true', Bool.not_true, Bool.not_false, if_true, if_false, Bool.false_eq_true, Bool.true_eq_false, reduceIte, Nat.reduceAdd, Nat.reduceSub, Nat.reduceBEq, pow_10_9, pow_10_20, pow_10_30, cpow_10_9, cpow_10_20, cpow_10_30, divP_lit, mulP_r, mulP_l, lne_line, lt_line, isi_int, isi_bool, Int.reduceLT, Int.reduceLE, Int.reduceGT, Int.reduceGE, Int.reduceNeg, Int.reduceMul, Int.reduceAdd, Int.reduceSub, Nat.reduceLeDiff, Nat.reduceLT, true_and, and_true, decide_true, decide_false, sgf_pad_22_5, sgf_pad_22_6, sgf_pad_22_7, sgf_pad_22_8, sgf_pad_22_9, sgf_me_8_22, sgf_me_8_23, sgf_me_8_0, sgf_me_8_24, sgf_me_8_4, sgf_me_9_22, sgf_me_9_23, sgf_me_9_0, sgf_me_9_24, sgf_me_9_4, sgf_me_10_6, sgf_me_10_21, sgf_me_10_2, sgf_me_10_20, sgf_me_10_19, sgf_me_10_18, sgf_ini_10, sgf_ini_11, sgf_in0_8, sgf_in0_9, sgf_fl_10_1, sgf_fl_11_12, sgf_fl_11_3, sgf_fl_11_13, sgf_fl_11_14, sgf_fl_11_15, sgf_fl_11_16, sgf_fl_11_17, sgf_fl_11_5, sgf_exc_2, sgf_exc_6, sgf_exc_4, sgf_exc_5, sgf_exc_1, sgf_exc_3, sgf_exm_2_0, sgf_exm_6_0, sgf_exm_4_0, sgf_exm_5_0, sgf_exm_1_0, sgf_exm_3_0, sgf_isa_2_6, sgf_isa_6_6, sgf_isa_4_6, sgf_isa_5_6, sgf_isa_1_6, sgf_isa_3_6, sgf_isz_6, sgf_isv_2, sgf_isv_6, sgf_isv_4, sgf_isv_5, sgf_isv_1, sgf_isv_3, gl_MOST_LETTERS, gl_LETTERS, gl_MOST, gl_MOST_PARTS, gl_STAYS, wipeP, List.set_cons_zero, List.set_cons_succ, evSs_nil, List.lookup, Nat.reduceBEq, seq_str, seq_tup, seq_fl, Bool.true_and, Bool.and_true, Bool.false_and, Bool.and_false, beq_self_eq_true]); rw [evSs_cons]; simp only [evS, evE, evEs, evO, evB, evBs, evI, List.map_cons, List.map_nil, List.replicate_succ, List.replicate_zero, List.cons_append, List.nil_append, List.getElem?_cons_zero, List.getElem?_cons_succ, List.set_cons_zero, List.set_cons_succ, bv_add, bv_sub, bv_mul, bv_div, bv_mod, bv_pow, bv_str, av_add, av_sub, cv_lt, cv_le, cv_gt, cv_ge, cv_eq, cv_ne, cv_eqS, cv_neS, tv_bl, tv_int, List.length_cons, List.length_nil, pad, setT_nm, setT_tup, setTs_nil, setTs_cons, decide_eq_true_eq, Bool.not_eq_true', Bool.not_true, Bool.not_false, if_true, if_false, Bool.false_eq_true, Bool.true_eq_false, reduceIte, Nat.reduceAdd, Nat.reduceSub, Nat.reduceBEq, pow_10_9, pow_10_20, pow_10_30, cpow_10_9, cpow_10_20, cpow_10_30, divP_lit, mulP_r, mulP_l, lne_line, lt_line, isi_int, isi_bool, Int.reduceLT, Int.reduceLE, Int.reduceGT, Int.reduceGE, Int.reduceNeg, Int.reduceMul, Int.reduceAdd, Int.reduceSub, Nat.reduceLeDiff, Nat.reduceLT, true_and, and_true, decide_true, decide_false, sgf_pad_22_5, sgf_pad_22_6, sgf_pad_22_7, sgf_pad_22_8, sgf_pad_22_9, sgf_me_8_22, sgf_me_8_23, sgf_me_8_0, sgf_me_8_24, sgf_me_8_4, sgf_me_9_22, sgf_me_9_23, sgf_me_9_0, sgf_me_9_24, sgf_me_9_4, sgf_me_10_6, sgf_me_10_21, sgf_me_10_2, sgf_me_10_20, sgf_me_10_19, sgf_me_10_18, sgf_ini_10, sgf_ini_11, sgf_in0_8, sgf_in0_9, sgf_fl_10_1, sgf_fl_11_12, sgf_fl_11_3, sgf_fl_11_13, sgf_fl_11_14, sgf_fl_11_15, sgf_fl_11_16, sgf_fl_11_17, sgf_fl_11_5, sgf_exc_2, sgf_exc_6, sgf_exc_4, sgf_exc_5, sgf_exc_1, sgf_exc_3, sgf_exm_2_0, sgf_exm_6_0, sgf_exm_4_0, sgf_exm_5_0, sgf_exm_1_0, sgf_exm_3_0, sgf_isa_2_6, sgf_isa_6_6, sgf_isa_4_6, sgf_isa_5_6, sgf_isa_1_6, sgf_isa_3_6, sgf_isz_6, sgf_isv_2, sgf_isv_6, sgf_isv_4, sgf_isv_5, sgf_isv_1, sgf_isv_3, gl_MOST_LETTERS, gl_LETTERS, gl_MOST, gl_MOST_PARTS, gl_STAYS, wipeP, List.set_cons_zero, List.set_cons_succ, evSs_nil, List.lookup, Nat.reduceBEq, seq_str, seq_tup, seq_fl, Bool.true_and, Bool.and_true, Bool.false_and, Bool.and_false, beq_self_eq_true, sa.1, List.lookup_nil, subV, ra, toKey, hv2]
    refine made_sp ge fun g3 o l3 ho => ?_
    have sb := sa.le l3
    have ob := oa.le l3
    have rb := l3 _ _ ra
    refine put_sp (e := e) sb hk (by omega) ?_
    simp only [evS, evE, evEs, evO, evB, evBs, evI, List.map_cons, List.map_nil, List.replicate_succ, List.replicate_zero, List.cons_append, List.nil_append, List.getElem?_cons_zero, List.getElem?_cons_succ, List.set_cons_zero, List.set_cons_succ, bv_add, bv_sub, bv_mul, bv_div, bv_mod, bv_pow, bv_str, av_add, av_sub, cv_lt, cv_le, cv_gt, cv_ge, cv_eq, cv_ne, cv_eqS, cv_neS, tv_bl, tv_int, List.length_cons, List.length_nil, pad, setT_nm, setT_tup, setTs_nil, setTs_cons, decide_eq_true_eq, Bool.not_eq_true', Bool.not_true, Bool.not_false, if_true, if_false, Bool.false_eq_true, Bool.true_eq_false, reduceIte, Nat.reduceAdd, Nat.reduceSub, Nat.reduceBEq, pow_10_9, pow_10_20, pow_10_30, cpow_10_9, cpow_10_20, cpow_10_30, divP_lit, mulP_r, mulP_l, lne_line, lt_line, isi_int, isi_bool, Int.reduceLT, Int.reduceLE, Int.reduceGT, Int.reduceGE, Int.reduceNeg, Int.reduceMul, Int.reduceAdd, Int.reduceSub, Nat.reduceLeDiff, Nat.reduceLT, true_and, and_true, decide_true, decide_false, sgf_pad_22_5, sgf_pad_22_6, sgf_pad_22_7, sgf_pad_22_8, sgf_pad_22_9, sgf_me_8_22, sgf_me_8_23, sgf_me_8_0, sgf_me_8_24, sgf_me_8_4, sgf_me_9_22, sgf_me_9_23, sgf_me_9_0, sgf_me_9_24, sgf_me_9_4, sgf_me_10_6, sgf_me_10_21, sgf_me_10_2, sgf_me_10_20, sgf_me_10_19, sgf_me_10_18, sgf_ini_10, sgf_ini_11, sgf_in0_8, sgf_in0_9, sgf_fl_10_1, sgf_fl_11_12, sgf_fl_11_3, sgf_fl_11_13, sgf_fl_11_14, sgf_fl_11_15, sgf_fl_11_16, sgf_fl_11_17, sgf_fl_11_5, sgf_exc_2, sgf_exc_6, sgf_exc_4, sgf_exc_5, sgf_exc_1, sgf_exc_3, sgf_exm_2_0, sgf_exm_6_0, sgf_exm_4_0, sgf_exm_5_0, sgf_exm_1_0, sgf_exm_3_0, sgf_isa_2_6, sgf_isa_6_6, sgf_isa_4_6, sgf_isa_5_6, sgf_isa_1_6, sgf_isa_3_6, sgf_isz_6, sgf_isv_2, sgf_isv_6, sgf_isv_4, sgf_isv_5, sgf_isv_1, sgf_isv_3, gl_MOST_LETTERS, gl_LETTERS, gl_MOST, gl_MOST_PARTS, gl_STAYS, wipeP, List.set_cons_zero, List.set_cons_succ, evSs_nil, List.lookup, Nat.reduceBEq, seq_str, seq_tup, seq_fl, Bool.true_and, Bool.and_true, Bool.false_and, Bool.and_false, beq_self_eq_true, cmpV]
    refine nx _ (L ++ [(x, o, e)]) x ⟨sb.put ho, by rw [pup_ne I.n1, show dR (L ++ [(x, o, e)]) = dR (L ++ [(x, 0, e)]) by simp [dR]]; exact rb, ob.off sb.2.1 I.n3, nd2 o, fun k hk => ?_, I.n1, I.n2, I.n3⟩ (by simp)
    rw [List.map_append, List.mem_append] at hk
    rcases hk with hk | hk
    · exact I.ps k hk
    · have : k = x := by simpa using hk
      omega
theorem then_sp {g : PH} {sl d so dd r o4 : Addr} {base k cell more : Int} {L : List Ent} {x0 x8 x9 : Option PV} {D : PD} (hm : 0 ≤ more) (I : Iv g sl d so dd r base o4 L) (hl : L.length < 63) (hn : 0 < L.length)
    (nx : ∀ g' L' gone, Iv g' sl d so dd r base o4 L' → L'.length ≤ L.length → D.nx [x0, some (.int base), some (.loc sl), some (.loc so), some (.loc r), some (.int k), some (.int cell), some (.int more), some (.int gone), x9] g') :
    evSs sg (sem sg 7) thenB [x0, some (.int base), some (.loc sl), some (.loc so), some (.loc r), some (.int k), some (.int cell), some (.int more), x8, x9] g D := by
  rw [show thenB = _ from rfl, thenB, forB, b32]
  (try dsimp only)
  rw [evSs_cons]
  simp only [evS, evE, evEs, evO, evB, evBs, evI, List.map_cons, List.map_nil, List.replicate_succ, List.replicate_zero, List.cons_append, List.nil_append, List.getElem?_cons_zero, List.getElem?_cons_succ, List.set_cons_zero, List.set_cons_succ, bv_add, bv_sub, bv_mul, bv_div, bv_mod, bv_pow, bv_str, av_add, av_sub, cv_lt, cv_le, cv_gt, cv_ge, cv_eq, cv_ne, cv_eqS, cv_neS, tv_bl, tv_int, List.length_cons, List.length_nil, pad, setT_nm, setT_tup, setTs_nil, setTs_cons, decide_eq_true_eq, Bool.not_eq_true', Bool.not_true, Bool.not_false, if_true, if_false, Bool.false_eq_true, Bool.true_eq_false, reduceIte, Nat.reduceAdd, Nat.reduceSub, Nat.reduceBEq, pow_10_9, pow_10_20, pow_10_30, cpow_10_9, cpow_10_20, cpow_10_30, divP_lit, mulP_r, mulP_l, lne_line, lt_line, isi_int, isi_bool, Int.reduceLT, Int.reduceLE, Int.reduceGT, Int.reduceGE, Int.reduceNeg, Int.reduceMul, Int.reduceAdd, Int.reduceSub, Nat.reduceLeDiff, Nat.reduceLT, true_and, and_true, decide_true, decide_false, sgf_pad_22_5, sgf_pad_22_6, sgf_pad_22_7, sgf_pad_22_8, sgf_pad_22_9, sgf_me_8_22, sgf_me_8_23, sgf_me_8_0, sgf_me_8_24, sgf_me_8_4, sgf_me_9_22, sgf_me_9_23, sgf_me_9_0, sgf_me_9_24, sgf_me_9_4, sgf_me_10_6, sgf_me_10_21, sgf_me_10_2, sgf_me_10_20, sgf_me_10_19, sgf_me_10_18, sgf_ini_10, sgf_ini_11, sgf_in0_8, sgf_in0_9, sgf_fl_10_1, sgf_fl_11_12, sgf_fl_11_3, sgf_fl_11_13, sgf_fl_11_14, sgf_fl_11_15, sgf_fl_11_16, sgf_fl_11_17, sgf_fl_11_5, sgf_exc_2, sgf_exc_6, sgf_exc_4, sgf_exc_5, sgf_exc_1, sgf_exc_3, sgf_exm_2_0, sgf_exm_6_0, sgf_exm_4_0, sgf_exm_5_0, sgf_exm_1_0, sgf_exm_3_0, sgf_isa_2_6, sgf_isa_6_6, sgf_isa_4_6, sgf_isa_5_6, sgf_isa_1_6, sgf_isa_3_6, sgf_isz_6, sgf_isv_2, sgf_isv_6, sgf_isv_4, sgf_isv_5, sgf_isv_1, sgf_isv_3, gl_MOST_LETTERS, gl_LETTERS, gl_MOST, gl_MOST_PARTS, gl_STAYS, wipeP, List.set_cons_zero, List.set_cons_succ, evSs_nil, List.lookup, Nat.reduceBEq, seq_str, seq_tup, seq_fl, Bool.true_and, Bool.and_true, Bool.false_and, Bool.and_false, beq_self_eq_true]
  refine blt_sorted (f := fun e => tupP e.2.2) I.rr (by omega) fun p np => ?_
  have u := PLe.new (c := .lst ((srt (L.map (·.1))).map .int)) np
  have e1 : (pup g p (.lst ((srt (L.map (·.1))).map .int))) p = some (.lst ((srt (L.map (·.1))).map .int)) := pup_same
  have I1 := I.le u
  generalize pup g p _ = g1 at u e1 I1 ⊢
  simp only [evS, evE, evEs, evO, evB, evBs, evI, List.map_cons, List.map_nil, List.replicate_succ, List.replicate_zero, List.cons_append, List.nil_append, List.getElem?_cons_zero, List.getElem?_cons_succ, List.set_cons_zero, List.set_cons_succ, bv_add, bv_sub, bv_mul, bv_div, bv_mod, bv_pow, bv_str, av_add, av_sub, cv_lt, cv_le, cv_gt, cv_ge, cv_eq, cv_ne, cv_eqS, cv_neS, tv_bl, tv_int, List.length_cons, List.length_nil, pad, setT_nm, setT_tup, setTs_nil, setTs_cons, decide_eq_true_eq, Bool.not_eq_true', Bool.not_true, Bool.not_false, if_true, if_false, Bool.false_eq_true, Bool.true_eq_false, reduceIte, Nat.reduceAdd, Nat.reduceSub, Nat.reduceBEq, pow_10_9, pow_10_20, pow_10_30, cpow_10_9, cpow_10_20, cpow_10_30, divP_lit, mulP_r, mulP_l, lne_line, lt_line, isi_int, isi_bool, Int.reduceLT, Int.reduceLE, Int.reduceGT, Int.reduceGE, Int.reduceNeg, Int.reduceMul, Int.reduceAdd, Int.reduceSub, Nat.reduceLeDiff, Nat.reduceLT, true_and, and_true, decide_true, decide_false, sgf_pad_22_5, sgf_pad_22_6, sgf_pad_22_7, sgf_pad_22_8, sgf_pad_22_9, sgf_me_8_22, sgf_me_8_23, sgf_me_8_0, sgf_me_8_24, sgf_me_8_4, sgf_me_9_22, sgf_me_9_23, sgf_me_9_0, sgf_me_9_24, sgf_me_9_4, sgf_me_10_6, sgf_me_10_21, sgf_me_10_2, sgf_me_10_20, sgf_me_10_19, sgf_me_10_18, sgf_ini_10, sgf_ini_11, sgf_in0_8, sgf_in0_9, sgf_fl_10_1, sgf_fl_11_12, sgf_fl_11_3, sgf_fl_11_13, sgf_fl_11_14, sgf_fl_11_15, sgf_fl_11_16, sgf_fl_11_17, sgf_fl_11_5, sgf_exc_2, sgf_exc_6, sgf_exc_4, sgf_exc_5, sgf_exc_1, sgf_exc_3, sgf_exm_2_0, sgf_exm_6_0, sgf_exm_4_0, sgf_exm_5_0, sgf_exm_1_0, sgf_exm_3_0, sgf_isa_2_6, sgf_isa_6_6, sgf_isa_4_6, sgf_isa_5_6, sgf_isa_1_6, sgf_isa_3_6, sgf_isz_6, sgf_isv_2, sgf_isv_6, sgf_isv_4, sgf_isv_5, sgf_isv_1, sgf_isv_3, gl_MOST_LETTERS, gl_LETTERS, gl_MOST, gl_MOST_PARTS, gl_STAYS, wipeP, List.set_cons_zero, List.set_cons_succ, evSs_nil, List.lookup, Nat.reduceBEq, seq_str, seq_tup, seq_fl, Bool.true_and, Bool.and_true, Bool.false_and, Bool.and_false, beq_self_eq_true, bltV, lenV, I1.rr]
  have hlen : (dR L).length = L.length := by rw [dR, List.length_map]
  rw [hlen]
  refine ⟨by omega, ?_⟩
  obtain ⟨gone, hg, eg⟩ := at_map (f := PV.int) (xs := srt (L.map (·.1))) (i := more % (L.length : Int)) (Int.emod_nonneg _ (by omega)) (by rw [(srt_perm _).length_eq, List.length_map]; exact Int.emod_lt_of_pos _ (by omega))
  rw [sv_lst e1 eg]
  have km : gone ∈ L.map (·.1) := (srt_perm _).mem_iff.mp hg
  obtain ⟨e, he, rfl⟩ := List.mem_map.mp km
  (try dsimp only); (try simp only [evS, evE, evEs, evO, evB, evBs, evI, List.map_cons, List.map_nil, List.replicate_succ, List.replicate_zero, List.cons_append, List.nil_append, List.getElem?_cons_zero, List.getElem?_cons_succ, List.set_cons_zero, List.set_cons_succ, bv_add, bv_sub, bv_mul, bv_div, bv_mod, bv_pow, bv_str, av_add, av_sub, cv_lt, cv_le, cv_gt, cv_ge, cv_eq, cv_ne, cv_eqS, cv_neS, tv_bl, tv_int, List.length_cons, List.length_nil, pad, setT_nm, setT_tup, setTs_nil, setTs_cons, decide_eq_true_eq, Bool.not_eq_true', Bool.not_true, Bool.not_false, if_true, if_false, Bool.false_eq_true, Bool.true_eq_false, reduceIte, Nat.reduceAdd, Nat.reduceSub, Nat.reduceBEq, pow_10_9, pow_10_20, pow_10_30, cpow_10_9, cpow_10_20, cpow_10_30, divP_lit, mulP_r, mulP_l, lne_line, lt_line, isi_int, isi_bool, Int.reduceLT, Int.reduceLE, Int.reduceGT, Int.reduceGE, Int.reduceNeg, Int.reduceMul, Int.reduceAdd, Int.reduceSub, Nat.reduceLeDiff, Nat.reduceLT, true_and, and_true, decide_true, decide_false, sgf_pad_22_5, sgf_pad_22_6, sgf_pad_22_7, sgf_pad_22_8, sgf_pad_22_9, sgf_me_8_22, sgf_me_8_23, sgf_me_8_0, sgf_me_8_24, sgf_me_8_4, sgf_me_9_22, sgf_me_9_23, sgf_me_9_0, sgf_me_9_24, sgf_me_9_4, sgf_me_10_6, sgf_me_10_21, sgf_me_10_2, sgf_me_10_20, sgf_me_10_19, sgf_me_10_18, sgf_ini_10, sgf_ini_11, sgf_in0_8, sgf_in0_9, sgf_fl_10_1, sgf_fl_11_12, sgf_fl_11_3, sgf_fl_11_13, sgf_fl_11_14, sgf_fl_11_15, sgf_fl_11_16, sgf_fl_11_17, sgf_fl_11_5, sgf_exc_2, sgf_exc_6, sgf_exc_4, sgf_exc_5, sgf_exc_1, sgf_exc_3, sgf_exm_2_0, sgf_exm_6_0, sgf_exm_4_0, sgf_exm_5_0, sgf_exm_1_0, sgf_exm_3_0, sgf_isa_2_6, sgf_isa_6_6, sgf_isa_4_6, sgf_isa_5_6, sgf_isa_1_6, sgf_isa_3_6, sgf_isz_6, sgf_isv_2, sgf_isv_6, sgf_isv_4, sgf_isv_5, sgf_isv_1, sgf_isv_3, gl_MOST_LETTERS, gl_LETTERS, gl_MOST, gl_MOST_PARTS, gl_STAYS, wipeP, List.set_cons_zero, List.set_cons_succ, evSs_nil, List.lookup, Nat.reduceBEq, seq_str, seq_tup, seq_fl, Bool.true_and, Bool.and_true, Bool.false_and, Bool.and_false, beq_self_eq_true]); rw [evSs_cons]; simp only [evS, evE, evEs, evO, evB, evBs, evI, List.map_cons, List.map_nil, List.replicate_succ, List.replicate_zero, List.cons_append, List.nil_append, List.getElem?_cons_zero, List.getElem?_cons_succ, List.set_cons_zero, List.set_cons_succ, bv_add, bv_sub, bv_mul, bv_div, bv_mod, bv_pow, bv_str, av_add, av_sub, cv_lt, cv_le, cv_gt, cv_ge, cv_eq, cv_ne, cv_eqS, cv_neS, tv_bl, tv_int, List.length_cons, List.length_nil, pad, setT_nm, setT_tup, setTs_nil, setTs_cons, decide_eq_true_eq, Bool.not_eq_true', Bool.not_true, Bool.not_false, if_true, if_false, Bool.false_eq_true, Bool.true_eq_false, reduceIte, Nat.reduceAdd, Nat.reduceSub, Nat.reduceBEq, pow_10_9, pow_10_20, pow_10_30, cpow_10_9, cpow_10_20, cpow_10_30, divP_lit, mulP_r, mulP_l, lne_line, lt_line, isi_int, isi_bool, Int.reduceLT, Int.reduceLE, Int.reduceGT, Int.reduceGE, Int.reduceNeg, Int.reduceMul, Int.reduceAdd, Int.reduceSub, Nat.reduceLeDiff, Nat.reduceLT, true_and, and_true, decide_true, decide_false, sgf_pad_22_5, sgf_pad_22_6, sgf_pad_22_7, sgf_pad_22_8, sgf_pad_22_9, sgf_me_8_22, sgf_me_8_23, sgf_me_8_0, sgf_me_8_24, sgf_me_8_4, sgf_me_9_22, sgf_me_9_23, sgf_me_9_0, sgf_me_9_24, sgf_me_9_4, sgf_me_10_6, sgf_me_10_21, sgf_me_10_2, sgf_me_10_20, sgf_me_10_19, sgf_me_10_18, sgf_ini_10, sgf_ini_11, sgf_in0_8, sgf_in0_9, sgf_fl_10_1, sgf_fl_11_12, sgf_fl_11_3, sgf_fl_11_13, sgf_fl_11_14, sgf_fl_11_15, sgf_fl_11_16, sgf_fl_11_17, sgf_fl_11_5, sgf_exc_2, sgf_exc_6, sgf_exc_4, sgf_exc_5, sgf_exc_1, sgf_exc_3, sgf_exm_2_0, sgf_exm_6_0, sgf_exm_4_0, sgf_exm_5_0, sgf_exm_1_0, sgf_exm_3_0, sgf_isa_2_6, sgf_isa_6_6, sgf_isa_4_6, sgf_isa_5_6, sgf_isa_1_6, sgf_isa_3_6, sgf_isz_6, sgf_isv_2, sgf_isv_6, sgf_isv_4, sgf_isv_5, sgf_isv_1, sgf_isv_3, gl_MOST_LETTERS, gl_LETTERS, gl_MOST, gl_MOST_PARTS, gl_STAYS, wipeP, List.set_cons_zero, List.set_cons_succ, evSs_nil, List.lookup, Nat.reduceBEq, seq_str, seq_tup, seq_fl, Bool.true_and, Bool.and_true, Bool.false_and, Bool.and_false, beq_self_eq_true, I1.s.1, List.lookup_nil]
  refine drop_sp I1.s I1.nd he ?_
  have sa := I1.s.out (k := e.1)
  have oa := I1.o.off (c := .dct false (dS (out L e.1))) I1.s.2.1 I.n3
  have ra : (pup g1 d (.dct false (dS (out L e.1)))) r = some (.dct false (dR L)) := by rw [pup_ne I.n1]; exact I1.rr
  have hoe : (pup g1 d (.dct false (dS (out L e.1)))) e.2.1 = some (.ins 11 (ordFs e.2.2)) := by
    have h0 := I1.s.2.2 e he
    rw [pup_ne (fun z => by rw [z, I1.s.2.1] at h0; cases h0)]
    exact h0
  generalize pup g1 d _ = g2 at sa oa ra hoe ⊢
  have hv : valP (dR L) (.inl e.1) = some (tupP e.2.2) := val_ent (f := fun e => tupP e.2.2) I.nd he
  have hd : dropP (dR L) (.inl e.1) = dR (out L e.1) := drop_dS (f := fun e => tupP e.2.2)
  simp only [evS, evE, evEs, evO, evB, evBs, evI, List.map_cons, List.map_nil, List.replicate_succ, List.replicate_zero, List.cons_append, List.nil_append, List.getElem?_cons_zero, List.getElem?_cons_succ, List.set_cons_zero, List.set_cons_succ, bv_add, bv_sub, bv_mul, bv_div, bv_mod, bv_pow, bv_str, av_add, av_sub, cv_lt, cv_le, cv_gt, cv_ge, cv_eq, cv_ne, cv_eqS, cv_neS, tv_bl, tv_int, List.length_cons, List.length_nil, pad, setT_nm, setT_tup, setTs_nil, setTs_cons, decide_eq_true_eq, Bool.not_eq_true', Bool.not_true, Bool.not_false, if_true, if_false, Bool.false_eq_true, Bool.true_eq_false, reduceIte, Nat.reduceAdd, Nat.reduceSub, Nat.reduceBEq, pow_10_9, pow_10_20, pow_10_30, cpow_10_9, cpow_10_20, cpow_10_30, divP_lit, mulP_r, mulP_l, lne_line, lt_line, isi_int, isi_bool, Int.reduceLT, Int.reduceLE, Int.reduceGT, Int.reduceGE, Int.reduceNeg, Int.reduceMul, Int.reduceAdd, Int.reduceSub, Nat.reduceLeDiff, Nat.reduceLT, true_and, and_true, decide_true, decide_false, sgf_pad_22_5, sgf_pad_22_6, sgf_pad_22_7, sgf_pad_22_8, sgf_pad_22_9, sgf_me_8_22, sgf_me_8_23, sgf_me_8_0, sgf_me_8_24, sgf_me_8_4, sgf_me_9_22, sgf_me_9_23, sgf_me_9_0, sgf_me_9_24, sgf_me_9_4, sgf_me_10_6, sgf_me_10_21, sgf_me_10_2, sgf_me_10_20, sgf_me_10_19, sgf_me_10_18, sgf_ini_10, sgf_ini_11, sgf_in0_8, sgf_in0_9, sgf_fl_10_1, sgf_fl_11_12, sgf_fl_11_3, sgf_fl_11_13, sgf_fl_11_14, sgf_fl_11_15, sgf_fl_11_16, sgf_fl_11_17, sgf_fl_11_5, sgf_exc_2, sgf_exc_6, sgf_exc_4, sgf_exc_5, sgf_exc_1, sgf_exc_3, sgf_exm_2_0, sgf_exm_6_0, sgf_exm_4_0, sgf_exm_5_0, sgf_exm_1_0, sgf_exm_3_0, sgf_isa_2_6, sgf_isa_6_6, sgf_isa_4_6, sgf_isa_5_6, sgf_isa_1_6, sgf_isa_3_6, sgf_isz_6, sgf_isv_2, sgf_isv_6, sgf_isv_4, sgf_isv_5, sgf_isv_1, sgf_isv_3, gl_MOST_LETTERS, gl_LETTERS, gl_MOST, gl_MOST_PARTS, gl_STAYS, wipeP, List.set_cons_zero, List.set_cons_succ, evSs_nil, List.lookup, Nat.reduceBEq, seq_str, seq_tup, seq_fl, Bool.true_and, Bool.and_true, Bool.false_and, Bool.and_false, beq_self_eq_true, bmT, tyP, bmV, ra, toKey, hv, hd]
  have sb := sa.off (c := .dct false (dR (out L e.1))) ra I.n1
  have ob := oa.off (c := .dct false (dR (out L e.1))) ra I.n2
  have hob : (pup g2 r (.dct false (dR (out L e.1)))) e.2.1 = some (.ins 11 (ordFs e.2.2)) := by
    rw [pup_ne (fun z => by rw [z, ra] at hoe; cases hoe)]
    exact hoe
  refine like_sp hob ?_
  simp only [evS, evE, evEs, evO, evB, evBs, evI, List.map_cons, List.map_nil, List.replicate_succ, List.replicate_zero, List.cons_append, List.nil_append, List.getElem?_cons_zero, List.getElem?_cons_succ, List.set_cons_zero, List.set_cons_succ, bv_add, bv_sub, bv_mul, bv_div, bv_mod, bv_pow, bv_str, av_add, av_sub, cv_lt, cv_le, cv_gt, cv_ge, cv_eq, cv_ne, cv_eqS, cv_neS, tv_bl, tv_int, List.length_cons, List.length_nil, pad, setT_nm, setT_tup, setTs_nil, setTs_cons, decide_eq_true_eq, Bool.not_eq_true', Bool.not_true, Bool.not_false, if_true, if_false, Bool.false_eq_true, Bool.true_eq_false, reduceIte, Nat.reduceAdd, Nat.reduceSub, Nat.reduceBEq, pow_10_9, pow_10_20, pow_10_30, cpow_10_9, cpow_10_20, cpow_10_30, divP_lit, mulP_r, mulP_l, lne_line, lt_line, isi_int, isi_bool, Int.reduceLT, Int.reduceLE, Int.reduceGT, Int.reduceGE, Int.reduceNeg, Int.reduceMul, Int.reduceAdd, Int.reduceSub, Nat.reduceLeDiff, Nat.reduceLT, true_and, and_true, decide_true, decide_false, sgf_pad_22_5, sgf_pad_22_6, sgf_pad_22_7, sgf_pad_22_8, sgf_pad_22_9, sgf_me_8_22, sgf_me_8_23, sgf_me_8_0, sgf_me_8_24, sgf_me_8_4, sgf_me_9_22, sgf_me_9_23, sgf_me_9_0, sgf_me_9_24, sgf_me_9_4, sgf_me_10_6, sgf_me_10_21, sgf_me_10_2, sgf_me_10_20, sgf_me_10_19, sgf_me_10_18, sgf_ini_10, sgf_ini_11, sgf_in0_8, sgf_in0_9, sgf_fl_10_1, sgf_fl_11_12, sgf_fl_11_3, sgf_fl_11_13, sgf_fl_11_14, sgf_fl_11_15, sgf_fl_11_16, sgf_fl_11_17, sgf_fl_11_5, sgf_exc_2, sgf_exc_6, sgf_exc_4, sgf_exc_5, sgf_exc_1, sgf_exc_3, sgf_exm_2_0, sgf_exm_6_0, sgf_exm_4_0, sgf_exm_5_0, sgf_exm_1_0, sgf_exm_3_0, sgf_isa_2_6, sgf_isa_6_6, sgf_isa_4_6, sgf_isa_5_6, sgf_isa_1_6, sgf_isa_3_6, sgf_isz_6, sgf_isv_2, sgf_isv_6, sgf_isv_4, sgf_isv_5, sgf_isv_1, sgf_isv_3, gl_MOST_LETTERS, gl_LETTERS, gl_MOST, gl_MOST_PARTS, gl_STAYS, wipeP, List.set_cons_zero, List.set_cons_succ, evSs_nil, List.lookup, Nat.reduceBEq, seq_str, seq_tup, seq_fl, Bool.true_and, Bool.and_true, Bool.false_and, Bool.and_false, beq_self_eq_true]
  have subL : ∀ k ∈ (out L e.1).map (·.1), k ∈ L.map (·.1) := fun k hk => by
    obtain ⟨y, hy, rfl⟩ := List.mem_map.mp hk
    exact List.mem_map_of_mem (List.mem_filter.mp hy).1
  refine nx _ (out L e.1) e.1 ⟨sb, pup_same, ob, ?_, fun k hk => I.ps k (subL k hk), I.n1, I.n2, I.n3⟩ (List.length_filter_le ..)
  exact I.nd.sublist (List.Sublist.map _ List.filter_sublist)
theorem rg (j : Nat) (hj : j < 50) : RgC 1 (j : Int) 2 (j / 2) := by
  have all : ∀ j : Nat, j < 50 → (Builtin.Range.small 1 (j : Int) 2 = true ∧ Builtin.Range.rangeSize 1 (j : Int) 2 = ((j / 2 : Nat) : Int)) := by decide +kernel
  exact ⟨by decide, by decide, (all j hj).1, (all j hj).2⟩
theorem hp (ns : List Int) (hns : ns.length ≤ 63) : sem sg 8 32 [.fl (ns.map .int)] (fun _ => none) (fun v _ => v = .bl true) (fun _ _ => False) := by
  refine ⟨⟨1, 10, b32, []⟩, rfl, rfl, ?_⟩
  rw [b32]
  (try dsimp only); (try simp only [evS, evE, evEs, evO, evB, evBs, evI, List.map_cons, List.map_nil, List.replicate_succ, List.replicate_zero, List.cons_append, List.nil_append, List.getElem?_cons_zero, List.getElem?_cons_succ, List.set_cons_zero, List.set_cons_succ, bv_add, bv_sub, bv_mul, bv_div, bv_mod, bv_pow, bv_str, av_add, av_sub, cv_lt, cv_le, cv_gt, cv_ge, cv_eq, cv_ne, cv_eqS, cv_neS, tv_bl, tv_int, List.length_cons, List.length_nil, pad, setT_nm, setT_tup, setTs_nil, setTs_cons, decide_eq_true_eq, Bool.not_eq_true', Bool.not_true, Bool.not_false, if_true, if_false, Bool.false_eq_true, Bool.true_eq_false, reduceIte, Nat.reduceAdd, Nat.reduceSub, Nat.reduceBEq, pow_10_9, pow_10_20, pow_10_30, cpow_10_9, cpow_10_20, cpow_10_30, divP_lit, mulP_r, mulP_l, lne_line, lt_line, isi_int, isi_bool, Int.reduceLT, Int.reduceLE, Int.reduceGT, Int.reduceGE, Int.reduceNeg, Int.reduceMul, Int.reduceAdd, Int.reduceSub, Nat.reduceLeDiff, Nat.reduceLT, true_and, and_true, decide_true, decide_false, sgf_pad_22_5, sgf_pad_22_6, sgf_pad_22_7, sgf_pad_22_8, sgf_pad_22_9, sgf_me_8_22, sgf_me_8_23, sgf_me_8_0, sgf_me_8_24, sgf_me_8_4, sgf_me_9_22, sgf_me_9_23, sgf_me_9_0, sgf_me_9_24, sgf_me_9_4, sgf_me_10_6, sgf_me_10_21, sgf_me_10_2, sgf_me_10_20, sgf_me_10_19, sgf_me_10_18, sgf_ini_10, sgf_ini_11, sgf_in0_8, sgf_in0_9, sgf_fl_10_1, sgf_fl_11_12, sgf_fl_11_3, sgf_fl_11_13, sgf_fl_11_14, sgf_fl_11_15, sgf_fl_11_16, sgf_fl_11_17, sgf_fl_11_5, sgf_exc_2, sgf_exc_6, sgf_exc_4, sgf_exc_5, sgf_exc_1, sgf_exc_3, sgf_exm_2_0, sgf_exm_6_0, sgf_exm_4_0, sgf_exm_5_0, sgf_exm_1_0, sgf_exm_3_0, sgf_isa_2_6, sgf_isa_6_6, sgf_isa_4_6, sgf_isa_5_6, sgf_isa_1_6, sgf_isa_3_6, sgf_isz_6, sgf_isv_2, sgf_isv_6, sgf_isv_4, sgf_isv_5, sgf_isv_1, sgf_isv_3, gl_MOST_LETTERS, gl_LETTERS, gl_MOST, gl_MOST_PARTS, gl_STAYS, wipeP, List.set_cons_zero, List.set_cons_succ, evSs_nil, List.lookup, Nat.reduceBEq, seq_str, seq_tup, seq_fl, Bool.true_and, Bool.and_true, Bool.false_and, Bool.and_false, beq_self_eq_true]); rw [evSs_cons]; simp only [evS, evE, evEs, evO, evB, evBs, evI, List.map_cons, List.map_nil, List.replicate_succ, List.replicate_zero, List.cons_append, List.nil_append, List.getElem?_cons_zero, List.getElem?_cons_succ, List.set_cons_zero, List.set_cons_succ, bv_add, bv_sub, bv_mul, bv_div, bv_mod, bv_pow, bv_str, av_add, av_sub, cv_lt, cv_le, cv_gt, cv_ge, cv_eq, cv_ne, cv_eqS, cv_neS, tv_bl, tv_int, List.length_cons, List.length_nil, pad, setT_nm, setT_tup, setTs_nil, setTs_cons, decide_eq_true_eq, Bool.not_eq_true', Bool.not_true, Bool.not_false, if_true, if_false, Bool.false_eq_true, Bool.true_eq_false, reduceIte, Nat.reduceAdd, Nat.reduceSub, Nat.reduceBEq, pow_10_9, pow_10_20, pow_10_30, cpow_10_9, cpow_10_20, cpow_10_30, divP_lit, mulP_r, mulP_l, lne_line, lt_line, isi_int, isi_bool, Int.reduceLT, Int.reduceLE, Int.reduceGT, Int.reduceGE, Int.reduceNeg, Int.reduceMul, Int.reduceAdd, Int.reduceSub, Nat.reduceLeDiff, Nat.reduceLT, true_and, and_true, decide_true, decide_false, sgf_pad_22_5, sgf_pad_22_6, sgf_pad_22_7, sgf_pad_22_8, sgf_pad_22_9, sgf_me_8_22, sgf_me_8_23, sgf_me_8_0, sgf_me_8_24, sgf_me_8_4, sgf_me_9_22, sgf_me_9_23, sgf_me_9_0, sgf_me_9_24, sgf_me_9_4, sgf_me_10_6, sgf_me_10_21, sgf_me_10_2, sgf_me_10_20, sgf_me_10_19, sgf_me_10_18, sgf_ini_10, sgf_ini_11, sgf_in0_8, sgf_in0_9, sgf_fl_10_1, sgf_fl_11_12, sgf_fl_11_3, sgf_fl_11_13, sgf_fl_11_14, sgf_fl_11_15, sgf_fl_11_16, sgf_fl_11_17, sgf_fl_11_5, sgf_exc_2, sgf_exc_6, sgf_exc_4, sgf_exc_5, sgf_exc_1, sgf_exc_3, sgf_exm_2_0, sgf_exm_6_0, sgf_exm_4_0, sgf_exm_5_0, sgf_exm_1_0, sgf_exm_3_0, sgf_isa_2_6, sgf_isa_6_6, sgf_isa_4_6, sgf_isa_5_6, sgf_isa_1_6, sgf_isa_3_6, sgf_isz_6, sgf_isv_2, sgf_isv_6, sgf_isv_4, sgf_isv_5, sgf_isv_1, sgf_isv_3, gl_MOST_LETTERS, gl_LETTERS, gl_MOST, gl_MOST_PARTS, gl_STAYS, wipeP, List.set_cons_zero, List.set_cons_succ, evSs_nil, List.lookup, Nat.reduceBEq, seq_str, seq_tup, seq_fl, Bool.true_and, Bool.and_true, Bool.false_and, Bool.and_false, beq_self_eq_true]
  refine cellk_sp (by decide) fun v => ?_
  refine mixed_sp (by decide) (by decide) ?_
  simp only [evS, evE, evEs, evO, evB, evBs, evI, List.map_cons, List.map_nil, List.replicate_succ, List.replicate_zero, List.cons_append, List.nil_append, List.getElem?_cons_zero, List.getElem?_cons_succ, List.set_cons_zero, List.set_cons_succ, bv_add, bv_sub, bv_mul, bv_div, bv_mod, bv_pow, bv_str, av_add, av_sub, cv_lt, cv_le, cv_gt, cv_ge, cv_eq, cv_ne, cv_eqS, cv_neS, tv_bl, tv_int, List.length_cons, List.length_nil, pad, setT_nm, setT_tup, setTs_nil, setTs_cons, decide_eq_true_eq, Bool.not_eq_true', Bool.not_true, Bool.not_false, if_true, if_false, Bool.false_eq_true, Bool.true_eq_false, reduceIte, Nat.reduceAdd, Nat.reduceSub, Nat.reduceBEq, pow_10_9, pow_10_20, pow_10_30, cpow_10_9, cpow_10_20, cpow_10_30, divP_lit, mulP_r, mulP_l, lne_line, lt_line, isi_int, isi_bool, Int.reduceLT, Int.reduceLE, Int.reduceGT, Int.reduceGE, Int.reduceNeg, Int.reduceMul, Int.reduceAdd, Int.reduceSub, Nat.reduceLeDiff, Nat.reduceLT, true_and, and_true, decide_true, decide_false, sgf_pad_22_5, sgf_pad_22_6, sgf_pad_22_7, sgf_pad_22_8, sgf_pad_22_9, sgf_me_8_22, sgf_me_8_23, sgf_me_8_0, sgf_me_8_24, sgf_me_8_4, sgf_me_9_22, sgf_me_9_23, sgf_me_9_0, sgf_me_9_24, sgf_me_9_4, sgf_me_10_6, sgf_me_10_21, sgf_me_10_2, sgf_me_10_20, sgf_me_10_19, sgf_me_10_18, sgf_ini_10, sgf_ini_11, sgf_in0_8, sgf_in0_9, sgf_fl_10_1, sgf_fl_11_12, sgf_fl_11_3, sgf_fl_11_13, sgf_fl_11_14, sgf_fl_11_15, sgf_fl_11_16, sgf_fl_11_17, sgf_fl_11_5, sgf_exc_2, sgf_exc_6, sgf_exc_4, sgf_exc_5, sgf_exc_1, sgf_exc_3, sgf_exm_2_0, sgf_exm_6_0, sgf_exm_4_0, sgf_exm_5_0, sgf_exm_1_0, sgf_exm_3_0, sgf_isa_2_6, sgf_isa_6_6, sgf_isa_4_6, sgf_isa_5_6, sgf_isa_1_6, sgf_isa_3_6, sgf_isz_6, sgf_isv_2, sgf_isv_6, sgf_isv_4, sgf_isv_5, sgf_isv_1, sgf_isv_3, gl_MOST_LETTERS, gl_LETTERS, gl_MOST, gl_MOST_PARTS, gl_STAYS, wipeP, List.set_cons_zero, List.set_cons_succ, evSs_nil, List.lookup, Nat.reduceBEq, seq_str, seq_tup, seq_fl, Bool.true_and, Bool.and_true, Bool.false_and, Bool.and_false, beq_self_eq_true]
  have b0 := Int.emod_nonneg (mix v 1) (b := 999999950) (by decide)
  have b1 := Int.emod_lt_of_pos (mix v 1) (b := 999999950) (by decide)
  obtain ⟨base, eb, hb⟩ : ∃ base, 1 + mix v 1 % 999999950 = base ∧ 1 ≤ base ∧ base ≤ 1000000000 := ⟨_, rfl, by omega, by omega⟩
  rw [eb]
  (try dsimp only); (try simp only [evS, evE, evEs, evO, evB, evBs, evI, List.map_cons, List.map_nil, List.replicate_succ, List.replicate_zero, List.cons_append, List.nil_append, List.getElem?_cons_zero, List.getElem?_cons_succ, List.set_cons_zero, List.set_cons_succ, bv_add, bv_sub, bv_mul, bv_div, bv_mod, bv_pow, bv_str, av_add, av_sub, cv_lt, cv_le, cv_gt, cv_ge, cv_eq, cv_ne, cv_eqS, cv_neS, tv_bl, tv_int, List.length_cons, List.length_nil, pad, setT_nm, setT_tup, setTs_nil, setTs_cons, decide_eq_true_eq, Bool.not_eq_true', Bool.not_true, Bool.not_false, if_true, if_false, Bool.false_eq_true, Bool.true_eq_false, reduceIte, Nat.reduceAdd, Nat.reduceSub, Nat.reduceBEq, pow_10_9, pow_10_20, pow_10_30, cpow_10_9, cpow_10_20, cpow_10_30, divP_lit, mulP_r, mulP_l, lne_line, lt_line, isi_int, isi_bool, Int.reduceLT, Int.reduceLE, Int.reduceGT, Int.reduceGE, Int.reduceNeg, Int.reduceMul, Int.reduceAdd, Int.reduceSub, Nat.reduceLeDiff, Nat.reduceLT, true_and, and_true, decide_true, decide_false, sgf_pad_22_5, sgf_pad_22_6, sgf_pad_22_7, sgf_pad_22_8, sgf_pad_22_9, sgf_me_8_22, sgf_me_8_23, sgf_me_8_0, sgf_me_8_24, sgf_me_8_4, sgf_me_9_22, sgf_me_9_23, sgf_me_9_0, sgf_me_9_24, sgf_me_9_4, sgf_me_10_6, sgf_me_10_21, sgf_me_10_2, sgf_me_10_20, sgf_me_10_19, sgf_me_10_18, sgf_ini_10, sgf_ini_11, sgf_in0_8, sgf_in0_9, sgf_fl_10_1, sgf_fl_11_12, sgf_fl_11_3, sgf_fl_11_13, sgf_fl_11_14, sgf_fl_11_15, sgf_fl_11_16, sgf_fl_11_17, sgf_fl_11_5, sgf_exc_2, sgf_exc_6, sgf_exc_4, sgf_exc_5, sgf_exc_1, sgf_exc_3, sgf_exm_2_0, sgf_exm_6_0, sgf_exm_4_0, sgf_exm_5_0, sgf_exm_1_0, sgf_exm_3_0, sgf_isa_2_6, sgf_isa_6_6, sgf_isa_4_6, sgf_isa_5_6, sgf_isa_1_6, sgf_isa_3_6, sgf_isz_6, sgf_isv_2, sgf_isv_6, sgf_isv_4, sgf_isv_5, sgf_isv_1, sgf_isv_3, gl_MOST_LETTERS, gl_LETTERS, gl_MOST, gl_MOST_PARTS, gl_STAYS, wipeP, List.set_cons_zero, List.set_cons_succ, evSs_nil, List.lookup, Nat.reduceBEq, seq_str, seq_tup, seq_fl, Bool.true_and, Bool.and_true, Bool.false_and, Bool.and_false, beq_self_eq_true]); rw [evSs_cons]; simp only [evS, evE, evEs, evO, evB, evBs, evI, List.map_cons, List.map_nil, List.replicate_succ, List.replicate_zero, List.cons_append, List.nil_append, List.getElem?_cons_zero, List.getElem?_cons_succ, List.set_cons_zero, List.set_cons_succ, bv_add, bv_sub, bv_mul, bv_div, bv_mod, bv_pow, bv_str, av_add, av_sub, cv_lt, cv_le, cv_gt, cv_ge, cv_eq, cv_ne, cv_eqS, cv_neS, tv_bl, tv_int, List.length_cons, List.length_nil, pad, setT_nm, setT_tup, setTs_nil, setTs_cons, decide_eq_true_eq, Bool.not_eq_true', Bool.not_true, Bool.not_false, if_true, if_false, Bool.false_eq_true, Bool.true_eq_false, reduceIte, Nat.reduceAdd, Nat.reduceSub, Nat.reduceBEq, pow_10_9, pow_10_20, pow_10_30, cpow_10_9, cpow_10_20, cpow_10_30, divP_lit, mulP_r, mulP_l, lne_line, lt_line, isi_int, isi_bool, Int.reduceLT, Int.reduceLE, Int.reduceGT, Int.reduceGE, Int.reduceNeg, Int.reduceMul, Int.reduceAdd, Int.reduceSub, Nat.reduceLeDiff, Nat.reduceLT, true_and, and_true, decide_true, decide_false, sgf_pad_22_5, sgf_pad_22_6, sgf_pad_22_7, sgf_pad_22_8, sgf_pad_22_9, sgf_me_8_22, sgf_me_8_23, sgf_me_8_0, sgf_me_8_24, sgf_me_8_4, sgf_me_9_22, sgf_me_9_23, sgf_me_9_0, sgf_me_9_24, sgf_me_9_4, sgf_me_10_6, sgf_me_10_21, sgf_me_10_2, sgf_me_10_20, sgf_me_10_19, sgf_me_10_18, sgf_ini_10, sgf_ini_11, sgf_in0_8, sgf_in0_9, sgf_fl_10_1, sgf_fl_11_12, sgf_fl_11_3, sgf_fl_11_13, sgf_fl_11_14, sgf_fl_11_15, sgf_fl_11_16, sgf_fl_11_17, sgf_fl_11_5, sgf_exc_2, sgf_exc_6, sgf_exc_4, sgf_exc_5, sgf_exc_1, sgf_exc_3, sgf_exm_2_0, sgf_exm_6_0, sgf_exm_4_0, sgf_exm_5_0, sgf_exm_1_0, sgf_exm_3_0, sgf_isa_2_6, sgf_isa_6_6, sgf_isa_4_6, sgf_isa_5_6, sgf_isa_1_6, sgf_isa_3_6, sgf_isz_6, sgf_isv_2, sgf_isv_6, sgf_isv_4, sgf_isv_5, sgf_isv_1, sgf_isv_3, gl_MOST_LETTERS, gl_LETTERS, gl_MOST, gl_MOST_PARTS, gl_STAYS, wipeP, List.set_cons_zero, List.set_cons_succ, evSs_nil, List.lookup, Nat.reduceBEq, seq_str, seq_tup, seq_fl, Bool.true_and, Bool.and_true, Bool.false_and, Bool.and_false, beq_self_eq_true]
  intro sl nsl
  refine newSl rfl fun g1 d l1 s1 _ => ?_
  refine ⟨rfl, ?_⟩
  (try dsimp only); (try simp only [evS, evE, evEs, evO, evB, evBs, evI, List.map_cons, List.map_nil, List.replicate_succ, List.replicate_zero, List.cons_append, List.nil_append, List.getElem?_cons_zero, List.getElem?_cons_succ, List.set_cons_zero, List.set_cons_succ, bv_add, bv_sub, bv_mul, bv_div, bv_mod, bv_pow, bv_str, av_add, av_sub, cv_lt, cv_le, cv_gt, cv_ge, cv_eq, cv_ne, cv_eqS, cv_neS, tv_bl, tv_int, List.length_cons, List.length_nil, pad, setT_nm, setT_tup, setTs_nil, setTs_cons, decide_eq_true_eq, Bool.not_eq_true', Bool.not_true, Bool.not_false, if_true, if_false, Bool.false_eq_true, Bool.true_eq_false, reduceIte, Nat.reduceAdd, Nat.reduceSub, Nat.reduceBEq, pow_10_9, pow_10_20, pow_10_30, cpow_10_9, cpow_10_20, cpow_10_30, divP_lit, mulP_r, mulP_l, lne_line, lt_line, isi_int, isi_bool, Int.reduceLT, Int.reduceLE, Int.reduceGT, Int.reduceGE, Int.reduceNeg, Int.reduceMul, Int.reduceAdd, Int.reduceSub, Nat.reduceLeDiff, Nat.reduceLT, true_and, and_true, decide_true, decide_false, sgf_pad_22_5, sgf_pad_22_6, sgf_pad_22_7, sgf_pad_22_8, sgf_pad_22_9, sgf_me_8_22, sgf_me_8_23, sgf_me_8_0, sgf_me_8_24, sgf_me_8_4, sgf_me_9_22, sgf_me_9_23, sgf_me_9_0, sgf_me_9_24, sgf_me_9_4, sgf_me_10_6, sgf_me_10_21, sgf_me_10_2, sgf_me_10_20, sgf_me_10_19, sgf_me_10_18, sgf_ini_10, sgf_ini_11, sgf_in0_8, sgf_in0_9, sgf_fl_10_1, sgf_fl_11_12, sgf_fl_11_3, sgf_fl_11_13, sgf_fl_11_14, sgf_fl_11_15, sgf_fl_11_16, sgf_fl_11_17, sgf_fl_11_5, sgf_exc_2, sgf_exc_6, sgf_exc_4, sgf_exc_5, sgf_exc_1, sgf_exc_3, sgf_exm_2_0, sgf_exm_6_0, sgf_exm_4_0, sgf_exm_5_0, sgf_exm_1_0, sgf_exm_3_0, sgf_isa_2_6, sgf_isa_6_6, sgf_isa_4_6, sgf_isa_5_6, sgf_isa_1_6, sgf_isa_3_6, sgf_isz_6, sgf_isv_2, sgf_isv_6, sgf_isv_4, sgf_isv_5, sgf_isv_1, sgf_isv_3, gl_MOST_LETTERS, gl_LETTERS, gl_MOST, gl_MOST_PARTS, gl_STAYS, wipeP, List.set_cons_zero, List.set_cons_succ, evSs_nil, List.lookup, Nat.reduceBEq, seq_str, seq_tup, seq_fl, Bool.true_and, Bool.and_true, Bool.false_and, Bool.and_false, beq_self_eq_true]); rw [evSs_cons]; simp only [evS, evE, evEs, evO, evB, evBs, evI, List.map_cons, List.map_nil, List.replicate_succ, List.replicate_zero, List.cons_append, List.nil_append, List.getElem?_cons_zero, List.getElem?_cons_succ, List.set_cons_zero, List.set_cons_succ, bv_add, bv_sub, bv_mul, bv_div, bv_mod, bv_pow, bv_str, av_add, av_sub, cv_lt, cv_le, cv_gt, cv_ge, cv_eq, cv_ne, cv_eqS, cv_neS, tv_bl, tv_int, List.length_cons, List.length_nil, pad, setT_nm, setT_tup, setTs_nil, setTs_cons, decide_eq_true_eq, Bool.not_eq_true', Bool.not_true, Bool.not_false, if_true, if_false, Bool.false_eq_true, Bool.true_eq_false, reduceIte, Nat.reduceAdd, Nat.reduceSub, Nat.reduceBEq, pow_10_9, pow_10_20, pow_10_30, cpow_10_9, cpow_10_20, cpow_10_30, divP_lit, mulP_r, mulP_l, lne_line, lt_line, isi_int, isi_bool, Int.reduceLT, Int.reduceLE, Int.reduceGT, Int.reduceGE, Int.reduceNeg, Int.reduceMul, Int.reduceAdd, Int.reduceSub, Nat.reduceLeDiff, Nat.reduceLT, true_and, and_true, decide_true, decide_false, sgf_pad_22_5, sgf_pad_22_6, sgf_pad_22_7, sgf_pad_22_8, sgf_pad_22_9, sgf_me_8_22, sgf_me_8_23, sgf_me_8_0, sgf_me_8_24, sgf_me_8_4, sgf_me_9_22, sgf_me_9_23, sgf_me_9_0, sgf_me_9_24, sgf_me_9_4, sgf_me_10_6, sgf_me_10_21, sgf_me_10_2, sgf_me_10_20, sgf_me_10_19, sgf_me_10_18, sgf_ini_10, sgf_ini_11, sgf_in0_8, sgf_in0_9, sgf_fl_10_1, sgf_fl_11_12, sgf_fl_11_3, sgf_fl_11_13, sgf_fl_11_14, sgf_fl_11_15, sgf_fl_11_16, sgf_fl_11_17, sgf_fl_11_5, sgf_exc_2, sgf_exc_6, sgf_exc_4, sgf_exc_5, sgf_exc_1, sgf_exc_3, sgf_exm_2_0, sgf_exm_6_0, sgf_exm_4_0, sgf_exm_5_0, sgf_exm_1_0, sgf_exm_3_0, sgf_isa_2_6, sgf_isa_6_6, sgf_isa_4_6, sgf_isa_5_6, sgf_isa_1_6, sgf_isa_3_6, sgf_isz_6, sgf_isv_2, sgf_isv_6, sgf_isv_4, sgf_isv_5, sgf_isv_1, sgf_isv_3, gl_MOST_LETTERS, gl_LETTERS, gl_MOST, gl_MOST_PARTS, gl_STAYS, wipeP, List.set_cons_zero, List.set_cons_succ, evSs_nil, List.lookup, Nat.reduceBEq, seq_str, seq_tup, seq_fl, Bool.true_and, Bool.and_true, Bool.false_and, Bool.and_false, beq_self_eq_true]
  intro so nso
  refine newSl nso fun g2 dd l2 s2 nd2 => ?_
  refine ⟨rfl, ?_⟩
  have n3 : d ≠ dd := fun z => by subst z; rw [s1.2.1] at nd2; cases nd2
  have s1' := s1.le l2
  (try dsimp only); (try simp only [evS, evE, evEs, evO, evB, evBs, evI, List.map_cons, List.map_nil, List.replicate_succ, List.replicate_zero, List.cons_append, List.nil_append, List.getElem?_cons_zero, List.getElem?_cons_succ, List.set_cons_zero, List.set_cons_succ, bv_add, bv_sub, bv_mul, bv_div, bv_mod, bv_pow, bv_str, av_add, av_sub, cv_lt, cv_le, cv_gt, cv_ge, cv_eq, cv_ne, cv_eqS, cv_neS, tv_bl, tv_int, List.length_cons, List.length_nil, pad, setT_nm, setT_tup, setTs_nil, setTs_cons, decide_eq_true_eq, Bool.not_eq_true', Bool.not_true, Bool.not_false, if_true, if_false, Bool.false_eq_true, Bool.true_eq_false, reduceIte, Nat.reduceAdd, Nat.reduceSub, Nat.reduceBEq, pow_10_9, pow_10_20, pow_10_30, cpow_10_9, cpow_10_20, cpow_10_30, divP_lit, mulP_r, mulP_l, lne_line, lt_line, isi_int, isi_bool, Int.reduceLT, Int.reduceLE, Int.reduceGT, Int.reduceGE, Int.reduceNeg, Int.reduceMul, Int.reduceAdd, Int.reduceSub, Nat.reduceLeDiff, Nat.reduceLT, true_and, and_true, decide_true, decide_false, sgf_pad_22_5, sgf_pad_22_6, sgf_pad_22_7, sgf_pad_22_8, sgf_pad_22_9, sgf_me_8_22, sgf_me_8_23, sgf_me_8_0, sgf_me_8_24, sgf_me_8_4, sgf_me_9_22, sgf_me_9_23, sgf_me_9_0, sgf_me_9_24, sgf_me_9_4, sgf_me_10_6, sgf_me_10_21, sgf_me_10_2, sgf_me_10_20, sgf_me_10_19, sgf_me_10_18, sgf_ini_10, sgf_ini_11, sgf_in0_8, sgf_in0_9, sgf_fl_10_1, sgf_fl_11_12, sgf_fl_11_3, sgf_fl_11_13, sgf_fl_11_14, sgf_fl_11_15, sgf_fl_11_16, sgf_fl_11_17, sgf_fl_11_5, sgf_exc_2, sgf_exc_6, sgf_exc_4, sgf_exc_5, sgf_exc_1, sgf_exc_3, sgf_exm_2_0, sgf_exm_6_0, sgf_exm_4_0, sgf_exm_5_0, sgf_exm_1_0, sgf_exm_3_0, sgf_isa_2_6, sgf_isa_6_6, sgf_isa_4_6, sgf_isa_5_6, sgf_isa_1_6, sgf_isa_3_6, sgf_isz_6, sgf_isv_2, sgf_isv_6, sgf_isv_4, sgf_isv_5, sgf_isv_1, sgf_isv_3, gl_MOST_LETTERS, gl_LETTERS, gl_MOST, gl_MOST_PARTS, gl_STAYS, wipeP, List.set_cons_zero, List.set_cons_succ, evSs_nil, List.lookup, Nat.reduceBEq, seq_str, seq_tup, seq_fl, Bool.true_and, Bool.and_true, Bool.false_and, Bool.and_false, beq_self_eq_true]); rw [evSs_cons]; simp only [evS, evE, evEs, evO, evB, evBs, evI, List.map_cons, List.map_nil, List.replicate_succ, List.replicate_zero, List.cons_append, List.nil_append, List.getElem?_cons_zero, List.getElem?_cons_succ, List.set_cons_zero, List.set_cons_succ, bv_add, bv_sub, bv_mul, bv_div, bv_mod, bv_pow, bv_str, av_add, av_sub, cv_lt, cv_le, cv_gt, cv_ge, cv_eq, cv_ne, cv_eqS, cv_neS, tv_bl, tv_int, List.length_cons, List.length_nil, pad, setT_nm, setT_tup, setTs_nil, setTs_cons, decide_eq_true_eq, Bool.not_eq_true', Bool.not_true, Bool.not_false, if_true, if_false, Bool.false_eq_true, Bool.true_eq_false, reduceIte, Nat.reduceAdd, Nat.reduceSub, Nat.reduceBEq, pow_10_9, pow_10_20, pow_10_30, cpow_10_9, cpow_10_20, cpow_10_30, divP_lit, mulP_r, mulP_l, lne_line, lt_line, isi_int, isi_bool, Int.reduceLT, Int.reduceLE, Int.reduceGT, Int.reduceGE, Int.reduceNeg, Int.reduceMul, Int.reduceAdd, Int.reduceSub, Nat.reduceLeDiff, Nat.reduceLT, true_and, and_true, decide_true, decide_false, sgf_pad_22_5, sgf_pad_22_6, sgf_pad_22_7, sgf_pad_22_8, sgf_pad_22_9, sgf_me_8_22, sgf_me_8_23, sgf_me_8_0, sgf_me_8_24, sgf_me_8_4, sgf_me_9_22, sgf_me_9_23, sgf_me_9_0, sgf_me_9_24, sgf_me_9_4, sgf_me_10_6, sgf_me_10_21, sgf_me_10_2, sgf_me_10_20, sgf_me_10_19, sgf_me_10_18, sgf_ini_10, sgf_ini_11, sgf_in0_8, sgf_in0_9, sgf_fl_10_1, sgf_fl_11_12, sgf_fl_11_3, sgf_fl_11_13, sgf_fl_11_14, sgf_fl_11_15, sgf_fl_11_16, sgf_fl_11_17, sgf_fl_11_5, sgf_exc_2, sgf_exc_6, sgf_exc_4, sgf_exc_5, sgf_exc_1, sgf_exc_3, sgf_exm_2_0, sgf_exm_6_0, sgf_exm_4_0, sgf_exm_5_0, sgf_exm_1_0, sgf_exm_3_0, sgf_isa_2_6, sgf_isa_6_6, sgf_isa_4_6, sgf_isa_5_6, sgf_isa_1_6, sgf_isa_3_6, sgf_isz_6, sgf_isv_2, sgf_isv_6, sgf_isv_4, sgf_isv_5, sgf_isv_1, sgf_isv_3, gl_MOST_LETTERS, gl_LETTERS, gl_MOST, gl_MOST_PARTS, gl_STAYS, wipeP, List.set_cons_zero, List.set_cons_succ, evSs_nil, List.lookup, Nat.reduceBEq, seq_str, seq_tup, seq_fl, Bool.true_and, Bool.and_true, Bool.false_and, Bool.and_false, beq_self_eq_true, s2.1, List.lookup_nil]
  refine made_sp (e := ⟨true, none, 5, base⟩) ⟨fun i e => (by cases e), ⟨by show (1 : Int) ≤ 5; decide, by show (5 : Int) ≤ 1000000000; decide⟩, hb⟩ fun g3 o4 l3 ho4 => ?_
  have s2' := s2.le l3
  have s1'' := s1'.le l3
  refine put_sp (L := []) (e := ⟨true, none, 5, base⟩) s2' (by simp) (by simp) ?_
  have s4 := s2'.put (k := 4) ho4
  have s5 := s1''.off (c := .dct false (dS ([] ++ [((4, o4, ⟨true, none, 5, base⟩) : Ent)]))) s2'.2.1 (Ne.symm n3)
  generalize pup g3 dd _ = g4 at s4 s5 ⊢
  (try dsimp only); (try simp only [evS, evE, evEs, evO, evB, evBs, evI, List.map_cons, List.map_nil, List.replicate_succ, List.replicate_zero, List.cons_append, List.nil_append, List.getElem?_cons_zero, List.getElem?_cons_succ, List.set_cons_zero, List.set_cons_succ, bv_add, bv_sub, bv_mul, bv_div, bv_mod, bv_pow, bv_str, av_add, av_sub, cv_lt, cv_le, cv_gt, cv_ge, cv_eq, cv_ne, cv_eqS, cv_neS, tv_bl, tv_int, List.length_cons, List.length_nil, pad, setT_nm, setT_tup, setTs_nil, setTs_cons, decide_eq_true_eq, Bool.not_eq_true', Bool.not_true, Bool.not_false, if_true, if_false, Bool.false_eq_true, Bool.true_eq_false, reduceIte, Nat.reduceAdd, Nat.reduceSub, Nat.reduceBEq, pow_10_9, pow_10_20, pow_10_30, cpow_10_9, cpow_10_20, cpow_10_30, divP_lit, mulP_r, mulP_l, lne_line, lt_line, isi_int, isi_bool, Int.reduceLT, Int.reduceLE, Int.reduceGT, Int.reduceGE, Int.reduceNeg, Int.reduceMul, Int.reduceAdd, Int.reduceSub, Nat.reduceLeDiff, Nat.reduceLT, true_and, and_true, decide_true, decide_false, sgf_pad_22_5, sgf_pad_22_6, sgf_pad_22_7, sgf_pad_22_8, sgf_pad_22_9, sgf_me_8_22, sgf_me_8_23, sgf_me_8_0, sgf_me_8_24, sgf_me_8_4, sgf_me_9_22, sgf_me_9_23, sgf_me_9_0, sgf_me_9_24, sgf_me_9_4, sgf_me_10_6, sgf_me_10_21, sgf_me_10_2, sgf_me_10_20, sgf_me_10_19, sgf_me_10_18, sgf_ini_10, sgf_ini_11, sgf_in0_8, sgf_in0_9, sgf_fl_10_1, sgf_fl_11_12, sgf_fl_11_3, sgf_fl_11_13, sgf_fl_11_14, sgf_fl_11_15, sgf_fl_11_16, sgf_fl_11_17, sgf_fl_11_5, sgf_exc_2, sgf_exc_6, sgf_exc_4, sgf_exc_5, sgf_exc_1, sgf_exc_3, sgf_exm_2_0, sgf_exm_6_0, sgf_exm_4_0, sgf_exm_5_0, sgf_exm_1_0, sgf_exm_3_0, sgf_isa_2_6, sgf_isa_6_6, sgf_isa_4_6, sgf_isa_5_6, sgf_isa_1_6, sgf_isa_3_6, sgf_isz_6, sgf_isv_2, sgf_isv_6, sgf_isv_4, sgf_isv_5, sgf_isv_1, sgf_isv_3, gl_MOST_LETTERS, gl_LETTERS, gl_MOST, gl_MOST_PARTS, gl_STAYS, wipeP, List.set_cons_zero, List.set_cons_succ, evSs_nil, List.lookup, Nat.reduceBEq, seq_str, seq_tup, seq_fl, Bool.true_and, Bool.and_true, Bool.false_and, Bool.and_false, beq_self_eq_true]); rw [evSs_cons]; simp only [evS, evE, evEs, evO, evB, evBs, evI, List.map_cons, List.map_nil, List.replicate_succ, List.replicate_zero, List.cons_append, List.nil_append, List.getElem?_cons_zero, List.getElem?_cons_succ, List.set_cons_zero, List.set_cons_succ, bv_add, bv_sub, bv_mul, bv_div, bv_mod, bv_pow, bv_str, av_add, av_sub, cv_lt, cv_le, cv_gt, cv_ge, cv_eq, cv_ne, cv_eqS, cv_neS, tv_bl, tv_int, List.length_cons, List.length_nil, pad, setT_nm, setT_tup, setTs_nil, setTs_cons, decide_eq_true_eq, Bool.not_eq_true', Bool.not_true, Bool.not_false, if_true, if_false, Bool.false_eq_true, Bool.true_eq_false, reduceIte, Nat.reduceAdd, Nat.reduceSub, Nat.reduceBEq, pow_10_9, pow_10_20, pow_10_30, cpow_10_9, cpow_10_20, cpow_10_30, divP_lit, mulP_r, mulP_l, lne_line, lt_line, isi_int, isi_bool, Int.reduceLT, Int.reduceLE, Int.reduceGT, Int.reduceGE, Int.reduceNeg, Int.reduceMul, Int.reduceAdd, Int.reduceSub, Nat.reduceLeDiff, Nat.reduceLT, true_and, and_true, decide_true, decide_false, sgf_pad_22_5, sgf_pad_22_6, sgf_pad_22_7, sgf_pad_22_8, sgf_pad_22_9, sgf_me_8_22, sgf_me_8_23, sgf_me_8_0, sgf_me_8_24, sgf_me_8_4, sgf_me_9_22, sgf_me_9_23, sgf_me_9_0, sgf_me_9_24, sgf_me_9_4, sgf_me_10_6, sgf_me_10_21, sgf_me_10_2, sgf_me_10_20, sgf_me_10_19, sgf_me_10_18, sgf_ini_10, sgf_ini_11, sgf_in0_8, sgf_in0_9, sgf_fl_10_1, sgf_fl_11_12, sgf_fl_11_3, sgf_fl_11_13, sgf_fl_11_14, sgf_fl_11_15, sgf_fl_11_16, sgf_fl_11_17, sgf_fl_11_5, sgf_exc_2, sgf_exc_6, sgf_exc_4, sgf_exc_5, sgf_exc_1, sgf_exc_3, sgf_exm_2_0, sgf_exm_6_0, sgf_exm_4_0, sgf_exm_5_0, sgf_exm_1_0, sgf_exm_3_0, sgf_isa_2_6, sgf_isa_6_6, sgf_isa_4_6, sgf_isa_5_6, sgf_isa_1_6, sgf_isa_3_6, sgf_isz_6, sgf_isv_2, sgf_isv_6, sgf_isv_4, sgf_isv_5, sgf_isv_1, sgf_isv_3, gl_MOST_LETTERS, gl_LETTERS, gl_MOST, gl_MOST_PARTS, gl_STAYS, wipeP, List.set_cons_zero, List.set_cons_succ, evSs_nil, List.lookup, Nat.reduceBEq, seq_str, seq_tup, seq_fl, Bool.true_and, Bool.and_true, Bool.false_and, Bool.and_false, beq_self_eq_true]
  intro r nr
  have I0 : Iv (pup g4 r (.dct false [])) sl d so dd r base o4 [] := by
    have u := PLe.new (c := .dct false []) nr
    exact ⟨s5.le u, pup_same, s4.le u, .nil, fun k hk => (by cases hk), ne_new nr s5.2.1, ne_new nr s4.2.1, n3⟩
  generalize pup g4 r _ = g5 at I0 ⊢
  (try dsimp only); (try simp only [evS, evE, evEs, evO, evB, evBs, evI, List.map_cons, List.map_nil, List.replicate_succ, List.replicate_zero, List.cons_append, List.nil_append, List.getElem?_cons_zero, List.getElem?_cons_succ, List.set_cons_zero, List.set_cons_succ, bv_add, bv_sub, bv_mul, bv_div, bv_mod, bv_pow, bv_str, av_add, av_sub, cv_lt, cv_le, cv_gt, cv_ge, cv_eq, cv_ne, cv_eqS, cv_neS, tv_bl, tv_int, List.length_cons, List.length_nil, pad, setT_nm, setT_tup, setTs_nil, setTs_cons, decide_eq_true_eq, Bool.not_eq_true', Bool.not_true, Bool.not_false, if_true, if_false, Bool.false_eq_true, Bool.true_eq_false, reduceIte, Nat.reduceAdd, Nat.reduceSub, Nat.reduceBEq, pow_10_9, pow_10_20, pow_10_30, cpow_10_9, cpow_10_20, cpow_10_30, divP_lit, mulP_r, mulP_l, lne_line, lt_line, isi_int, isi_bool, Int.reduceLT, Int.reduceLE, Int.reduceGT, Int.reduceGE, Int.reduceNeg, Int.reduceMul, Int.reduceAdd, Int.reduceSub, Nat.reduceLeDiff, Nat.reduceLT, true_and, and_true, decide_true, decide_false, sgf_pad_22_5, sgf_pad_22_6, sgf_pad_22_7, sgf_pad_22_8, sgf_pad_22_9, sgf_me_8_22, sgf_me_8_23, sgf_me_8_0, sgf_me_8_24, sgf_me_8_4, sgf_me_9_22, sgf_me_9_23, sgf_me_9_0, sgf_me_9_24, sgf_me_9_4, sgf_me_10_6, sgf_me_10_21, sgf_me_10_2, sgf_me_10_20, sgf_me_10_19, sgf_me_10_18, sgf_ini_10, sgf_ini_11, sgf_in0_8, sgf_in0_9, sgf_fl_10_1, sgf_fl_11_12, sgf_fl_11_3, sgf_fl_11_13, sgf_fl_11_14, sgf_fl_11_15, sgf_fl_11_16, sgf_fl_11_17, sgf_fl_11_5, sgf_exc_2, sgf_exc_6, sgf_exc_4, sgf_exc_5, sgf_exc_1, sgf_exc_3, sgf_exm_2_0, sgf_exm_6_0, sgf_exm_4_0, sgf_exm_5_0, sgf_exm_1_0, sgf_exm_3_0, sgf_isa_2_6, sgf_isa_6_6, sgf_isa_4_6, sgf_isa_5_6, sgf_isa_1_6, sgf_isa_3_6, sgf_isz_6, sgf_isv_2, sgf_isv_6, sgf_isv_4, sgf_isv_5, sgf_isv_1, sgf_isv_3, gl_MOST_LETTERS, gl_LETTERS, gl_MOST, gl_MOST_PARTS, gl_STAYS, wipeP, List.set_cons_zero, List.set_cons_succ, evSs_nil, List.lookup, Nat.reduceBEq, seq_str, seq_tup, seq_fl, Bool.true_and, Bool.and_true, Bool.false_and, Bool.and_false, beq_self_eq_true]); rw [evSs_cons]; simp only [evS, evE, evEs, evO, evB, evBs, evI, List.map_cons, List.map_nil, List.replicate_succ, List.replicate_zero, List.cons_append, List.nil_append, List.getElem?_cons_zero, List.getElem?_cons_succ, List.set_cons_zero, List.set_cons_succ, bv_add, bv_sub, bv_mul, bv_div, bv_mod, bv_pow, bv_str, av_add, av_sub, cv_lt, cv_le, cv_gt, cv_ge, cv_eq, cv_ne, cv_eqS, cv_neS, tv_bl, tv_int, List.length_cons, List.length_nil, pad, setT_nm, setT_tup, setTs_nil, setTs_cons, decide_eq_true_eq, Bool.not_eq_true', Bool.not_true, Bool.not_false, if_true, if_false, Bool.false_eq_true, Bool.true_eq_false, reduceIte, Nat.reduceAdd, Nat.reduceSub, Nat.reduceBEq, pow_10_9, pow_10_20, pow_10_30, cpow_10_9, cpow_10_20, cpow_10_30, divP_lit, mulP_r, mulP_l, lne_line, lt_line, isi_int, isi_bool, Int.reduceLT, Int.reduceLE, Int.reduceGT, Int.reduceGE, Int.reduceNeg, Int.reduceMul, Int.reduceAdd, Int.reduceSub, Nat.reduceLeDiff, Nat.reduceLT, true_and, and_true, decide_true, decide_false, sgf_pad_22_5, sgf_pad_22_6, sgf_pad_22_7, sgf_pad_22_8, sgf_pad_22_9, sgf_me_8_22, sgf_me_8_23, sgf_me_8_0, sgf_me_8_24, sgf_me_8_4, sgf_me_9_22, sgf_me_9_23, sgf_me_9_0, sgf_me_9_24, sgf_me_9_4, sgf_me_10_6, sgf_me_10_21, sgf_me_10_2, sgf_me_10_20, sgf_me_10_19, sgf_me_10_18, sgf_ini_10, sgf_ini_11, sgf_in0_8, sgf_in0_9, sgf_fl_10_1, sgf_fl_11_12, sgf_fl_11_3, sgf_fl_11_13, sgf_fl_11_14, sgf_fl_11_15, sgf_fl_11_16, sgf_fl_11_17, sgf_fl_11_5, sgf_exc_2, sgf_exc_6, sgf_exc_4, sgf_exc_5, sgf_exc_1, sgf_exc_3, sgf_exm_2_0, sgf_exm_6_0, sgf_exm_4_0, sgf_exm_5_0, sgf_exm_1_0, sgf_exm_3_0, sgf_isa_2_6, sgf_isa_6_6, sgf_isa_4_6, sgf_isa_5_6, sgf_isa_1_6, sgf_isa_3_6, sgf_isz_6, sgf_isv_2, sgf_isv_6, sgf_isv_4, sgf_isv_5, sgf_isv_1, sgf_isv_3, gl_MOST_LETTERS, gl_LETTERS, gl_MOST, gl_MOST_PARTS, gl_STAYS, wipeP, List.set_cons_zero, List.set_cons_succ, evSs_nil, List.lookup, Nat.reduceBEq, seq_str, seq_tup, seq_fl, Bool.true_and, Bool.and_true, Bool.false_and, Bool.and_false, beq_self_eq_true, bltV, lenV, List.length_map]
  obtain ⟨j, ej, hj, hj2⟩ : ∃ j : Nat, (if (ns.length : Int) < 49 then (ns.length : Int) else 49) = (j : Int) ∧ j < 50 ∧ j ≤ ns.length := by
    split
    · exact ⟨ns.length, rfl, by omega, Nat.le_refl _⟩
    · exact ⟨49, rfl, by omega, by omega⟩
  rw [ej]
  refine ⟨j / 2, rg j hj, ?_⟩
  refine forGo_list (f := fun i : Nat => PV.int ((1 : Int) + (i : Nat) * 2)) (as := List.range (j / 2)) (fun done env g => ∃ L, Iv g sl d so dd r base o4 L ∧ L.length ≤ done.length ∧ ∃ x5 x6 x7 x8 x9, env = [some (.fl (ns.map .int)), some (.int base), some (.loc sl), some (.loc so), some (.loc r), x5, x6, x7, x8, x9])
    (fun done w rest env g K e I nx => ?_) (fun env g I => ?_) ⟨[], I0, by simp, none, none, none, none, none, rfl⟩
  · obtain ⟨L, I, hL, x5, x6, x7, x8, x9, rfl⟩ := I
    refine ⟨trivial, ?_⟩
    have hw : w < j / 2 := List.mem_range.mp (by rw [e]; simp)
    have hd : done.length < j / 2 := by
      have := congrArg List.length e
      rw [List.length_range, List.length_append, List.length_cons] at this
      omega
    have hl : L.length < 63 := by omega
    have nx' : ∀ L' env' g', Iv g' sl d so dd r base o4 L' → L'.length ≤ done.length + 1 → (∃ x5 x6 x7 x8 x9, env' = [some (.fl (ns.map .int)), some (.int base), some (.loc sl), some (.loc so), some (.loc r), x5, x6, x7, x8, x9]) → K env' g' := fun L' env' g' i l x => nx _ _ ⟨L', i, by rw [List.length_append]; exact l, x⟩
    simp only [evS, evE, evEs, evO, evB, evBs, evI, List.map_cons, List.map_nil, List.replicate_succ, List.replicate_zero, List.cons_append, List.nil_append, List.getElem?_cons_zero, List.getElem?_cons_succ, List.set_cons_zero, List.set_cons_succ, bv_add, bv_sub, bv_mul, bv_div, bv_mod, bv_pow, bv_str, av_add, av_sub, cv_lt, cv_le, cv_gt, cv_ge, cv_eq, cv_ne, cv_eqS, cv_neS, tv_bl, tv_int, List.length_cons, List.length_nil, pad, setT_nm, setT_tup, setTs_nil, setTs_cons, decide_eq_true_eq, Bool.not_eq_true', Bool.not_true, Bool.not_false, if_true, if_false, Bool.false_eq_true, Bool.true_eq_false, reduceIte, Nat.reduceAdd, Nat.reduceSub, Nat.reduceBEq, pow_10_9, pow_10_20, pow_10_30, cpow_10_9, cpow_10_20, cpow_10_30, divP_lit, mulP_r, mulP_l, lne_line, lt_line, isi_int, isi_bool, Int.reduceLT, Int.reduceLE, Int.reduceGT, Int.reduceGE, Int.reduceNeg, Int.reduceMul, Int.reduceAdd, Int.reduceSub, Nat.reduceLeDiff, Nat.reduceLT, true_and, and_true, decide_true, decide_false, sgf_pad_22_5, sgf_pad_22_6, sgf_pad_22_7, sgf_pad_22_8, sgf_pad_22_9, sgf_me_8_22, sgf_me_8_23, sgf_me_8_0, sgf_me_8_24, sgf_me_8_4, sgf_me_9_22, sgf_me_9_23, sgf_me_9_0, sgf_me_9_24, sgf_me_9_4, sgf_me_10_6, sgf_me_10_21, sgf_me_10_2, sgf_me_10_20, sgf_me_10_19, sgf_me_10_18, sgf_ini_10, sgf_ini_11, sgf_in0_8, sgf_in0_9, sgf_fl_10_1, sgf_fl_11_12, sgf_fl_11_3, sgf_fl_11_13, sgf_fl_11_14, sgf_fl_11_15, sgf_fl_11_16, sgf_fl_11_17, sgf_fl_11_5, sgf_exc_2, sgf_exc_6, sgf_exc_4, sgf_exc_5, sgf_exc_1, sgf_exc_3, sgf_exm_2_0, sgf_exm_6_0, sgf_exm_4_0, sgf_exm_5_0, sgf_exm_1_0, sgf_exm_3_0, sgf_isa_2_6, sgf_isa_6_6, sgf_isa_4_6, sgf_isa_5_6, sgf_isa_1_6, sgf_isa_3_6, sgf_isz_6, sgf_isv_2, sgf_isv_6, sgf_isv_4, sgf_isv_5, sgf_isv_1, sgf_isv_3, gl_MOST_LETTERS, gl_LETTERS, gl_MOST, gl_MOST_PARTS, gl_STAYS, wipeP, List.set_cons_zero, List.set_cons_succ, evSs_nil, List.lookup, Nat.reduceBEq, seq_str, seq_tup, seq_fl, Bool.true_and, Bool.and_true, Bool.false_and, Bool.and_false, beq_self_eq_true]
    obtain ⟨cv, hc, ec⟩ := at_map (f := PV.int) (xs := ns) (i := (1 : Int) + (w : Nat) * 2) (by omega) (by omega)
    have sf : ∀ {R : QE}, subV (.fl (ns.map .int)) (.int ((1 : Int) + (w : Nat) * 2)) g R = R (.int cv) g := sv_fl ec
    (try dsimp only); (try simp only [evS, evE, evEs, evO, evB, evBs, evI, List.map_cons, List.map_nil, List.replicate_succ, List.replicate_zero, List.cons_append, List.nil_append, List.getElem?_cons_zero, List.getElem?_cons_succ, List.set_cons_zero, List.set_cons_succ, bv_add, bv_sub, bv_mul, bv_div, bv_mod, bv_pow, bv_str, av_add, av_sub, cv_lt, cv_le, cv_gt, cv_ge, cv_eq, cv_ne, cv_eqS, cv_neS, tv_bl, tv_int, List.length_cons, List.length_nil, pad, setT_nm, setT_tup, setTs_nil, setTs_cons, decide_eq_true_eq, Bool.not_eq_true', Bool.not_true, Bool.not_false, if_true, if_false, Bool.false_eq_true, Bool.true_eq_false, reduceIte, Nat.reduceAdd, Nat.reduceSub, Nat.reduceBEq, pow_10_9, pow_10_20, pow_10_30, cpow_10_9, cpow_10_20, cpow_10_30, divP_lit, mulP_r, mulP_l, lne_line, lt_line, isi_int, isi_bool, Int.reduceLT, Int.reduceLE, Int.reduceGT, Int.reduceGE, Int.reduceNeg, Int.reduceMul, Int.reduceAdd, Int.reduceSub, Nat.reduceLeDiff, Nat.reduceLT, true_and, and_true, decide_true, decide_false, sgf_pad_22_5, sgf_pad_22_6, sgf_pad_22_7, sgf_pad_22_8, sgf_pad_22_9, sgf_me_8_22, sgf_me_8_23, sgf_me_8_0, sgf_me_8_24, sgf_me_8_4, sgf_me_9_22, sgf_me_9_23, sgf_me_9_0, sgf_me_9_24, sgf_me_9_4, sgf_me_10_6, sgf_me_10_21, sgf_me_10_2, sgf_me_10_20, sgf_me_10_19, sgf_me_10_18, sgf_ini_10, sgf_ini_11, sgf_in0_8, sgf_in0_9, sgf_fl_10_1, sgf_fl_11_12, sgf_fl_11_3, sgf_fl_11_13, sgf_fl_11_14, sgf_fl_11_15, sgf_fl_11_16, sgf_fl_11_17, sgf_fl_11_5, sgf_exc_2, sgf_exc_6, sgf_exc_4, sgf_exc_5, sgf_exc_1, sgf_exc_3, sgf_exm_2_0, sgf_exm_6_0, sgf_exm_4_0, sgf_exm_5_0, sgf_exm_1_0, sgf_exm_3_0, sgf_isa_2_6, sgf_isa_6_6, sgf_isa_4_6, sgf_isa_5_6, sgf_isa_1_6, sgf_isa_3_6, sgf_isz_6, sgf_isv_2, sgf_isv_6, sgf_isv_4, sgf_isv_5, sgf_isv_1, sgf_isv_3, gl_MOST_LETTERS, gl_LETTERS, gl_MOST, gl_MOST_PARTS, gl_STAYS, wipeP, List.set_cons_zero, List.set_cons_succ, evSs_nil, List.lookup, Nat.reduceBEq, seq_str, seq_tup, seq_fl, Bool.true_and, Bool.and_true, Bool.false_and, Bool.and_false, beq_self_eq_true]); rw [evSs_cons]; simp only [evS, evE, evEs, evO, evB, evBs, evI, List.map_cons, List.map_nil, List.replicate_succ, List.replicate_zero, List.cons_append, List.nil_append, List.getElem?_cons_zero, List.getElem?_cons_succ, List.set_cons_zero, List.set_cons_succ, bv_add, bv_sub, bv_mul, bv_div, bv_mod, bv_pow, bv_str, av_add, av_sub, cv_lt, cv_le, cv_gt, cv_ge, cv_eq, cv_ne, cv_eqS, cv_neS, tv_bl, tv_int, List.length_cons, List.length_nil, pad, setT_nm, setT_tup, setTs_nil, setTs_cons, decide_eq_true_eq, Bool.not_eq_true', Bool.not_true, Bool.not_false, if_true, if_false, Bool.false_eq_true, Bool.true_eq_false, reduceIte, Nat.reduceAdd, Nat.reduceSub, Nat.reduceBEq, pow_10_9, pow_10_20, pow_10_30, cpow_10_9, cpow_10_20, cpow_10_30, divP_lit, mulP_r, mulP_l, lne_line, lt_line, isi_int, isi_bool, Int.reduceLT, Int.reduceLE, Int.reduceGT, Int.reduceGE, Int.reduceNeg, Int.reduceMul, Int.reduceAdd, Int.reduceSub, Nat.reduceLeDiff, Nat.reduceLT, true_and, and_true, decide_true, decide_false, sgf_pad_22_5, sgf_pad_22_6, sgf_pad_22_7, sgf_pad_22_8, sgf_pad_22_9, sgf_me_8_22, sgf_me_8_23, sgf_me_8_0, sgf_me_8_24, sgf_me_8_4, sgf_me_9_22, sgf_me_9_23, sgf_me_9_0, sgf_me_9_24, sgf_me_9_4, sgf_me_10_6, sgf_me_10_21, sgf_me_10_2, sgf_me_10_20, sgf_me_10_19, sgf_me_10_18, sgf_ini_10, sgf_ini_11, sgf_in0_8, sgf_in0_9, sgf_fl_10_1, sgf_fl_11_12, sgf_fl_11_3, sgf_fl_11_13, sgf_fl_11_14, sgf_fl_11_15, sgf_fl_11_16, sgf_fl_11_17, sgf_fl_11_5, sgf_exc_2, sgf_exc_6, sgf_exc_4, sgf_exc_5, sgf_exc_1, sgf_exc_3, sgf_exm_2_0, sgf_exm_6_0, sgf_exm_4_0, sgf_exm_5_0, sgf_exm_1_0, sgf_exm_3_0, sgf_isa_2_6, sgf_isa_6_6, sgf_isa_4_6, sgf_isa_5_6, sgf_isa_1_6, sgf_isa_3_6, sgf_isz_6, sgf_isv_2, sgf_isv_6, sgf_isv_4, sgf_isv_5, sgf_isv_1, sgf_isv_3, gl_MOST_LETTERS, gl_LETTERS, gl_MOST, gl_MOST_PARTS, gl_STAYS, wipeP, List.set_cons_zero, List.set_cons_succ, evSs_nil, List.lookup, Nat.reduceBEq, seq_str, seq_tup, seq_fl, Bool.true_and, Bool.and_true, Bool.false_and, Bool.and_false, beq_self_eq_true, sf]
    refine mixed_sp (by omega) (by omega) ?_
    (try dsimp only); (try simp only [evS, evE, evEs, evO, evB, evBs, evI, List.map_cons, List.map_nil, List.replicate_succ, List.replicate_zero, List.cons_append, List.nil_append, List.getElem?_cons_zero, List.getElem?_cons_succ, List.set_cons_zero, List.set_cons_succ, bv_add, bv_sub, bv_mul, bv_div, bv_mod, bv_pow, bv_str, av_add, av_sub, cv_lt, cv_le, cv_gt, cv_ge, cv_eq, cv_ne, cv_eqS, cv_neS, tv_bl, tv_int, List.length_cons, List.length_nil, pad, setT_nm, setT_tup, setTs_nil, setTs_cons, decide_eq_true_eq, Bool.not_eq_true', Bool.not_true, Bool.not_false, if_true, if_false, Bool.false_eq_true, Bool.true_eq_false, reduceIte, Nat.reduceAdd, Nat.reduceSub, Nat.reduceBEq, pow_10_9, pow_10_20, pow_10_30, cpow_10_9, cpow_10_20, cpow_10_30, divP_lit, mulP_r, mulP_l, lne_line, lt_line, isi_int, isi_bool, Int.reduceLT, Int.reduceLE, Int.reduceGT, Int.reduceGE, Int.reduceNeg, Int.reduceMul, Int.reduceAdd, Int.reduceSub, Nat.reduceLeDiff, Nat.reduceLT, true_and, and_true, decide_true, decide_false, sgf_pad_22_5, sgf_pad_22_6, sgf_pad_22_7, sgf_pad_22_8, sgf_pad_22_9, sgf_me_8_22, sgf_me_8_23, sgf_me_8_0, sgf_me_8_24, sgf_me_8_4, sgf_me_9_22, sgf_me_9_23, sgf_me_9_0, sgf_me_9_24, sgf_me_9_4, sgf_me_10_6, sgf_me_10_21, sgf_me_10_2, sgf_me_10_20, sgf_me_10_19, sgf_me_10_18, sgf_ini_10, sgf_ini_11, sgf_in0_8, sgf_in0_9, sgf_fl_10_1, sgf_fl_11_12, sgf_fl_11_3, sgf_fl_11_13, sgf_fl_11_14, sgf_fl_11_15, sgf_fl_11_16, sgf_fl_11_17, sgf_fl_11_5, sgf_exc_2, sgf_exc_6, sgf_exc_4, sgf_exc_5, sgf_exc_1, sgf_exc_3, sgf_exm_2_0, sgf_exm_6_0, sgf_exm_4_0, sgf_exm_5_0, sgf_exm_1_0, sgf_exm_3_0, sgf_isa_2_6, sgf_isa_6_6, sgf_isa_4_6, sgf_isa_5_6, sgf_isa_1_6, sgf_isa_3_6, sgf_isz_6, sgf_isv_2, sgf_isv_6, sgf_isv_4, sgf_isv_5, sgf_isv_1, sgf_isv_3, gl_MOST_LETTERS, gl_LETTERS, gl_MOST, gl_MOST_PARTS, gl_STAYS, wipeP, List.set_cons_zero, List.set_cons_succ, evSs_nil, List.lookup, Nat.reduceBEq, seq_str, seq_tup, seq_fl, Bool.true_and, Bool.and_true, Bool.false_and, Bool.and_false, beq_self_eq_true]); rw [evSs_cons]; simp only [evS, evE, evEs, evO, evB, evBs, evI, List.map_cons, List.map_nil, List.replicate_succ, List.replicate_zero, List.cons_append, List.nil_append, List.getElem?_cons_zero, List.getElem?_cons_succ, List.set_cons_zero, List.set_cons_succ, bv_add, bv_sub, bv_mul, bv_div, bv_mod, bv_pow, bv_str, av_add, av_sub, cv_lt, cv_le, cv_gt, cv_ge, cv_eq, cv_ne, cv_eqS, cv_neS, tv_bl, tv_int, List.length_cons, List.length_nil, pad, setT_nm, setT_tup, setTs_nil, setTs_cons, decide_eq_true_eq, Bool.not_eq_true', Bool.not_true, Bool.not_false, if_true, if_false, Bool.false_eq_true, Bool.true_eq_false, reduceIte, Nat.reduceAdd, Nat.reduceSub, Nat.reduceBEq, pow_10_9, pow_10_20, pow_10_30, cpow_10_9, cpow_10_20, cpow_10_30, divP_lit, mulP_r, mulP_l, lne_line, lt_line, isi_int, isi_bool, Int.reduceLT, Int.reduceLE, Int.reduceGT, Int.reduceGE, Int.reduceNeg, Int.reduceMul, Int.reduceAdd, Int.reduceSub, Nat.reduceLeDiff, Nat.reduceLT, true_and, and_true, decide_true, decide_false, sgf_pad_22_5, sgf_pad_22_6, sgf_pad_22_7, sgf_pad_22_8, sgf_pad_22_9, sgf_me_8_22, sgf_me_8_23, sgf_me_8_0, sgf_me_8_24, sgf_me_8_4, sgf_me_9_22, sgf_me_9_23, sgf_me_9_0, sgf_me_9_24, sgf_me_9_4, sgf_me_10_6, sgf_me_10_21, sgf_me_10_2, sgf_me_10_20, sgf_me_10_19, sgf_me_10_18, sgf_ini_10, sgf_ini_11, sgf_in0_8, sgf_in0_9, sgf_fl_10_1, sgf_fl_11_12, sgf_fl_11_3, sgf_fl_11_13, sgf_fl_11_14, sgf_fl_11_15, sgf_fl_11_16, sgf_fl_11_17, sgf_fl_11_5, sgf_exc_2, sgf_exc_6, sgf_exc_4, sgf_exc_5, sgf_exc_1, sgf_exc_3, sgf_exm_2_0, sgf_exm_6_0, sgf_exm_4_0, sgf_exm_5_0, sgf_exm_1_0, sgf_exm_3_0, sgf_isa_2_6, sgf_isa_6_6, sgf_isa_4_6, sgf_isa_5_6, sgf_isa_1_6, sgf_isa_3_6, sgf_isz_6, sgf_isv_2, sgf_isv_6, sgf_isv_4, sgf_isv_5, sgf_isv_1, sgf_isv_3, gl_MOST_LETTERS, gl_LETTERS, gl_MOST, gl_MOST_PARTS, gl_STAYS, wipeP, List.set_cons_zero, List.set_cons_succ, evSs_nil, List.lookup, Nat.reduceBEq, seq_str, seq_tup, seq_fl, Bool.true_and, Bool.and_true, Bool.false_and, Bool.and_false, beq_self_eq_true]
    refine cellk_sp (by omega) fun v2 => ?_
    refine mixed_sp (by omega) (by omega) ?_
    have C0 := mix_lo cv ((1 : Int) + (w : Nat) * 2)
    have M0 := mix_lo v2 ((1 : Int) + (w : Nat) * 2 + 1)
    generalize mix cv ((1 : Int) + (w : Nat) * 2) = cell at C0 ⊢
    generalize mix v2 ((1 : Int) + (w : Nat) * 2 + 1) = more at M0 ⊢
    have tl : ∀ {D : PD} {L' x8 x9 g'}, (∀ env h, D.nx env h = K env h) → Iv g' sl d so dd r base o4 L' → L'.length ≤ done.length + 1 → evSs sg (sem sg 7) restT [some (.fl (ns.map .int)), some (.int base), some (.loc sl), some (.loc so), some (.loc r), some (.int ((1 : Int) + (w : Nat) * 2)), some (.int cell), some (.int more), x8, x9] g' D := by
      intro D L' x8 x9 g' hD i hl'
      refine tail_sp i (by omega) fun g2 l2 => ?_
      rw [hD]
      exact nx' L' _ _ (i.le l2) hl' ⟨_, _, _, _, _, rfl⟩
    (try dsimp only); (try simp only [evS, evE, evEs, evO, evB, evBs, evI, List.map_cons, List.map_nil, List.replicate_succ, List.replicate_zero, List.cons_append, List.nil_append, List.getElem?_cons_zero, List.getElem?_cons_succ, List.set_cons_zero, List.set_cons_succ, bv_add, bv_sub, bv_mul, bv_div, bv_mod, bv_pow, bv_str, av_add, av_sub, cv_lt, cv_le, cv_gt, cv_ge, cv_eq, cv_ne, cv_eqS, cv_neS, tv_bl, tv_int, List.length_cons, List.length_nil, pad, setT_nm, setT_tup, setTs_nil, setTs_cons, decide_eq_true_eq, Bool.not_eq_true', Bool.not_true, Bool.not_false, if_true, if_false, Bool.false_eq_true, Bool.true_eq_false, reduceIte, Nat.reduceAdd, Nat.reduceSub, Nat.reduceBEq, pow_10_9, pow_10_20, pow_10_30, cpow_10_9, cpow_10_20, cpow_10_30, divP_lit, mulP_r, mulP_l, lne_line, lt_line, isi_int, isi_bool, Int.reduceLT, Int.reduceLE, Int.reduceGT, Int.reduceGE, Int.reduceNeg, Int.reduceMul, Int.reduceAdd, Int.reduceSub, Nat.reduceLeDiff, Nat.reduceLT, true_and, and_true, decide_true, decide_false, sgf_pad_22_5, sgf_pad_22_6, sgf_pad_22_7, sgf_pad_22_8, sgf_pad_22_9, sgf_me_8_22, sgf_me_8_23, sgf_me_8_0, sgf_me_8_24, sgf_me_8_4, sgf_me_9_22, sgf_me_9_23, sgf_me_9_0, sgf_me_9_24, sgf_me_9_4, sgf_me_10_6, sgf_me_10_21, sgf_me_10_2, sgf_me_10_20, sgf_me_10_19, sgf_me_10_18, sgf_ini_10, sgf_ini_11, sgf_in0_8, sgf_in0_9, sgf_fl_10_1, sgf_fl_11_12, sgf_fl_11_3, sgf_fl_11_13, sgf_fl_11_14, sgf_fl_11_15, sgf_fl_11_16, sgf_fl_11_17, sgf_fl_11_5, sgf_exc_2, sgf_exc_6, sgf_exc_4, sgf_exc_5, sgf_exc_1, sgf_exc_3, sgf_exm_2_0, sgf_exm_6_0, sgf_exm_4_0, sgf_exm_5_0, sgf_exm_1_0, sgf_exm_3_0, sgf_isa_2_6, sgf_isa_6_6, sgf_isa_4_6, sgf_isa_5_6, sgf_isa_1_6, sgf_isa_3_6, sgf_isz_6, sgf_isv_2, sgf_isv_6, sgf_isv_4, sgf_isv_5, sgf_isv_1, sgf_isv_3, gl_MOST_LETTERS, gl_LETTERS, gl_MOST, gl_MOST_PARTS, gl_STAYS, wipeP, List.set_cons_zero, List.set_cons_succ, evSs_nil, List.lookup, Nat.reduceBEq, seq_str, seq_tup, seq_fl, Bool.true_and, Bool.and_true, Bool.false_and, Bool.and_false, beq_self_eq_true]); rw [evSs_cons]; simp only [evS, evE, evEs, evO, evB, evBs, evI, List.map_cons, List.map_nil, List.replicate_succ, List.replicate_zero, List.cons_append, List.nil_append, List.getElem?_cons_zero, List.getElem?_cons_succ, List.set_cons_zero, List.set_cons_succ, bv_add, bv_sub, bv_mul, bv_div, bv_mod, bv_pow, bv_str, av_add, av_sub, cv_lt, cv_le, cv_gt, cv_ge, cv_eq, cv_ne, cv_eqS, cv_neS, tv_bl, tv_int, List.length_cons, List.length_nil, pad, setT_nm, setT_tup, setTs_nil, setTs_cons, decide_eq_true_eq, Bool.not_eq_true', Bool.not_true, Bool.not_false, if_true, if_false, Bool.false_eq_true, Bool.true_eq_false, reduceIte, Nat.reduceAdd, Nat.reduceSub, Nat.reduceBEq, pow_10_9, pow_10_20, pow_10_30, cpow_10_9, cpow_10_20, cpow_10_30, divP_lit, mulP_r, mulP_l, lne_line, lt_line, isi_int, isi_bool, Int.reduceLT, Int.reduceLE, Int.reduceGT, Int.reduceGE, Int.reduceNeg, Int.reduceMul, Int.reduceAdd, Int.reduceSub, Nat.reduceLeDiff, Nat.reduceLT, true_and, and_true, decide_true, decide_false, sgf_pad_22_5, sgf_pad_22_6, sgf_pad_22_7, sgf_pad_22_8, sgf_pad_22_9, sgf_me_8_22, sgf_me_8_23, sgf_me_8_0, sgf_me_8_24, sgf_me_8_4, sgf_me_9_22, sgf_me_9_23, sgf_me_9_0, sgf_me_9_24, sgf_me_9_4, sgf_me_10_6, sgf_me_10_21, sgf_me_10_2, sgf_me_10_20, sgf_me_10_19, sgf_me_10_18, sgf_ini_10, sgf_ini_11, sgf_in0_8, sgf_in0_9, sgf_fl_10_1, sgf_fl_11_12, sgf_fl_11_3, sgf_fl_11_13, sgf_fl_11_14, sgf_fl_11_15, sgf_fl_11_16, sgf_fl_11_17, sgf_fl_11_5, sgf_exc_2, sgf_exc_6, sgf_exc_4, sgf_exc_5, sgf_exc_1, sgf_exc_3, sgf_exm_2_0, sgf_exm_6_0, sgf_exm_4_0, sgf_exm_5_0, sgf_exm_1_0, sgf_exm_3_0, sgf_isa_2_6, sgf_isa_6_6, sgf_isa_4_6, sgf_isa_5_6, sgf_isa_1_6, sgf_isa_3_6, sgf_isz_6, sgf_isv_2, sgf_isv_6, sgf_isv_4, sgf_isv_5, sgf_isv_1, sgf_isv_3, gl_MOST_LETTERS, gl_LETTERS, gl_MOST, gl_MOST_PARTS, gl_STAYS, wipeP, List.set_cons_zero, List.set_cons_succ, evSs_nil, List.lookup, Nat.reduceBEq, seq_str, seq_tup, seq_fl, Bool.true_and, Bool.and_true, Bool.false_and, Bool.and_false, beq_self_eq_true]
    by_cases z : (cell % 4 == 1) = true
    · rw [if_pos z]
      intro p np
      have u := PLe.new (c := .dct false []) np
      have I1 := I.le u
      rw [cn_loc]
      by_cases hn : 0 < L.length
      · have ek : ∀ {R : Bool → Prop}, eqK (pup g p (.dct false [])) (.loc r) (.loc p) R = R false := by
          intro R
          simp only [eqK, I1.rr, pup_same]
          rw [if_neg (by rw [dR, List.length_map, List.length_nil]; omega)]
        rw [ek]
        simp only [evS, evE, evEs, evO, evB, evBs, evI, List.map_cons, List.map_nil, List.replicate_succ, List.replicate_zero, List.cons_append, List.nil_append, List.getElem?_cons_zero, List.getElem?_cons_succ, List.set_cons_zero, List.set_cons_succ, bv_add, bv_sub, bv_mul, bv_div, bv_mod, bv_pow, bv_str, av_add, av_sub, cv_lt, cv_le, cv_gt, cv_ge, cv_eq, cv_ne, cv_eqS, cv_neS, tv_bl, tv_int, List.length_cons, List.length_nil, pad, setT_nm, setT_tup, setTs_nil, setTs_cons, decide_eq_true_eq, Bool.not_eq_true', Bool.not_true, Bool.not_false, if_true, if_false, Bool.false_eq_true, Bool.true_eq_false, reduceIte, Nat.reduceAdd, Nat.reduceSub, Nat.reduceBEq, pow_10_9, pow_10_20, pow_10_30, cpow_10_9, cpow_10_20, cpow_10_30, divP_lit, mulP_r, mulP_l, lne_line, lt_line, isi_int, isi_bool, Int.reduceLT, Int.reduceLE, Int.reduceGT, Int.reduceGE, Int.reduceNeg, Int.reduceMul, Int.reduceAdd, Int.reduceSub, Nat.reduceLeDiff, Nat.reduceLT, true_and, and_true, decide_true, decide_false, sgf_pad_22_5, sgf_pad_22_6, sgf_pad_22_7, sgf_pad_22_8, sgf_pad_22_9, sgf_me_8_22, sgf_me_8_23, sgf_me_8_0, sgf_me_8_24, sgf_me_8_4, sgf_me_9_22, sgf_me_9_23, sgf_me_9_0, sgf_me_9_24, sgf_me_9_4, sgf_me_10_6, sgf_me_10_21, sgf_me_10_2, sgf_me_10_20, sgf_me_10_19, sgf_me_10_18, sgf_ini_10, sgf_ini_11, sgf_in0_8, sgf_in0_9, sgf_fl_10_1, sgf_fl_11_12, sgf_fl_11_3, sgf_fl_11_13, sgf_fl_11_14, sgf_fl_11_15, sgf_fl_11_16, sgf_fl_11_17, sgf_fl_11_5, sgf_exc_2, sgf_exc_6, sgf_exc_4, sgf_exc_5, sgf_exc_1, sgf_exc_3, sgf_exm_2_0, sgf_exm_6_0, sgf_exm_4_0, sgf_exm_5_0, sgf_exm_1_0, sgf_exm_3_0, sgf_isa_2_6, sgf_isa_6_6, sgf_isa_4_6, sgf_isa_5_6, sgf_isa_1_6, sgf_isa_3_6, sgf_isz_6, sgf_isv_2, sgf_isv_6, sgf_isv_4, sgf_isv_5, sgf_isv_1, sgf_isv_3, gl_MOST_LETTERS, gl_LETTERS, gl_MOST, gl_MOST_PARTS, gl_STAYS, wipeP, List.set_cons_zero, List.set_cons_succ, evSs_nil, List.lookup, Nat.reduceBEq, seq_str, seq_tup, seq_fl, Bool.true_and, Bool.and_true, Bool.false_and, Bool.and_false, beq_self_eq_true]
        refine then_sp M0 I1 hl hn fun g' L' gone i l => ?_
        exact tl (fun _ _ => rfl) i (by omega)
      · obtain rfl : L = [] := List.eq_nil_of_length_eq_zero (by omega)
        have ek : ∀ {R : Bool → Prop}, eqK (pup g p (.dct false [])) (.loc r) (.loc p) R = R true := by
          intro R
          simp only [eqK, I1.rr, pup_same]
          rfl
        rw [ek]
        simp only [evS, evE, evEs, evO, evB, evBs, evI, List.map_cons, List.map_nil, List.replicate_succ, List.replicate_zero, List.cons_append, List.nil_append, List.getElem?_cons_zero, List.getElem?_cons_succ, List.set_cons_zero, List.set_cons_succ, bv_add, bv_sub, bv_mul, bv_div, bv_mod, bv_pow, bv_str, av_add, av_sub, cv_lt, cv_le, cv_gt, cv_ge, cv_eq, cv_ne, cv_eqS, cv_neS, tv_bl, tv_int, List.length_cons, List.length_nil, pad, setT_nm, setT_tup, setTs_nil, setTs_cons, decide_eq_true_eq, Bool.not_eq_true', Bool.not_true, Bool.not_false, if_true, if_false, Bool.false_eq_true, Bool.true_eq_false, reduceIte, Nat.reduceAdd, Nat.reduceSub, Nat.reduceBEq, pow_10_9, pow_10_20, pow_10_30, cpow_10_9, cpow_10_20, cpow_10_30, divP_lit, mulP_r, mulP_l, lne_line, lt_line, isi_int, isi_bool, Int.reduceLT, Int.reduceLE, Int.reduceGT, Int.reduceGE, Int.reduceNeg, Int.reduceMul, Int.reduceAdd, Int.reduceSub, Nat.reduceLeDiff, Nat.reduceLT, true_and, and_true, decide_true, decide_false, sgf_pad_22_5, sgf_pad_22_6, sgf_pad_22_7, sgf_pad_22_8, sgf_pad_22_9, sgf_me_8_22, sgf_me_8_23, sgf_me_8_0, sgf_me_8_24, sgf_me_8_4, sgf_me_9_22, sgf_me_9_23, sgf_me_9_0, sgf_me_9_24, sgf_me_9_4, sgf_me_10_6, sgf_me_10_21, sgf_me_10_2, sgf_me_10_20, sgf_me_10_19, sgf_me_10_18, sgf_ini_10, sgf_ini_11, sgf_in0_8, sgf_in0_9, sgf_fl_10_1, sgf_fl_11_12, sgf_fl_11_3, sgf_fl_11_13, sgf_fl_11_14, sgf_fl_11_15, sgf_fl_11_16, sgf_fl_11_17, sgf_fl_11_5, sgf_exc_2, sgf_exc_6, sgf_exc_4, sgf_exc_5, sgf_exc_1, sgf_exc_3, sgf_exm_2_0, sgf_exm_6_0, sgf_exm_4_0, sgf_exm_5_0, sgf_exm_1_0, sgf_exm_3_0, sgf_isa_2_6, sgf_isa_6_6, sgf_isa_4_6, sgf_isa_5_6, sgf_isa_1_6, sgf_isa_3_6, sgf_isz_6, sgf_isv_2, sgf_isv_6, sgf_isv_4, sgf_isv_5, sgf_isv_1, sgf_isv_3, gl_MOST_LETTERS, gl_LETTERS, gl_MOST, gl_MOST_PARTS, gl_STAYS, wipeP, List.set_cons_zero, List.set_cons_succ, evSs_nil, List.lookup, Nat.reduceBEq, seq_str, seq_tup, seq_fl, Bool.true_and, Bool.and_true, Bool.false_and, Bool.and_false, beq_self_eq_true]
        refine else_sp hb I1 hl fun g' L' num i l => ?_
        exact tl (fun _ _ => rfl) i (by omega)
    · rw [if_neg z]
      refine else_sp hb I hl fun g' L' num i l => ?_
      exact tl (fun _ _ => rfl) i (by omega)
  · obtain ⟨L, I, hL, x5, x6, x7, x8, x9, rfl⟩ := I
    refine ⟨trivial, ?_⟩
    exact final_sp hb I
end
end LK

set_option autoImplicit false
namespace LK
open PySem L2 PySem.Spec Mir
open PyProof.Rows hiding St
theorem all_mk {l : PySem.W.OpenLaw} {w : World} {K : PySem.W.Frag} {h : Heap} {mg : Str → Option Value} {fa f0 f1 f2 f3 f4 f5 f6 f7 f8 f9 f10 f11 f12 f13 f14 f15 f16 f17 f18 f19 f20 f21 f22 f23 f24 f25 f26 f27 f28 f29 f30 f31 f32 C0 C1 C2 C3 C4 C5 C6 C8 C9 C10 C11 : Addr} (X : K.In h) (G : h.Ns mainGlobals mg) (hfa : mg "law" = some (.ref fa))
    {T22 : Addr} {qc22 : Value} {qd22 : Option Addr} {qn22 : Nat} {qs22 : Array (Option Value)} {dt22x1 : Tok} {dt22x2 : Tok} 
    {od0 an0 od1 an1 od2 an2 od3 an3 od4 an4 od5 an5 od6 an6 od7 an7 od8 an8 od9 an9 od10 an10 od11 an11 od12 an12 od13 an13 od14 an14 od15 an15 od16 an16 od17 an17 od18 an18 od19 an19 od20 an20 od21 an21 od22 an22 od23 an23 od24 an24 od25 an25 od26 an26 od27 an27 od28 an28 od29 an29 od30 an30 od31 an31 od32 an32 : Option Addr} {sl0 sl1 sl2 sl3 sl4 sl5 sl6 sl7 sl8 sl9 sl10 sl11 sl12 sl13 sl14 sl15 sl16 sl17 sl18 sl19 sl20 sl21 sl22 sl23 sl24 sl25 sl26 sl27 sl28 sl29 sl30 sl31 sl32 : Array (Option Value)} {oc0 kV0 dc0 pm0 cd0 ct0 oc1 kV1 dc1 pm1 cd1 ct1 oc2 kV2 dc2 pm2 cd2 ct2 oc3 kV3 dc3 pm3 cd3 ct3 oc4 kV4 dc4 pm4 cd4 ct4 oc5 kV5 dc5 pm5 cd5 ct5 oc6 kV6 dc6 pm6 cd6 ct6 oc7 kV7 dc7 pm7 cd7 ct7 oc8 kV8 dc8 pm8 cd8 ct8 oc9 kV9 dc9 pm9 cd9 ct9 oc10 kV10 dc10 pm10 cd10 ct10 oc11 kV11 dc11 pm11 cd11 ct11 oc12 kV12 dc12 pm12 cd12 ct12 oc13 kV13 dc13 pm13 cd13 ct13 oc14 kV14 dc14 pm14 cd14 ct14 oc15 kV15 dc15 pm15 cd15 ct15 oc16 kV16 dc16 pm16 cd16 ct16 oc17 kV17 dc17 pm17 cd17 ct17 oc18 kV18 dc18 pm18 cd18 ct18 oc19 kV19 dc19 pm19 cd19 ct19 oc20 kV20 dc20 pm20 cd20 ct20 oc21 kV21 dc21 pm21 cd21 ct21 oc22 kV22 dc22 pm22 cd22 ct22 oc23 kV23 dc23 pm23 cd23 ct23 oc24 kV24 dc24 pm24 cd24 ct24 oc25 kV25 dc25 pm25 cd25 ct25 oc26 kV26 dc26 pm26 cd26 ct26 oc27 kV27 dc27 pm27 cd27 ct27 oc28 kV28 dc28 pm28 cd28 ct28 oc29 kV29 dc29 pm29 cd29 ct29 oc30 kV30 dc30 pm30 cd30 ct30 oc31 kV31 dc31 pm31 cd31 ct31 oc32 kV32 dc32 pm32 cd32 ct32 : Value}
    (aC0 : PySem.W.nsIn K mainGlobals "PitError" = some (some (.ref C0)))
    (aC1 : PySem.W.nsIn K mainGlobals "BadName" = some (some (.ref C1)))
    (aC2 : PySem.W.nsIn K mainGlobals "BadSide" = some (some (.ref C2)))
    (aC3 : PySem.W.nsIn K mainGlobals "BadPrice" = some (some (.ref C3)))
    (aC4 : PySem.W.nsIn K mainGlobals "BadAmount" = some (some (.ref C4)))
    (aC5 : PySem.W.nsIn K mainGlobals "BadStay" = some (some (.ref C5)))
    (aC6 : PySem.W.nsIn K mainGlobals "NoOrder" = some (some (.ref C6)))
    (aC8 : PySem.W.nsIn K mainGlobals "Buy" = some (some (.ref C8)))
    (aC9 : PySem.W.nsIn K mainGlobals "Sell" = some (some (.ref C9)))
    (aC10 : PySem.W.nsIn K mainGlobals "Sleepers" = some (some (.ref C10)))
    (aC11 : PySem.W.nsIn K mainGlobals "Order" = some (some (.ref C11)))
    (pg8 : PySem.W.plainGet K C8 Str.empty = true)
    (hd8 : PySem.W.hasDictIn K C8 = true)
    (po8 : PySem.W.plainOver K C8 = true)
    (sa8 : PySem.W.findIn K (.ref C8) "__setattr__" = some (some (.builtin "object.__setattr__")))
    (mk8 : PySem.W.makesIn K C8 = true)
    (kc8 : PySem.W.keepIn K (.ref C8) = true)
    (i0x8 : PySem.W.findIn K (.ref C8) "__init__" = some (some (.builtin "object.__init__")))
    (mT8x22 : PySem.W.findIn K (.ref C8) "name" = some (some (.ref f1)))
    (mT8x23 : PySem.W.findIn K (.ref C8) "other" = some (some (.ref f2)))
    (mT8x0 : PySem.W.findIn K (.ref C8) "is_ahead" = some (some (.ref f3)))
    (mT8x24 : PySem.W.findIn K (.ref C8) "takes" = some (some (.ref f4)))
    (mT8x4 : PySem.W.findIn K (.ref C8) "wakes" = some (some (.ref f5)))
    (pg9 : PySem.W.plainGet K C9 Str.empty = true)
    (hd9 : PySem.W.hasDictIn K C9 = true)
    (po9 : PySem.W.plainOver K C9 = true)
    (sa9 : PySem.W.findIn K (.ref C9) "__setattr__" = some (some (.builtin "object.__setattr__")))
    (mk9 : PySem.W.makesIn K C9 = true)
    (kc9 : PySem.W.keepIn K (.ref C9) = true)
    (i0x9 : PySem.W.findIn K (.ref C9) "__init__" = some (some (.builtin "object.__init__")))
    (mT9x22 : PySem.W.findIn K (.ref C9) "name" = some (some (.ref f6)))
    (mT9x23 : PySem.W.findIn K (.ref C9) "other" = some (some (.ref f7)))
    (mT9x0 : PySem.W.findIn K (.ref C9) "is_ahead" = some (some (.ref f8)))
    (mT9x24 : PySem.W.findIn K (.ref C9) "takes" = some (some (.ref f4)))
    (mT9x4 : PySem.W.findIn K (.ref C9) "wakes" = some (some (.ref f5)))
    (pg10 : PySem.W.plainGet K C10 Str.empty = true)
    (hd10 : PySem.W.hasDictIn K C10 = true)
    (po10 : PySem.W.plainOver K C10 = true)
    (sa10 : PySem.W.findIn K (.ref C10) "__setattr__" = some (some (.builtin "object.__setattr__")))
    (mk10 : PySem.W.makesIn K C10 = true)
    (kc10 : PySem.W.keepIn K (.ref C10) = true)
    (nF10x1 : PySem.W.findIn K (.ref C10) "orders" = some none)
    (mT10x6 : PySem.W.findIn K (.ref C10) "need" = some (some (.ref f11)))
    (mT10x21 : PySem.W.findIn K (.ref C10) "put" = some (some (.ref f12)))
    (mT10x2 : PySem.W.findIn K (.ref C10) "numbers" = some (some (.ref f13)))
    (mT10x20 : PySem.W.findIn K (.ref C10) "due" = some (some (.ref f14)))
    (mT10x19 : PySem.W.findIn K (.ref C10) "drop" = some (some (.ref f15)))
    (mT10x18 : PySem.W.findIn K (.ref C10) "order" = some (some (.ref f16)))
    (mI10 : PySem.W.findIn K (.ref C10) "__init__" = some (some (.ref f10)))
    (pg11 : PySem.W.plainGet K C11 Str.empty = true)
    (hd11 : PySem.W.hasDictIn K C11 = true)
    (po11 : PySem.W.plainOver K C11 = true)
    (sa11 : PySem.W.findIn K (.ref C11) "__setattr__" = some (some (.builtin "object.__setattr__")))
    (mk11 : PySem.W.makesIn K C11 = true)
    (kc11 : PySem.W.keepIn K (.ref C11) = true)
    (nF11x12 : PySem.W.findIn K (.ref C11) "member" = some none)
    (nF11x3 : PySem.W.findIn K (.ref C11) "side" = some none)
    (nF11x13 : PySem.W.findIn K (.ref C11) "price" = some none)
    (nF11x14 : PySem.W.findIn K (.ref C11) "amount" = some none)
    (nF11x15 : PySem.W.findIn K (.ref C11) "shown" = some none)
    (nF11x16 : PySem.W.findIn K (.ref C11) "least" = some none)
    (nF11x17 : PySem.W.findIn K (.ref C11) "stay" = some none)
    (nF11x5 : PySem.W.findIn K (.ref C11) "wake" = some none)
    (mI11 : PySem.W.findIn K (.ref C11) "__init__" = some (some (.ref f22)))
    (hn0 : PySem.W.specialIn K (.builtin "object.__class__") "__get__" = some (some (.builtin "getset_descriptor.__get__")))
    (ht0 : PySem.W.takesIn K (.builtin "object.__class__") = some true)
    (xI2 : PySem.W.excIn K C2 [.type "ValueError", .type "Exception", .type "BaseException", .type "object"] "ValueError.__new__" = true)
    (xK2 : PySem.W.keepIn K (.ref C2) = true)
    (xS2 : PySem.W.subIn K (.ref C2) (.type "BaseException") = some true)
    (xT2 : PySem.W.typeIn K (.ref C2) = some (.type "type"))
    (xa2 : PySem.W.findIn K (.ref C2) "__getattribute__" = some (some (.builtin "BaseException.__getattribute__")))
    (xb2 : PySem.W.findIn K (.ref C2) "__getattr__" = some none)
    (xd2 : PySem.W.hasDictIn K C2 = true)
    (xe2 : PySem.W.findIn K (.ref C2) "__class__" = some (some (.builtin "object.__class__")))
    (xm2 : PySem.W.mroIn K C2 (.type "object") = some true)
    (xI6 : PySem.W.excIn K C6 [.type "ValueError", .type "Exception", .type "BaseException", .type "object"] "ValueError.__new__" = true)
    (xK6 : PySem.W.keepIn K (.ref C6) = true)
    (xS6 : PySem.W.subIn K (.ref C6) (.type "BaseException") = some true)
    (xT6 : PySem.W.typeIn K (.ref C6) = some (.type "type"))
    (xa6 : PySem.W.findIn K (.ref C6) "__getattribute__" = some (some (.builtin "BaseException.__getattribute__")))
    (xb6 : PySem.W.findIn K (.ref C6) "__getattr__" = some none)
    (xd6 : PySem.W.hasDictIn K C6 = true)
    (xe6 : PySem.W.findIn K (.ref C6) "__class__" = some (some (.builtin "object.__class__")))
    (xm6 : PySem.W.mroIn K C6 (.type "object") = some true)
    (xI4 : PySem.W.excIn K C4 [.type "ValueError", .type "Exception", .type "BaseException", .type "object"] "ValueError.__new__" = true)
    (xK4 : PySem.W.keepIn K (.ref C4) = true)
    (xS4 : PySem.W.subIn K (.ref C4) (.type "BaseException") = some true)
    (xT4 : PySem.W.typeIn K (.ref C4) = some (.type "type"))
    (xa4 : PySem.W.findIn K (.ref C4) "__getattribute__" = some (some (.builtin "BaseException.__getattribute__")))
    (xb4 : PySem.W.findIn K (.ref C4) "__getattr__" = some none)
    (xd4 : PySem.W.hasDictIn K C4 = true)
    (xe4 : PySem.W.findIn K (.ref C4) "__class__" = some (some (.builtin "object.__class__")))
    (xm4 : PySem.W.mroIn K C4 (.type "object") = some true)
    (xI5 : PySem.W.excIn K C5 [.type "ValueError", .type "Exception", .type "BaseException", .type "object"] "ValueError.__new__" = true)
    (xK5 : PySem.W.keepIn K (.ref C5) = true)
    (xS5 : PySem.W.subIn K (.ref C5) (.type "BaseException") = some true)
    (xT5 : PySem.W.typeIn K (.ref C5) = some (.type "type"))
    (xa5 : PySem.W.findIn K (.ref C5) "__getattribute__" = some (some (.builtin "BaseException.__getattribute__")))
    (xb5 : PySem.W.findIn K (.ref C5) "__getattr__" = some none)
    (xd5 : PySem.W.hasDictIn K C5 = true)
    (xe5 : PySem.W.findIn K (.ref C5) "__class__" = some (some (.builtin "object.__class__")))
    (xm5 : PySem.W.mroIn K C5 (.type "object") = some true)
    (xI1 : PySem.W.excIn K C1 [.type "ValueError", .type "Exception", .type "BaseException", .type "object"] "ValueError.__new__" = true)
    (xK1 : PySem.W.keepIn K (.ref C1) = true)
    (xS1 : PySem.W.subIn K (.ref C1) (.type "BaseException") = some true)
    (xT1 : PySem.W.typeIn K (.ref C1) = some (.type "type"))
    (xa1 : PySem.W.findIn K (.ref C1) "__getattribute__" = some (some (.builtin "BaseException.__getattribute__")))
    (xb1 : PySem.W.findIn K (.ref C1) "__getattr__" = some none)
    (xd1 : PySem.W.hasDictIn K C1 = true)
    (xe1 : PySem.W.findIn K (.ref C1) "__class__" = some (some (.builtin "object.__class__")))
    (xm1 : PySem.W.mroIn K C1 (.type "object") = some true)
    (xI3 : PySem.W.excIn K C3 [.type "ValueError", .type "Exception", .type "BaseException", .type "object"] "ValueError.__new__" = true)
    (xK3 : PySem.W.keepIn K (.ref C3) = true)
    (xS3 : PySem.W.subIn K (.ref C3) (.type "BaseException") = some true)
    (xT3 : PySem.W.typeIn K (.ref C3) = some (.type "type"))
    (xa3 : PySem.W.findIn K (.ref C3) "__getattribute__" = some (some (.builtin "BaseException.__getattribute__")))
    (xb3 : PySem.W.findIn K (.ref C3) "__getattr__" = some none)
    (xd3 : PySem.W.hasDictIn K C3 = true)
    (xe3 : PySem.W.findIn K (.ref C3) "__class__" = some (some (.builtin "object.__class__")))
    (xm3 : PySem.W.mroIn K C3 (.type "object") = some true)
    (cq0 : PySem.W.isClsIn K C0 = true)
    (xT0 : PySem.W.typeIn K (.ref C0) = some (.type "type"))
    (sf0 : PySem.W.subIn K (.ref C0) (.ref C0) = some true)
    (cq6 : PySem.W.isClsIn K C6 = true)
    (sf6 : PySem.W.subIn K (.ref C6) (.ref C6) = some true)
    (xS0 : PySem.W.subIn K (.ref C0) (.type "BaseException") = some true)
    (sb2x6 : PySem.W.subIn K (.ref C2) (.ref C6) = some false)
    (sb4x6 : PySem.W.subIn K (.ref C4) (.ref C6) = some false)
    (sb5x6 : PySem.W.subIn K (.ref C5) (.ref C6) = some false)
    (sb1x6 : PySem.W.subIn K (.ref C1) (.ref C6) = some false)
    (sb3x6 : PySem.W.subIn K (.ref C3) (.ref C6) = some false)
    (sb2x0 : PySem.W.subIn K (.ref C2) (.ref C0) = some true)
    (sb6x0 : PySem.W.subIn K (.ref C6) (.ref C0) = some true)
    (sb4x0 : PySem.W.subIn K (.ref C4) (.ref C0) = some true)
    (sb5x0 : PySem.W.subIn K (.ref C5) (.ref C0) = some true)
    (sb1x0 : PySem.W.subIn K (.ref C1) (.ref C0) = some true)
    (sb3x0 : PySem.W.subIn K (.ref C3) (.ref C0) = some true)
    (iv2 : PySem.W.subIn K (.ref C2) (.type "ValueError") = some true)
    (iv6 : PySem.W.subIn K (.ref C6) (.type "ValueError") = some true)
    (iv4 : PySem.W.subIn K (.ref C4) (.type "ValueError") = some true)
    (iv5 : PySem.W.subIn K (.ref C5) (.type "ValueError") = some true)
    (iv1 : PySem.W.subIn K (.ref C1) (.type "ValueError") = some true)
    (iv3 : PySem.W.subIn K (.ref C3) (.type "ValueError") = some true)
    (a0 : PySem.W.nsIn K mainGlobals "_wall" = some (some (.ref f0)))
    (l0 : K.lookup f0 = some ⟨oc0, od0, .func (PySem.W.fnOf "_wall" "_wall" (defArgs s0) (defBody s0) (defScope s0) .none kV0 dc0 pm0 an0 cd0 ct0), sl0⟩) (c0 : PySem.W.codeIn K cd0 "_wall" = true) (k0 : PySem.W.keepIn K (.ref f0) = true)
    (i1 : PySem.W.isFn K (.ref f1) = true)
    (l1 : K.lookup f1 = some ⟨oc1, od1, .func (PySem.W.fnOf "name" "Side.name" (defArgs s1) (defBody s1) (defScope s1) .none kV1 dc1 pm1 an1 cd1 ct1), sl1⟩) (c1 : PySem.W.codeIn K cd1 "Side.name" = true) (k1 : PySem.W.keepIn K (.ref f1) = true)
    (i2 : PySem.W.isFn K (.ref f2) = true)
    (l2 : K.lookup f2 = some ⟨oc2, od2, .func (PySem.W.fnOf "other" "Side.other" (defArgs s2) (defBody s2) (defScope s2) .none kV2 dc2 pm2 an2 cd2 ct2), sl2⟩) (c2 : PySem.W.codeIn K cd2 "Side.other" = true) (k2 : PySem.W.keepIn K (.ref f2) = true)
    (i3 : PySem.W.isFn K (.ref f3) = true)
    (l3 : K.lookup f3 = some ⟨oc3, od3, .func (PySem.W.fnOf "is_ahead" "Side.is_ahead" (defArgs s3) (defBody s3) (defScope s3) .none kV3 dc3 pm3 an3 cd3 ct3), sl3⟩) (c3 : PySem.W.codeIn K cd3 "Side.is_ahead" = true) (k3 : PySem.W.keepIn K (.ref f3) = true)
    (i4 : PySem.W.isFn K (.ref f4) = true)
    (l4 : K.lookup f4 = some ⟨oc4, od4, .func (PySem.W.fnOf "takes" "Side.takes" (defArgs s4) (defBody s4) (defScope s4) .none kV4 dc4 pm4 an4 cd4 ct4), sl4⟩) (c4 : PySem.W.codeIn K cd4 "Side.takes" = true) (k4 : PySem.W.keepIn K (.ref f4) = true)
    (i5 : PySem.W.isFn K (.ref f5) = true)
    (l5 : K.lookup f5 = some ⟨oc5, od5, .func (PySem.W.fnOf "wakes" "Side.wakes" (defArgs s5) (defBody s5) (defScope s5) .none kV5 dc5 pm5 an5 cd5 ct5), sl5⟩) (c5 : PySem.W.codeIn K cd5 "Side.wakes" = true) (k5 : PySem.W.keepIn K (.ref f5) = true)
    (i6 : PySem.W.isFn K (.ref f6) = true)
    (l6 : K.lookup f6 = some ⟨oc6, od6, .func (PySem.W.fnOf "name" "Sell.name" (defArgs s6) (defBody s6) (defScope s6) .none kV6 dc6 pm6 an6 cd6 ct6), sl6⟩) (c6 : PySem.W.codeIn K cd6 "Sell.name" = true) (k6 : PySem.W.keepIn K (.ref f6) = true)
    (i7 : PySem.W.isFn K (.ref f7) = true)
    (l7 : K.lookup f7 = some ⟨oc7, od7, .func (PySem.W.fnOf "other" "Sell.other" (defArgs s7) (defBody s7) (defScope s7) .none kV7 dc7 pm7 an7 cd7 ct7), sl7⟩) (c7 : PySem.W.codeIn K cd7 "Sell.other" = true) (k7 : PySem.W.keepIn K (.ref f7) = true)
    (i8 : PySem.W.isFn K (.ref f8) = true)
    (l8 : K.lookup f8 = some ⟨oc8, od8, .func (PySem.W.fnOf "is_ahead" "Sell.is_ahead" (defArgs s8) (defBody s8) (defScope s8) .none kV8 dc8 pm8 an8 cd8 ct8), sl8⟩) (c8 : PySem.W.codeIn K cd8 "Sell.is_ahead" = true) (k8 : PySem.W.keepIn K (.ref f8) = true)
    (a9 : PySem.W.nsIn K mainGlobals "side_of" = some (some (.ref f9)))
    (l9 : K.lookup f9 = some ⟨oc9, od9, .func (PySem.W.fnOf "side_of" "side_of" (defArgs s9) (defBody s9) (defScope s9) .none kV9 dc9 pm9 an9 cd9 ct9), sl9⟩) (c9 : PySem.W.codeIn K cd9 "side_of" = true) (k9 : PySem.W.keepIn K (.ref f9) = true)
    (i10 : PySem.W.isFn K (.ref f10) = true)
    (l10 : K.lookup f10 = some ⟨oc10, od10, .func (PySem.W.fnOf "__init__" "Sleepers.__init__" (defArgs s10) (defBody s10) (defScope s10) .none kV10 dc10 pm10 an10 cd10 ct10), sl10⟩) (c10 : PySem.W.codeIn K cd10 "Sleepers.__init__" = true) (k10 : PySem.W.keepIn K (.ref f10) = true)
    (i11 : PySem.W.isFn K (.ref f11) = true)
    (l11 : K.lookup f11 = some ⟨oc11, od11, .func (PySem.W.fnOf "need" "Sleepers.need" (defArgs s11) (defBody s11) (defScope s11) .none kV11 dc11 pm11 an11 cd11 ct11), sl11⟩) (c11 : PySem.W.codeIn K cd11 "Sleepers.need" = true) (k11 : PySem.W.keepIn K (.ref f11) = true)
    (i12 : PySem.W.isFn K (.ref f12) = true)
    (l12 : K.lookup f12 = some ⟨oc12, od12, .func (PySem.W.fnOf "put" "Sleepers.put" (defArgs s12) (defBody s12) (defScope s12) .none kV12 dc12 pm12 an12 cd12 ct12), sl12⟩) (c12 : PySem.W.codeIn K cd12 "Sleepers.put" = true) (k12 : PySem.W.keepIn K (.ref f12) = true)
    (i13 : PySem.W.isFn K (.ref f13) = true)
    (l13 : K.lookup f13 = some ⟨oc13, od13, .func (PySem.W.fnOf "numbers" "Sleepers.numbers" (defArgs s13) (defBody s13) (defScope s13) .none kV13 dc13 pm13 an13 cd13 ct13), sl13⟩) (c13 : PySem.W.codeIn K cd13 "Sleepers.numbers" = true) (k13 : PySem.W.keepIn K (.ref f13) = true)
    (i14 : PySem.W.isFn K (.ref f14) = true)
    (l14 : K.lookup f14 = some ⟨oc14, od14, .func (PySem.W.fnOf "due" "Sleepers.due" (defArgs s14) (defBody s14) (defScope s14) .none kV14 dc14 pm14 an14 cd14 ct14), sl14⟩) (c14 : PySem.W.codeIn K cd14 "Sleepers.due" = true) (k14 : PySem.W.keepIn K (.ref f14) = true)
    (i15 : PySem.W.isFn K (.ref f15) = true)
    (l15 : K.lookup f15 = some ⟨oc15, od15, .func (PySem.W.fnOf "drop" "Sleepers.drop" (defArgs s15) (defBody s15) (defScope s15) .none kV15 dc15 pm15 an15 cd15 ct15), sl15⟩) (c15 : PySem.W.codeIn K cd15 "Sleepers.drop" = true) (k15 : PySem.W.keepIn K (.ref f15) = true)
    (i16 : PySem.W.isFn K (.ref f16) = true)
    (l16 : K.lookup f16 = some ⟨oc16, od16, .func (PySem.W.fnOf "order" "Sleepers.order" (defArgs s16) (defBody s16) (defScope s16) .none kV16 dc16 pm16 an16 cd16 ct16), sl16⟩) (c16 : PySem.W.codeIn K cd16 "Sleepers.order" = true) (k16 : PySem.W.keepIn K (.ref f16) = true)
    (a17 : PySem.W.nsIn K mainGlobals "is_whole" = some (some (.ref f17)))
    (l17 : K.lookup f17 = some ⟨oc17, od17, .func (PySem.W.fnOf "is_whole" "is_whole" (defArgs s17) (defBody s17) (defScope s17) .none kV17 dc17 pm17 an17 cd17 ct17), sl17⟩) (c17 : PySem.W.codeIn K cd17 "is_whole" = true) (k17 : PySem.W.keepIn K (.ref f17) = true)
    (a18 : PySem.W.nsIn K mainGlobals "is_name" = some (some (.ref f18)))
    (l18 : K.lookup f18 = some ⟨oc18, od18, .func (PySem.W.fnOf "is_name" "is_name" (defArgs s18) (defBody s18) (defScope s18) .none kV18 dc18 pm18 an18 cd18 ct18), sl18⟩) (c18 : PySem.W.codeIn K cd18 "is_name" = true) (k18 : PySem.W.keepIn K (.ref f18) = true)
    (a19 : PySem.W.nsIn K mainGlobals "is_price" = some (some (.ref f19)))
    (l19 : K.lookup f19 = some ⟨oc19, od19, .func (PySem.W.fnOf "is_price" "is_price" (defArgs s19) (defBody s19) (defScope s19) .none kV19 dc19 pm19 an19 cd19 ct19), sl19⟩) (c19 : PySem.W.codeIn K cd19 "is_price" = true) (k19 : PySem.W.keepIn K (.ref f19) = true)
    (a20 : PySem.W.nsIn K mainGlobals "need_amounts" = some (some (.ref f20)))
    (l20 : K.lookup f20 = some ⟨oc20, od20, .func (PySem.W.fnOf "need_amounts" "need_amounts" (defArgs s20) (defBody s20) (defScope s20) .none kV20 dc20 pm20 an20 cd20 ct20), sl20⟩) (c20 : PySem.W.codeIn K cd20 "need_amounts" = true) (k20 : PySem.W.keepIn K (.ref f20) = true)
    (a21 : PySem.W.nsIn K mainGlobals "need_stay" = some (some (.ref f21)))
    (l21 : K.lookup f21 = some ⟨oc21, od21, .func (PySem.W.fnOf "need_stay" "need_stay" (defArgs s21) (defBody s21) (defScope s21) .none kV21 dc21 pm21 an21 cd21 ct21), sl21⟩) (c21 : PySem.W.codeIn K cd21 "need_stay" = true) (k21 : PySem.W.keepIn K (.ref f21) = true)
    (i22 : PySem.W.isFn K (.ref f22) = true)
    (l22 : K.lookup f22 = some ⟨oc22, od22, .func (PySem.W.fnOf "__init__" "Order.__init__" (defArgs s22) (defBody s22) (defScope s22) (.ref T22) kV22 dc22 pm22 an22 cd22 ct22), sl22⟩) (c22 : PySem.W.codeIn K cd22 "Order.__init__" = true) (k22 : PySem.W.keepIn K (.ref f22) = true)
    (dl22 : K.lookup T22 = some ⟨qc22, qd22, .seq #[.none, .int 0 dt22x1, .str "stay" dt22x2, .none] qn22, qs22⟩)
    (a23 : PySem.W.nsIn K mainGlobals "_law_cell_at" = some (some (.ref f23)))
    (l23 : K.lookup f23 = some ⟨oc23, od23, .func (PySem.W.fnOf "_law_cell_at" "_law_cell_at" (defArgs s23) (defBody s23) (defScope s23) .none kV23 dc23 pm23 an23 cd23 ct23), sl23⟩) (c23 : PySem.W.codeIn K cd23 "_law_cell_at" = true) (k23 : PySem.W.keepIn K (.ref f23) = true)
    (a24 : PySem.W.nsIn K mainGlobals "_law_mixed" = some (some (.ref f24)))
    (l24 : K.lookup f24 = some ⟨oc24, od24, .func (PySem.W.fnOf "_law_mixed" "_law_mixed" (defArgs s24) (defBody s24) (defScope s24) .none kV24 dc24 pm24 an24 cd24 ct24), sl24⟩) (c24 : PySem.W.codeIn K cd24 "_law_mixed" = true) (k24 : PySem.W.keepIn K (.ref f24) = true)
    (a25 : PySem.W.nsIn K mainGlobals "_law_sleeper" = some (some (.ref f25)))
    (l25 : K.lookup f25 = some ⟨oc25, od25, .func (PySem.W.fnOf "_law_sleeper" "_law_sleeper" (defArgs s25) (defBody s25) (defScope s25) .none kV25 dc25 pm25 an25 cd25 ct25), sl25⟩) (c25 : PySem.W.codeIn K cd25 "_law_sleeper" = true) (k25 : PySem.W.keepIn K (.ref f25) = true)
    (a26 : PySem.W.nsIn K mainGlobals "_law_made" = some (some (.ref f26)))
    (l26 : K.lookup f26 = some ⟨oc26, od26, .func (PySem.W.fnOf "_law_made" "_law_made" (defArgs s26) (defBody s26) (defScope s26) .none kV26 dc26 pm26 an26 cd26 ct26), sl26⟩) (c26 : PySem.W.codeIn K cd26 "_law_made" = true) (k26 : PySem.W.keepIn K (.ref f26) = true)
    (a27 : PySem.W.nsIn K mainGlobals "_law_due" = some (some (.ref f27)))
    (l27 : K.lookup f27 = some ⟨oc27, od27, .func (PySem.W.fnOf "_law_due" "_law_due" (defArgs s27) (defBody s27) (defScope s27) .none kV27 dc27 pm27 an27 cd27 ct27), sl27⟩) (c27 : PySem.W.codeIn K cd27 "_law_due" = true) (k27 : PySem.W.keepIn K (.ref f27) = true)
    (a28 : PySem.W.nsIn K mainGlobals "_law_caught" = some (some (.ref f28)))
    (l28 : K.lookup f28 = some ⟨oc28, od28, .func (PySem.W.fnOf "_law_caught" "_law_caught" (defArgs s28) (defBody s28) (defScope s28) .none kV28 dc28 pm28 an28 cd28 ct28), sl28⟩) (c28 : PySem.W.codeIn K cd28 "_law_caught" = true) (k28 : PySem.W.keepIn K (.ref f28) = true)
    (a29 : PySem.W.nsIn K mainGlobals "_law_refused" = some (some (.ref f29)))
    (l29 : K.lookup f29 = some ⟨oc29, od29, .func (PySem.W.fnOf "_law_refused" "_law_refused" (defArgs s29) (defBody s29) (defScope s29) .none kV29 dc29 pm29 an29 cd29 ct29), sl29⟩) (c29 : PySem.W.codeIn K cd29 "_law_refused" = true) (k29 : PySem.W.keepIn K (.ref f29) = true)
    (a30 : PySem.W.nsIn K mainGlobals "_law_like" = some (some (.ref f30)))
    (l30 : K.lookup f30 = some ⟨oc30, od30, .func (PySem.W.fnOf "_law_like" "_law_like" (defArgs s30) (defBody s30) (defScope s30) .none kV30 dc30 pm30 an30 cd30 ct30), sl30⟩) (c30 : PySem.W.codeIn K cd30 "_law_like" = true) (k30 : PySem.W.keepIn K (.ref f30) = true)
    (a31 : PySem.W.nsIn K mainGlobals "_law_stands" = some (some (.ref f31)))
    (l31 : K.lookup f31 = some ⟨oc31, od31, .func (PySem.W.fnOf "_law_stands" "_law_stands" (defArgs s31) (defBody s31) (defScope s31) .none kV31 dc31 pm31 an31 cd31 ct31), sl31⟩) (c31 : PySem.W.codeIn K cd31 "_law_stands" = true) (k31 : PySem.W.keepIn K (.ref f31) = true)
    (a32 : PySem.W.nsIn K mainGlobals "law" = some (some (.ref f32)))
    (l32 : K.lookup f32 = some ⟨oc32, od32, .func (PySem.W.fnOf "law" "law" (defArgs s32) (defBody s32) (defScope s32) .none kV32 dc32 pm32 an32 cd32 ct32), sl32⟩) (c32 : PySem.W.codeIn K cd32 "law" = true) (k32 : PySem.W.keepIn K (.ref f32) = true)
    (z0 : PySem.W.nsIn K mainGlobals "isinstance" = some none)
    (z1 : PySem.W.nsIn K mainGlobals "str" = some none)
    (z2 : PySem.W.nsIn K mainGlobals "bool" = some none)
    (z3 : PySem.W.nsIn K mainGlobals "int" = some none)
    (z4 : PySem.W.nsIn K mainGlobals "sorted" = some none)
    (z5 : PySem.W.nsIn K mainGlobals "len" = some none)
    (z6 : PySem.W.nsIn K mainGlobals "all" = some none)
    (z7 : PySem.W.nsIn K mainGlobals "min" = some none)
    (z8 : PySem.W.nsIn K mainGlobals "max" = some none)
    (z9 : PySem.W.nsIn K mainGlobals "list" = some none)
    (z10 : PySem.W.nsIn K mainGlobals "range" = some none)
    (z11 : PySem.W.nsIn K mainGlobals "ValueError" = some none)
    {tg0 : Tok} (vG0 : PySem.W.nsIn K mainGlobals "MOST_LETTERS" = some (some (.int 8 tg0)))
    {tg1 : Tok} (vG1 : PySem.W.nsIn K mainGlobals "LETTERS" = some (some (.str "abcdefghijklmnopqrstuvwxyz" tg1)))
    {tg2 : Tok} (vG2 : PySem.W.nsIn K mainGlobals "MOST" = some (some (.int 1000000000 tg2)))
    {tg3 : Tok} (vG3 : PySem.W.nsIn K mainGlobals "MOST_PARTS" = some (some (.int 50 tg3)))
    {tg4 : Addr} (vG4 : PySem.W.nsIn K mainGlobals "STAYS" = some (some (.ref tg4)))
    {wd4 : Option Addr} {wn4 : Nat} {ws4 : Array (Option Value)} {wt4x0 wt4x1 wt4x2 : Tok} (vH4 : K.lookup tg4 = some ⟨.type "tuple", wd4, .seq #[.str "stay" wt4x0, .str "bell" wt4x1, .str "now" wt4x2] wn4, ws4⟩)
    : ∃ fd : FuncData, (∀ (s : Shared) (v : Value), BindsTo s fd ⟨[v], []⟩ [("_law_script", v)]) ∧ ∀ base : Heap, K.In base → base.Ns mainGlobals mg → FnOk l.prog w K mg base (L2.CX l.prog w) (2 * 8) fa fd ["_law_script"] (spT K) := by
  have e := hfa.symm.trans (PySem.W.mg_of X G a32)
  cases e
  have F0 := fun_mk (st := s0) l0 c0 k0
  have B0 := F0.binds (ps := P0) fun _ _ _ _ _ _ us hl => match us, hl with | [_], _ => rfl
  have F1 := fun_mk (st := s1) l1 c1 k1
  have B1 := F1.binds (ps := P1) fun _ _ _ _ _ _ us hl => match us, hl with | [_], _ => rfl
  have F2 := fun_mk (st := s2) l2 c2 k2
  have B2 := F2.binds (ps := P2) fun _ _ _ _ _ _ us hl => match us, hl with | [_], _ => rfl
  have F3 := fun_mk (st := s3) l3 c3 k3
  have B3 := F3.binds (ps := P3) fun _ _ _ _ _ _ us hl => match us, hl with | [_, _, _], _ => rfl
  have F4 := fun_mk (st := s4) l4 c4 k4
  have B4 := F4.binds (ps := P4) fun _ _ _ _ _ _ us hl => match us, hl with | [_, _, _], _ => rfl
  have F5 := fun_mk (st := s5) l5 c5 k5
  have B5 := F5.binds (ps := P5) fun _ _ _ _ _ _ us hl => match us, hl with | [_, _, _], _ => rfl
  have F6 := fun_mk (st := s6) l6 c6 k6
  have B6 := F6.binds (ps := P6) fun _ _ _ _ _ _ us hl => match us, hl with | [_], _ => rfl
  have F7 := fun_mk (st := s7) l7 c7 k7
  have B7 := F7.binds (ps := P7) fun _ _ _ _ _ _ us hl => match us, hl with | [_], _ => rfl
  have F8 := fun_mk (st := s8) l8 c8 k8
  have B8 := F8.binds (ps := P8) fun _ _ _ _ _ _ us hl => match us, hl with | [_, _, _], _ => rfl
  have F9 := fun_mk (st := s9) l9 c9 k9
  have B9 := F9.binds (ps := P9) fun _ _ _ _ _ _ us hl => match us, hl with | [_], _ => rfl
  have F10 := fun_mk (st := s10) l10 c10 k10
  have B10 := F10.binds (ps := P10) fun _ _ _ _ _ _ us hl => match us, hl with | [_], _ => rfl
  have F11 := fun_mk (st := s11) l11 c11 k11
  have B11 := F11.binds (ps := P11) fun _ _ _ _ _ _ us hl => match us, hl with | [_, _], _ => rfl
  have F12 := fun_mk (st := s12) l12 c12 k12
  have B12 := F12.binds (ps := P12) fun _ _ _ _ _ _ us hl => match us, hl with | [_, _, _], _ => rfl
  have F13 := fun_mk (st := s13) l13 c13 k13
  have B13 := F13.binds (ps := P13) fun _ _ _ _ _ _ us hl => match us, hl with | [_], _ => rfl
  have F14 := fun_mk (st := s14) l14 c14 k14
  have B14 := F14.binds (ps := P14) fun _ _ _ _ _ _ us hl => match us, hl with | [_, _], _ => rfl
  have F15 := fun_mk (st := s15) l15 c15 k15
  have B15 := F15.binds (ps := P15) fun _ _ _ _ _ _ us hl => match us, hl with | [_, _], _ => rfl
  have F16 := fun_mk (st := s16) l16 c16 k16
  have B16 := F16.binds (ps := P16) fun _ _ _ _ _ _ us hl => match us, hl with | [_, _], _ => rfl
  have F17 := fun_mk (st := s17) l17 c17 k17
  have B17 := F17.binds (ps := P17) fun _ _ _ _ _ _ us hl => match us, hl with | [_, _, _], _ => rfl
  have F18 := fun_mk (st := s18) l18 c18 k18
  have B18 := F18.binds (ps := P18) fun _ _ _ _ _ _ us hl => match us, hl with | [_], _ => rfl
  have F19 := fun_mk (st := s19) l19 c19 k19
  have B19 := F19.binds (ps := P19) fun _ _ _ _ _ _ us hl => match us, hl with | [_], _ => rfl
  have F20 := fun_mk (st := s20) l20 c20 k20
  have B20 := F20.binds (ps := P20) fun _ _ _ _ _ _ us hl => match us, hl with | [_, _, _], _ => rfl
  have F21 := fun_mk (st := s21) l21 c21 k21
  have B21 := F21.binds (ps := P21) fun _ _ _ _ _ _ us hl => match us, hl with | [_, _, _], _ => rfl
  have F22 : FunD K "__init__" "Order.__init__" (defArgs s22) (defBody s22) (defScope s22) [V.non, V.int 0, V.str "stay", V.non] [] f22 (PySem.W.fnOf "__init__" "Order.__init__" (defArgs s22) (defBody s22) (defScope s22) (.ref T22) kV22 dc22 pm22 an22 cd22 ct22) := ⟨⟨_, _, _, _, _, _, _, _, _, _, rfl, l22, c22, .inr ⟨fun e => List.cons_ne_nil _ _ e, _, _, _, _, rfl, dl22, rfl, .cons rfl (.cons ⟨_, rfl⟩ (.cons ⟨_, rfl⟩ (.cons rfl (.nil))))⟩, .inl rfl⟩, k22⟩
  have B22 : ∀ m, m ≤ 9 → 9 - m ≤ 4 → ∃ ds, Vals (([V.non, V.int 0, V.str "stay", V.non] : List V).drop (4 - (9 - m))) ds ∧ Binds K (PySem.W.fnOf "__init__" "Order.__init__" (defArgs s22) (defBody s22) (defScope s22) (.ref T22) kV22 dc22 pm22 an22 cd22 ct22) P22 ds := fun m h1 h2 => by
    rcases (show m = 5 ∨ m = 6 ∨ m = 7 ∨ m = 8 ∨ m = 9 by omega) with rfl | rfl | rfl | rfl | rfl
    · exact F22.binds1 (ps := P22) 5 0 (fun e => List.cons_ne_nil _ _ e) rfl fun _ _ _ _ _ _ _ us its e1 e2 => match us, its, e1, e2 with | [_, _, _, _, _], [_, _, _, _], _, _ => ⟨_, rfl, rfl⟩
    · exact F22.binds1 (ps := P22) 6 1 (fun e => List.cons_ne_nil _ _ e) rfl fun _ _ _ _ _ _ _ us its e1 e2 => match us, its, e1, e2 with | [_, _, _, _, _, _], [_, _, _, _], _, _ => ⟨_, rfl, rfl⟩
    · exact F22.binds1 (ps := P22) 7 2 (fun e => List.cons_ne_nil _ _ e) rfl fun _ _ _ _ _ _ _ us its e1 e2 => match us, its, e1, e2 with | [_, _, _, _, _, _, _], [_, _, _, _], _, _ => ⟨_, rfl, rfl⟩
    · exact F22.binds1 (ps := P22) 8 3 (fun e => List.cons_ne_nil _ _ e) rfl fun _ _ _ _ _ _ _ us its e1 e2 => match us, its, e1, e2 with | [_, _, _, _, _, _, _, _], [_, _, _, _], _, _ => ⟨_, rfl, rfl⟩
    · exact F22.binds1 (ps := P22) 9 4 (fun e => List.cons_ne_nil _ _ e) rfl fun _ _ _ _ _ _ _ us its e1 e2 => match us, its, e1, e2 with | [_, _, _, _, _, _, _, _, _], [_, _, _, _], _, _ => ⟨_, rfl, rfl⟩
  have F23 := fun_mk (st := s23) l23 c23 k23
  have B23 := F23.binds (ps := P23) fun _ _ _ _ _ _ us hl => match us, hl with | [_, _], _ => rfl
  have F24 := fun_mk (st := s24) l24 c24 k24
  have B24 := F24.binds (ps := P24) fun _ _ _ _ _ _ us hl => match us, hl with | [_, _], _ => rfl
  have F25 := fun_mk (st := s25) l25 c25 k25
  have B25 := F25.binds (ps := P25) fun _ _ _ _ _ _ us hl => match us, hl with | [_, _], _ => rfl
  have F26 := fun_mk (st := s26) l26 c26 k26
  have B26 := F26.binds (ps := P26) fun _ _ _ _ _ _ us hl => match us, hl with | [_], _ => rfl
  have F27 := fun_mk (st := s27) l27 c27 k27
  have B27 := F27.binds (ps := P27) fun _ _ _ _ _ _ us hl => match us, hl with | [_, _], _ => rfl
  have F28 := fun_mk (st := s28) l28 c28 k28
  have B28 := F28.binds (ps := P28) fun _ _ _ _ _ _ us hl => match us, hl with | [_, _, _], _ => rfl
  have F29 := fun_mk (st := s29) l29 c29 k29
  have B29 := F29.binds (ps := P29) fun _ _ _ _ _ _ us hl => match us, hl with | [_, _, _], _ => rfl
  have F30 := fun_mk (st := s30) l30 c30 k30
  have B30 := F30.binds (ps := P30) fun _ _ _ _ _ _ us hl => match us, hl with | [_, _], _ => rfl
  have F31 := fun_mk (st := s31) l31 c31 k31
  have B31 := F31.binds (ps := P31) fun _ _ _ _ _ _ us hl => match us, hl with | [_, _, _, _], _ => rfl
  have F32 := fun_mk (st := s32) l32 c32 k32
  have B32 := F32.binds (ps := P32) fun _ _ _ _ _ _ us hl => match us, hl with | [_], _ => rfl
  let fas : List Addr := [f0, f1, f2, f3, f4, f5, f6, f7, f8, f9, f10, f11, f12, f13, f14, f15, f16, f17, f18, f19, f20, f21, f22, f23, f24, f25, f26, f27, f28, f29, f30, f31, fa]
  let fds : List FuncData := [PySem.W.fnOf "_wall" "_wall" (defArgs s0) (defBody s0) (defScope s0) .none kV0 dc0 pm0 an0 cd0 ct0, PySem.W.fnOf "name" "Side.name" (defArgs s1) (defBody s1) (defScope s1) .none kV1 dc1 pm1 an1 cd1 ct1, PySem.W.fnOf "other" "Side.other" (defArgs s2) (defBody s2) (defScope s2) .none kV2 dc2 pm2 an2 cd2 ct2, PySem.W.fnOf "is_ahead" "Side.is_ahead" (defArgs s3) (defBody s3) (defScope s3) .none kV3 dc3 pm3 an3 cd3 ct3, PySem.W.fnOf "takes" "Side.takes" (defArgs s4) (defBody s4) (defScope s4) .none kV4 dc4 pm4 an4 cd4 ct4, PySem.W.fnOf "wakes" "Side.wakes" (defArgs s5) (defBody s5) (defScope s5) .none kV5 dc5 pm5 an5 cd5 ct5, PySem.W.fnOf "name" "Sell.name" (defArgs s6) (defBody s6) (defScope s6) .none kV6 dc6 pm6 an6 cd6 ct6, PySem.W.fnOf "other" "Sell.other" (defArgs s7) (defBody s7) (defScope s7) .none kV7 dc7 pm7 an7 cd7 ct7, PySem.W.fnOf "is_ahead" "Sell.is_ahead" (defArgs s8) (defBody s8) (defScope s8) .none kV8 dc8 pm8 an8 cd8 ct8, PySem.W.fnOf "side_of" "side_of" (defArgs s9) (defBody s9) (defScope s9) .none kV9 dc9 pm9 an9 cd9 ct9, PySem.W.fnOf "__init__" "Sleepers.__init__" (defArgs s10) (defBody s10) (defScope s10) .none kV10 dc10 pm10 an10 cd10 ct10, PySem.W.fnOf "need" "Sleepers.need" (defArgs s11) (defBody s11) (defScope s11) .none kV11 dc11 pm11 an11 cd11 ct11, PySem.W.fnOf "put" "Sleepers.put" (defArgs s12) (defBody s12) (defScope s12) .none kV12 dc12 pm12 an12 cd12 ct12, PySem.W.fnOf "numbers" "Sleepers.numbers" (defArgs s13) (defBody s13) (defScope s13) .none kV13 dc13 pm13 an13 cd13 ct13, PySem.W.fnOf "due" "Sleepers.due" (defArgs s14) (defBody s14) (defScope s14) .none kV14 dc14 pm14 an14 cd14 ct14, PySem.W.fnOf "drop" "Sleepers.drop" (defArgs s15) (defBody s15) (defScope s15) .none kV15 dc15 pm15 an15 cd15 ct15, PySem.W.fnOf "order" "Sleepers.order" (defArgs s16) (defBody s16) (defScope s16) .none kV16 dc16 pm16 an16 cd16 ct16, PySem.W.fnOf "is_whole" "is_whole" (defArgs s17) (defBody s17) (defScope s17) .none kV17 dc17 pm17 an17 cd17 ct17, PySem.W.fnOf "is_name" "is_name" (defArgs s18) (defBody s18) (defScope s18) .none kV18 dc18 pm18 an18 cd18 ct18, PySem.W.fnOf "is_price" "is_price" (defArgs s19) (defBody s19) (defScope s19) .none kV19 dc19 pm19 an19 cd19 ct19, PySem.W.fnOf "need_amounts" "need_amounts" (defArgs s20) (defBody s20) (defScope s20) .none kV20 dc20 pm20 an20 cd20 ct20, PySem.W.fnOf "need_stay" "need_stay" (defArgs s21) (defBody s21) (defScope s21) .none kV21 dc21 pm21 an21 cd21 ct21, PySem.W.fnOf "__init__" "Order.__init__" (defArgs s22) (defBody s22) (defScope s22) (.ref T22) kV22 dc22 pm22 an22 cd22 ct22, PySem.W.fnOf "_law_cell_at" "_law_cell_at" (defArgs s23) (defBody s23) (defScope s23) .none kV23 dc23 pm23 an23 cd23 ct23, PySem.W.fnOf "_law_mixed" "_law_mixed" (defArgs s24) (defBody s24) (defScope s24) .none kV24 dc24 pm24 an24 cd24 ct24, PySem.W.fnOf "_law_sleeper" "_law_sleeper" (defArgs s25) (defBody s25) (defScope s25) .none kV25 dc25 pm25 an25 cd25 ct25, PySem.W.fnOf "_law_made" "_law_made" (defArgs s26) (defBody s26) (defScope s26) .none kV26 dc26 pm26 an26 cd26 ct26, PySem.W.fnOf "_law_due" "_law_due" (defArgs s27) (defBody s27) (defScope s27) .none kV27 dc27 pm27 an27 cd27 ct27, PySem.W.fnOf "_law_caught" "_law_caught" (defArgs s28) (defBody s28) (defScope s28) .none kV28 dc28 pm28 an28 cd28 ct28, PySem.W.fnOf "_law_refused" "_law_refused" (defArgs s29) (defBody s29) (defScope s29) .none kV29 dc29 pm29 an29 cd29 ct29, PySem.W.fnOf "_law_like" "_law_like" (defArgs s30) (defBody s30) (defScope s30) .none kV30 dc30 pm30 an30 cd30 ct30, PySem.W.fnOf "_law_stands" "_law_stands" (defArgs s31) (defBody s31) (defScope s31) .none kV31 dc31 pm31 an31 cd31 ct31, PySem.W.fnOf "law" "law" (defArgs s32) (defBody s32) (defScope s32) .none kV32 dc32 pm32 an32 cd32 ct32]
  let F : FT := ⟨fun f => fas.getD f 0, fun f => fds.getD f (PySem.W.fnOf "_wall" "_wall" (defArgs s0) (defBody s0) (defScope s0) .none kV0 dc0 pm0 an0 cd0 ct0), fun f => ([P0, P1, P2, P3, P4, P5, P6, P7, P8, P9, P10, P11, P12, P13, P14, P15, P16, P17, P18, P19, P20, P21, P22, P23, P24, P25, P26, P27, P28, P29, P30, P31, P32] : List (List Str)).getD f []⟩
  let cl : Nat → Addr := fun k => ([C0, C1, C2, C3, C4, C5, C6, 0, C8, C9, C10, C11] : List Addr).getD k 0
  have S : Wst ⟨sg, K, cl⟩ F ct mg := by
    refine ⟨rfl, fun f d e => ?df, fun f x e => ?mf, fun k x e => ?mc, fun k f e => ?mk, fun k f e => ?cl, fun k f s e e2 => ?na, fun k m f s e e2 => ?me, nd_nms, fun x hx => ?bn, fun g x v e e2 => ?gl, ⟨fun k e => ?w0, fun k e => ?w1, fun k e => ?w2, fun d k b e => ?w3, fun k e => ?w4, fun d k b e => ?w5, fun k e => ?w6, fun d b e => ?w7⟩⟩
    case df =>
      match f, e with
      | 0, e => cases e; exact def_ok F0 sc0 rfl rfl ck0 B0 rfl
      | 1, e => cases e; exact def_ok F1 sc1 rfl rfl ck1 B1 rfl
      | 2, e => cases e; exact def_ok F2 sc2 rfl rfl ck2 B2 rfl
      | 3, e => cases e; exact def_ok F3 sc3 rfl rfl ck3 B3 rfl
      | 4, e => cases e; exact def_ok F4 sc4 rfl rfl ck4 B4 rfl
      | 5, e => cases e; exact def_ok F5 sc5 rfl rfl ck5 B5 rfl
      | 6, e => cases e; exact def_ok F6 sc6 rfl rfl ck6 B6 rfl
      | 7, e => cases e; exact def_ok F7 sc7 rfl rfl ck7 B7 rfl
      | 8, e => cases e; exact def_ok F8 sc8 rfl rfl ck8 B8 rfl
      | 9, e => cases e; exact def_ok F9 sc9 rfl rfl ck9 B9 rfl
      | 10, e => cases e; exact def_ok F10 sc10 rfl rfl ck10 B10 rfl
      | 11, e => cases e; exact def_ok F11 sc11 rfl rfl ck11 B11 rfl
      | 12, e => cases e; exact def_ok F12 sc12 rfl rfl ck12 B12 rfl
      | 13, e => cases e; exact def_ok F13 sc13 rfl rfl ck13 B13 rfl
      | 14, e => cases e; exact def_ok F14 sc14 rfl rfl ck14 B14 rfl
      | 15, e => cases e; exact def_ok F15 sc15 rfl rfl ck15 B15 rfl
      | 16, e => cases e; exact def_ok F16 sc16 rfl rfl ck16 B16 rfl
      | 17, e => cases e; exact def_ok F17 sc17 rfl rfl ck17 B17 rfl
      | 18, e => cases e; exact def_ok F18 sc18 rfl rfl ck18 B18 rfl
      | 19, e => cases e; exact def_ok F19 sc19 rfl rfl ck19 B19 rfl
      | 20, e => cases e; exact def_ok F20 sc20 rfl rfl ck20 B20 rfl
      | 21, e => cases e; exact def_ok F21 sc21 rfl rfl ck21 B21 rfl
      | 22, e => cases e; exact def_okD F22 sc22 rfl rfl ck22 B22 (fun H => .cons (.non) (.cons (.int _) (.cons (.str _) (.cons (.non) (.nil)))))
      | 23, e => cases e; exact def_ok F23 sc23 rfl rfl ck23 B23 rfl
      | 24, e => cases e; exact def_ok F24 sc24 rfl rfl ck24 B24 rfl
      | 25, e => cases e; exact def_ok F25 sc25 rfl rfl ck25 B25 rfl
      | 26, e => cases e; exact def_ok F26 sc26 rfl rfl ck26 B26 rfl
      | 27, e => cases e; exact def_ok F27 sc27 rfl rfl ck27 B27 rfl
      | 28, e => cases e; exact def_ok F28 sc28 rfl rfl ck28 B28 rfl
      | 29, e => cases e; exact def_ok F29 sc29 rfl rfl ck29 B29 rfl
      | 30, e => cases e; exact def_ok F30 sc30 rfl rfl ck30 B30 rfl
      | 31, e => cases e; exact def_ok F31 sc31 rfl rfl ck31 B31 rfl
      | 32, e => cases e; exact def_ok F32 sc32 rfl rfl ck32 B32 rfl
    case mf =>
      have e := inOf_mem e
      simp only [fnT, List.mem_cons, List.mem_nil_iff, or_false, Prod.mk.injEq] at e
      rcases e with ⟨rfl, rfl⟩ | ⟨rfl, rfl⟩ | ⟨rfl, rfl⟩ | ⟨rfl, rfl⟩ | ⟨rfl, rfl⟩ | ⟨rfl, rfl⟩ | ⟨rfl, rfl⟩ | ⟨rfl, rfl⟩ | ⟨rfl, rfl⟩ | ⟨rfl, rfl⟩ | ⟨rfl, rfl⟩ | ⟨rfl, rfl⟩ | ⟨rfl, rfl⟩ | ⟨rfl, rfl⟩ | ⟨rfl, rfl⟩ | ⟨rfl, rfl⟩ | ⟨rfl, rfl⟩
      · exact ⟨PySem.W.mg_of X G a0, k0⟩
      · exact ⟨PySem.W.mg_of X G a9, k9⟩
      · exact ⟨PySem.W.mg_of X G a17, k17⟩
      · exact ⟨PySem.W.mg_of X G a18, k18⟩
      · exact ⟨PySem.W.mg_of X G a19, k19⟩
      · exact ⟨PySem.W.mg_of X G a20, k20⟩
      · exact ⟨PySem.W.mg_of X G a21, k21⟩
      · exact ⟨PySem.W.mg_of X G a23, k23⟩
      · exact ⟨PySem.W.mg_of X G a24, k24⟩
      · exact ⟨PySem.W.mg_of X G a25, k25⟩
      · exact ⟨PySem.W.mg_of X G a26, k26⟩
      · exact ⟨PySem.W.mg_of X G a27, k27⟩
      · exact ⟨PySem.W.mg_of X G a28, k28⟩
      · exact ⟨PySem.W.mg_of X G a29, k29⟩
      · exact ⟨PySem.W.mg_of X G a30, k30⟩
      · exact ⟨PySem.W.mg_of X G a31, k31⟩
      · exact ⟨PySem.W.mg_of X G a32, k32⟩
    case mc =>
      have e := inOf_mem e
      simp only [clT, List.mem_cons, List.mem_nil_iff, or_false, Prod.mk.injEq] at e
      rcases e with ⟨rfl, rfl⟩ | ⟨rfl, rfl⟩ | ⟨rfl, rfl⟩ | ⟨rfl, rfl⟩ | ⟨rfl, rfl⟩ | ⟨rfl, rfl⟩ | ⟨rfl, rfl⟩ | ⟨rfl, rfl⟩ | ⟨rfl, rfl⟩ | ⟨rfl, rfl⟩ | ⟨rfl, rfl⟩
      · exact PySem.W.mg_of X G aC0
      · exact PySem.W.mg_of X G aC1
      · exact PySem.W.mg_of X G aC2
      · exact PySem.W.mg_of X G aC3
      · exact PySem.W.mg_of X G aC4
      · exact PySem.W.mg_of X G aC5
      · exact PySem.W.mg_of X G aC6
      · exact PySem.W.mg_of X G aC8
      · exact PySem.W.mg_of X G aC9
      · exact PySem.W.mg_of X G aC10
      · exact PySem.W.mg_of X G aC11
    case mk =>
      have e := inOf_mem e
      simp only [inT, List.mem_cons, List.mem_nil_iff, or_false, Prod.mk.injEq] at e
      rcases e with ⟨rfl, rfl⟩ | ⟨rfl, rfl⟩
      · exact ⟨mk10, mI10, i10, kc10⟩
      · exact ⟨mk11, mI11, i22, kc11⟩
    case cl =>
      have e := of_decide_eq_true e
      simp only [flT, List.mem_cons, List.mem_nil_iff, or_false, Prod.mk.injEq] at e
      rcases e with ⟨rfl, rfl⟩ | ⟨rfl, rfl⟩ | ⟨rfl, rfl⟩ | ⟨rfl, rfl⟩ | ⟨rfl, rfl⟩ | ⟨rfl, rfl⟩ | ⟨rfl, rfl⟩ | ⟨rfl, rfl⟩ | ⟨rfl, rfl⟩
      · exact ⟨pg10, hd10, po10, sa10⟩
      · exact ⟨pg11, hd11, po11, sa11⟩
      · exact ⟨pg11, hd11, po11, sa11⟩
      · exact ⟨pg11, hd11, po11, sa11⟩
      · exact ⟨pg11, hd11, po11, sa11⟩
      · exact ⟨pg11, hd11, po11, sa11⟩
      · exact ⟨pg11, hd11, po11, sa11⟩
      · exact ⟨pg11, hd11, po11, sa11⟩
      · exact ⟨pg11, hd11, po11, sa11⟩
    case na =>
      have e := of_decide_eq_true e
      simp only [flT, List.mem_cons, List.mem_nil_iff, or_false, Prod.mk.injEq] at e
      rcases e with ⟨rfl, rfl⟩ | ⟨rfl, rfl⟩ | ⟨rfl, rfl⟩ | ⟨rfl, rfl⟩ | ⟨rfl, rfl⟩ | ⟨rfl, rfl⟩ | ⟨rfl, rfl⟩ | ⟨rfl, rfl⟩ | ⟨rfl, rfl⟩
      · cases e2; exact nF10x1
      · cases e2; exact nF11x12
      · cases e2; exact nF11x3
      · cases e2; exact nF11x13
      · cases e2; exact nF11x14
      · cases e2; exact nF11x15
      · cases e2; exact nF11x16
      · cases e2; exact nF11x17
      · cases e2; exact nF11x5
    case me =>
      have e := meOf_mem e
      simp only [meT, List.mem_cons, List.mem_nil_iff, or_false, Prod.mk.injEq] at e
      rcases e with ⟨rfl, rfl, rfl⟩ | ⟨rfl, rfl, rfl⟩ | ⟨rfl, rfl, rfl⟩ | ⟨rfl, rfl, rfl⟩ | ⟨rfl, rfl, rfl⟩ | ⟨rfl, rfl, rfl⟩ | ⟨rfl, rfl, rfl⟩ | ⟨rfl, rfl, rfl⟩ | ⟨rfl, rfl, rfl⟩ | ⟨rfl, rfl, rfl⟩ | ⟨rfl, rfl, rfl⟩ | ⟨rfl, rfl, rfl⟩ | ⟨rfl, rfl, rfl⟩ | ⟨rfl, rfl, rfl⟩ | ⟨rfl, rfl, rfl⟩ | ⟨rfl, rfl, rfl⟩
      · cases e2; exact ⟨⟨pg8, hd8, po8, sa8⟩, ⟨mT8x22, i1, k1⟩⟩
      · cases e2; exact ⟨⟨pg8, hd8, po8, sa8⟩, ⟨mT8x23, i2, k2⟩⟩
      · cases e2; exact ⟨⟨pg8, hd8, po8, sa8⟩, ⟨mT8x0, i3, k3⟩⟩
      · cases e2; exact ⟨⟨pg8, hd8, po8, sa8⟩, ⟨mT8x24, i4, k4⟩⟩
      · cases e2; exact ⟨⟨pg8, hd8, po8, sa8⟩, ⟨mT8x4, i5, k5⟩⟩
      · cases e2; exact ⟨⟨pg9, hd9, po9, sa9⟩, ⟨mT9x22, i6, k6⟩⟩
      · cases e2; exact ⟨⟨pg9, hd9, po9, sa9⟩, ⟨mT9x23, i7, k7⟩⟩
      · cases e2; exact ⟨⟨pg9, hd9, po9, sa9⟩, ⟨mT9x0, i8, k8⟩⟩
      · cases e2; exact ⟨⟨pg9, hd9, po9, sa9⟩, ⟨mT9x24, i4, k4⟩⟩
      · cases e2; exact ⟨⟨pg9, hd9, po9, sa9⟩, ⟨mT9x4, i5, k5⟩⟩
      · cases e2; exact ⟨⟨pg10, hd10, po10, sa10⟩, ⟨mT10x6, i11, k11⟩⟩
      · cases e2; exact ⟨⟨pg10, hd10, po10, sa10⟩, ⟨mT10x21, i12, k12⟩⟩
      · cases e2; exact ⟨⟨pg10, hd10, po10, sa10⟩, ⟨mT10x2, i13, k13⟩⟩
      · cases e2; exact ⟨⟨pg10, hd10, po10, sa10⟩, ⟨mT10x20, i14, k14⟩⟩
      · cases e2; exact ⟨⟨pg10, hd10, po10, sa10⟩, ⟨mT10x19, i15, k15⟩⟩
      · cases e2; exact ⟨⟨pg10, hd10, po10, sa10⟩, ⟨mT10x18, i16, k16⟩⟩
    case gl =>
      have e := inOf_mem e
      simp only [glT, List.mem_cons, List.mem_nil_iff, or_false, Prod.mk.injEq] at e
      rcases e with ⟨rfl, rfl⟩ | ⟨rfl, rfl⟩ | ⟨rfl, rfl⟩ | ⟨rfl, rfl⟩ | ⟨rfl, rfl⟩
      · cases e2; exact ⟨_, V.int 8, PySem.W.mg_of X G vG0, ⟨_, rfl⟩, fun H => .int _⟩
      · cases e2; exact ⟨_, V.str "abcdefghijklmnopqrstuvwxyz", PySem.W.mg_of X G vG1, ⟨_, rfl⟩, fun H => .str _⟩
      · cases e2; exact ⟨_, V.int 1000000000, PySem.W.mg_of X G vG2, ⟨_, rfl⟩, fun H => .int _⟩
      · cases e2; exact ⟨_, V.int 50, PySem.W.mg_of X G vG3, ⟨_, rfl⟩, fun H => .int _⟩
      · cases e2; exact ⟨_, V.ref tg4, PySem.W.mg_of X G vG4, rfl, fun H => .tup (.inr ⟨_, _, _, vH4, rfl, rfl, (show (3 : Nat) ≤ sizeLine by decide), (show Vals [V.str "stay", V.str "bell", V.str "now"] _ from .cons ⟨_, rfl⟩ (.cons ⟨_, rfl⟩ (.cons ⟨_, rfl⟩ (.nil))))⟩) (.cons (.str _) (.cons (.str _) (.cons (.str _) (.nil))))⟩
    case w0 =>
      have e := of_decide_eq_true e
      simp only [i0T, List.mem_cons, List.mem_nil_iff, or_false, Prod.mk.injEq] at e
      rcases e with rfl | rfl
      · exact ⟨mk8, i0x8, kc8⟩
      · exact ⟨mk9, i0x9, kc9⟩
    case w1 =>
      have e := of_decide_eq_true e
      simp only [exT, List.mem_cons, List.mem_nil_iff, or_false, Prod.mk.injEq] at e
      rcases e with rfl | rfl | rfl | rfl | rfl | rfl
      · exact ⟨xI2, xK2, xS2, xT2⟩
      · exact ⟨xI6, xK6, xS6, xT6⟩
      · exact ⟨xI4, xK4, xS4, xT4⟩
      · exact ⟨xI5, xK5, xS5, xT5⟩
      · exact ⟨xI1, xK1, xS1, xT1⟩
      · exact ⟨xI3, xK3, xS3, xT3⟩
    case w2 =>
      have e := of_decide_eq_true e
      simp only [exT, List.mem_cons, List.mem_nil_iff, or_false, Prod.mk.injEq] at e
      rcases e with rfl | rfl | rfl | rfl | rfl | rfl
      · exact ⟨xa2, xb2, xS2, xd2, xe2, hn0, ht0, xm2⟩
      · exact ⟨xa6, xb6, xS6, xd6, xe6, hn0, ht0, xm6⟩
      · exact ⟨xa4, xb4, xS4, xd4, xe4, hn0, ht0, xm4⟩
      · exact ⟨xa5, xb5, xS5, xd5, xe5, hn0, ht0, xm5⟩
      · exact ⟨xa1, xb1, xS1, xd1, xe1, hn0, ht0, xm1⟩
      · exact ⟨xa3, xb3, xS3, xd3, xe3, hn0, ht0, xm3⟩
    case w3 =>
      have e := twOf_mem e
      simp only [xmT, List.mem_cons, List.mem_nil_iff, or_false, Prod.mk.injEq] at e
      rcases e with ⟨rfl, rfl, rfl⟩ | ⟨rfl, rfl, rfl⟩ | ⟨rfl, rfl, rfl⟩ | ⟨rfl, rfl, rfl⟩ | ⟨rfl, rfl, rfl⟩ | ⟨rfl, rfl, rfl⟩
      · exact exm_of xS0 cq0 xT0 sb2x0
      · exact exm_of xS0 cq0 xT0 sb6x0
      · exact exm_of xS0 cq0 xT0 sb4x0
      · exact exm_of xS0 cq0 xT0 sb5x0
      · exact exm_of xS0 cq0 xT0 sb1x0
      · exact exm_of xS0 cq0 xT0 sb3x0
    case w4 =>
      exact absurd (of_decide_eq_true (p := k ∈ icT) e) (by simp [icT])
    case w5 =>
      have e := twOf_mem e
      simp only [isT, List.mem_cons, List.mem_nil_iff, or_false, Prod.mk.injEq] at e
      rcases e with ⟨rfl, rfl, rfl⟩ | ⟨rfl, rfl, rfl⟩ | ⟨rfl, rfl, rfl⟩ | ⟨rfl, rfl, rfl⟩ | ⟨rfl, rfl, rfl⟩ | ⟨rfl, rfl, rfl⟩
      · exact kit_ofF cq6 xT6 sf6 sb2x6
      · exact kit_ofT cq6 xT6 sf6 sf6
      · exact kit_ofF cq6 xT6 sf6 sb4x6
      · exact kit_ofF cq6 xT6 sf6 sb5x6
      · exact kit_ofF cq6 xT6 sf6 sb1x6
      · exact kit_ofF cq6 xT6 sf6 sb3x6
    case w6 =>
      have e := of_decide_eq_true e
      simp only [izT, List.mem_cons, List.mem_nil_iff, or_false, Prod.mk.injEq] at e
      rcases e with rfl
      · exact kit_zero cq6 xT6
    case w7 =>
      have e := inOf_mem e
      simp only [ivT, List.mem_cons, List.mem_nil_iff, or_false, Prod.mk.injEq] at e
      rcases e with ⟨rfl, rfl⟩ | ⟨rfl, rfl⟩ | ⟨rfl, rfl⟩ | ⟨rfl, rfl⟩ | ⟨rfl, rfl⟩ | ⟨rfl, rfl⟩
      · exact kit_val iv2
      · exact kit_val iv6
      · exact kit_val iv4
      · exact kit_val iv5
      · exact kit_val iv1
      · exact kit_val iv3
    case bn =>
      simp only [ct, bls, List.mem_cons, List.mem_nil_iff, or_false] at hx
      rcases hx with rfl | rfl | rfl | rfl | rfl | rfl | rfl | rfl | rfl | rfl | rfl | rfl
      · exact PySem.W.mg_none_of X G z0
      · exact PySem.W.mg_none_of X G z1
      · exact PySem.W.mg_none_of X G z2
      · exact PySem.W.mg_none_of X G z3
      · exact PySem.W.mg_none_of X G z4
      · exact PySem.W.mg_none_of X G z5
      · exact PySem.W.mg_none_of X G z6
      · exact PySem.W.mg_none_of X G z7
      · exact PySem.W.mg_none_of X G z8
      · exact PySem.W.mg_none_of X G z9
      · exact PySem.W.mg_none_of X G z10
      · exact PySem.W.mg_none_of X G z11
  exact ⟨PySem.W.fnOf "law" "law" (defArgs s32) (defBody s32) (defScope s32) .none kV32 dc32 pm32 an32 cd32 ct32, fun s v => .of_eq rfl, fun base _ _ => law_end (P := ⟨sg, K, cl⟩) (law_fn (base := base) (w := w) (prog := l.prog) S 8 32 ⟨1, 10, b32, []⟩ rfl) hp⟩
end LK
open PySem PySem.W PyProof.Rows
set_option maxRecDepth 100000 in
set_option maxHeartbeats 0 in
theorem PySem.Challenge.cw_pitclear_k10_sleepers_holds : PySem.Challenge.rw_pitclear_k10_sleepers.Holds := by
  w_on; o_law; k_head; (case hw => w_witness2)
  k_fill
  refine Mir.walk (l := PySem.Challenge.rw_pitclear_k10_sleepers) (n := 8) rfl rfl ⟨rfl, by decide, by decide⟩ (fun w h Y => PySem.W.kIn_of Y) ?F
  case F =>
    intro w mg fa h KX G hmg
    refine' LK.all_mk KX G hmg ?aC0 ?aC1 ?aC2 ?aC3 ?aC4 ?aC5 ?aC6 ?aC8 ?aC9 ?aC10 ?aC11 ?pg8 ?hd8 ?po8 ?sa8 ?mk8 ?kc8 ?i0x8 ?mT8x22 ?mT8x23 ?mT8x0 ?mT8x24 ?mT8x4 ?pg9 ?hd9 ?po9 ?sa9 ?mk9 ?kc9 ?i0x9 ?mT9x22 ?mT9x23 ?mT9x0 ?mT9x24 ?mT9x4 ?pg10 ?hd10 ?po10 ?sa10 ?mk10 ?kc10 ?nF10x1 ?mT10x6 ?mT10x21 ?mT10x2 ?mT10x20 ?mT10x19 ?mT10x18 ?mI10 ?pg11 ?hd11 ?po11 ?sa11 ?mk11 ?kc11 ?nF11x12 ?nF11x3 ?nF11x13 ?nF11x14 ?nF11x15 ?nF11x16 ?nF11x17 ?nF11x5 ?mI11 ?hn0 ?ht0 ?xI2 ?xK2 ?xS2 ?xT2 ?xa2 ?xb2 ?xd2 ?xe2 ?xm2 ?xI6 ?xK6 ?xS6 ?xT6 ?xa6 ?xb6 ?xd6 ?xe6 ?xm6 ?xI4 ?xK4 ?xS4 ?xT4 ?xa4 ?xb4 ?xd4 ?xe4 ?xm4 ?xI5 ?xK5 ?xS5 ?xT5 ?xa5 ?xb5 ?xd5 ?xe5 ?xm5 ?xI1 ?xK1 ?xS1 ?xT1 ?xa1 ?xb1 ?xd1 ?xe1 ?xm1 ?xI3 ?xK3 ?xS3 ?xT3 ?xa3 ?xb3 ?xd3 ?xe3 ?xm3 ?cq0 ?xT0 ?sf0 ?cq6 ?sf6 ?xS0 ?sb2x6 ?sb4x6 ?sb5x6 ?sb1x6 ?sb3x6 ?sb2x0 ?sb6x0 ?sb4x0 ?sb5x0 ?sb1x0 ?sb3x0 ?iv2 ?iv6 ?iv4 ?iv5 ?iv1 ?iv3 ?a0 ?l0 ?c0 ?k0 ?i1 ?l1 ?c1 ?k1 ?i2 ?l2 ?c2 ?k2 ?i3 ?l3 ?c3 ?k3 ?i4 ?l4 ?c4 ?k4 ?i5 ?l5 ?c5 ?k5 ?i6 ?l6 ?c6 ?k6 ?i7 ?l7 ?c7 ?k7 ?i8 ?l8 ?c8 ?k8 ?a9 ?l9 ?c9 ?k9 ?i10 ?l10 ?c10 ?k10 ?i11 ?l11 ?c11 ?k11 ?i12 ?l12 ?c12 ?k12 ?i13 ?l13 ?c13 ?k13 ?i14 ?l14 ?c14 ?k14 ?i15 ?l15 ?c15 ?k15 ?i16 ?l16 ?c16 ?k16 ?a17 ?l17 ?c17 ?k17 ?a18 ?l18 ?c18 ?k18 ?a19 ?l19 ?c19 ?k19 ?a20 ?l20 ?c20 ?k20 ?a21 ?l21 ?c21 ?k21 ?i22 ?l22 ?c22 ?k22 ?dl22 ?a23 ?l23 ?c23 ?k23 ?a24 ?l24 ?c24 ?k24 ?a25 ?l25 ?c25 ?k25 ?a26 ?l26 ?c26 ?k26 ?a27 ?l27 ?c27 ?k27 ?a28 ?l28 ?c28 ?k28 ?a29 ?l29 ?c29 ?k29 ?a30 ?l30 ?c30 ?k30 ?a31 ?l31 ?c31 ?k31 ?a32 ?l32 ?c32 ?k32 ?z0 ?z1 ?z2 ?z3 ?z4 ?z5 ?z6 ?z7 ?z8 ?z9 ?z10 ?z11 ?vG0 ?vG1 ?vG2 ?vG3 ?vG4 ?vH4
    (case aC0 => k_is)
    (case aC1 => k_is)
    (case aC2 => k_is)
    (case aC3 => k_is)
    (case aC4 => k_is)
    (case aC5 => k_is)
    (case aC6 => k_is)
    (case aC8 => k_is)
    (case aC9 => k_is)
    (case aC10 => k_is)
    (case aC11 => k_is)
    (case pg8 => k_is)
    (case hd8 => k_is)
    (case po8 => k_is)
    (case sa8 => k_is)
    (case mk8 => k_is)
    (case kc8 => k_is)
    (case i0x8 => k_is)
    (case mT8x22 => k_is)
    (case mT8x23 => k_is)
    (case mT8x0 => k_is)
    (case mT8x24 => k_is)
    (case mT8x4 => k_is)
    (case pg9 => k_is)
    (case hd9 => k_is)
    (case po9 => k_is)
    (case sa9 => k_is)
    (case mk9 => k_is)
    (case kc9 => k_is)
    (case i0x9 => k_is)
    (case mT9x22 => k_is)
    (case mT9x23 => k_is)
    (case mT9x0 => k_is)
    (case mT9x24 => k_is)
    (case mT9x4 => k_is)
    (case pg10 => k_is)
    (case hd10 => k_is)
    (case po10 => k_is)
    (case sa10 => k_is)
    (case mk10 => k_is)
    (case kc10 => k_is)
    (case nF10x1 => k_is)
    (case mT10x6 => k_is)
    (case mT10x21 => k_is)
    (case mT10x2 => k_is)
    (case mT10x20 => k_is)
    (case mT10x19 => k_is)
    (case mT10x18 => k_is)
    (case mI10 => k_is)
    (case pg11 => k_is)
    (case hd11 => k_is)
    (case po11 => k_is)
    (case sa11 => k_is)
    (case mk11 => k_is)
    (case kc11 => k_is)
    (case nF11x12 => k_is)
    (case nF11x3 => k_is)
    (case nF11x13 => k_is)
    (case nF11x14 => k_is)
    (case nF11x15 => k_is)
    (case nF11x16 => k_is)
    (case nF11x17 => k_is)
    (case nF11x5 => k_is)
    (case mI11 => k_is)
    (case hn0 => k_is)
    (case ht0 => k_is)
    (case xI2 => k_exc)
    (case xK2 => k_is)
    (case xS2 => k_is)
    (case xT2 => k_is)
    (case xa2 => k_is)
    (case xb2 => k_is)
    (case xd2 => k_is)
    (case xe2 => k_is)
    (case xm2 => k_is)
    (case xI6 => k_exc)
    (case xK6 => k_is)
    (case xS6 => k_is)
    (case xT6 => k_is)
    (case xa6 => k_is)
    (case xb6 => k_is)
    (case xd6 => k_is)
    (case xe6 => k_is)
    (case xm6 => k_is)
    (case xI4 => k_exc)
    (case xK4 => k_is)
    (case xS4 => k_is)
    (case xT4 => k_is)
    (case xa4 => k_is)
    (case xb4 => k_is)
    (case xd4 => k_is)
    (case xe4 => k_is)
    (case xm4 => k_is)
    (case xI5 => k_exc)
    (case xK5 => k_is)
    (case xS5 => k_is)
    (case xT5 => k_is)
    (case xa5 => k_is)
    (case xb5 => k_is)
    (case xd5 => k_is)
    (case xe5 => k_is)
    (case xm5 => k_is)
    (case xI1 => k_exc)
    (case xK1 => k_is)
    (case xS1 => k_is)
    (case xT1 => k_is)
    (case xa1 => k_is)
    (case xb1 => k_is)
    (case xd1 => k_is)
    (case xe1 => k_is)
    (case xm1 => k_is)
    (case xI3 => k_exc)
    (case xK3 => k_is)
    (case xS3 => k_is)
    (case xT3 => k_is)
    (case xa3 => k_is)
    (case xb3 => k_is)
    (case xd3 => k_is)
    (case xe3 => k_is)
    (case xm3 => k_is)
    (case cq0 => k_is)
    (case xT0 => k_is)
    (case sf0 => k_is)
    (case cq6 => k_is)
    (case sf6 => k_is)
    (case xS0 => k_is)
    (case sb2x6 => k_is)
    (case sb4x6 => k_is)
    (case sb5x6 => k_is)
    (case sb1x6 => k_is)
    (case sb3x6 => k_is)
    (case sb2x0 => k_is)
    (case sb6x0 => k_is)
    (case sb4x0 => k_is)
    (case sb5x0 => k_is)
    (case sb1x0 => k_is)
    (case sb3x0 => k_is)
    (case iv2 => k_is)
    (case iv6 => k_is)
    (case iv4 => k_is)
    (case iv5 => k_is)
    (case iv1 => k_is)
    (case iv3 => k_is)
    (case a0 => k_is)
    (case l0 => k_is)
    (case c0 => k_is)
    (case k0 => k_is)
    (case i1 => k_is)
    (case l1 => k_is)
    (case c1 => k_is)
    (case k1 => k_is)
    (case i2 => k_is)
    (case l2 => k_is)
    (case c2 => k_is)
    (case k2 => k_is)
    (case i3 => k_is)
    (case l3 => k_is)
    (case c3 => k_is)
    (case k3 => k_is)
    (case i4 => k_is)
    (case l4 => k_is)
    (case c4 => k_is)
    (case k4 => k_is)
    (case i5 => k_is)
    (case l5 => k_is)
    (case c5 => k_is)
    (case k5 => k_is)
    (case i6 => k_is)
    (case l6 => k_is)
    (case c6 => k_is)
    (case k6 => k_is)
    (case i7 => k_is)
    (case l7 => k_is)
    (case c7 => k_is)
    (case k7 => k_is)
    (case i8 => k_is)
    (case l8 => k_is)
    (case c8 => k_is)
    (case k8 => k_is)
    (case a9 => k_is)
    (case l9 => k_is)
    (case c9 => k_is)
    (case k9 => k_is)
    (case i10 => k_is)
    (case l10 => k_is)
    (case c10 => k_is)
    (case k10 => k_is)
    (case i11 => k_is)
    (case l11 => k_is)
    (case c11 => k_is)
    (case k11 => k_is)
    (case i12 => k_is)
    (case l12 => k_is)
    (case c12 => k_is)
    (case k12 => k_is)
    (case i13 => k_is)
    (case l13 => k_is)
    (case c13 => k_is)
    (case k13 => k_is)
    (case i14 => k_is)
    (case l14 => k_is)
    (case c14 => k_is)
    (case k14 => k_is)
    (case i15 => k_is)
    (case l15 => k_is)
    (case c15 => k_is)
    (case k15 => k_is)
    (case i16 => k_is)
    (case l16 => k_is)
    (case c16 => k_is)
    (case k16 => k_is)
    (case a17 => k_is)
    (case l17 => k_is)
    (case c17 => k_is)
    (case k17 => k_is)
    (case a18 => k_is)
    (case l18 => k_is)
    (case c18 => k_is)
    (case k18 => k_is)
    (case a19 => k_is)
    (case l19 => k_is)
    (case c19 => k_is)
    (case k19 => k_is)
    (case a20 => k_is)
    (case l20 => k_is)
    (case c20 => k_is)
    (case k20 => k_is)
    (case a21 => k_is)
    (case l21 => k_is)
    (case c21 => k_is)
    (case k21 => k_is)
    (case i22 => k_is)
    (case l22 => k_is)
    (case c22 => k_is)
    (case k22 => k_is)
    (case dl22 => k_is)
    (case a23 => k_is)
    (case l23 => k_is)
    (case c23 => k_is)
    (case k23 => k_is)
    (case a24 => k_is)
    (case l24 => k_is)
    (case c24 => k_is)
    (case k24 => k_is)
    (case a25 => k_is)
    (case l25 => k_is)
    (case c25 => k_is)
    (case k25 => k_is)
    (case a26 => k_is)
    (case l26 => k_is)
    (case c26 => k_is)
    (case k26 => k_is)
    (case a27 => k_is)
    (case l27 => k_is)
    (case c27 => k_is)
    (case k27 => k_is)
    (case a28 => k_is)
    (case l28 => k_is)
    (case c28 => k_is)
    (case k28 => k_is)
    (case a29 => k_is)
    (case l29 => k_is)
    (case c29 => k_is)
    (case k29 => k_is)
    (case a30 => k_is)
    (case l30 => k_is)
    (case c30 => k_is)
    (case k30 => k_is)
    (case a31 => k_is)
    (case l31 => k_is)
    (case c31 => k_is)
    (case k31 => k_is)
    (case a32 => k_is)
    (case l32 => k_is)
    (case c32 => k_is)
    (case k32 => k_is)
    (case z0 => k_is)
    (case z1 => k_is)
    (case z2 => k_is)
    (case z3 => k_is)
    (case z4 => k_is)
    (case z5 => k_is)
    (case z6 => k_is)
    (case z7 => k_is)
    (case z8 => k_is)
    (case z9 => k_is)
    (case z10 => k_is)
    (case z11 => k_is)
    (case vG0 => k_is)
    (case vG1 => k_is)
    (case vG2 => k_is)
    (case vG3 => k_is)
    (case vG4 => k_is)
    (case vH4 => k_is)
