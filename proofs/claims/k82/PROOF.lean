import PyProof.Rows.All
import Wide.All
import HandS.Nested
import OpenK.AllK
import HandS.ExcCtx
import HandS.SuiteRaise
import HandS.ExcInitHot
import HandS.WordsExc
import Wide.FinOn
import HandS.ForMost
import HandS.ForExc
import HandS.Wide
import HandS.Walk
import HandS.Zip
import HandS.NestedK
import HandS.IsInst
import HandS.SortKw
import HandS.CallSlots
import HandS.Rev
import KE.KDictList
import HandS.WideBits
import HandS.TupLe
import HandS.ExcIs
import HandS.Defaults
import KE.DatumOrd
import HandS.Style
import HandS.TryOnly
import HandS.Iter
import HandS.Dict
import HandS.DictTup
import HandS.SetKeys
import HandS.TupLen
import KE.KDictWalk
import PyProof.DictMoreH
import HandS.SortInts
import HandS.ExcValue
import HandS.ExcField
import HandS.ExcInit
import KE.KExcIs
import HandS.ClsMeth
import HandS.Text
import HandS.StrMore
import HandS.More
import KE.GoesMore
import KE.GoesEnum
import HandS.Head0
import HandS.Head1
import HandS.Head2
import HandS.HeadHook1
import HandS.HeadHook2
import HandS.EndTab
import HandS.ListItems
import HandS.Deep
import HandS.FStr
import KE.KSortTupAny
import HandS.ReplaceLit
import KE.KIntText
import PyProof.Rows.Digits
import PyProof.Rows.StrOr
import PyProof.StrOps2
import PySem.Challenge.RW_thinbook_k82_rules_written
set_option Elab.async false
set_option pp.maxSteps 400
set_option synthInstance.maxHeartbeats 400000
set_option synthInstance.maxSize 2000
set_option linter.all false
set_option maxRecDepth 100000
set_option maxHeartbeats 4000000
/-! the tables of code objects that may grow: which there are -/
namespace Dl
def tabT : List NdefX.NTab := []
end Dl

/-! exceptions whose contexts are known: a chain of n, none of them tracked -/
namespace Dl
open PySem PySem.Spec PyProof.Rows L2
/-- from v on: n contexts, each a record that the heap holds -/
def Ch (B : Heap) (H : Hp) : Nat → Value → Prop
  | 0, v => v = .none
  | n + 1, v => ∃ (b : Addr) (o : Obj) (vs : Array Value) (x : Value), v = .ref b ∧ B.get? b = some o ∧ H b = none ∧ o.data = .fields vs ∧ vs[2]? = some x ∧ Ch B H n x
theorem Ch.mono {B B' : Heap} {H H' : Hp} (hb : ∀ b o vs, B.get? b = some o → o.data = .fields vs → H b = none → B'.get? b = some o ∧ H' b = none) : ∀ {n : Nat} {v : Value}, Ch B H n v → Ch B' H' n v
  | 0, _, h => h
  | n + 1, _, ⟨b, o, vs, x, e, hg, hn, hd, h2, r⟩ => ⟨b, o, vs, x, e, (hb b o vs hg hd hn).1, (hb b o vs hg hd hn).2, hd, h2, Ch.mono hb r⟩
theorem Ch.one {B : Heap} {H : Hp} : ∀ {n m : Nat} {v : Value}, Ch B H n v → Ch B H m v → n = m
  | 0, 0, _, _, _ => rfl
  | 0, m + 1, _, h, ⟨b, _, _, _, e, _⟩ => by rw [show _ = Value.none from h] at e; cases e
  | n + 1, 0, _, ⟨b, _, _, _, e, _⟩, h => by rw [show _ = Value.none from h] at e; cases e
  | n + 1, m + 1, _, ⟨b, o, vs, x, e, hg, hn, hd, h2, r⟩, ⟨b', o', vs', x', e', hg', hn', hd', h2', r'⟩ => by
    rw [e] at e'
    cases e'
    rw [hg] at hg'
    cases hg'
    rw [hd] at hd'
    cases hd'
    rw [h2] at h2'
    cases h2'
    rw [Ch.one r r']
/-- what is kept of the exception's own record: class, dict, context -/
def CtxV (x : Value) (o : Obj) : Prop := ∀ vs : Array Value, o.data = .fields vs → vs[2]? = some x
theorem CtxV.steady {x : Value} : PXN.Steady1 (CtxV x) := fun o v h => by
  obtain ⟨c, d, dt, sl⟩ := o
  cases dt with
  | fields vs0 =>
    intro vs e
    have e2 : vs0.setIfInBounds 1 v = vs := Data.fields.inj e
    have e3 : (vs0.setIfInBounds 1 v)[2]? = vs0[2]? := by simp [Array.getElem?_setIfInBounds]
    rw [← e2, e3]
    exact h vs0 rfl
  | _ =>
    intro vs e
    first
    | exact Data.noConfusion e
    | cases e
def Zk (cls : Value) (d : Option Addr) (x : Value) : Obj → Prop := fun o => o.cls = cls ∧ o.dict = d ∧ CtxV x o
theorem Zk.steady {cls : Value} {d : Option Addr} {x : Value} : PXN.Steady1 (Zk cls d x) := fun o v h => ⟨PXN.steady_cls o v h.1, PXN.steady_dict o v h.2.1, CtxV.steady o v h.2.2⟩
theorem Zk.zc {cls : Value} {d : Option Addr} {x : Value} {o : Obj} (h : Zk cls d x o) : Zc cls d o := ⟨h.1, h.2.1⟩
/-- an exception in the air, its chain in the ground -/
def XE (X : Cx) (W : WX) (u : Value) (s' : Shared) : Prop :=
  ∃ (a : Addr) (B : Heap) (sI : Shared) (pins : List (Addr × Obj)) (σ : L2.St) (H : Hp) (cls : Value) (d : Option Addr) (n : Nat) (x : Value),
    u = .ref a ∧ Inv X pins σ H sI ∧ (∀ b o, sI.heap.get? b = some o → b ∉ frs X.stack → B.get? b = some o) ∧ sI.heap.UpToSlots s'.heap ∧
      Sky B X.stack a (Zk cls d x) X.env.locals s'.heap ∧ Ch B H n x ∧ H a = none ∧ s'.os = sI.os ∧ AllBare s'.gens ∧ W cls d σ H
def Takes (X : Cx) (W : WX) : Prop := ∀ u s', XE X W u s' → X.xe u s'
theorem Takes.imp {X : Cx} {W W' : WX} (t : Takes X W) (h : ∀ c d σ H, W' c d σ H → W c d σ H) : Takes X W' := fun u s' ⟨a, B, sI, pins, σ, H, cls, d, n, x, e, I, nb, up, sky, ch, na, os, ag, w⟩ =>
  t u s' ⟨a, B, sI, pins, σ, H, cls, d, n, x, e, I, nb, up, sky, ch, na, os, ag, h _ _ _ _ w⟩
/-- no context is the chain of none -/
theorem Takes.n {X : Cx} {W : WX} (t : Takes X W) : L2N.Takes X W := fun u s' ⟨a, B, sI, pins, σ, H, cls, d, e, I, nb, up, sky, na, os, ag, w⟩ =>
  t u s' ⟨a, B, sI, pins, σ, H, cls, d, 0, .none, e, I, nb, up, sky, rfl, na, os, ag, w⟩
/-- behind a call that let an exception out -/
def CX (P : Program) (w : World) (outer : List Env) (H : Hp) (s : Shared) (E : XK) (u : Value) (s' : Shared) : Prop :=
  ∃ (a : Addr) (B : Heap) (H' : Hp) (cls : Value) (d : Option Addr) (n : Nat) (x : Value), u = .ref a ∧ HandSPX.FlyingZ B outer a (Zk cls d x) s'.heap ∧ Ch B H' n x ∧ HOk P w H' B ∧ UB (frs outer) H H' s.heap B s'.heap ∧ H' a = none ∧ s'.os = s.os ∧ AllBare s'.gens ∧ E cls d H'
section
variable {X : Cx} {pins : List (Addr × Obj)} {σ : L2.St} {H : Hp} {sI s s' : Shared} {B : Heap} {W : WX} {E : XK}
theorem XE.of_call (I : Inv X pins σ H s) (hW : ∀ cls d H', E cls d H' → W cls d σ H') {u : Value} (c : CX X.prog X.w X.stack H s E u s') : XE X W u s' := by
  obtain ⟨a, B, H', cls, d, n, x, rfl, fl, ch, hok, ub, na, os, ag, hE⟩ := c
  obtain ⟨G, g1, g2⟩ := restrict s'.heap fun b => (B.get? b).isSome || decide (b ∈ frs X.stack)
  have st : B.StaysIn s'.heap := fl.1
  have gB : ∀ b o, B.get? b = some o → G.get? b = some o := fun b o e => by
    rw [g1 b (by simp [e])]
    exact st b o e
  have gF : ∀ b, b ∈ frs X.stack → G.get? b = s'.heap.get? b := fun b hb => g1 b (by simp [hb])
  have og : ∀ b o, G.get? b = some o → s'.heap.get? b = some o ∧ ((B.get? b).isSome = true ∨ b ∈ frs X.stack) := fun b o e => by
    cases q : ((B.get? b).isSome || decide (b ∈ frs X.stack)) with
    | false => rw [g2 b q] at e; cases e
    | true =>
      rw [g1 b q] at e
      exact ⟨e, by simpa [Bool.or_eq_true] using q⟩
  refine ⟨a, B, { s with heap := G, gens := s'.gens, drawn := s'.drawn, toks := s'.toks }, pins, σ, H', cls, d, n, x, rfl, ?_, fun b o e hb => ?_, Heap.UpToSlots.of_keeps fun b o e => (og b o e).1, .inr (.inl fl), ch, na, os, ag, hW _ _ _ hE⟩
  · refine I.call (ch := []) ⟨fun b o e n hb _ => gB b o (ub.keep b o e n hb), fun b o e n hb _ => ?_, fun b o e n _ => ub.free b o e n, fun b o e _ => ?_, ub.tups, ub.frzs, ub.tbls⟩ (hok.kept gB) ag (fun _ z => nomatch z)
    · obtain ⟨sl, q⟩ := ub.slot b o e hb
      exact ⟨sl, by rw [gF b hb]; exact q⟩
    · by_cases hb : b ∈ frs X.stack
      · obtain ⟨sl, q⟩ := ub.slot b o e hb
        exact ⟨_, by rw [gF b hb]; exact q⟩
      · obtain ⟨o', q⟩ := ub.there b o e hb
        exact ⟨o', gB b o' q⟩
  · obtain ⟨e', h⟩ := og b o e
    rcases h with h | h
    · obtain ⟨o', q⟩ := Option.isSome_iff_exists.mp h
      have z := st b o' q
      rw [e'] at z; cases z
      exact q
    · exact absurd h hb
theorem XE.leave (hs : X.stack = X.env :: X.outer) (hf : X.env.frame = some X.env.locals) (hex : X.ex = []) {E₁ : Value → Shared → Prop} (hW : ∀ cls d σ H, W cls d σ H → E cls d H) {u : Value} (x : XE X W u s') :
    wpAny (model X.prog X.w) X.A (leaving X.env u) (fun _ s'' => CX X.prog X.w X.outer X.H_0 X.s_0 E u s'') E₁ s' := by
  obtain ⟨a, B, sI, pins, σ, H, cls, d, n, x, rfl, I, nb, up, sky, ch, na, os, ag, w⟩ := x
  have hfr : X.A.frames = some (X.env :: X.outer) := by rw [I.ok.frames, hs]
  have nst : ∀ b o, X.s_0.heap.get? b = some o → b ∉ X.fs → b ∉ frs X.stack := fun b o e hb hm => by
    rcases List.mem_cons.mp (I.stkSub b hm) with z | z
    · have h1 := Heap.lt_size e
      have h2 := I.ok.above
      rw [z] at h1
      exact absurd (Nat.lt_of_lt_of_le h1 h2) (Nat.lt_irrefl _)
    · exact hb z
  have hex' : ∀ b, b ∉ X.ex := fun b hb => by rw [hex] at hb; cases hb
  have hokB := I.inGround nb
  have fin : ∀ h', HandSPX.FlyingZ B X.outer a (Zk cls d x) h' → s'.heap.UpToSlots h' → CX X.prog X.w X.outer X.H_0 X.s_0 E (.ref a) { s' with heap := h' } := fun h' fl up' => by
    refine ⟨a, B, H, cls, d, n, x, rfl, fl, ch, hokB, ⟨fun b o e n hb => nb b o (I.base.keep b o e n hb (hex' b)) (nst b o e hb), fun b o e hb => ?_, fun b o e n => I.base.free b o e n (hex' b), fun b o e hb => ?_, I.base.tups, I.base.frzs, I.base.tbls⟩,
      na, os.trans I.os, ag, hW _ _ _ _ w⟩
    · obtain ⟨_, o₀, e₀, hnf⟩ := I.ok.funs.mem hb
      rw [e] at e₀; cases e₀
      obtain ⟨sl, e1⟩ := I.base.slot b o e (I.ok.frf b hb) hb (hex' b)
      obtain ⟨sl2, e2⟩ := up b _ e1 hnf
      obtain ⟨sl3, e3⟩ := up' b _ e2 hnf
      exact ⟨sl3, e3⟩
    · obtain ⟨o', e1⟩ := I.base.there b o e (hex' b)
      exact ⟨o', nb b o' e1 (nst b o e hb)⟩
  rw [hs] at sky
  rcases sky with ⟨hB, hn, hl, oe, vs, he, hz, hd, h1⟩ | fl | hd
  · exact PXN.leaving_firstZ Zk.steady hfr hl hf he hB hn hd h1 hz fin
  · exact PXN.leaves_onZ Zk.steady hfr hf fl fin
  · exact HandSPX.leaves_heldZ hf hd fin
theorem takes_of (hs : X.stack = X.env :: X.outer) (hf : X.env.frame = some X.env.locals) (hex : X.ex = []) {E₁ : Value → Shared → Prop}
    (hx : X.xe = fun e s' => wpAny (model X.prog X.w) X.A (leaving X.env e) (fun _ s'' => CX X.prog X.w X.outer X.H_0 X.s_0 E e s'') E₁ s') : Takes X (fun cls d _ H => E cls d H) := fun u s' x => by
  rw [hx]
  exact XE.leave (W := fun cls d _ H => E cls d H) (E := E) hs hf hex (fun _ _ _ _ h => h) x
end
/-! ### raising while one of a chain is handled -/
section
variable {prog : Program} {w : World} {A : Around} {E : Value → Shared → Prop} {s : Shared}
theorem unchain_code {a : Addr} {B : Heap} {H : Hp} {Q : Value → Shared → Prop} (q : Q .none s) (kb : ∀ b o, B.get? b = some o → s.heap.get? b = some o) (na : B.get? a = none) : ∀ (n m : Nat) (o slow : Value) (tg : Bool), Ch B H (n + 1) o → Ch B H m slow → n + 1 ≤ m →
    codeAny (model prog w) A (.builtin "proto.unchain" ⟨[.ref a, o, slow, .bool tg], []⟩) (fun r s' => match r with | .ok (.ret v) => Q v s' | .ok _ => False | .error e => E e s') s := by
  intro n
  induction n with
  | zero =>
    intro m o slow tg ho hs hm
    obtain ⟨b, ob, vs, x, rfl, hg, hn, hd, h2, hx⟩ := ho
    have ex : x = .none := hx
    subst ex
    refine codeAny_builtin HotX.entry_unchain ?_
    show wpAny _ _ (field (.ref b) 2 >>= _) _ _ s
    refine wpAny_bind (wpAny_field (kb _ _ hg) hd h2 ?_)
    rw [if_pos (show (Value.none == Value.none) = true from rfl)]
    first
    | exact wpAny_bind (wpAny_pure (wpAny_pure q))
    | exact wpAny_pure q
  | succ n ih =>
    intro m o slow tg ho hs hm
    obtain ⟨b, ob, vs, x, rfl, hg, hn, hd, h2, hx⟩ := ho
    have hx0 := hx
    obtain ⟨b1, ob1, vs1, x1, rfl, hg1, hn1, hd1, h21, hx1⟩ := hx
    refine codeAny_builtin HotX.entry_unchain ?_
    show wpAny _ _ (field (.ref b) 2 >>= _) _ _ s
    refine wpAny_bind (wpAny_field (kb _ _ hg) hd h2 ?_)
    rw [if_neg (show ¬ ((Value.ref b1 == Value.none) = true) by simp), if_neg (show ¬ ((Value.ref b1 == Value.ref a) = true) from fun z => by
        have e : b1 = a := by simpa using z
        rw [e, na] at hg1
        cases hg1),
      if_neg (show ¬ ((Value.ref b1 == slow) = true) from fun z => by
        have e : Value.ref b1 = slow := by simpa using z
        rw [← e] at hs
        have := Ch.one hx0 hs
        omega)]
    obtain ⟨k, rfl⟩ : ∃ k, m = k + 1 := ⟨m - 1, by omega⟩
    have ho1 : Ch B H (n + 1) (.ref b1) := hx0
    cases tg with
    | false =>
      refine wpAny_bind (wpAny_pure ?_)
      exact wpAny_pure ⟨Code.quiet_builtin _ (by decide +kernel), ih (k + 1) _ slow true ho1 hs (by omega)⟩
    | true =>
      obtain ⟨c, oc, vc, y, rfl, gc, nc, dc, c2, hy⟩ := hs
      refine wpAny_bind (wpAny_field (kb _ _ gc) dc c2 ?_)
      exact wpAny_pure ⟨Code.quiet_builtin _ (by decide +kernel), ih k _ y false ho1 hy (by omega)⟩
theorem raiseNew_ch {α : Type} {a x1 : Addr} {n : Nat} {B : Heap} {H : Hp} {oe : Obj} {vs : Array Value} {Q : α → Shared → Prop} (hh : A.handled = some (.ref x1)) (c : Ch B H (n + 1) (.ref x1)) (kb : ∀ b o, B.get? b = some o → s.heap.get? b = some o) (na : B.get? a = none)
    (ha : s.heap.get? a = some oe) (da : oe.data = .fields vs) (hi : 2 < vs.size) (hE : E (.ref a) { s with heap := s.heap.update a (Obj.mapFields (·.setIfInBounds 2 (.ref x1))) }) : wpAny (model prog w) A (raiseNew (.ref a) : Sem α) Q E s := by
  have hne : x1 ≠ a := fun z => by
    obtain ⟨b, o, _, _, e, hg, _⟩ := c
    cases e
    rw [z, na] at hg
    cases hg
  unfold raiseNew
  refine wpAny_bind (wpAny_handled ?_)
  rw [hh]
  have hb : (Value.ref x1 != Value.ref a) = true := HotX.ref_bne hne
  have un : ∀ {Q' : Value → Shared → Prop}, Q' .none s → wpAny (model prog w) A (holding [Value.ref a] (runValue (.builtin "proto.unchain" ⟨[.ref a, .ref x1, .ref x1, .bool false], []⟩))) Q' E s := fun {Q'} q =>
    wpAny_holding (wpAny_runValue (unchain_code q kb na n (n + 1) _ _ false c c (Nat.le_refl _)))
  first
  | (show wpAny _ _ (if (Value.ref x1 != Value.ref a) = true then _ else _) _ _ _
     rw [if_pos hb]
     first
     | exact wpAny_bind (un (wpAny_bind (HotX.chained ha da hi (wpAny_throw hE))))
     | exact wpAny_bind (wpAny_bind (un (HotX.chained ha da hi (wpAny_throw hE)))))
  | (refine wpAny_bind ?_
     show wpAny _ _ (if (Value.ref x1 != Value.ref a) = true then _ else _) _ _ _
     rw [if_pos hb]
     exact wpAny_bind (un (HotX.chained ha da hi (wpAny_throw hE))))
theorem raise_made_ch {env : Env} {x : Sem Value} {Q : Flow → Shared → Prop} {x1 : Addr}
    (h : wpAny (model prog w) A x (fun v s₁ => ∃ a oe vs cls B H n, v = .ref a ∧ s₁.heap.get? a = some oe ∧ oe.cls = cls ∧ oe.data = .fields vs ∧ vs[1]? = some .none ∧ 2 < vs.size ∧ A.handled = some (.ref x1) ∧ Ch B H (n + 1) (.ref x1) ∧ (∀ b o, B.get? b = some o → s₁.heap.get? b = some o) ∧ B.get? a = none ∧
      PySem.W.Looks (model prog w) s₁.heap (isSubtype cls (.type "BaseException")) true ∧ PySem.W.Looks (model prog w) s₁.heap (typeOf cls) (.type "type") ∧ E (.ref a) { s₁ with heap := s₁.heap.update a (Obj.mapFields (·.setIfInBounds 2 (.ref x1))) }) E s) :
    wpAny (model prog w) A (raiseStmt env (some x) none) Q E s := by
  unfold raiseStmt
  dsimp only
  refine wpAny_bind (wpAny_mono h (fun v s₁ h₁ => ?_) fun _ _ x => x)
  obtain ⟨a, oe, vs, cls, B, H, n, rfl, ha, hcls, hd, h1, hi, hh, hc, kb, na, L1, L3, hE⟩ := h₁
  have LT : PySem.W.Looks (model prog w) s₁.heap (typeOf (.ref a)) cls := fun A Q E s k q => wpAny_typeOf_ref (k _ _ ha) (by rw [hcls]; exact q)
  have LI : PySem.W.Looks (model prog w) s₁.heap (isInstance (.ref a) (.type "BaseException")) true := LT.andThen L1
  have hnt : ∀ {Q' : Bool → Shared → Prop}, Q' false s₁ → wpAny (model prog w) A (isType (.ref a)) Q' E s₁ := by
    intro Q' hq
    simp only [isType, loadHead]
    refine wpAny_bind (wpAny_loadPart ha ?_)
    rw [hd]; exact wpAny_pure hq
  refine wpAny_bind (wpAny_pure ?_)
  dsimp only
  refine wpAny_bind (wpAny_holding ?_)
  unfold excFromValue isExcClass
  refine wpAny_bind (wpAny_bind (hnt ?_))
  simp only [Bool.false_eq_true, if_false]
  refine wpAny_pure ?_
  simp only [Bool.false_eq_true, if_false]
  refine wpAny_bind (LI.here ?_)
  simp only [if_true]
  refine wpAny_pure ?_
  refine wpAny_bind (hnt ?_)
  simp only [Bool.false_eq_true, if_false]
  unfold raisedInstance
  refine wpAny_bind (wpAny_bind (LT.here (wpAny_bind (L3.here ?_))))
  rw [if_pos (beq_self_eq_true _)]
  refine wpAny_pure ?_
  unfold setFlight
  refine wpAny_bind (wpAny_bind (wpAny_field ha hd h1 ?_))
  rw [if_neg (by decide)]
  refine wpAny_pure ?_
  exact raiseNew_ch hh hc kb na ha hd hi hE
end
/-- the chain of what is handled, among the pins -/
def PinCh (pn : List (Addr × Obj)) : Nat → Value → Prop
  | 0, v => v = .none
  | n + 1, v => ∃ (b : Addr) (o : Obj) (vs : Array Value) (x : Value), v = .ref b ∧ (b, o) ∈ pn ∧ o.data = .fields vs ∧ vs[2]? = some x ∧ PinCh pn n x
theorem PinCh.mono {pn pn' : List (Addr × Obj)} (h : ∀ p ∈ pn, p ∈ pn') : ∀ {n : Nat} {v : Value}, PinCh pn n v → PinCh pn' n v
  | 0, _, r => r
  | n + 1, _, ⟨b, o, vs, x, e, m, d, h2, r⟩ => ⟨b, o, vs, x, e, h _ m, d, h2, PinCh.mono h r⟩
def HotK (X : Cx) : Prop := ∃ n a, X.A.handled = some (.ref a) ∧ PinCh X.pn (n + 1) (.ref a)
theorem PinCh.ch {X : Cx} {pins : List (Addr × Obj)} {σ : L2.St} {H : Hp} {s : Shared} (I : Inv X pins σ H s) : ∀ {n : Nat} {v : Value}, PinCh X.pn n v → Ch s.heap H n v
  | 0, _, r => r
  | n + 1, _, ⟨b, o, vs, x, e, m, d, h2, r⟩ => ⟨b, o, vs, x, e, (I.pin (b, o) (List.mem_append_left _ m)).1, (I.pin (b, o) (List.mem_append_left _ m)).2.1, d, h2, PinCh.ch I r⟩
section
variable {X : Cx} {W : WX}
/-- a new exception in the air, its chain in the state that it was made from -/
theorem XE.new {pins : List (Addr × Obj)} {σ : L2.St} {H : Hp} {sI s' : Shared} {a : Addr} {oe : Obj} {vs : Array Value} {cls : Value} {d : Option Addr} {n : Nat} {x : Value} (I : Inv X pins σ H sI) (k : ∀ b o, sI.heap.get? b = some o → s'.heap.get? b = some o) (hne : sI.heap.get? a = none) (he : s'.heap.get? a = some oe)
    (hz : Zk cls d x oe) (hd : oe.data = .fields vs) (h1 : vs[1]? = some .none) (ch : Ch sI.heap H n x) (na : H a = none) (os : s'.os = sI.os) (ag : AllBare s'.gens) (w : W cls d σ H) : XE X W (.ref a) s' := by
  have nf : ∀ b o vs, sI.heap.get? b = some o → o.data = .fields vs → b ∉ frs X.stack := fun b o vs e dd hm => by
    obtain ⟨_, o', e', hnf⟩ := I.stack.mem hm
    rw [e] at e'; cases e'
    exact hnf _ dd
  refine ⟨a, PySem.W.hideAll sI.heap (frs X.stack), sI, pins, σ, H, cls, d, n, x, rfl, I, fun b o e hb => PySem.W.hideAll_get _ e hb, Heap.UpToSlots.of_keeps k,
    .inl ⟨fun b o e => k b o (PySem.W.of_hideAll _ e), ?_, ?_, oe, vs, he, hz, hd, h1⟩, ch.mono fun b o vs e dd hn => ⟨PySem.W.hideAll_get _ e (nf b o vs e dd), hn⟩, na, os, ag, w⟩
  · cases q : (PySem.W.hideAll sI.heap (frs X.stack)).get? a with
    | none => rfl
    | some o =>
      have z := PySem.W.of_hideAll _ q
      rw [hne] at z; cases z
  · exact Heap.FunFrames.of_keeps (fun b o e _ => ⟨o, k b o e, rfl⟩) (funFrames_none I.stack fun b hb => PySem.W.hideAll_none _ hb)
/-- raise, in an except suite -/
theorem ps_raiseK {e : Expr} {t : L2.St → Hp → XK → Prop} {pos : Pos} (hc : HotK X) (tk : Takes X W) (he : L2N.PMk X e t) : PS X (.Raise (some e) none pos) (fun _ σ H => t σ H fun cls d H' => W cls d σ H') := by
  refine ⟨fun pins s σ H D I h => ?_⟩
  obtain ⟨n, x1, hh, pc⟩ := hc
  show wpAny _ _ (do standAt pos; raiseStmt X.env (some (do let v ← eval e X.env; standAt pos; pure v)) none) _ _ _
  refine wpAny_bind (wpAny_standAt (raise_made_ch (x1 := x1) (wpAny_bind (wpAny_mono (he pins s σ H _ I h) (fun u s1 hu => wpAny_bind (wpAny_standAt (wpAny_pure ?_))) fun _ _ x => x))))
  obtain ⟨a, oe, vs, sI, H', cls, d, rfl, J, k, hne, ha, hz, hd, h1, na, os, ag, r, q⟩ := hu
  obtain ⟨r1, r2⟩ := r (model X.prog X.w) s1.heap (J.kIn.keeps k)
  have c := PinCh.ch J pc
  have hi : 2 < vs.size := (Array.getElem?_eq_some_iff.mp (hz.2.2 vs hd)).1
  have h1' : (vs.setIfInBounds 2 (Value.ref x1))[1]? = some Value.none := by
    have e3 : (vs.setIfInBounds 2 (Value.ref x1))[1]? = vs[1]? := by simp [Array.getElem?_setIfInBounds]
    rw [e3]
    exact h1
  have hd2 := Obj.data_mapFields hd (·.setIfInBounds 2 (Value.ref x1))
  refine ⟨a, oe, vs, cls, sI.heap, H', n, rfl, ha, hz.1, hd, h1, hi, hh, c, k, hne, r1, r2, tk _ _ (XE.new J (fun b u z => ?_) hne (Heap.get?_update_self _ ha (Obj.isFreed_of_fields hd2)) ⟨(Obj.cls_mapFields ..).trans hz.1, (HandSPX.dict_mapFields ..).trans hz.2.1, fun ws hw => ?_⟩ hd2 h1' c na os ag q)⟩
  · have nab : a ≠ b := fun y => by
      rw [← y, hne] at z
      cases z
    show (s1.heap.update a (Obj.mapFields (·.setIfInBounds 2 (.ref x1)))).get? b = some u
    rw [Heap.get?_update_other _ _ nab]
    exact k b u z
  · rw [hd2] at hw
    cases hw
    simp [Array.getElem?_setIfInBounds, hi]
theorem passAt (tk : Takes X W) (σ : L2.St) : PassesAt (Dl.CX X.prog X.w) X σ (WE W σ) := fun _ _ _ e s' I c => tk e s' (XE.of_call I (fun _ _ _ h => h) c)
end
section
variable {P : Program} {w : World} {K : PySem.W.Frag} {mg : Str → Option Value} {base : Heap}
theorem fun_okX {CX : CXT} {x qual : Str} {st : Stmt} {f : Addr} {fd : FuncData} {N ps : List Str} {k : Nat} {sp : Sp} (F : Fun K x qual st f fd) (S : FnScope N ps (defScope st)) (len : ∀ vs H Q E, sp vs H Q E → vs.length = ps.length)
    (hbody : ∀ (cdv : Value) (A : Around) (outer : List Env) (s : Shared) (H : Hp) (vs : List V) (Q : VK) (E : XK), Room k (A.deeper (envOfC qual (defScope st) s.heap.objs.size f cdv)) → sp vs H Q E →
      ∃ t, PSs (cxOf CX P w K mg base N qual (defScope st) f cdv A outer s H E) (defBody st) t ∧ t { nx := fun _ H' => Q .non H', rt := Q } (L2.start N vs) H) : FnOk P w K mg base CX (k + 1) f fd ps sp := by
  obtain ⟨oc, od, kV, doc, pm, an, cdv, ct, osl, rfl, lk, hcd⟩ := F.ex
  exact fn_of lk hcd S len fun A outer s H vs Q E hr hsp => hbody cdv A outer s H vs Q E hr hsp
end
end Dl

namespace Dl
open PySem PySem.Spec PyProof.Rows L2

/-! ### data -/
inductive D where
  | non | bl (b : Bool) | int (i : Int) | str (x : Str) | ty (n : String)
  | lst (xs : List D) | scr (xs : List D) | tup (xs : List D) | ins (C : Addr) (ns : List Str) (xs : List D) | adr (a : Addr)
  | dK (ks : List Key) (xs : List D) | dT (ks : List (List Key)) (xs : List D) | exn (o : Option (Addr × Value)) (C : Addr) (ns : List Str) (xs : List D)
  | clo (G : NdefX.NF) (fr : List Str) (xs : List D)
instance : Inhabited D := ⟨.non⟩
abbrev Frag := PySem.W.Frag
/-- an exception that was caught, of the class at C, its dict at d, its context x where it is told -/
def exT (a C : Addr) (d : Option Addr) (x : Value) : HO := .ext fun h => ∃ oe : PySem.Obj, h.get? a = some oe ∧ (oe.cls = .ref C ∧ oe.dict = d) ∧ ∃ vs, oe.data = .fields vs ∧ vs[2]? = some x
/-- the cell at c, v in it -/
def CellO (c : Addr) (v : V) : HO := .ext fun h => ∃ u, RelV v u ∧ h.IsCell c (some u)
/-- a made function's cells and code object put in -/
def cloF (G : NdefX.NF) (cl : List (Str × Addr)) (c : Addr) : NdefX.NF := { G with cl := cl, c := c }
/-- the cells of a made function -/
def Cells (H : Hp) (fr : List Str) (cl : List (Str × Addr)) (vs : List V) : Prop := cl.map Prod.fst = fr ∧ fr.Nodup ∧ (cl.map Prod.snd).Nodup ∧ vs.length = cl.length ∧ ∀ (i : Nat) (q : Str × Addr) (v : V), cl[i]? = some q → vs[i]? = some v → H q.2 = some (CellO q.2 v)

mutual
inductive Rep (K : Frag) (H : Hp) : V → D → Prop
  | non : Rep K H .non .non
  | bl (b : Bool) : Rep K H (.bl b) (.bl b)
  | int (i : Int) : Rep K H (.int i) (.int i)
  | str (x : Str) : Rep K H (.str x) (.str x)
  | ty (n : String) : Rep K H (.ty n) (.ty n)
  | lst {a : Addr} {xs : List V} {ds : List D} : H a = some (.lst xs) → RepA K H xs ds → Rep K H (.ref a) (.lst ds)
  | scr {a : Addr} {xs : List V} {ds : List D} : SqL K H a xs → RepA K H xs ds → Rep K H (.ref a) (.scr ds)
  | tup {a : Addr} {xs : List V} {ds : List D} : H a = some (.tup xs) → RepA K H xs ds → Rep K H (.ref a) (.tup ds)
  | ins {a C dx : Addr} {vs : List (Str × V)} {ns : List Str} {xs : List V} {ds : List D} : H a = some (.ins C dx vs) → vs.map Prod.fst = ns → vs.map Prod.snd = xs → RepA K H xs ds → Rep K H (.ref a) (.ins C ns ds)
  | adr (a : Addr) : Rep K H (.ref a) (.adr a)
  | dK {a : Addr} {o : PySem.Obj} {vs : List (Key × V)} {ks : List Key} {xs : List V} {ds : List D} : H a = some (.frz o (.dK vs)) → vs.map Prod.fst = ks → vs.map Prod.snd = xs → RepA K H xs ds → Rep K H (.ref a) (.dK ks ds)
  | dT {a : Addr} {o : PySem.Obj} {vs : List (List Key × V)} {ks : List (List Key)} {xs : List V} {ds : List D} : H a = some (.frz o (.dT vs)) → vs.map Prod.fst = ks → vs.map Prod.snd = xs → RepA K H xs ds → Rep K H (.ref a) (.dT ks ds)
  | exn0 {a C : Addr} {o : Option (Addr × Value)} {x : Value} : H a = some (exT a C none x) → (∀ q, o = some q → q = (a, x)) → Rep K H (.ref a) (.exn o C [] [])
  | exn1 {a C d : Addr} {o : Option (Addr × Value)} {x : Value} {vs : List (Str × V)} {ns : List Str} {xs : List V} {ds : List D} : H a = some (exT a C (some d) x) → H d = some (.xd vs) → vs.map Prod.fst = ns → vs.map Prod.snd = xs → RepA K H xs ds → (∀ q, o = some q → q = (a, x)) → Rep K H (.ref a) (.exn o C ns ds)
  | clo {f c : Addr} {G : NdefX.NF} {cl : List (Str × Addr)} {fr : List Str} {vs : List V} {ds : List D} : H f = some (NdefX.FnO f (cloF G cl c)) → H c = some (LamX.CodeO c G.qual) → Cells H fr cl vs → RepA K H vs ds → Rep K H (.ref f) (.clo G fr ds)
inductive RepA (K : Frag) (H : Hp) : List V → List D → Prop
  | nil : RepA K H [] []
  | cons {v : V} {vs : List V} {d : D} {ds : List D} : Rep K H v d → RepA K H vs ds → RepA K H (v :: vs) (d :: ds)
end

theorem same_new {H : Hp} {p : Addr} {o : HO} (h : H p = none) : Same H (upd H p o) := fun b x e => by
  rw [upd_ne (ne_of_none e h)]
  exact e
mutual
theorem Rep.mono {K : Frag} {H H' : Hp} (e : Same H H') : ∀ (d : D) (v : V), Rep K H v d → Rep K H' v d
  | .non, _, h => by cases h; exact .non
  | .bl b, _, h => by cases h; exact .bl b
  | .int b, _, h => by cases h; exact .int b
  | .str b, _, h => by cases h; exact .str b
  | .ty b, _, h => by cases h; exact .ty b
  | .lst ds, _, h => by
    cases h with
    | lst a b => exact .lst (e _ _ a) (RepA.mono e ds _ b)
  | .scr ds, _, h => by
    cases h with
    | scr a b => exact .scr (e.seq a) (RepA.mono e ds _ b)
  | .tup ds, _, h => by
    cases h with
    | tup a b => exact .tup (e _ _ a) (RepA.mono e ds _ b)
  | .ins C ns ds, _, h => by
    cases h with
    | ins a b c d => exact .ins (e _ _ a) b c (RepA.mono e ds _ d)
  | .adr a, _, h => by cases h; exact .adr a
  | .dK ks ds, _, h => by
    cases h with
    | dK a b c d => exact .dK (e _ _ a) b c (RepA.mono e ds _ d)
  | .dT ks ds, _, h => by
    cases h with
    | dT a b c d => exact .dT (e _ _ a) b c (RepA.mono e ds _ d)
  | .exn o C ns ds, _, h => by
    cases h with
    | exn0 a b => exact .exn0 (e _ _ a) b
    | exn1 a b c d f g => exact .exn1 (e _ _ a) (e _ _ b) c d (RepA.mono e ds _ f) g
  | .clo G fr ds, _, h => by
    cases h with
    | clo a b c d => exact .clo (e _ _ a) (e _ _ b) ⟨c.1, c.2.1, c.2.2.1, c.2.2.2.1, fun i q v h1 h2 => e _ _ (c.2.2.2.2 i q v h1 h2)⟩ (RepA.mono e ds _ d)
theorem RepA.mono {K : Frag} {H H' : Hp} (e : Same H H') : ∀ (ds : List D) (vs : List V), RepA K H vs ds → RepA K H' vs ds
  | [], _, h => by cases h; exact .nil
  | d :: ds, _, h => by
    cases h with
    | cons a b => exact .cons (Rep.mono e d _ a) (RepA.mono e ds _ b)
end
section
variable {K : Frag} {H H' : Hp} {v : V} {d : D} {vs : List V} {ds : List D}
theorem Rep.mo (h : Rep K H v d) (e : Same H H') : Rep K H' v d := Rep.mono e d v h
theorem RepA.mo (h : RepA K H vs ds) (e : Same H H') : RepA K H' vs ds := RepA.mono e ds vs h
theorem RepA.length : ∀ {ds : List D} {vs : List V}, RepA K H vs ds → vs.length = ds.length
  | [], _, h => by cases h; rfl
  | d :: ds, _, h => by
    cases h with
    | cons a b => rw [List.length_cons, List.length_cons, b.length]
theorem RepA.get : ∀ {ds : List D} {vs : List V} {i : Nat} {d : D}, RepA K H vs ds → ds[i]? = some d → ∃ v, vs[i]? = some v ∧ Rep K H v d
  | [], _, _, _, _, h => by simp at h
  | d :: ds, _, 0, _, h, e => by
    cases h with
    | cons a b =>
      simp at e; subst e
      exact ⟨_, rfl, a⟩
  | d :: ds, _, i + 1, _, h, e => by
    cases h with
    | cons a b =>
      obtain ⟨v, h1, h2⟩ := RepA.get (i := i) b (by simpa using e)
      exact ⟨v, by simpa using h1, h2⟩
theorem RepA.app : ∀ {ds es : List D} {vs us : List V}, RepA K H vs ds → RepA K H us es → RepA K H (vs ++ us) (ds ++ es)
  | [], _, _, _, h, g => by cases h; exact g
  | d :: ds, _, _, _, h, g => by
    cases h with
    | cons a b => exact .cons a (b.app g)
theorem RepA.one (h : Rep K H v d) : RepA K H [v] [d] := .cons h .nil
theorem RepA.take : ∀ {ds : List D} {vs : List V} (n : Nat), RepA K H vs ds → RepA K H (vs.take n) (ds.take n)
  | _, _, 0, _ => .nil
  | [], _, _ + 1, h => by cases h; exact .nil
  | d :: ds, _, n + 1, h => by
    cases h with
    | cons a b => exact .cons a (b.take n)
theorem RepA.drop : ∀ {ds : List D} {vs : List V} (n : Nat), RepA K H vs ds → RepA K H (vs.drop n) (ds.drop n)
  | _, _, 0, h => h
  | [], _, _ + 1, h => by cases h; exact .nil
  | d :: ds, _, n + 1, h => by
    cases h with
    | cons a b => exact b.drop n
theorem RepA.set : ∀ {ds : List D} {vs : List V} (n : Nat), RepA K H vs ds → Rep K H v d → RepA K H (vs.set n v) (ds.set n d)
  | [], _, _, h, g => by cases h; exact .nil
  | d :: ds, _, 0, h, g => by
    cases h with
    | cons a b => exact .cons g b
  | d :: ds, _, n + 1, h, g => by
    cases h with
    | cons a b => exact .cons a (b.set n g)
theorem RepA.bls : ∀ {is : List Bool} {vs : List V}, RepA K H vs (is.map D.bl) → vs = is.map V.bl
  | [], _, h => by cases h; rfl
  | i :: is, _, h => by
    have h' : RepA K H _ (D.bl i :: is.map D.bl) := h
    cases h' with
    | cons a b =>
      cases a
      rw [b.bls]; rfl
theorem RepA.strs : ∀ {is : List Str} {vs : List V}, RepA K H vs (is.map D.str) → vs = is.map V.str
  | [], _, h => by cases h; rfl
  | i :: is, _, h => by
    have h' : RepA K H _ (D.str i :: is.map D.str) := h
    cases h' with
    | cons a b =>
      cases a
      rw [b.strs]; rfl
theorem RepA.ofInts (is : List Int) : RepA K H (is.map V.int) (is.map D.int) := by
  induction is with
  | nil => exact .nil
  | cons i is ih => exact .cons (.int i) ih
end

/-! ### what may change -/
inductive Mu where
  | lst (ds : List D) | ins (C : Addr) (ns : List Str) (ds : List D) | dK (kvs : List (Key × D)) | dT (kvs : List (List Key × D)) | fK (kvs : List (Key × D)) | fT (kvs : List (List Key × D)) | fL (ds : List D)
abbrev Mem := List (Addr × Mu)
abbrev Mem.dom (M : Mem) : List Addr := M.map Prod.fst
/-- no table of code objects -/
def NTb (o : HO) : Prop := ∀ ps, o ≠ .tbl ps
theorem NTb.of {o : HO} (h : ∀ ps, o ≠ .tbl ps := by intro _ z; cases z) : NTb o := h
def MuRep (K : Frag) (H0 H : Hp) (a : Addr) : Mu → Prop
  | .lst ds => ∃ vs, H a = some (.lst vs) ∧ RepA K H0 vs ds
  | .fL ds => ∃ (o : PySem.Obj) (vs : List V), H a = some (.frz o (.lst vs)) ∧ RepA K H0 vs ds
  | .ins C ns ds => ∃ dx vs xs, H a = some (.ins C dx vs) ∧ vs.map Prod.fst = ns ∧ vs.map Prod.snd = xs ∧ RepA K H0 xs ds
  | .dK kvs => ∃ (vs : List (Key × V)) (xs : List V), H a = some (.dK vs) ∧ vs.map Prod.fst = kvs.map Prod.fst ∧ vs.map Prod.snd = xs ∧ RepA K H0 xs (kvs.map Prod.snd)
  | .dT kvs => ∃ (vs : List (List Key × V)) (xs : List V), H a = some (.dT vs) ∧ vs.map Prod.fst = kvs.map Prod.fst ∧ vs.map Prod.snd = xs ∧ RepA K H0 xs (kvs.map Prod.snd)
  | .fK kvs => ∃ (o : PySem.Obj) (vs : List (Key × V)) (xs : List V), H a = some (.frz o (.dK vs)) ∧ vs.map Prod.fst = kvs.map Prod.fst ∧ vs.map Prod.snd = xs ∧ RepA K H0 xs (kvs.map Prod.snd)
  | .fT kvs => ∃ (o : PySem.Obj) (vs : List (List Key × V)) (xs : List V), H a = some (.frz o (.dT vs)) ∧ vs.map Prod.fst = kvs.map Prod.fst ∧ vs.map Prod.snd = xs ∧ RepA K H0 xs (kvs.map Prod.snd)
theorem MuRep.mono {K : Frag} {H0 H0' H H' : Hp} {a : Addr} : ∀ {m : Mu}, MuRep K H0 H a m → Same H0 H0' → (∀ o, H a = some o → NTb o → H' a = some o) → MuRep K H0' H' a m
  | .lst ds, ⟨vs, h, r⟩, e, k => ⟨vs, k _ h NTb.of, r.mo e⟩
  | .fL ds, ⟨o, vs, h, r⟩, e, k => ⟨o, vs, k _ h NTb.of, r.mo e⟩
  | .ins C ns ds, ⟨dx, vs, xs, h, h2, h3, r⟩, e, k => ⟨dx, vs, xs, k _ h NTb.of, h2, h3, r.mo e⟩
  | .dK kvs, ⟨vs, xs, h, h2, h3, r⟩, e, k => ⟨vs, xs, k _ h NTb.of, h2, h3, r.mo e⟩
  | .dT kvs, ⟨vs, xs, h, h2, h3, r⟩, e, k => ⟨vs, xs, k _ h NTb.of, h2, h3, r.mo e⟩
  | .fK kvs, ⟨o, vs, xs, h, h2, h3, r⟩, e, k => ⟨o, vs, xs, k _ h NTb.of, h2, h3, r.mo e⟩
  | .fT kvs, ⟨o, vs, xs, h, h2, h3, r⟩, e, k => ⟨o, vs, xs, k _ h NTb.of, h2, h3, r.mo e⟩
theorem MuRep.there {K : Frag} {H0 H : Hp} {a : Addr} : ∀ {m : Mu}, MuRep K H0 H a m → ∃ o, H a = some o
  | .lst ds, ⟨vs, h, _⟩ => ⟨_, h⟩
  | .fL ds, ⟨o, vs, h, _⟩ => ⟨_, h⟩
  | .ins C ns ds, ⟨dx, vs, xs, h, _⟩ => ⟨_, h⟩
  | .dK kvs, ⟨vs, xs, h, _⟩ => ⟨_, h⟩
  | .dT kvs, ⟨vs, xs, h, _⟩ => ⟨_, h⟩
  | .fK kvs, ⟨o, vs, xs, h, _⟩ => ⟨_, h⟩
  | .fT kvs, ⟨o, vs, xs, h, _⟩ => ⟨_, h⟩
/-- a thing, and no tuple (these never change) -/
def NT : Option HO → Prop
  | none => False
  | some (.tup _) => False
  | some (.tbl _) => False
  | some (.ext _) => False
  | some _ => True
theorem NT.ex {o : Option HO} (h : NT o) : ∃ u, o = some u := by
  cases o with
  | none => exact h.elim
  | some u => exact ⟨u, rfl⟩
theorem NT.ntb {o : HO} (h : NT (some o)) : NTb o := fun ps z => by subst z; exact h
theorem MuRep.nt {K : Frag} {H0 H : Hp} {a : Addr} : ∀ {m : Mu}, MuRep K H0 H a m → NT (H a)
  | .lst ds, ⟨vs, h, _⟩ => by rw [h]; exact trivial
  | .fL ds, ⟨o, vs, h, _⟩ => by rw [h]; exact trivial
  | .ins C ns ds, ⟨dx, vs, xs, h, _⟩ => by rw [h]; exact trivial
  | .dK kvs, ⟨vs, xs, h, _⟩ => by rw [h]; exact trivial
  | .dT kvs, ⟨vs, xs, h, _⟩ => by rw [h]; exact trivial
  | .fK kvs, ⟨o, vs, xs, h, _⟩ => by rw [h]; exact trivial
  | .fT kvs, ⟨o, vs, xs, h, _⟩ => by rw [h]; exact trivial
/-- what stood stays, but for the tables -/
def Sm (H H' : Hp) : Prop := ∀ b o, H b = some o → NTb o → H' b = some o
def Tb (H H' : Hp) : Prop := ∀ b ps, H b = some (.tbl ps) → H' b = some (.tbl ps)
def TB (H0 H : Hp) : Prop := (∀ p ∈ tabT, H0 p.1 = none ∧ NdefX.TabN H p.1 p.2) ∧ ∀ b ps, H0 b ≠ some (.tbl ps)
theorem Same.sm {H H' : Hp} (e : ∀ b o, H b = some o → H' b = some o) : Sm H H' := fun b o h _ => e b o h
theorem Sm.refl (H : Hp) : Sm H H := fun _ _ h _ => h
theorem Sm.trans {H H1 H2 : Hp} (a : Sm H H1) (b : Sm H1 H2) : Sm H H2 := fun c o h n => b c o (a c o h n) n
/-- what is known by what is true of its object stays -/
def Xt (H H' : Hp) : Prop := ∀ c φ, H c = some (.ext φ) → H' c = some (.ext φ)
theorem Sm.xt {H H' : Hp} (e : Sm H H') : Xt H H' := fun c φ h => e c _ h .of
theorem tabn_keep {H H' : Hp} {P : Addr} {nm : Nat → Nat → Str} (t : NdefX.TabN H P nm) (k : ∀ ps, H P = some (.tbl ps) → H' P = some (.tbl ps)) (e : Xt H H') : NdefX.TabN H' P nm := by
  obtain ⟨ps, h1, h2, h3⟩ := t
  refine ⟨ps, k _ h1, h2, fun pos cv hc => ?_⟩
  obtain ⟨c, e1, e2⟩ := h3 pos cv hc
  exact ⟨c, e1, e _ _ e2⟩
theorem TB.keep {H0 H H0' H' : Hp} (t : TB H0 H) (n : ∀ b ps, H0 b = none → H b = some (.tbl ps) → H0' b = none) (k : ∀ b ps, H b = some (.tbl ps) → H' b = some (.tbl ps)) (e : Xt H H') (z : ∀ b ps, H0' b = some (.tbl ps) → H0 b = some (.tbl ps)) : TB H0' H' := ⟨fun p hp => by
  obtain ⟨a, b⟩ := t.1 p hp
  obtain ⟨ps, h1, _⟩ := id b
  exact ⟨n _ ps a h1, tabn_keep b (k p.1) e⟩, fun b ps y => t.2 b ps (z b ps y)⟩
/-- neither a table nor known by what is true -/
def NX (o : Option HO) : Prop := (∀ ps, o ≠ some (.tbl ps)) ∧ ∀ φ, o ≠ some (.ext φ)
theorem NX.of {o : Option HO} {u : HO} (h : o = some u) (n : ∀ ps, u ≠ .tbl ps := by intro _ z; cases z) (m : ∀ φ, u ≠ .ext φ := by intro _ z; cases z) : NX o := ⟨fun ps z => n ps (by rw [h] at z; exact Option.some.inj z), fun φ z => m φ (by rw [h] at z; exact Option.some.inj z)⟩
theorem TB.chg {H0 H : Hp} (t : TB H0 H) {a : Addr} (h : NX (H a)) (o : HO) : TB H0 (upd H a o) :=
  t.keep (fun _ _ n _ => n) (fun b ps e => by rw [upd_ne (fun z => h.1 ps (by rw [← z]; exact e))]; exact e) (fun c φ e => by rw [upd_ne (fun z => h.2 φ (by rw [← z]; exact e))]; exact e) fun _ _ z => z
theorem upd_self {H : Hp} {a : Addr} {o : HO} (h : H a = some o) : upd H a o = H := by
  funext b
  unfold upd
  by_cases e : b = a
  · rw [if_pos e, e, h]
  · rw [if_neg e]
theorem TB.back {H0 H : Hp} {a : Addr} {o u : HO} (t : TB H0 (upd H a u)) (h : H a = some o) (n : ∀ ps, u ≠ .tbl ps := by intro _ z; cases z) (m : ∀ φ, u ≠ .ext φ := by intro _ z; cases z) : TB H0 H := by
  have := t.chg (a := a) (NX.of upd_same n m) o
  rw [upd_upd, upd_self h] at this
  exact this
theorem upd_tb {H : Hp} {a b : Addr} {o : HO} {ps : Array Value} (n : ∀ ps, o ≠ .tbl ps) (z : upd H a o b = some (.tbl ps)) : H b = some (.tbl ps) := by
  unfold upd at z
  split at z
  · exact absurd (Option.some.inj z) (n ps)
  · exact z
theorem TB.same {H0 H H2 : Hp} (t : TB H0 H) (e : ∀ b o, H b = some o → H2 b = some o) : TB H0 H2 := t.keep (fun _ _ n _ => n) (fun b ps h => e _ _ h) (Same.sm e).xt fun _ _ z => z
theorem TB.all {H0 H H0' : Hp} (t : TB H0 H) (n : ∀ b, H0 b = none → (∃ ps, H b = some (.tbl ps)) → H0' b = none) (z : ∀ b ps, H0' b = some (.tbl ps) → H0 b = some (.tbl ps)) : TB H0' H := t.keep (fun b ps a e => n b a ⟨ps, e⟩) (fun _ _ e => e) (fun _ _ e => e) z
theorem TB.frz {H0 H : Hp} (t : TB H0 H) {w : Addr} {u u' : HO} (h : H w = some u) (n : ∀ ps, u ≠ .tbl ps := by intro _ z; cases z) (n' : ∀ ps, u' ≠ .tbl ps := by intro _ z; cases z) : TB (upd H0 w u') H := t.all (fun b nn ⟨ps, e⟩ => by
  rw [upd_ne (fun z => n ps (by rw [z, h] at e; exact Option.some.inj e))]; exact nn) fun b ps z => upd_tb n' z
theorem MuRep.nx {K : Frag} {H0 H : Hp} {a : Addr} : ∀ {m : Mu}, MuRep K H0 H a m → NX (H a)
  | .lst ds, ⟨vs, h, _⟩ => .of h
  | .fL ds, ⟨o, vs, h, _⟩ => .of h
  | .ins C ns ds, ⟨dx, vs, xs, h, _⟩ => .of h
  | .dK kvs, ⟨vs, xs, h, _⟩ => .of h
  | .dT kvs, ⟨vs, xs, h, _⟩ => .of h
  | .fK kvs, ⟨o, vs, xs, h, _⟩ => .of h
  | .fT kvs, ⟨o, vs, xs, h, _⟩ => .of h
/-- the heap: H0 what never changes again, M what may -/
structure Ht (K : Frag) (H0 H : Hp) (M : Mem) : Prop where
  ex : Same H0 H
  nd : M.dom.Nodup
  mem : ∀ p ∈ M, H0 p.1 = none ∧ MuRep K H0 H p.1 p.2
  tb : TB H0 H
/-- pure steps -/
structure Pu (H0 H H0' H' : Hp) : Prop where
  e0 : Same H0 H0'
  e : Sm H H'
  ex : Same H0' H'
  new : ∀ a, H0 a = none → NT (H a) → H0' a = none
  there : ∀ b, H' b = none → H b = none
  tb : TB H0 H → TB H0' H'
/-- any steps -/
structure Go (H0 H : Hp) (M : Mem) (H0' H' : Hp) (M' : Mem) : Prop where
  e0 : Same H0 H0'
  e : ∀ b o, H b = some o → b ∉ M.dom → NTb o → H' b = some o
  new : ∀ a, H0 a = none → NT (H a) → a ∉ M.dom → H0' a = none
  dom : ∀ a ∈ M'.dom, a ∈ M.dom ∨ H a = none
  there : ∀ b, H' b = none → H b = none
section
variable {K : Frag} {H0 H H0' H' H0s Hs : Hp} {M M' Ms : Mem}
theorem Pu.refl (h : Same H0 H) : Pu H0 H H0 H := ⟨Same.refl _, Sm.refl _, h, fun _ h _ => h, fun _ e => e, id⟩
theorem NT.keep {H H' : Hp} {a : Addr} (h : NT (H a)) (k : ∀ o, H a = some o → NTb o → H' a = some o) : NT (H' a) := by
  obtain ⟨u, e⟩ := h.ex
  have n : NTb u := NT.ntb (by rw [← e]; exact h)
  rw [k _ e n, ← e]; exact h
theorem Pu.free (p : Pu H0 H H0' H') {a : Addr} (h : H' a = none) : H a = none := p.there a h
theorem Go.free (p : Go H0 H M H0' H' M') {a : Addr} (hm : a ∉ M.dom) (h : H' a = none) : H a = none := p.there a h
theorem Pu.k (p : Pu H0 H H0' H') {a : Addr} {o : HO} (h : H a = some o) (n : ∀ ps, o ≠ .tbl ps := by intro _ z; cases z) : H' a = some o := p.e _ _ h n
theorem Pu.trans (p : Pu H0 H H0' H') (q : Pu H0' H' H0s Hs) : Pu H0 H H0s Hs :=
  ⟨p.e0.trans q.e0, p.e.trans q.e, q.ex, fun a h1 h2 => q.new a (p.new a h1 h2) (h2.keep fun o e n => p.e a o e n), fun b e => p.there b (q.there b e), fun t => q.tb (p.tb t)⟩
theorem Ht.pu (h : Ht K H0 H M) (p : Pu H0 H H0' H') : Ht K H0' H' M := ⟨p.ex, h.nd, fun q hq => by
  obtain ⟨h1, h2⟩ := h.mem q hq
  exact ⟨p.new _ h1 h2.nt, h2.mono p.e0 fun o e n => p.e _ _ e n⟩, p.tb h.tb⟩
theorem Go.refl : Go H0 H M H0 H M := ⟨Same.refl _, fun _ _ e _ _ => e, fun _ h _ _ => h, fun _ h => .inl h, fun _ e => e⟩
theorem Pu.go (p : Pu H0 H H0' H') : Go H0 H M H0' H' M := ⟨p.e0, fun b o e _ n => p.e b o e n, fun a h1 h2 _ => p.new a h1 h2, fun _ h => .inl h, p.there⟩
theorem Go.trans (p : Go H0 H M H0' H' M') (q : Go H0' H' M' H0s Hs Ms) : Go H0 H M H0s Hs Ms where
  e0 := p.e0.trans q.e0
  e := fun b o e hb n => q.e b o (p.e b o e hb n) (fun z => (p.dom b z).elim hb fun z => by rw [e] at z; cases z) n
  new := fun a h1 h2 h3 => by
    obtain ⟨o, e⟩ := h2.ex
    exact q.new a (p.new a h1 h2 h3) (h2.keep fun o e n => p.e a o e h3 n) fun z => (p.dom a z).elim h3 fun z => by rw [e] at z; cases z
  dom := fun a ha => by
    rcases q.dom a ha with h | h
    · exact p.dom a h
    · by_cases hm : a ∈ M.dom
      · exact .inl hm
      · exact .inr (p.free hm h)
  there := fun b e => p.there b (q.there b e)
theorem Go.pu (g : Go H0 H [] H0' H' M') (h : Ht K H0' H' M') : Pu H0 H H0' H' := ⟨g.e0, fun b o e n => g.e b o e (by simp) n, h.ex, fun a h1 h2 => g.new a h1 h2 (by simp), g.there, fun _ => h.tb⟩
theorem Ht.emp (h : Same H0 H) (t : TB H0 H) : Ht K H0 H [] := ⟨h, List.nodup_nil, fun _ z => absurd z (by simp), t⟩
/-- a step that leaves the tables as they are -/
theorem TB.new {H0 H : Hp} (t : TB H0 H) {p : Addr} {o : HO} (hp : H p = none) : TB H0 (upd H p o) := t.keep (fun _ _ n _ => n) (fun b ps e => same_new hp _ _ e) (Same.sm (same_new hp)).xt fun _ _ z => z
theorem TB.new2 {H0 H : Hp} (t : TB H0 H) {p : Addr} {o o' : HO} (hp : H p = none) (n' : ∀ ps, o' ≠ .tbl ps := by intro _ z; cases z) : TB (upd H0 p o') (upd H p o) := t.keep (fun b ps n e => by rw [upd_ne (fun z => by rw [z, hp] at e; cases e)]; exact n) (fun b ps e => same_new hp _ _ e) (Same.sm (same_new hp)).xt fun b ps z => upd_tb n' z
theorem Ht.free (h : Ht K H0 H M) {p : Addr} (hp : H p = none) : H0 p = none ∧ p ∉ M.dom := by
  refine ⟨h.ex.free hp, fun z => ?_⟩
  obtain ⟨q, hq, rfl⟩ := List.mem_map.mp z
  obtain ⟨o, ho⟩ := (h.mem q hq).2.there
  rw [hp] at ho; cases ho
/-- a new thing that will not change -/
theorem Pu.new1 (h : Same H0 H) {p : Addr} (hp : H p = none) (o : HO) (n' : ∀ ps, o ≠ .tbl ps := by intro _ z; cases z) : Pu H0 H (upd H0 p o) (upd H p o) := by
  have h0 := h.free hp
  refine ⟨same_new h0, (Same.sm (same_new hp)), fun b u e => ?_, fun a h1 h2 => ?_, fun b e => NdefX.upd_none e, fun t => t.new2 hp n'⟩
  · by_cases hb : b = p
    · subst hb; rw [upd_same] at e ⊢; exact e
    · rw [upd_ne hb] at e ⊢; exact h _ _ e
  · obtain ⟨u, e⟩ := h2.ex
    rw [upd_ne (fun z => by rw [z, hp] at e; cases e)]; exact h1
/-- a new thing that may change -/
theorem Go.new1 {p : Addr} (hp : H p = none) (o : HO) {m : Mu} : Go H0 H M H0 (upd H p o) ((p, m) :: M) := by
  refine ⟨Same.refl _, fun b u e _ _ => same_new hp b u e, fun _ h _ _ => h, fun a ha => ?_, fun b e => NdefX.upd_none e⟩
  rcases List.mem_cons.mp (show a ∈ p :: M.dom from ha) with rfl | ha
  · exact .inr hp
  · exact .inl ha
theorem Ht.new1 (h : Ht K H0 H M) {p : Addr} (hp : H p = none) {o : HO} {m : Mu} (hm : ∀ H', H' p = some o → MuRep K H0 H' p m) : Ht K H0 (upd H p o) ((p, m) :: M) := by
  obtain ⟨h0, hd⟩ := h.free hp
  refine ⟨h.ex.trans (same_new hp), ?_, fun q hq => ?_, h.tb.new hp⟩
  · show (p :: M.dom).Nodup
    exact List.nodup_cons.mpr ⟨hd, h.nd⟩
  · rcases List.mem_cons.mp hq with rfl | hq
    · exact ⟨h0, hm _ upd_same⟩
    · obtain ⟨h1, h2⟩ := h.mem q hq
      exact ⟨h1, h2.mono (Same.refl _) fun o e _ => same_new hp _ _ e⟩
/-- the thing at a changes -/
def Mem.put (M : Mem) (a : Addr) (m : Mu) : Mem := M.map fun p => if p.1 = a then (a, m) else p
end
end Dl

namespace Dl
open PySem PySem.Spec PyProof.Rows L2
/-! ### slots, exceptions, what is wanted -/
abbrev Ro := List (Option D)
def Sl (K : Frag) (H0 : Hp) (σ : L2.St) (ρ : Ro) : Prop := σ.length = ρ.length ∧ ∀ (i : Nat) (d : D), ρ[i]? = some (some d) → ∃ v, σ[i]? = some (some v) ∧ Rep K H0 v d
abbrev XD := Value → List (Str × D) → Ro → Mem → Prop
abbrev kx0 : XD := fun _ _ _ _ => False
def XRep (K : Frag) (H0 H : Hp) (dd : Option Addr) (fs : List (Str × D)) : Prop :=
  (dd = none ∧ fs = []) ∨ fs ≠ [] ∧ ∃ (d : Addr) (vs : List (Str × V)) (xs : List V), dd = some d ∧ H0 d = some (.xd vs) ∧ vs.map Prod.fst = fs.map Prod.fst ∧ vs.map Prod.snd = xs ∧ RepA K H0 xs (fs.map Prod.snd)
inductive Out where
  | nx (ρ : Ro) | bk (ρ : Ro) | ct (ρ : Ro) | rt (d : D)
section
variable {K : Frag} {H0 H0' : Hp} {σ : L2.St} {ρ : Ro}
theorem Sl.mo (h : Sl K H0 σ ρ) (e : Same H0 H0') : Sl K H0' σ ρ := ⟨h.1, fun i d q => let ⟨v, a, b⟩ := h.2 i d q; ⟨v, a, b.mo e⟩⟩
theorem Sl.set (h : Sl K H0 σ ρ) {v : V} {d : D} (r : Rep K H0 v d) (i : Nat) : Sl K H0 (σ.set i (some v)) (ρ.set i (some d)) := by
  refine ⟨by rw [List.length_set, List.length_set]; exact h.1, fun j d' e => ?_⟩
  by_cases hj : i = j
  · subst hj
    by_cases hi : i < ρ.length
    · rw [List.getElem?_set_self hi] at e
      cases e
      exact ⟨v, List.getElem?_set_self (by rw [h.1]; exact hi), r⟩
    · rw [List.getElem?_eq_none (by rw [List.length_set]; omega)] at e
      cases e
  · rw [List.getElem?_set_ne hj] at e ⊢
    exact h.2 j d' e
/-- slots forgotten -/
def Fgt (ρ ρ' : Ro) : Prop := ρ.length = ρ'.length ∧ ∀ (i : Nat) (d : D), ρ'[i]? = some (some d) → ρ[i]? = some (some d)
theorem Sl.fgt {ρ' : Ro} (h : Sl K H0 σ ρ) (f : Fgt ρ ρ') : Sl K H0 σ ρ' := ⟨h.1.trans f.1, fun i d e => h.2 i d (f.2 i d e)⟩
end
section
variable (X : Cx)
@[irreducible] def sE (e : Expr) : TE := fun σ H Q => ∀ pins s, Inv X pins σ H s → wpAny (model X.prog X.w) X.A (eval e X.env) (EP X pins σ Q) X.xe s
@[irreducible] def sT (e : Expr) : TT := fun σ H Q => ∀ pins s, Inv X pins σ H s → wpAny (model X.prog X.w) X.A (isTrue e X.env (eval e X.env)) (TP X pins σ Q) X.xe s
@[irreducible] def sW (e : Expr) : TT := fun σ H Q => ∀ whole pins s, Inv X pins σ H s → wpAny (model X.prog X.w) X.A (isTrue e X.env whole) (TP X pins σ Q) X.xe s
@[irreducible] def sA (es : List Expr) : TA := fun σ H Q => ∀ pos pins s, Inv X pins σ H s → wpAny (model X.prog X.w) X.A (spliced (backTo pos (starEach es X.env))) (AP X pins σ Q) X.xe s
@[irreducible] def sS (st : Stmt) : TS := fun D σ H => ∀ pins s, Inv X pins σ H s → wpAny (model X.prog X.w) X.A (exec st X.env) (SP X pins D) X.xe s
@[irreducible] def sSs (sts : List Stmt) : TS := fun D σ H => ∀ pins s, Inv X pins σ H s → wpAny (model X.prog X.w) X.A (execs sts X.env) (SP X pins D) X.xe s
@[irreducible] def sG (tg : Expr) : TG := fun v σ H Q => ∀ pins s u, Inv X pins σ H s → RelV v u → wpAny (model X.prog X.w) X.A (assign tg X.env u) (fun _ s' => ∃ σ' H', Inv X pins σ' H' s' ∧ Q σ' H') X.xe s
@[irreducible] def sGs (ts : List Expr) : TGs := fun vs σ H Q => ∀ pins s us, Inv X pins σ H s → Vals vs us → wpAny (model X.prog X.w) X.A (assignInOrder ((assignEach ts X.env).map (·.2)) us) (fun _ s' => ∃ σ' H', Inv X pins σ' H' s' ∧ Q σ' H') X.xe s
@[irreducible] def sI (tg it : Expr) : TI := fun σ H R => ∀ pins s, Inv X pins σ H s → wpAny (model X.prog X.w) X.A (eval it X.env) (fun v s1 => wpAny (model X.prog X.w) X.A (pyIter v) (PIE X pins σ tg R) X.xe s1) X.xe s
@[irreducible] def sTs (ifs : List Expr) : TT := fun σ H Q => ∀ pins s, Inv X pins σ H s → wpAny (model X.prog X.w) X.A (forIn ifs true fun c r => if r = true then do let ok ← isTrue c X.env (eval c X.env); pure (ForInStep.yield ok) else pure (ForInStep.yield r)) (TP X pins σ Q) X.xe s
end
section
variable {X : Cx}
theorem sE_iff {e : Expr} {σ : L2.St} {H : Hp} {Q : VK} : sE X e σ H Q ↔ (∀ pins s, Inv X pins σ H s → wpAny (model X.prog X.w) X.A (eval e X.env) (EP X pins σ Q) X.xe s) := by unfold sE; exact Iff.rfl
theorem sT_iff {e : Expr} {σ : L2.St} {H : Hp} {Q : Bool → Hp → Prop} : sT X e σ H Q ↔ (∀ pins s, Inv X pins σ H s → wpAny (model X.prog X.w) X.A (isTrue e X.env (eval e X.env)) (TP X pins σ Q) X.xe s) := by unfold sT; exact Iff.rfl
theorem sW_iff {e : Expr} {σ : L2.St} {H : Hp} {Q : Bool → Hp → Prop} : sW X e σ H Q ↔ (∀ whole pins s, Inv X pins σ H s → wpAny (model X.prog X.w) X.A (isTrue e X.env whole) (TP X pins σ Q) X.xe s) := by unfold sW; exact Iff.rfl
theorem sA_iff {es : List Expr} {σ : L2.St} {H : Hp} {Q : List V → Hp → Prop} : sA X es σ H Q ↔ (∀ pos pins s, Inv X pins σ H s → wpAny (model X.prog X.w) X.A (spliced (backTo pos (starEach es X.env))) (AP X pins σ Q) X.xe s) := by unfold sA; exact Iff.rfl
theorem sS_iff {st : Stmt} {D : Ends} {σ : L2.St} {H : Hp} : sS X st D σ H ↔ (∀ pins s, Inv X pins σ H s → wpAny (model X.prog X.w) X.A (exec st X.env) (SP X pins D) X.xe s) := by unfold sS; exact Iff.rfl
theorem sSs_iff {sts : List Stmt} {D : Ends} {σ : L2.St} {H : Hp} : sSs X sts D σ H ↔ (∀ pins s, Inv X pins σ H s → wpAny (model X.prog X.w) X.A (execs sts X.env) (SP X pins D) X.xe s) := by unfold sSs; exact Iff.rfl
theorem sG_iff {tg : Expr} {v : V} {σ : L2.St} {H : Hp} {Q : L2.St → Hp → Prop} : sG X tg v σ H Q ↔ (∀ pins s u, Inv X pins σ H s → RelV v u → wpAny (model X.prog X.w) X.A (assign tg X.env u) (fun _ s' => ∃ σ' H', Inv X pins σ' H' s' ∧ Q σ' H') X.xe s) := by unfold sG; exact Iff.rfl
theorem sGs_iff {ts : List Expr} {vs : List V} {σ : L2.St} {H : Hp} {Q : L2.St → Hp → Prop} : sGs X ts vs σ H Q ↔ (∀ pins s us, Inv X pins σ H s → Vals vs us → wpAny (model X.prog X.w) X.A (assignInOrder ((assignEach ts X.env).map (·.2)) us) (fun _ s' => ∃ σ' H', Inv X pins σ' H' s' ∧ Q σ' H') X.xe s) := by unfold sGs; exact Iff.rfl
theorem sI_iff {tg it : Expr} {σ : L2.St} {H : Hp} {R : It → Hp → Prop} : sI X tg it σ H R ↔ (∀ pins s, Inv X pins σ H s → wpAny (model X.prog X.w) X.A (eval it X.env) (fun v s1 => wpAny (model X.prog X.w) X.A (pyIter v) (PIE X pins σ tg R) X.xe s1) X.xe s) := by unfold sI; exact Iff.rfl
theorem sTs_iff {ifs : List Expr} {σ : L2.St} {H : Hp} {Q : Bool → Hp → Prop} : sTs X ifs σ H Q ↔ (∀ pins s, Inv X pins σ H s → wpAny (model X.prog X.w) X.A (forIn ifs true fun c r => if r = true then do let ok ← isTrue c X.env (eval c X.env); pure (ForInStep.yield ok) else pure (ForInStep.yield r)) (TP X pins σ Q) X.xe s) := by unfold sTs; exact Iff.rfl
theorem pe_s (e : Expr) : PE X e (sE X e) := ⟨fun pins s _ _ _ I h => sE_iff.mp h pins s I⟩
theorem pt_s (e : Expr) : PT X e (sT X e) := ⟨fun pins s _ _ _ I h => sT_iff.mp h pins s I⟩
theorem pw_s (e : Expr) : PW X e (sW X e) := ⟨fun w pins s _ _ _ I h => sW_iff.mp h w pins s I⟩
theorem pa_s (e : List Expr) : PA X e (sA X e) := ⟨fun pos pins s _ _ _ I h => sA_iff.mp h pos pins s I⟩
theorem ps_s (e : Stmt) : PS X e (sS X e) := ⟨fun pins s _ _ _ I h => sS_iff.mp h pins s I⟩
theorem pss_s (e : List Stmt) : PSs X e (sSs X e) := ⟨fun pins s _ _ _ I h => sSs_iff.mp h pins s I⟩
theorem pg_s (e : Expr) : PG X e (sG X e) := ⟨fun pins s _ _ _ u _ I r h => sG_iff.mp h pins s u I r⟩
theorem pgs_s (e : List Expr) : PGs X e (sGs X e) := ⟨fun pins s _ _ _ u _ I r h => sGs_iff.mp h pins s u I r⟩
theorem pi_s (tg it : Expr) : PI X tg it (sI X tg it) := ⟨fun pins s _ _ _ I h => sI_iff.mp h pins s I⟩
variable {σ : L2.St} {H : Hp}
theorem sE.by {e : Expr} {t : TE} {Q : VK} (p : PE X e t) (h : t σ H Q) : sE X e σ H Q := sE_iff.mpr (fun pins s I => p.run pins s σ H Q I h)
theorem sT.by {e : Expr} {t : TT} {Q : Bool → Hp → Prop} (p : PT X e t) (h : t σ H Q) : sT X e σ H Q := sT_iff.mpr (fun pins s I => p.run pins s σ H Q I h)
theorem sW.by {e : Expr} {t : TT} {Q : Bool → Hp → Prop} (p : PW X e t) (h : t σ H Q) : sW X e σ H Q := sW_iff.mpr (fun w pins s I => p.run w pins s σ H Q I h)
theorem sA.by {e : List Expr} {t : TA} {Q : List V → Hp → Prop} (p : PA X e t) (h : t σ H Q) : sA X e σ H Q := sA_iff.mpr (fun pos pins s I => p.run pos pins s σ H Q I h)
theorem sS.by {e : Stmt} {t : TS} {D : Ends} (p : PS X e t) (h : t D σ H) : sS X e D σ H := sS_iff.mpr (fun pins s I => p.run pins s σ H D I h)
theorem sSs.by {e : List Stmt} {t : TS} {D : Ends} (p : PSs X e t) (h : t D σ H) : sSs X e D σ H := sSs_iff.mpr (fun pins s I => p.run pins s σ H D I h)
theorem sG.by {e : Expr} {t : TG} {v : V} {Q : L2.St → Hp → Prop} (p : PG X e t) (h : t v σ H Q) : sG X e v σ H Q := sG_iff.mpr (fun pins s u I r => p.run pins s σ H v u Q I r h)
theorem sGs.by {e : List Expr} {t : TGs} {v : List V} {Q : L2.St → Hp → Prop} (p : PGs X e t) (h : t v σ H Q) : sGs X e v σ H Q := sGs_iff.mpr (fun pins s u I r => p.run pins s σ H v u Q I r h)
theorem sI.by {tg it : Expr} {t : TI} {R : It → Hp → Prop} (p : PI X tg it t) (h : t σ H R) : sI X tg it σ H R := sI_iff.mpr (fun pins s I => p.run pins s σ H R I h)
theorem sTs.by {e : List Expr} {t : TT} {Q : Bool → Hp → Prop} (p : PTs X e t) (h : t σ H Q) : sTs X e σ H Q := sTs_iff.mpr (fun pins s I => p.run pins s σ H Q I h)
/-- what is wanted of an exception -/
def Hx (X : Cx) (W : WX) (H0 H : Hp) (M : Mem) (kx : XD) : Prop :=
  ∀ cls dd σ' H' H0' fs ρ' M', Go H0 H M H0' H' M' → Ht X.K H0' H' M' → Sl X.K H0' σ' ρ' → XRep X.K H0' H' dd fs → kx cls fs ρ' M' → W cls dd σ' H'
theorem Hx.step {W : WX} {H0 H H0' H' : Hp} {M M' : Mem} {kx : XD} (h : Hx X W H0 H M kx) (g : Go H0 H M H0' H' M') : Hx X W H0' H' M' kx :=
  fun cls dd σ' H2 H02 fs ρ' M2 g2 => h cls dd σ' H2 H02 fs ρ' M2 (g.trans g2)
theorem Hx.pu {W : WX} {H0 H H0' H' : Hp} {M : Mem} {kx : XD} (h : Hx X W H0 H M kx) (p : Pu H0 H H0' H') : Hx X W H0' H' M kx := h.step p.go
theorem Hx.none {W : WX} {H0 H : Hp} {M : Mem} : Hx X W H0 H M kx0 := fun _ _ _ _ _ _ _ _ _ _ _ _ z => z.elim
end
/-! ### the judgements -/
/-- a value, nothing changed -/
def DV (X : Cx) (kx : XD) (e : Expr) (ρ : Ro) (M : Mem) (d : D) : Prop :=
  ∀ (σ : L2.St) (H H0 : Hp), Ht X.K H0 H M → Sl X.K H0 σ ρ → ∀ (W : WX), Takes X W → Hx X W H0 H M kx → ∀ (Q : VK), (∀ v H' H0', Pu H0 H H0' H' → Rep X.K H0' v d → Q v H') → sE X e σ H Q
/-- a value, something changed perhaps -/
def DE (X : Cx) (kx : XD) (e : Expr) (ρ : Ro) (M : Mem) (k : D → Mem → Prop) : Prop :=
  ∀ (σ : L2.St) (H H0 : Hp), Ht X.K H0 H M → Sl X.K H0 σ ρ → ∀ (W : WX), Takes X W → Hx X W H0 H M kx → ∀ (Q : VK), (∀ v H' H0' d M', Go H0 H M H0' H' M' → Ht X.K H0' H' M' → Rep X.K H0' v d → k d M' → Q v H') → sE X e σ H Q
def DA (X : Cx) (kx : XD) (es : List Expr) (ρ : Ro) (M : Mem) (ds : List D) : Prop :=
  ∀ (σ : L2.St) (H H0 : Hp), Ht X.K H0 H M → Sl X.K H0 σ ρ → ∀ (W : WX), Takes X W → Hx X W H0 H M kx → ∀ (Q : List V → Hp → Prop), (∀ vs H' H0', Pu H0 H H0' H' → RepA X.K H0' vs ds → Q vs H') → sA X es σ H Q
def DT (X : Cx) (kx : XD) (e : Expr) (ρ : Ro) (M : Mem) (b : Bool) : Prop :=
  ∀ (σ : L2.St) (H H0 : Hp), Ht X.K H0 H M → Sl X.K H0 σ ρ → ∀ (W : WX), Takes X W → Hx X W H0 H M kx → ∀ (Q : Bool → Hp → Prop), (∀ H' H0', Pu H0 H H0' H' → Q b H') → sT X e σ H Q
def DW (X : Cx) (kx : XD) (e : Expr) (ρ : Ro) (M : Mem) (b : Bool) : Prop :=
  ∀ (σ : L2.St) (H H0 : Hp), Ht X.K H0 H M → Sl X.K H0 σ ρ → ∀ (W : WX), Takes X W → Hx X W H0 H M kx → ∀ (Q : Bool → Hp → Prop), (∀ H' H0', Pu H0 H H0' H' → Q b H') → sW X e σ H Q
def DTs (X : Cx) (kx : XD) (e : List Expr) (ρ : Ro) (M : Mem) (b : Bool) : Prop :=
  ∀ (σ : L2.St) (H H0 : Hp), Ht X.K H0 H M → Sl X.K H0 σ ρ → ∀ (W : WX), Takes X W → Hx X W H0 H M kx → ∀ (Q : Bool → Hp → Prop), (∀ H' H0', Pu H0 H H0' H' → Q b H') → sTs X e σ H Q
/-- the slots ts alone differ -/
def But (ts : List Nat) (σ σ' : L2.St) : Prop := ∀ vs : List Nat, (∀ i ∈ ts, i ∈ vs) → wipe σ' vs = wipe σ vs
theorem But.refl {ts : List Nat} {σ : L2.St} : But ts σ σ := fun _ _ => rfl
theorem But.mono {ts us : List Nat} {σ σ' : L2.St} (h : But ts σ σ') (i : ∀ x ∈ ts, x ∈ us) : But us σ σ' := fun vs q => h vs fun x hx => q x (i x hx)
theorem But.trans {ts : List Nat} {σ σ' τ : L2.St} (h : But ts σ σ') (g : But ts σ' τ) : But ts σ τ := fun vs q => (g vs q).trans (h vs q)
theorem wipe_at (σ : L2.St) : ∀ (vs : List Nat) (j : Nat), (wipe σ vs)[j]? = if j ∈ vs ∧ j < σ.length then some none else σ[j]?
  | [], j => by simp [wipe]
  | v :: vs, j => by
    unfold wipe
    by_cases hj : v = j
    · subst hj
      by_cases hl : v < σ.length
      · rw [List.getElem?_set_self (by rw [wipe_length]; exact hl), if_pos ⟨List.mem_cons_self, hl⟩]
      · rw [if_neg (fun z => hl z.2), List.getElem?_eq_none (by rw [List.length_set, wipe_length]; omega), List.getElem?_eq_none (by omega)]
    · rw [List.getElem?_set_ne hj, wipe_at σ vs j]
      by_cases h : j ∈ vs ∧ j < σ.length
      · rw [if_pos h, if_pos ⟨List.mem_cons_of_mem _ h.1, h.2⟩]
      · rw [if_neg h, if_neg fun z => h ⟨(List.mem_cons.mp z.1).resolve_left (Ne.symm hj), z.2⟩]
theorem But.set {ts : List Nat} {σ : L2.St} {i : Nat} {y : Option V} (h : i ∈ ts) : But ts σ (σ.set i y) := fun vs q => by
  refine List.ext_getElem? fun j => ?_
  rw [wipe_at, wipe_at, List.length_set]
  by_cases hj : j ∈ vs ∧ j < σ.length
  · rw [if_pos hj, if_pos hj]
  · rw [if_neg hj, if_neg hj]
    by_cases e : i = j
    · subst e
      have hl : ¬ i < σ.length := fun z => hj ⟨q i h, z⟩
      rw [List.getElem?_eq_none (by rw [List.length_set]; omega), List.getElem?_eq_none (by omega)]
    · rw [List.getElem?_set_ne e]
/-- a target takes a value -/
def DG (X : Cx) (tg : Expr) (ts : List Nat) (d : D) (ρ ρ' : Ro) : Prop :=
  ∀ (σ : L2.St) (H H0 : Hp) (v : V), Same H0 H → Sl X.K H0 σ ρ → Rep X.K H0 v d → ∀ (Q : L2.St → Hp → Prop), (∀ σ', Sl X.K H0 σ' ρ' → But ts σ σ' → Q σ' H) → sG X tg v σ H Q
def DGs (X : Cx) (tgs : List Expr) (ts : List Nat) (ds : List D) (ρ ρ' : Ro) : Prop :=
  ∀ (σ : L2.St) (H H0 : Hp) (vs : List V), Same H0 H → Sl X.K H0 σ ρ → RepA X.K H0 vs ds → ∀ (Q : L2.St → Hp → Prop), (∀ σ', Sl X.K H0 σ' ρ' → But ts σ σ' → Q σ' H) → sGs X tgs vs σ H Q
/-- what is walked: the things that come, nothing changed but new pairs -/
def WkD (K : Frag) (J : It) (H0 : Hp) (ds : List D) : Prop :=
  ∃ (G : Hp → Prop) (Y : Nat → Hp → V → Hp → Prop), Walk J ds.length G Y ∧ (∀ H, Same H0 H → G H) ∧
    ∀ i H1 x H2 H01 d, Same H0 H01 → Same H01 H1 → ds[i]? = some d → Y i H1 x H2 → ∃ H02, Pu H01 H1 H02 H2 ∧ Rep K H02 x d
def DI (X : Cx) (kx : XD) (tg it : Expr) (ρ : Ro) (M : Mem) (ds : List D) : Prop :=
  ∀ (σ : L2.St) (H H0 : Hp), Ht X.K H0 H M → Sl X.K H0 σ ρ → ∀ (W : WX), Takes X W → Hx X W H0 H M kx → ∀ (R : It → Hp → Prop), (∀ J H' H0', Pu H0 H H0' H' → WkD X.K J H0' ds → R J H') → sI X tg it σ H R
structure Cn (X : Cx) (D : Ends) (H0 H : Hp) (M : Mem) (P : Out → Mem → Prop) : Prop where
  nx : ∀ σ' H' H0' ρ' M', Go H0 H M H0' H' M' → Ht X.K H0' H' M' → Sl X.K H0' σ' ρ' → P (.nx ρ') M' → D.nx σ' H'
  bk : ∀ σ' H' H0' ρ' M', Go H0 H M H0' H' M' → Ht X.K H0' H' M' → Sl X.K H0' σ' ρ' → P (.bk ρ') M' → D.bk σ' H'
  ct : ∀ σ' H' H0' ρ' M', Go H0 H M H0' H' M' → Ht X.K H0' H' M' → Sl X.K H0' σ' ρ' → P (.ct ρ') M' → D.ct σ' H'
  rt : ∀ v H' H0' d M', Go H0 H M H0' H' M' → Ht X.K H0' H' M' → Rep X.K H0' v d → P (.rt d) M' → D.rt v H'
def DS (X : Cx) (kx : XD) (sts : List Stmt) (ρ : Ro) (M : Mem) (P : Out → Mem → Prop) : Prop :=
  ∀ (σ : L2.St) (H H0 : Hp), Ht X.K H0 H M → Sl X.K H0 σ ρ → ∀ (W : WX), Takes X W → Hx X W H0 H M kx → ∀ (D : Ends), Cn X D H0 H M P → sSs X sts D σ H
def DS1 (X : Cx) (kx : XD) (st : Stmt) (ρ : Ro) (M : Mem) (P : Out → Mem → Prop) : Prop :=
  ∀ (σ : L2.St) (H H0 : Hp), Ht X.K H0 H M → Sl X.K H0 σ ρ → ∀ (W : WX), Takes X W → Hx X W H0 H M kx → ∀ (D : Ends), Cn X D H0 H M P → sS X st D σ H
def thenP (X : Cx) (kx : XD) (rest : List Stmt) (P : Out → Mem → Prop) : Out → Mem → Prop
  | .nx ρ, M => DS X kx rest ρ M P
  | o, M => P o M
section
variable {X : Cx} {kx : XD} {ρ ρ' ρ'' : Ro} {M M' : Mem} {P : Out → Mem → Prop}
theorem Cn.step {D : Ends} {H0 H H0' H' : Hp} (c : Cn X D H0 H M P) (g : Go H0 H M H0' H' M') : Cn X D H0' H' M' P :=
  ⟨fun σ' H2 H02 ρ' M2 g2 => c.nx σ' H2 H02 ρ' M2 (g.trans g2), fun σ' H2 H02 ρ' M2 g2 => c.bk σ' H2 H02 ρ' M2 (g.trans g2),
    fun σ' H2 H02 ρ' M2 g2 => c.ct σ' H2 H02 ρ' M2 (g.trans g2), fun v H2 H02 d M2 g2 => c.rt v H2 H02 d M2 (g.trans g2)⟩
theorem Cn.imp {D : Ends} {H0 H : Hp} {P' : Out → Mem → Prop} (c : Cn X D H0 H M P) (h : ∀ o m, P' o m → P o m) : Cn X D H0 H M P' :=
  ⟨fun σ' H2 H02 ρ' M2 g t s p => c.nx σ' H2 H02 ρ' M2 g t s (h _ _ p), fun σ' H2 H02 ρ' M2 g t s p => c.bk σ' H2 H02 ρ' M2 g t s (h _ _ p),
    fun σ' H2 H02 ρ' M2 g t s p => c.ct σ' H2 H02 ρ' M2 g t s (h _ _ p), fun v H2 H02 d M2 g t s p => c.rt v H2 H02 d M2 g t s (h _ _ p)⟩
theorem DS.imp {sts : List Stmt} {P' : Out → Mem → Prop} (h : DS X kx sts ρ M P') (i : ∀ o m, P' o m → P o m) : DS X kx sts ρ M P :=
  fun σ H H0 t s W tk hx D c => h σ H H0 t s W tk hx D (c.imp i)
theorem DS.fgt {sts : List Stmt} (h : DS X kx sts ρ' M P) (f : Fgt ρ ρ') : DS X kx sts ρ M P :=
  fun σ H H0 t s W tk hx D c => h σ H H0 t (s.fgt f) W tk hx D c
theorem DV.de {e : Expr} {d : D} {k : D → Mem → Prop} (h : DV X kx e ρ M d) (hk : k d M) : DE X kx e ρ M k :=
  fun σ H H0 t s W tk hx Q q => h σ H H0 t s W tk hx Q fun v H' H0' p r => q v H' H0' d M p.go (t.pu p) r hk
theorem DV.is {e : Expr} {d d' : D} (h : DV X kx e ρ M d) (e' : d = d') : DV X kx e ρ M d' := e' ▸ h
theorem DT.is {e : Expr} {d d' : Bool} (h : DT X kx e ρ M d) (e' : d = d') : DT X kx e ρ M d' := e' ▸ h
theorem DA.is {e : List Expr} {d d' : List D} (h : DA X kx e ρ M d) (e' : d = d') : DA X kx e ρ M d' := e' ▸ h
/-! ### statements -/
theorem ds_nil (h : P (.nx ρ) M) : DS X kx [] ρ M P := fun σ H H0 t s W tk hx D c => sSs.by pss_nil (c.nx σ H H0 ρ M Go.refl t s h)
theorem ds_cons {st : Stmt} {rest : List Stmt} (h : DS1 X kx st ρ M (thenP X kx rest P)) : DS X kx (st :: rest) ρ M P := fun σ H H0 t s W tk hx D c =>
  sSs.by (pss_cons (ps_s st) (pss_s rest)) (h σ H H0 t s W tk hx { D with nx := sSs X rest D }
    ⟨fun σ' H' H0' ρ' M' g t' s' p => p σ' H' H0' t' s' W tk (hx.step g) D (c.step g), c.bk, c.ct, c.rt⟩)
theorem ds1_ret {e : Expr} {pos : Pos} {k : D → Mem → Prop} (h : DE X kx e ρ M k) (hk : ∀ d m, k d m → P (.rt d) m) : DS1 X kx (.Return (some e) pos) ρ M P := fun σ H H0 t s W tk hx D c =>
  sS.by (ps_ret (pe_s e)) (h σ H H0 t s W tk hx D.rt fun v H' H0' d M' g t' r p => c.rt v H' H0' d M' g t' r (hk d M' p))
theorem ds1_retV {e : Expr} {pos : Pos} {d : D} (h : DV X kx e ρ M d) (hk : P (.rt d) M) : DS1 X kx (.Return (some e) pos) ρ M P :=
  ds1_ret (h.de (k := fun d' m => d' = d ∧ m = M) ⟨rfl, rfl⟩) fun d' m ⟨a, b⟩ => by subst a; subst b; exact hk
theorem ds1_expr {e : Expr} {pos : Pos} {k : D → Mem → Prop} (h : DE X kx e ρ M k) (hk : ∀ d m, k d m → P (.nx ρ) m) (hs : swapsWith e none pos.line X.env = pure false := by rfl) : DS1 X kx (.Expr e pos) ρ M P := fun σ H H0 t s W tk hx D c =>
  sS.by (ps_expr (pe_s e) hs) (h σ H H0 t s W tk hx (fun _ H1 => D.nx σ H1) fun v H' H0' d M' g t' r p => c.nx σ H' H0' ρ M' g t' (s.mo g.e0) (hk d M' p))
theorem ds1_if {c : Expr} {A B : List Stmt} {pos : Pos} {b : Bool} (hc : DT X kx c ρ M b) (h1 : b = true → DS X kx A ρ M P) (h2 : b = false → DS X kx B ρ M P) : DS1 X kx (.If c A B pos) ρ M P := fun σ H H0 t s W tk hx D cn =>
  sS.by (ps_if (pt_s c) (pss_s A) (pss_s B)) (hc σ H H0 t s W tk hx _ fun H' H0' p => by
    cases b with
    | true => exact h1 rfl σ H' H0' (t.pu p) (s.mo p.e0) W tk (hx.pu p) D (cn.step p.go)
    | false => exact h2 rfl σ H' H0' (t.pu p) (s.mo p.e0) W tk (hx.pu p) D (cn.step p.go))
/-- target = e -/
theorem ds1_asg {tg e : Expr} {pos : Pos} {k : D → Mem → Prop} (h : DE X kx e ρ M k) (hg : ∀ d m, k d m → ∃ ts ρ', DG X tg ts d ρ ρ' ∧ P (.nx ρ') m) (hs : swapsWithSole [tg] e pos.line X.env = pure false := by rfl) (hw : swappedStores [tg] e X.env = pure none := by rfl)
    (h1 : (assignEach [tg] X.env).map (·.2) = [assign tg X.env] := by rfl) : DS1 X kx (.Assign [tg] e pos) ρ M P := fun σ H H0 t s W tk hx D c =>
  sS.by (ps_asg (pe_s e) (pg_s tg) hs hw h1) (h σ H H0 t s W tk hx _ fun v H' H0' d M' g t' r p => by
    obtain ⟨ts, ρ', g1, p1⟩ := hg d M' p
    exact g1 σ H' H0' v t'.ex (s.mo g.e0) r _ fun σ' s' _ => c.nx σ' H' H0' ρ' M' g t' s' p1)
end
/-! ### names -/
structure Nm (X : Cx) (i : Nat) (x : Str) : Prop where
  get : X.N[i]? = some x
  vis : Vis X.env.scope x
  d1 : (x == ("__debug__" : Str)) = false
  d2 : (x == ("__classdict__" : Str)) = false
structure Ns (X : Cx) (i : Nat) (x : Str) : Prop extends Nm X i x where
  nd : X.N.Nodup
  loc : Loc X.env.scope x
  fn : X.fn x = true ∨ X.env.scope.names.lookup x = some .local
section
variable {X : Cx} {kx : XD} {ρ ρ' ρ'' : Ro} {M M' : Mem} {P : Out → Mem → Prop} {pos : Pos}
theorem dv_var {i : Nat} {x : Str} {d : D} (n : Nm X i x) (h : ρ[i]? = some (some d) := by rfl) : DV X kx (.Name x pos) ρ M d := fun σ H H0 t s W tk hx Q q =>
  let ⟨v, a, r⟩ := s.2 i d h
  sE.by (pe_var n.get n.vis n.d1 n.d2) ⟨v, a, q v H H0 (Pu.refl t.ex) r⟩
theorem dg_name {i : Nat} {x : Str} {d : D} (n : Ns X i x) : DG X (.Name x pos) [i] d ρ (ρ.set i (some d)) := fun σ H H0 v e s r Q q =>
  sG.by (pg_name n.nd n.get n.loc n.fn) (q _ (s.set r i) (But.set (by simp)))
theorem dgs_nil : DGs X [] [] [] ρ ρ := fun σ H H0 vs e s r Q q => sGs.by pgs_nil ⟨by cases r; rfl, q σ s But.refl⟩
theorem dgs_cons {tg : Expr} {tgs : List Expr} {ts us : List Nat} {d : D} {ds : List D} (h1 : DG X tg ts d ρ ρ') (h2 : DGs X tgs us ds ρ' ρ'') (hs : (assignEach (tg :: tgs) X.env).map (·.2) = assign tg X.env :: (assignEach tgs X.env).map (·.2) := by rfl) :
    DGs X (tg :: tgs) (ts ++ us) (d :: ds) ρ ρ'' := fun σ H H0 vs e s r Q q => by
  cases r with
  | cons a b => exact sGs.by (pgs_cons (pg_s tg) (pgs_s tgs) hs) ⟨_, _, rfl, h1 σ H H0 _ e s a _ fun σ' s' b1 => h2 σ' H H0 _ e s' b _ fun σ'' s'' b2 => q σ'' s'' ((b1.mono fun x h => List.mem_append_left _ h).trans (b2.mono fun x h => List.mem_append_right _ h))⟩
theorem dg_tup {es : List Expr} {ts : List Nat} {k : Nat} {ds : List D} (hc : X.calm = true) (h : DGs X es ts ds ρ ρ') (hn : (assignEach es X.env).length = ds.length := by rfl) (hst : (assignEach es X.env).findIdx? (·.1) = none := by rfl) : DG X (.Tuple es k pos) ts (.tup ds) ρ ρ' := fun σ H H0 v e s r Q q => by
  cases r with
  | tup a b => exact sG.by (pg_tup hc (pgs_s es) hn hst) ⟨_, _, rfl, SqT.of (e _ _ a), b.length, h σ H H0 _ e s b Q q⟩
theorem ds1_set {i : Nat} {x : Str} {e : Expr} {pos' : Pos} {d : D} (n : Ns X i x) (h : DV X kx e ρ M d) (hp : P (.nx (ρ.set i (some d))) M) (hs : swapsWithSole [.Name x pos'] e pos.line X.env = pure false := by rfl) (hw : swappedStores [.Name x pos'] e X.env = pure none := by rfl) :
    DS1 X kx (.Assign [.Name x pos'] e pos) ρ M P :=
  ds1_asg (h.de (k := fun d' m => d' = d ∧ m = M) ⟨rfl, rfl⟩) (fun d' m ⟨a, b⟩ => ⟨_, _, dg_name n, by subst a; subst b; exact hp⟩) hs hw
theorem ds1_setE {i : Nat} {x : Str} {e : Expr} {pos' : Pos} {k : D → Mem → Prop} (n : Ns X i x) (h : DE X kx e ρ M k) (hp : ∀ d m, k d m → P (.nx (ρ.set i (some d))) m) (hs : swapsWithSole [.Name x pos'] e pos.line X.env = pure false := by rfl) (hw : swappedStores [.Name x pos'] e X.env = pure none := by rfl) :
    DS1 X kx (.Assign [.Name x pos'] e pos) ρ M P :=
  ds1_asg h (fun d' m q => ⟨_, _, dg_name n, hp d' m q⟩) hs hw
theorem ds1_unp {tg e : Expr} {ts : List Nat} {d : D} (h : DV X kx e ρ M d) (hg : DG X tg ts d ρ ρ') (hp : P (.nx ρ') M) (hs : swapsWithSole [tg] e pos.line X.env = pure false := by rfl) (hw : swappedStores [tg] e X.env = pure none := by rfl)
    (h1 : (assignEach [tg] X.env).map (·.2) = [assign tg X.env] := by rfl) : DS1 X kx (.Assign [tg] e pos) ρ M P :=
  ds1_asg (h.de (k := fun d' m => d' = d ∧ m = M) ⟨rfl, rfl⟩) (fun d' m ⟨a, b⟩ => ⟨_, _, by subst a; exact hg, by subst b; exact hp⟩) hs hw h1
theorem dv_int {i j} : DV X kx (.Constant (.int i) j pos) ρ M (.int i) := fun σ H H0 t s W tk hx Q q => sE.by pe_int (q _ H H0 (Pu.refl t.ex) (.int i))
theorem dv_bl {i j} : DV X kx (.Constant (.bool i) j pos) ρ M (.bl i) := fun σ H H0 t s W tk hx Q q => sE.by pe_bl (q _ H H0 (Pu.refl t.ex) (.bl i))
theorem dv_non {j} : DV X kx (.Constant .none j pos) ρ M .non := fun σ H H0 t s W tk hx Q q => sE.by pe_non (q _ H H0 (Pu.refl t.ex) .non)
theorem dv_str {i j} : DV X kx (.Constant (.str i) j pos) ρ M (.str i) := fun σ H H0 t s W tk hx Q q => sE.by pe_str (q _ H H0 (Pu.refl t.ex) (.str i))
theorem da_nil : DA X kx [] ρ M [] := fun σ H H0 t s W tk hx Q q => sA.by pa_nil (q [] H H0 (Pu.refl t.ex) .nil)
theorem da_cons {e : Expr} {es : List Expr} {d : D} {ds : List D} (h1 : DV X kx e ρ M d) (h2 : DA X kx es ρ M ds) (hs : starEach (e :: es) X.env = (false, eval e X.env) :: starEach es X.env := by rfl) : DA X kx (e :: es) ρ M (d :: ds) := fun σ H H0 t s W tk hx Q q =>
  sA.by (pa_cons (pe_s e) (pa_s es) hs) (h1 σ H H0 t s W tk hx _ fun v H1 H01 p1 r1 => h2 σ H1 H01 (t.pu p1) (s.mo p1.e0) W tk (hx.pu p1) _ fun vs H2 H02 p2 r2 => q _ H2 H02 (p1.trans p2) (.cons (r1.mo p2.e0) r2))
/-! ### operators -/
def R2D (K : Frag) (r : R2) (M : Mem) (x y z : D) : Prop := ∀ (v u : V) (H H0 : Hp), Ht K H0 H M → Rep K H0 v x → Rep K H0 u y → ∀ (Q : VK), (∀ w H' H0', Pu H0 H H0' H' → Rep K H0' w z → Q w H') → r v u H Q
theorem dv_op {op : Operator} {r : R2} {a b : Expr} {x y z : D} (ho : OpR X (binaryOp op) r) (hr : R2D X.K r M x y z) (ha : DV X kx a ρ M x) (hb : DV X kx b ρ M y) : DV X kx (.BinOp a op b pos) ρ M z := fun σ H H0 t s W tk hx Q q =>
  sE.by (pe_op ho (pe_s a) (pe_s b)) (ha σ H H0 t s W tk hx _ fun v H1 H01 p1 r1 => hb σ H1 H01 (t.pu p1) (s.mo p1.e0) W tk (hx.pu p1) _ fun u H2 H02 p2 r2 =>
    hr v u H2 H02 (t.pu (p1.trans p2)) (r1.mo p2.e0) r2 Q fun w H3 H03 p3 r3 => q w H3 H03 ((p1.trans p2).trans p3) r3)
theorem dv_cmp {op : CmpOp} {r : R2} {a b : Expr} {x y z : D} (ho : OpR X (compareOp op) r) (hr : R2D X.K r M x y z) (ha : DV X kx a ρ M x) (hb : DV X kx b ρ M y) (hm : behindInMarks op b = false) : DV X kx (.Compare a [op] [b] pos) ρ M z := fun σ H H0 t s W tk hx Q q =>
  sE.by (pe_cmpR ho (pe_s a) (pe_s b) hm) (ha σ H H0 t s W tk hx _ fun v H1 H01 p1 r1 => hb σ H1 H01 (t.pu p1) (s.mo p1.e0) W tk (hx.pu p1) _ fun u H2 H02 p2 r2 =>
    hr v u H2 H02 (t.pu (p1.trans p2)) (r1.mo p2.e0) r2 Q fun w H3 H03 p3 r3 => q w H3 H03 ((p1.trans p2).trans p3) r3)
theorem dt_cmp {op : CmpOp} {r : R2} {a b : Expr} {x y : D} {z : Bool} (ho : OpR X (compareOp op) r) (hr : R2D X.K r M x y (.bl z)) (ha : DV X kx a ρ M x) (hb : DV X kx b ρ M y) (hm : behindInMarks op b = false) : DT X kx (.Compare a [op] [b] pos) ρ M z := fun σ H H0 t s W tk hx Q q =>
  sT.by (pt_cmpR ho (pe_s a) (pe_s b) hm) (ha σ H H0 t s W tk hx _ fun v H1 H01 p1 r1 => hb σ H1 H01 (t.pu p1) (s.mo p1.e0) W tk (hx.pu p1) _ fun u H2 H02 p2 r2 =>
    hr v u H2 H02 (t.pu (p1.trans p2)) (r1.mo p2.e0) r2 _ fun w H3 H03 p3 r3 => by cases r3; exact ⟨z, rfl, q H3 H03 ((p1.trans p2).trans p3)⟩)
theorem r2_ii {g : Int → Int → Int} {i j : Int} : R2D X.K (rI0 fun i j => .int (g i j)) M (.int i) (.int j) (.int (g i j)) := fun v u H H0 t r1 r2 Q q => by
  cases r1; cases r2; exact ⟨i, j, rfl, rfl, q _ H H0 (Pu.refl t.ex) (.int _)⟩
theorem r2_ib {g : Int → Int → Bool} {i j : Int} : R2D X.K (rI0 fun i j => .bl (g i j)) M (.int i) (.int j) (.bl (g i j)) := fun v u H H0 t r1 r2 Q q => by
  cases r1; cases r2; exact ⟨i, j, rfl, rfl, q _ H H0 (Pu.refl t.ex) (.bl _)⟩
theorem r2_iC {C : Int → Int → Prop} {g : Int → Int → Int} {i j : Int} (h : C i j) : R2D X.K (rI C fun i j => .int (g i j)) M (.int i) (.int j) (.int (g i j)) := fun v u H H0 t r1 r2 Q q => by
  cases r1; cases r2; exact ⟨i, j, rfl, rfl, h, q _ H H0 (Pu.refl t.ex) (.int _)⟩
variable {a b : Expr} {i j : Int}
theorem dv_add (ha : DV X kx a ρ M (.int i)) (hb : DV X kx b ρ M (.int j)) : DV X kx (.BinOp a .Add b pos) ρ M (.int (i + j)) := dv_op op_add r2_ii ha hb
theorem dv_sub (ha : DV X kx a ρ M (.int i)) (hb : DV X kx b ρ M (.int j)) : DV X kx (.BinOp a .Sub b pos) ρ M (.int (i - j)) := dv_op op_sub r2_ii ha hb
theorem dv_mul (ha : DV X kx a ρ M (.int i)) (hb : DV X kx b ρ M (.int j)) (h : CMul i j) : DV X kx (.BinOp a .Mult b pos) ρ M (.int (i * j)) := dv_op op_mul (r2_iC h) ha hb
theorem dv_mulW (ha : DV X kx a ρ M (.int i)) (hb : DV X kx b ρ M (.int j)) (h : CMulW i j) : DV X kx (.BinOp a .Mult b pos) ρ M (.int (i * j)) := dv_op op_mulW (r2_iC h) ha hb
theorem dv_fdiv (ha : DV X kx a ρ M (.int i)) (hb : DV X kx b ρ M (.int j)) (h : CDivW i j) : DV X kx (.BinOp a .FloorDiv b pos) ρ M (.int (i / j)) := dv_op op_fdivW (r2_iC h) ha hb
theorem dv_mod (ha : DV X kx a ρ M (.int i)) (hb : DV X kx b ρ M (.int j)) (h : 0 < j) : DV X kx (.BinOp a .Mod b pos) ρ M (.int (i % j)) := dv_op op_mod (r2_iC (C := fun _ j => 0 < j) h) ha hb
theorem dv_pow (ha : DV X kx a ρ M (.int i)) (hb : DV X kx b ρ M (.int j)) (h : CPow i j) : DV X kx (.BinOp a .Pow b pos) ρ M (.int (i ^ j.toNat)) := dv_op op_pow (r2_iC h) ha hb
theorem dv_neg (ha : DV X kx a ρ M (.int i)) : DV X kx (.UnaryOp .USub a pos) ρ M (.int (-i)) := fun σ H H0 t s W tk hx Q q =>
  sE.by (pe_un un_neg (pe_s a)) (ha σ H H0 t s W tk hx _ fun v H1 H01 p1 r1 => by cases r1; exact ⟨i, rfl, q _ H1 H01 p1 (.int _)⟩)
theorem dt_lt (ha : DV X kx a ρ M (.int i)) (hb : DV X kx b ρ M (.int j)) : DT X kx (.Compare a [.Lt] [b] pos) ρ M (decide (i < j)) := dt_cmp op_lt r2_ib ha hb (nomark _)
theorem dt_gt (ha : DV X kx a ρ M (.int i)) (hb : DV X kx b ρ M (.int j)) : DT X kx (.Compare a [.Gt] [b] pos) ρ M (decide (j < i)) := dt_cmp op_gt r2_ib ha hb (nomark _)
theorem r2_eqi {i j : Int} : R2D X.K rEq M (.int i) (.int j) (.bl (decide (i = j))) := fun v u H H0 t r1 r2 Q q => by
  cases r1; cases r2
  refine ⟨rfl, ?_⟩
  rw [dec_int, Bool.beq_eq_decide_eq]
  exact q _ H H0 (Pu.refl t.ex) (.bl _)
theorem r2_nei {i j : Int} : R2D X.K rNe M (.int i) (.int j) (.bl (!decide (i = j))) := fun v u H H0 t r1 r2 Q q => by
  cases r1; cases r2
  refine ⟨rfl, ?_⟩
  rw [dec_int, Bool.beq_eq_decide_eq]
  exact q _ H H0 (Pu.refl t.ex) (.bl _)
theorem dv_nei (ha : DV X kx a ρ M (.int i)) (hb : DV X kx b ρ M (.int j)) : DV X kx (.Compare a [.NotEq] [b] pos) ρ M (.bl (!decide (i = j))) := dv_cmp op_ne r2_nei ha hb (nomark _)
theorem dt_eqi (ha : DV X kx a ρ M (.int i)) (hb : DV X kx b ρ M (.int j)) : DT X kx (.Compare a [.Eq] [b] pos) ρ M (decide (i = j)) := dt_cmp op_eq r2_eqi ha hb (nomark _)
theorem dt_nei (ha : DV X kx a ρ M (.int i)) (hb : DV X kx b ρ M (.int j)) : DT X kx (.Compare a [.NotEq] [b] pos) ρ M (!decide (i = j)) := dt_cmp op_ne r2_nei ha hb (nomark _)
end
end Dl

namespace Dl
open PySem PySem.Spec PyProof.Rows L2
section
variable {X : Cx} {kx : XD} {ρ ρ' ρ'' : Ro} {M M' : Mem} {P : Out → Mem → Prop} {pos : Pos} {a b c e : Expr} {es : List Expr} {x y z : D} {k l : Bool}
/-! ### tests -/
theorem dt_val (h : DV X kx e ρ M (.bl k)) (he : ∀ whole, isTrue e X.env whole = (do let v ← whole; standAt e.pos; holding [v] (truthy v)) := by intro _; rfl) : DT X kx e ρ M k := fun σ H H0 t s W tk hx Q q =>
  sT.by (pt_val (pe_s e) he) (h σ H H0 t s W tk hx _ fun v H' H0' p r => by cases r; exact ⟨k, rfl, q H' H0' p⟩)
theorem dt_not (h : DT X kx a ρ M k) : DT X kx (.UnaryOp .Not a pos) ρ M (!k) := fun σ H H0 t s W tk hx Q q =>
  sT.by (pt_not (pt_s a)) (h σ H H0 t s W tk hx _ fun H' H0' p => q H' H0' p)
theorem DW.t (h : DW X kx e ρ M k) : DT X kx e ρ M k := fun σ H H0 t s W tk hx Q q => sT.by (pw_s e).pt (h σ H H0 t s W tk hx Q q)
theorem dw_and1 (h : DT X kx a ρ M k) : DW X kx (.BoolOp .And [a] pos) ρ M k := fun σ H H0 t s W tk hx Q q => sW.by (pw_and1 (pt_s a)) (h σ H H0 t s W tk hx Q q)
theorem dw_or1 (h : DT X kx a ρ M k) : DW X kx (.BoolOp .Or [a] pos) ρ M k := fun σ H H0 t s W tk hx Q q => sW.by (pw_or1 (pt_s a)) (h σ H H0 t s W tk hx Q q)
theorem dw_and {rest : List Expr} (h1 : DT X kx a ρ M k) (h2 : k = true → DW X kx (.BoolOp .And (b :: rest) pos) ρ M l) : DW X kx (.BoolOp .And (a :: b :: rest) pos) ρ M (k && l) := fun σ H H0 t s W tk hx Q q =>
  sW.by (pw_and (pt_s a) (pw_s _)) (h1 σ H H0 t s W tk hx _ fun H' H0' p => by
    cases k with
    | true => exact iteT (h2 rfl σ H' H0' (t.pu p) (s.mo p.e0) W tk (hx.pu p) Q fun H2 H02 p2 => q H2 H02 (p.trans p2))
    | false => exact iteF (q H' H0' p))
theorem dw_or {rest : List Expr} (h1 : DT X kx a ρ M k) (h2 : k = false → DW X kx (.BoolOp .Or (b :: rest) pos) ρ M l) : DW X kx (.BoolOp .Or (a :: b :: rest) pos) ρ M (k || l) := fun σ H H0 t s W tk hx Q q =>
  sW.by (pw_or (pt_s a) (pw_s _)) (h1 σ H H0 t s W tk hx _ fun H' H0' p => by
    cases k with
    | true => exact iteT (q H' H0' p)
    | false => exact iteF (h2 rfl σ H' H0' (t.pu p) (s.mo p.e0) W tk (hx.pu p) Q fun H2 H02 p2 => q H2 H02 (p.trans p2)))
/-! the same as values -/
theorem dv_one {op} (h : DV X kx a ρ M x) : DV X kx (.BoolOp op [a] pos) ρ M x := fun σ H H0 t s W tk hx Q q => sE.by (pe_one (pe_s a)) (h σ H H0 t s W tk hx Q q)
theorem dv_or {rest : List Expr} (h1 : DV X kx a ρ M (.bl k)) (h2 : k = false → DV X kx (.BoolOp .Or (b :: rest) pos) ρ M (.bl l)) : DV X kx (.BoolOp .Or (a :: b :: rest) pos) ρ M (.bl (k || l)) := fun σ H H0 t s W tk hx Q q =>
  sE.by (pe_or (pe_s a) (pe_s _)) (h1 σ H H0 t s W tk hx _ fun v H' H0' p r => by
    cases r
    refine ⟨k, rfl, ?_⟩
    cases k with
    | true => exact iteT (q _ H' H0' p (.bl true))
    | false => exact iteF (h2 rfl σ H' H0' (t.pu p) (s.mo p.e0) W tk (hx.pu p) Q fun v H2 H02 p2 r2 => q v H2 H02 (p.trans p2) r2))
/-! ### None -/
def D.isNon : D → Bool
  | .non => true
  | _ => false
theorem rep_non {K : Frag} {H : Hp} {v : V} {d : D} (r : Rep K H v d) : decide (v = .non) = d.isNon := by
  cases r <;> rfl
theorem r2_isN : R2D X.K (fun x y H Q => y = .non ∧ Q (.bl (decide (x = .non))) H) M x .non (.bl x.isNon) := fun v u H H0 t r1 r2 Q q => by
  cases r2
  refine ⟨rfl, ?_⟩
  rw [rep_non r1]
  exact q _ H H0 (Pu.refl t.ex) (.bl _)
theorem r2_notN : R2D X.K (fun x y H Q => y = .non ∧ Q (.bl (!decide (x = .non))) H) M x .non (.bl (!x.isNon)) := fun v u H H0 t r1 r2 Q q => by
  cases r2
  refine ⟨rfl, ?_⟩
  rw [rep_non r1]
  exact q _ H H0 (Pu.refl t.ex) (.bl _)
theorem dv_isN {j p2} (h : DV X kx a ρ M x) : DV X kx (.Compare a [.Is] [.Constant .none j p2] pos) ρ M (.bl x.isNon) := dv_cmp op_isN r2_isN h dv_non (nomark _)
theorem dt_notN {j p2} (h : DV X kx a ρ M x) : DT X kx (.Compare a [.IsNot] [.Constant .none j p2] pos) ρ M (!x.isNon) := dt_cmp op_notN r2_notN h dv_non (nomark _)
end
/-! ### data that compares -/
mutual
def D.py : D → PyData
  | .non => .none
  | .bl b => .bool b
  | .int i => .int i
  | .str x => .str x
  | .ty _ => .none
  | .lst xs => .list (D.pyA xs)
  | .scr xs => .list (D.pyA xs)
  | .tup xs => .tuple (D.pyA xs)
  | .ins _ _ _ => .none
  | .adr _ => .none
  | .dK _ _ => .none
  | .dT _ _ => .none
  | .exn _ _ _ _ => .none
  | .clo _ _ _ => .none
def D.pyA : List D → List PyData
  | [] => []
  | d :: ds => d.py :: D.pyA ds
end
mutual
/-- no objects within -/
def D.flat : D → Bool
  | .non => true
  | .bl _ => true
  | .int _ => true
  | .str _ => true
  | .ty _ => false
  | .lst xs => D.flatA xs
  | .scr xs => D.flatA xs
  | .tup xs => D.flatA xs
  | .ins _ _ _ => false
  | .adr _ => false
  | .dK _ _ => false
  | .dT _ _ => false
  | .exn _ _ _ _ => false
  | .clo _ _ _ => false
def D.flatA : List D → Bool
  | [] => true
  | d :: ds => d.flat && D.flatA ds
end
mutual
theorem Rep.dp {K : Frag} {H : Hp} : ∀ (d : D) (v : V), d.flat = true → Rep K H v d → Dp K H v d.py
  | .non, _, f, h => by cases h; simp only [D.py]; exact .non
  | .bl b, _, f, h => by cases h; simp only [D.py]; exact .bl b
  | .int b, _, f, h => by cases h; simp only [D.py]; exact .int b
  | .str b, _, f, h => by cases h; simp only [D.py]; exact .str b
  | .ty b, _, f, h => by simp [D.flat] at f
  | .lst ds, _, f, h => by
    cases h with
    | lst a b =>
      simp only [D.py]
      exact .lst (SqL.of a) (RepA.dp ds _ (by simpa [D.flat] using f) b)
  | .scr ds, _, f, h => by
    cases h with
    | scr a b =>
      simp only [D.py]
      exact .lst a (RepA.dp ds _ (by simpa [D.flat] using f) b)
  | .tup ds, _, f, h => by
    cases h with
    | tup a b =>
      simp only [D.py]
      exact .tup (SqT.of a) (RepA.dp ds _ (by simpa [D.flat] using f) b)
  | .ins C ns ds, _, f, h => by simp [D.flat] at f
  | .adr a, _, f, h => by simp [D.flat] at f
  | .dK _ _, _, f, h => by simp [D.flat] at f
  | .dT _ _, _, f, h => by simp [D.flat] at f
  | .exn _ _ _ _, _, f, h => by simp [D.flat] at f
  | .clo _ _ _, _, f, h => by simp [D.flat] at f
theorem RepA.dp {K : Frag} {H : Hp} : ∀ (ds : List D) (vs : List V), D.flatA ds = true → RepA K H vs ds → DpAll K H vs (D.pyA ds)
  | [], _, f, h => by cases h; simp only [D.pyA]; exact .nil
  | d :: ds, _, f, h => by
    simp only [D.flatA, Bool.and_eq_true] at f
    cases h with
    | cons a b =>
      simp only [D.pyA]
      exact .cons (Rep.dp d _ f.1 a) (RepA.dp ds _ f.2 b)
end
/-- a thing's data: it is flat, of small depth; == of two such things is k -/
structure Eqs (x y : D) (k : Bool) : Prop where
  fx : x.flat = true
  fy : y.flat = true
  sx : SeqAt.shaped x.py = true
  sy : SeqAt.shaped y.py = true
  eq : PyData.eqv x.py y.py = k
section
variable {X : Cx} {kx : XD} {ρ ρ' ρ'' : Ro} {M M' : Mem} {P : Out → Mem → Prop} {pos : Pos} {a b c e : Expr} {es : List Expr} {x y z : D} {k l : Bool}
theorem r2_neD (h : Eqs x y k) : R2D X.K (rNeD X.K) M x y (.bl (!k)) := fun v u H H0 t r1 r2 Q q =>
  ⟨x.py, y.py, Rep.dp _ _ h.fx (r1.mo t.ex), Rep.dp _ _ h.fy (r2.mo t.ex), h.sx, h.sy, by rw [h.eq]; exact q _ H H0 (Pu.refl t.ex) (.bl _)⟩
theorem dt_neD (hu : X.A.units + 64 < cLine) (ha : DV X kx a ρ M x) (hb : DV X kx b ρ M y) (h : Eqs x y k) : DT X kx (.Compare a [.NotEq] [b] pos) ρ M (!k) := dt_cmp (op_neD hu) (r2_neD h) ha hb (nomark _)
/-! ### displays -/
theorem dv_tup {n} {ds : List D} (h : DA X kx es ρ M ds) (hl : ds.length ≤ sizeLine) : DV X kx (.Tuple es n pos) ρ M (.tup ds) := fun σ H H0 t s W tk hx Q q =>
  sE.by (pe_tup (pa_s es)) (h σ H H0 t s W tk hx _ fun vs H' H0' p r => ⟨by rw [r.length]; exact hl, fun w hw =>
    let g := Pu.new1 p.ex hw (.tup vs)
    q (.ref w) _ _ (p.trans g) (.tup upd_same (r.mo g.e0))⟩)
theorem dv_lst {ds : List D} (h : DA X kx es ρ M ds) (hl : ds.length ≤ sizeLine) : DV X kx (.List es pos) ρ M (.lst ds) := fun σ H H0 t s W tk hx Q q =>
  sE.by (pe_lst (pa_s es)) (h σ H H0 t s W tk hx _ fun vs H' H0' p r => ⟨by rw [r.length]; exact hl, fun w hw =>
    let g := Pu.new1 p.ex hw (.lst vs)
    q (.ref w) _ _ (p.trans g) (.lst upd_same (r.mo g.e0))⟩)
/-- a list that will change -/
theorem de_lst {ds : List D} {k : D → Mem → Prop} (h : DA X kx es ρ M ds) (hl : ds.length ≤ sizeLine) (hk : ∀ w, w ∉ M.dom → k (.adr w) ((w, .lst ds) :: M)) : DE X kx (.List es pos) ρ M k := fun σ H H0 t s W tk hx Q q =>
  sE.by (pe_lst (pa_s es)) (h σ H H0 t s W tk hx _ fun vs H' H0' p r => ⟨by rw [r.length]; exact hl, fun w hw =>
    q (.ref w) _ H0' _ _ (p.go.trans (Go.new1 hw (.lst vs))) ((t.pu p).new1 (m := .lst ds) hw fun H2 e2 => ⟨vs, e2, r⟩) (.adr w) (hk w ((t.pu p).free hw).2)⟩)
/-- a row that is a list -/
inductive SeqL (M : Mem) : D → List D → Prop
  | lst (ds : List D) : SeqL M (.lst ds) ds
  | scr (ds : List D) : SeqL M (.scr ds) ds
  | adr {p : Addr} {ds : List D} : (p, Mu.lst ds) ∈ M → SeqL M (.adr p) ds
theorem SeqL.rep {x : D} {ds : List D} {v : V} {H H0 : Hp} (h : SeqL M x ds) (t : Ht X.K H0 H M) (r : Rep X.K H0 v x) : ∃ p vs, v = .ref p ∧ SqL X.K H p vs ∧ RepA X.K H0 vs ds := by
  cases h with
  | lst ds => cases r with | lst a b => exact ⟨_, _, rfl, SqL.of (t.ex _ _ a), b⟩
  | scr ds => cases r with | scr a b => exact ⟨_, _, rfl, t.ex.seq a, b⟩
  | adr hm =>
    cases r
    obtain ⟨_, vs, h1, h2⟩ := t.mem _ hm
    exact ⟨_, vs, rfl, SqL.of h1, h2⟩
/-- a list by itself: it may be put together with another one -/
inductive SeqO (M : Mem) : D → List D → Prop
  | lst (ds : List D) : SeqO M (.lst ds) ds
  | adr {p : Addr} {ds : List D} : (p, Mu.lst ds) ∈ M → SeqO M (.adr p) ds
theorem SeqO.rep {x : D} {ds : List D} {v : V} {H H0 : Hp} (h : SeqO M x ds) (t : Ht X.K H0 H M) (r : Rep X.K H0 v x) : ∃ p vs, v = .ref p ∧ H p = some (.lst vs) ∧ RepA X.K H0 vs ds := by
  cases h with
  | lst ds => cases r with | lst a b => exact ⟨_, _, rfl, t.ex _ _ a, b⟩
  | adr hm =>
    cases r
    obtain ⟨_, vs, h1, h2⟩ := t.mem _ hm
    exact ⟨_, vs, rfl, h1, h2⟩
/-! ### subscripts -/
theorem rep_ix {K : Frag} {H : Hp} {vs : List V} {ds : List D} {i : Int} {d : D} (r : RepA K H vs ds) (h : atI ds i = some d) : ∃ v, atI vs i = some v ∧ Rep K H v d := by
  unfold atI at h ⊢
  rw [r.length]
  cases e : ixN ds.length i with
  | none => rw [e] at h; cases h
  | some j =>
    rw [e] at h
    exact r.get h
theorem r2_ixL {ds : List D} {i : Int} {d : D} (hq : SeqL M x ds) (h : atI ds i = some d) : R2D X.K (rIxL X.K) M x (.int i) d := fun v u H H0 t r1 r2 Q q => by
  cases r2
  obtain ⟨p, vs, rfl, h1, h2⟩ := hq.rep t r1
  obtain ⟨w, h3, h4⟩ := rep_ix h2 h
  exact ⟨p, vs, i, w, rfl, rfl, h1, h3, q _ H H0 (Pu.refl t.ex) h4⟩
theorem r2_ixT {ds : List D} {i : Int} {d : D} (h : atI ds i = some d) : R2D X.K (rIxT X.K) M (.tup ds) (.int i) d := fun v u H H0 t r1 r2 Q q => by
  cases r2
  cases r1 with
  | tup a b =>
    obtain ⟨w, h1, h2⟩ := rep_ix b h
    exact ⟨_, _, i, w, rfl, rfl, SqT.of (t.ex _ _ a), h1, q _ H H0 (Pu.refl t.ex) h2⟩
theorem dv_ix {r : R2} (hr : IxR X r) (h : R2D X.K r M x y z) (ha : DV X kx a ρ M x) (hb : DV X kx b ρ M y) (hs : PlainIx b) : DV X kx (.Subscript a b pos) ρ M z := fun σ H H0 t s W tk hx Q q =>
  sE.by (pe_ix hr (pe_s a) (pe_s b) hs) (ha σ H H0 t s W tk hx _ fun v H1 H01 p1 r1 => hb σ H1 H01 (t.pu p1) (s.mo p1.e0) W tk (hx.pu p1) _ fun u H2 H02 p2 r2 =>
    h v u H2 H02 (t.pu (p1.trans p2)) (r1.mo p2.e0) r2 Q fun w H3 H03 p3 r3 => q w H3 H03 ((p1.trans p2).trans p3) r3)
theorem dv_ixS {ds : List D} {i : Int} {d : D} (ha : DV X kx a ρ M x) (hq : SeqL M x ds) (hb : DV X kx b ρ M (.int i)) (h : atI ds i = some d) (hs : PlainIx b := by intro _ _; rfl) : DV X kx (.Subscript a b pos) ρ M d := dv_ix ix_list (r2_ixL hq h) ha hb hs
theorem dv_ixT {ds : List D} {i : Int} {d : D} (ha : DV X kx a ρ M (.tup ds)) (hb : DV X kx b ρ M (.int i)) (h : atI ds i = some d) (hs : PlainIx b := by intro _ _; rfl) : DV X kx (.Subscript a b pos) ρ M d := dv_ix ix_tup (r2_ixT h) ha hb hs
/-! ### slices -/
def DO (X : Cx) (kx : XD) (e : Option Expr) (ρ : Ro) (M : Mem) (o : Option Int) : Prop :=
  match e with
  | none => o = none
  | some e => ∃ i, o = some i ∧ DV X kx e ρ M (.int i)
theorem do_none : DO X kx none ρ M none := rfl
theorem do_some {i : Int} (h : DV X kx e ρ M (.int i)) : DO X kx (some e) ρ M (some i) := ⟨i, rfl, h⟩
def sO (X : Cx) : Option Expr → TO
  | none => tNoPart
  | some e => tPart (sE X e)
theorem po_s : ∀ e : Option Expr, PO X e (sO X e)
  | none => po_none
  | some e => po_some (pe_s e)
theorem DO.run {o : Option Expr} {i : Option Int} (h : DO X kx o ρ M i) {σ : L2.St} {H H0 : Hp} (t : Ht X.K H0 H M) (s : Sl X.K H0 σ ρ) {W : WX} (tk : Takes X W) (hx : Hx X W H0 H M kx) {Q : Option Int → Hp → Prop} (q : ∀ H' H0', Pu H0 H H0' H' → Q i H') : sO X o σ H Q := by
  cases o with
  | none =>
    have e : i = none := h
    subst e
    exact q H H0 (Pu.refl t.ex)
  | some e =>
    obtain ⟨j, rfl, h⟩ := h
    exact h σ H H0 t s W tk hx _ fun v H' H0' p r => by cases r; exact ⟨j, rfl, q H' H0' p⟩
def cutD (xs : List D) (lo hi : Option Int) : List D := (xs.drop (HT.sIx xs.length 0 lo)).take (HT.sIx xs.length xs.length hi - HT.sIx xs.length 0 lo)
theorem rep_cut {K : Frag} {H : Hp} {vs : List V} {ds : List D} (r : RepA K H vs ds) (lo hi : Option Int) : RepA K H (cutV vs lo hi) (cutD ds lo hi) := by
  unfold cutV cutD
  rw [r.length]
  exact (r.drop _).take _
theorem dv_slS {lo hi : Option Expr} {p2} {i j : Option Int} {ds : List D} (ha : DV X kx a ρ M x) (hq : SeqL M x ds) (hl : DO X kx lo ρ M i) (hh : DO X kx hi ρ M j) : DV X kx (.Subscript a (.Slice lo hi none p2) pos) ρ M (.lst (cutD ds i j)) := fun σ H H0 t s W tk hx Q q =>
  sE.by (pe_slice sl_list (pe_s a) (po_s lo) (po_s hi)) (ha σ H H0 t s W tk hx _ fun v H1 H01 p1 r1 => hl.run (t.pu p1) (s.mo p1.e0) tk (hx.pu p1) fun H2 H02 p2 => hh.run (t.pu (p1.trans p2)) (s.mo (p1.trans p2).e0) tk (hx.pu (p1.trans p2)) fun H3 H03 p3 => by
    have p123 := (p1.trans p2).trans p3
    obtain ⟨p, vs, rfl, h1, h2⟩ := hq.rep (t.pu p123) (r1.mo (p2.trans p3).e0)
    refine ⟨_, vs, rfl, h1, fun w hw => ?_⟩
    have g := Pu.new1 p123.ex hw (.lst (cutV vs i j))
    exact q (.ref w) _ _ (p123.trans g) (.lst upd_same (rep_cut (h2.mo g.e0) i j)))
/-! ### built-ins called -/
/-- a global name that is a built-in's -/
structure Bn (X : Cx) (x : Str) (u : Value) : Prop where
  gl : Gl X x
  mg : X.mg x = none
  bt : bootBuiltins x = some u
  n : x ≠ "__name__"
  d : (x == ("__debug__" : Str)) = false
def RCD (K : Frag) (r : List V → Hp → VK → Prop) (M : Mem) (ds : List D) (z : D) : Prop := ∀ (vs : List V) (H H0 : Hp), Ht K H0 H M → RepA K H0 vs ds → ∀ (Q : VK), (∀ w H' H0', Pu H0 H H0' H' → Rep K H0' w z → Q w H') → r vs H Q
theorem dv_callB {id : String} {x : Str} {p : Pos} {r : List V → Hp → VK → Prop} {ds : List D} {z : D} (n : Bn X x (.builtin id)) (hc : CallR X (.builtin id) r) (hr : RCD X.K r M ds z) (ha : DA X kx (e :: es) ρ M ds)
    (he : starEach (e :: es) X.env = (false, eval e X.env) :: starEach es X.env := by rfl) (hpl : (backTo pos (starEach es X.env)).any (·.1) = false := by rfl) : DV X kx (.Call (.Name x p) (e :: es) [] pos) ρ M z := fun σ H H0 t s W tk hx Q q =>
  sE.by (pe_callB hc n.gl n.mg n.bt (pa_s _) n.n n.d he hpl) (ha σ H H0 t s W tk hx _ fun vs H1 H01 p1 r1 => hr vs H1 H01 (t.pu p1) r1 Q fun w H2 H02 p2 r2 => q w H2 H02 (p1.trans p2) r2)
theorem dv_callT {T : String} {x : Str} {p : Pos} {r : List V → Hp → VK → Prop} {ds : List D} {z : D} (n : Bn X x (.type T)) (hc : CallR X (.type T) r) (hr : RCD X.K r M ds z) (ha : DA X kx (e :: es) ρ M ds)
    (he : starEach (e :: es) X.env = (false, eval e X.env) :: starEach es X.env := by rfl) (hpl : (backTo pos (starEach es X.env)).any (·.1) = false := by rfl) : DV X kx (.Call (.Name x p) (e :: es) [] pos) ρ M z := fun σ H H0 t s W tk hx Q q =>
  sE.by (pe_callTy hc n.gl n.mg n.bt (pa_s _) n.n n.d he hpl) (ha σ H H0 t s W tk hx _ fun vs H1 H01 p1 r1 => hr vs H1 H01 (t.pu p1) r1 Q fun w H2 H02 p2 r2 => q w H2 H02 (p1.trans p2) r2)
theorem dv_bn {x : Str} {T : String} (n : Bn X x (.type T)) : DV X kx (.Name x pos) ρ M (.ty T) := fun σ H H0 t s W tk hx Q q =>
  sE.by (pe_bltn n.gl n.mg n.bt (v := .ty T) rfl n.n n.d) (q _ H H0 (Pu.refl t.ex) (.ty T))
theorem repA1 {K : Frag} {H : Hp} {vs : List V} {d : D} (r : RepA K H vs [d]) : ∃ v, vs = [v] ∧ Rep K H v d := by
  cases r with
  | cons a b => cases b; exact ⟨_, rfl, a⟩
theorem repA2 {K : Frag} {H : Hp} {vs : List V} {d d' : D} (r : RepA K H vs [d, d']) : ∃ v v', vs = [v, v'] ∧ Rep K H v d ∧ Rep K H v' d' := by
  cases r with
  | cons a b =>
    obtain ⟨v, rfl, r⟩ := repA1 b
    exact ⟨_, _, rfl, a, r⟩
/-- a thing of things in a row: a list, a tuple, a list that may change -/
inductive Seq (M : Mem) : D → List D → Prop
  | lst (ds : List D) : Seq M (.lst ds) ds
  | scr (ds : List D) : Seq M (.scr ds) ds
  | tup (ds : List D) : Seq M (.tup ds) ds
  | adr {p : Addr} {ds : List D} : (p, Mu.lst ds) ∈ M → Seq M (.adr p) ds
theorem Seq.rep {x : D} {ds : List D} {v : V} {H H0 : Hp} (h : Seq M x ds) (t : Ht X.K H0 H M) (r : Rep X.K H0 v x) : ∃ p vs, v = .ref p ∧ (SqL X.K H p vs ∨ SqT X.K H p vs) ∧ RepA X.K H0 vs ds := by
  cases h with
  | lst ds => cases r with | lst a b => exact ⟨_, _, rfl, .inl (SqL.of (t.ex _ _ a)), b⟩
  | scr ds => cases r with | scr a b => exact ⟨_, _, rfl, .inl (t.ex.seq a), b⟩
  | tup ds => cases r with | tup a b => exact ⟨_, _, rfl, .inr (SqT.of (t.ex _ _ a)), b⟩
  | adr hm =>
    cases r
    obtain ⟨_, vs, h1, h2⟩ := t.mem _ hm
    exact ⟨_, vs, rfl, .inl (SqL.of h1), h2⟩
variable {p : Pos}
theorem dv_len {ds : List D} {f : Str} (n : Bn X f (.builtin "len")) (ha : DV X kx e ρ M x) (h : Seq M x ds) (he : starEach [e] X.env = (false, eval e X.env) :: starEach [] X.env := by rfl) : DV X kx (.Call (.Name f p) [e] [] pos) ρ M (.int (ds.length : Int)) :=
  dv_callB n call_len_seq (fun vs H H0 t r Q q => by
    obtain ⟨v, rfl, r1⟩ := repA1 r
    obtain ⟨p, vs, rfl, h1, h2⟩ := h.rep t r1
    exact ⟨p, vs, rfl, h1, by rw [h2.length]; exact q _ H H0 (Pu.refl t.ex) (.int _)⟩) (da_cons ha da_nil he) he
theorem dv_lenS {z : Str} {f : Str} (n : Bn X f (.builtin "len")) (ha : DV X kx e ρ M (.str z)) (h : z.length ≤ sizeLine) (he : starEach [e] X.env = (false, eval e X.env) :: starEach [] X.env := by rfl) : DV X kx (.Call (.Name f p) [e] [] pos) ρ M (.int (z.length : Int)) :=
  dv_callB n call_len_str (fun vs H H0 t r Q q => by
    obtain ⟨v, rfl, r1⟩ := repA1 r
    cases r1
    exact ⟨z, rfl, h, q _ H H0 (Pu.refl t.ex) (.int _)⟩) (da_cons ha da_nil he) he
/-- list(xs): a new list that never changes | that may -/
theorem dv_list {ds : List D} {f : Str} (n : Bn X f (.type "list")) (ha : DV X kx e ρ M x) (h : Seq M x ds) (he : starEach [e] X.env = (false, eval e X.env) :: starEach [] X.env := by rfl) : DV X kx (.Call (.Name f p) [e] [] pos) ρ M (.lst ds) :=
  dv_callT n call_list_of (fun vs H H0 t r Q q => by
    obtain ⟨v, rfl, r1⟩ := repA1 r
    obtain ⟨p, vs, rfl, h1, h2⟩ := h.rep t r1
    exact ⟨p, vs, rfl, h1, fun w hw => let g := Pu.new1 t.ex hw (.lst vs); q _ _ _ g (.lst upd_same (h2.mo g.e0))⟩) (da_cons ha da_nil he) he
theorem de_list {ds : List D} {f : Str} {k : D → Mem → Prop} (n : Bn X f (.type "list")) (ha : DV X kx e ρ M x) (h : Seq M x ds) (hk : ∀ w, w ∉ M.dom → k (.adr w) ((w, .lst ds) :: M)) (he : starEach [e] X.env = (false, eval e X.env) :: starEach [] X.env := by rfl) :
    DE X kx (.Call (.Name f p) [e] [] pos) ρ M k := fun σ H H0 t s W tk hx Q q =>
  sE.by (pe_callTy call_list_of n.gl n.mg n.bt (pa_s [e]) n.n n.d he) ((da_cons ha da_nil he : DA X kx [e] ρ M [x]) σ H H0 t s W tk hx _ fun vs H1 H01 p1 r1 => by
    obtain ⟨v, rfl, r2⟩ := repA1 r1
    obtain ⟨p, vs, rfl, h1, h2⟩ := h.rep (t.pu p1) r2
    exact ⟨p, vs, rfl, h1, fun w hw => q (.ref w) _ H01 _ _ (p1.go.trans (Go.new1 hw (.lst vs))) ((t.pu p1).new1 (m := .lst ds) hw fun H2 e2 => ⟨vs, e2, h2⟩) (.adr w) (hk w ((t.pu p1).free hw).2)⟩)
theorem SeqL.seq {ds : List D} (h : SeqL M x ds) : Seq M x ds := by
  cases h with
  | lst ds => exact .lst ds
  | scr ds => exact .scr ds
  | adr h => exact .adr h
theorem dv_all {bs : List Bool} {f : Str} (hc : X.calm = true) (n : Bn X f (.builtin "all")) (ha : DV X kx e ρ M x) (h : SeqL M x (bs.map D.bl)) (he : starEach [e] X.env = (false, eval e X.env) :: starEach [] X.env := by rfl) : DV X kx (.Call (.Name f p) [e] [] pos) ρ M (.bl (bs.all id)) :=
  dv_callB n (cr_all hc) (fun vs H H0 t r Q q => by
    obtain ⟨v, rfl, r1⟩ := repA1 r
    obtain ⟨p, vs, rfl, h1, h2⟩ := h.rep t r1
    have e := h2.bls
    subst e
    exact ⟨p, bs, rfl, h1, q _ H H0 (Pu.refl t.ex) (.bl _)⟩) (da_cons ha da_nil he) he
/-! isinstance of data, built-in classes -/
inductive TyN (M : Mem) : D → String → Prop
  | non : TyN M .non "NoneType"
  | bl (b : Bool) : TyN M (.bl b) "bool"
  | int (i : Int) : TyN M (.int i) "int"
  | str (s : Str) : TyN M (.str s) "str"
  | lst (ds : List D) : TyN M (.lst ds) "list"
  | scr (ds : List D) : TyN M (.scr ds) "list"
  | tup (ds : List D) : TyN M (.tup ds) "tuple"
  | adr {p : Addr} {ds : List D} : (p, Mu.lst ds) ∈ M → TyN M (.adr p) "list"
theorem tyx_L {K : Frag} {H : Hp} {a : Addr} {xs : List V} (h : SqL K H a xs) : TyX K H (.ref a) (.type "list") := by
  rcases h with (h | ⟨o, h⟩) | ⟨o, its, n, h1, h2, _⟩
  · exact .base (.lst h)
  · exact .base (.frz h)
  · exact .kList h1 h2
theorem tyx_T {K : Frag} {H : Hp} {a : Addr} {xs : List V} (h : SqT K H a xs) : TyX K H (.ref a) (.type "tuple") := by
  rcases h with (h | ⟨o, h⟩) | ⟨o, its, n, h1, h2, _⟩
  · exact .base (.tup h)
  · exact .fTuple h
  · exact .kTuple h1 h2
theorem TyN.tyx {T : String} {v : V} {H H0 : Hp} (h : TyN M x T) (t : Ht X.K H0 H M) (r : Rep X.K H0 v x) : TyX X.K H v (.type T) := by
  cases h with
  | non => cases r; exact .base .non
  | bl b => cases r; exact .base (.bl b)
  | int b => cases r; exact .base (.int b)
  | str b => cases r; exact .base (.str b)
  | lst ds => cases r with | lst a b => exact .base (.lst (t.ex _ _ a))
  | scr ds => cases r with | scr a b => exact tyx_L (t.ex.seq a)
  | tup ds => cases r with | tup a b => exact tyx_T (SqT.of (t.ex _ _ a))
  | adr hm =>
    cases r
    obtain ⟨_, vs, h1, h2⟩ := t.mem _ hm
    exact .base (.lst h1)
theorem dv_isi {T S : String} {f g : Str} {p2 : Pos} {k : Bool} (n : Bn X f (.builtin "isinstance")) (n2 : Bn X g (.type S)) (ha : DV X kx a ρ M x) (h : TyN M x T) (hk : kitB T S = some k)
    (he : starEach [a, .Name g p2] X.env = (false, eval a X.env) :: starEach [.Name g p2] X.env := by rfl) : DV X kx (.Call (.Name f p) [a, .Name g p2] [] pos) ρ M (.bl k) :=
  dv_callB n call_isi (fun vs H H0 t r Q q => by
    obtain ⟨v, u, rfl, r1, r2⟩ := repA2 r
    cases r2
    exact ⟨v, .ty S, .type T, .type S, k, rfl, .ty S, h.tyx t r1, kit_ty hk, q _ H H0 (Pu.refl t.ex) (.bl _)⟩) (da_cons ha (da_cons (dv_bn n2) da_nil) he) he
end
end Dl

namespace Dl
open PySem PySem.Spec PyProof.Rows L2
/-! ### where one stands -/
structure Bd (X : Cx) (N : List Str) (sc : Scope) (k : Nat) : Prop where
  hN : X.N = N
  hnd : N.Nodup
  hsc : X.env.scope = sc
  calm : X.calm = true
  room : Room k X.A
  po : PassesOwn (model X.prog X.w) X.A X.env X.xe
structure Bf (X : Cx) : Prop where
  fn : ∀ x, X.fn x = true
  stk : X.stack = X.env :: X.outer
  fr : X.env.frame = some X.env.locals
  pa : ∀ hd : Option Value, PassesOwnAt (model X.prog X.w) (X.A.mark hd) X.A X.env X.xe
section
variable {X : Cx} {N : List Str} {sc : Scope} {k : Nat}
theorem Bd.hu (B : Bd X N sc k) : X.A.units + 64 < cLine := B.room.units
theorem Bd.nm (B : Bd X N sc k) {i : Nat} {x : Str} (h : N[i]? = some x) (v : Vis sc x) (d1 : (x == ("__debug__" : Str)) = false := by decide) (d2 : (x == ("__classdict__" : Str)) = false := by decide) : Nm X i x :=
  ⟨by rw [B.hN]; exact h, by rw [B.hsc]; exact v, d1, d2⟩
theorem Bd.ns (B : Bd X N sc k) {i : Nat} {x : Str} (h : N[i]? = some x) (v : sc.names.lookup x = some .local) (d1 : (x == ("__debug__" : Str)) = false := by decide) (d2 : (x == ("__classdict__" : Str)) = false := by decide) : Ns X i x :=
  { B.nm h (.inl v) d1 d2 with nd := by rw [B.hN]; exact B.hnd, loc := by rw [B.hsc]; exact .inl v, fn := .inr (by rw [B.hsc]; exact v) }
theorem Bd.nc (B : Bd X N sc k) (F : Bf X) {i : Nat} {x : Str} (h : N[i]? = some x) (v : sc.names.lookup x = some .cell) (d1 : (x == ("__debug__" : Str)) = false := by decide) (d2 : (x == ("__classdict__" : Str)) = false := by decide) : Ns X i x :=
  { B.nm h (.inr (.inl v)) d1 d2 with nd := by rw [B.hN]; exact B.hnd, loc := by rw [B.hsc]; exact .inr v, fn := .inl (F.fn x) }
theorem Bd.gl (B : Bd X N sc k) {x : Str} (h : sc.names.lookup x = some .globalImplicit) : Gl X x := by
  show X.env.scope.names.lookup x = some .globalImplicit
  rw [B.hsc]; exact h
theorem Bd.bn (B : Bd X N sc k) {x : Str} {u : Value} (h : sc.names.lookup x = some .globalImplicit) (m : X.mg x = none) (b : bootBuiltins x = some u) (n : x ≠ "__name__" := by decide) (d : (x == ("__debug__" : Str)) = false := by decide) : Bn X x u :=
  ⟨B.gl h, m, b, n, d⟩
end
/-! ### what is walked -/
section
variable {X : Cx} {kx : XD} {ρ ρ' ρ'' : Ro} {M M' : Mem} {P : Out → Mem → Prop} {pos p : Pos} {tg a b c e : Expr} {es : List Expr} {x y z : D}
theorem wk_same {K : Frag} {J : It} {H0 : Hp} {ds : List D} {vs : List V} {G : Hp → Prop} (r : RepA K H0 vs ds) (hG : ∀ H, Same H0 H → G H) (w : Walk J vs.length G (YAt vs)) : WkD K J H0 ds :=
  ⟨G, YAt vs, by rw [← r.length]; exact w, hG, fun i H1 x H2 H01 d e0 e1 hd y => by
    obtain ⟨rfl, hx⟩ := y
    obtain ⟨v, hv, rv⟩ := r.get hd
    rw [hx] at hv; cases hv
    exact ⟨H01, Pu.refl e1, rv.mo e0⟩⟩
theorem di_list {ds : List D} (h : DV X kx e ρ M (.lst ds)) : DI X kx tg e ρ M ds := fun σ H H0 t s W tk hx R q =>
  sI.by (pi_list (pe_s e)) (h σ H H0 t s W tk hx _ fun v H' H0' p r => by
    cases r with
    | @lst a xs _ c d => exact ⟨a, rfl, ⟨xs, SqL.of (p.ex _ _ c)⟩, q _ H' H0' p (wk_same d (fun H e => SqL.of (e _ _ c)) walk_list)⟩)
/-- the numbers from lo on, n of them -/
def rngD (lo : Int) (n : Nat) : List Int := (List.range n).map fun i => lo + (i : Nat)
theorem rngD_length (lo : Int) (n : Nat) : (rngD lo n).length = n := by simp [rngD]
theorem rngD_get {lo : Int} {n i : Nat} {j : Int} (h : (rngD lo n)[i]? = some j) : i < n ∧ j = lo + (i : Nat) := by
  obtain ⟨h1, h2⟩ := List.getElem?_eq_some_iff.mp h
  rw [rngD_length] at h1
  refine ⟨h1, ?_⟩
  rw [← h2]
  simp [rngD]
theorem wk_range {K : Frag} {H0 : Hp} {lo : Int} {n : Nat} : WkD K (Itr lo n) H0 ((rngD lo n).map D.int) :=
  ⟨fun _ => True, _, by rw [List.length_map, rngD_length]; exact walk_range, fun _ _ => trivial, fun i H1 x H2 H01 d e0 e1 hd y => by
    obtain ⟨rfl, rfl⟩ := y
    rw [List.getElem?_map] at hd
    cases q : (rngD lo n)[i]? with
    | none => rw [q] at hd; cases hd
    | some j =>
      rw [q] at hd
      obtain ⟨_, rfl⟩ := rngD_get q
      cases hd
      exact ⟨H01, Pu.refl e1, .int _⟩⟩
theorem di_range1 {n : Int} (hg : Bn X "range" (.type "range")) (h : DV X kx e ρ M (.int n)) (h1 : -(2 ^ 62) ≤ n) (h2 : n < 2 ^ 62) (hs : starEach [e] X.env = [(false, eval e X.env)] := by rfl) : DI X kx tg (.Call (.Name "range" p) [e] [] pos) ρ M ((rngD 0 n.toNat).map D.int) := fun σ H H0 t s W tk hx R q =>
  sI.by (pi_range1 hg.gl hg.mg (pa_s [e]) hs) ((da_cons h da_nil hs : DA X kx [e] ρ M [.int n]) σ H H0 t s W tk hx _ fun vs H' H0' p r => by
    obtain ⟨v, rfl, r1⟩ := repA1 r
    cases r1
    exact ⟨n, rfl, h1, h2, q _ H' H0' p wk_range⟩)
/-! ### for -/
def forP (Inv : Nat → Ro → Mem → Prop) (i : Nat) (P : Out → Mem → Prop) : Out → Mem → Prop
  | .nx ρ, M => Inv (i + 1) ρ M
  | .ct ρ, M => Inv (i + 1) ρ M
  | .bk ρ, M => P (.nx ρ) M
  | .rt d, M => P (.rt d) M
theorem ds1_for {N : List Str} {sc : Scope} {k : Nat} {body : List Stmt} {ds : List D} (B : Bd X N sc k) (Inv : Nat → Ro → Mem → Prop) (hi : DI X kx tg e ρ M ds) (h0 : Inv 0 ρ M)
    (hs : ∀ (i : Nat) d ρ1 M1, ds[i]? = some d → Inv i ρ1 M1 → ∃ ts ρ2, DG X tg ts d ρ1 ρ2 ∧ DS X kx body ρ2 M1 (forP Inv i P)) (hd : ∀ ρ1 M1, Inv ds.length ρ1 M1 → P (.nx ρ1) M1)
    (hf : ∀ x, foldedSetIterable e X.env x = pure x := by intro _; rfl) : DS1 X kx (.For tg e body [] pos) ρ M P := fun σ H H0 t s W tk hx D cn =>
  sS.by (ps_for B.po B.calm (pi_s tg e) (pg_s tg) (pss_s body) hf) (hi σ H H0 t s W tk hx _ fun J HJ H0J pJ w => by
    obtain ⟨G, Y, w, hG, hY⟩ := w
    have tJ := t.pu pJ
    refine for_it w (fun i σ' H' => ∃ H0' ρ' M', Go H0J HJ M H0' H' M' ∧ Ht X.K H0' H' M' ∧ Sl X.K H0' σ' ρ' ∧ Inv i ρ' M') ⟨H0J, ρ, M, Go.refl, tJ, s.mo pJ.e0, h0⟩ (fun i σ' H' _ ⟨H0', ρ', M', g, t', _, _⟩ => hG H' (g.e0.trans t'.ex)) ?_ ?_
    · rintro i x σ1 H1 H2 hi ⟨H01, ρ1, M1, g1, t1, s1, inv⟩ y
      have hdd : ds[i]? = some ds[i] := List.getElem?_eq_getElem hi
      obtain ⟨H02, p2, r2⟩ := hY i H1 x H2 H01 _ g1.e0 t1.ex hdd y
      obtain ⟨ts, ρ2, hg, hb⟩ := hs i _ ρ1 M1 hdd inv
      have t2 := t1.pu p2
      have g2 := pJ.go.trans (g1.trans p2.go)
      refine hg σ1 H2 H02 x t2.ex (s1.mo p2.e0) r2 _ fun σ2 s2 _ => hb σ2 H2 H02 t2 s2 W tk (hx.step g2) _ ?_
      have gJ := g1.trans p2.go
      exact ⟨fun σ' H' H0' ρ' M' g t' s' q => ⟨H0', ρ', M', gJ.trans g, t', s', q⟩, fun σ' H' H0' ρ' M' g t' s' q => cn.nx σ' H' H0' ρ' M' (g2.trans g) t' s' q,
        fun σ' H' H0' ρ' M' g t' s' q => ⟨H0', ρ', M', gJ.trans g, t', s', q⟩, fun v H' H0' d M' g t' r q => cn.rt v H' H0' d M' (g2.trans g) t' r q⟩
    · rintro σ1 H1 ⟨H01, ρ1, M1, g1, t1, s1, inv⟩
      exact cn.nx σ1 H1 H01 ρ1 M1 (pJ.go.trans g1) t1 s1 (hd ρ1 M1 inv))
/-- a walk over typed things -/
theorem ds1_forT {α : Type} {xs : List α} {enc : α → D} {N : List Str} {sc : Scope} {k : Nat} {body : List Stmt} (B : Bd X N sc k) (Inv : Nat → Ro → Mem → Prop) (hi : DI X kx tg e ρ M (xs.map enc)) (h0 : Inv 0 ρ M)
    (hs : ∀ (i : Nat) x ρ1 M1, xs[i]? = some x → Inv i ρ1 M1 → ∃ ts ρ2, DG X tg ts (enc x) ρ1 ρ2 ∧ DS X kx body ρ2 M1 (forP Inv i P)) (hd : ∀ ρ1 M1, Inv xs.length ρ1 M1 → P (.nx ρ1) M1)
    (hf : ∀ x, foldedSetIterable e X.env x = pure x := by intro _; rfl) : DS1 X kx (.For tg e body [] pos) ρ M P :=
  ds1_for B Inv hi h0 (fun i d ρ1 M1 h inv => by
    rw [List.getElem?_map] at h
    cases q : xs[i]? with
    | none => rw [q] at h; cases h
    | some x =>
      rw [q] at h
      cases h
      exact hs i x ρ1 M1 q inv) (fun ρ1 M1 inv => hd ρ1 M1 (by rw [List.length_map] at inv; exact inv)) hf
/-- slots forgotten, place by place -/
def FgtL : Ro → Ro → Prop
  | [], [] => True
  | x :: xs, y :: ys => (y = none ∨ x = y) ∧ FgtL xs ys
  | _, _ => False
theorem FgtL.fgt : ∀ {ρ ρ' : Ro}, FgtL ρ ρ' → Fgt ρ ρ'
  | [], [], _ => ⟨rfl, fun i d h => by simp at h⟩
  | x :: xs, y :: ys, ⟨h, r⟩ => by
    obtain ⟨h1, h2⟩ := FgtL.fgt r
    refine ⟨by rw [List.length_cons, List.length_cons, h1], fun i d e => ?_⟩
    cases i with
    | zero =>
      rcases h with h | h
      · subst h; simp at e
      · subst h; exact e
    | succ i => exact h2 i d (by simpa using e)
  | [], _ :: _, h => h.elim
  | _ :: _, [], h => h.elim
/-- a loop that carries a state: the slots R, what may change Mf -/
def foldP {β : Type} (R : β → Ro) (Mf : β → Mem) (J : Nat → β → Prop) (i : Nat) (st : β) (P : Out → Mem → Prop) : Out → Mem → Prop
  | .nx ρ, M => FgtL ρ (R st) ∧ M = Mf st ∧ J (i + 1) st
  | .ct ρ, M => FgtL ρ (R st) ∧ M = Mf st ∧ J (i + 1) st
  | .bk ρ, M => P (.nx ρ) M
  | .rt d, M => P (.rt d) M
theorem then_fgt {rest : List Stmt} : ∀ ρ1 ρ2 M1, Fgt ρ1 ρ2 → thenP X kx rest P (.nx ρ2) M1 → thenP X kx rest P (.nx ρ1) M1 := fun ρ1 ρ2 M1 f h => DS.fgt h f
/-! ### while -/
def whP (Inv : Nat → Ro → Mem → Prop) (m : Nat) (P : Out → Mem → Prop) : Out → Mem → Prop
  | .nx ρ, M => ∃ m', m' < m ∧ Inv m' ρ M
  | .ct ρ, M => ∃ m', m' < m ∧ Inv m' ρ M
  | .bk ρ, M => P (.nx ρ) M
  | .rt d, M => P (.rt d) M
/-! ### comprehensions -/
theorem dts_nil : DTs X kx [] ρ M true := fun σ H H0 t s W tk hx Q q => sTs.by pts_nil (q H H0 (Pu.refl t.ex))
def wipeD (ρ : Ro) : List Nat → Ro
  | [] => ρ
  | v :: vs => (wipeD ρ vs).set v none
theorem Sl.clr {K : Frag} {H0 : Hp} {σ : L2.St} {ρ : Ro} (h : Sl K H0 σ ρ) (i : Nat) : Sl K H0 (σ.set i none) (ρ.set i none) := by
  refine ⟨by rw [List.length_set, List.length_set]; exact h.1, fun j d' e => ?_⟩
  by_cases hj : i = j
  · subst hj
    by_cases hi : i < ρ.length
    · rw [List.getElem?_set_self hi] at e; cases e
    · rw [List.getElem?_eq_none (by rw [List.length_set]; omega)] at e; cases e
  · rw [List.getElem?_set_ne hj] at e ⊢
    exact h.2 j d' e
theorem Sl.wipe {K : Frag} {H0 : Hp} {σ : L2.St} {ρ : Ro} (h : Sl K H0 σ ρ) : ∀ vs, Sl K H0 (L2.wipe σ vs) (wipeD ρ vs)
  | [] => h
  | v :: vs => (Sl.wipe h vs).clr v
theorem takesN {X : Cx} : Takes X (fun _ _ _ _ => False) := fun _ _ x => by
  obtain ⟨_, _, _, _, _, _, _, _, _, _, _, _, _, _, _, _, _, _, _, z⟩ := x
  exact z.elim
/-- a block's own place -/
abbrev Cx.bk (X : Cx) (csc : Scope) (s : Shared) (H : Hp) (C : Addr) (cl : List (Str × Addr)) (fp : List Addr) : Cx := X.blk s H csc (compEnvC csc cl C X.env) fp
theorem Bd.blk {N : List Str} {sc csc : Scope} {k : Nat} (B : Bd X N sc k) (s : Shared) (H : Hp) (C : Addr) (cl : List (Str × Addr)) (fp : List Addr) : Bd (Cx.bk X csc s H C cl fp) N (relS csc sc) k where
  hN := B.hN
  hnd := B.hnd
  hsc := by
    rw [← B.hsc]
    rfl
  calm := B.calm
  room := B.room
  po := PassesOwn.never
theorem wipe_wipe (σ : L2.St) (vs : List Nat) : L2.wipe (L2.wipe σ vs) vs = L2.wipe σ vs := by
  refine List.ext_getElem? fun j => ?_
  rw [wipe_at, wipe_at, wipe_length]
  by_cases hj : j ∈ vs ∧ j < σ.length
  · rw [if_pos hj, if_pos hj]
  · rw [if_neg hj]
def uG (X : Cx) (csc : Scope) (tg : Expr) : TG := fun v σ H Q => ∀ s H' C cl fp, sG (Cx.bk X csc s H' C cl fp) tg v σ H Q
def uT (X : Cx) (csc : Scope) (ifs : List Expr) : TT := fun σ H Q => ∀ s H' C cl fp, sTs (Cx.bk X csc s H' C cl fp) ifs σ H Q
def uE (X : Cx) (csc : Scope) (elt : Expr) : TE := fun σ H Q => ∀ s H' C cl fp, sE (Cx.bk X csc s H' C cl fp) elt σ H Q
section
variable {α : Type} {N : List Str} {sc csc : Scope} {k : Nat}
def outs (xs : List α) (cnd : α → Bool) (f : α → D) : List D := (xs.filter cnd).map f
theorem outs_yes {xs : List α} {cnd : α → Bool} {f : α → D} {i : Nat} {x : α} (h : xs[i]? = some x) (hc : cnd x = true) : outs (xs.take (i + 1)) cnd f = outs (xs.take i) cnd f ++ [f x] := by
  unfold outs
  rw [List.take_add_one, h, Option.toList_some, List.filter_append, List.map_append, List.filter_cons, if_pos hc] <;> rfl
theorem outs_no {xs : List α} {cnd : α → Bool} {f : α → D} {i : Nat} {x : α} (h : xs[i]? = some x) (hc : cnd x = false) : outs (xs.take (i + 1)) cnd f = outs (xs.take i) cnd f := by
  unfold outs
  rw [List.take_add_one, h, Option.toList_some, List.filter_append, List.map_append, List.filter_cons, if_neg (by rw [hc]; decide)]
  show _ ++ [] = _
  rw [List.append_nil]
theorem outs_len (xs : List α) (cnd : α → Bool) (f : α → D) : (outs xs cnd f).length ≤ xs.length := by
  unfold outs
  rw [List.length_map]
  exact List.length_filter_le _ _
/-- what a clause does, for every place it may stand at -/
def LcB (X : Cx) (N : List Str) (sc csc : Scope) (k : Nat) (own : List (Str × Nat)) (tg elt : Expr) (ifs : List Expr) (ρ : Ro) (M : Mem) (d : D) (b : Bool) (z : D) : Prop :=
  ∃ ts ρ2, (∀ i ∈ ts, i ∈ own.map (·.2)) ∧ ∀ s H C cl fp w acc, Bd (Cx.bk X csc s H C cl fp) N (relS csc sc) k → DG (Cx.bk X csc s H C cl fp) tg ts d (wipeD ρ (own.map (·.2))) ρ2 ∧ DTs (Cx.bk X csc s H C cl fp) kx0 ifs ρ2 ((w, .lst acc) :: M) b ∧
    (b = true → DV (Cx.bk X csc s H C cl fp) kx0 elt ρ2 ((w, .lst acc) :: M) z)
/-- the reading of a block, uniform -/
theorem lc_read {own : List (Str × Nat)} {elt : Expr} {ifs : List Expr} {xs : List α} {enc : α → D} {cnd : α → Bool} {f : α → D} {σ : L2.St} {H H0 : Hp} {W : WX} {Q : VK}
    (hi : DI X kx tg e ρ M (xs.map enc)) (B : Bd X N sc k) (hl : xs.length < sizeLine) (h : ∀ x, x ∈ xs → LcB X N sc csc k own tg elt ifs ρ M (enc x) (cnd x) (f x))
    (t : Ht X.K H0 H M) (s : Sl X.K H0 σ ρ) (tk : Takes X W) (hx : Hx X W H0 H M kx) (q : ∀ w H' H0', Go H0 H M H0' H' ((w, .lst (outs xs cnd f)) :: M) → Ht X.K H0' H' ((w, .lst (outs xs cnd f)) :: M) → w ∉ M.dom → Sm H H' → Q (.ref w) H') :
    tLc (sI X tg e) (uG X csc tg) (uT X csc ifs) (uE X csc elt) (own.map (·.2)) σ H Q := by
  refine hi σ H H0 t s W tk hx _ fun J HJ H0J pJ w => ?_
  intro L hL
  obtain ⟨G, Y, w, hG, hY⟩ := w
  rw [List.length_map] at w
  have tJ := t.pu pJ
  have hL0 := tJ.free hL
  refine lc_it (g := uG X csc tg) (tt := uT X csc ifs) (te := uE X csc elt) (vs := own.map (·.2)) (σ := σ) (D := L) (H1 := HJ) (Qd := fun H' => Q (.ref L) H') w (fun i H' => ∃ H0' acc, Pu H0J HJ H0' (upd H' L (.lst [])) ∧ H0' L = none ∧ H' L = some (.lst acc) ∧ RepA X.K H0' acc (outs (xs.take i) cnd f) ∧ Same H0' H' ∧ Sm HJ H') ?_ ?_ ?_ ?_
  · refine ⟨H0J, [], ?_, hL0.1, upd_same, .nil, pJ.ex.trans (same_new hL), Same.sm (same_new hL)⟩
    rw [upd_upd]
    exact ⟨Same.refl _, Same.sm (same_new hL), pJ.ex.trans (same_new hL), fun _ h _ => h, fun b e => NdefX.upd_none e, fun t => t.new hL⟩
  · rintro i H' _ ⟨H0', acc, p, _, _, _, e, _⟩
    exact hG H' (p.e0.trans e)
  · rintro i x H1 H2 hi2 ⟨H01, acc, p1, n1, l1, r1, e1, k1⟩ y
    have hx2 : xs[i]? = some xs[i] := List.getElem?_eq_getElem hi2
    have hdd : (xs.map enc)[i]? = some (enc xs[i]) := by rw [List.getElem?_map, hx2]; rfl
    obtain ⟨H02, p2, r2⟩ := hY i H1 x H2 H01 _ p1.e0 e1 hdd y
    obtain ⟨ts, ρ2, hts, hb⟩ := h xs[i] (List.getElem_mem hi2)
    have l2 : H2 L = some (.lst acc) := p2.k l1
    have n2 : H02 L = none := p2.new L n1 (by rw [l1]; exact trivial)
    have tb1 : TB H01 H1 := (p1.tb tJ.tb).back l1
    -- the state within: the list among what may change
    have tt : ∀ {Ha H0a : Hp}, Pu H02 H2 H0a Ha → Ht X.K H0a Ha ((L, .lst (outs (xs.take i) cnd f)) :: M) := fun {Ha H0a} pa => by
      have lA : Ha L = some (.lst acc) := pa.k l2
      refine ⟨pa.ex, List.nodup_cons.mpr ⟨hL0.2, t.nd⟩, fun m hm => ?_, pa.tb (p2.tb tb1)⟩
      rcases List.mem_cons.mp hm with rfl | hm
      · exact ⟨pa.new L n2 (by rw [l2]; exact trivial), acc, lA, r1.mo (p2.e0.trans pa.e0)⟩
      · obtain ⟨m1, m2⟩ := tJ.mem m hm
        obtain ⟨o, ho⟩ := m2.there
        have nb : NTb o := NT.ntb (by rw [← ho]; exact m2.nt)
        have o1 := k1 _ _ ho nb
        have o2 := p2.e _ _ o1 nb
        have z1 : H01 m.1 = none := p1.new _ m1 m2.nt
        refine ⟨pa.new _ (p2.new _ z1 (m2.nt.keep fun o e n => k1 _ _ e n)) ((m2.nt.keep fun o e n => k1 _ _ e n).keep fun o e n => p2.e _ _ e n), m2.mono (p1.e0.trans (p2.e0.trans pa.e0)) fun o' e' n => ?_⟩
        exact pa.e _ _ (p2.e _ _ (k1 _ _ e' n) n) n
    have sw : Sl X.K H02 (L2.wipe σ (own.map (·.2))) (wipeD ρ (own.map (·.2))) := (s.wipe _).mo (pJ.e0.trans (p1.e0.trans p2.e0))
    intro s' H' C cl fp
    refine (hb s' H' C cl fp L (outs (xs.take i) cnd f) (B.blk s' H' C cl fp)).1 _ H2 H02 x p2.ex sw r2 _ fun σ2 s2 bt => ⟨(bt _ hts).trans (wipe_wipe σ _), ?_⟩
    intro s'' H'' C' cl' fp'
    refine (hb s'' H'' C' cl' fp' L (outs (xs.take i) cnd f) (B.blk s'' H'' C' cl' fp')).2.1 σ2 H2 H02 (tt (Pu.refl p2.ex)) s2 _ takesN Hx.none _ fun H3 H03 p3 => ?_
    have p13 := p2.trans p3
    have back : ∀ {Ha H0a : Hp} {l : List V}, Pu H01 H1 H0a Ha → Pu H0J HJ H0a (upd (upd Ha L (.lst l)) L (.lst [])) := fun {Ha H0a l} pa => by
      have na : H0a L = none := pa.new L n1 (by rw [l1]; exact trivial)
      rw [upd_upd]
      refine ⟨p1.e0.trans pa.e0, fun b o eb n => ?_, fun b o eb => ?_, fun b h1 h2 => ?_, fun b eb => ?_, fun t => ((pa.tb tb1).chg (NX.of (pa.k l1)) _)⟩
      · rw [upd_ne (ne_of_none eb hL)]; exact pa.e _ _ (k1 _ _ eb n) n
      · rw [upd_ne (ne_of_none eb na)]; exact pa.ex _ _ eb
      · exact pa.new b (p1.new b h1 h2) (h2.keep fun o e n => k1 _ _ e n)
      · have z := pa.there b (NdefX.upd_none eb)
        refine p1.there b ?_
        have bl : b ≠ L := fun y => by rw [y, l1] at z; cases z
        rw [upd_ne bl]; exact z
    have keep : ∀ {Ha H0a : Hp} {l : List V}, Pu H01 H1 H0a Ha → Sm HJ (upd Ha L (.lst l)) := fun {Ha H0a l} pa a o ea n => by
      rw [upd_ne (ne_of_none ea hL)]; exact pa.e _ _ (k1 _ _ ea n) n
    have same : ∀ {Ha H0a : Hp} {l : List V}, Pu H01 H1 H0a Ha → Same H0a (upd Ha L (.lst l)) := fun {Ha H0a l} pa b o eb => by
      have na : H0a L = none := pa.new L n1 (by rw [l1]; exact trivial)
      rw [upd_ne (ne_of_none eb na)]; exact pa.ex _ _ eb
    have nl : ∀ {Ha H0a : Hp}, Pu H01 H1 H0a Ha → H0a L = none := fun {Ha H0a} pa => pa.new L n1 (by rw [l1]; exact trivial)
    cases hc : cnd xs[i] with
    | true =>
      refine iteT ?_
      intro s3 H3' C3 cl3 fp3
      refine (hb s3 H3' C3 cl3 fp3 L (outs (xs.take i) cnd f) (B.blk s3 H3' C3 cl3 fp3)).2.2 hc σ2 H3 H03 (tt p3) (s2.mo p3.e0) _ takesN Hx.none _ fun v H4 H04 p4 r4 => ?_
      have p14 := p13.trans p4
      refine ⟨acc, p14.k l1, ?_, H04, acc ++ [v], back p14, nl p14, upd_same, ?_, same p14, keep p14⟩
      · have e2 := r1.length
        have e3 := outs_len (xs.take i) cnd f
        rw [List.length_take] at e3
        omega
      · rw [outs_yes hx2 hc]
        exact (r1.mo p14.e0).app (.one r4)
    | false =>
      refine iteF ⟨H03, acc, ?_, nl p13, p13.k l1, ?_, p13.ex, fun a o ea n => p13.e _ _ (k1 _ _ ea n) n⟩
      · have z := back (l := acc) p13
        rw [upd_upd] at z
        exact z
      · rw [outs_no hx2 hc]
        exact r1.mo p13.e0
  · rintro H' ⟨H0', acc, p, n, l, r, e, kk⟩
    rw [List.take_length] at r
    have g : Go H0J HJ M H0' H' ((L, .lst (outs xs cnd f)) :: M) := by
      refine ⟨p.e0, fun b o eb _ n => kk _ _ eb n, fun b h1 h2 _ => p.new b h1 h2, fun b hb => ?_, fun b eb => ?_⟩
      · rcases List.mem_cons.mp (show b ∈ L :: M.dom from hb) with rfl | hb
        · exact .inr hL
        · exact .inl hb
      · refine p.there b ?_
        have bl : b ≠ L := fun y => by rw [y, l] at eb; cases eb
        rw [upd_ne bl]; exact eb
    refine q L H' H0' (pJ.go.trans g) ⟨e, List.nodup_cons.mpr ⟨hL0.2, t.nd⟩, fun m hm => ?_, (p.tb tJ.tb).back l⟩ hL0.2 (pJ.e.trans kk)
    rcases List.mem_cons.mp hm with rfl | hm
    · exact ⟨n, acc, l, r⟩
    · obtain ⟨m1, m2⟩ := tJ.mem m hm
      obtain ⟨o, ho⟩ := m2.there
      exact ⟨p.new _ m1 m2.nt, m2.mono p.e0 fun o' e' n => kk _ _ e' n⟩
end
end
/-! ### what may change no more -/
section
variable {K : Frag} {H0 H : Hp} {M : Mem}
theorem Ht.frz (t : Ht K H0 H M) {w : Addr} {ds : List D} (h : (w, Mu.lst ds) ∈ M) : ∃ H0', Same H0 H0' ∧ Ht K H0' H (M.filter fun p => decide (p.1 ≠ w)) ∧ Rep K H0' (.ref w) (.lst ds) ∧ Go H0 H M H0' H (M.filter fun p => decide (p.1 ≠ w)) := by
  obtain ⟨h0, vs, h1, h2⟩ := t.mem _ h
  have sm : Same H0 (upd H0 w (.lst vs)) := same_new h0
  have sub : ∀ q ∈ M.filter fun p => decide (p.1 ≠ w), q ∈ M ∧ q.1 ≠ w := fun q hq => by
    obtain ⟨a, b⟩ := List.mem_filter.mp hq
    exact ⟨a, of_decide_eq_true b⟩
  refine ⟨_, sm, ⟨fun b o e => ?_, ?_, fun q hq => ?_, t.tb.frz h1⟩, .lst upd_same (h2.mo sm), ⟨sm, fun _ _ e _ _ => e, fun a a1 a2 a3 => ?_, fun a ha => ?_, fun _ e => e⟩⟩
  · by_cases hb : b = w
    · subst hb; rw [upd_same] at e; cases e; exact h1
    · rw [upd_ne hb] at e; exact t.ex _ _ e
  · exact t.nd.sublist (List.Sublist.map _ List.filter_sublist)
  · obtain ⟨a, b⟩ := sub q hq
    obtain ⟨c, d⟩ := t.mem q a
    exact ⟨by rw [upd_ne b]; exact c, d.mono sm fun _ e _ => e⟩
  · rw [upd_ne (fun z => a3 (by rw [z]; exact List.mem_map.mpr ⟨_, h, rfl⟩))]; exact a1
  · obtain ⟨q, hq, rfl⟩ := List.mem_map.mp ha
    exact .inl (List.mem_map.mpr ⟨q, (sub q hq).1, rfl⟩)
end
end Dl

namespace Dl
open PySem PySem.Spec PyProof.Rows L2
/-! ### promises -/
/-- a def that changes nothing of what stood -/
def spP (K : Frag) {α : Type} (args : α → List D) (pre : α → Prop) (post : α → D → Prop) (ex : α → Value → List (Str × D) → Prop) : Sp := fun vs H Q E =>
  ∃ x H0, (Same H0 H ∧ TB H0 H) ∧ RepA K H0 vs (args x) ∧ pre x ∧ (∀ v H' H0' d, Pu H0 H H0' H' → Rep K H0' v d → post x d → Q v H') ∧
    (∀ cls dd H' H0' fs, Pu H0 H H0' H' → XRep K H0' H' dd fs → ex x cls fs → E cls dd H')
/-- a def that changes what stands at Mi -/
def spM (K : Frag) {α : Type} (args : α → List D) (Mi : α → Mem) (pre : α → Prop) (post : α → D → Mem → Prop) (ex : α → Value → List (Str × D) → Mem → Prop) : Sp := fun vs H Q E =>
  ∃ x H0, Ht K H0 H (Mi x) ∧ RepA K H0 vs (args x) ∧ pre x ∧ (∀ v H' H0' d M', Go H0 H (Mi x) H0' H' M' → Ht K H0' H' M' → Rep K H0' v d → post x d M' → Q v H') ∧
    (∀ cls dd H' H0' fs M', Go H0 H (Mi x) H0' H' M' → Ht K H0' H' M' → XRep K H0' H' dd fs → ex x cls fs M' → E cls dd H')
def startD (N : List Str) (ds : List D) : Ro := ds.map some ++ List.replicate (N.length - ds.length) none
def retP (post : D → Mem → Prop) : Out → Mem → Prop
  | .rt d, M => post d M
  | .nx _, M => post .non M
  | .bk _, _ => False
  | .ct _, _ => False
theorem start_rep {K : Frag} {H0 : Hp} {N : List Str} {vs : List V} {ds : List D} (r : RepA K H0 vs ds) : Sl K H0 (L2.start N vs) (startD N ds) := by
  unfold L2.start startD
  refine ⟨by simp [r.length], fun i d h => ?_⟩
  by_cases hi : i < ds.length
  · rw [List.getElem?_append_left (by simpa using hi), List.getElem?_map] at h
    rw [List.getElem?_append_left (by rw [List.length_map, r.length]; exact hi), List.getElem?_map]
    cases e : ds[i]? with
    | none => rw [e] at h; cases h
    | some d' =>
      rw [e] at h
      cases h
      obtain ⟨v, h1, h2⟩ := r.get e
      exact ⟨v, by rw [h1]; rfl, h2⟩
  · rw [List.getElem?_append_right (by simpa using hi)] at h
    have h2 := List.mem_of_getElem? h
    have h3 := List.eq_of_mem_replicate h2
    cases h3
section
variable {P : Program} {w : World} {K : Frag} {mg : Str → Option Value} {base : Heap} {α : Type}
theorem bd_of {qual : Str} {sc : Scope} {N ps : List Str} {k : Nat} {f : Addr} {cd : Value} {A : Around} {outer : List Env} {s : Shared} {H : Hp} {E : XK} (S : FnScope N ps sc) (hr : Room k (A.deeper (envOfC qual sc s.heap.objs.size f cd))) :
    Bd (cxOf (Dl.CX P w) P w K mg base N qual sc f cd A outer s H E) N sc k ∧ Bf (cxOf (Dl.CX P w) P w K mg base N qual sc f cd A outer s H E) :=
  ⟨⟨rfl, S.nd, rfl, rfl, hr, passes_of rfl⟩, ⟨fun _ => rfl, rfl, rfl, L2H.passesAt_of rfl⟩⟩
theorem fn_p {x qual : Str} {st : Stmt} {f : Addr} {fd : FuncData} {N ps : List Str} {k : Nat} {args : α → List D} {pre : α → Prop} {post : α → D → Prop} {ex : α → Value → List (Str × D) → Prop} (F : Fun K x qual st f fd) (S : FnScope N ps (defScope st)) (hl : ∀ a, (args a).length = ps.length)
    (body : ∀ X : Cx, X.prog = P → X.w = w → X.K = K → X.mg = mg → X.base = base → Bd X N (defScope st) k → Bf X → ∀ a, pre a → DS X (fun cls fs _ _ => ex a cls fs) (defBody st) (startD N (args a)) [] (retP fun d _ => post a d)) :
    FnOk P w K mg base (Dl.CX P w) (k + 1) f fd ps (spP K args pre post ex) := by
  refine fun_okX F S (fun vs H Q E h => ?_) (fun cdv A outer s H vs Q E hr hsp => ?_)
  · obtain ⟨x, H0, _, r, _⟩ := h
    rw [r.length, hl]
  · obtain ⟨x, H0, hs, r, hp, hq, he⟩ := hsp
    obtain ⟨B, Fz⟩ := bd_of (P := P) (w := w) (K := K) (mg := mg) (base := base) (outer := outer) (H := H) (E := E) S hr
    refine ⟨_, pss_s _, body _ rfl rfl rfl rfl rfl B Fz x hp (L2.start N vs) H H0 (Ht.emp hs.1 hs.2) (start_rep r) (fun cls d _ H => E cls d H) (takes_of rfl rfl rfl rfl) (fun cls dd σ' H' H0' fs ρ' M' g t s' xr e => he cls dd H' H0' fs (g.pu t) xr e) _ ?_⟩
    exact ⟨fun σ' H' H0' ρ' M' g t _ p => hq .non H' H0' .non (g.pu t) .non p, fun _ _ _ _ _ _ _ _ p => p.elim, fun _ _ _ _ _ _ _ _ p => p.elim, fun v H' H0' d M' g t r p => hq v H' H0' d (g.pu t) r p⟩
end
/-- a global def, with the values dvs for its last parameters -/
def GF (P : Program) (w : World) (K : Frag) (mg : Str → Option Value) (base : Heap) (k : Nat) (x : Str) (dvs : List D) (sp : Sp) : Prop :=
  ∃ (f : Addr) (fd : FuncData) (ps : List Str) (ds : List Value) (vs : List V), mg x = some (.ref f) ∧ PySem.W.keepIn K (.ref f) = true ∧ FnOk P w K mg base (Dl.CX P w) k f fd ps sp ∧ Binds K fd ps ds ∧ Vals vs ds ∧ ∀ H, RepA K H vs dvs
def GM (P : Program) (w : World) (K : Frag) (mg : Str → Option Value) (base : Heap) (k : Nat) (C : Addr) (m : Str) (dvs : List D) (sp : Sp) : Prop :=
  ∃ (f : Addr) (fd : FuncData) (ps : List Str) (ds : List Value) (vs : List V), Meth K C m f ∧ FnOk P w K mg base (Dl.CX P w) k f fd ps sp ∧ Binds K fd ps ds ∧ Vals vs ds ∧ ∀ H, RepA K H vs dvs
def GC (P : Program) (w : World) (K : Frag) (mg : Str → Option Value) (base : Heap) (k : Nat) (C : Addr) (dvs : List D) (sp : Sp) : Prop :=
  ∃ (f : Addr) (fd : FuncData) (ps : List Str) (ds : List Value) (vs : List V), Mk K C f ∧ FnOk P w K mg base (Dl.CX P w) k f fd ps sp ∧ Binds K fd ps ds ∧ Vals vs ds ∧ ∀ H, RepA K H vs dvs
section
variable {P : Program} {w : World} {K : Frag} {mg : Str → Option Value} {base : Heap} {j k : Nat} {x : Str} {dvs : List D} {sp sp' : Sp}
theorem GF.imp (g : GF P w K mg base k x dvs sp) (h : ∀ vs H Q E, sp' vs H Q E → sp vs H Q E) : GF P w K mg base k x dvs sp' :=
  let ⟨f, fd, ps, ds, vs, h1, h2, h3, h4⟩ := g
  ⟨f, fd, ps, ds, vs, h1, h2, h3.imp h, h4⟩
end
section
variable {X : Cx} {kx : XD} {ρ ρ' ρ'' : Ro} {M M' : Mem} {Pp : Out → Mem → Prop} {pos p apos : Pos} {e o : Expr} {es : List Expr} {y z : D} {α : Type} {k : Nat} {x m : Str} {C : Addr} {dvs ds : List D}
  {args : α → List D} {pre : α → Prop} {post : α → D → Prop} {ex : α → Value → List (Str × D) → Prop} {Mi : α → Mem} {postM : α → D → Mem → Prop} {exM : α → Value → List (Str × D) → Mem → Prop}
/-- what a promise gives to a caller at its slots -/
theorem spP_use {σ : L2.St} {H H0 : Hp} {vs us : List V} {W : WX} {Q : VK} (t : Ht X.K H0 H M) (s : Sl X.K H0 σ ρ) (hx : Hx X W H0 H M kx) (r : RepA X.K H0 vs ds) (ru : RepA X.K H0 us dvs) (a : α) (ha : args a = ds ++ dvs) (hp : pre a)
    (hex : ∀ cls fs, ex a cls fs → kx cls fs ρ M) (q : ∀ v H' H0' d, Pu H0 H H0' H' → Rep X.K H0' v d → post a d → Q v H') : spP X.K args pre post ex (vs ++ us) H Q (WE W σ) :=
  ⟨a, H0, ⟨t.ex, t.tb⟩, by rw [ha]; exact r.app ru, hp, fun v H' H0' d p rr pp => q v H' H0' d p rr pp, fun cls dd H' H0' fs p xr e => hx cls dd σ H' H0' fs ρ M p.go (t.pu p) (s.mo p.e0) xr (hex cls fs e)⟩
/-- the frame: what a callee leaves alone -/
theorem frame_of {K : Frag} {H0 H H0' H' : Hp} {Ma Mb F : Mem} (t : Ht K H0 H (Ma ++ F)) (g : Go H0 H Ma H0' H' Mb) (t' : Ht K H0' H' Mb) : Go H0 H (Ma ++ F) H0' H' (Mb ++ F) ∧ Ht K H0' H' (Mb ++ F) := by
  have nd := t.nd
  have dd : Mem.dom (Ma ++ F) = Mem.dom Ma ++ Mem.dom F := by simp [Mem.dom]
  have dd2 : Mem.dom (Mb ++ F) = Mem.dom Mb ++ Mem.dom F := by simp [Mem.dom]
  rw [dd] at nd
  obtain ⟨n1, n2, n3⟩ := List.nodup_append.mp nd
  have there : ∀ q ∈ F, ∃ o, H q.1 = some o := fun q hq => (t.mem q (List.mem_append_right _ hq)).2.there
  have out : ∀ q ∈ F, q.1 ∉ Ma.dom := fun q hq h => n3 q.1 h q.1 (List.mem_map.mpr ⟨q, hq, rfl⟩) rfl
  refine ⟨⟨g.e0, fun b o e hb n => g.e b o e (fun z => hb (by rw [dd]; exact List.mem_append_left _ z)) n, fun a h1 h2 h3 => g.new a h1 h2 fun z => h3 (by rw [dd]; exact List.mem_append_left _ z), fun a ha => ?_, g.there⟩, ⟨t'.ex, ?_, fun q hq => ?_, t'.tb⟩⟩
  · rw [dd2] at ha
    rw [dd]
    rcases List.mem_append.mp ha with ha | ha
    · exact (g.dom a ha).imp (List.mem_append_left _) id
    · exact .inl (List.mem_append_right _ ha)
  · rw [dd2]
    refine List.nodup_append.mpr ⟨t'.nd, n2, fun a ha b hb e => ?_⟩
    subst e
    rcases g.dom a ha with z | z
    · exact n3 a z a hb rfl
    · obtain ⟨q, hq, rfl⟩ := List.mem_map.mp hb
      obtain ⟨o, ho⟩ := there q hq
      rw [z] at ho; cases ho
  · rcases List.mem_append.mp hq with hq | hq
    · exact t'.mem q hq
    · obtain ⟨m1, m2⟩ := t.mem q (List.mem_append_right _ hq)
      obtain ⟨o, ho⟩ := there q hq
      exact ⟨g.new _ m1 m2.nt (out q hq), m2.mono g.e0 fun o e n => g.e _ _ e (out q hq) n⟩
theorem Ht.left {K : Frag} {H0 H : Hp} {Ma F : Mem} (t : Ht K H0 H (Ma ++ F)) : Ht K H0 H Ma :=
  ⟨t.ex, by
    have h := t.nd
    rw [show Mem.dom (Ma ++ F) = Mem.dom Ma ++ Mem.dom F by simp [Mem.dom]] at h
    exact (List.nodup_append.mp h).1, fun q hq => t.mem q (List.mem_append_left _ hq), t.tb⟩
/-! ### f(e, ..) -/
theorem call_e {n : Nat} {sp : Sp} (G : GF X.prog X.w X.K X.mg X.base k x dvs sp) (hr : Room k X.A) (hg : Gl X x) {σ : L2.St} {H H0 : Hp} {Q : VK} {W : WX} (t : Ht X.K H0 H M) (s : Sl X.K H0 σ ρ) (tk : Takes X W) (hx : Hx X W H0 H M kx) (ha : DA X kx (e :: es) ρ M ds)
    (h : ∀ vs us H1 H01, Pu H0 H H01 H1 → RepA X.K H01 vs ds → RepA X.K H01 us dvs → sp (vs ++ us) H1 Q (WE W σ)) (hdb : (x == ("__debug__" : Str)) = false := by decide)
    (he : starEach (e :: es) X.env = (false, eval e X.env) :: starEach es X.env := by rfl) (hpl : (backTo pos (starEach es X.env)).any (·.1) = false := by rfl) : sE X (.Call (.Name x p) (e :: es) [] pos) σ H Q := by
  obtain ⟨f, fd, ps, dv, vd, g1, g2, g3, g4, g5, g6⟩ := G
  refine sE_iff.mpr fun pins st I => wpAny_Call_Name_kw (ld_glob I hg g1 ?_ hdb)
  refine PySem.W.callWith_K (h₀ := X.base) I.ok.mod.kin g2 (thn ((pa_s (e :: es)).run pos pins st σ H (fun vs H' => ∃ H01, Pu H0 H H01 H' ∧ RepA X.K H01 vs ds) I (ha σ H H0 t s W tk hx _ fun vs H' H0' p r => ⟨H0', p, r⟩)) fun us s1 ⟨vs, H1, I1, r, H01, p1, q1⟩ => ⟨I1.kIn, ?_⟩) he hpl
  exact run_fnSD (E := WE W) g3 hr g4 g5 (passAt tk σ) I1 r (h vs vd H1 H01 p1 q1 (g6 _))
theorem dv_call (G : GF X.prog X.w X.K X.mg X.base k x dvs (spP X.K args pre post ex)) (hr : Room k X.A) (hg : Gl X x) (ha : DA X kx (e :: es) ρ M ds) (a : α) (hargs : args a = ds ++ dvs) (hp : pre a) (hz : ∀ d, post a d → d = z) (hex : ∀ cls fs, ex a cls fs → kx cls fs ρ M)
    (hdb : (x == ("__debug__" : Str)) = false := by decide) (he : starEach (e :: es) X.env = (false, eval e X.env) :: starEach es X.env := by rfl) (hpl : (backTo pos (starEach es X.env)).any (·.1) = false := by rfl) : DV X kx (.Call (.Name x p) (e :: es) [] pos) ρ M z := fun σ H H0 t s W tk hx Q q =>
  call_e (n := 0) G hr hg t s tk hx ha (fun vs us H1 H01 p1 r ru => spP_use (t.pu p1) (s.mo p1.e0) (hx.pu p1) r ru a hargs hp hex fun v H' H0' d p2 rr pp => q v H' H0' (p1.trans p2) (by rw [← hz d pp]; exact rr)) hdb he hpl
/-- one of the answers that may be -/
theorem de_call {kk : D → Mem → Prop} (G : GF X.prog X.w X.K X.mg X.base k x dvs (spP X.K args pre post ex)) (hr : Room k X.A) (hg : Gl X x) (ha : DA X kx (e :: es) ρ M ds) (a : α) (hargs : args a = ds ++ dvs) (hp : pre a) (hz : ∀ d, post a d → kk d M) (hex : ∀ cls fs, ex a cls fs → kx cls fs ρ M)
    (hdb : (x == ("__debug__" : Str)) = false := by decide) (he : starEach (e :: es) X.env = (false, eval e X.env) :: starEach es X.env := by rfl) (hpl : (backTo pos (starEach es X.env)).any (·.1) = false := by rfl) : DE X kx (.Call (.Name x p) (e :: es) [] pos) ρ M kk := fun σ H H0 t s W tk hx Q q =>
  call_e (n := 0) G hr hg t s tk hx ha (fun vs us H1 H01 p1 r ru => spP_use (t.pu p1) (s.mo p1.e0) (hx.pu p1) r ru a hargs hp hex fun v H' H0' d p2 rr pp => q v H' H0' d M (p1.trans p2).go (t.pu (p1.trans p2)) rr (hz d pp)) hdb he hpl
/-! ### objects -/
/-- an object of the class C with the fields ns -/
inductive Obj (M : Mem) : D → Addr → List Str → List D → Prop
  | ins (C : Addr) (ns : List Str) (ds : List D) : Obj M (.ins C ns ds) C ns ds
  | adr {a C : Addr} {ns : List Str} {ds : List D} : (a, Mu.ins C ns ds) ∈ M → Obj M (.adr a) C ns ds
theorem Obj.rep {H H0 : Hp} {v : V} {ns : List Str} (h : Obj M y C ns ds) (t : Ht X.K H0 H M) (r : Rep X.K H0 v y) : ∃ (a dx : Addr) (vs : List (Str × V)) (xs : List V), v = .ref a ∧ H a = some (.ins C dx vs) ∧ vs.map Prod.fst = ns ∧ vs.map Prod.snd = xs ∧ RepA X.K H0 xs ds := by
  cases h with
  | ins C ns ds => cases r with | ins a b c d => exact ⟨_, _, _, _, rfl, t.ex _ _ a, b, c, d⟩
  | adr hm =>
    cases r
    obtain ⟨_, dx, vs, xs, h1, h2, h3, h4⟩ := t.mem _ hm
    exact ⟨_, dx, vs, xs, rfl, h1, h2, h3, h4⟩
theorem lookup_rep {K : Frag} {H : Hp} {f : Str} : ∀ {ns : List Str} {vs : List (Str × V)} {xs : List V} {ds : List D}, vs.map Prod.fst = ns → vs.map Prod.snd = xs → RepA K H xs ds →
    (∀ d, (ns.zip ds).lookup f = some d → ∃ v, vs.lookup f = some v ∧ Rep K H v d) ∧ ((ns.zip ds).lookup f = none → vs.lookup f = none)
  | _, [], _, ds, h1, h2, r => by
    subst h1
    exact ⟨fun d h => by simp at h, fun _ => rfl⟩
  | _, (n, v) :: vs, _, ds, h1, h2, r => by
    subst h1; subst h2
    cases r with
    | @cons _ _ d ds r1 r2 =>
      have ih := lookup_rep (f := f) (ns := vs.map Prod.fst) (vs := vs) rfl rfl r2
      simp only [List.map_cons, List.zip_cons_cons, List.lookup_cons]
      cases hf : f == n with
      | true => exact ⟨fun d' h => by cases h; exact ⟨v, rfl, r1⟩, fun h => by cases h⟩
      | false => exact ih
theorem dv_fld {f : Str} {ns : List Str} (cl : Cls X.K C) (na : NoAttr X.K C f) (h : DV X kx o ρ M y) (ho : Obj M y C ns ds) (hl : (ns.zip ds).lookup f = some z) (hb : attributeBase o f X.env (eval o X.env) = eval o X.env := by rfl) : DV X kx (.Attribute o f pos) ρ M z := fun σ H H0 t s W tk hx Q q =>
  sE.by (pe_fld (pe_s o) hb) (h σ H H0 t s W tk hx _ fun v H' H0' p r => by
    obtain ⟨a, dx, vs, xs, rfl, h1, h2, h3, h4⟩ := ho.rep (t.pu p) r
    obtain ⟨v, h5, h6⟩ := (lookup_rep (f := f) h2 h3 h4).1 z hl
    exact ⟨a, C, dx, vs, v, rfl, h1, cl, na, h5, q v H' H0' p h6⟩)
theorem meth_e0 {ns : List Str} {sp : Sp} {pl : Sem Bool} (cl : Cls X.K C) (G : GM X.prog X.w X.K X.mg X.base k C m dvs sp) (hr : Room k X.A) {σ : L2.St} {H H0 : Hp} {Q : VK} {W : WX} {fs : List D} (t : Ht X.K H0 H M) (s : Sl X.K H0 σ ρ) (tk : Takes X W) (hx : Hx X W H0 H M kx)
    (h : DV X kx o ρ M y) (ho : Obj M y C ns fs) (hl : (ns.zip fs).lookup m = none)
    (hh : ∀ vs us H1 H01, Pu H0 H H01 H1 → RepA X.K H01 vs [y] → RepA X.K H01 us dvs → sp (vs ++ us) H1 Q (WE W σ))
    (ht : eval (.Call (.Attribute o m apos) [] [] pos) X.env = (do
      let ov ← eval o X.env
      standAt apos.atName
      let (f, first) ← holding [ov] (getMethod ov m pl)
      callWith pos f first (backTo pos (starEach [] X.env)) (backToKw pos (keywordEach [] X.env)))) : sE X (.Call (.Attribute o m apos) [] [] pos) σ H Q := by
  obtain ⟨f, fd, ps, dv, vd, g1, g3, g4, g5, g6⟩ := G
  refine sE_iff.mpr fun pins st I => PySem.W.methodCall_KW (pl := pl) (thn (sE_iff.mp (h σ H H0 t s W tk hx (fun v H' => ∃ H01, Pu H0 H H01 H' ∧ Rep X.K H01 v y) (fun v H' H0' p r => ⟨H0', p, r⟩)) pins st I) fun u s1 ⟨v, H1, I1, rx, H01, p1, r1⟩ => ?_) ht
  obtain ⟨a, dx, vs, xs, rfl, h1, h2, h3, h4⟩ := ho.rep (t.pu p1) r1
  obtain rfl : u = Value.ref a := rx
  refine getmeth_ok I1 h1 cl g1 ((lookup_rep (f := m) h2 h3 h4).2 hl) ?_
  exact PySem.W.callWith_K0 (first := [.ref a]) I1.kIn g1.kp (run_fnSD (us := [.ref a]) (vs := [.ref a]) (E := WE W) g3 hr g4 g5 (passAt tk σ) I1 (.cons rfl .nil) (hh [.ref a] vd H1 H01 p1 (.cons r1 .nil) (g6 _)))
section
variable {ns : List Str} {fs : List D} {pl : Sem Bool}
theorem dv_meth0 (cl : Cls X.K C) (G : GM X.prog X.w X.K X.mg X.base k C m dvs (spP X.K args pre post ex)) (hr : Room k X.A) (h : DV X kx o ρ M y) (ho : Obj M y C ns fs) (a : α) (hargs : args a = [y] ++ dvs) (hp : pre a) (hz : ∀ d, post a d → d = z)
    (hex : ∀ cls fs, ex a cls fs → kx cls fs ρ M) (hl : (ns.zip fs).lookup m = none := by rfl)
    (ht : eval (.Call (.Attribute o m apos) [] [] pos) X.env = (do
      let ov ← eval o X.env
      standAt apos.atName
      let (f, first) ← holding [ov] (getMethod ov m pl)
      callWith pos f first (backTo pos (starEach [] X.env)) (backToKw pos (keywordEach [] X.env))) := by rfl) : DV X kx (.Call (.Attribute o m apos) [] [] pos) ρ M z := fun σ H H0 t s W tk hx Q q =>
  meth_e0 cl G hr t s tk hx h ho hl (fun vs us H1 H01 p1 r ru => spP_use (t.pu p1) (s.mo p1.e0) (hx.pu p1) r ru a hargs hp hex fun v H' H0' d p2 rr pp => q v H' H0' (p1.trans p2) (by rw [← hz d pp]; exact rr)) ht
end
/-- C(e, ..) -/
theorem run_mk {f : Addr} {fd : FuncData} {ps : List Str} {sp : Sp} {dv : List Value} {vd : List V} {E : L2.St → XK} {pins : List (Addr × PySem.Obj)} {σ : L2.St} {H : Hp} {s : Shared} {Q : VK} {us : List Value} {vs : List V} (Mz : Mk X.K C f) (F : FnOk X.prog X.w X.K X.mg X.base (Dl.CX X.prog X.w) k f fd ps sp)
    (hr : Room (k + 1) X.A) (hb : Binds X.K fd ps dv) (hd : Vals vd dv) (hx : PassesAt (Dl.CX X.prog X.w) X σ (E σ)) (I : Inv X pins σ H s) (r : Vals vs us)
    (h : ∀ x dx, H x = none → H dx = none → dx ≠ x → sp (.ref x :: (vs ++ vd)) (upd (upd H dx (.own x)) x (.ins C dx [])) (fun v H2 => v = .non ∧ Q (.ref x) H2) (E σ)) : wpAny (model X.prog X.w) X.A (call (.ref C) us) (EP X pins σ Q) X.xe s := by
  have nn : ∀ i, H (s.heap.objs.size + i) = none := fun i => I.hok.fresh (Nat.le_add_right _ _)
  have hq := h (s.heap.objs.size + 1) s.heap.objs.size (nn 1) (nn 0) (Nat.ne_of_lt (Nat.lt_succ_self _))
  have J := Inv.made (C := C) I
  have rr : Vals (V.ref (s.heap.objs.size + 1) :: (vs ++ vd)) (Value.ref (s.heap.objs.size + 1) :: (us ++ dv)) := .cons rfl (r.append hd)
  have e : (Value.ref (s.heap.objs.size + 1) :: us ++ dv).length = ps.length := (F.len _ _ _ _ hq) ▸ rr.length.symm
  refine wpAny_call (make_map (f := f) I.kIn Mz.makes Mz.init (beq_iff_eq.mp Mz.fn) (codeAny_mono (F.run _ X.stack _ _ ⟨.ref (s.heap.objs.size + 1) :: us, []⟩ _ _ _ (E σ) (hr.make C us []) (J.env0.make C us [])
    (hb _ (Value.ref (s.heap.objs.size + 1) :: us) J.kIn e) rr hq) fun z s' hz => ?_))
  match z, hz with
  | .error e, hz => exact hx pins _ _ e s' J hz
  | .ok (.ret u), hz =>
    obtain ⟨v, H', J', rv, ev, q⟩ := J.after hz
    subst ev
    exact ⟨rv, V.ref (s.heap.objs.size + 1), H', J', rfl, q⟩
theorem make_e {sp : Sp} (G : GC X.prog X.w X.K X.mg X.base k C dvs sp) (hr : Room (k + 1) X.A) (hg : Gl X x) (hm : X.mg x = some (.ref C)) {σ : L2.St} {H H0 : Hp} {Q : VK} {W : WX} (t : Ht X.K H0 H M) (s : Sl X.K H0 σ ρ) (tk : Takes X W) (hx : Hx X W H0 H M kx) (ha : DA X kx (e :: es) ρ M ds)
    (h : ∀ vs us H1 H01 a dx, Pu H0 H H01 H1 → RepA X.K H01 vs ds → RepA X.K H01 us dvs → H1 a = none → H1 dx = none → dx ≠ a → sp (.ref a :: (vs ++ us)) (upd (upd H1 dx (.own a)) a (.ins C dx [])) (fun v H2 => v = .non ∧ Q (.ref a) H2) (WE W σ))
    (hdb : (x == ("__debug__" : Str)) = false := by decide) (he : starEach (e :: es) X.env = (false, eval e X.env) :: starEach es X.env := by rfl) (hpl : (backTo pos (starEach es X.env)).any (·.1) = false := by rfl) : sE X (.Call (.Name x p) (e :: es) [] pos) σ H Q := by
  obtain ⟨f, fd, ps, dv, vd, g1, g3, g4, g5, g6⟩ := G
  refine sE_iff.mpr fun pins st I => wpAny_Call_Name_kw (ld_glob I hg hm ?_ hdb)
  refine PySem.W.callWith_K (h₀ := X.base) I.ok.mod.kin g1.kp (thn ((pa_s (e :: es)).run pos pins st σ H (fun vs H' => ∃ H01, Pu H0 H H01 H' ∧ RepA X.K H01 vs ds) I (ha σ H H0 t s W tk hx _ fun vs H' H0' p r => ⟨H0', p, r⟩)) fun us s1 ⟨vs, H1, I1, r, H01, p1, q1⟩ => ⟨I1.kIn, ?_⟩) he hpl
  exact run_mk (E := WE W) g1 g3 hr g4 g5 (passAt tk σ) I1 r fun a dx h1 h2 h3 => h vs vd H1 H01 a dx p1 q1 (g6 _) h1 h2 h3
/-- a new instance, tracked as one that may change -/
theorem ht_make {K : Frag} {H0 H : Hp} {M : Mem} (t : Ht K H0 H M) {a dx : Addr} (h1 : H a = none) (h2 : H dx = none) (h3 : dx ≠ a) : Go H0 H M H0 (upd (upd H dx (.own a)) a (.ins C dx [])) ((a, .ins C [] []) :: M) ∧ Ht K H0 (upd (upd H dx (.own a)) a (.ins C dx [])) ((a, .ins C [] []) :: M) := by
  have sm : Same H (upd (upd H dx (.own a)) a (.ins C dx [])) := (same_new h2).trans (same_new (by rw [upd_ne (Ne.symm h3)]; exact h1))
  have f := t.free h1
  refine ⟨⟨Same.refl _, fun b o e _ _ => sm _ _ e, fun _ h _ _ => h, fun b hb => ?_, fun b e => NdefX.upd_none (NdefX.upd_none e)⟩, ⟨t.ex.trans sm, List.nodup_cons.mpr ⟨f.2, t.nd⟩, fun q hq => ?_, t.tb.same sm⟩⟩
  · rcases List.mem_cons.mp (show b ∈ a :: M.dom from hb) with rfl | hb
    · exact .inr h1
    · exact .inl hb
  · rcases List.mem_cons.mp hq with rfl | hq
    · exact ⟨f.1, dx, [], [], upd_same, rfl, rfl, .nil⟩
    · obtain ⟨m1, m2⟩ := t.mem q hq
      exact ⟨m1, m2.mono (Same.refl _) fun o e _ => sm _ _ e⟩
end
end Dl

namespace Dl
open PySem PySem.Spec PyProof.Rows L2
section
variable {K : Frag} {H0 H : Hp} {M : Mem}
theorem set_dom {M : Mem} {i : Nat} {p : Addr} {m m' : Mu} (h : M[i]? = some (p, m)) : Mem.dom (M.set i (p, m')) = M.dom := by
  refine List.ext_getElem? fun j => ?_
  rw [List.getElem?_map, List.getElem?_map]
  by_cases e : i = j
  · subst e
    rw [List.getElem?_set_self (List.getElem?_eq_some_iff.mp h).1, h]; rfl
  · rw [List.getElem?_set_ne e]
theorem Ht.setM (t : Ht K H0 H M) {i : Nat} {p : Addr} {o : HO} {m m' : Mu} (h : M[i]? = some (p, m)) (hm : ∀ H', H' p = some o → MuRep K H0 H' p m') : Ht K H0 (upd H p o) (M.set i (p, m')) ∧ Go H0 H M H0 (upd H p o) (M.set i (p, m')) := by
  have hp : p ∈ M.dom := List.mem_map.mpr ⟨_, List.mem_of_getElem? h, rfl⟩
  have h0 : H0 p = none := (t.mem _ (List.mem_of_getElem? h)).1
  have nx := (t.mem _ (List.mem_of_getElem? h)).2.nx
  refine ⟨⟨fun b u e => ?_, by rw [set_dom h]; exact t.nd, fun q hq => ?_, t.tb.chg nx _⟩, ⟨Same.refl _, fun b u e hb _ => ?_, fun _ h _ _ => h, fun b hb => .inl (by rw [set_dom h] at hb; exact hb), fun b e => NdefX.upd_none e⟩⟩
  · rw [upd_ne (fun z => by rw [z, h0] at e; cases e)]; exact t.ex _ _ e
  · obtain ⟨j, hj⟩ := List.mem_iff_getElem?.mp hq
    by_cases e : i = j
    · subst e
      rw [List.getElem?_set_self (List.getElem?_eq_some_iff.mp h).1] at hj
      cases hj
      exact ⟨h0, hm _ upd_same⟩
    · rw [List.getElem?_set_ne e] at hj
      have hq2 := List.mem_of_getElem? hj
      obtain ⟨a, b⟩ := t.mem q hq2
      refine ⟨a, b.mono (Same.refl _) fun o' q' _ => ?_⟩
      rw [upd_ne (fun z => ?_)]
      · exact q'
      · -- two places of one address
        have d1 : (M.dom)[i]? = some p := by rw [List.getElem?_map, h]; rfl
        have d2 : (M.dom)[j]? = some p := by rw [List.getElem?_map, hj]; show some q.1 = some p; rw [z]
        exact e (nodup_at t.nd d1 d2)
  · rw [upd_ne (fun z => hb (by rw [z]; exact hp))]; exact e
where
  nodup_at {l : List Addr} (n : l.Nodup) {i j : Nat} {p : Addr} (a : l[i]? = some p) (b : l[j]? = some p) : i = j := by
    obtain ⟨h1, e1⟩ := List.getElem?_eq_some_iff.mp a
    obtain ⟨h2, e2⟩ := List.getElem?_eq_some_iff.mp b
    exact (List.getElem_inj n).mp (e1.trans e2.symm)
end
section
variable {X : Cx} {kx : XD} {ρ ρ' ρ'' : Ro} {M M' : Mem} {P : Out → Mem → Prop} {pos p apos tpos : Pos} {a b c e o : Expr} {es : List Expr} {x y z d : D} {ds : List D} {w : Addr}
/-- xs.append(e) -/
theorem de_app {i : Nat} {k : D → Mem → Prop} (ho : DV X kx o ρ M (.adr w)) (hv : DV X kx e ρ M d) (hm : M[i]? = some (w, .lst ds)) (hl : ds.length < sizeLine) (hk : k .non (M.set i (w, .lst (ds ++ [d]))))
    (hb : attributeBase o "append" X.env (eval o X.env) = eval o X.env := by rfl)
    (hfew : ((backTo pos (starEach [e] X.env)).all (fun x => !x.1) && (backToKw pos (keywordEach [] X.env)).all (fun x => x.1.isSome) && decide ([e].length + ([] : List Keyword).length + (if ([] : List Keyword).isEmpty then 0 else 1) < 30)) = true := by rfl)
    (hline : (apos.endLine == pos.line) = true := by rfl) (hs : starEach [e] X.env = (false, eval e X.env) :: starEach [] X.env := by rfl) : DE X kx (.Call (.Attribute o "append" apos) [e] [] pos) ρ M k := fun σ H H0 t s W tk hx Q q =>
  sE.by (pe_bm PySem.F.plainAttrs_list PySem.F.slot_list_append PySem.F.type_list_append mt_append (pe_s o) (pa_s [e]) hb hfew hline hs rfl) (ho σ H H0 t s W tk hx _ fun v H1 H01 p1 r1 => by
    cases r1
    obtain ⟨_, vs, h1, h2⟩ := (t.pu p1).mem _ (List.mem_of_getElem? hm)
    refine ⟨.inl ⟨rfl, vs, SqL.of h1⟩, (da_cons hv da_nil hs : DA X kx [e] ρ M [d]) σ H1 H01 (t.pu p1) (s.mo p1.e0) W tk (hx.pu p1) _ fun us H2 H02 p2 r2 => ?_⟩
    obtain ⟨u, rfl, ru⟩ := repA1 r2
    have g1 := p2.k h1
    obtain ⟨t3, g3⟩ := (t.pu (p1.trans p2)).setM (o := .lst (vs ++ [u])) (m' := .lst (ds ++ [d])) hm fun H' e => ⟨vs ++ [u], e, (h2.mo p2.e0).app (.one ru)⟩
    exact ⟨w, vs, u, rfl, rfl, g1, by rw [h2.length]; exact hl, q .non _ H02 _ _ ((p1.trans p2).go.trans g3) t3 .non hk⟩)
theorem ds1_app {i : Nat} (ho : DV X kx o ρ M (.adr w)) (hv : DV X kx e ρ M d) (hm : M[i]? = some (w, .lst ds)) (hl : ds.length < sizeLine) (hk : P (.nx ρ) (M.set i (w, .lst (ds ++ [d]))))
    (hb : attributeBase o "append" X.env (eval o X.env) = eval o X.env := by rfl)
    (hfew : ((backTo pos (starEach [e] X.env)).all (fun x => !x.1) && (backToKw pos (keywordEach [] X.env)).all (fun x => x.1.isSome) && decide ([e].length + ([] : List Keyword).length + (if ([] : List Keyword).isEmpty then 0 else 1) < 30)) = true := by rfl)
    (hline : (apos.endLine == pos.line) = true := by rfl) (hs : starEach [e] X.env = (false, eval e X.env) :: starEach [] X.env := by rfl)
    (hs2 : swapsWith (.Call (.Attribute o "append" apos) [e] [] pos) none tpos.line X.env = pure false := by rfl) : DS1 X kx (.Expr (.Call (.Attribute o "append" apos) [e] [] pos) tpos) ρ M P :=
  ds1_expr (de_app (k := fun d' m => d' = .non ∧ m = M.set i (w, .lst (ds ++ [d]))) ho hv hm hl ⟨rfl, rfl⟩ hb hfew hline hs) (fun d' m ⟨_, e⟩ => by rw [e]; exact hk) hs2
/-- the list at w, in the slot j, will not change any more -/
theorem ds_frz {sts : List Stmt} (i j : Nat) (hm : M[i]? = some (w, .lst ds)) (hj : ρ[j]? = some (some (.adr w))) (h : DS X kx sts (ρ.set j (some (.lst ds))) (M.eraseIdx i) P) : DS X kx sts ρ M P := fun σ H H0 t s W tk hx D c => by
  obtain ⟨h0, vs, h1, h2⟩ := t.mem _ (List.mem_of_getElem? hm)
  have sm : Same H0 (upd H0 w (.lst vs)) := same_new h0
  have nd : (M.dom)[i]? = some w := by rw [List.getElem?_map, hm]; rfl
  have t' : Ht X.K (upd H0 w (.lst vs)) H (M.eraseIdx i) := by
    refine ⟨fun b o e => ?_, ?_, fun q hq => ?_, t.tb.frz h1⟩
    · by_cases hb : b = w
      · subst hb; rw [upd_same] at e; cases e; exact h1
      · rw [upd_ne hb] at e; exact t.ex _ _ e
    · exact t.nd.sublist (List.Sublist.map _ (List.eraseIdx_sublist _ _))
    · have hq1 : q ∈ M := List.mem_of_mem_eraseIdx hq
      have ne : q.1 ≠ w := fun z => by
        obtain ⟨j', hj', e1⟩ := List.mem_eraseIdx_iff_getElem?.mp hq
        have d2 : (M.dom)[j']? = some w := by rw [List.getElem?_map, e1]; show some q.1 = some w; rw [z]
        exact hj' (Ht.setM.nodup_at t.nd d2 nd)
      obtain ⟨a, b⟩ := t.mem q hq1
      exact ⟨by rw [upd_ne ne]; exact a, b.mono sm fun _ e _ => e⟩
  have g : Go H0 H M (upd H0 w (.lst vs)) H (M.eraseIdx i) := by
    refine ⟨sm, fun _ _ e _ _ => e, fun a a1 a2 a3 => ?_, fun a ha => ?_, fun _ e => e⟩
    · rw [upd_ne (fun z => a3 (by rw [z]; exact List.mem_map.mpr ⟨_, List.mem_of_getElem? hm, rfl⟩))]; exact a1
    · obtain ⟨q, hq, rfl⟩ := List.mem_map.mp ha
      exact .inl (List.mem_map.mpr ⟨q, List.mem_of_mem_eraseIdx hq, rfl⟩)
  obtain ⟨v, e1, r1⟩ := s.2 j _ hj
  cases r1
  have s' : Sl X.K (upd H0 w (.lst vs)) σ (ρ.set j (some (.lst ds))) := by
    have z := (s.mo sm).set (v := .ref w) (d := .lst ds) (.lst upd_same (h2.mo sm)) j
    have e2 : σ.set j (some (.ref w)) = σ := by
      refine List.ext_getElem? fun k => ?_
      by_cases hk : j = k
      · subst hk; rw [List.getElem?_set_self (List.getElem?_eq_some_iff.mp e1).1, e1]
      · rw [List.getElem?_set_ne hk]
    rw [e2] at z
    exact z
  exact h σ H _ t' s' W tk (hx.step g) D (c.step g)
/-! ### o.f = e -/
def putD (f : Str) (d : D) : List Str → List D → List Str × List D
  | n :: ns, x :: xs => if n = f then (n :: ns, d :: xs) else ((n :: (putD f d ns xs).1), (x :: (putD f d ns xs).2))
  | _, _ => ([f], [d])
theorem putD_rep {K : Frag} {H : Hp} {f : Str} {v : V} {d : D} (r : Rep K H v d) : ∀ {vs : List (Str × V)} {ds : List D}, RepA K H (vs.map Prod.snd) ds →
    (putF f v vs).map Prod.fst = (putD f d (vs.map Prod.fst) ds).1 ∧ RepA K H ((putF f v vs).map Prod.snd) (putD f d (vs.map Prod.fst) ds).2
  | [], ds, h => by
    cases h
    exact ⟨rfl, .one r⟩
  | (n, u) :: vs, _, h => by
    have h' : RepA K H (u :: vs.map Prod.snd) _ := h
    cases h' with
    | @cons _ _ x xs h1 h2 =>
      obtain ⟨i1, i2⟩ := putD_rep (f := f) r h2
      show (if n = f then (n, v) :: vs else (n, u) :: putF f v vs).map Prod.fst = (if n = f then (n :: vs.map Prod.fst, d :: xs) else ((n :: (putD f d (vs.map Prod.fst) xs).1), (x :: (putD f d (vs.map Prod.fst) xs).2))).1 ∧
        RepA K H ((if n = f then (n, v) :: vs else (n, u) :: putF f v vs).map Prod.snd) (if n = f then (n :: vs.map Prod.fst, d :: xs) else ((n :: (putD f d (vs.map Prod.fst) xs).1), (x :: (putD f d (vs.map Prod.fst) xs).2))).2
      by_cases e : n = f
      · rw [if_pos e, if_pos e]
        exact ⟨rfl, .cons r h2⟩
      · rw [if_neg e, if_neg e]
        exact ⟨by rw [List.map_cons, i1], .cons h1 i2⟩
theorem ds1_fld {i : Nat} {f : Str} {C : Addr} {ns ns' : List Str} {ds' : List D} (cl : Cls X.K C) (na : NoAttr X.K C f) (hv : DV X kx e ρ M d) (ho : DV X kx o ρ M (.adr w)) (hm : M[i]? = some (w, .ins C ns ds)) (hl : ns.length < 1000) (hp : putD f d ns ds = (ns', ds')) (hk : P (.nx ρ) (M.set i (w, .ins C ns' ds')))
    (hs : swapsWith e (some (.Attribute o f apos)) pos.line X.env = pure false := by rfl) : DS1 X kx (.Assign [.Attribute o f apos] e pos) ρ M P := fun σ H H0 t s W tk hx D c =>
  sS.by (ps_fld (pe_s o) (pe_s e) hs) (hv σ H H0 t s W tk hx _ fun v H1 H01 p1 r1 => ho σ H1 H01 (t.pu p1) (s.mo p1.e0) W tk (hx.pu p1) _ fun u H2 H02 p2 r2 => by
    cases r2
    have p12 := p1.trans p2
    obtain ⟨_, dx, vs, xs, h1, rfl, rfl, h4⟩ := (t.pu p12).mem _ (List.mem_of_getElem? hm)
    obtain ⟨i1, i2⟩ := putD_rep (f := f) (r1.mo p2.e0) h4
    rw [hp] at i1 i2
    obtain ⟨t3, g3⟩ := (t.pu p12).setM (o := .ins C dx (putF f v vs)) (m' := .ins C ns' ds') hm fun H' e => ⟨dx, putF f v vs, _, e, i1, rfl, i2⟩
    exact ⟨w, C, dx, vs, rfl, h1, cl, na, by rw [List.length_map] at hl; exact hl, c.nx σ _ H02 ρ _ (p12.go.trans g3) t3 (s.mo p12.e0) hk⟩)
end
/-! ### what is left behind a def: that it never changes any more -/
section
variable {K : Frag} {H0 H : Hp} {M : Mem}
theorem Ht.frz1 (t : Ht K H0 H M) {i : Nat} {w : Addr} {ds : List D} (hm : M[i]? = some (w, .lst ds)) : ∃ H0', Same H0 H0' ∧ Ht K H0' H (M.eraseIdx i) ∧ Rep K H0' (.ref w) (.lst ds) ∧ Go H0 H M H0' H (M.eraseIdx i) := by
  obtain ⟨h0, vs, h1, h2⟩ := t.mem _ (List.mem_of_getElem? hm)
  have sm : Same H0 (upd H0 w (.lst vs)) := same_new h0
  have nd : (M.dom)[i]? = some w := by rw [List.getElem?_map, hm]; rfl
  refine ⟨_, sm, ⟨fun b o e => ?_, t.nd.sublist (List.Sublist.map _ (List.eraseIdx_sublist _ _)), fun q hq => ?_, t.tb.frz h1⟩, .lst upd_same (h2.mo sm), ⟨sm, fun _ _ e _ _ => e, fun a a1 a2 a3 => ?_, fun a ha => ?_, fun _ e => e⟩⟩
  · by_cases hb : b = w
    · subst hb; rw [upd_same] at e; cases e; exact h1
    · rw [upd_ne hb] at e; exact t.ex _ _ e
  · have ne : q.1 ≠ w := fun z => by
      obtain ⟨j', hj', e1⟩ := List.mem_eraseIdx_iff_getElem?.mp hq
      have d2 : (M.dom)[j']? = some w := by rw [List.getElem?_map, e1]; show some q.1 = some w; rw [z]
      exact hj' (Ht.setM.nodup_at t.nd d2 nd)
    obtain ⟨a, b⟩ := t.mem q (List.mem_of_mem_eraseIdx hq)
    exact ⟨by rw [upd_ne ne]; exact a, b.mono sm fun _ e _ => e⟩
  · rw [upd_ne (fun z => a3 (by rw [z]; exact List.mem_map.mpr ⟨_, List.mem_of_getElem? hm, rfl⟩))]; exact a1
  · obtain ⟨q, hq, rfl⟩ := List.mem_map.mp ha
    exact .inl (List.mem_map.mpr ⟨q, List.mem_of_mem_eraseIdx hq, rfl⟩)
/-- an object that never changes any more -/
theorem Ht.frzI (t : Ht K H0 H M) {i : Nat} {w C : Addr} {ns : List Str} {ds : List D} (hm : M[i]? = some (w, .ins C ns ds)) : ∃ H0', Same H0 H0' ∧ Ht K H0' H (M.eraseIdx i) ∧ Rep K H0' (.ref w) (.ins C ns ds) ∧ Go H0 H M H0' H (M.eraseIdx i) := by
  obtain ⟨h0, dx, vs, xs, h1, h2, h3, h4⟩ := t.mem _ (List.mem_of_getElem? hm)
  have sm : Same H0 (upd H0 w (.ins C dx vs)) := same_new h0
  have nd : (M.dom)[i]? = some w := by rw [List.getElem?_map, hm]; rfl
  refine ⟨_, sm, ⟨fun b o e => ?_, t.nd.sublist (List.Sublist.map _ (List.eraseIdx_sublist _ _)), fun q hq => ?_, t.tb.frz h1⟩, .ins upd_same h2 h3 (h4.mo sm), ⟨sm, fun _ _ e _ _ => e, fun a a1 a2 a3 => ?_, fun a ha => ?_, fun _ e => e⟩⟩
  · by_cases hb : b = w
    · subst hb; rw [upd_same] at e; cases e; exact h1
    · rw [upd_ne hb] at e; exact t.ex _ _ e
  · have ne : q.1 ≠ w := fun z => by
      obtain ⟨j', hj', e1⟩ := List.mem_eraseIdx_iff_getElem?.mp hq
      have d2 : (M.dom)[j']? = some w := by rw [List.getElem?_map, e1]; show some q.1 = some w; rw [z]
      exact hj' (Ht.setM.nodup_at t.nd d2 nd)
    obtain ⟨a, b⟩ := t.mem q (List.mem_of_mem_eraseIdx hq)
    exact ⟨by rw [upd_ne ne]; exact a, b.mono sm fun _ e _ => e⟩
  · rw [upd_ne (fun z => a3 (by rw [z]; exact List.mem_map.mpr ⟨_, List.mem_of_getElem? hm, rfl⟩))]; exact a1
  · obtain ⟨q, hq, rfl⟩ := List.mem_map.mp ha
    exact .inl (List.mem_map.mpr ⟨q, List.mem_of_mem_eraseIdx hq, rfl⟩)
variable {X : Cx} {kx : XD} {ρ : Ro} {e : Expr}
/-- what an expression made and may change, is laid for ever -/
theorem DE.frz {k k' : D → Mem → Prop} (h : DE X kx e ρ M k') (hk : ∀ d m, k' d m → ∃ w ds i, d = .adr w ∧ m[i]? = some (w, .lst ds) ∧ k (.lst ds) (m.eraseIdx i)) : DE X kx e ρ M k := fun σ H H0 t s W tk hx Q q =>
  h σ H H0 t s W tk hx Q fun v H' H0' d M' g t' r kk => by
    obtain ⟨w, ds, i, rfl, hm, k2⟩ := hk d M' kk
    cases r
    obtain ⟨H0s, sm, t2, r2, g2⟩ := t'.frz1 hm
    exact q _ H' H0s _ _ (g.trans g2) t2 r2 k2
/-- a list that is made and never changed: a value -/
theorem DE.dv {d : D} (h : DE X kx e ρ M fun d' m => d' = d ∧ m = M) (hp : ∀ (H0 H H0' H' : Hp), Ht X.K H0 H M → Go H0 H M H0' H' M → Ht X.K H0' H' M → Pu H0 H H0' H') : DV X kx e ρ M d := fun σ H H0 t s W tk hx Q q =>
  h σ H H0 t s W tk hx Q fun v H' H0' d' M' g t' r ⟨e1, e2⟩ => by subst e1; subst e2; exact q v H' H0' (hp _ _ _ _ t g t') r
end
section
variable {X : Cx} {kx : XD} {ρ : Ro} {M : Mem} {pos : Pos} {α : Type} {N : List Str} {sc csc : Scope} {k : Nat} {tg e : Expr}
/-- [elt for tg in e if ..], a list that never changes -/
theorem dv_lc {own : List (Str × Nat)} {elt : Expr} {ifs : List Expr} {xs : List α} {enc : α → D} {cnd : α → Bool} {f : α → D} (B : Bd X N sc k) (hi : DI X kx tg e ρ M (xs.map enc)) (ok : BlkOk N sc csc own) (hl : xs.length < sizeLine)
    (h : ∀ x, x ∈ xs → LcB X N sc csc k own tg elt ifs ρ M (enc x) (cnd x) (f x)) (hs : ∀ x, foldedSetIterable e X.env x = pure x := by intro _; rfl) : DV X kx (.ListComp elt [⟨tg, e, ifs, 0⟩] csc pos) ρ M (.lst (outs xs cnd f)) := fun σ H H0 t s W tk hx Q q => by
  refine sE.by (pe_lc (g := uG X csc tg) (tt := uT X csc ifs) (te := uE X csc elt) B.calm (by rw [B.hN]; exact B.hnd) (pi_s tg e) (by rw [B.hN, B.hsc]; exact ok) (fun s H C cl fp => ?_) (fun s H C cl fp => ?_) (fun s H C cl fp => ?_) hs) ?_
  · exact ⟨fun pins s' σ' H' v u Q' I r h => sG_iff.mp (h s H C cl fp) pins s' u I r⟩
  · exact ⟨fun pins s' σ' H' Q' I h => (by first | exact sTs_iff.mp (h s H C cl fp) pins s' I | exact sE_iff.mp (h s H C cl fp) pins s' I)⟩
  · exact ⟨fun pins s' σ' H' Q' I h => (by first | exact sTs_iff.mp (h s H C cl fp) pins s' I | exact sE_iff.mp (h s H C cl fp) pins s' I)⟩
  · refine lc_read (cnd := cnd) (f := f) hi B hl h t s tk hx fun w H' H0' g t' hw hk => ?_
    obtain ⟨H0s, sm, t2, r2, g2⟩ := t'.frz1 (i := 0) rfl
    have g3 := g.trans g2
    refine q (.ref w) H' H0s ⟨g3.e0, hk, t2.ex, fun a h1 h2 => ?_, g3.there, fun _ => t2.tb⟩ r2
    by_cases ha : a ∈ M.dom
    · obtain ⟨m, hm, rfl⟩ := List.mem_map.mp ha
      exact (t2.mem m hm).1
    · exact g3.new a h1 h2 ha
end
end Dl

namespace Dl
open PySem PySem.Spec PyProof.Rows L2
/-! ### built-ins by name -/
theorem bt_len : bootBuiltins "len" = some (.builtin "len") := by first | exact PySem.boot_len | exact PyProof.Rows.boot_len | exact PySem.W.boot_len | exact PySem.Calls.boot_len | decide +kernel
theorem bt_all : bootBuiltins "all" = some (.builtin "all") := by first | exact PySem.boot_all | exact PyProof.Rows.boot_all | exact PySem.W.boot_all | exact PySem.Calls.boot_all | decide +kernel
theorem bt_isinstance : bootBuiltins "isinstance" = some (.builtin "isinstance") := by first | exact PySem.boot_isinstance | exact PyProof.Rows.boot_isinstance | exact PySem.W.boot_isinstance | exact PySem.Calls.boot_isinstance | decide +kernel
theorem bt_list : bootBuiltins "list" = some (.type "list") := by first | exact PySem.boot_list | exact PyProof.Rows.boot_list | exact PySem.W.boot_list | exact PySem.Calls.boot_list | decide +kernel
theorem bt_int : bootBuiltins "int" = some (.type "int") := by first | exact PySem.boot_int | exact PyProof.Rows.boot_int | exact PySem.W.boot_int | exact PySem.Calls.boot_int | decide +kernel
theorem bt_bool : bootBuiltins "bool" = some (.type "bool") := by first | exact PySem.boot_bool | exact PyProof.Rows.boot_bool | exact PySem.W.boot_bool | exact PySem.Calls.boot_bool | decide +kernel
theorem bt_str : bootBuiltins "str" = some (.type "str") := by first | exact PySem.boot_str | exact PyProof.Rows.boot_str | exact PySem.W.boot_str | exact PySem.Calls.boot_str | decide +kernel
theorem bt_range : bootBuiltins "range" = some (.type "range") := by first | exact PySem.boot_range | exact PyProof.Rows.boot_range | exact PySem.W.boot_range | exact PySem.Calls.boot_range | decide +kernel
/-! ### a def of the top -/
/-- the def st stands at the name x with all its parameters given -/
def FunT (K : Frag) (mg : Str → Option Value) (x : Str) (st : Stmt) (ps : List Str) : Prop := ∃ f fd, Fun K x x st f fd ∧ mg x = some (.ref f) ∧ Binds K fd ps []
theorem FunT.gf {P : Program} {w : World} {K : Frag} {mg : Str → Option Value} {base : Heap} {x : Str} {st : Stmt} {ps : List Str} {k : Nat} {sp : Sp} (T : FunT K mg x st ps) (h : ∀ f fd, Fun K x x st f fd → FnOk P w K mg base (Dl.CX P w) k f fd ps sp) : GF P w K mg base k x [] sp := by
  obtain ⟨f, fd, F, g, b⟩ := T
  exact ⟨f, fd, ps, [], [], g, F.kp, h f fd F, b, .nil, fun _ => .nil⟩
theorem fscope {N ps : List Str} {sc : Scope} (h : (match sc.kind with | .function => true | _ => false) && !sc.isCoroutine && !sc.isGenerator && decide N.Nodup && decide (N.take ps.length = ps) &&
    (ps.all fun x => match sc.names.lookup x with | some .local => true | some .cell => true | _ => false) && (sc.names.all fun y => match y.2 with | .free => false | _ => true)) : FnScope N ps sc := by
  simp only [Bool.and_eq_true, List.all_eq_true, decide_eq_true_eq, Bool.not_eq_true'] at h
  obtain ⟨⟨⟨⟨⟨⟨h1, h2⟩, h3⟩, h4⟩, h5⟩, h6⟩, h7⟩ := h
  refine ⟨?_, h2, h3, h4, h5, fun x hx => ?_, fun y hy e => ?_⟩
  · split at h1
    · assumption
    · cases h1
  · have q := h6 x hx
    split at q
    · exact .inl (by assumption)
    · exact .inr (by assumption)
    · cases q
  · have q := h7 y hy
    rw [e] at q; cases q
theorem vloc {sc : Scope} {x : Str} (h : sc.names.lookup x = some .local) : Vis sc x := .inl h
/-! ### least and greatest -/
def minI (l : List Int) : Int := (l.min?).getD 0
def maxI (l : List Int) : Int := (l.max?).getD 0
section
variable {X : Cx} {kx : XD} {ρ ρ' ρ'' : Ro} {M M' : Mem} {P : Out → Mem → Prop} {pos p : Pos} {tg a b c e : Expr} {es : List Expr} {x y z : D} {f : Str}
/-- an item at an open place -/
theorem atI_map {α : Type} {xs : List α} {f : α → D} {i : Int} {v : α} (h0 : 0 ≤ i) (h : xs[i.toNat]? = some v) : atI (xs.map f) i = some (f v) := by
  have e : i = ((i.toNat : Nat) : Int) := by omega
  rw [e]
  exact atI_nat (by rw [List.getElem?_map, h]; rfl)
theorem atI_neg {α : Type} {xs : List α} {f : α → D} {i : Int} (v : α) (h0 : i < 0) (h : -(xs.length : Int) ≤ i) : atI (xs.map f) i = some (f (xs.getD (i + xs.length).toNat v)) := by
  unfold atI ixN
  rw [List.length_map, if_neg (by omega), if_pos h, Option.bind_some, List.getElem?_map, List.getD_eq_getElem?_getD, List.getElem?_eq_getElem (by omega)]; rfl
/-- a menu of numbers -/
def menu (l : List Int) (i : Int) : Int := l.getD i.toNat 0
/-! ### lists put together -/
theorem r2_cat {ds us : List D} (h1 : SeqO M x ds) (h2 : SeqO M y us) (hl : ds.length + us.length ≤ sizeLine) : R2D X.K rCat M x y (.lst (ds ++ us)) := fun v u H H0 t r1 r2 Q q => by
  obtain ⟨p1, xs, rfl, a1, b1⟩ := h1.rep t r1
  obtain ⟨p2, ys, rfl, a2, b2⟩ := h2.rep t r2
  refine ⟨p1, p2, xs, ys, rfl, rfl, a1, a2, by rw [b1.length, b2.length]; exact hl, fun w hw => ?_⟩
  have g := Pu.new1 t.ex hw (.lst (xs ++ ys))
  exact q _ _ _ g (.lst upd_same ((b1.app b2).mo g.e0))
theorem dv_cat {ds us : List D} (ha : DV X kx a ρ M x) (hb : DV X kx b ρ M y) (h1 : SeqO M x ds) (h2 : SeqO M y us) (hl : ds.length + us.length ≤ sizeLine) : DV X kx (.BinOp a .Add b pos) ρ M (.lst (ds ++ us)) := dv_op op_cat (r2_cat h1 h2 hl) ha hb
end
/-! ### side conditions -/
theorem szN {α : Type} {l : List α} (n : Nat) (h : l.length = n) (h2 : n ≤ 1000 := by decide) : l.length ≤ sizeLine := by
  rw [h, sizeLine_eq]; omega
theorem sz_le {n : Nat} (h : n ≤ 100000) : n ≤ sizeLine := by rw [sizeLine_eq]; omega
theorem sz_lt {n : Nat} (h : n ≤ 100000) : n < sizeLine := by rw [sizeLine_eq]; omega
/-- a product that is not too great -/
def MulOk (i j : Int) : Prop := CMul i j ∨ CMulW i j
theorem mok_l {i j : Int} (h1 : -(2 ^ 64) < i) (h2 : i < 2 ^ 64) : MulOk i j := .inl (.inl ⟨h1, h2⟩)
theorem mok_w {i j : Int} {a b : Nat} (ha : i.natAbs < 2 ^ a) (hb : j.natAbs < 2 ^ b) (h : a + b ≤ 900000) : MulOk i j :=
  .inr (wide_mul (a := a + 1) (b := b + 1) (Nat.lt_of_lt_of_le ha (Nat.pow_le_pow_right (by decide) (by omega))) (Nat.lt_of_lt_of_le hb (Nat.pow_le_pow_right (by decide) (by omega))) (by omega) (by omega) (by omega))
/-- below 2 ^ 300 either way -/
def Big (i : Int) : Prop := -(2 ^ 300) < i ∧ i < 2 ^ 300
theorem mok_b {i j : Int} (ha : Big i) (hb : Big j) : MulOk i j := by
  have h : ∀ {i : Int}, Big i → i.natAbs < 2 ^ 300 := fun {i} h => by
    obtain ⟨h1, h2⟩ := h
    omega
  exact mok_w (h ha) (h hb) (by omega)
theorem mok_c {i j : Int} (h : -(2 ^ 64) < i ∧ i < 2 ^ 64 ∨ -(2 ^ 64) < j ∧ j < 2 ^ 64) : MulOk i j := .inl h
theorem div_c {i j : Int} (h1 : 0 < j) (h2 : j < 2 ^ 300) : CDivW i j := wide_div (b := 300) h1 (by omega) (by decide) (by decide)
section
variable {X : Cx} {kx : XD} {ρ : Ro} {M : Mem} {P : Out → Mem → Prop} {pos p tpos : Pos} {a b c e : Expr} {i j : Int} {x d : D} {k : Bool}
theorem dv_mulX (ha : DV X kx a ρ M (.int i)) (hb : DV X kx b ρ M (.int j)) (h : MulOk i j) : DV X kx (.BinOp a .Mult b pos) ρ M (.int (i * j)) := by
  rcases h with h | h
  · exact dv_mul ha hb h
  · exact dv_mulW ha hb h
/-- x = [..], a list that will change -/
theorem ds1_newL {s : Nat} {v : Str} {p2 : Pos} {es : List Expr} {ds : List D} (nn : Ns X s v) (h : DA X kx es ρ M ds) (hl : ds.length ≤ sizeLine) (hp : ∀ w, w ∉ M.dom → P (.nx (ρ.set s (some (.adr w)))) ((w, .lst ds) :: M))
    (hs : swapsWithSole [.Name v p2] (.List es p) pos.line X.env = pure false := by rfl) (hw : swappedStores [.Name v p2] (.List es p) X.env = pure none := by rfl) : DS1 X kx (.Assign [.Name v p2] (.List es p) pos) ρ M P :=
  ds1_setE (k := fun d m => ∃ w, w ∉ M.dom ∧ d = .adr w ∧ m = (w, .lst ds) :: M) nn (de_lst h hl fun w hw => ⟨w, hw, rfl, rfl⟩) (fun d m ⟨w, h1, h2, h3⟩ => by subst h2; subst h3; exact hp w h1) hs hw
/-- x = e, where e makes a list that will change -/
theorem ds1_newE {s : Nat} {v : Str} {p2 : Pos} {ds : List D} (nn : Ns X s v) (h : DE X kx e ρ M fun d m => ∃ w, w ∉ M.dom ∧ d = .adr w ∧ m = (w, .lst ds) :: M) (hp : ∀ w, w ∉ M.dom → P (.nx (ρ.set s (some (.adr w)))) ((w, .lst ds) :: M))
    (hs : swapsWithSole [.Name v p2] e pos.line X.env = pure false := by rfl) (hw : swappedStores [.Name v p2] e X.env = pure none := by rfl) : DS1 X kx (.Assign [.Name v p2] e pos) ρ M P :=
  ds1_setE (k := fun d m => ∃ w, w ∉ M.dom ∧ d = .adr w ∧ m = (w, .lst ds) :: M) nn h (fun d m ⟨w, h1, h2, h3⟩ => by subst h2; subst h3; exact hp w h1) hs hw
end
/-! ### the end of a law -/
theorem FunT.mk {K : Frag} {h : Heap} {mg : Str → Option Value} (X : K.In h) (G : h.Ns mainGlobals mg) {x : Str} {st : Stmt} {ps : List Str} {f : Addr} {od an : Option Addr} {sl : Array (Option Value)} {oc kV dc pm cd ct : Value}
    (a : PySem.W.nsIn K mainGlobals x = some (some (.ref f))) (l : K.lookup f = some ⟨oc, od, .func (PySem.W.fnOf x x (defArgs st) (defBody st) (defScope st) .none kV dc pm an cd ct), sl⟩) (c : PySem.W.codeIn K cd x = true) (k : PySem.W.keepIn K (.ref f) = true)
    (b : ∀ (kV doc pm : Value) (an : Option Addr) (cdv ct : Value) (us : List Value), us.length = ps.length → bindArgs (PySem.W.fnOf x x (defArgs st) (defBody st) (defScope st) .none kV doc pm an cdv ct) ⟨us, []⟩ = pure (ps.zip us)) : FunT K mg x st ps :=
  have F := fun_mk (st := st) l c k
  ⟨f, _, F, PySem.W.mg_of X G a, F.binds b⟩
/-- the promise of the law itself -/
def spLaw (K : Frag) : Sp := spP K (fun q : List Int => [.scr (q.map D.int)]) (fun q => q.length ≤ 63) (fun _ d => d = .bl true) (fun _ _ _ => False)
theorem tb_nil (e : tabT = []) {H0 H : Hp} (n : ∀ b ps, H0 b ≠ some (.tbl ps)) : TB H0 H := ⟨fun p hp => (by
  rw [e] at hp; cases hp), n⟩
theorem law_hsp {K : Frag} {H : Hp} {a : Addr} {ns : List Int} (e0 : tabT = []) (hO : Only H) (hl : ns.length ≤ 63) (h : SqL K H a (ns.map V.int)) : spLaw K [.ref a] H (fun v _ => v = .bl true) fun _ _ _ => False :=
  ⟨ns, H, ⟨Same.refl _, tb_nil e0 fun b ps z => by rcases hO b with y | ⟨o, xs, y⟩ <;> rw [y] at z <;> cases z⟩, .cons (.scr h (RepA.ofInts ns)) .nil, hl, fun v H' H0' d _ r e => by subst e; cases r; rfl, fun _ _ _ _ _ _ _ z => z.elim⟩
end Dl

namespace Dl
open PySem PySem.Spec PyProof.Rows L2
/-! ### encodings by which == is = -/
theorem pyA_map : ∀ xs : List D, D.pyA xs = xs.map D.py
  | [] => by simp [D.pyA]
  | x :: xs => by simp [D.pyA, pyA_map xs]
theorem flatA_all : ∀ xs : List D, D.flatA xs = xs.all D.flat
  | [] => by simp [D.flatA]
  | x :: xs => by simp [D.flatA, flatA_all xs]
theorem lay_all : ∀ xs : List PyData, PyData.canLayAll0 xs = xs.all PyData.canLay0
  | [] => by simp [PyData.canLayAll0]
  | x :: xs => by simp [PyData.canLayAll0, lay_all xs]
theorem depth_all : ∀ (xs : List PyData) (n : Nat), (∀ x ∈ xs, x.depth ≤ n) → PyData.depthAll xs ≤ n
  | [], n, _ => by simp [PyData.depthAll]
  | x :: xs, n, h => by
    simp only [PyData.depthAll]
    have h1 := h x List.mem_cons_self
    have h2 := depth_all xs n fun y hy => h y (List.mem_cons_of_mem _ hy)
    omega
/-- an encoding: clean, of small depth, one to one -/
structure En {α : Type} (n : Nat) (f : α → D) : Prop where
  flat : ∀ x, (f x).flat = true
  lay : ∀ x, PyData.canLay0 (f x).py = true
  depth : ∀ x, (f x).py.depth ≤ n
  eqv : ∀ x y, PyData.eqv (f x).py (f y).py = true ↔ x = y
/-- the same of a row of things -/
structure EnL {α : Type} (n : Nat) (F : α → List D) : Prop where
  flat : ∀ x, D.flatA (F x) = true
  lay : ∀ x, PyData.canLayAll0 (D.pyA (F x)) = true
  depth : ∀ x, PyData.depthAll (D.pyA (F x)) ≤ n
  eqv : ∀ x y, PyData.eqvAll (D.pyA (F x)) (D.pyA (F y)) = true ↔ x = y
section
variable {α β : Type} {n m : Nat} {f : α → D} {F : α → List D} {G : β → List D}
theorem En.mono (h : En n f) (l : n ≤ m) : En m f := ⟨h.flat, h.lay, fun x => Nat.le_trans (h.depth x) l, h.eqv⟩
theorem En.eqs [DecidableEq α] (h : En n f) (x y : α) (hn : n ≤ 64 := by decide) : Eqs (f x) (f y) (decide (x = y)) := by
  refine ⟨h.flat x, h.flat y, ?_, ?_, ?_⟩
  · have := h.depth x
    unfold SeqAt.shaped; rw [h.lay, Bool.true_and, decide_eq_true_eq]; omega
  · have := h.depth y
    unfold SeqAt.shaped; rw [h.lay, Bool.true_and, decide_eq_true_eq]; omega
  · refine Bool.eq_iff_iff.mpr ?_
    rw [decide_eq_true_iff]; exact h.eqv x y
theorem En.refl [DecidableEq α] (h : En n f) (x : α) (hn : n ≤ 64 := by decide) : Eqs (f x) (f x) true := by
  have := h.eqs x x hn
  rw [decide_eq_true rfl] at this
  exact this
theorem en_int : En 0 D.int := ⟨fun x => by simp [D.flat], fun x => by simp [D.py, PyData.canLay0], fun x => by simp [D.py, PyData.depth], fun x y => by simp [D.py, PyData.eqv]⟩
theorem enL_one (h : En n f) : EnL n fun x => [f x] := ⟨fun x => by simp [D.flatA, h.flat], fun x => by simp [D.pyA, PyData.canLayAll0, h.lay], fun x => by simp [D.pyA, PyData.depthAll, h.depth], fun x y => by simp [D.pyA, PyData.eqvAll, h.eqv]⟩
theorem enL_cons (h : En n f) (k : EnL n G) : EnL n fun p : α × β => f p.1 :: G p.2 :=
  ⟨fun x => by simp [D.flatA, h.flat, k.flat], fun x => by simp [D.pyA, PyData.canLayAll0, h.lay, k.lay], fun x => by
    have := h.depth x.1
    have := k.depth x.2
    simp only [D.pyA, PyData.depthAll]; omega, fun x y => by simp [D.pyA, PyData.eqvAll, h.eqv, k.eqv, Prod.ext_iff]⟩
theorem en_tup (h : EnL n F) : En (n + 1) fun x => D.tup (F x) :=
  ⟨fun x => by simp [D.flat, h.flat], fun x => by simp [D.py, PyData.canLay0, h.lay], fun x => by
    have := h.depth x
    simp only [D.py, PyData.depth]; omega, fun x y => by simp [D.py, PyData.eqv, h.eqv]⟩
theorem eqvAll_map (h : En n f) : ∀ xs ys : List α, PyData.eqvAll ((xs.map f).map D.py) ((ys.map f).map D.py) = true ↔ xs = ys
  | [], [] => by simp [PyData.eqvAll]
  | [], y :: ys => by simp [PyData.eqvAll]
  | x :: xs, [] => by simp [PyData.eqvAll]
  | x :: xs, y :: ys => by
    have ih := eqvAll_map h xs ys
    simp only [List.map_cons, PyData.eqvAll, Bool.and_eq_true, h.eqv, ih, List.cons.injEq]
theorem en_lst (h : En n f) : En (n + 1) fun xs : List α => D.lst (xs.map f) :=
  ⟨fun xs => by simp only [D.flat, flatA_all, List.all_map, List.all_eq_true]; exact fun x _ => h.flat x,
    fun xs => by simp only [D.py, PyData.canLay0, pyA_map, lay_all, List.all_map, List.all_eq_true]; exact fun x _ => h.lay x,
    fun xs => by
      have z := depth_all ((xs.map f).map D.py) n fun y hy => by
        obtain ⟨d, hd, rfl⟩ := List.mem_map.mp hy
        obtain ⟨x, hx, rfl⟩ := List.mem_map.mp hd
        exact h.depth x
      simp only [D.py, PyData.depth, pyA_map]; omega,
    fun xs ys => by simp only [D.py, PyData.eqv, pyA_map]; exact eqvAll_map h xs ys⟩
end
def dOpt {α : Type} (f : α → D) : Option α → D
  | none => .non
  | some x => f x
theorem en_opt {α : Type} {n : Nat} {f : α → D} (h : En n f) (hn : ∀ x, PyData.eqv .none (f x).py = false ∧ PyData.eqv (f x).py .none = false) : En n (dOpt f) :=
  ⟨fun o => by cases o <;> simp [dOpt, D.flat, h.flat], fun o => by cases o <;> simp [dOpt, D.py, PyData.canLay0, h.lay], fun o => by cases o <;> simp [dOpt, D.py, PyData.depth, h.depth], fun o q => by
    cases o with
    | none =>
      cases q with
      | none => simp [dOpt, D.py, PyData.eqv]
      | some y => simp [dOpt, D.py, (hn y).1]
    | some x =>
      cases q with
      | none => simp [dOpt, D.py, (hn x).2]
      | some y => simp [dOpt, h.eqv]⟩
theorem isNon_opt {α : Type} {f : α → D} (hn : ∀ x, (f x).isNon = false) (o : Option α) : (dOpt f o).isNon = o.isNone := by
  cases o with
  | none => rfl
  | some x => exact hn x
end Dl

/-! ### list(reversed(a list)), at the library's level -/
namespace RT
open PySem PySem.Spec PySem.W PyProof.Rows PySem.Calls
section
variable {prog : Program} {w : World} {A : Around} {E : Value → Shared → Prop} {s : Shared}
end
end RT
namespace Dl
open PySem PySem.Spec PyProof.Rows L2
def cutD' {α : Type} (xs : List α) (lo hi : Option Int) : List α := (xs.drop (HT.sIx xs.length 0 lo)).take (HT.sIx xs.length xs.length hi - HT.sIx xs.length 0 lo)
theorem cutD_map {α : Type} (xs : List α) (f : α → D) (lo hi : Option Int) : cutD (xs.map f) lo hi = (cutD' xs lo hi).map f := by
  unfold cutD cutD'
  rw [List.length_map, ← List.map_drop, ← List.map_take]
section
variable {X : Cx} {kx : XD} {ρ ρ' ρ'' : Ro} {M M' : Mem} {P : Out → Mem → Prop} {pos p : Pos} {tg a b c e : Expr} {es : List Expr} {x y z : D} {f : Str} {α : Type} {xs : List α}
/-- a < b < c, of numbers -/
theorem dv_chain {op op' : CmpOp} {g g' : Int → Int → Bool} {i j k : Int} (ho : OpR X (compareOp op) (rI0 fun i j => .bl (g i j))) (ho' : OpR X (compareOp op') (rI0 fun i j => .bl (g' i j))) (ha : DV X kx a ρ M (.int i)) (hb : DV X kx b ρ M (.int j)) (hc : DV X kx c ρ M (.int k))
    (hm : lastMarks [op, op'] [b, c] = false := by with_unfolding_all rfl) : DV X kx (.Compare a [op, op'] [b, c] pos) ρ M (.bl (g i j && g' j k)) := fun σ H H0 t s W tk hx Q q =>
  sE.by (pe_chain ho ho' (pe_s a) (pe_s b) (pe_s c) hm) (ha σ H H0 t s W tk hx _ fun v H1 H01 p1 r1 => hb σ H1 H01 (t.pu p1) (s.mo p1.e0) W tk (hx.pu p1) _ fun u H2 H02 p2 r2 => by
    cases r1; cases r2
    have p12 := p1.trans p2
    refine ⟨i, j, rfl, rfl, g i j, rfl, ?_⟩
    cases hg : g i j with
    | true => exact iteT (hc σ H2 H02 (t.pu p12) (s.mo p12.e0) W tk (hx.pu p12) _ fun w H3 H03 p3 r3 => by cases r3; exact ⟨j, k, rfl, rfl, by rw [hg, Bool.true_and] at q; exact q _ H3 H03 (p12.trans p3) (.bl _)⟩)
    | false => exact iteF (by rw [hg, Bool.false_and] at q; exact q _ H2 H02 p12 (.bl _)))
theorem dt_chain {op op' : CmpOp} {g g' : Int → Int → Bool} {i j k : Int} (ho : OpR X (compareOp op) (rI0 fun i j => .bl (g i j))) (ho' : OpR X (compareOp op') (rI0 fun i j => .bl (g' i j))) (ha : DV X kx a ρ M (.int i)) (hb : DV X kx b ρ M (.int j)) (hc : DV X kx c ρ M (.int k))
    (hm : lastMarks [op, op'] [b, c] = false := by with_unfolding_all rfl) : DT X kx (.Compare a [op, op'] [b, c] pos) ρ M (g i j && g' j k) := fun σ H H0 t s W tk hx Q q =>
  sT.by (pt_chain ho ho' (pe_s a) (pe_s b) (pe_s c) hm) (ha σ H H0 t s W tk hx _ fun v H1 H01 p1 r1 => hb σ H1 H01 (t.pu p1) (s.mo p1.e0) W tk (hx.pu p1) _ fun u H2 H02 p2 r2 => by
    cases r1; cases r2
    have p12 := p1.trans p2
    refine ⟨i, j, rfl, rfl, g i j, rfl, ?_⟩
    cases hg : g i j with
    | true => exact iteT (hc σ H2 H02 (t.pu p12) (s.mo p12.e0) W tk (hx.pu p12) _ fun w H3 H03 p3 r3 => by cases r3; exact ⟨j, k, rfl, rfl, _, rfl, by rw [hg, Bool.true_and] at q; exact q H3 H03 (p12.trans p3)⟩)
    | false => exact iteF ⟨false, rfl, by rw [hg, Bool.false_and] at q; exact q H2 H02 p12⟩)
end
end Dl

namespace Dl
open PySem PySem.Spec PyProof.Rows L2
section
variable {X : Cx} {kx : XD} {ρ ρ' ρ'' : Ro} {M M' : Mem} {P : Out → Mem → Prop} {pos p : Pos} {tg a b c e : Expr} {es : List Expr} {x y z : D} {f : Str} {α : Type} {xs ys : List α}
theorem dv_slM {g : α → D} {lo hi : Option Expr} {p2} {i j : Option Int} (ha : DV X kx a ρ M x) (hq : SeqL M x (xs.map g)) (hl : DO X kx lo ρ M i) (hh : DO X kx hi ρ M j) : DV X kx (.Subscript a (.Slice lo hi none p2) pos) ρ M (.lst ((cutD' xs i j).map g)) :=
  DV.is (dv_slS ha hq hl hh) (by rw [cutD_map])
theorem dv_lenM {g : α → D} (n : Bn X f (.builtin "len")) (ha : DV X kx e ρ M x) (h : SeqL M x (xs.map g)) (he : starEach [e] X.env = (false, eval e X.env) :: starEach [] X.env := by rfl) : DV X kx (.Call (.Name f p) [e] [] pos) ρ M (.int (xs.length : Int)) := by
  have h' : Seq M x (xs.map g) := by
    cases h with
    | lst _ => exact .lst _
    | scr _ => exact .scr _
    | adr q => exact .adr q
  have r := dv_len (pos := pos) (p := p) n ha h' he
  rw [List.length_map] at r
  exact r
theorem dv_catM {g : α → D} (ha : DV X kx a ρ M x) (hb : DV X kx b ρ M y) (h1 : SeqO M x (xs.map g)) (h2 : SeqO M y (ys.map g)) (hl : xs.length + ys.length ≤ sizeLine) : DV X kx (.BinOp a .Add b pos) ρ M (.lst ((xs ++ ys).map g)) := by
  rw [List.map_append]
  exact dv_cat ha hb h1 h2 (by rw [List.length_map, List.length_map]; exact hl)
end
/-! ### x = [.. for ..] -/
section
variable {X : Cx} {kx : XD} {ρ : Ro} {M : Mem} {P : Out → Mem → Prop} {pos spos py : Pos} {α : Type} {N : List Str} {sc csc : Scope} {k i : Nat} {y : Str} {tg e : Expr}
theorem ds1_setLc0 {own : List (Str × Nat)} {elt : Expr} {ifs : List Expr} {xs : List α} {enc : α → D} {cnd : α → Bool} {f : α → D} {d : D} (B : Bd X N sc k) (n : Ns X i y) (hi : DI X kx tg e ρ M (xs.map enc)) (ok : BlkOk N sc csc own) (hlen : xs.length < sizeLine)
    (h : ∀ x, x ∈ xs → LcB X N sc csc k own tg elt ifs ρ M (enc x) (cnd x) (f x)) (hd : D.lst (outs xs cnd f) = d) (hp : P (.nx (ρ.set i (some d))) M) (hyl : sc.names.lookup y = some .local := by rfl) (hk : sc.kind = .function := by rfl) (hl : (py.line == pos.line) = true := by rfl)
    (ha : (csc.names.any fun (n, k) => n == y && (k == .local || k == .cell)) = false := by rfl) (hs : ∀ x, foldedSetIterable e X.env x = pure x := by intro _; rfl) : DS1 X kx (.Assign [.Name y py] (.ListComp elt [⟨tg, e, ifs, 0⟩] csc pos) spos) ρ M P := fun σ H H0 t s W tk hx D c => by
  subst hd
  have hy2 : X.env.scope.names.lookup y = some .local := by rw [B.hsc]; exact hyl
  refine sS.by (ps_setLc (g := uG X csc tg) (tt := uT X csc ifs) (te := uE X csc elt) B.calm (by rw [B.hN]; exact B.hnd) n.get hy2 (sw_true (by rw [B.hsc]; exact hk) hy2 hl ha) (pi_s tg e) (by rw [B.hN, B.hsc]; exact ok) (fun s H C cl fp => ?_) (fun s H C cl fp => ?_) (fun s H C cl fp => ?_) hs) ?_
  · exact ⟨fun pins s' σ' H' v u Q' I r h => sG_iff.mp (h s H C cl fp) pins s' u I r⟩
  · exact ⟨fun pins s' σ' H' Q' I h => (by first | exact sTs_iff.mp (h s H C cl fp) pins s' I | exact sE_iff.mp (h s H C cl fp) pins s' I)⟩
  · exact ⟨fun pins s' σ' H' Q' I h => (by first | exact sTs_iff.mp (h s H C cl fp) pins s' I | exact sE_iff.mp (h s H C cl fp) pins s' I)⟩
  · refine lc_read (Q := fun x H1 => gName i x σ H1 D.nx) (cnd := cnd) (f := f) hi B hlen h t s tk hx fun w H' H0' g t' hw hk => ?_
    obtain ⟨H0s, sm, t2, r2, g2⟩ := t'.frz1 (i := 0) rfl
    have g3 := g.trans g2
    exact c.nx _ H' H0s _ M ⟨g3.e0, g3.e, g3.new, fun a ha => .inl ha, g3.there⟩ t2 ((s.mo g3.e0).set r2 i) hp
end
theorem cut_to {α : Type} (xs : List α) {i : Int} (h : 0 ≤ i) : cutD' xs none (some i) = xs.take i.toNat := by
  unfold cutD'
  have e : HT.sIx xs.length xs.length (some i) = min i.toNat xs.length := by
    rw [show (some i : Option Int) = some ((i.toNat : Nat) : Int) by rw [Int.toNat_of_nonneg h]]
    exact HT.sIx_nat _ _ _
  rw [HT.sIx_none, e, List.drop_zero, Nat.sub_zero]
  by_cases q : i.toNat ≤ xs.length
  · rw [Nat.min_eq_left q]
  · rw [Nat.min_eq_right (by omega), List.take_of_length_le (Nat.le_refl _), List.take_of_length_le (by omega)]
theorem big_of {i : Int} (h1 : -1000000000000000000000000000000000000000000000000000000000000000000000000000000000000000000 < i) (h2 : i < 1000000000000000000000000000000000000000000000000000000000000000000000000000000000000000000) : Big i :=
  ⟨Int.lt_of_le_of_lt (by decide +kernel) h1, Int.lt_of_lt_of_le h2 (by decide +kernel)⟩
end Dl

/-! what a def computes, as a plain function: it ends well, it raises, or it is out of what is promised -/
namespace Dl
open PySem PySem.Spec PyProof.Rows L2
inductive Ex (α : Type) where
  | ok (a : α) | exc (n : Str) (fs : List (Str × D)) | bad
section
variable {α β γ ρ : Type}
theorem Ex.ok_ne (a : α) : Ex.ok a ≠ .bad := fun h => by cases h
def Ex.get [Inhabited α] : Ex α → α
  | .ok a => a
  | _ => default
open Classical in
noncomputable def gd (p : Prop) (m : Ex α) : Ex α := if p then m else .bad
def bindP (m : Ex α) (k : α → Ex β) : Ex β := match m with
  | .ok a => k a
  | _ => .bad
def bindX (m : Ex α) (k : α → Ex β) : Ex β := match m with
  | .ok a => k a
  | .exc n fs => .exc n fs
  | .bad => .bad
def letE (a : α) (k : α → β) : β := k a
def jpE (k : α) (f : α → β) : β := f k
def someE (o : Option α) : Ex α := match o with
  | some a => .ok a
  | none => .bad
def andE (a : Bool) (m : Ex Bool) : Ex Bool := if a = true then m else .ok false
def orE (a : Bool) (m : Ex Bool) : Ex Bool := if a = true then .ok true else m
def ixE (xs : List α) (i : Int) : Ex α := if 0 ≤ i then someE xs[i.toNat]? else if 0 ≤ i + xs.length then someE xs[(i + xs.length).toNat]? else .bad
def foldE (f : β → α → Ex β) : β → List α → Ex β
  | z, [] => .ok z
  | z, x :: xs => bindX (f z x) fun z => foldE f z xs
inductive Ct (β ρ : Type) where
  | nx (z : β) | bk (z : β) | rt (r : ρ)
def loopE (f : β → α → Ex (Ct β ρ)) : β → List α → Ex (Ct β ρ)
  | z, [] => .ok (.nx z)
  | z, x :: xs => bindX (f z x) fun c => match c with
    | .nx z => loopE f z xs
    | .bk z => .ok (.nx z)
    | .rt r => .ok (.rt r)
/-- behind a loop -/
def ctE (c : Ct β ρ) (k : β → γ) (r : ρ → γ) : γ := match c with
  | .nx z => k z
  | .bk z => k z
  | .rt x => r x
def whileE (n : Nat) (c : β → Ex Bool) (f : β → Ex β) (z : β) : Ex β := match n with
  | 0 => .bad
  | n + 1 => bindP (c z) fun b => if b = true then bindX (f z) fun z => whileE n c f z else .ok z
def compE (c : α → Ex Bool) (f : α → Ex β) : List α → Ex (List β)
  | [] => .ok []
  | x :: xs => bindP (c x) fun b => if b = true then bindP (f x) fun y => bindP (compE c f xs) fun ys => .ok (y :: ys) else compE c f xs
/-! ### for the mathematics -/
theorem gd_ok {p : Prop} {m : Ex α} (h : p) : gd p m = m := by unfold gd; rw [if_pos h]
theorem bindP_ok {a : α} {k : α → Ex β} : bindP (.ok a) k = k a := rfl
theorem bindX_ok {a : α} {k : α → Ex β} : bindX (.ok a) k = k a := rfl
theorem andE_t {m : Ex Bool} : andE true m = m := rfl
theorem foldE_cons {f : β → α → Ex β} {z : β} {x : α} {xs : List α} : foldE f z (x :: xs) = bindX (f z x) fun z => foldE f z xs := rfl
theorem ixE_nat {xs : List α} {i : Int} {x : α} (h0 : 0 ≤ i) (h : xs[i.toNat]? = some x) : ixE xs i = .ok x := by unfold ixE; rw [if_pos h0, h]; rfl
theorem ixE_neg {xs : List α} {i : Int} {x : α} (h0 : i < 0) (h1 : 0 ≤ i + xs.length) (h : xs[(i + xs.length).toNat]? = some x) : ixE xs i = .ok x := by unfold ixE; rw [if_neg (by omega), if_pos h1, h]; rfl
/-- a loop by an invariant -/
theorem foldE_inv {f : β → α → Ex β} (J : Nat → β → Prop) : ∀ (xs : List α) (i : Nat) (z : β), J i z → (∀ j z x, xs[j]? = some x → J (i + j) z → ∃ z', f z x = .ok z' ∧ J (i + j + 1) z') → ∃ z', foldE f z xs = .ok z' ∧ J (i + xs.length) z'
  | [], i, z, h, _ => ⟨z, rfl, h⟩
  | x :: xs, i, z, h, hs => by
    obtain ⟨z1, e1, h1⟩ := hs 0 z x rfl h
    obtain ⟨z2, e2, h2⟩ := foldE_inv J xs (i + 1) z1 h1 fun j z y hy hj => by
      have e : i + 1 + j = i + (j + 1) := by omega
      rw [e] at hj ⊢
      exact hs (j + 1) z y hy hj
    refine ⟨z2, by rw [foldE_cons, e1]; exact e2, ?_⟩
    rw [List.length_cons, show i + (xs.length + 1) = i + 1 + xs.length by omega]
    exact h2
theorem foldE_inv0 {f : β → α → Ex β} (J : Nat → β → Prop) (xs : List α) (z : β) (h0 : J 0 z) (h : ∀ j z x, xs[j]? = some x → J j z → ∃ z', f z x = .ok z' ∧ J (j + 1) z') : ∃ z', foldE f z xs = .ok z' ∧ J xs.length z' := by
  have r := foldE_inv J xs 0 z h0 (fun j z x hx hj => by rw [Nat.zero_add] at hj ⊢; exact h j z x hx hj)
  rw [Nat.zero_add] at r
  exact r
theorem loopE_cons {f : β → α → Ex (Ct β ρ)} {z : β} {x : α} {xs : List α} : loopE f z (x :: xs) = bindX (f z x) fun c => match c with
    | .nx z => loopE f z xs
    | .bk z => .ok (.nx z)
    | .rt r => .ok (.rt r) := rfl
theorem loopE_inv {f : β → α → Ex (Ct β ρ)} (J : Nat → β → Prop) : ∀ (xs : List α) (i : Nat) (z : β), J i z → (∀ j z x, xs[j]? = some x → J (i + j) z → ∃ z', f z x = .ok (.nx z') ∧ J (i + j + 1) z') → ∃ z', loopE f z xs = .ok (.nx z') ∧ J (i + xs.length) z'
  | [], i, z, h, _ => ⟨z, rfl, h⟩
  | x :: xs, i, z, h, hs => by
    obtain ⟨z1, e1, h1⟩ := hs 0 z x rfl h
    obtain ⟨z2, e2, h2⟩ := loopE_inv J xs (i + 1) z1 h1 fun j z y hy hj => by
      have e : i + 1 + j = i + (j + 1) := by omega
      rw [e] at hj ⊢
      exact hs (j + 1) z y hy hj
    refine ⟨z2, by rw [loopE_cons, e1]; exact e2, ?_⟩
    rw [List.length_cons, show i + (xs.length + 1) = i + 1 + xs.length by omega]
    exact h2
theorem loopE_inv0 {f : β → α → Ex (Ct β ρ)} (J : Nat → β → Prop) (xs : List α) (z : β) (h0 : J 0 z) (h : ∀ j z x, xs[j]? = some x → J j z → ∃ z', f z x = .ok (.nx z') ∧ J (j + 1) z') : ∃ z', loopE f z xs = .ok (.nx z') ∧ J xs.length z' := by
  have r := loopE_inv J xs 0 z h0 (fun j z x hx hj => by rw [Nat.zero_add] at hj ⊢; exact h j z x hx hj)
  rw [Nat.zero_add] at r
  exact r
theorem compE_eq {c : α → Ex Bool} {f : α → Ex β} {p : α → Bool} {g : α → β} : ∀ (xs : List α), (∀ x ∈ xs, c x = .ok (p x)) → (∀ x ∈ xs, p x = true → f x = .ok (g x)) → compE c f xs = .ok ((xs.filter p).map g)
  | [], _, _ => rfl
  | x :: xs, h1, h2 => by
    unfold compE
    rw [h1 x (List.mem_cons_self ..), bindP_ok, compE_eq (p := p) (g := g) xs (fun y hy => h1 y (List.mem_cons_of_mem _ hy)) fun y hy => h2 y (List.mem_cons_of_mem _ hy)]
    cases hp : p x with
    | true => rw [if_pos rfl, h2 x (List.mem_cons_self ..) hp, List.filter_cons, if_pos hp]; rfl
    | false => rw [if_neg (by decide), List.filter_cons, if_neg (by rw [hp]; decide)]
theorem compE_map {f : α → Ex β} {g : α → β} (xs : List α) (h : ∀ x ∈ xs, f x = .ok (g x)) : compE (fun _ => .ok true) f xs = .ok (xs.map g) := by
  have r := compE_eq (p := fun _ => true) (g := g) (c := fun _ => .ok true) xs (fun _ _ => rfl) fun x hx _ => h x hx
  rw [List.filter_eq_self.mpr (fun _ _ => rfl)] at r
  exact r
/-! ### for the walk -/
theorem gd_out {p : Prop} {m out : Ex α} (h : gd p m = out) (ne : out ≠ .bad) : p ∧ m = out := by
  unfold gd at h
  split at h
  · exact ⟨‹p›, h⟩
  · exact absurd h.symm ne
theorem bindP_out {m : Ex α} {k : α → Ex β} {out : Ex β} (h : bindP m k = out) (ne : out ≠ .bad) : ∃ a, m = .ok a ∧ k a = out := by
  cases m with
  | ok a => exact ⟨a, rfl, h⟩
  | exc n fs => exact absurd h.symm ne
  | bad => exact absurd h.symm ne
theorem bindX_out {m : Ex α} {k : α → Ex β} {out : Ex β} (h : bindX m k = out) (ne : out ≠ .bad) : (∃ a, m = .ok a ∧ k a = out) ∨ ∃ n fs, m = .exc n fs ∧ out = .exc n fs := by
  cases m with
  | ok a => exact .inl ⟨a, rfl, h⟩
  | exc n fs => exact .inr ⟨n, fs, rfl, h.symm⟩
  | bad => exact absurd h.symm ne
theorem letE_out {a : α} {k : α → β} {out : β} (h : letE a k = out) : ∃ x, x = a ∧ k x = out := ⟨a, rfl, h⟩
theorem jpE_out {k : α} {f : α → β} {out : β} (h : jpE k f = out) : ∃ x, x = k ∧ f x = out := ⟨k, rfl, h⟩
theorem some_out {o : Option α} {v : α} (h : someE o = .ok v) : o = some v := by
  cases o with
  | none => cases h
  | some a => cases h; rfl
theorem ite_t {c : Bool} {A B out : Ex α} (h : (if c = true then A else B) = out) (e : c = true) : A = out := by rw [if_pos e] at h; exact h
theorem ite_f {c : Bool} {A B out : Ex α} (h : (if c = true then A else B) = out) (e : c = false) : B = out := by rw [if_neg (by rw [e]; decide)] at h; exact h
theorem compE_out [Inhabited β] {c : α → Ex Bool} {f : α → Ex β} : ∀ {xs : List α} {ys : List β}, compE c f xs = .ok ys →
    ys = (xs.filter fun x => (c x).get).map (fun x => (f x).get) ∧ ∀ x ∈ xs, ∃ b, c x = .ok b ∧ (b = true → ∃ v, f x = .ok v)
  | [], ys, h => by cases h; exact ⟨rfl, fun _ z => absurd z (by simp)⟩
  | x :: xs, ys, h => by
    unfold compE at h
    obtain ⟨b, hb, h⟩ := bindP_out h (Ex.ok_ne _)
    cases b with
    | true =>
      obtain ⟨y, hy, h⟩ := bindP_out (ite_t h rfl) (Ex.ok_ne _)
      obtain ⟨zs, hz, h⟩ := bindP_out h (Ex.ok_ne _)
      cases h
      obtain ⟨e, r⟩ := compE_out hz
      refine ⟨?_, fun z hz => ?_⟩
      · have cx : (c x).get = true := by rw [hb]; rfl
        rw [List.filter_cons, if_pos cx, List.map_cons, ← e, hy]; rfl
      · rcases List.mem_cons.mp hz with rfl | hz
        · exact ⟨true, hb, fun _ => ⟨y, hy⟩⟩
        · exact r z hz
    | false =>
      obtain ⟨e, r⟩ := compE_out (ite_f h rfl)
      refine ⟨?_, fun z hz => ?_⟩
      · have cx : ¬ (c x).get = true := by rw [hb]; exact fun z => by cases z
        rw [List.filter_cons, if_neg cx]
        exact e
      · rcases List.mem_cons.mp hz with rfl | hz
        · exact ⟨false, hb, fun z => by cases z⟩
        · exact r z hz
theorem ixE_out {xs : List α} {i : Int} {x : α} (h : ixE xs i = .ok x) (f : α → D) : atI (xs.map f) i = some (f x) := by
  unfold ixE at h
  by_cases c : 0 ≤ i
  · rw [if_pos c] at h
    exact atI_map c (some_out h)
  · rw [if_neg c] at h
    by_cases c2 : 0 ≤ i + xs.length
    · rw [if_pos c2] at h
      have e := some_out h
      have l := (List.getElem?_eq_some_iff.mp e).1
      have r := atI_neg (xs := xs) (f := f) (i := i) x (by omega) (by omega)
      rw [r, List.getD_eq_getElem?_getD, e]; rfl
    · rw [if_neg c2] at h; cases h
end
/-! ### what a def's walk ends with -/
def kxE (mg : Str → Option Value) {α : Type} (out : Ex α) : XD := fun cls fs _ _ => ∃ n, out = .exc n fs ∧ mg n = some cls
def retQ {α : Type} (enc : α → D) (out : Ex α) : Out → Mem → Prop
  | .rt d, _ => ∃ r, out = .ok r ∧ d = enc r
  | .nx _, _ => ∃ r, out = .ok r ∧ D.non = enc r
  | .bk _, _ => False
  | .ct _, _ => False
abbrev spE (K : Frag) (mg : Str → Option Value) {α β : Type} (args : α → List D) (F : α → Ex β) (enc : β → D) : Sp :=
  spP K args (fun q => F q ≠ .bad) (fun q d => ∃ r, F q = .ok r ∧ d = enc r) (fun q cls fs => ∃ n, F q = .exc n fs ∧ mg n = some cls)
section
variable {P : Program} {w : World} {K : Frag} {mg : Str → Option Value} {base : Heap} {α β : Type}
theorem fn_e {x qual : Str} {st : Stmt} {f : Addr} {fd : FuncData} {N ps : List Str} {k : Nat} {args : α → List D} {F : α → Ex β} {enc : β → D} (Fu : Fun K x qual st f fd) (S : FnScope N ps (defScope st)) (hl : ∀ a, (args a).length = ps.length)
    (body : ∀ X : Cx, X.prog = P → X.w = w → X.K = K → X.mg = mg → X.base = base → Bd X N (defScope st) k → Bf X → ∀ a out, F a = out → out ≠ .bad → DS X (kxE mg out) (defBody st) (startD N (args a)) [] (retQ enc out)) :
    FnOk P w K mg base (Dl.CX P w) (k + 1) f fd ps (spE K mg args F enc) :=
  fn_p Fu S hl fun X e1 e2 e3 e4 e5 B Fz a ha => (body X e1 e2 e3 e4 e5 B Fz a _ rfl ha).imp fun o m h => by
    cases o with
    | nx ρ => exact h
    | bk ρ => exact h
    | ct ρ => exact h
    | rt d => exact h
end
section
variable {X : Cx} {kx kx' : XD} {ρ ρ' ρ'' : Ro} {M M' : Mem} {P : Out → Mem → Prop} {pos p : Pos} {tg a b c e : Expr} {es : List Expr} {x y z : D} {k l : Bool}
theorem Hx.onX {W : WX} {H0 H : Hp} (h : Hx X W H0 H M kx) (i : ∀ cls fs ρ M, kx' cls fs ρ M → kx cls fs ρ M) : Hx X W H0 H M kx' :=
  fun cls dd σ' H' H0' fs ρ' M' g t s xr q => h cls dd σ' H' H0' fs ρ' M' g t s xr (i _ _ _ _ q)
theorem DS.onX {sts : List Stmt} (h : DS X kx' sts ρ M P) (i : ∀ cls fs ρ M, kx' cls fs ρ M → kx cls fs ρ M) : DS X kx sts ρ M P :=
  fun σ H H0 t s W tk hx D c => h σ H H0 t s W tk (hx.onX i) D c
/-! loops -/
def foldQ {β : Type} (R : β → Ro) (Mf : β → Mem) (o : Ex β) : Out → Mem → Prop
  | .nx ρ, M => ∃ z, o = .ok z ∧ FgtL ρ (R z) ∧ M = Mf z
  | .ct ρ, M => ∃ z, o = .ok z ∧ FgtL ρ (R z) ∧ M = Mf z
  | .bk _, _ => False
  | .rt _, _ => False
theorem drop_get {α : Type} {xs : List α} {i : Nat} {x : α} (h : xs[i]? = some x) : xs.drop i = x :: xs.drop (i + 1) := by
  obtain ⟨h1, h2⟩ := List.getElem?_eq_some_iff.mp h
  rw [← h2]
  exact (List.drop_eq_getElem_cons h1)
theorem ds1_foldE {α β : Type} {xs : List α} {enc : α → D} {N : List Str} {sc : Scope} {k : Nat} {body : List Stmt} {f : β → α → Ex β} {st0 : β} {out : Ex β} (B : Bd X N sc k) (R : β → Ro) (Mf : β → Mem) (hF : foldE f st0 xs = out) (hne : out ≠ .bad)
    (hi : DI X kx tg e ρ M (xs.map enc)) (h0 : FgtL ρ (R st0)) (hM : M = Mf st0)
    (hs : ∀ st x o, x ∈ xs → f st x = o → o ≠ .bad → ∃ ts ρ2, DG X tg ts (enc x) (R st) ρ2 ∧ DS X (kxE X.mg o) body ρ2 (Mf st) (foldQ R Mf o))
    (hd : ∀ st', out = .ok st' → P (.nx (R st')) (Mf st')) (hx : ∀ cls fs ρ' M', kxE X.mg out cls fs ρ' M' → kx cls fs ρ' M')
    (hP : ∀ ρ1 ρ2 M1, Fgt ρ1 ρ2 → P (.nx ρ2) M1 → P (.nx ρ1) M1) (hf : ∀ x, foldedSetIterable e X.env x = pure x := by intro _; rfl) : DS1 X kx (.For tg e body [] pos) ρ M P :=
  ds1_forT B (fun i ρ1 M1 => ∃ st, FgtL ρ1 (R st) ∧ M1 = Mf st ∧ foldE f st (xs.drop i) = out) hi ⟨st0, h0, hM, hF⟩
    (fun i x ρ1 M1 hxi ⟨st, fg, m, hE⟩ => by
      subst m
      rw [drop_get hxi, foldE_cons] at hE
      have nb : f st x ≠ .bad := fun z => hne (by rw [← hE, z]; rfl)
      obtain ⟨ts, ρ2, g, b⟩ := hs st x _ (List.mem_of_getElem? hxi) rfl nb
      refine ⟨ts, ρ2, fun σ H H0 v hs s r Q q => g σ H H0 v hs (s.fgt fg.fgt) r Q q, (b.onX fun cls fs ρ' M' ⟨n, e1, e2⟩ => hx _ _ ρ' M' ⟨n, by rw [← hE, e1]; rfl, e2⟩).imp fun o m q => ?_⟩
      · cases o with
        | nx ρ =>
          obtain ⟨z, e1, e2, e3⟩ := q
          exact ⟨z, e2, e3, by rw [e1] at hE; exact hE⟩
        | ct ρ =>
          obtain ⟨z, e1, e2, e3⟩ := q
          exact ⟨z, e2, e3, by rw [e1] at hE; exact hE⟩
        | bk ρ => exact q.elim
        | rt d => exact q.elim)
    (fun ρ1 M1 ⟨st, fg, m, hE⟩ => by
      rw [List.drop_length] at hE
      subst m
      exact hP _ _ _ fg.fgt (hd st hE.symm)) hf
def loopQ {β γ : Type} (R : β → Ro) (Mf : β → Mem) (enr : γ → D) (o : Ex (Ct β γ)) : Out → Mem → Prop
  | .nx ρ, M => ∃ z, o = .ok (.nx z) ∧ FgtL ρ (R z) ∧ M = Mf z
  | .ct ρ, M => ∃ z, o = .ok (.nx z) ∧ FgtL ρ (R z) ∧ M = Mf z
  | .bk ρ, M => ∃ z, o = .ok (.bk z) ∧ FgtL ρ (R z) ∧ M = Mf z
  | .rt d, _ => ∃ r, o = .ok (.rt r) ∧ d = enr r
theorem ds1_loopE {α β γ : Type} {xs : List α} {enc : α → D} {enr : γ → D} {N : List Str} {sc : Scope} {k : Nat} {body : List Stmt} {f : β → α → Ex (Ct β γ)} {st0 : β} {out : Ex (Ct β γ)} (B : Bd X N sc k) (R : β → Ro) (Mf : β → Mem) (hF : loopE f st0 xs = out) (hne : out ≠ .bad)
    (hi : DI X kx tg e ρ M (xs.map enc)) (h0 : FgtL ρ (R st0)) (hM : M = Mf st0)
    (hs : ∀ st x o, x ∈ xs → f st x = o → o ≠ .bad → ∃ ts ρ2, DG X tg ts (enc x) (R st) ρ2 ∧ DS X (kxE X.mg o) body ρ2 (Mf st) (loopQ R Mf enr o))
    (hd : ∀ st', out = .ok (.nx st') → P (.nx (R st')) (Mf st')) (hr : ∀ r M', out = .ok (.rt r) → P (.rt (enr r)) M') (hx : ∀ cls fs ρ' M', kxE X.mg out cls fs ρ' M' → kx cls fs ρ' M')
    (hP : ∀ ρ1 ρ2 M1, Fgt ρ1 ρ2 → P (.nx ρ2) M1 → P (.nx ρ1) M1) (hf : ∀ x, foldedSetIterable e X.env x = pure x := by intro _; rfl) : DS1 X kx (.For tg e body [] pos) ρ M P :=
  ds1_forT B (fun i ρ1 M1 => ∃ st, FgtL ρ1 (R st) ∧ M1 = Mf st ∧ loopE f st (xs.drop i) = out) hi ⟨st0, h0, hM, hF⟩
    (fun i x ρ1 M1 hxi ⟨st, fg, m, hE⟩ => by
      subst m
      rw [drop_get hxi, loopE_cons] at hE
      have nb : f st x ≠ .bad := fun z => hne (by rw [← hE, z]; rfl)
      obtain ⟨ts, ρ2, g, b⟩ := hs st x _ (List.mem_of_getElem? hxi) rfl nb
      refine ⟨ts, ρ2, fun σ H H0 v hs s r Q q => g σ H H0 v hs (s.fgt fg.fgt) r Q q, (b.onX fun cls fs ρ' M' ⟨n, e1, e2⟩ => hx _ _ ρ' M' ⟨n, by rw [← hE, e1]; rfl, e2⟩).imp fun o m q => ?_⟩
      · cases o with
        | nx ρ =>
          obtain ⟨z, e1, e2, e3⟩ := q
          exact ⟨z, e2, e3, by rw [e1] at hE; exact hE⟩
        | ct ρ =>
          obtain ⟨z, e1, e2, e3⟩ := q
          exact ⟨z, e2, e3, by rw [e1] at hE; exact hE⟩
        | bk ρ =>
          obtain ⟨z, e1, e2, e3⟩ := q
          rw [e1] at hE
          subst e3
          exact hP _ _ _ e2.fgt (hd z hE.symm)
        | rt d =>
          obtain ⟨r, e1, e2⟩ := q
          rw [e1] at hE
          subst e2
          exact hr r m hE.symm)
    (fun ρ1 M1 ⟨st, fg, m, hE⟩ => by
      rw [List.drop_length] at hE
      subst m
      exact hP _ _ _ fg.fgt (hd st hE.symm)) hf
/-! parts that are looked at only if need be -/
theorem dv_orE {rest : List Expr} {m : Ex Bool} {v : Bool} (h : orE k m = .ok v) (h1 : DV X kx a ρ M (.bl k)) (h2 : k = false → ∀ v, m = .ok v → DV X kx (.BoolOp .Or (b :: rest) pos) ρ M (.bl v)) : DV X kx (.BoolOp .Or (a :: b :: rest) pos) ρ M (.bl v) := by
  cases k with
  | false =>
    have h' : m = .ok v := h
    have r := dv_or (l := v) h1 fun e => h2 e v h'
    rw [Bool.false_or] at r
    exact r
  | true =>
    cases h
    have r := dv_or (l := true) (b := b) (rest := rest) (pos := pos) h1 fun e => by cases e
    exact r
theorem dw_andE {rest : List Expr} {m : Ex Bool} {v : Bool} (h : andE k m = .ok v) (h1 : DT X kx a ρ M k) (h2 : k = true → ∀ v, m = .ok v → DW X kx (.BoolOp .And (b :: rest) pos) ρ M v) : DW X kx (.BoolOp .And (a :: b :: rest) pos) ρ M v := by
  cases k with
  | true => exact dw_and h1 fun e => h2 e v h
  | false => cases h; exact dw_and (l := false) h1 fun e => by cases e
theorem dw_orE {rest : List Expr} {m : Ex Bool} {v : Bool} (h : orE k m = .ok v) (h1 : DT X kx a ρ M k) (h2 : k = false → ∀ v, m = .ok v → DW X kx (.BoolOp .Or (b :: rest) pos) ρ M v) : DW X kx (.BoolOp .Or (a :: b :: rest) pos) ρ M v := by
  cases k with
  | false =>
    have h' : m = .ok v := h
    have r := dw_or (l := v) h1 fun e => h2 e v h'
    rw [Bool.false_or] at r
    exact r
  | true =>
    cases h
    have r := dw_or (l := true) (b := b) (rest := rest) (pos := pos) h1 fun e => by cases e
    exact r
/-! == of texts, of truths -/
theorem r2_eqs {i j : Str} : R2D X.K rEq M (.str i) (.str j) (.bl (decide (i = j))) := fun v u H H0 t r1 r2 Q q => by
  cases r1; cases r2
  refine ⟨rfl, ?_⟩
  have e : decide (V.str i = V.str j) = decide (i = j) := decide_eq_decide.mpr ⟨fun h => by injection h, fun h => by rw [h]⟩
  rw [e]
  exact q _ H H0 (Pu.refl t.ex) (.bl _)
theorem r2_nes {i j : Str} : R2D X.K rNe M (.str i) (.str j) (.bl (!decide (i = j))) := fun v u H H0 t r1 r2 Q q => by
  cases r1; cases r2
  refine ⟨rfl, ?_⟩
  have e : decide (V.str i = V.str j) = decide (i = j) := decide_eq_decide.mpr ⟨fun h => by injection h, fun h => by rw [h]⟩
  rw [e]
  exact q _ H H0 (Pu.refl t.ex) (.bl _)
section
variable {s t : Str} {u v : Bool}
theorem dv_eqs (ha : DV X kx a ρ M (.str s)) (hb : DV X kx b ρ M (.str t)) : DV X kx (.Compare a [.Eq] [b] pos) ρ M (.bl (decide (s = t))) := dv_cmp op_eq r2_eqs ha hb (nomark _)
theorem dv_nes (ha : DV X kx a ρ M (.str s)) (hb : DV X kx b ρ M (.str t)) : DV X kx (.Compare a [.NotEq] [b] pos) ρ M (.bl (!decide (s = t))) := dv_cmp op_ne r2_nes ha hb (nomark _)
theorem dt_eqs (ha : DV X kx a ρ M (.str s)) (hb : DV X kx b ρ M (.str t)) : DT X kx (.Compare a [.Eq] [b] pos) ρ M (decide (s = t)) := dt_cmp op_eq r2_eqs ha hb (nomark _)
theorem dt_nes (ha : DV X kx a ρ M (.str s)) (hb : DV X kx b ρ M (.str t)) : DT X kx (.Compare a [.NotEq] [b] pos) ρ M (!decide (s = t)) := dt_cmp op_ne r2_nes ha hb (nomark _)
end
/-! None of an Option -/
theorem dv_isNO {α : Type} {f : α → D} {o : Option α} {j p2} (hn : ∀ x, (f x).isNon = false) (h : DV X kx a ρ M (dOpt f o)) : DV X kx (.Compare a [.Is] [.Constant .none j p2] pos) ρ M (.bl o.isNone) := by
  have r := dv_isN (pos := pos) (j := j) (p2 := p2) h; rw [isNon_opt hn] at r; exact r
theorem dt_notNO {α : Type} {f : α → D} {o : Option α} {j p2} (hn : ∀ x, (f x).isNon = false) (h : DV X kx a ρ M (dOpt f o)) : DT X kx (.Compare a [.IsNot] [.Constant .none j p2] pos) ρ M (!o.isNone) := by
  have r := dt_notN (pos := pos) (j := j) (p2 := p2) h; rw [isNon_opt hn] at r; exact r
/-! x in the place of its let -/
theorem dv_isE {α : Type} {enc : α → D} {t v : α} (h : DV X kx e ρ M (enc t)) (hv : v = t) : DV X kx e ρ M (enc v) := hv ▸ h
theorem dv_un {α : Type} {enc : α → D} {o : Option α} {v : α} (h : DV X kx e ρ M (dOpt enc o)) (hv : someE o = .ok v) : DV X kx e ρ M (enc v) := by
  rw [some_out hv] at h; exact h
theorem coeL {α β : Type} {f : α → β} {g : β → D} {h : α → D} (xs : List α) (e : ∀ x, h x = g (f x)) : D.lst (xs.map h) = D.lst ((xs.map f).map g) := by
  rw [List.map_map]; exact congrArg D.lst (List.map_congr_left fun x _ => e x)
theorem ds1_appM {α : Type} {g : α → D} {o e : Expr} {w : Addr} {v : α} {xs : List α} {apos cpos spos : Pos} (i : Nat) (ho : DV X kx o ρ M (.adr w)) (hv : DV X kx e ρ M (g v)) (hm : M[i]? = some (w, .lst (xs.map g))) (hl : xs.length ≤ 100000) (hk : P (.nx ρ) (M.set i (w, .lst ((xs ++ [v]).map g))))
    (hb : attributeBase o "append" X.env (eval o X.env) = eval o X.env := by rfl)
    (hfew : ((backTo cpos (starEach [e] X.env)).all (fun x => !x.1) && (backToKw cpos (keywordEach [] X.env)).all (fun x => x.1.isSome) && decide ([e].length + ([] : List Keyword).length + (if ([] : List Keyword).isEmpty then 0 else 1) < 30)) = true := by rfl)
    (hline : (apos.endLine == cpos.line) = true := by rfl) (hs : starEach [e] X.env = (false, eval e X.env) :: starEach [] X.env := by rfl)
    (hs2 : swapsWith (.Call (.Attribute o "append" apos) [e] [] cpos) none spos.line X.env = pure false := by rfl) : DS1 X kx (.Expr (.Call (.Attribute o "append" apos) [e] [] cpos) spos) ρ M P := by
  have hl' : (xs.map g).length < sizeLine := by rw [List.length_map]; exact sz_lt hl
  rw [List.map_append] at hk
  exact ds1_app (i := i) ho hv hm hl' hk hb hfew hline hs hs2
/-! ways that meet again -/
def joinQ {ι β γ : Type} (R : ι → β → Ro) (Mf : ι → β → Mem) (kf : β → Ex γ) (out : Ex γ) (P : Out → Mem → Prop) : Out → Mem → Prop
  | .nx ρ, M => ∃ a z, kf z = out ∧ FgtL ρ (R a z) ∧ M = Mf a z
  | o, M => P o M
theorem ds1_ifJ {ι β γ : Type} {A B : List Stmt} {kf : β → Ex γ} {out : Ex γ} (R : ι → β → Ro) (Mf : ι → β → Mem) (hc : DT X kx c ρ M k) (h1 : k = true → DS X kx A ρ M (joinQ R Mf kf out P)) (h2 : k = false → DS X kx B ρ M (joinQ R Mf kf out P))
    (hk : ∀ a z, kf z = out → P (.nx (R a z)) (Mf a z)) (hP : ∀ ρ1 ρ2 M1, Fgt ρ1 ρ2 → P (.nx ρ2) M1 → P (.nx ρ1) M1) : DS1 X kx (.If c A B pos) ρ M P := by
  have i : ∀ o m, joinQ R Mf kf out P o m → P o m := fun o m q => by
    cases o with
    | nx ρ1 =>
      obtain ⟨a, z, e1, e2, e3⟩ := q
      subst e3
      exact hP _ _ _ e2.fgt (hk a z e1)
    | bk ρ1 => exact q
    | ct ρ1 => exact q
    | rt d => exact q
  exact ds1_if hc (fun e => (h1 e).imp i) (fun e => (h2 e).imp i)
theorem join_nx {ι β γ : Type} {R : ι → β → Ro} {Mf : ι → β → Mem} {kf : β → Ex γ} {out : Ex γ} {P : Out → Mem → Prop} (a : ι) (z : β) (h : kf z = out) (f : FgtL ρ (R a z)) (m : M = Mf a z) : joinQ R Mf kf out P (.nx ρ) M := ⟨a, z, h, f, m⟩
theorem ret_mk {α : Type} {enc : α → D} {out : Ex α} {r : α} (h : .ok r = out) : retQ enc out (.rt (enc r)) M := ⟨r, h.symm, rfl⟩
theorem fall_mk {enc : Unit → D} {out : Ex Unit} (h : .ok () = out) (he : enc () = .non) : retQ enc out (.nx ρ) M := ⟨(), h.symm, he.symm⟩
theorem fold_nx {β : Type} {R : β → Ro} {Mf : β → Mem} {o : Ex β} {z : β} (h : .ok z = o) (f : FgtL ρ (R z)) (m : M = Mf z) : foldQ R Mf o (.nx ρ) M := ⟨z, h.symm, f, m⟩
theorem loop_nx {β γ : Type} {R : β → Ro} {Mf : β → Mem} {enr : γ → D} {o : Ex (Ct β γ)} {z : β} (h : .ok (.nx z) = o) (f : FgtL ρ (R z)) (m : M = Mf z) : loopQ R Mf enr o (.nx ρ) M := ⟨z, h.symm, f, m⟩
theorem loop_rt {β γ : Type} {R : β → Ro} {Mf : β → Mem} {enr : γ → D} {o : Ex (Ct β γ)} {r : γ} (h : .ok (.rt r) = o) : loopQ R Mf enr o (.rt (enr r)) M := ⟨r, h.symm, rfl⟩
theorem bindX_cut {α β : Type} {m : Ex α} {k : α → Ex β} {out : Ex β} (h : bindX m k = out) (ne : out ≠ .bad) : ∃ o, m = o ∧ o ≠ .bad ∧ bindX o k = out := ⟨m, rfl, fun z => ne (by rw [← h, z]; rfl), h⟩
theorem okE {α β : Type} {a : α} {k : α → Ex β} {out : Ex β} (h : bindX (.ok a) k = out) : k a = out := h
theorem nxE {α β ρ : Type} {a : α} {k : α → β} {r : ρ → β} {out : β} (h : ctE (.nx a) k r = out) : k a = out := h
theorem kx_exc {α : Type} {mg : Str → Option Value} {out : Ex α} {n : Str} {fs : List (Str × D)} {cls : Value} (h : .exc n fs = out) (e : mg n = some cls) : kxE mg out cls fs ρ M := ⟨n, h.symm, e⟩
/-! comprehensions -/
theorem lcb_E {β : Type} {cM : Ex Bool} {fM : Ex β} [Inhabited β] {ifs : List Expr} {elt : Expr} {enc : β → D} (hb : ∃ b, cM = .ok b ∧ (b = true → ∃ v, fM = .ok v)) (hc : ∀ b, cM = .ok b → DTs X kx ifs ρ M b) (hf : ∀ v, fM = .ok v → DV X kx elt ρ M (enc v)) :
    DTs X kx ifs ρ M cM.get ∧ (cM.get = true → DV X kx elt ρ M (enc fM.get)) := by
  obtain ⟨b, e, h⟩ := hb
  have g : cM.get = b := by rw [e]; rfl
  rw [g]
  refine ⟨hc b e, fun q => ?_⟩
  obtain ⟨v, hv⟩ := h q
  have gv : fM.get = v := by rw [hv]; rfl
  rw [gv]
  exact hf v hv
theorem outs_E {α β : Type} [Inhabited β] {xs : List α} {ys : List β} {c : α → Ex Bool} {f : α → Ex β} (enc : β → D) (h : ys = (xs.filter fun x => (c x).get).map (fun x => (f x).get)) : outs xs (fun x => (c x).get) (fun x => enc (f x).get) = ys.map enc := by
  rw [h, List.map_map]; rfl
theorem ds1_setLcE {α : Type} {N : List Str} {sc csc : Scope} {k i : Nat} {y : Str} {py spos : Pos} {own : List (Str × Nat)} {elt : Expr} {ifs : List Expr} {xs : List α} {enc : α → D} {cnd : α → Bool} {f : α → D} {ds : List D} (B : Bd X N sc k) (n : Ns X i y) (hi : DI X kx tg e ρ M (xs.map enc)) (ok : BlkOk N sc csc own) (hlen : xs.length < sizeLine)
    (h : ∀ x, x ∈ xs → LcB X N sc csc k own tg elt ifs ρ M (enc x) (cnd x) (f x)) (hd : outs xs cnd f = ds) (hp : P (.nx (ρ.set i (some (.lst ds)))) M) (hyl : sc.names.lookup y = some .local := by rfl) (hk : sc.kind = .function := by rfl) (hl : (py.line == pos.line) = true := by rfl)
    (ha : (csc.names.any fun (n, k) => n == y && (k == .local || k == .cell)) = false := by rfl) (hs : ∀ x, foldedSetIterable e X.env x = pure x := by intro _; rfl) : DS1 X kx (.Assign [.Name y py] (.ListComp elt [⟨tg, e, ifs, 0⟩] csc pos) spos) ρ M P :=
  ds1_setLc0 B n hi ok hlen h (by rw [hd]) hp hyl hk hl ha hs
theorem dv_lcE {α : Type} {N : List Str} {sc csc : Scope} {k : Nat} {own : List (Str × Nat)} {elt : Expr} {ifs : List Expr} {xs : List α} {enc : α → D} {cnd : α → Bool} {f : α → D} {ds : List D} (B : Bd X N sc k) (hi : DI X kx tg e ρ M (xs.map enc)) (ok : BlkOk N sc csc own) (hl : xs.length < sizeLine)
    (h : ∀ x, x ∈ xs → LcB X N sc csc k own tg elt ifs ρ M (enc x) (cnd x) (f x)) (hd : outs xs cnd f = ds) (hs : ∀ x, foldedSetIterable e X.env x = pure x := by intro _; rfl) : DV X kx (.ListComp elt [⟨tg, e, ifs, 0⟩] csc pos) ρ M (.lst ds) :=
  (dv_lc B hi ok hl h hs).is (by rw [hd])
/-! walks -/
def enumL {α : Type} (xs : List α) : List (Int × α) := ((List.range xs.length).zip xs).map fun q => (((q.1 : Nat) : Int), q.2)
/-- a global's number -/
theorem dv_gint {x : Str} {i : Int} {u : Value} (hg : Gl X x) (hm : X.mg x = some u) (r : RelV (.int i) u) (hd : (x == ("__debug__" : Str)) = false := by decide) : DV X kx (.Name x pos) ρ M (.int i) := fun σ H H0 t s W tk hx Q q =>
  sE.by (pe_glob hg hm r hd) (q _ H H0 (Pu.refl t.ex) (.int i))
/-- // by a positive number -/
def DivOk (j : Int) : Prop := 0 < j ∧ j < 2 ^ 300
def RngOk (i : Int) : Prop := -(2 ^ 62) ≤ i ∧ i < 2 ^ 62
def DivPOk (i j : Int) : Prop := CDivP i j
end
theorem fnok_imp {P : Program} {w : World} {K : Frag} {mg : Str → Option Value} {base : Heap} {CX : CXT} {k : Nat} {f : Addr} {fd : FuncData} {ps : List Str} {sp sp' : Sp} (g : FnOk P w K mg base CX k f fd ps sp) (h : ∀ vs H Q E, sp' vs H Q E → sp vs H Q E) : FnOk P w K mg base CX k f fd ps sp' := g.imp h
end Dl

/-! what a plain function hands back: small rules for its parts -/
namespace Dl
open PySem PySem.Spec PyProof.Rows L2
/-- it ends well, with a thing of which P holds -/
def Ret {α : Type} (e : Ex α) (P : α → Prop) : Prop := ∃ r, e = .ok r ∧ P r
section
variable {α β γ ρ : Type} {P : α → Prop} {Q : β → Prop}
theorem Ret.ok {a : α} (h : P a) : Ret (.ok a) P := ⟨a, rfl, h⟩
theorem Ret.of {e : Ex α} {a : α} (h : e = .ok a) : Ret e (fun r => r = a) := ⟨a, h, rfl⟩
theorem Ret.eq {e : Ex α} {a : α} (h : Ret e fun r => r = a) : e = .ok a := by
  obtain ⟨r, h, e⟩ := h; rw [h, e]
theorem Ret.imp {e : Ex α} {P' : α → Prop} (h : Ret e P') (i : ∀ a, P' a → P a) : Ret e P := by
  obtain ⟨r, h, p⟩ := h; exact ⟨r, h, i r p⟩
theorem Ret.gd {p : Prop} {m : Ex α} (h : p) (k : Ret m P) : Ret (gd p m) P := by rw [gd_ok h]; exact k
theorem Ret.bindP {m : Ex α} {k : α → Ex β} {R : α → Prop} (h : Ret m R) (i : ∀ a, R a → Ret (k a) Q) : Ret (bindP m k) Q := by
  obtain ⟨r, e, p⟩ := h; rw [e]; exact i r p
theorem Ret.bindX {m : Ex α} {k : α → Ex β} {R : α → Prop} (h : Ret m R) (i : ∀ a, R a → Ret (k a) Q) : Ret (bindX m k) Q := by
  obtain ⟨r, e, p⟩ := h; rw [e]; exact i r p
/-- what is known by an equation -/
theorem Ret.eqP {m : Ex α} {a : α} {k : α → Ex β} (h : m = .ok a) (i : Ret (k a) Q) : Ret (Dl.bindP m k) Q := by rw [h]; exact i
theorem Ret.eqX {m : Ex α} {a : α} {k : α → Ex β} (h : m = .ok a) (i : Ret (k a) Q) : Ret (Dl.bindX m k) Q := by rw [h]; exact i
theorem Ret.letE {a : α} {k : α → Ex β} (h : ∀ x, x = a → Ret (k x) Q) : Ret (letE a k) Q := h a rfl
theorem Ret.letI {a : α} {k : α → Ex β} (h : Ret (k a) Q) : Ret (Dl.letE a k) Q := h
theorem Ret.jpE {k : α} {f : α → Ex β} (h : Ret (f k) Q) : Ret (jpE k f) Q := h
/-- ways that meet again, where C holds -/
theorem Ret.jpA {δ : Type} {k : δ → Ex α} {f : (δ → Ex α) → Ex β} {Q : β → Prop} {R : α → Prop} (C : δ → Prop) (hk : ∀ z, C z → Ret (k z) R) (hf : ∀ k' : δ → Ex α, (∀ z, C z → Ret (k' z) R) → Ret (f k') Q) : Ret (Dl.jpE k f) Q := hf k hk
theorem Ret.ite {c : Bool} {m1 m2 : Ex α} (h1 : c = true → Ret m1 P) (h2 : c = false → Ret m2 P) : Ret (if c = true then m1 else m2) P := by
  cases c with
  | true => exact h1 rfl
  | false => exact h2 rfl
theorem Ret.iteD {p : Prop} [Decidable p] {m1 m2 : Ex α} (h1 : p → Ret m1 P) (h2 : ¬ p → Ret m2 P) : Ret (if decide p = true then m1 else m2) P :=
  Ret.ite (fun h => h1 (of_decide_eq_true h)) (fun h => h2 (of_decide_eq_false h))
theorem Ret.t {c : Bool} {m1 m2 : Ex α} (h : c = true) (k : Ret m1 P) : Ret (if c = true then m1 else m2) P := by rw [if_pos h]; exact k
theorem Ret.f {c : Bool} {m1 m2 : Ex α} (h : c = false) (k : Ret m2 P) : Ret (if c = true then m1 else m2) P := by rw [if_neg (by rw [h]; decide)]; exact k
theorem Ret.someE {o : Option α} {a : α} {k : α → Ex β} (h : o = some a) (i : Ret (k a) Q) : Ret (Dl.bindP (someE o) k) Q := by rw [h]; exact i
theorem Ret.ix {xs : List α} {i : Int} {k : α → Ex β} (h0 : 0 ≤ i) (h1 : i < xs.length) (h : ∀ x, xs[i.toNat]? = some x → Ret (k x) Q) : Ret (Dl.bindP (ixE xs i) k) Q := by
  have l : i.toNat < xs.length := by omega
  have e := List.getElem?_eq_getElem l
  rw [ixE_nat h0 e]
  exact h _ e
theorem Ret.ixN {xs : List α} {i : Int} {k : α → Ex β} (h0 : i < 0) (h1 : 0 ≤ i + xs.length) (h : ∀ x, xs[(i + xs.length).toNat]? = some x → Ret (k x) Q) : Ret (Dl.bindP (ixE xs i) k) Q := by
  have l : (i + xs.length).toNat < xs.length := by omega
  have e := List.getElem?_eq_getElem l
  rw [ixE_neg h0 h1 e]
  exact h _ e
theorem Ret.ixM {xs : List α} {i : Int} {k : α → Ex β} (h0 : 0 ≤ i) (h1 : i < xs.length) (h : ∀ x ∈ xs, Ret (k x) Q) : Ret (Dl.bindP (ixE xs i) k) Q :=
  Ret.ix h0 h1 fun x e => h x (List.mem_of_getElem? e)
theorem Ret.andE {a : Bool} {m : Ex Bool} {P : Bool → Prop} (h1 : a = true → Ret m P) (h2 : a = false → P false) : Ret (andE a m) P := by
  cases a with
  | true => exact h1 rfl
  | false => exact ⟨false, rfl, h2 rfl⟩
theorem Ret.orE {a : Bool} {m : Ex Bool} {P : Bool → Prop} (h1 : a = false → Ret m P) (h2 : a = true → P true) : Ret (orE a m) P := by
  cases a with
  | false => exact h1 rfl
  | true => exact ⟨true, rfl, h2 rfl⟩
theorem Ret.fold {f : β → α → Ex β} {k : β → Ex γ} {Q : γ → Prop} {xs : List α} {z : β} (J : Nat → β → Prop) (h0 : J 0 z) (hs : ∀ j z x, xs[j]? = some x → J j z → Ret (f z x) fun z' => J (j + 1) z') (hk : ∀ z, J xs.length z → Ret (k z) Q) : Ret (Dl.bindX (foldE f z xs) k) Q := by
  obtain ⟨z', e, j⟩ := foldE_inv0 J xs z h0 fun j z x hx hj => hs j z x hx hj
  rw [e]; exact hk z' j
/-- a loop that is never left ahead of its end -/
theorem Ret.loop {f : β → α → Ex (Ct β ρ)} {k : β → Ex γ} {r : ρ → Ex γ} {Q : γ → Prop} {xs : List α} {z : β} (J : Nat → β → Prop) (h0 : J 0 z) (hs : ∀ j z x, xs[j]? = some x → J j z → Ret (f z x) fun c => ∃ z', c = .nx z' ∧ J (j + 1) z') (hk : ∀ z, J xs.length z → Ret (k z) Q) :
    Ret (Dl.bindX (loopE f z xs) fun c => ctE c k r) Q := by
  obtain ⟨z', e, j⟩ := loopE_inv0 (f := f) J xs z h0 fun j z x hx hj => by
    obtain ⟨c, e, z', e2, h⟩ := hs j z x hx hj
    exact ⟨z', by rw [e, e2], h⟩
  rw [e]; exact hk z' j
theorem Ret.map {f : α → Ex β} {k : List β → Ex γ} {Q : γ → Prop} {xs : List α} (g : α → β) (hf : ∀ x ∈ xs, f x = .ok (g x)) (h : Ret (k (xs.map g)) Q) : Ret (Dl.bindP (compE (fun _ => .ok true) f xs) k) Q := by
  rw [compE_map xs hf]; exact h
end
end Dl

namespace Dl
open PySem PySem.Spec PyProof.Rows L2
section
variable {X : Cx} {kx kx' : XD} {ρ ρ' ρ'' : Ro} {M M' : Mem} {P : Out → Mem → Prop} {pos p apos tpos : Pos} {tg a b c e o ix : Expr} {es : List Expr} {x y z : D} {k l : Bool} {w : Addr} {α β γ : Type}
/-! ### is True -/
/-! ### xs[i] = e -/
def setE (xs : List α) (i : Int) (v : α) : Ex (List α) := match ixN xs.length i with
  | some j => .ok (xs.set j v)
  | none => .bad
theorem setE_out {xs ys : List α} {i : Int} {v : α} (h : setE xs i v = .ok ys) : ∃ j, ixN xs.length i = some j ∧ ys = xs.set j v := by
  unfold setE at h
  cases q : ixN xs.length i with
  | none => rw [q] at h; cases h
  | some j => rw [q] at h; cases h; exact ⟨j, rfl, rfl⟩
theorem setE_nat {xs : List α} {i : Int} {v : α} (h0 : 0 ≤ i) (h1 : i < xs.length) : setE xs i v = .ok (xs.set i.toNat v) := by
  unfold setE ixN
  rw [if_pos h0, if_pos (by omega)]
theorem ds1_seti {i : Int} {n : Nat} {v : α} {xs ys : List α} {g : α → D} (h : setE xs i v = .ok ys) (hv : DV X kx e ρ M (g v)) (ho : DV X kx o ρ M (.adr w)) (hi : DV X kx ix ρ M (.int i)) (hm : M[n]? = some (w, .lst (xs.map g))) (hk : P (.nx ρ) (M.set n (w, .lst (ys.map g))))
    (ha : ∀ v, assign (.Subscript o ix apos) X.env v = (do
      let ov ← holding [v] (eval o X.env)
      let iv ← holding [v, ov] (eval ix X.env)
      standAt apos
      holding [v, ov, iv] (setItem ov iv v)
      release [v, ov, iv] []) := by intro _; rfl)
    (hs : swapsWithSole [.Subscript o ix apos] e pos.line X.env = pure false := by rfl) (hw : swappedStores [.Subscript o ix apos] e X.env = pure none := by rfl)
    (h1 : (assignEach [.Subscript o ix apos] X.env).map (·.2) = [assign (.Subscript o ix apos) X.env] := by rfl) : DS1 X kx (.Assign [.Subscript o ix apos] e pos) ρ M P := fun σ H H0 t s W tk hx D c => by
  obtain ⟨j, hj, rfl⟩ := setE_out h
  refine sS.by (ps_asg (pe_s e) (pg_sub (pe_s o) (pe_s ix) set_list ha) hs hw h1) (hv σ H H0 t s W tk hx _ fun v' H1 H01 p1 r1 => ho σ H1 H01 (t.pu p1) (s.mo p1.e0) W tk (hx.pu p1) _ fun u H2 H02 p2 r2 => hi σ H2 H02 (t.pu (p1.trans p2)) (s.mo (p1.trans p2).e0) W tk (hx.pu (p1.trans p2)) _ fun iv H3 H03 p3 r3 => ?_)
  cases r2; cases r3
  have p13 := (p1.trans p2).trans p3
  obtain ⟨_, vs, h1, h2⟩ := (t.pu p13).mem _ (List.mem_of_getElem? hm)
  obtain ⟨t3, g3⟩ := (t.pu p13).setM (o := .lst (vs.set j v')) (m' := .lst ((xs.set j v).map g)) hm fun H' e => ⟨vs.set j v', e, by rw [List.map_set]; exact h2.set j (r1.mo (p2.trans p3).e0)⟩
  exact ⟨w, vs, i, j, rfl, rfl, h1, by rw [h2.length, List.length_map]; exact hj, c.nx σ _ H03 ρ _ (p13.go.trans g3) t3 (s.mo p13.e0) hk⟩
/-! ### raise -/
/-- an own class of exceptions, x at C -/
structure ExT (K : Frag) (mg : Str → Option Value) (x : Str) (C : Addr) : Prop extends ExcC K C where
  gC : mg x = some (.ref C)
  xC : PySem.W.excIn K C [.type "ValueError", .type "Exception", .type "BaseException", .type "object"] "ValueError.__new__" = true
  kC : PySem.W.keepIn K (.ref C) = true
  tC : PySem.W.typeIn K (.ref C) = some (.type "type")
theorem ds1_raise {x m : Str} {C : Addr} {j : Nat} {p2 pos2 : Pos} (hc : X.calm = true) (T : ExT X.K X.mg x C) (hg : Gl X x) (hk : ∀ cls, X.mg x = some cls → kx cls [] ρ M) (hdb : (x == ("__debug__" : Str)) = false := by decide) :
    DS1 X kx (.Raise (some (.Call (.Name x p) [.Constant (.str m) j p2] [] pos)) none pos2) ρ M P := fun σ H H0 t s W tk hx D c =>
  sS.by (L2N.ps_raise hc tk.n (L2N.pmk_own PySem.F.excBase_ValueError T.xC T.gC T.kC (raises_own T.hs T.tC) hg hdb)) (hx (.ref C) none σ H H0 [] ρ M Go.refl t s (.inl ⟨rfl, rfl⟩) (hk _ T.gC))
/-! ### f(e), that raises -/
theorem de_exc {α : Type} {x : Str} {args : α → List D} {F : α → Ex β} {enc : β → D} {k : Nat} {dvs ds : List D} {n : Str} {fs : List (Str × D)} (G : GF X.prog X.w X.K X.mg X.base k x dvs (spE X.K X.mg args F enc)) (hr : Room k X.A) (hg : Gl X x) (ha : DA X kx (e :: es) ρ M ds) (a : α) (hargs : args a = ds ++ dvs)
    (hF : F a = .exc n fs) (hk : ∀ cls, X.mg n = some cls → kx cls fs ρ M) (hdb : (x == ("__debug__" : Str)) = false := by decide) (he : starEach (e :: es) X.env = (false, eval e X.env) :: starEach es X.env := by rfl) (hpl : (backTo pos (starEach es X.env)).any (·.1) = false := by rfl) :
    DE X kx (.Call (.Name x p) (e :: es) [] pos) ρ M fun _ _ => False :=
  de_call G hr hg ha a hargs (fun h => by cases hF.symm.trans h) (fun d ⟨r, h, _⟩ => by cases hF.symm.trans h) (fun cls fs' ⟨n', h, hm⟩ => by cases hF.symm.trans h; exact hk cls hm) hdb he hpl
theorem ds1_void {e : Expr} (h : DE X kx e ρ M fun _ _ => False) (hs : swapsWith e none tpos.line X.env = pure false := by rfl) : DS1 X kx (.Expr e tpos) ρ M P := ds1_expr h (fun _ _ z => z.elim) hs
theorem ds1_exprV {e : Expr} {d : D} (h : DV X kx e ρ M d) (hp : P (.nx ρ) M) (hs : swapsWith e none tpos.line X.env = pure false := by rfl) : DS1 X kx (.Expr e tpos) ρ M P :=
  ds1_expr (h.de (k := fun _ m => m = M) rfl) (fun _ m e => by subst e; exact hp) hs
theorem ds1_retX {e : Expr} (h : DE X kx e ρ M fun _ _ => False) : DS1 X kx (.Return (some e) tpos) ρ M P := ds1_ret h fun _ _ z => z.elim
end
end Dl
namespace Dl
open PySem PySem.Spec PyProof.Rows L2
/-! ### classes, methods, defaults: what the top has written -/
/-- an own class, x at C -/
structure ClsT (K : Frag) (mg : Str → Option Value) (x : Str) (C : Addr) (fs : List Str) : Prop where
  gC : mg x = some (.ref C)
  cl : Cls K C
  na : ∀ f ∈ fs, NoAttr K C f
  mks : PySem.W.makesIn K C = true
  kp : PySem.W.keepIn K (.ref C) = true
/-- a def with perhaps defaults, as K holds it: any number of the last arguments may be left out -/
structure DefT (K : Frag) (x qual : Str) (st : Stmt) (ps : List Str) (dvs : List V) (f : Addr) (fd : FuncData) : Prop where
  F : FunD K x qual (defArgs st) (defBody st) (defScope st) dvs [] f fd
  b : ∀ j, j ≤ dvs.length → ∃ ds, Vals (dvs.drop j) ds ∧ Binds K fd ps ds
def MethT (K : Frag) (C : Addr) (m qual : Str) (st : Stmt) (ps : List Str) (dvs : List V) : Prop := ∃ f fd, DefT K m qual st ps dvs f fd ∧ PySem.W.findIn K (.ref C) m = some (some (.ref f)) ∧ PySem.W.isFn K (.ref f) = true
def FunDT (K : Frag) (mg : Str → Option Value) (x : Str) (st : Stmt) (ps : List Str) (dvs : List V) : Prop := ∃ f fd, DefT K x x st ps dvs f fd ∧ mg x = some (.ref f)
section
variable {K : Frag} {x qual : Str} {st : Stmt} {ps : List Str} {dvs : List V} {f : Addr} {fd : FuncData}
end
section
variable {P : Program} {w : World} {K : Frag} {mg : Str → Option Value} {base : Heap} {α β : Type}
theorem fn_pD {x qual : Str} {st : Stmt} {f : Addr} {fd : FuncData} {N ps : List Str} {dv : List V} {k : Nat} {args : α → List D} {pre : α → Prop} {post : α → D → Prop} {ex : α → Value → List (Str × D) → Prop} (F : FunD K x qual (defArgs st) (defBody st) (defScope st) dv [] f fd) (S : FnScope N ps (defScope st)) (hl : ∀ a, (args a).length = ps.length)
    (body : ∀ X : Cx, X.prog = P → X.w = w → X.K = K → X.mg = mg → X.base = base → Bd X N (defScope st) k → Bf X → ∀ a, pre a → DS X (fun cls fs _ _ => ex a cls fs) (defBody st) (startD N (args a)) [] (retP fun d _ => post a d)) :
    FnOk P w K mg base (Dl.CX P w) (k + 1) f fd ps (spP K args pre post ex) := by
  refine F.ok S (fun vs H Q E h => ?_) (fun cdv A outer s H vs Q E hr hsp => ?_)
  · obtain ⟨x, H0, _, r, _⟩ := h
    rw [r.length, hl]
  · obtain ⟨x, H0, hs, r, hp, hq, he⟩ := hsp
    obtain ⟨B, Fz⟩ := bd_of (P := P) (w := w) (K := K) (mg := mg) (base := base) (outer := outer) (H := H) (E := E) S hr
    refine ⟨_, pss_s _, body _ rfl rfl rfl rfl rfl B Fz x hp (L2.start N vs) H H0 (Ht.emp hs.1 hs.2) (start_rep r) (fun cls d _ H => E cls d H) (takes_of rfl rfl rfl rfl) (fun cls dd σ' H' H0' fs ρ' M' g t s' xr e => he cls dd H' H0' fs (g.pu t) xr e) _ ?_⟩
    exact ⟨fun σ' H' H0' ρ' M' g t _ p => hq .non H' H0' .non (g.pu t) .non p, fun _ _ _ _ _ _ _ _ p => p.elim, fun _ _ _ _ _ _ _ _ p => p.elim, fun v H' H0' d M' g t r p => hq v H' H0' d (g.pu t) r p⟩
theorem fn_mD {x qual : Str} {st : Stmt} {f : Addr} {fd : FuncData} {N ps : List Str} {dv : List V} {k : Nat} {args : α → List D} {Mi : α → Mem} {pre : α → Prop} {post : α → D → Mem → Prop} {ex : α → Value → List (Str × D) → Mem → Prop} (F : FunD K x qual (defArgs st) (defBody st) (defScope st) dv [] f fd) (S : FnScope N ps (defScope st)) (hl : ∀ a, (args a).length = ps.length)
    (body : ∀ X : Cx, X.prog = P → X.w = w → X.K = K → X.mg = mg → X.base = base → Bd X N (defScope st) k → Bf X → ∀ a, pre a → DS X (fun cls fs _ M' => ex a cls fs M') (defBody st) (startD N (args a)) (Mi a) (retP (post a))) :
    FnOk P w K mg base (Dl.CX P w) (k + 1) f fd ps (spM K args Mi pre post ex) := by
  refine F.ok S (fun vs H Q E h => ?_) (fun cdv A outer s H vs Q E hr hsp => ?_)
  · obtain ⟨x, H0, _, r, _⟩ := h
    rw [r.length, hl]
  · obtain ⟨x, H0, hs, r, hp, hq, he⟩ := hsp
    obtain ⟨B, Fz⟩ := bd_of (P := P) (w := w) (K := K) (mg := mg) (base := base) (outer := outer) (H := H) (E := E) S hr
    refine ⟨_, pss_s _, body _ rfl rfl rfl rfl rfl B Fz x hp (L2.start N vs) H H0 hs (start_rep r) (fun cls d _ H => E cls d H) (takes_of rfl rfl rfl rfl) (fun cls dd σ' H' H0' fs ρ' M' g t s' xr e => he cls dd H' H0' fs M' g t xr e) _ ?_⟩
    exact ⟨fun σ' H' H0' ρ' M' g t _ p => hq .non H' H0' .non M' g t .non p, fun _ _ _ _ _ _ _ _ p => p.elim, fun _ _ _ _ _ _ _ _ p => p.elim, fun v H' H0' d M' g t r p => hq v H' H0' d M' g t r p⟩
/-- a method, or a def with defaults, that changes nothing -/
theorem fn_eD {x qual : Str} {st : Stmt} {f : Addr} {fd : FuncData} {N ps : List Str} {dv : List V} {k : Nat} {args : α → List D} {F : α → Ex β} {enc : β → D} (Fu : FunD K x qual (defArgs st) (defBody st) (defScope st) dv [] f fd) (S : FnScope N ps (defScope st)) (hl : ∀ a, (args a).length = ps.length)
    (body : ∀ X : Cx, X.prog = P → X.w = w → X.K = K → X.mg = mg → X.base = base → Bd X N (defScope st) k → Bf X → ∀ a out, F a = out → out ≠ .bad → DS X (kxE mg out) (defBody st) (startD N (args a)) [] (retQ enc out)) :
    FnOk P w K mg base (Dl.CX P w) (k + 1) f fd ps (spE K mg args F enc) :=
  fn_pD Fu S hl fun X e1 e2 e3 e4 e5 B Fz a ha => (body X e1 e2 e3 e4 e5 B Fz a _ rfl ha).imp fun o m h => by
    cases o with
    | nx ρ => exact h
    | bk ρ => exact h
    | ct ρ => exact h
    | rt d => exact h
/-- what __init__ leaves: the object at w with the fields ns -/
def initQ (C : Addr) (ns : List Str) (encs : β → List D) (out : Ex β) (w : Addr) : Out → Mem → Prop
  | .nx _, M => ∃ r, out = .ok r ∧ M = [(w, .ins C ns (encs r))]
  | _, _ => False
abbrev spI (K : Frag) (mg : Str → Option Value) (C : Addr) (ns : List Str) (args : α → List D) (F : α → Ex β) (encs : β → List D) : Sp :=
  spM K (fun q : Addr × α => .adr q.1 :: args q.2) (fun q => [(q.1, .ins C [] [])]) (fun q => F q.2 ≠ .bad) (fun q d M' => (∃ r, F q.2 = .ok r ∧ M' = [(q.1, .ins C ns (encs r))]) ∧ d = .non) (fun q cls fs M' => ∃ n, F q.2 = .exc n fs ∧ mg n = some cls)
theorem fn_i {x qual : Str} {st : Stmt} {f C : Addr} {fd : FuncData} {N ps : List Str} {dv : List V} {k : Nat} {ns : List Str} {args : α → List D} {F : α → Ex β} {encs : β → List D} (Fu : FunD K x qual (defArgs st) (defBody st) (defScope st) dv [] f fd) (S : FnScope N ps (defScope st)) (hl : ∀ a, (args a).length + 1 = ps.length)
    (body : ∀ X : Cx, X.prog = P → X.w = w → X.K = K → X.mg = mg → X.base = base → Bd X N (defScope st) k → Bf X → ∀ w a out, F a = out → out ≠ .bad → DS X (kxE mg out) (defBody st) (startD N (.adr w :: args a)) [(w, .ins C [] [])] (initQ C ns encs out w)) :
    FnOk P w K mg base (Dl.CX P w) (k + 1) f fd ps (spI K mg C ns args F encs) :=
  fn_mD Fu S (fun a => hl a.2) fun X e1 e2 e3 e4 e5 B Fz a ha => (body X e1 e2 e3 e4 e5 B Fz a.1 a.2 _ rfl ha).imp fun o m h => by
    cases o with
    | nx ρ => exact ⟨h, rfl⟩
    | bk ρ => exact h
    | ct ρ => exact h
    | rt d => exact h.elim
theorem MethT.gm {C : Addr} {m qual : Str} {st : Stmt} {ps : List Str} {dvs : List V} {k : Nat} {sp : Sp} (T : MethT K C m qual st ps dvs) (j : Nat) (hj : j ≤ dvs.length) (ds : List D) (hd : ∀ H vs, vs = dvs.drop j → RepA K H vs ds) (h : ∀ f fd, FunD K m qual (defArgs st) (defBody st) (defScope st) dvs [] f fd → FnOk P w K mg base (Dl.CX P w) k f fd ps sp) : GM P w K mg base k C m ds sp := by
  obtain ⟨f, fd, Df, a, i⟩ := T
  obtain ⟨us, v, b⟩ := Df.b j hj
  exact ⟨f, fd, ps, us, _, ⟨a, i, Df.F.kp⟩, h f fd Df.F, b, v, fun H => hd H _ rfl⟩
theorem MethT.gc {C : Addr} {qual : Str} {st : Stmt} {ps : List Str} {dvs : List V} {k : Nat} {sp : Sp} {x : Str} {fs : List Str} (Ct : ClsT K mg x C fs) (T : MethT K C "__init__" qual st ps dvs) (j : Nat) (hj : j ≤ dvs.length) (ds : List D) (hd : ∀ H vs, vs = dvs.drop j → RepA K H vs ds)
    (h : ∀ f fd, FunD K "__init__" qual (defArgs st) (defBody st) (defScope st) dvs [] f fd → FnOk P w K mg base (Dl.CX P w) k f fd ps sp) : GC P w K mg base k C ds sp := by
  obtain ⟨f, fd, Df, a, i⟩ := T
  obtain ⟨us, v, b⟩ := Df.b j hj
  exact ⟨f, fd, ps, us, _, ⟨Ct.mks, a, i, Ct.kp⟩, h f fd Df.F, b, v, fun H => hd H _ rfl⟩
theorem FunDT.gf {x : Str} {st : Stmt} {ps : List Str} {dvs : List V} {k : Nat} {sp : Sp} (T : FunDT K mg x st ps dvs) (j : Nat) (hj : j ≤ dvs.length) (ds : List D) (hd : ∀ H vs, vs = dvs.drop j → RepA K H vs ds) (h : ∀ f fd, FunD K x x (defArgs st) (defBody st) (defScope st) dvs [] f fd → FnOk P w K mg base (Dl.CX P w) k f fd ps sp) : GF P w K mg base k x ds sp := by
  obtain ⟨f, fd, Df, a⟩ := T
  obtain ⟨us, v, b⟩ := Df.b j hj
  exact ⟨f, fd, ps, us, _, a, Df.F.kp, h f fd Df.F, b, v, fun H => hd H _ rfl⟩
end
section
variable {X : Cx} {kx kx' : XD} {ρ ρ' ρ'' : Ro} {M M' : Mem} {P : Out → Mem → Prop} {pos p apos tpos : Pos} {tg a b c e o ix : Expr} {es : List Expr} {x y z : D} {w C : Addr} {α β γ : Type} {k : Nat} {m : Str} {ns : List Str} {dvs ds fs : List D}
theorem init_nx {encs : β → List D} {out : Ex β} {r : β} (h : .ok r = out) (e : M = [(w, .ins C ns (encs r))]) : initQ C ns encs out w (.nx ρ) M := ⟨r, h.symm, e⟩
/-- C(e, ..), an object that stays as it is -/
theorem dv_make {cx : Str} {args : α → List D} {F : α → Ex β} {encs : β → List D} {r : β} (G : GC X.prog X.w X.K X.mg X.base k C dvs (spI X.K X.mg C ns args F encs)) (hr : Room (k + 1) X.A) (hg : Gl X cx) (hm : X.mg cx = some (.ref C)) (ha : DA X kx (e :: es) ρ M ds) (a : α) (hargs : args a = ds ++ dvs) (hF : F a = .ok r)
    (hdb : (cx == ("__debug__" : Str)) = false := by decide) (he : starEach (e :: es) X.env = (false, eval e X.env) :: starEach es X.env := by rfl) (hpl : (backTo pos (starEach es X.env)).any (·.1) = false := by rfl) : DV X kx (.Call (.Name cx p) (e :: es) [] pos) ρ M (.ins C ns (encs r)) := fun σ H H0 t s W tk hx Q q =>
  make_e G hr hg hm t s tk hx ha (fun vs us H1 H01 w dx p1 rr ru h1 h2 h3 => by
    obtain ⟨g2, t2⟩ := ht_make (C := C) (Ht.emp p1.ex (t.pu p1).tb) h1 h2 h3
    refine ⟨(w, a), H01, t2, .cons (.adr w) (by rw [hargs]; exact rr.app ru), fun h => Ex.ok_ne r (hF.symm.trans h), fun v H' H0' d M' g t' r' ⟨⟨r'', e1, e2⟩, e3⟩ => ?_, fun cls dd H' H0' fs' M' g t' xr ⟨n, e1, _⟩ => by cases hF.symm.trans e1⟩
    cases hF.symm.trans e1
    subst e3
    cases r'
    subst e2
    obtain ⟨H0s, sm, t3, r3, g3⟩ := t'.frzI (i := 0) rfl
    have pz := (g2.trans (g.trans g3)).pu t3
    exact ⟨rfl, q (.ref w) H' H0s (p1.trans pz) r3⟩) hdb he hpl
theorem de_makeX {cx : Str} {args : α → List D} {F : α → Ex β} {encs : β → List D} {n : Str} {xs : List (Str × D)} (G : GC X.prog X.w X.K X.mg X.base k C dvs (spI X.K X.mg C ns args F encs)) (hr : Room (k + 1) X.A) (hg : Gl X cx) (hm : X.mg cx = some (.ref C)) (ha : DA X kx (e :: es) ρ M ds) (a : α) (hargs : args a = ds ++ dvs) (hF : F a = .exc n xs) (hk : ∀ cls, X.mg n = some cls → kx cls xs ρ M)
    (hdb : (cx == ("__debug__" : Str)) = false := by decide) (he : starEach (e :: es) X.env = (false, eval e X.env) :: starEach es X.env := by rfl) (hpl : (backTo pos (starEach es X.env)).any (·.1) = false := by rfl) : DE X kx (.Call (.Name cx p) (e :: es) [] pos) ρ M fun _ _ => False := fun σ H H0 t s W tk hx Q q =>
  make_e G hr hg hm t s tk hx ha (fun vs us H1 H01 w dx p1 rr ru h1 h2 h3 => by
    obtain ⟨g2, t2⟩ := ht_make (C := C) (Ht.emp p1.ex (t.pu p1).tb) h1 h2 h3
    refine ⟨(w, a), H01, t2, .cons (.adr w) (by rw [hargs]; exact rr.app ru), fun h => (by cases hF.symm.trans h), fun v H' H0' d M' g t' r' ⟨⟨r'', e1, e2⟩, e3⟩ => (by cases hF.symm.trans e1), fun cls dd H' H0' fs' M' g t' xr ⟨n', e1, e2⟩ => ?_⟩
    cases hF.symm.trans e1
    have pz := p1.trans ((g2.trans g).pu t')
    exact hx cls dd σ H' H0' _ ρ M pz.go (t.pu pz) (s.mo pz.e0) xr (hk cls e2)) hdb he hpl
/-- a list in a field of an object that is tracked will not change any more -/
theorem Ht.frzF {K : Frag} {H0 H : Hp} {M : Mem} (t : Ht K H0 H M) {i j : Nat} {w a C : Addr} {ns : List Str} {ds fs : List D} {n : Nat} (hm : M[i]? = some (w, .lst ds)) (ho : (M.eraseIdx i)[j]? = some (a, .ins C ns fs)) (hf : fs[n]? = some (.adr w)) :
    ∃ H0', Same H0 H0' ∧ Ht K H0' H ((M.eraseIdx i).set j (a, .ins C ns (fs.set n (.lst ds)))) ∧ Go H0 H M H0' H ((M.eraseIdx i).set j (a, .ins C ns (fs.set n (.lst ds)))) := by
  obtain ⟨H0', sm, t2, r2, g2⟩ := t.frz1 hm
  obtain ⟨h0, dx, vs, xs, h1, h2, h3, h4⟩ := t2.mem _ (List.mem_of_getElem? ho)
  obtain ⟨v, hv, rv⟩ := h4.get hf
  cases rv
  have h5 : RepA K H0' xs (fs.set n (.lst ds)) := by
    have z := h4.set n r2
    have e2 : xs.set n (.ref w) = xs := by
      refine List.ext_getElem? fun q => ?_
      by_cases hq : n = q
      · subst hq; rw [List.getElem?_set_self (List.getElem?_eq_some_iff.mp hv).1, hv]
      · rw [List.getElem?_set_ne hq]
    rw [e2] at z
    exact z
  have dm : Mem.dom ((M.eraseIdx i).set j (a, .ins C ns (fs.set n (.lst ds)))) = Mem.dom (M.eraseIdx i) := set_dom ho
  refine ⟨H0', sm, ⟨t2.ex, by rw [dm]; exact t2.nd, fun q hq => ?_, t2.tb⟩, ⟨g2.e0, g2.e, g2.new, fun b hb => by rw [dm] at hb; exact g2.dom b hb, g2.there⟩⟩
  rcases List.mem_or_eq_of_mem_set hq with hq | rfl
  · exact t2.mem q hq
  · exact ⟨h0, dx, vs, xs, h1, h2, h3, h5⟩
theorem ds_frzF {sts : List Stmt} (i j n : Nat) {a : Addr} (hm : M[i]? = some (w, .lst ds)) (ho : (M.eraseIdx i)[j]? = some (a, .ins C ns fs)) (hf : fs[n]? = some (.adr w)) (h : DS X kx sts ρ ((M.eraseIdx i).set j (a, .ins C ns (fs.set n (.lst ds)))) P) : DS X kx sts ρ M P := fun σ H H0 t s W tk hx D c => by
  obtain ⟨H0', sm, t2, g2⟩ := t.frzF hm ho hf
  exact h σ H H0' t2 (s.mo sm) W tk (hx.step g2) D (c.step g2)
/-- o.f = [e, ..], a list that will change -/
theorem ds1_fldL {i : Nat} {f : Str} {ns' : List Str} {D0 : List D} (cl : Cls X.K C) (na : NoAttr X.K C f) (hv : DA X kx es ρ M ds) (hl : ds.length ≤ sizeLine) (ho : ∀ w2, DV X kx o ρ ((w2, .lst ds) :: M) (.adr w)) (hm : M[i]? = some (w, .ins C ns D0)) (hl2 : ns.length < 1000)
    (hk : ∀ w2, w2 ∉ M.dom → ∃ ds', putD f (.adr w2) ns D0 = (ns', ds') ∧ P (.nx ρ) ((w2, .lst ds) :: M.set i (w, .ins C ns' ds')))
    (hs : swapsWith (.List es apos) (some (.Attribute o f tpos)) pos.line X.env = pure false := by rfl) : DS1 X kx (.Assign [.Attribute o f tpos] (.List es apos) pos) ρ M P := fun σ H H0 t s W tk hx D c =>
  sS.by (ps_fld (pe_s o) (pe_s (.List es apos)) hs) ((de_lst (k := fun d m => ∃ w2, w2 ∉ M.dom ∧ d = .adr w2 ∧ m = (w2, .lst ds) :: M) hv hl fun w2 hw2 => ⟨w2, hw2, rfl, rfl⟩) σ H H0 t s W tk hx _ fun v H1 H01 d M1 g1 t1 r1 ⟨w2, hw2, e1, e2⟩ => by
    subst e1 e2
    refine ho w2 σ H1 H01 t1 (s.mo g1.e0) W tk (hx.step g1) _ fun u H2 H02 p2 r2 => ?_
    cases r2
    have t2 := t1.pu p2
    have hm' : ((w2, Mu.lst ds) :: M)[i + 1]? = some (w, .ins C ns D0) := by rw [List.getElem?_cons_succ]; exact hm
    obtain ⟨_, dx, vs, xs, h1, rfl, rfl, h4⟩ := t2.mem _ (List.mem_of_getElem? hm')
    obtain ⟨ds', hp, hk'⟩ := hk w2 hw2
    obtain ⟨i1, i2⟩ := putD_rep (f := f) (r1.mo p2.e0) h4
    rw [hp] at i1 i2
    obtain ⟨t3, g3⟩ := t2.setM (o := .ins C dx (putF f v vs)) (m' := .ins C ns' ds') hm' fun H' e => ⟨dx, putF f v vs, _, e, i1, rfl, i2⟩
    refine ⟨w, C, dx, vs, rfl, h1, cl, na, by rw [List.length_map] at hl2; exact hl2, c.nx σ _ H02 ρ _ (g1.trans (p2.go.trans g3)) t3 (s.mo (g1.e0.trans p2.e0)) ?_⟩
    exact hk')
end
end Dl
namespace Dl
open PySem PySem.Spec PyProof.Rows L2
theorem len1 {α : Type} : ∀ {l : List α}, l.length = 1 → ∃ a, l = [a]
  | [a], _ => ⟨a, rfl⟩
theorem len2 {α : Type} : ∀ {l : List α}, l.length = 2 → ∃ a b, l = [a, b]
  | [a, b], _ => ⟨a, b, rfl⟩
theorem len3 {α : Type} : ∀ {l : List α}, l.length = 3 → ∃ a b c, l = [a, b, c]
  | [a, b, c], _ => ⟨a, b, c, rfl⟩
end Dl
namespace Dl
open PySem PySem.Spec PyProof.Rows L2
/-! ### a list that changes, looked at by others meanwhile -/
mutual
/-- no list, no object within -/
def D.plain : D → Bool
  | .non => true
  | .bl _ => true
  | .int _ => true
  | .str _ => true
  | .ty _ => true
  | .lst _ => false
  | .scr _ => false
  | .tup xs => D.plainA xs
  | .ins _ _ _ => false
  | .adr _ => true
  | .dK _ _ => false
  | .dT _ _ => false
  | .exn _ _ _ xs => D.plainA xs
  | .clo _ _ xs => D.plainA xs
def D.plainA : List D → Bool
  | [] => true
  | d :: ds => d.plain && D.plainA ds
end
def cutH (H : Hp) (w : Addr) : Hp := fun a => if a = w then none else H a
theorem cutH_ne {H : Hp} {w a : Addr} (h : a ≠ w) : cutH H w a = H a := by unfold cutH; rw [if_neg h]
mutual
theorem Rep.cut {K : Frag} {H : Hp} {w : Addr} {xs : List V} (hw : H w = some (.lst xs)) : ∀ (d : D) (v : V), d.plain = true → Rep K H v d → Rep K (cutH H w) v d
  | .non, _, _, h => by cases h; exact .non
  | .bl b, _, _, h => by cases h; exact .bl b
  | .int b, _, _, h => by cases h; exact .int b
  | .str b, _, _, h => by cases h; exact .str b
  | .ty b, _, _, h => by cases h; exact .ty b
  | .lst ds, _, p, h => by simp [D.plain] at p
  | .scr ds, _, p, h => by simp [D.plain] at p
  | .tup ds, _, p, h => by
    cases h with
    | @tup a xs' _ c d =>
      have q : a ≠ w := fun z => by rw [z, hw] at c; cases c
      exact .tup (by rw [cutH_ne q]; exact c) (RepA.cut hw ds _ (by simpa [D.plain] using p) d)
  | .ins C ns ds, _, p, h => by simp [D.plain] at p
  | .adr a, _, _, h => by cases h; exact .adr a
  | .dK _ _, _, p, h => by simp [D.plain] at p
  | .dT _ _, _, p, h => by simp [D.plain] at p
  | .exn o C ns ds, _, p, h => by
    have ne : ∀ {a C : Addr} {d : Option Addr} {x : Value}, H a = some (exT a C d x) → a ≠ w := fun {a C d x} c z => by rw [z, hw] at c; cases c
    cases h with
    | exn0 c c6 => exact .exn0 (by rw [cutH_ne (ne c)]; exact c) c6
    | @exn1 a C d o x0 vs ns xs' ds c1 c2 c3 c4 c5 c6 =>
      have nd : d ≠ w := fun z => by rw [z, hw] at c2; cases c2
      exact .exn1 (by rw [cutH_ne (ne c1)]; exact c1) (by rw [cutH_ne nd]; exact c2) c3 c4 (RepA.cut hw ds _ (by simpa [D.plain] using p) c5) c6
  | .clo G fr ds, _, p, h => by
    have ne : ∀ {a : Addr} {φ : Heap → Prop}, H a = some (.ext φ) → a ≠ w := fun {a φ} c z => by rw [z, hw] at c; cases c
    cases h with
    | clo c1 c2 c3 c4 =>
      exact .clo (by rw [cutH_ne (ne c1)]; exact c1) (by rw [cutH_ne (ne c2)]; exact c2)
        ⟨c3.1, c3.2.1, c3.2.2.1, c3.2.2.2.1, fun i q v a b => by have z := c3.2.2.2.2 i q v a b; rw [cutH_ne (ne z)]; exact z⟩ (RepA.cut hw ds _ (by simpa [D.plain] using p) c4)
theorem RepA.cut {K : Frag} {H : Hp} {w : Addr} {xs : List V} (hw : H w = some (.lst xs)) : ∀ (ds : List D) (vs : List V), D.plainA ds = true → RepA K H vs ds → RepA K (cutH H w) vs ds
  | [], _, _, h => by cases h; exact .nil
  | d :: ds, _, p, h => by
    simp only [D.plainA, Bool.and_eq_true] at p
    cases h with
    | cons a b => exact .cons (Rep.cut hw d _ p.1 a) (RepA.cut hw ds _ p.2 b)
end
section
variable {X : Cx} {kx kx' : XD} {ρ ρ' ρ'' : Ro} {M M' : Mem} {P : Out → Mem → Prop} {pos p apos tpos : Pos} {tg a b c e o ix : Expr} {es : List Expr} {x y z d : D} {w C : Addr} {α β γ : Type} {k : Nat} {m : Str} {ns : List Str} {dvs ds fs : List D}
/-! ### a new list handed back, that may change -/
def retF {β : Type} (g : β → D) (out : Ex (List β)) : Out → Mem → Prop
  | .rt d, M => ∃ r w, out = .ok r ∧ d = .adr w ∧ (w, Mu.lst (r.map g)) ∈ M
  | _, _ => False
abbrev spF (K : Frag) (mg : Str → Option Value) (args : α → List D) (F : α → Ex (List β)) (g : β → D) : Sp :=
  spM K args (fun _ => []) (fun q => F q ≠ .bad) (fun q d M' => ∃ r w, F q = .ok r ∧ d = .adr w ∧ (w, Mu.lst (r.map g)) ∈ M') (fun q cls fs _ => ∃ n, F q = .exc n fs ∧ mg n = some cls)
end
section
variable {P : Program} {w : World} {K : Frag} {mg : Str → Option Value} {base : Heap} {α β : Type}
end
section
variable {X : Cx} {kx kx' : XD} {ρ ρ' ρ'' : Ro} {M M' : Mem} {P : Out → Mem → Prop} {pos p apos tpos : Pos} {tg a b c e o ix : Expr} {es : List Expr} {x y z d : D} {w C : Addr} {α β γ : Type} {k : Nat} {m : Str} {ns : List Str} {dvs ds fs : List D}
end
end Dl

namespace Dl
open PySem PySem.Spec PyProof.Rows L2
section
variable {X : Cx} {kx kx' : XD} {ρ ρ' ρ'' : Ro} {M M' : Mem} {P : Out → Mem → Prop} {pos p apos tpos kpos : Pos} {tg a b c e o ix dd : Expr} {es : List Expr} {x y z d : D} {w C : Addr} {α β γ : Type} {k : Nat} {ds fs : List D}
/-! ### max(xs, default=None) -/
def maxO (l : List Int) : Option Int := if l = [] then none else some (maxI l)
def minO (l : List Int) : Option Int := if l = [] then none else some (minI l)
def rMaxD (K : PySem.W.Frag) : List V → List V → Hp → VK → Prop := fun vs zs H Q => ∃ (a : Addr) (ns : List Int) (z : V), vs = [V.ref a] ∧ zs = [z] ∧ SqL K H a (ns.map V.int) ∧ Q (match maxO ns with | none => z | some m => .int m) H
theorem vals1 {z : V} {ws : List Value} (h : Vals [z] ws) : ∃ w1, ws = [w1] ∧ RelV z w1 := by
  cases h with
  | cons a b => cases b; exact ⟨_, rfl, a⟩
/-! ### xs * n -/
def repL (xs : List α) (n : Int) : List α := (List.replicate n.toNat xs).flatten
theorem RepA.reps {K : Frag} {H : Hp} {vs : List V} {ds : List D} (h : RepA K H vs ds) : ∀ n : Nat, RepA K H (List.replicate n vs).flatten (List.replicate n ds).flatten
  | 0 => .nil
  | n + 1 => by
    rw [List.replicate_succ, List.replicate_succ, List.flatten_cons, List.flatten_cons]
    exact h.app (RepA.reps h n)
theorem r2_rep {ds : List D} {n : Int} (h : SeqO M x ds) (h1 : -(2 ^ 63) ≤ n) (h2 : n < 2 ^ 63) (hl : ds.length * n.toNat ≤ sizeLine) : R2D X.K rRep M x (.int n) (.lst (repL ds n)) := fun v u H H0 t r1 r2 Q q => by
  obtain ⟨p1, xs, rfl, a1, b1⟩ := h.rep t r1
  cases r2
  refine ⟨p1, n, xs, rfl, rfl, a1, h1, h2, by rw [b1.length]; exact hl, fun w hw => ?_⟩
  have g := Pu.new1 t.ex hw (.lst (List.replicate n.toNat xs).flatten)
  exact q _ _ _ g (.lst upd_same ((b1.reps n.toNat).mo g.e0))
theorem repL_map {xs : List α} {f : α → D} {n : Int} : repL (xs.map f) n = (repL xs n).map f := by
  unfold repL
  rw [List.map_flatten, List.map_replicate]
theorem dv_repM {g : α → D} {xs : List α} {n : Int} (ha : DV X kx a ρ M x) (hb : DV X kx b ρ M (.int n)) (h : SeqO M x (xs.map g)) (h1 : -(2 ^ 63) ≤ n ∧ n < 2 ^ 63) (hl : xs.length * n.toNat ≤ sizeLine) : DV X kx (.BinOp a .Mult b pos) ρ M (.lst ((repL xs n).map g)) := by
  rw [← repL_map]
  exact dv_op op_rep (r2_rep h h1.1 h1.2 (by rw [List.length_map]; exact hl)) ha hb
def RepOk (n : Int) : Prop := -(2 ^ 63) ≤ n ∧ n < 2 ^ 63
/-! ### x in a tuple of numbers -/
/-! ### xs[::-1] -/
end
end Dl

namespace Dl
open PySem PySem.Spec PyProof.Rows L2
/-! ### the mirror of a try -/
def excE {β : Type} (hs : List (Str × Ex β)) (n : Str) : Ex β := match hs with
  | [] => .bad
  | (m, h) :: t => if n = m then h else excE t n
def tryE {α β : Type} (m : Ex α) (k : α → Ex β) (hs : List (Str × Ex β)) : Ex β := match m with
  | .ok a => k a
  | .exc n fs => if fs.length = 0 then excE hs n else .bad
  | .bad => .bad
/-! ### the walk -/
structure BdS (X : Cx) (N : List Str) (sc : Scope) (k : Nat) : Prop where
  hN : X.N = N
  hnd : N.Nodup
  hsc : X.env.scope = sc
  un : X.A.units + 64 < cLine
section
variable {X : Cx} {N : List Str} {sc : Scope} {k : Nat}
theorem BdS.hu (B : BdS X N sc k) : X.A.units + 64 < cLine := B.un
theorem BdS.nm (B : BdS X N sc k) {i : Nat} {x : Str} (h : N[i]? = some x) (v : Vis sc x) (d1 : (x == ("__debug__" : Str)) = false := by decide) (d2 : (x == ("__classdict__" : Str)) = false := by decide) : Nm X i x :=
  ⟨by rw [B.hN]; exact h, by rw [B.hsc]; exact v, d1, d2⟩
theorem BdS.ns (B : BdS X N sc k) {i : Nat} {x : Str} (h : N[i]? = some x) (v : sc.names.lookup x = some .local) (d1 : (x == ("__debug__" : Str)) = false := by decide) (d2 : (x == ("__classdict__" : Str)) = false := by decide) : Ns X i x :=
  { B.nm h (.inl v) d1 d2 with nd := by rw [B.hN]; exact B.hnd, loc := by rw [B.hsc]; exact .inl v, fn := .inr (by rw [B.hsc]; exact v) }
theorem BdS.gl (B : BdS X N sc k) {x : Str} (h : sc.names.lookup x = some .globalImplicit) : Gl X x := by
  show X.env.scope.names.lookup x = some .globalImplicit
  rw [B.hsc]; exact h
theorem BdS.bn (B : BdS X N sc k) {x : Str} {u : Value} (h : sc.names.lookup x = some .globalImplicit) (m : X.mg x = none) (b : bootBuiltins x = some u) (n : x ≠ "__name__" := by decide) (d : (x == ("__debug__" : Str)) = false := by decide) : Bn X x u :=
  ⟨B.gl h, m, b, n, d⟩
theorem Bd.su (B : Bd X N sc k) (a : Addr) (l : List (Addr × PySem.Obj)) : BdS (X.suite a l) N sc k := ⟨B.hN, B.hnd, B.hsc, B.room.units⟩
theorem Bd.tr (B : Bd X N sc k) {pn : List (Addr × PySem.Obj)} {xe : Value → Shared → Prop} (po : PassesOwn (model X.prog X.w) X.A X.env xe) : Bd (X.tr pn xe) N sc k := ⟨B.hN, B.hnd, B.hsc, B.calm, B.room, po⟩
theorem Bf.tr (F : Bf X) {pn : List (Addr × PySem.Obj)} {xe : Value → Shared → Prop} (pa : ∀ hd : Option Value, PassesOwnAt (model X.prog X.w) (X.A.mark hd) X.A X.env xe) : Bf (X.tr pn xe) := ⟨F.fn, F.stk, F.fr, pa⟩
end
/-- the exception that the suite holds, of the class at C -/
def Held (X : Cx) (a C : Addr) : Prop := HotK X ∧ ∃ (Y : Cx) (oe : PySem.Obj) (l : List (Addr × PySem.Obj)), X = Y.suite a ((a, oe) :: l) ∧ Zc (.ref C) none oe ∧ ∃ vs, oe.data = .fields vs
section
variable {X : Cx} {pins pn pn' : List (Addr × PySem.Obj)} {σ : L2.St} {H : Hp} {s : Shared} {a : Addr}
end
/-- what follows, once the exception's name is gone -/
def goneP (i : Nat) (P : Out → Mem → Prop) : Out → Mem → Prop
  | .nx ρ, M => P (.nx (ρ.set i none)) M
  | .bk ρ, M => P (.bk (ρ.set i none)) M
  | .ct ρ, M => P (.ct (ρ.set i none)) M
  | .rt d, M => P (.rt d) M
section
variable {X : Cx} {x n : Str} {c : Value} {i : Nat} {body suite : List Stmt} {b₀ : Stmt} {np pos pos' : Pos} {tb : WX → TS} {ts : Addr → Value → Option Addr → TS} {Wout : WX}
end
section
variable {X : Cx} {kx kx' : XD} {ρ ρ' ρ'' : Ro} {M M' : Mem} {P : Out → Mem → Prop} {pos p np pos' : Pos} {tg a b c e o ix dd : Expr} {es : List Expr} {x y z d : D} {w C : Addr} {α β γ : Type} {k i : Nat} {ds fs : List D} {N : List Str} {sc : Scope}
theorem Sl.none {K : Frag} {H0 : Hp} {σ : L2.St} (h : Sl K H0 σ ρ) (i : Nat) : Sl K H0 (σ.set i none) (ρ.set i none) := by
  refine ⟨by rw [List.length_set, List.length_set]; exact h.1, fun j d' e => ?_⟩
  by_cases hj : i = j
  · subst hj
    by_cases hi : i < ρ.length
    · rw [List.getElem?_set_self hi] at e
      cases e
    · rw [List.getElem?_eq_none (by rw [List.length_set]; omega)] at e
      cases e
  · rw [List.getElem?_set_ne hj] at e ⊢
    exact h.2 j d' e
/-! ### isinstance(e, D) -/
/-- a class's name -/
theorem dv_cls {n : Str} {pp : Pos} (hg : Gl X n) (hm : X.mg n = some (.ref C)) (hdb : (n == ("__debug__" : Str)) = false := by decide) : DV X kx (.Name n pp) ρ M (.adr C) := fun σ H H0 t s W tk hx Q q =>
  sE.by (pe_glob hg hm (v := .ref C) rfl hdb) (q _ H H0 (Pu.refl t.ex) (.adr C))
/-! ### a, b = x, y -/
end
end Dl

/-! a list that changes, locked while others look at it: what they make of it may be lists, too -/
namespace Dl
open PySem PySem.Spec PyProof.Rows L2
mutual
/-- no list that is read in place within -/
def D.nsc : D → Bool
  | .non => true
  | .bl _ => true
  | .int _ => true
  | .str _ => true
  | .ty _ => true
  | .lst xs => D.nscA xs
  | .scr _ => false
  | .tup xs => D.nscA xs
  | .ins _ _ xs => D.nscA xs
  | .adr _ => true
  | .dK _ xs => D.nscA xs
  | .dT _ xs => D.nscA xs
  | .exn _ _ _ xs => D.nscA xs
  | .clo _ _ xs => D.nscA xs
def D.nscA : List D → Bool
  | [] => true
  | d :: ds => d.nsc && D.nscA ds
end
mutual
theorem Rep.cutF {K : Frag} {H : Hp} {w : Addr} {o : PySem.Obj} {xs : List V} (hw : H w = some (.frz o (.lst xs))) : ∀ (d : D) (v : V), d.nsc = true → Rep K H v d → Rep K (cutH H w) v d
  | .non, _, _, h => by cases h; exact .non
  | .bl b, _, _, h => by cases h; exact .bl b
  | .int b, _, _, h => by cases h; exact .int b
  | .str b, _, _, h => by cases h; exact .str b
  | .ty b, _, _, h => by cases h; exact .ty b
  | .adr a, _, _, h => by cases h; exact .adr a
  | .scr ds, _, p, h => by simp [D.nsc] at p
  | .lst ds, _, p, h => by
    simp only [D.nsc] at p
    cases h with
    | lst c d => exact .lst (by rw [cutH_ne (fun z => by rw [z, hw] at c; cases c)]; exact c) (RepA.cutF hw ds _ p d)
  | .tup ds, _, p, h => by
    simp only [D.nsc] at p
    cases h with
    | tup c d => exact .tup (by rw [cutH_ne (fun z => by rw [z, hw] at c; cases c)]; exact c) (RepA.cutF hw ds _ p d)
  | .ins C ns ds, _, p, h => by
    simp only [D.nsc] at p
    cases h with
    | ins c d e f => exact .ins (by rw [cutH_ne (fun z => by rw [z, hw] at c; cases c)]; exact c) d e (RepA.cutF hw ds _ p f)
  | .dK ks ds, _, p, h => by
    simp only [D.nsc] at p
    cases h with
    | dK c d e f => exact .dK (by rw [cutH_ne (fun z => by rw [z, hw] at c; cases c)]; exact c) d e (RepA.cutF hw ds _ p f)
  | .dT ks ds, _, p, h => by
    simp only [D.nsc] at p
    cases h with
    | dT c d e f => exact .dT (by rw [cutH_ne (fun z => by rw [z, hw] at c; cases c)]; exact c) d e (RepA.cutF hw ds _ p f)
  | .exn o C ns ds, _, p, h => by
    simp only [D.nsc] at p
    cases h with
    | exn0 c c6 => exact .exn0 (by rw [cutH_ne (fun z => by rw [z, hw] at c; cases c)]; exact c) c6
    | exn1 c1 c2 c3 c4 c5 c6 => exact .exn1 (by rw [cutH_ne (fun z => by rw [z, hw] at c1; cases c1)]; exact c1) (by rw [cutH_ne (fun z => by rw [z, hw] at c2; cases c2)]; exact c2) c3 c4 (RepA.cutF hw ds _ p c5) c6
  | .clo G fr ds, _, p, h => by
    simp only [D.nsc] at p
    have ne : ∀ {a : Addr} {φ : Heap → Prop}, H a = some (.ext φ) → a ≠ w := fun {a φ} c z => by rw [z, hw] at c; cases c
    cases h with
    | clo c1 c2 c3 c4 =>
      exact .clo (by rw [cutH_ne (ne c1)]; exact c1) (by rw [cutH_ne (ne c2)]; exact c2)
        ⟨c3.1, c3.2.1, c3.2.2.1, c3.2.2.2.1, fun i q v a b => by have z := c3.2.2.2.2 i q v a b; rw [cutH_ne (ne z)]; exact z⟩ (RepA.cutF hw ds _ p c4)
theorem RepA.cutF {K : Frag} {H : Hp} {w : Addr} {o : PySem.Obj} {xs : List V} (hw : H w = some (.frz o (.lst xs))) : ∀ (ds : List D) (vs : List V), D.nscA ds = true → RepA K H vs ds → RepA K (cutH H w) vs ds
  | [], _, _, h => by cases h; exact .nil
  | d :: ds, _, p, h => by
    simp only [D.nscA, Bool.and_eq_true] at p
    cases h with
    | cons a b => exact .cons (Rep.cutF hw d _ p.1 a) (RepA.cutF hw ds _ p.2 b)
end
section
variable {X : Cx} {kx kx' : XD} {ρ ρ' ρ'' : Ro} {M M' : Mem} {e : Expr} {d : D} {w : Addr} {ds : List D}
end
end Dl
namespace Dl
open PySem PySem.Spec PyProof.Rows L2
end Dl

/-! dicts: kept in Mem while they change, locked for good when they don't -/
namespace Dl
open PySem PySem.Spec PyProof.Rows L2
section
variable {κ β γ : Type} [DecidableEq κ]
def getA (xs : List (κ × β)) (k : κ) : Option β := (xs.find? fun q => decide (q.1 = k)).map (·.2)
def putA (xs : List (κ × β)) (k : κ) (v : β) : List (κ × β) := if (xs.any fun q => decide (q.1 = k)) = true then xs.map (fun q => if q.1 = k then (q.1, v) else q) else xs ++ [(k, v)]
def setdA (xs : List (κ × β)) (k : κ) (v : β) : List (κ × β) := if (getA xs k).isSome = true then xs else putA xs k v
theorem getA_cons (q : κ × β) (xs : List (κ × β)) (k : κ) : getA (q :: xs) k = if q.1 = k then some q.2 else getA xs k := by
  unfold getA
  rw [List.find?_cons]
  by_cases h : q.1 = k
  · rw [if_pos h, decide_eq_true h]; rfl
  · rw [if_neg h, decide_eq_false h]
theorem valV_cons' (q : κ × V) (xs : List (κ × V)) (k : κ) : valV (q :: xs) k = if q.1 = k then some q.2 else valV xs k := by
  by_cases h : q.1 = k
  · rw [if_pos h, valV_pos h]
  · rw [if_neg h, valV_neg h]
/-- what a dict's look-up gives, value beside data -/
def Look2 (K : Frag) (H : Hp) : Option V → Option D → Prop
  | none, none => True
  | some v, some d => Rep K H v d
  | _, _ => False
theorem get_rep {K : Frag} {H : Hp} (k : κ) : ∀ {vs : List (κ × V)} {kvs : List (κ × D)}, vs.map Prod.fst = kvs.map Prod.fst → RepA K H (vs.map Prod.snd) (kvs.map Prod.snd) → Look2 K H (valV vs k) (getA kvs k)
  | [], [], _, _ => trivial
  | [], _ :: _, h, _ => by simp at h
  | _ :: _, [], h, _ => by simp at h
  | v :: vs, q :: kvs, h, r => by
    simp only [List.map_cons, List.cons.injEq] at h
    simp only [List.map_cons] at r
    cases r with
    | cons r1 r2 =>
      rw [valV_cons', getA_cons, h.1]
      by_cases e : q.1 = k
      · rw [if_pos e, if_pos e]; exact r1
      · rw [if_neg e, if_neg e]; exact get_rep k h.2 r2
/-! typed -/
end
/-! ### keys -/
def kD : Key → D
  | .inl i => .int i
  | .inr x => .str x
theorem kD_rep {K : Frag} {H : Hp} {v : V} {k : Key} (r : Rep K H v (kD k)) : v = kV k := by
  cases k with
  | inl i => cases r; rfl
  | inr x => cases r; rfl
theorem kDs_rep {K : Frag} {H : Hp} : ∀ {ks : List Key} {vs : List V}, RepA K H vs (ks.map kD) → vs = ks.map kV
  | [], _, r => by cases r; rfl
  | k :: ks, _, r => by
    have r' : RepA K H _ (kD k :: ks.map kD) := r
    cases r' with
    | cons a b => rw [kD_rep a, kDs_rep b]; rfl
/-- a dict with tuples as keys, that changes or doesn't -/
inductive DctT (M : Mem) : D → List (List Key × D) → Prop
  | adr {w : Addr} {kvs : List (List Key × D)} : (w, Mu.dT kvs) ∈ M → DctT M (.adr w) kvs
  | frz (kvs : List (List Key × D)) : DctT M (.dT (kvs.map Prod.fst) (kvs.map Prod.snd)) kvs
inductive DctK (M : Mem) : D → List (Key × D) → Prop
  | adr {w : Addr} {kvs : List (Key × D)} : (w, Mu.dK kvs) ∈ M → DctK M (.adr w) kvs
  | frz (kvs : List (Key × D)) : DctK M (.dK (kvs.map Prod.fst) (kvs.map Prod.snd)) kvs
theorem DctT.rep {K : Frag} {M : Mem} {H H0 : Hp} {v : V} {d : D} {kvs : List (List Key × D)} (h : DctT M d kvs) (t : Ht K H0 H M) (r : Rep K H0 v d) : ∃ (a : Addr) (vs : List (List Key × V)), v = .ref a ∧ Rd H a (.dT vs) ∧ vs.map Prod.fst = kvs.map Prod.fst ∧ RepA K H0 (vs.map Prod.snd) (kvs.map Prod.snd) := by
  cases h with
  | adr hm =>
    cases r
    obtain ⟨_, vs, xs, h1, h2, h3, h4⟩ := t.mem _ hm
    subst h3
    exact ⟨_, vs, rfl, .inl h1, h2, h4⟩
  | frz kvs =>
    cases r with
    | @dT a o vs ks xs ds h1 h2 h3 h4 =>
      subst h3
      exact ⟨_, vs, rfl, .inr ⟨o, t.ex _ _ h1⟩, h2, h4⟩
theorem DctK.rep {K : Frag} {M : Mem} {H H0 : Hp} {v : V} {d : D} {kvs : List (Key × D)} (h : DctK M d kvs) (t : Ht K H0 H M) (r : Rep K H0 v d) : ∃ (a : Addr) (vs : List (Key × V)), v = .ref a ∧ Rd H a (.dK vs) ∧ vs.map Prod.fst = kvs.map Prod.fst ∧ RepA K H0 (vs.map Prod.snd) (kvs.map Prod.snd) := by
  cases h with
  | adr hm =>
    cases r
    obtain ⟨_, vs, xs, h1, h2, h3, h4⟩ := t.mem _ hm
    subst h3
    exact ⟨_, vs, rfl, .inl h1, h2, h4⟩
  | frz kvs =>
    cases r with
    | @dK a o vs ks xs ds h1 h2 h3 h4 =>
      subst h3
      exact ⟨_, vs, rfl, .inr ⟨o, t.ex _ _ h1⟩, h2, h4⟩
/-- either kind of dict, with a key: what a look-up gives -/
inductive DKey (M : Mem) (x y : D) : Option D → Prop
  | t {kvs : List (List Key × D)} {k : List Key} : DctT M x kvs → y = .tup (k.map kD) → DKey M x y (getA kvs k)
  | k {kvs : List (Key × D)} {k : Key} : DctK M x kvs → y = kD k → DKey M x y (getA kvs k)
theorem DKey.get {K : Frag} {M : Mem} {H H0 : Hp} {v u : V} {x y : D} {o : Option D} (h : DKey M x y o) (t : Ht K H0 H M) (r : Rep K H0 v x) (ru : Rep K H0 u y) : ∃ a q, v = .ref a ∧ DGet H a u q ∧ Look2 K H0 q o := by
  cases h with
  | @t kvs k h e =>
    obtain ⟨a, vs, h1, h2, h3, h4⟩ := h.rep t r
    subst e
    cases ru with
    | @tup b xs _ c d =>
      have ek := kDs_rep d
      subst ek
      exact ⟨a, valV vs k, h1, .inr ⟨vs, k, b, h2, rfl, t.ex _ _ c, rfl⟩, get_rep k h3 h4⟩
  | @k kvs k h e =>
    obtain ⟨a, vs, h1, h2, h3, h4⟩ := h.rep t r
    subst e
    rw [kD_rep ru]
    exact ⟨a, valV vs k, h1, .inl ⟨vs, k, h2, rfl, rfl⟩, get_rep k h3 h4⟩
section
variable {X : Cx} {kx kx' : XD} {ρ ρ' ρ'' : Ro} {M M' : Mem} {P : Out → Mem → Prop} {pos p apos cpos tpos : Pos} {tg a b c e o ix f : Expr} {es : List Expr} {x y z d : D} {w C : Addr} {α β κ : Type} {k : Nat} {op : Option D} {N : List Str} {sc : Scope}
theorem m1 (base : attributeBase o "get" X.env (eval o X.env) = eval o X.env := by rfl)
    (few : ((backTo cpos (starEach [e] X.env)).all (fun x => !x.1) && (backToKw cpos (keywordEach [] X.env)).all (fun x => x.1.isSome) && decide (([e] : List Expr).length + ([] : List Keyword).length + (if ([] : List Keyword).isEmpty then 0 else 1) < 30)) = true := by rfl)
    (line : (apos.endLine == cpos.line) = true := by rfl) (trees : backTo cpos (starEach [e] X.env) = [(false, eval e X.env)] := by rfl) : M1 X o "get" apos e cpos := ⟨base, few, line, trees⟩
theorem m2 {m : Str} (base : attributeBase o m X.env (eval o X.env) = eval o X.env := by rfl)
    (few : ((backTo cpos (starEach [e, f] X.env)).all (fun x => !x.1) && (backToKw cpos (keywordEach [] X.env)).all (fun x => x.1.isSome) && decide (([e, f] : List Expr).length + ([] : List Keyword).length + (if ([] : List Keyword).isEmpty then 0 else 1) < 30)) = true := by rfl)
    (line : (apos.endLine == cpos.line) = true := by rfl) (trees : backTo cpos (starEach [e, f] X.env) = [(false, eval e X.env), (false, eval f X.env)] := by rfl) : M2 X o m apos e f cpos := ⟨base, few, line, trees⟩
end
/-! ### setdefault of a dict with tuples as keys -/
def rSetdT : V → List V → Hp → VK → Prop := fun x xs H Q => ∃ (a : Addr) (vs : List (List Key × V)) (k : List Key) (b : Addr) (dv : V), x = .ref a ∧ xs = [.ref b, dv] ∧ H a = some (.dT vs) ∧ H b = some (.tup (k.map kV)) ∧ vs.length < sizeLine ∧
  (∀ v, valV vs k = some v → Q v H) ∧ (valV vs k = none → Q dv (upd H a (.dT (putK vs k dv))))
section
variable {X : Cx} {kx kx' : XD} {ρ ρ' ρ'' : Ro} {M M' : Mem} {P : Out → Mem → Prop} {pos p apos cpos spos : Pos} {tg a b c e o ix f : Expr} {x y z d : D} {w C : Addr} {k : Nat} {N : List Str} {sc : Scope}
end
end Dl

/-! walks over dicts that are locked -/
namespace Dl
open PySem PySem.Spec PyProof.Rows L2
/-- the pairs of a locked dict whose keys are tuples, each pair a new tuple -/
def ItiT (d : Addr) (o : PySem.Obj) (kvs : List (List Key × V)) : It :=
  ⟨fun i H => H d = some (.frz o (.dT kvs)) ∧ i < kvs.length,
    fun i H x H' => ∃ T k v q, kvs[i]? = some (k, v) ∧ x = .ref T ∧ H T = none ∧ H q = some (.tup (k.map kV)) ∧ H' = upd H T (.tup [.ref q, v]),
    fun i H => H d = some (.frz o (.dT kvs)) ∧ kvs.length ≤ i⟩
section
variable {P : Program} {w : World} {K : PySem.W.Frag} {d : Addr} {o : PySem.Obj} {es : Array DictEntry} {ep : Nat}
end
def iItemsT (td : TE) : TI := fun σ H R => td σ H fun x H1 => ∃ d o kvs, x = .ref d ∧ H1 d = some (.frz o (.dT kvs)) ∧ R (ItiT d o kvs) H1
section
variable {X : Cx} {kx kx' : XD} {ρ ρ' ρ'' : Ro} {M M' : Mem} {P : Out → Mem → Prop} {pos p apos cpos tpos : Pos} {tg a b c e o ix f : Expr} {es elts : List Expr} {kk : Nat} {x y z d : D} {w C : Addr} {α β κ : Type} {k : Nat}
end
end Dl

/-! things that own what they are made of: trees of lists, objects, dicts -/
namespace Dl
open PySem PySem.Spec PyProof.Rows L2
inductive Ow where
  | fr (d : D) | lst (a : Addr) (xs : List Ow) | ins (a C : Addr) (ns : List Str) (xs : List Ow) | dK (a : Addr) (ks : List Key) (xs : List Ow) | dT (a : Addr) (ks : List (List Key)) (xs : List Ow) | tup (xs : List Ow) | seq (xs : List Ow)
mutual
def Ow.root : Ow → D
  | .fr d => d
  | .lst a _ => .adr a
  | .ins a _ _ _ => .adr a
  | .dK a _ _ => .adr a
  | .dT a _ _ => .adr a
  | .tup xs => .tup (Ow.rootA xs)
  | .seq xs => .lst (Ow.rootA xs)
def Ow.rootA : List Ow → List D
  | [] => []
  | o :: os => o.root :: Ow.rootA os
end
mutual
def Ow.mem : Ow → Mem
  | .fr _ => []
  | .lst a xs => (a, .lst (Ow.rootA xs)) :: Ow.memA xs
  | .ins a C ns xs => (a, .ins C ns (Ow.rootA xs)) :: Ow.memA xs
  | .dK a ks xs => (a, .dK (ks.zip (Ow.rootA xs))) :: Ow.memA xs
  | .dT a ks xs => (a, .dT (ks.zip (Ow.rootA xs))) :: Ow.memA xs
  | .tup xs => Ow.memA xs
  | .seq xs => Ow.memA xs
def Ow.memA : List Ow → Mem
  | [] => []
  | o :: os => o.mem ++ Ow.memA os
end
mutual
def Ow.frz : Ow → D
  | .fr d => d
  | .lst _ xs => .scr (Ow.frzA xs)
  | .ins _ C ns xs => .ins C ns (Ow.frzA xs)
  | .dK _ ks xs => .dK ks (Ow.frzA xs)
  | .dT _ ks xs => .dT ks (Ow.frzA xs)
  | .tup xs => .tup (Ow.frzA xs)
  | .seq xs => .lst (Ow.frzA xs)
def Ow.frzA : List Ow → List D
  | [] => []
  | o :: os => o.frz :: Ow.frzA os
end
mutual
/-- keys and values are as many -/
def Ow.fit : Ow → Prop
  | .fr _ => True
  | .lst _ xs => Ow.fitA xs
  | .ins _ _ _ xs => Ow.fitA xs
  | .dK _ ks xs => ks.length = xs.length ∧ Ow.fitA xs
  | .dT _ ks xs => ks.length = xs.length ∧ Ow.fitA xs
  | .tup xs => Ow.fitA xs
  | .seq xs => Ow.fitA xs
def Ow.fitA : List Ow → Prop
  | [] => True
  | o :: os => o.fit ∧ Ow.fitA os
end
theorem rootA_map : ∀ os : List Ow, Ow.rootA os = os.map Ow.root
  | [] => by simp [Ow.rootA]
  | o :: os => by simp [Ow.rootA, rootA_map os]
/-! ### order in Mem is of no matter -/
section
variable {K : Frag} {H0 H H0' H' : Hp} {M M2 M' N : Mem}
theorem Ht.perm (t : Ht K H0 H M) (p : M.Perm M2) : Ht K H0 H M2 :=
  ⟨t.ex, (p.map Prod.fst).nodup_iff.mp t.nd, fun q hq => t.mem q (p.mem_iff.mpr hq), t.tb⟩
theorem dom_perm (p : M.Perm M2) (a : Addr) : a ∈ M.dom ↔ a ∈ M2.dom := (p.map Prod.fst).mem_iff
theorem Go.permL (g : Go H0 H M H0' H' M') (p : M.Perm M2) : Go H0 H M2 H0' H' M' :=
  ⟨g.e0, fun b o e hb n => g.e b o e (fun z => hb ((dom_perm p b).mp z)) n, fun a h1 h2 h3 => g.new a h1 h2 fun z => h3 ((dom_perm p a).mp z), fun a ha => (g.dom a ha).imp (dom_perm p a).mp id, g.there⟩
theorem Go.permR (g : Go H0 H M H0' H' M') (p : M'.Perm N) : Go H0 H M H0' H' N := ⟨g.e0, g.e, g.new, fun a ha => g.dom a ((dom_perm p a).mpr ha), g.there⟩
/-- a part of Mem -/
theorem Ht.sub (t : Ht K H0 H M) (s : M2.Sublist M) : Ht K H0 H M2 := ⟨t.ex, t.nd.sublist (s.map Prod.fst), fun q hq => t.mem q (s.subset hq), t.tb⟩
end
section
variable {X : Cx} {kx kx' : XD} {ρ ρ' ρ'' : Ro} {M M2 M' : Mem} {P : Out → Mem → Prop} {e : Expr} {sts : List Stmt}
theorem Hx.perm {W : WX} {H0 H : Hp} (hx : Hx X W H0 H M kx) (p : M.Perm M2) (i : ∀ cls fs ρ' m, kx' cls fs ρ' m → ∃ m', m.Perm m' ∧ kx cls fs ρ' m') : Hx X W H0 H M2 kx' :=
  fun cls dd σ' H' H0' fs ρ' m g t s xr q => by
    obtain ⟨m', p', q'⟩ := i _ _ _ _ q
    exact hx cls dd σ' H' H0' fs ρ' m' ((g.permL p.symm).permR p') (t.perm p') s xr q'
theorem DE.perm {k k' : D → Mem → Prop} (p : M.Perm M2) (h : DE X kx' e ρ M2 k') (hk : ∀ d m, k' d m → ∃ m', m.Perm m' ∧ k d m') (i : ∀ cls fs ρ' m, kx' cls fs ρ' m → ∃ m', m.Perm m' ∧ kx cls fs ρ' m') : DE X kx e ρ M k :=
  fun σ H H0 t s W tk hx Q q => h σ H H0 (t.perm p) s W tk (hx.perm p i) Q fun v H' H0' d m g t' r kk => by
    obtain ⟨m', p', k2⟩ := hk d m kk
    exact q v H' H0' d m' ((g.permL p.symm).permR p') (t'.perm p') r k2
theorem DS.perm (p : M.Perm M2) (h : DS X kx sts ρ M2 P) (i : ∀ cls fs ρ' m, kx cls fs ρ' m → kx cls fs ρ' m := fun _ _ _ _ h => h) : DS X kx sts ρ M P := fun σ H H0 t sl W tk hx D c =>
  h σ H H0 (t.perm p) sl W tk (fun cls dd σ' H' H0' fs ρ' m g t' s' xr q => hx cls dd σ' H' H0' fs ρ' m (g.permL p.symm) t' s' xr q) D
    ⟨fun σ' H' H0' ρ' M' g t' s' q => c.nx σ' H' H0' ρ' M' (g.permL p.symm) t' s' q, fun σ' H' H0' ρ' M' g t' s' q => c.bk σ' H' H0' ρ' M' (g.permL p.symm) t' s' q, fun σ' H' H0' ρ' M' g t' s' q => c.ct σ' H' H0' ρ' M' (g.permL p.symm) t' s' q, fun v H' H0' d M' g t' r q => c.rt v H' H0' d M' (g.permL p.symm) t' r q⟩
end
/-! ### locks -/
def Mu.dict : Mu → Bool
  | .lst _ => true
  | .dK _ => true
  | .dT _ => true
  | _ => false
def Mu.lock : Mu → Mu
  | .lst ds => .fL ds
  | .dK kvs => .fK kvs
  | .dT kvs => .fT kvs
  | m => m
def lockM (c : Mem) : Mem := c.map fun p => (p.1, p.2.lock)
def locksOf (c : Mem) : List Addr := (c.filter fun p => p.2.dict).map Prod.fst
def lockL (H : Hp) (od : Addr → PySem.Obj) (L : List Addr) : Hp := fun b => if b ∈ L then (H b).map fun u => .frz (od b) u else H b
theorem lockL_nil {H : Hp} {od : Addr → PySem.Obj} : lockL H od [] = H := by funext b; unfold lockL; rw [if_neg (by simp)]
theorem lockL_ne {H : Hp} {od : Addr → PySem.Obj} {L : List Addr} {b : Addr} (h : b ∉ L) : lockL H od L b = H b := by unfold lockL; rw [if_neg h]
theorem lockL_in {H : Hp} {od : Addr → PySem.Obj} {L : List Addr} {b : Addr} (h : b ∈ L) : lockL H od L b = (H b).map fun u => .frz (od b) u := by unfold lockL; rw [if_pos h]
theorem lockL_cons {H : Hp} {od : Addr → PySem.Obj} {L : List Addr} {a : Addr} {u : HO} {o : PySem.Obj} (ha : H a = some u) (hn : a ∉ L) : lockL (upd H a (.frz o u)) od L = lockL H (fun b => if b = a then o else od b) (a :: L) := by
  funext b
  by_cases hb : b = a
  · subst hb
    rw [lockL_ne hn, upd_same, lockL_in (by simp), ha]
    simp
  · by_cases hl : b ∈ L
    · rw [lockL_in hl, lockL_in (List.mem_cons_of_mem _ hl), upd_ne hb]
      simp [hb]
    · rw [lockL_ne hl, upd_ne hb, lockL_ne (by simp [hb, hl])]
theorem inv_locks {X : Cx} {pins : List (Addr × PySem.Obj)} {σ : L2.St} {s : Shared} : ∀ (L : List Addr) (H : Hp), Inv X pins σ H s → L.Nodup → (∀ a ∈ L, ∃ u, H a = some u ∧ Mut (some u)) → ∃ od, Inv X pins σ (lockL H od L) s
  | [], H, I, _, _ => ⟨fun _ => default, by rw [lockL_nil]; exact I⟩
  | a :: L, H, I, nd, h => by
    obtain ⟨n1, n2⟩ := List.nodup_cons.mp nd
    obtain ⟨u, hu, mu⟩ := h a (by simp)
    obtain ⟨o, I1⟩ := I.lock hu mu
    obtain ⟨od, I2⟩ := inv_locks L _ I1 n2 fun b hb => by
      obtain ⟨v, hv, mv⟩ := h b (List.mem_cons_of_mem _ hb)
      exact ⟨v, by rw [upd_ne (fun z => n1 (by rw [← z]; exact hb))]; exact hv, mv⟩
    rw [lockL_cons hu n1] at I2
    exact ⟨_, I2⟩
theorem lock_none {H : Hp} {od : Addr → PySem.Obj} {L : List Addr} {b : Addr} (e : lockL H od L b = none) : H b = none := by
  unfold lockL at e
  split at e
  · cases z : H b with
    | none => rfl
    | some u => rw [z] at e; cases e
  · exact e
def unlockL (H H' : Hp) (L : List Addr) : Hp := fun b => if b ∈ L then H b else H' b
theorem TB.lock {H0 H : Hp} {od : Addr → PySem.Obj} {L : List Addr} (t : TB H0 H) (h : ∀ a ∈ L, NX (H a)) : TB H0 (lockL H od L) :=
  t.keep (fun _ _ n _ => n) (fun b ps e => by rw [lockL_ne (fun z => (h b z).1 ps e)]; exact e) (fun c φ e => by rw [lockL_ne (fun z => (h c z).2 φ e)]; exact e) fun _ _ z => z
section
variable {X : Cx} {σ : L2.St} {H : Hp} {L : List Addr}
theorem sE_post {e : Expr} {Q : VK} (h : sE X e σ H fun v H1 => ∃ L : List Addr, L.Nodup ∧ (∀ a ∈ L, ∃ u, H1 a = some u ∧ Mut (some u)) ∧ ∀ od, Q v (lockL H1 od L)) : sE X e σ H Q := sE_iff.mpr fun pins s I => by
  refine thn (sE_iff.mp h pins s I) fun u s1 ⟨v, H1, J, r, L, nd, hL, q⟩ => ?_
  obtain ⟨od, J1⟩ := inv_locks L H1 J nd hL
  exact ⟨v, _, J1, r, q od⟩
end
theorem MuRep.mut {K : Frag} {H0 H : Hp} {a : Addr} {m : Mu} (h : MuRep K H0 H a m) (d : m.dict = true) : ∃ u, H a = some u ∧ Mut (some u) := by
  cases m with
  | lst ds => obtain ⟨vs, h, _⟩ := h; exact ⟨_, h, trivial⟩
  | fL ds => cases d
  | ins C ns ds => cases d
  | dK kvs => obtain ⟨vs, xs, h, _⟩ := h; exact ⟨_, h, trivial⟩
  | dT kvs => obtain ⟨vs, xs, h, _⟩ := h; exact ⟨_, h, trivial⟩
  | fK kvs => cases d
  | fT kvs => cases d
theorem locks_sub (c : Mem) : (locksOf c).Sublist c.dom := List.Sublist.map _ List.filter_sublist
theorem locks_mem {c : Mem} {a : Addr} (h : a ∈ locksOf c) : ∃ p ∈ c, p.1 = a ∧ p.2.dict = true := by
  obtain ⟨p, hp, rfl⟩ := List.mem_map.mp h
  obtain ⟨a, b⟩ := List.mem_filter.mp hp
  exact ⟨p, a, rfl, b⟩
section
variable {K : Frag} {H0 H : Hp} {c R : Mem}
theorem Ht.lockable (t : Ht K H0 H (c ++ R)) : (locksOf c).Nodup ∧ ∀ a ∈ locksOf c, ∃ u, H a = some u ∧ Mut (some u) := by
  have tl := t.left
  refine ⟨tl.nd.sublist (locks_sub c), fun a ha => ?_⟩
  obtain ⟨p, hp, rfl, hd⟩ := locks_mem ha
  exact (tl.mem p hp).2.mut hd
theorem lockM_dom (c : Mem) : (lockM c).dom = c.dom := by
  unfold lockM Mem.dom
  rw [List.map_map]; rfl
theorem in_one {M : Mem} (nd : M.dom.Nodup) {p q : Addr × Mu} (hp : p ∈ M) (hq : q ∈ M) (e : p.1 = q.1) : p = q := by
  induction M with
  | nil => simp at hp
  | cons x M ih =>
    have nd' : (x.1 :: Mem.dom M).Nodup := nd
    obtain ⟨n1, n2⟩ := List.nodup_cons.mp nd'
    rcases List.mem_cons.mp hp with hp1 | hp1
    · rcases List.mem_cons.mp hq with hq1 | hq1
      · rw [hp1, hq1]
      · exact absurd (show x.1 ∈ Mem.dom M from List.mem_map.mpr ⟨q, hq1, by rw [← e, hp1]⟩) n1
    · rcases List.mem_cons.mp hq with hq1 | hq1
      · exact absurd (show x.1 ∈ Mem.dom M from List.mem_map.mpr ⟨p, hp1, by rw [e, hq1]⟩) n1
      · exact ih n2 hp1 hq1
theorem Ht.lnx (t : Ht K H0 H (c ++ R)) : ∀ a ∈ locksOf c, NX (H a) := fun a ha => by
  obtain ⟨p, hp, rfl, _⟩ := locks_mem ha
  exact (t.mem p (List.mem_append_left _ hp)).2.nx
/-- the heap with the dicts of c locked -/
theorem Ht.locked (t : Ht K H0 H (c ++ R)) (od : Addr → PySem.Obj) : Ht K H0 (lockL H od (locksOf c)) (lockM c ++ R) ∧ Go H0 H (c ++ R) H0 (lockL H od (locksOf c)) (lockM c ++ R) := by
  have dd : Mem.dom (lockM c ++ R) = Mem.dom (c ++ R) := by
    have h1 : Mem.dom (lockM c ++ R) = Mem.dom (lockM c) ++ Mem.dom R := by simp [Mem.dom]
    have h2 : Mem.dom (c ++ R) = Mem.dom c ++ Mem.dom R := by simp [Mem.dom]
    rw [h1, h2, lockM_dom]
  have inM : ∀ a ∈ locksOf c, a ∈ Mem.dom (c ++ R) := fun a ha => by
    obtain ⟨p, hp, rfl, _⟩ := locks_mem ha
    exact List.mem_map.mpr ⟨p, List.mem_append_left _ hp, rfl⟩
  have z0 : ∀ a ∈ locksOf c, H0 a = none := fun a ha => by
    obtain ⟨p, hp, rfl, _⟩ := locks_mem ha
    exact (t.mem p (List.mem_append_left _ hp)).1
  refine ⟨⟨fun b o e => ?_, by rw [dd]; exact t.nd, fun q hq => ?_, t.tb.lock t.lnx⟩, ⟨Same.refl _, fun b o e hb _ => ?_, fun _ h _ _ => h, fun a ha => by rw [dd] at ha; exact .inl ha, fun b e => lock_none e⟩⟩
  · rw [lockL_ne (fun z => by rw [z0 b z] at e; cases e)]; exact t.ex _ _ e
  · rcases List.mem_append.mp hq with hq | hq
    · obtain ⟨p, hp, rfl⟩ := List.mem_map.mp hq
      obtain ⟨m1, m2⟩ := t.mem p (List.mem_append_left _ hp)
      refine ⟨m1, ?_⟩
      obtain ⟨a, m⟩ := p
      have no : m.dict = false → a ∉ locksOf c := fun hd z => by
        obtain ⟨p', hp', e, hd'⟩ := locks_mem z
        have := in_one t.left.nd hp hp' e.symm
        subst this
        have hd : m.dict = false := hd
        have hd' : m.dict = true := hd'
        rw [hd] at hd'; cases hd'
      have yes : m.dict = true → a ∈ locksOf c := fun hd => List.mem_map.mpr ⟨(a, m), List.mem_filter.mpr ⟨hp, hd⟩, rfl⟩
      cases m with
      | fL ds => exact m2.mono (Same.refl _) fun o e _ => by rw [lockL_ne (no rfl)]; exact e
      | lst ds =>
        obtain ⟨vs, h1, h2⟩ := m2
        exact ⟨od a, vs, by rw [lockL_in (yes rfl)]; show (H a).map _ = _; rw [h1]; rfl, h2⟩
      | ins C ns ds => exact m2.mono (Same.refl _) fun o e _ => by rw [lockL_ne (no rfl)]; exact e
      | fK kvs => exact m2.mono (Same.refl _) fun o e _ => by rw [lockL_ne (no rfl)]; exact e
      | fT kvs => exact m2.mono (Same.refl _) fun o e _ => by rw [lockL_ne (no rfl)]; exact e
      | dK kvs =>
        obtain ⟨vs, xs, h1, h2⟩ := m2
        exact ⟨od a, vs, xs, by rw [lockL_in (yes rfl)]; show (H a).map _ = _; rw [h1]; rfl, h2⟩
      | dT kvs =>
        obtain ⟨vs, xs, h1, h2⟩ := m2
        exact ⟨od a, vs, xs, by rw [lockL_in (yes rfl)]; show (H a).map _ = _; rw [h1]; rfl, h2⟩
    · obtain ⟨m1, m2⟩ := t.mem q (List.mem_append_right _ hq)
      refine ⟨m1, m2.mono (Same.refl _) fun o e _ => ?_⟩
      rw [lockL_ne fun z => ?_]
      · exact e
      · obtain ⟨p', hp', e', _⟩ := locks_mem z
        have nd := t.nd
        rw [show Mem.dom (c ++ R) = Mem.dom c ++ Mem.dom R by simp [Mem.dom]] at nd
        exact (List.nodup_append.mp nd).2.2 p'.1 (List.mem_map.mpr ⟨p', hp', rfl⟩) q.1 (List.mem_map.mpr ⟨q, hq, rfl⟩) e'
  · rw [lockL_ne (fun z => hb (inM b z))]; exact e
end
/-! ### laid for good -/
theorem lockM_app (a b : Mem) : lockM (a ++ b) = lockM a ++ lockM b := by unfold lockM; rw [List.map_append]
section
variable {K : Frag}
/-- one thing more that never changes -/
theorem Ht.lay {H0 H : Hp} {a : Addr} {m : Mu} {R : Mem} (t : Ht K H0 H ((a, m) :: R)) {o : HO} (ho : H a = some o) : Ht K (upd H0 a o) H R ∧ Same H0 (upd H0 a o) ∧ Go H0 H ((a, m) :: R) (upd H0 a o) H R := by
  have nd : (a :: R.dom).Nodup := t.nd
  obtain ⟨n1, n2⟩ := List.nodup_cons.mp nd
  have h0 := (t.mem (a, m) List.mem_cons_self).1
  have sm : Same H0 (upd H0 a o) := same_new h0
  refine ⟨⟨fun b u e => ?_, n2, fun q hq => ?_, t.tb.frz ho (fun ps z => (t.mem (a, m) List.mem_cons_self).2.nx.1 ps (by rw [ho, z])) fun ps z => (t.mem (a, m) List.mem_cons_self).2.nx.1 ps (by rw [ho, z])⟩, sm, ⟨sm, fun _ _ e _ _ => e, fun b b1 b2 b3 => ?_, fun b hb => .inl (List.mem_cons_of_mem _ hb), fun _ e => e⟩⟩
  · by_cases hb : b = a
    · subst hb; rw [upd_same] at e; cases e; exact ho
    · rw [upd_ne hb] at e; exact t.ex _ _ e
  · obtain ⟨m1, m2⟩ := t.mem q (List.mem_cons_of_mem _ hq)
    have ne : q.1 ≠ a := fun z => n1 (by rw [← z]; exact List.mem_map.mpr ⟨q, hq, rfl⟩)
    exact ⟨by rw [upd_ne ne]; exact m1, m2.mono sm fun _ e _ => e⟩
  · rw [upd_ne (fun z => b3 (by rw [z]; exact List.mem_cons_self))]; exact b1
theorem zip_fst {α β : Type} : ∀ {xs : List α} {ys : List β}, xs.length = ys.length → (xs.zip ys).map Prod.fst = xs
  | [], [], _ => rfl
  | [], _ :: _, h => by simp at h
  | _ :: _, [], h => by simp at h
  | x :: xs, y :: ys, h => by
    simp only [List.zip_cons_cons, List.map_cons]
    rw [zip_fst (by simpa using h)]
theorem zip_snd {α β : Type} : ∀ {xs : List α} {ys : List β}, xs.length = ys.length → (xs.zip ys).map Prod.snd = ys
  | [], [], _ => rfl
  | [], _ :: _, h => by simp at h
  | _ :: _, [], h => by simp at h
  | x :: xs, y :: ys, h => by
    simp only [List.zip_cons_cons, List.map_cons]
    rw [zip_snd (by simpa using h)]
mutual
theorem frz_ok : ∀ (o : Ow) {H0 H : Hp} {R : Mem} {v : V}, o.fit → Ht K H0 H (lockM o.mem ++ R) → Rep K H0 v o.root → ∃ H0', Ht K H0' H R ∧ Rep K H0' v o.frz ∧ Same H0 H0' ∧ Go H0 H (lockM o.mem ++ R) H0' H R
  | .fr d, H0, H, R, v, _, t, r => by
    simp only [Ow.mem, Ow.root, Ow.frz] at *
    exact ⟨H0, t, r, Same.refl _, Go.refl⟩
  | .lst a xs, H0, H, R, v, f, t, r => by
    simp only [Ow.mem, Ow.root, Ow.frz, Ow.fit] at *
    have p : (lockM ((a, .lst (Ow.rootA xs)) :: Ow.memA xs) ++ R).Perm (lockM (Ow.memA xs) ++ ((a, .fL (Ow.rootA xs)) :: R)) := (List.perm_middle).symm
    have t2 := t.perm p
    obtain ⟨_, ob, vs, h1, h2⟩ := t2.mem (a, .fL (Ow.rootA xs)) (by simp)
    obtain ⟨H0', t3, r3, sm, g3⟩ := frzA_ok xs f t2 h2
    obtain ⟨t4, sm4, g4⟩ := t3.lay h1
    cases r
    exact ⟨_, t4, .scr (.inl (.inr ⟨ob, upd_same⟩)) (r3.mo sm4), sm.trans sm4, (g3.permL p.symm).trans g4⟩
  | .ins a C ns xs, H0, H, R, v, f, t, r => by
    simp only [Ow.mem, Ow.root, Ow.frz, Ow.fit] at *
    have p : (lockM ((a, .ins C ns (Ow.rootA xs)) :: Ow.memA xs) ++ R).Perm (lockM (Ow.memA xs) ++ ((a, .ins C ns (Ow.rootA xs)) :: R)) := (List.perm_middle).symm
    have t2 := t.perm p
    obtain ⟨_, dx, vs, ys, h1, h2, h3, h4⟩ := t2.mem (a, .ins C ns (Ow.rootA xs)) (by simp)
    obtain ⟨H0', t3, r3, sm, g3⟩ := frzA_ok xs f t2 h4
    obtain ⟨t4, sm4, g4⟩ := t3.lay h1
    cases r
    exact ⟨_, t4, .ins upd_same h2 h3 (r3.mo sm4), sm.trans sm4, (g3.permL p.symm).trans g4⟩
  | .dK a ks xs, H0, H, R, v, f, t, r => by
    simp only [Ow.mem, Ow.root, Ow.frz, Ow.fit] at *
    have p : (lockM ((a, .dK (ks.zip (Ow.rootA xs))) :: Ow.memA xs) ++ R).Perm (lockM (Ow.memA xs) ++ ((a, .fK (ks.zip (Ow.rootA xs))) :: R)) := (List.perm_middle).symm
    have t2 := t.perm p
    obtain ⟨_, ob, vs, ys, h1, h2, h3, h4⟩ := t2.mem (a, .fK (ks.zip (Ow.rootA xs))) (by simp)
    have lx : ks.length = (Ow.rootA xs).length := by rw [rootA_map, List.length_map]; exact f.1
    rw [zip_snd lx] at h4
    rw [zip_fst lx] at h2
    obtain ⟨H0', t3, r3, sm, g3⟩ := frzA_ok xs f.2 t2 h4
    obtain ⟨t4, sm4, g4⟩ := t3.lay h1
    cases r
    exact ⟨_, t4, .dK upd_same h2 h3 (r3.mo sm4), sm.trans sm4, (g3.permL p.symm).trans g4⟩
  | .dT a ks xs, H0, H, R, v, f, t, r => by
    simp only [Ow.mem, Ow.root, Ow.frz, Ow.fit] at *
    have p : (lockM ((a, .dT (ks.zip (Ow.rootA xs))) :: Ow.memA xs) ++ R).Perm (lockM (Ow.memA xs) ++ ((a, .fT (ks.zip (Ow.rootA xs))) :: R)) := (List.perm_middle).symm
    have t2 := t.perm p
    obtain ⟨_, ob, vs, ys, h1, h2, h3, h4⟩ := t2.mem (a, .fT (ks.zip (Ow.rootA xs))) (by simp)
    have lx : ks.length = (Ow.rootA xs).length := by rw [rootA_map, List.length_map]; exact f.1
    rw [zip_snd lx] at h4
    rw [zip_fst lx] at h2
    obtain ⟨H0', t3, r3, sm, g3⟩ := frzA_ok xs f.2 t2 h4
    obtain ⟨t4, sm4, g4⟩ := t3.lay h1
    cases r
    exact ⟨_, t4, .dT upd_same h2 h3 (r3.mo sm4), sm.trans sm4, (g3.permL p.symm).trans g4⟩
  | .tup xs, H0, H, R, v, f, t, r => by
    simp only [Ow.mem, Ow.root, Ow.frz, Ow.fit] at *
    cases r with
    | tup h1 h2 =>
      obtain ⟨H0', t3, r3, sm, g3⟩ := frzA_ok xs f t h2
      exact ⟨_, t3, .tup (sm _ _ h1) r3, sm, g3⟩
  | .seq xs, H0, H, R, v, f, t, r => by
    simp only [Ow.mem, Ow.root, Ow.frz, Ow.fit] at *
    cases r with
    | lst h1 h2 =>
      obtain ⟨H0', t3, r3, sm, g3⟩ := frzA_ok xs f t h2
      exact ⟨_, t3, .lst (sm _ _ h1) r3, sm, g3⟩
theorem frzA_ok : ∀ (os : List Ow) {H0 H : Hp} {R : Mem} {vs : List V}, Ow.fitA os → Ht K H0 H (lockM (Ow.memA os) ++ R) → RepA K H0 vs (Ow.rootA os) → ∃ H0', Ht K H0' H R ∧ RepA K H0' vs (Ow.frzA os) ∧ Same H0 H0' ∧ Go H0 H (lockM (Ow.memA os) ++ R) H0' H R
  | [], H0, H, R, vs, _, t, r => by
    simp only [Ow.memA, Ow.rootA, Ow.frzA] at *
    exact ⟨H0, t, r, Same.refl _, Go.refl⟩
  | o :: os, H0, H, R, vs, f, t, r => by
    simp only [Ow.memA, Ow.rootA, Ow.frzA, Ow.fitA] at *
    rw [lockM_app, List.append_assoc] at t
    cases r with
    | cons r1 r2 =>
      obtain ⟨H1, t1, q1, sm1, g1⟩ := frz_ok o f.1 t r1
      obtain ⟨H2, t2, q2, sm2, g2⟩ := frzA_ok os f.2 t1 (r2.mo sm1)
      exact ⟨H2, t2, .cons (q1.mo sm2) q2, sm1.trans sm2, by rw [lockM_app, List.append_assoc]; exact g1.trans g2⟩
end
end
/-! ### what a value owns, by its kind -/
section
variable {α β γ κ : Type}
/-- r is owned as d, by what stands at m -/
def OwR (E : β → Ow → Prop) (r : β) (d : D) (m : Mem) : Prop := ∃ o, E r o ∧ d = o.root ∧ m = o.mem
/-- a kind of owned things, and how they look when laid for good -/
structure OwK (E : β → Ow → Prop) (enc : β → D) : Prop where
  frz : ∀ r o, E r o → o.frz = enc r
  fit : ∀ r o, E r o → o.fit
def isFr (f : β → D) (r : β) (o : Ow) : Prop := o = .fr (f r)
inductive All2 (E : β → Ow → Prop) : List β → List Ow → Prop
  | nil : All2 E [] []
  | cons {r : β} {rs : List β} {o : Ow} {os : List Ow} : E r o → All2 E rs os → All2 E (r :: rs) (o :: os)
theorem All2.frz {E : β → Ow → Prop} {enc : β → D} (k : OwK E enc) {rs : List β} {os : List Ow} (h : All2 E rs os) : Ow.frzA os = rs.map enc ∧ Ow.fitA os := by
  induction h with
  | nil => exact ⟨by simp [Ow.frzA], by simp [Ow.fitA]⟩
  | cons a b ih => exact ⟨by simp [Ow.frzA, k.frz _ _ a, ih.1], by simp [Ow.fitA, k.fit _ _ a, ih.2]⟩
theorem All2.len {E : β → Ow → Prop} {rs : List β} {os : List Ow} (h : All2 E rs os) : os.length = rs.length := by
  induction h with
  | nil => rfl
  | cons a b ih => rw [List.length_cons, List.length_cons, ih]
theorem All2.get {E : β → Ow → Prop} {rs : List β} {os : List Ow} (h : All2 E rs os) : ∀ {i : Nat} {r : β}, rs[i]? = some r → ∃ o, os[i]? = some o ∧ E r o := by
  induction h with
  | nil => intro i r e; simp at e
  | cons a b ih =>
    intro i r e
    cases i with
    | zero => simp at e; subst e; exact ⟨_, rfl, a⟩
    | succ i => simpa using ih (by simpa using e)
theorem All2.set {E : β → Ow → Prop} {rs : List β} {os : List Ow} {r : β} {o : Ow} (h : All2 E rs os) (e : E r o) : ∀ (i : Nat), All2 E (rs.set i r) (os.set i o) := by
  induction h with
  | nil => intro i; exact .nil
  | cons a b ih =>
    intro i
    cases i with
    | zero => exact .cons e b
    | succ i => exact .cons a (ih i)
theorem All2.app {E : β → Ow → Prop} {rs : List β} {os : List Ow} {rs' : List β} {os' : List Ow} (h : All2 E rs os) (g : All2 E rs' os') : All2 E (rs ++ rs') (os ++ os') := by
  induction h with
  | nil => exact g
  | cons a b ih => exact .cons a ih
/-- a list that owns its things -/
def isLst (E : β → Ow → Prop) (rs : List β) (o : Ow) : Prop := ∃ a os, o = .lst a os ∧ All2 E rs os
/-- a list of things that never change -/
def isLstF (f : β → D) (rs : List β) (o : Ow) : Prop := ∃ a, o = .lst a (rs.map fun r => .fr (f r))
/-- dicts of things that never change -/
def isDTF (ek : κ → List Key) (f : β → D) (xs : List (κ × β)) (o : Ow) : Prop := ∃ a, o = .dT a (xs.map fun q => ek q.1) (xs.map fun q => .fr (f q.2))
def isDKF (ek : κ → Key) (f : β → D) (xs : List (κ × β)) (o : Ow) : Prop := ∃ a, o = .dK a (xs.map fun q => ek q.1) (xs.map fun q => .fr (f q.2))
/-- a dict that owns its values -/
def isDK (ek : κ → Key) (E : β → Ow → Prop) (xs : List (κ × β)) (o : Ow) : Prop := ∃ a os, o = .dK a (xs.map fun q => ek q.1) os ∧ All2 E (xs.map Prod.snd) os
end
section
variable {X : Cx} {kx kx' : XD} {ρ ρ' ρ'' : Ro} {M M' R : Mem} {P : Out → Mem → Prop} {e : Expr} {sts : List Stmt} {β : Type} {E : β → Ow → Prop} {enc : β → D} {r : β} {d : D} {m : Mem}
/-- what an expression makes, laid for good at once -/
theorem DE.lay (k : OwK E enc) (h : DE X kx0 e ρ [] fun d' m' => OwR E r d' m') : DV X kx e ρ M (enc r) := fun σ H H0 t s W tk hx Q q =>
  sE_post (h σ H H0 (Ht.emp t.ex t.tb) s W tk Hx.none _ fun v H1 H01 d' M1 g1 t1 r1 ho => by
    obtain ⟨o, he, rfl, rfl⟩ := ho
    obtain ⟨gf, tf⟩ := frame_of (Ma := []) (F := M) t g1 t1
    obtain ⟨nd, lk⟩ := tf.lockable
    refine ⟨_, nd, lk, fun od => ?_⟩
    obtain ⟨t3, g3⟩ := tf.locked od
    obtain ⟨H0', t4, r4, sm, g4⟩ := frz_ok o (k.fit _ _ he) t3 r1
    rw [k.frz _ _ he] at r4
    have g := gf.trans (g3.trans g4)
    refine q v _ H0' ⟨g.e0, fun b u eb n => ?_, t4.ex, fun a h1 h2 => ?_, g.there, fun _ => t4.tb⟩ r4
    · have e1 := g1.e b u eb (by simp) n
      rw [lockL_ne]
      · exact e1
      · intro z
        obtain ⟨pp, hp, e2, _⟩ := locks_mem z
        rcases g1.dom b (List.mem_map.mpr ⟨pp, hp, e2⟩) with z | z
        · simp at z
        · rw [eb] at z; cases z
    · by_cases ha : a ∈ M.dom
      · obtain ⟨mm, hm, rfl⟩ := List.mem_map.mp ha
        exact (t4.mem mm hm).1
      · exact g.new a h1 h2 (by simpa using ha))
end
end Dl

/-! things that change, looked at by others meanwhile; what is made new -/
namespace Dl
open PySem PySem.Spec PyProof.Rows L2
/-- which things are lent: objects with these fields, lists, dicts -/
structure Shp where
  ns : List (List Str)
  l : Bool
  d : Bool
mutual
/-- nothing of the kind within -/
def D.off (S : Shp) : D → Bool
  | .non => true
  | .bl _ => true
  | .int _ => true
  | .str _ => true
  | .ty _ => true
  | .lst xs => D.offA S xs
  | .scr xs => !S.l && D.offA S xs
  | .tup xs => D.offA S xs
  | .ins _ ns xs => !S.ns.contains ns && D.offA S xs
  | .adr _ => true
  | .dK _ xs => !S.d && D.offA S xs
  | .dT _ xs => !S.d && D.offA S xs
  | .exn _ _ _ xs => D.offA S xs
  | .clo _ _ xs => D.offA S xs
def D.offA (S : Shp) : List D → Bool
  | [] => true
  | d :: ds => d.off S && D.offA S ds
end
/-- how a thing looks -/
def MSh (S : Shp) : Mu → Option HO → Prop
  | .lst _, o => S.l = true ∧ ∃ ob vs, o = some (.frz ob (.lst vs))
  | .fL _, o => S.l = true ∧ ∃ ob vs, o = some (.frz ob (.lst vs))
  | .ins C ns _, o => ns ∈ S.ns ∧ ∃ dx vs, o = some (.ins C dx vs) ∧ vs.map Prod.fst = ns
  | .dK _, o => S.d = true ∧ ∃ ob vs, o = some (.frz ob (.dK vs))
  | .dT _, o => S.d = true ∧ ∃ ob vs, o = some (.frz ob (.dT vs))
  | .fK _, o => S.d = true ∧ ∃ ob vs, o = some (.frz ob (.dK vs))
  | .fT _, o => S.d = true ∧ ∃ ob vs, o = some (.frz ob (.dT vs))
/-- what Mem says of how things look -/
def MuSh (S : Shp) : Mu → Bool
  | .lst _ => S.l
  | .fL _ => S.l
  | .ins _ ns _ => S.ns.contains ns
  | _ => S.d
def cutL (H : Hp) (L : List Addr) : Hp := fun b => if b ∈ L then none else H b
theorem cutL_ne {H : Hp} {L : List Addr} {b : Addr} (h : b ∉ L) : cutL H L b = H b := by unfold cutL; rw [if_neg h]
theorem cutL_some {H : Hp} {L : List Addr} {b : Addr} {o : HO} (h : cutL H L b = some o) : H b = some o := by
  unfold cutL at h
  split at h
  · cases h
  · exact h
theorem cutL_in {H : Hp} {L : List Addr} {b : Addr} (h : b ∈ L) : cutL H L b = none := by unfold cutL; rw [if_pos h]
theorem shNo {H : Hp} {S : Shp} {c : Mem} {a : Addr} {u : HO} (hc : ∀ p ∈ c, ∀ o, H p.1 = some o → MSh S p.2 (some o)) (h : H a = some u) (no : ∀ {m : Mu}, MSh S m (some u) → False) : a ∉ c.dom := fun z => by
  obtain ⟨m, hm, rfl⟩ := List.mem_map.mp z
  exact no (hc m hm _ h)
theorem sh_lstX {S : Shp} {vs : List V} : ∀ {m : Mu}, MSh S m (some (.lst vs)) → False
  | .lst _, ⟨_, _, _, e⟩ => by cases e
  | .fL _, ⟨_, _, _, e⟩ => by cases e
  | .ins _ _ _, ⟨_, _, _, e, _⟩ => by cases e
  | .dK _, ⟨_, _, _, e⟩ => by cases e
  | .dT _, ⟨_, _, _, e⟩ => by cases e
  | .fK _, ⟨_, _, _, e⟩ => by cases e
  | .fT _, ⟨_, _, _, e⟩ => by cases e
theorem sh_tupX {S : Shp} {vs : List V} : ∀ {m : Mu}, MSh S m (some (.tup vs)) → False
  | .lst _, ⟨_, _, _, e⟩ => by cases e
  | .fL _, ⟨_, _, _, e⟩ => by cases e
  | .ins _ _ _, ⟨_, _, _, e, _⟩ => by cases e
  | .dK _, ⟨_, _, _, e⟩ => by cases e
  | .dT _, ⟨_, _, _, e⟩ => by cases e
  | .fK _, ⟨_, _, _, e⟩ => by cases e
  | .fT _, ⟨_, _, _, e⟩ => by cases e
theorem sh_xdX {S : Shp} {vs : List (Str × V)} : ∀ {m : Mu}, MSh S m (some (.xd vs)) → False
  | .lst _, ⟨_, _, _, e⟩ => by cases e
  | .fL _, ⟨_, _, _, e⟩ => by cases e
  | .ins _ _ _, ⟨_, _, _, e, _⟩ => by cases e
  | .dK _, ⟨_, _, _, e⟩ => by cases e
  | .dT _, ⟨_, _, _, e⟩ => by cases e
  | .fK _, ⟨_, _, _, e⟩ => by cases e
  | .fT _, ⟨_, _, _, e⟩ => by cases e
theorem sh_exX {S : Shp} {a C : Addr} {d : Option Addr} {x : Value} : ∀ {m : Mu}, MSh S m (some (exT a C d x)) → False
  | .lst _, ⟨_, _, _, e⟩ => by cases e
  | .fL _, ⟨_, _, _, e⟩ => by cases e
  | .ins _ _ _, ⟨_, _, _, e, _⟩ => by cases e
  | .dK _, ⟨_, _, _, e⟩ => by cases e
  | .dT _, ⟨_, _, _, e⟩ => by cases e
  | .fK _, ⟨_, _, _, e⟩ => by cases e
  | .fT _, ⟨_, _, _, e⟩ => by cases e
theorem sh_extX {S : Shp} {φ : Heap → Prop} : ∀ {m : Mu}, MSh S m (some (.ext φ)) → False
  | .lst _, ⟨_, _, _, e⟩ => by cases e
  | .fL _, ⟨_, _, _, e⟩ => by cases e
  | .ins _ _ _, ⟨_, _, _, e, _⟩ => by cases e
  | .dK _, ⟨_, _, _, e⟩ => by cases e
  | .dT _, ⟨_, _, _, e⟩ => by cases e
  | .fK _, ⟨_, _, _, e⟩ => by cases e
  | .fT _, ⟨_, _, _, e⟩ => by cases e
theorem sh_flX {S : Shp} {o : PySem.Obj} {vs : List V} (h : S.l = false) : ∀ {m : Mu}, MSh S m (some (.frz o (.lst vs))) → False
  | .lst _, ⟨q, _, _, _⟩ => by rw [h] at q; cases q
  | .fL _, ⟨q, _, _, _⟩ => by rw [h] at q; cases q
  | .ins _ _ _, ⟨_, _, _, e, _⟩ => by cases e
  | .dK _, ⟨_, _, _, e⟩ => by cases e
  | .dT _, ⟨_, _, _, e⟩ => by cases e
  | .fK _, ⟨_, _, _, e⟩ => by cases e
  | .fT _, ⟨_, _, _, e⟩ => by cases e
theorem sh_insX {S : Shp} {C dx : Addr} {ns : List Str} {vs : List (Str × V)} (h : S.ns.contains ns = false) (h2 : vs.map Prod.fst = ns) : ∀ {m : Mu}, MSh S m (some (.ins C dx vs)) → False
  | .lst _, ⟨_, _, _, e⟩ => by cases e
  | .fL _, ⟨_, _, _, e⟩ => by cases e
  | .ins _ _ _, ⟨i, _, _, e, f⟩ => by
    cases e
    rw [h2] at f
    subst f
    have := List.contains_iff_mem.mpr i
    rw [h] at this; cases this
  | .dK _, ⟨_, _, _, e⟩ => by cases e
  | .dT _, ⟨_, _, _, e⟩ => by cases e
  | .fK _, ⟨_, _, _, e⟩ => by cases e
  | .fT _, ⟨_, _, _, e⟩ => by cases e
theorem sh_fkX {S : Shp} {o : PySem.Obj} {vs : List (Key × V)} (h : S.d = false) : ∀ {m : Mu}, MSh S m (some (.frz o (.dK vs))) → False
  | .lst _, ⟨_, _, _, e⟩ => by cases e
  | .fL _, ⟨_, _, _, e⟩ => by cases e
  | .ins _ _ _, ⟨_, _, _, e, _⟩ => by cases e
  | .dK _, ⟨q, _⟩ => by rw [h] at q; cases q
  | .dT _, ⟨q, _⟩ => by rw [h] at q; cases q
  | .fK _, ⟨q, _⟩ => by rw [h] at q; cases q
  | .fT _, ⟨q, _⟩ => by rw [h] at q; cases q
theorem sh_ftX {S : Shp} {o : PySem.Obj} {vs : List (List Key × V)} (h : S.d = false) : ∀ {m : Mu}, MSh S m (some (.frz o (.dT vs))) → False
  | .lst _, ⟨_, _, _, e⟩ => by cases e
  | .fL _, ⟨_, _, _, e⟩ => by cases e
  | .ins _ _ _, ⟨_, _, _, e, _⟩ => by cases e
  | .dK _, ⟨q, _⟩ => by rw [h] at q; cases q
  | .dT _, ⟨q, _⟩ => by rw [h] at q; cases q
  | .fK _, ⟨q, _⟩ => by rw [h] at q; cases q
  | .fT _, ⟨q, _⟩ => by rw [h] at q; cases q
mutual
theorem Rep.cutL {K : Frag} {H : Hp} {S : Shp} {c : Mem} (hc : ∀ p ∈ c, ∀ o, H p.1 = some o → MSh S p.2 (some o)) : ∀ (d : D) (v : V), d.off S = true → Rep K H v d → Rep K (cutL H c.dom) v d
  | .non, _, _, h => by cases h; exact .non
  | .bl b, _, _, h => by cases h; exact .bl b
  | .int b, _, _, h => by cases h; exact .int b
  | .str b, _, _, h => by cases h; exact .str b
  | .ty b, _, _, h => by cases h; exact .ty b
  | .adr a, _, _, h => by cases h; exact .adr a
  | .lst ds, _, p, h => by
    simp only [D.off] at p
    cases h with
    | @lst a xs _ h1 h2 => exact .lst (by rw [cutL_ne (shNo hc h1 sh_lstX)]; exact h1) (RepA.cutL hc ds _ p h2)
  | .scr ds, _, p, h => by
    simp only [D.off, Bool.and_eq_true, Bool.not_eq_true'] at p
    cases h with
    | @scr a xs _ h1 h2 =>
      refine .scr ?_ (RepA.cutL hc ds _ p.2 h2)
      rcases h1 with (h1 | ⟨o, h1⟩) | h1
      · exact .inl (.inl (by rw [cutL_ne (shNo hc h1 sh_lstX)]; exact h1))
      · exact .inl (.inr ⟨o, by rw [cutL_ne (shNo hc h1 (sh_flX p.1))]; exact h1⟩)
      · exact .inr h1
  | .tup ds, _, p, h => by
    simp only [D.off] at p
    cases h with
    | @tup a xs _ h1 h2 => exact .tup (by rw [cutL_ne (shNo hc h1 sh_tupX)]; exact h1) (RepA.cutL hc ds _ p h2)
  | .ins C ns ds, _, p, h => by
    simp only [D.off, Bool.and_eq_true, Bool.not_eq_true'] at p
    cases h with
    | @ins a _ dx vs _ xs _ h1 h2 h3 h4 =>
      exact .ins (by rw [cutL_ne (shNo hc h1 (sh_insX p.1 h2))]; exact h1) h2 h3 (RepA.cutL hc ds _ p.2 h4)
  | .dK ks ds, _, p, h => by
    simp only [D.off, Bool.and_eq_true, Bool.not_eq_true'] at p
    cases h with
    | @dK a ob vs _ xs _ h1 h2 h3 h4 => exact .dK (by rw [cutL_ne (shNo hc h1 (sh_fkX p.1))]; exact h1) h2 h3 (RepA.cutL hc ds _ p.2 h4)
  | .dT ks ds, _, p, h => by
    simp only [D.off, Bool.and_eq_true, Bool.not_eq_true'] at p
    cases h with
    | @dT a ob vs _ xs _ h1 h2 h3 h4 => exact .dT (by rw [cutL_ne (shNo hc h1 (sh_ftX p.1))]; exact h1) h2 h3 (RepA.cutL hc ds _ p.2 h4)
  | .exn o C ns ds, _, p, h => by
    simp only [D.off] at p
    cases h with
    | exn0 h1 h6 => exact .exn0 (by rw [cutL_ne (shNo hc h1 sh_exX)]; exact h1) h6
    | exn1 h1 h2 h3 h4 h5 h6 => exact .exn1 (by rw [cutL_ne (shNo hc h1 sh_exX)]; exact h1) (by rw [cutL_ne (shNo hc h2 sh_xdX)]; exact h2) h3 h4 (RepA.cutL hc ds _ p h5) h6
  | .clo G fr ds, _, p, h => by
    simp only [D.off] at p
    cases h with
    | clo h1 h2 h3 h4 =>
      exact .clo (by rw [cutL_ne (shNo hc h1 sh_extX)]; exact h1) (by rw [cutL_ne (shNo hc h2 sh_extX)]; exact h2)
        ⟨h3.1, h3.2.1, h3.2.2.1, h3.2.2.2.1, fun i q v a b => by have z := h3.2.2.2.2 i q v a b; rw [cutL_ne (shNo hc z sh_extX)]; exact z⟩ (RepA.cutL hc ds _ p h4)
theorem RepA.cutL {K : Frag} {H : Hp} {S : Shp} {c : Mem} (hc : ∀ p ∈ c, ∀ o, H p.1 = some o → MSh S p.2 (some o)) : ∀ (ds : List D) (vs : List V), D.offA S ds = true → RepA K H vs ds → RepA K (cutL H c.dom) vs ds
  | [], _, _, h => by cases h; exact .nil
  | d :: ds, _, p, h => by
    simp only [D.offA, Bool.and_eq_true] at p
    cases h with
    | cons a b => exact .cons (Rep.cutL hc d _ p.1 a) (RepA.cutL hc ds _ p.2 b)
end
/-- slots whose things are laid for good -/
def setAll (ρ : Ro) (sl : List (Nat × D × D)) : Ro := sl.foldl (fun ρ q => ρ.set q.1 (some q.2.2)) ρ
/-- the things at these slots, one by one: what they are, what they look like laid for good -/
inductive Lends (S : Shp) : List (Nat × D × D) → List Ow → Prop
  | nil : Lends S [] []
  | cons {β : Type} {E : β → Ow → Prop} {enc : β → D} {j : Nat} {r : β} {d : D} {o : Ow} {sl : List (Nat × D × D)} {os : List Ow} (k : OwK E enc) (h : E r o) (hd : d = o.root) (hS : ∀ p ∈ o.mem, MuSh S p.2 = true) (t : Lends S sl os) : Lends S ((j, d, enc r) :: sl) (o :: os)
section
variable {X : Cx} {kx kx' : XD} {ρ ρ' ρ'' : Ro} {M M' R : Mem} {P : Out → Mem → Prop} {e : Expr} {sts : List Stmt} {β : Type} {E : β → Ow → Prop} {enc : β → D} {r : β} {d : D} {m : Mem} {S : Shp} {sl : List (Nat × D × D)} {os : List Ow}
/-- a new thing, that may change: nothing that stood is changed -/
def DN (X : Cx) (kx : XD) (e : Expr) (ρ : Ro) (M : Mem) (k : D → Mem → Prop) : Prop :=
  ∀ (σ : L2.St) (H H0 : Hp), Ht X.K H0 H M → Sl X.K H0 σ ρ → ∀ (W : WX), Takes X W → Hx X W H0 H M kx → ∀ (Q : VK), (∀ v H' H0' d m, Pu H0 H H0' H' → Ht X.K H0' H' (m ++ M) → (∀ a ∈ m.dom, H a = none) → Rep X.K H0' v d → k d m → Q v H') → sE X e σ H Q
theorem DN.de {k kk : D → Mem → Prop} (h : DN X kx e ρ M k) (hk : ∀ d m, k d m → kk d (m ++ M)) : DE X kx e ρ M kk := fun σ H H0 t s W tk hx Q q =>
  h σ H H0 t s W tk hx Q fun v H' H0' d m p t' hn r kd => q v H' H0' d _ ⟨p.e0, fun b o e _ n => p.e b o e n, fun a h1 h2 _ => p.new a h1 h2, (fun a ha => by
    have e : Mem.dom (m ++ M) = Mem.dom m ++ Mem.dom M := by simp [Mem.dom]
    rw [e] at ha
    exact (List.mem_append.mp ha).elim (fun z => .inr (hn a z)) .inl), p.there⟩ t' r (hk d m kd)
theorem DN.imp {k k' : D → Mem → Prop} (h : DN X kx e ρ M k) (i : ∀ d m, k d m → k' d m) : DN X kx e ρ M k' := fun σ H H0 t s W tk hx Q q =>
  h σ H H0 t s W tk hx Q fun v H' H0' d m p t' hn r kd => q v H' H0' d m p t' hn r (i d m kd)
/-- laid for good at once -/
theorem DN.lay (k : OwK E enc) (h : DN X kx e ρ M (OwR E r)) : DV X kx e ρ M (enc r) := fun σ H H0 t s W tk hx Q q =>
  sE_post (h σ H H0 t s W tk hx _ fun v H1 H01 d' m1 p1 t1 hn r1 ho => by
    obtain ⟨o, he, rfl, rfl⟩ := ho
    obtain ⟨nd, lk⟩ := t1.lockable
    refine ⟨_, nd, lk, fun od => ?_⟩
    obtain ⟨t3, g3⟩ := t1.locked od
    obtain ⟨H0', t4, r4, sm, g4⟩ := frz_ok o (k.fit _ _ he) t3 r1
    rw [k.frz _ _ he] at r4
    have nl : ∀ b, H b ≠ none → b ∉ locksOf o.mem := fun b hb z => hb (hn b ((locks_sub _).subset z))
    refine q v _ H0' ⟨p1.e0.trans sm, fun b u eb n => ?_, t4.ex, fun a h1 h2 => ?_, fun b eb => ?_, fun _ => t4.tb⟩ r4
    · rw [lockL_ne (nl b (by rw [eb]; exact fun z => by cases z))]
      exact p1.e _ _ eb n
    · by_cases ha : a ∈ M.dom
      · obtain ⟨mm, hm, rfl⟩ := List.mem_map.mp ha
        exact (t4.mem mm hm).1
      · obtain ⟨u, hu⟩ := h2.ex
        have z1 := p1.new a h1 h2
        have hne : a ∉ locksOf o.mem := nl a (by rw [hu]; exact fun z => by cases z)
        refine g4.new a z1 ?_ fun z => ?_
        · rw [lockL_ne hne]; exact h2.keep fun o e n => p1.e _ _ e n
        · have e : Mem.dom (lockM o.mem ++ M) = Mem.dom (lockM o.mem) ++ Mem.dom M := by simp [Mem.dom]
          rw [e, lockM_dom] at z
          rcases List.mem_append.mp z with z | z
          · have := hn a z; rw [hu] at this; cases this
          · exact ha z
    · exact p1.there b (lock_none eb))
/-- what is owned is nothing of the kind -/
def Mu.offM (S : Shp) : Mu → Bool
  | .lst ds => D.offA S ds
  | .fL ds => D.offA S ds
  | .ins _ _ ds => D.offA S ds
  | .dK kvs => D.offA S (kvs.map Prod.snd)
  | .dT kvs => D.offA S (kvs.map Prod.snd)
  | .fK kvs => D.offA S (kvs.map Prod.snd)
  | .fT kvs => D.offA S (kvs.map Prod.snd)
theorem MuRep.cutL {K : Frag} {H H0 Hs : Hp} {c : Mem} {a : Addr} (hc : ∀ p ∈ c, ∀ o, H0 p.1 = some o → MSh S p.2 (some o)) (k : ∀ o, H a = some o → Hs a = some o) : ∀ {m : Mu}, m.offM S = true → MuRep K H0 H a m → MuRep K (Dl.cutL H0 c.dom) Hs a m
  | .lst ds, f, ⟨vs, h, r⟩ => ⟨vs, k _ h, RepA.cutL hc _ _ f r⟩
  | .fL ds, f, ⟨o, vs, h, r⟩ => ⟨o, vs, k _ h, RepA.cutL hc _ _ f r⟩
  | .ins C ns ds, f, ⟨dx, vs, xs, h, h2, h3, r⟩ => ⟨dx, vs, xs, k _ h, h2, h3, RepA.cutL hc _ _ f r⟩
  | .dK kvs, f, ⟨vs, xs, h, h2, h3, r⟩ => ⟨vs, xs, k _ h, h2, h3, RepA.cutL hc _ _ f r⟩
  | .dT kvs, f, ⟨vs, xs, h, h2, h3, r⟩ => ⟨vs, xs, k _ h, h2, h3, RepA.cutL hc _ _ f r⟩
  | .fK kvs, f, ⟨o, vs, xs, h, h2, h3, r⟩ => ⟨o, vs, xs, k _ h, h2, h3, RepA.cutL hc _ _ f r⟩
  | .fT kvs, f, ⟨o, vs, xs, h, h2, h3, r⟩ => ⟨o, vs, xs, k _ h, h2, h3, RepA.cutL hc _ _ f r⟩
end
end Dl

/-! promises of defs that change what is handed to them, or hand back what is owned -/
namespace Dl
open PySem PySem.Spec PyProof.Rows L2
abbrev spR (K : Frag) (mg : Str → Option Value) {α β : Type} (args : α → List D) (Mi : α → Mem) (pre : α → Prop) (F : α → Ex β) (res : α → β → D → Mem → Prop) : Sp :=
  spM K args Mi (fun q => pre q ∧ F q ≠ .bad) (fun q d M' => ∃ r m N, F q = .ok r ∧ res q r d m ∧ M'.Perm (m ++ N)) (fun q cls fs M' => ∃ n N, F q = .exc n fs ∧ mg n = some cls ∧ M'.Perm (Mi q ++ N))
/-- .. where nothing is said of what was handed in, if it raises -/
abbrev spRw (K : Frag) (mg : Str → Option Value) {α β : Type} (args : α → List D) (Mi : α → Mem) (pre : α → Prop) (F : α → Ex β) (res : α → β → D → Mem → Prop) : Sp :=
  spM K args Mi (fun q => pre q ∧ F q ≠ .bad) (fun q d M' => ∃ r m N, F q = .ok r ∧ res q r d m ∧ M'.Perm (m ++ N)) (fun q cls fs M' => ∃ n, F q = .exc n fs ∧ mg n = some cls)
def kxR (mg : Str → Option Value) {β : Type} (out : Ex β) (Mi : Mem) : XD := fun cls fs _ M' => ∃ n N, out = .exc n fs ∧ mg n = some cls ∧ M'.Perm (Mi ++ N)
def retR {β : Type} (res : β → D → Mem → Prop) (out : Ex β) : Out → Mem → Prop
  | .rt d, M => ∃ r m N, out = .ok r ∧ res r d m ∧ M.Perm (m ++ N)
  | .nx _, M => ∃ r m N, out = .ok r ∧ res r .non m ∧ M.Perm (m ++ N)
  | .bk _, _ => False
  | .ct _, _ => False
section
variable {P : Program} {w : World} {K : Frag} {mg : Str → Option Value} {base : Heap} {α β : Type}
/-- __init__ of a class whose objects own what they are made of -/
abbrev spJ (K : Frag) (mg : Str → Option Value) (C : Addr) (args : α → List D) (F : α → Ex β) (E : β → Ow → Prop) : Sp :=
  spM K (fun q : Addr × α => .adr q.1 :: args q.2) (fun q => [(q.1, .ins C [] [])]) (fun q => F q.2 ≠ .bad) (fun q d M' => (∃ r m N, F q.2 = .ok r ∧ OwR E r (.adr q.1) m ∧ M'.Perm (m ++ N)) ∧ d = .non) (fun q cls fs M' => ∃ n, F q.2 = .exc n fs ∧ mg n = some cls)
def initR (E : β → Ow → Prop) (out : Ex β) (w : Addr) : Out → Mem → Prop
  | .nx _, M => ∃ r m N, out = .ok r ∧ OwR E r (.adr w) m ∧ M.Perm (m ++ N)
  | _, _ => False
end
/-- the kind's things are objects of the class at C with these fields -/
def ClsK {β : Type} (E : β → Ow → Prop) (C : Addr) (ns : List Str) : Prop := ∀ r o, E r o → ∃ a xs, o = .ins a C ns xs
theorem ClsK.obj {β : Type} {E : β → Ow → Prop} {C : Addr} {ns : List Str} (h : ClsK E C ns) {r : β} {d : D} {m : Mem} (o : OwR E r d m) : ∃ fs, Obj m d C ns fs := by
  obtain ⟨o, he, rfl, rfl⟩ := o
  obtain ⟨a, xs, rfl⟩ := h r o he
  refine ⟨Ow.rootA xs, ?_⟩
  simp only [Ow.root, Ow.mem]
  exact .adr List.mem_cons_self
theorem Obj.more {M M' : Mem} {y : D} {C : Addr} {ns : List Str} {fs : List D} (h : Obj M y C ns fs) (s : ∀ p ∈ M, p ∈ M') : Obj M' y C ns fs := by
  cases h with
  | ins => exact .ins _ _ _
  | adr h => exact .adr (s _ h)
section
variable {X : Cx} {kx kx' : XD} {ρ ρ' ρ'' : Ro} {M M' R : Mem} {P : Out → Mem → Prop} {pos p apos : Pos} {e o : Expr} {es : List Expr} {y z : D} {α β : Type} {k : Nat} {x m : Str} {C : Addr} {dvs ds : List D} {ns : List Str}
  {args : α → List D} {Mi : α → Mem} {pre : α → Prop} {F : α → Ex β} {res : α → β → D → Mem → Prop} {r : β} {kk : D → Mem → Prop} {n : Str} {fs : List (Str × D)}
/-! ### f(e, ..) -/
/-! ### o.m(e, ..) -/
section
variable {pl : Sem Bool} {gs : List D}
end
/-! ### C(e, ..) -/
end
end Dl

/-! loops and ways that meet, with owned things carried along: ι tells where they stand, J that they do -/
namespace Dl
open PySem PySem.Spec PyProof.Rows L2
section
variable {X : Cx} {kx kx' : XD} {ρ ρ' ρ'' : Ro} {M M' : Mem} {P : Out → Mem → Prop} {pos p np pos' tpos spos : Pos} {tg a b c e : Expr} {es : List Expr} {k : Bool} {ι β γ : Type}
def foldO (R : ι → β → Ro) (Mf : ι → β → Mem) (J : ι → β → Prop) (o : Ex β) : Out → Mem → Prop
  | .nx ρ, M => ∃ i z, o = .ok z ∧ J i z ∧ FgtL ρ (R i z) ∧ M = Mf i z
  | .ct ρ, M => ∃ i z, o = .ok z ∧ J i z ∧ FgtL ρ (R i z) ∧ M = Mf i z
  | .bk _, _ => False
  | .rt _, _ => False
/-- a loop that may be left: what it hands back is told by Rt -/
def loopO (R : ι → β → Ro) (Mf : ι → β → Mem) (J : ι → β → Prop) (Rt : γ → D → Mem → Prop) (o : Ex (Ct β γ)) : Out → Mem → Prop
  | .nx ρ, M => ∃ i z, o = .ok (.nx z) ∧ J i z ∧ FgtL ρ (R i z) ∧ M = Mf i z
  | .ct ρ, M => ∃ i z, o = .ok (.nx z) ∧ J i z ∧ FgtL ρ (R i z) ∧ M = Mf i z
  | .bk ρ, M => ∃ i z, o = .ok (.bk z) ∧ J i z ∧ FgtL ρ (R i z) ∧ M = Mf i z
  | .rt d, M => ∃ r m N, o = .ok (.rt r) ∧ Rt r d m ∧ M.Perm (m ++ N)
/-! ways that meet again -/
def joinO (R : ι → β → Ro) (Mf : ι → β → Mem) (J : ι → β → Prop) (kf : β → Ex γ) (out : Ex γ) (P : Out → Mem → Prop) : Out → Mem → Prop
  | .nx ρ, M => ∃ a z, kf z = out ∧ J a z ∧ FgtL ρ (R a z) ∧ M = Mf a z
  | o, M => P o M
theorem joinO_nx {R : ι → β → Ro} {Mf : ι → β → Mem} {J : ι → β → Prop} {kf : β → Ex γ} {out : Ex γ} (a : ι) (z : β) (h : kf z = out) (j : J a z) (f : FgtL ρ (R a z)) (m : M = Mf a z) : joinO R Mf J kf out P (.nx ρ) M := ⟨a, z, h, j, f, m⟩
/-! while -/
end
end Dl

/-! sorted of tuples of ints, any number of them, of any ints; of ints -/
namespace Dl
open PySem PySem.Spec PyProof.Rows L2
def lexLt : List Int → List Int → Bool
  | [], [] => false
  | [], _ :: _ => true
  | _ :: _, [] => false
  | x :: xs, y :: ys => if x = y then lexLt xs ys else decide (x < y)
/-- the list, sorted -/
def sortL {α : Type} (g : α → List Int) (xs : List α) : List α := xs.mergeSort fun a b => !lexLt (g b) (g a)
/-! ### the rule -/
section
open PySem PyProof.Rows Srt SrtO
variable {prog : Program} {w : World} {A : Around} {E : Value → Shared → Prop} {s : Shared}
/-- each is a tuple of d ints, k says which -/
def TupsK (h : Heap) (d : Nat) (k : Value → List Int) (vs : List Value) : Prop := ∀ v, v ∈ vs → TS.TupInts h v (k v) ∧ (k v).length = d
end
def rSortedL (K : PySem.W.Frag) : List V → Hp → VK → Prop := fun vs H Q => ∃ (a : Addr) (xs : List V) (k : V → List Int) (d : Nat), vs = [V.ref a] ∧ SqL K H a xs ∧ 1 ≤ d ∧ (∀ x ∈ xs, ∃ t, x = V.ref t ∧ SqT K H t ((k x).map V.int) ∧ (k x).length = d) ∧
  ∀ ys p, ys.Pairwise (fun x y => lexLt (k y) (k x) = false) → ys.Perm xs → H p = none → Q (.ref p) (upd H p (.lst ys))
/-! ### typed -/
/-- the ints of a tuple -/
noncomputable def intsV (H : Hp) : V → List Int
  | .ref a => match H a with
    | some (.tup xs) => xs.map fun v => match v with | .int i => i | _ => 0
    | _ => []
  | _ => []
section
variable {X : Cx} {kx : XD} {ρ : Ro} {M : Mem} {pos p : Pos} {e : Expr} {x : D} {α : Type}
/-- sorted(xs), ints -/
def sortI (xs : List Int) : List Int := xs.mergeSort fun a b => decide (a ≤ b)
end
end Dl

/-! sorted(xs), sorted(xs, reverse=True): ints, tuples of ints -/
namespace Dl
open PySem PySem.Spec PyProof.Rows L2
def sortIR (xs : List Int) : List Int := (sortI xs).reverse
section
variable {X : Cx} {kx : XD} {ρ : Ro} {M : Mem} {pos p kpos : Pos} {e : Expr} {x : D} {α : Type} {f : Str}
end
/-! tuples, reversed -/
def rSortedLR (K : PySem.W.Frag) : List V → List V → Hp → VK → Prop := fun vs zs H Q => ∃ (a : Addr) (xs : List V) (k : V → List Int) (d : Nat), vs = [V.ref a] ∧ zs = [.bl true] ∧ SqL K H a xs ∧ 1 ≤ d ∧ (∀ x ∈ xs, ∃ t, x = V.ref t ∧ SqT K H t ((k x).map V.int) ∧ (k x).length = d) ∧
  ∀ ys p, ys.Pairwise (fun x y => lexLt (k x) (k y) = false) → ys.Perm xs → H p = none → Q (.ref p) (upd H p (.lst ys))
/-- the list, sorted the other way about -/
def sortLR {α : Type} (g : α → List Int) (xs : List α) : List α := (sortL g xs).reverse
section
variable {X : Cx} {kx : XD} {ρ : Ro} {M : Mem} {pos p kpos : Pos} {e : Expr} {x : D} {α : Type} {f : Str}
end
end Dl

/-! owned things at work: what the printed walks stand on -/
namespace Dl
open PySem PySem.Spec PyProof.Rows L2
/-! ### a part of Mem taken to the front -/
/-! ### lent -/
def ShK {β : Type} (S : Shp) (E : β → Ow → Prop) : Prop := ∀ r o, E r o → ∀ p ∈ o.mem, MuSh S p.2 = true
section
variable {X : Cx} {kx kx' : XD} {ρ ρ' ρ'' : Ro} {M M' R : Mem} {P : Out → Mem → Prop} {e : Expr} {sts : List Stmt} {β : Type} {E : β → Ow → Prop} {enc : β → D} {r : β} {d d' : D} {m : Mem} {S : Shp}
/-- what a kind's things own is nothing of the kind -/
def OffK (S : Shp) (E : β → Ow → Prop) : Prop := ∀ r d m, OwR E r d m → d.off S = true ∧ ∀ p ∈ m, p.2.offM S = true
end
/-! ### nothing of the kind -/
/-! ### a dict or a list on its own, owned -/
section
variable {κ β : Type}
end
/-! ### what is handed back, or raised -/
section
variable {mg : Str → Option Value} {α β γ : Type} {res : β → D → Mem → Prop} {out : Ex β} {d : D} {m N M Mi : Mem} {ρ : Ro}
end
section
variable {X : Cx} {kx kx' : XD} {ρ ρ' ρ'' : Ro} {M M' R : Mem} {P : Out → Mem → Prop} {pos p pos' apos cpos tpos : Pos} {e o ix a b : Expr} {es : List Expr} {x y z d : D} {w C : Addr} {α β κ : Type} {k : Nat} {N : List Str} {sc : Scope} {E : β → Ow → Prop} {enc : β → D} {r : β}
theorem DE.to {kk k2 : D → Mem → Prop} (h : DE X kx e ρ M kk) (hk : ∀ d m, kk d m → k2 d m) : DE X kx e ρ M k2 := fun σ H H0 t s W tk hx Q q =>
  h σ H H0 t s W tk hx Q fun v H' H0' d m g t' r kd => q v H' H0' d m g t' r (hk d m kd)
/-! dicts with typed keys -/
variable {xs : List (κ × β)} {ek : κ → List Key} {eK : κ → Key} {f : β → D} {kk : κ}
end
section
open L2
variable {X : Cx} {kx kx' : XD} {ρ ρ' ρ'' : Ro} {M M' : Mem} {P : Out → Mem → Prop} {pos p np pos' tpos spos : Pos} {N : List Str} {sc : Scope} {k i : Nat}
end
end Dl

/-! what follows an expression that changes something, told by what is wanted behind it -/
namespace Dl
open PySem PySem.Spec PyProof.Rows L2
section
variable {X : Cx} {kx kx' : XD} {ρ ρ' ρ'' : Ro} {M M' R : Mem} {P : Out → Mem → Prop} {pos p pos' apos cpos tpos spos : Pos} {tg e o ix a b : Expr} {es : List Expr} {x y z d : D} {w C : Addr} {α β κ : Type} {k : Nat} {N : List Str} {sc : Scope}
end
/-! ### range with a step -/
def rgN (i j c : Int) : Nat := (Builtin.Range.rangeSize i j c).toNat
def rngC (lo c : Int) (n : Nat) : List Int := (List.range n).map fun k => lo + ((k : Nat) : Int) * c
section
variable {X : Cx} {kx : XD} {ρ : Ro} {M : Mem} {pos p : Pos} {tg a b c : Expr}
end
/-! ### nothing of the kind, by kinds -/
section
variable {S : Shp} {α : Type}
end
end Dl
namespace Dl
open PySem PySem.Spec PyProof.Rows L2
section
variable {X : Cx} {kx kx' : XD} {ρ : Ro} {M : Mem} {P : Out → Mem → Prop} {pos apos : Pos} {o e : Expr} {f : Str}
end
end Dl

/-! a try of any clauses; what is caught stays known -/
namespace Dl
open PySem PySem.Spec PyProof.Rows L2
/-- what is caught, at a -/
abbrev exV (a : Addr) (cls : Value) (d : Option Addr) (x : Value) : HO := .ext fun h => ∃ oe : PySem.Obj, h.get? a = some oe ∧ (oe.cls = cls ∧ oe.dict = d) ∧ ∃ vs, oe.data = .fields vs ∧ vs[2]? = some x
/-- the context's chain is pinned -/
def HotT (X : Cx) (x : Value) : Prop := ∃ n, PinCh X.pn n x
abbrev Clause := Value × Option Nat × (Addr → Value → Value → Option Addr → TS)
/-- the name's slot is set; gone again -/
def bdO (oi : Option Nat) (a : Addr) (σ : L2.St) : L2.St := match oi with
  | none => σ
  | some i => σ.set i (some (.ref a))
def unO (oi : Option Nat) (σ : L2.St) : L2.St := match oi with
  | none => σ
  | some i => σ.set i none
def endsO (oi : Option Nat) (D : Ends) : Ends := { nx := fun σ H => D.nx (unO oi σ) H, bk := fun σ H => D.bk (unO oi σ) H, ct := fun σ H => D.ct (unO oi σ) H, rt := D.rt }
def hsW (K : PySem.W.Frag) (Wout : WX) (D : Ends) : List Clause → WX
  | [] => Wout
  | (c, oi, ts) :: l => fun cls d σ H => ∃ b, PySem.W.exmOne K cls c = some b ∧ (b = true → ∀ a x, H a = none → ts a x cls d (endsO oi D) (bdO oi a σ) (upd H a (exV a cls d x))) ∧ (b = false → hsW K Wout D l cls d σ H)
def NmO (X : Cx) : Option Str → Option Nat → Prop
  | none, none => True
  | some n, some i => X.N[i]? = some n ∧ X.env.kindOf n = some .local
  | _, _ => False
inductive HsOk (X : Cx) : List ExceptHandler → List Clause → Prop
  | nil : HsOk X [] []
  | cons {x : Str} {c : Value} {ts : Addr → Value → Value → Option Addr → TS} {b0 : Stmt} {suite : List Stmt} {on : Option Str} {oi : Option Nat} {np pos : Pos} {hds : List ExceptHandler} {l : List Clause} (hc : Names X x c) (hn : NmO X on oi)
      (hsu : ∀ (a : Addr) (x : Value) (cls : Value) (d : Option Addr) (pn : List (Addr × PySem.Obj)), HotT (X.suite a pn) x → PSs (X.suite a pn) (b0 :: suite) (ts a x cls d)) (r : HsOk X hds l) :
      HsOk X (.ExceptHandler (some (.Name x np)) on (b0 :: suite) pos :: hds) ((c, oi, ts) :: l)
section
variable {X : Cx} {pins : List (Addr × PySem.Obj)} {σ : L2.St} {H : Hp} {s : Shared}
/-- a thing of the heap that no one knew is known from now on -/
theorem _root_.L2.Inv.track {a : Addr} {o : HO} {ob : PySem.Obj} {vs : Array Value} (I : Inv X pins σ H s) (na : H a = none) (ha : s.heap.get? a = some ob) (hd : ob.data = .fields vs) (nL : a ≠ X.env.locals) (n0 : ∀ o, X.s_0.heap.get? a = some o → a ∉ X.ex → False) (np : ∀ p ∈ X.pn ++ pins, p.1 ≠ a)
    (new : ObjOk X.prog X.w (upd H a o) s.heap a o) : Inv X pins σ (upd H a o) s where
  ok := I.ok
  os := I.os
  bare := I.bare
  base := { keep := I.base.keep, slot := I.base.slot, there := I.base.there
            free := fun b ob e n hx => by rw [upd_ne (fun z => by subst z; exact n0 _ e hx)]; exact I.base.free b ob e n hx
            tups := fun b xs e => by rw [upd_ne (ne_of_none (I.base.tups b xs e) na)]; exact I.base.tups b xs e
            frzs := fun b ob u e => by rw [upd_ne (ne_of_none (I.base.frzs b ob u e) na)]; exact I.base.frzs b ob u e
            tbls := fun b ps e => by
              obtain ⟨more, q⟩ := I.base.tbls b ps e
              exact ⟨more, by rw [upd_ne (ne_of_none q na)]; exact q⟩ }
  loc := I.loc
  cell := I.cell
  free := by rw [upd_ne (Ne.symm nL)]; exact I.free
  freeC := fun x c e => by
    rw [upd_ne (fun z => ?_)]
    · exact I.freeC x c e
    · obtain ⟨v, o', h1, h2⟩ := I.cell x c e
      rw [z, ha] at h1
      cases h1
      rw [hd] at h2
      cases h2
  pin := fun p hp => by
    obtain ⟨h1, h2, h3⟩ := I.pin p hp
    exact ⟨h1, by rw [upd_ne (np p hp)]; exact h2, h3⟩
  hok := I.hok.laidN (fun _ _ e => e) na new
  len := I.len
theorem exV_ok {P : Program} {w : World} {h : Heap} {a : Addr} {cls : Value} {d : Option Addr} {oe : PySem.Obj} (he : h.get? a = some oe) (hz : oe.cls = cls ∧ oe.dict = d) {x : Value} (hd : ∃ vs, oe.data = .fields vs ∧ vs[2]? = some x) : ObjOk P w H h a (exV a cls d x) :=
  ⟨⟨oe, he, hz, hd⟩, ⟨oe, he⟩, fun _ _ ⟨o, q, r⟩ k => ⟨o, k o q, r⟩⟩
theorem _root_.L2.Inv.inSuite {a : Addr} (I : Inv X pins σ H s) : Inv (X.suite a (X.pn ++ pins)) [] σ H s :=
  ⟨I.ok.suite _ _, I.os, I.bare, I.base, I.loc, I.cell, I.free, I.freeC, fun p hp => I.pin p (by rw [List.append_nil] at hp; exact hp), I.hok, I.len⟩
theorem _root_.L2.Inv.inSuiteL {a : Addr} {l : List (Addr × PySem.Obj)} (I : Inv X pins σ H s) (hl : ∀ p ∈ l, s.heap.get? p.1 = some p.2 ∧ H p.1 = none ∧ p.1 ≠ X.env.locals ∧ p.1 ∉ X.fs ∧ ∀ v, p.2.data ≠ .cell v) : Inv (X.suite a (l ++ (X.pn ++ pins))) [] σ H s :=
  ⟨I.ok.suite _ _, I.os, I.bare, I.base, I.loc, I.cell, I.free, I.freeC, fun p hp => by
    have hp' : p ∈ l ++ (X.pn ++ pins) := by rw [List.append_nil] at hp; exact hp
    rcases List.mem_append.mp hp' with h | h
    · exact hl p h
    · exact I.pin p h, I.hok, I.len⟩
/-- the chain's records, as pins -/
theorem chain_pinsB {B : Heap} {h : Heap} (st : B.StaysIn h) (nf : ∀ b o vs, h.get? b = some o → o.data = .fields vs → b ≠ X.env.locals ∧ b ∉ X.fs) : ∀ {n : Nat} {v : Value}, Ch B H n v →
    ∃ l : List (Addr × PySem.Obj), PinCh l n v ∧ ∀ p ∈ l, B.get? p.1 = some p.2 ∧ h.get? p.1 = some p.2 ∧ H p.1 = none ∧ p.1 ≠ X.env.locals ∧ p.1 ∉ X.fs ∧ ∀ v, p.2.data ≠ .cell v
  | 0, _, r => ⟨[], r, by simp⟩
  | n + 1, _, ⟨b, o, vs, x, e, g, hn, d, h2, r⟩ => by
    obtain ⟨l, p, q⟩ := chain_pinsB st nf r
    have g' := st b o g
    refine ⟨(b, o) :: l, ⟨b, o, vs, x, e, List.mem_cons_self .., d, h2, p.mono fun _ z => List.mem_cons_of_mem _ z⟩, fun y hy => ?_⟩
    rcases List.mem_cons.mp hy with rfl | hy
    · exact ⟨g, g', hn, (nf b o vs g' d).1, (nf b o vs g' d).2, fun v z => by have z' : o.data = .cell v := z; rw [d] at z'; cases z'⟩
    · exact q y hy
theorem _root_.L2.Inv.outSuiteL {a : Addr} {l : List (Addr × PySem.Obj)} (I : Inv (X.suite a (l ++ (X.pn ++ pins))) [] σ H s) (ok : X.Ok) : Inv X pins σ H s :=
  ⟨ok, I.os, I.bare, I.base, I.loc, I.cell, I.free, I.freeC, fun p hp => I.pin p (List.mem_append_left _ (List.mem_append_right _ hp)), I.hok, I.len⟩
end
section
variable {X : Cx} {body : List Stmt} {h0 : ExceptHandler} {hds : List ExceptHandler} {l : List Clause} {pos : Pos} {tb : WX → TS} {Wout : WX}
/-- what the clauses do with the exception at a -/
theorem clauses_ok {pins : List (Addr × PySem.Obj)} {σ : L2.St} {H : Hp} {sI s' : Shared} {D : Ends} {B h3 : Heap} {a : Addr} {cls : Value} {d : Option Addr} {cn : Nat} {cx : Value} (hs : X.stack = X.env :: X.outer) (hf : X.env.frame = some X.env.locals) (hN : X.N.Nodup) (tk : Takes X Wout)
    (J : Inv X pins σ H sI) (nb : ∀ b o, sI.heap.get? b = some o → b ∉ frs X.stack → B.get? b = some o) (up : sI.heap.UpToSlots h3) (fl : HandSPX.FlyingZ B (X.env :: X.outer) a (Zk cls d cx) h3) (ch : Ch B H cn cx) (na : H a = none) (os : s'.os = sI.os) (ag : AllBare s'.gens) :
    ∀ {hds : List ExceptHandler} {l : List Clause}, HsOk X hds l → hsW X.K Wout D l cls d σ H → wpAny (model X.prog X.w) X.A (handleBy (.ref a) X.env hds) (SP X pins D) X.xe { s' with heap := h3 } := by
  obtain ⟨oe, vs, he, hz, hd⟩ := fl.there
  have J3 : Inv X pins σ H { s' with heap := h3 } := J.landed nb fl.1 up os ag
  have nfr : a ∉ frs (X.env :: X.outer) := fun hm => by
    obtain ⟨_, o', e', hnf⟩ := fl.2.2.1.mem hm
    rw [he] at e'
    cases e'
    exact hnf _ hd
  have nL : a ≠ X.env.locals := fun z => nfr (List.mem_filterMap.mpr ⟨X.env, List.mem_cons_self, by rw [hf, z]⟩)
  have nF : a ∉ X.fs := fun hm => by
    obtain ⟨e, h1, h2⟩ := List.mem_filterMap.mp hm
    exact nfr (List.mem_filterMap.mpr ⟨e, List.mem_cons_of_mem _ h1, h2⟩)
  have nI : sI.heap.get? a = none := by
    cases q : sI.heap.get? a with
    | none => rfl
    | some o =>
      have z := nb a o q (by rw [hs]; exact nfr)
      rw [fl.2.1] at z
      cases z
  have n0 : ∀ o, X.s_0.heap.get? a = some o → a ∉ X.ex → False := fun o e hx => by
    obtain ⟨o', z⟩ := J.base.there a o e hx
    rw [nI] at z
    cases z
  intro hds l hk
  induction hk with
  | nil =>
    intro w
    obtain ⟨_, _, _, oe1, vs1, T, oT, ts1, he1, hz1, hd1, h1, hr⟩ := id fl
    refine wpAny_handleBy_nil ?_
    unfold PySem.passOn
    refine wpAny_bind (wpAny_field he1 hd1 h1 ?_)
    rw [if_neg (by simp)]
    have last : wpAny (model X.prog X.w) X.A (setFlight (.ref a) X.env.frame) (fun _ s4 => wpAny (model X.prog X.w) X.A (throw (.ref a) : Sem Flow) (SP X pins D) X.xe s4) X.xe { s' with heap := h3 } := by
      rw [hf]
      exact HandSPX.setFlight_upZ fl fun h4 hh4 up4 => wpAny_throw (tk _ _ ⟨a, B, sI, pins, σ, H, cls, d, cn, cx, rfl, J, nb, up.trans up4, .inr (.inr (by rw [hs]; exact hh4)), ch, na, os, ag, w⟩)
    first
      | exact wpAny_bind (wpAny_pure (wpAny_bind last))
      | exact wpAny_bind last
  | @cons x c ts b0 suite on oi np pos hds l hc hn hsu r ih =>
    intro w
    obtain ⟨b, hb, yes, no⟩ := w
    refine wpAny_handleBy_cons (codeAny_handlers_test ?_) (by intro q; cases q)
    have LT : PySem.W.Looks (model X.prog X.w) h3 (typeOf (.ref a)) cls := fun A Q E s k q => wpAny_typeOf_ref (k _ _ he) (by rw [hz.1]; exact q)
    have LM := PySem.W.exm_one (M := model X.prog X.w) J3.kIn LT hb
    have test : ∀ {Q : Value → Shared → Prop} {E : Value → Shared → Prop}, Q c { s' with heap := h3 } → wpAny (model X.prog X.w) (X.A.mark (some (.ref a))) (eval (.Name x np) X.env) Q E { s' with heap := h3 } := fun {Q E} q => by
      have S : Inv (X.suite a (X.pn ++ pins)) [] σ H { s' with heap := h3 } := J3.inSuite
      obtain ⟨hg, hdb, hm | ⟨hm, hv, hnn⟩⟩ := hc
      · exact ld_glob S hg hm q hdb
      · exact ld_blt S hg hm hv q hnn hdb
    refine test (LM.here ?_)
    cases b with
    | false => exact ih (no rfl)
    | true =>
      have nfs : ∀ {h : Heap}, h.FunFrames B (X.env :: X.outer) → ∀ b o vs, h.get? b = some o → o.data = .fields vs → b ≠ X.env.locals ∧ b ∉ X.fs := fun {h} sk b o vs e dd => by
        have nfr : b ∉ frs (X.env :: X.outer) := fun hm => by
          obtain ⟨_, o', e', hnf⟩ := sk.mem hm
          rw [e] at e'
          cases e'
          exact hnf _ dd
        refine ⟨fun z => nfr (List.mem_filterMap.mpr ⟨X.env, List.mem_cons_self, by rw [hf, z]⟩), fun hm => ?_⟩
        obtain ⟨e, h1, h2⟩ := List.mem_filterMap.mp hm
        exact nfr (List.mem_filterMap.mpr ⟨e, List.mem_cons_of_mem _ h1, h2⟩)
      have key : ∀ (h4 : Heap), HandSPX.FlyingZ B (X.env :: X.outer) a (Zk cls d cx) h4 → h3.UpToSlots h4 → ∃ lc, PinCh lc cn cx ∧ Inv (X.suite a (lc ++ (X.pn ++ pins))) [] σ (upd H a (exV a cls d cx)) { s' with heap := h4 } := fun h4 fl4 up4 => by
        obtain ⟨oe4, vs4, he4, hz4, hd4⟩ := fl4.there
        have J4 : Inv X pins σ H { s' with heap := h4 } := J.landed nb fl4.1 (up.trans up4) os ag
        obtain ⟨lc, pc, qc⟩ := chain_pinsB (X := X) (H := H) fl4.1 (nfs fl4.2.2.1) ch
        refine ⟨lc, pc, (J4.track na he4 hd4 nL n0 (fun p hp z => ?_) (exV_ok he4 hz4.zc ⟨_, hd4, hz4.2.2 vs4 hd4⟩)).inSuiteL fun p hp => ?_⟩
        case refine_2 =>
          obtain ⟨g0, g1, g2, g3⟩ := qc p hp
          exact ⟨g1, by rw [upd_ne (fun z => by rw [z, fl.2.1] at g0; cases g0)]; exact g2, g3⟩
        have z2 := (J.pin p hp).1
        rw [z, nI] at z2
        cases z2
      have y := yes rfl a cx na
      cases on with
      | none =>
        cases oi with
        | some i => exact hn.elim
        | none =>
          refine codeAny_handlers_suite (HandSPX.lands_againZ fl fun h4 fl4 up4 => ?_)
          obtain ⟨lc, pc, S4⟩ := key h4 fl4 up4
          refine wpAny_mono ((hsu a cx cls d (lc ++ (X.pn ++ pins)) ⟨cn, pc.mono fun p hp => List.mem_append_left _ hp⟩).run [] _ _ _ _ S4 y) (fun f s6 hsp => ?_) fun _ _ z => z.elim
          cases f with
          | next => obtain ⟨σ6, H6, S6, q6⟩ := hsp; exact ⟨_, _, S6.outSuiteL J.ok, q6⟩
          | brk => obtain ⟨σ6, H6, S6, q6⟩ := hsp; exact ⟨_, _, S6.outSuiteL J.ok, q6⟩
          | cont => obtain ⟨σ6, H6, S6, q6⟩ := hsp; exact ⟨_, _, S6.outSuiteL J.ok, q6⟩
          | ret u => obtain ⟨v6, σ6, H6, S6, r6, q6⟩ := hsp; exact ⟨_, _, _, S6.outSuiteL J.ok, r6, q6⟩
      | some n =>
        cases oi with
        | none => exact hn.elim
        | some i =>
          obtain ⟨hi, hln⟩ := hn
          refine codeAny_handlers_suite_as (HandSPX.lands_againZ fl fun h4 fl4 up4 => ?_)
          obtain ⟨lc, pc, S4⟩ := key h4 fl4 up4
          refine store_ok (X := X.suite a (lc ++ (X.pn ++ pins))) (v := .ref a) S4 hN hi (.inl hln) rfl (fun s5 S5 => ?_) (.inr hln)
          refine wpAny_mono ((hsu a cx cls d (lc ++ (X.pn ++ pins)) ⟨cn, pc.mono fun p hp => List.mem_append_left _ hp⟩).run [] _ _ _ _ S5 y) (fun f s6 hsp => ?_) fun _ _ z => z.elim
          cases f with
          | next => obtain ⟨σ6, H6, S6, q6⟩ := hsp; exact gone_ok (S6.outSuiteL J.ok) hN hi hln fun s7 J7 => ⟨_, _, J7, q6⟩
          | brk => obtain ⟨σ6, H6, S6, q6⟩ := hsp; exact gone_ok (S6.outSuiteL J.ok) hN hi hln fun s7 J7 => ⟨_, _, J7, q6⟩
          | cont => obtain ⟨σ6, H6, S6, q6⟩ := hsp; exact gone_ok (S6.outSuiteL J.ok) hN hi hln fun s7 J7 => ⟨_, _, J7, q6⟩
          | ret u => obtain ⟨v6, σ6, H6, S6, r6, q6⟩ := hsp; exact gone_ok (S6.outSuiteL J.ok) hN hi hln fun s7 J7 => ⟨_, _, _, J7, r6, q6⟩
/-- try: body, except ..: the exception that a clause takes is known from then on -/
theorem ps_try_hd (hs : X.stack = X.env :: X.outer) (hf : X.env.frame = some X.env.locals) (hN : X.N.Nodup) (tk : Takes X Wout)
    (hb : ∀ (W : WX) (pn : List (Addr × PySem.Obj)) (xe : Value → Shared → Prop), Takes (X.tr pn xe) W → (∀ hd : Option Value, PassesOwnAt (model X.prog X.w) (X.A.mark hd) X.A X.env xe) ∧ PassesOwn (model X.prog X.w) X.A X.env xe → PSs (X.tr pn xe) body (tb W))
    (hh : HsOk X (h0 :: hds) l) : PS X (.Try body (h0 :: hds) [] [] pos) (fun D σ H => tb (hsW X.K Wout D l) D σ H) := by
  refine ⟨fun pins s σ H D I h => wpAny_Try_except ?_⟩
  have ok := I.ok
  have hfr : X.A.frames = some (X.env :: X.outer) := by rw [ok.frames, hs]
  refine wpAny_mono ((hb (hsW X.K Wout D l) (X.pn ++ pins) (fun e s₁ => wpAny (model X.prog X.w) X.A (noteFrame e X.env) (fun _ s₂ => wpAny (model X.prog X.w) X.A (setFlight e none) (fun _ s₃ =>
    wpAny (model X.prog X.w) X.A (handleBy e X.env (h0 :: hds)) (SP X pins D) X.xe s₃) X.xe s₂) X.xe s₁) (fun u s' xx => ?_) ⟨fun hd => PassesOwnAt.looking, PassesOwn.looking⟩).run [] s σ H D (I.toTry _) h) (fun f s1 hsp => ?_) (fun e s1 he => he)
  · obtain ⟨a, B, sI, pins', σ', H', cls, d, cn, cx, rfl, J', nb, up, sky, ch, na, os, ag, w⟩ := xx
    have J : Inv X pins σ' H' sI := J'.ofTry ok
    have sky' : Sky B (X.env :: X.outer) a (Zk cls d cx) X.env.locals s'.heap := by rw [← hs]; exact sky
    exact L2N.Sky.land Zk.steady hfr hf sky' fun h3 fl3 up3 => clauses_ok hs hf hN tk J nb (up.trans up3) fl3 ch na os ag hh w
  · cases f with
    | next => obtain ⟨σ', H', J', q⟩ := hsp; exact wpAny_execs_nil ⟨σ', H', J'.ofTry ok, q⟩
    | brk => obtain ⟨σ', H', J', q⟩ := hsp; exact ⟨σ', H', J'.ofTry ok, q⟩
    | cont => obtain ⟨σ', H', J', q⟩ := hsp; exact ⟨σ', H', J'.ofTry ok, q⟩
    | ret u => obtain ⟨v, σ', H', J', r, q⟩ := hsp; exact ⟨v, σ', H', J'.ofTry ok, r, q⟩
end
/-! ### at the level of data -/
def NmS (N : List Str) (sc : Scope) : Option Str → Option Nat → Prop
  | none, none => True
  | some n, some i => N[i]? = some n ∧ sc.names.lookup n = some .local
  | _, _ => False
inductive HdD (X : Cx) (N : List Str) (sc : Scope) : List ExceptHandler → List (Value × Option Nat × List Stmt) → Prop
  | nil : HdD X N sc [] []
  | cons {xx : Str} {cv : Value} {on : Option Str} {oi : Option Nat} {b0 : Stmt} {suite : List Stmt} {np pos : Pos} {hds : List ExceptHandler} {l : List (Value × Option Nat × List Stmt)} (hg : Gl X xx) (hm : X.mg xx = some cv) (hn : NmS N sc on oi) (r : HdD X N sc hds l)
      (hdb : (xx == ("__debug__" : Str)) = false := by decide) : HdD X N sc (.ExceptHandler (some (.Name xx np)) on (b0 :: suite) pos :: hds) ((cv, oi, b0 :: suite) :: l)
def setO (oi : Option Nat) (d : D) (ρ : Ro) : Ro := match oi with
  | none => ρ
  | some i => ρ.set i (some d)
def goneO (oi : Option Nat) (P : Out → Mem → Prop) : Out → Mem → Prop := match oi with
  | none => P
  | some i => goneP i P
def hdQ (X : Cx) (N : List Str) (sc : Scope) (k : Nat) (kx : XD) (P : Out → Mem → Prop) : List (Value × Option Nat × List Stmt) → XD
  | [] => kx
  | (cv, oi, st) :: t => fun cls fs ρ M => ∃ b, PySem.W.exmOne X.K cls cv = some b ∧ (b = true → ∃ C, cls = .ref C ∧ ∀ a x l, BdS (X.suite a l) N sc k → HotT (X.suite a l) x → DS (X.suite a l) kx0 st (setO oi (.exn (some (a, x)) C (fs.map Prod.fst) (fs.map Prod.snd)) ρ) M (goneO oi P)) ∧ (b = false → hdQ X N sc k kx P t cls fs ρ M)
section
variable {X : Cx} {kx kx' : XD} {ρ ρ' ρ'' : Ro} {M M' : Mem} {P : Out → Mem → Prop} {pos p np pos' : Pos} {e c : Expr} {w C : Addr} {k i : Nat} {N : List Str} {sc : Scope}
theorem hdD_ok (B : Bd X N sc k) {hds : List ExceptHandler} {l : List (Value × Option Nat × List Stmt)} (h : HdD X N sc hds l) :
    HsOk X hds (l.map fun q => (q.1, q.2.1, fun a x cls d => fun D' σ' H' => ∀ pn, HotT (X.suite a pn) x → sSs (X.suite a pn) q.2.2 D' σ' H')) := by
  induction h with
  | nil => exact .nil
  | cons hg hm hn r hdb ih =>
    refine .cons ⟨hg, hdb, .inl hm⟩ ?_ (fun a x cls d pn ht => ⟨fun pins s' σ' H' D' I q => sSs_iff.mp (q pn ht) pins s' I⟩) ih
    rename_i on oi _ _ _ _ _ _
    cases on with
    | none => cases oi with
      | none => exact trivial
      | some i => exact hn.elim
    | some n => cases oi with
      | none => exact hn.elim
      | some i => exact ⟨by rw [B.hN]; exact hn.1, by show X.env.scope.names.lookup n = some .local; rw [B.hsc]; exact hn.2⟩
theorem takes_suite {a : Addr} {pn : List (Addr × PySem.Obj)} : Takes (X.suite a pn) fun _ _ _ _ => False := by
  rintro u s2 ⟨_, _, _, _, _, _, _, _, _, _, _, _, _, _, _, _, _, _, _, z⟩
  exact z.elim
theorem ds1_tryH {body : List Stmt} {h0 : ExceptHandler} {hds : List ExceptHandler} {l : List (Value × Option Nat × List Stmt)} (B : Bd X N sc k) (F : Bf X) (hh : HdD X N sc (h0 :: hds) l)
    (hb : ∀ pn xe, Bd (X.tr pn xe) N sc k → Bf (X.tr pn xe) → DS (X.tr pn xe) (hdQ X N sc k kx P l) body ρ M P) : DS1 X kx (.Try body (h0 :: hds) [] [] pos) ρ M P := fun σ H H0 t s W tk hx E c => by
  refine sS.by (ps_try_hd (Wout := W) (l := l.map fun q => (q.1, q.2.1, fun a x cls d => fun D' σ' H' => ∀ pn, HotT (X.suite a pn) x → sSs (X.suite a pn) q.2.2 D' σ' H'))
    (tb := fun W' => fun D' σ' H' => ∀ pn xe, Takes (X.tr pn xe) W' → (∀ hd : Option Value, PassesOwnAt (model X.prog X.w) (X.A.mark hd) X.A X.env xe) ∧ PassesOwn (model X.prog X.w) X.A X.env xe → sSs (X.tr pn xe) body D' σ' H')
    F.stk F.fr (by rw [B.hN]; exact B.hnd) tk (fun W' pn xe tk' po => ⟨fun pins s' σ' H' D' I q => sSs_iff.mp (q pn xe tk' po) pins s' I⟩) (hdD_ok B hh)) ?_
  intro pn xe tk' po
  refine hb pn xe (B.tr po.2) (F.tr po.1) σ H H0 t s _ tk' ?_ E ⟨c.nx, c.bk, c.ct, c.rt⟩
  intro cls dd σ' H' H0' fs ρ' M' g t' s' xr kq
  clear hh hb tk' po
  induction l with
  | nil => exact hx cls dd σ' H' H0' fs ρ' M' g t' s' xr kq
  | cons q l ih =>
    obtain ⟨cv, oi, st⟩ := q
    obtain ⟨b, e1, yes, no⟩ := kq
    refine ⟨b, e1, fun hb a x na pn2 hot => ?_, fun hb => ih (no hb)⟩
    obtain ⟨C, rfl, hsu⟩ := yes hb
    have p := Pu.new1 t'.ex na (exV a (.ref C) dd x)
    have r : Rep X.K (upd H0' a (exV a (.ref C) dd x)) (.ref a) (.exn (some (a, x)) C (fs.map Prod.fst) (fs.map Prod.snd)) := by
      rcases xr with ⟨rfl, rfl⟩ | ⟨_, d, vs, xs, rfl, h1, h2, h3, h4⟩
      · exact .exn0 upd_same (fun _ z => by cases z; rfl)
      · exact .exn1 upd_same (p.e0 _ _ h1) h2 h3 (h4.mo p.e0) (fun _ z => by cases z; rfl)
    have g1 := g.trans (Pu.go (M := M') p)
    cases oi with
    | none =>
      exact hsu a x pn2 (B.su a pn2) hot σ' _ _ (t'.pu p) (s'.mo p.e0) _ takes_suite Hx.none _ ⟨fun σ2 H2 H02 ρ2 M2 g2 => c.nx σ2 H2 H02 ρ2 M2 (g1.trans g2), fun σ2 H2 H02 ρ2 M2 g2 => c.bk σ2 H2 H02 ρ2 M2 (g1.trans g2),
        fun σ2 H2 H02 ρ2 M2 g2 => c.ct σ2 H2 H02 ρ2 M2 (g1.trans g2), fun v H2 H02 d M2 g2 => c.rt v H2 H02 d M2 (g1.trans g2)⟩
    | some i =>
      exact hsu a x pn2 (B.su a pn2) hot _ _ _ (t'.pu p) ((s'.mo p.e0).set r i) _ takes_suite Hx.none _ ⟨fun σ2 H2 H02 ρ2 M2 g2 t2 s2 q => c.nx _ H2 H02 _ M2 (g1.trans g2) t2 (s2.none i) q, fun σ2 H2 H02 ρ2 M2 g2 t2 s2 q => c.bk _ H2 H02 _ M2 (g1.trans g2) t2 (s2.none i) q,
        fun σ2 H2 H02 ρ2 M2 g2 t2 s2 q => c.ct _ H2 H02 _ M2 (g1.trans g2) t2 (s2.none i) q, fun v H2 H02 d M2 g2 t2 r2 q => c.rt v H2 H02 d M2 (g1.trans g2) t2 r2 q⟩
end
end Dl

/-! exceptions kept: what is asked of them, the mirror of a try -/
namespace Dl
open PySem PySem.Spec PyProof.Rows L2
/-- what is kept of an exception: its class's name, its fields -/
abbrev Xn := Str × List (Str × D)
def hdF {β : Type} : List (List Str × (Xn → Ex β)) → Xn → Ex β
  | [], e => .exc e.1 e.2
  | (ns, h) :: t, e => if e.1 ∈ ns then h e else hdF t e
/-- try: m, else what follows; the first clause that names the exception -/
def tryF {α β : Type} (names : List Str) (m : Ex α) (k : α → Ex β) (hs : List (List Str × (Xn → Ex β))) : Ex β := match m with
  | .ok a => k a
  | .exc n fs => if n ∈ names then hdF hs (n, fs) else .bad
  | .bad => .bad
/-- isinstance of what may be an exception -/
def isEO (ns : List Str) (o : Option Xn) : Bool := match o with
  | none => false
  | some e => decide (e.1 ∈ ns)
def fldE (e : Xn) (f : Str) : Ex Int := match e.2.lookup f with
  | some (.int v) => .ok v
  | _ => .bad
theorem fldE_out {e : Xn} {f : Str} {v : Int} (h : fldE e f = .ok v) : e.2.lookup f = some (.int v) := by
  unfold fldE at h
  split at h
  · rename_i w q
    cases h
    exact q
  · cases h
theorem zip_fs {α β : Type} : ∀ l : List (α × β), (l.map Prod.fst).zip (l.map Prod.snd) = l
  | [] => rfl
  | (a, b) :: l => by rw [List.map_cons, List.map_cons, List.zip_cons_cons, zip_fs l]
/-- is each name in a clause -/
def covB (names : List Str) (ls : List (List Str)) : Bool := names.all fun n => ls.any fun l => decide (n ∈ l)
theorem covB_mem {β : Type} {names : List Str} {hs : List (List Str × β)} {n : Str} (h : covB names (hs.map Prod.fst) = true) (hn : n ∈ names) : ∃ c ∈ hs, n ∈ c.1 := by
  unfold covB at h
  have a := List.all_eq_true.mp h n hn
  obtain ⟨l, hl, q⟩ := List.any_eq_true.mp a
  obtain ⟨c, hc, rfl⟩ := List.mem_map.mp hl
  exact ⟨c, hc, of_decide_eq_true q⟩
/-! ### for the mathematics -/
section
variable {α β : Type} {names : List Str} {m : Ex α} {k : α → Ex β} {hs : List (List Str × (Xn → Ex β))} {Q : β → Prop}
theorem tryF_ok {a : α} (h : m = .ok a) : tryF names m k hs = k a := by rw [h]; rfl
theorem tryF_exc {n : Str} {fs : List (Str × D)} (h : m = .exc n fs) (i : n ∈ names) : tryF names m k hs = hdF hs (n, fs) := by
  rw [h]
  show (if n ∈ names then hdF hs (n, fs) else .bad) = _
  rw [if_pos i]
theorem hdF_yes {ns : List Str} {h : Xn → Ex β} {e : Xn} (i : e.1 ∈ ns) : hdF ((ns, h) :: hs) e = h e := by
  show (if e.1 ∈ ns then h e else hdF hs e) = _
  rw [if_pos i]
theorem hdF_no {ns : List Str} {h : Xn → Ex β} {e : Xn} (i : e.1 ∉ ns) : hdF ((ns, h) :: hs) e = hdF hs e := by
  show (if e.1 ∈ ns then h e else hdF hs e) = _
  rw [if_neg i]
end
/-! ### the walk -/
/-- isinstance(e, c), e an exception that stands in the heap -/
def rIsX (K : PySem.W.Frag) (C a : Addr) : List V → Hp → VK → Prop := fun xs H Q => ∃ (c : V) (cv : Value) (b : Bool) (d : Option Addr), xs = [.ref a, c] ∧ (∀ u, RelV c u → u = cv) ∧ PySem.W.kitOne K (.ref C) cv = some b ∧
  (∃ x0, H a = some (exT a C d x0)) ∧ (d = none ∨ ∃ dd vs, d = some dd ∧ H dd = some (.xd vs)) ∧ Q (.bl b) H
/-- the exception as the kit asks for it -/
theorem ext_inst {P : Program} {w : World} {H : Hp} {h : Heap} {a C : Addr} {d : Option Addr} (hok : HOk P w H h) (ea : ∃ x0, H a = some (exT a C d x0)) (hd : d = none ∨ ∃ dd vs, d = some dd ∧ H dd = some (.xd vs)) :
    ∃ oe od, PySem.W.InstAt h a oe C od ∧ (∀ dd, d = some dd → ∃ o, od = some o ∧ h.get? dd = some o) := by
  obtain ⟨x0, ea⟩ := ea
  have z := hok a _ ea
  obtain ⟨⟨oe, he, ⟨hz1, hz2⟩, vs, hv, _⟩, _⟩ := z
  rcases hd with rfl | ⟨dd, ws, rfl, hdd⟩
  · exact ⟨oe, none, ⟨he, hz1, by unfold PySem.W.notCls; rw [hv] <;> rfl, by rw [hz2]; trivial⟩, fun _ z => by cases z⟩
  · have hx : ObjOk P w H h dd (.xd ws) := hok dd _ hdd
    obtain ⟨mA, hns, hr⟩ := hx
    obtain ⟨od, ho, hl⟩ := lookIn_ns hns
    exact ⟨oe, some od, ⟨he, hz1, by unfold PySem.W.notCls; rw [hv] <;> rfl, by rw [hz2]; exact ho⟩, fun _ z => by cases z; exact ⟨od, rfl, ho⟩⟩
theorem call_isX {X : Cx} {a C : Addr} (T : ExcC X.K C) : CallR X (.builtin "isinstance") (rIsX X.K C a) := by
  intro pins s σ H xs us Q I r h
  obtain ⟨c, cv, b, d, rfl, hcv, e, ea, hd, q⟩ := h
  cases r with
  | cons rx rr =>
    cases rr with
    | cons rt rr =>
      cases rr
      cases rx
      have ec := hcv _ rt
      subst ec
      obtain ⟨oe, od, J, _⟩ := ext_inst I.hok ea hd
      obtain ⟨cd, hcd, _⟩ := PySem.W.any_some T.hd
      exact PySem.W.kia_one (PySem.W.kitx_exc (od := od) (by rw [hcd]; rfl) T.hg T.hk T.hs T.ha T.hn T.ht T.hm) I.kIn J e (fun z => nomatch z) fun tk => ⟨.bl b, H, I.kept (t' := tk) fun _ _ z => z, rfl, q⟩
section
variable {X : Cx} {kx kx' : XD} {ρ ρ' ρ'' : Ro} {M M' : Mem} {P : Out → Mem → Prop} {pos p np pos' tpos spos : Pos} {e c : Expr} {C : Addr} {N : List Str} {sc : Scope} {k i : Nat} {x : D} {ns : List Str} {ds : List D}
/-- what stands in the heap for an exception that is kept -/
theorem exn_at {K : Frag} {H0 H : Hp} {v : V} {xo : Option (Addr × Value)} (t : Same H0 H) (r : Rep K H0 v (.exn xo C ns ds)) : ∃ a d, v = .ref a ∧ (∃ x0, H a = some (exT a C d x0)) ∧ (d = none ∨ ∃ dd vs, d = some dd ∧ H dd = some (.xd vs)) ∧
    ((d = none ∧ ns = [] ∧ ds = []) ∨ ∃ dd vs xs, d = some dd ∧ H dd = some (.xd vs) ∧ vs.map Prod.fst = ns ∧ vs.map Prod.snd = xs ∧ RepA K H0 xs ds) := by
  cases r with
  | exn0 h _ => exact ⟨_, none, rfl, ⟨_, t _ _ h⟩, .inl rfl, .inl ⟨rfl, rfl, rfl⟩⟩
  | exn1 h1 h2 h3 h4 h5 _ => exact ⟨_, _, rfl, ⟨_, t _ _ h1⟩, .inr ⟨_, _, rfl, t _ _ h2⟩, .inr ⟨_, _, _, rfl, t _ _ h2, h3, h4, h5⟩⟩
theorem dv_isXe {xo : Option (Addr × Value)} {cv : Value} {b : Bool} {f : Str} (n0 : Bn X f (.builtin "isinstance")) (T : ExcC X.K C) (hv : DV X kx e ρ M (.exn xo C ns ds)) (hc : DV X kx c ρ M x) (hcv : ∀ (v : V) (u : Value) (H0 : Hp), Rep X.K H0 v x → RelV v u → u = cv) (hk : PySem.W.kitOne X.K (.ref C) cv = some b)
    (he : starEach [e, c] X.env = (false, eval e X.env) :: starEach [c] X.env := by rfl) (he2 : starEach [c] X.env = (false, eval c X.env) :: starEach [] X.env := by rfl) (hpl : (backTo pos (starEach [c] X.env)).any (·.1) = false := by rfl) : DV X kx (.Call (.Name f p) [e, c] [] pos) ρ M (.bl b) := fun σ H H0 t s W tk hx Q q =>
  sE.by (pe_callB (r := fun xs H Q => ∃ a, rIsX X.K C a xs H Q) (fun pins s σ H xs us Q I r ⟨a, h⟩ => call_isX T pins s σ H xs us Q I r h) n0.gl n0.mg n0.bt (pa_s _) n0.n n0.d he hpl) (da_cons hv (da_cons hc da_nil he2) he σ H H0 t s W tk hx _ fun vs H1 H01 p1 r1 => by
    cases r1 with
    | cons r1 rr =>
      cases rr with
      | cons r2 rr =>
        cases rr
        obtain ⟨a, d, rfl, ea, hd, _⟩ := exn_at (t.pu p1).ex r1
        exact ⟨a, _, cv, b, d, rfl, fun u hu => hcv _ _ H01 r2 hu, hk, ea, hd, q _ H1 H01 p1 (.bl _)⟩)
/-- e.f of an exception -/
def tXe (C : Addr) (f : Str) (te : TE) : TE := fun σ H Q => te σ H fun x H1 => ∃ (a dd : Addr) (fs : List (Str × V)) (v : V), x = .ref a ∧ (∃ x0, H1 a = some (exT a C (some dd) x0)) ∧ H1 dd = some (.xd fs) ∧ fs.lookup f = some v ∧ Q v H1
theorem pe_xe {te : TE} {f : Str} (T : XfC X.K C) (hno : PySem.W.findIn X.K (.ref C) f = some none) (he : PE X e te) (hb : attributeBase e f X.env (eval e X.env) = eval e X.env := by rfl) : PE X (.Attribute e f pos) (tXe C f te) := by
  refine ⟨fun pins s σ H Q I h => ?_⟩
  refine attr_of hb (thn (he.run pins s σ H _ I h) fun u s1 hh => ?_)
  obtain ⟨x, H1, I1, rx, a, dd, fs, v, ex, ea, ed, l, q⟩ := hh
  subst ex
  obtain rfl : u = Value.ref a := rx
  obtain ⟨oe, od, J, hod⟩ := ext_inst I1.hok ea (.inr ⟨dd, fs, rfl, ed⟩)
  have hx : ObjOk X.prog X.w H1 s1.heap dd (.xd fs) := I1.hok dd _ ed
  obtain ⟨mA, hns, hr⟩ := hx
  obtain ⟨od', ho, hl⟩ := lookIn_ns hns
  obtain ⟨o, e1, e2⟩ := hod dd rfl
  rw [ho] at e2
  cases e2
  subst e1
  obtain ⟨u, hu, ru⟩ := RelO.some_of (v := v) (o := mA f) (by rw [← l]; exact hr f)
  exact HandSPX.exc_get I1.kIn J T.ga T.gg T.exC (PySem.W.findObj_own T.hdC hno rfl (by rw [hl, hu])) (handed_of ru) ⟨v, H1, I1.tok _, ru, q⟩
theorem dv_xfld {xo : Option (Addr × Value)} {f : Str} {d : D} (T : XfC X.K C) (hno : PySem.W.findIn X.K (.ref C) f = some none) (hv : DV X kx e ρ M (.exn xo C ns ds)) (hl : (ns.zip ds).lookup f = some d) (hb : attributeBase e f X.env (eval e X.env) = eval e X.env := by rfl) : DV X kx (.Attribute e f pos) ρ M d := fun σ H H0 t s W tk hx Q q =>
  sE.by (pe_xe T hno (pe_s e) hb) (hv σ H H0 t s W tk hx _ fun v H1 H01 p1 r1 => by
    obtain ⟨a, d', rfl, ea, _, h⟩ := exn_at (t.pu p1).ex r1
    rcases h with ⟨_, rfl, rfl⟩ | ⟨dd, vs, xs, rfl, h2, h3, h4, h5⟩
    · cases hl
    · obtain ⟨v, h6, h7⟩ := (lookup_rep (f := f) h3 h4 h5).1 d hl
      exact ⟨a, dd, vs, v, rfl, ea, h2, h6, q v H1 H01 p1 h7⟩)
/-! ### what is asked of one that may be there -/
section
variable {ad : Str → Addr} {names subs : List Str} {o : Option Xn} {e0 : Xn}
def dExnH (xo : Option (Addr × Value)) (ad : Str → Addr) (e : Xn) : D := .exn xo (ad e.1) (e.2.map Prod.fst) (e.2.map Prod.snd)
abbrev dExn (ad : Str → Addr) (e : Xn) : D := dExnH none ad e
theorem dv_exnW {xo : Option (Addr × Value)} {C : Addr} {ns : List Str} {ds : List D} (h : DV X kx e ρ M (.exn xo C ns ds)) : DV X kx e ρ M (.exn none C ns ds) := fun σ H H0 t s W tk hx Q q => h σ H H0 t s W tk hx Q fun v H1 H01 p r => q v H1 H01 p (by
  cases r with
  | exn0 a b => exact .exn0 a (fun _ z => by cases z)
  | exn1 a b c d f g => exact .exn1 a b c d f (fun _ z => by cases z))
/-- isinstance(e, T) -/
theorem dv_isX1 {xo : Option (Addr × Value)} {cv : Value} {f : Str} (n0 : Bn X f (.builtin "isinstance")) (T : ∀ n ∈ names, ExcC X.K (ad n)) (hv : DV X kx e ρ M (dExnH xo ad e0)) (hc : DV X kx c ρ M x) (hcv : ∀ (v : V) (u : Value) (H0 : Hp), Rep X.K H0 v x → RelV v u → u = cv) (hn : e0.1 ∈ names) (hk : ∀ n ∈ names, PySem.W.kitOne X.K (.ref (ad n)) cv = some (decide (n ∈ subs)))
    (he : starEach [e, c] X.env = (false, eval e X.env) :: starEach [c] X.env := by rfl) (he2 : starEach [c] X.env = (false, eval c X.env) :: starEach [] X.env := by rfl) (hpl : (backTo pos (starEach [c] X.env)).any (·.1) = false := by rfl) : DV X kx (.Call (.Name f p) [e, c] [] pos) ρ M (.bl (decide (e0.1 ∈ subs))) :=
  dv_isXe (C := ad e0.1) n0 (T _ hn) hv hc hcv (hk _ hn) he he2 hpl
theorem dv_isX1C {xo : Option (Addr × Value)} {f : Str} {cc : Addr} (n0 : Bn X f (.builtin "isinstance")) (T : ∀ n ∈ names, ExcC X.K (ad n)) (hv : DV X kx e ρ M (dExnH xo ad e0)) (hc : DV X kx c ρ M (.adr cc)) (hn : e0.1 ∈ names) (hk : ∀ n ∈ names, PySem.W.kitOne X.K (.ref (ad n)) (.ref cc) = some (decide (n ∈ subs)))
    (he : starEach [e, c] X.env = (false, eval e X.env) :: starEach [c] X.env := by rfl) (he2 : starEach [c] X.env = (false, eval c X.env) :: starEach [] X.env := by rfl) (hpl : (backTo pos (starEach [c] X.env)).any (·.1) = false := by rfl) : DV X kx (.Call (.Name f p) [e, c] [] pos) ρ M (.bl (decide (e0.1 ∈ subs))) :=
  dv_isX1 n0 T hv hc (fun v u H0 r ru => by cases r; exact ru) hn hk he he2 hpl
/-- e.f, a whole number -/
theorem dv_xfI {xo : Option (Addr × Value)} {f : Str} {v : Int} (T : ∀ n ∈ names, XfC X.K (ad n) ∧ PySem.W.findIn X.K (.ref (ad n)) f = some none) (hn : e0.1 ∈ names) (hv : DV X kx e ρ M (dExnH xo ad e0)) (hl : fldE e0 f = .ok v) (hb : attributeBase e f X.env (eval e X.env) = eval e X.env := by rfl) : DV X kx (.Attribute e f pos) ρ M (.int v) :=
  dv_xfld (T _ hn).1 (T _ hn).2 hv (by rw [zip_fs]; exact fldE_out hl) hb
end
/-! ### try -/
section
variable {α γ : Type} {ad : Str → Addr} {names : List Str} {m : Ex α} {kf : α → Ex γ} {hs : List (List Str × (Xn → Ex γ))} {out : Ex γ}
/-- the clauses and their mirrors -/
inductive HdF (X : Cx) (N : List Str) (sc : Scope) (k : Nat) (ad : Str → Addr) (names : List Str) (ρE : Ro) (M : Mem) (P : Out → Mem → Prop) (out : Ex γ) : List (Value × Option Nat × List Stmt) → List (List Str × (Xn → Ex γ)) → Prop
  | nil : HdF X N sc k ad names ρE M P out [] []
  | cons {cv : Value} {oi : Option Nat} {st : List Stmt} {l : List (Value × Option Nat × List Stmt)} {ns : List Str} {h : Xn → Ex γ} {hs : List (List Str × (Xn → Ex γ))} (e1 : ∀ n ∈ names, PySem.W.exmOne X.K (.ref (ad n)) cv = some (decide (n ∈ ns)))
      (b : ∀ e0 : Xn, h e0 = out → ∀ a x l, BdS (X.suite a l) N sc k → HotT (X.suite a l) x → DS (X.suite a l) kx0 st (setO oi (dExnH (some (a, x)) ad e0) ρE) M (goneO oi P)) (r : HdF X N sc k ad names ρE M P out l hs) : HdF X N sc k ad names ρE M P out ((cv, oi, st) :: l) ((ns, h) :: hs)
theorem fgt_set {ρ1 ρ2 : Ro} (f : Fgt ρ1 ρ2) (i : Nat) (d : Option D) : Fgt (ρ1.set i d) (ρ2.set i d) := by
  obtain ⟨g1, g2⟩ := f
  refine ⟨by rw [List.length_set, List.length_set]; exact g1, fun j d' e => ?_⟩
  by_cases hj : i = j
  · subst hj
    by_cases hl : i < ρ2.length
    · rw [List.getElem?_set_self hl] at e
      rw [List.getElem?_set_self (by omega)]
      exact e
    · rw [List.getElem?_eq_none (by rw [List.length_set]; omega)] at e
      cases e
  · rw [List.getElem?_set_ne hj] at e ⊢
    exact g2 j d' e
theorem fgt_setO {ρ1 ρ2 : Ro} (f : Fgt ρ1 ρ2) (oi : Option Nat) (d : D) : Fgt (setO oi d ρ1) (setO oi d ρ2) := by
  cases oi with
  | none => exact f
  | some i => exact fgt_set f i _
theorem hdF_q {l : List (Value × Option Nat × List Stmt)} {ρE ρ' : Ro} {n : Str} {fs : List (Str × D)} (h : HdF X N sc k ad names ρE M P out l hs) (hn : n ∈ names) (f : Fgt ρ' ρE) (cov : ∃ c ∈ hs, n ∈ c.1) (e : hdF hs (n, fs) = out) : hdQ X N sc k kx P l (.ref (ad n)) fs ρ' M := by
  induction h with
  | nil => obtain ⟨c, z, _⟩ := cov; cases z
  | @cons cv oi st l ns h hs e1 b r ih =>
    refine ⟨_, e1 n hn, fun y => ⟨ad n, rfl, fun a x l' B' hot => ?_⟩, fun y => ih ?_ ?_⟩
    · have q := b (n, fs) (by rw [hdF_yes (of_decide_eq_true y)] at e; exact e) a x l' B' hot
      exact q.fgt (fgt_setO f oi _)
    · obtain ⟨c, z, zz⟩ := cov
      rcases List.mem_cons.mp z with rfl | z
      · exact absurd zz (of_decide_eq_false y)
      · exact ⟨c, z, zz⟩
    · rw [hdF_no (of_decide_eq_false y)] at e; exact e
theorem ds1_tryC {body : List Stmt} {h0 : ExceptHandler} {hds : List ExceptHandler} {l : List (Value × Option Nat × List Stmt)} {Q0 : Ex α → Out → Mem → Prop} (ρE : Ro) (B : Bd X N sc k) (F : Bf X) (hh : HdD X N sc (h0 :: hds) l) (ht : tryF names m kf hs = out) (ne : out ≠ .bad)
    (ga : ∀ n ∈ names, X.mg n = some (.ref (ad n)))
    (hb : ∀ pn xe, Bd (X.tr pn xe) N sc k → Bf (X.tr pn xe) → ∀ o, m = o → o ≠ .bad → DS (X.tr pn xe) (fun cls fs ρ' M' => kxE X.mg o cls fs ρ' M' ∧ FgtL ρ' ρE ∧ M' = M) body ρ M (Q0 o))
    (h1 : ∀ o md, Q0 m o md → P o md) (hcl : HdF X N sc k ad names ρE M P out l hs) (cov : covB names (hs.map Prod.fst) = true) : DS1 X kx (.Try body (h0 :: hds) [] [] pos) ρ M P := by
  have nb : m ≠ .bad := fun z => ne (by rw [← ht, z]; rfl)
  refine ds1_tryH B F hh fun pn xe B' F' => ((hb pn xe B' F' m rfl nb).onX fun cls fs ρ' M' q => ?_).imp h1
  obtain ⟨⟨n, e1, e2⟩, e3, rfl⟩ := q
  have hn : n ∈ names := by
    by_cases hn : n ∈ names
    · exact hn
    · refine absurd ?_ ne
      rw [← ht, e1]
      show (if n ∈ names then hdF hs (n, fs) else .bad) = _
      rw [if_neg hn]
  rw [tryF_exc e1 hn] at ht
  have e4 := (ga n hn).symm.trans e2
  cases e4
  exact hdF_q hcl hn e3.fgt (covB_mem cov hn) ht
/-- try, what follows joined -/
theorem ds1_tryG {ι : Type} {body : List Stmt} {h0 : ExceptHandler} {hds : List ExceptHandler} {l : List (Value × Option Nat × List Stmt)} (R : ι → α → Ro) (Mf : ι → α → Mem) (ρE : Ro) (B : Bd X N sc k) (F : Bf X) (hh : HdD X N sc (h0 :: hds) l) (ht : tryF names m kf hs = out) (ne : out ≠ .bad)
    (ga : ∀ n ∈ names, X.mg n = some (.ref (ad n))) (cov : covB names (hs.map Prod.fst) = true)
    (hb : ∀ pn xe, Bd (X.tr pn xe) N sc k → Bf (X.tr pn xe) → ∀ o, m = o → o ≠ .bad → DS (X.tr pn xe) (fun cls fs ρ' M' => kxE X.mg o cls fs ρ' M' ∧ FgtL ρ' ρE ∧ M' = M) body ρ M (joinQ R Mf Ex.ok o P))
    (hcl : HdF X N sc k ad names ρE M (joinQ R Mf kf out P) out l hs)
    (hk : ∀ a z, kf z = out → P (.nx (R a z)) (Mf a z)) (hP : ∀ ρ1 ρ2 M1, Fgt ρ1 ρ2 → P (.nx ρ2) M1 → P (.nx ρ1) M1) : DS1 X kx (.Try body (h0 :: hds) [] [] pos) ρ M P := by
  have jn : ∀ {o : Out} {m' : Mem}, joinQ R Mf kf out P o m' → P o m' := fun {o m'} q => by
    cases o with
    | nx ρ1 =>
      obtain ⟨a, z, e1, e2, e3⟩ := q
      subst e3
      exact hP _ _ _ e2.fgt (hk a z e1)
    | bk ρ1 => exact q
    | ct ρ1 => exact q
    | rt d => exact q
  have r : DS1 X kx (.Try body (h0 :: hds) [] [] pos) ρ M (joinQ R Mf kf out P) := by
    refine ds1_tryC ρE B F hh ht ne ga (fun pn xe B' F' o e n => (hb pn xe B' F' o e n)) (fun o md q => ?_) hcl cov
    cases o with
    | nx ρ1 =>
      obtain ⟨a, z, e1, e2, e3⟩ := q
      exact ⟨a, z, by rw [← ht, ← e1]; rfl, e2, e3⟩
    | bk ρ1 => exact q
    | ct ρ1 => exact q
    | rt d => exact q
  exact fun σ H H0 t s W tk hx D c => r σ H H0 t s W tk hx D (c.imp fun o m q => jn q)
theorem goneS_nx {i : Nat} {Q : Out → Mem → Prop} (h : Q (.nx (ρ.set i none)) M) : goneO (some i) Q (.nx ρ) M := h
end
end
end Dl

/-! raising an exception of an own class that keeps a field: its __init__ calls the base's, stores the field -/
namespace Dl
open PySem PySem.Spec PyProof.Rows L2
section
variable {X : Cx} {o e : Expr} {es : List Expr} {to te : TE} {ta : TA} {f : Str} {p p' p1 p2 pos : Pos}
/-- B.__init__(self, ..), B an own class that has none of its own -/
theorem pe_cinit {pl : Sem Bool} {bx : Str} {CB : Addr} {mc : Value} (hg : Gl X bx) (hm : X.mg bx = some (.ref CB)) (r : ClX.CRead X.K CB mc) (vV : PySem.W.findCls X.K (.ref CB) mc "__init__" = some (.val (.builtin "ValueError.__init__"))) (ha : PA X (e :: es) ta) (hdb : (bx == ("__debug__" : Str)) = false := by decide)
    (hc : eval (.Call (.Attribute (.Name bx p1) "__init__" p2) (e :: es) [] pos) X.env = (do
      let ov ← eval (.Name bx p1) X.env
      standAt p2.atName
      let (f, first) ← holding [ov] (getMethod ov "__init__" pl)
      callWith pos f first (backTo pos (starEach (e :: es) X.env)) (backToKw pos (keywordEach [] X.env))) := by rfl)
    (he : starEach (e :: es) X.env = (false, eval e X.env) :: starEach es X.env := by rfl) (hpl : (backTo pos (starEach es X.env)).any (·.1) = false := by rfl) :
    PE X (.Call (.Attribute (.Name bx p1) "__init__" p2) (e :: es) [] pos) (tVeI X.K ta) := by
  refine ⟨fun pins s σ H Q I h => ?_⟩
  refine PySem.W.methodCall_KW (ld_glob I hg hm ?_ hdb) hc
  refine PySem.W.method_cls I.kIn r.ga (PySem.W.cls_value I.kIn r.rd vV (by decide +kernel) ?_)
  show wpAny _ _ (callWith pos (Value.builtin "ValueError.__init__") [] (backTo pos (starEach (e :: es) X.env)) []) _ _ _
  refine PyProof.Rows.callWith_method1 (thn (ha.run pos pins _ σ H _ (I.tok _) h) fun us s1 ⟨vs, H1, I1, r1, a, C, ws, ev, hl, T, ea, q⟩ => ?_) he hpl
  subst ev
  cases r1 with
  | @cons _ u0 _ ur ra rw' =>
    obtain rfl : u0 = Value.ref a := ra
    have hlen : ur.length ≤ sizeLine := by
      rw [← Paired.length rw', sizeLine_eq]
      omega
    exact oinit_ok T I1 ea hlen fun s' J => ⟨.non, H1, J, rfl, q⟩
end
/-- C(e, ..): what is known of the new record (its context is None) -/
theorem mk_endN {X : Cx} {pins : List (Addr × PySem.Obj)} {σ : L2.St} {H1 H2 : Hp} {Q : XK} {hp hp2 h2 : Heap} {g1 g2 : Array GenState} {d1 d2 : Drawn} {t1 t2 : Nat} {os1 os2 : OsState} {a C d : Addr} {fs : List (Str × V)} (T : Raises X (.ref C)) (I1 : Inv X pins σ H1 ⟨hp, g1, d1, t1, os1⟩)
    (ha : hp.objs.size ≤ a) (k : ∀ b o, hp.get? b = some o → hp2.get? b = some o) (un : Un (frs X.stack) [] (upd H1 a (exo a C none)) H2 hp2 h2) (hok : HOk X.prog X.w H2 h2) (ho : os2 = os1) (hb : AllBare g2)
    (ea : H2 a = some (exo a C (some d))) (ed : H2 d = some (exd d fs)) (hd1 : H1 d = none) (q : Q (.ref C) (some d) (upd (del H2 a) d (.xd fs))) : L2N.MkP X pins σ Q (.ref a) ⟨h2, g2, d2, t2, os2⟩ := by
  obtain ⟨t0, G, J, kG, ge, hoe, na⟩ := mk_end0 (d2 := d2) (t2 := t2) I1 ha k un hok ho hb ea ed hd1
  exact ⟨a, _, _, ⟨G, g2, d2, t2, os2⟩, _, .ref C, some d, rfl, J, kG, ge, hoe, ⟨rfl, rfl, fun vs hv => by cases hv; rfl⟩, rfl, rfl, na, rfl, hb, T, q⟩
/-- C(e, ..), C an own class of exceptions with its own __init__; the def may be run wherever R says -/
theorem pmk_oexG {X : Cx} {CX : CXT} {x : Str} {e : Expr} {es : List Expr} {ta : TA} {p pos : Pos} {C fI : Addr} {fd : FuncData} {ps : List Str} {sp : Sp} (T : OexC X.K C) (iC : PySem.W.findIn X.K (.ref C) "__init__" = some (some (.ref fI))) (tI : PySem.W.typeIn X.K (.ref fI) = some (.type "function")) (len : ∀ vs H Q E, sp vs H Q E → vs.length = ps.length)
    (run : ∀ (s : Shared) (H : Hp) (args : Args) (us us' : List Value) (vs : List V) (Q : VK) (E : XK), Env0 X.prog X.w X.K X.mg X.base (X.A.under (.builtin "type.__call__" ⟨.ref C :: us', []⟩)) X.stack s H → BindsTo s fd args (ps.zip us) → Vals vs us → sp vs H Q E → codeAny (model X.prog X.w) (X.A.under (.builtin "type.__call__" ⟨.ref C :: us', []⟩)) (.call (.ref fI) args) (CR CX X.stack X.prog X.w H s Q E) s)
    (hb : Binds X.K fd ps []) (hx : Passes CX X (fun _ _ _ => False)) (hg : Gl X x) (hm : X.mg x = some (.ref C)) (ha : PA X (e :: es) ta)
    (hdb : (x == ("__debug__" : Str)) = false := by decide) (he : starEach (e :: es) X.env = (false, eval e X.env) :: starEach es X.env := by rfl) (hpl : (backTo pos (starEach es X.env)).any (·.1) = false := by rfl) :
    L2N.PMk X (.Call (.Name x p) (e :: es) [] pos) (tMkO C sp [] ta) := by
  intro pins s σ H Q I h
  obtain ⟨nm, q, N, bs, bm, sn, sub, ab, col, dd, k0, k1, k2, k3, k5, hC, hbm⟩ := T.cls
  refine wpAny_Call_Name_kw (ld_glob I hg hm ?_ hdb)
  refine PySem.W.callWith_K (h₀ := X.base) I.ok.mod.kin T.kC (thn (ha.run pos pins s σ H _ I h) fun us s1 ⟨vs, H1, I1, r1, hz, q1⟩ => ⟨I1.kIn, ?_⟩) he hpl
  show wpAny _ _ (call (.ref C) us) _ _ _
  obtain ⟨hp, g, dr, tk, os⟩ := s1
  have hsz : hp.objs.size ≤ hp.objs.size + 1 := Nat.le_succ _
  have hn : H1 (hp.objs.size + 1) = none := I1.hok.fresh hsz
  have hq := q1 (hp.objs.size + 1) hn
  rw [List.append_nil] at hq
  have kk : ∀ b o, hp.get? b = some o → ((hp.push (PySem.W.kdv_tup us)).push (PySem.HandSPX.excO C hp.objs.size)).get? b = some o := fun b o e => Heap.get?_push_of_some _ (Heap.get?_push_of_some _ e)
  have hget : ((hp.push (PySem.W.kdv_tup us)).push (PySem.HandSPX.excO C hp.objs.size)).get? (hp.objs.size + 1) = some (PySem.HandSPX.excO C hp.objs.size) := by heap_get
  have I2 : Inv X pins σ (upd H1 (hp.objs.size + 1) (exo (hp.objs.size + 1) C none)) ⟨(hp.push (PySem.W.kdv_tup us)).push (PySem.HandSPX.excO C hp.objs.size), g, dr, tk, os⟩ :=
    I1.laid (t' := tk) (a := hp.objs.size + 1) (o := exo (hp.objs.size + 1) C none) (h' := (hp.push (PySem.W.kdv_tup us)).push (PySem.HandSPX.excO C hp.objs.size)) kk hsz (exo_ok hget)
  have r2 : Vals (V.ref (hp.objs.size + 1) :: vs) (Value.ref (hp.objs.size + 1) :: us) := .cons rfl r1
  have hl : (Value.ref (hp.objs.size + 1) :: us ++ []).length = ps.length := by
    have e := r2.length
    rw [len _ _ _ _ hq] at e
    rw [List.append_nil]
    exact e.symm
  have hus : us.length ≤ sizeLine := by
    rw [← Paired.length r1, sizeLine_eq]
    omega
  have b2 := hb _ (Value.ref (hp.objs.size + 1) :: us) I2.kIn hl
  rw [List.append_nil] at b2
  refine wpAny_call (PySem.HandSPX.call_own F.excBase_ValueError (fun Y => PySem.HandSPX.refsVE_contains Y bm hbm) (I1.kIn _ _ hC) (PySem.W.looks_findIn I1.kIn iC) (fun self => PySem.W.bind_fn I1.kIn self tI) hus
    (codeAny_mono (run _ _ ⟨Value.ref (hp.objs.size + 1) :: us, []⟩ (Value.ref (hp.objs.size + 1) :: us) us _ _ (fun _ _ _ => False) (I2.env0.make C us []) b2 r2 hq) fun r s' hq' => ?_))
  cases r with
  | error er => exact hx pins σ _ _ er s' I2 hq'
  | ok fl =>
    cases fl with
    | ret u =>
      obtain ⟨v, H2, os2, bare2, un2, hok2, rv, ev, d, fs, ea, ed, hd1, q2⟩ := hq'
      subst ev
      obtain ⟨h2, g2, d2, t2, os'⟩ := s'
      exact ⟨rv, mk_endN (raises_own T.exC T.tyC) I1 hsz kk un2 hok2 os2 bare2 ea ed hd1 q2⟩
    | next => exact False.elim hq'
    | brk => exact False.elim hq'
    | cont => exact False.elim hq'
theorem pmk_oexN {X : Cx} {CX : CXT} {x : Str} {e : Expr} {es : List Expr} {ta : TA} {p pos : Pos} {C fI : Addr} {k : Nat} {fd : FuncData} {ps : List Str} {sp : Sp} (T : OexC X.K C) (iC : PySem.W.findIn X.K (.ref C) "__init__" = some (some (.ref fI))) (tI : PySem.W.typeIn X.K (.ref fI) = some (.type "function"))
    (F1 : FnOk X.prog X.w X.K X.mg X.base CX k fI fd ps sp) (hr : Room (k + 1) X.A) (hb : Binds X.K fd ps []) (hx : Passes CX X (fun _ _ _ => False)) (hg : Gl X x) (hm : X.mg x = some (.ref C)) (ha : PA X (e :: es) ta)
    (hdb : (x == ("__debug__" : Str)) = false := by decide) (he : starEach (e :: es) X.env = (false, eval e X.env) :: starEach es X.env := by rfl) (hpl : (backTo pos (starEach es X.env)).any (·.1) = false := by rfl) :
    L2N.PMk X (.Call (.Name x p) (e :: es) [] pos) (tMkO C sp [] ta) :=
  pmk_oexG T iC tI F1.len (fun s H args us us' vs Q E e0 b r h => F1.run _ X.stack s H args us vs Q E (hr.make C us' []) e0 b r h) hb hx hg hm ha hdb he hpl
/-- what such an __init__ does -/
def spX (K : Frag) (C : Addr) (fl : Str) : Sp := fun xs H Q E => ∃ (a : Addr) (v : V), xs = [.ref a, v] ∧ OexC K C ∧ PySem.W.findIn K (.ref C) fl = some none ∧ H a = some (exo a C none) ∧
  ∀ dx, H dx = none → dx ≠ a → Q .non (upd (upd H dx (exd dx [(fl, v)])) a (exo a C (some dx)))
/-- an own class of exceptions with one field -/
structure XFT (K : Frag) (mg : Str → Option Value) (x : Str) (C : Addr) (fl : Str) (st : Stmt) (CB : Addr) : Prop where
  gC : mg x = some (.ref C)
  oex : OexC K C
  fno : PySem.W.findIn K (.ref C) fl = some none
  gB : mg "BookError" = some (.ref CB)
  rB : ClX.CRead K CB (.type "type")
  vB : PySem.W.findCls K (.ref CB) (.type "type") "__init__" = some (.val (.builtin "ValueError.__init__"))
  ini : ∃ f fd, FunD K "__init__" (x ++ ".__init__") (defArgs st) (defBody st) (defScope st) [] [] f fd ∧ Binds K fd ["self", fl] [] ∧ PySem.W.findIn K (.ref C) "__init__" = some (some (.ref f)) ∧ PySem.W.typeIn K (.ref f) = some (.type "function")
section
variable {P : Program} {w : World} {K : Frag} {mg : Str → Option Value} {base : Heap}
theorem fn_xinit {x qual : Str} {st : Stmt} {f C CB : Addr} {fd : FuncData} {fl t : Str} {k j : Nat} {p1 p2 p3 p4 p5 p6 p7 p8 p9 p10 : Pos} (F : FunD K x qual (defArgs st) (defBody st) (defScope st) [] [] f fd) (S : FnScope ["self", fl] ["self", fl] (defScope st))
    (hb : defBody st = [.Expr (.Call (.Attribute (.Name "BookError" p1) "__init__" p2) [.Name "self" p3, .Constant (.str t) j p4] [] p5) p6, .Assign [.Attribute (.Name "self" p7) fl p8] (.Name fl p9) p10])
    (gB : mg "BookError" = some (.ref CB)) (rB : ClX.CRead K CB (.type "type")) (vB : PySem.W.findCls K (.ref CB) (.type "type") "__init__" = some (.val (.builtin "ValueError.__init__")))
    (hl : (defScope st).names.lookup ("BookError" : Str) = some .globalImplicit) (v0 : (defScope st).names.lookup ("self" : Str) = some .local) (v1 : (defScope st).names.lookup fl = some .local) (d1 : (fl == ("__debug__" : Str)) = false) (d2 : (fl == ("__classdict__" : Str)) = false)
    (hc : ∀ env : Env, ∃ pl, eval (.Call (.Attribute (.Name "BookError" p1) "__init__" p2) [.Name "self" p3, .Constant (.str t) j p4] [] p5) env = (do
      let ov ← eval (.Name "BookError" p1) env
      standAt p2.atName
      let (f, first) ← holding [ov] (getMethod ov "__init__" pl)
      callWith p5 f first (backTo p5 (starEach [.Name "self" p3, .Constant (.str t) j p4] env)) (backToKw p5 (keywordEach [] env)))) :
    FnOk P w K mg base (Dl.CX P w) (k + 1) f fd ["self", fl] (spX K C fl) := by
  refine F.ok S (fun vs H Q E h => ?_) (fun cdv A outer s H vs Q E hr hsp => ?_)
  · obtain ⟨a, v, rfl, _⟩ := h
    rfl
  · obtain ⟨a, v, rfl, T, hno, ea, hq⟩ := hsp
    obtain ⟨B, Fz⟩ := bd_of (P := P) (w := w) (K := K) (mg := mg) (base := base) (outer := outer) (H := H) (E := E) S hr
    rw [hb]
    obtain ⟨pl, hc⟩ := hc (cxOf (Dl.CX P w) P w K mg base ["self", fl] qual (defScope st) f cdv A outer s H E).env
    have nSelf := B.nm (i := 0) (x := "self") rfl (.inl v0)
    have nF := B.nm (i := 1) (x := fl) rfl (.inl v1) d1 d2
    refine ⟨_, pss_cons (ps_expr (pe_cinit (pl := pl) (B.gl hl) gB rB vB (pa_cons (pe_var nSelf.get nSelf.vis nSelf.d1 nSelf.d2) (pa_cons pe_str pa_nil)) (by decide) hc) (by rfl)) (pss_cons (ps_ost (pe_var nSelf.get nSelf.vis nSelf.d1 nSelf.d2) (pe_var nF.get nF.vis nF.d1 nF.d2)) pss_nil), ?_⟩
    refine ⟨.ref a, rfl, ?_⟩
    refine ⟨a, C, [.str t], rfl, (by show (1 : Nat) ≤ 1000; decide), T, ea, ?_⟩
    refine ⟨v, rfl, .ref a, rfl, a, C, rfl, T, hno, .inl ⟨ea, fun dx h1 h2 => hq dx h1 h2⟩⟩
end
section
variable {X : Cx} {kx : XD} {ρ : Ro} {M : Mem} {P : Out → Mem → Prop} {pos p pos2 : Pos} {e : Expr} {d : D}
theorem ds1_raiseF {x fl : Str} {C : Addr} {f : Addr} {fd : FuncData} {k : Nat} (hc : X.calm = true) (oex : OexC X.K C) (gC : X.mg x = some (.ref C)) (hg : Gl X x) (fno : PySem.W.findIn X.K (.ref C) fl = some none) (iC : PySem.W.findIn X.K (.ref C) "__init__" = some (some (.ref f))) (tI : PySem.W.typeIn X.K (.ref f) = some (.type "function"))
    (F1 : FnOk X.prog X.w X.K X.mg X.base (Dl.CX X.prog X.w) k f fd ["self", fl] (spX X.K C fl)) (hr : Room (k + 1) X.A) (hb : Binds X.K fd ["self", fl] []) (hv : DV X kx e ρ M d) (hk : ∀ cls, X.mg x = some cls → kx cls [(fl, d)] ρ M) (hdb : (x == ("__debug__" : Str)) = false := by decide)
    (he : starEach [e] X.env = (false, eval e X.env) :: starEach [] X.env := by rfl) (hpl : (backTo pos (starEach [] X.env)).any (·.1) = false := by rfl) :
    DS1 X kx (.Raise (some (.Call (.Name x p) [e] [] pos)) none pos2) ρ M P := fun σ H H0 t s W tk hx D c =>
  sS.by (L2N.ps_raise hc tk.n (pmk_oexN oex iC tI F1 hr hb (fun _ _ _ _ _ _ _ ⟨_, _, _, _, _, _, _, _, _, _, _, _, _, _, _, z⟩ => z.elim) hg gC (pa_s _) hdb he hpl)) (da_cons hv da_nil he σ H H0 t s W tk hx _ fun vs H1 H01 p1 r1 => by
    obtain ⟨v, rfl, r2⟩ := repA1 r1
    · refine ⟨(by show (1 : Nat) ≤ 1000; decide), fun a na => ⟨a, _, rfl, oex, fno, upd_same, fun dx h1 h2 => ?_⟩⟩
      have hd : H1 dx = none := by rw [upd_ne h2] at h1; exact h1
      refine ⟨rfl, dx, _, upd_same, by rw [upd_ne h2, upd_same], hd, ?_⟩
      have eH : upd (del (upd (upd (upd H1 a (exo a C none)) dx (exd dx [(fl, v)])) a (exo a C (some dx))) a) dx (.xd [(fl, v)]) = upd H1 dx (.xd [(fl, v)]) := by
        funext b
        by_cases hb : b = dx
        · rw [hb, upd_same, upd_same]
        · rw [upd_ne hb, upd_ne hb]
          by_cases hba : b = a
          · rw [hba, del_same, na]
          · rw [del_ne hba, upd_ne hba, upd_ne hb, upd_ne hba]
      rw [eH]
      have pn := Pu.new1 (t.pu p1).ex hd (.xd [(fl, v)])
      have pz := p1.trans pn
      exact hx (.ref C) (some dx) σ _ _ [(fl, d)] ρ M pz.go (t.pu pz) (s.mo pz.e0) (.inr ⟨by simp, dx, [(fl, v)], [v], rfl, upd_same, rfl, rfl, .cons (r2.mo pn.e0) .nil⟩) (hk _ gC))
end
/-! ### what the top has written -/
/-- an own class of exceptions that has its own __init__ -/
structure ExF (K : Frag) (mg : Str → Option Value) (x : Str) (C : Addr) : Prop extends ExcC K C where
  gC : mg x = some (.ref C)
/-- an exception's own __init__, as K holds it -/
def XIni (K : Frag) (C : Addr) (x : String) (fl : Str) (st : Stmt) : Prop := ∃ f fd, FunD K "__init__" (x ++ ".__init__") (defArgs st) (defBody st) (defScope st) [] [] f fd ∧ Binds K fd ["self", fl] [] ∧ PySem.W.findIn K (.ref C) "__init__" = some (some (.ref f)) ∧ PySem.W.typeIn K (.ref f) = some (.type "function")
theorem XIni.mk {K : Frag} {C f : Addr} {x : String} {fl : Str} {st : Stmt} {od an : Option Addr} {sl : Array (Option Value)} {oc kV dc pm cd ct : Value} (a : PySem.W.findIn K (.ref C) "__init__" = some (some (.ref f))) (i : PySem.W.typeIn K (.ref f) = some (.type "function"))
    (l : K.lookup f = some ⟨oc, od, .func (PySem.W.fnOf "__init__" (x ++ ".__init__") (defArgs st) (defBody st) (defScope st) .none kV dc pm an cd ct), sl⟩) (c : PySem.W.codeIn K cd (x ++ ".__init__") = true) (k : PySem.W.keepIn K (.ref f) = true)
    (b : ∀ (kV doc pm : Value) (an : Option Addr) (cdv ct : Value) (us : List Value), us.length = 2 → bindArgs (PySem.W.fnOf "__init__" (x ++ ".__init__") (defArgs st) (defBody st) (defScope st) .none kV doc pm an cdv ct) ⟨us, []⟩ = pure ((["self", fl] : List Str).zip us)) : XIni K C x fl st := by
  have F : FunD K "__init__" (x ++ ".__init__") (defArgs st) (defBody st) (defScope st) [] [] f (PySem.W.fnOf "__init__" (x ++ ".__init__") (defArgs st) (defBody st) (defScope st) .none kV dc pm an cd ct) := ⟨⟨oc, od, .none, kV, dc, pm, an, cd, ct, sl, rfl, l, c, .inl ⟨rfl, rfl⟩, .inl rfl⟩, k⟩
  exact ⟨f, _, F, F.bindsN b, a, i⟩
section
variable {X : Cx} {kx : XD} {ρ : Ro} {M : Mem} {P : Out → Mem → Prop} {pos p pos2 : Pos} {e : Expr} {d : D}
/-- raise x(e), x an own class with a field -/
theorem ds1_raiseX {x : String} {fl t : Str} {C CB : Addr} {st : Stmt} {j : Nat} {p1 p2 p3 p4 p5 p6 p7 p8 p9 p10 : Pos} (hc : X.calm = true) (hr : Room 2 X.A) (oex : OexC X.K C) (gC : X.mg (Str.ofString x) = some (.ref C)) (hg : Gl X (Str.ofString x)) (fno : PySem.W.findIn X.K (.ref C) fl = some none) (I : XIni X.K C x fl st)
    (S : FnScope ["self", fl] ["self", fl] (defScope st)) (hb : defBody st = [.Expr (.Call (.Attribute (.Name "BookError" p1) "__init__" p2) [.Name "self" p3, .Constant (.str t) j p4] [] p5) p6, .Assign [.Attribute (.Name "self" p7) fl p8] (.Name fl p9) p10])
    (gB : X.mg "BookError" = some (.ref CB)) (rB : PySem.W.readsIn X.K CB (.type "type") = true) (rG : PySem.W.specialIn X.K (.ref CB) "__getattribute__" = some (some (.builtin "type.__getattribute__"))) (vB : PySem.W.findCls X.K (.ref CB) (.type "type") "__init__" = some (.val (.builtin "ValueError.__init__")))
    (hl : (defScope st).names.lookup ("BookError" : Str) = some .globalImplicit) (v0 : (defScope st).names.lookup ("self" : Str) = some .local) (v1 : (defScope st).names.lookup fl = some .local) (d1 : (fl == ("__debug__" : Str)) = false) (d2 : (fl == ("__classdict__" : Str)) = false)
    (hcc : ∀ env : Env, ∃ pl, eval (.Call (.Attribute (.Name "BookError" p1) "__init__" p2) [.Name "self" p3, .Constant (.str t) j p4] [] p5) env = (do
      let ov ← eval (.Name "BookError" p1) env
      standAt p2.atName
      let (f, first) ← holding [ov] (getMethod ov "__init__" pl)
      callWith p5 f first (backTo p5 (starEach [.Name "self" p3, .Constant (.str t) j p4] env)) (backToKw p5 (keywordEach [] env))))
    (hv : DV X kx e ρ M d) (hk : ∀ cls, X.mg (Str.ofString x) = some cls → kx cls [(fl, d)] ρ M) (hdb : (Str.ofString x == ("__debug__" : Str)) = false := by decide)
    (he : starEach [e] X.env = (false, eval e X.env) :: starEach [] X.env := by rfl) (hpl : (backTo pos (starEach [] X.env)).any (·.1) = false := by rfl) :
    DS1 X kx (.Raise (some (.Call (.Name (Str.ofString x) p) [e] [] pos)) none pos2) ρ M P := by
  obtain ⟨f, fd, F, Bi, iC, tI⟩ := I
  exact ds1_raiseF hc oex gC hg fno iC tI (fn_xinit (k := 0) F S hb gB ⟨rB, rG⟩ vB hl v0 v1 d1 d2 hcc) hr Bi hv hk hdb he hpl
end
end Dl

/-! slices of tuples; lists of owned things -/
namespace Dl
open PySem PySem.Spec PyProof.Rows L2
section
variable {X : Cx} {kx kx' : XD} {ρ ρ' ρ'' : Ro} {M M' : Mem} {P : Out → Mem → Prop} {pos p np pos' tpos spos : Pos} {a e c : Expr} {C : Addr} {N : List Str} {sc : Scope} {k i : Nat} {x : D} {ns : List Str} {ds : List D}
end
/-! ### == of things with texts within -/
/-- an encoding: clean, of small depth, one to one -/
structure EnS {α : Type} (n : Nat) (f : α → D) : Prop where
  flat : ∀ x, (f x).flat = true
  depth : ∀ x, (f x).py.depth ≤ n
  eqv : ∀ x y, PyData.eqv (f x).py (f y).py = true ↔ x = y
structure EnSL {α : Type} (n : Nat) (F : α → List D) : Prop where
  flat : ∀ x, D.flatA (F x) = true
  depth : ∀ x, PyData.depthAll (D.pyA (F x)) ≤ n
  eqv : ∀ x y, PyData.eqvAll (D.pyA (F x)) (D.pyA (F y)) = true ↔ x = y
/-- the texts within are texts -/
def layD (d : D) : Prop := PyData.canLay0 d.py = true
section
variable {α β : Type} {n m : Nat} {f : α → D} {F : α → List D} {G : β → List D}
theorem EnS.mono (h : EnS n f) (l : n ≤ m) : EnS m f := ⟨h.flat, fun x => Nat.le_trans (h.depth x) l, h.eqv⟩
theorem En.s (h : En n f) : EnS n f := ⟨h.flat, h.depth, h.eqv⟩
theorem EnS.eqs [DecidableEq α] (h : EnS n f) (x y : α) (lx : layD (f x)) (ly : layD (f y)) (hn : n ≤ 64 := by decide) : Eqs (f x) (f y) (decide (x = y)) := by
  refine ⟨h.flat x, h.flat y, ?_, ?_, ?_⟩
  · have := h.depth x
    unfold SeqAt.shaped; rw [lx, Bool.true_and, decide_eq_true_eq]; omega
  · have := h.depth y
    unfold SeqAt.shaped; rw [ly, Bool.true_and, decide_eq_true_eq]; omega
  · refine Bool.eq_iff_iff.mpr ?_
    rw [decide_eq_true_iff]; exact h.eqv x y
end
end Dl

/-! lists of things that change: one of them taken out to be changed; comprehensions that change, or make, things -/
namespace Dl
open PySem PySem.Spec PyProof.Rows L2
/-! ### one of a list -/
def updI {α : Type} (xs : List α) (i : Int) (v : α) : List α := match ixN xs.length i with
  | some j => xs.set j v
  | none => xs
section
variable {α β : Type} {E : β → Ow → Prop}
theorem ixE_ixN {xs : List α} {i : Int} {x : α} (h : ixE xs i = .ok x) : ∃ j, ixN xs.length i = some j ∧ xs[j]? = some x := by
  unfold ixE at h
  unfold ixN
  by_cases c : 0 ≤ i
  · rw [if_pos c] at h
    have e := some_out h
    have l := (List.getElem?_eq_some_iff.mp e).1
    exact ⟨i.toNat, by rw [if_pos c, if_pos (by omega)], e⟩
  · rw [if_neg c] at h
    by_cases c2 : 0 ≤ i + xs.length
    · rw [if_pos c2] at h
      have e := some_out h
      refine ⟨(i + xs.length).toNat, ?_, e⟩
      rw [if_neg c, if_pos (by omega)]
    · rw [if_neg c2] at h; cases h
/-- several, each owned -/
inductive OwA (E : β → Ow → Prop) : List β → List D → Mem → Prop
  | nil : OwA E [] [] []
  | cons {r : β} {rs : List β} {d : D} {ds : List D} {m1 m2 : Mem} : OwR E r d m1 → OwA E rs ds m2 → OwA E (r :: rs) (d :: ds) (m1 ++ m2)
theorem OwA.all {rs : List β} {ds : List D} {m : Mem} (h : OwA E rs ds m) : ∃ os, All2 E rs os ∧ ds = Ow.rootA os ∧ m = Ow.memA os := by
  induction h with
  | nil => exact ⟨[], .nil, by simp [Ow.rootA], by simp [Ow.memA]⟩
  | cons h _ ih =>
    obtain ⟨o, h1, rfl, rfl⟩ := h
    obtain ⟨os, h2, rfl, rfl⟩ := ih
    exact ⟨o :: os, .cons h1 h2, by simp [Ow.rootA], by simp [Ow.memA]⟩
theorem ownA_lst {rs : List β} {ds : List D} {m : Mem} (h : OwA E rs ds m) (w : Addr) : OwR (isLst E) rs (.adr w) ((w, .lst ds) :: m) := by
  obtain ⟨os, h1, rfl, rfl⟩ := h.all
  exact ⟨.lst w os, ⟨w, os, rfl, h1⟩, by simp only [Ow.root], by simp only [Ow.mem]⟩
/-- laid open -/
theorem own_open {rs : List β} {d : D} {m : Mem} (h : OwR (isLst E) rs d m) : ∃ w ds m', d = .adr w ∧ m = (w, .lst ds) :: m' ∧ OwA E rs ds m' ∧ ds.length = rs.length := by
  obtain ⟨o, ⟨a, os, rfl, al⟩, rfl, rfl⟩ := h
  have key : ∀ {rs : List β} {os : List Ow}, All2 E rs os → OwA E rs (Ow.rootA os) (Ow.memA os) := fun h => by
    induction h with
    | nil => simp only [Ow.rootA, Ow.memA]; exact .nil
    | cons h _ ih => simp only [Ow.rootA, Ow.memA]; exact .cons ⟨_, h, rfl, rfl⟩ ih
  exact ⟨a, Ow.rootA os, Ow.memA os, by simp only [Ow.root], by simp only [Ow.mem], key al, by rw [rootA_map, List.length_map, al.len]⟩
theorem All2.mem {rs : List β} {os : List Ow} (h : All2 E rs os) {o : Ow} (ho : o ∈ os) : ∃ r, E r o := by
  induction h with
  | nil => cases ho
  | cons a _ ih =>
    rcases List.mem_cons.mp ho with rfl | ho
    · exact ⟨_, a⟩
    · exact ih ho
end
/-! ### comprehensions that change things, or make them -/
section
variable {X : Cx} {kx kx' : XD} {ρ ρ' ρ'' : Ro} {M M' : Mem} {P : Out → Mem → Prop} {pos p np pos' tpos spos : Pos} {tg a e c elt : Expr} {N : List Str} {sc csc : Scope} {k i : Nat} {ds : List D} {own : List (Str × Nat)}
/-- [elt for tg in e], J what stands as the walk goes on -/
def LcX (X : Cx) (N : List Str) (sc csc : Scope) (k : Nat) (own : List (Str × Nat)) (tg elt : Expr) (ρ : Ro) (ds : List D) (J : Nat → List D → Mem → Prop) : Prop :=
  ∀ i d acc m, ds[i]? = some d → J i acc m → ∃ ts ρ2, (∀ i ∈ ts, i ∈ own.map (·.2)) ∧ ∀ s H C cl fp w, Bd (Cx.bk X csc s H C cl fp) N (relS csc sc) k → DG (Cx.bk X csc s H C cl fp) tg ts d (wipeD ρ (own.map (·.2))) ρ2 ∧
    DE (Cx.bk X csc s H C cl fp) kx0 elt ρ2 ((w, .lst acc) :: m) fun d' m' => ∃ m2, m' = (w, .lst acc) :: m2 ∧ J (i + 1) (acc ++ [d']) m2
end
end Dl
namespace Dl
open PySem PySem.Spec PyProof.Rows L2
section
variable {X : Cx} {kx kx' : XD} {ρ ρ' ρ'' : Ro} {M M' : Mem} {P : Out → Mem → Prop} {pos p np pos' tpos spos apos : Pos} {tg a b e c o ix elt : Expr} {es : List Expr} {N : List Str} {sc csc : Scope} {k i n : Nat} {ds : List D} {own : List (Str × Nat)} {w : Addr} {x y : D}
/-! ### several things, each of which may change something -/
def DAE (X : Cx) (kx : XD) (es : List Expr) (ρ : Ro) (M : Mem) (k : List D → Mem → Prop) : Prop :=
  ∀ (σ : L2.St) (H H0 : Hp), Ht X.K H0 H M → Sl X.K H0 σ ρ → ∀ (W : WX), Takes X W → Hx X W H0 H M kx → ∀ (Q : List V → Hp → Prop), (∀ vs H' H0' ds M', Go H0 H M H0' H' M' → Ht X.K H0' H' M' → RepA X.K H0' vs ds → k ds M' → Q vs H') → sA X es σ H Q
/-! ### tests that change something -/
def DTE (X : Cx) (kx : XD) (e : Expr) (ρ : Ro) (M : Mem) (k : Bool → Mem → Prop) : Prop :=
  ∀ (σ : L2.St) (H H0 : Hp), Ht X.K H0 H M → Sl X.K H0 σ ρ → ∀ (W : WX), Takes X W → Hx X W H0 H M kx → ∀ (Q : Bool → Hp → Prop), (∀ H' H0' b M', Go H0 H M H0' H' M' → Ht X.K H0' H' M' → k b M' → Q b H') → sT X e σ H Q
end
end Dl
namespace Dl
open PySem PySem.Spec PyProof.Rows L2
section
variable {X : Cx} {kx kx' : XD} {ρ ρ' ρ'' : Ro} {M M' : Mem} {P : Out → Mem → Prop} {pos p np pos' tpos spos apos : Pos} {tg a b e c o ix elt : Expr} {es : List Expr} {N : List Str} {sc csc : Scope} {k i n : Nat} {ds : List D} {own : List (Str × Nat)} {w : Addr} {x y : D} {α β : Type} {E : β → Ow → Prop}
/-- [elt for tg in e], each elt a new thing -/
def LcN (X : Cx) (N : List Str) (sc csc : Scope) (k : Nat) (own : List (Str × Nat)) (tg elt : Expr) (ρ : Ro) (xs : List α) (enc : α → D) (fm : α → Ex β) (E : β → Ow → Prop) : Prop :=
  ∀ x, x ∈ xs → ∃ ts ρ2, (∀ i ∈ ts, i ∈ own.map (·.2)) ∧ ∀ s H C cl fp M1, Bd (Cx.bk X csc s H C cl fp) N (relS csc sc) k → DG (Cx.bk X csc s H C cl fp) tg ts (enc x) (wipeD ρ (own.map (·.2))) ρ2 ∧ ∀ v, fm x = .ok v → DN (Cx.bk X csc s H C cl fp) kx0 elt ρ2 M1 (OwR E v)
end
end Dl
namespace Dl
open PySem PySem.Spec PyProof.Rows L2
section
variable {α : Type} {xs : List α}
def unp2E (xs : List α) : Ex (α × α) := match xs with
  | [a, b] => .ok (a, b)
  | _ => .bad
def unp3E (xs : List α) : Ex (α × α × α) := match xs with
  | [a, b, c] => .ok (a, b, c)
  | _ => .bad
def unp4E (xs : List α) : Ex (α × α × α × α) := match xs with
  | [a, b, c, d] => .ok (a, b, c, d)
  | _ => .bad
variable {X : Cx} {kx : XD} {ρ : Ro} {M : Mem} {e : Expr} {enc : α → D}
end
end Dl
namespace Dl
open PySem PySem.Spec PyProof.Rows L2
section
variable {α β : Type} {E : β → Ow → Prop}
end
end Dl

/-! tests that change something; lists of new things written out -/
namespace Dl
open PySem PySem.Spec PyProof.Rows L2
section
variable {X : Cx} {kx kx' : XD} {ρ ρ' ρ'' : Ro} {M M' M2 : Mem} {P : Out → Mem → Prop} {pos p np pos' tpos spos apos : Pos} {tg a b c e o ix elt : Expr} {es : List Expr} {N : List Str} {sc csc : Scope} {k i n : Nat} {ds : List D} {own : List (Str × Nat)} {w : Addr} {x y : D} {α β : Type} {E : β → Ow → Prop} {A B : Mem → Prop}
/-- a test that may change something, and what follows either way -/
def DTT (X : Cx) (kx : XD) (e : Expr) (ρ : Ro) (M : Mem) (A B : Mem → Prop) : Prop := DTE X kx e ρ M fun b m => (b = true → A m) ∧ (b = false → B m)
def DWT (X : Cx) (kx : XD) (e : Expr) (ρ : Ro) (M : Mem) (A B : Mem → Prop) : Prop :=
  ∀ (σ : L2.St) (H H0 : Hp), Ht X.K H0 H M → Sl X.K H0 σ ρ → ∀ (W : WX), Takes X W → Hx X W H0 H M kx → ∀ (Q : Bool → Hp → Prop), (∀ H' H0' b M', Go H0 H M H0' H' M' → Ht X.K H0' H' M' → (b = true → A M') ∧ (b = false → B M') → Q b H') → sW X e σ H Q
theorem DWT.t (h : DWT X kx e ρ M A B) : DTT X kx e ρ M A B := fun σ H H0 t s W tk hx Q q => sT.by (pw_s e).pt (h σ H H0 t s W tk hx Q q)
theorem DTT.perm (p : M.Perm M2) (h : DTT X kx e ρ M2 A B) : DTT X kx e ρ M A B := fun σ H H0 t s W tk hx Q q =>
  h σ H H0 (t.perm p) s W tk (hx.perm p fun _ _ _ m hk => ⟨m, .refl _, hk⟩) Q fun H' H0' b m g t' hb => q H' H0' b m (g.permL p.symm) t' hb
theorem DWT.perm (p : M.Perm M2) (h : DWT X kx e ρ M2 A B) : DWT X kx e ρ M A B := fun σ H H0 t s W tk hx Q q =>
  h σ H H0 (t.perm p) s W tk (hx.perm p fun _ _ _ m hk => ⟨m, .refl _, hk⟩) Q fun H' H0' b m g t' hb => q H' H0' b m (g.permL p.symm) t' hb
/-! ### lists written out -/
theorem DAE.perm {kk : List D → Mem → Prop} (p : M.Perm M2) (h : DAE X kx es ρ M2 kk) : DAE X kx es ρ M kk := fun σ H H0 t s W tk hx Q q =>
  h σ H H0 (t.perm p) s W tk (hx.perm p fun _ _ _ m hk => ⟨m, .refl _, hk⟩) Q fun vs H' H0' ds m g t' r hk => q vs H' H0' ds m (g.permL p.symm) t' r hk
/-! ### comprehensions that change one thing at each turn -/
end
section
variable {X : Cx} {σ : L2.St} {H : Hp} {L : List Addr}
end
section
variable {X : Cx} {kx kx' : XD} {ρ ρ' ρ'' : Ro} {M M' M2 R m : Mem} {P : Out → Mem → Prop} {pos p np pos' tpos spos apos : Pos} {tg a b c e o ix elt : Expr} {es : List Expr} {N : List Str} {sc csc : Scope} {k i n : Nat} {ds : List D} {own : List (Str × Nat)} {w : Addr} {x y d dd : D} {α β : Type} {E : β → Ow → Prop} {enc0 : β → D} {r : β} {S : Shp} {sl : List (Nat × D × D)} {os : List Ow}
end
end Dl

/-! more rules -/
namespace Dl
open PySem PySem.Spec PyProof.Rows L2
section
variable {X : Cx} {kx kx' : XD} {ρ ρ' ρ'' : Ro} {M M' M2 R m : Mem} {P : Out → Mem → Prop} {pos p np pos' tpos spos apos : Pos} {tg a b c e o ix elt : Expr} {es : List Expr} {N : List Str} {sc csc : Scope} {k n : Nat} {ds : List D} {own : List (Str × Nat)} {w : Addr} {x y d dd : D} {α β : Type} {E : β → Ow → Prop}
/-! ### x in a list of numbers -/
/-- the context of a block, by what is known of it -/
abbrev bX {X : Cx} {N : List Str} {sc : Scope} {k : Nat} (_ : Bd X N sc k) : Cx := X
/-! ### tuples of things that change -/
/-- two lists in a tuple -/
def isTup2 (f : α → D) (g : β → D) (r : List α × List β) (o : Ow) : Prop := ∃ a b, o = .tup [.lst a (r.1.map fun x => .fr (f x)), .lst b (r.2.map fun x => .fr (g x))]
theorem Eqs.l {x x' y : D} {k : Bool} (h : Eqs x y k) (e : x'.py = x.py) (f : x'.flat = x.flat) : Eqs x' y k := ⟨f.trans h.fx, h.fy, by rw [e]; exact h.sx, h.sy, by rw [e]; exact h.eq⟩
theorem Eqs.r {x y y' : D} {k : Bool} (h : Eqs x y k) (e : y'.py = y.py) (f : y'.flat = y.flat) : Eqs x y' k := ⟨h.fx, f.trans h.fy, h.sx, by rw [e]; exact h.sy, by rw [e]; exact h.eq⟩
/-! ### zip of lists, locked ones too -/
inductive SeqC : D → List D → Prop
  | lst (ds : List D) : SeqC (.lst ds) ds
  | scr (ds : List D) : SeqC (.scr ds) ds
theorem SeqC.rep {K : Frag} {H0 : Hp} {v : V} (h : SeqC x ds) (r : Rep K H0 v x) : ∃ p vs, v = .ref p ∧ (∀ H, Same H0 H → SqL K H p vs) ∧ RepA K H0 vs ds := by
  cases h with
  | lst ds => cases r with | lst a b => exact ⟨_, _, rfl, fun H e => SqL.of (e _ _ a), b⟩
  | scr ds => cases r with | scr a b => exact ⟨_, _, rfl, fun H e => e.seq a, b⟩
end
end Dl

/-! an exception while things are lent; what is owned, or None; an owned thing moved into a list -/
namespace Dl
open PySem PySem.Spec PyProof.Rows L2
section
variable {X : Cx} {kx kx' : XD} {ρ ρ' ρ'' : Ro} {M M' M2 R m : Mem} {P : Out → Mem → Prop} {pos p np pos' tpos spos apos : Pos} {tg a b c e o ix elt : Expr} {es : List Expr} {N : List Str} {sc csc : Scope} {k n : Nat} {ds dvs : List D} {own : List (Str × Nat)} {w : Addr} {x y d dd : D} {α β : Type} {E : β → Ow → Prop} {enc0 : β → D} {r : β} {S : Shp} {sl : List (Nat × D × D)} {os : List Ow}
/-! ### owned, or None -/
def isOpt (E : β → Ow → Prop) (r : Option β) (o : Ow) : Prop := match r with
  | none => o = .fr .non
  | some x => E x o
end
end Dl

/-! objects without fields; what is None, a number or a pair -/
namespace Dl
open PySem PySem.Spec PyProof.Rows L2
section
variable {X : Cx} {kx kx' : XD} {ρ ρ' ρ'' : Ro} {M M' M2 R m : Mem} {P : Out → Mem → Prop} {pos p np pos' tpos spos apos : Pos} {tg a b c e o ix elt : Expr} {es : List Expr} {N : List Str} {sc csc : Scope} {k n : Nat} {ds : List D} {own : List (Str × Nat)} {w C : Addr} {x y d dd : D} {α β : Type} {E : β → Ow → Prop}
/-! ### C(), there being no __init__ -/
/-! ### isinstance(x, C), x an object without fields that change -/
structure InsT (K : Frag) (C : Addr) : Prop where
  cl : Cls K C
  ha : PySem.W.findIn K (.ref C) "__class__" = some (some (.builtin "object.__class__"))
  hn : PySem.W.specialIn K (.builtin "object.__class__") "__get__" = some (some (.builtin "getset_descriptor.__get__"))
  ht : PySem.W.takesIn K (.builtin "object.__class__") = some true
  hm : PySem.W.mroIn K C (.type "object") = some true
theorem dv_isiI {ns : List Str} {f : Str} {cc : Addr} {bb : Bool} (T : InsT X.K C) (n0 : Bn X f (.builtin "isinstance")) (hv : DV X kx e ρ M (.ins C ns ds)) (hc : DV X kx c ρ M (.adr cc)) (hk : PySem.W.kitOne X.K (.ref C) (.ref cc) = some bb)
    (he : starEach [e, c] X.env = (false, eval e X.env) :: starEach [c] X.env := by rfl) (he2 : starEach [c] X.env = (false, eval c X.env) :: starEach [] X.env := by rfl) (hpl : (backTo pos (starEach [c] X.env)).any (·.1) = false := by rfl) : DV X kx (.Call (.Name f p) [e, c] [] pos) ρ M (.bl bb) :=
  dv_callB n0 call_isi (fun vs H H0 t r Q q => by
    obtain ⟨v, u, rfl, r1, r2⟩ := repA2 r
    cases r2
    cases r1 with
    | ins h1 h2 h3 h4 => exact ⟨_, .ref cc, .ref C, .ref cc, bb, rfl, .own cc, .base (.ins (t.ex _ _ h1) T.cl T.ha T.hn T.ht T.hm), hk, q _ H H0 (Pu.refl t.ex) (.bl _)⟩) (da_cons hv (da_cons hc da_nil he2) he) he hpl
/-! ### a method that raises, of an object that stays as it is -/
/-! ### None, a number, or a pair of numbers -/
inductive Zv where
  | n
  | i (k : Int)
  | p (a b : Int)
  deriving DecidableEq
instance : Inhabited Zv := ⟨.n⟩
def dZ : Zv → D
  | .n => .non
  | .i k => .int k
  | .p a b => .tup [.int a, .int b]
def zSel {γ : Type} (z : Zv) (a b c : γ) : γ := match z with
  | .n => a
  | .i _ => b
  | .p _ _ => c
def zI : Zv → Ex Int
  | .i k => .ok k
  | _ => .bad
def zP : Zv → Ex (Int × Int)
  | .p a b => .ok (a, b)
  | _ => .bad
def zO : Option Int → Zv
  | none => .n
  | some k => .i k
def zOP : Option (Int × Int) → Zv
  | none => .n
  | some q => .p q.1 q.2
end
/-! ### more of what is None, a number or a pair; extend; sorted of locked lists -/
section
variable {X : Cx} {kx kx' : XD} {ρ ρ' ρ'' : Ro} {M M' M2 R m : Mem} {P : Out → Mem → Prop} {pos p np pos' tpos spos apos cpos : Pos} {tg a b c e o ix elt : Expr} {es : List Expr} {ds zs : List D} {w C : Addr} {x y d dd : D} {α β : Type}
end
/-! ### lists of lists that change -/
section
variable {α : Type} {f : α → D} {rs : List α} {d : D} {m : Mem}
end
end Dl

/-! texts -/
namespace Dl
open PySem PySem.Spec PyProof.Rows L2
section
variable {X : Cx} {kx kx' : XD} {ρ ρ' ρ'' : Ro} {M M' M2 R m : Mem} {P : Out → Mem → Prop} {pos p np pos' tpos spos apos cpos : Pos} {tg a b c e o ix elt : Expr} {es : List Expr} {ds zs : List D} {w C : Addr} {x y d dd : D} {α β : Type} {s t : Str}
theorem dv_addS (ha : DV X kx a ρ M (.str s)) (hb : DV X kx b ρ M (.str t)) (hl : s.length + t.length ≤ 100000) : DV X kx (.BinOp a .Add b pos) ρ M (.str (s ++ t)) := dv_op op_add_str (fun v u H H0 t r1 r2 Q q => by cases r1; cases r2; exact ⟨_, _, rfl, rfl, sz_le hl, q _ H H0 (Pu.refl t.ex) (.str _)⟩) ha hb
theorem dv_slT' {lo hi : Option Expr} {p2} {i j : Option Int} (ha : DV X kx a ρ M (.str s)) (hz : s.length ≤ 100000) (hl : DO X kx lo ρ M i) (hh : DO X kx hi ρ M j) : DV X kx (.Subscript a (.Slice lo hi none p2) pos) ρ M (.str (cutS s i j)) := fun σ H H0 t s W tk hx Q q =>
  sE.by (pe_slice sl_str (pe_s a) (po_s lo) (po_s hi)) (ha σ H H0 t s W tk hx _ fun v H1 H01 p1 r1 => hl.run (t.pu p1) (s.mo p1.e0) tk (hx.pu p1) fun H2 H02 p2 => hh.run (t.pu (p1.trans p2)) (s.mo (p1.trans p2).e0) tk (hx.pu (p1.trans p2)) fun H3 H03 p3 => by
    have p123 := (p1.trans p2).trans p3
    cases r1
    exact ⟨_, rfl, sz_le hz, q _ _ _ p123 (.str _)⟩)
end
end Dl

/-! a list beside an empty one; more calls of types -/
namespace Dl
open PySem PySem.Spec PyProof.Rows L2
section
variable {X : Cx} {kx kx' : XD} {ρ ρ' ρ'' : Ro} {M M' M2 R m : Mem} {P : Out → Mem → Prop} {pos p np pos' tpos spos apos cpos : Pos} {tg a b c e o ix elt : Expr} {es : List Expr} {ds zs : List D} {w C : Addr} {x y d dd : D} {α β : Type}
def rEqNil (K : Frag) : R2 := fun x y H Q => ∃ a b xs, x = .ref a ∧ y = .ref b ∧ SqL K H a xs ∧ SqL K H b [] ∧ Q (.bl xs.isEmpty) H
def rNeNil (K : Frag) : R2 := fun x y H Q => ∃ a b xs, x = .ref a ∧ y = .ref b ∧ SqL K H a xs ∧ SqL K H b [] ∧ Q (.bl (!xs.isEmpty)) H
/-- int(b) -/
theorem dv_intB {f : Str} {z : Bool} (n : Bn X f (.type "int")) (ha : DV X kx e ρ M (.bl z)) (he : starEach [e] X.env = (false, eval e X.env) :: starEach [] X.env := by rfl) : DV X kx (.Call (.Name f p) [e] [] pos) ρ M (.int (if z then 1 else 0)) :=
  dv_callT n call_int1 (fun vs H H0 t r Q q => by
    obtain ⟨v, rfl, r1⟩ := repA1 r
    cases r1
    exact .inr ⟨z, rfl, q _ H H0 (Pu.refl t.ex) (.int _)⟩) (da_cons ha da_nil he) he
/-! ### dict(pairs) -/
def mergeA (xs : List (Int × Int)) : List (Int × Int) := xs.foldl (fun acc q => putA acc q.1 q.2) []
def kvI (q : Int × Int) : Key × D := (.inl q.1, .int q.2)
end
end Dl

/-! texts: signs, walks, join, split, order, lists of texts -/
namespace Dl
open PySem PySem.Spec PyProof.Rows L2
/-- a text of one sign; a text's signs -/
def sg (c : Nat) : Str := ⟨#[c]⟩
def sgs (s : Str) : List Str := s.cps.toList.map sg
def oneS (s : Str) : Prop := s.cps.size = 1
theorem oneS_sg (c : Nat) : oneS (sg c) := rfl
theorem oneS_out {s : Str} (h : oneS s) : s = sg (s.cps.getD 0 0) := by
  obtain ⟨a⟩ := s
  have h : a.size = 1 := h
  show Str.mk a = Str.mk #[a.getD 0 0]
  congr 1
  apply Array.ext
  · simpa using h
  · intro i h1 h2
    have : i = 0 := by omega
    subst this
    simp [h]
/-- one sign among a text's -/
def inSg (s z : Str) : Bool := decide (s.cps.getD 0 0 ∈ z.cps.toList)
theorem inSg_sg (c : Nat) (z : Str) : inSg (sg c) z = decide (c ∈ z.cps.toList) := rfl
section
variable {K : Frag} {H : Hp}
theorem RepA.ofStrs (is : List Str) : RepA K H (is.map V.str) (is.map D.str) := by
  induction is with
  | nil => exact .nil
  | cons i is ih => exact .cons (.str i) ih
end
section
variable {X : Cx} {kx kx' : XD} {ρ ρ' ρ'' : Ro} {M M' M2 R m : Mem} {P : Out → Mem → Prop} {pos p np pos' tpos spos apos cpos : Pos} {tg a b c e o ix elt : Expr} {es : List Expr} {ds zs : List D} {w C : Addr} {x y d dd : D} {α β : Type} {s t : Str}
theorem SeqL.strs {is : List Str} {v : V} {H H0 : Hp} (h : SeqL M x (is.map D.str)) (t : Ht X.K H0 H M) (r : Rep X.K H0 v x) : ∃ p, v = .ref p ∧ SqL X.K H p (is.map V.str) := by
  obtain ⟨p, vs, rfl, h1, h2⟩ := h.rep t r
  have e := h2.strs
  subst e
  exact ⟨p, rfl, h1⟩
/-- text[i] -/
theorem dv_ixSg {i : Int} {c : Nat} (ha : DV X kx a ρ M (.str s)) (hb : DV X kx b ρ M (.int i)) (hl : s.length ≤ 100000) (h : ixE s.cps.toList i = .ok c) (hs : PlainIx b := by intro _ _; rfl) : DV X kx (.Subscript a b pos) ρ M (.str (sg c)) :=
  dv_ix ix_str (fun v u H H0 t r1 r2 Q q => by
    cases r1; cases r2
    refine ⟨s, i, c, rfl, rfl, sz_le hl, ?_, q _ H H0 (Pu.refl t.ex) (.str _)⟩
    obtain ⟨j, e1, e2⟩ := ixE_ixN h
    show (ixN s.cps.toList.length i).bind (fun j => s.cps.toList[j]?) = some c
    rw [e1]; exact e2) ha hb hs
/-- for sign in text -/
theorem wk_str {K : Frag} {H0 : Hp} : WkD K (Its s) H0 ((sgs s).map D.str) := by
  refine ⟨fun _ => True, fun i H v H' => H' = H ∧ ∃ c, s.cps[i]? = some c ∧ v = .str ⟨#[c]⟩, ?_, fun _ _ => trivial, ?_⟩
  · rw [show ((sgs s).map D.str).length = s.cps.size by simp [sgs]]
    exact walk_str
  · intro i H1 x H2 H01 d e1 e2 hd h
    obtain ⟨rfl, c, hc, rfl⟩ := h
    refine ⟨H01, Pu.refl e2, ?_⟩
    rw [List.getElem?_map, sgs, List.getElem?_map, Array.getElem?_toList, hc] at hd
    cases hd
    exact .str _
theorem di_str (h : DV X kx e ρ M (.str s)) : DI X kx tg e ρ M ((sgs s).map D.str) := fun σ H H0 t s' W tk hx R q =>
  sI.by (pi_str (pe_s e)) (h σ H H0 t s' W tk hx _ fun v H' H0' p r => by
    cases r
    exact ⟨s, rfl, q _ H' H0' p wk_str⟩)
/-- a sign in a text -/
theorem r2_inSg (h1 : oneS s) : R2D X.K (fun x y H Q => ∃ (c : Nat) (z : Str), x = .str ⟨#[c]⟩ ∧ y = .str z ∧ Q (.bl (decide (c ∈ z.cps.toList))) H) M (.str s) (.str t) (.bl (inSg s t)) := fun v u H H0 tt r1 r2 Q q => by
  cases r1; cases r2
  exact ⟨s.cps.getD 0 0, t, by rw [show (⟨#[s.cps.getD 0 0]⟩ : Str) = sg (s.cps.getD 0 0) from rfl, ← oneS_out h1], rfl, q _ H H0 (Pu.refl tt.ex) (.bl _)⟩
theorem dv_inSg (h1 : oneS s) (ha : DV X kx a ρ M (.str s)) (hb : DV X kx b ρ M (.str t)) (hm : behindInMarks .In b = false := by rfl) : DV X kx (.Compare a [.In] [b] pos) ρ M (.bl (inSg s t)) := dv_cmp op_in_sign (r2_inSg h1) ha hb hm
/-! a text in a tuple of texts -/
/-! order -/
def ltS (s t : Str) : Bool := decide (s.cps.toList < t.cps.toList)
def sortS (xs : List Str) : List Str := xs.mergeSort fun a b => !ltS b a
/-! methods of texts -/
theorem dv_join {ys : List Str} (ho : DV X kx o ρ M (.str s)) (he : DV X kx e ρ M y) (hq : SeqL M y (ys.map D.str)) (hl : (ys.map (·.length)).sum + ys.length * s.length ≤ 16777216) (hs : starEach [e] X.env = [(false, eval e X.env)] := by rfl) (hbase : attributeBase o "join" X.env (eval o X.env) = eval o X.env := by rfl) (hline : (apos.endLine == pos.line) = true := by rfl) :
    DV X kx (.Call (.Attribute o "join" apos) [e] [] pos) ρ M (.str (Txt.join s ys)) := fun σ H H0 t s' W tk hx Q q =>
  sE.by (pe_join (pe_s o) (pe_s e) hs hbase hline) (ho σ H H0 t s' W tk hx _ fun v H1 H01 p1 r1 => by
    cases r1
    exact ⟨⟨_, rfl⟩, he σ H1 H01 (t.pu p1) (s'.mo p1.e0) W tk (hx.pu p1) _ fun u H2 H02 p2 r2 => by
      obtain ⟨l, rfl, h1⟩ := hq.strs (t.pu (p1.trans p2)) r2
      exact ⟨s, l, ys, rfl, rfl, .inl h1, hl, q _ _ _ (p1.trans p2) (.str _)⟩⟩)
theorem dv_split (ho : DV X kx o ρ M (.str s)) (he : DV X kx e ρ M (.str t)) (hb : (t.length == 0) = false) (hl : s.length ≤ 100000) (hs : starEach [e] X.env = [(false, eval e X.env)] := by rfl) (hbase : attributeBase o "split" X.env (eval o X.env) = eval o X.env := by rfl) (hline : (apos.endLine == pos.line) = true := by rfl) :
    DV X kx (.Call (.Attribute o "split" apos) [e] [] pos) ρ M (.lst ((Txt.split s t).map D.str)) := fun σ H H0 tt s' W tk hx Q q =>
  sE.by (pe_split (pe_s o) (pe_s e) hs hbase hline) (ho σ H H0 tt s' W tk hx _ fun v H1 H01 p1 r1 => by
    cases r1
    exact ⟨⟨_, rfl⟩, he σ H1 H01 (tt.pu p1) (s'.mo p1.e0) W tk (hx.pu p1) _ fun u H2 H02 p2 r2 => by
      cases r2
      refine ⟨s, t, rfl, rfl, hb, Nat.le_trans (Nat.add_le_add_right hl 2) (by rw [sizeLine_eq]; decide), fun w hw => ?_⟩
      have gp := Pu.new1 (tt.pu (p1.trans p2)).ex hw (.lst ((Txt.split s t).map V.str))
      exact q _ _ _ ((p1.trans p2).trans gp) (.lst upd_same (RepA.ofStrs _))⟩)
theorem dv_partition (ho : DV X kx o ρ M (.str s)) (he : DV X kx e ρ M (.str t)) (hb : (t.length == 0) = false) (hl : s.length ≤ 100000) (hs : starEach [e] X.env = [(false, eval e X.env)] := by rfl) (hbase : attributeBase o "partition" X.env (eval o X.env) = eval o X.env := by rfl) (hline : (apos.endLine == pos.line) = true := by rfl) :
    DV X kx (.Call (.Attribute o "partition" apos) [e] [] pos) ρ M (.tup [.str (Txt.partition s t).1, .str (Txt.partition s t).2.1, .str (Txt.partition s t).2.2]) := fun σ H H0 tt s' W tk hx Q q =>
  sE.by (pe_partition (pe_s o) (pe_s e) hs hbase hline) (ho σ H H0 tt s' W tk hx _ fun v H1 H01 p1 r1 => by
    cases r1
    exact ⟨⟨_, rfl⟩, he σ H1 H01 (tt.pu p1) (s'.mo p1.e0) W tk (hx.pu p1) _ fun u H2 H02 p2 r2 => by
      cases r2
      refine ⟨s, t, rfl, rfl, hb, sz_le hl, fun w hw => ?_⟩
      have gp := Pu.new1 (tt.pu (p1.trans p2)).ex hw (.tup [.str (Txt.partition s t).1, .str (Txt.partition s t).2.1, .str (Txt.partition s t).2.2])
      exact q _ _ _ ((p1.trans p2).trans gp) (.tup upd_same (.cons (.str _) (.cons (.str _) (.cons (.str _) .nil))))⟩)
theorem dv_startswith (ho : DV X kx o ρ M (.str s)) (he : DV X kx e ρ M (.str t)) (hs : starEach [e] X.env = [(false, eval e X.env)] := by rfl) (hbase : attributeBase o "startswith" X.env (eval o X.env) = eval o X.env := by rfl) (hline : (apos.endLine == pos.line) = true := by rfl) :
    DV X kx (.Call (.Attribute o "startswith" apos) [e] [] pos) ρ M (.bl (Txt.startswith s t)) := fun σ H H0 tt s' W tk hx Q q =>
  sE.by (pe_m1 F.slot_str_startswith F.type_str_startswith mt_startswith (pe_s o) (pe_s e) hs hbase hline) (ho σ H H0 tt s' W tk hx _ fun v H1 H01 p1 r1 => by
    cases r1
    exact ⟨⟨_, rfl⟩, he σ H1 H01 (tt.pu p1) (s'.mo p1.e0) W tk (hx.pu p1) _ fun u H2 H02 p2 r2 => by
      cases r2
      exact ⟨s, t, rfl, rfl, q _ _ _ (p1.trans p2) (.bl _)⟩⟩)
/-! str(i), int(text), text constants of the module -/
theorem dv_gstr {x : Str} {i : Str} {u : Value} (hg : Gl X x) (hm : X.mg x = some u) (r : RelV (.str i) u) (hd : (x == ("__debug__" : Str)) = false := by decide) : DV X kx (.Name x pos) ρ M (.str i) := fun σ H H0 t s W tk hx Q q =>
  sE.by (pe_glob hg hm r hd) (q _ H H0 (Pu.refl t.ex) (.str i))
/-! a dict that stands for good: its keys sorted, its values walked -/
end
end Dl

/-! things of any kind -/
namespace Dl
open PySem PySem.Spec PyProof.Rows L2
abbrev dD (d : D) : D := d
def asS : D → Option Str
  | .str s => some s
  | _ => none
def asI : D → Option Int
  | .int s => some s
  | _ => none
def asB : D → Option Bool
  | .bl s => some s
  | _ => none
/-- all of them texts -/
def asSs : List D → Option (List Str)
  | [] => some []
  | d :: ds => match asS d, asSs ds with
    | some s, some ss => some (s :: ss)
    | _, _ => none
def flatD (d : D) : Prop := d.flat = true ∧ SeqAt.shaped d.py = true
def eqvD (x y : D) : Bool := PyData.eqv x.py y.py
/-- by kind: None, truth, int, text, list, tuple -/
def dSel (d : D) (n b i s l t : Bool) : Bool := match d with
  | .non => n
  | .bl _ => b
  | .int _ => i
  | .str _ => s
  | .lst _ => l
  | .scr _ => l
  | .tup _ => t
  | _ => false
section
variable {X : Cx} {kx kx' : XD} {ρ ρ' ρ'' : Ro} {M M' M2 R m : Mem} {P : Out → Mem → Prop} {pos p np pos' tpos spos apos cpos : Pos} {tg a b c e o ix elt : Expr} {es : List Expr} {ds zs : List D} {w C : Addr} {x y d dd : D} {α β : Type} {s t : Str}
theorem asS_ok {v : Str} (h : someE (asS d) = .ok v) : d = .str v := by
  cases d <;> first | (cases h; rfl) | (exact absurd h (by simp [asS, someE]))
theorem dv_asS {v : Str} (h : DV X kx e ρ M d) (hs : someE (asS d) = .ok v) : DV X kx e ρ M (.str v) := h.is (asS_ok hs)
theorem dv_isiD {S : String} {f g : Str} {p2 : Pos} {k1 k2 k3 k4 k5 k6 : Bool} {z : D} (n : Bn X f (.builtin "isinstance")) (n2 : Bn X g (.type S)) (ha : DV X kx a ρ M z) (hf : z.flat = true) (h1 : kitB "NoneType" S = some k1) (h2 : kitB "bool" S = some k2) (h3 : kitB "int" S = some k3) (h4 : kitB "str" S = some k4) (h5 : kitB "list" S = some k5) (h6 : kitB "tuple" S = some k6)
    (he : starEach [a, .Name g p2] X.env = (false, eval a X.env) :: starEach [.Name g p2] X.env := by rfl) : DV X kx (.Call (.Name f p) [a, .Name g p2] [] pos) ρ M (.bl (dSel z k1 k2 k3 k4 k5 k6)) := by
  cases z with
  | non => exact dv_isi n n2 ha .non h1 he
  | bl k => exact dv_isi n n2 ha (.bl k) h2 he
  | int k => exact dv_isi n n2 ha (.int k) h3 he
  | str k => exact dv_isi n n2 ha (.str k) h4 he
  | lst k => exact dv_isi n n2 ha (.lst k) h5 he
  | scr k => exact dv_isi n n2 ha (.scr k) h5 he
  | tup k => exact dv_isi n n2 ha (.tup k) h6 he
  | _ => exact absurd hf (by simp [D.flat])
end
end Dl

/-! what raises, nothing being changed; things lent meanwhile; calls whose arguments change something -/
namespace Dl
open PySem PySem.Spec PyProof.Rows L2
theorem XRep.cutL {K : Frag} {H H2 H2' : Hp} {S : Shp} {c : Mem} {dd : Option Addr} {fs : List (Str × D)} (hc : ∀ p ∈ c, ∀ o, H p.1 = some o → MSh S p.2 (some o)) (ho : D.offA S (fs.map Prod.snd) = true) (x : XRep K H H2 dd fs) : XRep K (cutL H c.dom) H2' dd fs := by
  rcases x with x | ⟨h1, d, vs, xs, h2, h3, h4, h5, h6⟩
  · exact .inl x
  · exact .inr ⟨h1, d, vs, xs, h2, by rw [cutL_ne (shNo hc h3 sh_xdX)]; exact h3, h4, h5, RepA.cutL hc _ _ ho h6⟩
section
variable {X : Cx} {kx kx' : XD} {ρ ρ' ρ'' : Ro} {M M' M2 R m : Mem} {P : Out → Mem → Prop} {pos p np pos' tpos spos apos cpos : Pos} {tg a b c e o ix elt : Expr} {es : List Expr} {ds zs dvs gs : List D} {w C : Addr} {x y d dd : D} {α β : Type} {s t : Str} {k : Nat} {n f mn : Str} {fs : List (Str × D)} {S : Shp} {sl : List (Nat × D × D)} {os : List Ow} {E : β → Ow → Prop} {enc : β → D} {r : β}
def DX (X : Cx) (e : Expr) (ρ : Ro) (M : Mem) (n : Str) (fs : List (Str × D)) : Prop :=
  ∀ (σ : L2.St) (H H0 : Hp), Ht X.K H0 H M → Sl X.K H0 σ ρ → ∀ (W : WX), Takes X W → (∀ cls dd H' H0', Pu H0 H H0' H' → XRep X.K H0' H' dd fs → X.mg n = some cls → W cls dd σ H') → ∀ (Q : VK), sE X e σ H Q
def DXA (X : Cx) (es : List Expr) (ρ : Ro) (M : Mem) (n : Str) (fs : List (Str × D)) : Prop :=
  ∀ (σ : L2.St) (H H0 : Hp), Ht X.K H0 H M → Sl X.K H0 σ ρ → ∀ (W : WX), Takes X W → (∀ cls dd H' H0', Pu H0 H H0' H' → XRep X.K H0' H' dd fs → X.mg n = some cls → W cls dd σ H') → ∀ (Q : List V → Hp → Prop), sA X es σ H Q
theorem DX.de (h : DX X e ρ M n fs) (hk : ∀ cls, X.mg n = some cls → kx cls fs ρ M) : DE X kx e ρ M fun _ _ => False := fun σ H H0 t s W tk hx Q q =>
  h σ H H0 t s W tk (fun cls dd H' H0' p xr hm => hx cls dd σ H' H0' fs ρ M p.go (t.pu p) (s.mo p.e0) xr (hk cls hm)) Q
/-! calls -/
theorem dxa_hd (h : DX X e ρ M n fs) (hs : starEach (e :: es) X.env = (false, eval e X.env) :: starEach es X.env := by rfl) : DXA X (e :: es) ρ M n fs := fun σ H H0 t s W tk hw Q =>
  sA.by (pa_cons (pe_s e) (pa_s es) hs) (h σ H H0 t s W tk hw _)
theorem dxa_tl (hv : DV X kx0 e ρ M d) (h : DXA X es ρ M n fs) (hs : starEach (e :: es) X.env = (false, eval e X.env) :: starEach es X.env := by rfl) : DXA X (e :: es) ρ M n fs := fun σ H H0 t s W tk hw Q =>
  sA.by (pa_cons (pe_s e) (pa_s es) hs) (hv σ H H0 t s W tk Hx.none _ fun v H1 H01 p1 r1 => h σ H1 H01 (t.pu p1) (s.mo p1.e0) W tk (fun cls dd H' H0' p xr hm => hw cls dd H' H0' (p1.trans p) xr hm) _)
theorem dxE_use {args : α → List D} {F : α → Ex β} {vs us : List V} {W : WX} {Q : VK} {σ : L2.St} {H H0 : Hp} {q : α} (hF : F q = .exc n fs) (t : Ht X.K H0 H M) (r : RepA X.K H0 vs ds) (ru : RepA X.K H0 us dvs) (ha : args q = ds ++ dvs)
    (hw : ∀ cls dd H' H0', Pu H0 H H0' H' → XRep X.K H0' H' dd fs → X.mg n = some cls → W cls dd σ H') : spE X.K X.mg args F enc (vs ++ us) H Q (WE W σ) := by
  refine ⟨q, H0, ⟨t.ex, t.tb⟩, by rw [ha]; exact r.app ru, ?_, ?_, ?_⟩
  · intro h; cases hF.symm.trans h
  · rintro v H' H0' d p2 rr ⟨r', h, _⟩; cases hF.symm.trans h
  · rintro cls dd H' H0' fs' p2 xr ⟨n', h, hm⟩; cases hF.symm.trans h; exact hw cls dd H' H0' p2 xr hm
theorem dx_call {args : α → List D} {F : α → Ex β} (G : GF X.prog X.w X.K X.mg X.base k f dvs (spE X.K X.mg args F enc)) (hr : Room k X.A) (hg : Gl X f) (ha : DA X kx0 (e :: es) ρ M ds) (q : α) (hargs : args q = ds ++ dvs)
    (hF : F q = .exc n fs) (hdb : (f == ("__debug__" : Str)) = false := by decide) (he : starEach (e :: es) X.env = (false, eval e X.env) :: starEach es X.env := by rfl) (hpl : (backTo pos (starEach es X.env)).any (·.1) = false := by rfl) : DX X (.Call (.Name f p) (e :: es) [] pos) ρ M n fs := fun σ H H0 t s W tk hw Q =>
  call_e (n := 0) (sp := spE X.K X.mg args F enc) G hr hg t s tk Hx.none ha (fun vs us H1 H01 p1 r ru => dxE_use hF (t.pu p1) r ru hargs fun cls dd H' H0' p2 xr hm => hw cls dd H' H0' (p1.trans p2) xr hm) hdb he hpl
/-! calls whose arguments change something -/
end
/-! ### dicts of owned things: what stands at the keys -/
section
variable {κ β : Type} [DecidableEq κ] {E : β → Ow → Prop}
inductive OwD (E : β → Ow → Prop) : List (κ × β) → List (κ × D) → Mem → Prop
  | nil : OwD E [] [] []
  | cons {k : κ} {r : β} {d : D} {xs : List (κ × β)} {rs : List (κ × D)} {m1 m2 : Mem} : OwR E r d m1 → OwD E xs rs m2 → OwD E ((k, r) :: xs) ((k, d) :: rs) (m1 ++ m2)
theorem OwD.keys {xs : List (κ × β)} {rs : List (κ × D)} {m : Mem} (h : OwD E xs rs m) : rs.map Prod.fst = xs.map Prod.fst := by
  induction h with
  | nil => rfl
  | cons a b ih => simp [ih]
theorem OwD.len {xs : List (κ × β)} {rs : List (κ × D)} {m : Mem} (h : OwD E xs rs m) : rs.length = xs.length := by
  have := congrArg List.length h.keys
  simpa using this
theorem OwD.get {xs : List (κ × β)} {rs : List (κ × D)} {m : Mem} (h : OwD E xs rs m) (k : κ) : (getA rs k).isSome = (getA xs k).isSome := by
  induction h with
  | nil => rfl
  | @cons k' r d xs rs m1 m2 a b ih =>
    unfold getA at *
    by_cases e : k' = k
    · simp [e]
    · simp [e, ih]
theorem putA_cons_eq {k : κ} {r v : β} {xs : List (κ × β)} (h : k ∉ xs.map Prod.fst) : putA ((k, r) :: xs) k v = (k, v) :: xs := by
  unfold putA
  rw [if_pos (by simp)]
  simp only [List.map_cons, if_true, List.cons.injEq, true_and]
  conv => rhs; rw [← List.map_id xs]
  refine List.map_congr_left fun q hq => ?_
  rw [if_neg (fun e => h (List.mem_map.mpr ⟨q, hq, e⟩))]; rfl
theorem putA_cons_ne {k k' : κ} {r v : β} {xs : List (κ × β)} (h : k' ≠ k) : putA ((k', r) :: xs) k v = (k', r) :: putA xs k v := by
  unfold putA
  simp only [List.any_cons, h, decide_false, Bool.false_or]
  split
  · simp [h]
  · simp
theorem putA_nil (k : κ) (v : β) : putA ([] : List (κ × β)) k v = [(k, v)] := by unfold putA; simp
theorem OwD.put {xs : List (κ × β)} {rs : List (κ × D)} {m : Mem} (h : OwD E xs rs m) (nd : (xs.map Prod.fst).Nodup) (k : κ) {r : β} {d : D} {mr : Mem} (hr : OwR E r d mr) : ∃ m' old, OwD E (putA xs k r) (putA rs k d) m' ∧ (mr ++ m).Perm (m' ++ old) := by
  induction h with
  | nil => exact ⟨mr ++ [], [], by rw [putA_nil, putA_nil]; exact .cons hr .nil, by simp⟩
  | @cons k' r0 d0 xs rs m1 m2 a b ih =>
    obtain ⟨n1, n2⟩ := List.nodup_cons.mp nd
    by_cases e : k' = k
    · subst e
      refine ⟨mr ++ m2, m1, ?_, ?_⟩
      · rw [putA_cons_eq n1, putA_cons_eq (by rw [b.keys]; exact n1)]
        exact .cons hr b
      · rw [List.append_assoc]
        exact List.Perm.append_left mr List.perm_append_comm
    · obtain ⟨m', old, i1, i2⟩ := ih n2
      refine ⟨m1 ++ m', old, ?_, ?_⟩
      · rw [putA_cons_ne e, putA_cons_ne e]; exact .cons a i1
      · rw [List.append_assoc]
        refine List.Perm.trans ?_ (List.Perm.append_left m1 i2)
        rw [← List.append_assoc, ← List.append_assoc]
        exact List.Perm.append_right m2 List.perm_append_comm
theorem OwD.all {xs : List (κ × β)} {rs : List (κ × D)} {m : Mem} (h : OwD E xs rs m) : ∃ os, All2 E (xs.map Prod.snd) os ∧ rs.map Prod.fst = xs.map Prod.fst ∧ rs.map Prod.snd = Ow.rootA os ∧ m = Ow.memA os := by
  induction h with
  | nil => exact ⟨[], .nil, rfl, by simp [Ow.rootA], by simp [Ow.memA]⟩
  | cons a b ih =>
    obtain ⟨o, h1, rfl, rfl⟩ := a
    obtain ⟨os, h2, e1, e2, rfl⟩ := ih
    exact ⟨o :: os, .cons h1 h2, by simp [e1], by simp [Ow.rootA, e2], by simp [Ow.memA]⟩
theorem OwD.off {S : Shp} (hE : OffK S E) {xs : List (κ × β)} {rs : List (κ × D)} {m : Mem} (h : OwD E xs rs m) : (∀ p ∈ m, p.2.offM S = true) ∧ ∀ q ∈ rs, q.2.off S = true := by
  induction h with
  | nil => exact ⟨fun p hp => by simp at hp, fun q hq => by simp at hq⟩
  | cons a b ih =>
    obtain ⟨h1, h2⟩ := hE _ _ _ a
    refine ⟨fun p hp => (List.mem_append.mp hp).elim (h2 p) (ih.1 p), fun q hq => ?_⟩
    rcases List.mem_cons.mp hq with rfl | hq
    · exact h1
    · exact ih.2 q hq
end
/-! ### how often a text is in a list -/
def eqks (k : Str) (v : Value) : Bool := match v with
  | .str n _ => n == k
  | _ => false
def rCntS (K : PySem.W.Frag) : V → List V → Hp → VK → Prop := fun x xs H Q => ∃ (p : Addr) (ns : List Str) (k : Str), x = .ref p ∧ xs = [.str k] ∧ SqL K H p (ns.map V.str) ∧ Q (.int (ns.count k : Nat)) H
section
variable {X : Cx} {kx : XD} {ρ : Ro} {M : Mem} {pos apos cpos : Pos} {e o : Expr} {y : D}
end
/-- None or something that is not None -/
def noN (o : Option D) : Prop := ∀ d, o = some d → d.isNon = false
section
variable {X : Cx} {kx : XD} {ρ : Ro} {M : Mem} {pos p2 : Pos} {a : Expr} {o : Option D} {j : Nat}
end
end Dl

/-! zip of three lists; lists of things that change, laid open while they are walked -/
namespace Dl
open PySem PySem.Spec PyProof.Rows L2
/-! ### zip of three lists -/
def Itz3 (K : PySem.W.Frag) (a b c : Addr) : It :=
  ⟨fun i H => ∃ (xs ys zs : List V) (x y u : V), SqL K H a xs ∧ SqL K H b ys ∧ SqL K H c zs ∧ xs[i]? = some x ∧ ys[i]? = some y ∧ zs[i]? = some u,
    fun i H v H' => ∃ T x y u, v = .ref T ∧ H T = none ∧ H' = upd H T (.tup [x, y, u]) ∧ (∀ xs, SqL K H a xs → xs[i]? = some x) ∧ (∀ ys, SqL K H b ys → ys[i]? = some y) ∧ ∀ zs, SqL K H c zs → zs[i]? = some u,
    fun i H => ∃ xs ys zs : List V, SqL K H a xs ∧ SqL K H b ys ∧ SqL K H c zs ∧ i ≤ xs.length ∧ i ≤ ys.length ∧ i ≤ zs.length ∧ (i = xs.length ∨ i = ys.length ∨ i = zs.length)⟩
def iZip3 (K : PySem.W.Frag) (ta : TA) : TI := fun σ H R => ta σ H fun vs H1 => ∃ a b c xs ys zs, vs = [.ref a, .ref b, .ref c] ∧ SqL K H1 a xs ∧ SqL K H1 b ys ∧ SqL K H1 c zs ∧ R (Itz3 K a b c) H1
def YTrip (xs ys zs : Nat → Option V) : Nat → Hp → V → Hp → Prop := fun i H v H' => ∃ T x y u, v = .ref T ∧ H T = none ∧ H' = upd H T (.tup [x, y, u]) ∧ xs i = some x ∧ ys i = some y ∧ zs i = some u
section
variable {X : Cx} {kx : XD} {ρ : Ro} {M : Mem} {a b c : Expr} {p pos : Pos} {α β γ : Type} {x y z : D}
end
section
variable {X : Cx} {kx : XD} {ρ : Ro} {M : Mem} {a b : Expr} {pos : Pos} {k : Bool} {kk : D → Mem → Prop}
end
/-! ### a list of things that change, laid open: the list stands for good, the things do not -/
section
variable {β : Type} {E : β → Ow → Prop} {f : Int → D} {n : Nat}
def isOpn (f : Int → D) (n : Nat) (E : β → Ow → Prop) (rs : List β) (o : Ow) : Prop := ∃ os, o = .tup os ∧ All2 E rs os ∧ Ow.rootA os = (rngD 0 n).map f
/-- a list that stands for good, of things that change -/
def isSeq (E : β → Ow → Prop) (rs : List β) (o : Ow) : Prop := ∃ os, o = .seq os ∧ All2 E rs os
end
end Dl

/-! a method that only hands something back, called while an exception is handled -/
namespace Dl
open PySem PySem.Spec PyProof.Rows L2
structure RoomQ (k : Nat) (A : Around) : Prop where
  dp : A.depth + 3 * k + 5 < recursionLimit
  un : A.units + 16 * k + 200 < cLine
theorem RoomQ.deeper {k : Nat} {A : Around} (r : RoomQ (k + 1) A) (env : Env) : RoomQ k (A.deeper env) :=
  ⟨by have := r.dp; show A.depth + 1 + 3 * k + 5 < _; omega, by have := r.un; show A.units + 3 + 16 * k + 200 < _; omega⟩
theorem roomQ {j k : Nat} {A : Around} {x : Value} (r : Room k A) (h : j ≤ k) : RoomQ j (A.mark (some x)) := ⟨(r.mono h).dp, (r.mono h).un⟩
structure FnQ (P : Program) (w : World) (K : Frag) (mg : Str → Option Value) (base : Heap) (CX : CXT) (k : Nat) (f : Addr) (fd : FuncData) (ps : List Str) (sp : Sp) : Prop where
  len : ∀ vs H Q E, sp vs H Q E → vs.length = ps.length
  run : ∀ (A : Around) (outer : List Env) (s : Shared) (H : Hp) (args : Args) (us : List Value) (vs : List V) (Q : VK) (E : XK), RoomQ k A → Env0 P w K mg base A outer s H → BindsTo s fd args (ps.zip us) → Vals vs us → sp vs H Q E →
    codeAny (model P w) A (.call (.ref f) args) (CR CX outer P w H s Q E) s
def cxQ (CX : CXT) (P : Program) (w : World) (K : Frag) (mg : Str → Option Value) (base : Heap) (N : List Str) (qual : Str) (scope : Scope) (f : Addr) (cd : Value) (A : Around) (outer : List Env) (s : Shared) (H : Hp) (E : XK) : Cx :=
  { cxOf CX P w K mg base N qual scope f cd A outer s H E with calm := false }
section
variable {CX : CXT} {P : Program} {w : World} {K : Frag} {mg : Str → Option Value} {base : Heap}
theorem inv_startQ {N ps : List Str} {qual : Str} {scope : Scope} {f : Addr} {cd : Value} {A : Around} {outer : List Env} {s s1 : Shared} {H : Hp} {E : XK} {us : List Value} {vs : List V}
    (S : FnScope N ps scope) (e0 : Env0 P w K mg base A outer s H) (hl : vs.length = ps.length) (r : Vals vs us)
    (x : InCallC s s.heap.objs.size (bindL (envOfC qual scope s.heap.objs.size f cd).kindOf (ps.zip us) fun _ => none) (cellsFrom (s.heap.objs.size + 1) scope.names []) (bindC (envOfC qual scope s.heap.objs.size f cd).kindOf (ps.zip us) fun _ => none) s1) :
    Inv (cxQ CX P w K mg base N qual scope f cd A outer s H E) [] (L2.start N vs) H s1 := by
  have e1 : Env0 P w K mg base { A with handled := none } outer s H := ⟨e0.frames, e0.mod, e0.bs, e0.bsz, e0.funs, e0.frf, e0.hok, e0.bare⟩
  have I := L2.inv_start (CX := CX) (A := { A with handled := none }) (E := E) (N := N) S rfl e1 hl r x
  exact ⟨⟨I.ok.mod, I.ok.kind, I.ok.glob, I.ok.blt, I.ok.above, I.ok.inj, I.ok.has, I.ok.cab, (fun z => Bool.noConfusion (show false = true from z)), Around.frames_deeper e0.frames, I.ok.stk, I.ok.exf, I.ok.bs, I.ok.bsz, I.ok.noex, I.ok.exfs, I.ok.funs, I.ok.frf⟩,
    I.os, I.bare, I.base, I.loc, I.cell, I.free, I.freeC, I.pin, I.hok, I.len⟩
/-- a getter: what it promises -/
abbrev spQ (K : Frag) {α β : Type} (args : α → List D) (F : α → Ex β) (enc : β → D) : Sp := spP K args (fun a => ∃ r, F a = .ok r) (fun a d => ∃ r, F a = .ok r ∧ d = enc r) fun _ _ _ => False
def GMQ (P : Program) (w : World) (K : Frag) (mg : Str → Option Value) (base : Heap) (k : Nat) (C : Addr) (m : Str) (sp : Sp) : Prop :=
  ∃ (f : Addr) (fd : FuncData) (ps : List Str), Meth K C m f ∧ FnQ P w K mg base (Dl.CX P w) k f fd ps sp ∧ Binds K fd ps []
end
section
variable {X : Cx} {kx : XD} {ρ : Ro} {M : Mem} {pos apos : Pos} {o : Expr} {y z : D} {α β : Type} {k : Nat} {m : Str} {C : Addr} {args : α → List D} {F : α → Ex β} {enc : β → D} {ns : List Str} {fs : List D} {pl : Sem Bool}
end
end Dl

/-! shifts to the right, masks -/
namespace Dl
open PySem PySem.Spec PyProof.Rows L2
section
variable {X : Cx} {kx : XD} {ρ : Ro} {M : Mem} {a b : Expr} {pos : Pos} {i j : Int}
end
end Dl

/-! what the top has written, read off the end of one run: the law's head by HandSHeadRun.head_any -/
namespace Dl
open PySem PySem.Spec PyProof.Rows L2 He
abbrev Chk : Type := Frag → Bool
/-! ### the part of the heap that is looked at -/
def gVal (g : Addr → Option PySem.Obj) (ns : Addr) (x : Str) : Option Addr := match g ns with
  | some ⟨_, _, .dict es _, _⟩ => (match es.toList.find? (·.key.isStr x) with
    | some e => (match e.val with
      | .ref a => some a
      | _ => none)
    | none => none)
  | _ => none
def gFn (g : Addr → Option PySem.Obj) : Option Addr → List Addr
  | none => []
  | some f => (match g f with
    | some ⟨_, _, .func fd, _⟩ => f :: (refV fd.code ++ refV fd.defaults)
    | _ => [f])
def gCls (g : Addr → Option PySem.Obj) (x : Str) : List Addr := match gVal g mainGlobals x with
  | some C => (match g C with
    | some ⟨_, _, .cls cd, _⟩ => [C, cd.ns]
    | _ => [C])
  | none => []
def gDef (g : Addr → Option PySem.Obj) (p : Str × Option Str) : List Addr := match p.2 with
  | none => gFn g (gVal g mainGlobals p.1)
  | some m => (match gVal g mainGlobals p.1 with
    | some C => (match g C with
      | some ⟨_, _, .cls cd, _⟩ => gFn g (gVal g cd.ns m)
      | _ => [])
    | none => [])
def gAll (g : Addr → Option PySem.Obj) (cl : List Str) (fn : List DefD) : List Addr := mainGlobals :: cStatics :: (cl.flatMap (gCls g) ++ fn.flatMap fun d => gDef g d.at_)
/-! ### the Hook -/
def obsH (cs : List Chk) (fn : List DefD) (K : Frag) : AlD := ((cs.all fun f => f K) && fn.all fun d => d.ok K, fn.map fun d => fnW K d.at_)
def SaysH (cs : List Chk) (fn : List DefD) (K : Frag) : Prop := obsH cs fn K = valD fn
def obsHG (cl : List Str) (cs : List Chk) (fn : List DefD) (g : Addr → Option PySem.Obj) : AlD := obsH cs fn (frG g (gAll g cl fn))
def hookH (cl : List Str) (cs : List Chk) (fn : List DefD) : PySem.W.Hook where
  α := AlD
  obs := fun s => obsHG cl cs fn s.heap.get?
  val := fun _ => valD fn
  says := fun _ h => ∃ K : Frag, K.In h ∧ SaysH cs fn K
  of := fun _ _ e => ⟨_, frG_in, e⟩
  keeps := fun _ _ _ ⟨K, hK, c⟩ k => ⟨K, PySem.W.Frag.In.keeps hK k, c⟩
theorem obsHG_eq {cl : List Str} {cs : List Chk} {fn : List DefD} {g : Addr → Option PySem.Obj} {s : Shared} (h : ∀ a, g a = s.heap.get? a) : obsHG cl cs fn g = (hookH cl cs fn).obs s := by
  have e : g = s.heap.get? := funext h
  rw [e] <;> rfl
section
variable {cs : List Chk} {fn : List DefD} {K : Frag}
theorem SaysH.fact (c : SaysH cs fn K) (i : Nat) {f : Chk} (h : cs[i]? = some f := by rfl) : f K = true := by
  have c1 := (ba (show ((cs.all fun f => f K) && fn.all fun d => d.ok K) = true from congrArg (fun z : AlD => z.1) c)).1
  exact List.all_eq_true.mp c1 f (List.mem_of_getElem? h)
theorem SaysH.def_ (c : SaysH cs fn K) (i : Nat) {d : DefD} (h : fn[i]? = some d := by rfl) : ∃ fd, FunD K d.name d.qual d.params d.body d.scope (d.dvs K) (d.kws K) (fAd K d.at_) fd := by
  have c2 := (ba (show ((cs.all fun f => f K) && fn.all fun d => d.ok K) = true from congrArg (fun z : AlD => z.1) c)).2
  have e : fn.map (fun d => fnW K d.at_) = fn.map DefD.val := congrArg (fun z : AlD => z.2) c
  have e2 : (fn.map fun d => fnW K d.at_)[i]? = (fn.map DefD.val)[i]? := by rw [e]
  rw [List.getElem?_map, List.getElem?_map, h] at e2
  exact DefD.funD (Option.some.inj e2) (List.all_eq_true.mp c2 d (List.mem_of_getElem? h))
end
/-! ### checks -/
def excCB (K : Frag) (C : Addr) : Bool := eqO (PySem.W.findIn K (.ref C) "__getattribute__") (some (some (.builtin "BaseException.__getattribute__"))) && (eqO (PySem.W.findIn K (.ref C) "__getattr__") (some none) && (decide (PySem.W.subIn K (.ref C) (.type "BaseException") = some true) && (PySem.W.hasDictIn K C &&
  (eqO (PySem.W.findIn K (.ref C) "__class__") (some (some (.builtin "object.__class__"))) && (eqO (PySem.W.specialIn K (.builtin "object.__class__") "__get__") (some (some (.builtin "getset_descriptor.__get__"))) && (decide (PySem.W.takesIn K (.builtin "object.__class__") = some true) && decide (PySem.W.mroIn K C (.type "object") = some true)))))))
theorem excCB_ok {K : Frag} {C : Addr} (h : excCB K C = true) : ExcC K C := by
  obtain ⟨h1, h⟩ := ba h
  obtain ⟨h2, h⟩ := ba h
  obtain ⟨h3, h⟩ := ba h
  obtain ⟨h4, h⟩ := ba h
  obtain ⟨h5, h⟩ := ba h
  obtain ⟨h6, h⟩ := ba h
  obtain ⟨h7, h8⟩ := ba h
  exact ⟨eqO_ok h1, eqO_ok h2, of_decide_eq_true h3, h4, eqO_ok h5, eqO_ok h6, of_decide_eq_true h7, of_decide_eq_true h8⟩
def gloB (x : Str) : Chk := fun K => (Fa.glo x).ok K
def freB (x : Str) : Chk := fun K => (Fa.free x).ok K
def extB (x : Str) : Chk := fun K => gloB x K && (excCB K (ga K x) && (PySem.W.excIn K (ga K x) veBase "ValueError.__new__" && (PySem.W.keepIn K (.ref (ga K x)) && decide (PySem.W.typeIn K (.ref (ga K x)) = some (.type "type")))))
def exfB (x : Str) : Chk := fun K => gloB x K && excCB K (ga K x)
def clsB (x : Str) (fs : List Str) : Chk := fun K => gloB x K && ((Fa.cls x).ok K && (PySem.W.makesIn K (ga K x) && (PySem.W.keepIn K (.ref (ga K x)) && fs.all fun f => (Fa.noat x f).ok K)))
def oexC (K : Frag) (C : Addr) : Bool := match K.lookup C with
  | some ⟨.type "type", _, .cls cd, sl⟩ => (match cd.mro, sl.toList with
    | .ref C' :: bm, [_, _, _, _, some (.builtin n), _] => C' == C && (n == "ValueError.__new__" && (!cd.hasDel && (cd.hasDict && PySem.HandSPX.refsVE bm)))
    | _, _ => false)
  | _ => false
theorem oexC_ok {K : Frag} {C : Addr} (q : oexC K C = true) : ∃ nm q N bs bm sn sub ab col dd k0 k1 k2 k3 k5, K.lookup C = some (excClassObj nm q C N bs bm true sn sub ab col dd k0 k1 k2 k3 k5 "ValueError.__new__") ∧ PySem.HandSPX.refsVE bm = true := by
  unfold oexC at q
  split at q
  · rename_i dd cd sl ho
    split at q
    · rename_i C' bm k0 k1 k2 k3 n k5 hm hs
      simp only [Bool.and_eq_true, beq_iff_eq, Bool.not_eq_true'] at q
      obtain ⟨rfl, rfl, hdel, hd, hr⟩ := q
      obtain ⟨nm, bs, mro, ns, qn, hdd, sn, sub, ab, col, del⟩ := cd
      dsimp only at hm hdel hd
      subst hm hdel hd
      have hsl : sl = #[k0, k1, k2, k3, some (.builtin "ValueError.__new__"), k5] := by
        obtain ⟨l⟩ := sl
        simp only at hs
        rw [hs]
      subst hsl
      exact ⟨nm, qn, ns, bs, bm, sn, sub, ab, col, dd, k0, k1, k2, k3, k5, ho, hr⟩
    · cases q
  · cases q
def oexB (x : Str) : Chk := fun K => oexC K (ga K x) && (eqO (PySem.W.findIn K (.ref (ga K x)) "__setattr__") (some (some (.builtin "object.__setattr__"))) && (decide (PySem.W.subIn K (.ref (ga K x)) (.type "BaseException") = some true) && (decide (PySem.W.typeIn K (.ref (ga K x)) = some (.type "type")) && PySem.W.keepIn K (.ref (ga K x)))))
theorem oexB_ok {K : Frag} {x : Str} (h : oexB x K = true) : OexC K (ga K x) := by
  obtain ⟨h1, h⟩ := ba h
  obtain ⟨h2, h⟩ := ba h
  obtain ⟨h3, h⟩ := ba h
  obtain ⟨h4, h5⟩ := ba h
  exact ⟨oexC_ok h1, eqO_ok h2, of_decide_eq_true h3, of_decide_eq_true h4, h5⟩
/-- x.f is not written in the class -/
def natB (x f : Str) : Chk := fun K => eqO (PySem.W.findIn K (.ref (ga K x)) f) (some none)
theorem natB_ok {K : Frag} {x f : Str} (h : natB x f K = true) : PySem.W.findIn K (.ref (ga K x)) f = some none := eqO_ok h
/-- x.m is the def at p -/
def metB (x m : Str) (p : Str × Option Str) : Chk := fun K => eqO (PySem.W.findIn K (.ref (ga K x)) m) (some (some (.ref (fAd K p)))) && PySem.W.isFn K (.ref (fAd K p))
def iniB (x m : Str) (p : Str × Option Str) : Chk := fun K => eqO (PySem.W.findIn K (.ref (ga K x)) m) (some (some (.ref (fAd K p)))) && decide (PySem.W.typeIn K (.ref (fAd K p)) = some (.type "function"))
def bltB (x f : Str) (b : String) : Chk := fun K => eqO (PySem.W.findIn K (.ref (ga K x)) f) (some (some (.builtin b)))
def kitB (a b : Str) (r : Bool) : Chk := fun K => decide (PySem.W.kitOne K (.ref (ga K a)) (.ref (ga K b)) = some r)
def kitT (a : Str) (t : String) (r : Bool) : Chk := fun K => decide (PySem.W.kitOne K (.ref (ga K a)) (.type t) = some r)
def kitN (t : String) (b : Str) (r : Bool) : Chk := fun K => decide (PySem.W.kitOne K (.type t) (.ref (ga K b)) = some r)
def exmB (a b : Str) (r : Bool) : Chk := fun K => decide (PySem.W.exmOne K (.ref (ga K a)) (.ref (ga K b)) = some r)
def exmT (a : Str) (t : String) (r : Bool) : Chk := fun K => decide (PySem.W.exmOne K (.ref (ga K a)) (.type t) = some r)
theorem dec_ok {p : Prop} [Decidable p] (h : decide p = true) : p := of_decide_eq_true h
def xfcB (x f : Str) : Chk := fun K => xfB K (ga K x) && natB x f K
theorem xfcB_ok {K : Frag} {x f : Str} (h : xfcB x f K = true) : XfC K (ga K x) ∧ PySem.W.findIn K (.ref (ga K x)) f = some none := ⟨xfB_ok (ba h).1, natB_ok (ba h).2⟩
def insB (x : Str) : Chk := fun K => (Fa.cls x).ok K && (eqO (PySem.W.findIn K (.ref (ga K x)) "__class__") (some (some (.builtin "object.__class__"))) && (eqO (PySem.W.specialIn K (.builtin "object.__class__") "__get__") (some (some (.builtin "getset_descriptor.__get__"))) && (decide (PySem.W.takesIn K (.builtin "object.__class__") = some true) && decide (PySem.W.mroIn K (ga K x) (.type "object") = some true))))
theorem insB_ok {K : Frag} {x : Str} (h : insB x K = true) : InsT K (ga K x) := by
  obtain ⟨h1, h⟩ := ba h
  obtain ⟨h2, h⟩ := ba h
  obtain ⟨h3, h⟩ := ba h
  obtain ⟨h4, h5⟩ := ba h
  exact ⟨cls_ok h1, eqO_ok h2, eqO_ok h3, of_decide_eq_true h4, of_decide_eq_true h5⟩
/-- BookError's own reads -/
def rbeB (x : Str) : Chk := fun K => PySem.W.readsIn K (ga K x) (.type "type") && (eqO (PySem.W.specialIn K (.ref (ga K x)) "__getattribute__") (some (some (.builtin "type.__getattribute__"))) && (match PySem.W.findCls K (.ref (ga K x)) (.type "type") "__init__" with
  | some (.val (.builtin n)) => decide (n = "ValueError.__init__")
  | _ => false))
theorem rbeB_ok {K : Frag} {x : Str} (h : rbeB x K = true) : PySem.W.readsIn K (ga K x) (.type "type") = true ∧ PySem.W.specialIn K (.ref (ga K x)) "__getattribute__" = some (some (.builtin "type.__getattribute__")) ∧ PySem.W.findCls K (.ref (ga K x)) (.type "type") "__init__" = some (.val (.builtin "ValueError.__init__")) := by
  obtain ⟨h1, h⟩ := ba h
  obtain ⟨h2, h3⟩ := ba h
  refine ⟨h1, eqO_ok h2, ?_⟩
  split at h3
  · rename_i n e
    rw [e, of_decide_eq_true h3]
  · cases h3
section
variable {K : Frag} {h : Heap} {mg : Str → Option Value}
theorem gloB_ok (X : K.In h) (G : h.Ns mainGlobals mg) {x : Str} (c : gloB x K = true) : mg x = some (.ref (ga K x)) := glo_ok X G c
theorem freB_ok (X : K.In h) (G : h.Ns mainGlobals mg) {x : Str} (c : freB x K = true) : mg x = none := free_ok X G c
theorem extB_ok (X : K.In h) (G : h.Ns mainGlobals mg) {x : Str} (c : extB x K = true) : ExT K mg x (ga K x) := by
  obtain ⟨h1, c⟩ := ba c
  obtain ⟨h2, c⟩ := ba c
  obtain ⟨h3, c⟩ := ba c
  obtain ⟨h4, h5⟩ := ba c
  exact ⟨excCB_ok h2, gloB_ok X G h1, h3, h4, of_decide_eq_true h5⟩
theorem exfB_ok (X : K.In h) (G : h.Ns mainGlobals mg) {x : Str} (c : exfB x K = true) : ExF K mg x (ga K x) := by
  obtain ⟨h1, h2⟩ := ba c
  exact ⟨excCB_ok h2, gloB_ok X G h1⟩
theorem clsB_ok (X : K.In h) (G : h.Ns mainGlobals mg) {x : Str} {fs : List Str} (c : clsB x fs K = true) : ClsT K mg x (ga K x) fs := by
  obtain ⟨h1, c⟩ := ba c
  obtain ⟨h2, c⟩ := ba c
  obtain ⟨h3, c⟩ := ba c
  obtain ⟨h4, h5⟩ := ba c
  exact ⟨gloB_ok X G h1, cls_ok h2, fun f hf => noat_ok (List.all_eq_true.mp h5 f hf), h3, h4⟩
theorem fun_of {x qual : Str} {st : Stmt} {f : Addr} {fd : FuncData} (F : FunD K x qual (defArgs st) (defBody st) (defScope st) [] [] f fd) : Fun K x qual st f fd := by
  obtain ⟨oc, od, dV, kV, doc, pm, an, cdv, ct, osl, e, lk, hcd, hD, hK⟩ := F.ex
  rcases hD with ⟨_, rfl⟩ | ⟨z, _⟩
  · exact ⟨⟨oc, od, kV, doc, pm, an, cdv, ct, osl, e, lk, hcd⟩, F.kp⟩
  · exact absurd rfl z
theorem funT_of {x : Str} {st : Stmt} {ps : List Str} (X : K.In h) (G : h.Ns mainGlobals mg) (F : ∃ fd, FunD K x x (defArgs st) (defBody st) (defScope st) [] [] (ga K x) fd) (c : gloB x K = true)
    (b : ∀ (kV doc pm : Value) (an : Option Addr) (cdv ct : Value) (us : List Value), us.length = ps.length → bindArgs (PySem.W.fnOf x x (defArgs st) (defBody st) (defScope st) .none kV doc pm an cdv ct) ⟨us, []⟩ = pure (ps.zip us)) : FunT K mg x st ps := by
  obtain ⟨fd, F⟩ := F
  exact ⟨_, fd, fun_of F, gloB_ok X G c, F.bindsN b⟩
theorem defT_of1 {x qual : Str} {st : Stmt} {ps : List Str} {dvs : List V} {f : Addr} {fd : FuncData} (F : FunD K x qual (defArgs st) (defBody st) (defScope st) dvs [] f fd) (hd : dvs ≠ []) (hn : dvs.length ≤ ps.length)
    (b : ∀ j, j ≤ dvs.length → ∀ (T : Addr) (kV doc pm : Value) (an : Option Addr) (cdv ct : Value) (us its : List Value), us.length = ps.length - (dvs.length - j) → its.length = dvs.length →
      ∃ k, bindArgs (PySem.W.fnOf x qual (defArgs st) (defBody st) (defScope st) (.ref T) kV doc pm an cdv ct) ⟨us, []⟩ = seqItems? (.ref T) >>= k ∧ k (some its.toArray) = pure (ps.zip (us ++ its.drop j))) : DefT K x qual st ps dvs f fd :=
  ⟨F, fun j hj => F.binds1 (ps.length - (dvs.length - j)) j hd (by omega) (b j hj)⟩
theorem defT_of0 {x qual : Str} {st : Stmt} {ps : List Str} {f : Addr} {fd : FuncData} (F : FunD K x qual (defArgs st) (defBody st) (defScope st) [] [] f fd)
    (b : ∀ (kV doc pm : Value) (an : Option Addr) (cdv ct : Value) (us : List Value), us.length = ps.length → bindArgs (PySem.W.fnOf x qual (defArgs st) (defBody st) (defScope st) .none kV doc pm an cdv ct) ⟨us, []⟩ = pure (ps.zip us)) : DefT K x qual st ps [] f fd :=
  ⟨F, fun j _ => ⟨[], by rw [List.drop_nil]; exact .nil, F.bindsN b⟩⟩
theorem methT_of0 {C x m qual : Str} {p : Str × Option Str} {st : Stmt} {ps : List Str} (F : ∃ fd, FunD K m qual (defArgs st) (defBody st) (defScope st) [] [] (fAd K p) fd) (c : metB C m p K = true)
    (b : ∀ (kV doc pm : Value) (an : Option Addr) (cdv ct : Value) (us : List Value), us.length = ps.length → bindArgs (PySem.W.fnOf m qual (defArgs st) (defBody st) (defScope st) .none kV doc pm an cdv ct) ⟨us, []⟩ = pure (ps.zip us)) : MethT K (ga K C) m qual st ps [] := by
  obtain ⟨fd, F⟩ := F
  obtain ⟨c1, c2⟩ := ba c
  exact ⟨_, fd, defT_of0 F b, eqO_ok c1, c2⟩
theorem methT_of1 {C m qual : Str} {p : Str × Option Str} {st : Stmt} {ps : List Str} {dvs : List V} (F : ∃ fd, FunD K m qual (defArgs st) (defBody st) (defScope st) dvs [] (fAd K p) fd) (c : metB C m p K = true) (hd : dvs ≠ []) (hn : dvs.length ≤ ps.length)
    (b : ∀ j, j ≤ dvs.length → ∀ (T : Addr) (kV doc pm : Value) (an : Option Addr) (cdv ct : Value) (us its : List Value), us.length = ps.length - (dvs.length - j) → its.length = dvs.length →
      ∃ k, bindArgs (PySem.W.fnOf m qual (defArgs st) (defBody st) (defScope st) (.ref T) kV doc pm an cdv ct) ⟨us, []⟩ = seqItems? (.ref T) >>= k ∧ k (some its.toArray) = pure (ps.zip (us ++ its.drop j))) : MethT K (ga K C) m qual st ps dvs := by
  obtain ⟨fd, F⟩ := F
  obtain ⟨c1, c2⟩ := ba c
  exact ⟨_, fd, defT_of1 F hd hn b, eqO_ok c1, c2⟩
theorem xini_of {C : Str} {x : String} {fl : Str} {p : Str × Option Str} {st : Stmt} (F : ∃ fd, FunD K "__init__" (x ++ ".__init__") (defArgs st) (defBody st) (defScope st) [] [] (fAd K p) fd) (c : iniB C "__init__" p K = true)
    (b : ∀ (kV doc pm : Value) (an : Option Addr) (cdv ct : Value) (us : List Value), us.length = 2 → bindArgs (PySem.W.fnOf "__init__" (x ++ ".__init__") (defArgs st) (defBody st) (defScope st) .none kV doc pm an cdv ct) ⟨us, []⟩ = pure ((["self", fl] : List Str).zip us)) : XIni K (ga K C) x fl st := by
  obtain ⟨fd, F⟩ := F
  obtain ⟨c1, c2⟩ := ba c
  exact ⟨_, fd, F, F.bindsN b, eqO_ok c1, of_decide_eq_true c2⟩
def intB (x : Str) (i : Int) : Chk := fun K => (Fa.int x i).ok K
def strB (x z : Str) : Chk := fun K => (Fa.str x z).ok K
theorem intB_ok (X : K.In h) (G : h.Ns mainGlobals mg) {x : Str} {i : Int} (c : intB x i K = true) : ∃ t, mg x = some (.int i t) := int_ok X G c
theorem strB_ok (X : K.In h) (G : h.Ns mainGlobals mg) {x z : Str} (c : strB x z K = true) : ∃ t, mg x = some (.str z t) := str_ok X G c
end
/-! ### the end -/
theorem walkH {l : PySem.W.OpenLaw} {k : Nat} {q : Program} {loose : List Str} {XP : (Str → Option Value) → Heap → Prop} {YP : World → Heap → Prop} {d : DefRec} {x : Str}
    (hn : l.most = some 63) (hdf : d.params.defaults = []) (hr : Room k callerA)
    (F : ∀ (w : World) (mg : Str → Option Value) (fa : Addr) (h : Heap), YP w h → h.Ns mainGlobals mg → mg d.name = some (.ref fa) →
      ∃ (K : Frag) (fd : FuncData), K.In h ∧ (∀ (s : Shared) (u : Value), BindsTo s fd ⟨[u], []⟩ [(x, u)]) ∧ ∀ base : Heap, K.In base → base.Ns mainGlobals mg → FnOk l.prog w K mg base (Dl.CX l.prog w) k fa fd [x] (spLaw K)) (e0 : tabT = [] := by rfl) :
    PySem.W.WalkO q loose XP YP l.row.toRowW d [] (fun f vs => PySem.call f vs) := by
  refine Att.attach_call hn hdf fun w s₀ s₁ mg mb fa o pm cd doc a vs ns G Y ho hd hcd hmg hobj hints hlen hg => ?_
  obtain ⟨K, fd, KX, hb, hF⟩ := F w mg fa _ Y G.T.g hmg
  exact law_call KX G.T.g G.T.b G.T.builtins G.T.nolimit hg hobj hints (Nat.le_trans hlen (by decide)) hr hF hb (fun H hO hS => law_hsp e0 hO hlen hS) fun H e s' h => by
    obtain ⟨_, _, _, _, _, _, _, _, _, _, _, _, _, _, _, z⟩ := h
    exact z
end Dl

/-! what may be None and is owned; a bind that lets out exceptions without fields only; list.insert; how often a text is in a list of any things -/
namespace Dl
open PySem PySem.Spec PyProof.Rows L2
section
variable {α β : Type}
def bindX0 (m : Ex α) (k : α → Ex β) : Ex β := match m with
  | .ok a => k a
  | .exc n [] => .exc n []
  | .exc _ (_ :: _) => .bad
  | .bad => .bad
end
section
variable {X : Cx} {kx : XD} {ρ : Ro} {M : Mem} {pos : Pos} {a b : Expr}
end
section
variable {X : Cx} {kx : XD} {ρ : Ro} {M : Mem} {P : Out → Mem → Prop} {pos apos cpos spos : Pos} {e e2 o : Expr} {α : Type} {w : Addr}
end
/-! ### how often a text is in a list of any things -/
def isSV (k : Str) : V → Bool
  | .str s => s == k
  | _ => false
def isSD (k : Str) : D → Bool
  | .str s => s == k
  | _ => false
def simpV (K : Frag) (H : Hp) : V → Prop
  | .non => True
  | .bl _ => True
  | .int _ => True
  | .str _ => True
  | .ref l => ∃ ws, SqL K H l ws
  | _ => False
/-- None, truth, number, text, list -/
def simpD : D → Bool
  | .non => true
  | .bl _ => true
  | .int _ => true
  | .str _ => true
  | .lst _ => true
  | _ => false
def cntD (ds : List D) (k : Str) : Nat := ds.countP (isSD k)
def rCntD (K : PySem.W.Frag) : V → List V → Hp → VK → Prop := fun x xs H Q => ∃ (p : Addr) (vs : List V) (k : Str), x = .ref p ∧ xs = [.str k] ∧ SqL K H p vs ∧ (∀ v ∈ vs, simpV K H v) ∧ Q (.int (vs.countP (isSV k) : Nat)) H
section
variable {X : Cx} {kx : XD} {ρ : Ro} {M : Mem} {pos apos cpos : Pos} {e o : Expr} {y : D}
end
section
variable {X : Cx} {kx : XD} {ρ : Ro} {M : Mem} {pos apos p : Pos} {e o : Expr} {es : List Expr} {ds dvs fs : List D} {y : D} {C : Addr} {ns : List Str} {m : Str} {k : Nat} {α β : Type}
end
end Dl

/-! a list of lists that change, new -/
namespace Dl
open PySem PySem.Spec PyProof.Rows L2
section
variable {X : Cx} {kx kx' : XD} {ρ : Ro} {M R : Mem} {P : Out → Mem → Prop} {pos p apos : Pos} {e a b c tg elt : Expr} {d : D} {m : Mem} {α β : Type}
end
end Dl
namespace Dl
open PySem PySem.Spec PyProof.Rows L2
section
variable {X : Cx} {kx kx' : XD} {ρ : Ro} {M R : Mem} {pos p apos : Pos} {e : Expr} {x : D} {α β : Type}
end
end Dl
/-! ### a list of addresses that is walked while it may still be changed: it stands in Mem at each turn -/
namespace Dl
open PySem PySem.Spec PyProof.Rows L2
def WkM (K : Frag) (J : It) (H0 : Hp) (keep : Mem → Prop) (ds : List D) : Prop :=
  ∃ (G : Hp → Prop) (Y : Nat → Hp → V → Hp → Prop), Walk J ds.length G Y ∧ (∀ H H0' M, Same H0 H0' → Ht K H0' H M → keep M → G H) ∧
    ∀ i H1 x H2 H01 d, Same H0 H01 → Same H01 H1 → ds[i]? = some d → Y i H1 x H2 → ∃ H02, Pu H01 H1 H02 H2 ∧ Rep K H02 x d
def DIM (X : Cx) (kx : XD) (tg it : Expr) (ρ : Ro) (M : Mem) (keep : Mem → Prop) (ds : List D) : Prop :=
  ∀ (σ : L2.St) (H H0 : Hp), Ht X.K H0 H M → Sl X.K H0 σ ρ → ∀ (W : WX), Takes X W → Hx X W H0 H M kx → ∀ (R : It → Hp → Prop), (∀ J H' H0', Pu H0 H H0' H' → WkM X.K J H0' keep ds → R J H') → sI X tg it σ H R
/-- all of them addresses -/
def Adrs (ds : List D) : Prop := ∀ d ∈ ds, ∃ a, d = .adr a
def adrV : D → V
  | .adr a => .ref a
  | _ => .non
section
variable {X : Cx} {kx kx' : XD} {ρ ρ' ρ'' : Ro} {M M' : Mem} {P : Out → Mem → Prop} {pos p np pos' tpos spos : Pos} {tg a b c e : Expr} {es : List Expr} {ι α β γ : Type} {w : Addr} {keep : Mem → Prop} {x : D}
end
end Dl

/-! tests that change something, both ways going on; comprehensions that change the things of a list one by one -/
namespace Dl
open PySem PySem.Spec PyProof.Rows L2
section
variable {X : Cx} {kx kx' : XD} {ρ ρ' ρ'' : Ro} {M M' M2 : Mem} {P : Out → Mem → Prop} {pos p np pos' tpos spos apos : Pos} {tg a b c e o ix elt : Expr} {es : List Expr} {N : List Str} {sc csc : Scope} {k i n : Nat} {ds : List D} {own : List (Str × Nat)} {w : Addr} {x y : D} {ι α β γ : Type} {E : β → Ow → Prop} {A B : Mem → Prop}
theorem DTT.imp {A' B' : Mem → Prop} (h : DTT X kx e ρ M A B) (ha : ∀ m, A m → A' m) (hb : ∀ m, B m → B' m) : DTT X kx e ρ M A' B' := fun σ H H0 t s W tk hx Q q =>
  h σ H H0 t s W tk hx Q fun H' H0' b m g t' hh => q H' H0' b m g t' ⟨fun z => ha m (hh.1 z), fun z => hb m (hh.2 z)⟩
/-- a list none of whose things is None -/
def allSome : List (Option α) → Option (List α)
  | [] => some []
  | none :: _ => none
  | some x :: xs => match allSome xs with
    | some ys => some (x :: ys)
    | none => none
end
end Dl

namespace Dl
open PySem PySem.Spec PyProof.Rows L2 NdefX LamX
/-! ### made functions handed on -/
/-- the cells known from now on -/
def updC (H : Hp) : List (Str × Addr) → List V → Hp
  | q :: cl, v :: vs => upd (updC H cl vs) q.2 (CellO q.2 v)
  | _, _ => H
/-- what the cells hold, in the heap -/
def HasC (h : Heap) (cl : List (Str × Addr)) (vs : List V) : Prop := ∀ (i : Nat) (q : Str × Addr) (v : V), cl[i]? = some q → vs[i]? = some v → ∃ u, RelV v u ∧ h.IsCell q.2 (some u)
/-- what is wanted of the place ahead of «def f(..): ..; return f» -/
def CloEnd (fr : List Str) (js : List Nat) (G : NF) (σ : L2.St) (H : Hp) (Q : VK) : Prop := TabsN tabT H ∧ ∃ vs : List V, vs.length = js.length ∧ (∀ (n j : Nat) (v : V), js[n]? = some j → vs[n]? = some v → σ[j]? = some (some v)) ∧
  ∀ (f c' : Addr) (cl : List (Str × Addr)) (H1 : Hp), f ≠ c' → Sm H H1 → (∀ b, H1 b = none → H b = none) → TabsN tabT H1 → H f = none → H1 f = some (FnO f (cloF G cl c')) → H1 c' = some (CodeO c' G.qual) → cl.map Prod.fst = fr → (cl.map Prod.snd).Nodup → (∀ c ∈ cl.map Prod.snd, H1 c = none) → Q (.ref f) (updC H1 cl vs)
/-- the code object of the def at f has its table at P -/
def codeTab (K : Frag) (f P : Addr) : Bool := match K.lookup f with
  | some ⟨_, _, .func fd, _⟩ => (match fd.code with
    | .ref c => PySem.W.codeHdIn K c P
    | _ => false)
  | _ => false
/-- where the tables lie -/
def TabsB (K : Frag) (base : Heap) (mg : Str → Option Value) : Prop := ∀ (c P : Addr), P ∈ tabT.map Prod.fst → PySem.W.codeHdIn K c P = true → TabB base mg c P
/-- its looks, by decide -/
structure CloLook (st ndf : Stmt) (prel : List Stmt) (name : Str) (npos rp rpos : Pos) (N fr : List Str) (js : List Nat) (i : Nat) : Prop where
  hbd : defBody st = prel ++ [ndf, .Return (some (.Name name rp)) rpos]
  hnd : ndf = .FunctionDef name (C8.fnArgs ndf) (C8.fnBody ndf) [] none [] (C8.fnScope ndf) none name npos
  hfree : ∀ y ∈ (C8.fnScope ndf).names, y.2 = .free → (defScope st).names.lookup y.1 = some .cell ∨ (defScope st).names.lookup y.1 = some .free
  hd0 : (C8.fnArgs ndf).defaults = []
  hk0 : (C8.fnArgs ndf).kw_defaults = []
  ha : ∀ env, annTrees (C8.fnArgs ndf) none env = []
  hi : N[i]? = some name
  hloc : (defScope st).names.lookup name = some .local
  hjs : js.map (fun j => N[j]?) = fr.map some
  hfr : ∀ y ∈ fr, (defScope st).names.lookup y = some .cell
  ndr : fr.Nodup
  hcl : ∀ cells : List (Str × Addr), cloFrom cells (C8.fnScope ndf).names [] = fr.map fun y => (y, (cells.lookup y).getD 0)
  hd1 : (name == ("__debug__" : Str)) = false
  hd2 : (name == ("__classdict__" : Str)) = false
section
variable {P : Program} {w : World} {K : Frag} {mg : Str → Option Value} {base : Heap} {α : Type}
/-- what the def's captured names hold at its end -/
def endP (js : List Nat) (post : List D → Prop) : Out → Mem → Prop
  | .nx ρ, _ => ∃ ds : List D, ds.length = js.length ∧ (∀ (n j : Nat) (d : D), js[n]? = some j → ds[n]? = some d → ρ[j]? = some (some d)) ∧ post ds
  | _, _ => False
end
end Dl

namespace Dl
open PySem PySem.Spec PyProof.Rows L2 NdefX LamX
/-! ### made functions called -/
mutual
/-- no made function within -/
def D.nce : D → Bool
  | .non => true
  | .bl _ => true
  | .int _ => true
  | .str _ => true
  | .ty _ => true
  | .lst xs => D.nceA xs
  | .scr xs => D.nceA xs
  | .tup xs => D.nceA xs
  | .ins _ _ xs => D.nceA xs
  | .adr _ => true
  | .dK _ xs => D.nceA xs
  | .dT _ xs => D.nceA xs
  | .exn _ _ _ _ => false
  | .clo _ _ _ => false
def D.nceA : List D → Bool
  | [] => true
  | d :: ds => d.nce && D.nceA ds
end
/-- these are known by what is true of their objects -/
def ExtAt (H : Hp) (L : List Addr) : Prop := ∀ b ∈ L, ∀ o, H b = some o → ∃ φ, o = .ext φ
theorem ExtAt.ne {H : Hp} {L : List Addr} {a : Addr} {o : HO} (x : ExtAt H L) (h : H a = some o) (n : ∀ φ, o ≠ .ext φ := by intro _ z; cases z) : a ∉ L := fun z => by
  obtain ⟨φ, e⟩ := x a z o h
  exact n φ e
theorem ExtAt.keep {H : Hp} {L : List Addr} {a : Addr} {o : HO} (x : ExtAt H L) (h : H a = some o) (n : ∀ φ, o ≠ .ext φ := by intro _ z; cases z) : cutL H L a = some o := by
  rw [cutL_ne (x.ne h n)]; exact h
mutual
theorem Rep.hide {K : Frag} {H : Hp} {L : List Addr} (x : ExtAt H L) : ∀ (d : D) (v : V), d.nce = true → Rep K H v d → Rep K (cutL H L) v d
  | .non, _, _, h => by cases h; exact .non
  | .bl b, _, _, h => by cases h; exact .bl b
  | .int b, _, _, h => by cases h; exact .int b
  | .str b, _, _, h => by cases h; exact .str b
  | .ty b, _, _, h => by cases h; exact .ty b
  | .adr a, _, _, h => by cases h; exact .adr a
  | .lst ds, _, p, h => by
    simp only [D.nce] at p
    cases h with
    | lst h1 h2 => exact .lst (x.keep h1) (RepA.hide x ds _ p h2)
  | .scr ds, _, p, h => by
    simp only [D.nce] at p
    cases h with
    | scr h1 h2 =>
      refine .scr ?_ (RepA.hide x ds _ p h2)
      rcases h1 with (h1 | ⟨o, h1⟩) | h1
      · exact .inl (.inl (x.keep h1))
      · exact .inl (.inr ⟨o, x.keep h1⟩)
      · exact .inr h1
  | .tup ds, _, p, h => by
    simp only [D.nce] at p
    cases h with
    | tup h1 h2 => exact .tup (x.keep h1) (RepA.hide x ds _ p h2)
  | .ins C ns ds, _, p, h => by
    simp only [D.nce] at p
    cases h with
    | ins h1 h2 h3 h4 => exact .ins (x.keep h1) h2 h3 (RepA.hide x ds _ p h4)
  | .dK ks ds, _, p, h => by
    simp only [D.nce] at p
    cases h with
    | dK h1 h2 h3 h4 => exact .dK (x.keep h1) h2 h3 (RepA.hide x ds _ p h4)
  | .dT ks ds, _, p, h => by
    simp only [D.nce] at p
    cases h with
    | dT h1 h2 h3 h4 => exact .dT (x.keep h1) h2 h3 (RepA.hide x ds _ p h4)
  | .exn _ _ _ _, _, p, _ => by simp [D.nce] at p
  | .clo _ _ _, _, p, _ => by simp [D.nce] at p
theorem RepA.hide {K : Frag} {H : Hp} {L : List Addr} (x : ExtAt H L) : ∀ (ds : List D) (vs : List V), D.nceA ds = true → RepA K H vs ds → RepA K (cutL H L) vs ds
  | [], _, _, h => by cases h; exact .nil
  | d :: ds, _, p, h => by
    simp only [D.nceA, Bool.and_eq_true] at p
    cases h with
    | cons a b => exact .cons (Rep.hide x d _ p.1 a) (RepA.hide x ds _ p.2 b)
end
def Mu.nce : Mu → Bool
  | .lst ds => D.nceA ds
  | .fL ds => D.nceA ds
  | .ins _ _ ds => D.nceA ds
  | .dK kvs => D.nceA (kvs.map Prod.snd)
  | .dT kvs => D.nceA (kvs.map Prod.snd)
  | .fK kvs => D.nceA (kvs.map Prod.snd)
  | .fT kvs => D.nceA (kvs.map Prod.snd)
theorem MuRep.hide {K : Frag} {H H0 : Hp} {L : List Addr} {a : Addr} (x0 : ExtAt H0 L) (x : ExtAt H L) : ∀ {m : Mu}, m.nce = true → MuRep K H0 H a m → MuRep K (Dl.cutL H0 L) (Dl.cutL H L) a m
  | .lst ds, f, ⟨vs, h, r⟩ => ⟨vs, x.keep h, RepA.hide x0 _ _ f r⟩
  | .fL ds, f, ⟨o, vs, h, r⟩ => ⟨o, vs, x.keep h, RepA.hide x0 _ _ f r⟩
  | .ins C ns ds, f, ⟨dx, vs, xs, h, h2, h3, r⟩ => ⟨dx, vs, xs, x.keep h, h2, h3, RepA.hide x0 _ _ f r⟩
  | .dK kvs, f, ⟨vs, xs, h, h2, h3, r⟩ => ⟨vs, xs, x.keep h, h2, h3, RepA.hide x0 _ _ f r⟩
  | .dT kvs, f, ⟨vs, xs, h, h2, h3, r⟩ => ⟨vs, xs, x.keep h, h2, h3, RepA.hide x0 _ _ f r⟩
  | .fK kvs, f, ⟨o, vs, xs, h, h2, h3, r⟩ => ⟨o, vs, xs, x.keep h, h2, h3, RepA.hide x0 _ _ f r⟩
  | .fT kvs, f, ⟨o, vs, xs, h, h2, h3, r⟩ => ⟨o, vs, xs, x.keep h, h2, h3, RepA.hide x0 _ _ f r⟩
/-! ### its promise -/
/-- a made function that changes what stands at Mi and raises nothing -/
def nspM (K : Frag) {α : Type} (args caps : α → List D) (Mi : α → Mem) (pre : α → Prop) (post : α → D → Mem → Prop) : List (Option V) → Sp := fun ws vs H Q _ =>
  ∃ x H0 us, Ht K H0 H (Mi x) ∧ RepA K H0 vs (args x) ∧ ws = us.map some ∧ RepA K H0 us (caps x) ∧ pre x ∧ (∀ v H' H0' d M', Go H0 H (Mi x) H0' H' M' → Ht K H0' H' M' → Rep K H0' v d → post x d M' → Q v H')
/-- the promise of the made functions of one def -/
def GClo (P : Program) (w : World) (K : Frag) (mg : Str → Option Value) (base : Heap) (k : Nat) (G : NF) (ps fr : List Str) (sp : List (Option V) → Sp) : Prop := ∀ (f : Addr) (cl : List (Str × Addr)) (c : Addr), NOk P w K mg base (Dl.CX P w) k f (cloF G cl c) ps fr sp
section
variable {P : Program} {w : World} {K : Frag} {mg : Str → Option Value} {base : Heap} {α : Type}
end
theorem cells_ext {H : Hp} {fr : List Str} {cl : List (Str × Addr)} {vs : List V} (C : Cells H fr cl vs) : ∀ c ∈ cl.map Prod.snd, ∃ v, H c = some (CellO c v) := fun c hc => by
  obtain ⟨q, hq, rfl⟩ := List.mem_map.mp hc
  obtain ⟨i, hi⟩ := List.getElem?_of_mem hq
  have li : i < vs.length := by rw [C.2.2.2.1]; exact (List.getElem?_eq_some_iff.mp hi).1
  exact ⟨_, C.2.2.2.2 i q vs[i] hi (List.getElem?_eq_getElem li)⟩
theorem cells_extAt {H : Hp} {fr : List Str} {cl : List (Str × Addr)} {vs : List V} (C : Cells H fr cl vs) : ExtAt H (cl.map Prod.snd) := fun b hb o e => by
  obtain ⟨v, h⟩ := cells_ext C b hb
  rw [h] at e
  exact ⟨_, (Option.some.inj e).symm⟩
section
variable {X : Cx} {pins : List (Addr × PySem.Obj)} {σ : L2.St} {H : Hp} {s : Shared}
end

/-- the state with the cells out of sight -/
theorem Ht.hide {K : Frag} {H0 H : Hp} {M : Mem} {fr : List Str} {cl : List (Str × Addr)} {vs : List V} (t : Ht K H0 H M) (C : Cells H0 fr cl vs) (hn : ∀ b ∈ cl.map Prod.snd, ∀ q, H b ≠ some (CodeO b q)) (nm : ∀ p ∈ M, p.2.nce = true) : Ht K (cutL H0 (cl.map Prod.snd)) (cutL H (cl.map Prod.snd)) M := by
  have x0 := cells_extAt C
  have CH : Cells H fr cl vs := ⟨C.1, C.2.1, C.2.2.1, C.2.2.2.1, fun i q v a b => t.ex _ _ (C.2.2.2.2 i q v a b)⟩
  have x := cells_extAt CH
  have c0 : ∀ b, H0 b = none → cutL H0 (cl.map Prod.snd) b = none := fun b e => by
    unfold cutL; split
    · rfl
    · exact e
  refine ⟨fun b o e => ?_, t.nd, fun p hp => ?_, ⟨fun p hp => ?_, fun b ps e => t.tb.2 b ps (cutL_some e)⟩⟩
  · by_cases hb : b ∈ cl.map Prod.snd
    · rw [cutL_in hb] at e; cases e
    · rw [cutL_ne hb] at e ⊢; exact t.ex _ _ e
  · obtain ⟨m1, m2⟩ := t.mem p hp
    exact ⟨c0 _ m1, m2.hide x0 x (nm p hp)⟩
  · obtain ⟨m1, ps, h1, h2, h3⟩ := t.tb.1 p hp
    refine ⟨c0 _ m1, ps, x.keep h1, h2, fun pos cv hc => ?_⟩
    obtain ⟨c, e1, e2⟩ := h3 pos cv hc
    exact ⟨c, e1, by rw [cutL_ne (fun z => hn c z _ e2)]; exact e2⟩
section
variable {X : Cx} {kx : XD} {ρ : Ro} {M F : Mem} {pos p : Pos} {e : Expr} {es : List Expr} {α : Type} {k i : Nat} {x : Str} {G : NF} {ps fr : List Str} {as ds : List D} {args caps : α → List D} {Mi : α → Mem} {pre : α → Prop} {post : α → D → Mem → Prop} {kk : D → Mem → Prop} {z : D}
end
end Dl

namespace Dl
open PySem PySem.Spec PyProof.Rows L2 NdefX LamX
/-! ### a made function that has captured a made function -/
/-- known by its contents -/
def D.objD : D → Bool
  | .lst _ => true
  | .tup _ => true
  | .dK _ _ => true
  | .dT _ _ => true
  | _ => false
def D.cloOk : D → Bool
  | .clo _ _ ds => D.nceA ds && ds.all D.objD
  | _ => false
/-- no made function within, or made functions that have captured none -/
def D.capA (ds : List D) : Bool := D.nceA ds || ds.all D.cloOk
/-- what the cells in L hold and what they are not -/
structure Apt (H : Hp) (L : List Addr) : Prop where
  ext : ExtAt H L
  fn : ∀ b ∈ L, ∀ nf, H b ≠ some (FnO b nf)
  code : ∀ b ∈ L, ∀ q, H b ≠ some (CodeO b q)
  cell : ∀ b ∈ L, ∀ v, H b = some (CellO b v) → ∃ f nf, v = .ref f ∧ H f = some (FnO f nf)
end Dl

namespace Dl
open PySem PySem.Spec PyProof.Rows L2
/-! ### dicts of lists that change -/
section
variable {κ β : Type} [DecidableEq κ] {ek : κ → Key} {f : β → D} {r : List (κ × List β)} {d : D} {m : Mem}
def isDKL (ek : κ → Key) (f : β → D) (r : List (κ × List β)) (o : Ow) : Prop := ∃ (a : Addr) (os : List Ow), o = .dK a (r.map fun q => ek q.1) os ∧ All2 (isLstF f) (r.map Prod.snd) os ∧ (r.map Prod.fst).Nodup
end
section
variable {X : Cx} {kx : XD} {ρ : Ro} {M R : Mem} {P : Out → Mem → Prop} {pos p apos cpos spos tpos np xpos : Pos} {e o ix a : Expr} {d y : D} {N : List Str} {sc : Scope} {k : Nat} {κ β : Type} [DecidableEq κ] {ek : κ → Key} {f : β → D} {r : List (κ × List β)} {m : Mem} {kk : κ}
end
end Dl

namespace Dl
open PySem PySem.Spec PyProof.Rows L2 NdefX LamX He
/-! ### for the printed walks -/
def nthS (l : List Stmt) (n : Nat) (d : Stmt) : Stmt := (l[n]?).getD d
/-- the places of «return f» at a suite's end -/
def retP1 (l : List Stmt) : Pos := match l.getLast? with
  | some (.Return (some (.Name _ p)) _) => p
  | _ => ⟨0, 0, 0, 0⟩
def retP2 (l : List Stmt) : Pos := match l.getLast? with
  | some (.Return _ p) => p
  | _ => ⟨0, 0, 0, 0⟩
def defP (s : Stmt) : Pos := match s with
  | .FunctionDef _ _ _ _ _ _ _ _ _ p => p
  | _ => ⟨0, 0, 0, 0⟩
/-- a captured name -/
structure Fre (X : Cx) (i : Nat) (x : Str) : Prop where
  toNm : Nm X i x
section
variable {ρ : Ro} {M : Mem} {post : List D → Prop} {j0 j1 j2 : Nat} {d0 d1 d2 : D}
theorem end2 (h0 : ρ[j0]? = some (some d0)) (h1 : ρ[j1]? = some (some d1)) (p : post [d0, d1]) : endP [j0, j1] post (.nx ρ) M := ⟨[d0, d1], rfl, fun n j d a b => by
  match n, a, b with
  | 0, a, b => cases a; cases b; exact h0
  | 1, a, b => cases a; cases b; exact h1, p⟩
end
section
variable {P : Program} {w : World} {K : Frag} {mg : Str → Option Value} {base : Heap} {α β : Type}
/-- where the def hands back its inner def -/
def endE (js : List Nat) (encs : β → List D) (out : Ex β) : Out → Mem → Prop := endP js fun ds => ∃ r, out = .ok r ∧ ds = encs r
/-- a made function that changes nothing and raises nothing -/
abbrev nspE (K : Frag) (args caps : α → List D) (F : α → Ex β) (enc : β → D) : List (Option V) → Sp := nspM K args caps (fun _ => []) (fun q => ∃ r, F q = .ok r) (fun q d _ => ∃ r, F q = .ok r ∧ d = enc r)
end
/-! ### the head with tables -/
def tabE (o : Option PySem.Obj) : Bool := match o with
  | some ⟨.none, none, .fields a, sl⟩ => a.size == 0 && sl.size == 0
  | _ => false
theorem tabE_ok {o : Option PySem.Obj} (h : tabE o = true) : o = some { cls := .none, data := .fields #[] } := by
  unfold tabE at h
  split at h
  · rename_i a sl
    simp only [Bool.and_eq_true, beq_iff_eq] at h
    have e1 : a = #[] := Array.eq_empty_of_size_eq_zero h.1
    have e2 : sl = #[] := Array.eq_empty_of_size_eq_zero h.2
    subst e1; subst e2; rfl
  · cases h
def obsHT (cl : List Str) (cs : List Chk) (fn : List DefD) (ts : List Addr) (g : Addr → Option PySem.Obj) : AlD × Bool := (obsHG cl cs fn g, ts.all fun P => tabE (g P) && ((frG g (gAll g cl fn)).lookup P).isNone)
def hookT (cl : List Str) (cs : List Chk) (fn : List DefD) (ts : List Addr) : PySem.W.Hook where
  α := AlD × Bool
  obs := fun s => obsHT cl cs fn ts s.heap.get?
  val := fun _ => (valD fn, true)
  says := fun _ h => ∃ K : Frag, K.In h ∧ SaysH cs fn K ∧ ∀ P ∈ ts, h.get? P = some { cls := .none, data := .fields #[] } ∧ K.lookup P = none
  of := fun _ _ e => ⟨_, frG_in, congrArg Prod.fst e, fun P hP => by
    have z := List.all_eq_true.mp (congrArg Prod.snd e) P hP
    obtain ⟨z1, z2⟩ := ba z
    exact ⟨tabE_ok z1, by simpa using z2⟩⟩
  keeps := fun _ _ _ ⟨K, hK, c, t⟩ k => ⟨K, PySem.W.Frag.In.keeps hK k, c, fun P hP => ⟨k _ _ (t P hP).1, (t P hP).2⟩⟩
/-- the def's code object and its table -/
def tabB (x : Str) (P : Addr) : Chk := fun K => codeTab K (ga K x) P
def onlyA (H : Hp) (a : Addr) : Hp := fun b => if b = a then H a else none
end Dl

namespace Dl
open PySem PySem.Spec PyProof.Rows L2
/-! ### comprehensions whose block raises -/
section
variable {M : Model} {A : Around} {env : Env} {E : Value → Shared → Prop} {s : Shared}
/-- what is wanted behind a block -/
def cPost (M : Model) (A : Around) (E : Value → Shared → Prop) (Q : Value → Shared → Prop) (acc : Value) (cenv : Env) (r : Result) (s' : Shared) : Prop :=
  ∃ m, s'.heap.Ns cenv.locals m ∧ ∀ h' m', h'.Ns cenv.locals m' → Heap.SameBut cenv.locals s'.heap h' → match r with
    | .ok _ => Q acc { s' with heap := h' }
    | .error x => wpAny M A (PySem.passOn "comprehension.variables-let-go" x cenv : Sem Value) (fun _ _ => False) E { s' with heap := h' }
theorem wp_comp {e : Expr} {scope : Scope} {pos : Pos} {newAcc first : Sem Value} {g : Comprehension} {gs : List Comprehension} {cl : List (Str × Addr)} {Q : Value → Shared → Prop} {use : Option (Value → Sem Unit)}
    (hu : use = none ∨ ∀ v s, ¬ Q v s) (hcl : clausesOf e = g :: gs) (hs : ∀ x, foldedSetIterable g.iter env x = pure x) (hclos : closureFor scope env = pure cl) (hkind : scope.kind = .function) (hnames : ∀ x ∈ scope.names, x.2 = .local → scope.names.lookup x.1 = some .local)
    (h : wpAny M A first (fun x s₁ => wpAny M A (pyIter x) (fun it s₂ => wpAny M A newAcc (fun acc s₃ => wpAny M A (newFunctionEnv scope env.globals cl [] env.qual none .none (some env)) (fun cenv s₄ =>
      codeAny M A (.compStart e 0 it acc { cenv with scope := relabel scope env }) (cPost M A E Q acc { cenv with scope := relabel scope env }) s₄) E s₃) E s₂) E s₁) E s) : wpAny M A (comprehension e scope env pos newAcc false first use) Q E s := by
  unfold comprehension
  rw [hclos, hcl]
  refine wpAny_bind (wpAny_mono h (fun x s₁ h₁ => ?_) fun _ _ z => z)
  refine wpAny_bind (wpAny_standAt (wpAny_bind (wpAny_of_eq (hs x) (wpAny_bind (wpAny_holding (wpAny_mono h₁ (fun it s₂ h₂ => ?_) fun _ _ z => z))))))
  refine wpAny_standIf (wpAny_bind (wpAny_mono h₂ (fun acc s₃ h₃ => ?_) fun _ _ z => z))
  refine wpAny_bind (wpAny_pure (wpAny_bind (wpAny_mono h₃ (fun cenv s₄ h₄ => ?_) fun _ _ z => z)))
  dsimp only
  have names : ∀ x ∈ (scope.names.filter fun x => (x.2 == .local || x.2 == .cell) && x.1 != (".0" : Str)).reverse, x.2 = .local → Env.kindOf { cenv with scope := relabel scope env } x.1 = some .local := fun x hx hl =>
    lookup_relabel_local (hnames x (List.mem_filter.mp (List.mem_reverse.mp hx)).1 hl)
  refine wpAny_holding (wpAny_bind (wpAny_attempt (wpAny_holding (wpAny_run (codeAny_mono h₄ fun r s' ⟨m, hn, hr⟩ => ?_)))))
  cases r with
  | ok f =>
    rcases hu with rfl | hu
    · exact wpAny_bind (wpAny_holding (wpAny_comp_letGo (cenv := { cenv with scope := relabel scope env }) hkind _ s' m names hn fun h' m' n' sb => wpAny_pure (hr h' m' n' sb)))
    · exact absurd (hr s'.heap m hn (Heap.SameBut.refl _ _)) (hu _ _)
  | error x =>
    cases use with
    | none => exact wpAny_bind (wpAny_holding (wpAny_comp_letGo (cenv := { cenv with scope := relabel scope env }) hkind _ s' m names hn fun h' m' n' sb => wpAny_mono (hr h' m' n' sb) (fun _ _ f => f.elim) fun _ _ z => z))
    | some u => exact wpAny_bind (wpAny_holding (wpAny_comp_letGo (cenv := { cenv with scope := relabel scope env }) hkind _ s' m names hn fun h' m' n' sb => wpAny_mono (hr h' m' n' sb) (fun _ _ f => f.elim) fun _ _ z => z))
end
/-- a frame notes what another frame's mark is on -/
theorem looks_anyZ {base : Heap} {env : Env} {outer : List Env} {e L : Addr} {Z : PySem.Obj → Prop} {fl : Value} {M : Model} {A : Around} {E : Value → Shared → Prop} {s : Shared} {Q : Unit → Shared → Prop} (hZ : PXN.Steady1 Z) (hfr : A.frames = some (env :: outer)) (hf : env.frame = some L)
    (hkb : base.StaysIn s.heap) (hen : base.get? e = none) (hl : s.heap.FunFrames base (env :: outer)) (ht : HandSPX.TracedZ s.heap base e Z fl) (hne : (fl == rawInt L) = false)
    (hQ : ∀ h', HandSPX.HeldZ base (env :: outer) e Z L h' → s.heap.UpToSlots h' → Q () { s with heap := h' }) : wpAny M A (noteFrame (.ref e) env) Q E s := by
  obtain ⟨oe, vs, T, oT, ts, he, hz, hd, h1, hnT, hTe, hT, hdT, h3⟩ := ht
  unfold noteFrame
  simp only [hf]
  refine wpAny_bind (wpAny_field he hd h1 ?_)
  rw [if_pos (show (Value.ref T != Value.none) = true from by simp)]
  refine wpAny_bind (wpAny_field hT hdT h3 ?_)
  rw [if_neg (by rw [hne]; decide)]
  refine wpAny_bind (wpAny_setField hT hdT (Array.getElem?_eq_some_iff.mp h3).1 ?_)
  have other : ∀ b, b ≠ T → (s.heap.update T (Obj.mapFields (·.setIfInBounds 3 Value.none))).get? b = s.heap.get? b := fun b hb => Heap.get?_update_other _ _ (Ne.symm hb)
  have noRecord : ∀ b o, s.heap.get? b = some o → (∀ vs, o.data ≠ .fields vs) → b ≠ T := fun b o hb hnf q => by
    rw [q, hT] at hb; injection hb with hb; subst hb; exact hnf ts hdT
  refine PXN.wpAny_entryZ hZ hfr (hl.of_keeps fun b o hb hnf => ⟨o, (other b (noRecord b o hb hnf)).trans hb, rfl⟩) hf ((other e (Ne.symm hTe)).trans he)
    (fun b o hbo => (other b fun q => by rw [q, hnT] at hbo; cases hbo).trans (hkb b o hbo)) hen hd (Array.getElem?_eq_some_iff.mp h1).1 hz fun h' hN => ?_
  obtain ⟨x1, x2, x3, x4⟩ := hN
  exact hQ h' ⟨x1, hen, x2, x3⟩ fun b o hb hnf => x4 b o ((other b (noRecord b o hb hnf)).trans hb) hnf
/-- noted by its frame, however it flies -/
theorem sky_noted {B : Heap} {env : Env} {outer : List Env} {a L C : Addr} {Z : PySem.Obj → Prop} {M : Model} {A : Around} {E : Value → Shared → Prop} {s : Shared} {Q : Unit → Shared → Prop} (hZ : PXN.Steady1 Z) (hfr : A.frames = some (env :: outer)) (hf : env.frame = some L) (hne : C ≠ L)
    (sky : Sky B (env :: outer) a Z C s.heap) (hQ : ∀ h', HandSPX.HeldZ B (env :: outer) a Z L h' → s.heap.UpToSlots h' → Q () { s with heap := h' }) : wpAny M A (noteFrame (.ref a) env) Q E s := by
  rcases sky with ⟨hB, hn, hl, oe, vs, he, hz, hd, h1⟩ | fl | hh
  · exact PXN.look_newZ hZ hfr hl hf he hB hn hd h1 hz hQ
  · exact PXN.looks_onZ hZ hfr hf fl hQ
  · obtain ⟨k1, k2, k3, k4⟩ := hh
    refine looks_anyZ hZ hfr hf k1 k2 k3 k4 ?_ hQ
    cases z : (rawInt (C : Int) == rawInt (L : Int)) with
    | false => rfl
    | true =>
      have := beq_iff_eq.mp z
      simp [rawInt] at this
      exact absurd (Int.ofNat.inj this) hne
section
variable {X : Cx} {pins : List (Addr × PySem.Obj)} {σ : L2.St} {H : Hp} {s : Shared}
/-- a block that may raise: xe is what its frame does next -/
abbrev Cx.bx (X : Cx) (s : Shared) (H : Hp) (scope : Scope) (cenv : Env) (fp : List Addr) (xe : Value → Shared → Prop) : Cx := (X.blk s H scope cenv fp).tr [] xe
/-- what leaves the block is in the def's air -/
theorem block_exc {W : WX} {scope : Scope} {ce : Env} {fp : List Addr} {xe : Value → Shared → Prop} {h3 : Hp} {s3 : Shared} {Q : Value → Shared → Prop} {acc : Value} {u : Value} {s' : Shared} (hs : X.stack = X.env :: X.outer) (hf : X.env.frame = some X.env.locals) (tk : Takes X W)
    (I3 : Inv X pins σ h3 s3) (hfp : ∀ b ∈ fp, FpOk X pins h3 b) (cL : ce.locals = s3.heap.objs.size) (cF : ∀ v, noteFrame v ce = noteFrame v X.env) (cf : ce.frame = X.env.frame)
    (x : XE (Cx.bx X s3 h3 scope ce fp xe) (fun cls d _ H' => W cls d σ H') u s') :
    notedBy (model X.prog X.w) X.A ce (fun e s'' => cPost (model X.prog X.w) X.A X.xe Q acc ce (.error e) s'') u s' := by
  obtain ⟨a, B, sI, pins', σ', H', cls, d, cn, cx, rfl, J, nb, up, sky, ch, na, os, ag, w⟩ := x
  have nbe : ∀ b o, sI.heap.get? b = some o → b ∉ frs X.stack → B.get? b = some o := nb
  have hfr : X.A.frames = some (X.env :: X.outer) := by rw [I3.ok.frames, hs]
  have I7 : Inv X pins σ H' sI := I3.call' (ch := fp) J.os J.base J.hok J.bare fun b hb => ⟨(hfp b hb).2.2.2.1, (hfp b hb).2.1, (hfp b hb).2.2.2.2.1, (hfp b hb).2.2.2.2.2⟩
  have nC : H' ce.locals = none := J.free
  obtain ⟨m, hn, _⟩ := J.loc
  have hn : sI.heap.Ns ce.locals m := hn
  have fC : FpOk X pins H' ce.locals := I3.fpOk (by rw [cL]; exact Nat.le_refl _) nC
  have nL : ce.locals ≠ X.env.locals := fC.2.1
  have sky' : Sky B (X.env :: X.outer) a (Zk cls d cx) ce.locals s'.heap := by rw [← hs]; exact sky
  show wpAny _ _ (noteFrame (.ref a) ce) _ _ s'
  rw [cF]
  refine sky_noted Zk.steady hfr hf nL sky' fun h1 held up1 => ?_
  have n1 : h1.Ns ce.locals m := (up.trans up1).ns hn
  refine ⟨m, n1, fun h' m' hn' sb => ?_⟩
  have Cfrs : ce.locals ∉ frs X.stack := fun z => by
    rw [hs] at z
    rcases List.mem_filterMap.mp z with ⟨en, hen, e⟩
    rcases List.mem_cons.mp hen with rfl | hen
    · rw [hf] at e
      exact nL (Option.some.inj e).symm
    · exact fC.2.2.1 (List.mem_filterMap.mpr ⟨en, hen, e⟩)
  obtain ⟨oI, esI, epI, hoI, hdI, _⟩ := hn
  obtain ⟨oC, esC, epC, hoC, hdC, _⟩ := hn'
  have fr : oC.isFreed = false := (Heap.get?_some_iff.mp hoC).2
  have hBC := nbe _ _ hoI Cfrs
  -- the block's frame as it lies now
  have kI : ∀ b, b ≠ ce.locals → (sI.heap.update ce.locals fun _ => oC).get? b = sI.heap.get? b := fun b hb => Heap.get?_update_other _ _ (Ne.symm hb)
  have kB : ∀ b, b ≠ ce.locals → (B.update ce.locals fun _ => oC).get? b = B.get? b := fun b hb => Heap.get?_update_other _ _ (Ne.symm hb)
  have cI : (sI.heap.update ce.locals fun _ => oC).get? ce.locals = some oC := Heap.get?_update_self _ hoI fr
  have cB : (B.update ce.locals fun _ => oC).get? ce.locals = some oC := Heap.get?_update_self _ hBC fr
  have I8 : Inv X pins σ H' { sI with heap := sI.heap.update ce.locals fun _ => oC, toks := sI.toks } := I7.turned (fun b o hb e => (kI b hb).trans e) fC.1 fC.2.1 fC.2.2.2.1 fC.2.2.2.2.1 fC.2.2.2.2.2
  obtain ⟨q1, q2, q3, oe, vs, T, oT, ts, he, hz, hd, hv1, hnT, hTe, hT, hdT, ht3⟩ := held
  have aC : a ≠ ce.locals := fun z => by rw [z, hBC] at q2; cases q2
  have TC : T ≠ ce.locals := fun z => by rw [z, hBC] at hnT; cases hnT
  have held' : HandSPX.HeldZ (B.update ce.locals fun _ => oC) (X.env :: X.outer) a (Zk cls d cx) X.env.locals h' := by
    refine ⟨fun b o e => ?_, by rw [kB a aC]; exact q2, ?_, oe, vs, T, oT, ts, (sb.2 a aC).trans he, hz, hd, hv1, by rw [kB T TC]; exact hnT, hTe, (sb.2 T TC).trans hT, hdT, ht3⟩
    · by_cases hb : b = ce.locals
      · subst hb
        rw [cB] at e; cases e; exact hoC
      · rw [kB b hb] at e
        exact (sb.2 b hb).trans (q1 b o e)
    · have base : ∀ l : List Env, (∀ b ∈ l.filterMap (·.frame), b ≠ ce.locals) → h1.FunFrames B l → h'.FunFrames (B.update ce.locals fun _ => oC) l := fun l => by
        induction l with
        | nil => intro _ _; trivial
        | cons en l ih =>
          rintro hl ⟨k1, ⟨L, o, e1, e2, e3, e4⟩, k2⟩
          have hL : L ≠ ce.locals := hl L (List.mem_filterMap.mpr ⟨en, by simp, e1⟩)
          refine ⟨k1, ⟨L, o, e1, by rw [kB L hL]; exact e2, (sb.2 L hL).trans e3, e4⟩, ih (fun b hb => hl b ?_) k2⟩
          obtain ⟨e5, h5, h6⟩ := List.mem_filterMap.mp hb
          exact List.mem_filterMap.mpr ⟨e5, List.mem_cons_of_mem _ h5, h6⟩
      refine base _ (fun b hb z => Cfrs ?_) q3
      rw [hs, ← z]; exact hb
  show wpAny _ _ (PySem.passOn "comprehension.variables-let-go" (.ref a) ce) _ _ _
  unfold PySem.passOn
  have he' : h'.get? a = some oe := (sb.2 a aC).trans he
  refine wpAny_bind (wpAny_field (s := { s' with heap := h' }) he' hd hv1 ?_)
  rw [if_neg (show ¬ (Value.ref T == Value.none) = true from by simp)]
  rw [cf, hf]
  refine wpAny_bind (HandSPX.setFlight_onZ (s := { s' with heap := h' }) held' fun h2 held2 up2 => wpAny_throw (tk _ _ ?_))
  have ch2 : Ch (B.update ce.locals fun _ => oC) H' cn cx := ch.mono fun b o vs h1 h2 h3 => by
    refine ⟨?_, h3⟩
    rw [kB b fun z => ?_]
    · exact h1
    · rw [z, hBC] at h1
      cases h1
      rw [hdI] at h2
      cases h2
  refine ⟨a, B.update ce.locals fun _ => oC, _, pins, σ, H', cls, d, cn, cx, rfl, I8, fun b o e hb => ?_, ?_, .inr (.inr (by rw [hs]; exact held2)), ch2, na, os, ag, w⟩
  · by_cases z : b = ce.locals
    · subst z
      have e' : (sI.heap.update ce.locals fun _ => oC).get? ce.locals = some o := e
      rw [cI] at e'
      rw [cB]; exact e'
    · have e' : (sI.heap.update ce.locals fun _ => oC).get? b = some o := e
      rw [kI b z] at e'
      rw [kB b z]; exact nbe b o e' hb
  · refine Heap.UpToSlots.trans (h₂ := h') (fun b o e hnf => ?_) up2
    by_cases z : b = ce.locals
    · subst z
      have e' : (sI.heap.update ce.locals fun _ => oC).get? ce.locals = some o := e
      rw [cI] at e'; cases e'
      exact ⟨oC.slots, hoC⟩
    · have e' : (sI.heap.update ce.locals fun _ => oC).get? b = some o := e
      rw [kI b z] at e'
      obtain ⟨sl, e2⟩ := (up.trans up1) b o e' hnf
      exact ⟨sl, (sb.2 b z).trans e2⟩
/-- what is known of such a block -/
def BkT (X : Cx) (W : WX) (σ : L2.St) (Y : Cx) : Prop := Takes Y (fun cls d _ H' => W cls d σ H') ∧ PassesOwn (model X.prog X.w) X.A Y.env Y.xe
theorem lc_coreX {W : WX} {Q : VK} {elt tg iter : Expr} {ifs : List Expr} {scope : Scope} {own : List (Str × Nat)} {pos pos' : Pos} {wi : TI} {g : TG} {tt : TT} {te : TE} {Qf : Value → Shared → Prop} {use : Option (Value → Sem Unit)} (hu : use = none ∨ ∀ v s, ¬ Qf v s) (hs : X.stack = X.env :: X.outer) (hf : X.env.frame = some X.env.locals) (tk : Takes X W)
    (hc : X.calm = true) (hN : X.N.Nodup) (I : Inv X pins σ H s) (hi : PI X tg iter wi) (ok : BlkOk X.N X.env.scope scope own)
    (hg : ∀ s H C cl fp xe, BkT X W σ (Cx.bx X s H scope (compEnvC scope cl C X.env) fp xe) → PG (Cx.bx X s H scope (compEnvC scope cl C X.env) fp xe) tg g)
    (ht : ∀ s H C cl fp xe, BkT X W σ (Cx.bx X s H scope (compEnvC scope cl C X.env) fp xe) → PTs (Cx.bx X s H scope (compEnvC scope cl C X.env) fp xe) ifs tt)
    (he : ∀ s H C cl fp xe, BkT X W σ (Cx.bx X s H scope (compEnvC scope cl C X.env) fp xe) → PE (Cx.bx X s H scope (compEnvC scope cl C X.env) fp xe) elt te)
    (hfold : ∀ x, foldedSetIterable iter X.env x = pure x) (h : tLc wi g tt te (own.map (·.2)) σ H Q)
    (hRR : ∀ D C s' H', Inv X pins σ H' s' → Q (.ref D) H' → FpOk X pins H' C → ∀ h' m', h'.Ns C m' → Heap.SameBut C s'.heap h' → Qf (.ref D) { s' with heap := h' }) :
    wpAny (model X.prog X.w) X.A (comprehension (.ListComp elt [⟨tg, iter, ifs, 0⟩] scope pos) scope X.env pos' (newList []) false (eval iter X.env) use) Qf X.xe s := by
  have hfree : ∀ y ∈ scope.names, y.2 = .free → ∃ c, X.env.cells.lookup y.1 = some c := fun y hy e => by
    rcases ok.free y hy e with k | k
    · exact I.ok.has _ (.inl k)
    · exact I.ok.has _ (.inr k)
  refine wp_comp hu rfl hfold (closure_ok hfree) ok.kind (fun y hy e => by rw [ok.uniq y hy, e]) (thn (hi.run pins s σ H _ I h) fun xv s1 hx => thn hx fun itv s2 h2 => ?_)
  obtain ⟨it, fp, tn, J, H2, e, I2, T, st2, f2, q⟩ := h2
  subst e
  refine wpAny_newObj_type (newEnv_comp ?_) (by show 0 ≤ sizeLine; decide)
  generalize hD : s2.heap.objs.size = D
  have hDn : H2 D = none := I2.hok.fresh (Nat.le_of_eq hD)
  obtain ⟨Wl, ⟨m0, w0⟩, turn⟩ := q D hDn
  generalize hs3 : ({ s2 with heap := s2.heap.push { cls := .type "list", data := .seq ([] : List Value).toArray } } : Shared) = s3
  have h3 : s3.heap = s2.heap.push { cls := .type "list", data := .seq ([] : List Value).toArray } := by rw [← hs3]
  have I3 : Inv X pins σ (L2.upd H2 D (.lst [])) s3 := by
    rw [← hs3]
    refine I2.laid (t' := s2.toks) (fun b o e => Heap.get?_push_of_some _ e) (Nat.le_of_eq hD) ⟨Nat.zero_le _, [], 0, .nil, ?_⟩
    rw [← hD]
    exact Heap.get?_push_size _ rfl
  have f3 : ∀ b ∈ fp, FpOk X pins (L2.upd H2 D (.lst [])) b ∧ b < s3.heap.objs.size := fun b hb => by
    obtain ⟨o, e, _⟩ := T.obj _ _ st2 b hb
    have hlt : b < s2.heap.objs.size := Heap.lt_size e
    refine ⟨⟨?_, (f2 b hb).2⟩, by rw [h3, Heap.size_push]; exact Nat.lt_succ_of_lt hlt⟩
    rw [L2.upd_ne (by rw [← hD]; exact Nat.ne_of_lt hlt)]
    exact (f2 b hb).1
  have st3 : tn 0 s3.heap := T.keep _ _ _ st2 fun b _ o e => by rw [h3]; exact Heap.get?_push_of_some _ e
  have I4 := block_start I3 ok hN f3
  show codeAny _ _ (.compStart (.ListComp elt [⟨tg, iter, ifs, 0⟩] scope pos) 0 (.ref it) (.ref D) (compEnvC scope (cellsFrom (s3.heap.objs.size + 1) scope.names (cloFrom X.env.cells scope.names [])) s3.heap.objs.size X.env)) (cPost (model X.prog X.w) X.A X.xe Qf (.ref D) (compEnvC scope (cellsFrom (s3.heap.objs.size + 1) scope.names (cloFrom X.env.cells scope.names [])) s3.heap.objs.size X.env)) { s3 with heap := pushCells (s3.heap.push { cls := .type "dict", data := .dict #[] }) scope.names }
  have pg := hg s3 (L2.upd H2 D (.lst [])) s3.heap.objs.size (cellsFrom (s3.heap.objs.size + 1) scope.names (cloFrom X.env.cells scope.names [])) fp
  have pt := ht s3 (L2.upd H2 D (.lst [])) s3.heap.objs.size (cellsFrom (s3.heap.objs.size + 1) scope.names (cloFrom X.env.cells scope.names [])) fp
  have pe := he s3 (L2.upd H2 D (.lst [])) s3.heap.objs.size (cellsFrom (s3.heap.objs.size + 1) scope.names (cloFrom X.env.cells scope.names [])) fp
  generalize hce : compEnvC scope (cellsFrom (s3.heap.objs.size + 1) scope.names (cloFrom X.env.cells scope.names [])) s3.heap.objs.size X.env = ce at I4 pg pt pe ⊢
  have cL : ce.locals = s3.heap.objs.size := by subst hce; rfl
  have cF : ∀ v, noteFrame v ce = noteFrame v X.env := fun v => by subst hce; rfl
  have cf : ce.frame = X.env.frame := by subst hce; rfl
  generalize hH3 : L2.upd H2 D (.lst []) = H3 at I3 I4 pg pt pe w0 f3
  generalize hs4 : ({ s3 with heap := pushCells (s3.heap.push { cls := .type "dict", data := .dict #[] }) scope.names } : Shared) = s4 at I4 ⊢
  have nfp : ∀ b ∈ fp, H3 b = none := fun b hb => (f3 b hb).1.1
  have st4 : tn 0 s4.heap := T.keep _ _ _ st3 fun b _ o e => by rw [← hs4]; exact pushCells_keeps _ _ _ _ (Heap.get?_push_of_some _ e)
  generalize hxe : (notedBy (model X.prog X.w) X.A ce fun e s'' => cPost (model X.prog X.w) X.A X.xe Qf (.ref D) ce (.error e) s'') = xe
  have bt : BkT X W σ (Cx.bx X s3 H3 scope ce fp xe) := by
    refine ⟨fun u s' x => ?_, ?_⟩
    · show xe u s'
      rw [← hxe]
      exact block_exc hs hf tk I3 (fun b hb => (f3 b hb).1) cL cF cf x
    · show PassesOwn _ _ ce xe
      rw [← hxe]
      exact PassesOwn.looking
  have pg := pg xe bt
  have pt := pt xe bt
  have pe := pe xe bt
  have I5 : Inv (Cx.bx X s3 H3 scope ce fp xe) [] (wipe σ (own.map (·.2))) H3 s4 := I4.toTry xe
  have stat : ∀ {σ' : L2.St} {H' : Hp} {s' : Shared}, Inv (Cx.bx X s3 H3 scope ce fp xe) [] σ' H' s' → (∀ b ∈ fp, H' b = none) → ∀ b ∈ fp, FpOk (Cx.bx X s3 H3 scope ce fp xe) [] H' b := fun {σ' H' s'} I' hn b hb =>
    ⟨hn b hb, (I'.ok.exf b hb).1, I'.ok.exfs b hb, .inl hb, fun x c e => (I'.ok.exf b hb).2 x c e, fun p hp => absurd (show p ∈ ([] : List (Addr × PySem.Obj)) ++ [] from hp) (by simp)⟩
  have loop : codeAny (model X.prog X.w) X.A (.compLoop (.ListComp elt [⟨tg, iter, ifs, 0⟩] scope pos) 0 (.ref it) (.ref D) ce) (cPost (model X.prog X.w) X.A X.xe Qf (.ref D) ce) s4 := by
    refine compLoop_any (fun n s' => ∃ i H', Inv (Cx.bx X s3 H3 scope ce fp xe) [] (wipe σ (own.map (·.2))) H' s' ∧ tn i s'.heap ∧ (∀ b ∈ fp, H' b = none) ∧ Wl i n H') ?_ m0 ⟨0, H3, I5, st4, nfp, w0⟩
    rintro n s5 ⟨i, H5, J5, st5, n5, w5⟩
    rw [hxe]
    rcases turn i n H5 w5 with ⟨stop, qq⟩ | ⟨go, Nx, hNx, step⟩
    · have td := T.done (Cx.bx X s3 H3 scope ce fp xe) rfl rfl rfl hc i [] s5 _ H5 (fun _ _ => False) J5 (stat J5 n5) st5 stop
      refine thnF td fun r s6 ⟨hr, J6⟩ => ?_
      subst hr
      have I7 : Inv X pins σ H5 s6 := I3.call' (ch := fp) J6.os J6.base J6.hok J6.bare fun b hb => ⟨(f3 b hb).1.2.2.2.1, (f3 b hb).1.2.1, (f3 b hb).1.2.2.2.2.1, (f3 b hb).1.2.2.2.2.2⟩
      have nC : H5 ce.locals = none := J6.free
      obtain ⟨m, hn, _⟩ := J6.loc
      exact ⟨m, hn, fun h' m' n' sb => hRR D ce.locals s6 H5 I7 qq (I3.fpOk (by rw [cL]; exact Nat.le_refl _) nC) h' m' n' sb⟩
    · have ti := T.item (Cx.bx X s3 H3 scope ce fp xe) rfl rfl rfl hc i [] s5 _ H5 (fun _ _ => False) J5 (stat J5 n5) st5 go
      refine thnF ti fun r s6 ⟨u, hr, h6⟩ => ?_
      subst hr
      refine thnF h6 fun _ s7 ⟨x, H7, J7, r7, y7, st7, n7⟩ => ?_
      have J7' := J7.pinned (stat J7 n7) (T.obj _ _ st7)
      refine thn (pg.run _ s7 _ H7 x u _ J7' r7 (step x H7 y7)) fun _ s8 ⟨σ8, H8, J8, hw8, q8⟩ => ?_
      refine thn (pt.run _ s8 σ8 H8 _ J8 q8) fun b s9 ⟨H9, J9, q9⟩ => ?_
      have fin : ∀ {s' : Shared} {H' : Hp}, Inv (Cx.bx X s3 H3 scope ce fp xe) ([] ++ pinsAt fp s7.heap) σ8 H' s' → Nx H' → ∃ m, m < n ∧ ∃ i H', Inv (Cx.bx X s3 H3 scope ce fp xe) [] (wipe σ (own.map (·.2))) H' s' ∧ tn i s'.heap ∧ (∀ b ∈ fp, H' b = none) ∧ Wl i m H' := fun {s' H'} I' nx => by
        obtain ⟨m', hm, w'⟩ := hNx H' nx
        have pin' : ∀ b ∈ fp, ∀ o, s7.heap.get? b = some o → s'.heap.get? b = some o ∧ H' b = none := fun b hb o e =>
          let z := I'.pin (b, o) (List.mem_append_right _ (List.mem_append_right _ (mem_pinsAt hb e)))
          ⟨z.1, z.2.1⟩
        refine ⟨m', hm, i + 1, H', (I'.unpinned (pins := [])).weak (by rw [← hw8, wipe_length]) (fun j v e => ?_), T.keep _ _ _ st7 fun b hb o e => (pin' b hb o e).1, fun b hb => ?_, w'⟩
        · rw [← hw8] at e
          exact (wipe_some e).1
        · obtain ⟨o, e, _⟩ := T.obj _ _ st7 b hb
          exact (pin' b hb o e).2
      cases b with
      | false =>
        simp only [Bool.false_eq_true, if_false] at q9 ⊢
        exact fin J9 q9
      | true =>
        simp only [if_true] at q9 ⊢
        refine thn (pe.run _ s9 σ8 H9 _ J9 q9) fun z s10 ⟨yv, H10, J10, r10, acc, hD10, hz10, nx⟩ => ?_
        exact app_ok (X := Cx.bx X s3 H3 scope ce fp xe) J10 hD10 hz10 r10 fun s11 J11 => fin J11 nx
  exact codeAny_compStart_list loop (T.self X.A 0 _ _ _ st4 loop)
end
end Dl
namespace Dl
open PySem PySem.Spec PyProof.Rows L2 NdefX LamX
section
variable {X : Cx} {kx : XD} {ρ : Ro} {M : Mem} {pos p pos' : Pos} {e c elt tg : Expr} {es : List Expr} {α : Type} {k i : Nat} {x : Str} {G : NF} {ps fr : List Str} {ds : List D} {args caps : α → List D} {Mi : α → Mem} {pre : α → Prop} {post : α → D → Mem → Prop} {kk : D → Mem → Prop} {N : List Str} {sc csc : Scope} {own : List (Str × Nat)}
/-- [elt for tg in e if c], c changing things, J what stands as the walk goes on -/
def LcXC (X : Cx) (N : List Str) (sc csc : Scope) (k : Nat) (own : List (Str × Nat)) (tg elt c : Expr) (ρ : Ro) (ds : List D) (J : Nat → List D → Mem → Prop) : Prop :=
  ∀ i d acc m, ds[i]? = some d → J i acc m → ∃ ts ρ2, (∀ i ∈ ts, i ∈ own.map (·.2)) ∧ ∀ s H C cl fp w, Bd (Cx.bk X csc s H C cl fp) N (relS csc sc) k → DG (Cx.bk X csc s H C cl fp) tg ts d (wipeD ρ (own.map (·.2))) ρ2 ∧
    DTE (Cx.bk X csc s H C cl fp) kx0 c ρ2 ((w, .lst acc) :: m) fun b m' => ∃ m2, m' = (w, .lst acc) :: m2 ∧ (b = false → J (i + 1) acc m2) ∧
      (b = true → ∀ s H C cl fp, Bd (Cx.bk X csc s H C cl fp) N (relS csc sc) k → DE (Cx.bk X csc s H C cl fp) kx0 elt ρ2 ((w, .lst acc) :: m2) fun d' m' => ∃ m3, m' = (w, .lst acc) :: m3 ∧ J (i + 1) (acc ++ [d']) m3)
end
end Dl
namespace Dl
open PySem PySem.Spec PyProof.Rows L2 NdefX LamX
/-- a made function that changes what is handed to it, or what it has captured -/
abbrev nspR (K : Frag) {α β : Type} (args caps : α → List D) (Mi : α → Mem) (F : α → Ex β) (res : α → β → D → Mem → Prop) : List (Option V) → Sp :=
  nspM K args caps Mi (fun q => ∃ r, F q = .ok r) (fun q d M' => ∃ r m N, F q = .ok r ∧ res q r d m ∧ M'.Perm (m ++ N))
section
variable {P : Program} {w : World} {K : Frag} {mg : Str → Option Value} {base : Heap} {α β : Type}
end
section
variable {X : Cx} {kx : XD} {ρ : Ro} {M R : Mem} {pos p : Pos} {e c elt tg : Expr} {α β S : Type} {k i : Nat} {x : Str} {G : NF} {ps fr : List Str} {ds : List D} {args caps : α → List D} {Mi : α → Mem} {F : α → Ex β} {res : α → β → D → Mem → Prop} {kk : D → Mem → Prop} {N : List Str} {sc csc : Scope} {own : List (Str × Nat)}
/-- a test's state laid in another order -/
theorem DTE.perm {kb kb' : Bool → Mem → Prop} (h : DTE X kx e ρ M kb) (hk : ∀ b m, kb b m → ∃ m', m.Perm m' ∧ kb' b m') : DTE X kx e ρ M kb' := fun σ H H0 t s W tk hx Q q =>
  h σ H H0 t s W tk hx Q fun H' H0' b m g t' hb => by
    obtain ⟨m', p, hb'⟩ := hk b m hb
    exact q H' H0' b m' (g.permR p) (t'.perm p) hb'
end
end Dl
namespace Dl
open PySem PySem.Spec PyProof.Rows L2 NdefX LamX
section
variable {X : Cx} {kx : XD} {ρ : Ro} {M R : Mem} {pos p pc : Pos} {e e1 elt tg : Expr} {α β γ δ S : Type} {k k' i : Nat} {xl : Str} {G : NF} {ps fr : List Str} {ds : List D} {args caps : α → List D} {Mi : α → Mem} {F : α → Ex β} {res : α → β → D → Mem → Prop} {N : List Str} {sc csc : Scope} {own : List (Str × Nat)}
end
end Dl

namespace Dl
open PySem PySem.Spec PyProof.Rows L2
section
variable {X : Cx} {e : Expr} {te : TE} {p apos cpos pos : Pos}
end
section
variable {X : Cx} {kx : XD} {ρ : Ro} {M : Mem} {e : Expr} {p apos cpos pos : Pos} {α β : Type}
end
end Dl
namespace Dl
open PySem PySem.Spec PyProof.Rows L2
/-! ### x in a list of lists -/
section
variable {α : Type} [DecidableEq α] {f : α → D}
end
section
variable {X : Cx} {kx : XD} {ρ : Ro} {M : Mem} {pos : Pos} {a b : Expr} {α : Type} [DecidableEq α] {f : α → D} {n m : Nat}
variable {v : α} {xs : List α} {N : List Str} {sc : Scope} {k : Nat}
end
end Dl

namespace Dl
open PySem PySem.Spec PyProof.Rows L2
/-! ### a try the body of which hands back -/
section
variable {X : Cx} {kx kx' : XD} {ρ ρ' ρ'' : Ro} {M M' : Mem} {P : Out → Mem → Prop} {pos p np pos' tpos spos : Pos} {e c : Expr} {C : Addr} {N : List Str} {sc : Scope} {k i : Nat} {α γ : Type} {ad : Str → Addr} {names : List Str} {m : Ex γ} {kf : α → Ex γ} {hs : List (List Str × (Xn → Ex γ))} {out : Ex γ}
end
/-! ### things lent for all that follows in a def -/
section
variable {X : Cx} {σ : L2.St} {H : Hp} {L : List Addr}
def lendEnds (H : Hp) (od : Addr → PySem.Obj) (L : List Addr) (D : Ends) : Ends := { nx := fun _ _ => False, rt := fun v H' => (∀ a ∈ L, H' a = lockL H od L a) ∧ D.rt v (unlockL H H' L) }
end
def lentP (S : Shp) (m : Mem) (P : Out → Mem → Prop) : Out → Mem → Prop
  | .rt d, M' => d.off S = true ∧ (∀ p ∈ M', p.2.offM S = true) ∧ P (.rt d) (m ++ M')
  | _, _ => False
section
variable {X : Cx} {kx : XD} {ρ : Ro} {M R : Mem} {P : Out → Mem → Prop} {sts : List Stmt} {S : Shp} {sl : List (Nat × D × D)} {os : List Ow}
end
/-! ### names for what stands within an owned thing -/
mutual
def Ow.subs : Ow → List (Addr × D)
  | .fr _ => []
  | .lst a xs => (a, .scr (Ow.frzA xs)) :: Ow.subsA xs
  | .ins a C ns xs => (a, .ins C ns (Ow.frzA xs)) :: Ow.subsA xs
  | .dK a ks xs => (a, .dK ks (Ow.frzA xs)) :: Ow.subsA xs
  | .dT a ks xs => (a, .dT ks (Ow.frzA xs)) :: Ow.subsA xs
  | .tup xs => Ow.subsA xs
  | .seq xs => Ow.subsA xs
def Ow.subsA : List Ow → List (Addr × D)
  | [] => []
  | o :: os => o.subs ++ Ow.subsA os
end
section
variable {K : Frag}
def SubsOk (K : Frag) (H0' : Hp) (l : List (Addr × D)) : Prop := ∀ p ∈ l, Rep K H0' (.ref p.1) p.2
theorem SubsOk.mo {H0 H0' : Hp} {l : List (Addr × D)} (h : SubsOk K H0 l) (e : Same H0 H0') : SubsOk K H0' l := fun p hp => (h p hp).mo e
theorem SubsOk.cons {H0 : Hp} {l : List (Addr × D)} {p : Addr × D} (h : Rep K H0 (.ref p.1) p.2) (t : SubsOk K H0 l) : SubsOk K H0 (p :: l) := fun q hq => by
  rcases List.mem_cons.mp hq with rfl | hq
  · exact h
  · exact t q hq
theorem SubsOk.app {H0 : Hp} {l l' : List (Addr × D)} (h : SubsOk K H0 l) (t : SubsOk K H0 l') : SubsOk K H0 (l ++ l') := fun q hq => (List.mem_append.mp hq).elim (h q) (t q)
mutual
theorem frzN_ok : ∀ (o : Ow) {H0 H : Hp} {R : Mem} {v : V}, o.fit → Ht K H0 H (lockM o.mem ++ R) → Rep K H0 v o.root → ∃ H0', Ht K H0' H R ∧ Rep K H0' v o.frz ∧ Same H0 H0' ∧ Go H0 H (lockM o.mem ++ R) H0' H R ∧ SubsOk K H0' o.subs
  | .fr d, H0, H, R, v, _, t, r => by
    simp only [Ow.mem, Ow.root, Ow.frz, Ow.subs] at *
    exact ⟨H0, t, r, Same.refl _, Go.refl, fun p hp => by cases hp⟩
  | .lst a xs, H0, H, R, v, f, t, r => by
    simp only [Ow.mem, Ow.root, Ow.frz, Ow.fit, Ow.subs] at *
    have p : (lockM ((a, .lst (Ow.rootA xs)) :: Ow.memA xs) ++ R).Perm (lockM (Ow.memA xs) ++ ((a, .fL (Ow.rootA xs)) :: R)) := (List.perm_middle).symm
    have t2 := t.perm p
    obtain ⟨_, ob, vs, h1, h2⟩ := t2.mem (a, .fL (Ow.rootA xs)) (by simp)
    obtain ⟨H0', t3, r3, sm, g3, b3⟩ := frzNA_ok xs f t2 h2
    obtain ⟨t4, sm4, g4⟩ := t3.lay h1
    cases r
    exact ⟨_, t4, .scr (.inl (.inr ⟨ob, upd_same⟩)) (r3.mo sm4), sm.trans sm4, (g3.permL p.symm).trans g4, .cons (.scr (.inl (.inr ⟨ob, upd_same⟩)) (r3.mo sm4)) (b3.mo sm4)⟩
  | .ins a C ns xs, H0, H, R, v, f, t, r => by
    simp only [Ow.mem, Ow.root, Ow.frz, Ow.fit, Ow.subs] at *
    have p : (lockM ((a, .ins C ns (Ow.rootA xs)) :: Ow.memA xs) ++ R).Perm (lockM (Ow.memA xs) ++ ((a, .ins C ns (Ow.rootA xs)) :: R)) := (List.perm_middle).symm
    have t2 := t.perm p
    obtain ⟨_, dx, vs, ys, h1, h2, h3, h4⟩ := t2.mem (a, .ins C ns (Ow.rootA xs)) (by simp)
    obtain ⟨H0', t3, r3, sm, g3, b3⟩ := frzNA_ok xs f t2 h4
    obtain ⟨t4, sm4, g4⟩ := t3.lay h1
    cases r
    exact ⟨_, t4, .ins upd_same h2 h3 (r3.mo sm4), sm.trans sm4, (g3.permL p.symm).trans g4, .cons (.ins upd_same h2 h3 (r3.mo sm4)) (b3.mo sm4)⟩
  | .dK a ks xs, H0, H, R, v, f, t, r => by
    simp only [Ow.mem, Ow.root, Ow.frz, Ow.fit, Ow.subs] at *
    have p : (lockM ((a, .dK (ks.zip (Ow.rootA xs))) :: Ow.memA xs) ++ R).Perm (lockM (Ow.memA xs) ++ ((a, .fK (ks.zip (Ow.rootA xs))) :: R)) := (List.perm_middle).symm
    have t2 := t.perm p
    obtain ⟨_, ob, vs, ys, h1, h2, h3, h4⟩ := t2.mem (a, .fK (ks.zip (Ow.rootA xs))) (by simp)
    have lx : ks.length = (Ow.rootA xs).length := by rw [rootA_map, List.length_map]; exact f.1
    rw [zip_snd lx] at h4
    rw [zip_fst lx] at h2
    obtain ⟨H0', t3, r3, sm, g3, b3⟩ := frzNA_ok xs f.2 t2 h4
    obtain ⟨t4, sm4, g4⟩ := t3.lay h1
    cases r
    exact ⟨_, t4, .dK upd_same h2 h3 (r3.mo sm4), sm.trans sm4, (g3.permL p.symm).trans g4, .cons (.dK upd_same h2 h3 (r3.mo sm4)) (b3.mo sm4)⟩
  | .dT a ks xs, H0, H, R, v, f, t, r => by
    simp only [Ow.mem, Ow.root, Ow.frz, Ow.fit, Ow.subs] at *
    have p : (lockM ((a, .dT (ks.zip (Ow.rootA xs))) :: Ow.memA xs) ++ R).Perm (lockM (Ow.memA xs) ++ ((a, .fT (ks.zip (Ow.rootA xs))) :: R)) := (List.perm_middle).symm
    have t2 := t.perm p
    obtain ⟨_, ob, vs, ys, h1, h2, h3, h4⟩ := t2.mem (a, .fT (ks.zip (Ow.rootA xs))) (by simp)
    have lx : ks.length = (Ow.rootA xs).length := by rw [rootA_map, List.length_map]; exact f.1
    rw [zip_snd lx] at h4
    rw [zip_fst lx] at h2
    obtain ⟨H0', t3, r3, sm, g3, b3⟩ := frzNA_ok xs f.2 t2 h4
    obtain ⟨t4, sm4, g4⟩ := t3.lay h1
    cases r
    exact ⟨_, t4, .dT upd_same h2 h3 (r3.mo sm4), sm.trans sm4, (g3.permL p.symm).trans g4, .cons (.dT upd_same h2 h3 (r3.mo sm4)) (b3.mo sm4)⟩
  | .tup xs, H0, H, R, v, f, t, r => by
    simp only [Ow.mem, Ow.root, Ow.frz, Ow.fit, Ow.subs] at *
    cases r with
    | tup h1 h2 =>
      obtain ⟨H0', t3, r3, sm, g3, b3⟩ := frzNA_ok xs f t h2
      exact ⟨_, t3, .tup (sm _ _ h1) r3, sm, g3, b3⟩
  | .seq xs, H0, H, R, v, f, t, r => by
    simp only [Ow.mem, Ow.root, Ow.frz, Ow.fit, Ow.subs] at *
    cases r with
    | lst h1 h2 =>
      obtain ⟨H0', t3, r3, sm, g3, b3⟩ := frzNA_ok xs f t h2
      exact ⟨_, t3, .lst (sm _ _ h1) r3, sm, g3, b3⟩
theorem frzNA_ok : ∀ (os : List Ow) {H0 H : Hp} {R : Mem} {vs : List V}, Ow.fitA os → Ht K H0 H (lockM (Ow.memA os) ++ R) → RepA K H0 vs (Ow.rootA os) → ∃ H0', Ht K H0' H R ∧ RepA K H0' vs (Ow.frzA os) ∧ Same H0 H0' ∧ Go H0 H (lockM (Ow.memA os) ++ R) H0' H R ∧ SubsOk K H0' (Ow.subsA os)
  | [], H0, H, R, vs, _, t, r => by
    simp only [Ow.memA, Ow.rootA, Ow.frzA, Ow.subsA] at *
    exact ⟨H0, t, r, Same.refl _, Go.refl, fun p hp => by cases hp⟩
  | o :: os, H0, H, R, vs, f, t, r => by
    simp only [Ow.memA, Ow.rootA, Ow.frzA, Ow.fitA, Ow.subsA] at *
    rw [lockM_app, List.append_assoc] at t
    cases r with
    | cons r1 r2 =>
      obtain ⟨H1, t1, q1, sm1, g1, b1⟩ := frzN_ok o f.1 t r1
      obtain ⟨H2, t2, q2, sm2, g2, b2⟩ := frzNA_ok os f.2 t1 (r2.mo sm1)
      exact ⟨H2, t2, .cons (q1.mo sm2) q2, sm1.trans sm2, by rw [lockM_app, List.append_assoc]; exact g1.trans g2, (b1.mo sm2).app b2⟩
end
end
/-- r is owned as d by m; what stands at these addresses within looks so, laid for good -/
def AlR {β : Type} (E : β → Ow → Prop) (r : β) (d : D) (m : Mem) (al : List (Addr × D)) : Prop := ∃ o, E r o ∧ d = o.root ∧ m = o.mem ∧ ∀ q ∈ al, q ∈ o.subs
theorem AlR.own {β : Type} {E : β → Ow → Prop} {r : β} {d : D} {m : Mem} {al : List (Addr × D)} (h : AlR E r d m al) : OwR E r d m := by
  obtain ⟨o, a, b, c, _⟩ := h; exact ⟨o, a, b, c⟩
theorem OwR.al {β : Type} {E : β → Ow → Prop} {r : β} {d : D} {m : Mem} (h : OwR E r d m) : AlR E r d m [] := by
  obtain ⟨o, a, b, c⟩ := h; exact ⟨o, a, b, c, fun q hq => by cases hq⟩
/-- a slot's thing and how it looks meanwhile -/
def AlS (al : List (Addr × D)) (d f : D) : Prop := d = f ∨ ∃ l, d = .adr l ∧ (l, f) ∈ al
def alO {α : Type} (f : α → D) (o : Option α) (l : Addr) : List (Addr × D) := match o with
  | none => []
  | some x => [(l, f x)]
def dAl {α : Type} (o : Option α) (l : Addr) : D := match o with
  | none => .non
  | some _ => .adr l
theorem AlS.more {al : List (Addr × D)} {d f : D} {q : Addr × D} (h : AlS al d f) : AlS (q :: al) d f := by
  rcases h with h | ⟨l, h, k⟩
  · exact .inl h
  · exact .inr ⟨l, h, List.mem_cons_of_mem _ k⟩
theorem AlS.app {al al' : List (Addr × D)} {d f : D} (h : AlS al d f) : AlS (al' ++ al) d f := by
  rcases h with h | ⟨l, h, k⟩
  · exact .inl h
  · exact .inr ⟨l, h, List.mem_append_right _ k⟩
section
variable {X : Cx} {kx kx' : XD} {ρ ρ' ρ'' : Ro} {M M' R : Mem} {P : Out → Mem → Prop} {e : Expr} {sts : List Stmt} {β : Type} {E : β → Ow → Prop} {enc : β → D} {r : β} {d d' : D} {m : Mem} {S : Shp} {al : List (Addr × D)}
def AlSl (ρ : Ro) (al : List (Addr × D)) (as : List (Nat × D × D)) : Prop := ∀ q ∈ as, ρ[q.1]? = some (some q.2.1) ∧ AlS al q.2.1 q.2.2
end
/-! ### isinstance(x, (S, T)) -/
section
variable {X : Cx} {kx : XD} {ρ : Ro} {M : Mem} {pos p : Pos} {a b : Expr} {x z : D}
end
/-! ### calls of made functions that change a new list -/
section
variable {X : Cx} {kx : XD} {ρ : Ro} {M : Mem} {e : Expr} {d : D} {pos p : Pos}
/-- what is made beside is forgotten -/
theorem DE.drop (h : DE X kx0 e ρ [] fun d' _ => d' = d) : DV X kx e ρ M d := fun σ H H0 t s W tk hx Q q =>
  h σ H H0 (Ht.emp t.ex t.tb) s W tk Hx.none _ fun v H' H0' d' m g t' r hd => by
    subst hd
    exact q v H' H0' ⟨g.e0, fun b o e n => g.e b o e (by intro z; cases z) n, t'.ex, fun a h1 h2 => g.new a h1 h2 (by intro z; cases z), g.there, fun _ => t'.tb⟩ r
end
/-! ### lists of dicts of lists -/
section
variable {X : Cx} {kx : XD} {ρ : Ro} {M R : Mem} {P : Out → Mem → Prop} {pos p apos cpos spos tpos np xpos gpos : Pos} {e o ix a ke : Expr} {d y : D} {N : List Str} {sc : Scope} {k : Nat} {κ β : Type} [DecidableEq κ] {ek : κ → Key} {f : β → D} {r : List (κ × List β)} {m : Mem} {kk : κ}
end
end Dl

/-! except suites that raise; try with else -/
namespace Dl
open PySem PySem.Spec PyProof.Rows L2
abbrev ClauseR := Value × (Addr → Value → Option Addr → TS)
/-- the context of an except suite that may raise -/
abbrev rsX (X : Cx) (a : Addr) (pn : List (Addr × PySem.Obj)) : Cx := { X with A := X.A.mark (some (.ref a)), calm := false, pn := pn }
def wR (K : PySem.W.Frag) (Wout : WX) (D : Ends) : List ClauseR → WX
  | [] => Wout
  | (c, ts) :: l => fun cls d σ H => ∃ b, PySem.W.exmOne K cls c = some b ∧ (b = true → ∀ a, H a = none → ts a cls d D σ H) ∧ (b = false → wR K Wout D l cls d σ H)
inductive HsR (X : Cx) (Wout : WX) : List ExceptHandler → List ClauseR → Prop
  | nil : HsR X Wout [] []
  | cons {x : Str} {c : Value} {ts : Addr → Value → Option Addr → TS} {b0 : Stmt} {suite : List Stmt} {np pos : Pos} {hds : List ExceptHandler} {l : List ClauseR} (hc : Names X x c)
      (hsu : ∀ (a : Addr) (cls : Value) (d : Option Addr) (pn : List (Addr × PySem.Obj)), Takes (rsX X a pn) Wout → HotK (rsX X a pn) → PSs (rsX X a pn) (b0 :: suite) (ts a cls d)) (r : HsR X Wout hds l) :
      HsR X Wout (.ExceptHandler (some (.Name x np)) none (b0 :: suite) pos :: hds) ((c, ts) :: l)
section
variable {X : Cx} {pins pn pn' : List (Addr × PySem.Obj)} {σ : L2.St} {H : Hp} {s : Shared} {a : Addr}
theorem inv_rs (I : Inv (X.suite a pn) pn' σ H s) : Inv (rsX X a pn) pn' σ H s := Inv.unwish (X := rsX X a pn) (E := fun _ _ => False) I
theorem inv_unrs (I : Inv (rsX X a pn) pn' σ H s) (h : ∀ p ∈ X.pn ++ pins, p ∈ pn) (ok : X.Ok) : Inv X pins σ H s := by
  have J : Inv (X.suite a pn) pn' σ H s := I.wish fun _ _ => False
  exact ⟨ok, J.os, J.bare, J.base, J.loc, J.cell, J.free, J.freeC, fun p hp => J.pin p (List.mem_append_left _ (h p hp)), J.hok, J.len⟩
/-- the chain's records, as pins -/
theorem chain_pins {B : Heap} {h : Heap} (st : B.StaysIn h) (nf : ∀ b o vs, h.get? b = some o → o.data = .fields vs → b ≠ X.env.locals ∧ b ∉ X.fs) : ∀ {n : Nat} {v : Value}, Ch B H n v →
    ∃ l : List (Addr × PySem.Obj), PinCh l n v ∧ ∀ p ∈ l, h.get? p.1 = some p.2 ∧ H p.1 = none ∧ p.1 ≠ X.env.locals ∧ p.1 ∉ X.fs ∧ ∀ v, p.2.data ≠ .cell v
  | 0, _, r => ⟨[], r, by simp⟩
  | n + 1, _, ⟨b, o, vs, x, e, g, hn, d, h2, r⟩ => by
    obtain ⟨l, p, q⟩ := chain_pins st nf r
    have g' := st b o g
    refine ⟨(b, o) :: l, ⟨b, o, vs, x, e, List.mem_cons_self .., d, h2, p.mono fun _ z => List.mem_cons_of_mem _ z⟩, fun y hy => ?_⟩
    rcases List.mem_cons.mp hy with rfl | hy
    · exact ⟨g', hn, (nf b o vs g' d).1, (nf b o vs g' d).2, fun v z => by have z' : o.data = .cell v := z; rw [d] at z'; cases z'⟩
    · exact q y hy
end
section
variable {X : Cx} {body orelse : List Stmt} {h0 : ExceptHandler} {hds : List ExceptHandler} {l : List ClauseR} {pos : Pos} {tb : WX → TS} {u : TS} {Wout : WX}
theorem clausesR_ok {pins : List (Addr × PySem.Obj)} {σ : L2.St} {H : Hp} {sI s' : Shared} {D : Ends} {B h3 : Heap} {a : Addr} {cls : Value} {d : Option Addr} {cn : Nat} {cx : Value} (hs : X.stack = X.env :: X.outer) (hf : X.env.frame = some X.env.locals)
    (hpa : ∀ hd : Option Value, PassesOwnAt (model X.prog X.w) (X.A.mark hd) X.A X.env X.xe) (tk : Takes X Wout)
    (J : Inv X pins σ H sI) (nb : ∀ b o, sI.heap.get? b = some o → b ∉ frs X.stack → B.get? b = some o) (up : sI.heap.UpToSlots h3) (fl : HandSPX.FlyingZ B (X.env :: X.outer) a (Zk cls d cx) h3) (ch : Ch B H cn cx) (na : H a = none) (os : s'.os = sI.os) (ag : AllBare s'.gens) :
    ∀ {hds : List ExceptHandler} {l : List ClauseR}, HsR X Wout hds l → wR X.K Wout D l cls d σ H → wpAny (model X.prog X.w) X.A (handleBy (.ref a) X.env hds) (SP X pins D) X.xe { s' with heap := h3 } := by
  obtain ⟨oe, vs, he, hz, hd⟩ := fl.there
  have J3 : Inv X pins σ H { s' with heap := h3 } := J.landed nb fl.1 up os ag
  have nfs : ∀ {h : Heap}, h.FunFrames B (X.env :: X.outer) → ∀ b o vs, h.get? b = some o → o.data = .fields vs → b ≠ X.env.locals ∧ b ∉ X.fs := fun {h} ff b o vs e dd => by
    have nfr : b ∉ frs (X.env :: X.outer) := fun hm => by
      obtain ⟨_, o', e', hnf⟩ := ff.mem hm
      rw [e] at e'; cases e'
      exact hnf _ dd
    exact ⟨fun z => nfr (List.mem_filterMap.mpr ⟨X.env, List.mem_cons_self, by rw [hf, z]⟩), fun hm => by
      obtain ⟨e1, h1, h2⟩ := List.mem_filterMap.mp hm
      exact nfr (List.mem_filterMap.mpr ⟨e1, List.mem_cons_of_mem _ h1, h2⟩)⟩
  intro hds l hk
  induction hk with
  | nil =>
    intro w
    obtain ⟨_, _, _, oe1, vs1, T, oT, ts1, he1, hz1, hd1, h1, hr⟩ := id fl
    refine wpAny_handleBy_nil ?_
    unfold PySem.passOn
    refine wpAny_bind (wpAny_field he1 hd1 h1 ?_)
    rw [if_neg (by simp)]
    have last : wpAny (model X.prog X.w) X.A (setFlight (.ref a) X.env.frame) (fun _ s4 => wpAny (model X.prog X.w) X.A (throw (.ref a) : Sem Flow) (SP X pins D) X.xe s4) X.xe { s' with heap := h3 } := by
      rw [hf]
      exact HandSPX.setFlight_upZ fl fun h4 hh4 up4 => wpAny_throw (tk _ _ ⟨a, B, sI, pins, σ, H, cls, d, cn, cx, rfl, J, nb, up.trans up4, .inr (.inr (by rw [hs]; exact hh4)), ch, na, os, ag, w⟩)
    first
      | exact wpAny_bind (wpAny_pure (wpAny_bind last))
      | exact wpAny_bind last
  | @cons x c ts b0 suite np pos hds l hc hsu r ih =>
    intro w
    obtain ⟨b, hb, yes, no⟩ := w
    refine wpAny_handleBy_cons (codeAny_handlers_test ?_) (by intro q; cases q)
    have LT : PySem.W.Looks (model X.prog X.w) h3 (typeOf (.ref a)) cls := fun A Q E s k q => wpAny_typeOf_ref (k _ _ he) (by rw [hz.1]; exact q)
    have LM := PySem.W.exm_one (M := model X.prog X.w) J3.kIn LT hb
    have test : ∀ {Q : Value → Shared → Prop} {E : Value → Shared → Prop}, Q c { s' with heap := h3 } → wpAny (model X.prog X.w) (X.A.mark (some (.ref a))) (eval (.Name x np) X.env) Q E { s' with heap := h3 } := fun {Q E} q => by
      have S : Inv (X.suite a (X.pn ++ pins)) [] σ H { s' with heap := h3 } := J3.inSuite
      obtain ⟨hg, hdb, hm | ⟨hm, hv, hnn⟩⟩ := hc
      · exact ld_glob S hg hm q hdb
      · exact ld_blt S hg hm hv q hnn hdb
    refine test (LM.here ?_)
    cases b with
    | false => exact ih (no rfl)
    | true =>
      refine codeAny_handlers_suite (HandSPX.lands_againZ fl fun h4 fl4 up4 => ?_)
      obtain ⟨oe4, vs4, he4, hz4, hd4⟩ := fl4.there
      have J4 : Inv X pins σ H { s' with heap := h4 } := J.landed nb fl4.1 (up.trans up4) os ag
      obtain ⟨lc, pc, qc⟩ := chain_pins (X := X) (H := H) fl4.1 (nfs fl4.2.2.1) ch
      have n4 := nfs fl4.2.2.1 a oe4 vs4 he4 hd4
      have S4 : Inv (X.suite a ((a, oe4) :: (lc ++ (X.pn ++ pins)))) [] σ H { s' with heap := h4 } :=
        ⟨J4.ok.suite _ _, J4.os, J4.bare, J4.base, J4.loc, J4.cell, J4.free, J4.freeC, fun p hp => by
          have hp' : p ∈ (a, oe4) :: (lc ++ (X.pn ++ pins)) := by rw [List.append_nil] at hp; exact hp
          rcases List.mem_cons.mp hp' with e | h
          · rw [e]; exact ⟨he4, na, n4.1, n4.2, fun v z => by have z' : oe4.data = .cell v := z; rw [hd4] at z'; cases z'⟩
          · rcases List.mem_append.mp h with h | h
            · exact qc p h
            · exact J4.pin p h, J4.hok, J4.len⟩
      have sub : ∀ p ∈ X.pn ++ pins, p ∈ (a, oe4) :: (lc ++ (X.pn ++ pins)) := fun p hp => List.mem_cons_of_mem _ (List.mem_append_right _ hp)
      have tkS : Takes (rsX X a ((a, oe4) :: (lc ++ (X.pn ++ pins)))) Wout := fun u2 s2 x2 => by
        obtain ⟨a2, B2, sI2, pn2, σ2, H2, cls2, d2, n2, x2, e2, I2, nb2, up2, sky2, ch2, na2, os2, ag2, w2⟩ := x2
        exact tk u2 s2 ⟨a2, B2, sI2, pins, σ2, H2, cls2, d2, n2, x2, e2, inv_unrs I2 sub J.ok, nb2, up2, sky2, ch2, na2, os2, ag2, w2⟩
      have hot : HotK (rsX X a ((a, oe4) :: (lc ++ (X.pn ++ pins)))) := ⟨cn, a, rfl, a, oe4, vs4, cx, rfl, List.mem_cons_self .., hd4, hz4.2.2 vs4 hd4, pc.mono fun p hp => List.mem_cons_of_mem _ (List.mem_append_left _ hp)⟩
      refine wpAny_mono ((hsu a cls d _ tkS hot).run [] _ _ H _ (inv_rs S4) (yes rfl a na)) (fun f s6 hsp => ?_) (fun e6 s6 z => hpa (some (.ref a)) e6 s6 z)
      cases f with
      | next => obtain ⟨σ6, H6, S6, q6⟩ := hsp; exact ⟨_, _, inv_unrs S6 sub J.ok, q6⟩
      | brk => obtain ⟨σ6, H6, S6, q6⟩ := hsp; exact ⟨_, _, inv_unrs S6 sub J.ok, q6⟩
      | cont => obtain ⟨σ6, H6, S6, q6⟩ := hsp; exact ⟨_, _, inv_unrs S6 sub J.ok, q6⟩
      | ret u => obtain ⟨v6, σ6, H6, S6, r6, q6⟩ := hsp; exact ⟨_, _, _, inv_unrs S6 sub J.ok, r6, q6⟩
/-- try: body, suites that raise, else -/
theorem ps_try_rs (ho : PSs X orelse u) (hs : X.stack = X.env :: X.outer) (hf : X.env.frame = some X.env.locals) (hpa : ∀ hd : Option Value, PassesOwnAt (model X.prog X.w) (X.A.mark hd) X.A X.env X.xe) (tk : Takes X Wout)
    (hb : ∀ (W : WX) (pn : List (Addr × PySem.Obj)) (xe : Value → Shared → Prop), Takes (X.tr pn xe) W → (∀ hd : Option Value, PassesOwnAt (model X.prog X.w) (X.A.mark hd) X.A X.env xe) ∧ PassesOwn (model X.prog X.w) X.A X.env xe → PSs (X.tr pn xe) body (tb W))
    (hh : HsR X Wout (h0 :: hds) l) : PS X (.Try body (h0 :: hds) orelse [] pos) (fun D σ H => tb (wR X.K Wout D l) { D with nx := u D } σ H) := by
  refine ⟨fun pins s σ H D I h => wpAny_Try_except ?_⟩
  have ok := I.ok
  have hfr : X.A.frames = some (X.env :: X.outer) := by rw [ok.frames, hs]
  refine wpAny_mono ((hb (wR X.K Wout D l) (X.pn ++ pins) (fun e s₁ => wpAny (model X.prog X.w) X.A (noteFrame e X.env) (fun _ s₂ => wpAny (model X.prog X.w) X.A (setFlight e none) (fun _ s₃ =>
    wpAny (model X.prog X.w) X.A (handleBy e X.env (h0 :: hds)) (SP X pins D) X.xe s₃) X.xe s₂) X.xe s₁) (fun u s' xx => ?_) ⟨fun hd => PassesOwnAt.looking, PassesOwn.looking⟩).run [] s σ H { D with nx := u D } (I.toTry _) h) (fun f s1 hsp => ?_) (fun e s1 he => he)
  · obtain ⟨a, B, sI, pins', σ', H', cls, d, cn, cx, rfl, J', nb, up, sky, ch, na, os, ag, w⟩ := xx
    have J : Inv X pins σ' H' sI := J'.ofTry ok
    have sky' : Sky B (X.env :: X.outer) a (Zk cls d cx) X.env.locals s'.heap := by rw [← hs]; exact sky
    exact L2N.Sky.land Zk.steady hfr hf sky' fun h3 fl3 up3 => clausesR_ok hs hf hpa tk J nb (up.trans up3) fl3 ch na os ag hh w
  · cases f with
    | next => obtain ⟨σ', H', J', q⟩ := hsp; exact ho.run pins s1 σ' H' D (J'.ofTry ok) q
    | brk => obtain ⟨σ', H', J', q⟩ := hsp; exact ⟨σ', H', J'.ofTry ok, q⟩
    | cont => obtain ⟨σ', H', J', q⟩ := hsp; exact ⟨σ', H', J'.ofTry ok, q⟩
    | ret u => obtain ⟨v, σ', H', J', r, q⟩ := hsp; exact ⟨v, σ', H', J'.ofTry ok, r, q⟩
end
/-! ### at the level of data -/
inductive HdR (X : Cx) : List ExceptHandler → List (Value × List Stmt) → Prop
  | nil : HdR X [] []
  | cons {xx : Str} {cv : Value} {b0 : Stmt} {suite : List Stmt} {np pos : Pos} {hds : List ExceptHandler} {l : List (Value × List Stmt)} (hg : Gl X xx) (hm : X.mg xx = some cv) (r : HdR X hds l)
      (hdb : (xx == ("__debug__" : Str)) = false := by decide) : HdR X (.ExceptHandler (some (.Name xx np)) none (b0 :: suite) pos :: hds) ((cv, b0 :: suite) :: l)
def rsQ (X : Cx) (N : List Str) (sc : Scope) (k : Nat) (kx : XD) (P : Out → Mem → Prop) : List (Value × List Stmt) → XD
  | [] => kx
  | (cv, st) :: t => fun cls fs ρ M => ∃ b, PySem.W.exmOne X.K cls cv = some b ∧ (b = true → ∀ a l, BdS (rsX X a l) N sc k → HotK (rsX X a l) → DS (rsX X a l) kx st ρ M P) ∧ (b = false → rsQ X N sc k kx P t cls fs ρ M)
section
variable {X : Cx} {kx kx' : XD} {ρ ρ' ρ'' : Ro} {M M' : Mem} {P : Out → Mem → Prop} {pos p np pos' pos2 : Pos} {e c : Expr} {d : D} {w C : Addr} {k i : Nat} {N : List Str} {sc : Scope} {α β : Type} {names : List Str} {m : Ex α} {kf : α → Ex β} {hs : List (List Str × (Xn → Ex β))} {out : Ex β} {ad : Str → Addr}
theorem hdR_ok {W : WX} {hds : List ExceptHandler} {l : List (Value × List Stmt)} (h : HdR X hds l) :
    HsR X W hds (l.map fun q => (q.1, fun a cls d => fun D' σ' H' => ∀ pn, Takes (rsX X a pn) W → HotK (rsX X a pn) → sSs (rsX X a pn) q.2 D' σ' H')) := by
  induction h with
  | nil => exact .nil
  | cons hg hm r hdb ih => exact .cons ⟨hg, hdb, .inl hm⟩ (fun a cls d pn tk hk => ⟨fun pins s' σ' H' D' I q => sSs_iff.mp (q pn tk hk) pins s' I⟩) ih
theorem Bd.rs (B : Bd X N sc k) (a : Addr) (l : List (Addr × PySem.Obj)) : BdS (rsX X a l) N sc k := ⟨B.hN, B.hnd, B.hsc, (B.su a l).un⟩
theorem ds1_tryR {body orelse : List Stmt} {h0 : ExceptHandler} {hds : List ExceptHandler} {l : List (Value × List Stmt)} (B : Bd X N sc k) (F : Bf X) (hh : HdR X (h0 :: hds) l)
    (hb : ∀ pn xe, Bd (X.tr pn xe) N sc k → Bf (X.tr pn xe) → DS (X.tr pn xe) (rsQ X N sc k kx P l) body ρ M (thenP X kx orelse P)) : DS1 X kx (.Try body (h0 :: hds) orelse [] pos) ρ M P := fun σ H H0 t s W tk hx E c => by
  refine sS.by (ps_try_rs (Wout := W) (l := l.map fun q => (q.1, fun a cls d => fun D' σ' H' => ∀ pn, Takes (rsX X a pn) W → HotK (rsX X a pn) → sSs (rsX X a pn) q.2 D' σ' H'))
    (tb := fun W' => fun D' σ' H' => ∀ pn xe, Takes (X.tr pn xe) W' → (∀ hd : Option Value, PassesOwnAt (model X.prog X.w) (X.A.mark hd) X.A X.env xe) ∧ PassesOwn (model X.prog X.w) X.A X.env xe → sSs (X.tr pn xe) body D' σ' H')
    (pss_s orelse) F.stk F.fr F.pa tk (fun W' pn xe tk' po => ⟨fun pins s' σ' H' D' I q => sSs_iff.mp (q pn xe tk' po) pins s' I⟩) (hdR_ok hh)) ?_
  intro pn xe tk' po
  refine hb pn xe (B.tr po.2) (F.tr po.1) σ H H0 t s _ tk' ?_ { E with nx := sSs X orelse E } ⟨fun σ2 H2 H02 ρ2 M2 g2 t2 s2 q => q σ2 H2 H02 t2 s2 W tk (hx.step g2) E (c.step g2), c.bk, c.ct, c.rt⟩
  intro cls dd σ' H' H0' fs ρ' M' g t' s' xr kq
  clear hh hb tk' po
  induction l with
  | nil => exact hx cls dd σ' H' H0' fs ρ' M' g t' s' xr kq
  | cons q l ih =>
    obtain ⟨cv, st⟩ := q
    obtain ⟨b, e1, yes, no⟩ := kq
    refine ⟨b, e1, fun hb a na pn2 tk2 hot => ?_, fun hb => ih (no hb)⟩
    exact yes hb a pn2 (B.rs a pn2) hot σ' _ _ t' s' W tk2 (hx.step g) _ ⟨fun σ2 H2 H02 ρ2 M2 g2 => c.nx σ2 H2 H02 ρ2 M2 (g.trans g2), fun σ2 H2 H02 ρ2 M2 g2 => c.bk σ2 H2 H02 ρ2 M2 (g.trans g2),
      fun σ2 H2 H02 ρ2 M2 g2 => c.ct σ2 H2 H02 ρ2 M2 (g.trans g2), fun v H2 H02 d M2 g2 => c.rt v H2 H02 d M2 (g.trans g2)⟩
/-- the clauses that raise, as the mirror has them -/
inductive HdRF (X : Cx) (N : List Str) (sc : Scope) (k : Nat) (kx : XD) (ad : Str → Addr) (names : List Str) (ρE : Ro) (M : Mem) (P : Out → Mem → Prop) (out : Ex β) : List (Value × List Stmt) → List (List Str × (Xn → Ex β)) → Prop
  | nil : HdRF X N sc k kx ad names ρE M P out [] []
  | cons {cv : Value} {st : List Stmt} {l : List (Value × List Stmt)} {ns : List Str} {h : Xn → Ex β} {hs : List (List Str × (Xn → Ex β))} (e1 : ∀ n ∈ names, PySem.W.exmOne X.K (.ref (ad n)) cv = some (decide (n ∈ ns)))
      (b : ∀ e : Xn, h e = out → ∀ a l', BdS (rsX X a l') N sc k → HotK (rsX X a l') → DS (rsX X a l') kx st ρE M P) (r : HdRF X N sc k kx ad names ρE M P out l hs) : HdRF X N sc k kx ad names ρE M P out ((cv, st) :: l) ((ns, h) :: hs)
theorem hdRF_q {l : List (Value × List Stmt)} {ρE ρ' : Ro} {n : Str} {fs : List (Str × D)} (h : HdRF X N sc k kx ad names ρE M P out l hs) (hn : n ∈ names) (f : Fgt ρ' ρE) (cov : ∃ c ∈ hs, n ∈ c.1) (e : hdF hs (n, fs) = out) : rsQ X N sc k kx P l (.ref (ad n)) fs ρ' M := by
  induction h with
  | nil => obtain ⟨c, z, _⟩ := cov; cases z
  | @cons cv st l ns h hs e1 b r ih =>
    refine ⟨_, e1 n hn, fun y a l' B' hk => ?_, fun y => ih ?_ ?_⟩
    · have q := b (n, fs) (by rw [hdF_yes (of_decide_eq_true y)] at e; exact e) a l' B' hk
      exact q.fgt f
    · obtain ⟨c, z, zz⟩ := cov
      rcases List.mem_cons.mp z with rfl | z
      · exact absurd zz (of_decide_eq_false y)
      · exact ⟨c, z, zz⟩
    · rw [hdF_no (of_decide_eq_false y)] at e; exact e
/-- try with suites that raise: what follows the body joined -/
theorem ds1_tryGX {ι : Type} {body orelse : List Stmt} {h0 : ExceptHandler} {hds : List ExceptHandler} {l : List (Value × List Stmt)} (R : ι → α → Ro) (Mf : ι → α → Mem) (J : ι → α → Prop) (ρE : Ro) (B : Bd X N sc k) (F : Bf X) (hh : HdR X (h0 :: hds) l) (ht : tryF names m kf hs = out) (ne : out ≠ .bad)
    (ga : ∀ n ∈ names, X.mg n = some (.ref (ad n))) (cov : covB names (hs.map Prod.fst) = true)
    (hb : ∀ pn xe, Bd (X.tr pn xe) N sc k → Bf (X.tr pn xe) → ∀ o, m = o → o ≠ .bad → DS (X.tr pn xe) (fun cls fs ρ' M' => kxE X.mg o cls fs ρ' M' ∧ FgtL ρ' ρE ∧ M' = M) body ρ M (joinO R Mf J Ex.ok o P))
    (hcl : HdRF X N sc k kx ad names ρE M P out l hs)
    (hk : ∀ a z, J a z → kf z = out → DS X kx orelse (R a z) (Mf a z) P) : DS1 X kx (.Try body (h0 :: hds) orelse [] pos) ρ M P := by
  have nb : m ≠ .bad := fun z => ne (by rw [← ht, z]; rfl)
  refine ds1_tryR B F hh fun pn xe B' F' => ((hb pn xe B' F' m rfl nb).onX fun cls fs ρ' M' q => ?_).imp fun o md q => ?_
  · obtain ⟨⟨n, e1, e2⟩, e3, rfl⟩ := q
    have hn : n ∈ names := by
      by_cases hn : n ∈ names
      · exact hn
      · refine absurd ?_ ne
        rw [← ht, e1]
        show (if n ∈ names then hdF hs (n, fs) else .bad) = _
        rw [if_neg hn]
    rw [tryF_exc e1 hn] at ht
    have e4 := (ga n hn).symm.trans e2
    cases e4
    exact hdRF_q hcl hn e3.fgt (covB_mem cov hn) ht
  · cases o with
    | nx ρ1 =>
      obtain ⟨a, z, e1, j, e2, e3⟩ := q
      subst e3
      have e5 : kf z = out := by rw [← ht, ← e1]; rfl
      exact (hk a z j e5).fgt e2.fgt
    | bk ρ1 => exact q
    | ct ρ1 => exact q
    | rt d => exact q
/-! ### raise in such a suite -/
theorem RoomQ.make {k : Nat} {A : Around} (r : RoomQ (k + 1) A) (C : Addr) (us : List Value) (kw : List (Str × Value)) : RoomQ k (A.under (.builtin "type.__call__" ⟨.ref C :: us, kw⟩)) :=
  ⟨by have := r.dp; rw [make_depth]; omega, by have := r.un; rw [make_units]; omega⟩
theorem ds1_raiseFK {x fl : Str} {f : Addr} {fd : FuncData} (hk0 : HotK X) (oex : OexC X.K C) (gC : X.mg x = some (.ref C)) (hg : Gl X x) (fno : PySem.W.findIn X.K (.ref C) fl = some none) (iC : PySem.W.findIn X.K (.ref C) "__init__" = some (some (.ref f))) (tI : PySem.W.typeIn X.K (.ref f) = some (.type "function"))
    (F1 : FnQ X.prog X.w X.K X.mg X.base (Dl.CX X.prog X.w) k f fd ["self", fl] (spX X.K C fl)) (hr : RoomQ (k + 1) X.A) (hb : Binds X.K fd ["self", fl] []) (hv : DV X kx e ρ M d) (hk : ∀ cls, X.mg x = some cls → kx cls [(fl, d)] ρ M) (hdb : (x == ("__debug__" : Str)) = false := by decide)
    (he : starEach [e] X.env = (false, eval e X.env) :: starEach [] X.env := by rfl) (hpl : (backTo pos (starEach [] X.env)).any (·.1) = false := by rfl) :
    DS1 X kx (.Raise (some (.Call (.Name x p) [e] [] pos)) none pos2) ρ M P := fun σ H H0 t s W tk hx D c =>
  sS.by (ps_raiseK hk0 tk (pmk_oexG oex iC tI F1.len (fun s H args us us' vs Q E e0 b r h => F1.run _ X.stack s H args us vs Q E (hr.make C us' []) e0 b r h) hb (fun _ _ _ _ _ _ _ ⟨_, _, _, _, _, _, _, _, _, _, _, _, _, _, _, z⟩ => z.elim) hg gC (pa_s _) hdb he hpl)) (da_cons hv da_nil he σ H H0 t s W tk hx _ fun vs H1 H01 p1 r1 => by
    obtain ⟨v, rfl, r2⟩ := repA1 r1
    · refine ⟨(by show (1 : Nat) ≤ 1000; decide), fun a na => ⟨a, _, rfl, oex, fno, upd_same, fun dx h1 h2 => ?_⟩⟩
      have hd : H1 dx = none := by rw [upd_ne h2] at h1; exact h1
      refine ⟨rfl, dx, _, upd_same, by rw [upd_ne h2, upd_same], hd, ?_⟩
      have eH : upd (del (upd (upd (upd H1 a (exo a C none)) dx (exd dx [(fl, v)])) a (exo a C (some dx))) a) dx (.xd [(fl, v)]) = upd H1 dx (.xd [(fl, v)]) := by
        funext b
        by_cases hb : b = dx
        · rw [hb, upd_same, upd_same]
        · rw [upd_ne hb, upd_ne hb]
          by_cases hba : b = a
          · rw [hba, del_same, na]
          · rw [del_ne hba, upd_ne hba, upd_ne hb, upd_ne hba]
      rw [eH]
      have pn := Pu.new1 (t.pu p1).ex hd (.xd [(fl, v)])
      have pz := p1.trans pn
      exact hx (.ref C) (some dx) σ _ _ [(fl, d)] ρ M pz.go (t.pu pz) (s.mo pz.e0) (.inr ⟨by simp, dx, [(fl, v)], [v], rfl, upd_same, rfl, rfl, .cons (r2.mo pn.e0) .nil⟩) (hk _ gC))
end
section
variable {P : Program} {w : World} {K : Frag} {mg : Str → Option Value} {base : Heap}
theorem fn_xinitQ {x qual : Str} {st : Stmt} {f C CB : Addr} {fd : FuncData} {fl t : Str} {k j : Nat} {p1 p2 p3 p4 p5 p6 p7 p8 p9 p10 : Pos} (F : FunD K x qual (defArgs st) (defBody st) (defScope st) [] [] f fd) (S : FnScope ["self", fl] ["self", fl] (defScope st))
    (hb : defBody st = [.Expr (.Call (.Attribute (.Name "BookError" p1) "__init__" p2) [.Name "self" p3, .Constant (.str t) j p4] [] p5) p6, .Assign [.Attribute (.Name "self" p7) fl p8] (.Name fl p9) p10])
    (gB : mg "BookError" = some (.ref CB)) (rB : ClX.CRead K CB (.type "type")) (vB : PySem.W.findCls K (.ref CB) (.type "type") "__init__" = some (.val (.builtin "ValueError.__init__")))
    (hl : (defScope st).names.lookup ("BookError" : Str) = some .globalImplicit) (v0 : (defScope st).names.lookup ("self" : Str) = some .local) (v1 : (defScope st).names.lookup fl = some .local) (d1 : (fl == ("__debug__" : Str)) = false) (d2 : (fl == ("__classdict__" : Str)) = false)
    (hc : ∀ env : Env, ∃ pl, eval (.Call (.Attribute (.Name "BookError" p1) "__init__" p2) [.Name "self" p3, .Constant (.str t) j p4] [] p5) env = (do
      let ov ← eval (.Name "BookError" p1) env
      standAt p2.atName
      let (f, first) ← holding [ov] (getMethod ov "__init__" pl)
      callWith p5 f first (backTo p5 (starEach [.Name "self" p3, .Constant (.str t) j p4] env)) (backToKw p5 (keywordEach [] env)))) :
    FnQ P w K mg base (Dl.CX P w) (k + 1) f fd ["self", fl] (spX K C fl) := by
  refine ⟨fun vs H Q E h => ?_, fun A outer s H ar us vs Q E hr e0 hbd r hsp => ?_⟩
  · obtain ⟨a, v, rfl, _⟩ := h
    rfl
  obtain ⟨⟨oc, od, dV, kV, dc, pm, an, cd, ct, sl, rfl, lk, hcd, _⟩, _⟩ := F
  have hlen : vs.length = (["self", fl] : List Str).length := by obtain ⟨a, v, rfl, _⟩ := hsp; rfl
  have KX : K.In s.heap := e0.mod.kin.keeps fun b o e => (e0.bs b o e).1
  have lim : s.heap.NoLimit := e0.mod.nolimit.keeps fun b o e => (e0.bs b o e).1
  have hkind : ∀ y ∈ (["self", fl] : List Str).zip us, (defScope st).names.lookup y.1 = some .local ∨ ((defScope st).names.lookup y.1 = some .cell ∧ ((cellsFrom (s.heap.objs.size + 1) (defScope st).names []).lookup y.1).isSome = true) := fun ⟨n, v⟩ hy => by
    rcases S.par n (List.of_mem_zip hy).1 with q | q
    · exact .inl q
    · exact .inr ⟨q, PySem.W.cellsFrom_some _ _ _ (.inl q)⟩
  refine codeAny_call_function (by have := hr.dp; omega) (KX _ _ lk) rfl S.co S.gen rfl (PySem.W.codeRec_of KX hcd) (hbd _ _ _ _ ?_)
  refine wpAny_newFunctionEnv_cells S.kind hkind fun env he s1 y => ?_
  subst he
  refine ⟨lim.keeps y.toInCall.keep, codeAny_func ?_⟩
  have I : Inv (cxQ (Dl.CX P w) P w K mg base ["self", fl] qual (defScope st) f cd A outer s H E) [] (L2.start ["self", fl] vs) H s1 := inv_startQ S e0 hlen r y
  have B : BdS (cxQ (Dl.CX P w) P w K mg base ["self", fl] qual (defScope st) f cd A outer s H E) ["self", fl] (defScope st) k := ⟨rfl, S.nd, rfl, by have := (hr.deeper (envOfC qual (defScope st) s.heap.objs.size f cd)).un; show (A.deeper _).units + 64 < _; omega⟩
  obtain ⟨a, v, rfl, T, hno, ea, hq⟩ := hsp
  obtain ⟨pl, hc⟩ := hc (cxQ (Dl.CX P w) P w K mg base ["self", fl] qual (defScope st) f cd A outer s H E).env
  have nSelf := B.nm (i := 0) (x := "self") rfl (.inl v0)
  have nF := B.nm (i := 1) (x := fl) rfl (.inl v1) d1 d2
  have pss := pss_cons (ps_expr (pos := p6) (pe_cinit (pl := pl) (B.gl hl) gB rB vB (pa_cons (pe_var nSelf.get nSelf.vis nSelf.d1 nSelf.d2) (pa_cons pe_str pa_nil)) (by decide) hc) (by rfl)) (pss_cons (ps_ost (o := .Name "self" p7) (e := .Name fl p9) (pos := p10) (p' := p8) (f := fl) (pe_var nSelf.get nSelf.vis nSelf.d1 nSelf.d2) (pe_var nF.get nF.vis nF.d1 nF.d2)) pss_nil)
  rw [hb]
  refine wpAny_mono (pss.run [] s1 _ H { nx := fun _ H' => Q .non H', bk := fun _ _ => False, ct := fun _ _ => False, rt := Q } I ?_) (fun fl s' hs' => ?_) fun e s' hs' => hs'
  · refine ⟨.ref a, rfl, ?_⟩
    refine ⟨a, C, [.str t], rfl, (by show (1 : Nat) ≤ 1000; decide), T, ea, ?_⟩
    refine ⟨v, rfl, .ref a, rfl, a, C, rfl, T, hno, .inl ⟨ea, fun dx h1 h2 => hq dx h1 h2⟩⟩
  · cases fl with
    | ret u => obtain ⟨v, σ', H', J, rv, q⟩ := hs'; exact ⟨v, H', J.os, J.bare, J.base, J.hok, rv, q⟩
    | next => obtain ⟨σ', H', J, q⟩ := hs'; exact ⟨V.non, H', J.os, J.bare, J.base, J.hok, rfl, q⟩
    | brk => obtain ⟨_, _, _, q⟩ := hs'; exact q.elim
    | cont => obtain ⟨_, _, _, q⟩ := hs'; exact q.elim
end
section
variable {X : Cx} {kx : XD} {ρ : Ro} {M : Mem} {P : Out → Mem → Prop} {pos p pos2 : Pos} {e : Expr} {d : D}
/-- raise x(e) in an except suite, x an own class with a field -/
theorem ds1_raiseXK {x : String} {fl t : Str} {C CB : Addr} {st : Stmt} {j : Nat} {p1 p2 p3 p4 p5 p6 p7 p8 p9 p10 : Pos} (hk0 : HotK X) (hr : RoomQ 2 X.A) (oex : OexC X.K C) (gC : X.mg (Str.ofString x) = some (.ref C)) (hg : Gl X (Str.ofString x)) (fno : PySem.W.findIn X.K (.ref C) fl = some none) (I : XIni X.K C x fl st)
    (S : FnScope ["self", fl] ["self", fl] (defScope st)) (hb : defBody st = [.Expr (.Call (.Attribute (.Name "BookError" p1) "__init__" p2) [.Name "self" p3, .Constant (.str t) j p4] [] p5) p6, .Assign [.Attribute (.Name "self" p7) fl p8] (.Name fl p9) p10])
    (gB : X.mg "BookError" = some (.ref CB)) (rB : PySem.W.readsIn X.K CB (.type "type") = true) (rG : PySem.W.specialIn X.K (.ref CB) "__getattribute__" = some (some (.builtin "type.__getattribute__"))) (vB : PySem.W.findCls X.K (.ref CB) (.type "type") "__init__" = some (.val (.builtin "ValueError.__init__")))
    (hl : (defScope st).names.lookup ("BookError" : Str) = some .globalImplicit) (v0 : (defScope st).names.lookup ("self" : Str) = some .local) (v1 : (defScope st).names.lookup fl = some .local) (d1 : (fl == ("__debug__" : Str)) = false) (d2 : (fl == ("__classdict__" : Str)) = false)
    (hcc : ∀ env : Env, ∃ pl, eval (.Call (.Attribute (.Name "BookError" p1) "__init__" p2) [.Name "self" p3, .Constant (.str t) j p4] [] p5) env = (do
      let ov ← eval (.Name "BookError" p1) env
      standAt p2.atName
      let (f, first) ← holding [ov] (getMethod ov "__init__" pl)
      callWith p5 f first (backTo p5 (starEach [.Name "self" p3, .Constant (.str t) j p4] env)) (backToKw p5 (keywordEach [] env))))
    (hv : DV X kx e ρ M d) (hk : ∀ cls, X.mg (Str.ofString x) = some cls → kx cls [(fl, d)] ρ M) (hdb : (Str.ofString x == ("__debug__" : Str)) = false := by decide)
    (he : starEach [e] X.env = (false, eval e X.env) :: starEach [] X.env := by rfl) (hpl : (backTo pos (starEach [] X.env)).any (·.1) = false := by rfl) :
    DS1 X kx (.Raise (some (.Call (.Name (Str.ofString x) p) [e] [] pos)) none pos2) ρ M P := by
  obtain ⟨f, fd, F, Bi, iC, tI⟩ := I
  exact ds1_raiseFK hk0 oex gC hg fno iC tI (fn_xinitQ (k := 0) F S hb gB ⟨rB, rG⟩ vB hl v0 v1 d1 d2 hcc) hr Bi hv hk hdb he hpl
end
end Dl

/-! a comprehension whose block raises at one of its turns -/
namespace Dl
open PySem PySem.Spec PyProof.Rows L2
/-- each value in turn; the first exception is the whole's -/
def compX {α β : Type} (f : α → Ex β) : List α → Ex (List β)
  | [] => .ok []
  | x :: xs => bindX (f x) fun y => bindX (compX f xs) fun ys => .ok (y :: ys)
theorem compX_exc {α β : Type} {f : α → Ex β} {n : Str} {fs : List (Str × D)} : ∀ {xs : List α}, compX f xs = .exc n fs → ∃ (i : Nat) (x : α), xs[i]? = some x ∧ f x = .exc n fs ∧ ∀ (j : Nat) (y : α), j < i → xs[j]? = some y → ∃ v, f y = .ok v
  | [], h => by cases h
  | x :: xs, h => by
    unfold compX at h
    cases e : f x with
    | ok v =>
      rw [e, bindX_ok] at h
      cases e2 : compX f xs with
      | ok vs => rw [e2] at h; cases h
      | bad => rw [e2] at h; cases h
      | exc n' fs' =>
        rw [e2] at h
        cases h
        obtain ⟨i, y, h1, h2, h3⟩ := compX_exc e2
        refine ⟨i + 1, y, h1, h2, fun j z hj hz => ?_⟩
        cases j with
        | zero => cases hz; exact ⟨v, e⟩
        | succ j => exact h3 j z (by omega) hz
    | exc n' fs' =>
      rw [e] at h
      cases h
      exact ⟨0, x, rfl, e, fun j _ hj => absurd hj (by omega)⟩
    | bad => rw [e] at h; cases h
theorem compX_ok {α β : Type} {f : α → Ex β} : ∀ {xs : List α} {ys : List β}, compX f xs = .ok ys → compE (fun _ => .ok true) f xs = .ok ys
  | [], ys, h => h
  | x :: xs, ys, h => by
    unfold compX at h
    cases e : f x with
    | ok v =>
      rw [e, bindX_ok] at h
      cases e2 : compX f xs with
      | ok vs =>
        rw [e2] at h
        cases h
        unfold compE
        rw [e, bindP_ok, if_pos rfl, bindP_ok, compX_ok e2]; rfl
      | bad => rw [e2] at h; cases h
      | exc n' fs' => rw [e2] at h; cases h
    | exc n' fs' => rw [e] at h; cases h
    | bad => rw [e] at h; cases h
/-- a block's own place, what is raised in it taken -/
abbrev Cx.bxc (X : Cx) (csc : Scope) (s : Shared) (H : Hp) (C : Addr) (cl : List (Str × Addr)) (fp : List Addr) (xe : Value → Shared → Prop) : Cx := Cx.bx X s H csc (compEnvC csc cl C X.env) fp xe
def xG (X : Cx) (W : WX) (csc : Scope) (tg : Expr) (σ0 : L2.St) : TG := fun v σ H Q => ∀ s H' C cl fp xe, BkT X W σ0 (Cx.bxc X csc s H' C cl fp xe) → sG (Cx.bxc X csc s H' C cl fp xe) tg v σ H Q
def xT (X : Cx) (W : WX) (csc : Scope) (ifs : List Expr) (σ0 : L2.St) : TT := fun σ H Q => ∀ s H' C cl fp xe, BkT X W σ0 (Cx.bxc X csc s H' C cl fp xe) → sTs (Cx.bxc X csc s H' C cl fp xe) ifs σ H Q
def xE (X : Cx) (W : WX) (csc : Scope) (elt : Expr) (σ0 : L2.St) : TE := fun σ H Q => ∀ s H' C cl fp xe, BkT X W σ0 (Cx.bxc X csc s H' C cl fp xe) → sE (Cx.bxc X csc s H' C cl fp xe) elt σ H Q
section
variable {X : Cx} {kx : XD} {ρ : Ro} {M : Mem} {pos : Pos} {e elt tg : Expr} {α : Type} {N : List Str} {sc csc : Scope} {k : Nat} {own : List (Str × Nat)} {n : Str} {fs : List (Str × D)}
/-- a turn that hands its value over; one that raises -/
def LcV (X : Cx) (N : List Str) (sc csc : Scope) (k : Nat) (own : List (Str × Nat)) (tg elt : Expr) (ρ : Ro) (M : Mem) (d z : D) : Prop :=
  ∃ ts ρ2, (∀ i ∈ ts, i ∈ own.map (·.2)) ∧ ∀ s H C cl fp xe w acc, Bd (Cx.bxc X csc s H C cl fp xe) N (relS csc sc) k → DG (Cx.bxc X csc s H C cl fp xe) tg ts d (wipeD ρ (own.map (·.2))) ρ2 ∧ DV (Cx.bxc X csc s H C cl fp xe) kx0 elt ρ2 ((w, .lst acc) :: M) z
def LcR (X : Cx) (N : List Str) (sc csc : Scope) (k : Nat) (own : List (Str × Nat)) (tg elt : Expr) (ρ : Ro) (M : Mem) (d : D) (n : Str) (fs : List (Str × D)) : Prop :=
  ∃ ts ρ2, (∀ i ∈ ts, i ∈ own.map (·.2)) ∧ ∀ s H C cl fp xe w acc, Bd (Cx.bxc X csc s H C cl fp xe) N (relS csc sc) k → DG (Cx.bxc X csc s H C cl fp xe) tg ts d (wipeD ρ (own.map (·.2))) ρ2 ∧ DX (Cx.bxc X csc s H C cl fp xe) elt ρ2 ((w, .lst acc) :: M) n fs
theorem lcV_read {xs : List α} {enc : α → D} {f : α → D} {i0 : Nat} {x0 : α} {σ : L2.St} {H H0 : Hp} {W : WX} {Q : VK} (B : Bd X N sc k) (hi : DI X kx0 tg e ρ M (xs.map enc)) (hl : xs.length < sizeLine) (h0 : xs[i0]? = some x0)
    (hv : ∀ (j : Nat) (x : α), j < i0 → xs[j]? = some x → LcV X N sc csc k own tg elt ρ M (enc x) (f x)) (hr : LcR X N sc csc k own tg elt ρ M (enc x0) n fs)
    (t : Ht X.K H0 H M) (s : Sl X.K H0 σ ρ) (tk : Takes X W) (hw : ∀ cls dd H' H0', Pu H0 H H0' H' → XRep X.K H0' H' dd fs → X.mg n = some cls → W cls dd σ H') :
    tLc (sI X tg e) (xG X W csc tg σ) (xT X W csc [] σ) (xE X W csc elt σ) (own.map (·.2)) σ H Q := by
  refine hi σ H H0 t s W tk Hx.none _ fun J HJ H0J pJ w => ?_
  intro L hL
  obtain ⟨G, Y, w, hG, hY⟩ := w
  rw [List.length_map] at w
  have tJ := t.pu pJ
  have hL0 := tJ.free hL
  have li := (List.getElem?_eq_some_iff.mp h0).1
  refine lc_it (g := xG X W csc tg σ) (tt := xT X W csc [] σ) (te := xE X W csc elt σ) (vs := own.map (·.2)) (σ := σ) (D := L) (H1 := HJ) (Qd := fun H' => Q (.ref L) H') w (fun i H' => i ≤ i0 ∧ ∃ H0' acc, Pu H0J HJ H0' (upd H' L (.lst [])) ∧ H0' L = none ∧ H' L = some (.lst acc) ∧ RepA X.K H0' acc ((xs.take i).map f) ∧ Same H0' H' ∧ Sm HJ H') ?_ ?_ ?_ ?_
  · refine ⟨Nat.zero_le _, H0J, [], ?_, hL0.1, upd_same, .nil, pJ.ex.trans (same_new hL), Same.sm (same_new hL)⟩
    rw [upd_upd]
    exact ⟨Same.refl _, Same.sm (same_new hL), pJ.ex.trans (same_new hL), fun _ h _ => h, fun b e => NdefX.upd_none e, fun t => t.new hL⟩
  · rintro i H' _ ⟨_, H0', acc, p, _, _, _, e, _⟩
    exact hG H' (p.e0.trans e)
  · rintro i x H1 H2 hi2 ⟨ii, H01, acc, p1, n1, l1, r1, e1, k1⟩ y
    have hx2 : xs[i]? = some xs[i] := List.getElem?_eq_getElem hi2
    have hdd : (xs.map enc)[i]? = some (enc xs[i]) := by rw [List.getElem?_map, hx2]; rfl
    obtain ⟨H02, p2, r2⟩ := hY i H1 x H2 H01 _ p1.e0 e1 hdd y
    have l2 : H2 L = some (.lst acc) := p2.k l1
    have n2 : H02 L = none := p2.new L n1 (by rw [l1]; exact trivial)
    have tb1 : TB H01 H1 := (p1.tb tJ.tb).back l1
    have tt : ∀ {Ha H0a : Hp}, Pu H02 H2 H0a Ha → Ht X.K H0a Ha ((L, .lst ((xs.take i).map f)) :: M) := fun {Ha H0a} pa => by
      have lA : Ha L = some (.lst acc) := pa.k l2
      refine ⟨pa.ex, List.nodup_cons.mpr ⟨hL0.2, t.nd⟩, fun m hm => ?_, pa.tb (p2.tb tb1)⟩
      rcases List.mem_cons.mp hm with rfl | hm
      · exact ⟨pa.new L n2 (by rw [l2]; exact trivial), acc, lA, r1.mo (p2.e0.trans pa.e0)⟩
      · obtain ⟨m1, m2⟩ := tJ.mem m hm
        obtain ⟨o, ho⟩ := m2.there
        have nb : NTb o := NT.ntb (by rw [← ho]; exact m2.nt)
        have o1 := k1 _ _ ho nb
        have o2 := p2.e _ _ o1 nb
        have z1 : H01 m.1 = none := p1.new _ m1 m2.nt
        refine ⟨pa.new _ (p2.new _ z1 (m2.nt.keep fun o e n => k1 _ _ e n)) ((m2.nt.keep fun o e n => k1 _ _ e n).keep fun o e n => p2.e _ _ e n), m2.mono (p1.e0.trans (p2.e0.trans pa.e0)) fun o' e' n => ?_⟩
        exact pa.e _ _ (p2.e _ _ (k1 _ _ e' n) n) n
    have sw : Sl X.K H02 (L2.wipe σ (own.map (·.2))) (wipeD ρ (own.map (·.2))) := (s.wipe _).mo (pJ.e0.trans (p1.e0.trans p2.e0))
    have out : ∀ {Ha H0a : Hp}, Pu H01 H1 H0a Ha → Pu H0J HJ H0a Ha := fun {Ha H0a} pa =>
      ⟨p1.e0.trans pa.e0, fun b o eb n => pa.e _ _ (k1 _ _ eb n) n, pa.ex, fun b h1 h2 => pa.new b (p1.new b h1 h2) (h2.keep fun o e n => k1 _ _ e n), fun b eb => by
        have z := pa.there b eb
        refine p1.there b ?_
        have bl : b ≠ L := fun y => by rw [y, l1] at z; cases z
        rw [upd_ne bl]; exact z, fun _ => pa.tb tb1⟩
    by_cases hlt : i < i0
    · obtain ⟨ts, ρ2, hts, hb⟩ := hv i xs[i] hlt hx2
      intro s' H' C cl fp xe bk
      refine (hb s' H' C cl fp xe L ((xs.take i).map f) ((B.blk s' H' C cl fp).tr bk.2)).1 _ H2 H02 x p2.ex sw r2 _ fun σ2 s2 bt => ⟨(bt _ hts).trans (wipe_wipe σ _), ?_⟩
      intro s'' H'' C' cl' fp' xe' bk'
      refine (dts_nil (X := Cx.bxc X csc s'' H'' C' cl' fp' xe') (kx := kx0)) σ2 H2 H02 (tt (Pu.refl p2.ex)) s2 _ takesN Hx.none _ fun H3 H03 p3 => ?_
      refine iteT ?_
      intro s3 H3' C3 cl3 fp3 xe3 bk3
      refine (hb s3 H3' C3 cl3 fp3 xe3 L ((xs.take i).map f) ((B.blk s3 H3' C3 cl3 fp3).tr bk3.2)).2 σ2 H3 H03 (tt p3) (s2.mo p3.e0) _ takesN Hx.none _ fun v H4 H04 p4 r4 => ?_
      have p14 := (p2.trans p3).trans p4
      have na : H04 L = none := p14.new L n1 (by rw [l1]; exact trivial)
      refine ⟨acc, p14.k l1, ?_, hlt, H04, acc ++ [v], ?_, na, upd_same, ?_, ?_, ?_⟩
      · have e2 := r1.length
        rw [List.length_map, List.length_take] at e2
        omega
      · rw [upd_upd]
        refine ⟨p1.e0.trans p14.e0, fun b o eb n => ?_, fun b o eb => ?_, fun b h1 h2 => ?_, fun b eb => ?_, fun t => ((p14.tb tb1).chg (NX.of (p14.k l1)) _)⟩
        · rw [upd_ne (ne_of_none eb hL)]; exact p14.e _ _ (k1 _ _ eb n) n
        · rw [upd_ne (ne_of_none eb na)]; exact p14.ex _ _ eb
        · exact p14.new b (p1.new b h1 h2) (h2.keep fun o e n => k1 _ _ e n)
        · have z := p14.there b (NdefX.upd_none eb)
          refine p1.there b ?_
          have bl : b ≠ L := fun y => by rw [y, l1] at z; cases z
          rw [upd_ne bl]; exact z
      · rw [List.take_add_one, hx2, Option.toList_some, List.map_append]
        exact (r1.mo p14.e0).app (.one r4)
      · intro b o eb
        rw [upd_ne (ne_of_none eb na)]; exact p14.ex _ _ eb
      · intro a o ea n
        rw [upd_ne (ne_of_none ea hL)]; exact p14.e _ _ (k1 _ _ ea n) n
    · have e0 : i = i0 := by omega
      subst e0
      have ex : xs[i] = x0 := by rw [hx2] at h0; exact Option.some.inj h0
      rw [ex] at r2
      obtain ⟨ts, ρ2, hts, hb⟩ := hr
      intro s' H' C cl fp xe bk
      refine (hb s' H' C cl fp xe L ((xs.take i).map f) ((B.blk s' H' C cl fp).tr bk.2)).1 _ H2 H02 x p2.ex sw r2 _ fun σ2 s2 bt => ⟨(bt _ hts).trans (wipe_wipe σ _), ?_⟩
      intro s'' H'' C' cl' fp' xe' bk'
      refine (dts_nil (X := Cx.bxc X csc s'' H'' C' cl' fp' xe') (kx := kx0)) σ2 H2 H02 (tt (Pu.refl p2.ex)) s2 _ takesN Hx.none _ fun H3 H03 p3 => ?_
      refine iteT ?_
      intro s3 H3' C3 cl3 fp3 xe3 bk3
      refine (hb s3 H3' C3 cl3 fp3 xe3 L ((xs.take i).map f) ((B.blk s3 H3' C3 cl3 fp3).tr bk3.2)).2 σ2 H3 H03 (tt p3) (s2.mo p3.e0) _ bk3.1 (fun cls dd H5 H05 p5 xr hm => ?_) _
      exact hw cls dd H5 H05 (pJ.trans (out ((p2.trans p3).trans p5))) xr hm
  · rintro H' ⟨ii, _⟩
    omega
/-- y = [elt for tg in e], the block raising at one of its turns -/
theorem ds1_setLcX {P : Out → Mem → Prop} {y : Str} {py spos : Pos} {xs : List α} {enc : α → D} {f : α → D} {i0 : Nat} {x0 : α} (B : Bd X N sc k) (F : Bf X) (hi : DI X kx0 tg e ρ M (xs.map enc)) (ok : BlkOk N sc csc own) (hlen : xs.length < sizeLine) (h0 : xs[i0]? = some x0)
    (hv : ∀ (j : Nat) (x : α), j < i0 → xs[j]? = some x → LcV X N sc csc k own tg elt ρ M (enc x) (f x)) (hr : LcR X N sc csc k own tg elt ρ M (enc x0) n fs) (hkx : ∀ cls, X.mg n = some cls → kx cls fs ρ M)
    (hyl : sc.names.lookup y = some .local := by rfl) (hk : sc.kind = .function := by rfl) (hl : (py.line == pos.line) = true := by rfl)
    (ha : (csc.names.any fun (n, k) => n == y && (k == .local || k == .cell)) = false := by rfl) (hs : ∀ x, foldedSetIterable e X.env x = pure x := by intro _; rfl) : DS1 X kx (.Assign [.Name y py] (.ListComp elt [⟨tg, e, [], 0⟩] csc pos) spos) ρ M P := fun σ H H0 t s W tk hx D c => by
  first | refine sE_iff.mpr fun pins st I => ?_ | refine sS_iff.mpr fun pins st I => ?_ | refine sSs_iff.mpr fun pins st I => ?_
  have hsw : swapsWith (.ListComp elt [⟨tg, e, [], 0⟩] csc pos) (some (.Name y py)) spos.line X.env = pure true := sw_true (by rw [B.hsc]; exact hk) (by rw [B.hsc]; exact hyl) hl ha
  rw [exec_Assign_Name_used _ _ _ _ hsw]
  refine wpAny_bind (wpAny_standAt (wpAny_bind ?_))
  show wpAny _ X.A (do let _ ← comprehension (.ListComp elt [⟨tg, e, [], 0⟩] csc pos) csc X.env (firstIterPos [⟨tg, e, [], 0⟩] pos) (newList []) false (eval e X.env) (some (assign (.Name y py) X.env))) _ _ st
  refine wpAny_bind (thn (lc_coreX (Qf := fun _ _ => False) (W := W) (g := xG X W csc tg σ) (tt := xT X W csc [] σ) (te := xE X W csc elt σ) (.inr fun _ _ z => z) F.stk F.fr tk B.calm (by rw [B.hN]; exact B.hnd) I (pi_s tg e) (by rw [B.hN, B.hsc]; exact ok)
    (fun s H C cl fp xe bk => ⟨fun pins s' σ' H' v u Q' I r h => sG_iff.mp (h s H C cl fp xe bk) pins s' u I r⟩) (fun s H C cl fp xe bk => ⟨fun pins s' σ' H' Q' I h => (by first | exact sTs_iff.mp (h s H C cl fp xe bk) pins s' I | exact sE_iff.mp (h s H C cl fp xe bk) pins s' I)⟩) (fun s H C cl fp xe bk => ⟨fun pins s' σ' H' Q' I h => (by first | exact sTs_iff.mp (h s H C cl fp xe bk) pins s' I | exact sE_iff.mp (h s H C cl fp xe bk) pins s' I)⟩) hs
    (lcV_read (Q := fun _ _ => False) B hi hlen h0 hv hr t s tk fun cls dd H' H0' p xr hm => hx cls dd σ H' H0' fs ρ M p.go (t.pu p) (s.mo p.e0) xr (hkx cls hm)) (fun D C s' H' I' q _ _ _ _ _ => q)) fun _ _ z => z.elim)
/-- (.., one that raises, ..) -/
theorem dx_tup {es : List Expr} {nn : Nat} (h : DXA X es ρ M n fs) : DX X (.Tuple es nn pos) ρ M n fs := fun σ H H0 t s W tk hw Q =>
  sE.by (pe_tup (pa_s es)) (h σ H H0 t s W tk hw _)
end
end Dl

/-! f-strings of ints and texts -/
namespace Dl
open PySem PySem.Spec PyProof.Rows L2
def catS : Str → List Str → Str
  | a, [] => a
  | a, s :: ss => catS (a ++ s) ss
section
variable {X : Cx} {kx : XD} {ρ : Ro} {M : Mem} {pos : Pos} {e : Expr}
inductive DJ (X : Cx) (kx : XD) (ρ : Ro) (M : Mem) : List Expr → List Str → Prop
  | nil : DJ X kx ρ M [] []
  | cons {e : Expr} {es : List Expr} {x : Str} {xs : List Str} (h : DV X kx e ρ M (.str x)) (r : DJ X kx ρ M es xs) : DJ X kx ρ M (e :: es) (x :: xs)
end
end Dl

/-! tuples of things that change, in lists: a list that is walked stands aside meanwhile; list.pop, list.index of truths, == beside locked lists -/
namespace Dl
open PySem PySem.Spec PyProof.Rows L2
section
variable {K : Frag} {H0 H H0' H' : Hp} {M M' : Mem} {e1 : Addr × Mu}
/-- what is wanted behind, the thing aside put back -/
def frmP (e1 : Addr × Mu) (P : Out → Mem → Prop) : Out → Mem → Prop
  | .nx ρ, M => P (.nx ρ) (e1 :: M)
  | .bk ρ, M => P (.bk ρ) (e1 :: M)
  | .ct ρ, M => P (.ct ρ) (e1 :: M)
  | .rt d, M => P (.rt d) M
end
section
variable {X : Cx} {kx kx' : XD} {ρ ρ' ρ'' : Ro} {M M' M2 R m : Mem} {P : Out → Mem → Prop} {pos p np pos' tpos spos apos cpos : Pos} {tg a b c e o ix elt : Expr} {es : List Expr} {ι α β γ : Type} {w : Addr} {x y d : D} {e1 : Addr × Mu} {ds : List D}
end
/-! ### list.index of truths -/
section
variable {X : Cx} {kx : XD} {ρ : Ro} {M : Mem} {pos apos cpos : Pos} {e o : Expr} {y : D}
/-- where a truth stands first -/
def ixB (xs : List Bool) (b : Bool) : Option Nat := if b ∈ xs then some (xs.idxOf b) else none
end
/-! ### == beside locked lists within -/
def SPy {α : Type} (f g : α → D) : Prop := ∀ x, (f x).py = (g x).py ∧ (f x).flat = (g x).flat
theorem Eqs.ls {x x' y : D} {k : Bool} (h : Eqs x y k) (e : x'.py = x.py ∧ x'.flat = x.flat) : Eqs x' y k := h.l e.1 e.2
theorem Eqs.rs {x y y' : D} {k : Bool} (h : Eqs x y k) (e : y'.py = y.py ∧ y'.flat = y.flat) : Eqs x y' k := h.r e.1 e.2
/-! ### shapes -/
theorem ShK.up {β : Type} {E : β → Ow → Prop} {ns : List (List Str)} {d : Bool} (h : ShK ⟨[], true, false⟩ E) : ShK ⟨ns, true, d⟩ E := fun r o q p hp => by
  have z := h r o q p hp
  cases hm : p.2 <;> rw [hm] at z <;> first | rfl | cases z
theorem ShK.l {β : Type} {E : β → Ow → Prop} {ns : List (List Str)} {d l : Bool} (h : ShK ⟨ns, l, d⟩ E) : ShK ⟨ns, true, d⟩ E := fun r o q p hp => by
  have z := h r o q p hp
  cases hm : p.2 <;> rw [hm] at z <;> first | rfl | exact z
end Dl
namespace Dl
open PySem PySem.Spec PyProof.Rows L2
theorem ShK.mo {β : Type} {E : β → Ow → Prop} {S S' : Shp} (h : ShK S E) (hn : S.ns.all (fun n => S'.ns.contains n) = true) (hl : S.l = true → S'.l = true) (hd : S.d = true → S'.d = true) : ShK S' E := fun r o q p hp => by
  have z := h r o q p hp
  cases hm : p.2 <;> rw [hm] at z <;> simp only [MuSh] at z ⊢ <;> first | exact hl z | exact hd z | exact List.all_eq_true.mp hn _ (by simpa using z)
section
variable {X : Cx} {kx : XD} {ρ : Ro} {M : Mem} {P : Out → Mem → Prop} {pos apos tpos : Pos} {o : Expr} {α : Type} {w : Addr}
end
end Dl

/-! sorted of pairs of a text and a list, no text twice -/
namespace Dl
open PySem PySem.Spec PyProof.Rows L2
section
open PySem PyProof.Rows Srt SrtO
variable {prog : Program} {w : World} {A : Around} {E : Value → Shared → Prop} {s : Shared}
/-- a pair of this text and a thing of the heap -/
def TupN (h : Heap) (v : Value) (x : Str) : Prop := ∃ a xs t b, v = .ref a ∧ PyProof.Rows.IsTup h a xs ∧ xs.toList = [.str x t, .ref b]
theorem TupN.keeps {h h' : Heap} {v : Value} {x : Str} (z : TupN h v x) (k : ∀ b o, h.get? b = some o → o.cls = .type "tuple" → h'.get? b = some o) : TupN h' v x := by
  obtain ⟨a, xs, t, b, e, ⟨o, ho, hc, hd⟩, i⟩ := z
  exact ⟨a, xs, t, b, e, ⟨o, k _ _ ho hc, hc, hd⟩, i⟩
def TupsN (h : Heap) (k : Value → Str) (vs : List Value) : Prop := ∀ v, v ∈ vs → TupN h v (k v)
end
def rSortedN (K : PySem.W.Frag) : List V → Hp → VK → Prop := fun vs H Q => ∃ (a : Addr) (xs : List V) (k : V → Str), vs = [V.ref a] ∧ SqL K H a xs ∧ (∀ v ∈ xs, ∀ u ∈ xs, k v = k u → v = u) ∧ (∀ x ∈ xs, ∃ t b, x = V.ref t ∧ SqT K H t [.str (k x), .ref b]) ∧
  ∀ ys p, ys.Pairwise (fun x y => ltS (k y) (k x) = false) → ys.Perm xs → H p = none → Q (.ref p) (upd H p (.lst ys))
/-! ### typed -/
/-- the list, sorted by its texts -/
def sortN {β : Type} (xs : List (Str × β)) : List (Str × β) := xs.mergeSort fun a b => !ltS b.1 a.1
noncomputable def strV (H : Hp) : V → Str
  | .ref a => match H a with
    | some (.tup (.str x :: _)) => x
    | _ => ""
  | _ => ""
section
variable {β : Type} {K : Frag} {H0 : Hp} {f : β → List D}
end
section
variable {X : Cx} {kx : XD} {ρ : Ro} {M : Mem} {pos p : Pos} {e : Expr} {x : D} {β : Type}
end
end Dl

/-! while an exception is handled: a list's iterator at its end, sum, a comprehension -/
namespace Dl
open PySem PySem.Spec PyProof.Rows L2
section
variable {prog : Program} {w : World} {A : Around} {E : Value → Shared → Prop} {s : Shared}
end
section
variable {X : Cx} {pins : List (Addr × PySem.Obj)} {σ : L2.St} {H : Hp} {s : Shared}
end
section
variable {X : Cx} {kx : XD} {ρ : Ro} {M : Mem} {pos p : Pos} {tg e : Expr} {α : Type} {N : List Str} {sc csc : Scope} {k : Nat}
theorem BdS.blk (B : BdS X N sc k) (s : Shared) (H : Hp) (C : Addr) (cl : List (Str × Addr)) (fp : List Addr) : BdS (Cx.bk X csc s H C cl fp) N (relS csc sc) k where
  hN := B.hN
  hnd := B.hnd
  hsc := by
    rw [← B.hsc]
    rfl
  un := B.un
def LcBS (X : Cx) (N : List Str) (sc csc : Scope) (k : Nat) (own : List (Str × Nat)) (tg elt : Expr) (ifs : List Expr) (ρ : Ro) (M : Mem) (d : D) (b : Bool) (z : D) : Prop :=
  ∃ ts ρ2, (∀ i ∈ ts, i ∈ own.map (·.2)) ∧ ∀ s H C cl fp w acc, BdS (Cx.bk X csc s H C cl fp) N (relS csc sc) k → DG (Cx.bk X csc s H C cl fp) tg ts d (wipeD ρ (own.map (·.2))) ρ2 ∧ DTs (Cx.bk X csc s H C cl fp) kx0 ifs ρ2 ((w, .lst acc) :: M) b ∧
    (b = true → DV (Cx.bk X csc s H C cl fp) kx0 elt ρ2 ((w, .lst acc) :: M) z)
end
end Dl

/-! a column of a list of tuples whose parts change: a list of names for what stands within -/
namespace Dl
open PySem PySem.Spec PyProof.Rows L2
/-- the c-th of a tuple -/
def tupC (c : Nat) : D → D
  | .tup ds => ds.getD c .non
  | _ => .non
section
variable {β : Type} {E : β → Ow → Prop}
theorem OwA.at_ {rs : List β} {ds : List D} {m : Mem} (h : OwA E rs ds m) : ∀ {i : Nat} {x : β}, rs[i]? = some x → ∃ d mi mr, ds[i]? = some d ∧ OwR E x d mi ∧ m.Perm (mi ++ mr) ∧ ∀ x' mi', OwR E x' d mi' → ∃ m', OwA E (rs.set i x') ds m' ∧ m'.Perm (mi' ++ mr) := by
  induction h with
  | nil => intro i x e; simp at e
  | @cons r rs d ds m1 m2 a t ih =>
    intro i x e
    cases i with
    | zero =>
      obtain rfl : r = x := by simpa using e
      exact ⟨d, m1, m2, rfl, a, .refl _, fun x' mi' h' => ⟨mi' ++ m2, .cons h' t, .refl _⟩⟩
    | succ i =>
      obtain ⟨d', mi, mr, e1, h1, p1, back⟩ := ih (by simpa using e)
      refine ⟨d', mi, m1 ++ mr, by simpa using e1, h1, ?_, fun x' mi' h' => ?_⟩
      · refine (List.Perm.append_left m1 p1).trans ?_
        rw [← List.append_assoc, ← List.append_assoc]
        exact List.Perm.append_right mr List.perm_append_comm
      · obtain ⟨m', h2, p2⟩ := back x' mi' h'
        refine ⟨m1 ++ m', .cons a h2, ?_⟩
        refine (List.Perm.append_left m1 p2).trans ?_
        rw [← List.append_assoc, ← List.append_assoc]
        exact List.Perm.append_right mr List.perm_append_comm
/-- rs is owned as d by m; cs are the c-th parts of its tuples -/
def ColR (E : β → Ow → Prop) (c : Nat) (rs : List β) (d : D) (m : Mem) (cs : List D) : Prop := ∃ w ds m', d = .adr w ∧ m = (w, .lst ds) :: m' ∧ OwA E rs ds m' ∧ cs = ds.map (tupC c)
theorem ColR.own {c : Nat} {rs : List β} {d : D} {m : Mem} {cs : List D} (h : ColR E c rs d m cs) : OwR (isLst E) rs d m := by
  obtain ⟨w, ds, m', rfl, rfl, a, _⟩ := h
  exact ownA_lst a w
theorem ColR.mk {c : Nat} {rs : List β} {d : D} {m : Mem} (h : OwR (isLst E) rs d m) : ∃ cs, ColR E c rs d m cs := by
  obtain ⟨w, ds, m', rfl, rfl, a, _⟩ := own_open h
  exact ⟨_, w, ds, m', rfl, rfl, a, rfl⟩
end
/-- as an owned thing's relation -/
def isCol {β : Type} (E : β → Ow → Prop) (c : Nat) (cs : List D) (rs : List β) (o : Ow) : Prop := isLst E rs o ∧ ∃ a os, o = .lst a os ∧ cs = (Ow.rootA os).map (tupC c)
section
variable {X : Cx} {kx : XD} {ρ : Ro} {M R : Mem} {P : Out → Mem → Prop} {pos pos' p tpos ipos spos : Pos} {e : Expr} {N : List Str} {sc csc : Scope} {k : Nat} {own : List (Str × Nat)} {d d' : D} {β : Type} {E : β → Ow → Prop} {encc : β → D} {rs : List β} {m : Mem} {S : Shp} {cs : List D} {c : Nat} {K : Frag}
end
/-- // by a great number -/
def DivWOk (j : Int) : Prop := 0 < j ∧ j < 2 ^ 1000
end Dl

/-! zip of two lists and of a list that changes -/
namespace Dl
open PySem PySem.Spec PyProof.Rows L2
section
variable {X : Cx} {kx : XD} {ρ : Ro} {M : Mem} {a b c : Expr} {p pos : Pos} {α β γ : Type} {x y : D} {w : Addr}
end
end Dl

namespace Dl
open PySem PySem.Spec PyProof.Rows L2 NdefX LamX
/-! ### a new list, or a text -/
def lxD {α : Type} (f : α → D) : List α ⊕ Str → D
  | .inl xs => .lst (xs.map f)
  | .inr s => .str s
def isLX {α : Type} (f : α → D) : List α ⊕ Str → Ow → Prop
  | .inl xs, o => isLstF f xs o
  | .inr s, o => o = .fr (.str s)
section
variable {α : Type} {f : α → D} {d : D} {m : Mem}
end
/-- its two ways -/
def lxE {α γ : Type} (v : List α ⊕ Str) (f : List α → γ) (g : Str → γ) : γ := match v with
  | .inl xs => f xs
  | .inr s => g s
/-! all of them numbers -/
def allZi : List Zv → Option (List Int)
  | [] => some []
  | .i x :: xs => match allZi xs with
    | some ys => some (x :: ys)
    | none => none
  | _ :: _ => none
section
variable {X : Cx} {kx : XD} {ρ : Ro} {M : Mem} {e : Expr}
end
end Dl

namespace Dl
open PySem PySem.Spec PyProof.Rows L2 NdefX LamX
/-! ### while an exception is handled that is known by its name: it is put out of sight for an expression -/
abbrev pinX (X : Cx) (a : Addr) (oe : PySem.Obj) : Cx := { X with pn := (a, oe) :: X.pn }
section
variable {X : Cx} {pins : List (Addr × PySem.Obj)} {σ : L2.St} {H H0 : Hp} {s : Shared} {a C : Addr} {d : Option Addr} {x : Value} {oe : PySem.Obj} {M : Mem} {K : Frag}
end
section
variable {X : Cx} {kx : XD} {ρ ρ' : Ro} {M : Mem} {e : Expr} {a C : Addr} {x : Value} {ns : List Str} {ds : List D} {v : D} {i : Nat}
/-- nothing of the slots holds a made function or an exception -/
def nceR : Ro → Prop
  | [] => True
  | none :: r => nceR r
  | some d :: r => d.nce = true ∧ nceR r
theorem dv_exnH {xo : Option (Addr × Value)} {ad : Str → Addr} {e0 : Xn} (h : DV X kx e ρ M (dExnH xo ad e0)) : DV X kx e ρ M (dExn ad e0) := dv_exnW h
theorem BdS.pin {N : List Str} {sc : Scope} {k : Nat} (B : BdS X N sc k) (oe : PySem.Obj) : BdS (pinX X a oe) N sc k := ⟨B.hN, B.hnd, B.hsc, B.un⟩
end
end Dl

/-! text.replace(x, y, n): the model wants that a token was given out; statements that know it -/
namespace Dl
open PySem PySem.Spec PyProof.Rows L2 NdefX LamX
open PySem.Builtin PySem.Builtin.Str
def replN (x y z : Str) (n : Nat) : Str :=
  if ((occurrences x y 0 x.length n).isEmpty || (y.length == 0 && z.length == 0)) = true then x
  else glued z (partsBetween x (occurrences x y 0 x.length n) y.length)
theorem glued_le {x z : Str} (y : Str) {n : Nat} (hn : n ≤ x.length + 1) (hb : x.length + (x.length + 1) * z.length ≤ 16777216) : (glued z (partsBetween x (occurrences x y 0 x.length n) y.length)).length ≤ sizeLine ∧ tooLong (x.length + (occurrences x y 0 x.length n).length * z.length) = false := by
  have h1 := StrLaws.occ_length_le x y 0 x.length n
  have hy : (glued y (partsBetween x (occurrences x y 0 x.length n) y.length)).length = x.length := by rw [StrLaws.glued_between_self]
  have h2 : (occurrences x y 0 x.length n).length * z.length ≤ (x.length + 1) * z.length := Nat.mul_le_mul_right _ (Nat.le_trans h1 hn)
  rw [size_glued, length_partsBetween, Nat.add_sub_cancel] at hy
  refine ⟨?_, ?_⟩
  · rw [size_glued, length_partsBetween, Nat.add_sub_cancel, sizeLine_eq]
    omega
  · unfold tooLong
    rw [sizeLine_eq]
    exact decide_eq_false (by omega)
theorem gives_replN (x y z : Str) (t u v c : Tok) (k : Nat) (hk : k ≤ 1000000)
    (hf : (u == 0 || v == 0) = false ∧ (u == v) = false ∧ (y == z) = false ∧ tooLong (x.length + (occurrences x y 0 x.length k).length * z.length) = false) :
    Gives («str.replace» ⟨[.str x t, .str y u, .str z v, .int (k : Int) c], []⟩) (if ((occurrences x y 0 x.length k).isEmpty || (y.length == 0 && z.length == 0)) = true then .val (.str x t) else .str (glued z (partsBetween x (occurrences x y 0 x.length k) y.length))) := by
  have e : «str.replace» ⟨[.str x t, .str y u, .str z v, .int (k : Int) c], []⟩ = (do
          let limit ← countLimit "str.replace" (some (.int (k : Int) c)) (x.length + 1)
          if ((occurrences x y 0 x.length limit).isEmpty || (y.length == 0 && z.length == 0)) = true then (do rule "str.replace.nothing"; ret (.str x t)) else
            (do let same ← isSame (.str y u) (.str z v)
                if same = true then (do rule "str.replace.old-is-new"; ret (.str x t)) else
                if tooLong (x.length + (occurrences x y 0 x.length limit).length * z.length) = true then unsupported "str.replace:memory" else
                retStr (glued z (partsBetween x (occurrences x y 0 x.length limit) y.length)))) := rfl
  rw [e, countLimit_int "str.replace" (k : Int) c (x.length + 1) (by
    have a1 : ¬ ((k : Int) < -(2 ^ 63 : Int)) := by omega
    have a2 : ¬ ((k : Int) ≥ 2 ^ 63) := by omega
    rw [decide_eq_false a1, decide_eq_false a2]; rfl), if_neg (by omega : ¬ (k : Int) < 0)]
  rw [show ((k : Int)).toNat = k from rfl]
  show Gives (if ((occurrences x y 0 x.length k).isEmpty || (y.length == 0 && z.length == 0)) = true then (do rule "str.replace.nothing"; ret (.str x t)) else
          (do let same ← isSame (.str y u) (.str z v)
              if same = true then (do rule "str.replace.old-is-new"; ret (.str x t)) else
              if tooLong (x.length + (occurrences x y 0 x.length k).length * z.length) = true then unsupported "str.replace:memory" else
              retStr (glued z (partsBetween x (occurrences x y 0 x.length k) y.length)))) _
  cases hc : ((occurrences x y 0 x.length k).isEmpty || (y.length == 0 && z.length == 0))
  · obtain ⟨h0, huv, hyz, hl⟩ := hf
    rw [isSame_str_other y z u v h0 huv hyz, hl]
    exact .of_eq rfl
  · exact .rule (.of_eq rfl)
section
variable {prog : Program} {w : World} {A : Around} {E : Value → Shared → Prop} {s : Shared} {x y z : Str} {t u v c : Tok} {Q : Value → Shared → Prop}
theorem sc_replN {n : Nat} (hu : u ≠ 0) (hv : v ≠ 0) (huv : u ≠ v) (hyz : (y == z) = false) (hn : n ≤ x.length + 1) (hb : x.length + (x.length + 1) * z.length ≤ 16777216) (hb2 : x.length ≤ 100000)
    (hq : ∀ t' k, Q (.str (replN x y z n) t') { s with toks := k }) : wpAny (model prog w) A (call (.builtin "str.replace") [.str x t, .str y u, .str z v, .int (n : Int) c]) Q E s := by
  obtain ⟨g1, g2⟩ := glued_le (x := x) (z := z) y hn hb
  refine call_gives F.slot_str_replace (typeIs_str _ _ _) F.entry_str_replace (F.args_str_replace_4 _ _ _ _)
    (gives_replN x y z t u v c n (by omega) ⟨by simp [hu, hv], by simp [huv], hyz, g2⟩) ?_
  have hq' := hq
  unfold replN at hq'
  cases hc : ((occurrences x y 0 x.length n).isEmpty || (y.length == 0 && z.length == 0))
  · rw [hc] at hq'
    simp only [Bool.false_eq_true, if_false] at hq' ⊢
    exact ⟨g1, hq' _ _⟩
  · rw [hc] at hq'
    simp only [if_true] at hq' ⊢
    exact hq' t s.toks
end
/-! ### statements where a token was given out -/
theorem call_method3 {prog : Program} {w : World} {A : Around} {E : Value → Shared → Prop} {s : Shared} {env : Env} {o e₁ e₂ e₃ : Expr} {name : Str} {apos pos : Pos} {Q : Value → Shared → Prop}
    (hbase : attributeBase o name env (eval o env) = eval o env) (hs : starEach [e₁, e₂, e₃] env = [(false, eval e₁ env), (false, eval e₂ env), (false, eval e₃ env)]) (hline : (apos.endLine == pos.line) = true)
    (h : wpAny (model prog w) A (eval o env) (fun ov s₁ => MethodOnS prog w A E name ov pos [(false, eval e₁ env), (false, eval e₂ env), (false, eval e₃ env)] Q s₁) E s) :
    wpAny (model prog w) A (eval (.Call (.Attribute o name apos) [e₁, e₂, e₃] [] pos) env) Q E s := by
  refine wpAny_Call_method_lateS hbase (by rw [hs]; rfl) hline ?_
  rw [hs]; exact h
section
variable (X : Cx)
def sET (e : Expr) : TE := fun σ H Q => ∀ pins s, 1 ≤ s.toks → Inv X pins σ H s → wpAny (model X.prog X.w) X.A (eval e X.env) (EP X pins σ Q) X.xe s
def sAT (es : List Expr) : TA := fun σ H Q => ∀ pos pins s, 1 ≤ s.toks → Inv X pins σ H s → wpAny (model X.prog X.w) X.A (spliced (backTo pos (starEach es X.env))) (AP X pins σ Q) X.xe s
def sSsT (sts : List Stmt) : TS := fun D σ H => ∀ pins s, 1 ≤ s.toks → Inv X pins σ H s → wpAny (model X.prog X.w) X.A (execs sts X.env) (SP X pins D) X.xe s
end
section
variable {X : Cx}
theorem pet_s (e : Expr) : PET X e (sET X e) := fun pins s _ _ _ h0 I h => h pins s h0 I
theorem pat_s (e : List Expr) : PAT X e (sAT X e) := fun pos pins s _ _ _ h0 I h => h pos pins s h0 I
theorem psst_s (e : List Stmt) : PSsT X e (sSsT X e) := fun pins s _ _ _ h0 I h => h pins s h0 I
theorem sET.by {e : Expr} {t : TE} {σ H} {Q : VK} (p : PET X e t) (h : t σ H Q) : sET X e σ H Q := fun pins s h0 I => p pins s σ H Q h0 I h
theorem sAT.by {e : List Expr} {t : TA} {σ H} {Q : List V → Hp → Prop} (p : PAT X e t) (h : t σ H Q) : sAT X e σ H Q := fun pos pins s h0 I => p pos pins s σ H Q h0 I h
theorem sSsT.by {e : List Stmt} {t : TS} {D : Ends} {σ H} (p : PSsT X e t) (h : t D σ H) : sSsT X e D σ H := fun pins s h0 I => p pins s σ H D h0 I h
end
def DVt (X : Cx) (kx : XD) (e : Expr) (ρ : Ro) (M : Mem) (d : D) : Prop :=
  ∀ (σ : L2.St) (H H0 : Hp), Ht X.K H0 H M → Sl X.K H0 σ ρ → ∀ (W : WX), Takes X W → Hx X W H0 H M kx → ∀ (Q : VK), (∀ v H' H0', Pu H0 H H0' H' → Rep X.K H0' v d → Q v H') → sET X e σ H Q
def DEt (X : Cx) (kx : XD) (e : Expr) (ρ : Ro) (M : Mem) (k : D → Mem → Prop) : Prop :=
  ∀ (σ : L2.St) (H H0 : Hp), Ht X.K H0 H M → Sl X.K H0 σ ρ → ∀ (W : WX), Takes X W → Hx X W H0 H M kx → ∀ (Q : VK), (∀ v H' H0' d M', Go H0 H M H0' H' M' → Ht X.K H0' H' M' → Rep X.K H0' v d → k d M' → Q v H') → sET X e σ H Q
def DAt (X : Cx) (kx : XD) (es : List Expr) (ρ : Ro) (M : Mem) (ds : List D) : Prop :=
  ∀ (σ : L2.St) (H H0 : Hp), Ht X.K H0 H M → Sl X.K H0 σ ρ → ∀ (W : WX), Takes X W → Hx X W H0 H M kx → ∀ (Q : List V → Hp → Prop), (∀ vs H' H0', Pu H0 H H0' H' → RepA X.K H0' vs ds → Q vs H') → sAT X es σ H Q
def DSt (X : Cx) (kx : XD) (sts : List Stmt) (ρ : Ro) (M : Mem) (P : Out → Mem → Prop) : Prop :=
  ∀ (σ : L2.St) (H H0 : Hp), Ht X.K H0 H M → Sl X.K H0 σ ρ → ∀ (W : WX), Takes X W → Hx X W H0 H M kx → ∀ (D : Ends), Cn X D H0 H M P → sSsT X sts D σ H
section
variable {X : Cx} {kx : XD} {ρ ρ' : Ro} {M : Mem} {P : Out → Mem → Prop} {pos p p1 p2 p3 c0 c1 c2 apos cpos tpos : Pos} {a b e o : Expr} {es : List Expr} {rest : List Stmt} {d x' y' : D} {ds : List D} {x y z c : Str} {w : Addr} {j k l : Nat}
theorem DSt.of (h : DS X kx rest ρ M P) : DSt X kx rest ρ M P := fun σ H H0 t s W tk hx D cn => sSsT.by (PSsT.of (pss_s rest)) (h σ H H0 t s W tk hx D cn)
theorem DVt.of (h : DV X kx e ρ M d) : DVt X kx e ρ M d := fun σ H H0 t s W tk hx Q q => sET.by (CwR.PET.of (pe_s e)) (h σ H H0 t s W tk hx Q q)
theorem dat_nil : DAt X kx [] ρ M [] := fun σ H H0 t s W tk hx Q q => sAT.by pat_nil (q [] H H0 (Pu.refl t.ex) .nil)
theorem dat_cons (h1 : DVt X kx e ρ M d) (h2 : DAt X kx es ρ M ds) (hs : starEach (e :: es) X.env = (false, eval e X.env) :: starEach es X.env := by rfl) : DAt X kx (e :: es) ρ M (d :: ds) := fun σ H H0 t s W tk hx Q q =>
  sAT.by (pat_cons (pet_s e) (pat_s es) hs) (h1 σ H H0 t s W tk hx _ fun v H1 H01 p1 r1 => h2 σ H1 H01 (t.pu p1) (s.mo p1.e0) W tk (hx.pu p1) _ fun vs H2 H02 p2 r2 => q _ H2 H02 (p1.trans p2) (.cons (r1.mo p2.e0) r2))
theorem dvt_lst (h : DAt X kx es ρ M ds) (hl : ds.length ≤ sizeLine) : DVt X kx (.List es pos) ρ M (.lst ds) := fun σ H H0 t s W tk hx Q q =>
  sET.by (pet_lst (pat_s es)) (h σ H H0 t s W tk hx _ fun vs H' H0' p r => ⟨by rw [r.length]; exact hl, fun w hw =>
    let g := Pu.new1 p.ex hw (.lst vs)
    q (.ref w) _ _ (p.trans g) (.lst upd_same (r.mo g.e0))⟩)
/-- o.replace(y, z, n), y and z written -/
theorem dvt_replN {n : Nat} (ho : DV X kx o ρ M (.str x)) (hl : x.length ≤ 100000) (hz : z.length ≤ 100) (hn : n ≤ x.length + 1) (hyz : (y == z) = false := by decide)
    (hbase : attributeBase o "replace" X.env (eval o X.env) = eval o X.env := by rfl) (hline : (apos.endLine == pos.line) = true := by rfl)
    (hs : starEach [.Constant (.str y) j c0, .Constant (.str z) k c1, .Constant (.int (n : Int)) l c2] X.env = [(false, eval (.Constant (.str y) j c0) X.env), (false, eval (.Constant (.str z) k c1) X.env), (false, eval (.Constant (.int (n : Int)) l c2) X.env)] := by rfl) :
    DVt X kx (.Call (.Attribute o "replace" apos) [.Constant (.str y) j c0, .Constant (.str z) k c1, .Constant (.int (n : Int)) l c2] [] pos) ρ M (.str (replN x y z n)) := fun σ H H0 t s W tk hx Q q pins st h0 I => by
  refine call_method3 hbase hs hline ?_
  refine wpAny_mono (PySem.wpAny_toks (sE_iff.mp (ho σ H H0 t s W tk hx (fun v H1 => ∃ H01, Pu H0 H H01 H1 ∧ Rep X.K H01 v (.str x)) fun v H1 H01 p r => ⟨H01, p, r⟩) pins st I)) (fun v s1 q1 => ?_) fun _ _ z => z.2
  obtain ⟨hk, v', H1, I1, r1, H01, pu1, rr⟩ := q1
  cases rr
  obtain ⟨tx, rfl⟩ := r1
  refine ⟨"str", _, PySem.F.plainAttrs_str, PySem.F.slot_str_replace, PySem.F.type_str_replace, typeIs_str _ _ _, (fun _ e => nomatch e), Calls.callWith_builtin rfl (Calls.evalArgs_plain (Calls.spliced_cons ?_))⟩
  refine Calls.Constant_str (Calls.spliced_cons (Calls.Constant_str (Calls.spliced_cons (wpAny_Constant_int (Calls.spliced_nil ?_)))))
  have hb : x.length + (x.length + 1) * z.length ≤ 16777216 := by
    have := Nat.mul_le_mul (show x.length + 1 ≤ 100001 by omega) hz
    omega
  exact sc_replN (by show s1.toks ≠ 0; omega) (by show s1.toks + 1 ≠ 0; omega) (by show s1.toks ≠ s1.toks + 1; omega) hyz hn hb hl fun t' k => ⟨.str (replN x y z n), H1, I1.tok k, ⟨t', rfl⟩, q _ H1 H01 pu1 (.str _)⟩
theorem pst_asgN {te : TE} {i : Nat} {v : Str} {pos' : Pos} (hN : X.N.Nodup) (hi : X.N[i]? = some v) (hx : Loc X.env.scope v) (he : PET X e te) (hs : swapsWith e (some (.Name v pos')) pos.line X.env = pure false := by rfl) (hf : X.fn v = true ∨ X.env.scope.names.lookup v = some .local := by first | exact .inl rfl | exact .inr rfl | assumption) :
    PST X (.Assign [.Name v pos'] e pos) (tAsg te (gName i)) := fun pins s σ H D h0 I h =>
  wpAny_Assign_Name (thn (he pins s σ H _ h0 I h) fun v s1 ⟨y, H1, I1, r1, q1⟩ => store_ok I1 hN hi hx r1 (fun s2 I2 => ⟨_, H1, I2, q1⟩) hf) hs
theorem pst_expr {te : TE} (he : PET X e te) (hs : swapsWith e none pos.line X.env = pure false := by rfl) : PST X (.Expr e pos) (tDrop te) := fun pins s σ H D h0 I h =>
  wpAny_Expr_any (thn (he pins s σ H _ h0 I h) fun v s1 ⟨x, H1, I1, r1, q1⟩ => ⟨σ, H1, I1, q1⟩) I.quiet hs
theorem pet_bm {T id name : String} {r : V → List V → Hp → VK → Prop} {to : TE} {t : TA} (pa : PlainAttrs T) (slot : Slot T name id) (hty : typeOf (.builtin id) = pure (.type "method_descriptor")) (hm : MtR X id r) (ho : PE X o to) (ha : PAT X (e :: es) t)
    (hbase : attributeBase o name X.env (eval o X.env) = eval o X.env := by rfl)
    (hfew : ((backTo cpos (starEach (e :: es) X.env)).all (fun x => !x.1) && (backToKw cpos (keywordEach [] X.env)).all (fun x => x.1.isSome)
      && decide ((e :: es).length + ([] : List Keyword).length + (if ([] : List Keyword).isEmpty then 0 else 1) < 30)) = true := by rfl)
    (hline : (apos.endLine == cpos.line) = true := by rfl) (hs : starEach (e :: es) X.env = (false, eval e X.env) :: starEach es X.env := by rfl) (hplain : (backTo cpos (starEach es X.env)).any (·.1) = false := by rfl) :
    PET X (.Call (.Attribute o name apos) (e :: es) [] cpos) (tBM X.K T r to t) := by
  intro pins s σ H Q h0 I h
  refine wpAny_Call_method_late hbase hfew hline rfl (wpAny_mono (PySem.wpAny_toks (ho.run pins s σ H _ I h)) (fun v s1 q => ?_) fun _ _ z => z.2)
  obtain ⟨hk, x, H1, I1, r1, ty, q1⟩ := q
  obtain ⟨h1, h2⟩ := tyV_is I1 r1 ty
  refine ⟨T, id, pa, slot, hty, h1, h2, ?_⟩
  have hA := ha cpos pins s1 σ H1 _ (Nat.le_trans h0 hk) I1 q1
  rw [hs] at hA ⊢
  refine Calls.callWith_builtin (by show (false || (backTo cpos (starEach es X.env)).any (·.1)) = false; rw [hplain] <;> rfl) (Calls.evalArgs_plain ?_)
  exact thn hA fun us s2 ⟨vs, H2, I2, r2, q2⟩ => hm pins s2 σ H2 x vs v us Q I2 r1 r2 q2
/-- x.append(e) -/
theorem dst_app {α : Type} {g : α → D} {v : α} {xs : List α} (i : Nat) (ho : DV X kx o ρ M (.adr w)) (hv : DVt X kx e ρ M (g v)) (hm : M[i]? = some (w, .lst (xs.map g))) (hl : xs.length ≤ 100000) (hk : DSt X kx rest ρ (M.set i (w, .lst ((xs ++ [v]).map g))) P)
    (hb : attributeBase o "append" X.env (eval o X.env) = eval o X.env := by rfl)
    (hfew : ((backTo cpos (starEach [e] X.env)).all (fun x => !x.1) && (backToKw cpos (keywordEach [] X.env)).all (fun x => x.1.isSome) && decide ([e].length + ([] : List Keyword).length + (if ([] : List Keyword).isEmpty then 0 else 1) < 30)) = true := by rfl)
    (hline : (apos.endLine == cpos.line) = true := by rfl) (hs : starEach [e] X.env = (false, eval e X.env) :: starEach [] X.env := by rfl)
    (hs2 : swapsWith (.Call (.Attribute o "append" apos) [e] [] cpos) none tpos.line X.env = pure false := by rfl) : DSt X kx (.Expr (.Call (.Attribute o "append" apos) [e] [] cpos) tpos :: rest) ρ M P := fun σ H H0 t s W tk hx D cn =>
  sSsT.by (psst_cons (pst_expr (pet_bm PySem.F.plainAttrs_list PySem.F.slot_list_append PySem.F.type_list_append mt_append (pe_s o) (pat_s [e]) hb hfew hline hs rfl) hs2) (psst_s rest)) (ho σ H H0 t s W tk hx _ fun v H1 H01 p1 r1 => by
    cases r1
    obtain ⟨_, vs, h1, h2⟩ := (t.pu p1).mem _ (List.mem_of_getElem? hm)
    refine ⟨.inl ⟨rfl, vs, SqL.of h1⟩, (dat_cons hv dat_nil hs : DAt X kx [e] ρ M [g _]) σ H1 H01 (t.pu p1) (s.mo p1.e0) W tk (hx.pu p1) _ fun us H2 H02 p2 r2 => ?_⟩
    obtain ⟨u, rfl, ru⟩ := repA1 r2
    have g1 := p2.k h1
    obtain ⟨t3, g3⟩ := (t.pu (p1.trans p2)).setM (o := .lst (vs ++ [u])) (m' := .lst ((xs ++ [v]).map g)) hm fun H' e => ⟨vs ++ [u], e, by rw [List.map_append]; exact (h2.mo p2.e0).app (.one ru)⟩
    have g := (p1.trans p2).go.trans g3
    exact ⟨w, vs, u, rfl, rfl, g1, by rw [h2.length, List.length_map, sizeLine_eq]; omega, hk σ _ H02 t3 (s.mo g.e0) W tk (hx.step g) D (cn.step g)⟩)
/-- x = y + [..] -/
theorem dst_catN {α : Type} {f : α → D} {xs ys : List α} {i : Nat} {v : Str} {p2 : Pos} (nn : Ns X i v) (ha : DV X kx a ρ M x') (hb : DVt X kx b ρ M y') (h1 : SeqO M x' (xs.map f)) (h2 : SeqO M y' (ys.map f)) (hl : xs.length + ys.length ≤ sizeLine)
    (hp : ∀ w, w ∉ M.dom → DSt X kx rest (ρ.set i (some (.adr w))) ((w, .lst ((xs ++ ys).map f)) :: M) P)
    (hs : swapsWith (.BinOp a .Add b p1) (some (.Name v p2)) pos.line X.env = pure false := by rfl) : DSt X kx (.Assign [.Name v p2] (.BinOp a .Add b p1) pos :: rest) ρ M P := fun σ H H0 t s W tk hx D cn =>
  sSsT.by (psst_cons (pst_asgN nn.nd nn.get nn.loc (CwR.pet_op op_cat (CwR.PET.of (pe_s a)) (pet_s b)) hs nn.fn) (psst_s rest)) (ha σ H H0 t s W tk hx _ fun v H1 H01 p1 r1 => hb σ H1 H01 (t.pu p1) (s.mo p1.e0) W tk (hx.pu p1) _ fun u H2 H02 p2 r2 => by
    have p12 := p1.trans p2
    have t2 := t.pu p12
    obtain ⟨l1, vs1, rfl, a1, b1⟩ := h1.rep t2 (r1.mo p2.e0)
    obtain ⟨l2, vs2, rfl, a2, b2⟩ := h2.rep t2 r2
    refine ⟨l1, l2, vs1, vs2, rfl, rfl, a1, a2, by rw [b1.length, b2.length, List.length_map, List.length_map]; exact hl, fun w hw => ?_⟩
    have g := p12.go.trans (Go.new1 (M := M) (m := .lst ((xs ++ ys).map f)) hw (.lst (vs1 ++ vs2)))
    have t3 := t2.new1 (m := .lst ((xs ++ ys).map f)) hw fun H2 e2 => ⟨_, e2, by rw [List.map_append]; exact b1.app b2⟩
    exact hp w (t2.free hw).2 _ _ H02 t3 ((s.mo g.e0).set (.adr w) i) W tk (hx.step g) D (cn.step g))
/-- x = [a + "..", ..]: behind it a token is out -/
theorem ds_tokL {i : Nat} {v : Str} {p5 : Pos} (nn : Ns X i v) (h1 : DV X kx a ρ M (.str x)) (hl1 : x.length + c.length ≤ 100000) (h2 : DAt X kx es ρ M ds) (hl : (D.str (x ++ c) :: ds).length ≤ sizeLine)
    (hp : ∀ w, w ∉ M.dom → DSt X kx rest (ρ.set i (some (.adr w))) ((w, .lst (.str (x ++ c) :: ds)) :: M) P)
    (hse : starEach (.BinOp a .Add (.Constant (.str c) j p1) p2 :: es) X.env = (false, eval (.BinOp a .Add (.Constant (.str c) j p1) p2) X.env) :: starEach es X.env := by rfl)
    (hs : swapsWith (.List (.BinOp a .Add (.Constant (.str c) j p1) p2 :: es) p3) (some (.Name v p5)) pos.line X.env = pure false := by rfl) :
    DS X kx (.Assign [.Name v p5] (.List (.BinOp a .Add (.Constant (.str c) j p1) p2 :: es) p3) pos :: rest) ρ M P := fun σ H H0 t s W tk hx D cn => sSs_iff.mpr fun pins st I => by
  refine wpAny_execs_cons (wpAny_Assign_Name (wpAny_List_spliced ?_) hs)
  rw [hse]
  show wpAny _ _ (spliced ((false, _) :: backTo p3 (starEach es X.env))) _ _ st
  refine Calls.spliced_cons (wpAny_BinOp (thn (sE_iff.mp (h1 σ H H0 t s W tk hx (fun v H1 => ∃ H01, Pu H0 H H01 H1 ∧ Rep X.K H01 v (.str x)) fun v H1 H01 p r => ⟨H01, p, r⟩) pins st I) fun v1 s1 q1 => Calls.Constant_str ?_))
  obtain ⟨v', H1, I1, r1, H01, pu1, rr⟩ := q1
  cases rr
  have I1' := I1.tok (s1.toks + 1)
  have hop := op_add_str (X := X) pins _ σ H1 (.str x) (.str c) v1 (.str c s1.toks) (fun v H2 => v = .str (x ++ c) ∧ H2 = H1) I1' r1 ⟨_, rfl⟩ ⟨_, _, rfl, rfl, sz_le hl1, rfl, rfl⟩
  refine wpAny_mono (PySem.wpAny_toks_of (n := 1) (by show 1 ≤ s1.toks + 1; omega) hop) (fun u s2 q2 => ?_) fun _ _ z => z.2
  obtain ⟨k2, v2, H2, I2, r2, rfl, rfl⟩ := q2
  have hA := h2 σ H2 H01 (t.pu pu1) (s.mo pu1.e0) W tk (hx.pu pu1) (fun vs H3 => ∃ H03, Pu H01 H2 H03 H3 ∧ RepA X.K H03 vs ds) (fun vs H3 H03 p r => ⟨H03, p, r⟩) p3 pins s2 k2 I2
  refine wpAny_mono (PySem.wpAny_toks_of (n := 1) k2 hA) (fun us s3 q3 => ?_) fun _ _ z => z.2
  obtain ⟨k3, vs, H3, I3, r3, H03, pu3, ra⟩ := q3
  have pu := pu1.trans pu3
  have t3 := t.pu pu
  have rl := r3.length
  refine ⟨by rw [List.length_cons, ← rl, ra.length]; exact hl, ?_⟩
  have hf : H3 s3.heap.objs.size = none := I3.hok.fresh (Nat.le_refl _)
  have rall : RepA X.K H03 (.str (x ++ c) :: vs) (.str (x ++ c) :: ds) := .cons (.str _) ra
  have vall : Vals (.str (x ++ c) :: vs) (u :: us) := .cons r2 r3
  have I4 : Inv X pins σ (upd H3 s3.heap.objs.size (.lst (.str (x ++ c) :: vs))) { s3 with heap := s3.heap.push { cls := .type "list", data := .seq (u :: us).toArray } } := by
    refine I3.laid (t' := s3.toks) (fun b u e => Heap.get?_push_of_some _ e) (Nat.le_refl _) ?_
    exact ⟨by rw [List.length_cons, ra.length]; exact hl, u :: us, 0, vall, Heap.get?_push_size _ rfl⟩
  have g := pu.go.trans (Go.new1 (M := M) (m := .lst (.str (x ++ c) :: ds)) hf (.lst (.str (x ++ c) :: vs)))
  have t4 := t3.new1 (m := .lst (.str (x ++ c) :: ds)) hf fun H2 e2 => ⟨_, e2, rall⟩
  refine wpAny_mono (PySem.wpAny_toks_of (n := 1) (by show 1 ≤ s3.toks; exact k3) (store_ok (v := V.ref s3.heap.objs.size) (u := Value.ref s3.heap.objs.size) (Q := fun _ s5 => Inv X pins (σ.set i (some (V.ref s3.heap.objs.size))) _ s5) I4 nn.nd nn.get nn.loc rfl (fun _ I5 => I5) nn.fn)) (fun _ s5 q5 => ?_) fun _ _ z => z.2
  exact hp _ (t3.free hf).2 _ _ H03 t4 ((s.mo g.e0).set (.adr _) i) W tk (hx.step g) D (cn.step g) pins s5 q5.1 q5.2
theorem dst_frz {sts : List Stmt} (i j : Nat) (hm : M[i]? = some (w, .lst ds)) (hj : ρ[j]? = some (some (.adr w))) (h : DSt X kx sts (ρ.set j (some (.lst ds))) (M.eraseIdx i) P) : DSt X kx sts ρ M P := fun σ H H0 t s W tk hx D c => by
  obtain ⟨h0, vs, h1, h2⟩ := t.mem _ (List.mem_of_getElem? hm)
  have sm : Same H0 (upd H0 w (.lst vs)) := same_new h0
  have nd : (M.dom)[i]? = some w := by rw [List.getElem?_map, hm]; rfl
  have t' : Ht X.K (upd H0 w (.lst vs)) H (M.eraseIdx i) := by
    refine ⟨fun b o e => ?_, ?_, fun q hq => ?_, t.tb.frz h1⟩
    · by_cases hb : b = w
      · subst hb; rw [upd_same] at e; cases e; exact h1
      · rw [upd_ne hb] at e; exact t.ex _ _ e
    · exact t.nd.sublist (List.Sublist.map _ (List.eraseIdx_sublist _ _))
    · have hq1 : q ∈ M := List.mem_of_mem_eraseIdx hq
      have ne : q.1 ≠ w := fun z => by
        obtain ⟨j', hj', e1⟩ := List.mem_eraseIdx_iff_getElem?.mp hq
        have d2 : (M.dom)[j']? = some w := by rw [List.getElem?_map, e1]; show some q.1 = some w; rw [z]
        exact hj' (Ht.setM.nodup_at t.nd d2 nd)
      obtain ⟨a, b⟩ := t.mem q hq1
      exact ⟨by rw [upd_ne ne]; exact a, b.mono sm fun _ e _ => e⟩
  have g : Go H0 H M (upd H0 w (.lst vs)) H (M.eraseIdx i) := by
    refine ⟨sm, fun _ _ e _ _ => e, fun a a1 a2 a3 => ?_, fun a ha => ?_, fun _ e => e⟩
    · rw [upd_ne (fun z => a3 (by rw [z]; exact List.mem_map.mpr ⟨_, List.mem_of_getElem? hm, rfl⟩))]; exact a1
    · obtain ⟨q, hq, rfl⟩ := List.mem_map.mp ha
      exact .inl (List.mem_map.mpr ⟨q, List.mem_of_mem_eraseIdx hq, rfl⟩)
  obtain ⟨v, e1, r1⟩ := s.2 j _ hj
  cases r1
  have s' : Sl X.K (upd H0 w (.lst vs)) σ (ρ.set j (some (.lst ds))) := by
    have z := (s.mo sm).set (v := .ref w) (d := .lst ds) (.lst upd_same (h2.mo sm)) j
    have e2 : σ.set j (some (.ref w)) = σ := by
      refine List.ext_getElem? fun k => ?_
      by_cases hk : j = k
      · subst hk; rw [List.getElem?_set_self (List.getElem?_eq_some_iff.mp e1).1, e1]
      · rw [List.getElem?_set_ne hk]
    rw [e2] at z
    exact z
  exact h σ H _ t' s' W tk (hx.step g) D (c.step g)
end
end Dl

/-! numbers of many figures as texts; a text times a number; the limit on figures is the one that stands from the start -/
namespace Dl
open PySem PySem.Spec PyProof.Rows L2
/-- no limit on figures was set -/
def NoDg (K : Frag) : Prop := ∃ o es ep, K.lookup cStatics = some o ∧ o.data = .dict es ep ∧ StrKeys es ∧ nsFind es "sys.int_max_str_digits" = none
def isStrV : Value → Bool
  | .str _ _ => true
  | _ => false
def ndgB : Frag → Bool := fun K => match K.lookup cStatics with
  | some ⟨_, _, .dict es _, _⟩ => es.toList.all (fun e => isStrV e.key) && (nsFind es "sys.int_max_str_digits").isNone
  | _ => false
theorem ndgB_ok {K : Frag} (h : ndgB K = true) : NoDg K := by
  unfold ndgB at h
  split at h
  · rename_i c d es ep sl e
    simp only [Bool.and_eq_true] at h
    obtain ⟨h1, h2⟩ := h
    refine ⟨_, es, ep, e, rfl, fun x hx => ?_, by simpa using h2⟩
    have := List.all_eq_true.mp h1 x (by simpa using hx)
    cases q : x.key with
    | str n t => exact ⟨n, t, rfl⟩
    | _ => rw [q] at this; cases this
  · cases h
theorem NoDg.at {K : Frag} (n : NoDg K) {h : Heap} (i : K.In h) : h.NoDigits := by
  obtain ⟨o, es, ep, e, d, s, f⟩ := n
  exact ⟨fun x => nsFind es x, ⟨o, es, ep, i _ _ e, d, s, fun _ => rfl⟩, f⟩
end Dl
namespace PySem.W.KIN
open PySem PySem.Calls PySem.NumText PyProof.Rows PySem.W
theorem wp_textN {M : Model} {A : Around} {E : Value → Shared → Prop} {s : Shared} {Q : Value → Shared → Prop} {v : Value} {text : List Nat} {n : Int} (nd : s.heap.NoDigits)
    (hs : ¬ (text.takeWhile (· != 0)).length ≤ 640) (hr : (int_private% "readNumeral") 4300 10 (text.takeWhile (· != 0)) = (int_private% "Numeral.value") n)
    (ha : ((text.takeWhile (· != 0)).length == text.length) = true) (h : Q (.int n s.toks) { s with toks := s.toks + 1 }) :
    wpAny M A ((int_private% "intFromText") v text 10) Q E s := by
  obtain ⟨mc, hns, hnone⟩ := nd
  show wpAny M A (do
    let limit ← if (text.takeWhile (· != 0)).length ≤ 640 then pure 0 else Builtin.intMaxStrDigits
    _) Q E s
  rw [if_neg hs]
  refine wpAny_bind ?_
  unfold Builtin.intMaxStrDigits
  refine wpAny_bind (wpAny_nsGet hns ?_)
  rw [hnone]
  refine wpAny_pure ?_
  dsimp only []
  simp only [hr]
  rw [if_pos ha]
  first
    | exact wpAny_bind (wpAny_mkInt (wpAny_pure h))
    | exact wpAny_mkInt h
    | exact wpAny_bind (wpAny_bind (wpAny_mkInt (wpAny_pure h)))
theorem meets_textN {x : PySem.Str} {u : Tok} {n : Int} (hl : x.length ≤ 4300) (hn : PySem.intText? x = some n) :
    Meets (Builtin.«int.__new__» ⟨[.type "int", .str x u], []⟩) (fun _ R s => s.heap.NoDigits ∧ R (.ok (.ret (.int n s.toks))) { s with toks := s.toks + 1 }) :=
  Meets.of_wp fun prog w A R s h => by
    by_cases hs : (numSeenOf x).length ≤ 640
    · have hr : (int_private% "readNumeral") 0 10 (numSeenOf x) = (int_private% "Numeral.value") n ∧ ((numSeenOf x).length == (numTextOf x).length) = true := by
        rcases read0 x hs with ⟨m, h1, h2, h3⟩ | ⟨h1, _⟩
        · rw [hn] at h1
          injection h1 with h1
          subst h1
          exact ⟨h3, h2⟩
        · rw [hn] at h1
          cases h1
      obtain ⟨nd, h⟩ := h
      obtain ⟨hp, g, d, tk, os⟩ := s
      have f1 := F.conv_sub_int
      have f2 := F.madeHere_int
      have f3 := str_int
      have f4 := str_idx
      have f5 := str_trunc
      have f6 : typeOf (.str x u) = pure (.type "str") := rfl
      have hk := Hid.mk (And.intro hs hr)
      have hq := Hid.mk nd
      clear hs hr hl hn nd
      repeat (any_goals (first
        | assumption
        | ((with_reducible show wpAny _ _ ((int_private% "intFromText") _ _ _) _ _ _); refine wp_text hk.out.1 hk.out.2.1 hk.out.2.2 ?_)
        | wp_step))
      all_goals first | exact ⟨_, rfl, h⟩ | skip
    · have hr : (int_private% "readNumeral") 4300 10 (numSeenOf x) = (int_private% "Numeral.value") n ∧ ((numSeenOf x).length == (numTextOf x).length) = true := by
        rcases read4300 x (by rw [sizeLine_eq]; omega) with ⟨m, h1, h2, h3⟩ | ⟨h1, _⟩
        · rw [hn] at h1
          injection h1 with h1
          subst h1
          exact ⟨h3, h2⟩
        · rw [hn] at h1
          cases h1
      obtain ⟨nd, h⟩ := h
      obtain ⟨hp, g, d, tk, os⟩ := s
      have f1 := F.conv_sub_int
      have f2 := F.madeHere_int
      have f3 := str_int
      have f4 := str_idx
      have f5 := str_trunc
      have f6 : typeOf (.str x u) = pure (.type "str") := rfl
      have hk := Hid.mk (And.intro hs (And.intro hr nd))
      clear hs hr hl hn nd
      repeat (any_goals (first
        | assumption
        | ((with_reducible show wpAny _ _ ((int_private% "intFromText") _ _ _) _ _ _); refine wp_textN hk.out.2.2 hk.out.1 hk.out.2.1.1 hk.out.2.1.2 ?_)
        | wp_step))
      all_goals first | exact ⟨_, rfl, h⟩ | skip
section
variable {prog : Program} {w : World} {A : Around} {E : Value → Shared → Prop} {s : Shared} {Q : Value → Shared → Prop} {x : PySem.Str} {t : Tok} {n : Int}
theorem call_textN (nd : s.heap.NoDigits) (hn : PySem.intText? x = some n) (hl : x.length ≤ 4300) (h : Q (.int n s.toks) { s with toks := s.toks + 1 }) : wpAny (model prog w) A (call (.type "int") [.str x t]) Q E s :=
  call_int_1 (meets_textN hl hn) ⟨nd, rfl, h⟩
end
end PySem.W.KIN
namespace Dl
open PySem PySem.Spec PyProof.Rows L2
/-! ### str(i), int(s) -/
def StrOk (i : Int) : Prop := i.natAbs < 10 ^ 4300
theorem call_str_intN {X : Cx} (hc : X.calm = true) (nd : NoDg X.K) : CallR X (.type "str") (fun xs H Q => ∃ i, xs = [.int i] ∧ StrOk i ∧ Q (.str (toString i)) H) := by
  intro pins s σ H xs us Q I r h
  obtain ⟨i, rfl, hz, q⟩ := h
  obtain ⟨u, rfl, t, rfl⟩ := vals1 r
  exact str_of_int_or (I.ok.hd hc) (nd.at I.kIn) (fun _ => ⟨.str _, H, I.tok _, ⟨_, rfl⟩, q⟩) (fun z => absurd z (Nat.not_le_of_lt hz))
theorem call_int_strN {X : Cx} (nd : NoDg X.K) : CallR X (.type "int") (fun xs H Q => ∃ a n, xs = [.str a] ∧ PySem.intText? a = some n ∧ a.length ≤ 4300 ∧ Q (.int n) H) := by
  intro pins s σ H xs us Q I rs h
  obtain ⟨a, n, rfl, hn, hl, h⟩ := h
  cases rs with
  | cons r1 rs =>
    cases rs
    obtain ⟨t, rfl⟩ := r1
    exact PySem.W.KIN.call_textN (nd.at I.kIn) hn hl ⟨.int n, H, I.tok _, ⟨_, rfl⟩, h⟩
/-- a text so many times -/
def repT (s : Str) (n : Int) : Str := if n < 1 then Str.empty else if (n == 1 || s.length == 0) = true then s else ⟨(List.replicate n.toNat s.cps).foldl (· ++ ·) #[]⟩
def RepS (s : Str) (n : Int) : Prop := -(2 ^ 62) < n ∧ n < 2 ^ 62 ∧ s.length * n.toNat ≤ sizeLine
section
variable {X : Cx} {kx : XD} {ρ : Ro} {M : Mem} {pos p : Pos} {a b e : Expr} {es : List Expr} {s : Str} {i n : Int} {f : Str}
theorem dv_strN (hc : X.calm = true) (nd : NoDg X.K) (n : Bn X f (.type "str")) (h : StrOk i) (ha : DV X kx e ρ M (.int i)) (he : starEach [e] X.env = (false, eval e X.env) :: starEach [] X.env := by rfl) : DV X kx (.Call (.Name f p) [e] [] pos) ρ M (.str (Str.ofString (toString i))) :=
  dv_callT n (call_str_intN hc nd) (fun vs H H0 t r Q q => by
    obtain ⟨v, rfl, r1⟩ := repA1 r
    cases r1
    exact ⟨i, rfl, h, q _ H H0 (Pu.refl t.ex) (.str _)⟩) (da_cons ha da_nil he) he
theorem dv_intN (nd : NoDg X.K) (n : Bn X f (.type "int")) (h : PySem.intText? s = some i) (hl : s.length ≤ 4300) (ha : DV X kx e ρ M (.str s)) (he : starEach [e] X.env = (false, eval e X.env) :: starEach [] X.env := by rfl) : DV X kx (.Call (.Name f p) [e] [] pos) ρ M (.int i) :=
  dv_callT n (call_int_strN nd) (fun vs H H0 t r Q q => by
    obtain ⟨v, rfl, r1⟩ := repA1 r
    cases r1
    exact ⟨s, i, rfl, h, hl, q _ H H0 (Pu.refl t.ex) (.int _)⟩) (da_cons ha da_nil he) he
end
end Dl
/-! ### f(e, ..), f a local name that holds a def -/
namespace Dl
open PySem PySem.Spec PyProof.Rows L2
section
variable {X : Cx} {kx : XD} {ρ : Ro} {M : Mem} {pos p : Pos} {e : Expr} {es : List Expr} {x y : Str} {k i : Nat} {ds dvs : List D} {f : Addr} {α : Type} {args : α → List D} {pre : α → Prop} {post : α → D → Prop} {ex : α → Value → List (Str × D) → Prop} {z : D}
end
end Dl
namespace Dl
open PySem PySem.Spec PyProof.Rows L2
section
variable {X : Cx} {kx : XD} {ρ : Ro} {M : Mem} {pos p : Pos} {e : Expr} {x : D} {f : Str}
end
end Dl
/-! ### long lists written out -/
namespace Dl
open PySem PySem.Spec PyProof.Rows L2
section
variable {env : Env} {es : List Expr} {p : Pos}
end
section
variable {X : Cx} {kx : XD} {ρ : Ro} {M : Mem} {P : Out → Mem → Prop} {rest : List Stmt}
end
end Dl
namespace Dl
open PySem PySem.Spec PyProof.Rows L2
/-- the texts that a list written out holds -/
def strsOf : List Expr → Option (List Str)
  | [] => some []
  | .Constant (.str s) _ _ :: es => (strsOf es).map (s :: ·)
  | _ :: _ => none
section
variable {X : Cx} {kx : XD} {ρ : Ro} {M : Mem} {pos : Pos}
end
end Dl
namespace Dl
open PySem PySem.Spec PyProof.Rows L2
/-- the plain things that a list written out holds: texts, small numbers, truth, None; lists of texts; pairs of numbers -/
def constD : Expr → Option D
  | .Constant (.str s) _ _ => some (.str s)
  | .Constant (.int i) _ _ => some (.int i)
  | .Constant (.bool b) _ _ => some (.bl b)
  | .Constant .none _ _ => some .non
  | .List es _ => match strsOf es with
    | some ss => if ss.length ≤ 1000 then some (.lst (ss.map D.str)) else none
    | none => none
  | .Tuple [.Constant (.int i) _ _, .Constant (.int j) _ _] _ _ => some (.tup [.int i, .int j])
  | _ => none
def constsD : List Expr → Option (List D)
  | [] => some []
  | e :: es => match constD e, constsD es with
    | some d, some ds => some (d :: ds)
    | _, _ => none
section
variable {X : Cx} {kx : XD} {ρ : Ro} {M : Mem} {pos : Pos}
end
end Dl

namespace Lw
open PySem PySem.Spec PyProof.Rows L2 Dl
/-! ### what each def computes -/
def dk_LI (t : List Int) : D := .lst (t.map D.int)
def dk_T2II (t : Int × Int) : D := .tup [.int t.1, .int t.2]
def dk_T2LT2IIOI (t : (List (Int × Int)) × (Option Int)) : D := .tup [.lst (t.1.map dk_T2II), dOpt D.int t.2]
def dk_LS (t : List Str) : D := .lst (t.map D.str)
def dk_LT2II (t : List (Int × Int)) : D := .lst (t.map dk_T2II)
def dk_N (t : Unit) : D := .non
def dk_T3SSS (t : Str × Str × Str) : D := .tup [.str t.1, .str t.2.1, .str t.2.2]
def dk_LD (t : List D) : D := .lst (t.map dD)
noncomputable def F_l_mixed (x1 : Int) (k2 : Int) : Ex Int := letE (((((x1 % 2147483647) + (7919 * k2)) + 1) * 48271) % 2147483647) fun number3 => gd (Dl.MulOk number3 ((number3 / 1009) + 69621)) (.ok ((number3 * ((number3 / 1009) + 69621)) % 2147483647))
noncomputable def F_l_amount (x1 : Int) : Ex Int := bindP (ixE [0, (x1 / 4) % 5, (x1 / 4) % 100, (x1 / 4) * 1000000000039] (x1 % 4)) fun x2 => .ok x2
noncomputable def F_l_rule (number1 : Int) : Ex ((List (Int × Int)) × (Option Int)) := bindP (F_l_mixed number1 0) fun r3 => bindP (F_l_amount r3) fun r5 => gd (RngOk (1 + (number1 % 5))) (bindX (foldE (fun ((rows8, age9, width10) : (List (Int × Int)) × Int × Int) (x11 : Int) => bindP (F_l_mixed number1 ((2 * x11) + 1)) fun r13 => bindP (F_l_mixed number1 ((2 * x11) + 2)) fun r15 => bindP (F_l_amount r15) fun r17 => letE (age9 + r17) fun age19 => bindP (ixE [0, (r13 / 3) % 12, (r13 / 3) % 10000000] (r13 % 3)) fun x21 => gd (Dl.MulOk width10 (1 + x21)) (letE (width10 * (1 + x21)) fun width24 => gd (rows8.length ≤ 100000) (.ok ((rows8 ++ [(age19, width24)]), age19, width24)))) (([] : List (Int × Int)), r5, 1) (rngD 0 (1 + (number1 % 5)).toNat)) (fun ((rows27, age28, width29) : (List (Int × Int)) × Int × Int) => jpE (fun (end38 : Option Int) => Ex.ok (rows27, end38)) fun jk31 => if (decide (0 < (number1 / 5) % 3)) = true then bindP (F_l_mixed number1 20) fun r32 => bindP (F_l_amount r32) fun r34 => letE (age28 + r34) fun end36 => jk31 (some end36) else jk31 none))
noncomputable def F_l_text (rows1 : List (Int × Int)) (end2 : Option Int) : Ex Str := gd (rows1.length ≤ 100000) (bindP (compE (fun (u3 : Int × Int) => .ok true) (fun (u3 : Int × Int) => gd (StrOk u3.1) (gd (((Str.ofString (toString (u3.1 : Int))).length + (":" : Str).length : Nat) ≤ 100000) (gd (StrOk u3.2) (gd ((((Str.ofString (toString (u3.1 : Int))) ++ (":" : Str)).length + (Str.ofString (toString (u3.2 : Int))).length : Nat) ≤ 100000) (.ok (((Str.ofString (toString (u3.1 : Int))) ++ (":" : Str)) ++ (Str.ofString (toString (u3.2 : Int))))))))) rows1) fun ys10 => jpE (fun (words20 : List Str) => gd ((words20.map (·.length)).sum + words20.length * (" " : Str).length ≤ 16777216) (.ok (Txt.join (" " : Str) words20))) fun jk13 => if (!end2.isNone) = true then bindP (someE end2) fun end14 => gd (StrOk end14) (gd ((ys10.length + [("gone" : Str), Str.ofString (toString (end14 : Int))].length : Nat) ≤ 100000) (letE (ys10 ++ [("gone" : Str), Str.ofString (toString (end14 : Int))]) fun words18 => jk13 words18)) else jk13 ys10)
noncomputable def F_Rule_init (steps1 : List (Int × Int)) (gone2 : Option Int) : Ex ((List (Int × Int)) × (Option Int)) := if (!(decide (1 ≤ (steps1.length : Int)) && decide ((steps1.length : Int) ≤ 5))) = true then .exc "NoRule" [] else bindX (foldE (fun ((old5, broad6, row7) : Int × Int × (List (Int × Int))) (x8 : Int × Int) => bindP (orE (decide (x8.1 < old5)) (bindP (orE (decide (x8.2 < 1)) (gd (0 < broad6) (.ok (!decide (x8.2 % broad6 = 0))))) fun b11 => .ok b11)) fun b13 => if b13 = true then .exc "NoRule" [] else gd (row7.length ≤ 100000) (.ok (x8.1, x8.2, (row7 ++ [(x8.1, x8.2)])))) (0, 1, ([] : List (Int × Int))) steps1) (fun ((old17, broad18, row19) : Int × Int × (List (Int × Int))) => bindP (andE (!gone2.isNone) (bindP (someE gone2) fun gone20 => .ok (decide (gone20 < old17)))) fun b22 => if b22 = true then .exc "NoRule" [] else .ok (row19, gone2))
noncomputable def F_Rule_steps (self1 : (List (Int × Int)) × (Option Int)) : Ex (List (Int × Int)) := .ok self1.1
noncomputable def F_show_number (number1 : Int) : Ex Str := gd (StrOk number1) (.ok (Str.ofString (toString (number1 : Int))))
noncomputable def F_Rule_gone (self1 : (List (Int × Int)) × (Option Int)) : Ex (Option Int) := .ok self1.2
noncomputable def F_show_number_2 (number1 : Option Int) : Ex Str := bindP (someE number1) fun number2 => gd (StrOk number2) (.ok (Str.ofString (toString (number2 : Int))))
noncomputable def F_show_rule (rule1 : (List (Int × Int)) × (Option Int)) : Ex Str := bindP (F_Rule_steps rule1) fun r2 => gd (r2.length ≤ 100000) (bindP (compE (fun (u4 : Int × Int) => .ok true) (fun (u4 : Int × Int) => bindP (F_show_number u4.1) fun r6 => gd ((r6.length + (":" : Str).length : Nat) ≤ 100000) (bindP (F_show_number u4.2) fun r9 => gd (((r6 ++ (":" : Str)).length + r9.length : Nat) ≤ 100000) (.ok ((r6 ++ (":" : Str)) ++ r9)))) r2) fun ys13 => bindP (F_Rule_gone rule1) fun r15 => jpE (fun (words26 : List Str) => gd ((words26.map (·.length)).sum + words26.length * (" " : Str).length ≤ 16777216) (.ok (Txt.join (" " : Str) words26))) fun jk18 => if (!r15.isNone) = true then bindP (F_Rule_gone rule1) fun r19 => bindP (F_show_number_2 r19) fun r21 => gd ((ys13.length + [("gone" : Str), r21].length : Nat) ≤ 100000) (letE (ys13 ++ [("gone" : Str), r21]) fun words24 => jk18 words24) else jk18 ys13)
noncomputable def F_needed (truth1 : Bool) : Ex Unit := if (!truth1) = true then .exc "NoText" [("line", .int 0)] else .ok ()
noncomputable def F_read_number (text1 : Str) : Ex Int := bindX (F_needed true) fun r2 => jpE (fun (figures9 : Str) => gd (figures9.length ≤ 100000) (bindX (F_needed (decide (1 ≤ (figures9.length : Int)) && decide ((figures9.length : Int) ≤ 1000))) fun r11 => gd ((sgs figures9).length ≤ 100000) (bindP (compE (fun (u13 : Str) => .ok true) (fun (u13 : Str) => gd (oneS u13) (.ok (inSg u13 ("0123456789" : Str)))) (sgs figures9)) fun ys17 => bindX (F_needed (ys17.all id)) fun r19 => gd (figures9.length ≤ 100000) (bindP (ixE figures9.cps.toList 0) fun c22 => bindX (F_needed ((!decide ((sg c22) = ("0" : Str))) || (decide (text1 = ("0" : Str))))) fun r24 => gd (text1.length ≤ 4300) (bindP (someE (PySem.intText? text1)) fun i27 => .ok i27))))) fun jk5 => if (Txt.startswith text1 ("-" : Str)) = true then gd (text1.length ≤ 100000) (letE (cutS text1 (some 1) none) fun figures7 => jk5 figures7) else jk5 text1
noncomputable def F_read_step (word1 : Str) : Ex (Int × Int) := gd (word1.length ≤ 100000) (letE (Txt.partition word1 (":" : Str)) fun t3 => bindX (F_needed (decide (t3.2.1 = (":" : Str)))) fun r5 => bindX (F_read_number t3.1) fun r7 => bindX (F_read_number t3.2.2) fun r9 => .ok (r7, r9))
noncomputable def F_read_rule (text1 : Str) : Ex ((List (Int × Int)) × (Option Int)) := bindX (F_needed true) fun r2 => gd (text1.length ≤ 100000) (letE (Txt.split text1 (" " : Str)) fun words5 => bindP (andE (decide (2 < (words5.length : Int))) (bindP (ixE words5 (-2)) fun x7 => .ok (decide (x7 = ("gone" : Str))))) fun b9 => jpE (fun ((words19, gone20) : (List Str) × (Option Int)) => gd (words19.length ≤ 100000) (bindX (compX (fun (u21 : Str) => F_read_step u21) words19) fun ys24 => jpE (fun (rule35 : (List (Int × Int)) × (Option Int)) => .ok rule35) fun jk26 => tryF ["NoRule"] (bindX (F_Rule_init ys24 gone20) fun rule29 => .ok rule29) jk26 [(["NoRule"], fun e31 => .exc "NoText" [("line", .int 0)])])) fun jk12 => if b9 = true then bindP (ixE words5 (-1)) fun x13 => bindX (F_read_number x13) fun gone15 => letE (cutD' words5 none (some (-2))) fun words17 => jk12 (words17, (some gone15)) else jk12 (words5, none))
noncomputable def F_l_spoilt (text1 : Str) (rows2 : List (Int × Int)) (cell3 : Int) : Ex D := bindP (F_l_text rows2 none) fun r4 => gd ((text1.length + (" " : Str).length : Nat) ≤ 100000) (gd (((" " : Str).length + text1.length : Nat) ≤ 100000) (gd (text1.length ≤ 100000) (gd (text1.length ≤ 100000) (gd (text1.length ≤ 100000) (gd (([text1 ++ (" " : Str), (" " : Str) ++ text1, replN text1 (":" : Str) ("" : Str) 1, replN text1 (":" : Str) ("::" : Str) 1] : List Str).length ≤ 100000) (gd (text1.length ≤ 100000) (gd ((("0" : Str).length + text1.length : Nat) ≤ 100000) (gd ((("+" : Str).length + text1.length : Nat) ≤ 100000) (gd ((r4.length + (" gone" : Str).length : Nat) ≤ 100000) (gd ((r4.length + (" gone " : Str).length : Nat) ≤ 100000) (gd (((([text1 ++ (" " : Str), (" " : Str) ++ text1, replN text1 (":" : Str) ("" : Str) 1, replN text1 (":" : Str) ("::" : Str) 1] : List Str) ++ [replN text1 (":" : Str) (": " : Str) 1]).length + [replN text1 (":" : Str) ("-" : Str) 1, ("0" : Str) ++ text1, ("+" : Str) ++ text1, r4 ++ (" gone" : Str), r4 ++ (" gone " : Str)].length : Nat) ≤ 100000) (gd ((r4.length + (" gone 0x9" : Str).length : Nat) ≤ 100000) (gd (((([text1 ++ (" " : Str), (" " : Str) ++ text1, replN text1 (":" : Str) ("" : Str) 1, replN text1 (":" : Str) ("::" : Str) 1] : List Str) ++ [replN text1 (":" : Str) (": " : Str) 1]) ++ [replN text1 (":" : Str) ("-" : Str) 1, ("0" : Str) ++ text1, ("+" : Str) ++ text1, r4 ++ (" gone" : Str), r4 ++ (" gone " : Str)]).length ≤ 100000) (gd ((r4.length + (" gone 0" : Str).length : Nat) ≤ 100000) (bindP (ixE rows2 (-1)) fun x23 => gd (StrOk x23.1) (gd (((r4 ++ (" gone 0" : Str)).length + (Str.ofString (toString (x23.1 : Int))).length : Nat) ≤ 100000) (gd ((r4.length + (" Gone 99" : Str).length : Nat) ≤ 100000) (gd ((r4.length + (" gone none" : Str).length : Nat) ≤ 100000) (gd ((r4.length + ("  gone 99" : Str).length : Nat) ≤ 100000) (gd (((((([text1 ++ (" " : Str), (" " : Str) ++ text1, replN text1 (":" : Str) ("" : Str) 1, replN text1 (":" : Str) ("::" : Str) 1] : List Str) ++ [replN text1 (":" : Str) (": " : Str) 1]) ++ [replN text1 (":" : Str) ("-" : Str) 1, ("0" : Str) ++ text1, ("+" : Str) ++ text1, r4 ++ (" gone" : Str), r4 ++ (" gone " : Str)]) ++ [r4 ++ (" gone 0x9" : Str)]).length + [(r4 ++ (" gone 0" : Str)) ++ (Str.ofString (toString (x23.1 : Int))), r4 ++ (" Gone 99" : Str), r4 ++ (" gone none" : Str), r4 ++ ("  gone 99" : Str)].length : Nat) ≤ 100000) (letE ((((([text1 ++ (" " : Str), (" " : Str) ++ text1, replN text1 (":" : Str) ("" : Str) 1, replN text1 (":" : Str) ("::" : Str) 1] : List Str) ++ [replN text1 (":" : Str) (": " : Str) 1]) ++ [replN text1 (":" : Str) ("-" : Str) 1, ("0" : Str) ++ text1, ("+" : Str) ++ text1, r4 ++ (" gone" : Str), r4 ++ (" gone " : Str)]) ++ [r4 ++ (" gone 0x9" : Str)]) ++ [(r4 ++ (" gone 0" : Str)) ++ (Str.ofString (toString (x23.1 : Int))), r4 ++ (" Gone 99" : Str), r4 ++ (" gone none" : Str), r4 ++ ("  gone 99" : Str)]) fun some31 => gd ((text1.length + (";" : Str).length : Nat) ≤ 100000) (gd ((text1.length + ("\n" : Str).length : Nat) ≤ 100000) (gd ((r4.length + (" gone 9 9" : Str).length : Nat) ≤ 100000) (gd (((some31.map fun x => (.str x : D)).length + [(.str ("" : Str) : D), (.str ("gone 5" : Str) : D), (.str ("gone" : Str) : D), (.str (text1 ++ (";" : Str)) : D), (.str (text1 ++ ("\n" : Str)) : D), (.non : D), (.int 7 : D), (.lst (rows2.map dk_T2II) : D), (.str ("none" : Str) : D), (.str (r4 ++ (" gone 9 9" : Str)) : D)].length : Nat) ≤ 100000) (letE ((some31.map fun x => (.str x : D)) ++ [(.str ("" : Str) : D), (.str ("gone 5" : Str) : D), (.str ("gone" : Str) : D), (.str (text1 ++ (";" : Str)) : D), (.str (text1 ++ ("\n" : Str)) : D), (.non : D), (.int 7 : D), (.lst (rows2.map dk_T2II) : D), (.str ("none" : Str) : D), (.str (r4 ++ (" gone 9 9" : Str)) : D)]) fun some37 => bindP (ixE some37 (cell3 % 25)) fun x39 => .ok x39)))))))))))))))))))))))))
noncomputable def F_read_rule_2 (text1 : D) : Ex ((List (Int × Int)) × (Option Int)) := gd (flatD text1) (bindX (F_needed (dSel text1 false false false true false false)) fun r3 => bindP (someE (asS text1)) fun s5 => gd (s5.length ≤ 100000) (letE (Txt.split s5 (" " : Str)) fun words8 => bindP (andE (decide (2 < (words8.length : Int))) (bindP (ixE words8 (-2)) fun x10 => .ok (decide (x10 = ("gone" : Str))))) fun b12 => jpE (fun ((words22, gone23) : (List Str) × (Option Int)) => gd (words22.length ≤ 100000) (bindX (compX (fun (u24 : Str) => F_read_step u24) words22) fun ys27 => jpE (fun (rule38 : (List (Int × Int)) × (Option Int)) => .ok rule38) fun jk29 => tryF ["NoRule"] (bindX (F_Rule_init ys27 gone23) fun rule32 => .ok rule32) jk29 [(["NoRule"], fun e34 => .exc "NoText" [("line", .int 0)])])) fun jk15 => if b12 = true then bindP (ixE words8 (-1)) fun x16 => bindX (F_read_number x16) fun gone18 => letE (cutD' words8 none (some (-2))) fun words20 => jk15 (words20, (some gone18)) else jk15 (words8, none)))
noncomputable def F_l_refused (text1 : D) : Ex Bool := letE ("told" : Str) fun word2 => jpE (fun (word35 : Str) => Ex.ok (decide (word35 = ("none" : Str)))) fun jk4 => tryF ["NoText", "NoRule"] (bindX (F_read_rule_2 text1) fun r7 => .ok word2) jk4 [(["NoText", "NoRule"], fun e9 => letE ("other" : Str) fun word13 => gd (e9.1 ∈ (["NoRule", "NoText"] : List Str)) (bindP (andE (decide (e9.1 ∈ (["NoText"] : List Str))) (gd (e9.1 ∈ (["NoRule", "NoText"] : List Str)) (bindP (andE (!(decide (e9.1 ∈ (["NoRule"] : List Str)))) (gd (e9.1 ∈ (["NoRule", "NoText"] : List Str)) (.ok (!(decide (e9.1 ∈ ([] : List Str))))))) fun b18 => .ok b18))) fun b20 => jpE (fun (word34 : Str) => jk4 word34) fun jk23 => if b20 = true then gd (e9.1 ∈ (["NoText"] : List Str)) (bindP (fldE e9 "line") fun line25 => bindP (orE false (gd (e9.1 ∈ (["NoText"] : List Str)) (bindP (fldE e9 "line") fun line28 => .ok (!decide (line28 = 0))))) fun b30 => bindP (ixE [("none" : Str), ("other" : Str)] (if b30 = true then (1 : Int) else 0)) fun x32 => jk23 x32) else jk23 word13))]
noncomputable def F_l_text_2 (rows1 : List (Int × Int)) (end2 : Int) : Ex Str := gd (rows1.length ≤ 100000) (bindP (compE (fun (u3 : Int × Int) => .ok true) (fun (u3 : Int × Int) => gd (StrOk u3.1) (gd (((Str.ofString (toString (u3.1 : Int))).length + (":" : Str).length : Nat) ≤ 100000) (gd (StrOk u3.2) (gd ((((Str.ofString (toString (u3.1 : Int))) ++ (":" : Str)).length + (Str.ofString (toString (u3.2 : Int))).length : Nat) ≤ 100000) (.ok (((Str.ofString (toString (u3.1 : Int))) ++ (":" : Str)) ++ (Str.ofString (toString (u3.2 : Int))))))))) rows1) fun ys10 => gd (StrOk end2) (gd ((ys10.length + [("gone" : Str), Str.ofString (toString (end2 : Int))].length : Nat) ≤ 100000) (letE (ys10 ++ [("gone" : Str), Str.ofString (toString (end2 : Int))]) fun words15 => gd ((words15.map (·.length)).sum + words15.length * (" " : Str).length ≤ 16777216) (.ok (Txt.join (" " : Str) words15)))))
noncomputable def F_l_no_rule (rows1 : List (Int × Int)) (end2 : Option Int) (cell3 : Int) : Ex Str := gd (0 < (rows1.length : Int)) (letE ((cell3 / 7) % (rows1.length : Int)) fun at6 => bindP (ixE rows1 at6) fun x8 => if (decide (cell3 % 7 = 0)) = true then gd (((cutD' rows1 none (some at6)).length + [(x8.1, x8.2), (x8.1 + 1, x8.2), (x8.1, x8.2)].length : Nat) ≤ 100000) (bindP (F_l_text ((cutD' rows1 none (some at6)) ++ [(x8.1, x8.2), (x8.1 + 1, x8.2), (x8.1, x8.2)]) none) fun r12 => .ok r12) else if (decide (cell3 % 7 = 1)) = true then gd (((cutD' rows1 none (some at6)).length + [(x8.1, x8.2 * 2), (x8.1, x8.2 * 3)].length : Nat) ≤ 100000) (bindP (F_l_text ((cutD' rows1 none (some at6)) ++ [(x8.1, x8.2 * 2), (x8.1, x8.2 * 3)]) none) fun r16 => .ok r16) else if (decide (cell3 % 7 = 2)) = true then bindP (setE rows1 at6 (x8.1, 0 - ((cell3 / 35) % 9))) fun found19 => bindP (F_l_text found19 end2) fun r21 => .ok r21 else if (decide (cell3 % 7 = 3)) = true then bindP (ixE rows1 (-1)) fun x24 => bindP (F_l_text_2 rows1 ((x24.1 - 1) - ((cell3 / 35) % 1000000000000000000000000000000))) fun r26 => .ok r26 else if (decide (cell3 % 7 = 4)) = true then bindP (ixE rows1 (-1)) fun x29 => gd (RepOk (6 - (rows1.length : Int))) (gd ([x29].length * (6 - (rows1.length : Int) : Int).toNat ≤ 100000) (gd ((rows1.length + (repL [x29] (6 - (rows1.length : Int))).length : Nat) ≤ 100000) (bindP (F_l_text (rows1 ++ (repL [x29] (6 - (rows1.length : Int)))) none) fun r34 => .ok r34))) else if (decide (cell3 % 7 = 5)) = true then bindP (ixE rows1 0) fun x37 => bindP (setE rows1 0 ((-1) - ((cell3 / 35) % 1000000000000000000000000000000), x37.2)) fun found39 => bindP (F_l_text found39 end2) fun r41 => .ok r41 else gd (([(x8.1 + 1, x8.2)].length + (cutD' rows1 none (some (at6 + 1))).length : Nat) ≤ 100000) (bindP (F_l_text ([(x8.1 + 1, x8.2)] ++ (cutD' rows1 none (some (at6 + 1)))) end2) fun r44 => .ok r44))
noncomputable def F_l_refused_2 (text1 : Str) : Ex Bool := letE ("told" : Str) fun word2 => jpE (fun (word35 : Str) => Ex.ok (decide (word35 = ("none" : Str)))) fun jk4 => tryF ["NoText", "NoRule"] (bindX (F_read_rule text1) fun r7 => .ok word2) jk4 [(["NoText", "NoRule"], fun e9 => letE ("other" : Str) fun word13 => gd (e9.1 ∈ (["NoRule", "NoText"] : List Str)) (bindP (andE (decide (e9.1 ∈ (["NoText"] : List Str))) (gd (e9.1 ∈ (["NoRule", "NoText"] : List Str)) (bindP (andE (!(decide (e9.1 ∈ (["NoRule"] : List Str)))) (gd (e9.1 ∈ (["NoRule", "NoText"] : List Str)) (.ok (!(decide (e9.1 ∈ ([] : List Str))))))) fun b18 => .ok b18))) fun b20 => jpE (fun (word34 : Str) => jk4 word34) fun jk23 => if b20 = true then gd (e9.1 ∈ (["NoText"] : List Str)) (bindP (fldE e9 "line") fun line25 => bindP (orE false (gd (e9.1 ∈ (["NoText"] : List Str)) (bindP (fldE e9 "line") fun line28 => .ok (!decide (line28 = 0))))) fun b30 => bindP (ixE [("none" : Str), ("other" : Str)] (if b30 = true then (1 : Int) else 0)) fun x32 => jk23 x32) else jk23 word13))]
noncomputable def F_law (script1 : List Int) : Ex Bool := letE (cutD' script1 none (some 20)) fun cells2 => gd (RngOk (cells2.length : Int)) (bindX (loopE (ρ := Bool) (fun (_ : Unit) (x5 : Int) => bindP (ixE cells2 x5) fun x7 => bindP (F_l_rule x7) fun r9 => bindP (F_l_text r9.1 r9.2) fun r11 => bindP (F_Rule_init r9.1 r9.2) fun r13 => bindP (F_show_rule r13) fun r15 => if ((!true) || (!decide (r15 = r11))) = true then .ok (.rt false) else bindX (F_read_rule r11) fun found18 => bindP (orE (!true) (bindP (F_Rule_steps found18) fun r20 => bindP (orE (!decide (r20 = r9.1)) (bindP (F_Rule_gone found18) fun r22 => .ok (!decide (r22 = r9.2)))) fun b24 => .ok b24)) fun b26 => if b26 = true then .ok (.rt false) else bindP (ixE cells2 (x5 - 1)) fun x29 => bindP (F_l_spoilt r11 r9.1 (x29 / 3)) fun r31 => bindP (F_l_refused r31) fun r33 => if (!r33) = true then .ok (.rt false) else bindP (ixE cells2 (x5 - 1)) fun x36 => bindP (F_l_no_rule r9.1 r9.2 (x36 / 5)) fun r38 => bindP (F_l_refused_2 r38) fun r40 => if (!r40) = true then .ok (.rt false) else .ok (.nx ())) () (rngD 0 (cells2.length : Int).toNat)) fun c => ctE c (fun (_ : Unit) => bindP (F_read_rule ("0:1" : Str)) fun r43 => bindP (F_Rule_gone r43) fun r45 => .ok r45.isNone) (fun r50 => .ok r50))
end Lw
namespace Lw
open PySem PySem.Spec PyProof.Rows L2 Dl
/-! ### sums -/
def sm {α : Type} (f : α → Int) (xs : List α) : Int := (xs.map f).sum
section
variable {α : Type} {f g : α → Int} {xs ys : List α}
end
theorem one_le_pw {b : Int} (hb : 1 ≤ b) : ∀ k : Nat, 1 ≤ b ^ k
  | 0 => by rw [Int.pow_zero]; exact Int.le_refl _
  | k + 1 => by
    have h := one_le_pw hb k
    rw [Int.pow_succ]
    have := Int.mul_le_mul_of_nonneg_left hb (show 0 ≤ b ^ k by omega)
    omega
theorem pw_le {b : Int} (hb : 1 ≤ b) {i j : Nat} (h : i ≤ j) : b ^ i ≤ b ^ j := by
  obtain ⟨k, rfl⟩ := Nat.le.dest h
  rw [Int.pow_add]
  have a := one_le_pw hb i
  have c := Int.mul_le_mul_of_nonneg_left (one_le_pw hb k) (show 0 ≤ b ^ i by omega)
  omega
end Lw

-- use base
namespace Lw
open PySem PySem.Spec PyProof.Rows L2 Dl
/-! ### texts cut at spaces -/
theorem cut_free {c : Nat} : ∀ {a b a' b' : List Nat}, c ∉ a → c ∉ b → a ++ c :: a' = b ++ c :: b' → a = b ∧ a' = b'
  | [], [], _, _, _, _, h => ⟨rfl, by simpa using h⟩
  | [], y :: b, _, _, _, hb, h => by
    simp only [List.nil_append, List.cons_append, List.cons.injEq] at h
    exact absurd (by rw [h.1]; simp) hb
  | x :: a, [], _, _, ha, _, h => by
    simp only [List.nil_append, List.cons_append, List.cons.injEq] at h
    exact absurd (by rw [← h.1]; simp) ha
  | x :: a, y :: b, _, _, ha, hb, h => by
    simp only [List.cons_append, List.cons.injEq] at h
    obtain ⟨e1, e2⟩ := cut_free (fun z => ha (List.mem_cons_of_mem _ z)) (fun z => hb (List.mem_cons_of_mem _ z)) h.2
    exact ⟨by rw [h.1, e1], e2⟩
def jl (c : Nat) : List (List Nat) → List Nat
  | [] => []
  | [x] => x
  | x :: y :: r => x ++ c :: jl c (y :: r)
theorem jl_inj {c : Nat} : ∀ {xs ys : List (List Nat)}, xs ≠ [] → ys ≠ [] → (∀ x ∈ xs, c ∉ x) → (∀ y ∈ ys, c ∉ y) → jl c xs = jl c ys → xs = ys
  | [], _, h, _, _, _, _ => absurd rfl h
  | _ :: _, [], _, h, _, _, _ => absurd rfl h
  | [x], [y], _, _, _, _, e => by
    have : x = y := e
    rw [this]
  | [x], y :: y' :: r, _, _, hx, _, e => by
    have e' : x = y ++ c :: jl c (y' :: r) := e
    exact absurd (by rw [e']; simp) (hx x (by simp))
  | x :: x' :: r, [y], _, _, _, hy, e => by
    have e' : x ++ c :: jl c (x' :: r) = y := e
    exact absurd (by rw [← e']; simp) (hy y (by simp))
  | x :: x' :: r, y :: y' :: s, _, _, hx, hy, e => by
    obtain ⟨e1, e2⟩ := cut_free (hx x (by simp)) (hy y (by simp)) (show x ++ c :: jl c (x' :: r) = y ++ c :: jl c (y' :: s) from e)
    have := jl_inj (xs := x' :: r) (ys := y' :: s) (by simp) (by simp) (fun z hz => hx z (List.mem_cons_of_mem _ hz)) (fun z hz => hy z (List.mem_cons_of_mem _ hz)) e2
    rw [e1, this]
theorem join_jl (c : Nat) : ∀ xs : List Str, (Str.join ⟨#[c]⟩ xs).cps.toList = jl c (xs.map fun x => x.cps.toList)
  | [] => rfl
  | [x] => rfl
  | x :: y :: r => by
    have ih := join_jl c (y :: r)
    show ((x.cps ++ #[c]) ++ (Str.join ⟨#[c]⟩ (y :: r)).cps).toList = _
    rw [Array.toList_append, Array.toList_append, ih]
    show x.cps.toList ++ [c] ++ jl c _ = x.cps.toList ++ c :: jl c _
    simp
theorem sp_eq : (" " : Str) = ⟨#[32]⟩ := by decide +kernel
theorem txt_join (s : Str) (ws : List Str) : Txt.join s ws = Str.join s ws := by
  show Builtin.Str.glued _ _ = _
  rw [StrLaws.glued_eq_join]
theorem split_join {ws : List Str} (h : ws ≠ []) (hf : ∀ w ∈ ws, 32 ∉ w.cps.toList) : Txt.split (Txt.join (" " : Str) ws) (" " : Str) = ws := by
  rw [sp_eq, txt_join]
  have e3 := congrArg (fun s : Str => s.cps.toList) (StrLaws.join_split (Str.join ⟨#[32]⟩ ws) ⟨#[32]⟩)
  have e3' : (Str.join ⟨#[32]⟩ (Txt.split (Str.join ⟨#[32]⟩ ws) ⟨#[32]⟩)).cps.toList = (Str.join ⟨#[32]⟩ ws).cps.toList := e3
  rw [join_jl, join_jl] at e3'
  have ne : Txt.split (Str.join ⟨#[32]⟩ ws) ⟨#[32]⟩ ≠ [] := fun z => by
    have := split_pos (Str.join ⟨#[32]⟩ ws) ⟨#[32]⟩
    rw [z] at this; simp at this
  have e4 := jl_inj (by simpa using ne) (by simpa using h) (fun x hx => by
    obtain ⟨w, hw, rfl⟩ := List.mem_map.mp hx
    exact StrLaws.split_free _ _ w hw) (fun x hx => by
    obtain ⟨w, hw, rfl⟩ := List.mem_map.mp hx
    exact hf w hw) e3'
  exact (List.map_inj_right fun x y h => by cases x; cases y; exact congrArg Str.mk (Array.toList_inj.mp h)).mp e4
end Lw

namespace Lw
open PySem PySem.Spec PyProof.Rows L2 Dl
theorem cutS_from {b : List Nat} {i : Int} (h0 : 0 ≤ i) (h : i ≤ b.length) : cutS ⟨b.toArray⟩ (some i) none = ⟨(b.drop i.toNat).toArray⟩ := by
  obtain ⟨n, rfl⟩ := Int.eq_ofNat_of_zero_le h0
  unfold cutS
  rw [HT.sIx_nat, HT.sIx_none]
  have l : (⟨b.toArray⟩ : Str).length = b.length := by simp [Str.length]
  rw [l, show min n b.length = n by omega]
  show (⟨(List.take (b.length - n) (List.drop n b)).toArray⟩ : Str) = _
  rw [List.take_of_length_le (by rw [List.length_drop]; omega)]
  rfl
end Lw

-- use base
-- use cuts
namespace Lw
open PySem PySem.Spec PyProof.Rows L2 Dl PySem.NumText
/-! ### numbers as texts -/
def txt (b : List Nat) : Str := ⟨b.toArray⟩
theorem txt_cps (b : List Nat) : (txt b).cps.toList = b := by simp [txt]
theorem txt_len (b : List Nat) : (txt b).length = b.length := by simp [txt, Str.length]
theorem txt_of (s : Str) : s = txt s.cps.toList := by
  obtain ⟨a⟩ := s
  simp [txt]
theorem txt_inj {a b : List Nat} : txt a = txt b ↔ a = b := by
  constructor
  · intro h
    have := congrArg (fun s : Str => s.cps.toList) h
    simpa [txt] using this
  · intro h; rw [h]
theorem txt_app (a b : List Nat) : txt a ++ txt b = txt (a ++ b) := by
  show (⟨a.toArray ++ b.toArray⟩ : Str) = _
  simp [txt]
def figL (b : List Nat) : List Nat := if b.head? = some 45 then b.tail else b
def isDg (c : Nat) : Bool := decide (48 ≤ c ∧ c ≤ 57)
theorem alld {b : List Nat} : b.all isDg = true ↔ AllDigits b := by
  rw [List.all_eq_true]
  constructor
  · intro h c hc; exact of_decide_eq_true (h c hc)
  · intro h c hc; exact decide_eq_true (h c hc)
def dgL (m : Nat) : List Nat := (Nat.toDigits 10 m).map Char.toNat
def nL (i : Int) : List Nat := if i < 0 then 45 :: dgL i.natAbs else dgL i.natAbs
theorem dgL_all (m : Nat) : AllDigits (dgL m) := by
  intro c hc
  obtain ⟨ch, hch, e⟩ := List.mem_map.mp hc
  have r := digit_range (Nat.isDigit_of_mem_toDigits (by decide) (by decide) hch)
  rw [← e]
  exact r
theorem dgL_ne (m : Nat) : dgL m ≠ [] := by
  intro e
  have h := toDigits_len_ge 10 m
  rw [List.map_eq_nil_iff.mp e] at h
  exact absurd h (by decide)
theorem nTxt (i : Int) : Str.ofString (toString i) = txt (nL i) := by
  rw [txt_of (Str.ofString (toString i)), signs_ofString]
  congr 1
  cases i with
  | ofNat m =>
    have h : ¬ ((Int.ofNat m : Int) < 0) := by simp
    unfold nL
    rw [if_neg h]
    show (Nat.repr m).toList.map Char.toNat = _
    rw [Nat.toList_repr]; rfl
  | negSucc m =>
    have h : (Int.negSucc m : Int) < 0 := Int.negSucc_lt_zero m
    unfold nL
    rw [if_pos h]
    show (String.append "-" (Nat.repr (m + 1))).toList.map Char.toNat = _
    have e : (String.append "-" (Nat.repr (m + 1))).toList = '-' :: (Nat.repr (m + 1)).toList := by
      show ("-" ++ Nat.repr (m + 1)).toList = _
      rw [String.toList_append]; rfl
    rw [e, List.map_cons, Nat.toList_repr]; rfl
theorem nL_len {i : Int} {k : Nat} (hk : 0 < k) (h : i.natAbs < 10 ^ k) : (nL i).length ≤ k + 1 := by
  have e := congrArg Str.length (nTxt i)
  rw [txt_len] at e
  rw [← e, PySem.ofString_length]
  have := int_text_length_le10 hk h
  omega
theorem nL_chars (i : Int) : ∀ c ∈ nL i, c = 45 ∨ (48 ≤ c ∧ c ≤ 57) := by
  intro c hc
  unfold nL at hc
  split at hc
  · rcases List.mem_cons.mp hc with rfl | hc
    · exact .inl rfl
    · exact .inr (dgL_all _ c hc)
  · exact .inr (dgL_all _ c hc)
theorem dg_val (m : Nat) : digitsVal (dgL m) = m := PySem.W.KIN.val_back m
theorem nL_read {i : Int} (h : (nL i).length ≤ 4300) : PySem.intText? (txt (nL i)) = some i := by
  unfold nL at h ⊢
  by_cases c : i < 0
  · rw [if_pos c] at h ⊢
    rw [intText_neg (cs := dgL i.natAbs) (by rw [txt_cps]) (dgL_all _) (dgL_ne _) (by rw [txt_len]; exact h), dg_val]
    congr 1; omega
  · rw [if_neg c] at h ⊢
    rw [intText_digits (by rw [txt_cps]; exact dgL_all _) (by rw [txt_cps]; exact dgL_ne _) (by rw [txt_len]; exact h), txt_cps, dg_val]
    congr 1; omega
/-- what may be read as a number -/
def GoodN (b : List Nat) : Bool := decide (1 ≤ (figL b).length) && (decide ((figL b).length ≤ 1000) && ((figL b).all isDg && (!decide ((figL b).head? = some 48) || decide (b = [48]))))
theorem good_read {b : List Nat} (h1 : figL b ≠ []) (h2 : (figL b).length ≤ 1000) (h3 : AllDigits (figL b)) : ∃ n, PySem.intText? (txt b) = some n := by
  unfold figL at h1 h2 h3
  cases b with
  | nil => exact absurd rfl h1
  | cons c r =>
    by_cases e : c = 45
    · subst e
      have f : (if (45 :: r).head? = some 45 then (45 :: r).tail else 45 :: r) = r := if_pos rfl
      rw [f] at h1 h2 h3
      exact ⟨_, intText_neg (cs := r) (by rw [txt_cps]) h3 h1 (by rw [txt_len, List.length_cons]; omega)⟩
    · have f : (if (c :: r).head? = some 45 then (c :: r).tail else c :: r) = c :: r := if_neg (by simpa using e)
      rw [f] at h1 h2 h3
      exact ⟨_, intText_digits (by rw [txt_cps]; exact h3) (by rw [txt_cps]; exact h1) (by rw [txt_len]; omega)⟩
theorem strOk_pow {i : Int} {k : Nat} (hk : k ≤ 4300) (h : i.natAbs < 10 ^ k) : StrOk i := Nat.lt_of_lt_of_le h (Nat.pow_le_pow_right (by decide) hk)
end Lw

-- use nums
namespace Lw
open PySem PySem.Spec PyProof.Rows L2 Dl PySem.NumText
/-! ### numbers read -/
theorem flat_txt {b : List Nat} (h : ∀ c ∈ b, c < 128) : Dl.flatD (.str (txt b)) := by
  refine ⟨by simp [D.flat], ?_⟩
  unfold SeqAt.shaped
  have e : PyData.canLay0 (D.py (.str (txt b))) = true := by
    show (txt b).cps.all (fun x => decide (x < 0x110000)) = true
    rw [← Array.all_toList, List.all_eq_true]
    intro c hc
    have := h c (by simpa [txt] using hc)
    exact decide_eq_true (by omega)
  rw [e, Bool.true_and]
  simp [D.py, PyData.depth]
theorem t_zero : ("0" : Str) = txt [48] := by decide +kernel
theorem t_minus : ("-" : Str) = txt [45] := by decide +kernel
theorem t_digits : ("0123456789" : Str).cps.toList = [48, 49, 50, 51, 52, 53, 54, 55, 56, 57] := by decide +kernel
theorem in_dg (c : Nat) : inSg (sg c) ("0123456789" : Str) = isDg c := by
  rw [inSg_sg, t_digits]
  unfold isDg
  by_cases h : 48 ≤ c ∧ c ≤ 57
  · rw [decide_eq_true h]
    refine decide_eq_true ?_
    simp only [List.mem_cons, List.not_mem_nil, or_false]; omega
  · rw [decide_eq_false h]
    refine decide_eq_false fun z => h ?_
    simp only [List.mem_cons, List.not_mem_nil, or_false] at z; omega
theorem sgs_txt (b : List Nat) : sgs (txt b) = b.map sg := by unfold sgs; rw [txt_cps]
theorem sg_zero (c : Nat) : (sg c = ("0" : Str)) ↔ c = 48 := by
  rw [t_zero]
  show txt [c] = txt [48] ↔ _
  rw [txt_inj]; simp
theorem sw_minus (b : List Nat) : Txt.startswith (txt b) ("-" : Str) = decide (b.head? = some 45) := by
  rw [t_minus]
  unfold Txt.startswith
  rw [txt_len, txt_len]
  cases b with
  | nil => rfl
  | cons c r =>
    have e : Builtin.Str.subAt (txt (c :: r)) (txt [45]) 0 = (#[c] == #[45]) := by
      unfold Builtin.Str.subAt
      rw [txt_len]
      show ((c :: r).toArray.extract 0 1 == #[45]) = _
      simp
    rw [e]
    by_cases h : c = 45
    · subst h; simp
    · simp [h]
theorem cut_fig {b : List Nat} (h : b.head? = some 45) : cutS (txt b) (some 1) none = txt (figL b) := by
  cases b with
  | nil => cases h
  | cons c r =>
    have e := cutS_from (b := c :: r) (i := 1) (by decide) (by simp; omega)
    rw [show txt (c :: r) = ⟨(c :: r).toArray⟩ from rfl, e]
    unfold figL
    rw [if_pos h]; rfl
theorem fig_no {b : List Nat} (h : b.head? ≠ some 45) : figL b = b := if_neg h
theorem fig_len (b : List Nat) : (figL b).length ≤ b.length := by
  unfold figL
  split <;> simp
theorem needed_eq (c : Bool) : F_needed c = if c = true then .ok () else .exc "NoText" [("line", .int 0)] := by cases c <;> rfl
def numE (b : List Nat) : Ex Int := if GoodN b = true then (match PySem.intText? (txt b) with | some n => .ok n | none => .bad) else .exc "NoText" [("line", .int 0)]
theorem good_iff (b : List Nat) : GoodN b = true ↔ (1 ≤ (figL b).length ∧ (figL b).length ≤ 1000) ∧ (figL b).all isDg = true ∧ ((figL b).head? ≠ some 48 ∨ b = [48]) := by
  unfold GoodN
  simp only [Bool.and_eq_true, Bool.or_eq_true, Bool.not_eq_true', decide_eq_true_eq, decide_eq_false_iff_not]
  constructor
  · rintro ⟨a, b, c, d⟩; exact ⟨⟨a, b⟩, c, d⟩
  · rintro ⟨⟨a, b⟩, c, d⟩; exact ⟨a, b, c, d⟩
theorem good_num {b : List Nat} (g : GoodN b = true) : ∃ n, PySem.intText? (txt b) = some n := by
  obtain ⟨⟨a, b'⟩, c, _⟩ := (good_iff b).mp g
  exact good_read (List.ne_nil_of_length_pos a) b' (alld.mp c)
theorem numE_bad {b : List Nat} (g : ¬ GoodN b = true) : numE b = .exc "NoText" [("line", .int 0)] := if_neg g
theorem all_id (f : List Nat) : (((f.map sg).map fun u => inSg u ("0123456789" : Str)).all id) = f.all isDg := by
  rw [List.map_map, List.all_map]
  congr 1
  funext c
  exact in_dg c
theorem fig_eq {β : Type} {b : List Nat} (hb : b.length ≤ 4000) (K : Str → Ex β) : (jpE K fun jk => if Txt.startswith (txt b) ("-" : Str) = true then gd ((txt b).length ≤ 100000) (letE (cutS (txt b) (some 1) none) fun f => jk f) else jk (txt b)) = K (txt (figL b)) := by
  show (if Txt.startswith (txt b) ("-" : Str) = true then gd ((txt b).length ≤ 100000) (letE (cutS (txt b) (some 1) none) fun f => K f) else K (txt b)) = K (txt (figL b))
  rw [sw_minus]
  by_cases h : b.head? = some 45
  · rw [if_pos (decide_eq_true h), gd_ok (by rw [txt_len]; omega), cut_fig h]; rfl
  · rw [if_neg (by rw [decide_eq_false h]; decide), fig_no h]
theorem read_ok {b : List Nat} (hb : b.length ≤ 4000) : F_read_number (txt b) = numE b := by
  unfold F_read_number
  rw [show F_needed true = .ok () from rfl, bindX_ok]
  refine (fig_eq hb _).trans ?_
  have fl := fig_len b
  have tl := txt_len (figL b)
  rw [gd_ok (by rw [tl]; omega)]
  rw [needed_eq, tl]
  by_cases h1 : 1 ≤ (figL b).length ∧ (figL b).length ≤ 1000
  case neg =>
    rw [if_neg (by simp only [Bool.and_eq_true, decide_eq_true_eq]; omega), numE_bad (fun g => h1 ((good_iff b).mp g).1)]; rfl
  rw [if_pos (by simp only [Bool.and_eq_true, decide_eq_true_eq]; omega)]
  show gd ((sgs (txt (figL b))).length ≤ 100000) _ = _
  rw [sgs_txt, gd_ok (by rw [List.length_map]; omega), compE_map (g := fun u => inSg u ("0123456789" : Str)) _ (fun x hx => by
    obtain ⟨c, _, rfl⟩ := List.mem_map.mp hx
    exact gd_ok (oneS_sg c)), bindP_ok, all_id, needed_eq]
  by_cases h2 : (figL b).all isDg = true
  case neg =>
    rw [if_neg h2, numE_bad (fun g => h2 ((good_iff b).mp g).2.1)]; rfl
  rw [if_pos h2]
  show gd ((txt (figL b)).length ≤ 100000) _ = _
  rw [gd_ok (by rw [tl]; omega)]
  obtain ⟨c, r, e⟩ := List.exists_cons_of_length_pos h1.1
  have ix : ixE (txt (figL b)).cps.toList 0 = .ok c := by rw [txt_cps, e]; rfl
  rw [ix, bindP_ok, needed_eq]
  have hd : (figL b).head? = some c := by rw [e]; rfl
  have z1 : decide (sg c = ("0" : Str)) = decide (c = 48) := by congr 1; exact propext (sg_zero c)
  have z2 : decide (txt b = ("0" : Str)) = decide (b = [48]) := by rw [t_zero]; congr 1; exact propext txt_inj
  rw [z1, z2]
  by_cases h3 : (figL b).head? ≠ some 48 ∨ b = [48]
  case neg =>
    have c48 : c = 48 := by
      have := not_or.mp h3
      have := Classical.not_not.mp this.1
      rw [hd] at this; exact Option.some.inj this
    have nb : b ≠ [48] := (not_or.mp h3).2
    rw [if_neg (by rw [decide_eq_true c48, decide_eq_false nb]; decide), numE_bad (fun g => h3 ((good_iff b).mp g).2.2)]; rfl
  have g : GoodN b = true := (good_iff b).mpr ⟨h1, h2, h3⟩
  have t : (!decide (c = 48) || decide (b = [48])) = true := by
    rcases h3 with h | h
    · rw [decide_eq_false (fun z => h (by rw [hd, z]))]; rfl
    · rw [decide_eq_true h]; simp
  rw [if_pos t]
  show gd ((txt b).length ≤ 4300) _ = _
  rw [gd_ok (by rw [txt_len]; omega)]
  obtain ⟨n, hn⟩ := good_num g
  unfold numE
  rw [if_pos g, hn]; rfl
theorem numE_cases (b : List Nat) : (∃ n, GoodN b = true ∧ PySem.intText? (txt b) = some n ∧ numE b = .ok n) ∨ (¬ GoodN b = true ∧ numE b = .exc "NoText" [("line", .int 0)]) := by
  by_cases g : GoodN b = true
  · obtain ⟨n, hn⟩ := good_num g
    refine .inl ⟨n, g, hn, ?_⟩
    unfold numE
    rw [if_pos g, hn]
  · exact .inr ⟨g, numE_bad g⟩
end Lw

-- use base
namespace Lw
open PySem PySem.Spec PyProof.Rows L2 Dl
/-! ### rules -/
abbrev RowsT := List (Int × Int)
structure RowsIn (rs : RowsT) : Prop where
  l1 : 1 ≤ rs.length
  l5 : rs.length ≤ 5
  b : ∀ r ∈ rs, 0 ≤ r.1 ∧ r.1 ≤ 10 ^ 23 ∧ 1 ≤ r.2 ∧ r.2 ≤ 10 ^ 36
  asc : ∀ (i : Nat) (x y : Int × Int), rs[i]? = some x → rs[i + 1]? = some y → x.1 ≤ y.1 ∧ x.2 ∣ y.2
def GoneIn (rs : RowsT) (g : Option Int) : Prop := ∀ v, g = some v → v ≤ 10 ^ 24 ∧ ∀ r ∈ rs, r.1 ≤ v
theorem RowsIn.ne {rs : RowsT} (h : RowsIn rs) : rs ≠ [] := List.ne_nil_of_length_pos (by have := h.l1; omega)
/-- the last row -/
def lastR (rs : RowsT) : Int × Int := rs.getLastD (0, 1)
theorem lastR_get {rs : RowsT} (h : rs ≠ []) : rs[rs.length - 1]? = some (lastR rs) := by
  unfold lastR
  rw [← List.getLast?_eq_getElem?, List.getLast?_eq_some_getLast h]
  cases rs with
  | nil => exact absurd rfl h
  | cons a as => simp [List.getLastD]
theorem lastR_mem {rs : RowsT} (h : rs ≠ []) : lastR rs ∈ rs := List.mem_of_getElem? (lastR_get h)
theorem ix_last {rs : RowsT} (h : rs ≠ []) : ixE rs (-1) = .ok (lastR rs) := by
  have l := List.length_pos_iff.mpr h
  refine ixE_neg (by decide) (by omega) ?_
  have e : (-1 + (rs.length : Int)).toNat = rs.length - 1 := by omega
  rw [e]; exact lastR_get h
theorem asc_le {rs : RowsT} (h : RowsIn rs) : ∀ (k i : Nat) (x y : Int × Int), rs[i]? = some x → rs[i + k]? = some y → x.1 ≤ y.1 ∧ x.2 ∣ y.2
  | 0, i, x, y, hx, hy => by
    rw [Nat.add_zero, hx] at hy; cases hy
    exact ⟨Int.le_refl _, Int.dvd_refl _⟩
  | k + 1, i, x, y, hx, hy => by
    have l : i + k < rs.length := by have := (List.getElem?_eq_some_iff.mp hy).1; omega
    have hz := List.getElem?_eq_getElem l
    obtain ⟨a, b⟩ := asc_le h k i x _ hx hz
    obtain ⟨c, d⟩ := h.asc (i + k) _ y hz hy
    exact ⟨Int.le_trans a c, Int.dvd_trans b d⟩
theorem init_ok {rs : RowsT} {g : Option Int} (h : RowsIn rs) (hg : GoneIn rs g) : F_Rule_init rs g = .ok (rs, g) := by
  unfold F_Rule_init
  have l1 := h.l1
  have l5 := h.l5
  refine Ret.eq (Ret.f ?_ (Ret.fold (fun i z => z.2.2 = rs.take i ∧ (i = 0 → z.1 = 0 ∧ z.2.1 = 1) ∧ (∀ j, i = j + 1 → rs[j]? = some (z.1, z.2.1))) ⟨rfl, fun _ => ⟨rfl, rfl⟩, fun j e => by omega⟩ ?_ ?_))
  · simp; omega
  · rintro j ⟨old, broad, row⟩ x hx ⟨h1, h2, h3⟩
    dsimp only at h1 h2 h3
    have bx := h.b x (List.mem_of_getElem? hx)
    have lt := (List.getElem?_eq_some_iff.mp hx).1
    have key : old ≤ x.1 ∧ broad ∣ x.2 ∧ 0 < broad := by
      cases j with
      | zero =>
        obtain ⟨a, b⟩ := h2 rfl
        subst a b
        exact ⟨bx.1, Int.one_dvd _, by decide⟩
      | succ j =>
        have e := h3 j rfl
        have be := h.b _ (List.mem_of_getElem? e)
        obtain ⟨a, b⟩ := h.asc j _ _ e hx
        exact ⟨a, b, by have := be.2.2.1; exact this⟩
    refine (Ret.orE (P := fun b => b = false) (fun _ => (Ret.orE (P := fun b => b = false) (fun _ => Ret.gd key.2.2 (Ret.ok ?_)) (fun z => absurd (of_decide_eq_true z) (by omega))).bindP fun b hb => Ret.ok hb) (fun z => absurd (of_decide_eq_true z) (by omega))).bindP fun b hb => Ret.f hb (Ret.gd (by rw [h1, List.length_take]; omega) (Ret.ok ⟨?_, ?_, ?_⟩))
    · simp [Int.emod_eq_zero_of_dvd key.2.1]
    · dsimp only
      rw [h1, List.take_add_one, hx]; rfl
    · intro z; omega
    · intro k e
      have : k = j := by omega
      subst this
      exact hx
  · rintro ⟨old, broad, row⟩ ⟨h1, h2, h3⟩
    dsimp only at h1 h2 h3
    have e := h3 (rs.length - 1) (by omega)
    refine (Ret.andE (P := fun b => b = false) (fun z => ?_) (fun _ => rfl)).bindP fun b hb => Ret.f hb (Ret.ok ?_)
    · cases g with
      | none => cases z
      | some v =>
        refine Ret.someE rfl (Ret.ok ?_)
        have := (hg v rfl).2 _ (List.mem_of_getElem? e)
        have q : old ≤ v := this
        simp; omega
    · rw [h1, List.take_length]
/-! ### edges -/
def cutV (a w d : Int) : Int := (d - a) / w * w
def edgesV (rs : RowsT) (g : Option Int) (d : Int) : List (Option Int) := (rs.map fun r => some (cutV r.1 r.2 d)) ++ [g.map fun v => cutV v (lastR rs).2 d]
end Lw

-- use rule
namespace Lw
open PySem PySem.Spec PyProof.Rows L2 Dl
/-! ### which steps are a rule, whatever they are -/
def bad1 (old broad : Int) (x : Int × Int) : Bool := decide (x.1 < old) || (decide (x.2 < 1) || !decide (x.2 % broad = 0))
def scan : Int → Int → RowsT → Option Int
  | old, _, [] => some old
  | old, broad, x :: xs => if bad1 old broad x = true then none else scan x.1 x.2 xs
def goneOk (g : Option Int) (old : Int) : Bool := match g with
  | none => true
  | some v => !decide (v < old)
def validB (rs : RowsT) (g : Option Int) : Bool := decide (1 ≤ rs.length ∧ rs.length ≤ 5) && match scan 0 1 rs with
  | none => false
  | some old => goneOk g old
theorem bad1_pos {old broad : Int} {x : Int × Int} (h : bad1 old broad x = false) : 0 < x.2 := by
  unfold bad1 at h
  simp only [Bool.or_eq_false_iff, decide_eq_false_iff_not] at h
  omega
theorem init_loop {k : Int × Int × RowsT → Ex (RowsT × Option Int)} : ∀ (rs : RowsT) (old broad : Int) (acc : RowsT), 0 < broad → acc.length + rs.length ≤ 1000 →
    bindX (foldE (fun ((old5, broad6, row7) : Int × Int × (List (Int × Int))) (x8 : Int × Int) => bindP (orE (decide (x8.1 < old5)) (bindP (orE (decide (x8.2 < 1)) (gd (0 < broad6) (.ok (!decide (x8.2 % broad6 = 0))))) fun b11 => .ok b11)) fun b13 => if b13 = true then .exc "NoRule" [] else gd (row7.length ≤ 100000) (.ok (x8.1, x8.2, (row7 ++ [(x8.1, x8.2)])))) (old, broad, acc) rs) k
    = match scan old broad rs with
      | none => .exc "NoRule" []
      | some o => k (o, (rs.getLastD (0, broad)).2, acc ++ rs)
  | [], old, broad, acc, _, _ => by rw [List.append_nil]; rfl
  | x :: xs, old, broad, acc, hb, hl => by
    rw [foldE_cons]
    dsimp only
    have e : bindP (orE (decide (x.1 < old)) (bindP (orE (decide (x.2 < 1)) (gd (0 < broad) (.ok (!decide (x.2 % broad = 0))))) fun b11 => .ok b11)) (fun b13 => if b13 = true then (.exc "NoRule" [] : Ex (Int × Int × RowsT)) else gd (acc.length ≤ 100000) (.ok (x.1, x.2, (acc ++ [(x.1, x.2)])))) = if bad1 old broad x = true then .exc "NoRule" [] else .ok (x.1, x.2, (acc ++ [(x.1, x.2)])) := by
      rw [gd_ok hb, gd_ok (show acc.length ≤ 100000 by omega)]
      unfold bad1
      cases decide (x.1 < old) <;> cases decide (x.2 < 1) <;> rfl
    rw [e]
    unfold scan
    by_cases h : bad1 old broad x = true
    · rw [if_pos h, if_pos h]; rfl
    · rw [if_neg h, if_neg h]
      have h' := Bool.eq_false_iff.mpr h
      have ih := init_loop (k := k) xs x.1 x.2 (acc ++ [(x.1, x.2)]) (bad1_pos h') (by simp at hl ⊢; omega)
      refine Eq.trans ih ?_
      cases scan x.1 x.2 xs with
      | none => rfl
      | some o =>
        dsimp only
        have e1 : acc ++ [(x.1, x.2)] ++ xs = acc ++ x :: xs := by simp
        have e2 : (List.getLastD xs (0, x.2)).2 = (List.getLastD (x :: xs) (0, broad)).2 := by cases xs <;> simp [List.getLastD]
        rw [e1, e2]
theorem init_eq {rs : RowsT} {g : Option Int} (hl : rs.length ≤ 900) : F_Rule_init rs g = if validB rs g = true then .ok (rs, g) else .exc "NoRule" [] := by
  unfold F_Rule_init validB
  rw [init_loop rs 0 1 [] (by decide) (by simp; omega)]
  by_cases c : 1 ≤ rs.length ∧ rs.length ≤ 5
  · have c1 : decide (1 ≤ (rs.length : Int)) = true := decide_eq_true (by omega)
    have c2 : decide ((rs.length : Int) ≤ 5) = true := decide_eq_true (by omega)
    rw [decide_eq_true c, c1, c2]
    cases scan 0 1 rs with
    | none => rfl
    | some o =>
      cases g with
      | none => rfl
      | some v =>
        unfold goneOk
        dsimp only
        rw [if_neg (by decide), List.nil_append]
        have key : ∀ b : Bool, (if b = true then (.exc "NoRule" [] : Ex (RowsT × Option Int)) else .ok (rs, some v)) = if (!b) = true then .ok (rs, some v) else .exc "NoRule" [] := fun b => by cases b <;> rfl
        exact key (decide (v < o))
  · rw [decide_eq_false c]
    have q : (!(decide (1 ≤ (rs.length : Int)) && decide ((rs.length : Int) ≤ 5))) = true := by
      simp only [Bool.not_eq_true', Bool.and_eq_false_iff, decide_eq_false_iff_not]
      omega
    rw [if_pos q]; rfl
end Lw

-- use splits
-- use rdnum
-- use rvalid
namespace Lw
open PySem PySem.Spec PyProof.Rows L2 Dl PySem.NumText PySem.Builtin PySem.Builtin.Str
/-! ### rules as texts, read -/
theorem t_colon : (":" : Str) = txt [58] := by decide +kernel
theorem t_gone : ("gone" : Str) = txt [103, 111, 110, 101] := by decide +kernel
abbrev goneL : List Nat := [103, 111, 110, 101]
/-- words with blanks between -/
theorem jl_txt (ws : List (List Nat)) : Txt.join (" " : Str) (ws.map txt) = txt (jl 32 ws) := by
  rw [txt_join, sp_eq, txt_of (Str.join _ _), join_jl, List.map_map]
  congr 2
  exact (List.map_congr_left fun a _ => txt_cps a).trans (List.map_id _)
theorem split_jl {ws : List (List Nat)} (h : ws ≠ []) (hf : ∀ w ∈ ws, 32 ∉ w) : Txt.split (txt (jl 32 ws)) (" " : Str) = ws.map txt := by
  rw [← jl_txt]
  refine split_join (by simpa using h) fun w hw => ?_
  obtain ⟨b, hb, rfl⟩ := List.mem_map.mp hw
  rw [txt_cps]; exact hf b hb
theorem jl_cons (c : Nat) (x : List Nat) {r : List (List Nat)} (h : r ≠ []) : jl c (x :: r) = x ++ c :: jl c r := by
  cases r with
  | nil => exact absurd rfl h
  | cons y r => rfl
theorem jl_one (c : Nat) (x : List Nat) : jl c [x] = x := rfl
theorem jl_app (c : Nat) : ∀ {xs ys : List (List Nat)}, xs ≠ [] → ys ≠ [] → jl c (xs ++ ys) = jl c xs ++ c :: jl c ys
  | [], _, h, _ => absurd rfl h
  | [x], ys, _, h => jl_cons c x h
  | x :: y :: r, ys, _, h => by
    rw [List.cons_append, jl_cons c x (by simp), jl_app c (xs := y :: r) (by simp) h, jl_cons c x (by simp), List.append_assoc]; rfl
theorem jl_le (c n : Nat) : ∀ (ws : List (List Nat)), (∀ w ∈ ws, w.length ≤ n) → (jl c ws).length ≤ ws.length * (n + 1)
  | [], _ => Nat.zero_le _
  | [x], h => by
    have := h x (by simp)
    rw [jl_one]; simp; omega
  | x :: y :: r, h => by
    have ih := jl_le c n (y :: r) fun w hw => h w (List.mem_cons_of_mem _ hw)
    have := h x (by simp)
    rw [jl_cons c x (by simp), List.length_append, List.length_cons, List.length_cons, Nat.add_mul]
    omega
/-! numbers as they are written -/
theorem dg_head : ∀ (k m : Nat), m < k → 0 < m → (dgL m).head? ≠ some 48
  | 0, m, h, _ => by omega
  | k + 1, m, h, h0 => by
    unfold dgL
    by_cases c : m < 10
    · rw [Nat.toDigits_of_lt_base c]
      have : m = 1 ∨ m = 2 ∨ m = 3 ∨ m = 4 ∨ m = 5 ∨ m = 6 ∨ m = 7 ∨ m = 8 ∨ m = 9 := by omega
      rcases this with rfl | rfl | rfl | rfl | rfl | rfl | rfl | rfl | rfl <;> decide
    · have e : m = 10 * (m / 10) + m % 10 := by omega
      have ap := Nat.toDigits_append_toDigits (b := 10) (n := m / 10) (d := m % 10) (by decide) (by omega) (by omega)
      rw [← e] at ap
      rw [← ap, List.map_append]
      have ih := dg_head k (m / 10) (by omega) (by omega)
      have ne := dgL_ne (m / 10)
      unfold dgL at ih ne
      cases q : (Nat.toDigits 10 (m / 10)).map Char.toNat with
      | nil => exact absurd q ne
      | cons x r =>
        rw [q] at ih
        exact ih
theorem fig_nL (i : Int) : figL (nL i) = dgL i.natAbs := by
  unfold nL figL
  by_cases c : i < 0
  · rw [if_pos c]; rfl
  · rw [if_neg c]
    refine if_neg fun z => ?_
    have h := dgL_all i.natAbs
    cases q : dgL i.natAbs with
    | nil => rw [q] at z; cases z
    | cons x r =>
      rw [q] at z h
      have := h x (List.mem_cons_self ..)
      cases z
      omega
theorem good_nL {i : Int} (h : i.natAbs < 10 ^ 1000) : GoodN (nL i) = true := by
  rw [good_iff, fig_nL]
  refine ⟨⟨List.length_pos_iff.mpr (dgL_ne _), ?_⟩, alld.mpr (dgL_all _), ?_⟩
  · unfold dgL
    rw [List.length_map]
    exact digits10_le (by decide) h
  · by_cases z : i.natAbs = 0
    · have : i = 0 := by omega
      subst this
      exact .inr (by decide)
    · exact .inl (dg_head _ _ (Nat.lt_succ_self _) (by omega))
theorem numE_nL {i : Int} (h : i.natAbs < 10 ^ 1000) : numE (nL i) = .ok i := by
  have l := nL_len (k := 1000) (by decide) h
  unfold numE
  rw [if_pos (good_nL h), nL_read (by omega)]
theorem nL_no {i : Int} {c : Nat} (h : ¬ (c = 45 ∨ (48 ≤ c ∧ c ≤ 57))) : c ∉ nL i := fun z => h (nL_chars i c z)
theorem nL_ne (i : Int) : nL i ≠ [] := by
  unfold nL
  split
  · simp
  · exact dgL_ne _
/-! a text cut at a sign -/
theorem ssub_txt (b : List Nat) (i j : Nat) : strSub (txt b) i j = txt ((b.drop i).take (j - i)) := by
  show (⟨b.toArray.extract i j⟩ : Str) = ⟨((b.drop i).take (j - i)).toArray⟩
  congr 1
  simp [List.extract_toArray, List.extract_eq_drop_take]
theorem occ1_none {b : List Nat} {c n : Nat} (hn : 1 ≤ n) (h : c ∉ b) : occurrences (txt b) ⟨#[c]⟩ 0 (txt b).length n = [] := by
  rcases StrLaws.occ_head (txt b) ⟨#[c]⟩ n hn with ⟨e, _⟩ | ⟨i, r, _, hi, _⟩
  · exact e
  · have := (StrLaws.subAt_one _ _ _).mp hi
    rw [txt_cps] at this
    exact absurd (List.mem_of_getElem? this) h
theorem occ1_at {a b : List Nat} {c : Nat} (h : c ∉ a) : occurrences (txt (a ++ c :: b)) ⟨#[c]⟩ 0 (txt (a ++ c :: b)).length 1 = [a.length] := by
  have ha : StrLaws.At (txt (a ++ c :: b)) ⟨#[c]⟩ (txt (a ++ c :: b)).length a.length := (StrLaws.subAt_one _ _ _).mpr (by rw [txt_cps]; simp)
  rcases StrLaws.occ_head (txt (a ++ c :: b)) ⟨#[c]⟩ 1 (Nat.le_refl 1) with ⟨_, hn⟩ | ⟨i, r, e, hi, hn⟩
  · exact absurd ha (hn _)
  · have l := StrLaws.occ_length_le (txt (a ++ c :: b)) ⟨#[c]⟩ 0 (txt (a ++ c :: b)).length 1
    rw [e] at l
    have r0 : r = [] := by
      cases r with
      | nil => rfl
      | cons x y => simp at l
    subst r0
    have hi' := (StrLaws.subAt_one _ _ _).mp hi
    rw [txt_cps] at hi'
    have : i = a.length := by
      by_cases l1 : i < a.length
      · rw [List.getElem?_append_left l1] at hi'
        exact absurd (List.mem_of_getElem? hi') h
      · by_cases l2 : a.length < i
        · exact absurd ha (hn _ l2)
        · omega
    rw [e, this]
theorem part_no {b : List Nat} {c : Nat} (h : c ∉ b) : Txt.partition (txt b) ⟨#[c]⟩ = (txt b, ("" : Str), ("" : Str)) := by
  unfold Txt.partition
  rw [occ1_none (by decide) h]; rfl
theorem part_at {a b : List Nat} {c : Nat} (h : c ∉ a) : Txt.partition (txt (a ++ c :: b)) ⟨#[c]⟩ = (txt a, ⟨#[c]⟩, txt b) := by
  unfold Txt.partition
  rw [occ1_at h]
  show (strSub (txt (a ++ c :: b)) 0 a.length, (⟨#[c]⟩ : Str), strSub (txt (a ++ c :: b)) (a.length + 1) (txt (a ++ c :: b)).length) = _
  rw [ssub_txt, ssub_txt, txt_len]
  congr 2
  · simp
  · congr 1
    rw [show a.length + 1 = (a ++ [c]).length by simp, show a ++ c :: b = (a ++ [c]) ++ b by simp, List.drop_left]
    rw [List.length_append, Nat.add_sub_cancel_left, List.take_length]
/-! steps -/
def noT {α : Type} : Ex α := .exc "NoText" [("line", .int 0)]
def BadS (w : List Nat) : Prop := 58 ∉ w ∨ ∃ a d, w = a ++ 58 :: d ∧ 58 ∉ a ∧ (¬ GoodN a = true ∨ ¬ GoodN d = true)
def GoodS (w : List Nat) (x : Int × Int) : Prop := ∃ a d, w = a ++ 58 :: d ∧ 58 ∉ a ∧ numE a = .ok x.1 ∧ numE d = .ok x.2
theorem step_eq {a d : List Nat} (h : 58 ∉ a) (hl : (a ++ 58 :: d).length ≤ 4000) : F_read_step (txt (a ++ 58 :: d)) = bindX (numE a) fun x => bindX (numE d) fun y => .ok (x, y) := by
  rw [List.length_append, List.length_cons] at hl
  unfold F_read_step
  rw [gd_ok (by rw [txt_len, List.length_append, List.length_cons]; omega), show (":" : Str) = ⟨#[58]⟩ from by decide +kernel, part_at h]
  dsimp only [letE]
  rw [decide_eq_true rfl, needed_eq, if_pos rfl, bindX_ok]
  rw [read_ok (show a.length ≤ 4000 by omega), read_ok (show d.length ≤ 4000 by omega)]
theorem step_bad {w : List Nat} (h : BadS w) (hl : w.length ≤ 4000) : F_read_step (txt w) = noT := by
  rcases h with h | ⟨a, d, rfl, h, hb⟩
  · unfold F_read_step
    rw [gd_ok (by rw [txt_len]; omega), show (":" : Str) = ⟨#[58]⟩ from by decide +kernel, part_no h]
    dsimp only [letE]
    rw [decide_eq_false (by decide), needed_eq, if_neg (by decide)]; rfl
  · rw [step_eq h hl]
    rcases numE_cases a with ⟨n, g, _, e⟩ | ⟨g, e⟩
    · rw [e, bindX_ok]
      rcases hb with hb | hb
      · exact absurd g hb
      · rw [numE_bad hb]; rfl
    · rw [e]; rfl
theorem step_good {w : List Nat} {x : Int × Int} (h : GoodS w x) (hl : w.length ≤ 4000) : F_read_step (txt w) = .ok x := by
  obtain ⟨a, d, rfl, h, e1, e2⟩ := h
  rw [step_eq h hl, e1, bindX_ok, e2]; rfl
theorem first_cut {c : Nat} : ∀ {w : List Nat}, c ∈ w → ∃ a d, w = a ++ c :: d ∧ c ∉ a
  | [], h => by cases h
  | x :: w, h => by
    by_cases e : c = x
    · exact ⟨[], w, by rw [e]; rfl, by simp⟩
    · obtain ⟨a, d, e1, e2⟩ := first_cut ((List.mem_cons.mp h).resolve_left e)
      exact ⟨x :: a, d, by rw [e1]; rfl, fun z => (List.mem_cons.mp z).elim e e2⟩
inductive F2 {α β : Type} (R : α → β → Prop) : List α → List β → Prop
  | nil : F2 R [] []
  | cons {x : α} {y : β} {xs : List α} {ys : List β} : R x y → F2 R xs ys → F2 R (x :: xs) (y :: ys)
theorem step_cases (w : List Nat) : BadS w ∨ ∃ x, GoodS w x := by
  by_cases h : 58 ∈ w
  · obtain ⟨a, d, e, h2⟩ := first_cut h
    rcases numE_cases a with ⟨n, g, _, e1⟩ | ⟨g, _⟩
    · rcases numE_cases d with ⟨m, g2, _, e2⟩ | ⟨g2, _⟩
      · exact .inr ⟨(n, m), a, d, e, h2, e1, e2⟩
      · exact .inl (.inr ⟨a, d, e, h2, .inr g2⟩)
    · exact .inl (.inr ⟨a, d, e, h2, .inl g⟩)
  · exact .inl (.inl h)
/-! the rule -/
noncomputable def tailE (ws : List (List Nat)) (g : Option Int) : Ex (RowsT × Option Int) := bindX (compX (fun u => F_read_step u) (ws.map txt)) fun ys => if validB ys g = true then .ok (ys, g) else noT
theorem compX_len {α β : Type} {f : α → Ex β} : ∀ {xs : List α} {ys : List β}, compX f xs = .ok ys → ys.length = xs.length
  | [], ys, h => by cases h; rfl
  | x :: xs, ys, h => by
    unfold compX at h
    cases e : f x with
    | ok y =>
      rw [e, bindX_ok] at h
      cases e2 : compX f xs with
      | ok zs => rw [e2, bindX_ok] at h; cases h; rw [List.length_cons, List.length_cons, compX_len e2]
      | exc n fs => rw [e2] at h; cases h
      | bad => rw [e2] at h; cases h
    | exc n fs => rw [e] at h; cases h
    | bad => rw [e] at h; cases h
theorem bindX_cong {α β : Type} {m : Ex α} {k k' : α → Ex β} (h : ∀ a, m = .ok a → k a = k' a) : bindX m k = bindX m k' := by
  cases m with
  | ok a => exact h a rfl
  | exc n fs => rfl
  | bad => rfl
theorem tail_of (ws : List (List Nat)) (g : Option Int) (hl : ws.length ≤ 900) : (gd ((ws.map txt).length ≤ 100000) (bindX (compX (fun (u24 : Str) => F_read_step u24) (ws.map txt)) fun ys27 => jpE (fun (rule38 : (List (Int × Int)) × (Option Int)) => .ok rule38) fun jk29 => tryF ["NoRule"] (bindX (F_Rule_init ys27 g) fun rule32 => .ok rule32) jk29 [(["NoRule"], fun e34 => .exc "NoText" [("line", .int 0)])])) = tailE ws g := by
  rw [gd_ok (by rw [List.length_map]; omega)]
  refine bindX_cong fun ys hy => ?_
  have ly := compX_len hy
  rw [List.length_map] at ly
  show tryF ["NoRule"] (bindX (F_Rule_init ys g) fun rule32 => .ok rule32) (fun r => .ok r) _ = _
  rw [init_eq (by omega)]
  by_cases v : validB ys g = true
  · rw [if_pos v, if_pos v]
    exact tryF_ok (a := (ys, g)) rfl
  · rw [if_neg v, if_neg v]
    exact (tryF_exc (n := "NoRule") (fs := []) rfl (by decide)).trans (hdF_yes (by dsimp only; decide))
theorem tail_bad {w : List Nat} : ∀ {ws : List (List Nat)} {g : Option Int}, w ∈ ws → BadS w → (∀ v ∈ ws, v.length ≤ 4000) → tailE ws g = noT := by
  intro ws g hw hb hl
  have key : ∀ (vs : List (List Nat)), w ∈ vs → (∀ v ∈ vs, v.length ≤ 4000) → compX (fun u => F_read_step u) (vs.map txt) = noT := by
    intro vs
    induction vs with
    | nil => intro h; cases h
    | cons v vs ih =>
      intro h hl
      rw [List.map_cons]
      unfold compX
      rcases step_cases v with q | ⟨x, q⟩
      · rw [step_bad q (hl v (List.mem_cons_self ..))]; rfl
      · rw [step_good q (hl v (List.mem_cons_self ..)), bindX_ok]
        rcases List.mem_cons.mp h with rfl | h
        · have e1 := step_bad hb (hl w (List.mem_cons_self ..))
          rw [step_good q (hl w (List.mem_cons_self ..))] at e1
          cases e1
        · rw [ih h fun u hu => hl u (List.mem_cons_of_mem _ hu)]; rfl
  unfold tailE
  rw [key ws hw hl]; rfl
theorem tail_good {ws : List (List Nat)} {rs : RowsT} {g : Option Int} (h : ∀ v ∈ ws, v.length ≤ 4000) (hg : F2 GoodS ws rs) : tailE ws g = if validB rs g = true then .ok (rs, g) else noT := by
  have key : ∀ (vs : List (List Nat)) (xs : RowsT), F2 GoodS vs xs → (∀ v ∈ vs, v.length ≤ 4000) → compX (fun u => F_read_step u) (vs.map txt) = .ok xs := by
    intro vs xs h
    induction h with
    | nil => intro _; rfl
    | cons a b ih =>
      intro hl
      rw [List.map_cons]
      unfold compX
      rw [step_good a (hl _ (List.mem_cons_self ..)), bindX_ok, ih fun u hu => hl u (List.mem_cons_of_mem _ hu)]; rfl
  unfold tailE
  rw [key ws rs hg h]; rfl
theorem ix_m2 {α : Type} (ws : List α) (x y : α) : ixE (ws ++ [x, y]) (-2) = .ok x := by
  refine ixE_neg (by decide) (by simp; omega) ?_
  rw [show (-2 + ((ws ++ [x, y]).length : Int)).toNat = ws.length by simp; omega]
  simp
theorem ix_m1 {α : Type} (ws : List α) (x y : α) : ixE (ws ++ [x, y]) (-1) = .ok y := by
  refine ixE_neg (by decide) (by simp; omega) ?_
  rw [show (-1 + ((ws ++ [x, y]).length : Int)).toNat = ws.length + 1 by simp; omega]
  rw [List.getElem?_append_right (by omega)]
  simp
theorem two_end {α : Type} {ws : List α} (h : 2 ≤ ws.length) : ∃ us x y, ws = us ++ [x, y] := by
  refine ⟨ws.take (ws.length - 2), ws[ws.length - 2], ws[ws.length - 1], ?_⟩
  have e := List.take_append_drop (ws.length - 2) ws
  rw [List.drop_eq_getElem_cons (by omega), List.drop_eq_getElem_cons (by omega)] at e
  have e3 : ws.drop (ws.length - 2 + 1 + 1) = [] := List.drop_eq_nil_of_le (by omega)
  rw [e3] at e
  have e4 : ws.length - 2 + 1 = ws.length - 1 := by omega
  simp only [e4] at e
  exact e.symm
theorem cut_m2 {α : Type} (ws : List α) (x y : α) : cutD' (ws ++ [x, y]) none (some (-2)) = ws := by
  have e : HT.sIx (ws ++ [x, y]).length (ws ++ [x, y]).length (some (-2)) = ws.length := by
    unfold HT.sIx
    simp; omega
  have e0 : HT.sIx (ws ++ [x, y]).length 0 none = 0 := rfl
  unfold cutD'
  rw [e, e0, List.drop_zero, Nat.sub_zero, List.take_left]
/-- a rule's text, with words that have no blank -/
theorem rr_gone {ws : List (List Nat)} {l : List Nat} (h : ws ≠ []) (hf : ∀ w ∈ ws, 32 ∉ w) (hfl : 32 ∉ l) (hl : ws.length ≤ 900) (hz : (jl 32 (ws ++ [goneL, l])).length ≤ 100000) (hl4 : l.length ≤ 4000) :
    F_read_rule (txt (jl 32 (ws ++ [goneL, l]))) = bindX (numE l) fun v => tailE ws (some v) := by
  unfold F_read_rule
  have w1 := List.length_pos_iff.mpr h
  rw [show F_needed true = .ok () from rfl, bindX_ok, gd_ok (by rw [txt_len]; exact hz), split_jl (by simp) (fun w hw => by
    rcases List.mem_append.mp hw with hw | hw
    · exact hf w hw
    · simp only [List.mem_cons, List.not_mem_nil, or_false] at hw
      rcases hw with rfl | rfl
      · decide
      · exact hfl), List.map_append, List.map_cons, List.map_cons, List.map_nil]
  dsimp only [letE]
  rw [decide_eq_true (by simp; omega), andE_t, ix_m2, bindP_ok, ← t_gone, decide_eq_true rfl, bindP_ok]
  show bindP (ixE (ws.map txt ++ [("gone" : Str), txt l]) (-1)) _ = _
  rw [ix_m1, bindP_ok, read_ok hl4]
  refine bindX_cong fun v _ => ?_
  show (fun (a : List Str) => _) (cutD' (ws.map txt ++ [("gone" : Str), txt l]) none (some (-2))) = _
  rw [cut_m2]
  exact tail_of ws (some v) hl
theorem rr_plain {ws : List (List Nat)} (h : ws ≠ []) (hf : ∀ w ∈ ws, 32 ∉ w) (hl : ws.length ≤ 900) (hz : (jl 32 ws).length ≤ 100000) (hn : ∀ us x y, ws = us ++ [x, y] → us ≠ [] → x ≠ goneL) :
    F_read_rule (txt (jl 32 ws)) = tailE ws none := by
  unfold F_read_rule
  rw [show F_needed true = .ok () from rfl, bindX_ok, gd_ok (by rw [txt_len]; exact hz), split_jl h hf]
  show bindP (andE (decide (2 < ((ws.map txt).length : Int))) (bindP (ixE (ws.map txt) (-2)) fun x10 => .ok (decide (x10 = ("gone" : Str))))) _ = _
  have e : andE (decide (2 < ((ws.map txt).length : Int))) (bindP (ixE (ws.map txt) (-2)) fun x10 => .ok (decide (x10 = ("gone" : Str)))) = .ok false := by
    by_cases c : 2 < ws.length
    · obtain ⟨us, x, y, e⟩ := two_end (ws := ws) (by omega)
      have ne : us ≠ [] := fun z => by rw [e, z] at c; simp at c
      have hx := hn us x y e ne
      rw [decide_eq_true (by rw [List.length_map]; omega), andE_t, e, List.map_append]
      show bindP (ixE (us.map txt ++ [txt x, txt y]) (-2)) _ = _
      rw [ix_m2, bindP_ok, t_gone, decide_eq_false (fun z => hx (txt_inj.mp z))]
    · rw [decide_eq_false (by rw [List.length_map]; omega)]; rfl
  rw [e, bindP_ok]
  exact tail_of ws none hl
/-! a rule as it is written -/
def stepL (x : Int × Int) : List Nat := nL x.1 ++ 58 :: nL x.2
def goneW : Option Int → List (List Nat)
  | none => []
  | some v => [goneL, nL v]
def ruleL (rs : RowsT) (g : Option Int) : List Nat := jl 32 (rs.map stepL ++ goneW g)
def NumOk (i : Int) : Prop := i.natAbs < 10 ^ 500
theorem NumOk.big {i : Int} (h : NumOk i) : i.natAbs < 10 ^ 1000 := Nat.lt_of_lt_of_le h (Nat.pow_le_pow_right (by decide) (by decide))
theorem NumOk.len {i : Int} (h : NumOk i) : (nL i).length ≤ 501 := nL_len (by decide) h
theorem stepL_len {x : Int × Int} (h1 : NumOk x.1) (h2 : NumOk x.2) : (stepL x).length ≤ 1003 := by
  have := h1.len
  have := h2.len
  unfold stepL
  rw [List.length_append, List.length_cons]; omega
theorem stepL_no {x : Int × Int} {c : Nat} (h : ¬ (c = 45 ∨ (48 ≤ c ∧ c ≤ 58))) : c ∉ stepL x := by
  unfold stepL
  intro z
  rcases List.mem_append.mp z with z | z
  · exact nL_no (by omega) z
  · rcases List.mem_cons.mp z with z | z
    · omega
    · exact nL_no (by omega) z
theorem stepL_good {x : Int × Int} (h1 : NumOk x.1) (h2 : NumOk x.2) : GoodS (stepL x) x := ⟨nL x.1, nL x.2, rfl, nL_no (by omega), numE_nL h1.big, numE_nL h2.big⟩
theorem stepL_ngone (x : Int × Int) : stepL x ≠ goneL := fun z => stepL_no (x := x) (c := 103) (by omega) (by rw [z]; decide)
theorem all2_steps : ∀ (rs : RowsT), (∀ x ∈ rs, NumOk x.1 ∧ NumOk x.2) → F2 GoodS (rs.map stepL) rs
  | [], _ => .nil
  | x :: rs, h => .cons (stepL_good (h x (by simp)).1 (h x (by simp)).2) (all2_steps rs fun y hy => h y (List.mem_cons_of_mem _ hy))
/-- read: just where it is a rule -/
theorem rr_rule {rs : RowsT} {g : Option Int} (hne : rs ≠ []) (hl : rs.length ≤ 40) (hr : ∀ x ∈ rs, NumOk x.1 ∧ NumOk x.2) (hg : ∀ v, g = some v → NumOk v) : F_read_rule (txt (ruleL rs g)) = if validB rs g = true then .ok (rs, g) else noT := by
  have hs : ∀ w ∈ rs.map stepL, w.length ≤ 1003 ∧ 32 ∉ w ∧ w ≠ goneL := fun w hw => by
    obtain ⟨x, hx, rfl⟩ := List.mem_map.mp hw
    exact ⟨stepL_len (hr x hx).1 (hr x hx).2, stepL_no (by omega), stepL_ngone x⟩
  have hgd := fun g => tail_good (g := g) (fun v hv => by have := (hs v hv).1; omega) (all2_steps rs hr)
  have hne' : rs.map stepL ≠ [] := by simpa using hne
  unfold ruleL
  cases g with
  | none =>
    show F_read_rule (txt (jl 32 (rs.map stepL ++ []))) = _
    rw [List.append_nil, rr_plain hne' (fun w hw => (hs w hw).2.1) (by rw [List.length_map]; omega) ?_ ?_]
    · exact hgd none
    · have := jl_le 32 1003 (rs.map stepL) fun w hw => (hs w hw).1
      rw [List.length_map] at this
      have := Nat.mul_le_mul_right 1004 hl
      omega
    · intro us x y e _
      exact (hs x (by rw [e]; simp)).2.2
  | some v =>
    have hv := hg v rfl
    have lv := hv.len
    show F_read_rule (txt (jl 32 (rs.map stepL ++ [goneL, nL v]))) = _
    rw [rr_gone hne' (fun w hw => (hs w hw).2.1) (nL_no (by omega)) (by rw [List.length_map]; omega) ?_ (by omega), numE_nL hv.big, bindX_ok]
    · exact hgd (some v)
    · have := jl_le 32 1003 (rs.map stepL ++ [goneL, nL v]) fun w hw => by
        rcases List.mem_append.mp hw with hw | hw
        · exact (hs w hw).1
        · simp only [List.mem_cons, List.not_mem_nil, or_false] at hw
          rcases hw with rfl | rfl
          · decide
          · omega
      simp only [List.length_append, List.length_map, List.length_cons, List.length_nil] at this
      omega
end Lw

namespace Lw
open PySem PySem.Spec PyProof.Rows L2 Dl
theorem mixed_ret (c k : Int) : Ret (F_l_mixed c k) fun r => 0 ≤ r ∧ r < 2147483647 := by
  unfold F_l_mixed
  refine Ret.letE fun n hn => Ret.gd (mok_l (by omega) (by omega)) (Ret.ok ?_)
  generalize n * (n / 1009 + 69621) = y
  omega
theorem amount_ret {x : Int} (h : 0 ≤ x ∧ x < 2147483647) : Ret (F_l_amount x) fun r => 0 ≤ r ∧ r ≤ 10 ^ 21 := by
  unfold F_l_amount
  refine Ret.ixM (by omega) (by simp; omega) fun r hr => Ret.ok ?_
  simp only [List.mem_cons, List.not_mem_nil, or_false] at hr
  rcases hr with rfl | rfl | rfl | rfl <;> omega
end Lw

-- use rule
-- use mixed
namespace Lw
open PySem PySem.Spec PyProof.Rows L2 Dl
theorem rule_ret (c : Int) : Ret (F_l_rule c) fun q => RowsIn q.1 ∧ GoneIn q.1 q.2 := by
  unfold F_l_rule
  obtain ⟨m0, e0, b0⟩ := mixed_ret c 0
  refine Ret.eqP e0 ((amount_ret b0).bindP fun a0 ha0 => Ret.gd ⟨by omega, by omega⟩ (Ret.fold (fun i z => z.1.length = i ∧ (0 ≤ z.2.1 ∧ z.2.1 ≤ (i + 1) * 10 ^ 21) ∧ (1 ≤ z.2.2 ∧ z.2.2 ≤ (10 ^ 7) ^ i) ∧ (∀ r ∈ z.1, (0 ≤ r.1 ∧ r.1 ≤ z.2.1) ∧ 1 ≤ r.2 ∧ r.2 ∣ z.2.2) ∧ (∀ (j : Nat) x y, z.1[j]? = some x → z.1[j + 1]? = some y → x.1 ≤ y.1 ∧ x.2 ∣ y.2)) ⟨rfl, by dsimp only; omega, ⟨Int.le_refl _, Int.le_refl _⟩, by simp, by simp⟩ ?_ ?_))
  · rintro j ⟨steps, age, width⟩ x hx ⟨h1, h2, h3, h4, h5⟩
    dsimp only at h1 h2 h3 h4 h5
    have lj := (List.getElem?_eq_some_iff.mp hx).1
    rw [rngD_length] at lj
    have j5 : j < 5 := by omega
    refine (mixed_ret c _).bindP fun m1 b1 => (mixed_ret c _).bindP fun m2 b2 => (amount_ret b2).bindP fun a ha => Ret.letE fun ag hag => Ret.ixM (by omega) (by simp; omega) fun x21 hx21 => ?_
    have b21 : 0 ≤ x21 ∧ x21 < 10 ^ 7 := by
      simp only [List.mem_cons, List.not_mem_nil, or_false] at hx21
      rcases hx21 with rfl | rfl | rfl <;> omega
    have wb : width ≤ 10 ^ 28 := by
      have : ((10 : Int) ^ 7) ^ j ≤ (10 ^ 7) ^ 4 := pw_le (by decide) (by omega)
      omega
    refine Ret.gd (mok_b (big_of (by omega) (by omega)) (big_of (by omega) (by omega))) (Ret.letE fun wd hwd => Ret.gd (by omega) (Ret.ok ⟨by simp [h1], ?_, ?_, ?_, ?_⟩))
    · dsimp only; constructor
      · omega
      · push_cast; omega
    · dsimp only
      have e1 : width * 1 ≤ width * (1 + x21) := Int.mul_le_mul_of_nonneg_left (by omega) (by omega)
      have e2 : width * (1 + x21) ≤ (10 ^ 7) ^ j * 10 ^ 7 := by
        have a := Int.mul_le_mul_of_nonneg_right h3.2 (show 0 ≤ 1 + x21 by omega)
        have b := Int.mul_le_mul_of_nonneg_left (show 1 + x21 ≤ 10 ^ 7 by omega) (show (0 : Int) ≤ (10 ^ 7) ^ j from Int.pow_nonneg (by decide))
        omega
      rw [hwd, Int.pow_succ]
      exact ⟨by omega, e2⟩
    · intro r hr
      dsimp only at hr ⊢
      have dv : width ∣ wd := by rw [hwd]; exact Int.dvd_mul_right _ _
      rcases List.mem_append.mp hr with q | q
      · have := h4 r q
        exact ⟨by omega, this.2.1, Int.dvd_trans this.2.2 dv⟩
      · obtain rfl : r = (ag, wd) := by simpa using q
        have e1 : width * 1 ≤ width * (1 + x21) := Int.mul_le_mul_of_nonneg_left (by omega) (by omega)
        exact ⟨by dsimp only; omega, by dsimp only; omega, Int.dvd_refl _⟩
    · intro k u v hu hv
      dsimp only at hu hv
      by_cases q : k + 1 < steps.length
      · rw [List.getElem?_append_left (by omega)] at hu
        rw [List.getElem?_append_left q] at hv
        exact h5 k u v hu hv
      · have lv := (List.getElem?_eq_some_iff.mp hv).1
        rw [List.length_append] at lv
        have lk : k + 1 = steps.length := by simp at lv; omega
        rw [List.getElem?_append_left (by omega)] at hu
        rw [lk, List.getElem?_append_right (by omega)] at hv
        obtain rfl : v = (ag, wd) := by simpa using hv.symm
        have := h4 u (List.mem_of_getElem? hu)
        exact ⟨by dsimp only; omega, Int.dvd_trans this.2.2 (by rw [hwd]; exact Int.dvd_mul_right _ _)⟩
  · rintro ⟨steps, age, width⟩ ⟨h1, h2, h3, h4, h5⟩
    rw [rngD_length] at h1 h2 h3
    dsimp only at h1 h2 h3 h4 h5
    have lb : 1 ≤ steps.length ∧ steps.length ≤ 5 := by omega
    have ab : age ≤ 10 ^ 22 := by omega
    have wb : width ≤ 10 ^ 35 := by
      have : ((10 : Int) ^ 7) ^ (1 + c % 5).toNat ≤ (10 ^ 7) ^ 5 := pw_le (by decide) (by omega)
      omega
    have hR : RowsIn steps := ⟨lb.1, lb.2, fun r hr => by
      have := h4 r hr
      have := Int.le_of_dvd (by omega) this.2.2
      omega, h5⟩
    refine Ret.jpA (fun g => GoneIn steps g) (R := fun q => RowsIn q.1 ∧ GoneIn q.1 q.2) (fun g hg => Ret.ok ⟨hR, hg⟩) fun k hk => Ret.iteD (fun _ => (mixed_ret c 20).bindP fun m hm => (amount_ret hm).bindP fun a ha => Ret.letE fun g hg => hk _ ?_) fun _ => hk none fun v hv => by cases hv
    intro v hv
    cases hv
    exact ⟨by omega, fun r hr => by have := h4 r hr; omega⟩
end Lw

-- use rrule
-- use rulek0
namespace Lw
open PySem PySem.Spec PyProof.Rows L2 Dl PySem.NumText PySem.Builtin PySem.Builtin.Str
theorem repl_at {a b z : List Nat} (h : 58 ∉ a) : replN (txt (a ++ 58 :: b)) (txt [58]) (txt z) 1 = txt (a ++ z ++ b) := by
  unfold replN
  rw [show txt [58] = ⟨#[58]⟩ from rfl, occ1_at h]
  show (if (false || (false && ((txt z).length == 0))) = true then _ else _) = _
  rw [if_neg (by simp)]
  rw [StrLaws.partsBetween_eq]
  show glued (txt z) [strSub (txt (a ++ 58 :: b)) 0 a.length, strSub (txt (a ++ 58 :: b)) (a.length + 1) (txt (a ++ 58 :: b)).length] = _
  rw [ssub_txt, ssub_txt, txt_len]
  have e1 : ((a ++ 58 :: b).drop 0).take (a.length - 0) = a := by simp
  have e2 : ((a ++ 58 :: b).drop (a.length + 1)).take ((a ++ 58 :: b).length - (a.length + 1)) = b := by
    rw [show a.length + 1 = (a ++ [58]).length by simp, show a ++ 58 :: b = (a ++ [58]) ++ b by simp, List.drop_left]
    rw [List.length_append, Nat.add_sub_cancel_left, List.take_length]
  rw [e1, e2]
  show (⟨(txt a).cps ++ (txt z).cps ++ (txt b).cps⟩ : Str) = _
  show (txt a ++ txt z) ++ txt b = _
  rw [txt_app, txt_app]
theorem compE_cong {α β : Type} {c : α → Ex Bool} {f g : α → Ex β} : ∀ (xs : List α), (∀ x ∈ xs, f x = g x) → compE c f xs = compE c g xs
  | [], _ => rfl
  | x :: xs, h => by
    unfold compE
    rw [compE_cong xs fun y hy => h y (List.mem_cons_of_mem _ hy), h x (List.mem_cons_self ..)]
theorem bindP_cong {α β : Type} {m : Ex α} {k k' : α → Ex β} (h : ∀ a, m = .ok a → k a = k' a) : bindP m k = bindP m k' := by
  cases m with
  | ok a => exact h a rfl
  | exc n fs => rfl
  | bad => rfl
/-! ### the law's texts -/
theorem numOk {i : Int} (h1 : -(10 ^ 60) ≤ i) (h2 : i ≤ 10 ^ 60) : NumOk i := by
  have a : i.natAbs ≤ 10 ^ 60 := by omega
  exact Nat.lt_of_le_of_lt a (Nat.pow_lt_pow_right (by decide) (by decide))
def RowsN (rs : RowsT) : Prop := rs.length ≤ 20 ∧ ∀ x ∈ rs, NumOk x.1 ∧ NumOk x.2
theorem strN {i : Int} (h : NumOk i) : StrOk i := strOk_pow (k := 1000) (by decide) h.big
theorem sum_le {n : Nat} : ∀ (ws : List (List Nat)), (∀ w ∈ ws, w.length ≤ n) → (((ws.map txt).map (·.length)).sum : Nat) ≤ ws.length * n
  | [], _ => Nat.zero_le _
  | w :: ws, h => by
    have ih := sum_le ws fun x hx => h x (List.mem_cons_of_mem _ hx)
    have := h w (by simp)
    rw [List.map_cons, List.map_cons, List.sum_cons, List.length_cons, Nat.add_mul, txt_len]
    omega
theorem join_ok {ws : List (List Nat)} (h1 : ws.length ≤ 60) (h2 : ∀ w ∈ ws, w.length ≤ 1100) : gd (((ws.map txt).map (·.length)).sum + (ws.map txt).length * (" " : Str).length ≤ 16777216) (.ok (Txt.join (" " : Str) (ws.map txt)) : Ex Str) = .ok (txt (jl 32 ws)) := by
  have a := sum_le ws h2
  have b := Nat.mul_le_mul_right 1100 h1
  rw [gd_ok (by rw [show (" " : Str).length = 1 by decide +kernel, List.length_map]; omega), jl_txt]
theorem words_ok {β : Type} {rs : RowsT} (h : RowsN rs) (k : List Str → Ex β) : gd (rs.length ≤ 100000) (bindP (compE (fun (u3 : Int × Int) => .ok true) (fun (u3 : Int × Int) => gd (StrOk u3.1) (gd (((Str.ofString (toString (u3.1 : Int))).length + (":" : Str).length : Nat) ≤ 100000) (gd (StrOk u3.2) (gd ((((Str.ofString (toString (u3.1 : Int))) ++ (":" : Str)).length + (Str.ofString (toString (u3.2 : Int))).length : Nat) ≤ 100000) (.ok (((Str.ofString (toString (u3.1 : Int))) ++ (":" : Str)) ++ (Str.ofString (toString (u3.2 : Int))))))))) rs) k) = k ((rs.map stepL).map txt) := by
  rw [gd_ok (by have := h.1; omega), compE_map (g := fun x => txt (stepL x)) _ (fun x hx => by
    obtain ⟨a, b⟩ := h.2 x hx
    have la := a.len
    have lb := b.len
    rw [gd_ok (strN a), nTxt, nTxt, t_colon, gd_ok (by simp only [txt_len, List.length_cons, List.length_nil]; omega), gd_ok (strN b), txt_app, gd_ok (by simp only [txt_len, List.length_append, List.length_cons, List.length_nil]; omega), txt_app]
    unfold stepL
    simp), bindP_ok, List.map_map]
  rfl
theorem wl {rs : RowsT} (h : RowsN rs) : ∀ w ∈ rs.map stepL, w.length ≤ 1003 := fun w hw => by
  obtain ⟨x, hx, rfl⟩ := List.mem_map.mp hw
  exact stepL_len (h.2 x hx).1 (h.2 x hx).2
theorem gone_app {ws : List (List Nat)} (v : Int) : ws.map txt ++ [("gone" : Str), Str.ofString (toString v)] = (ws ++ [goneL, nL v]).map txt := by
  rw [nTxt, t_gone, List.map_append]; rfl
theorem text_ok {rs : RowsT} {g : Option Int} (h : RowsN rs) (hg : ∀ v, g = some v → NumOk v) : F_l_text rs g = .ok (txt (ruleL rs g)) := by
  have l20 := h.1
  have hw := wl h
  unfold F_l_text
  rw [words_ok h]
  unfold ruleL
  cases g with
  | none =>
    show gd _ (.ok (Txt.join _ ((rs.map stepL).map txt))) = _
    rw [join_ok (by rw [List.length_map]; omega) (fun w q => by have := hw w q; omega)]
    show _ = Ex.ok (txt (jl 32 (rs.map stepL ++ [])))
    rw [List.append_nil]
  | some v =>
    have nv := hg v rfl
    have lv := nv.len
    show gd (StrOk v) (gd _ (gd _ (.ok (Txt.join _ _)))) = _
    rw [gd_ok (strN nv), gd_ok (by simp; omega)]
    show gd _ (.ok (Txt.join _ ((rs.map stepL).map txt ++ [("gone" : Str), Str.ofString (toString v)]))) = _
    rw [gone_app, join_ok (by simp; omega) (fun w q => by
      rcases List.mem_append.mp q with q | q
      · have := hw w q; omega
      · simp only [List.mem_cons, List.not_mem_nil, or_false] at q
        rcases q with rfl | rfl
        · decide
        · omega)]
    rfl
theorem text2_ok {rs : RowsT} {v : Int} (h : RowsN rs) (nv : NumOk v) : F_l_text_2 rs v = .ok (txt (ruleL rs (some v))) := text_ok h (g := some v) (fun u e => by cases e; exact nv)
theorem show_ok {rs : RowsT} {g : Option Int} (h : RowsN rs) (hg : ∀ v, g = some v → NumOk v) : F_show_rule (rs, g) = .ok (txt (ruleL rs g)) := by
  rw [← text_ok h hg]
  have sn : ∀ {i : Int}, NumOk i → F_show_number i = .ok (Str.ofString (toString i)) := fun h => by
    unfold F_show_number
    rw [gd_ok (strN h)]
  unfold F_show_rule F_l_text F_Rule_steps F_Rule_gone
  have e : compE (fun (u4 : Int × Int) => .ok true) (fun (u4 : Int × Int) => bindP (F_show_number u4.1) fun r6 => gd ((r6.length + (":" : Str).length : Nat) ≤ 100000) (bindP (F_show_number u4.2) fun r9 => gd (((r6 ++ (":" : Str)).length + r9.length : Nat) ≤ 100000) (.ok ((r6 ++ (":" : Str)) ++ r9)))) rs = compE (fun (u3 : Int × Int) => .ok true) (fun (u3 : Int × Int) => gd (StrOk u3.1) (gd (((Str.ofString (toString (u3.1 : Int))).length + (":" : Str).length : Nat) ≤ 100000) (gd (StrOk u3.2) (gd ((((Str.ofString (toString (u3.1 : Int))) ++ (":" : Str)).length + (Str.ofString (toString (u3.2 : Int))).length : Nat) ≤ 100000) (.ok (((Str.ofString (toString (u3.1 : Int))) ++ (":" : Str)) ++ (Str.ofString (toString (u3.2 : Int))))))))) rs := by
    refine compE_cong rs fun x hx => ?_
    obtain ⟨a, b⟩ := h.2 x hx
    rw [sn a, sn b, bindP_ok, bindP_ok, gd_ok (strN a), gd_ok (strN b)]
  dsimp only [bindP_ok]
  show gd (rs.length ≤ 100000) (bindP (compE _ _ rs) _) = _
  rw [e]
  cases g with
  | none => rfl
  | some v =>
    have nv := hg v rfl
    congr 1
    refine bindP_cong fun ys _ => ?_
    show bindP (F_show_number v) _ = gd (StrOk v) _
    rw [sn nv, gd_ok (strN nv)]; rfl
/-! ### refused -/
noncomputable def lrefE (m : Ex (RowsT × Option Int)) : Ex Bool := letE ("told" : Str) fun word2 => jpE (fun (word35 : Str) => Ex.ok (decide (word35 = ("none" : Str)))) fun jk4 => tryF ["NoText", "NoRule"] (bindX m fun r7 => .ok word2) jk4 [(["NoText", "NoRule"], fun e9 => letE ("other" : Str) fun word13 => gd (e9.1 ∈ (["NoRule", "NoText"] : List Str)) (bindP (andE (decide (e9.1 ∈ (["NoText"] : List Str))) (gd (e9.1 ∈ (["NoRule", "NoText"] : List Str)) (bindP (andE (!(decide (e9.1 ∈ (["NoRule"] : List Str)))) (gd (e9.1 ∈ (["NoRule", "NoText"] : List Str)) (.ok (!(decide (e9.1 ∈ ([] : List Str))))))) fun b18 => .ok b18))) fun b20 => jpE (fun (word34 : Str) => jk4 word34) fun jk23 => if b20 = true then gd (e9.1 ∈ (["NoText"] : List Str)) (bindP (fldE e9 "line") fun line25 => bindP (orE false (gd (e9.1 ∈ (["NoText"] : List Str)) (bindP (fldE e9 "line") fun line28 => .ok (!decide (line28 = 0))))) fun b30 => bindP (ixE [("none" : Str), ("other" : Str)] (if b30 = true then (1 : Int) else 0)) fun x32 => jk23 x32) else jk23 word13))]
theorem lref_no : lrefE noT = .ok true := by
  unfold lrefE
  refine Ret.eq (Ret.letI (Ret.jpE ?_))
  rw [tryF_exc (n := "NoText") (fs := [("line", .int 0)]) (m := bindX noT fun (r7 : RowsT × Option Int) => .ok ("told" : Str)) rfl (by decide), hdF_yes (by dsimp only; decide)]
  refine Ret.letI (Ret.gd (by dsimp only; decide) (Ret.bindP (R := fun b => b = true) (Ret.andE (fun _ => Ret.gd (by dsimp only; decide) ?_) (fun z => absurd z (by dsimp only; decide))) fun b hb => ?_))
  · refine Ret.bindP (R := fun b => b = true) (Ret.andE (fun _ => Ret.gd (by dsimp only; decide) (Ret.ok ?_)) (fun z => absurd z (by decide))) fun b hb => Ret.ok hb
    decide
  · subst hb
    refine Ret.jpE (Ret.t rfl (Ret.gd (by dsimp only; decide) (Ret.eqP (a := 0) rfl ?_)))
    refine Ret.bindP (R := fun b => b = false) (Ret.orE (fun _ => Ret.gd (by dsimp only; decide) ?_) (fun z => by cases z)) fun b hb => ?_
    · exact Ret.eqP (a := 0) rfl (Ret.ok (by decide))
    subst hb
    exact Ret.eqP (a := ("none" : Str)) rfl (Ret.ok (by decide))
theorem ref2_ok {s : Str} (h : F_read_rule s = noT) : F_l_refused_2 s = .ok true := by
  have e : F_l_refused_2 s = lrefE (F_read_rule s) := rfl
  rw [e, h, lref_no]
theorem ref_ok {d : D} (h : F_read_rule_2 d = noT) : F_l_refused d = .ok true := by
  have e : F_l_refused d = lrefE (F_read_rule_2 d) := rfl
  rw [e, h, lref_no]
theorem rr2_txt {b : List Nat} (hc : ∀ c ∈ b, c < 128) : F_read_rule_2 (.str (txt b)) = F_read_rule (txt b) := by
  unfold F_read_rule_2 F_read_rule
  rw [gd_ok (flat_txt hc)]; rfl
theorem rr2_no {d : D} (hf : Dl.flatD d) (h : dSel d false false false true false false = false) : F_read_rule_2 d = noT := by
  unfold F_read_rule_2
  rw [gd_ok hf, h]; rfl
structure WOk (w : List Nat) : Prop where
  no : 32 ∉ w
  len : w.length ≤ 1100
theorem jl_small {W : List (List Nat)} (hl : W.length ≤ 60) (h : ∀ w ∈ W, WOk w) : (jl 32 W).length ≤ 90000 := by
  have := jl_le 32 1100 W fun w hw => (h w hw).len
  have := Nat.mul_le_mul_right 1101 hl
  omega
theorem ref_plain {W : List (List Nat)} (h : W ≠ []) (hl : W.length ≤ 60) (hw : ∀ w ∈ W, WOk w) (hb : ∃ w ∈ W, BadS w) (hn : ∀ us x y, W = us ++ [x, y] → us ≠ [] → x ≠ goneL) : F_read_rule (txt (jl 32 W)) = noT := by
  obtain ⟨w, h1, h2⟩ := hb
  have := jl_small hl hw
  rw [rr_plain h (fun w q => (hw w q).no) (by omega) (by omega) hn]
  exact tail_bad h1 h2 fun v hv => by have := (hw v hv).len; omega
theorem ref_gone {W : List (List Nat)} {l : List Nat} (h : W ≠ []) (hl : W.length ≤ 50) (hw : ∀ w ∈ W, WOk w) (hv : WOk l) (hb : ¬ GoodN l = true ∨ ∃ w ∈ W, BadS w) : F_read_rule (txt (jl 32 (W ++ [goneL, l]))) = noT := by
  have := jl_small (W := W ++ [goneL, l]) (by simp; omega) fun w q => by
    rcases List.mem_append.mp q with q | q
    · exact hw w q
    · simp only [List.mem_cons, List.not_mem_nil, or_false] at q
      rcases q with rfl | rfl
      · exact ⟨by decide, by decide⟩
      · exact hv
  rw [rr_gone h (fun w q => (hw w q).no) hv.no (by omega) (by omega) (by have := hv.len; omega)]
  rcases numE_cases l with ⟨n, g, _, e⟩ | ⟨g, e⟩
  · rw [e, bindX_ok]
    rcases hb with hb | ⟨w, h1, h2⟩
    · exact absurd g hb
    · exact tail_bad h1 h2 fun v q => by have := (hw v q).len; omega
  · rw [e]; rfl
theorem q82_0 : (" " : Str) = txt [32] := by decide +kernel
theorem q82_1 : (":" : Str) = txt [58] := by decide +kernel
theorem q82_2 : ("" : Str) = txt [] := by decide +kernel
theorem q82_3 : ("::" : Str) = txt [58, 58] := by decide +kernel
theorem q82_4 : ("0" : Str) = txt [48] := by decide +kernel
theorem q82_5 : ("+" : Str) = txt [43] := by decide +kernel
theorem q82_6 : (" gone" : Str) = txt [32, 103, 111, 110, 101] := by decide +kernel
theorem q82_7 : (" gone " : Str) = txt [32, 103, 111, 110, 101, 32] := by decide +kernel
theorem q82_8 : (": " : Str) = txt [58, 32] := by decide +kernel
theorem q82_9 : ("-" : Str) = txt [45] := by decide +kernel
theorem q82_10 : (" gone 0x9" : Str) = txt [32, 103, 111, 110, 101, 32, 48, 120, 57] := by decide +kernel
theorem q82_11 : (" gone 0" : Str) = txt [32, 103, 111, 110, 101, 32, 48] := by decide +kernel
theorem q82_12 : (" Gone 99" : Str) = txt [32, 71, 111, 110, 101, 32, 57, 57] := by decide +kernel
theorem q82_13 : (" gone none" : Str) = txt [32, 103, 111, 110, 101, 32, 110, 111, 110, 101] := by decide +kernel
theorem q82_14 : ("  gone 99" : Str) = txt [32, 32, 103, 111, 110, 101, 32, 57, 57] := by decide +kernel
theorem q82_15 : (";" : Str) = txt [59] := by decide +kernel
theorem q82_16 : ("\n" : Str) = txt [10] := by decide +kernel
theorem q82_17 : (" gone 9 9" : Str) = txt [32, 103, 111, 110, 101, 32, 57, 32, 57] := by decide +kernel
theorem q82_18 : ("gone 5" : Str) = txt [103, 111, 110, 101, 32, 53] := by decide +kernel
theorem q82_19 : ("gone" : Str) = txt [103, 111, 110, 101] := by decide +kernel
theorem q82_20 : ("none" : Str) = txt [110, 111, 110, 101] := by decide +kernel
theorem tl_hd (w : List Nat) : ∀ ws : List (List Nat), jl 32 (w :: ws) = w ++ (match ws with | [] => [] | _ => 32 :: jl 32 ws)
  | [] => by rw [jl_one]; simp
  | x :: r => jl_cons 32 w (by simp)
theorem jl_sp {W : List (List Nat)} (h : W ≠ []) (w : List Nat) : jl 32 W ++ 32 :: w = jl 32 (W ++ [w]) := by rw [jl_app 32 h (by simp), jl_one]
theorem jl_snoc (W : List (List Nat)) (l s : List Nat) : jl 32 (W ++ [l]) ++ s = jl 32 (W ++ [l ++ s]) := by
  cases W with
  | nil => rfl
  | cons x r => rw [jl_app 32 (by simp) (by simp), jl_app 32 (by simp) (by simp), jl_one, jl_one]; simp
theorem jl_sp2 {W : List (List Nat)} (h : W ≠ []) (w v : List Nat) : jl 32 W ++ 32 :: (w ++ 32 :: v) = jl 32 (W ++ [w, v]) := by rw [jl_app 32 h (by simp), jl_cons 32 w (by simp), jl_one]
theorem jl_sp3 {W : List (List Nat)} (h : W ≠ []) (w v u : List Nat) : jl 32 W ++ 32 :: (w ++ 32 :: (v ++ 32 :: u)) = jl 32 (W ++ [w, v, u]) := by rw [jl_app 32 h (by simp), jl_cons 32 w (by simp), jl_cons 32 v (by simp), jl_one]
theorem ng {l : List Nat} (h : GoodN l = false) : ¬ GoodN l = true := by rw [h]; decide
/-- what the law spoils -/
structure Sp (rs : RowsT) (g : Option Int) : Prop where
  ne : rs ≠ []
  n : RowsN rs
  g : ∀ v, g = some v → NumOk v
theorem Sp.w {rs : RowsT} {g : Option Int} (h : Sp rs g) : ∀ w ∈ rs.map stepL ++ goneW g, WOk w := fun w hw => by
  rcases List.mem_append.mp hw with q | q
  · refine ⟨?_, by have := wl h.n w q; omega⟩
    obtain ⟨x, hx, rfl⟩ := List.mem_map.mp q
    exact stepL_no (by omega)
  · cases g with
    | none => cases q
    | some v =>
      have := (h.g v rfl).len
      simp only [goneW, List.mem_cons, List.not_mem_nil, or_false] at q
      rcases q with rfl | rfl
      · exact ⟨by decide, by decide⟩
      · exact ⟨nL_no (by omega), by omega⟩
theorem Sp.len {rs : RowsT} {g : Option Int} (h : Sp rs g) : (rs.map stepL ++ goneW g).length ≤ 22 := by
  have := h.n.1
  cases g <;> simp [goneW] <;> omega
theorem Sp.c128 {rs : RowsT} {g : Option Int} (h : Sp rs g) : ∀ c ∈ ruleL rs g, c < 128 := by
  have key : ∀ (W : List (List Nat)), (∀ w ∈ W, ∀ c ∈ w, c < 128) → ∀ c ∈ jl 32 W, c < 128 := by
    intro W
    induction W with
    | nil => intro _ c hc; cases hc
    | cons w W ih =>
      intro hW c hc
      rw [tl_hd] at hc
      rcases List.mem_append.mp hc with hc | hc
      · exact hW w (by simp) c hc
      · cases W with
        | nil => cases hc
        | cons x r =>
          rcases List.mem_cons.mp hc with rfl | hc
          · decide
          · exact ih (fun u hu => hW u (List.mem_cons_of_mem _ hu)) c hc
  refine key _ fun w hw c hc => ?_
  rcases List.mem_append.mp hw with q | q
  · obtain ⟨x, hx, rfl⟩ := List.mem_map.mp q
    by_cases z : c = 45 ∨ (48 ≤ c ∧ c ≤ 58)
    · omega
    · exact absurd hc (stepL_no z)
  · cases g with
    | none => cases q
    | some v =>
      simp only [goneW, List.mem_cons, List.not_mem_nil, or_false] at q
      rcases q with rfl | rfl
      · simp at hc; omega
      · have := nL_chars v c hc; omega
/-- the first words changed -/
theorem ref_pre {rs : RowsT} {g : Option Int} {pre : List (List Nat)} (hr : RowsN rs) (hg : ∀ v, g = some v → NumOk v) (h1 : pre ≠ []) (h2 : pre.length ≤ 5) (hw : ∀ w ∈ pre, WOk w ∧ w ≠ goneL) (hb : ∃ w ∈ pre, BadS w) :
    F_read_rule (txt (jl 32 (pre ++ (rs.map stepL ++ goneW g)))) = noT := by
  have l := hr.1
  obtain ⟨w0, hw0, hb0⟩ := hb
  have hs : ∀ w ∈ rs.map stepL, WOk w ∧ w ≠ goneL := fun w q => by
    obtain ⟨x, hx, rfl⟩ := List.mem_map.mp q
    exact ⟨⟨stepL_no (by omega), by have := wl hr _ q; omega⟩, stepL_ngone x⟩
  have hall : ∀ w ∈ pre ++ rs.map stepL, WOk w ∧ w ≠ goneL := fun w q => (List.mem_append.mp q).elim (hw w) (hs w)
  cases g with
  | none =>
    show F_read_rule (txt (jl 32 (pre ++ (rs.map stepL ++ [])))) = noT
    rw [List.append_nil]
    exact ref_plain (by simp [h1]) (by simp; omega) (fun w q => (hall w q).1) ⟨w0, List.mem_append_left _ hw0, hb0⟩ fun us x y e _ => (hall x (by rw [e]; simp)).2
  | some v =>
    have nv := hg v rfl
    show F_read_rule (txt (jl 32 (pre ++ (rs.map stepL ++ [goneL, nL v])))) = noT
    rw [← List.append_assoc]
    exact ref_gone (by simp [h1]) (by simp; omega) (fun w q => (hall w q).1) ⟨nL_no (by omega), by have := nv.len; omega⟩ (.inr ⟨w0, List.mem_append_left _ hw0, hb0⟩)
/-- words behind the steps -/
theorem ref_suf {rs : RowsT} {suf : List (List Nat)} (hne : rs ≠ []) (hr : RowsN rs) (h2 : suf.length ≤ 5) (hw : ∀ w ∈ suf, WOk w) (hb : ∃ w ∈ suf, BadS w) (hn : ∀ us x y, suf = us ++ [x, y] → x ≠ goneL) :
    F_read_rule (txt (jl 32 (rs.map stepL ++ suf))) = noT := by
  have l := hr.1
  obtain ⟨w0, hw0, hb0⟩ := hb
  refine ref_plain (by simp [hne]) (by simp; omega) (fun w q => ?_) ⟨w0, List.mem_append_right _ hw0, hb0⟩ fun us x y e _ => ?_
  · rcases List.mem_append.mp q with q | q
    · refine ⟨?_, by have := wl hr w q; omega⟩
      obtain ⟨x, hx, rfl⟩ := List.mem_map.mp q
      exact stepL_no (by omega)
    · exact hw w q
  · match suf, hw0, hn, e with
    | [s], _, _, e =>
      have e' := congrArg List.dropLast e
      have e2 : rs.map stepL = us ++ [x] := by
        have a1 : (rs.map stepL ++ [s]).dropLast = rs.map stepL := by simp
        have a2 : (us ++ [x, y]).dropLast = us ++ [x] := by rw [show us ++ [x, y] = (us ++ [x]) ++ [y] by simp, List.dropLast_concat]
        rw [a1, a2] at e'; exact e'
      have : x ∈ rs.map stepL := by rw [e2]; simp
      obtain ⟨z, hz, rfl⟩ := List.mem_map.mp this
      exact stepL_ngone z
    | s :: t :: r, _, hn, e =>
      obtain ⟨vs, x', y', e2⟩ := two_end (ws := s :: t :: r) (by simp)
      rw [e2, ← List.append_assoc] at e
      have := List.append_inj' e rfl
      have e3 := this.2
      simp only [List.cons.injEq, and_true] at e3
      rw [← e3.1]
      exact hn vs x' y' e2
theorem ref_sufg {rs : RowsT} {l : List Nat} (hne : rs ≠ []) (hr : RowsN rs) (hl : WOk l) (hb : ¬ GoodN l = true) : F_read_rule (txt (jl 32 (rs.map stepL ++ [goneL, l]))) = noT := by
  have l20 := hr.1
  refine ref_gone (by simp [hne]) (by simp; omega) (fun w q => ⟨?_, by have := wl hr w q; omega⟩) hl (.inl hb)
  obtain ⟨x, hx, rfl⟩ := List.mem_map.mp q
  exact stepL_no (by omega)
theorem good_snoc {l : List Nat} {c : Nat} (h : isDg c = false) : ¬ GoodN (l ++ [c]) = true := fun g => by
  have a := ((good_iff _).mp g).2.1
  have b := List.all_eq_true.mp a
  have : c ∈ figL (l ++ [c]) := by
    unfold figL
    split
    · cases l with
      | nil =>
        rename_i z
        simp at z
        have p := ((good_iff _).mp g).1.1
        unfold figL at p
        rw [if_pos (by simp [z])] at p
        simp at p
      | cons x r => simp
    · simp
  rw [b c this] at h; cases h
theorem good_zero {l : List Nat} (h : l ≠ []) : ¬ GoodN (48 :: l) = true := fun g => by
  have a := ((good_iff _).mp g).2.2
  have e : figL (48 :: l) = 48 :: l := fig_no (by simp)
  rw [e] at a
  rcases a with a | a
  · exact a rfl
  · simp at a; exact h a
/-- a last word with a sign behind it -/
theorem ref_last {rs : RowsT} {g : Option Int} (h : Sp rs g) {c : Nat} (hc : c = 59 ∨ c = 10) : F_read_rule (txt (ruleL rs g ++ [c])) = noT := by
  have dc : isDg c = false := by rcases hc with rfl | rfl <;> decide
  unfold ruleL
  cases g with
  | some v =>
    have nv := h.g v rfl
    show F_read_rule (txt (jl 32 (rs.map stepL ++ [goneL, nL v]) ++ [c])) = noT
    rw [show rs.map stepL ++ [goneL, nL v] = (rs.map stepL ++ [goneL]) ++ [nL v] by simp, jl_snoc, show (rs.map stepL ++ [goneL]) ++ [nL v ++ [c]] = rs.map stepL ++ [goneL, nL v ++ [c]] by simp]
    refine ref_sufg h.ne h.n ⟨fun z => ?_, by have := nv.len; simp; omega⟩ (good_snoc dc)
    rcases List.mem_append.mp z with z | z
    · exact nL_no (by omega) z
    · simp at z; omega
  | none =>
    show F_read_rule (txt (jl 32 (rs.map stepL ++ []) ++ [c])) = noT
    rw [List.append_nil]
    obtain ⟨us, x, e⟩ : ∃ us x, rs = us ++ [x] := ⟨rs.dropLast, rs.getLast h.ne, (List.dropLast_concat_getLast h.ne).symm⟩
    have hx := h.n.2 x (by rw [e]; simp)
    have lx := hx.1.len
    have ly := hx.2.len
    rw [e, List.map_append, List.map_cons, List.map_nil, jl_snoc]
    by_cases u0 : us = []
    · subst u0
      show F_read_rule (txt (jl 32 [stepL x ++ [c]])) = noT
      refine ref_plain (by simp) (by simp) (fun w q => ?_) ⟨_, List.mem_singleton.mpr rfl, ?_⟩ fun vs a b z _ => ?_
      · obtain rfl : w = stepL x ++ [c] := by simpa using q
        refine ⟨fun z => ?_, by have := stepL_len hx.1 hx.2; simp; omega⟩
        rcases List.mem_append.mp z with z | z
        · exact stepL_no (by omega) z
        · simp at z; omega
      · exact .inr ⟨nL x.1, nL x.2 ++ [c], by unfold stepL; simp, nL_no (by omega), .inr (good_snoc dc)⟩
      · have := congrArg List.length z
        simp at this
    · have hu : RowsN us := ⟨by have := h.n.1; rw [e] at this; simp at this; omega, fun y hy => h.n.2 y (by rw [e]; simp [hy])⟩
      refine ref_suf u0 hu (by simp) (fun w q => ?_) ⟨_, List.mem_singleton.mpr rfl, ?_⟩ fun vs a b z => ?_
      · obtain rfl : w = stepL x ++ [c] := by simpa using q
        refine ⟨fun z => ?_, by have := stepL_len hx.1 hx.2; simp; omega⟩
        rcases List.mem_append.mp z with z | z
        · exact stepL_no (by omega) z
        · simp at z; omega
      · exact .inr ⟨nL x.1, nL x.2 ++ [c], by unfold stepL; simp, nL_no (by omega), .inr (good_snoc dc)⟩
      · have := congrArg List.length z
        simp at this
def Ref (d : D) : Prop := F_read_rule_2 d = noT
theorem Ref.t {b : List Nat} (hc : ∀ c ∈ b, c < 128) (h : F_read_rule (txt b) = noT) : Ref (.str (txt b)) := (rr2_txt hc).trans h
theorem c_app {a b : List Nat} (h1 : ∀ c ∈ a, c < 128) (h2 : (b.all fun c => decide (c < 128)) = true) : ∀ c ∈ a ++ b, c < 128 := fun c hc => by
  rcases List.mem_append.mp hc with hc | hc
  · exact h1 c hc
  · exact of_decide_eq_true (List.all_eq_true.mp h2 c hc)
theorem flat_rows (rs : RowsT) (hl : rs.length ≤ 100) : Dl.flatD (.lst (rs.map dk_T2II)) := by
  have key : ∀ rs : RowsT, D.flatA (rs.map dk_T2II) = true ∧ PyData.canLayAll0 (D.pyA (rs.map dk_T2II)) = true ∧ PyData.depthAll (D.pyA (rs.map dk_T2II)) ≤ 5 := by
    intro rs
    induction rs with
    | nil => exact ⟨rfl, rfl, by decide⟩
    | cons x rs ih =>
      obtain ⟨a, b, c⟩ := ih
      refine ⟨?_, ?_, ?_⟩
      · rw [List.map_cons]; unfold D.flatA; rw [a]; rfl
      · rw [List.map_cons]; unfold D.pyA PyData.canLayAll0; rw [b]; rfl
      · rw [List.map_cons]; unfold D.pyA PyData.depthAll
        refine Nat.max_le.mpr ⟨?_, c⟩
        simp [dk_T2II, D.py, D.pyA, PyData.depth, PyData.depthAll]
  obtain ⟨a, b, c⟩ := key rs
  refine ⟨a, ?_⟩
  unfold SeqAt.shaped
  show (PyData.canLayAll0 (D.pyA (rs.map dk_T2II)) && decide (PyData.depthAll (D.pyA (rs.map dk_T2II)) + 1 ≤ 64)) = true
  rw [b, decide_eq_true (by omega)]; rfl
theorem spoilt_ok {rs : RowsT} {g : Option Int} (h : Sp rs g) (c : Int) : Ret (F_l_spoilt (txt (ruleL rs g)) rs c) Ref := by
  have hp : Sp rs none := ⟨h.ne, h.n, fun v z => by cases z⟩
  obtain ⟨x, rt, ers⟩ := List.exists_cons_of_ne_nil h.ne
  have hx := h.n.2 x (by rw [ers]; simp)
  have hrt : RowsN rt := ⟨by have := h.n.1; rw [ers] at this; simp at this; omega, fun y hy => h.n.2 y (by rw [ers]; simp [hy])⟩
  have lx := hx.1.len
  have ly := hx.2.len
  have cT := h.c128
  have cP := hp.c128
  have lT : (ruleL rs g).length ≤ 90000 := jl_small (by have := h.len; omega) h.w
  have lP : (ruleL rs none).length ≤ 90000 := jl_small (by have := hp.len; omega) hp.w
  have tn : rs.map stepL ++ goneW g ≠ [] := by rw [ers]; simp
  have pn : rs.map stepL ≠ [] := by rw [ers]; simp
  have eP : ruleL rs none = jl 32 (rs.map stepL) := by unfold ruleL; rw [show goneW none = [] from rfl, List.append_nil]
  -- the text by its first word
  obtain ⟨tl, etl⟩ : ∃ tl : List Nat, ∀ w : List Nat, jl 32 (w :: (rt.map stepL ++ goneW g)) = w ++ tl := ⟨_, fun w => tl_hd w _⟩
  have eT : ruleL rs g = nL x.1 ++ 58 :: (nL x.2 ++ tl) := by
    unfold ruleL
    rw [ers, List.map_cons, List.cons_append, etl]
    unfold stepL
    simp
  have n58 : 58 ∉ nL x.1 := nL_no (by omega)
  have lst : ∃ y, ixE rs (-1) = .ok y ∧ y ∈ rs := ⟨_, ix_last h.ne, lastR_mem h.ne⟩
  obtain ⟨y, hy, ym⟩ := lst
  have ny := h.n.2 y ym
  have l1 := ny.1.len
  unfold F_l_spoilt
  rw [text_ok h.n (g := none) (fun v z => by cases z), bindP_ok]
  simp only [q82_0, q82_1, q82_2, q82_3, q82_4, q82_5, q82_6, q82_7, q82_8, q82_9, q82_10, q82_11, q82_12, q82_13, q82_14, q82_15, q82_16, q82_17, q82_18, q82_19, q82_20, txt_app, nTxt]
  refine Ret.gd (by simp only [txt_len, List.length_cons, List.length_nil]; omega) (Ret.gd (by simp only [txt_len, List.length_cons, List.length_nil]; omega) ?_)
  rw [eT]
  simp only [repl_at n58]
  rw [← eT]
  have lT' : (nL x.1 ++ 58 :: (nL x.2 ++ tl)).length = (ruleL rs g).length := by rw [eT]
  simp only [List.length_append, List.length_cons] at lT'
  repeat (refine Ret.gd (by simp only [txt_len, List.length_append, List.length_cons, List.length_nil]; omega) ?_)
  refine Ret.eqP hy (Ret.gd (strN ny.1) ?_)
  repeat (refine Ret.gd (by simp only [txt_len, List.length_append, List.length_cons, List.length_nil]; omega) ?_)
  refine Ret.letI ?_
  repeat (refine Ret.gd (by simp only [txt_len, List.length_map, List.length_append, List.length_cons, List.length_nil]; omega) ?_)
  refine Ret.letI (Ret.ixM (by omega) (by simp only [List.length_map, List.length_append, List.length_cons, List.length_nil]; omega) fun d hd => Ret.ok ?_)
  simp only [List.cons_append, List.nil_append, List.append_nil, List.map_cons, List.map_nil, List.mem_cons, List.not_mem_nil, or_false] at hd
  have pre1 : ∀ w : List Nat, (∀ c ∈ w, c < 128) → WOk w → w ≠ goneL → BadS w → Ref (.str (txt (w ++ tl))) := fun w hc h1 h2 h3 => by
    have htl : ∀ c ∈ tl, c < 128 := fun c hc => cT c (by rw [eT]; simp [hc])
    refine Ref.t (fun c q => (List.mem_append.mp q).elim (hc c) (htl c)) ?_
    rw [← etl w]
    exact ref_pre (pre := [w]) hrt h.g (by simp) (by simp) (fun v q => by
      obtain rfl : v = w := by simpa using q
      exact ⟨h1, h2⟩) ⟨w, by simp, h3⟩
  have cx : ∀ (i : Int), ∀ c ∈ nL i, c < 128 := fun i c q => by have := nL_chars i c q; omega
  have nn : ∀ (i : Int) (c : Nat), ¬ (c = 45 ∨ (48 ≤ c ∧ c ≤ 57)) → c ∉ nL i := fun i c q => nL_no q
  have wpre : ∀ s : List Nat, s.length ≤ 4 → 32 ∉ s → WOk (nL x.1 ++ (s ++ nL x.2)) := fun s l z => ⟨fun q => by
    rcases List.mem_append.mp q with q | q
    · exact nn _ 32 (by omega) q
    · rcases List.mem_append.mp q with q | q
      · exact z q
      · exact nn _ 32 (by omega) q, by simp; omega⟩
  have cpre : ∀ s : List Nat, (∀ c ∈ s, c < 128) → ∀ c ∈ nL x.1 ++ (s ++ nL x.2), c < 128 := fun s z c q => by
    rcases List.mem_append.mp q with q | q
    · exact cx _ c q
    · rcases List.mem_append.mp q with q | q
      · exact z c q
      · exact cx _ c q
  have ngl : ∀ w : List Nat, 103 ∉ w → w ≠ goneL := fun w z e => z (by rw [e]; decide)
  have gpre : ∀ s : List Nat, 103 ∉ s → nL x.1 ++ (s ++ nL x.2) ≠ goneL := fun s z => ngl _ fun q => by
    rcases List.mem_append.mp q with q | q
    · exact nn _ 103 (by omega) q
    · rcases List.mem_append.mp q with q | q
      · exact z q
      · exact nn _ 103 (by omega) q
  have sg1 : ∀ (l : List Nat), WOk l → (∀ c ∈ l, c < 128) → ¬ GoodN l = true → Ref (.str (txt (ruleL rs none ++ 32 :: (goneL ++ 32 :: l)))) := fun l h1 h2 h3 => by
    refine Ref.t (fun c q => ?_) ?_
    · rcases List.mem_append.mp q with q | q
      · exact cP c q
      · rcases List.mem_cons.mp q with rfl | q
        · decide
        · rcases List.mem_append.mp q with q | q
          · simp at q; omega
          · rcases List.mem_cons.mp q with rfl | q
            · decide
            · exact h2 c q
    · rw [eP, jl_sp2 pn]
      exact ref_sufg h.ne h.n h1 h3
  rcases hd with rfl | rfl | rfl | rfl | rfl | rfl | rfl | rfl | rfl | rfl | rfl | rfl | rfl | rfl | rfl | rfl | rfl | rfl | rfl | rfl | rfl | rfl | rfl | rfl | rfl
  · refine Ref.t (c_app cT (by decide)) ?_
    show F_read_rule (txt (jl 32 (rs.map stepL ++ goneW g) ++ 32 :: [])) = noT
    rw [jl_sp tn, List.append_assoc]
    refine ref_suf h.ne h.n ?_ ?_ ⟨[], by simp, .inl (by simp)⟩ ?_
    · cases g <;> simp [goneW]
    · intro w q
      rcases List.mem_append.mp q with q | q
      · exact h.w w (List.mem_append_right _ q)
      · obtain rfl : w = [] := by simpa using q
        exact ⟨by simp, by simp⟩
    · intro us a b e
      cases g with
      | none =>
        have := congrArg List.length e
        simp [goneW] at this
      | some v =>
        have e' : [goneL] ++ [nL v, []] = us ++ [a, b] := e
        have := (List.append_inj' e' rfl).2
        simp only [List.cons.injEq, and_true] at this
        rw [← this.1]
        exact ngl _ (nn _ 103 (by omega))
  · refine Ref.t (fun c q => (List.mem_cons.mp q).elim (fun z => by omega) (cT c)) ?_
    show F_read_rule (txt ([] ++ 32 :: jl 32 (rs.map stepL ++ goneW g))) = noT
    rw [← jl_cons 32 [] tn]
    exact ref_pre (pre := [[]]) h.n h.g (by simp) (by simp) (fun w q => by
      obtain rfl : w = [] := by simpa using q
      exact ⟨⟨by simp, by simp⟩, by decide⟩) ⟨[], by simp, .inl (by simp)⟩
  · rw [show nL x.1 ++ (nL x.2 ++ tl) = (nL x.1 ++ ([] ++ nL x.2)) ++ tl by simp]
    refine pre1 _ (cpre _ (by simp)) (wpre _ (by simp) (by simp)) (gpre _ (by simp)) (.inl fun q => ?_)
    rcases List.mem_append.mp q with q | q
    · exact n58 q
    · exact nn _ 58 (by omega) (by simpa using q)
  · rw [show nL x.1 ++ [58, 58] ++ (nL x.2 ++ tl) = (nL x.1 ++ ([58, 58] ++ nL x.2)) ++ tl by simp]
    refine pre1 _ (cpre _ (by simp)) (wpre _ (by simp) (by simp)) (gpre _ (by simp)) (.inr ⟨nL x.1, 58 :: nL x.2, by simp, n58, .inr fun z => ?_⟩)
    have q := ((good_iff _).mp z).2.1
    rw [fig_no (by simp)] at q
    simp [isDg] at q
  · rw [show nL x.1 ++ [58, 32] ++ (nL x.2 ++ tl) = (nL x.1 ++ [58]) ++ 32 :: (nL x.2 ++ tl) by simp]
    have htl : ∀ c ∈ tl, c < 128 := fun c hc => cT c (by rw [eT]; simp [hc])
    refine Ref.t (fun c q => ?_) ?_
    · simp only [List.mem_append, List.mem_cons, List.not_mem_nil, or_false] at q
      rcases q with (q | q) | q | q | q
      · exact cx _ c q
      · omega
      · omega
      · exact cx _ c q
      · exact htl c q
    · rw [← etl (nL x.2), ← jl_cons 32 _ (by simp)]
      refine ref_pre (pre := [nL x.1 ++ [58], nL x.2]) hrt h.g (by simp) (by simp) (fun w q => ?_) ⟨_, List.mem_cons_self .., .inr ⟨nL x.1, [], rfl, n58, .inr (ng (by decide))⟩⟩
      simp only [List.mem_cons, List.not_mem_nil, or_false] at q
      rcases q with rfl | rfl
      · exact ⟨⟨fun z => by
          rcases List.mem_append.mp z with z | z
          · exact nn _ 32 (by omega) z
          · simp at z, by simp; omega⟩, ngl _ fun z => by
          rcases List.mem_append.mp z with z | z
          · exact nn _ 103 (by omega) z
          · simp at z⟩
      · exact ⟨⟨nn _ 32 (by omega), by omega⟩, ngl _ (nn _ 103 (by omega))⟩
  · rw [show nL x.1 ++ [45] ++ (nL x.2 ++ tl) = (nL x.1 ++ ([45] ++ nL x.2)) ++ tl by simp]
    refine pre1 _ (cpre _ (by simp)) (wpre _ (by simp) (by simp)) (gpre _ (by simp)) (.inl fun q => ?_)
    rcases List.mem_append.mp q with q | q
    · exact n58 q
    · rcases List.mem_append.mp q with q | q
      · simp at q
      · exact nn _ 58 (by omega) q
  · rw [eT, show 48 :: (nL x.1 ++ 58 :: (nL x.2 ++ tl)) = (48 :: (nL x.1 ++ ([58] ++ nL x.2))) ++ tl by simp]
    refine pre1 _ (fun c q => (List.mem_cons.mp q).elim (fun z => by omega) (cpre _ (by simp) c)) ⟨fun q => (List.mem_cons.mp q).elim (fun z => by omega) (wpre [58] (by simp) (by simp)).no, by simp; omega⟩ (ngl _ fun q => ?_) (.inr ⟨48 :: nL x.1, nL x.2, by simp, fun q => (List.mem_cons.mp q).elim (fun z => by omega) n58, .inl (good_zero (nL_ne _))⟩)
    simp only [List.mem_append, List.mem_cons, List.not_mem_nil, or_false] at q
    rcases q with q | q | q | q
    · omega
    · exact nn _ 103 (by omega) q
    · omega
    · exact nn _ 103 (by omega) q
  · rw [eT, show 43 :: (nL x.1 ++ 58 :: (nL x.2 ++ tl)) = (43 :: (nL x.1 ++ ([58] ++ nL x.2))) ++ tl by simp]
    refine pre1 _ (fun c q => (List.mem_cons.mp q).elim (fun z => by omega) (cpre _ (by simp) c)) ⟨fun q => (List.mem_cons.mp q).elim (fun z => by omega) (wpre [58] (by simp) (by simp)).no, by simp; omega⟩ (ngl _ fun q => ?_) (.inr ⟨43 :: nL x.1, nL x.2, by simp, fun q => (List.mem_cons.mp q).elim (fun z => by omega) n58, .inl fun z => ?_⟩)
    · simp only [List.mem_append, List.mem_cons, List.not_mem_nil, or_false] at q
      rcases q with q | q | q | q
      · omega
      · exact nn _ 103 (by omega) q
      · omega
      · exact nn _ 103 (by omega) q
    · have q := ((good_iff _).mp z).2.1
      rw [fig_no (by simp)] at q
      simp [isDg] at q
  · refine Ref.t (c_app cP (by decide)) ?_
    show F_read_rule (txt (ruleL rs none ++ 32 :: goneL)) = noT
    rw [eP, jl_sp pn]
    exact ref_suf h.ne h.n (by simp) (fun w q => by
      obtain rfl : w = goneL := by simpa using q
      exact ⟨by decide, by decide⟩) ⟨goneL, by simp, .inl (by decide)⟩ fun us a b e => by
        have := congrArg List.length e
        simp at this
  · exact sg1 [] ⟨by simp, by simp⟩ (by simp) (ng (by decide))
  · exact sg1 [48, 120, 57] ⟨by decide, by decide⟩ (by decide) (ng (by decide))
  · rw [show ruleL rs none ++ 32 :: 103 :: 111 :: 110 :: 101 :: 32 :: 48 :: [] ++ nL y.1 = ruleL rs none ++ 32 :: (goneL ++ 32 :: (48 :: nL y.1)) by simp]
    exact sg1 (48 :: nL y.1) ⟨fun q => (List.mem_cons.mp q).elim (fun z => by omega) (nn _ 32 (by omega)), by simp; omega⟩ (fun c q => (List.mem_cons.mp q).elim (fun z => by omega) (cx _ c)) (good_zero (nL_ne _))
  · refine Ref.t (c_app cP (by decide)) ?_
    show F_read_rule (txt (ruleL rs none ++ 32 :: ([71, 111, 110, 101] ++ 32 :: [57, 57]))) = noT
    rw [eP, jl_sp2 pn]
    refine ref_suf h.ne h.n (by simp) (fun w q => ?_) ⟨[57, 57], by simp, .inl (by decide)⟩ fun us a b e => ?_
    · simp only [List.mem_cons, List.not_mem_nil, or_false] at q
      rcases q with rfl | rfl <;> exact ⟨by decide, by decide⟩
    · have e' : [] ++ [[71, 111, 110, 101], [57, 57]] = us ++ [a, b] := e
      have := (List.append_inj' e' rfl).2
      simp only [List.cons.injEq, and_true] at this
      rw [← this.1]
      decide
  · exact sg1 [110, 111, 110, 101] ⟨by decide, by decide⟩ (by decide) (ng (by decide))
  · refine Ref.t (c_app cP (by decide)) ?_
    show F_read_rule (txt (ruleL rs none ++ 32 :: ([] ++ 32 :: (goneL ++ 32 :: [57, 57])))) = noT
    rw [eP, jl_sp3 pn, show rs.map stepL ++ [[], goneL, [57, 57]] = (rs.map stepL ++ [[]]) ++ [goneL, [57, 57]] by simp]
    refine ref_gone (by simp) (by have := h.n.1; simp; omega) (fun w q => ?_) ⟨by decide, by decide⟩ (.inr ⟨[], by simp, .inl (by simp)⟩)
    rcases List.mem_append.mp q with q | q
    · exact h.w w (List.mem_append_left _ q)
    · obtain rfl : w = [] := by simpa using q
      exact ⟨by simp, by simp⟩
  · exact Ref.t (by simp) (ref_plain (W := [[]]) (by simp) (by simp) (fun w q => by
      obtain rfl : w = [] := by simpa using q
      exact ⟨by simp, by simp⟩) ⟨[], by simp, .inl (by simp)⟩ fun us a b e _ => by
        have := congrArg List.length e
        simp at this)
  · exact Ref.t (by decide) (ref_plain (W := [goneL, [53]]) (by simp) (by simp) (fun w q => by
      simp only [List.mem_cons, List.not_mem_nil, or_false] at q
      rcases q with rfl | rfl <;> exact ⟨by decide, by decide⟩) ⟨goneL, by simp, .inl (by decide)⟩ fun us a b e z => by
        have := congrArg List.length e
        simp at this
        exact absurd this z)
  · exact Ref.t (by decide) (ref_plain (W := [goneL]) (by simp) (by simp) (fun w q => by
      obtain rfl : w = goneL := by simpa using q
      exact ⟨by decide, by decide⟩) ⟨goneL, by simp, .inl (by decide)⟩ fun us a b e z => by
        have := congrArg List.length e
        simp at this)
  · exact Ref.t (c_app cT (by decide)) (ref_last h (.inl rfl))
  · exact Ref.t (c_app cT (by decide)) (ref_last h (.inr rfl))
  · exact rr2_no ⟨by decide +kernel, by decide +kernel⟩ rfl
  · exact rr2_no ⟨by decide +kernel, by decide +kernel⟩ rfl
  · exact rr2_no (flat_rows rs (by have := h.n.1; omega)) rfl
  · exact Ref.t (by decide) (ref_plain (W := [[110, 111, 110, 101]]) (by simp) (by simp) (fun w q => by
      obtain rfl : w = [110, 111, 110, 101] := by simpa using q
      exact ⟨by decide, by decide⟩) ⟨_, List.mem_singleton.mpr rfl, .inl (by decide)⟩ fun us a b e z => by
        have := congrArg List.length e
        simp at this)
  · refine Ref.t (c_app cP (by decide)) ?_
    show F_read_rule (txt (ruleL rs none ++ 32 :: (goneL ++ 32 :: ([57] ++ 32 :: [57])))) = noT
    rw [eP, jl_sp3 pn]
    refine ref_suf h.ne h.n (by simp) (fun w q => ?_) ⟨goneL, by simp, .inl (by decide)⟩ fun us a b e => ?_
    · simp only [List.mem_cons, List.not_mem_nil, or_false] at q
      rcases q with rfl | rfl | rfl <;> exact ⟨by decide, by decide⟩
    · have e' : [goneL] ++ [[57], [57]] = us ++ [a, b] := e
      have := (List.append_inj' e' rfl).2
      simp only [List.cons.injEq, and_true] at this
      rw [← this.1]
      decide
/-! ### steps that are no rule -/
theorem scan_two {x y : Int × Int} {ys : RowsT} (h : bad1 x.1 x.2 y = true) : ∀ (xs : RowsT) (o b : Int), scan o b (xs ++ x :: y :: ys) = none
  | [], o, b => by
    show scan o b (x :: y :: ys) = none
    unfold scan
    split
    · rfl
    · unfold scan
      rw [if_pos h]
  | z :: xs, o, b => by
    rw [List.cons_append]
    unfold scan
    split
    · rfl
    · exact scan_two h xs _ _
theorem scan_bad {x : Int × Int} {ys : RowsT} (h : x.2 < 1) : ∀ (xs : RowsT) (o b : Int), scan o b (xs ++ x :: ys) = none
  | [], o, b => by
    show scan o b (x :: ys) = none
    unfold scan
    rw [if_pos (by unfold bad1; rw [decide_eq_true h]; simp)]
  | z :: xs, o, b => by
    rw [List.cons_append]
    unfold scan
    split
    · rfl
    · exact scan_bad h xs _ _
theorem scan_last : ∀ (rs : RowsT) (o b v : Int), scan o b rs = some v → v = (rs.getLastD (o, b)).1
  | [], o, b, v, h => by cases h; rfl
  | x :: rs, o, b, v, h => by
    unfold scan at h
    split at h
    · cases h
    · have := scan_last rs x.1 x.2 v h
      rw [this]
      cases rs <;> rfl
theorem valid_scan {rs : RowsT} {g : Option Int} (h : scan 0 1 rs = none) : ¬ validB rs g = true := by
  unfold validB
  rw [h]
  simp
theorem valid_of {rs : RowsT} {g : Option Int} (h : RowsIn rs) (hg : GoneIn rs g) : validB rs g = true := by
  have e := init_ok h hg
  have l := h.l5
  rw [init_eq (by omega)] at e
  by_cases c : validB rs g = true
  · exact c
  · rw [if_neg c] at e; cases e
theorem rowsN_of {rs : RowsT} (h : RowsIn rs) : RowsN rs := ⟨by have := h.l5; omega, fun x hx => by
  have := h.b x hx
  exact ⟨numOk (by omega) (by omega), numOk (by omega) (by omega)⟩⟩
theorem goneN_of {rs : RowsT} {g : Option Int} (h : RowsIn rs) (hg : GoneIn rs g) : ∀ v, g = some v → NumOk v := fun v e => by
  have a := hg v e
  have b := h.b _ (lastR_mem h.ne)
  have c := a.2 _ (lastR_mem h.ne)
  exact numOk (by omega) (by omega)
theorem no_of {rs : RowsT} {g : Option Int} (hne : rs ≠ []) (h : RowsN rs) (hg : ∀ v, g = some v → NumOk v) (hv : ¬ validB rs g = true) : Ret (F_l_text rs g) fun t => F_read_rule t = noT := by
  rw [text_ok h hg]
  refine Ret.ok ?_
  rw [rr_rule hne (by have := h.1; omega) h.2 hg, if_neg hv]
theorem RowsN.app {xs ys : RowsT} (h1 : xs.length + ys.length ≤ 20) (hx : ∀ x ∈ xs, NumOk x.1 ∧ NumOk x.2) (hy : ∀ x ∈ ys, NumOk x.1 ∧ NumOk x.2) : RowsN (xs ++ ys) := ⟨by rw [List.length_append]; exact h1, fun x q => (List.mem_append.mp q).elim (hx x) (hy x)⟩
theorem repL_one {α : Type} (x : α) (n : Int) : repL [x] n = List.replicate n.toNat x := by
  unfold repL
  induction n.toNat with
  | zero => rfl
  | succ k ih => rw [List.replicate_succ, List.flatten_cons, ih, List.replicate_succ]; rfl
theorem set_split {α : Type} {xs : List α} {i : Nat} (h : i < xs.length) (v : α) : xs.set i v = xs.take i ++ v :: xs.drop (i + 1) := by
  rw [List.set_eq_take_append_cons_drop, if_pos h]
theorem norule_ok {rs : RowsT} {g : Option Int} (h : RowsIn rs) (hg : GoneIn rs g) (c : Int) : Ret (F_l_no_rule rs g c) fun t => F_read_rule t = noT := by
  have l1 := h.l1
  have l5 := h.l5
  have hn := rowsN_of h
  have hgn := goneN_of h hg
  unfold F_l_no_rule
  refine Ret.gd (by omega) (Ret.letE fun at6 hat => ?_)
  have a0 := Int.emod_nonneg (c / 7) (show (rs.length : Int) ≠ 0 by omega)
  have a1 := Int.emod_lt_of_pos (c / 7) (show 0 < (rs.length : Int) by omega)
  rw [← hat] at a0 a1
  refine Ret.ix a0 (by omega) fun x hx => ?_
  have xm := List.mem_of_getElem? hx
  have bx := h.b x xm
  have ct : ∀ k : Int, 0 ≤ k → k ≤ rs.length → cutD' rs none (some k) = rs.take k.toNat := fun k k0 k1 => cut_to rs k0
  have tk : ∀ k : Nat, (rs.take k).length ≤ 5 := fun k => by rw [List.length_take]; omega
  have tm : ∀ k : Nat, ∀ y ∈ rs.take k, NumOk y.1 ∧ NumOk y.2 := fun k y q => hn.2 y (List.mem_of_mem_take q)
  have big : ∀ i : Int, -(10 ^ 60) ≤ i → i ≤ 10 ^ 60 → NumOk i := fun i a b => numOk a b
  refine Ret.iteD (fun _ => ?_) fun _ => Ret.iteD (fun _ => ?_) fun _ => Ret.iteD (fun _ => ?_) fun _ => Ret.iteD (fun _ => ?_) fun _ => Ret.iteD (fun _ => ?_) fun _ => Ret.iteD (fun _ => ?_) fun _ => ?_
  · rw [ct at6 a0 (by omega)]
    have := tk at6.toNat
    refine Ret.gd (by simp only [List.length_cons, List.length_nil]; omega) ((no_of (by simp) (RowsN.app (by simp only [List.length_cons, List.length_nil]; omega) (tm _) fun y q => ?_) (by simp) (valid_scan ?_)).bindP fun t ht => Ret.ok ht)
    · simp only [List.mem_cons, List.not_mem_nil, or_false] at q
      rcases q with rfl | rfl | rfl <;> exact ⟨big _ (by dsimp only; omega) (by dsimp only; omega), big _ (by dsimp only; omega) (by dsimp only; omega)⟩
    · rw [show rs.take at6.toNat ++ [(x.1, x.2), (x.1 + 1, x.2), (x.1, x.2)] = (rs.take at6.toNat ++ [(x.1, x.2)]) ++ (x.1 + 1, x.2) :: (x.1, x.2) :: [] by simp]
      exact scan_two (by unfold bad1; rw [decide_eq_true (by dsimp only; omega)]; rfl) _ _ _
  · rw [ct at6 a0 (by omega)]
    have := tk at6.toNat
    refine Ret.gd (by simp only [List.length_cons, List.length_nil]; omega) ((no_of (by simp) (RowsN.app (by simp only [List.length_cons, List.length_nil]; omega) (tm _) fun y q => ?_) (by simp) (valid_scan ?_)).bindP fun t ht => Ret.ok ht)
    · simp only [List.mem_cons, List.not_mem_nil, or_false] at q
      rcases q with rfl | rfl <;> exact ⟨big _ (by dsimp only; omega) (by dsimp only; omega), big _ (by dsimp only; omega) (by dsimp only; omega)⟩
    · refine scan_two ?_ _ _ _
      have e : x.2 * 3 % (x.2 * 2) = x.2 := by
        rw [show x.2 * 3 = x.2 + x.2 * 2 * 1 by omega, Int.add_mul_emod_self_left]
        exact Int.emod_eq_of_lt (by omega) (by omega)
      unfold bad1
      dsimp only
      rw [e, decide_eq_false (show ¬ x.2 = 0 by omega)]
      simp
  · have ls : at6.toNat < rs.length := by omega
    have e : setE rs at6 (x.1, 0 - c / 35 % 9) = .ok (rs.set at6.toNat (x.1, 0 - c / 35 % 9)) := setE_nat a0 (by omega)
    refine Ret.eqP e ((no_of ?_ ⟨by rw [List.length_set]; omega, fun y q => ?_⟩ hgn (valid_scan ?_)).bindP fun t ht => Ret.ok ht)
    · intro z
      have := congrArg List.length z
      rw [List.length_set, List.length_nil] at this
      omega
    · rcases List.mem_or_eq_of_mem_set q with q | rfl
      · exact hn.2 y q
      · have m0 := Int.emod_nonneg (c / 35) (show (9 : Int) ≠ 0 by decide)
        have m1 := Int.emod_lt_of_pos (c / 35) (show (0 : Int) < 9 by decide)
        exact ⟨big _ (by dsimp only; omega) (by dsimp only; omega), big _ (by dsimp only; omega) (by dsimp only; omega)⟩
    · rw [set_split ls]
      exact scan_bad (x := (x.1, 0 - c / 35 % 9)) (by dsimp only; omega) _ _ _
  · refine Ret.eqP (ix_last h.ne) ?_
    have bl := h.b _ (lastR_mem h.ne)
    have nv : NumOk ((lastR rs).1 - 1 - c / 35 % 1000000000000000000000000000000) := big _ (by omega) (by omega)
    refine Ret.eqP (text2_ok hn nv) (Ret.ok ?_)
    rw [rr_rule h.ne (by omega) hn.2 (fun v e => by cases e; exact nv), if_neg]
    intro z
    unfold validB at z
    rw [Bool.and_eq_true] at z
    have z2 := z.2
    cases q : scan 0 1 rs with
    | none => rw [q] at z2; cases z2
    | some o =>
      rw [q] at z2
      have e := scan_last rs 0 1 o q
      have e2 : rs.getLastD (0, 1) = lastR rs := rfl
      rw [e2] at e
      simp [goneOk] at z2
      omega
  · refine Ret.eqP (ix_last h.ne) ?_
    have bl := hn.2 _ (lastR_mem h.ne)
    have lr : (repL [lastR rs] (6 - (rs.length : Int))).length = 6 - rs.length := by
      rw [repL_one, List.length_replicate]; omega
    refine Ret.gd ⟨by omega, by omega⟩ (Ret.gd (by simp only [List.length_cons, List.length_nil]; omega) (Ret.gd (by omega) ((no_of (by simp [h.ne]) (RowsN.app (by omega) hn.2 fun y q => ?_) (by simp) ?_).bindP fun t ht => Ret.ok ht)))
    · rw [repL_one] at q
      rw [List.eq_of_mem_replicate q]
      exact bl
    · unfold validB
      rw [List.length_append, lr, decide_eq_false (by omega)]
      simp
  · obtain ⟨r0, rt, er⟩ := List.exists_cons_of_ne_nil h.ne
    have e0 : ixE rs 0 = .ok r0 := by rw [er]; rfl
    refine Ret.eqP e0 ?_
    have b0 := h.b r0 (by rw [er]; simp)
    have e : setE rs 0 (-1 - c / 35 % 1000000000000000000000000000000, r0.2) = .ok ((-1 - c / 35 % 1000000000000000000000000000000, r0.2) :: rt) := by
      rw [er, setE_nat (by decide) (by simp)]; rfl
    refine Ret.eqP e ((no_of (by simp) ⟨by have := congrArg List.length er; simp at this ⊢; omega, fun y q => ?_⟩ hgn (valid_scan ?_)).bindP fun t ht => Ret.ok ht)
    · rcases List.mem_cons.mp q with rfl | q
      · exact ⟨big _ (by dsimp only; omega) (by dsimp only; omega), big _ (by dsimp only; omega) (by dsimp only; omega)⟩
      · exact hn.2 y (by rw [er]; simp [q])
    · unfold scan
      rw [if_pos (by unfold bad1; rw [decide_eq_true (by dsimp only; omega)]; rfl)]
  · rw [ct (at6 + 1) (by omega) (by omega)]
    have := tk (at6 + 1).toNat
    refine Ret.gd (by simp only [List.length_cons, List.length_nil]; omega) ((no_of (by simp) (RowsN.app (by simp only [List.length_cons, List.length_nil]; omega) (fun y q => ?_) (tm _)) hgn (valid_scan ?_)).bindP fun t ht => Ret.ok ht)
    · obtain rfl : y = (x.1 + 1, x.2) := by simpa using q
      exact ⟨big _ (by dsimp only; omega) (by dsimp only; omega), big _ (by dsimp only; omega) (by dsimp only; omega)⟩
    · obtain ⟨r0, rt, er⟩ := List.exists_cons_of_ne_nil h.ne
      have le : r0.1 ≤ x.1 := (asc_le h at6.toNat 0 r0 x (by rw [er]; rfl) (by rw [Nat.zero_add]; exact hx)).1
      rw [show (at6 + 1).toNat = at6.toNat + 1 by omega, er, List.take_succ_cons]
      exact scan_two (xs := []) (by unfold bad1; rw [decide_eq_true (by dsimp only; omega)]; rfl) 0 1
theorem law_ok (ns : List Int) (hl : ns.length ≤ 63) : F_law ns = .ok true := by
  refine Ret.eq ?_
  unfold F_law
  refine Ret.letE fun cs hcs => Ret.gd ?_ ?_
  · have : cs.length ≤ 20 := by rw [hcs, cut_to _ (by decide), List.length_take]; omega
    exact ⟨by omega, by omega⟩
  · refine Ret.loop (fun _ _ => True) trivial (fun j u x hx _ => ?_) fun _ _ => ?_
    · have bk := rngD_get hx
      have lj := (List.getElem?_eq_some_iff.mp hx).1
      rw [rngD_length] at lj
      have n0 : 0 < cs.length := by omega
      obtain ⟨y, hy⟩ : ∃ y, ixE cs (x - 1) = .ok y := by
        by_cases q : 0 ≤ x - 1
        · exact ⟨_, ixE_nat q (List.getElem?_eq_getElem (by omega))⟩
        · exact ⟨_, ixE_neg (by omega) (by omega) (List.getElem?_eq_getElem (by omega))⟩
      obtain ⟨c, hc⟩ : ∃ c, ixE cs x = .ok c := ⟨_, ixE_nat (by omega) (List.getElem?_eq_getElem (by omega))⟩
      refine Ret.eqP hc ((rule_ret c).bindP fun q hq => ?_)
      obtain ⟨rs, g⟩ := q
      obtain ⟨h1, h2⟩ := hq
      dsimp only at h1 h2
      have hn := rowsN_of h1
      have hgn := goneN_of h1 h2
      have l5 := h1.l5
      have v := valid_of h1 h2
      refine Ret.eqP (text_ok hn hgn) (Ret.eqP (init_ok h1 h2) (Ret.eqP (show_ok hn hgn) (Ret.f (by simp) ?_)))
      refine Ret.eqX (a := (rs, g)) (by rw [rr_rule h1.ne (by omega) hn.2 hgn, if_pos v]) ?_
      refine Ret.bindP (R := fun b => b = false) (Ret.orE (fun _ => ?_) (fun z => by cases z)) fun b hb => ?_
      · refine Ret.eqP (a := rs) rfl (Ret.bindP (R := fun b => b = false) (Ret.orE (fun _ => ?_) (fun z => by simp at z)) fun b hb => Ret.ok hb)
        exact Ret.eqP (a := g) rfl (Ret.ok (by simp))
      · subst hb
        refine Ret.f rfl (Ret.eqP hy ((spoilt_ok ⟨h1.ne, hn, hgn⟩ _).bindP fun d hd => Ret.eqP (ref_ok hd) (Ret.f rfl (Ret.eqP hy ((norule_ok h1 h2 _).bindP fun t ht => Ret.eqP (ref2_ok ht) (Ret.f rfl (Ret.ok ⟨(), rfl, trivial⟩)))))))
    · have e : F_read_rule ("0:1" : Str) = .ok ([(0, 1)], none) := by
        have t : ("0:1" : Str) = txt (ruleL [(0, 1)] none) := by decide +kernel
        rw [t, rr_rule (by simp) (by simp) (fun x q => by
          obtain rfl : x = (0, 1) := by simpa using q
          exact ⟨numOk (by decide) (by decide), numOk (by decide) (by decide)⟩) (by simp), if_pos (by decide)]
      exact Ret.eqP e (Ret.eqP (a := none) rfl (Ret.ok rfl))
end Lw
namespace Lw
open PySem PySem.Spec PyProof.Rows L2 Dl
def topS (i : Nat) : Stmt := PySem.Challenge.pw_thinbook_k82_rules_written.main.body.getD i (.Pass ⟨0, 0, 0, 0⟩)
abbrev s_xi_NoText : Stmt := inClass (topS 5) 0
abbrev s_l_mixed : Stmt := topS 19
abbrev s_l_amount : Stmt := topS 20
abbrev s_l_rule : Stmt := topS 21
abbrev s_l_text : Stmt := topS 22
abbrev s_Rule_init : Stmt := inClass (topS 8) 0
abbrev s_Rule_steps : Stmt := inClass (topS 8) 1
abbrev s_show_number : Stmt := topS 13
abbrev s_Rule_gone : Stmt := inClass (topS 8) 2
abbrev s_show_rule : Stmt := topS 15
abbrev s_needed : Stmt := topS 12
abbrev s_read_number : Stmt := topS 14
abbrev s_read_step : Stmt := topS 16
abbrev s_read_rule : Stmt := topS 17
abbrev s_l_spoilt : Stmt := topS 23
abbrev s_l_refused : Stmt := topS 25
abbrev s_l_no_rule : Stmt := topS 24
abbrev s_law : Stmt := topS 26
/-! ### what the top has written -/
structure Adr where
  none_ : Addr
  a_NoRule : Addr
  a_NoText : Addr
  n_BookError : Addr
  n_NoNumber : Addr
  c_Rule : Addr
def adE (A : Adr) (n : Str) : Addr := if n = "NoRule" then A.a_NoRule else if n = "NoText" then A.a_NoText else 0
theorem ad_NoRule (A : Adr) : adE A "NoRule" = A.a_NoRule := by unfold adE; rw [if_pos rfl]
theorem ad_NoText (A : Adr) : adE A "NoText" = A.a_NoText := by unfold adE; rw [if_neg (by decide), if_pos rfl]
def dk_CRule (A : Adr) (t : (List (Int × Int)) × (Option Int)) : D := .ins A.c_Rule ["row", "end"] [.lst (t.1.map dk_T2II), dOpt D.int t.2]
theorem en_T2II : En 1 dk_T2II := en_tup (enL_cons en_int (enL_one en_int))
theorem en_LT2II : En 2 (fun t : List (Int × Int) => D.lst (t.map dk_T2II)) := en_lst en_T2II
theorem en_OI : En 0 (dOpt D.int) := en_opt en_int fun x => by simp [D.py, D.pyA, PyData.eqv, D.nsc]
structure Txt (K : Frag) (mg : Str → Option Value) (A : Adr) : Prop where
  cl_Rule : ClsT K mg "Rule" A.c_Rule ["row", "end"]
  nodg : NoDg K
  x_NoRule : ExT K mg "NoRule" A.a_NoRule
  x_NoText : ExF K mg "NoText" A.a_NoText
  n_BookError : mg "BookError" = some (.ref A.n_BookError)
  n_NoRule : mg "NoRule" = some (.ref A.a_NoRule)
  n_NoText : mg "NoText" = some (.ref A.a_NoText)
  n_NoNumber : mg "NoNumber" = some (.ref A.n_NoNumber)
  xi_NoText : XIni K A.a_NoText "NoText" "line" s_xi_NoText
  oex_NoText : OexC K A.a_NoText
  xn_NoText : PySem.W.findIn K (.ref A.a_NoText) "line" = some none
  rB : PySem.W.readsIn K A.n_BookError (.type "type") = true
  rG : PySem.W.specialIn K (.ref A.n_BookError) "__getattribute__" = some (some (.builtin "type.__getattribute__"))
  vB : PySem.W.findCls K (.ref A.n_BookError) (.type "type") "__init__" = some (.val (.builtin "ValueError.__init__"))
  e_NoRule_NoRule : PySem.W.exmOne K (.ref A.a_NoRule) (.ref A.a_NoRule) = some true
  i_NoRule_NoText : PySem.W.kitOne K (.ref A.a_NoRule) (.ref A.a_NoText) = some false
  i_NoText_NoText : PySem.W.kitOne K (.ref A.a_NoText) (.ref A.a_NoText) = some true
  i_NoRule_NoRule : PySem.W.kitOne K (.ref A.a_NoRule) (.ref A.a_NoRule) = some true
  i_NoText_NoRule : PySem.W.kitOne K (.ref A.a_NoText) (.ref A.a_NoRule) = some false
  i_NoRule_NoNumber : PySem.W.kitOne K (.ref A.a_NoRule) (.ref A.n_NoNumber) = some false
  i_NoText_NoNumber : PySem.W.kitOne K (.ref A.a_NoText) (.ref A.n_NoNumber) = some false
  e_NoText_BookError : PySem.W.exmOne K (.ref A.a_NoText) (.ref A.n_BookError) = some true
  e_NoRule_BookError : PySem.W.exmOne K (.ref A.a_NoRule) (.ref A.n_BookError) = some true
  xf_NoText_line : XfC K A.a_NoText ∧ PySem.W.findIn K (.ref A.a_NoText) "line" = some none
  in_Rule : InsT K A.c_Rule
  kk_Rule_Rule : PySem.W.kitOne K (.ref A.c_Rule) (.ref A.c_Rule) = some true
  f_l_mixed : FunT K mg "_law_mixed" s_l_mixed ["_law_x", "_law_k"]
  f_l_amount : FunT K mg "_law_amount" s_l_amount ["_law_x"]
  f_l_rule : FunT K mg "_law_rule" s_l_rule ["_law_number"]
  f_l_text : FunT K mg "_law_text" s_l_text ["_law_rows", "_law_end"]
  m_Rule_init : MethT K A.c_Rule "__init__" "Rule.__init__" s_Rule_init ["self", "steps", "gone"] [V.non]
  m_Rule_steps : MethT K A.c_Rule "steps" "Rule.steps" s_Rule_steps ["self"] []
  f_show_number : FunT K mg "show_number" s_show_number ["number"]
  m_Rule_gone : MethT K A.c_Rule "gone" "Rule.gone" s_Rule_gone ["self"] []
  f_show_rule : FunT K mg "show_rule" s_show_rule ["rule"]
  f_needed : FunT K mg "needed" s_needed ["truth"]
  f_read_number : FunT K mg "read_number" s_read_number ["text"]
  f_read_step : FunT K mg "read_step" s_read_step ["word"]
  f_read_rule : FunT K mg "read_rule" s_read_rule ["text"]
  f_l_spoilt : FunT K mg "_law_spoilt" s_l_spoilt ["_law_text_here", "_law_rows", "_law_cell"]
  f_l_refused : FunT K mg "_law_refused" s_l_refused ["_law_text_here"]
  f_l_no_rule : FunT K mg "_law_no_rule" s_l_no_rule ["_law_rows", "_law_end", "_law_cell"]
  b_len : mg "len" = none
  b_range : mg "range" = none
  b_str : mg "str" = none
  b_list : mg "list" = none
  b_isinstance : mg "isinstance" = none
  b_all : mg "all" = none
  b_int : mg "int" = none
  b_bool : mg "bool" = none
  k_MOST_STEPS : ∃ t, mg "MOST_STEPS" = some (.int 5 t)
  k_MOST_FIGURES : ∃ t, mg "MOST_FIGURES" = some (.int 1000 t)
  k_FIGURES : ∃ t, mg "FIGURES" = some (.str ("0123456789" : Str) t)
section
variable {P : Program} {w : World} {K : Frag} {mg : Str → Option Value} {base : Heap} {A : Adr}
theorem sc_xi_NoText : FnScope ["self", "line"] ["self", "line"] (defScope s_xi_NoText) := fscope (by decide +kernel)
theorem rz_NoText {X : Cx} {kx : XD} {ρ : Ro} {M : Mem} {Q : Out → Mem → Prop} {pos p pos2 : Pos} {e : Expr} {d : D} (T : Txt X.K X.mg A) (hc : X.calm = true) (hr : Room 2 X.A) (hg : Gl X "NoText") (hv : DV X kx e ρ M d) (hk : ∀ cls, X.mg "NoText" = some cls → kx cls [("line", d)] ρ M) (he : starEach [e] X.env = (false, eval e X.env) :: starEach [] X.env := by rfl) (hpl : (backTo pos (starEach [] X.env)).any (·.1) = false := by rfl) : DS1 X kx (.Raise (some (.Call (.Name "NoText" p) [e] [] pos)) none pos2) ρ M Q :=
  ds1_raiseX (x := "NoText") hc hr T.oex_NoText T.x_NoText.gC hg T.xn_NoText T.xi_NoText sc_xi_NoText rfl T.n_BookError T.rB T.rG T.vB rfl rfl rfl (by decide) (by decide) (fun _ => ⟨_, rfl⟩) hv hk (by decide) he hpl
theorem rzk_NoText {X : Cx} {kx : XD} {ρ : Ro} {M : Mem} {Q : Out → Mem → Prop} {pos p pos2 : Pos} {e : Expr} {d : D} (T : Txt X.K X.mg A) (hc : HotK X) (hr : RoomQ 2 X.A) (hg : Gl X "NoText") (hv : DV X kx e ρ M d) (hk : ∀ cls, X.mg "NoText" = some cls → kx cls [("line", d)] ρ M) (he : starEach [e] X.env = (false, eval e X.env) :: starEach [] X.env := by rfl) (hpl : (backTo pos (starEach [] X.env)).any (·.1) = false := by rfl) : DS1 X kx (.Raise (some (.Call (.Name "NoText" p) [e] [] pos)) none pos2) ρ M Q :=
  ds1_raiseXK (x := "NoText") hc hr T.oex_NoText T.x_NoText.gC hg T.xn_NoText T.xi_NoText sc_xi_NoText rfl T.n_BookError T.rB T.rG T.vB rfl rfl rfl (by decide) (by decide) (fun _ => ⟨_, rfl⟩) hv hk (by decide) he hpl
theorem xs0 (T : Txt K mg A) : ∀ n ∈ (["NoRule"] : List Str), PySem.W.exmOne K (.ref (adE A n)) (.ref A.a_NoRule) = some (decide (n ∈ (["NoRule"] : List Str))) := by
  intro n h
  simp only [List.mem_cons, List.not_mem_nil, or_false] at h
  rcases h with rfl
  · rw [ad_NoRule]; exact T.e_NoRule_NoRule.trans (by decide)
theorem xs1 (T : Txt K mg A) : ∀ n ∈ (["NoRule"] : List Str), mg n = some (.ref (adE A n)) := by
  intro n h
  simp only [List.mem_cons, List.not_mem_nil, or_false] at h
  rcases h with rfl
  · rw [ad_NoRule]; exact T.x_NoRule.gC
theorem xs2 (T : Txt K mg A) : ∀ n ∈ (["NoRule", "NoText"] : List Str), PySem.W.kitOne K (.ref (adE A n)) (.ref A.a_NoText) = some (decide (n ∈ (["NoText"] : List Str))) := by
  intro n h
  simp only [List.mem_cons, List.not_mem_nil, or_false] at h
  rcases h with rfl | rfl
  · rw [ad_NoRule]; exact T.i_NoRule_NoText.trans (by decide)
  · rw [ad_NoText]; exact T.i_NoText_NoText.trans (by decide)
theorem xs3 (T : Txt K mg A) : ∀ n ∈ (["NoRule", "NoText"] : List Str), ExcC K (adE A n) := by
  intro n h
  simp only [List.mem_cons, List.not_mem_nil, or_false] at h
  rcases h with rfl | rfl
  · rw [ad_NoRule]; exact T.x_NoRule.toExcC
  · rw [ad_NoText]; exact T.x_NoText.toExcC
theorem xs4 (T : Txt K mg A) : ∀ n ∈ (["NoRule", "NoText"] : List Str), PySem.W.kitOne K (.ref (adE A n)) (.ref A.a_NoRule) = some (decide (n ∈ (["NoRule"] : List Str))) := by
  intro n h
  simp only [List.mem_cons, List.not_mem_nil, or_false] at h
  rcases h with rfl | rfl
  · rw [ad_NoRule]; exact T.i_NoRule_NoRule.trans (by decide)
  · rw [ad_NoText]; exact T.i_NoText_NoRule.trans (by decide)
theorem xs5 (T : Txt K mg A) : ∀ n ∈ (["NoRule", "NoText"] : List Str), PySem.W.kitOne K (.ref (adE A n)) (.ref A.n_NoNumber) = some (decide (n ∈ ([] : List Str))) := by
  intro n h
  simp only [List.mem_cons, List.not_mem_nil, or_false] at h
  rcases h with rfl | rfl
  · rw [ad_NoRule]; exact T.i_NoRule_NoNumber.trans (by decide)
  · rw [ad_NoText]; exact T.i_NoText_NoNumber.trans (by decide)
theorem xs6 (T : Txt K mg A) : ∀ n ∈ (["NoText"] : List Str), XfC K (adE A n) ∧ PySem.W.findIn K (.ref (adE A n)) "line" = some none := by
  intro n h
  simp only [List.mem_cons, List.not_mem_nil, or_false] at h
  rcases h with rfl
  · rw [ad_NoText]; exact ⟨T.xf_NoText_line.1, T.xf_NoText_line.2⟩
theorem xs7 (T : Txt K mg A) : ∀ n ∈ (["NoText", "NoRule"] : List Str), PySem.W.exmOne K (.ref (adE A n)) (.ref A.n_BookError) = some (decide (n ∈ (["NoText", "NoRule"] : List Str))) := by
  intro n h
  simp only [List.mem_cons, List.not_mem_nil, or_false] at h
  rcases h with rfl | rfl
  · rw [ad_NoText]; exact T.e_NoText_BookError.trans (by decide)
  · rw [ad_NoRule]; exact T.e_NoRule_BookError.trans (by decide)
theorem xs8 (T : Txt K mg A) : ∀ n ∈ (["NoText", "NoRule"] : List Str), mg n = some (.ref (adE A n)) := by
  intro n h
  simp only [List.mem_cons, List.not_mem_nil, or_false] at h
  rcases h with rfl | rfl
  · rw [ad_NoText]; exact T.x_NoText.gC
  · rw [ad_NoRule]; exact T.x_NoRule.gC
theorem sc_l_mixed : FnScope ["_law_x", "_law_k", "_law_number"] ["_law_x", "_law_k"] (defScope s_l_mixed) := fscope (by decide +kernel)
theorem g_l_mixed (T : Txt K mg A) : GF P w K mg base 1 "_law_mixed" [] (spE K mg (fun q : Int × Int => [.int q.1, .int q.2]) (fun q => F_l_mixed q.1 q.2) D.int) := by
  refine T.f_l_mixed.gf fun f fd F => fn_e F sc_l_mixed (fun _ => rfl) fun X e1 e2 e3 e4 e5 B Fz q out hF hne => ?_
  subst e1 e2 e3 e4 e5
  have v0 : Ns X 0 "_law_x" := B.ns rfl rfl
  have v1 : Ns X 1 "_law_k" := B.ns rfl rfl
  have v2 : Ns X 2 "_law_number" := B.ns rfl rfl
  obtain ⟨x1, k2⟩ := q
  replace hF : F_l_mixed x1 k2 = out := hF
  unfold F_l_mixed at hF
  change DS _ _ _ [some (.int x1), some (.int k2), none] [] _
  obtain ⟨number3, hh4, hF⟩ := letE_out hF
  refine ds_cons (ds1_set v2 (dv_isE (enc := D.int) (dv_mod (dv_mulX (dv_add (dv_add (dv_mod (dv_var v0.toNm rfl) dv_int (by decide)) (dv_mulX dv_int (dv_var v1.toNm rfl) (mok_c (.inl ⟨by decide, by decide⟩)))) dv_int) dv_int (mok_c (.inr ⟨by decide, by decide⟩))) dv_int (by decide)) hh4) ?_)
  change DS _ _ _ [some (.int x1), some (.int k2), some (.int number3)] [] _
  obtain ⟨hh5, hF⟩ := gd_out hF hne
  refine ds_cons (ds1_retV (dv_mod (dv_mulX (dv_var v2.toNm rfl) (dv_add (dv_fdiv (dv_var v2.toNm rfl) dv_int (div_c (by decide) (by decide))) dv_int) hh5) dv_int (by decide)) ?_)
  exact ret_mk (enc := D.int) (M := []) hF
theorem c_l_mixed {X : Cx} {kx : XD} {ρ : Ro} {M : Mem} {pos p : Pos} {e0 e1 : Expr} {x1 : Int} {k2 : Int} {r : Int} (T : Txt X.K X.mg A) (hr : Room 1 X.A) (hg : Gl X "_law_mixed") (h0 : DV X kx e0 ρ M (.int x1)) (h1 : DV X kx e1 ρ M (.int k2)) (hF : F_l_mixed x1 k2 = .ok r) (he0 : starEach [e0, e1] X.env = (false, eval e0 X.env) :: starEach [e1] X.env := by rfl) (he1 : starEach [e1] X.env = (false, eval e1 X.env) :: starEach [] X.env := by rfl) (hpl : (backTo pos (starEach [e1] X.env)).any (·.1) = false := by rfl) : DV X kx (.Call (.Name "_law_mixed" p) [e0, e1] [] pos) ρ M (.int r) :=
  dv_call (g_l_mixed T) hr hg (da_cons h0 (da_cons h1 da_nil he1) he0) (x1, k2) rfl (fun h => Ex.ok_ne r (hF.symm.trans h)) (fun d ⟨r', a1, a2⟩ => by cases hF.symm.trans a1; exact a2) (fun cls fs ⟨n, a1, _⟩ => by cases hF.symm.trans a1) (by decide) he0 hpl
theorem sc_l_amount : FnScope ["_law_x"] ["_law_x"] (defScope s_l_amount) := fscope (by decide +kernel)
theorem g_l_amount (T : Txt K mg A) : GF P w K mg base 1 "_law_amount" [] (spE K mg (fun q : Int => [.int q]) (fun q => F_l_amount q) D.int) := by
  refine T.f_l_amount.gf fun f fd F => fn_e F sc_l_amount (fun _ => rfl) fun X e1 e2 e3 e4 e5 B Fz x1 out hF hne => ?_
  subst e1 e2 e3 e4 e5
  have v0 : Ns X 0 "_law_x" := B.ns rfl rfl
  replace hF : F_l_amount x1 = out := hF
  unfold F_l_amount at hF
  change DS _ _ _ [some (.int x1)] [] _
  obtain ⟨x2, hh3, hF⟩ := bindP_out hF hne
  refine ds_cons (ds1_retV (dv_ixS (show DV _ _ _ _ _ (.lst ([0, (x1 / 4) % 5, (x1 / 4) % 100, (x1 / 4) * 1000000000039].map D.int)) from dv_lst (da_cons dv_int (da_cons (dv_mod (dv_fdiv (dv_var v0.toNm rfl) dv_int (div_c (by decide) (by decide))) dv_int (by decide)) (da_cons (dv_mod (dv_fdiv (dv_var v0.toNm rfl) dv_int (div_c (by decide) (by decide))) dv_int (by decide)) (da_cons (dv_mulX (dv_fdiv (dv_var v0.toNm rfl) dv_int (div_c (by decide) (by decide))) (DV.is (dv_add (DV.is (dv_pow dv_int dv_int ⟨by decide, by decide, by decide⟩) (show D.int _ = D.int (1000000000000) from congrArg D.int (by decide +kernel))) dv_int) (show D.int _ = D.int (1000000000039) from congrArg D.int (by decide +kernel))) (mok_c (.inr ⟨by decide, by decide⟩))) da_nil)))) (szN 4 rfl)) (.lst _) (dv_mod (dv_var v0.toNm rfl) dv_int (by decide)) (ixE_out hh3 D.int)) ?_)
  exact ret_mk (enc := D.int) (M := []) hF
theorem c_l_amount {X : Cx} {kx : XD} {ρ : Ro} {M : Mem} {pos p : Pos} {e0 : Expr} {x1 : Int} {r : Int} (T : Txt X.K X.mg A) (hr : Room 1 X.A) (hg : Gl X "_law_amount") (h0 : DV X kx e0 ρ M (.int x1)) (hF : F_l_amount x1 = .ok r) (he0 : starEach [e0] X.env = (false, eval e0 X.env) :: starEach [] X.env := by rfl) (hpl : (backTo pos (starEach [] X.env)).any (·.1) = false := by rfl) : DV X kx (.Call (.Name "_law_amount" p) [e0] [] pos) ρ M (.int r) :=
  dv_call (g_l_amount T) hr hg (da_cons h0 da_nil he0) x1 rfl (fun h => Ex.ok_ne r (hF.symm.trans h)) (fun d ⟨r', a1, a2⟩ => by cases hF.symm.trans a1; exact a2) (fun cls fs ⟨n, a1, _⟩ => by cases hF.symm.trans a1) (by decide) he0 hpl
theorem sc_l_rule : FnScope ["_law_number", "_law_rows", "_law_age", "_law_width", "_law_k", "_law_x", "_law_end"] ["_law_number"] (defScope s_l_rule) := fscope (by decide +kernel)
theorem g_l_rule (T : Txt K mg A) : GF P w K mg base 2 "_law_rule" [] (spE K mg (fun q : Int => [.int q]) (fun q => F_l_rule q) dk_T2LT2IIOI) := by
  refine T.f_l_rule.gf fun f fd F => fn_e F sc_l_rule (fun _ => rfl) fun X e1 e2 e3 e4 e5 B Fz number1 out hF hne => ?_
  subst e1 e2 e3 e4 e5
  have v0 : Ns X 0 "_law_number" := B.ns rfl rfl
  have v1 : Ns X 1 "_law_rows" := B.ns rfl rfl
  have v2 : Ns X 2 "_law_age" := B.ns rfl rfl
  have v3 : Ns X 3 "_law_width" := B.ns rfl rfl
  have v4 : Ns X 4 "_law_k" := B.ns rfl rfl
  have v5 : Ns X 5 "_law_x" := B.ns rfl rfl
  have v6 : Ns X 6 "_law_end" := B.ns rfl rfl
  replace hF : F_l_rule number1 = out := hF
  unfold F_l_rule at hF
  change DS _ _ _ [some (.int number1), none, none, none, none, none, none] [] _
  refine ds_cons (ds1_newL v1 da_nil (szN 0 rfl) fun w2 n_w2 => ?_)
  change DS _ _ _ [some (.int number1), some (.adr w2), none, none, none, none, none] [(w2, Mu.lst (([] : List (Int × Int)).map dk_T2II))] _
  obtain ⟨r3, hh4, hF⟩ := bindP_out hF hne
  obtain ⟨r5, hh6, hF⟩ := bindP_out hF hne
  refine ds_cons (ds1_set v2 (c_l_amount T (B.room.mono (by decide)) (B.gl (x := "_law_amount") rfl) (c_l_mixed T (B.room.mono (by decide)) (B.gl (x := "_law_mixed") rfl) (dv_var v0.toNm rfl) dv_int hh4) hh6) ?_)
  change DS _ _ _ [some (.int number1), some (.adr w2), some (.int r5), none, none, none, none] [(w2, Mu.lst (([] : List (Int × Int)).map dk_T2II))] _
  refine ds_cons (ds1_set v3 dv_int ?_)
  change DS _ _ _ [some (.int number1), some (.adr w2), some (.int r5), some (.int 1), none, none, none] [(w2, Mu.lst (([] : List (Int × Int)).map dk_T2II))] _
  obtain ⟨hh7, hF⟩ := gd_out hF hne
  obtain ⟨o39, hh40, hh41, hF⟩ := bindX_cut hF hne
  refine ds_cons (ds1_foldE (enc := D.int) B (fun (z : (List (Int × Int)) × Int × Int) => [some (.int number1), some (.adr w2), some (.int z.2.1), some (.int z.2.2), none, none, none]) (fun (z : (List (Int × Int)) × Int × Int) => [(w2, Mu.lst (z.1.map dk_T2II))]) hh40 hh41 (di_range1 (B.bn (x := "range") rfl T.b_range bt_range) (dv_add dv_int (dv_mod (dv_var v0.toNm rfl) dv_int (by decide))) hh7.1 hh7.2) ⟨.inr rfl, .inr rfl, .inr rfl, .inr rfl, .inl rfl, .inl rfl, .inl rfl, trivial⟩ rfl ?hso39 ?hdo39 ?hxo39 then_fgt)
  case hso39 =>
    clear hF
    rintro ⟨rows8, age9, width10⟩ x11 o12 _ hF hne
    refine ⟨_, _, (dg_name v4), ?_⟩
    change DS _ _ _ [some (.int number1), some (.adr w2), some (.int age9), some (.int width10), some (.int x11), none, none] [(w2, Mu.lst (rows8.map dk_T2II))] _
    obtain ⟨r13, hh14, hF⟩ := bindP_out hF hne
    refine ds_cons (ds1_set v5 (c_l_mixed T (B.room.mono (by decide)) (B.gl (x := "_law_mixed") rfl) (dv_var v0.toNm rfl) (dv_add (dv_mulX dv_int (dv_var v4.toNm rfl) (mok_c (.inl ⟨by decide, by decide⟩))) dv_int) hh14) ?_)
    change DS _ _ _ [some (.int number1), some (.adr w2), some (.int age9), some (.int width10), some (.int x11), some (.int r13), none] [(w2, Mu.lst (rows8.map dk_T2II))] _
    obtain ⟨r15, hh16, hF⟩ := bindP_out hF hne
    obtain ⟨r17, hh18, hF⟩ := bindP_out hF hne
    obtain ⟨age19, hh20, hF⟩ := letE_out hF
    refine ds_cons (ds1_set v2 (dv_isE (enc := D.int) (dv_add (dv_var v2.toNm rfl) (c_l_amount T (B.room.mono (by decide)) (B.gl (x := "_law_amount") rfl) (c_l_mixed T (B.room.mono (by decide)) (B.gl (x := "_law_mixed") rfl) (dv_var v0.toNm rfl) (dv_add (dv_mulX dv_int (dv_var v4.toNm rfl) (mok_c (.inl ⟨by decide, by decide⟩))) dv_int) hh16) hh18)) hh20) ?_)
    change DS _ _ _ [some (.int number1), some (.adr w2), some (.int age19), some (.int width10), some (.int x11), some (.int r13), none] [(w2, Mu.lst (rows8.map dk_T2II))] _
    obtain ⟨x21, hh22, hF⟩ := bindP_out hF hne
    obtain ⟨hh23, hF⟩ := gd_out hF hne
    obtain ⟨width24, hh25, hF⟩ := letE_out hF
    refine ds_cons (ds1_set v3 (dv_isE (enc := D.int) (dv_mulX (dv_var v3.toNm rfl) (dv_add dv_int (dv_ixS (show DV _ _ _ _ _ (.lst ([0, (r13 / 3) % 12, (r13 / 3) % 10000000].map D.int)) from dv_lst (da_cons dv_int (da_cons (dv_mod (dv_fdiv (dv_var v5.toNm rfl) dv_int (div_c (by decide) (by decide))) dv_int (by decide)) (da_cons (dv_mod (dv_fdiv (dv_var v5.toNm rfl) dv_int (div_c (by decide) (by decide))) (DV.is (dv_pow dv_int dv_int ⟨by decide, by decide, by decide⟩) (show D.int _ = D.int (10000000) from congrArg D.int (by decide +kernel))) (by decide)) da_nil))) (szN 3 rfl)) (.lst _) (dv_mod (dv_var v5.toNm rfl) dv_int (by decide)) (ixE_out hh22 D.int))) hh23) hh25) ?_)
    change DS _ _ _ [some (.int number1), some (.adr w2), some (.int age19), some (.int width24), some (.int x11), some (.int r13), none] [(w2, Mu.lst (rows8.map dk_T2II))] _
    obtain ⟨hh26, hF⟩ := gd_out hF hne
    refine ds_cons (ds1_appM (g := dk_T2II) (xs := rows8) (v := (age19, width24)) 0 (dv_var v1.toNm rfl) (show DV _ _ _ _ _ (dk_T2II (age19, width24)) from dv_tup (da_cons (dv_var v2.toNm rfl) (da_cons (dv_var v3.toNm rfl) da_nil)) (szN 2 rfl)) rfl hh26 ?_)
    change DS _ _ _ [some (.int number1), some (.adr w2), some (.int age19), some (.int width24), some (.int x11), some (.int r13), none] [(w2, Mu.lst ((rows8 ++ [(age19, width24)]).map dk_T2II))] _
    refine ds_nil ?_
    exact fold_nx hF ⟨.inr rfl, .inr rfl, .inr rfl, .inr rfl, .inl rfl, .inl rfl, .inl rfl, trivial⟩ rfl
  case hdo39 =>
    rintro ⟨rows27, age28, width29⟩ rfl
    replace hF := okE hF
    change DS _ _ _ [some (.int number1), some (.adr w2), some (.int age28), some (.int width29), none, none, none] [(w2, Mu.lst (rows27.map dk_T2II))] _
    refine ds_frz 0 1 rfl rfl ?_
    change DS _ _ _ [some (.int number1), some (.lst (rows27.map dk_T2II)), some (.int age28), some (.int width29), none, none, none] [] _
    refine ds_cons (ds1_set v6 dv_non ?_)
    change DS _ _ _ [some (.int number1), some (.lst (rows27.map dk_T2II)), some (.int age28), some (.int width29), none, none, some (.non)] [] _
    obtain ⟨jk31, hjk31, hF⟩ := jpE_out hF
    refine ds_cons (ds1_ifJ (kf := jk31) (out := out) (fun (a : Unit) (z : Option Int) => [some (.int number1), some (.lst (rows27.map dk_T2II)), some (.int age28), some (.int width29), none, none, some (dOpt D.int z)]) (fun (a : Unit) (z : Option Int) => []) (dt_gt (dv_mod (dv_fdiv (dv_var v0.toNm rfl) dv_int (div_c (by decide) (by decide))) dv_int (by decide)) dv_int) (fun hh30 => ?_) (fun hh30 => ?_) ?_ then_fgt)
    ·
      replace hF := ite_t hF hh30
      obtain ⟨r32, hh33, hF⟩ := bindP_out hF hne
      obtain ⟨r34, hh35, hF⟩ := bindP_out hF hne
      obtain ⟨end36, hh37, hF⟩ := letE_out hF
      refine ds_cons (ds1_set v6 (dv_isE (enc := D.int) (dv_add (dv_var v2.toNm rfl) (c_l_amount T (B.room.mono (by decide)) (B.gl (x := "_law_amount") rfl) (c_l_mixed T (B.room.mono (by decide)) (B.gl (x := "_law_mixed") rfl) (dv_var v0.toNm rfl) dv_int hh33) hh35)) hh37) ?_)
      change DS _ _ _ [some (.int number1), some (.lst (rows27.map dk_T2II)), some (.int age28), some (.int width29), none, none, some (.int end36)] [] _
      refine ds_nil ?_
      exact join_nx () (some end36) hF ⟨.inr rfl, .inr rfl, .inr rfl, .inr rfl, .inl rfl, .inl rfl, .inr rfl, trivial⟩ rfl
    ·
      replace hF := ite_f hF hh30
      refine ds_nil ?_
      exact join_nx () none hF ⟨.inr rfl, .inr rfl, .inr rfl, .inr rfl, .inl rfl, .inl rfl, .inr rfl, trivial⟩ rfl
    ·
      rintro ⟨⟩ end38 hF
      subst hjk31
      change DS _ _ _ [some (.int number1), some (.lst (rows27.map dk_T2II)), some (.int age28), some (.int width29), none, none, some (dOpt D.int end38)] [] _
      refine ds_cons (ds1_retV (show DV _ _ _ _ _ (dk_T2LT2IIOI (rows27, end38)) from dv_tup (da_cons (dv_var v1.toNm rfl) (da_cons (dv_var v6.toNm rfl) da_nil)) (szN 2 rfl)) ?_)
      exact ret_mk (enc := dk_T2LT2IIOI) (M := []) hF
  case hxo39 =>
    rintro cls fs _ _ ⟨n, rfl, e2⟩
    exact kx_exc hF e2
theorem c_l_rule {X : Cx} {kx : XD} {ρ : Ro} {M : Mem} {pos p : Pos} {e0 : Expr} {number1 : Int} {r : (List (Int × Int)) × (Option Int)} (T : Txt X.K X.mg A) (hr : Room 2 X.A) (hg : Gl X "_law_rule") (h0 : DV X kx e0 ρ M (.int number1)) (hF : F_l_rule number1 = .ok r) (he0 : starEach [e0] X.env = (false, eval e0 X.env) :: starEach [] X.env := by rfl) (hpl : (backTo pos (starEach [] X.env)).any (·.1) = false := by rfl) : DV X kx (.Call (.Name "_law_rule" p) [e0] [] pos) ρ M (dk_T2LT2IIOI r) :=
  dv_call (g_l_rule T) hr hg (da_cons h0 da_nil he0) number1 rfl (fun h => Ex.ok_ne r (hF.symm.trans h)) (fun d ⟨r', a1, a2⟩ => by cases hF.symm.trans a1; exact a2) (fun cls fs ⟨n, a1, _⟩ => by cases hF.symm.trans a1) (by decide) he0 hpl
theorem sc_l_text : FnScope ["_law_rows", "_law_end", "_law_words", "_law_age", "_law_width"] ["_law_rows", "_law_end"] (defScope s_l_text) := fscope (by decide +kernel)
theorem g_l_text (T : Txt K mg A) : GF P w K mg base 1 "_law_text" [] (spE K mg (fun q : (List (Int × Int)) × (Option Int) => [.lst (q.1.map dk_T2II), dOpt D.int q.2]) (fun q => F_l_text q.1 q.2) D.str) := by
  refine T.f_l_text.gf fun f fd F => fn_e F sc_l_text (fun _ => rfl) fun X e1 e2 e3 e4 e5 B Fz q out hF hne => ?_
  subst e1 e2 e3 e4 e5
  have v0 : Ns X 0 "_law_rows" := B.ns rfl rfl
  have v1 : Ns X 1 "_law_end" := B.ns rfl rfl
  have v2 : Ns X 2 "_law_words" := B.ns rfl rfl
  obtain ⟨rows1, end2⟩ := q
  replace hF : F_l_text rows1 end2 = out := hF
  unfold F_l_text at hF
  change DS _ _ _ [some (.lst (rows1.map dk_T2II)), some (dOpt D.int end2), none, none, none] [] _
  obtain ⟨hh9, hF⟩ := gd_out hF hne
  obtain ⟨ys10, hh11, hF⟩ := bindP_out hF hne
  refine ds_cons (ds1_setLcE (own := [("_law_age", 3), ("_law_width", 4)]) B v2 (di_list (dv_var v0.toNm rfl)) (blkOk_by (by decide +kernel)) (sz_lt hh9) (fun u3 hx => ⟨_, _, fun _ h => h, fun _ _ _ _ _ _ _ B4 => ⟨(dg_tup B4.calm (dgs_cons (dg_name (B4.ns (i := 3) rfl rfl)) (dgs_cons (dg_name (B4.ns (i := 4) rfl rfl)) dgs_nil))), lcb_E (enc := D.str) ((compE_out hh11).2 u3 hx) (fun _ hF => (by cases hF; exact dts_nil)) fun _ hF => (by obtain ⟨hh5, hF⟩ := gd_out hF (Ex.ok_ne _); obtain ⟨hh6, hF⟩ := gd_out hF (Ex.ok_ne _); obtain ⟨hh7, hF⟩ := gd_out hF (Ex.ok_ne _); obtain ⟨hh8, hF⟩ := gd_out hF (Ex.ok_ne _); cases hF; exact (dv_addS (dv_addS (dv_strN B4.calm T.nodg (B4.bn (x := "str") rfl T.b_str bt_str) hh5 (dv_var (B4.nm (i := 3) rfl (vloc rfl)) rfl)) dv_str hh6) (dv_strN B4.calm T.nodg (B4.bn (x := "str") rfl T.b_str bt_str) hh7 (dv_var (B4.nm (i := 4) rfl (vloc rfl)) rfl)) hh8))⟩⟩) (outs_E D.str (compE_out hh11).1) ?_)
  change DS _ _ _ [some (.lst (rows1.map dk_T2II)), some (dOpt D.int end2), some (.lst (ys10.map D.str)), none, none] [] _
  obtain ⟨jk13, hjk13, hF⟩ := jpE_out hF
  refine ds_cons (ds1_ifJ (kf := jk13) (out := out) (fun (a : Unit) (z : List Str) => [some (.lst (rows1.map dk_T2II)), some (dOpt D.int end2), some (.lst (z.map D.str)), none, none]) (fun (a : Unit) (z : List Str) => []) (dt_notNO (fun _ => rfl) (dv_var v1.toNm rfl)) (fun hh12 => ?_) (fun hh12 => ?_) ?_ then_fgt)
  ·
    replace hF := ite_t hF hh12
    obtain ⟨end14, hh15, hF⟩ := bindP_out hF hne
    obtain ⟨hh16, hF⟩ := gd_out hF hne
    obtain ⟨hh17, hF⟩ := gd_out hF hne
    obtain ⟨words18, hh19, hF⟩ := letE_out hF
    refine ds_cons (ds1_set v2 (dv_isE (enc := dk_LS) (dv_catM (g := D.str) (dv_var v2.toNm rfl) (show DV _ _ _ _ _ (.lst ([("gone" : Str), Str.ofString (toString (end14 : Int))].map D.str)) from dv_lst (da_cons dv_str (da_cons (dv_strN B.calm T.nodg (B.bn (x := "str") rfl T.b_str bt_str) hh16 (dv_un (enc := D.int) (dv_var v1.toNm rfl) hh15)) da_nil)) (szN 2 rfl)) (.lst _) (.lst _) (sz_le hh17)) hh19) ?_)
    change DS _ _ _ [some (.lst (rows1.map dk_T2II)), some (dOpt D.int end2), some (.lst (words18.map D.str)), none, none] [] _
    refine ds_nil ?_
    exact join_nx () words18 hF ⟨.inr rfl, .inr rfl, .inr rfl, .inl rfl, .inl rfl, trivial⟩ rfl
  ·
    replace hF := ite_f hF hh12
    refine ds_nil ?_
    exact join_nx () ys10 hF ⟨.inr rfl, .inr rfl, .inr rfl, .inl rfl, .inl rfl, trivial⟩ rfl
  ·
    rintro ⟨⟩ words20 hF
    subst hjk13
    change DS _ _ _ [some (.lst (rows1.map dk_T2II)), some (dOpt D.int end2), some (.lst (words20.map D.str)), none, none] [] _
    obtain ⟨hh21, hF⟩ := gd_out hF hne
    refine ds_cons (ds1_retV (dv_join dv_str (dv_var v2.toNm rfl) (.lst _) hh21) ?_)
    exact ret_mk (enc := D.str) (M := []) hF
theorem c_l_text {X : Cx} {kx : XD} {ρ : Ro} {M : Mem} {pos p : Pos} {e0 e1 : Expr} {rows1 : List (Int × Int)} {end2 : Option Int} {r : Str} (T : Txt X.K X.mg A) (hr : Room 1 X.A) (hg : Gl X "_law_text") (h0 : DV X kx e0 ρ M (.lst (rows1.map dk_T2II))) (h1 : DV X kx e1 ρ M (dOpt D.int end2)) (hF : F_l_text rows1 end2 = .ok r) (he0 : starEach [e0, e1] X.env = (false, eval e0 X.env) :: starEach [e1] X.env := by rfl) (he1 : starEach [e1] X.env = (false, eval e1 X.env) :: starEach [] X.env := by rfl) (hpl : (backTo pos (starEach [e1] X.env)).any (·.1) = false := by rfl) : DV X kx (.Call (.Name "_law_text" p) [e0, e1] [] pos) ρ M (.str r) :=
  dv_call (g_l_text T) hr hg (da_cons h0 (da_cons h1 da_nil he1) he0) (rows1, end2) rfl (fun h => Ex.ok_ne r (hF.symm.trans h)) (fun d ⟨r', a1, a2⟩ => by cases hF.symm.trans a1; exact a2) (fun cls fs ⟨n, a1, _⟩ => by cases hF.symm.trans a1) (by decide) he0 hpl
theorem sc_Rule_init : FnScope ["self", "steps", "gone", "old", "broad", "age", "width"] ["self", "steps", "gone"] (defScope s_Rule_init) := fscope (by decide +kernel)
theorem f_Rule_init (T : Txt K mg A) {f : Addr} {fd : FuncData} (F : FunD K "__init__" "Rule.__init__" (defArgs s_Rule_init) (defBody s_Rule_init) (defScope s_Rule_init) [V.non] [] f fd) : FnOk P w K mg base (Dl.CX P w) 1 f fd ["self", "steps", "gone"] (spI K mg A.c_Rule ["row", "end"] (fun q : (List (Int × Int)) × (Option Int) => [.lst (q.1.map dk_T2II), dOpt D.int q.2]) (fun q => F_Rule_init q.1 q.2) (fun t : (List (Int × Int)) × (Option Int) => [.lst (t.1.map dk_T2II), dOpt D.int t.2])) := by
  refine fn_i F sc_Rule_init (fun _ => rfl) fun X e1 e2 e3 e4 e5 B Fz w1 q out hF hne => ?_
  subst e1 e2 e3 e4 e5
  have v0 : Ns X 0 "self" := B.ns rfl rfl
  have v1 : Ns X 1 "steps" := B.ns rfl rfl
  have v2 : Ns X 2 "gone" := B.ns rfl rfl
  have v3 : Ns X 3 "old" := B.ns rfl rfl
  have v4 : Ns X 4 "broad" := B.ns rfl rfl
  have v5 : Ns X 5 "age" := B.ns rfl rfl
  have v6 : Ns X 6 "width" := B.ns rfl rfl
  obtain ⟨steps1, gone2⟩ := q
  replace hF : F_Rule_init steps1 gone2 = out := hF
  unfold F_Rule_init at hF
  change DS _ _ _ [some (.adr w1), some (.lst (steps1.map dk_T2II)), some (dOpt D.int gone2), none, none, none, none] [(w1, Mu.ins A.c_Rule [] [])] _
  refine ds_cons (ds1_if (dt_not (dt_chain op_le op_le dv_int (dv_lenM (g := dk_T2II) (B.bn (x := "len") rfl T.b_len bt_len) (dv_var v1.toNm rfl) (.lst _)) (T.k_MOST_STEPS.elim fun _ h => dv_gint (B.gl (x := "MOST_STEPS") rfl) h ⟨_, rfl⟩))) (fun hh3 => ?_) (fun hh3 => ?_))
  ·
    replace hF := ite_t hF hh3
    exact ds_cons (ds1_raise B.calm T.x_NoRule (B.gl (x := "NoRule") rfl) fun cls hm => (kx_exc hF hm))
  ·
    replace hF := ite_f hF hh3
    refine ds_nil ?_
    refine ds_cons (ds1_fldL (i := 0) T.cl_Rule.cl (T.cl_Rule.na "row" (by simp)) da_nil (szN 0 rfl) (fun _ => (dv_var v0.toNm rfl)) rfl (by decide) fun w4 n_w4 => ⟨_, rfl, ?_⟩)
    change DS _ _ _ [some (.adr w1), some (.lst (steps1.map dk_T2II)), some (dOpt D.int gone2), none, none, none, none] [(w4, Mu.lst (([] : List (Int × Int)).map dk_T2II)), (w1, Mu.ins A.c_Rule ["row"] [D.adr w4])] _
    refine ds_cons (ds1_set v3 dv_int ?_)
    change DS _ _ _ [some (.adr w1), some (.lst (steps1.map dk_T2II)), some (dOpt D.int gone2), some (.int 0), none, none, none] [(w4, Mu.lst (([] : List (Int × Int)).map dk_T2II)), (w1, Mu.ins A.c_Rule ["row"] [D.adr w4])] _
    refine ds_cons (ds1_set v4 dv_int ?_)
    change DS _ _ _ [some (.adr w1), some (.lst (steps1.map dk_T2II)), some (dOpt D.int gone2), some (.int 0), some (.int 1), none, none] [(w4, Mu.lst (([] : List (Int × Int)).map dk_T2II)), (w1, Mu.ins A.c_Rule ["row"] [D.adr w4])] _
    obtain ⟨o25, hh26, hh27, hF⟩ := bindX_cut hF hne
    refine ds_cons (ds1_foldE (enc := dk_T2II) B (fun (z : Int × Int × (List (Int × Int))) => [some (.adr w1), some (.lst (steps1.map dk_T2II)), some (dOpt D.int gone2), some (.int z.1), some (.int z.2.1), none, none]) (fun (z : Int × Int × (List (Int × Int))) => [(w4, Mu.lst (z.2.2.map dk_T2II)), (w1, Mu.ins A.c_Rule ["row"] [D.adr w4])]) hh26 hh27 (di_list (dv_var v1.toNm rfl)) ⟨.inr rfl, .inr rfl, .inr rfl, .inr rfl, .inr rfl, .inl rfl, .inl rfl, trivial⟩ rfl ?hso25 ?hdo25 ?hxo25 then_fgt)
    case hso25 =>
      clear hF
      rintro ⟨old5, broad6, row7⟩ x8 o9 _ hF hne
      refine ⟨_, _, (dg_tup B.calm (dgs_cons (dg_name v5) (dgs_cons (dg_name v6) dgs_nil))), ?_⟩
      change DS _ _ _ [some (.adr w1), some (.lst (steps1.map dk_T2II)), some (dOpt D.int gone2), some (.int old5), some (.int broad6), some (.int x8.1), some (.int x8.2)] [(w4, Mu.lst (row7.map dk_T2II)), (w1, Mu.ins A.c_Rule ["row"] [D.adr w4])] _
      obtain ⟨b13, hh14, hF⟩ := bindP_out hF hne
      refine ds_cons (ds1_if (DW.t (dw_orE hh14 (dt_lt (dv_var v5.toNm rfl) (dv_var v3.toNm rfl)) fun _ _ hF => (by obtain ⟨b11, hh12, hF⟩ := bindP_out hF (Ex.ok_ne _); cases hF; exact (dw_orE hh12 (dt_lt (dv_var v6.toNm rfl) dv_int) fun _ _ hF => (by obtain ⟨hh10, hF⟩ := gd_out hF (Ex.ok_ne _); cases hF; exact (dw_or1 (dt_nei (dv_mod (dv_var v6.toNm rfl) (dv_var v4.toNm rfl) hh10) dv_int))))))) (fun hh15 => ?_) (fun hh15 => ?_))
      ·
        replace hF := ite_t hF hh15
        exact ds_cons (ds1_raise B.calm T.x_NoRule (B.gl (x := "NoRule") rfl) fun cls hm => (kx_exc hF hm))
      ·
        replace hF := ite_f hF hh15
        refine ds_nil ?_
        refine ds_cons (ds1_set v3 (dv_var v5.toNm rfl) ?_)
        change DS _ _ _ [some (.adr w1), some (.lst (steps1.map dk_T2II)), some (dOpt D.int gone2), some (.int x8.1), some (.int broad6), some (.int x8.1), some (.int x8.2)] [(w4, Mu.lst (row7.map dk_T2II)), (w1, Mu.ins A.c_Rule ["row"] [D.adr w4])] _
        refine ds_cons (ds1_set v4 (dv_var v6.toNm rfl) ?_)
        change DS _ _ _ [some (.adr w1), some (.lst (steps1.map dk_T2II)), some (dOpt D.int gone2), some (.int x8.1), some (.int x8.2), some (.int x8.1), some (.int x8.2)] [(w4, Mu.lst (row7.map dk_T2II)), (w1, Mu.ins A.c_Rule ["row"] [D.adr w4])] _
        obtain ⟨hh16, hF⟩ := gd_out hF hne
        refine ds_cons (ds1_appM (g := dk_T2II) (xs := row7) (v := (x8.1, x8.2)) 0 (dv_fld T.cl_Rule.cl (T.cl_Rule.na "row" (by simp)) (dv_var v0.toNm rfl) (.adr (List.mem_of_getElem? (i := 1) (show _ = some (w1, Mu.ins A.c_Rule ["row"] [D.adr w4]) from rfl))) rfl) (show DV _ _ _ _ _ (dk_T2II (x8.1, x8.2)) from dv_tup (da_cons (dv_var v5.toNm rfl) (da_cons (dv_var v6.toNm rfl) da_nil)) (szN 2 rfl)) rfl hh16 ?_)
        change DS _ _ _ [some (.adr w1), some (.lst (steps1.map dk_T2II)), some (dOpt D.int gone2), some (.int x8.1), some (.int x8.2), some (.int x8.1), some (.int x8.2)] [(w4, Mu.lst ((row7 ++ [(x8.1, x8.2)]).map dk_T2II)), (w1, Mu.ins A.c_Rule ["row"] [D.adr w4])] _
        refine ds_nil ?_
        exact fold_nx hF ⟨.inr rfl, .inr rfl, .inr rfl, .inr rfl, .inr rfl, .inl rfl, .inl rfl, trivial⟩ rfl
    case hdo25 =>
      rintro ⟨old17, broad18, row19⟩ rfl
      replace hF := okE hF
      change DS _ _ _ [some (.adr w1), some (.lst (steps1.map dk_T2II)), some (dOpt D.int gone2), some (.int old17), some (.int broad18), none, none] [(w4, Mu.lst (row19.map dk_T2II)), (w1, Mu.ins A.c_Rule ["row"] [D.adr w4])] _
      obtain ⟨b22, hh23, hF⟩ := bindP_out hF hne
      refine ds_cons (ds1_if (DW.t (dw_andE hh23 (dt_notNO (fun _ => rfl) (dv_var v2.toNm rfl)) fun _ _ hF => (by obtain ⟨gone20, hh21, hF⟩ := bindP_out hF (Ex.ok_ne _); cases hF; exact (dw_and1 (dt_lt (dv_un (enc := D.int) (dv_var v2.toNm rfl) hh21) (dv_var v3.toNm rfl)))))) (fun hh24 => ?_) (fun hh24 => ?_))
      ·
        replace hF := ite_t hF hh24
        exact ds_cons (ds1_raise B.calm T.x_NoRule (B.gl (x := "NoRule") rfl) fun cls hm => (kx_exc hF hm))
      ·
        replace hF := ite_f hF hh24
        refine ds_nil ?_
        refine ds_cons (ds1_fld (i := 1) T.cl_Rule.cl (T.cl_Rule.na "end" (by simp)) (dv_var v2.toNm rfl) (dv_var v0.toNm rfl) rfl (by decide) rfl ?_)
        change DS _ _ _ [some (.adr w1), some (.lst (steps1.map dk_T2II)), some (dOpt D.int gone2), some (.int old17), some (.int broad18), none, none] [(w4, Mu.lst (row19.map dk_T2II)), (w1, Mu.ins A.c_Rule ["row", "end"] [D.adr w4, dOpt D.int gone2])] _
        refine ds_frzF 0 0 0 rfl rfl rfl ?_
        change DS _ _ _ [some (.adr w1), some (.lst (steps1.map dk_T2II)), some (dOpt D.int gone2), some (.int old17), some (.int broad18), none, none] [(w1, Mu.ins A.c_Rule ["row", "end"] [.lst (row19.map dk_T2II), dOpt D.int gone2])] _
        refine ds_nil ?_
        exact init_nx hF rfl
    case hxo25 =>
      rintro cls fs _ _ ⟨n, rfl, e2⟩
      exact kx_exc hF e2
theorem gc_Rule_init_0 (T : Txt K mg A) : GC P w K mg base 1 A.c_Rule [] (spI K mg A.c_Rule ["row", "end"] (fun q : (List (Int × Int)) × (Option Int) => [.lst (q.1.map dk_T2II), dOpt D.int q.2]) (fun q => F_Rule_init q.1 q.2) (fun t : (List (Int × Int)) × (Option Int) => [.lst (t.1.map dk_T2II), dOpt D.int t.2])) := T.m_Rule_init.gc T.cl_Rule 1 (by decide) _ (fun _ _ e => by subst e; exact .nil) fun _ _ F => f_Rule_init T F
theorem kx_Rule_init_0 {X : Cx} {kx : XD} {ρ : Ro} {M : Mem} {pos p : Pos} {e0 e1 : Expr} {steps1 : List (Int × Int)} {gone2 : Option Int} {n : Str} {fs : List (Str × D)} (T : Txt X.K X.mg A) (hr : Room 2 X.A) (hg : Gl X "Rule") (h0 : DV X kx e0 ρ M (.lst (steps1.map dk_T2II))) (h1 : DV X kx e1 ρ M (dOpt D.int gone2)) (hF : F_Rule_init steps1 gone2 = .exc n fs) (hk : ∀ cls, X.mg n = some cls → kx cls fs ρ M) (he0 : starEach [e0, e1] X.env = (false, eval e0 X.env) :: starEach [e1] X.env := by rfl) (he1 : starEach [e1] X.env = (false, eval e1 X.env) :: starEach [] X.env := by rfl) (hpl : (backTo pos (starEach [e1] X.env)).any (·.1) = false := by rfl) : DE X kx (.Call (.Name "Rule" p) [e0, e1] [] pos) ρ M fun _ _ => False :=
  de_makeX (args := (fun q : (List (Int × Int)) × (Option Int) => [.lst (q.1.map dk_T2II), dOpt D.int q.2])) (F := (fun q => F_Rule_init q.1 q.2)) (encs := (fun t : (List (Int × Int)) × (Option Int) => [.lst (t.1.map dk_T2II), dOpt D.int t.2])) (gc_Rule_init_0 T) hr hg T.cl_Rule.gC (da_cons h0 (da_cons h1 da_nil he1) he0) (steps1, gone2) rfl hF hk (by decide) he0 hpl
theorem k_Rule_init_0 {X : Cx} {kx : XD} {ρ : Ro} {M : Mem} {pos p : Pos} {e0 e1 : Expr} {steps1 : List (Int × Int)} {gone2 : Option Int} {r : (List (Int × Int)) × (Option Int)} (T : Txt X.K X.mg A) (hr : Room 2 X.A) (hg : Gl X "Rule") (h0 : DV X kx e0 ρ M (.lst (steps1.map dk_T2II))) (h1 : DV X kx e1 ρ M (dOpt D.int gone2)) (hF : F_Rule_init steps1 gone2 = .ok r) (he0 : starEach [e0, e1] X.env = (false, eval e0 X.env) :: starEach [e1] X.env := by rfl) (he1 : starEach [e1] X.env = (false, eval e1 X.env) :: starEach [] X.env := by rfl) (hpl : (backTo pos (starEach [e1] X.env)).any (·.1) = false := by rfl) : DV X kx (.Call (.Name "Rule" p) [e0, e1] [] pos) ρ M ((dk_CRule A) r) :=
  dv_make (args := (fun q : (List (Int × Int)) × (Option Int) => [.lst (q.1.map dk_T2II), dOpt D.int q.2])) (F := (fun q => F_Rule_init q.1 q.2)) (encs := (fun t : (List (Int × Int)) × (Option Int) => [.lst (t.1.map dk_T2II), dOpt D.int t.2])) (gc_Rule_init_0 T) hr hg T.cl_Rule.gC (da_cons h0 (da_cons h1 da_nil he1) he0) (steps1, gone2) rfl hF (by decide) he0 hpl
theorem sc_Rule_steps : FnScope ["self"] ["self"] (defScope s_Rule_steps) := fscope (by decide +kernel)
theorem g_Rule_steps (T : Txt K mg A) : GM P w K mg base 1 A.c_Rule "steps" [] (spE K mg (fun q : (List (Int × Int)) × (Option Int) => [(dk_CRule A) q]) (fun q => F_Rule_steps q) dk_LT2II) := by
  refine T.m_Rule_steps.gm 0 (by decide) [] (fun _ _ e => by subst e; exact .nil) fun f fd F => fn_eD F sc_Rule_steps (fun _ => rfl) fun X e1 e2 e3 e4 e5 B Fz self1 out hF hne => ?_
  subst e1 e2 e3 e4 e5
  have v0 : Ns X 0 "self" := B.ns rfl rfl
  replace hF : F_Rule_steps self1 = out := hF
  unfold F_Rule_steps at hF
  change DS _ _ _ [some ((dk_CRule A) self1)] [] _
  refine ds_cons (ds1_retV (dv_list (B.bn (x := "list") rfl T.b_list bt_list) (dv_fld T.cl_Rule.cl (T.cl_Rule.na "row" (by simp)) (dv_var v0.toNm rfl) (.ins _ _ _) rfl) (.lst _)) ?_)
  exact ret_mk (enc := dk_LT2II) (M := []) hF
theorem c_Rule_steps {X : Cx} {kx : XD} {ρ : Ro} {M : Mem} {pos apos : Pos} {pl : Sem Bool} {o  : Expr} {self1 : (List (Int × Int)) × (Option Int)} {r : List (Int × Int)} (T : Txt X.K X.mg A) (hr : Room 1 X.A) (ho : DV X kx o ρ M ((dk_CRule A) self1))  (hF : F_Rule_steps self1 = .ok r)   (ht : eval (.Call (.Attribute o "steps" apos) [] [] pos) X.env = (do
      let ov ← eval o X.env
      standAt apos.atName
      let (f, first) ← holding [ov] (getMethod ov "steps" pl)
      callWith pos f first (backTo pos (starEach [] X.env)) (backToKw pos (keywordEach [] X.env))) := by rfl) : DV X kx (.Call (.Attribute o "steps" apos) [] [] pos) ρ M (.lst (r.map dk_T2II)) :=
  dv_meth0 T.cl_Rule.cl (g_Rule_steps T) hr ho (.ins _ _ _) self1 rfl (fun h => Ex.ok_ne r (hF.symm.trans h)) (fun d ⟨r', a1, a2⟩ => by cases hF.symm.trans a1; exact a2) (fun cls fs ⟨n, a1, _⟩ => by cases hF.symm.trans a1) rfl ht
theorem sc_show_number : FnScope ["number"] ["number"] (defScope s_show_number) := fscope (by decide +kernel)
theorem g_show_number (T : Txt K mg A) : GF P w K mg base 1 "show_number" [] (spE K mg (fun q : Int => [.int q]) (fun q => F_show_number q) D.str) := by
  refine T.f_show_number.gf fun f fd F => fn_e F sc_show_number (fun _ => rfl) fun X e1 e2 e3 e4 e5 B Fz number1 out hF hne => ?_
  subst e1 e2 e3 e4 e5
  have v0 : Ns X 0 "number" := B.ns rfl rfl
  replace hF : F_show_number number1 = out := hF
  unfold F_show_number at hF
  change DS _ _ _ [some (.int number1)] [] _
  obtain ⟨hh2, hF⟩ := gd_out hF hne
  refine ds_cons (ds1_retV (dv_strN B.calm T.nodg (B.bn (x := "str") rfl T.b_str bt_str) hh2 (dv_var v0.toNm rfl)) ?_)
  exact ret_mk (enc := D.str) (M := []) hF
theorem c_show_number {X : Cx} {kx : XD} {ρ : Ro} {M : Mem} {pos p : Pos} {e0 : Expr} {number1 : Int} {r : Str} (T : Txt X.K X.mg A) (hr : Room 1 X.A) (hg : Gl X "show_number") (h0 : DV X kx e0 ρ M (.int number1)) (hF : F_show_number number1 = .ok r) (he0 : starEach [e0] X.env = (false, eval e0 X.env) :: starEach [] X.env := by rfl) (hpl : (backTo pos (starEach [] X.env)).any (·.1) = false := by rfl) : DV X kx (.Call (.Name "show_number" p) [e0] [] pos) ρ M (.str r) :=
  dv_call (g_show_number T) hr hg (da_cons h0 da_nil he0) number1 rfl (fun h => Ex.ok_ne r (hF.symm.trans h)) (fun d ⟨r', a1, a2⟩ => by cases hF.symm.trans a1; exact a2) (fun cls fs ⟨n, a1, _⟩ => by cases hF.symm.trans a1) (by decide) he0 hpl
theorem sc_Rule_gone : FnScope ["self"] ["self"] (defScope s_Rule_gone) := fscope (by decide +kernel)
theorem g_Rule_gone (T : Txt K mg A) : GM P w K mg base 1 A.c_Rule "gone" [] (spE K mg (fun q : (List (Int × Int)) × (Option Int) => [(dk_CRule A) q]) (fun q => F_Rule_gone q) (dOpt D.int)) := by
  refine T.m_Rule_gone.gm 0 (by decide) [] (fun _ _ e => by subst e; exact .nil) fun f fd F => fn_eD F sc_Rule_gone (fun _ => rfl) fun X e1 e2 e3 e4 e5 B Fz self1 out hF hne => ?_
  subst e1 e2 e3 e4 e5
  have v0 : Ns X 0 "self" := B.ns rfl rfl
  replace hF : F_Rule_gone self1 = out := hF
  unfold F_Rule_gone at hF
  change DS _ _ _ [some ((dk_CRule A) self1)] [] _
  refine ds_cons (ds1_retV (dv_fld T.cl_Rule.cl (T.cl_Rule.na "end" (by simp)) (dv_var v0.toNm rfl) (.ins _ _ _) rfl) ?_)
  exact ret_mk (enc := (dOpt D.int)) (M := []) hF
theorem c_Rule_gone {X : Cx} {kx : XD} {ρ : Ro} {M : Mem} {pos apos : Pos} {pl : Sem Bool} {o  : Expr} {self1 : (List (Int × Int)) × (Option Int)} {r : Option Int} (T : Txt X.K X.mg A) (hr : Room 1 X.A) (ho : DV X kx o ρ M ((dk_CRule A) self1))  (hF : F_Rule_gone self1 = .ok r)   (ht : eval (.Call (.Attribute o "gone" apos) [] [] pos) X.env = (do
      let ov ← eval o X.env
      standAt apos.atName
      let (f, first) ← holding [ov] (getMethod ov "gone" pl)
      callWith pos f first (backTo pos (starEach [] X.env)) (backToKw pos (keywordEach [] X.env))) := by rfl) : DV X kx (.Call (.Attribute o "gone" apos) [] [] pos) ρ M (dOpt D.int r) :=
  dv_meth0 T.cl_Rule.cl (g_Rule_gone T) hr ho (.ins _ _ _) self1 rfl (fun h => Ex.ok_ne r (hF.symm.trans h)) (fun d ⟨r', a1, a2⟩ => by cases hF.symm.trans a1; exact a2) (fun cls fs ⟨n, a1, _⟩ => by cases hF.symm.trans a1) rfl ht
theorem sc_show_number_2 : FnScope ["number"] ["number"] (defScope s_show_number) := fscope (by decide +kernel)
theorem g_show_number_2 (T : Txt K mg A) : GF P w K mg base 1 "show_number" [] (spE K mg (fun q : Option Int => [dOpt D.int q]) (fun q => F_show_number_2 q) D.str) := by
  refine T.f_show_number.gf fun f fd F => fn_e F sc_show_number_2 (fun _ => rfl) fun X e1 e2 e3 e4 e5 B Fz number1 out hF hne => ?_
  subst e1 e2 e3 e4 e5
  have v0 : Ns X 0 "number" := B.ns rfl rfl
  replace hF : F_show_number_2 number1 = out := hF
  unfold F_show_number_2 at hF
  change DS _ _ _ [some (dOpt D.int number1)] [] _
  obtain ⟨number2, hh3, hF⟩ := bindP_out hF hne
  obtain ⟨hh4, hF⟩ := gd_out hF hne
  refine ds_cons (ds1_retV (dv_strN B.calm T.nodg (B.bn (x := "str") rfl T.b_str bt_str) hh4 (dv_un (enc := D.int) (dv_var v0.toNm rfl) hh3)) ?_)
  exact ret_mk (enc := D.str) (M := []) hF
theorem c_show_number_2 {X : Cx} {kx : XD} {ρ : Ro} {M : Mem} {pos p : Pos} {e0 : Expr} {number1 : Option Int} {r : Str} (T : Txt X.K X.mg A) (hr : Room 1 X.A) (hg : Gl X "show_number") (h0 : DV X kx e0 ρ M (dOpt D.int number1)) (hF : F_show_number_2 number1 = .ok r) (he0 : starEach [e0] X.env = (false, eval e0 X.env) :: starEach [] X.env := by rfl) (hpl : (backTo pos (starEach [] X.env)).any (·.1) = false := by rfl) : DV X kx (.Call (.Name "show_number" p) [e0] [] pos) ρ M (.str r) :=
  dv_call (g_show_number_2 T) hr hg (da_cons h0 da_nil he0) number1 rfl (fun h => Ex.ok_ne r (hF.symm.trans h)) (fun d ⟨r', a1, a2⟩ => by cases hF.symm.trans a1; exact a2) (fun cls fs ⟨n, a1, _⟩ => by cases hF.symm.trans a1) (by decide) he0 hpl
theorem sc_show_rule : FnScope ["rule", "words", "age", "width"] ["rule"] (defScope s_show_rule) := fscope (by decide +kernel)
theorem g_show_rule (T : Txt K mg A) : GF P w K mg base 2 "show_rule" [] (spE K mg (fun q : (List (Int × Int)) × (Option Int) => [(dk_CRule A) q]) (fun q => F_show_rule q) D.str) := by
  refine T.f_show_rule.gf fun f fd F => fn_e F sc_show_rule (fun _ => rfl) fun X e1 e2 e3 e4 e5 B Fz rule1 out hF hne => ?_
  subst e1 e2 e3 e4 e5
  have v0 : Ns X 0 "rule" := B.ns rfl rfl
  have v1 : Ns X 1 "words" := B.ns rfl rfl
  replace hF : F_show_rule rule1 = out := hF
  unfold F_show_rule at hF
  change DS _ _ _ [some ((dk_CRule A) rule1), none, none, none] [] _
  obtain ⟨r2, hh3, hF⟩ := bindP_out hF hne
  obtain ⟨hh12, hF⟩ := gd_out hF hne
  obtain ⟨ys13, hh14, hF⟩ := bindP_out hF hne
  refine ds_cons (ds1_setLcE (own := [("age", 2), ("width", 3)]) B v1 (di_list (c_Rule_steps T (B.room.mono (by decide)) (dv_var v0.toNm rfl) hh3)) (blkOk_by (by decide +kernel)) (sz_lt hh12) (fun u4 hx => ⟨_, _, fun _ h => h, fun _ _ _ _ _ _ _ B5 => ⟨(dg_tup B5.calm (dgs_cons (dg_name (B5.ns (i := 2) rfl rfl)) (dgs_cons (dg_name (B5.ns (i := 3) rfl rfl)) dgs_nil))), lcb_E (enc := D.str) ((compE_out hh14).2 u4 hx) (fun _ hF => (by cases hF; exact dts_nil)) fun _ hF => (by obtain ⟨r6, hh7, hF⟩ := bindP_out hF (Ex.ok_ne _); obtain ⟨hh8, hF⟩ := gd_out hF (Ex.ok_ne _); obtain ⟨r9, hh10, hF⟩ := bindP_out hF (Ex.ok_ne _); obtain ⟨hh11, hF⟩ := gd_out hF (Ex.ok_ne _); cases hF; exact (dv_addS (dv_addS (c_show_number T (B5.room.mono (by decide)) (B5.gl (x := "show_number") rfl) (dv_var (B5.nm (i := 2) rfl (vloc rfl)) rfl) hh7) dv_str hh8) (c_show_number T (B5.room.mono (by decide)) (B5.gl (x := "show_number") rfl) (dv_var (B5.nm (i := 3) rfl (vloc rfl)) rfl) hh10) hh11))⟩⟩) (outs_E D.str (compE_out hh14).1) ?_)
  change DS _ _ _ [some ((dk_CRule A) rule1), some (.lst (ys13.map D.str)), none, none] [] _
  obtain ⟨r15, hh16, hF⟩ := bindP_out hF hne
  obtain ⟨jk18, hjk18, hF⟩ := jpE_out hF
  refine ds_cons (ds1_ifJ (kf := jk18) (out := out) (fun (a : Unit) (z : List Str) => [some ((dk_CRule A) rule1), some (.lst (z.map D.str)), none, none]) (fun (a : Unit) (z : List Str) => []) (dt_notNO (fun _ => rfl) (c_Rule_gone T (B.room.mono (by decide)) (dv_var v0.toNm rfl) hh16)) (fun hh17 => ?_) (fun hh17 => ?_) ?_ then_fgt)
  ·
    replace hF := ite_t hF hh17
    obtain ⟨r19, hh20, hF⟩ := bindP_out hF hne
    obtain ⟨r21, hh22, hF⟩ := bindP_out hF hne
    obtain ⟨hh23, hF⟩ := gd_out hF hne
    obtain ⟨words24, hh25, hF⟩ := letE_out hF
    refine ds_cons (ds1_set v1 (dv_isE (enc := dk_LS) (dv_catM (g := D.str) (dv_var v1.toNm rfl) (show DV _ _ _ _ _ (.lst ([("gone" : Str), r21].map D.str)) from dv_lst (da_cons dv_str (da_cons (c_show_number_2 T (B.room.mono (by decide)) (B.gl (x := "show_number") rfl) (c_Rule_gone T (B.room.mono (by decide)) (dv_var v0.toNm rfl) hh20) hh22) da_nil)) (szN 2 rfl)) (.lst _) (.lst _) (sz_le hh23)) hh25) ?_)
    change DS _ _ _ [some ((dk_CRule A) rule1), some (.lst (words24.map D.str)), none, none] [] _
    refine ds_nil ?_
    exact join_nx () words24 hF ⟨.inr rfl, .inr rfl, .inl rfl, .inl rfl, trivial⟩ rfl
  ·
    replace hF := ite_f hF hh17
    refine ds_nil ?_
    exact join_nx () ys13 hF ⟨.inr rfl, .inr rfl, .inl rfl, .inl rfl, trivial⟩ rfl
  ·
    rintro ⟨⟩ words26 hF
    subst hjk18
    change DS _ _ _ [some ((dk_CRule A) rule1), some (.lst (words26.map D.str)), none, none] [] _
    obtain ⟨hh27, hF⟩ := gd_out hF hne
    refine ds_cons (ds1_retV (dv_join dv_str (dv_var v1.toNm rfl) (.lst _) hh27) ?_)
    exact ret_mk (enc := D.str) (M := []) hF
theorem c_show_rule {X : Cx} {kx : XD} {ρ : Ro} {M : Mem} {pos p : Pos} {e0 : Expr} {rule1 : (List (Int × Int)) × (Option Int)} {r : Str} (T : Txt X.K X.mg A) (hr : Room 2 X.A) (hg : Gl X "show_rule") (h0 : DV X kx e0 ρ M ((dk_CRule A) rule1)) (hF : F_show_rule rule1 = .ok r) (he0 : starEach [e0] X.env = (false, eval e0 X.env) :: starEach [] X.env := by rfl) (hpl : (backTo pos (starEach [] X.env)).any (·.1) = false := by rfl) : DV X kx (.Call (.Name "show_rule" p) [e0] [] pos) ρ M (.str r) :=
  dv_call (g_show_rule T) hr hg (da_cons h0 da_nil he0) rule1 rfl (fun h => Ex.ok_ne r (hF.symm.trans h)) (fun d ⟨r', a1, a2⟩ => by cases hF.symm.trans a1; exact a2) (fun cls fs ⟨n, a1, _⟩ => by cases hF.symm.trans a1) (by decide) he0 hpl
theorem sc_needed : FnScope ["truth"] ["truth"] (defScope s_needed) := fscope (by decide +kernel)
theorem g_needed (T : Txt K mg A) : GF P w K mg base 3 "needed" [] (spE K mg (fun q : Bool => [.bl q]) (fun q => F_needed q) dk_N) := by
  refine T.f_needed.gf fun f fd F => fn_e F sc_needed (fun _ => rfl) fun X e1 e2 e3 e4 e5 B Fz truth1 out hF hne => ?_
  subst e1 e2 e3 e4 e5
  have v0 : Ns X 0 "truth" := B.ns rfl rfl
  replace hF : F_needed truth1 = out := hF
  unfold F_needed at hF
  change DS _ _ _ [some (.bl truth1)] [] _
  refine ds_cons (ds1_if (dt_not (dt_val (dv_var v0.toNm rfl))) (fun hh2 => ?_) (fun hh2 => ?_))
  ·
    replace hF := ite_t hF hh2
    exact ds_cons (rz_NoText T B.calm (B.room.mono (by decide)) (B.gl (x := "NoText") rfl) dv_int fun cls hm => (kx_exc hF hm))
  ·
    replace hF := ite_f hF hh2
    refine ds_nil ?_
    refine ds_nil ?_
    exact fall_mk hF rfl
theorem x_needed {X : Cx} {kx : XD} {ρ : Ro} {M : Mem} {pos p : Pos} {e0 : Expr} {truth1 : Bool} {n : Str} {fs : List (Str × D)} (T : Txt X.K X.mg A) (hr : Room 3 X.A) (hg : Gl X "needed") (h0 : DV X kx e0 ρ M (.bl truth1)) (hF : F_needed truth1 = .exc n fs) (hk : ∀ cls, X.mg n = some cls → kx cls fs ρ M) (he0 : starEach [e0] X.env = (false, eval e0 X.env) :: starEach [] X.env := by rfl) (hpl : (backTo pos (starEach [] X.env)).any (·.1) = false := by rfl) : DE X kx (.Call (.Name "needed" p) [e0] [] pos) ρ M fun _ _ => False :=
  de_exc (g_needed T) hr hg (da_cons h0 da_nil he0) truth1 rfl hF hk (by decide) he0 hpl
theorem c_needed {X : Cx} {kx : XD} {ρ : Ro} {M : Mem} {pos p : Pos} {e0 : Expr} {truth1 : Bool} {r : Unit} (T : Txt X.K X.mg A) (hr : Room 3 X.A) (hg : Gl X "needed") (h0 : DV X kx e0 ρ M (.bl truth1)) (hF : F_needed truth1 = .ok r) (he0 : starEach [e0] X.env = (false, eval e0 X.env) :: starEach [] X.env := by rfl) (hpl : (backTo pos (starEach [] X.env)).any (·.1) = false := by rfl) : DV X kx (.Call (.Name "needed" p) [e0] [] pos) ρ M (.non) :=
  dv_call (g_needed T) hr hg (da_cons h0 da_nil he0) truth1 rfl (fun h => Ex.ok_ne r (hF.symm.trans h)) (fun d ⟨r', a1, a2⟩ => by cases hF.symm.trans a1; exact a2) (fun cls fs ⟨n, a1, _⟩ => by cases hF.symm.trans a1) (by decide) he0 hpl
theorem sc_read_number : FnScope ["text", "figures", "sign"] ["text"] (defScope s_read_number) := fscope (by decide +kernel)
theorem g_read_number (T : Txt K mg A) : GF P w K mg base 4 "read_number" [] (spE K mg (fun q : Str => [.str q]) (fun q => F_read_number q) D.int) := by
  refine T.f_read_number.gf fun f fd F => fn_e F sc_read_number (fun _ => rfl) fun X e1 e2 e3 e4 e5 B Fz text1 out hF hne => ?_
  subst e1 e2 e3 e4 e5
  have v0 : Ns X 0 "text" := B.ns rfl rfl
  have v1 : Ns X 1 "figures" := B.ns rfl rfl
  replace hF : F_read_number text1 = out := hF
  unfold F_read_number at hF
  change DS _ _ _ [some (.str text1), none, none] [] _
  rcases bindX_out hF hne with ⟨r2, hh3, hF⟩ | ⟨n, fs, hh3, hF⟩
  rotate_left
  · exact ds_cons (ds1_void (x_needed T (B.room.mono (by decide)) (B.gl (x := "needed") rfl) (dv_isi (T := "str") (k := true) (B.bn (x := "isinstance") rfl T.b_isinstance bt_isinstance) (B.bn (x := "str") rfl T.b_str bt_str) (dv_var v0.toNm rfl) (by first | exact .non | exact .int _ | exact .bl _ | exact .str _ | exact .lst _ | exact .tup _ | exact .scr _) (by decide +kernel)) hh3 fun cls hm => (kx_exc hF.symm hm)))
  refine ds_cons (ds1_exprV (c_needed T (B.room.mono (by decide)) (B.gl (x := "needed") rfl) (dv_isi (T := "str") (k := true) (B.bn (x := "isinstance") rfl T.b_isinstance bt_isinstance) (B.bn (x := "str") rfl T.b_str bt_str) (dv_var v0.toNm rfl) (by first | exact .non | exact .int _ | exact .bl _ | exact .str _ | exact .lst _ | exact .tup _ | exact .scr _) (by decide +kernel)) hh3) ?_)
  refine ds_cons (ds1_set v1 (dv_var v0.toNm rfl) ?_)
  change DS _ _ _ [some (.str text1), some (.str text1), none] [] _
  obtain ⟨jk5, hjk5, hF⟩ := jpE_out hF
  refine ds_cons (ds1_ifJ (kf := jk5) (out := out) (fun (a : Unit) (z : Str) => [some (.str text1), some (.str z), none]) (fun (a : Unit) (z : Str) => []) (dt_val (dv_startswith (dv_var v0.toNm rfl) dv_str)) (fun hh4 => ?_) (fun hh4 => ?_) ?_ then_fgt)
  ·
    replace hF := ite_t hF hh4
    obtain ⟨hh6, hF⟩ := gd_out hF hne
    obtain ⟨figures7, hh8, hF⟩ := letE_out hF
    refine ds_cons (ds1_set v1 (dv_isE (enc := D.str) (dv_slT' (dv_var v0.toNm rfl) hh6 (do_some dv_int) do_none) hh8) ?_)
    change DS _ _ _ [some (.str text1), some (.str figures7), none] [] _
    refine ds_nil ?_
    exact join_nx () figures7 hF ⟨.inr rfl, .inr rfl, .inl rfl, trivial⟩ rfl
  ·
    replace hF := ite_f hF hh4
    refine ds_nil ?_
    exact join_nx () text1 hF ⟨.inr rfl, .inr rfl, .inl rfl, trivial⟩ rfl
  ·
    rintro ⟨⟩ figures9 hF
    subst hjk5
    change DS _ _ _ [some (.str text1), some (.str figures9), none] [] _
    obtain ⟨hh10, hF⟩ := gd_out hF hne
    rcases bindX_out hF hne with ⟨r11, hh12, hF⟩ | ⟨n, fs, hh12, hF⟩
    rotate_left
    · exact ds_cons (ds1_void (x_needed T (B.room.mono (by decide)) (B.gl (x := "needed") rfl) (dv_chain op_le op_le dv_int (dv_lenS (B.bn (x := "len") rfl T.b_len bt_len) (dv_var v1.toNm rfl) (sz_le hh10)) (T.k_MOST_FIGURES.elim fun _ h => dv_gint (B.gl (x := "MOST_FIGURES") rfl) h ⟨_, rfl⟩)) hh12 fun cls hm => (kx_exc hF.symm hm)))
    refine ds_cons (ds1_exprV (c_needed T (B.room.mono (by decide)) (B.gl (x := "needed") rfl) (dv_chain op_le op_le dv_int (dv_lenS (B.bn (x := "len") rfl T.b_len bt_len) (dv_var v1.toNm rfl) (sz_le hh10)) (T.k_MOST_FIGURES.elim fun _ h => dv_gint (B.gl (x := "MOST_FIGURES") rfl) h ⟨_, rfl⟩)) hh12) ?_)
    obtain ⟨hh16, hF⟩ := gd_out hF hne
    obtain ⟨ys17, hh18, hF⟩ := bindP_out hF hne
    rcases bindX_out hF hne with ⟨r19, hh20, hF⟩ | ⟨n, fs, hh20, hF⟩
    rotate_left
    · exact ds_cons (ds1_void (x_needed T (B.room.mono (by decide)) (B.gl (x := "needed") rfl) (dv_all B.calm (B.bn (x := "all") rfl T.b_all bt_all) (dv_lcE (own := [("sign", 2)]) B  (di_str (dv_var v1.toNm rfl)) (blkOk_by (by decide +kernel)) (sz_lt hh16) (fun u13 hx => ⟨_, _, fun _ h => h, fun _ _ _ _ _ _ _ B14 => ⟨(dg_name (B14.ns (i := 2) rfl rfl)), lcb_E (enc := D.bl) ((compE_out hh18).2 u13 hx) (fun _ hF => (by cases hF; exact dts_nil)) fun _ hF => (by obtain ⟨hh15, hF⟩ := gd_out hF (Ex.ok_ne _); cases hF; exact (dv_inSg hh15 (dv_var (B14.nm (i := 2) rfl (vloc rfl)) rfl) (T.k_FIGURES.elim fun _ h => dv_gstr (B14.gl (x := "FIGURES") rfl) h ⟨_, rfl⟩)))⟩⟩) (outs_E D.bl (compE_out hh18).1)) (.lst _)) hh20 fun cls hm => (kx_exc hF.symm hm)))
    refine ds_cons (ds1_exprV (c_needed T (B.room.mono (by decide)) (B.gl (x := "needed") rfl) (dv_all B.calm (B.bn (x := "all") rfl T.b_all bt_all) (dv_lcE (own := [("sign", 2)]) B  (di_str (dv_var v1.toNm rfl)) (blkOk_by (by decide +kernel)) (sz_lt hh16) (fun u13 hx => ⟨_, _, fun _ h => h, fun _ _ _ _ _ _ _ B14 => ⟨(dg_name (B14.ns (i := 2) rfl rfl)), lcb_E (enc := D.bl) ((compE_out hh18).2 u13 hx) (fun _ hF => (by cases hF; exact dts_nil)) fun _ hF => (by obtain ⟨hh15, hF⟩ := gd_out hF (Ex.ok_ne _); cases hF; exact (dv_inSg hh15 (dv_var (B14.nm (i := 2) rfl (vloc rfl)) rfl) (T.k_FIGURES.elim fun _ h => dv_gstr (B14.gl (x := "FIGURES") rfl) h ⟨_, rfl⟩)))⟩⟩) (outs_E D.bl (compE_out hh18).1)) (.lst _)) hh20) ?_)
    obtain ⟨hh21, hF⟩ := gd_out hF hne
    obtain ⟨c22, hh23, hF⟩ := bindP_out hF hne
    rcases bindX_out hF hne with ⟨r24, hh25, hF⟩ | ⟨n, fs, hh25, hF⟩
    rotate_left
    · exact ds_cons (ds1_void (x_needed T (B.room.mono (by decide)) (B.gl (x := "needed") rfl) (dv_or (dv_nes (dv_ixSg (dv_var v1.toNm rfl) dv_int hh21 hh23) dv_str) fun _ => (dv_one (dv_eqs (dv_var v0.toNm rfl) dv_str))) hh25 fun cls hm => (kx_exc hF.symm hm)))
    refine ds_cons (ds1_exprV (c_needed T (B.room.mono (by decide)) (B.gl (x := "needed") rfl) (dv_or (dv_nes (dv_ixSg (dv_var v1.toNm rfl) dv_int hh21 hh23) dv_str) fun _ => (dv_one (dv_eqs (dv_var v0.toNm rfl) dv_str))) hh25) ?_)
    obtain ⟨hh26, hF⟩ := gd_out hF hne
    obtain ⟨i27, hh28, hF⟩ := bindP_out hF hne
    refine ds_cons (ds1_retV (dv_intN T.nodg (B.bn (x := "int") rfl T.b_int bt_int) (some_out hh28) hh26 (dv_var v0.toNm rfl)) ?_)
    exact ret_mk (enc := D.int) (M := []) hF
theorem x_read_number {X : Cx} {kx : XD} {ρ : Ro} {M : Mem} {pos p : Pos} {e0 : Expr} {text1 : Str} {n : Str} {fs : List (Str × D)} (T : Txt X.K X.mg A) (hr : Room 4 X.A) (hg : Gl X "read_number") (h0 : DV X kx e0 ρ M (.str text1)) (hF : F_read_number text1 = .exc n fs) (hk : ∀ cls, X.mg n = some cls → kx cls fs ρ M) (he0 : starEach [e0] X.env = (false, eval e0 X.env) :: starEach [] X.env := by rfl) (hpl : (backTo pos (starEach [] X.env)).any (·.1) = false := by rfl) : DE X kx (.Call (.Name "read_number" p) [e0] [] pos) ρ M fun _ _ => False :=
  de_exc (g_read_number T) hr hg (da_cons h0 da_nil he0) text1 rfl hF hk (by decide) he0 hpl
theorem xd_read_number {X : Cx} {ρ : Ro} {M : Mem} {pos p : Pos} {e0 : Expr} {text1 : Str} {n : Str} {fs : List (Str × D)} (T : Txt X.K X.mg A) (hr : Room 4 X.A) (hg : Gl X "read_number") (h0 : DV X kx0 e0 ρ M (.str text1)) (hF : F_read_number text1 = .exc n fs) (he0 : starEach [e0] X.env = (false, eval e0 X.env) :: starEach [] X.env := by rfl) (hpl : (backTo pos (starEach [] X.env)).any (·.1) = false := by rfl) : DX X (.Call (.Name "read_number" p) [e0] [] pos) ρ M n fs :=
  dx_call (g_read_number T) hr hg (da_cons h0 da_nil he0) text1 rfl hF (by decide) he0 hpl
theorem c_read_number {X : Cx} {kx : XD} {ρ : Ro} {M : Mem} {pos p : Pos} {e0 : Expr} {text1 : Str} {r : Int} (T : Txt X.K X.mg A) (hr : Room 4 X.A) (hg : Gl X "read_number") (h0 : DV X kx e0 ρ M (.str text1)) (hF : F_read_number text1 = .ok r) (he0 : starEach [e0] X.env = (false, eval e0 X.env) :: starEach [] X.env := by rfl) (hpl : (backTo pos (starEach [] X.env)).any (·.1) = false := by rfl) : DV X kx (.Call (.Name "read_number" p) [e0] [] pos) ρ M (.int r) :=
  dv_call (g_read_number T) hr hg (da_cons h0 da_nil he0) text1 rfl (fun h => Ex.ok_ne r (hF.symm.trans h)) (fun d ⟨r', a1, a2⟩ => by cases hF.symm.trans a1; exact a2) (fun cls fs ⟨n, a1, _⟩ => by cases hF.symm.trans a1) (by decide) he0 hpl
theorem sc_read_step : FnScope ["word", "age", "colon", "width"] ["word"] (defScope s_read_step) := fscope (by decide +kernel)
theorem g_read_step (T : Txt K mg A) : GF P w K mg base 5 "read_step" [] (spE K mg (fun q : Str => [.str q]) (fun q => F_read_step q) dk_T2II) := by
  refine T.f_read_step.gf fun f fd F => fn_e F sc_read_step (fun _ => rfl) fun X e1 e2 e3 e4 e5 B Fz word1 out hF hne => ?_
  subst e1 e2 e3 e4 e5
  have v0 : Ns X 0 "word" := B.ns rfl rfl
  have v1 : Ns X 1 "age" := B.ns rfl rfl
  have v2 : Ns X 2 "colon" := B.ns rfl rfl
  have v3 : Ns X 3 "width" := B.ns rfl rfl
  replace hF : F_read_step word1 = out := hF
  unfold F_read_step at hF
  change DS _ _ _ [some (.str word1), none, none, none] [] _
  obtain ⟨hh2, hF⟩ := gd_out hF hne
  obtain ⟨t3, hh4, hF⟩ := letE_out hF
  refine ds_cons (ds1_unp (show DV _ _ _ _ _ (.tup [.str t3.1, .str t3.2.1, .str t3.2.2]) from (dv_isE (enc := dk_T3SSS) (show DV _ _ _ _ _ (dk_T3SSS (Txt.partition word1 (":" : Str))) from dv_partition (dv_var v0.toNm rfl) dv_str (by decide) hh2) hh4)) (dg_tup B.calm (dgs_cons (dg_name v1) (dgs_cons (dg_name v2) (dgs_cons (dg_name v3) dgs_nil)))) ?_)
  change DS _ _ _ [some (.str word1), some (.str t3.1), some (.str t3.2.1), some (.str t3.2.2)] [] _
  rcases bindX_out hF hne with ⟨r5, hh6, hF⟩ | ⟨n, fs, hh6, hF⟩
  rotate_left
  · exact ds_cons (ds1_void (x_needed T (B.room.mono (by decide)) (B.gl (x := "needed") rfl) (dv_eqs (dv_var v2.toNm rfl) dv_str) hh6 fun cls hm => (kx_exc hF.symm hm)))
  refine ds_cons (ds1_exprV (c_needed T (B.room.mono (by decide)) (B.gl (x := "needed") rfl) (dv_eqs (dv_var v2.toNm rfl) dv_str) hh6) ?_)
  rcases bindX_out hF hne with ⟨r7, hh8, hF⟩ | ⟨n, fs, hh8, hF⟩
  rotate_left
  · exact ds_cons (ds1_retX (DX.de (dx_tup (dxa_hd (xd_read_number T (B.room.mono (by decide)) (B.gl (x := "read_number") rfl) (dv_var v1.toNm rfl) hh8))) fun cls hm => (kx_exc hF.symm hm)))
  rcases bindX_out hF hne with ⟨r9, hh10, hF⟩ | ⟨n, fs, hh10, hF⟩
  rotate_left
  · exact ds_cons (ds1_retX (DX.de (dx_tup (dxa_tl (c_read_number T (B.room.mono (by decide)) (B.gl (x := "read_number") rfl) (dv_var v1.toNm rfl) hh8) (dxa_hd (xd_read_number T (B.room.mono (by decide)) (B.gl (x := "read_number") rfl) (dv_var v3.toNm rfl) hh10)))) fun cls hm => (kx_exc hF.symm hm)))
  refine ds_cons (ds1_retV (show DV _ _ _ _ _ (dk_T2II (r7, r9)) from dv_tup (da_cons (c_read_number T (B.room.mono (by decide)) (B.gl (x := "read_number") rfl) (dv_var v1.toNm rfl) hh8) (da_cons (c_read_number T (B.room.mono (by decide)) (B.gl (x := "read_number") rfl) (dv_var v3.toNm rfl) hh10) da_nil)) (szN 2 rfl)) ?_)
  exact ret_mk (enc := dk_T2II) (M := []) hF
theorem xd_read_step {X : Cx} {ρ : Ro} {M : Mem} {pos p : Pos} {e0 : Expr} {word1 : Str} {n : Str} {fs : List (Str × D)} (T : Txt X.K X.mg A) (hr : Room 5 X.A) (hg : Gl X "read_step") (h0 : DV X kx0 e0 ρ M (.str word1)) (hF : F_read_step word1 = .exc n fs) (he0 : starEach [e0] X.env = (false, eval e0 X.env) :: starEach [] X.env := by rfl) (hpl : (backTo pos (starEach [] X.env)).any (·.1) = false := by rfl) : DX X (.Call (.Name "read_step" p) [e0] [] pos) ρ M n fs :=
  dx_call (g_read_step T) hr hg (da_cons h0 da_nil he0) word1 rfl hF (by decide) he0 hpl
theorem c_read_step {X : Cx} {kx : XD} {ρ : Ro} {M : Mem} {pos p : Pos} {e0 : Expr} {word1 : Str} {r : Int × Int} (T : Txt X.K X.mg A) (hr : Room 5 X.A) (hg : Gl X "read_step") (h0 : DV X kx e0 ρ M (.str word1)) (hF : F_read_step word1 = .ok r) (he0 : starEach [e0] X.env = (false, eval e0 X.env) :: starEach [] X.env := by rfl) (hpl : (backTo pos (starEach [] X.env)).any (·.1) = false := by rfl) : DV X kx (.Call (.Name "read_step" p) [e0] [] pos) ρ M (dk_T2II r) :=
  dv_call (g_read_step T) hr hg (da_cons h0 da_nil he0) word1 rfl (fun h => Ex.ok_ne r (hF.symm.trans h)) (fun d ⟨r', a1, a2⟩ => by cases hF.symm.trans a1; exact a2) (fun cls fs ⟨n, a1, _⟩ => by cases hF.symm.trans a1) (by decide) he0 hpl
theorem sc_read_rule : FnScope ["text", "words", "gone", "steps", "rule", "word"] ["text"] (defScope s_read_rule) := fscope (by decide +kernel)
theorem g_read_rule (T : Txt K mg A) : GF P w K mg base 6 "read_rule" [] (spE K mg (fun q : Str => [.str q]) (fun q => F_read_rule q) (dk_CRule A)) := by
  refine T.f_read_rule.gf fun f fd F => fn_e F sc_read_rule (fun _ => rfl) fun X e1 e2 e3 e4 e5 B Fz text1 out hF hne => ?_
  subst e1 e2 e3 e4 e5
  have v0 : Ns X 0 "text" := B.ns rfl rfl
  have v1 : Ns X 1 "words" := B.ns rfl rfl
  have v2 : Ns X 2 "gone" := B.ns rfl rfl
  have v3 : Ns X 3 "steps" := B.ns rfl rfl
  have v4 : Ns X 4 "rule" := B.ns rfl rfl
  replace hF : F_read_rule text1 = out := hF
  unfold F_read_rule at hF
  change DS _ _ _ [some (.str text1), none, none, none, none, none] [] _
  rcases bindX_out hF hne with ⟨r2, hh3, hF⟩ | ⟨n, fs, hh3, hF⟩
  rotate_left
  · exact ds_cons (ds1_void (x_needed T (B.room.mono (by decide)) (B.gl (x := "needed") rfl) (dv_isi (T := "str") (k := true) (B.bn (x := "isinstance") rfl T.b_isinstance bt_isinstance) (B.bn (x := "str") rfl T.b_str bt_str) (dv_var v0.toNm rfl) (by first | exact .non | exact .int _ | exact .bl _ | exact .str _ | exact .lst _ | exact .tup _ | exact .scr _) (by decide +kernel)) hh3 fun cls hm => (kx_exc hF.symm hm)))
  refine ds_cons (ds1_exprV (c_needed T (B.room.mono (by decide)) (B.gl (x := "needed") rfl) (dv_isi (T := "str") (k := true) (B.bn (x := "isinstance") rfl T.b_isinstance bt_isinstance) (B.bn (x := "str") rfl T.b_str bt_str) (dv_var v0.toNm rfl) (by first | exact .non | exact .int _ | exact .bl _ | exact .str _ | exact .lst _ | exact .tup _ | exact .scr _) (by decide +kernel)) hh3) ?_)
  obtain ⟨hh4, hF⟩ := gd_out hF hne
  obtain ⟨words5, hh6, hF⟩ := letE_out hF
  refine ds_cons (ds1_set v1 (dv_isE (enc := dk_LS) (dv_split (dv_var v0.toNm rfl) dv_str (by decide) hh4) hh6) ?_)
  change DS _ _ _ [some (.str text1), some (.lst (words5.map D.str)), none, none, none, none] [] _
  refine ds_cons (ds1_set v2 dv_non ?_)
  change DS _ _ _ [some (.str text1), some (.lst (words5.map D.str)), some (.non), none, none, none] [] _
  obtain ⟨b9, hh10, hF⟩ := bindP_out hF hne
  obtain ⟨jk12, hjk12, hF⟩ := jpE_out hF
  refine ds_cons (ds1_ifJ (kf := jk12) (out := out) (fun (a : Unit) (z : (List Str) × (Option Int)) => [some (.str text1), some (.lst (z.1.map D.str)), some (dOpt D.int z.2), none, none, none]) (fun (a : Unit) (z : (List Str) × (Option Int)) => []) (DW.t (dw_andE hh10 (dt_gt (dv_lenM (g := D.str) (B.bn (x := "len") rfl T.b_len bt_len) (dv_var v1.toNm rfl) (.lst _)) dv_int) fun _ _ hF => (by obtain ⟨x7, hh8, hF⟩ := bindP_out hF (Ex.ok_ne _); cases hF; exact (dw_and1 (dt_eqs (dv_ixS (dv_var v1.toNm rfl) (.lst _) (DV.is (dv_neg dv_int) (show D.int _ = D.int (-2) from congrArg D.int (by decide))) (ixE_out hh8 D.str)) dv_str))))) (fun hh11 => ?_) (fun hh11 => ?_) ?_ then_fgt)
  ·
    replace hF := ite_t hF hh11
    obtain ⟨x13, hh14, hF⟩ := bindP_out hF hne
    rcases bindX_out hF hne with ⟨gone15, hh16, hF⟩ | ⟨n, fs, hh16, hF⟩
    rotate_left
    · exact ds_cons (ds1_setE v2 (x_read_number T (B.room.mono (by decide)) (B.gl (x := "read_number") rfl) (dv_ixS (dv_var v1.toNm rfl) (.lst _) (DV.is (dv_neg dv_int) (show D.int _ = D.int (-1) from congrArg D.int (by decide))) (ixE_out hh14 D.str)) hh16 fun cls hm => (kx_exc hF.symm hm)) (fun _ _ z => z.elim))
    refine ds_cons (ds1_set v2 (c_read_number T (B.room.mono (by decide)) (B.gl (x := "read_number") rfl) (dv_ixS (dv_var v1.toNm rfl) (.lst _) (DV.is (dv_neg dv_int) (show D.int _ = D.int (-1) from congrArg D.int (by decide))) (ixE_out hh14 D.str)) hh16) ?_)
    change DS _ _ _ [some (.str text1), some (.lst (words5.map D.str)), some (.int gone15), none, none, none] [] _
    obtain ⟨words17, hh18, hF⟩ := letE_out hF
    refine ds_cons (ds1_set v1 (dv_isE (enc := dk_LS) (dv_slM (g := D.str) (dv_var v1.toNm rfl) (.lst _) do_none (do_some (DV.is (dv_neg dv_int) (show D.int _ = D.int (-2) from congrArg D.int (by decide))))) hh18) ?_)
    change DS _ _ _ [some (.str text1), some (.lst (words17.map D.str)), some (.int gone15), none, none, none] [] _
    refine ds_nil ?_
    exact join_nx () (words17, (some gone15)) hF ⟨.inr rfl, .inr rfl, .inr rfl, .inl rfl, .inl rfl, .inl rfl, trivial⟩ rfl
  ·
    replace hF := ite_f hF hh11
    refine ds_nil ?_
    exact join_nx () (words5, none) hF ⟨.inr rfl, .inr rfl, .inr rfl, .inl rfl, .inl rfl, .inl rfl, trivial⟩ rfl
  ·
    rintro ⟨⟩ ⟨words19, gone20⟩ hF
    subst hjk12
    change DS _ _ _ [some (.str text1), some (.lst (words19.map D.str)), some (dOpt D.int gone20), none, none, none] [] _
    obtain ⟨hh23, hF⟩ := gd_out hF hne
    rcases bindX_out hF hne with ⟨ys24, hh25, hF⟩ | ⟨n, fs, hh25, hF⟩
    rotate_left
    · obtain ⟨i9, x9, q1, q2, q3⟩ := compX_exc hh25
      exact ds_cons (ds1_setLcX (own := [("word", 5)]) (f := fun (u21 : Str) => dk_T2II ((F_read_step u21).get)) B Fz (di_list (dv_var v1.toNm rfl)) (blkOk_by (by decide +kernel)) (sz_lt hh23) q1 (fun j9 u21 hj hx => ⟨_, _, fun _ h => h, fun _ _ _ _ _ _ _ _ B22 => ⟨(dg_name (B22.ns (i := 5) rfl rfl)), (by obtain ⟨v9, e9⟩ := q3 j9 u21 hj hx; exact DV.is (c_read_step T (B22.room.mono (by decide)) (B22.gl (x := "read_step") rfl) (dv_var (B22.nm (i := 5) rfl (vloc rfl)) rfl) e9) (by rw [e9]; rfl))⟩⟩) ⟨_, _, fun _ h => h, fun _ _ _ _ _ _ _ _ B22 => ⟨(dg_name (B22.ns (i := 5) rfl rfl)), xd_read_step T (B22.room.mono (by decide)) (B22.gl (x := "read_step") rfl) (dv_var (B22.nm (i := 5) rfl (vloc rfl)) rfl) q2⟩⟩ fun cls hm => (kx_exc hF.symm hm))
    replace hh25 := compX_ok hh25
    refine ds_cons (ds1_setLcE (own := [("word", 5)]) B v3 (di_list (dv_var v1.toNm rfl)) (blkOk_by (by decide +kernel)) (sz_lt hh23) (fun u21 hx => ⟨_, _, fun _ h => h, fun _ _ _ _ _ _ _ B22 => ⟨(dg_name (B22.ns (i := 5) rfl rfl)), lcb_E (enc := dk_T2II) ((compE_out hh25).2 u21 hx) (fun _ hF => (by cases hF; exact dts_nil)) fun _ hF => (c_read_step T (B22.room.mono (by decide)) (B22.gl (x := "read_step") rfl) (dv_var (B22.nm (i := 5) rfl (vloc rfl)) rfl) hF)⟩⟩) (outs_E dk_T2II (compE_out hh25).1) ?_)
    change DS _ _ _ [some (.str text1), some (.lst (words19.map D.str)), some (dOpt D.int gone20), some (.lst (ys24.map dk_T2II)), none, none] [] _
    have Br := B.room
    obtain ⟨jk26, hjk26, hF⟩ := jpE_out hF
    refine ds_cons (ds1_tryGX (ad := adE A) (kf := jk26) (out := out) (fun (a : Unit) (z : (List (Int × Int)) × (Option Int)) => [some (.str text1), some (.lst (words19.map D.str)), some (dOpt D.int gone20), some (.lst (ys24.map dk_T2II)), some ((dk_CRule A) z), none]) (fun (a : Unit) (z : (List (Int × Int)) × (Option Int)) => []) (fun (a : Unit) (z : (List (Int × Int)) × (Option Int)) => True) ([some (.str text1), some (.lst (words19.map D.str)), some (dOpt D.int gone20), some (.lst (ys24.map dk_T2II)), none, none]) B Fz (HdR.cons (B.gl (x := "NoRule") rfl) T.n_NoRule (.nil)) hF hne (xs1 T) (by rfl) ?hbo27 ?hho27 ?hko27)
    case hbo27 =>
      clear hF hne
      intro pn xe B Fz o27 hF hne
      have v0 : Ns _ 0 "text" := B.ns rfl rfl
      have v1 : Ns _ 1 "words" := B.ns rfl rfl
      have v2 : Ns _ 2 "gone" := B.ns rfl rfl
      have v3 : Ns _ 3 "steps" := B.ns rfl rfl
      have v4 : Ns _ 4 "rule" := B.ns rfl rfl
      rcases bindX_out hF hne with ⟨rule29, hh30, hF⟩ | ⟨n, fs, hh30, hF⟩
      rotate_left
      · exact ds_cons (ds1_setE v4 (kx_Rule_init_0 T (B.room.mono (by decide)) (B.gl (x := "Rule") rfl) (dv_var v3.toNm rfl) (dv_var v2.toNm rfl) hh30 fun cls hm => ⟨(kx_exc hF.symm hm), ⟨.inr rfl, .inr rfl, .inr rfl, .inr rfl, .inl rfl, .inl rfl, trivial⟩, rfl⟩) (fun _ _ z => z.elim))
      refine ds_cons (ds1_set v4 (k_Rule_init_0 T (B.room.mono (by decide)) (B.gl (x := "Rule") rfl) (dv_var v3.toNm rfl) (dv_var v2.toNm rfl) hh30) ?_)
      change DS _ _ _ [some (.str text1), some (.lst (words19.map D.str)), some (dOpt D.int gone20), some (.lst (ys24.map dk_T2II)), some ((dk_CRule A) rule29), none] [] _
      refine ds_nil ?_
      exact (joinO_nx (R := fun (a : Unit) (z : (List (Int × Int)) × (Option Int)) => [some (.str text1), some (.lst (words19.map D.str)), some (dOpt D.int gone20), some (.lst (ys24.map dk_T2II)), some ((dk_CRule A) z), none]) (Mf := fun (a : Unit) (z : (List (Int × Int)) × (Option Int)) => []) (J := fun (a : Unit) (z : (List (Int × Int)) × (Option Int)) => True) () rule29 hF trivial ⟨.inr rfl, .inr rfl, .inr rfl, .inr rfl, .inr rfl, .inl rfl, trivial⟩ rfl)
    case hho27 =>
      clear hF
      refine (.cons (xs0 T) (fun e31 hF a l B hot => ?_) (.nil))
      ·
        have v0 : Ns _ 0 "text" := B.ns rfl rfl
        have v1 : Ns _ 1 "words" := B.ns rfl rfl
        have v2 : Ns _ 2 "gone" := B.ns rfl rfl
        have v3 : Ns _ 3 "steps" := B.ns rfl rfl
        have v4 : Ns _ 4 "rule" := B.ns rfl rfl
        change DS _ _ _ [some (.str text1), some (.lst (words19.map D.str)), some (dOpt D.int gone20), some (.lst (ys24.map dk_T2II)), none, none] [] _
        exact ds_cons (rzk_NoText T hot (roomQ Br (by decide)) (B.gl (x := "NoText") rfl) dv_int fun cls hm => (kx_exc hF hm))
    case hko27 =>
      rintro ⟨⟩ rule35 _ hF
      subst hjk26
      change DS _ _ _ [some (.str text1), some (.lst (words19.map D.str)), some (dOpt D.int gone20), some (.lst (ys24.map dk_T2II)), some ((dk_CRule A) rule35), none] [] _
      refine ds_cons (ds1_retV (dv_var v4.toNm rfl) ?_)
      exact ret_mk (enc := (dk_CRule A)) (M := []) hF
theorem x_read_rule {X : Cx} {kx : XD} {ρ : Ro} {M : Mem} {pos p : Pos} {e0 : Expr} {text1 : Str} {n : Str} {fs : List (Str × D)} (T : Txt X.K X.mg A) (hr : Room 6 X.A) (hg : Gl X "read_rule") (h0 : DV X kx e0 ρ M (.str text1)) (hF : F_read_rule text1 = .exc n fs) (hk : ∀ cls, X.mg n = some cls → kx cls fs ρ M) (he0 : starEach [e0] X.env = (false, eval e0 X.env) :: starEach [] X.env := by rfl) (hpl : (backTo pos (starEach [] X.env)).any (·.1) = false := by rfl) : DE X kx (.Call (.Name "read_rule" p) [e0] [] pos) ρ M fun _ _ => False :=
  de_exc (g_read_rule T) hr hg (da_cons h0 da_nil he0) text1 rfl hF hk (by decide) he0 hpl
theorem c_read_rule {X : Cx} {kx : XD} {ρ : Ro} {M : Mem} {pos p : Pos} {e0 : Expr} {text1 : Str} {r : (List (Int × Int)) × (Option Int)} (T : Txt X.K X.mg A) (hr : Room 6 X.A) (hg : Gl X "read_rule") (h0 : DV X kx e0 ρ M (.str text1)) (hF : F_read_rule text1 = .ok r) (he0 : starEach [e0] X.env = (false, eval e0 X.env) :: starEach [] X.env := by rfl) (hpl : (backTo pos (starEach [] X.env)).any (·.1) = false := by rfl) : DV X kx (.Call (.Name "read_rule" p) [e0] [] pos) ρ M ((dk_CRule A) r) :=
  dv_call (g_read_rule T) hr hg (da_cons h0 da_nil he0) text1 rfl (fun h => Ex.ok_ne r (hF.symm.trans h)) (fun d ⟨r', a1, a2⟩ => by cases hF.symm.trans a1; exact a2) (fun cls fs ⟨n, a1, _⟩ => by cases hF.symm.trans a1) (by decide) he0 hpl
theorem sc_l_spoilt : FnScope ["_law_text_here", "_law_rows", "_law_cell", "_law_plain", "_law_some"] ["_law_text_here", "_law_rows", "_law_cell"] (defScope s_l_spoilt) := fscope (by decide +kernel)
theorem g_l_spoilt (T : Txt K mg A) : GF P w K mg base 2 "_law_spoilt" [] (spE K mg (fun q : Str × (List (Int × Int)) × Int => [.str q.1, .lst (q.2.1.map dk_T2II), .int q.2.2]) (fun q => F_l_spoilt q.1 q.2.1 q.2.2) dD) := by
  refine T.f_l_spoilt.gf fun f fd F => fn_e F sc_l_spoilt (fun _ => rfl) fun X e1 e2 e3 e4 e5 B Fz q out hF hne => ?_
  subst e1 e2 e3 e4 e5
  have v0 : Ns X 0 "_law_text_here" := B.ns rfl rfl
  have v1 : Ns X 1 "_law_rows" := B.ns rfl rfl
  have v2 : Ns X 2 "_law_cell" := B.ns rfl rfl
  have v3 : Ns X 3 "_law_plain" := B.ns rfl rfl
  have v4 : Ns X 4 "_law_some" := B.ns rfl rfl
  obtain ⟨text1, rows2, cell3⟩ := q
  replace hF : F_l_spoilt text1 rows2 cell3 = out := hF
  unfold F_l_spoilt at hF
  change DS _ _ _ [some (.str text1), some (.lst (rows2.map dk_T2II)), some (.int cell3), none, none] [] _
  obtain ⟨r4, hh5, hF⟩ := bindP_out hF hne
  refine ds_cons (ds1_set v3 (c_l_text T (B.room.mono (by decide)) (B.gl (x := "_law_text") rfl) (dv_var v1.toNm rfl) (DV.is dv_non (show _ = dOpt D.int none from rfl)) hh5) ?_)
  change DS _ _ _ [some (.str text1), some (.lst (rows2.map dk_T2II)), some (.int cell3), some (.str r4), none] [] _
  obtain ⟨hh7, hF⟩ := gd_out hF hne
  obtain ⟨hh8, hF⟩ := gd_out hF hne
  obtain ⟨hh9, hF⟩ := gd_out hF hne
  obtain ⟨hh10, hF⟩ := gd_out hF hne
  refine ds_tokL v4 (dv_var v0.toNm rfl) hh7 (dat_cons (DVt.of (dv_addS dv_str (dv_var v0.toNm rfl) hh8)) (dat_cons (dvt_replN (n := 1) (dv_var v0.toNm rfl) hh9 (by decide) (by omega)) (dat_cons (dvt_replN (n := 1) (dv_var v0.toNm rfl) hh10 (by decide) (by omega)) dat_nil))) (szN 4 rfl) fun w6 n_w6 => ?_
  change DSt _ _ _ [some (.str text1), some (.lst (rows2.map dk_T2II)), some (.int cell3), some (.str r4), some (.adr w6)] [(w6, Mu.lst (([text1 ++ (" " : Str), (" " : Str) ++ text1, replN text1 (":" : Str) ("" : Str) 1, replN text1 (":" : Str) ("::" : Str) 1] : List Str).map D.str))] _
  obtain ⟨hh11, hF⟩ := gd_out hF hne
  obtain ⟨hh12, hF⟩ := gd_out hF hne
  refine dst_app (g := D.str) (xs := ([text1 ++ (" " : Str), (" " : Str) ++ text1, replN text1 (":" : Str) ("" : Str) 1, replN text1 (":" : Str) ("::" : Str) 1] : List Str)) (v := replN text1 (":" : Str) (": " : Str) 1) 0 (dv_var v4.toNm rfl) (dvt_replN (n := 1) (dv_var v0.toNm rfl) hh11 (by decide) (by omega)) rfl hh12 ?_
  change DSt _ _ _ [some (.str text1), some (.lst (rows2.map dk_T2II)), some (.int cell3), some (.str r4), some (.adr w6)] [(w6, Mu.lst ((([text1 ++ (" " : Str), (" " : Str) ++ text1, replN text1 (":" : Str) ("" : Str) 1, replN text1 (":" : Str) ("::" : Str) 1] : List Str) ++ [replN text1 (":" : Str) (": " : Str) 1]).map D.str))] _
  refine dst_frz 0 4 rfl rfl ?_
  change DSt _ _ _ [some (.str text1), some (.lst (rows2.map dk_T2II)), some (.int cell3), some (.str r4), some (.lst ((([text1 ++ (" " : Str), (" " : Str) ++ text1, replN text1 (":" : Str) ("" : Str) 1, replN text1 (":" : Str) ("::" : Str) 1] : List Str) ++ [replN text1 (":" : Str) (": " : Str) 1]).map D.str))] [] _
  obtain ⟨hh14, hF⟩ := gd_out hF hne
  obtain ⟨hh15, hF⟩ := gd_out hF hne
  obtain ⟨hh16, hF⟩ := gd_out hF hne
  obtain ⟨hh17, hF⟩ := gd_out hF hne
  obtain ⟨hh18, hF⟩ := gd_out hF hne
  obtain ⟨hh19, hF⟩ := gd_out hF hne
  refine dst_catN (f := D.str) v4 (dv_var v4.toNm rfl) (show DVt _ _ _ _ _ (.lst ([replN text1 (":" : Str) ("-" : Str) 1, ("0" : Str) ++ text1, ("+" : Str) ++ text1, r4 ++ (" gone" : Str), r4 ++ (" gone " : Str)].map D.str)) from dvt_lst (dat_cons (dvt_replN (n := 1) (dv_var v0.toNm rfl) hh14 (by decide) (by omega)) (dat_cons (DVt.of (dv_addS dv_str (dv_var v0.toNm rfl) hh15)) (dat_cons (DVt.of (dv_addS dv_str (dv_var v0.toNm rfl) hh16)) (dat_cons (DVt.of (dv_addS (dv_var v3.toNm rfl) dv_str hh17)) (dat_cons (DVt.of (dv_addS (dv_var v3.toNm rfl) dv_str hh18)) dat_nil))))) (szN 5 rfl)) (.lst _) (.lst _) (sz_le hh19) fun w13 n_w13 => DSt.of ?_
  change DS _ _ _ [some (.str text1), some (.lst (rows2.map dk_T2II)), some (.int cell3), some (.str r4), some (.adr w13)] [(w13, Mu.lst (((([text1 ++ (" " : Str), (" " : Str) ++ text1, replN text1 (":" : Str) ("" : Str) 1, replN text1 (":" : Str) ("::" : Str) 1] : List Str) ++ [replN text1 (":" : Str) (": " : Str) 1]) ++ [replN text1 (":" : Str) ("-" : Str) 1, ("0" : Str) ++ text1, ("+" : Str) ++ text1, r4 ++ (" gone" : Str), r4 ++ (" gone " : Str)]).map D.str))] _
  obtain ⟨hh20, hF⟩ := gd_out hF hne
  obtain ⟨hh21, hF⟩ := gd_out hF hne
  refine ds_cons (ds1_appM (g := D.str) (xs := (([text1 ++ (" " : Str), (" " : Str) ++ text1, replN text1 (":" : Str) ("" : Str) 1, replN text1 (":" : Str) ("::" : Str) 1] : List Str) ++ [replN text1 (":" : Str) (": " : Str) 1]) ++ [replN text1 (":" : Str) ("-" : Str) 1, ("0" : Str) ++ text1, ("+" : Str) ++ text1, r4 ++ (" gone" : Str), r4 ++ (" gone " : Str)]) (v := r4 ++ (" gone 0x9" : Str)) 0 (dv_var v4.toNm rfl) (dv_addS (dv_var v3.toNm rfl) dv_str hh20) rfl hh21 ?_)
  change DS _ _ _ [some (.str text1), some (.lst (rows2.map dk_T2II)), some (.int cell3), some (.str r4), some (.adr w13)] [(w13, Mu.lst ((((([text1 ++ (" " : Str), (" " : Str) ++ text1, replN text1 (":" : Str) ("" : Str) 1, replN text1 (":" : Str) ("::" : Str) 1] : List Str) ++ [replN text1 (":" : Str) (": " : Str) 1]) ++ [replN text1 (":" : Str) ("-" : Str) 1, ("0" : Str) ++ text1, ("+" : Str) ++ text1, r4 ++ (" gone" : Str), r4 ++ (" gone " : Str)]) ++ [r4 ++ (" gone 0x9" : Str)]).map D.str))] _
  refine ds_frz 0 4 rfl rfl ?_
  change DS _ _ _ [some (.str text1), some (.lst (rows2.map dk_T2II)), some (.int cell3), some (.str r4), some (.lst ((((([text1 ++ (" " : Str), (" " : Str) ++ text1, replN text1 (":" : Str) ("" : Str) 1, replN text1 (":" : Str) ("::" : Str) 1] : List Str) ++ [replN text1 (":" : Str) (": " : Str) 1]) ++ [replN text1 (":" : Str) ("-" : Str) 1, ("0" : Str) ++ text1, ("+" : Str) ++ text1, r4 ++ (" gone" : Str), r4 ++ (" gone " : Str)]) ++ [r4 ++ (" gone 0x9" : Str)]).map D.str))] [] _
  obtain ⟨hh22, hF⟩ := gd_out hF hne
  obtain ⟨x23, hh24, hF⟩ := bindP_out hF hne
  obtain ⟨hh25, hF⟩ := gd_out hF hne
  obtain ⟨hh26, hF⟩ := gd_out hF hne
  obtain ⟨hh27, hF⟩ := gd_out hF hne
  obtain ⟨hh28, hF⟩ := gd_out hF hne
  obtain ⟨hh29, hF⟩ := gd_out hF hne
  obtain ⟨hh30, hF⟩ := gd_out hF hne
  obtain ⟨some31, hh32, hF⟩ := letE_out hF
  refine ds_cons (ds1_set v4 (dv_isE (enc := dk_LS) (dv_catM (g := D.str) (dv_var v4.toNm rfl) (show DV _ _ _ _ _ (.lst ([(r4 ++ (" gone 0" : Str)) ++ (Str.ofString (toString (x23.1 : Int))), r4 ++ (" Gone 99" : Str), r4 ++ (" gone none" : Str), r4 ++ ("  gone 99" : Str)].map D.str)) from dv_lst (da_cons (dv_addS (dv_addS (dv_var v3.toNm rfl) dv_str hh22) (dv_strN B.calm T.nodg (B.bn (x := "str") rfl T.b_str bt_str) hh25 (dv_ixT (show DV _ _ _ _ _ (.tup [.int x23.1, .int x23.2]) from (dv_ixS (dv_var v1.toNm rfl) (.lst _) (DV.is (dv_neg dv_int) (show D.int _ = D.int (-1) from congrArg D.int (by decide))) (ixE_out hh24 dk_T2II))) dv_int rfl)) hh26) (da_cons (dv_addS (dv_var v3.toNm rfl) dv_str hh27) (da_cons (dv_addS (dv_var v3.toNm rfl) dv_str hh28) (da_cons (dv_addS (dv_var v3.toNm rfl) dv_str hh29) da_nil)))) (szN 4 rfl)) (.lst _) (.lst _) (sz_le hh30)) hh32) ?_)
  change DS _ _ _ [some (.str text1), some (.lst (rows2.map dk_T2II)), some (.int cell3), some (.str r4), some (.lst (some31.map D.str))] [] _
  obtain ⟨hh33, hF⟩ := gd_out hF hne
  obtain ⟨hh34, hF⟩ := gd_out hF hne
  obtain ⟨hh35, hF⟩ := gd_out hF hne
  obtain ⟨hh36, hF⟩ := gd_out hF hne
  obtain ⟨some37, hh38, hF⟩ := letE_out hF
  refine ds_cons (ds1_set v4 (dv_isE (enc := dk_LD) (dv_catM (g := dD) (DV.is (dv_var v4.toNm rfl) (show _ = .lst ((some31.map fun x => (.str x : D)).map dD) from (coeL _ fun _ => rfl))) (show DV _ _ _ _ _ (.lst ([(.str ("" : Str) : D), (.str ("gone 5" : Str) : D), (.str ("gone" : Str) : D), (.str (text1 ++ (";" : Str)) : D), (.str (text1 ++ ("\n" : Str)) : D), (.non : D), (.int 7 : D), (.lst (rows2.map dk_T2II) : D), (.str ("none" : Str) : D), (.str (r4 ++ (" gone 9 9" : Str)) : D)].map dD)) from dv_lst (da_cons (DV.is dv_str (show _ = dD (.str ("" : Str) : D) from rfl)) (da_cons (DV.is dv_str (show _ = dD (.str ("gone 5" : Str) : D) from rfl)) (da_cons (DV.is dv_str (show _ = dD (.str ("gone" : Str) : D) from rfl)) (da_cons (DV.is (dv_addS (dv_var v0.toNm rfl) dv_str hh33) (show _ = dD (.str (text1 ++ (";" : Str)) : D) from rfl)) (da_cons (DV.is (dv_addS (dv_var v0.toNm rfl) dv_str hh34) (show _ = dD (.str (text1 ++ ("\n" : Str)) : D) from rfl)) (da_cons (DV.is dv_non (show _ = dD (.non : D) from rfl)) (da_cons (DV.is dv_int (show _ = dD (.int 7 : D) from rfl)) (da_cons (DV.is (dv_list (B.bn (x := "list") rfl T.b_list bt_list) (dv_var v1.toNm rfl) (.lst _)) (show _ = dD (.lst (rows2.map dk_T2II) : D) from rfl)) (da_cons (DV.is dv_str (show _ = dD (.str ("none" : Str) : D) from rfl)) (da_cons (DV.is (dv_addS (dv_var v3.toNm rfl) dv_str hh35) (show _ = dD (.str (r4 ++ (" gone 9 9" : Str)) : D) from rfl)) da_nil)))))))))) (szN 10 rfl)) (.lst _) (.lst _) (sz_le hh36)) hh38) ?_)
  change DS _ _ _ [some (.str text1), some (.lst (rows2.map dk_T2II)), some (.int cell3), some (.str r4), some (.lst (some37.map dD))] [] _
  obtain ⟨x39, hh40, hF⟩ := bindP_out hF hne
  refine ds_cons (ds1_retV (dv_ixS (dv_var v4.toNm rfl) (.lst _) (dv_mod (dv_var v2.toNm rfl) dv_int (by decide)) (ixE_out hh40 dD)) ?_)
  exact ret_mk (enc := dD) (M := []) hF
theorem c_l_spoilt {X : Cx} {kx : XD} {ρ : Ro} {M : Mem} {pos p : Pos} {e0 e1 e2 : Expr} {text1 : Str} {rows2 : List (Int × Int)} {cell3 : Int} {r : D} (T : Txt X.K X.mg A) (hr : Room 2 X.A) (hg : Gl X "_law_spoilt") (h0 : DV X kx e0 ρ M (.str text1)) (h1 : DV X kx e1 ρ M (.lst (rows2.map dk_T2II))) (h2 : DV X kx e2 ρ M (.int cell3)) (hF : F_l_spoilt text1 rows2 cell3 = .ok r) (he0 : starEach [e0, e1, e2] X.env = (false, eval e0 X.env) :: starEach [e1, e2] X.env := by rfl) (he1 : starEach [e1, e2] X.env = (false, eval e1 X.env) :: starEach [e2] X.env := by rfl) (he2 : starEach [e2] X.env = (false, eval e2 X.env) :: starEach [] X.env := by rfl) (hpl : (backTo pos (starEach [e1, e2] X.env)).any (·.1) = false := by rfl) : DV X kx (.Call (.Name "_law_spoilt" p) [e0, e1, e2] [] pos) ρ M (dD r) :=
  dv_call (g_l_spoilt T) hr hg (da_cons h0 (da_cons h1 (da_cons h2 da_nil he2) he1) he0) (text1, rows2, cell3) rfl (fun h => Ex.ok_ne r (hF.symm.trans h)) (fun d ⟨r', a1, a2⟩ => by cases hF.symm.trans a1; exact a2) (fun cls fs ⟨n, a1, _⟩ => by cases hF.symm.trans a1) (by decide) he0 hpl
theorem sc_read_rule_2 : FnScope ["text", "words", "gone", "steps", "rule", "word"] ["text"] (defScope s_read_rule) := fscope (by decide +kernel)
theorem g_read_rule_2 (T : Txt K mg A) : GF P w K mg base 6 "read_rule" [] (spE K mg (fun q : D => [dD q]) (fun q => F_read_rule_2 q) (dk_CRule A)) := by
  refine T.f_read_rule.gf fun f fd F => fn_e F sc_read_rule_2 (fun _ => rfl) fun X e1 e2 e3 e4 e5 B Fz text1 out hF hne => ?_
  subst e1 e2 e3 e4 e5
  have v0 : Ns X 0 "text" := B.ns rfl rfl
  have v1 : Ns X 1 "words" := B.ns rfl rfl
  have v2 : Ns X 2 "gone" := B.ns rfl rfl
  have v3 : Ns X 3 "steps" := B.ns rfl rfl
  have v4 : Ns X 4 "rule" := B.ns rfl rfl
  replace hF : F_read_rule_2 text1 = out := hF
  unfold F_read_rule_2 at hF
  change DS _ _ _ [some (dD text1), none, none, none, none, none] [] _
  obtain ⟨hh2, hF⟩ := gd_out hF hne
  rcases bindX_out hF hne with ⟨r3, hh4, hF⟩ | ⟨n, fs, hh4, hF⟩
  rotate_left
  · exact ds_cons (ds1_void (x_needed T (B.room.mono (by decide)) (B.gl (x := "needed") rfl) (dv_isiD (S := "str") (k1 := false) (k2 := false) (k3 := false) (k4 := true) (k5 := false) (k6 := false) (B.bn (x := "isinstance") rfl T.b_isinstance bt_isinstance) (B.bn (x := "str") rfl T.b_str bt_str) (dv_var v0.toNm rfl) hh2.1 (by decide +kernel) (by decide +kernel) (by decide +kernel) (by decide +kernel) (by decide +kernel) (by decide +kernel)) hh4 fun cls hm => (kx_exc hF.symm hm)))
  refine ds_cons (ds1_exprV (c_needed T (B.room.mono (by decide)) (B.gl (x := "needed") rfl) (dv_isiD (S := "str") (k1 := false) (k2 := false) (k3 := false) (k4 := true) (k5 := false) (k6 := false) (B.bn (x := "isinstance") rfl T.b_isinstance bt_isinstance) (B.bn (x := "str") rfl T.b_str bt_str) (dv_var v0.toNm rfl) hh2.1 (by decide +kernel) (by decide +kernel) (by decide +kernel) (by decide +kernel) (by decide +kernel) (by decide +kernel)) hh4) ?_)
  obtain ⟨s5, hh6, hF⟩ := bindP_out hF hne
  obtain ⟨hh7, hF⟩ := gd_out hF hne
  obtain ⟨words8, hh9, hF⟩ := letE_out hF
  refine ds_cons (ds1_set v1 (dv_isE (enc := dk_LS) (dv_split (dv_asS (dv_var v0.toNm rfl) hh6) dv_str (by decide) hh7) hh9) ?_)
  change DS _ _ _ [some (dD text1), some (.lst (words8.map D.str)), none, none, none, none] [] _
  refine ds_cons (ds1_set v2 dv_non ?_)
  change DS _ _ _ [some (dD text1), some (.lst (words8.map D.str)), some (.non), none, none, none] [] _
  obtain ⟨b12, hh13, hF⟩ := bindP_out hF hne
  obtain ⟨jk15, hjk15, hF⟩ := jpE_out hF
  refine ds_cons (ds1_ifJ (kf := jk15) (out := out) (fun (a : Unit) (z : (List Str) × (Option Int)) => [some (dD text1), some (.lst (z.1.map D.str)), some (dOpt D.int z.2), none, none, none]) (fun (a : Unit) (z : (List Str) × (Option Int)) => []) (DW.t (dw_andE hh13 (dt_gt (dv_lenM (g := D.str) (B.bn (x := "len") rfl T.b_len bt_len) (dv_var v1.toNm rfl) (.lst _)) dv_int) fun _ _ hF => (by obtain ⟨x10, hh11, hF⟩ := bindP_out hF (Ex.ok_ne _); cases hF; exact (dw_and1 (dt_eqs (dv_ixS (dv_var v1.toNm rfl) (.lst _) (DV.is (dv_neg dv_int) (show D.int _ = D.int (-2) from congrArg D.int (by decide))) (ixE_out hh11 D.str)) dv_str))))) (fun hh14 => ?_) (fun hh14 => ?_) ?_ then_fgt)
  ·
    replace hF := ite_t hF hh14
    obtain ⟨x16, hh17, hF⟩ := bindP_out hF hne
    rcases bindX_out hF hne with ⟨gone18, hh19, hF⟩ | ⟨n, fs, hh19, hF⟩
    rotate_left
    · exact ds_cons (ds1_setE v2 (x_read_number T (B.room.mono (by decide)) (B.gl (x := "read_number") rfl) (dv_ixS (dv_var v1.toNm rfl) (.lst _) (DV.is (dv_neg dv_int) (show D.int _ = D.int (-1) from congrArg D.int (by decide))) (ixE_out hh17 D.str)) hh19 fun cls hm => (kx_exc hF.symm hm)) (fun _ _ z => z.elim))
    refine ds_cons (ds1_set v2 (c_read_number T (B.room.mono (by decide)) (B.gl (x := "read_number") rfl) (dv_ixS (dv_var v1.toNm rfl) (.lst _) (DV.is (dv_neg dv_int) (show D.int _ = D.int (-1) from congrArg D.int (by decide))) (ixE_out hh17 D.str)) hh19) ?_)
    change DS _ _ _ [some (dD text1), some (.lst (words8.map D.str)), some (.int gone18), none, none, none] [] _
    obtain ⟨words20, hh21, hF⟩ := letE_out hF
    refine ds_cons (ds1_set v1 (dv_isE (enc := dk_LS) (dv_slM (g := D.str) (dv_var v1.toNm rfl) (.lst _) do_none (do_some (DV.is (dv_neg dv_int) (show D.int _ = D.int (-2) from congrArg D.int (by decide))))) hh21) ?_)
    change DS _ _ _ [some (dD text1), some (.lst (words20.map D.str)), some (.int gone18), none, none, none] [] _
    refine ds_nil ?_
    exact join_nx () (words20, (some gone18)) hF ⟨.inr rfl, .inr rfl, .inr rfl, .inl rfl, .inl rfl, .inl rfl, trivial⟩ rfl
  ·
    replace hF := ite_f hF hh14
    refine ds_nil ?_
    exact join_nx () (words8, none) hF ⟨.inr rfl, .inr rfl, .inr rfl, .inl rfl, .inl rfl, .inl rfl, trivial⟩ rfl
  ·
    rintro ⟨⟩ ⟨words22, gone23⟩ hF
    subst hjk15
    change DS _ _ _ [some (dD text1), some (.lst (words22.map D.str)), some (dOpt D.int gone23), none, none, none] [] _
    obtain ⟨hh26, hF⟩ := gd_out hF hne
    rcases bindX_out hF hne with ⟨ys27, hh28, hF⟩ | ⟨n, fs, hh28, hF⟩
    rotate_left
    · obtain ⟨i9, x9, q1, q2, q3⟩ := compX_exc hh28
      exact ds_cons (ds1_setLcX (own := [("word", 5)]) (f := fun (u24 : Str) => dk_T2II ((F_read_step u24).get)) B Fz (di_list (dv_var v1.toNm rfl)) (blkOk_by (by decide +kernel)) (sz_lt hh26) q1 (fun j9 u24 hj hx => ⟨_, _, fun _ h => h, fun _ _ _ _ _ _ _ _ B25 => ⟨(dg_name (B25.ns (i := 5) rfl rfl)), (by obtain ⟨v9, e9⟩ := q3 j9 u24 hj hx; exact DV.is (c_read_step T (B25.room.mono (by decide)) (B25.gl (x := "read_step") rfl) (dv_var (B25.nm (i := 5) rfl (vloc rfl)) rfl) e9) (by rw [e9]; rfl))⟩⟩) ⟨_, _, fun _ h => h, fun _ _ _ _ _ _ _ _ B25 => ⟨(dg_name (B25.ns (i := 5) rfl rfl)), xd_read_step T (B25.room.mono (by decide)) (B25.gl (x := "read_step") rfl) (dv_var (B25.nm (i := 5) rfl (vloc rfl)) rfl) q2⟩⟩ fun cls hm => (kx_exc hF.symm hm))
    replace hh28 := compX_ok hh28
    refine ds_cons (ds1_setLcE (own := [("word", 5)]) B v3 (di_list (dv_var v1.toNm rfl)) (blkOk_by (by decide +kernel)) (sz_lt hh26) (fun u24 hx => ⟨_, _, fun _ h => h, fun _ _ _ _ _ _ _ B25 => ⟨(dg_name (B25.ns (i := 5) rfl rfl)), lcb_E (enc := dk_T2II) ((compE_out hh28).2 u24 hx) (fun _ hF => (by cases hF; exact dts_nil)) fun _ hF => (c_read_step T (B25.room.mono (by decide)) (B25.gl (x := "read_step") rfl) (dv_var (B25.nm (i := 5) rfl (vloc rfl)) rfl) hF)⟩⟩) (outs_E dk_T2II (compE_out hh28).1) ?_)
    change DS _ _ _ [some (dD text1), some (.lst (words22.map D.str)), some (dOpt D.int gone23), some (.lst (ys27.map dk_T2II)), none, none] [] _
    have Br := B.room
    obtain ⟨jk29, hjk29, hF⟩ := jpE_out hF
    refine ds_cons (ds1_tryGX (ad := adE A) (kf := jk29) (out := out) (fun (a : Unit) (z : (List (Int × Int)) × (Option Int)) => [some (dD text1), some (.lst (words22.map D.str)), some (dOpt D.int gone23), some (.lst (ys27.map dk_T2II)), some ((dk_CRule A) z), none]) (fun (a : Unit) (z : (List (Int × Int)) × (Option Int)) => []) (fun (a : Unit) (z : (List (Int × Int)) × (Option Int)) => True) ([some (dD text1), some (.lst (words22.map D.str)), some (dOpt D.int gone23), some (.lst (ys27.map dk_T2II)), none, none]) B Fz (HdR.cons (B.gl (x := "NoRule") rfl) T.n_NoRule (.nil)) hF hne (xs1 T) (by rfl) ?hbo30 ?hho30 ?hko30)
    case hbo30 =>
      clear hF hne
      intro pn xe B Fz o30 hF hne
      have v0 : Ns _ 0 "text" := B.ns rfl rfl
      have v1 : Ns _ 1 "words" := B.ns rfl rfl
      have v2 : Ns _ 2 "gone" := B.ns rfl rfl
      have v3 : Ns _ 3 "steps" := B.ns rfl rfl
      have v4 : Ns _ 4 "rule" := B.ns rfl rfl
      rcases bindX_out hF hne with ⟨rule32, hh33, hF⟩ | ⟨n, fs, hh33, hF⟩
      rotate_left
      · exact ds_cons (ds1_setE v4 (kx_Rule_init_0 T (B.room.mono (by decide)) (B.gl (x := "Rule") rfl) (dv_var v3.toNm rfl) (dv_var v2.toNm rfl) hh33 fun cls hm => ⟨(kx_exc hF.symm hm), ⟨.inr rfl, .inr rfl, .inr rfl, .inr rfl, .inl rfl, .inl rfl, trivial⟩, rfl⟩) (fun _ _ z => z.elim))
      refine ds_cons (ds1_set v4 (k_Rule_init_0 T (B.room.mono (by decide)) (B.gl (x := "Rule") rfl) (dv_var v3.toNm rfl) (dv_var v2.toNm rfl) hh33) ?_)
      change DS _ _ _ [some (dD text1), some (.lst (words22.map D.str)), some (dOpt D.int gone23), some (.lst (ys27.map dk_T2II)), some ((dk_CRule A) rule32), none] [] _
      refine ds_nil ?_
      exact (joinO_nx (R := fun (a : Unit) (z : (List (Int × Int)) × (Option Int)) => [some (dD text1), some (.lst (words22.map D.str)), some (dOpt D.int gone23), some (.lst (ys27.map dk_T2II)), some ((dk_CRule A) z), none]) (Mf := fun (a : Unit) (z : (List (Int × Int)) × (Option Int)) => []) (J := fun (a : Unit) (z : (List (Int × Int)) × (Option Int)) => True) () rule32 hF trivial ⟨.inr rfl, .inr rfl, .inr rfl, .inr rfl, .inr rfl, .inl rfl, trivial⟩ rfl)
    case hho30 =>
      clear hF
      refine (.cons (xs0 T) (fun e34 hF a l B hot => ?_) (.nil))
      ·
        have v0 : Ns _ 0 "text" := B.ns rfl rfl
        have v1 : Ns _ 1 "words" := B.ns rfl rfl
        have v2 : Ns _ 2 "gone" := B.ns rfl rfl
        have v3 : Ns _ 3 "steps" := B.ns rfl rfl
        have v4 : Ns _ 4 "rule" := B.ns rfl rfl
        change DS _ _ _ [some (dD text1), some (.lst (words22.map D.str)), some (dOpt D.int gone23), some (.lst (ys27.map dk_T2II)), none, none] [] _
        exact ds_cons (rzk_NoText T hot (roomQ Br (by decide)) (B.gl (x := "NoText") rfl) dv_int fun cls hm => (kx_exc hF hm))
    case hko30 =>
      rintro ⟨⟩ rule38 _ hF
      subst hjk29
      change DS _ _ _ [some (dD text1), some (.lst (words22.map D.str)), some (dOpt D.int gone23), some (.lst (ys27.map dk_T2II)), some ((dk_CRule A) rule38), none] [] _
      refine ds_cons (ds1_retV (dv_var v4.toNm rfl) ?_)
      exact ret_mk (enc := (dk_CRule A)) (M := []) hF
theorem x_read_rule_2 {X : Cx} {kx : XD} {ρ : Ro} {M : Mem} {pos p : Pos} {e0 : Expr} {text1 : D} {n : Str} {fs : List (Str × D)} (T : Txt X.K X.mg A) (hr : Room 6 X.A) (hg : Gl X "read_rule") (h0 : DV X kx e0 ρ M (dD text1)) (hF : F_read_rule_2 text1 = .exc n fs) (hk : ∀ cls, X.mg n = some cls → kx cls fs ρ M) (he0 : starEach [e0] X.env = (false, eval e0 X.env) :: starEach [] X.env := by rfl) (hpl : (backTo pos (starEach [] X.env)).any (·.1) = false := by rfl) : DE X kx (.Call (.Name "read_rule" p) [e0] [] pos) ρ M fun _ _ => False :=
  de_exc (g_read_rule_2 T) hr hg (da_cons h0 da_nil he0) text1 rfl hF hk (by decide) he0 hpl
theorem c_read_rule_2 {X : Cx} {kx : XD} {ρ : Ro} {M : Mem} {pos p : Pos} {e0 : Expr} {text1 : D} {r : (List (Int × Int)) × (Option Int)} (T : Txt X.K X.mg A) (hr : Room 6 X.A) (hg : Gl X "read_rule") (h0 : DV X kx e0 ρ M (dD text1)) (hF : F_read_rule_2 text1 = .ok r) (he0 : starEach [e0] X.env = (false, eval e0 X.env) :: starEach [] X.env := by rfl) (hpl : (backTo pos (starEach [] X.env)).any (·.1) = false := by rfl) : DV X kx (.Call (.Name "read_rule" p) [e0] [] pos) ρ M ((dk_CRule A) r) :=
  dv_call (g_read_rule_2 T) hr hg (da_cons h0 da_nil he0) text1 rfl (fun h => Ex.ok_ne r (hF.symm.trans h)) (fun d ⟨r', a1, a2⟩ => by cases hF.symm.trans a1; exact a2) (fun cls fs ⟨n, a1, _⟩ => by cases hF.symm.trans a1) (by decide) he0 hpl
theorem sc_l_refused : FnScope ["_law_text_here", "_law_word", "e"] ["_law_text_here"] (defScope s_l_refused) := fscope (by decide +kernel)
theorem g_l_refused (T : Txt K mg A) : GF P w K mg base 7 "_law_refused" [] (spE K mg (fun q : D => [dD q]) (fun q => F_l_refused q) D.bl) := by
  refine T.f_l_refused.gf fun f fd F => fn_e F sc_l_refused (fun _ => rfl) fun X e1 e2 e3 e4 e5 B Fz text1 out hF hne => ?_
  subst e1 e2 e3 e4 e5
  have v0 : Ns X 0 "_law_text_here" := B.ns rfl rfl
  have v1 : Ns X 1 "_law_word" := B.ns rfl rfl
  have v2 : Ns X 2 "e" := B.ns rfl rfl
  replace hF : F_l_refused text1 = out := hF
  unfold F_l_refused at hF
  change DS _ _ _ [some (dD text1), none, none] [] _
  obtain ⟨word2, hh3, hF⟩ := letE_out hF
  refine ds_cons (ds1_set v1 (dv_isE (enc := D.str) dv_str hh3) ?_)
  change DS _ _ _ [some (dD text1), some (.str word2), none] [] _
  obtain ⟨jk4, hjk4, hF⟩ := jpE_out hF
  refine ds_cons (ds1_tryG (ad := adE A) (kf := jk4) (out := out) (fun (a : Unit) (z : Str) => [some (dD text1), some (.str z), none]) (fun (a : Unit) (z : Str) => []) ([some (dD text1), some (.str word2), none]) B Fz (HdD.cons (oi := some 2) (B.gl (x := "BookError") rfl) T.n_BookError ⟨rfl, rfl⟩ (.nil)) hF hne (xs8 T) (by rfl) ?hbo5 ?hho5 ?hko5 then_fgt)
  case hbo5 =>
    clear hF hne
    intro pn xe B Fz o5 hF hne
    have v0 : Ns _ 0 "_law_text_here" := B.ns rfl rfl
    have v1 : Ns _ 1 "_law_word" := B.ns rfl rfl
    have v2 : Ns _ 2 "e" := B.ns rfl rfl
    rcases bindX_out hF hne with ⟨r7, hh8, hF⟩ | ⟨n, fs, hh8, hF⟩
    rotate_left
    · exact ds_cons (ds1_void (x_read_rule_2 T (B.room.mono (by decide)) (B.gl (x := "read_rule") rfl) (dv_var v0.toNm rfl) hh8 fun cls hm => ⟨(kx_exc hF.symm hm), ⟨.inr rfl, .inr rfl, .inl rfl, trivial⟩, rfl⟩))
    refine ds_cons (ds1_exprV (c_read_rule_2 T (B.room.mono (by decide)) (B.gl (x := "read_rule") rfl) (dv_var v0.toNm rfl) hh8) ?_)
    refine ds_nil ?_
    exact (join_nx () word2 hF ⟨.inr rfl, .inr rfl, .inl rfl, trivial⟩ rfl)
  case hho5 =>
    clear hF
    refine (.cons (xs7 T) (fun e9 hF a10 c11 l B hh12 => ?_) (.nil))
    ·
      have v0 : Ns _ 0 "_law_text_here" := B.ns rfl rfl
      have v1 : Ns _ 1 "_law_word" := B.ns rfl rfl
      have v2 : Ns _ 2 "e" := B.ns rfl rfl
      change DS _ _ _ [some (dD text1), some (.str word2), some ((dExnH (some (a10, c11)) (adE A)) e9)] [] _
      obtain ⟨word13, hh14, hF⟩ := letE_out hF
      refine ds_cons (ds1_set v1 (dv_isE (enc := D.str) dv_str hh14) ?_)
      change DS _ _ _ [some (dD text1), some (.str word13), some ((dExnH (some (a10, c11)) (adE A)) e9)] [] _
      obtain ⟨hh15, hF⟩ := gd_out hF hne
      obtain ⟨b20, hh21, hF⟩ := bindP_out hF hne
      obtain ⟨jk23, hjk23, hF⟩ := jpE_out hF
      refine ds_cons (ds1_ifJ (kf := jk23) (out := out) (fun (a : Unit) (z : Str) => [some (dD text1), some (.str z), some ((dExnH (some (a10, c11)) (adE A)) e9)]) (fun (a : Unit) (z : Str) => []) (DW.t (dw_andE hh21 (dt_val (dv_isX1C (B.bn (x := "isinstance") rfl T.b_isinstance bt_isinstance) (xs3 T) (dv_exnH (dv_var v2.toNm rfl)) (dv_cls (B.gl (x := "NoText") rfl) T.n_NoText) hh15 (xs2 T))) fun _ _ hF => (by obtain ⟨hh16, hF⟩ := gd_out hF (Ex.ok_ne _); obtain ⟨b18, hh19, hF⟩ := bindP_out hF (Ex.ok_ne _); cases hF; exact (dw_andE hh19 (dt_not (dt_val (dv_isX1C (B.bn (x := "isinstance") rfl T.b_isinstance bt_isinstance) (xs3 T) (dv_exnH (dv_var v2.toNm rfl)) (dv_cls (B.gl (x := "NoRule") rfl) T.n_NoRule) hh16 (xs4 T)))) fun _ _ hF => (by obtain ⟨hh17, hF⟩ := gd_out hF (Ex.ok_ne _); cases hF; exact (dw_and1 (dt_not (dt_val (dv_isX1C (B.bn (x := "isinstance") rfl T.b_isinstance bt_isinstance) (xs3 T) (dv_exnH (dv_var v2.toNm rfl)) (dv_cls (B.gl (x := "NoNumber") rfl) T.n_NoNumber) hh17 (xs5 T)))))))))) (fun hh22 => ?_) (fun hh22 => ?_) ?_ then_fgt)
      ·
        replace hF := ite_t hF hh22
        obtain ⟨hh24, hF⟩ := gd_out hF hne
        obtain ⟨line25, hh26, hF⟩ := bindP_out hF hne
        obtain ⟨b30, hh31, hF⟩ := bindP_out hF hne
        obtain ⟨x32, hh33, hF⟩ := bindP_out hF hne
        refine ds_cons (ds1_set v1 (dv_ixS (show DV _ _ _ _ _ (.lst ([("none" : Str), ("other" : Str)].map D.str)) from dv_lst (da_cons dv_str (da_cons dv_str da_nil)) (szN 2 rfl)) (.lst _) (DV.is (dv_intB (B.bn (x := "int") rfl T.b_int bt_int) (dv_orE hh31 (dv_isi (T := "int") (k := false) (B.bn (x := "isinstance") rfl T.b_isinstance bt_isinstance) (B.bn (x := "bool") rfl T.b_bool bt_bool) (dv_xfI (xs6 T) hh24 (dv_exnH (dv_var v2.toNm rfl)) hh26) (by first | exact .non | exact .int _ | exact .bl _ | exact .str _ | exact .lst _ | exact .tup _ | exact .scr _) (by decide +kernel)) fun _ _ hF => (by obtain ⟨hh27, hF⟩ := gd_out hF (Ex.ok_ne _); obtain ⟨line28, hh29, hF⟩ := bindP_out hF (Ex.ok_ne _); cases hF; exact (dv_one (dv_nei (dv_xfI (xs6 T) hh27 (dv_exnH (dv_var v2.toNm rfl)) hh29) dv_int))))) (show D.int _ = D.int _ from rfl)) (ixE_out hh33 D.str)) ?_)
        change DS _ _ _ [some (dD text1), some (.str x32), some ((dExnH (some (a10, c11)) (adE A)) e9)] [] _
        refine ds_nil ?_
        exact join_nx () x32 hF ⟨.inr rfl, .inr rfl, .inr rfl, trivial⟩ rfl
      ·
        replace hF := ite_f hF hh22
        refine ds_nil ?_
        exact join_nx () word13 hF ⟨.inr rfl, .inr rfl, .inr rfl, trivial⟩ rfl
      ·
        rintro ⟨⟩ word34 hF
        subst hjk23
        change DS _ _ _ [some (dD text1), some (.str word34), some ((dExnH (some (a10, c11)) (adE A)) e9)] [] _
        refine ds_nil ?_
        exact goneS_nx (join_nx () word34 hF ⟨.inr rfl, .inr rfl, .inl rfl, trivial⟩ rfl)
  case hko5 =>
    rintro ⟨⟩ word35 hF
    subst hjk4
    change DS _ _ _ [some (dD text1), some (.str word35), none] [] _
    refine ds_cons (ds1_retV (dv_eqs (dv_var v1.toNm rfl) dv_str) ?_)
    exact ret_mk (enc := D.bl) (M := []) hF
theorem c_l_refused {X : Cx} {kx : XD} {ρ : Ro} {M : Mem} {pos p : Pos} {e0 : Expr} {text1 : D} {r : Bool} (T : Txt X.K X.mg A) (hr : Room 7 X.A) (hg : Gl X "_law_refused") (h0 : DV X kx e0 ρ M (dD text1)) (hF : F_l_refused text1 = .ok r) (he0 : starEach [e0] X.env = (false, eval e0 X.env) :: starEach [] X.env := by rfl) (hpl : (backTo pos (starEach [] X.env)).any (·.1) = false := by rfl) : DV X kx (.Call (.Name "_law_refused" p) [e0] [] pos) ρ M (.bl r) :=
  dv_call (g_l_refused T) hr hg (da_cons h0 da_nil he0) text1 rfl (fun h => Ex.ok_ne r (hF.symm.trans h)) (fun d ⟨r', a1, a2⟩ => by cases hF.symm.trans a1; exact a2) (fun cls fs ⟨n, a1, _⟩ => by cases hF.symm.trans a1) (by decide) he0 hpl
theorem sc_l_text_2 : FnScope ["_law_rows", "_law_end", "_law_words", "_law_age", "_law_width"] ["_law_rows", "_law_end"] (defScope s_l_text) := fscope (by decide +kernel)
theorem g_l_text_2 (T : Txt K mg A) : GF P w K mg base 1 "_law_text" [] (spE K mg (fun q : (List (Int × Int)) × Int => [.lst (q.1.map dk_T2II), .int q.2]) (fun q => F_l_text_2 q.1 q.2) D.str) := by
  refine T.f_l_text.gf fun f fd F => fn_e F sc_l_text_2 (fun _ => rfl) fun X e1 e2 e3 e4 e5 B Fz q out hF hne => ?_
  subst e1 e2 e3 e4 e5
  have v0 : Ns X 0 "_law_rows" := B.ns rfl rfl
  have v1 : Ns X 1 "_law_end" := B.ns rfl rfl
  have v2 : Ns X 2 "_law_words" := B.ns rfl rfl
  obtain ⟨rows1, end2⟩ := q
  replace hF : F_l_text_2 rows1 end2 = out := hF
  unfold F_l_text_2 at hF
  change DS _ _ _ [some (.lst (rows1.map dk_T2II)), some (.int end2), none, none, none] [] _
  obtain ⟨hh9, hF⟩ := gd_out hF hne
  obtain ⟨ys10, hh11, hF⟩ := bindP_out hF hne
  refine ds_cons (ds1_setLcE (own := [("_law_age", 3), ("_law_width", 4)]) B v2 (di_list (dv_var v0.toNm rfl)) (blkOk_by (by decide +kernel)) (sz_lt hh9) (fun u3 hx => ⟨_, _, fun _ h => h, fun _ _ _ _ _ _ _ B4 => ⟨(dg_tup B4.calm (dgs_cons (dg_name (B4.ns (i := 3) rfl rfl)) (dgs_cons (dg_name (B4.ns (i := 4) rfl rfl)) dgs_nil))), lcb_E (enc := D.str) ((compE_out hh11).2 u3 hx) (fun _ hF => (by cases hF; exact dts_nil)) fun _ hF => (by obtain ⟨hh5, hF⟩ := gd_out hF (Ex.ok_ne _); obtain ⟨hh6, hF⟩ := gd_out hF (Ex.ok_ne _); obtain ⟨hh7, hF⟩ := gd_out hF (Ex.ok_ne _); obtain ⟨hh8, hF⟩ := gd_out hF (Ex.ok_ne _); cases hF; exact (dv_addS (dv_addS (dv_strN B4.calm T.nodg (B4.bn (x := "str") rfl T.b_str bt_str) hh5 (dv_var (B4.nm (i := 3) rfl (vloc rfl)) rfl)) dv_str hh6) (dv_strN B4.calm T.nodg (B4.bn (x := "str") rfl T.b_str bt_str) hh7 (dv_var (B4.nm (i := 4) rfl (vloc rfl)) rfl)) hh8))⟩⟩) (outs_E D.str (compE_out hh11).1) ?_)
  change DS _ _ _ [some (.lst (rows1.map dk_T2II)), some (.int end2), some (.lst (ys10.map D.str)), none, none] [] _
  refine ds_cons (ds1_if (show DT _ _ _ _ _ true from dt_notN (x := .int end2) (dv_var v1.toNm rfl)) (fun hh12 => ?_) (fun hh12 => ?_))
  ·
    obtain ⟨hh13, hF⟩ := gd_out hF hne
    obtain ⟨hh14, hF⟩ := gd_out hF hne
    obtain ⟨words15, hh16, hF⟩ := letE_out hF
    refine ds_cons (ds1_set v2 (dv_isE (enc := dk_LS) (dv_catM (g := D.str) (dv_var v2.toNm rfl) (show DV _ _ _ _ _ (.lst ([("gone" : Str), Str.ofString (toString (end2 : Int))].map D.str)) from dv_lst (da_cons dv_str (da_cons (dv_strN B.calm T.nodg (B.bn (x := "str") rfl T.b_str bt_str) hh13 (dv_var v1.toNm rfl)) da_nil)) (szN 2 rfl)) (.lst _) (.lst _) (sz_le hh14)) hh16) ?_)
    change DS _ _ _ [some (.lst (rows1.map dk_T2II)), some (.int end2), some (.lst (words15.map D.str)), none, none] [] _
    refine ds_nil ?_
    obtain ⟨hh17, hF⟩ := gd_out hF hne
    refine ds_cons (ds1_retV (dv_join dv_str (dv_var v2.toNm rfl) (.lst _) hh17) ?_)
    exact ret_mk (enc := D.str) (M := []) hF
  · exact absurd hh12 (by decide)
theorem c_l_text_2 {X : Cx} {kx : XD} {ρ : Ro} {M : Mem} {pos p : Pos} {e0 e1 : Expr} {rows1 : List (Int × Int)} {end2 : Int} {r : Str} (T : Txt X.K X.mg A) (hr : Room 1 X.A) (hg : Gl X "_law_text") (h0 : DV X kx e0 ρ M (.lst (rows1.map dk_T2II))) (h1 : DV X kx e1 ρ M (.int end2)) (hF : F_l_text_2 rows1 end2 = .ok r) (he0 : starEach [e0, e1] X.env = (false, eval e0 X.env) :: starEach [e1] X.env := by rfl) (he1 : starEach [e1] X.env = (false, eval e1 X.env) :: starEach [] X.env := by rfl) (hpl : (backTo pos (starEach [e1] X.env)).any (·.1) = false := by rfl) : DV X kx (.Call (.Name "_law_text" p) [e0, e1] [] pos) ρ M (.str r) :=
  dv_call (g_l_text_2 T) hr hg (da_cons h0 (da_cons h1 da_nil he1) he0) (rows1, end2) rfl (fun h => Ex.ok_ne r (hF.symm.trans h)) (fun d ⟨r', a1, a2⟩ => by cases hF.symm.trans a1; exact a2) (fun cls fs ⟨n, a1, _⟩ => by cases hF.symm.trans a1) (by decide) he0 hpl
theorem sc_l_no_rule : FnScope ["_law_rows", "_law_end", "_law_cell", "_law_found", "_law_at", "_law_age", "_law_width"] ["_law_rows", "_law_end", "_law_cell"] (defScope s_l_no_rule) := fscope (by decide +kernel)
theorem g_l_no_rule (T : Txt K mg A) : GF P w K mg base 2 "_law_no_rule" [] (spE K mg (fun q : (List (Int × Int)) × (Option Int) × Int => [.lst (q.1.map dk_T2II), dOpt D.int q.2.1, .int q.2.2]) (fun q => F_l_no_rule q.1 q.2.1 q.2.2) D.str) := by
  refine T.f_l_no_rule.gf fun f fd F => fn_e F sc_l_no_rule (fun _ => rfl) fun X e1 e2 e3 e4 e5 B Fz q out hF hne => ?_
  subst e1 e2 e3 e4 e5
  have v0 : Ns X 0 "_law_rows" := B.ns rfl rfl
  have v1 : Ns X 1 "_law_end" := B.ns rfl rfl
  have v2 : Ns X 2 "_law_cell" := B.ns rfl rfl
  have v3 : Ns X 3 "_law_found" := B.ns rfl rfl
  have v4 : Ns X 4 "_law_at" := B.ns rfl rfl
  have v5 : Ns X 5 "_law_age" := B.ns rfl rfl
  have v6 : Ns X 6 "_law_width" := B.ns rfl rfl
  obtain ⟨rows1, end2, cell3⟩ := q
  replace hF : F_l_no_rule rows1 end2 cell3 = out := hF
  unfold F_l_no_rule at hF
  change DS _ _ _ [some (.lst (rows1.map dk_T2II)), some (dOpt D.int end2), some (.int cell3), none, none, none, none] [] _
  refine ds_cons (ds1_newE v3 (de_list (B.bn (x := "list") rfl T.b_list bt_list) (dv_var v0.toNm rfl) (.lst _) fun w hw => ⟨w, hw, rfl, rfl⟩) fun w4 n_w4 => ?_)
  change DS _ _ _ [some (.lst (rows1.map dk_T2II)), some (dOpt D.int end2), some (.int cell3), some (.adr w4), none, none, none] [(w4, Mu.lst (rows1.map dk_T2II))] _
  obtain ⟨hh5, hF⟩ := gd_out hF hne
  obtain ⟨at6, hh7, hF⟩ := letE_out hF
  refine ds_cons (ds1_set v4 (dv_isE (enc := D.int) (dv_mod (dv_fdiv (dv_var v2.toNm rfl) dv_int (div_c (by decide) (by decide))) (dv_lenM (g := dk_T2II) (B.bn (x := "len") rfl T.b_len bt_len) (dv_var v3.toNm rfl) (.adr (List.mem_of_getElem? (i := 0) (show _ = some (w4, Mu.lst (rows1.map dk_T2II)) from rfl)))) hh5) hh7) ?_)
  change DS _ _ _ [some (.lst (rows1.map dk_T2II)), some (dOpt D.int end2), some (.int cell3), some (.adr w4), some (.int at6), none, none] [(w4, Mu.lst (rows1.map dk_T2II))] _
  obtain ⟨x8, hh9, hF⟩ := bindP_out hF hne
  refine ds_cons (ds1_unp (show DV _ _ _ _ _ (.tup [.int x8.1, .int x8.2]) from (dv_ixS (dv_var v3.toNm rfl) (.adr (List.mem_of_getElem? (i := 0) (show _ = some (w4, Mu.lst (rows1.map dk_T2II)) from rfl))) (dv_var v4.toNm rfl) (ixE_out hh9 dk_T2II))) (dg_tup B.calm (dgs_cons (dg_name v5) (dgs_cons (dg_name v6) dgs_nil))) ?_)
  change DS _ _ _ [some (.lst (rows1.map dk_T2II)), some (dOpt D.int end2), some (.int cell3), some (.adr w4), some (.int at6), some (.int x8.1), some (.int x8.2)] [(w4, Mu.lst (rows1.map dk_T2II))] _
  refine ds_cons (ds1_if (dt_eqi (dv_mod (dv_var v2.toNm rfl) dv_int (by decide)) dv_int) (fun hh10 => ?_) (fun hh10 => ?_))
  ·
    replace hF := ite_t hF hh10
    refine ds_frz 0 3 rfl rfl ?_
    change DS _ _ _ [some (.lst (rows1.map dk_T2II)), some (dOpt D.int end2), some (.int cell3), some (.lst (rows1.map dk_T2II)), some (.int at6), some (.int x8.1), some (.int x8.2)] [] _
    obtain ⟨hh11, hF⟩ := gd_out hF hne
    obtain ⟨r12, hh13, hF⟩ := bindP_out hF hne
    refine ds_cons (ds1_retV (c_l_text T (B.room.mono (by decide)) (B.gl (x := "_law_text") rfl) (dv_catM (g := dk_T2II) (dv_slM (g := dk_T2II) (dv_var v3.toNm rfl) (.lst _) do_none (do_some (dv_var v4.toNm rfl))) (show DV _ _ _ _ _ (.lst ([(x8.1, x8.2), (x8.1 + 1, x8.2), (x8.1, x8.2)].map dk_T2II)) from dv_lst (da_cons (show DV _ _ _ _ _ (dk_T2II (x8.1, x8.2)) from dv_tup (da_cons (dv_var v5.toNm rfl) (da_cons (dv_var v6.toNm rfl) da_nil)) (szN 2 rfl)) (da_cons (show DV _ _ _ _ _ (dk_T2II (x8.1 + 1, x8.2)) from dv_tup (da_cons (dv_add (dv_var v5.toNm rfl) dv_int) (da_cons (dv_var v6.toNm rfl) da_nil)) (szN 2 rfl)) (da_cons (show DV _ _ _ _ _ (dk_T2II (x8.1, x8.2)) from dv_tup (da_cons (dv_var v5.toNm rfl) (da_cons (dv_var v6.toNm rfl) da_nil)) (szN 2 rfl)) da_nil))) (szN 3 rfl)) (.lst _) (.lst _) (sz_le hh11)) (DV.is dv_non (show _ = dOpt D.int none from rfl)) hh13) ?_)
    exact ret_mk (enc := D.str) (M := []) hF
  ·
    replace hF := ite_f hF hh10
    refine ds_nil ?_
    refine ds_cons (ds1_if (dt_eqi (dv_mod (dv_var v2.toNm rfl) dv_int (by decide)) dv_int) (fun hh14 => ?_) (fun hh14 => ?_))
    ·
      replace hF := ite_t hF hh14
      refine ds_frz 0 3 rfl rfl ?_
      change DS _ _ _ [some (.lst (rows1.map dk_T2II)), some (dOpt D.int end2), some (.int cell3), some (.lst (rows1.map dk_T2II)), some (.int at6), some (.int x8.1), some (.int x8.2)] [] _
      obtain ⟨hh15, hF⟩ := gd_out hF hne
      obtain ⟨r16, hh17, hF⟩ := bindP_out hF hne
      refine ds_cons (ds1_retV (c_l_text T (B.room.mono (by decide)) (B.gl (x := "_law_text") rfl) (dv_catM (g := dk_T2II) (dv_slM (g := dk_T2II) (dv_var v3.toNm rfl) (.lst _) do_none (do_some (dv_var v4.toNm rfl))) (show DV _ _ _ _ _ (.lst ([(x8.1, x8.2 * 2), (x8.1, x8.2 * 3)].map dk_T2II)) from dv_lst (da_cons (show DV _ _ _ _ _ (dk_T2II (x8.1, x8.2 * 2)) from dv_tup (da_cons (dv_var v5.toNm rfl) (da_cons (dv_mulX (dv_var v6.toNm rfl) dv_int (mok_c (.inr ⟨by decide, by decide⟩))) da_nil)) (szN 2 rfl)) (da_cons (show DV _ _ _ _ _ (dk_T2II (x8.1, x8.2 * 3)) from dv_tup (da_cons (dv_var v5.toNm rfl) (da_cons (dv_mulX (dv_var v6.toNm rfl) dv_int (mok_c (.inr ⟨by decide, by decide⟩))) da_nil)) (szN 2 rfl)) da_nil)) (szN 2 rfl)) (.lst _) (.lst _) (sz_le hh15)) (DV.is dv_non (show _ = dOpt D.int none from rfl)) hh17) ?_)
      exact ret_mk (enc := D.str) (M := []) hF
    ·
      replace hF := ite_f hF hh14
      refine ds_nil ?_
      refine ds_cons (ds1_if (dt_eqi (dv_mod (dv_var v2.toNm rfl) dv_int (by decide)) dv_int) (fun hh18 => ?_) (fun hh18 => ?_))
      ·
        replace hF := ite_t hF hh18
        obtain ⟨found19, hh20, hF⟩ := bindP_out hF hne
        refine ds_cons (ds1_seti (n := 0) (g := dk_T2II) hh20 (show DV _ _ _ _ _ (dk_T2II (x8.1, 0 - ((cell3 / 35) % 9))) from dv_tup (da_cons (dv_var v5.toNm rfl) (da_cons (dv_sub dv_int (dv_mod (dv_fdiv (dv_var v2.toNm rfl) dv_int (div_c (by decide) (by decide))) dv_int (by decide))) da_nil)) (szN 2 rfl)) (dv_var v3.toNm rfl) (dv_var v4.toNm rfl) rfl ?_)
        change DS _ _ _ [some (.lst (rows1.map dk_T2II)), some (dOpt D.int end2), some (.int cell3), some (.adr w4), some (.int at6), some (.int x8.1), some (.int x8.2)] [(w4, Mu.lst (found19.map dk_T2II))] _
        refine ds_frz 0 3 rfl rfl ?_
        change DS _ _ _ [some (.lst (rows1.map dk_T2II)), some (dOpt D.int end2), some (.int cell3), some (.lst (found19.map dk_T2II)), some (.int at6), some (.int x8.1), some (.int x8.2)] [] _
        obtain ⟨r21, hh22, hF⟩ := bindP_out hF hne
        refine ds_cons (ds1_retV (c_l_text T (B.room.mono (by decide)) (B.gl (x := "_law_text") rfl) (dv_var v3.toNm rfl) (dv_var v1.toNm rfl) hh22) ?_)
        exact ret_mk (enc := D.str) (M := []) hF
      ·
        replace hF := ite_f hF hh18
        refine ds_nil ?_
        refine ds_cons (ds1_if (dt_eqi (dv_mod (dv_var v2.toNm rfl) dv_int (by decide)) dv_int) (fun hh23 => ?_) (fun hh23 => ?_))
        ·
          replace hF := ite_t hF hh23
          refine ds_frz 0 3 rfl rfl ?_
          change DS _ _ _ [some (.lst (rows1.map dk_T2II)), some (dOpt D.int end2), some (.int cell3), some (.lst (rows1.map dk_T2II)), some (.int at6), some (.int x8.1), some (.int x8.2)] [] _
          obtain ⟨x24, hh25, hF⟩ := bindP_out hF hne
          obtain ⟨r26, hh27, hF⟩ := bindP_out hF hne
          refine ds_cons (ds1_retV (c_l_text_2 T (B.room.mono (by decide)) (B.gl (x := "_law_text") rfl) (dv_var v3.toNm rfl) (dv_sub (dv_sub (dv_ixT (show DV _ _ _ _ _ (.tup [.int x24.1, .int x24.2]) from (dv_ixS (dv_var v3.toNm rfl) (.lst _) (DV.is (dv_neg dv_int) (show D.int _ = D.int (-1) from congrArg D.int (by decide))) (ixE_out hh25 dk_T2II))) dv_int rfl) dv_int) (dv_mod (dv_fdiv (dv_var v2.toNm rfl) dv_int (div_c (by decide) (by decide))) (DV.is (dv_pow dv_int dv_int ⟨by decide, by decide, by decide⟩) (show D.int _ = D.int (1000000000000000000000000000000) from congrArg D.int (by decide +kernel))) (by decide))) hh27) ?_)
          exact ret_mk (enc := D.str) (M := []) hF
        ·
          replace hF := ite_f hF hh23
          refine ds_nil ?_
          refine ds_cons (ds1_if (dt_eqi (dv_mod (dv_var v2.toNm rfl) dv_int (by decide)) dv_int) (fun hh28 => ?_) (fun hh28 => ?_))
          ·
            replace hF := ite_t hF hh28
            refine ds_frz 0 3 rfl rfl ?_
            change DS _ _ _ [some (.lst (rows1.map dk_T2II)), some (dOpt D.int end2), some (.int cell3), some (.lst (rows1.map dk_T2II)), some (.int at6), some (.int x8.1), some (.int x8.2)] [] _
            obtain ⟨x29, hh30, hF⟩ := bindP_out hF hne
            obtain ⟨hh31, hF⟩ := gd_out hF hne
            obtain ⟨hh32, hF⟩ := gd_out hF hne
            obtain ⟨hh33, hF⟩ := gd_out hF hne
            obtain ⟨r34, hh35, hF⟩ := bindP_out hF hne
            refine ds_cons (ds1_retV (c_l_text T (B.room.mono (by decide)) (B.gl (x := "_law_text") rfl) (dv_catM (g := dk_T2II) (dv_var v3.toNm rfl) (dv_repM (g := dk_T2II) (show DV _ _ _ _ _ (.lst ([x29].map dk_T2II)) from dv_lst (da_cons (dv_ixS (dv_var v3.toNm rfl) (.lst _) (DV.is (dv_neg dv_int) (show D.int _ = D.int (-1) from congrArg D.int (by decide))) (ixE_out hh30 dk_T2II)) da_nil) (szN 1 rfl)) (dv_sub dv_int (dv_lenM (g := dk_T2II) (B.bn (x := "len") rfl T.b_len bt_len) (dv_var v3.toNm rfl) (.lst _))) (.lst _) hh31 (sz_le hh32)) (.lst _) (.lst _) (sz_le hh33)) (DV.is dv_non (show _ = dOpt D.int none from rfl)) hh35) ?_)
            exact ret_mk (enc := D.str) (M := []) hF
          ·
            replace hF := ite_f hF hh28
            refine ds_nil ?_
            refine ds_cons (ds1_if (dt_eqi (dv_mod (dv_var v2.toNm rfl) dv_int (by decide)) dv_int) (fun hh36 => ?_) (fun hh36 => ?_))
            ·
              replace hF := ite_t hF hh36
              obtain ⟨x37, hh38, hF⟩ := bindP_out hF hne
              obtain ⟨found39, hh40, hF⟩ := bindP_out hF hne
              refine ds_cons (ds1_seti (n := 0) (g := dk_T2II) hh40 (show DV _ _ _ _ _ (dk_T2II ((-1) - ((cell3 / 35) % 1000000000000000000000000000000), x37.2)) from dv_tup (da_cons (dv_sub (DV.is (dv_neg dv_int) (show D.int _ = D.int (-1) from congrArg D.int (by decide))) (dv_mod (dv_fdiv (dv_var v2.toNm rfl) dv_int (div_c (by decide) (by decide))) (DV.is (dv_pow dv_int dv_int ⟨by decide, by decide, by decide⟩) (show D.int _ = D.int (1000000000000000000000000000000) from congrArg D.int (by decide +kernel))) (by decide))) (da_cons (dv_ixT (show DV _ _ _ _ _ (.tup [.int x37.1, .int x37.2]) from (dv_ixS (dv_var v3.toNm rfl) (.adr (List.mem_of_getElem? (i := 0) (show _ = some (w4, Mu.lst (rows1.map dk_T2II)) from rfl))) dv_int (ixE_out hh38 dk_T2II))) dv_int rfl) da_nil)) (szN 2 rfl)) (dv_var v3.toNm rfl) dv_int rfl ?_)
              change DS _ _ _ [some (.lst (rows1.map dk_T2II)), some (dOpt D.int end2), some (.int cell3), some (.adr w4), some (.int at6), some (.int x8.1), some (.int x8.2)] [(w4, Mu.lst (found39.map dk_T2II))] _
              refine ds_frz 0 3 rfl rfl ?_
              change DS _ _ _ [some (.lst (rows1.map dk_T2II)), some (dOpt D.int end2), some (.int cell3), some (.lst (found39.map dk_T2II)), some (.int at6), some (.int x8.1), some (.int x8.2)] [] _
              obtain ⟨r41, hh42, hF⟩ := bindP_out hF hne
              refine ds_cons (ds1_retV (c_l_text T (B.room.mono (by decide)) (B.gl (x := "_law_text") rfl) (dv_var v3.toNm rfl) (dv_var v1.toNm rfl) hh42) ?_)
              exact ret_mk (enc := D.str) (M := []) hF
            ·
              replace hF := ite_f hF hh36
              refine ds_frz 0 3 rfl rfl ?_
              change DS _ _ _ [some (.lst (rows1.map dk_T2II)), some (dOpt D.int end2), some (.int cell3), some (.lst (rows1.map dk_T2II)), some (.int at6), some (.int x8.1), some (.int x8.2)] [] _
              refine ds_nil ?_
              obtain ⟨hh43, hF⟩ := gd_out hF hne
              obtain ⟨r44, hh45, hF⟩ := bindP_out hF hne
              refine ds_cons (ds1_retV (c_l_text T (B.room.mono (by decide)) (B.gl (x := "_law_text") rfl) (dv_catM (g := dk_T2II) (show DV _ _ _ _ _ (.lst ([(x8.1 + 1, x8.2)].map dk_T2II)) from dv_lst (da_cons (show DV _ _ _ _ _ (dk_T2II (x8.1 + 1, x8.2)) from dv_tup (da_cons (dv_add (dv_var v5.toNm rfl) dv_int) (da_cons (dv_var v6.toNm rfl) da_nil)) (szN 2 rfl)) da_nil) (szN 1 rfl)) (dv_slM (g := dk_T2II) (dv_var v3.toNm rfl) (.lst _) do_none (do_some (dv_add (dv_var v4.toNm rfl) dv_int))) (.lst _) (.lst _) (sz_le hh43)) (dv_var v1.toNm rfl) hh45) ?_)
              exact ret_mk (enc := D.str) (M := []) hF
theorem c_l_no_rule {X : Cx} {kx : XD} {ρ : Ro} {M : Mem} {pos p : Pos} {e0 e1 e2 : Expr} {rows1 : List (Int × Int)} {end2 : Option Int} {cell3 : Int} {r : Str} (T : Txt X.K X.mg A) (hr : Room 2 X.A) (hg : Gl X "_law_no_rule") (h0 : DV X kx e0 ρ M (.lst (rows1.map dk_T2II))) (h1 : DV X kx e1 ρ M (dOpt D.int end2)) (h2 : DV X kx e2 ρ M (.int cell3)) (hF : F_l_no_rule rows1 end2 cell3 = .ok r) (he0 : starEach [e0, e1, e2] X.env = (false, eval e0 X.env) :: starEach [e1, e2] X.env := by rfl) (he1 : starEach [e1, e2] X.env = (false, eval e1 X.env) :: starEach [e2] X.env := by rfl) (he2 : starEach [e2] X.env = (false, eval e2 X.env) :: starEach [] X.env := by rfl) (hpl : (backTo pos (starEach [e1, e2] X.env)).any (·.1) = false := by rfl) : DV X kx (.Call (.Name "_law_no_rule" p) [e0, e1, e2] [] pos) ρ M (.str r) :=
  dv_call (g_l_no_rule T) hr hg (da_cons h0 (da_cons h1 (da_cons h2 da_nil he2) he1) he0) (rows1, end2, cell3) rfl (fun h => Ex.ok_ne r (hF.symm.trans h)) (fun d ⟨r', a1, a2⟩ => by cases hF.symm.trans a1; exact a2) (fun cls fs ⟨n, a1, _⟩ => by cases hF.symm.trans a1) (by decide) he0 hpl
theorem sc_l_refused_2 : FnScope ["_law_text_here", "_law_word", "e"] ["_law_text_here"] (defScope s_l_refused) := fscope (by decide +kernel)
theorem g_l_refused_2 (T : Txt K mg A) : GF P w K mg base 7 "_law_refused" [] (spE K mg (fun q : Str => [.str q]) (fun q => F_l_refused_2 q) D.bl) := by
  refine T.f_l_refused.gf fun f fd F => fn_e F sc_l_refused_2 (fun _ => rfl) fun X e1 e2 e3 e4 e5 B Fz text1 out hF hne => ?_
  subst e1 e2 e3 e4 e5
  have v0 : Ns X 0 "_law_text_here" := B.ns rfl rfl
  have v1 : Ns X 1 "_law_word" := B.ns rfl rfl
  have v2 : Ns X 2 "e" := B.ns rfl rfl
  replace hF : F_l_refused_2 text1 = out := hF
  unfold F_l_refused_2 at hF
  change DS _ _ _ [some (.str text1), none, none] [] _
  obtain ⟨word2, hh3, hF⟩ := letE_out hF
  refine ds_cons (ds1_set v1 (dv_isE (enc := D.str) dv_str hh3) ?_)
  change DS _ _ _ [some (.str text1), some (.str word2), none] [] _
  obtain ⟨jk4, hjk4, hF⟩ := jpE_out hF
  refine ds_cons (ds1_tryG (ad := adE A) (kf := jk4) (out := out) (fun (a : Unit) (z : Str) => [some (.str text1), some (.str z), none]) (fun (a : Unit) (z : Str) => []) ([some (.str text1), some (.str word2), none]) B Fz (HdD.cons (oi := some 2) (B.gl (x := "BookError") rfl) T.n_BookError ⟨rfl, rfl⟩ (.nil)) hF hne (xs8 T) (by rfl) ?hbo5 ?hho5 ?hko5 then_fgt)
  case hbo5 =>
    clear hF hne
    intro pn xe B Fz o5 hF hne
    have v0 : Ns _ 0 "_law_text_here" := B.ns rfl rfl
    have v1 : Ns _ 1 "_law_word" := B.ns rfl rfl
    have v2 : Ns _ 2 "e" := B.ns rfl rfl
    rcases bindX_out hF hne with ⟨r7, hh8, hF⟩ | ⟨n, fs, hh8, hF⟩
    rotate_left
    · exact ds_cons (ds1_void (x_read_rule T (B.room.mono (by decide)) (B.gl (x := "read_rule") rfl) (dv_var v0.toNm rfl) hh8 fun cls hm => ⟨(kx_exc hF.symm hm), ⟨.inr rfl, .inr rfl, .inl rfl, trivial⟩, rfl⟩))
    refine ds_cons (ds1_exprV (c_read_rule T (B.room.mono (by decide)) (B.gl (x := "read_rule") rfl) (dv_var v0.toNm rfl) hh8) ?_)
    refine ds_nil ?_
    exact (join_nx () word2 hF ⟨.inr rfl, .inr rfl, .inl rfl, trivial⟩ rfl)
  case hho5 =>
    clear hF
    refine (.cons (xs7 T) (fun e9 hF a10 c11 l B hh12 => ?_) (.nil))
    ·
      have v0 : Ns _ 0 "_law_text_here" := B.ns rfl rfl
      have v1 : Ns _ 1 "_law_word" := B.ns rfl rfl
      have v2 : Ns _ 2 "e" := B.ns rfl rfl
      change DS _ _ _ [some (.str text1), some (.str word2), some ((dExnH (some (a10, c11)) (adE A)) e9)] [] _
      obtain ⟨word13, hh14, hF⟩ := letE_out hF
      refine ds_cons (ds1_set v1 (dv_isE (enc := D.str) dv_str hh14) ?_)
      change DS _ _ _ [some (.str text1), some (.str word13), some ((dExnH (some (a10, c11)) (adE A)) e9)] [] _
      obtain ⟨hh15, hF⟩ := gd_out hF hne
      obtain ⟨b20, hh21, hF⟩ := bindP_out hF hne
      obtain ⟨jk23, hjk23, hF⟩ := jpE_out hF
      refine ds_cons (ds1_ifJ (kf := jk23) (out := out) (fun (a : Unit) (z : Str) => [some (.str text1), some (.str z), some ((dExnH (some (a10, c11)) (adE A)) e9)]) (fun (a : Unit) (z : Str) => []) (DW.t (dw_andE hh21 (dt_val (dv_isX1C (B.bn (x := "isinstance") rfl T.b_isinstance bt_isinstance) (xs3 T) (dv_exnH (dv_var v2.toNm rfl)) (dv_cls (B.gl (x := "NoText") rfl) T.n_NoText) hh15 (xs2 T))) fun _ _ hF => (by obtain ⟨hh16, hF⟩ := gd_out hF (Ex.ok_ne _); obtain ⟨b18, hh19, hF⟩ := bindP_out hF (Ex.ok_ne _); cases hF; exact (dw_andE hh19 (dt_not (dt_val (dv_isX1C (B.bn (x := "isinstance") rfl T.b_isinstance bt_isinstance) (xs3 T) (dv_exnH (dv_var v2.toNm rfl)) (dv_cls (B.gl (x := "NoRule") rfl) T.n_NoRule) hh16 (xs4 T)))) fun _ _ hF => (by obtain ⟨hh17, hF⟩ := gd_out hF (Ex.ok_ne _); cases hF; exact (dw_and1 (dt_not (dt_val (dv_isX1C (B.bn (x := "isinstance") rfl T.b_isinstance bt_isinstance) (xs3 T) (dv_exnH (dv_var v2.toNm rfl)) (dv_cls (B.gl (x := "NoNumber") rfl) T.n_NoNumber) hh17 (xs5 T)))))))))) (fun hh22 => ?_) (fun hh22 => ?_) ?_ then_fgt)
      ·
        replace hF := ite_t hF hh22
        obtain ⟨hh24, hF⟩ := gd_out hF hne
        obtain ⟨line25, hh26, hF⟩ := bindP_out hF hne
        obtain ⟨b30, hh31, hF⟩ := bindP_out hF hne
        obtain ⟨x32, hh33, hF⟩ := bindP_out hF hne
        refine ds_cons (ds1_set v1 (dv_ixS (show DV _ _ _ _ _ (.lst ([("none" : Str), ("other" : Str)].map D.str)) from dv_lst (da_cons dv_str (da_cons dv_str da_nil)) (szN 2 rfl)) (.lst _) (DV.is (dv_intB (B.bn (x := "int") rfl T.b_int bt_int) (dv_orE hh31 (dv_isi (T := "int") (k := false) (B.bn (x := "isinstance") rfl T.b_isinstance bt_isinstance) (B.bn (x := "bool") rfl T.b_bool bt_bool) (dv_xfI (xs6 T) hh24 (dv_exnH (dv_var v2.toNm rfl)) hh26) (by first | exact .non | exact .int _ | exact .bl _ | exact .str _ | exact .lst _ | exact .tup _ | exact .scr _) (by decide +kernel)) fun _ _ hF => (by obtain ⟨hh27, hF⟩ := gd_out hF (Ex.ok_ne _); obtain ⟨line28, hh29, hF⟩ := bindP_out hF (Ex.ok_ne _); cases hF; exact (dv_one (dv_nei (dv_xfI (xs6 T) hh27 (dv_exnH (dv_var v2.toNm rfl)) hh29) dv_int))))) (show D.int _ = D.int _ from rfl)) (ixE_out hh33 D.str)) ?_)
        change DS _ _ _ [some (.str text1), some (.str x32), some ((dExnH (some (a10, c11)) (adE A)) e9)] [] _
        refine ds_nil ?_
        exact join_nx () x32 hF ⟨.inr rfl, .inr rfl, .inr rfl, trivial⟩ rfl
      ·
        replace hF := ite_f hF hh22
        refine ds_nil ?_
        exact join_nx () word13 hF ⟨.inr rfl, .inr rfl, .inr rfl, trivial⟩ rfl
      ·
        rintro ⟨⟩ word34 hF
        subst hjk23
        change DS _ _ _ [some (.str text1), some (.str word34), some ((dExnH (some (a10, c11)) (adE A)) e9)] [] _
        refine ds_nil ?_
        exact goneS_nx (join_nx () word34 hF ⟨.inr rfl, .inr rfl, .inl rfl, trivial⟩ rfl)
  case hko5 =>
    rintro ⟨⟩ word35 hF
    subst hjk4
    change DS _ _ _ [some (.str text1), some (.str word35), none] [] _
    refine ds_cons (ds1_retV (dv_eqs (dv_var v1.toNm rfl) dv_str) ?_)
    exact ret_mk (enc := D.bl) (M := []) hF
theorem c_l_refused_2 {X : Cx} {kx : XD} {ρ : Ro} {M : Mem} {pos p : Pos} {e0 : Expr} {text1 : Str} {r : Bool} (T : Txt X.K X.mg A) (hr : Room 7 X.A) (hg : Gl X "_law_refused") (h0 : DV X kx e0 ρ M (.str text1)) (hF : F_l_refused_2 text1 = .ok r) (he0 : starEach [e0] X.env = (false, eval e0 X.env) :: starEach [] X.env := by rfl) (hpl : (backTo pos (starEach [] X.env)).any (·.1) = false := by rfl) : DV X kx (.Call (.Name "_law_refused" p) [e0] [] pos) ρ M (.bl r) :=
  dv_call (g_l_refused_2 T) hr hg (da_cons h0 da_nil he0) text1 rfl (fun h => Ex.ok_ne r (hF.symm.trans h)) (fun d ⟨r', a1, a2⟩ => by cases hF.symm.trans a1; exact a2) (fun cls fs ⟨n, a1, _⟩ => by cases hF.symm.trans a1) (by decide) he0 hpl
theorem sc_law : FnScope ["_law_script", "_law_cells", "_law_k", "_law_rows", "_law_end", "_law_text_here", "_law_made", "_law_found"] ["_law_script"] (defScope s_law) := fscope (by decide +kernel)
theorem g_law (T : Txt K mg A) {f : Addr} {fd : FuncData} (F : Fun K "law" "law" s_law f fd) : FnOk P w K mg base (Dl.CX P w) 8 f fd ["_law_script"] (spE K mg (fun q : List Int => [.scr (q.map D.int)]) (fun q => F_law q) D.bl) := by
  refine fn_e F sc_law (fun _ => rfl) fun X e1 e2 e3 e4 e5 B Fz script1 out hF hne => ?_
  subst e1 e2 e3 e4 e5
  have v0 : Ns X 0 "_law_script" := B.ns rfl rfl
  have v1 : Ns X 1 "_law_cells" := B.ns rfl rfl
  have v2 : Ns X 2 "_law_k" := B.ns rfl rfl
  have v3 : Ns X 3 "_law_rows" := B.ns rfl rfl
  have v4 : Ns X 4 "_law_end" := B.ns rfl rfl
  have v5 : Ns X 5 "_law_text_here" := B.ns rfl rfl
  have v6 : Ns X 6 "_law_made" := B.ns rfl rfl
  have v7 : Ns X 7 "_law_found" := B.ns rfl rfl
  replace hF : F_law script1 = out := hF
  unfold F_law at hF
  change DS _ _ _ [some (.scr (script1.map D.int)), none, none, none, none, none, none, none] [] _
  obtain ⟨cells2, hh3, hF⟩ := letE_out hF
  refine ds_cons (ds1_set v1 (dv_isE (enc := dk_LI) (dv_slM (g := D.int) (dv_var v0.toNm rfl) (.scr _) do_none (do_some dv_int)) hh3) ?_)
  change DS _ _ _ [some (.scr (script1.map D.int)), some (.lst (cells2.map D.int)), none, none, none, none, none, none] [] _
  obtain ⟨hh4, hF⟩ := gd_out hF hne
  obtain ⟨o47, hh48, hh49, hF⟩ := bindX_cut hF hne
  refine ds_cons (ds1_loopE (enc := D.int) (enr := D.bl) B (fun (z : Unit) => [some (.scr (script1.map D.int)), some (.lst (cells2.map D.int)), none, none, none, none, none, none]) (fun (z : Unit) => []) hh48 hh49 (di_range1 (B.bn (x := "range") rfl T.b_range bt_range) (dv_lenM (g := D.int) (B.bn (x := "len") rfl T.b_len bt_len) (dv_var v1.toNm rfl) (.lst _)) hh4.1 hh4.2) ⟨.inr rfl, .inr rfl, .inl rfl, .inl rfl, .inl rfl, .inl rfl, .inl rfl, .inl rfl, trivial⟩ rfl ?hso47 ?hdo47 ?hro47 ?hxo47 then_fgt)
  case hso47 =>
    clear hF
    rintro ⟨⟩ x5 o6 _ hF hne
    refine ⟨_, _, (dg_name v2), ?_⟩
    change DS _ _ _ [some (.scr (script1.map D.int)), some (.lst (cells2.map D.int)), some (.int x5), none, none, none, none, none] [] _
    obtain ⟨x7, hh8, hF⟩ := bindP_out hF hne
    obtain ⟨r9, hh10, hF⟩ := bindP_out hF hne
    refine ds_cons (ds1_unp (show DV _ _ _ _ _ (.tup [.lst (r9.1.map dk_T2II), dOpt D.int r9.2]) from (c_l_rule T (B.room.mono (by decide)) (B.gl (x := "_law_rule") rfl) (dv_ixS (dv_var v1.toNm rfl) (.lst _) (dv_var v2.toNm rfl) (ixE_out hh8 D.int)) hh10)) (dg_tup B.calm (dgs_cons (dg_name v3) (dgs_cons (dg_name v4) dgs_nil))) ?_)
    change DS _ _ _ [some (.scr (script1.map D.int)), some (.lst (cells2.map D.int)), some (.int x5), some (.lst (r9.1.map dk_T2II)), some (dOpt D.int r9.2), none, none, none] [] _
    obtain ⟨r11, hh12, hF⟩ := bindP_out hF hne
    refine ds_cons (ds1_set v5 (c_l_text T (B.room.mono (by decide)) (B.gl (x := "_law_text") rfl) (dv_var v3.toNm rfl) (dv_var v4.toNm rfl) hh12) ?_)
    change DS _ _ _ [some (.scr (script1.map D.int)), some (.lst (cells2.map D.int)), some (.int x5), some (.lst (r9.1.map dk_T2II)), some (dOpt D.int r9.2), some (.str r11), none, none] [] _
    obtain ⟨r13, hh14, hF⟩ := bindP_out hF hne
    obtain ⟨r15, hh16, hF⟩ := bindP_out hF hne
    refine ds_cons (ds1_set v6 (c_show_rule T (B.room.mono (by decide)) (B.gl (x := "show_rule") rfl) (k_Rule_init_0 T (B.room.mono (by decide)) (B.gl (x := "Rule") rfl) (dv_list (B.bn (x := "list") rfl T.b_list bt_list) (dv_var v3.toNm rfl) (.lst _)) (dv_var v4.toNm rfl) hh14) hh16) ?_)
    change DS _ _ _ [some (.scr (script1.map D.int)), some (.lst (cells2.map D.int)), some (.int x5), some (.lst (r9.1.map dk_T2II)), some (dOpt D.int r9.2), some (.str r11), some (.str r15), none] [] _
    refine ds_cons (ds1_if (DW.t (dw_or (dt_not (dt_val (dv_isi (T := "str") (k := true) (B.bn (x := "isinstance") rfl T.b_isinstance bt_isinstance) (B.bn (x := "str") rfl T.b_str bt_str) (dv_var v6.toNm rfl) (by first | exact .non | exact .int _ | exact .bl _ | exact .str _ | exact .lst _ | exact .tup _ | exact .scr _) (by decide +kernel)))) fun _ => (dw_or1 (dt_nes (dv_var v6.toNm rfl) (dv_var v5.toNm rfl))))) (fun hh17 => ?_) (fun hh17 => ?_))
    ·
      replace hF := ite_t hF hh17
      refine ds_cons (ds1_retV dv_bl ?_)
      exact loop_rt (R := fun _ => []) (Mf := fun _ => []) (enr := D.bl) (M := []) hF
    ·
      replace hF := ite_f hF hh17
      refine ds_nil ?_
      rcases bindX_out hF hne with ⟨found18, hh19, hF⟩ | ⟨n, fs, hh19, hF⟩
      rotate_left
      · exact ds_cons (ds1_setE v7 (x_read_rule T (B.room.mono (by decide)) (B.gl (x := "read_rule") rfl) (dv_var v5.toNm rfl) hh19 fun cls hm => (kx_exc hF.symm hm)) (fun _ _ z => z.elim))
      refine ds_cons (ds1_set v7 (c_read_rule T (B.room.mono (by decide)) (B.gl (x := "read_rule") rfl) (dv_var v5.toNm rfl) hh19) ?_)
      change DS _ _ _ [some (.scr (script1.map D.int)), some (.lst (cells2.map D.int)), some (.int x5), some (.lst (r9.1.map dk_T2II)), some (dOpt D.int r9.2), some (.str r11), some (.str r15), some ((dk_CRule A) found18)] [] _
      obtain ⟨b26, hh27, hF⟩ := bindP_out hF hne
      refine ds_cons (ds1_if (DW.t (dw_orE hh27 (dt_not (dt_val (dv_isiI (C := A.c_Rule) T.in_Rule (B.bn (x := "isinstance") rfl T.b_isinstance bt_isinstance) (dv_var v7.toNm rfl) (dv_cls (B.gl (x := "Rule") rfl) T.cl_Rule.gC) T.kk_Rule_Rule))) fun _ _ hF => (by obtain ⟨r20, hh21, hF⟩ := bindP_out hF (Ex.ok_ne _); obtain ⟨b24, hh25, hF⟩ := bindP_out hF (Ex.ok_ne _); cases hF; exact (dw_orE hh25 (dt_neD B.hu (c_Rule_steps T (B.room.mono (by decide)) (dv_var v7.toNm rfl) hh21) (dv_var v3.toNm rfl) (en_LT2II.eqs r20 r9.1)) fun _ _ hF => (by obtain ⟨r22, hh23, hF⟩ := bindP_out hF (Ex.ok_ne _); cases hF; exact (dw_or1 (dt_neD B.hu (c_Rule_gone T (B.room.mono (by decide)) (dv_var v7.toNm rfl) hh23) (dv_var v4.toNm rfl) (en_OI.eqs r22 r9.2)))))))) (fun hh28 => ?_) (fun hh28 => ?_))
      ·
        replace hF := ite_t hF hh28
        refine ds_cons (ds1_retV dv_bl ?_)
        exact loop_rt (R := fun _ => []) (Mf := fun _ => []) (enr := D.bl) (M := []) hF
      ·
        replace hF := ite_f hF hh28
        refine ds_nil ?_
        obtain ⟨x29, hh30, hF⟩ := bindP_out hF hne
        obtain ⟨r31, hh32, hF⟩ := bindP_out hF hne
        obtain ⟨r33, hh34, hF⟩ := bindP_out hF hne
        refine ds_cons (ds1_if (dt_not (dt_val (c_l_refused T (B.room.mono (by decide)) (B.gl (x := "_law_refused") rfl) (c_l_spoilt T (B.room.mono (by decide)) (B.gl (x := "_law_spoilt") rfl) (dv_var v5.toNm rfl) (dv_var v3.toNm rfl) (dv_fdiv (dv_ixS (dv_var v1.toNm rfl) (.lst _) (dv_sub (dv_var v2.toNm rfl) dv_int) (ixE_out hh30 D.int)) dv_int (div_c (by decide) (by decide))) hh32) hh34))) (fun hh35 => ?_) (fun hh35 => ?_))
        ·
          replace hF := ite_t hF hh35
          refine ds_cons (ds1_retV dv_bl ?_)
          exact loop_rt (R := fun _ => []) (Mf := fun _ => []) (enr := D.bl) (M := []) hF
        ·
          replace hF := ite_f hF hh35
          refine ds_nil ?_
          obtain ⟨x36, hh37, hF⟩ := bindP_out hF hne
          obtain ⟨r38, hh39, hF⟩ := bindP_out hF hne
          obtain ⟨r40, hh41, hF⟩ := bindP_out hF hne
          refine ds_cons (ds1_if (dt_not (dt_val (c_l_refused_2 T (B.room.mono (by decide)) (B.gl (x := "_law_refused") rfl) (c_l_no_rule T (B.room.mono (by decide)) (B.gl (x := "_law_no_rule") rfl) (dv_var v3.toNm rfl) (dv_var v4.toNm rfl) (dv_fdiv (dv_ixS (dv_var v1.toNm rfl) (.lst _) (dv_sub (dv_var v2.toNm rfl) dv_int) (ixE_out hh37 D.int)) dv_int (div_c (by decide) (by decide))) hh39) hh41))) (fun hh42 => ?_) (fun hh42 => ?_))
          ·
            replace hF := ite_t hF hh42
            refine ds_cons (ds1_retV dv_bl ?_)
            exact loop_rt (R := fun _ => []) (Mf := fun _ => []) (enr := D.bl) (M := []) hF
          ·
            replace hF := ite_f hF hh42
            refine ds_nil ?_
            refine ds_nil ?_
            exact loop_nx (enr := D.bl) hF ⟨.inr rfl, .inr rfl, .inl rfl, .inl rfl, .inl rfl, .inl rfl, .inl rfl, .inl rfl, trivial⟩ rfl
  case hdo47 =>
    rintro ⟨⟩ rfl
    replace hF := okE hF
    replace hF := nxE hF
    change DS _ _ _ [some (.scr (script1.map D.int)), some (.lst (cells2.map D.int)), none, none, none, none, none, none] [] _
    obtain ⟨r43, hh44, hF⟩ := bindP_out hF hne
    obtain ⟨r45, hh46, hF⟩ := bindP_out hF hne
    refine ds_cons (ds1_retV (dv_isNO (fun _ => rfl) (c_Rule_gone T (B.room.mono (by decide)) (c_read_rule T (B.room.mono (by decide)) (B.gl (x := "read_rule") rfl) dv_str hh44) hh46)) ?_)
    exact ret_mk (enc := D.bl) (M := []) hF
  case hro47 =>
    rintro r50 _ rfl
    exact ret_mk (enc := D.bl) (M := []) hF
  case hxo47 =>
    rintro cls fs _ _ ⟨n, rfl, e2⟩
    exact kx_exc hF e2
end
end Lw
namespace Lw
open PySem PySem.Spec PyProof.Rows L2 Dl
/-! ### the head: one run of the top -/
def hd_xi_NoText : He.DefD := ⟨("NoText", some "__init__"), "__init__", "NoText.__init__", defArgs s_xi_NoText, defBody s_xi_NoText, defScope s_xi_NoText, [], []⟩
def hd_l_mixed : He.DefD := ⟨("_law_mixed", none), "_law_mixed", "_law_mixed", defArgs s_l_mixed, defBody s_l_mixed, defScope s_l_mixed, [], []⟩
def hd_l_amount : He.DefD := ⟨("_law_amount", none), "_law_amount", "_law_amount", defArgs s_l_amount, defBody s_l_amount, defScope s_l_amount, [], []⟩
def hd_l_rule : He.DefD := ⟨("_law_rule", none), "_law_rule", "_law_rule", defArgs s_l_rule, defBody s_l_rule, defScope s_l_rule, [], []⟩
def hd_l_text : He.DefD := ⟨("_law_text", none), "_law_text", "_law_text", defArgs s_l_text, defBody s_l_text, defScope s_l_text, [], []⟩
def hd_Rule_init : He.DefD := ⟨("Rule", some "__init__"), "__init__", "Rule.__init__", defArgs s_Rule_init, defBody s_Rule_init, defScope s_Rule_init, [.non], []⟩
def hd_Rule_steps : He.DefD := ⟨("Rule", some "steps"), "steps", "Rule.steps", defArgs s_Rule_steps, defBody s_Rule_steps, defScope s_Rule_steps, [], []⟩
def hd_show_number : He.DefD := ⟨("show_number", none), "show_number", "show_number", defArgs s_show_number, defBody s_show_number, defScope s_show_number, [], []⟩
def hd_Rule_gone : He.DefD := ⟨("Rule", some "gone"), "gone", "Rule.gone", defArgs s_Rule_gone, defBody s_Rule_gone, defScope s_Rule_gone, [], []⟩
def hd_show_rule : He.DefD := ⟨("show_rule", none), "show_rule", "show_rule", defArgs s_show_rule, defBody s_show_rule, defScope s_show_rule, [], []⟩
def hd_needed : He.DefD := ⟨("needed", none), "needed", "needed", defArgs s_needed, defBody s_needed, defScope s_needed, [], []⟩
def hd_read_number : He.DefD := ⟨("read_number", none), "read_number", "read_number", defArgs s_read_number, defBody s_read_number, defScope s_read_number, [], []⟩
def hd_read_step : He.DefD := ⟨("read_step", none), "read_step", "read_step", defArgs s_read_step, defBody s_read_step, defScope s_read_step, [], []⟩
def hd_read_rule : He.DefD := ⟨("read_rule", none), "read_rule", "read_rule", defArgs s_read_rule, defBody s_read_rule, defScope s_read_rule, [], []⟩
def hd_l_spoilt : He.DefD := ⟨("_law_spoilt", none), "_law_spoilt", "_law_spoilt", defArgs s_l_spoilt, defBody s_l_spoilt, defScope s_l_spoilt, [], []⟩
def hd_l_refused : He.DefD := ⟨("_law_refused", none), "_law_refused", "_law_refused", defArgs s_l_refused, defBody s_l_refused, defScope s_l_refused, [], []⟩
def hd_l_no_rule : He.DefD := ⟨("_law_no_rule", none), "_law_no_rule", "_law_no_rule", defArgs s_l_no_rule, defBody s_l_no_rule, defScope s_l_no_rule, [], []⟩
def hd_law : He.DefD := ⟨("law", none), "law", "law", defArgs s_law, defBody s_law, defScope s_law, [], []⟩
def hfn_0 : List He.DefD := [hd_xi_NoText, hd_l_mixed, hd_l_amount, hd_l_rule, hd_l_text, hd_Rule_init, hd_Rule_steps, hd_show_number, hd_Rule_gone, hd_show_rule, hd_needed, hd_read_number, hd_read_step, hd_read_rule, hd_l_spoilt, hd_l_refused, hd_l_no_rule, hd_law]
def hfn : List He.DefD := hfn_0
def hck_0 : List Dl.Chk := [Dl.extB "NoRule", Dl.exfB "NoText", Dl.ndgB, Dl.gloB "BookError", Dl.gloB "NoRule", Dl.gloB "NoText", Dl.gloB "NoNumber", Dl.iniB "NoText" "__init__" ("NoText", some "__init__"), Dl.oexB "NoText", Dl.natB "NoText" "line", Dl.rbeB "BookError", Dl.exmB "NoRule" "NoRule" true, Dl.kitB "NoRule" "NoText" false, Dl.kitB "NoText" "NoText" true, Dl.kitB "NoRule" "NoRule" true, Dl.kitB "NoText" "NoRule" false, Dl.kitB "NoRule" "NoNumber" false, Dl.kitB "NoText" "NoNumber" false, Dl.exmB "NoText" "BookError" true, Dl.exmB "NoRule" "BookError" true]
def hck_1 : List Dl.Chk := [Dl.xfcB "NoText" "line", Dl.clsB "Rule" ["row", "end"], Dl.insB "Rule", Dl.kitB "Rule" "Rule" true, Dl.gloB "_law_mixed", Dl.gloB "_law_amount", Dl.gloB "_law_rule", Dl.gloB "_law_text", Dl.metB "Rule" "__init__" ("Rule", some "__init__"), Dl.metB "Rule" "steps" ("Rule", some "steps"), Dl.gloB "show_number", Dl.metB "Rule" "gone" ("Rule", some "gone"), Dl.gloB "show_rule", Dl.gloB "needed", Dl.gloB "read_number", Dl.gloB "read_step", Dl.gloB "read_rule", Dl.gloB "_law_spoilt", Dl.gloB "_law_refused", Dl.gloB "_law_no_rule"]
def hck_2 : List Dl.Chk := [Dl.freB "len", Dl.freB "range", Dl.freB "str", Dl.freB "list", Dl.freB "isinstance", Dl.freB "all", Dl.freB "int", Dl.freB "bool", Dl.intB "MOST_STEPS" (5), Dl.intB "MOST_FIGURES" (1000), Dl.strB "FIGURES" "0123456789", Dl.gloB "law"]
def hck : List Dl.Chk := hck_0 ++ (hck_1 ++ (hck_2))
def hcl_0 : List Str := ["BookError", "NoNumber", "NoRule", "NoText", "Rule"]
def hcl : List Str := hcl_0
def hnm_0 : List Str := ["_wall", "BookError", "NoNumber", "NoRule", "NoText", "MOST_STEPS", "Rule", "FIGURES", "MOST_FIGURES", "needed", "show_number", "read_number", "show_rule", "read_step", "read_rule", "_law_mixed", "_law_amount", "_law_rule", "_law_text", "_law_spoilt"]
def hnm_1 : List Str := ["_law_no_rule", "_law_refused"]
def hnm : List Str := hnm_0 ++ (hnm_1)
abbrev hR : PySem.W.OpenRow := PySem.W.OpenLaw.row PySem.Challenge.rw_thinbook_k82_rules_written
abbrev hk : PySem.W.Hook := Dl.hookH hcl hck hfn
def hob (s : PySem.W.SharedT) : He.AlD := Dl.obsHG hcl hck hfn (HandSHeadRun.getT s)
theorem hob_eq (s : PySem.W.SharedT) : hob s = hk.obs s.abs := Dl.obsHG_eq (HandSHeadRun.getT_eq s)
theorem hrun (w : World) : HandSHeadRun.RunEq hR (PySem.W.view hR.prog [26]) hk hob 30000 hnm w := by
  intro os
  kernel_rfl
def hA (K : Frag) : Adr := { none_ := 0, a_NoRule := He.ga K "NoRule", a_NoText := He.ga K "NoText", n_BookError := He.ga K "BookError", n_NoNumber := He.ga K "NoNumber", c_Rule := He.ga K "Rule" }
theorem htxt {K : Frag} {mg : Str → Option Value} {h : Heap} (KX : K.In h) (G : h.Ns mainGlobals mg) (c : Dl.SaysH hck hfn K) : Txt K mg (hA K) where
  x_NoRule := Dl.extB_ok KX G (c.fact 0 (f := Dl.extB "NoRule"))
  x_NoText := Dl.exfB_ok KX G (c.fact 1 (f := Dl.exfB "NoText"))
  nodg := Dl.ndgB_ok (c.fact 2 (f := Dl.ndgB))
  n_BookError := Dl.gloB_ok KX G (c.fact 3 (f := Dl.gloB "BookError"))
  n_NoRule := Dl.gloB_ok KX G (c.fact 4 (f := Dl.gloB "NoRule"))
  n_NoText := Dl.gloB_ok KX G (c.fact 5 (f := Dl.gloB "NoText"))
  n_NoNumber := Dl.gloB_ok KX G (c.fact 6 (f := Dl.gloB "NoNumber"))
  xi_NoText := Dl.xini_of (x := "NoText") (C := "NoText") (st := s_xi_NoText) (p := ("NoText", some "__init__")) (c.def_ 0 (d := hd_xi_NoText)) (c.fact 7 (f := Dl.iniB "NoText" "__init__" ("NoText", some "__init__"))) (fun _ _ _ _ _ _ us hl => match us, hl with | [_, _], _ => rfl)
  oex_NoText := Dl.oexB_ok (c.fact 8 (f := Dl.oexB "NoText"))
  xn_NoText := Dl.natB_ok (c.fact 9 (f := Dl.natB "NoText" "line"))
  rB := (Dl.rbeB_ok (c.fact 10 (f := Dl.rbeB "BookError"))).1
  rG := (Dl.rbeB_ok (c.fact 10 (f := Dl.rbeB "BookError"))).2.1
  vB := (Dl.rbeB_ok (c.fact 10 (f := Dl.rbeB "BookError"))).2.2
  e_NoRule_NoRule := Dl.dec_ok (c.fact 11 (f := Dl.exmB "NoRule" "NoRule" true))
  i_NoRule_NoText := Dl.dec_ok (c.fact 12 (f := Dl.kitB "NoRule" "NoText" false))
  i_NoText_NoText := Dl.dec_ok (c.fact 13 (f := Dl.kitB "NoText" "NoText" true))
  i_NoRule_NoRule := Dl.dec_ok (c.fact 14 (f := Dl.kitB "NoRule" "NoRule" true))
  i_NoText_NoRule := Dl.dec_ok (c.fact 15 (f := Dl.kitB "NoText" "NoRule" false))
  i_NoRule_NoNumber := Dl.dec_ok (c.fact 16 (f := Dl.kitB "NoRule" "NoNumber" false))
  i_NoText_NoNumber := Dl.dec_ok (c.fact 17 (f := Dl.kitB "NoText" "NoNumber" false))
  e_NoText_BookError := Dl.dec_ok (c.fact 18 (f := Dl.exmB "NoText" "BookError" true))
  e_NoRule_BookError := Dl.dec_ok (c.fact 19 (f := Dl.exmB "NoRule" "BookError" true))
  xf_NoText_line := Dl.xfcB_ok (c.fact 20 (f := Dl.xfcB "NoText" "line"))
  cl_Rule := Dl.clsB_ok KX G (c.fact 21 (f := Dl.clsB "Rule" ["row", "end"]))
  in_Rule := Dl.insB_ok (c.fact 22 (f := Dl.insB "Rule"))
  kk_Rule_Rule := Dl.dec_ok (c.fact 23 (f := Dl.kitB "Rule" "Rule" true))
  f_l_mixed := Dl.funT_of (st := s_l_mixed) KX G (c.def_ 1 (d := hd_l_mixed)) (c.fact 24 (f := Dl.gloB "_law_mixed")) (fun _ _ _ _ _ _ us hl => match us, hl with | [_, _], _ => rfl)
  f_l_amount := Dl.funT_of (st := s_l_amount) KX G (c.def_ 2 (d := hd_l_amount)) (c.fact 25 (f := Dl.gloB "_law_amount")) (fun _ _ _ _ _ _ us hl => match us, hl with | [_], _ => rfl)
  f_l_rule := Dl.funT_of (st := s_l_rule) KX G (c.def_ 3 (d := hd_l_rule)) (c.fact 26 (f := Dl.gloB "_law_rule")) (fun _ _ _ _ _ _ us hl => match us, hl with | [_], _ => rfl)
  f_l_text := Dl.funT_of (st := s_l_text) KX G (c.def_ 4 (d := hd_l_text)) (c.fact 27 (f := Dl.gloB "_law_text")) (fun _ _ _ _ _ _ us hl => match us, hl with | [_, _], _ => rfl)
  m_Rule_init := Dl.methT_of1 (C := "Rule") (p := ("Rule", some "__init__")) (st := s_Rule_init) (c.def_ 5 (d := hd_Rule_init)) (c.fact 28 (f := Dl.metB "Rule" "__init__" ("Rule", some "__init__"))) (by simp) (by decide) (by
      intro j hj T kV doc pm an cdv ct us its hl hi
      have hj2 : j = 0 ∨ j = 1 := by have : j ≤ 1 := hj; omega
      rcases hj2 with rfl | rfl
      · (obtain ⟨u0, u1, rfl⟩ := Dl.len2 hl; obtain ⟨i0, rfl⟩ := Dl.len1 hi; exact ⟨_, rfl, rfl⟩)
      · (obtain ⟨u0, u1, u2, rfl⟩ := Dl.len3 hl; obtain ⟨i0, rfl⟩ := Dl.len1 hi; exact ⟨_, rfl, rfl⟩))
  m_Rule_steps := Dl.methT_of0 (C := "Rule") (x := "") (p := ("Rule", some "steps")) (st := s_Rule_steps) (c.def_ 6 (d := hd_Rule_steps)) (c.fact 29 (f := Dl.metB "Rule" "steps" ("Rule", some "steps"))) (fun _ _ _ _ _ _ us hl => match us, hl with | [_], _ => rfl)
  f_show_number := Dl.funT_of (st := s_show_number) KX G (c.def_ 7 (d := hd_show_number)) (c.fact 30 (f := Dl.gloB "show_number")) (fun _ _ _ _ _ _ us hl => match us, hl with | [_], _ => rfl)
  m_Rule_gone := Dl.methT_of0 (C := "Rule") (x := "") (p := ("Rule", some "gone")) (st := s_Rule_gone) (c.def_ 8 (d := hd_Rule_gone)) (c.fact 31 (f := Dl.metB "Rule" "gone" ("Rule", some "gone"))) (fun _ _ _ _ _ _ us hl => match us, hl with | [_], _ => rfl)
  f_show_rule := Dl.funT_of (st := s_show_rule) KX G (c.def_ 9 (d := hd_show_rule)) (c.fact 32 (f := Dl.gloB "show_rule")) (fun _ _ _ _ _ _ us hl => match us, hl with | [_], _ => rfl)
  f_needed := Dl.funT_of (st := s_needed) KX G (c.def_ 10 (d := hd_needed)) (c.fact 33 (f := Dl.gloB "needed")) (fun _ _ _ _ _ _ us hl => match us, hl with | [_], _ => rfl)
  f_read_number := Dl.funT_of (st := s_read_number) KX G (c.def_ 11 (d := hd_read_number)) (c.fact 34 (f := Dl.gloB "read_number")) (fun _ _ _ _ _ _ us hl => match us, hl with | [_], _ => rfl)
  f_read_step := Dl.funT_of (st := s_read_step) KX G (c.def_ 12 (d := hd_read_step)) (c.fact 35 (f := Dl.gloB "read_step")) (fun _ _ _ _ _ _ us hl => match us, hl with | [_], _ => rfl)
  f_read_rule := Dl.funT_of (st := s_read_rule) KX G (c.def_ 13 (d := hd_read_rule)) (c.fact 36 (f := Dl.gloB "read_rule")) (fun _ _ _ _ _ _ us hl => match us, hl with | [_], _ => rfl)
  f_l_spoilt := Dl.funT_of (st := s_l_spoilt) KX G (c.def_ 14 (d := hd_l_spoilt)) (c.fact 37 (f := Dl.gloB "_law_spoilt")) (fun _ _ _ _ _ _ us hl => match us, hl with | [_, _, _], _ => rfl)
  f_l_refused := Dl.funT_of (st := s_l_refused) KX G (c.def_ 15 (d := hd_l_refused)) (c.fact 38 (f := Dl.gloB "_law_refused")) (fun _ _ _ _ _ _ us hl => match us, hl with | [_], _ => rfl)
  f_l_no_rule := Dl.funT_of (st := s_l_no_rule) KX G (c.def_ 16 (d := hd_l_no_rule)) (c.fact 39 (f := Dl.gloB "_law_no_rule")) (fun _ _ _ _ _ _ us hl => match us, hl with | [_, _, _], _ => rfl)
  b_len := Dl.freB_ok KX G (c.fact 40 (f := Dl.freB "len"))
  b_range := Dl.freB_ok KX G (c.fact 41 (f := Dl.freB "range"))
  b_str := Dl.freB_ok KX G (c.fact 42 (f := Dl.freB "str"))
  b_list := Dl.freB_ok KX G (c.fact 43 (f := Dl.freB "list"))
  b_isinstance := Dl.freB_ok KX G (c.fact 44 (f := Dl.freB "isinstance"))
  b_all := Dl.freB_ok KX G (c.fact 45 (f := Dl.freB "all"))
  b_int := Dl.freB_ok KX G (c.fact 46 (f := Dl.freB "int"))
  b_bool := Dl.freB_ok KX G (c.fact 47 (f := Dl.freB "bool"))
  k_MOST_STEPS := Dl.intB_ok KX G (c.fact 48 (f := Dl.intB "MOST_STEPS" (5)))
  k_MOST_FIGURES := Dl.intB_ok KX G (c.fact 49 (f := Dl.intB "MOST_FIGURES" (1000)))
  k_FIGURES := Dl.strB_ok KX G (c.fact 50 (f := Dl.strB "FIGURES" "0123456789"))
theorem hfin {P : Program} {w : World} {K : Frag} {mg : Str → Option Value} {h : Heap} {fa : Addr} (X : K.In h) (G : h.Ns mainGlobals mg) (c : Dl.SaysH hck hfn K) (hfa : mg "law" = some (.ref fa)) :
    ∃ fd : FuncData, (∀ (s : Shared) (u : Value), BindsTo s fd ⟨[u], []⟩ [("_law_script", u)]) ∧ ∀ base : Heap, K.In base → base.Ns mainGlobals mg → FnOk P w K mg base (Dl.CX P w) 8 fa fd ["_law_script"] (spLaw K) := by
  have T0 := htxt X G c
  obtain ⟨fd, F⟩ := (show ∃ fd, FunD K "law" "law" (defArgs s_law) (defBody s_law) (defScope s_law) [] [] (He.ga K "law") fd from c.def_ 17 (d := hd_law))
  have e := hfa.symm.trans (Dl.gloB_ok X G (c.fact 51 (f := Dl.gloB "law")))
  cases e
  have b := FunD.bindsA (ps := ["_law_script"]) F fun _ _ _ _ _ _ us hl => match us, hl with | [_], _ => rfl
  refine ⟨fd, fun s v => b s [v] rfl, fun base _ _ => fnok_imp (g_law T0 (Dl.fun_of F)) fun vs H Q E ⟨q, H0, b1, b2, b3, b4, b5⟩ => ⟨q, H0, b1, b2, fun z => Ex.ok_ne true ((law_ok q b3).symm.trans z), fun v H' H0' d c1 c2 ⟨r, c3, c4⟩ => b4 v H' H0' d c1 c2 (by cases (law_ok q b3).symm.trans c3; exact c4), fun cls dd H' H0' fs c1 c2 ⟨n, c3, _⟩ => (by cases (law_ok q b3).symm.trans c3)⟩⟩
end Lw
open PySem PySem.W PyProof.Rows
set_option maxRecDepth 100000 in
set_option maxHeartbeats 0 in
theorem PySem.Challenge.cw_thinbook_k82_rules_written_holds : PySem.Challenge.rw_thinbook_k82_rules_written.Holds := by
  w_on; o_law
  refine HandSHeadRun.head_any (r := OpenLaw.row PySem.Challenge.rw_thinbook_k82_rules_written) (q := view (OpenLaw.row PySem.Challenge.rw_thinbook_k82_rules_written).prog [26]) (H := Lw.hk) (ob := Lw.hob) (M := 30000) (loose := Lw.hnm) (d := HandSHeadRun.topDef (OpenLaw.row PySem.Challenge.rw_thinbook_k82_rules_written).prog 26) (kwd := []) Lw.hob_eq
    (by kernel_rfl) (fun s => by kernel_rfl) Lw.hrun (by kernel_rfl) (by kernel_rfl) (by kernel_rfl) (by rfl) (by first | assumption | decide +kernel) (by decide +kernel) ⟨rfl, rfl, rfl, rfl, rfl, by decide +kernel⟩ ?hw ?hc
  case hw => w_witness2
  case hc =>
    refine Dl.walkH (l := PySem.Challenge.rw_thinbook_k82_rules_written) (k := 8) (x := "_law_script") rfl (by kernel_rfl) ⟨rfl, by decide, by decide⟩ ?F
    intro w mg fa h Y G hmg0
    obtain ⟨K, KX, c⟩ := Y
    have hmg : mg ("law" : PySem.Str) = some (.ref fa) := by
      have e : (HandSHeadRun.topDef (OpenLaw.row PySem.Challenge.rw_thinbook_k82_rules_written).prog 26).name = ("law" : PySem.Str) := by kernel_rfl
      rw [← e]
      exact hmg0
    obtain ⟨fd, hb, hF⟩ := Lw.hfin KX G c hmg
    exact ⟨K, fd, KX, hb, hF⟩
