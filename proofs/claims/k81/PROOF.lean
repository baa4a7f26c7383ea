import PyProof.Rows.All
import Wide.All
import OpenK.AllK
import Wide.FinOn
import HandS.ForMost
import HandS.ForExc
import HandS.Wide
import HandS.Walk
import HandS.Zip
import HandS.IsInst
import HandS.SortKw
import HandS.CallSlots
import HandS.Rev
import KE.KDictList
import HandS.WideBits
import HandS.TupLe
import HandS.ExcIs
import HandS.Defaults
import KE.DatumOrd
import HandS.Style
import HandS.TryOnly
import HandS.Iter
import HandS.Dict
import HandS.DictTup
import HandS.SetKeys
import HandS.TupLen
import KE.KDictWalk
import PyProof.DictMoreH
import HandS.SortInts
import HandS.ExcValue
import HandS.ExcField
import HandS.ExcInit
import KE.KExcIs
import HandS.ClsMeth
import HandS.Text
import HandS.StrMore
import HandS.More
import KE.GoesMore
import KE.GoesEnum
import HandS.Head0
import HandS.Head1
import HandS.Head2
import HandS.HeadHook1
import HandS.HeadHook2
import KE.KIntText
import PyProof.Rows.Digits
import PyProof.Rows.StrOr
import PyProof.StrOps2
import PySem.Challenge.RW_thinbook_k81_numbers_and_pairs
set_option Elab.async false
set_option synthInstance.maxHeartbeats 400000
set_option synthInstance.maxSize 2000
set_option linter.all false
set_option maxRecDepth 100000
set_option maxHeartbeats 4000000
namespace Dl
open PySem PySem.Spec PyProof.Rows L2

/-! ### data -/
inductive D where
  | non | bl (b : Bool) | int (i : Int) | str (x : Str) | ty (n : String)
  | lst (xs : List D) | scr (xs : List D) | tup (xs : List D) | ins (C : Addr) (ns : List Str) (xs : List D) | adr (a : Addr)
  | dK (ks : List Key) (xs : List D) | dT (ks : List (List Key)) (xs : List D) | exn (C : Addr) (ns : List Str) (xs : List D)
instance : Inhabited D := ⟨.non⟩
abbrev Frag := PySem.W.Frag
/-- an exception that was caught, of the class at C, its dict at d -/
def exT (a C : Addr) (d : Option Addr) : HO := .ext fun h => ∃ oe : PySem.Obj, h.get? a = some oe ∧ (oe.cls = .ref C ∧ oe.dict = d) ∧ ∃ vs, oe.data = .fields vs

mutual
inductive Rep (K : Frag) (H : Hp) : V → D → Prop
  | non : Rep K H .non .non
  | bl (b : Bool) : Rep K H (.bl b) (.bl b)
  | int (i : Int) : Rep K H (.int i) (.int i)
  | str (x : Str) : Rep K H (.str x) (.str x)
  | ty (n : String) : Rep K H (.ty n) (.ty n)
  | lst {a : Addr} {xs : List V} {ds : List D} : H a = some (.lst xs) → RepA K H xs ds → Rep K H (.ref a) (.lst ds)
  | scr {a : Addr} {xs : List V} {ds : List D} : SqL K H a xs → RepA K H xs ds → Rep K H (.ref a) (.scr ds)
  | tup {a : Addr} {xs : List V} {ds : List D} : H a = some (.tup xs) → RepA K H xs ds → Rep K H (.ref a) (.tup ds)
  | ins {a C dx : Addr} {vs : List (Str × V)} {ns : List Str} {xs : List V} {ds : List D} : H a = some (.ins C dx vs) → vs.map Prod.fst = ns → vs.map Prod.snd = xs → RepA K H xs ds → Rep K H (.ref a) (.ins C ns ds)
  | adr (a : Addr) : Rep K H (.ref a) (.adr a)
  | dK {a : Addr} {o : PySem.Obj} {vs : List (Key × V)} {ks : List Key} {xs : List V} {ds : List D} : H a = some (.frz o (.dK vs)) → vs.map Prod.fst = ks → vs.map Prod.snd = xs → RepA K H xs ds → Rep K H (.ref a) (.dK ks ds)
  | dT {a : Addr} {o : PySem.Obj} {vs : List (List Key × V)} {ks : List (List Key)} {xs : List V} {ds : List D} : H a = some (.frz o (.dT vs)) → vs.map Prod.fst = ks → vs.map Prod.snd = xs → RepA K H xs ds → Rep K H (.ref a) (.dT ks ds)
  | exn0 {a C : Addr} : H a = some (exT a C none) → Rep K H (.ref a) (.exn C [] [])
  | exn1 {a C d : Addr} {vs : List (Str × V)} {ns : List Str} {xs : List V} {ds : List D} : H a = some (exT a C (some d)) → H d = some (.xd vs) → vs.map Prod.fst = ns → vs.map Prod.snd = xs → RepA K H xs ds → Rep K H (.ref a) (.exn C ns ds)
inductive RepA (K : Frag) (H : Hp) : List V → List D → Prop
  | nil : RepA K H [] []
  | cons {v : V} {vs : List V} {d : D} {ds : List D} : Rep K H v d → RepA K H vs ds → RepA K H (v :: vs) (d :: ds)
end

theorem same_new {H : Hp} {p : Addr} {o : HO} (h : H p = none) : Same H (upd H p o) := fun b x e => by
  rw [upd_ne (ne_of_none e h)]
  exact e
mutual
theorem Rep.mono {K : Frag} {H H' : Hp} (e : Same H H') : ∀ (d : D) (v : V), Rep K H v d → Rep K H' v d
  | .non, _, h => by cases h; exact .non
  | .bl b, _, h => by cases h; exact .bl b
  | .int b, _, h => by cases h; exact .int b
  | .str b, _, h => by cases h; exact .str b
  | .ty b, _, h => by cases h; exact .ty b
  | .lst ds, _, h => by
    cases h with
    | lst a b => exact .lst (e _ _ a) (RepA.mono e ds _ b)
  | .scr ds, _, h => by
    cases h with
    | scr a b => exact .scr (e.seq a) (RepA.mono e ds _ b)
  | .tup ds, _, h => by
    cases h with
    | tup a b => exact .tup (e _ _ a) (RepA.mono e ds _ b)
  | .ins C ns ds, _, h => by
    cases h with
    | ins a b c d => exact .ins (e _ _ a) b c (RepA.mono e ds _ d)
  | .adr a, _, h => by cases h; exact .adr a
  | .dK ks ds, _, h => by
    cases h with
    | dK a b c d => exact .dK (e _ _ a) b c (RepA.mono e ds _ d)
  | .dT ks ds, _, h => by
    cases h with
    | dT a b c d => exact .dT (e _ _ a) b c (RepA.mono e ds _ d)
  | .exn C ns ds, _, h => by
    cases h with
    | exn0 a => exact .exn0 (e _ _ a)
    | exn1 a b c d f => exact .exn1 (e _ _ a) (e _ _ b) c d (RepA.mono e ds _ f)
theorem RepA.mono {K : Frag} {H H' : Hp} (e : Same H H') : ∀ (ds : List D) (vs : List V), RepA K H vs ds → RepA K H' vs ds
  | [], _, h => by cases h; exact .nil
  | d :: ds, _, h => by
    cases h with
    | cons a b => exact .cons (Rep.mono e d _ a) (RepA.mono e ds _ b)
end
section
variable {K : Frag} {H H' : Hp} {v : V} {d : D} {vs : List V} {ds : List D}
theorem Rep.mo (h : Rep K H v d) (e : Same H H') : Rep K H' v d := Rep.mono e d v h
theorem RepA.mo (h : RepA K H vs ds) (e : Same H H') : RepA K H' vs ds := RepA.mono e ds vs h
theorem RepA.length : ∀ {ds : List D} {vs : List V}, RepA K H vs ds → vs.length = ds.length
  | [], _, h => by cases h; rfl
  | d :: ds, _, h => by
    cases h with
    | cons a b => rw [List.length_cons, List.length_cons, b.length]
theorem RepA.get : ∀ {ds : List D} {vs : List V} {i : Nat} {d : D}, RepA K H vs ds → ds[i]? = some d → ∃ v, vs[i]? = some v ∧ Rep K H v d
  | [], _, _, _, _, h => by simp at h
  | d :: ds, _, 0, _, h, e => by
    cases h with
    | cons a b =>
      simp at e; subst e
      exact ⟨_, rfl, a⟩
  | d :: ds, _, i + 1, _, h, e => by
    cases h with
    | cons a b =>
      obtain ⟨v, h1, h2⟩ := RepA.get (i := i) b (by simpa using e)
      exact ⟨v, by simpa using h1, h2⟩
theorem RepA.app : ∀ {ds es : List D} {vs us : List V}, RepA K H vs ds → RepA K H us es → RepA K H (vs ++ us) (ds ++ es)
  | [], _, _, _, h, g => by cases h; exact g
  | d :: ds, _, _, _, h, g => by
    cases h with
    | cons a b => exact .cons a (b.app g)
theorem RepA.one (h : Rep K H v d) : RepA K H [v] [d] := .cons h .nil
theorem RepA.take : ∀ {ds : List D} {vs : List V} (n : Nat), RepA K H vs ds → RepA K H (vs.take n) (ds.take n)
  | _, _, 0, _ => .nil
  | [], _, _ + 1, h => by cases h; exact .nil
  | d :: ds, _, n + 1, h => by
    cases h with
    | cons a b => exact .cons a (b.take n)
theorem RepA.drop : ∀ {ds : List D} {vs : List V} (n : Nat), RepA K H vs ds → RepA K H (vs.drop n) (ds.drop n)
  | _, _, 0, h => h
  | [], _, _ + 1, h => by cases h; exact .nil
  | d :: ds, _, n + 1, h => by
    cases h with
    | cons a b => exact b.drop n
theorem RepA.set : ∀ {ds : List D} {vs : List V} (n : Nat), RepA K H vs ds → Rep K H v d → RepA K H (vs.set n v) (ds.set n d)
  | [], _, _, h, g => by cases h; exact .nil
  | d :: ds, _, 0, h, g => by
    cases h with
    | cons a b => exact .cons g b
  | d :: ds, _, n + 1, h, g => by
    cases h with
    | cons a b => exact .cons a (b.set n g)
theorem RepA.ints : ∀ {is : List Int} {vs : List V}, RepA K H vs (is.map D.int) → vs = is.map V.int
  | [], _, h => by cases h; rfl
  | i :: is, _, h => by
    have h' : RepA K H _ (D.int i :: is.map D.int) := h
    cases h' with
    | cons a b =>
      cases a
      rw [b.ints]; rfl
theorem RepA.bls : ∀ {is : List Bool} {vs : List V}, RepA K H vs (is.map D.bl) → vs = is.map V.bl
  | [], _, h => by cases h; rfl
  | i :: is, _, h => by
    have h' : RepA K H _ (D.bl i :: is.map D.bl) := h
    cases h' with
    | cons a b =>
      cases a
      rw [b.bls]; rfl
theorem RepA.ofInts (is : List Int) : RepA K H (is.map V.int) (is.map D.int) := by
  induction is with
  | nil => exact .nil
  | cons i is ih => exact .cons (.int i) ih
end

/-! ### what may change -/
inductive Mu where
  | lst (ds : List D) | ins (C : Addr) (ns : List Str) (ds : List D) | dK (kvs : List (Key × D)) | dT (kvs : List (List Key × D)) | fK (kvs : List (Key × D)) | fT (kvs : List (List Key × D)) | fL (ds : List D)
abbrev Mem := List (Addr × Mu)
abbrev Mem.dom (M : Mem) : List Addr := M.map Prod.fst
def MuRep (K : Frag) (H0 H : Hp) (a : Addr) : Mu → Prop
  | .lst ds => ∃ vs, H a = some (.lst vs) ∧ RepA K H0 vs ds
  | .fL ds => ∃ (o : PySem.Obj) (vs : List V), H a = some (.frz o (.lst vs)) ∧ RepA K H0 vs ds
  | .ins C ns ds => ∃ dx vs xs, H a = some (.ins C dx vs) ∧ vs.map Prod.fst = ns ∧ vs.map Prod.snd = xs ∧ RepA K H0 xs ds
  | .dK kvs => ∃ (vs : List (Key × V)) (xs : List V), H a = some (.dK vs) ∧ vs.map Prod.fst = kvs.map Prod.fst ∧ vs.map Prod.snd = xs ∧ RepA K H0 xs (kvs.map Prod.snd)
  | .dT kvs => ∃ (vs : List (List Key × V)) (xs : List V), H a = some (.dT vs) ∧ vs.map Prod.fst = kvs.map Prod.fst ∧ vs.map Prod.snd = xs ∧ RepA K H0 xs (kvs.map Prod.snd)
  | .fK kvs => ∃ (o : PySem.Obj) (vs : List (Key × V)) (xs : List V), H a = some (.frz o (.dK vs)) ∧ vs.map Prod.fst = kvs.map Prod.fst ∧ vs.map Prod.snd = xs ∧ RepA K H0 xs (kvs.map Prod.snd)
  | .fT kvs => ∃ (o : PySem.Obj) (vs : List (List Key × V)) (xs : List V), H a = some (.frz o (.dT vs)) ∧ vs.map Prod.fst = kvs.map Prod.fst ∧ vs.map Prod.snd = xs ∧ RepA K H0 xs (kvs.map Prod.snd)
theorem MuRep.mono {K : Frag} {H0 H0' H H' : Hp} {a : Addr} : ∀ {m : Mu}, MuRep K H0 H a m → Same H0 H0' → (∀ o, H a = some o → H' a = some o) → MuRep K H0' H' a m
  | .lst ds, ⟨vs, h, r⟩, e, k => ⟨vs, k _ h, r.mo e⟩
  | .fL ds, ⟨o, vs, h, r⟩, e, k => ⟨o, vs, k _ h, r.mo e⟩
  | .ins C ns ds, ⟨dx, vs, xs, h, h2, h3, r⟩, e, k => ⟨dx, vs, xs, k _ h, h2, h3, r.mo e⟩
  | .dK kvs, ⟨vs, xs, h, h2, h3, r⟩, e, k => ⟨vs, xs, k _ h, h2, h3, r.mo e⟩
  | .dT kvs, ⟨vs, xs, h, h2, h3, r⟩, e, k => ⟨vs, xs, k _ h, h2, h3, r.mo e⟩
  | .fK kvs, ⟨o, vs, xs, h, h2, h3, r⟩, e, k => ⟨o, vs, xs, k _ h, h2, h3, r.mo e⟩
  | .fT kvs, ⟨o, vs, xs, h, h2, h3, r⟩, e, k => ⟨o, vs, xs, k _ h, h2, h3, r.mo e⟩
theorem MuRep.there {K : Frag} {H0 H : Hp} {a : Addr} : ∀ {m : Mu}, MuRep K H0 H a m → ∃ o, H a = some o
  | .lst ds, ⟨vs, h, _⟩ => ⟨_, h⟩
  | .fL ds, ⟨o, vs, h, _⟩ => ⟨_, h⟩
  | .ins C ns ds, ⟨dx, vs, xs, h, _⟩ => ⟨_, h⟩
  | .dK kvs, ⟨vs, xs, h, _⟩ => ⟨_, h⟩
  | .dT kvs, ⟨vs, xs, h, _⟩ => ⟨_, h⟩
  | .fK kvs, ⟨o, vs, xs, h, _⟩ => ⟨_, h⟩
  | .fT kvs, ⟨o, vs, xs, h, _⟩ => ⟨_, h⟩
/-- a thing, and no tuple (these never change) -/
def NT : Option HO → Prop
  | none => False
  | some (.tup _) => False
  | some _ => True
theorem NT.ex {o : Option HO} (h : NT o) : ∃ u, o = some u := by
  cases o with
  | none => exact h.elim
  | some u => exact ⟨u, rfl⟩
theorem MuRep.nt {K : Frag} {H0 H : Hp} {a : Addr} : ∀ {m : Mu}, MuRep K H0 H a m → NT (H a)
  | .lst ds, ⟨vs, h, _⟩ => by rw [h]; exact trivial
  | .fL ds, ⟨o, vs, h, _⟩ => by rw [h]; exact trivial
  | .ins C ns ds, ⟨dx, vs, xs, h, _⟩ => by rw [h]; exact trivial
  | .dK kvs, ⟨vs, xs, h, _⟩ => by rw [h]; exact trivial
  | .dT kvs, ⟨vs, xs, h, _⟩ => by rw [h]; exact trivial
  | .fK kvs, ⟨o, vs, xs, h, _⟩ => by rw [h]; exact trivial
  | .fT kvs, ⟨o, vs, xs, h, _⟩ => by rw [h]; exact trivial
/-- the heap: H0 what never changes again, M what may -/
structure Ht (K : Frag) (H0 H : Hp) (M : Mem) : Prop where
  ex : Same H0 H
  nd : M.dom.Nodup
  mem : ∀ p ∈ M, H0 p.1 = none ∧ MuRep K H0 H p.1 p.2
/-- pure steps -/
structure Pu (H0 H H0' H' : Hp) : Prop where
  e0 : Same H0 H0'
  e : Same H H'
  ex : Same H0' H'
  new : ∀ a, H0 a = none → NT (H a) → H0' a = none
/-- any steps -/
structure Go (H0 H : Hp) (M : Mem) (H0' H' : Hp) (M' : Mem) : Prop where
  e0 : Same H0 H0'
  e : ∀ b o, H b = some o → b ∉ M.dom → H' b = some o
  new : ∀ a, H0 a = none → NT (H a) → a ∉ M.dom → H0' a = none
  dom : ∀ a ∈ M'.dom, a ∈ M.dom ∨ H a = none
section
variable {K : Frag} {H0 H H0' H' H0s Hs : Hp} {M M' Ms : Mem}
theorem Pu.refl (h : Same H0 H) : Pu H0 H H0 H := ⟨Same.refl _, Same.refl _, h, fun _ h _ => h⟩
theorem NT.keep {H H' : Hp} {a : Addr} (h : NT (H a)) (k : ∀ o, H a = some o → H' a = some o) : NT (H' a) := by
  obtain ⟨u, e⟩ := h.ex
  rw [k _ e, ← e]; exact h
theorem Pu.trans (p : Pu H0 H H0' H') (q : Pu H0' H' H0s Hs) : Pu H0 H H0s Hs := ⟨p.e0.trans q.e0, p.e.trans q.e, q.ex, fun a h1 h2 => q.new a (p.new a h1 h2) (h2.keep fun o e => p.e a o e)⟩
theorem Ht.pu (h : Ht K H0 H M) (p : Pu H0 H H0' H') : Ht K H0' H' M := ⟨p.ex, h.nd, fun q hq => by
  obtain ⟨h1, h2⟩ := h.mem q hq
  exact ⟨p.new _ h1 h2.nt, h2.mono p.e0 fun o e => p.e _ _ e⟩⟩
theorem Go.refl : Go H0 H M H0 H M := ⟨Same.refl _, fun _ _ e _ => e, fun _ h _ _ => h, fun _ h => .inl h⟩
theorem Pu.go (p : Pu H0 H H0' H') : Go H0 H M H0' H' M := ⟨p.e0, fun b o e _ => p.e b o e, fun a h1 h2 _ => p.new a h1 h2, fun _ h => .inl h⟩
theorem Go.trans (p : Go H0 H M H0' H' M') (q : Go H0' H' M' H0s Hs Ms) : Go H0 H M H0s Hs Ms where
  e0 := p.e0.trans q.e0
  e := fun b o e hb => q.e b o (p.e b o e hb) fun z => (p.dom b z).elim hb fun z => by rw [e] at z; cases z
  new := fun a h1 h2 h3 => by
    obtain ⟨o, e⟩ := h2.ex
    exact q.new a (p.new a h1 h2 h3) (h2.keep fun o e => p.e a o e h3) fun z => (p.dom a z).elim h3 fun z => by rw [e] at z; cases z
  dom := fun a ha => by
    rcases q.dom a ha with h | h
    · exact p.dom a h
    · by_cases hm : a ∈ M.dom
      · exact .inl hm
      · cases e : H a with
        | none => exact .inr rfl
        | some o => rw [p.e a o e hm] at h; cases h
theorem Go.pu (g : Go H0 H [] H0' H' M') (h : Ht K H0' H' M') : Pu H0 H H0' H' := ⟨g.e0, fun b o e => g.e b o e (by simp), h.ex, fun a h1 h2 => g.new a h1 h2 (by simp)⟩
theorem Ht.emp (h : Same H0 H) : Ht K H0 H [] := ⟨h, List.nodup_nil, fun _ z => absurd z (by simp)⟩
theorem Ht.free (h : Ht K H0 H M) {p : Addr} (hp : H p = none) : H0 p = none ∧ p ∉ M.dom := by
  refine ⟨h.ex.free hp, fun z => ?_⟩
  obtain ⟨q, hq, rfl⟩ := List.mem_map.mp z
  obtain ⟨o, ho⟩ := (h.mem q hq).2.there
  rw [hp] at ho; cases ho
/-- a new thing that will not change -/
theorem Pu.new1 (h : Same H0 H) {p : Addr} (hp : H p = none) (o : HO) : Pu H0 H (upd H0 p o) (upd H p o) := by
  have h0 := h.free hp
  refine ⟨same_new h0, same_new hp, fun b u e => ?_, fun a h1 h2 => ?_⟩
  · by_cases hb : b = p
    · subst hb; rw [upd_same] at e ⊢; exact e
    · rw [upd_ne hb] at e ⊢; exact h _ _ e
  · obtain ⟨u, e⟩ := h2.ex
    rw [upd_ne (fun z => by rw [z, hp] at e; cases e)]; exact h1
/-- a new thing that may change -/
theorem Go.new1 {p : Addr} (hp : H p = none) (o : HO) {m : Mu} : Go H0 H M H0 (upd H p o) ((p, m) :: M) := by
  refine ⟨Same.refl _, fun b u e _ => same_new hp b u e, fun _ h _ _ => h, fun a ha => ?_⟩
  rcases List.mem_cons.mp (show a ∈ p :: M.dom from ha) with rfl | ha
  · exact .inr hp
  · exact .inl ha
theorem Ht.new1 (h : Ht K H0 H M) {p : Addr} (hp : H p = none) {o : HO} {m : Mu} (hm : ∀ H', H' p = some o → MuRep K H0 H' p m) : Ht K H0 (upd H p o) ((p, m) :: M) := by
  obtain ⟨h0, hd⟩ := h.free hp
  refine ⟨h.ex.trans (same_new hp), ?_, fun q hq => ?_⟩
  · show (p :: M.dom).Nodup
    exact List.nodup_cons.mpr ⟨hd, h.nd⟩
  · rcases List.mem_cons.mp hq with rfl | hq
    · exact ⟨h0, hm _ upd_same⟩
    · obtain ⟨h1, h2⟩ := h.mem q hq
      exact ⟨h1, h2.mono (Same.refl _) fun o e => same_new hp _ _ e⟩
/-- the thing at a changes -/
def Mem.put (M : Mem) (a : Addr) (m : Mu) : Mem := M.map fun p => if p.1 = a then (a, m) else p
theorem Mem.put_dom {M : Mem} {a : Addr} {m : Mu} : (M.put a m).dom = M.dom := by
  unfold Mem.put Mem.dom
  rw [List.map_map]
  refine List.map_congr_left fun p _ => ?_
  show (if p.1 = a then (a, m) else p).1 = p.1
  split
  · rename_i h; exact h.symm
  · rfl
theorem Ht.put (h : Ht K H0 H M) {a : Addr} {o : HO} {m : Mu} (ha : a ∈ M.dom) (hm : ∀ H', H' a = some o → MuRep K H0 H' a m) : Ht K H0 (upd H a o) (M.put a m) := by
  have h0 : H0 a = none := by
    obtain ⟨q, hq, rfl⟩ := List.mem_map.mp ha
    exact (h.mem q hq).1
  refine ⟨fun b u e => ?_, by rw [Mem.put_dom]; exact h.nd, fun q hq => ?_⟩
  · rw [upd_ne (fun z => by rw [z, h0] at e; cases e)]; exact h.ex _ _ e
  · obtain ⟨p, hp, rfl⟩ := List.mem_map.mp hq
    by_cases e : p.1 = a
    · rw [if_pos e]; exact ⟨h0, hm _ upd_same⟩
    · rw [if_neg e]
      obtain ⟨h1, h2⟩ := h.mem p hp
      exact ⟨h1, h2.mono (Same.refl _) fun o q => by rw [upd_ne e]; exact q⟩
theorem Go.put {a : Addr} {o : HO} {m : Mu} (ha : a ∈ M.dom) : Go H0 H M H0 (upd H a o) (M.put a m) := by
  refine ⟨Same.refl _, fun b u e hb => ?_, fun _ h _ _ => h, fun b hb => ?_⟩
  · rw [upd_ne (fun z => hb (by rw [z]; exact ha))]; exact e
  · rw [Mem.put_dom] at hb; exact .inl hb
end
end Dl

namespace Dl
open PySem PySem.Spec PyProof.Rows L2
/-! ### slots, exceptions, what is wanted -/
abbrev Ro := List (Option D)
def Sl (K : Frag) (H0 : Hp) (σ : L2.St) (ρ : Ro) : Prop := σ.length = ρ.length ∧ ∀ (i : Nat) (d : D), ρ[i]? = some (some d) → ∃ v, σ[i]? = some (some v) ∧ Rep K H0 v d
abbrev XD := Value → List (Str × D) → Ro → Mem → Prop
abbrev kx0 : XD := fun _ _ _ _ => False
def XRep (K : Frag) (H0 H : Hp) (dd : Option Addr) (fs : List (Str × D)) : Prop :=
  (dd = none ∧ fs = []) ∨ fs ≠ [] ∧ ∃ (d : Addr) (vs : List (Str × V)) (xs : List V), dd = some d ∧ H0 d = some (.xd vs) ∧ vs.map Prod.fst = fs.map Prod.fst ∧ vs.map Prod.snd = xs ∧ RepA K H0 xs (fs.map Prod.snd)
inductive Out where
  | nx (ρ : Ro) | bk (ρ : Ro) | ct (ρ : Ro) | rt (d : D)
section
variable {K : Frag} {H0 H0' : Hp} {σ : L2.St} {ρ : Ro}
theorem Sl.mo (h : Sl K H0 σ ρ) (e : Same H0 H0') : Sl K H0' σ ρ := ⟨h.1, fun i d q => let ⟨v, a, b⟩ := h.2 i d q; ⟨v, a, b.mo e⟩⟩
theorem Sl.set (h : Sl K H0 σ ρ) {v : V} {d : D} (r : Rep K H0 v d) (i : Nat) : Sl K H0 (σ.set i (some v)) (ρ.set i (some d)) := by
  refine ⟨by rw [List.length_set, List.length_set]; exact h.1, fun j d' e => ?_⟩
  by_cases hj : i = j
  · subst hj
    by_cases hi : i < ρ.length
    · rw [List.getElem?_set_self hi] at e
      cases e
      exact ⟨v, List.getElem?_set_self (by rw [h.1]; exact hi), r⟩
    · rw [List.getElem?_eq_none (by rw [List.length_set]; omega)] at e
      cases e
  · rw [List.getElem?_set_ne hj] at e ⊢
    exact h.2 j d' e
/-- slots forgotten -/
def Fgt (ρ ρ' : Ro) : Prop := ρ.length = ρ'.length ∧ ∀ (i : Nat) (d : D), ρ'[i]? = some (some d) → ρ[i]? = some (some d)
theorem Sl.fgt {ρ' : Ro} (h : Sl K H0 σ ρ) (f : Fgt ρ ρ') : Sl K H0 σ ρ' := ⟨h.1.trans f.1, fun i d e => h.2 i d (f.2 i d e)⟩
end
section
variable (X : Cx)
def sE (e : Expr) : TE := fun σ H Q => ∀ pins s, Inv X pins σ H s → wpAny (model X.prog X.w) X.A (eval e X.env) (EP X pins σ Q) X.xe s
def sT (e : Expr) : TT := fun σ H Q => ∀ pins s, Inv X pins σ H s → wpAny (model X.prog X.w) X.A (isTrue e X.env (eval e X.env)) (TP X pins σ Q) X.xe s
def sW (e : Expr) : TT := fun σ H Q => ∀ whole pins s, Inv X pins σ H s → wpAny (model X.prog X.w) X.A (isTrue e X.env whole) (TP X pins σ Q) X.xe s
def sA (es : List Expr) : TA := fun σ H Q => ∀ pos pins s, Inv X pins σ H s → wpAny (model X.prog X.w) X.A (spliced (backTo pos (starEach es X.env))) (AP X pins σ Q) X.xe s
def sS (st : Stmt) : TS := fun D σ H => ∀ pins s, Inv X pins σ H s → wpAny (model X.prog X.w) X.A (exec st X.env) (SP X pins D) X.xe s
def sSs (sts : List Stmt) : TS := fun D σ H => ∀ pins s, Inv X pins σ H s → wpAny (model X.prog X.w) X.A (execs sts X.env) (SP X pins D) X.xe s
def sG (tg : Expr) : TG := fun v σ H Q => ∀ pins s u, Inv X pins σ H s → RelV v u → wpAny (model X.prog X.w) X.A (assign tg X.env u) (fun _ s' => ∃ σ' H', Inv X pins σ' H' s' ∧ Q σ' H') X.xe s
def sGs (ts : List Expr) : TGs := fun vs σ H Q => ∀ pins s us, Inv X pins σ H s → Vals vs us → wpAny (model X.prog X.w) X.A (assignInOrder ((assignEach ts X.env).map (·.2)) us) (fun _ s' => ∃ σ' H', Inv X pins σ' H' s' ∧ Q σ' H') X.xe s
def sI (tg it : Expr) : TI := fun σ H R => ∀ pins s, Inv X pins σ H s → wpAny (model X.prog X.w) X.A (eval it X.env) (fun v s1 => wpAny (model X.prog X.w) X.A (pyIter v) (PIE X pins σ tg R) X.xe s1) X.xe s
def sTs (ifs : List Expr) : TT := fun σ H Q => ∀ pins s, Inv X pins σ H s → wpAny (model X.prog X.w) X.A (forIn ifs true fun c r => if r = true then do let ok ← isTrue c X.env (eval c X.env); pure (ForInStep.yield ok) else pure (ForInStep.yield r)) (TP X pins σ Q) X.xe s
end
section
variable {X : Cx}
theorem pe_s (e : Expr) : PE X e (sE X e) := ⟨fun pins s _ _ _ I h => h pins s I⟩
theorem pt_s (e : Expr) : PT X e (sT X e) := ⟨fun pins s _ _ _ I h => h pins s I⟩
theorem pw_s (e : Expr) : PW X e (sW X e) := ⟨fun w pins s _ _ _ I h => h w pins s I⟩
theorem pa_s (e : List Expr) : PA X e (sA X e) := ⟨fun pos pins s _ _ _ I h => h pos pins s I⟩
theorem ps_s (e : Stmt) : PS X e (sS X e) := ⟨fun pins s _ _ _ I h => h pins s I⟩
theorem pss_s (e : List Stmt) : PSs X e (sSs X e) := ⟨fun pins s _ _ _ I h => h pins s I⟩
theorem pg_s (e : Expr) : PG X e (sG X e) := ⟨fun pins s _ _ _ u _ I r h => h pins s u I r⟩
theorem pgs_s (e : List Expr) : PGs X e (sGs X e) := ⟨fun pins s _ _ _ u _ I r h => h pins s u I r⟩
theorem pi_s (tg it : Expr) : PI X tg it (sI X tg it) := ⟨fun pins s _ _ _ I h => h pins s I⟩
variable {σ : L2.St} {H : Hp}
theorem sE.by {e : Expr} {t : TE} {Q : VK} (p : PE X e t) (h : t σ H Q) : sE X e σ H Q := fun pins s I => p.run pins s σ H Q I h
theorem sT.by {e : Expr} {t : TT} {Q : Bool → Hp → Prop} (p : PT X e t) (h : t σ H Q) : sT X e σ H Q := fun pins s I => p.run pins s σ H Q I h
theorem sW.by {e : Expr} {t : TT} {Q : Bool → Hp → Prop} (p : PW X e t) (h : t σ H Q) : sW X e σ H Q := fun w pins s I => p.run w pins s σ H Q I h
theorem sA.by {e : List Expr} {t : TA} {Q : List V → Hp → Prop} (p : PA X e t) (h : t σ H Q) : sA X e σ H Q := fun pos pins s I => p.run pos pins s σ H Q I h
theorem sS.by {e : Stmt} {t : TS} {D : Ends} (p : PS X e t) (h : t D σ H) : sS X e D σ H := fun pins s I => p.run pins s σ H D I h
theorem sSs.by {e : List Stmt} {t : TS} {D : Ends} (p : PSs X e t) (h : t D σ H) : sSs X e D σ H := fun pins s I => p.run pins s σ H D I h
theorem sG.by {e : Expr} {t : TG} {v : V} {Q : L2.St → Hp → Prop} (p : PG X e t) (h : t v σ H Q) : sG X e v σ H Q := fun pins s u I r => p.run pins s σ H v u Q I r h
theorem sGs.by {e : List Expr} {t : TGs} {v : List V} {Q : L2.St → Hp → Prop} (p : PGs X e t) (h : t v σ H Q) : sGs X e v σ H Q := fun pins s u I r => p.run pins s σ H v u Q I r h
theorem sI.by {tg it : Expr} {t : TI} {R : It → Hp → Prop} (p : PI X tg it t) (h : t σ H R) : sI X tg it σ H R := fun pins s I => p.run pins s σ H R I h
theorem sTs.by {e : List Expr} {t : TT} {Q : Bool → Hp → Prop} (p : PTs X e t) (h : t σ H Q) : sTs X e σ H Q := fun pins s I => p.run pins s σ H Q I h
/-- what is wanted of an exception -/
def Hx (X : Cx) (W : WX) (H0 H : Hp) (M : Mem) (kx : XD) : Prop :=
  ∀ cls dd σ' H' H0' fs ρ' M', Go H0 H M H0' H' M' → Ht X.K H0' H' M' → Sl X.K H0' σ' ρ' → XRep X.K H0' H' dd fs → kx cls fs ρ' M' → W cls dd σ' H'
theorem Hx.step {W : WX} {H0 H H0' H' : Hp} {M M' : Mem} {kx : XD} (h : Hx X W H0 H M kx) (g : Go H0 H M H0' H' M') : Hx X W H0' H' M' kx :=
  fun cls dd σ' H2 H02 fs ρ' M2 g2 => h cls dd σ' H2 H02 fs ρ' M2 (g.trans g2)
theorem Hx.pu {W : WX} {H0 H H0' H' : Hp} {M : Mem} {kx : XD} (h : Hx X W H0 H M kx) (p : Pu H0 H H0' H') : Hx X W H0' H' M kx := h.step p.go
theorem Hx.none {W : WX} {H0 H : Hp} {M : Mem} : Hx X W H0 H M kx0 := fun _ _ _ _ _ _ _ _ _ _ _ _ z => z.elim
end
/-! ### the judgements -/
/-- a value, nothing changed -/
def DV (X : Cx) (kx : XD) (e : Expr) (ρ : Ro) (M : Mem) (d : D) : Prop :=
  ∀ (σ : L2.St) (H H0 : Hp), Ht X.K H0 H M → Sl X.K H0 σ ρ → ∀ (W : WX), Takes X W → Hx X W H0 H M kx → ∀ (Q : VK), (∀ v H' H0', Pu H0 H H0' H' → Rep X.K H0' v d → Q v H') → sE X e σ H Q
/-- a value, something changed perhaps -/
def DE (X : Cx) (kx : XD) (e : Expr) (ρ : Ro) (M : Mem) (k : D → Mem → Prop) : Prop :=
  ∀ (σ : L2.St) (H H0 : Hp), Ht X.K H0 H M → Sl X.K H0 σ ρ → ∀ (W : WX), Takes X W → Hx X W H0 H M kx → ∀ (Q : VK), (∀ v H' H0' d M', Go H0 H M H0' H' M' → Ht X.K H0' H' M' → Rep X.K H0' v d → k d M' → Q v H') → sE X e σ H Q
def DA (X : Cx) (kx : XD) (es : List Expr) (ρ : Ro) (M : Mem) (ds : List D) : Prop :=
  ∀ (σ : L2.St) (H H0 : Hp), Ht X.K H0 H M → Sl X.K H0 σ ρ → ∀ (W : WX), Takes X W → Hx X W H0 H M kx → ∀ (Q : List V → Hp → Prop), (∀ vs H' H0', Pu H0 H H0' H' → RepA X.K H0' vs ds → Q vs H') → sA X es σ H Q
def DT (X : Cx) (kx : XD) (e : Expr) (ρ : Ro) (M : Mem) (b : Bool) : Prop :=
  ∀ (σ : L2.St) (H H0 : Hp), Ht X.K H0 H M → Sl X.K H0 σ ρ → ∀ (W : WX), Takes X W → Hx X W H0 H M kx → ∀ (Q : Bool → Hp → Prop), (∀ H' H0', Pu H0 H H0' H' → Q b H') → sT X e σ H Q
def DW (X : Cx) (kx : XD) (e : Expr) (ρ : Ro) (M : Mem) (b : Bool) : Prop :=
  ∀ (σ : L2.St) (H H0 : Hp), Ht X.K H0 H M → Sl X.K H0 σ ρ → ∀ (W : WX), Takes X W → Hx X W H0 H M kx → ∀ (Q : Bool → Hp → Prop), (∀ H' H0', Pu H0 H H0' H' → Q b H') → sW X e σ H Q
def DTs (X : Cx) (kx : XD) (e : List Expr) (ρ : Ro) (M : Mem) (b : Bool) : Prop :=
  ∀ (σ : L2.St) (H H0 : Hp), Ht X.K H0 H M → Sl X.K H0 σ ρ → ∀ (W : WX), Takes X W → Hx X W H0 H M kx → ∀ (Q : Bool → Hp → Prop), (∀ H' H0', Pu H0 H H0' H' → Q b H') → sTs X e σ H Q
/-- the slots ts alone differ -/
def But (ts : List Nat) (σ σ' : L2.St) : Prop := ∀ vs : List Nat, (∀ i ∈ ts, i ∈ vs) → wipe σ' vs = wipe σ vs
theorem But.refl {ts : List Nat} {σ : L2.St} : But ts σ σ := fun _ _ => rfl
theorem But.mono {ts us : List Nat} {σ σ' : L2.St} (h : But ts σ σ') (i : ∀ x ∈ ts, x ∈ us) : But us σ σ' := fun vs q => h vs fun x hx => q x (i x hx)
theorem But.trans {ts : List Nat} {σ σ' τ : L2.St} (h : But ts σ σ') (g : But ts σ' τ) : But ts σ τ := fun vs q => (g vs q).trans (h vs q)
theorem wipe_at (σ : L2.St) : ∀ (vs : List Nat) (j : Nat), (wipe σ vs)[j]? = if j ∈ vs ∧ j < σ.length then some none else σ[j]?
  | [], j => by simp [wipe]
  | v :: vs, j => by
    unfold wipe
    by_cases hj : v = j
    · subst hj
      by_cases hl : v < σ.length
      · rw [List.getElem?_set_self (by rw [wipe_length]; exact hl), if_pos ⟨List.mem_cons_self, hl⟩]
      · rw [if_neg (fun z => hl z.2), List.getElem?_eq_none (by rw [List.length_set, wipe_length]; omega), List.getElem?_eq_none (by omega)]
    · rw [List.getElem?_set_ne hj, wipe_at σ vs j]
      by_cases h : j ∈ vs ∧ j < σ.length
      · rw [if_pos h, if_pos ⟨List.mem_cons_of_mem _ h.1, h.2⟩]
      · rw [if_neg h, if_neg fun z => h ⟨(List.mem_cons.mp z.1).resolve_left (Ne.symm hj), z.2⟩]
theorem But.set {ts : List Nat} {σ : L2.St} {i : Nat} {y : Option V} (h : i ∈ ts) : But ts σ (σ.set i y) := fun vs q => by
  refine List.ext_getElem? fun j => ?_
  rw [wipe_at, wipe_at, List.length_set]
  by_cases hj : j ∈ vs ∧ j < σ.length
  · rw [if_pos hj, if_pos hj]
  · rw [if_neg hj, if_neg hj]
    by_cases e : i = j
    · subst e
      have hl : ¬ i < σ.length := fun z => hj ⟨q i h, z⟩
      rw [List.getElem?_eq_none (by rw [List.length_set]; omega), List.getElem?_eq_none (by omega)]
    · rw [List.getElem?_set_ne e]
/-- a target takes a value -/
def DG (X : Cx) (tg : Expr) (ts : List Nat) (d : D) (ρ ρ' : Ro) : Prop :=
  ∀ (σ : L2.St) (H H0 : Hp) (v : V), Same H0 H → Sl X.K H0 σ ρ → Rep X.K H0 v d → ∀ (Q : L2.St → Hp → Prop), (∀ σ', Sl X.K H0 σ' ρ' → But ts σ σ' → Q σ' H) → sG X tg v σ H Q
def DGs (X : Cx) (tgs : List Expr) (ts : List Nat) (ds : List D) (ρ ρ' : Ro) : Prop :=
  ∀ (σ : L2.St) (H H0 : Hp) (vs : List V), Same H0 H → Sl X.K H0 σ ρ → RepA X.K H0 vs ds → ∀ (Q : L2.St → Hp → Prop), (∀ σ', Sl X.K H0 σ' ρ' → But ts σ σ' → Q σ' H) → sGs X tgs vs σ H Q
/-- what is walked: the things that come, nothing changed but new pairs -/
def WkD (K : Frag) (J : It) (H0 : Hp) (ds : List D) : Prop :=
  ∃ (G : Hp → Prop) (Y : Nat → Hp → V → Hp → Prop), Walk J ds.length G Y ∧ (∀ H, Same H0 H → G H) ∧
    ∀ i H1 x H2 H01 d, Same H0 H01 → Same H01 H1 → ds[i]? = some d → Y i H1 x H2 → ∃ H02, Pu H01 H1 H02 H2 ∧ Rep K H02 x d
def DI (X : Cx) (kx : XD) (tg it : Expr) (ρ : Ro) (M : Mem) (ds : List D) : Prop :=
  ∀ (σ : L2.St) (H H0 : Hp), Ht X.K H0 H M → Sl X.K H0 σ ρ → ∀ (W : WX), Takes X W → Hx X W H0 H M kx → ∀ (R : It → Hp → Prop), (∀ J H' H0', Pu H0 H H0' H' → WkD X.K J H0' ds → R J H') → sI X tg it σ H R
structure Cn (X : Cx) (D : Ends) (H0 H : Hp) (M : Mem) (P : Out → Mem → Prop) : Prop where
  nx : ∀ σ' H' H0' ρ' M', Go H0 H M H0' H' M' → Ht X.K H0' H' M' → Sl X.K H0' σ' ρ' → P (.nx ρ') M' → D.nx σ' H'
  bk : ∀ σ' H' H0' ρ' M', Go H0 H M H0' H' M' → Ht X.K H0' H' M' → Sl X.K H0' σ' ρ' → P (.bk ρ') M' → D.bk σ' H'
  ct : ∀ σ' H' H0' ρ' M', Go H0 H M H0' H' M' → Ht X.K H0' H' M' → Sl X.K H0' σ' ρ' → P (.ct ρ') M' → D.ct σ' H'
  rt : ∀ v H' H0' d M', Go H0 H M H0' H' M' → Ht X.K H0' H' M' → Rep X.K H0' v d → P (.rt d) M' → D.rt v H'
def DS (X : Cx) (kx : XD) (sts : List Stmt) (ρ : Ro) (M : Mem) (P : Out → Mem → Prop) : Prop :=
  ∀ (σ : L2.St) (H H0 : Hp), Ht X.K H0 H M → Sl X.K H0 σ ρ → ∀ (W : WX), Takes X W → Hx X W H0 H M kx → ∀ (D : Ends), Cn X D H0 H M P → sSs X sts D σ H
def DS1 (X : Cx) (kx : XD) (st : Stmt) (ρ : Ro) (M : Mem) (P : Out → Mem → Prop) : Prop :=
  ∀ (σ : L2.St) (H H0 : Hp), Ht X.K H0 H M → Sl X.K H0 σ ρ → ∀ (W : WX), Takes X W → Hx X W H0 H M kx → ∀ (D : Ends), Cn X D H0 H M P → sS X st D σ H
def thenP (X : Cx) (kx : XD) (rest : List Stmt) (P : Out → Mem → Prop) : Out → Mem → Prop
  | .nx ρ, M => DS X kx rest ρ M P
  | o, M => P o M
section
variable {X : Cx} {kx : XD} {ρ ρ' ρ'' : Ro} {M M' : Mem} {P : Out → Mem → Prop}
theorem Cn.step {D : Ends} {H0 H H0' H' : Hp} (c : Cn X D H0 H M P) (g : Go H0 H M H0' H' M') : Cn X D H0' H' M' P :=
  ⟨fun σ' H2 H02 ρ' M2 g2 => c.nx σ' H2 H02 ρ' M2 (g.trans g2), fun σ' H2 H02 ρ' M2 g2 => c.bk σ' H2 H02 ρ' M2 (g.trans g2),
    fun σ' H2 H02 ρ' M2 g2 => c.ct σ' H2 H02 ρ' M2 (g.trans g2), fun v H2 H02 d M2 g2 => c.rt v H2 H02 d M2 (g.trans g2)⟩
theorem Cn.imp {D : Ends} {H0 H : Hp} {P' : Out → Mem → Prop} (c : Cn X D H0 H M P) (h : ∀ o m, P' o m → P o m) : Cn X D H0 H M P' :=
  ⟨fun σ' H2 H02 ρ' M2 g t s p => c.nx σ' H2 H02 ρ' M2 g t s (h _ _ p), fun σ' H2 H02 ρ' M2 g t s p => c.bk σ' H2 H02 ρ' M2 g t s (h _ _ p),
    fun σ' H2 H02 ρ' M2 g t s p => c.ct σ' H2 H02 ρ' M2 g t s (h _ _ p), fun v H2 H02 d M2 g t s p => c.rt v H2 H02 d M2 g t s (h _ _ p)⟩
theorem DS.imp {sts : List Stmt} {P' : Out → Mem → Prop} (h : DS X kx sts ρ M P') (i : ∀ o m, P' o m → P o m) : DS X kx sts ρ M P :=
  fun σ H H0 t s W tk hx D c => h σ H H0 t s W tk hx D (c.imp i)
theorem DS.fgt {sts : List Stmt} (h : DS X kx sts ρ' M P) (f : Fgt ρ ρ') : DS X kx sts ρ M P :=
  fun σ H H0 t s W tk hx D c => h σ H H0 t (s.fgt f) W tk hx D c
theorem DV.de {e : Expr} {d : D} {k : D → Mem → Prop} (h : DV X kx e ρ M d) (hk : k d M) : DE X kx e ρ M k :=
  fun σ H H0 t s W tk hx Q q => h σ H H0 t s W tk hx Q fun v H' H0' p r => q v H' H0' d M p.go (t.pu p) r hk
theorem DV.is {e : Expr} {d d' : D} (h : DV X kx e ρ M d) (e' : d = d') : DV X kx e ρ M d' := e' ▸ h
theorem DT.is {e : Expr} {d d' : Bool} (h : DT X kx e ρ M d) (e' : d = d') : DT X kx e ρ M d' := e' ▸ h
theorem DA.is {e : List Expr} {d d' : List D} (h : DA X kx e ρ M d) (e' : d = d') : DA X kx e ρ M d' := e' ▸ h
/-! ### statements -/
theorem ds_nil (h : P (.nx ρ) M) : DS X kx [] ρ M P := fun σ H H0 t s W tk hx D c => sSs.by pss_nil (c.nx σ H H0 ρ M Go.refl t s h)
theorem ds_cons {st : Stmt} {rest : List Stmt} (h : DS1 X kx st ρ M (thenP X kx rest P)) : DS X kx (st :: rest) ρ M P := fun σ H H0 t s W tk hx D c =>
  sSs.by (pss_cons (ps_s st) (pss_s rest)) (h σ H H0 t s W tk hx { D with nx := sSs X rest D }
    ⟨fun σ' H' H0' ρ' M' g t' s' p => p σ' H' H0' t' s' W tk (hx.step g) D (c.step g), c.bk, c.ct, c.rt⟩)
theorem ds1_ret {e : Expr} {pos : Pos} {k : D → Mem → Prop} (h : DE X kx e ρ M k) (hk : ∀ d m, k d m → P (.rt d) m) : DS1 X kx (.Return (some e) pos) ρ M P := fun σ H H0 t s W tk hx D c =>
  sS.by (ps_ret (pe_s e)) (h σ H H0 t s W tk hx D.rt fun v H' H0' d M' g t' r p => c.rt v H' H0' d M' g t' r (hk d M' p))
theorem ds1_retV {e : Expr} {pos : Pos} {d : D} (h : DV X kx e ρ M d) (hk : P (.rt d) M) : DS1 X kx (.Return (some e) pos) ρ M P :=
  ds1_ret (h.de (k := fun d' m => d' = d ∧ m = M) ⟨rfl, rfl⟩) fun d' m ⟨a, b⟩ => by subst a; subst b; exact hk
theorem ds1_expr {e : Expr} {pos : Pos} {k : D → Mem → Prop} (h : DE X kx e ρ M k) (hk : ∀ d m, k d m → P (.nx ρ) m) (hs : swapsWith e none pos.line X.env = pure false := by rfl) : DS1 X kx (.Expr e pos) ρ M P := fun σ H H0 t s W tk hx D c =>
  sS.by (ps_expr (pe_s e) hs) (h σ H H0 t s W tk hx (fun _ H1 => D.nx σ H1) fun v H' H0' d M' g t' r p => c.nx σ H' H0' ρ M' g t' (s.mo g.e0) (hk d M' p))
theorem ds1_if {c : Expr} {A B : List Stmt} {pos : Pos} {b : Bool} (hc : DT X kx c ρ M b) (h1 : b = true → DS X kx A ρ M P) (h2 : b = false → DS X kx B ρ M P) : DS1 X kx (.If c A B pos) ρ M P := fun σ H H0 t s W tk hx D cn =>
  sS.by (ps_if (pt_s c) (pss_s A) (pss_s B)) (hc σ H H0 t s W tk hx _ fun H' H0' p => by
    cases b with
    | true => exact h1 rfl σ H' H0' (t.pu p) (s.mo p.e0) W tk (hx.pu p) D (cn.step p.go)
    | false => exact h2 rfl σ H' H0' (t.pu p) (s.mo p.e0) W tk (hx.pu p) D (cn.step p.go))
/-- target = e -/
theorem ds1_asg {tg e : Expr} {pos : Pos} {k : D → Mem → Prop} (h : DE X kx e ρ M k) (hg : ∀ d m, k d m → ∃ ts ρ', DG X tg ts d ρ ρ' ∧ P (.nx ρ') m) (hs : swapsWithSole [tg] e pos.line X.env = pure false := by rfl) (hw : swappedStores [tg] e X.env = pure none := by rfl)
    (h1 : (assignEach [tg] X.env).map (·.2) = [assign tg X.env] := by rfl) : DS1 X kx (.Assign [tg] e pos) ρ M P := fun σ H H0 t s W tk hx D c =>
  sS.by (ps_asg (pe_s e) (pg_s tg) hs hw h1) (h σ H H0 t s W tk hx _ fun v H' H0' d M' g t' r p => by
    obtain ⟨ts, ρ', g1, p1⟩ := hg d M' p
    exact g1 σ H' H0' v t'.ex (s.mo g.e0) r _ fun σ' s' _ => c.nx σ' H' H0' ρ' M' g t' s' p1)
end
/-! ### names -/
structure Nm (X : Cx) (i : Nat) (x : Str) : Prop where
  get : X.N[i]? = some x
  vis : Vis X.env.scope x
  d1 : (x == ("__debug__" : Str)) = false
  d2 : (x == ("__classdict__" : Str)) = false
structure Ns (X : Cx) (i : Nat) (x : Str) : Prop extends Nm X i x where
  nd : X.N.Nodup
  loc : Loc X.env.scope x
  fn : X.fn x = true ∨ X.env.scope.names.lookup x = some .local
section
variable {X : Cx} {kx : XD} {ρ ρ' ρ'' : Ro} {M M' : Mem} {P : Out → Mem → Prop} {pos : Pos}
theorem dv_var {i : Nat} {x : Str} {d : D} (n : Nm X i x) (h : ρ[i]? = some (some d) := by rfl) : DV X kx (.Name x pos) ρ M d := fun σ H H0 t s W tk hx Q q =>
  let ⟨v, a, r⟩ := s.2 i d h
  sE.by (pe_var n.get n.vis n.d1 n.d2) ⟨v, a, q v H H0 (Pu.refl t.ex) r⟩
theorem dg_name {i : Nat} {x : Str} {d : D} (n : Ns X i x) : DG X (.Name x pos) [i] d ρ (ρ.set i (some d)) := fun σ H H0 v e s r Q q =>
  sG.by (pg_name n.nd n.get n.loc n.fn) (q _ (s.set r i) (But.set (by simp)))
theorem dgs_nil : DGs X [] [] [] ρ ρ := fun σ H H0 vs e s r Q q => sGs.by pgs_nil ⟨by cases r; rfl, q σ s But.refl⟩
theorem dgs_cons {tg : Expr} {tgs : List Expr} {ts us : List Nat} {d : D} {ds : List D} (h1 : DG X tg ts d ρ ρ') (h2 : DGs X tgs us ds ρ' ρ'') (hs : (assignEach (tg :: tgs) X.env).map (·.2) = assign tg X.env :: (assignEach tgs X.env).map (·.2) := by rfl) :
    DGs X (tg :: tgs) (ts ++ us) (d :: ds) ρ ρ'' := fun σ H H0 vs e s r Q q => by
  cases r with
  | cons a b => exact sGs.by (pgs_cons (pg_s tg) (pgs_s tgs) hs) ⟨_, _, rfl, h1 σ H H0 _ e s a _ fun σ' s' b1 => h2 σ' H H0 _ e s' b _ fun σ'' s'' b2 => q σ'' s'' ((b1.mono fun x h => List.mem_append_left _ h).trans (b2.mono fun x h => List.mem_append_right _ h))⟩
theorem dg_tup {es : List Expr} {ts : List Nat} {k : Nat} {ds : List D} (hc : X.calm = true) (h : DGs X es ts ds ρ ρ') (hn : (assignEach es X.env).length = ds.length := by rfl) (hst : (assignEach es X.env).findIdx? (·.1) = none := by rfl) : DG X (.Tuple es k pos) ts (.tup ds) ρ ρ' := fun σ H H0 v e s r Q q => by
  cases r with
  | tup a b => exact sG.by (pg_tup hc (pgs_s es) hn hst) ⟨_, _, rfl, SqT.of (e _ _ a), b.length, h σ H H0 _ e s b Q q⟩
theorem ds1_set {i : Nat} {x : Str} {e : Expr} {pos' : Pos} {d : D} (n : Ns X i x) (h : DV X kx e ρ M d) (hp : P (.nx (ρ.set i (some d))) M) (hs : swapsWithSole [.Name x pos'] e pos.line X.env = pure false := by rfl) (hw : swappedStores [.Name x pos'] e X.env = pure none := by rfl) :
    DS1 X kx (.Assign [.Name x pos'] e pos) ρ M P :=
  ds1_asg (h.de (k := fun d' m => d' = d ∧ m = M) ⟨rfl, rfl⟩) (fun d' m ⟨a, b⟩ => ⟨_, _, dg_name n, by subst a; subst b; exact hp⟩) hs hw
theorem ds1_setE {i : Nat} {x : Str} {e : Expr} {pos' : Pos} {k : D → Mem → Prop} (n : Ns X i x) (h : DE X kx e ρ M k) (hp : ∀ d m, k d m → P (.nx (ρ.set i (some d))) m) (hs : swapsWithSole [.Name x pos'] e pos.line X.env = pure false := by rfl) (hw : swappedStores [.Name x pos'] e X.env = pure none := by rfl) :
    DS1 X kx (.Assign [.Name x pos'] e pos) ρ M P :=
  ds1_asg h (fun d' m q => ⟨_, _, dg_name n, hp d' m q⟩) hs hw
theorem ds1_unp {tg e : Expr} {ts : List Nat} {d : D} (h : DV X kx e ρ M d) (hg : DG X tg ts d ρ ρ') (hp : P (.nx ρ') M) (hs : swapsWithSole [tg] e pos.line X.env = pure false := by rfl) (hw : swappedStores [tg] e X.env = pure none := by rfl)
    (h1 : (assignEach [tg] X.env).map (·.2) = [assign tg X.env] := by rfl) : DS1 X kx (.Assign [tg] e pos) ρ M P :=
  ds1_asg (h.de (k := fun d' m => d' = d ∧ m = M) ⟨rfl, rfl⟩) (fun d' m ⟨a, b⟩ => ⟨_, _, by subst a; exact hg, by subst b; exact hp⟩) hs hw h1
theorem dv_int {i j} : DV X kx (.Constant (.int i) j pos) ρ M (.int i) := fun σ H H0 t s W tk hx Q q => sE.by pe_int (q _ H H0 (Pu.refl t.ex) (.int i))
theorem dv_bl {i j} : DV X kx (.Constant (.bool i) j pos) ρ M (.bl i) := fun σ H H0 t s W tk hx Q q => sE.by pe_bl (q _ H H0 (Pu.refl t.ex) (.bl i))
theorem dv_non {j} : DV X kx (.Constant .none j pos) ρ M .non := fun σ H H0 t s W tk hx Q q => sE.by pe_non (q _ H H0 (Pu.refl t.ex) .non)
theorem dv_str {i j} : DV X kx (.Constant (.str i) j pos) ρ M (.str i) := fun σ H H0 t s W tk hx Q q => sE.by pe_str (q _ H H0 (Pu.refl t.ex) (.str i))
theorem da_nil : DA X kx [] ρ M [] := fun σ H H0 t s W tk hx Q q => sA.by pa_nil (q [] H H0 (Pu.refl t.ex) .nil)
theorem da_cons {e : Expr} {es : List Expr} {d : D} {ds : List D} (h1 : DV X kx e ρ M d) (h2 : DA X kx es ρ M ds) (hs : starEach (e :: es) X.env = (false, eval e X.env) :: starEach es X.env := by rfl) : DA X kx (e :: es) ρ M (d :: ds) := fun σ H H0 t s W tk hx Q q =>
  sA.by (pa_cons (pe_s e) (pa_s es) hs) (h1 σ H H0 t s W tk hx _ fun v H1 H01 p1 r1 => h2 σ H1 H01 (t.pu p1) (s.mo p1.e0) W tk (hx.pu p1) _ fun vs H2 H02 p2 r2 => q _ H2 H02 (p1.trans p2) (.cons (r1.mo p2.e0) r2))
/-! ### operators -/
def R2D (K : Frag) (r : R2) (M : Mem) (x y z : D) : Prop := ∀ (v u : V) (H H0 : Hp), Ht K H0 H M → Rep K H0 v x → Rep K H0 u y → ∀ (Q : VK), (∀ w H' H0', Pu H0 H H0' H' → Rep K H0' w z → Q w H') → r v u H Q
theorem dv_op {op : Operator} {r : R2} {a b : Expr} {x y z : D} (ho : OpR X (binaryOp op) r) (hr : R2D X.K r M x y z) (ha : DV X kx a ρ M x) (hb : DV X kx b ρ M y) : DV X kx (.BinOp a op b pos) ρ M z := fun σ H H0 t s W tk hx Q q =>
  sE.by (pe_op ho (pe_s a) (pe_s b)) (ha σ H H0 t s W tk hx _ fun v H1 H01 p1 r1 => hb σ H1 H01 (t.pu p1) (s.mo p1.e0) W tk (hx.pu p1) _ fun u H2 H02 p2 r2 =>
    hr v u H2 H02 (t.pu (p1.trans p2)) (r1.mo p2.e0) r2 Q fun w H3 H03 p3 r3 => q w H3 H03 ((p1.trans p2).trans p3) r3)
theorem dv_cmp {op : CmpOp} {r : R2} {a b : Expr} {x y z : D} (ho : OpR X (compareOp op) r) (hr : R2D X.K r M x y z) (ha : DV X kx a ρ M x) (hb : DV X kx b ρ M y) (hm : behindInMarks op b = false) : DV X kx (.Compare a [op] [b] pos) ρ M z := fun σ H H0 t s W tk hx Q q =>
  sE.by (pe_cmpR ho (pe_s a) (pe_s b) hm) (ha σ H H0 t s W tk hx _ fun v H1 H01 p1 r1 => hb σ H1 H01 (t.pu p1) (s.mo p1.e0) W tk (hx.pu p1) _ fun u H2 H02 p2 r2 =>
    hr v u H2 H02 (t.pu (p1.trans p2)) (r1.mo p2.e0) r2 Q fun w H3 H03 p3 r3 => q w H3 H03 ((p1.trans p2).trans p3) r3)
theorem dt_cmp {op : CmpOp} {r : R2} {a b : Expr} {x y : D} {z : Bool} (ho : OpR X (compareOp op) r) (hr : R2D X.K r M x y (.bl z)) (ha : DV X kx a ρ M x) (hb : DV X kx b ρ M y) (hm : behindInMarks op b = false) : DT X kx (.Compare a [op] [b] pos) ρ M z := fun σ H H0 t s W tk hx Q q =>
  sT.by (pt_cmpR ho (pe_s a) (pe_s b) hm) (ha σ H H0 t s W tk hx _ fun v H1 H01 p1 r1 => hb σ H1 H01 (t.pu p1) (s.mo p1.e0) W tk (hx.pu p1) _ fun u H2 H02 p2 r2 =>
    hr v u H2 H02 (t.pu (p1.trans p2)) (r1.mo p2.e0) r2 _ fun w H3 H03 p3 r3 => by cases r3; exact ⟨z, rfl, q H3 H03 ((p1.trans p2).trans p3)⟩)
theorem r2_ii {g : Int → Int → Int} {i j : Int} : R2D X.K (rI0 fun i j => .int (g i j)) M (.int i) (.int j) (.int (g i j)) := fun v u H H0 t r1 r2 Q q => by
  cases r1; cases r2; exact ⟨i, j, rfl, rfl, q _ H H0 (Pu.refl t.ex) (.int _)⟩
theorem r2_ib {g : Int → Int → Bool} {i j : Int} : R2D X.K (rI0 fun i j => .bl (g i j)) M (.int i) (.int j) (.bl (g i j)) := fun v u H H0 t r1 r2 Q q => by
  cases r1; cases r2; exact ⟨i, j, rfl, rfl, q _ H H0 (Pu.refl t.ex) (.bl _)⟩
theorem r2_iC {C : Int → Int → Prop} {g : Int → Int → Int} {i j : Int} (h : C i j) : R2D X.K (rI C fun i j => .int (g i j)) M (.int i) (.int j) (.int (g i j)) := fun v u H H0 t r1 r2 Q q => by
  cases r1; cases r2; exact ⟨i, j, rfl, rfl, h, q _ H H0 (Pu.refl t.ex) (.int _)⟩
variable {a b : Expr} {i j : Int}
theorem dv_add (ha : DV X kx a ρ M (.int i)) (hb : DV X kx b ρ M (.int j)) : DV X kx (.BinOp a .Add b pos) ρ M (.int (i + j)) := dv_op op_add r2_ii ha hb
theorem dv_sub (ha : DV X kx a ρ M (.int i)) (hb : DV X kx b ρ M (.int j)) : DV X kx (.BinOp a .Sub b pos) ρ M (.int (i - j)) := dv_op op_sub r2_ii ha hb
theorem dv_mul (ha : DV X kx a ρ M (.int i)) (hb : DV X kx b ρ M (.int j)) (h : CMul i j) : DV X kx (.BinOp a .Mult b pos) ρ M (.int (i * j)) := dv_op op_mul (r2_iC h) ha hb
theorem dv_mulW (ha : DV X kx a ρ M (.int i)) (hb : DV X kx b ρ M (.int j)) (h : CMulW i j) : DV X kx (.BinOp a .Mult b pos) ρ M (.int (i * j)) := dv_op op_mulW (r2_iC h) ha hb
theorem dv_fdiv (ha : DV X kx a ρ M (.int i)) (hb : DV X kx b ρ M (.int j)) (h : CDivW i j) : DV X kx (.BinOp a .FloorDiv b pos) ρ M (.int (i / j)) := dv_op op_fdivW (r2_iC h) ha hb
theorem dv_mod (ha : DV X kx a ρ M (.int i)) (hb : DV X kx b ρ M (.int j)) (h : 0 < j) : DV X kx (.BinOp a .Mod b pos) ρ M (.int (i % j)) := dv_op op_mod (r2_iC (C := fun _ j => 0 < j) h) ha hb
theorem dv_pow (ha : DV X kx a ρ M (.int i)) (hb : DV X kx b ρ M (.int j)) (h : CPow i j) : DV X kx (.BinOp a .Pow b pos) ρ M (.int (i ^ j.toNat)) := dv_op op_pow (r2_iC h) ha hb
theorem dt_gt (ha : DV X kx a ρ M (.int i)) (hb : DV X kx b ρ M (.int j)) : DT X kx (.Compare a [.Gt] [b] pos) ρ M (decide (j < i)) := dt_cmp op_gt r2_ib ha hb (nomark _)
theorem r2_eqi {i j : Int} : R2D X.K rEq M (.int i) (.int j) (.bl (decide (i = j))) := fun v u H H0 t r1 r2 Q q => by
  cases r1; cases r2
  refine ⟨rfl, ?_⟩
  rw [dec_int, Bool.beq_eq_decide_eq]
  exact q _ H H0 (Pu.refl t.ex) (.bl _)
theorem r2_nei {i j : Int} : R2D X.K rNe M (.int i) (.int j) (.bl (!decide (i = j))) := fun v u H H0 t r1 r2 Q q => by
  cases r1; cases r2
  refine ⟨rfl, ?_⟩
  rw [dec_int, Bool.beq_eq_decide_eq]
  exact q _ H H0 (Pu.refl t.ex) (.bl _)
theorem dv_nei (ha : DV X kx a ρ M (.int i)) (hb : DV X kx b ρ M (.int j)) : DV X kx (.Compare a [.NotEq] [b] pos) ρ M (.bl (!decide (i = j))) := dv_cmp op_ne r2_nei ha hb (nomark _)
theorem dt_eqi (ha : DV X kx a ρ M (.int i)) (hb : DV X kx b ρ M (.int j)) : DT X kx (.Compare a [.Eq] [b] pos) ρ M (decide (i = j)) := dt_cmp op_eq r2_eqi ha hb (nomark _)
end
end Dl

namespace Dl
open PySem PySem.Spec PyProof.Rows L2
section
variable {X : Cx} {kx : XD} {ρ ρ' ρ'' : Ro} {M M' : Mem} {P : Out → Mem → Prop} {pos : Pos} {a b c e : Expr} {es : List Expr} {x y z : D} {k l : Bool}
/-! ### tests -/
theorem dt_val (h : DV X kx e ρ M (.bl k)) (he : ∀ whole, isTrue e X.env whole = (do let v ← whole; standAt e.pos; holding [v] (truthy v)) := by intro _; rfl) : DT X kx e ρ M k := fun σ H H0 t s W tk hx Q q =>
  sT.by (pt_val (pe_s e) he) (h σ H H0 t s W tk hx _ fun v H' H0' p r => by cases r; exact ⟨k, rfl, q H' H0' p⟩)
theorem dt_not (h : DT X kx a ρ M k) : DT X kx (.UnaryOp .Not a pos) ρ M (!k) := fun σ H H0 t s W tk hx Q q =>
  sT.by (pt_not (pt_s a)) (h σ H H0 t s W tk hx _ fun H' H0' p => q H' H0' p)
theorem DW.t (h : DW X kx e ρ M k) : DT X kx e ρ M k := fun σ H H0 t s W tk hx Q q => sT.by (pw_s e).pt (h σ H H0 t s W tk hx Q q)
theorem dw_and1 (h : DT X kx a ρ M k) : DW X kx (.BoolOp .And [a] pos) ρ M k := fun σ H H0 t s W tk hx Q q => sW.by (pw_and1 (pt_s a)) (h σ H H0 t s W tk hx Q q)
theorem dw_or1 (h : DT X kx a ρ M k) : DW X kx (.BoolOp .Or [a] pos) ρ M k := fun σ H H0 t s W tk hx Q q => sW.by (pw_or1 (pt_s a)) (h σ H H0 t s W tk hx Q q)
theorem dw_and {rest : List Expr} (h1 : DT X kx a ρ M k) (h2 : k = true → DW X kx (.BoolOp .And (b :: rest) pos) ρ M l) : DW X kx (.BoolOp .And (a :: b :: rest) pos) ρ M (k && l) := fun σ H H0 t s W tk hx Q q =>
  sW.by (pw_and (pt_s a) (pw_s _)) (h1 σ H H0 t s W tk hx _ fun H' H0' p => by
    cases k with
    | true => exact iteT (h2 rfl σ H' H0' (t.pu p) (s.mo p.e0) W tk (hx.pu p) Q fun H2 H02 p2 => q H2 H02 (p.trans p2))
    | false => exact iteF (q H' H0' p))
theorem dw_or {rest : List Expr} (h1 : DT X kx a ρ M k) (h2 : k = false → DW X kx (.BoolOp .Or (b :: rest) pos) ρ M l) : DW X kx (.BoolOp .Or (a :: b :: rest) pos) ρ M (k || l) := fun σ H H0 t s W tk hx Q q =>
  sW.by (pw_or (pt_s a) (pw_s _)) (h1 σ H H0 t s W tk hx _ fun H' H0' p => by
    cases k with
    | true => exact iteT (q H' H0' p)
    | false => exact iteF (h2 rfl σ H' H0' (t.pu p) (s.mo p.e0) W tk (hx.pu p) Q fun H2 H02 p2 => q H2 H02 (p.trans p2)))
/-! the same as values -/
theorem dv_one {op} (h : DV X kx a ρ M x) : DV X kx (.BoolOp op [a] pos) ρ M x := fun σ H H0 t s W tk hx Q q => sE.by (pe_one (pe_s a)) (h σ H H0 t s W tk hx Q q)
theorem dv_and {rest : List Expr} (h1 : DV X kx a ρ M (.bl k)) (h2 : k = true → DV X kx (.BoolOp .And (b :: rest) pos) ρ M (.bl l)) : DV X kx (.BoolOp .And (a :: b :: rest) pos) ρ M (.bl (k && l)) := fun σ H H0 t s W tk hx Q q =>
  sE.by (pe_and (pe_s a) (pe_s _)) (h1 σ H H0 t s W tk hx _ fun v H' H0' p r => by
    cases r
    refine ⟨k, rfl, ?_⟩
    cases k with
    | true => exact iteT (h2 rfl σ H' H0' (t.pu p) (s.mo p.e0) W tk (hx.pu p) Q fun v H2 H02 p2 r2 => q v H2 H02 (p.trans p2) r2)
    | false => exact iteF (q _ H' H0' p (.bl false)))
theorem dv_or {rest : List Expr} (h1 : DV X kx a ρ M (.bl k)) (h2 : k = false → DV X kx (.BoolOp .Or (b :: rest) pos) ρ M (.bl l)) : DV X kx (.BoolOp .Or (a :: b :: rest) pos) ρ M (.bl (k || l)) := fun σ H H0 t s W tk hx Q q =>
  sE.by (pe_or (pe_s a) (pe_s _)) (h1 σ H H0 t s W tk hx _ fun v H' H0' p r => by
    cases r
    refine ⟨k, rfl, ?_⟩
    cases k with
    | true => exact iteT (q _ H' H0' p (.bl true))
    | false => exact iteF (h2 rfl σ H' H0' (t.pu p) (s.mo p.e0) W tk (hx.pu p) Q fun v H2 H02 p2 r2 => q v H2 H02 (p.trans p2) r2))
theorem dv_not (h : DV X kx a ρ M (.bl k)) : DV X kx (.UnaryOp .Not a pos) ρ M (.bl (!k)) := fun σ H H0 t s W tk hx Q q =>
  sE.by (pe_not (pe_s a)) (h σ H H0 t s W tk hx _ fun v H' H0' p r => by cases r; exact ⟨k, rfl, q _ H' H0' p (.bl _)⟩)
/-! ### None -/
def D.isNon : D → Bool
  | .non => true
  | _ => false
theorem rep_non {K : Frag} {H : Hp} {v : V} {d : D} (r : Rep K H v d) : decide (v = .non) = d.isNon := by
  cases r <;> rfl
theorem r2_isN : R2D X.K (fun x y H Q => y = .non ∧ Q (.bl (decide (x = .non))) H) M x .non (.bl x.isNon) := fun v u H H0 t r1 r2 Q q => by
  cases r2
  refine ⟨rfl, ?_⟩
  rw [rep_non r1]
  exact q _ H H0 (Pu.refl t.ex) (.bl _)
theorem dt_isN {j p2} (h : DV X kx a ρ M x) : DT X kx (.Compare a [.Is] [.Constant .none j p2] pos) ρ M x.isNon := dt_cmp op_isN r2_isN h dv_non (nomark _)
end
/-! ### data that compares -/
mutual
def D.py : D → PyData
  | .non => .none
  | .bl b => .bool b
  | .int i => .int i
  | .str x => .str x
  | .ty _ => .none
  | .lst xs => .list (D.pyA xs)
  | .scr xs => .list (D.pyA xs)
  | .tup xs => .tuple (D.pyA xs)
  | .ins _ _ _ => .none
  | .adr _ => .none
  | .dK _ _ => .none
  | .dT _ _ => .none
  | .exn _ _ _ => .none
def D.pyA : List D → List PyData
  | [] => []
  | d :: ds => d.py :: D.pyA ds
end
mutual
/-- no objects within -/
def D.flat : D → Bool
  | .non => true
  | .bl _ => true
  | .int _ => true
  | .str _ => true
  | .ty _ => false
  | .lst xs => D.flatA xs
  | .scr xs => D.flatA xs
  | .tup xs => D.flatA xs
  | .ins _ _ _ => false
  | .adr _ => false
  | .dK _ _ => false
  | .dT _ _ => false
  | .exn _ _ _ => false
def D.flatA : List D → Bool
  | [] => true
  | d :: ds => d.flat && D.flatA ds
end
mutual
theorem Rep.dp {K : Frag} {H : Hp} : ∀ (d : D) (v : V), d.flat = true → Rep K H v d → Dp K H v d.py
  | .non, _, f, h => by cases h; simp only [D.py]; exact .non
  | .bl b, _, f, h => by cases h; simp only [D.py]; exact .bl b
  | .int b, _, f, h => by cases h; simp only [D.py]; exact .int b
  | .str b, _, f, h => by cases h; simp only [D.py]; exact .str b
  | .ty b, _, f, h => by simp [D.flat] at f
  | .lst ds, _, f, h => by
    cases h with
    | lst a b =>
      simp only [D.py]
      exact .lst (SqL.of a) (RepA.dp ds _ (by simpa [D.flat] using f) b)
  | .scr ds, _, f, h => by
    cases h with
    | scr a b =>
      simp only [D.py]
      exact .lst a (RepA.dp ds _ (by simpa [D.flat] using f) b)
  | .tup ds, _, f, h => by
    cases h with
    | tup a b =>
      simp only [D.py]
      exact .tup (SqT.of a) (RepA.dp ds _ (by simpa [D.flat] using f) b)
  | .ins C ns ds, _, f, h => by simp [D.flat] at f
  | .adr a, _, f, h => by simp [D.flat] at f
  | .dK _ _, _, f, h => by simp [D.flat] at f
  | .dT _ _, _, f, h => by simp [D.flat] at f
  | .exn _ _ _, _, f, h => by simp [D.flat] at f
theorem RepA.dp {K : Frag} {H : Hp} : ∀ (ds : List D) (vs : List V), D.flatA ds = true → RepA K H vs ds → DpAll K H vs (D.pyA ds)
  | [], _, f, h => by cases h; simp only [D.pyA]; exact .nil
  | d :: ds, _, f, h => by
    simp only [D.flatA, Bool.and_eq_true] at f
    cases h with
    | cons a b =>
      simp only [D.pyA]
      exact .cons (Rep.dp d _ f.1 a) (RepA.dp ds _ f.2 b)
end
/-- a thing's data: it is flat, of small depth; == of two such things is k -/
structure Eqs (x y : D) (k : Bool) : Prop where
  fx : x.flat = true
  fy : y.flat = true
  sx : SeqAt.shaped x.py = true
  sy : SeqAt.shaped y.py = true
  eq : PyData.eqv x.py y.py = k
section
variable {X : Cx} {kx : XD} {ρ ρ' ρ'' : Ro} {M M' : Mem} {P : Out → Mem → Prop} {pos : Pos} {a b c e : Expr} {es : List Expr} {x y z : D} {k l : Bool}
theorem r2_eqD (h : Eqs x y k) : R2D X.K (rEqD X.K) M x y (.bl k) := fun v u H H0 t r1 r2 Q q =>
  ⟨x.py, y.py, Rep.dp _ _ h.fx (r1.mo t.ex), Rep.dp _ _ h.fy (r2.mo t.ex), h.sx, h.sy, by rw [h.eq]; exact q _ H H0 (Pu.refl t.ex) (.bl _)⟩
theorem r2_neD (h : Eqs x y k) : R2D X.K (rNeD X.K) M x y (.bl (!k)) := fun v u H H0 t r1 r2 Q q =>
  ⟨x.py, y.py, Rep.dp _ _ h.fx (r1.mo t.ex), Rep.dp _ _ h.fy (r2.mo t.ex), h.sx, h.sy, by rw [h.eq]; exact q _ H H0 (Pu.refl t.ex) (.bl _)⟩
theorem dv_eqD (hu : X.A.units + 64 < cLine) (ha : DV X kx a ρ M x) (hb : DV X kx b ρ M y) (h : Eqs x y k) : DV X kx (.Compare a [.Eq] [b] pos) ρ M (.bl k) := dv_cmp (op_eqD hu) (r2_eqD h) ha hb (nomark _)
theorem dt_eqD (hu : X.A.units + 64 < cLine) (ha : DV X kx a ρ M x) (hb : DV X kx b ρ M y) (h : Eqs x y k) : DT X kx (.Compare a [.Eq] [b] pos) ρ M k := dt_cmp (op_eqD hu) (r2_eqD h) ha hb (nomark _)
theorem dt_neD (hu : X.A.units + 64 < cLine) (ha : DV X kx a ρ M x) (hb : DV X kx b ρ M y) (h : Eqs x y k) : DT X kx (.Compare a [.NotEq] [b] pos) ρ M (!k) := dt_cmp (op_neD hu) (r2_neD h) ha hb (nomark _)
/-! ### displays -/
theorem dv_tup {n} {ds : List D} (h : DA X kx es ρ M ds) (hl : ds.length ≤ sizeLine) : DV X kx (.Tuple es n pos) ρ M (.tup ds) := fun σ H H0 t s W tk hx Q q =>
  sE.by (pe_tup (pa_s es)) (h σ H H0 t s W tk hx _ fun vs H' H0' p r => ⟨by rw [r.length]; exact hl, fun w hw =>
    let g := Pu.new1 p.ex hw (.tup vs)
    q (.ref w) _ _ (p.trans g) (.tup upd_same (r.mo g.e0))⟩)
theorem dv_lst {ds : List D} (h : DA X kx es ρ M ds) (hl : ds.length ≤ sizeLine) : DV X kx (.List es pos) ρ M (.lst ds) := fun σ H H0 t s W tk hx Q q =>
  sE.by (pe_lst (pa_s es)) (h σ H H0 t s W tk hx _ fun vs H' H0' p r => ⟨by rw [r.length]; exact hl, fun w hw =>
    let g := Pu.new1 p.ex hw (.lst vs)
    q (.ref w) _ _ (p.trans g) (.lst upd_same (r.mo g.e0))⟩)
/-- a row that is a list -/
inductive SeqL (M : Mem) : D → List D → Prop
  | lst (ds : List D) : SeqL M (.lst ds) ds
  | scr (ds : List D) : SeqL M (.scr ds) ds
  | adr {p : Addr} {ds : List D} : (p, Mu.lst ds) ∈ M → SeqL M (.adr p) ds
theorem SeqL.rep {x : D} {ds : List D} {v : V} {H H0 : Hp} (h : SeqL M x ds) (t : Ht X.K H0 H M) (r : Rep X.K H0 v x) : ∃ p vs, v = .ref p ∧ SqL X.K H p vs ∧ RepA X.K H0 vs ds := by
  cases h with
  | lst ds => cases r with | lst a b => exact ⟨_, _, rfl, SqL.of (t.ex _ _ a), b⟩
  | scr ds => cases r with | scr a b => exact ⟨_, _, rfl, t.ex.seq a, b⟩
  | adr hm =>
    cases r
    obtain ⟨_, vs, h1, h2⟩ := t.mem _ hm
    exact ⟨_, vs, rfl, SqL.of h1, h2⟩
/-- a list by itself: it may be put together with another one -/
inductive SeqO (M : Mem) : D → List D → Prop
  | lst (ds : List D) : SeqO M (.lst ds) ds
  | adr {p : Addr} {ds : List D} : (p, Mu.lst ds) ∈ M → SeqO M (.adr p) ds
theorem SeqO.rep {x : D} {ds : List D} {v : V} {H H0 : Hp} (h : SeqO M x ds) (t : Ht X.K H0 H M) (r : Rep X.K H0 v x) : ∃ p vs, v = .ref p ∧ H p = some (.lst vs) ∧ RepA X.K H0 vs ds := by
  cases h with
  | lst ds => cases r with | lst a b => exact ⟨_, _, rfl, t.ex _ _ a, b⟩
  | adr hm =>
    cases r
    obtain ⟨_, vs, h1, h2⟩ := t.mem _ hm
    exact ⟨_, vs, rfl, h1, h2⟩
/-! ### subscripts -/
theorem rep_ix {K : Frag} {H : Hp} {vs : List V} {ds : List D} {i : Int} {d : D} (r : RepA K H vs ds) (h : atI ds i = some d) : ∃ v, atI vs i = some v ∧ Rep K H v d := by
  unfold atI at h ⊢
  rw [r.length]
  cases e : ixN ds.length i with
  | none => rw [e] at h; cases h
  | some j =>
    rw [e] at h
    exact r.get h
theorem r2_ixL {ds : List D} {i : Int} {d : D} (hq : SeqL M x ds) (h : atI ds i = some d) : R2D X.K (rIxL X.K) M x (.int i) d := fun v u H H0 t r1 r2 Q q => by
  cases r2
  obtain ⟨p, vs, rfl, h1, h2⟩ := hq.rep t r1
  obtain ⟨w, h3, h4⟩ := rep_ix h2 h
  exact ⟨p, vs, i, w, rfl, rfl, h1, h3, q _ H H0 (Pu.refl t.ex) h4⟩
theorem r2_ixT {ds : List D} {i : Int} {d : D} (h : atI ds i = some d) : R2D X.K (rIxT X.K) M (.tup ds) (.int i) d := fun v u H H0 t r1 r2 Q q => by
  cases r2
  cases r1 with
  | tup a b =>
    obtain ⟨w, h1, h2⟩ := rep_ix b h
    exact ⟨_, _, i, w, rfl, rfl, SqT.of (t.ex _ _ a), h1, q _ H H0 (Pu.refl t.ex) h2⟩
theorem dv_ix {r : R2} (hr : IxR X r) (h : R2D X.K r M x y z) (ha : DV X kx a ρ M x) (hb : DV X kx b ρ M y) (hs : PlainIx b) : DV X kx (.Subscript a b pos) ρ M z := fun σ H H0 t s W tk hx Q q =>
  sE.by (pe_ix hr (pe_s a) (pe_s b) hs) (ha σ H H0 t s W tk hx _ fun v H1 H01 p1 r1 => hb σ H1 H01 (t.pu p1) (s.mo p1.e0) W tk (hx.pu p1) _ fun u H2 H02 p2 r2 =>
    h v u H2 H02 (t.pu (p1.trans p2)) (r1.mo p2.e0) r2 Q fun w H3 H03 p3 r3 => q w H3 H03 ((p1.trans p2).trans p3) r3)
theorem dv_ixS {ds : List D} {i : Int} {d : D} (ha : DV X kx a ρ M x) (hq : SeqL M x ds) (hb : DV X kx b ρ M (.int i)) (h : atI ds i = some d) (hs : PlainIx b := by intro _ _; rfl) : DV X kx (.Subscript a b pos) ρ M d := dv_ix ix_list (r2_ixL hq h) ha hb hs
theorem dv_ixT {ds : List D} {i : Int} {d : D} (ha : DV X kx a ρ M (.tup ds)) (hb : DV X kx b ρ M (.int i)) (h : atI ds i = some d) (hs : PlainIx b := by intro _ _; rfl) : DV X kx (.Subscript a b pos) ρ M d := dv_ix ix_tup (r2_ixT h) ha hb hs
/-! ### slices -/
def DO (X : Cx) (kx : XD) (e : Option Expr) (ρ : Ro) (M : Mem) (o : Option Int) : Prop :=
  match e with
  | none => o = none
  | some e => ∃ i, o = some i ∧ DV X kx e ρ M (.int i)
theorem do_none : DO X kx none ρ M none := rfl
theorem do_some {i : Int} (h : DV X kx e ρ M (.int i)) : DO X kx (some e) ρ M (some i) := ⟨i, rfl, h⟩
def sO (X : Cx) : Option Expr → TO
  | none => tNoPart
  | some e => tPart (sE X e)
theorem po_s : ∀ e : Option Expr, PO X e (sO X e)
  | none => po_none
  | some e => po_some (pe_s e)
theorem DO.run {o : Option Expr} {i : Option Int} (h : DO X kx o ρ M i) {σ : L2.St} {H H0 : Hp} (t : Ht X.K H0 H M) (s : Sl X.K H0 σ ρ) {W : WX} (tk : Takes X W) (hx : Hx X W H0 H M kx) {Q : Option Int → Hp → Prop} (q : ∀ H' H0', Pu H0 H H0' H' → Q i H') : sO X o σ H Q := by
  cases o with
  | none =>
    have e : i = none := h
    subst e
    exact q H H0 (Pu.refl t.ex)
  | some e =>
    obtain ⟨j, rfl, h⟩ := h
    exact h σ H H0 t s W tk hx _ fun v H' H0' p r => by cases r; exact ⟨j, rfl, q H' H0' p⟩
def cutD (xs : List D) (lo hi : Option Int) : List D := (xs.drop (HT.sIx xs.length 0 lo)).take (HT.sIx xs.length xs.length hi - HT.sIx xs.length 0 lo)
theorem rep_cut {K : Frag} {H : Hp} {vs : List V} {ds : List D} (r : RepA K H vs ds) (lo hi : Option Int) : RepA K H (cutV vs lo hi) (cutD ds lo hi) := by
  unfold cutV cutD
  rw [r.length]
  exact (r.drop _).take _
theorem dv_slS {lo hi : Option Expr} {p2} {i j : Option Int} {ds : List D} (ha : DV X kx a ρ M x) (hq : SeqL M x ds) (hl : DO X kx lo ρ M i) (hh : DO X kx hi ρ M j) : DV X kx (.Subscript a (.Slice lo hi none p2) pos) ρ M (.lst (cutD ds i j)) := fun σ H H0 t s W tk hx Q q =>
  sE.by (pe_slice sl_list (pe_s a) (po_s lo) (po_s hi)) (ha σ H H0 t s W tk hx _ fun v H1 H01 p1 r1 => hl.run (t.pu p1) (s.mo p1.e0) tk (hx.pu p1) fun H2 H02 p2 => hh.run (t.pu (p1.trans p2)) (s.mo (p1.trans p2).e0) tk (hx.pu (p1.trans p2)) fun H3 H03 p3 => by
    have p123 := (p1.trans p2).trans p3
    obtain ⟨p, vs, rfl, h1, h2⟩ := hq.rep (t.pu p123) (r1.mo (p2.trans p3).e0)
    refine ⟨_, vs, rfl, h1, fun w hw => ?_⟩
    have g := Pu.new1 p123.ex hw (.lst (cutV vs i j))
    exact q (.ref w) _ _ (p123.trans g) (.lst upd_same (rep_cut (h2.mo g.e0) i j)))
/-! ### built-ins called -/
/-- a global name that is a built-in's -/
structure Bn (X : Cx) (x : Str) (u : Value) : Prop where
  gl : Gl X x
  mg : X.mg x = none
  bt : bootBuiltins x = some u
  n : x ≠ "__name__"
  d : (x == ("__debug__" : Str)) = false
def RCD (K : Frag) (r : List V → Hp → VK → Prop) (M : Mem) (ds : List D) (z : D) : Prop := ∀ (vs : List V) (H H0 : Hp), Ht K H0 H M → RepA K H0 vs ds → ∀ (Q : VK), (∀ w H' H0', Pu H0 H H0' H' → Rep K H0' w z → Q w H') → r vs H Q
theorem dv_callB {id : String} {x : Str} {p : Pos} {r : List V → Hp → VK → Prop} {ds : List D} {z : D} (n : Bn X x (.builtin id)) (hc : CallR X (.builtin id) r) (hr : RCD X.K r M ds z) (ha : DA X kx (e :: es) ρ M ds)
    (he : starEach (e :: es) X.env = (false, eval e X.env) :: starEach es X.env := by rfl) (hpl : (backTo pos (starEach es X.env)).any (·.1) = false := by rfl) : DV X kx (.Call (.Name x p) (e :: es) [] pos) ρ M z := fun σ H H0 t s W tk hx Q q =>
  sE.by (pe_callB hc n.gl n.mg n.bt (pa_s _) n.n n.d he hpl) (ha σ H H0 t s W tk hx _ fun vs H1 H01 p1 r1 => hr vs H1 H01 (t.pu p1) r1 Q fun w H2 H02 p2 r2 => q w H2 H02 (p1.trans p2) r2)
theorem dv_callT {T : String} {x : Str} {p : Pos} {r : List V → Hp → VK → Prop} {ds : List D} {z : D} (n : Bn X x (.type T)) (hc : CallR X (.type T) r) (hr : RCD X.K r M ds z) (ha : DA X kx (e :: es) ρ M ds)
    (he : starEach (e :: es) X.env = (false, eval e X.env) :: starEach es X.env := by rfl) (hpl : (backTo pos (starEach es X.env)).any (·.1) = false := by rfl) : DV X kx (.Call (.Name x p) (e :: es) [] pos) ρ M z := fun σ H H0 t s W tk hx Q q =>
  sE.by (pe_callTy hc n.gl n.mg n.bt (pa_s _) n.n n.d he hpl) (ha σ H H0 t s W tk hx _ fun vs H1 H01 p1 r1 => hr vs H1 H01 (t.pu p1) r1 Q fun w H2 H02 p2 r2 => q w H2 H02 (p1.trans p2) r2)
theorem dv_bn {x : Str} {T : String} (n : Bn X x (.type T)) : DV X kx (.Name x pos) ρ M (.ty T) := fun σ H H0 t s W tk hx Q q =>
  sE.by (pe_bltn n.gl n.mg n.bt (v := .ty T) rfl n.n n.d) (q _ H H0 (Pu.refl t.ex) (.ty T))
theorem repA1 {K : Frag} {H : Hp} {vs : List V} {d : D} (r : RepA K H vs [d]) : ∃ v, vs = [v] ∧ Rep K H v d := by
  cases r with
  | cons a b => cases b; exact ⟨_, rfl, a⟩
theorem repA2 {K : Frag} {H : Hp} {vs : List V} {d d' : D} (r : RepA K H vs [d, d']) : ∃ v v', vs = [v, v'] ∧ Rep K H v d ∧ Rep K H v' d' := by
  cases r with
  | cons a b =>
    obtain ⟨v, rfl, r⟩ := repA1 b
    exact ⟨_, _, rfl, a, r⟩
/-- a thing of things in a row: a list, a tuple, a list that may change -/
inductive Seq (M : Mem) : D → List D → Prop
  | lst (ds : List D) : Seq M (.lst ds) ds
  | scr (ds : List D) : Seq M (.scr ds) ds
  | tup (ds : List D) : Seq M (.tup ds) ds
  | adr {p : Addr} {ds : List D} : (p, Mu.lst ds) ∈ M → Seq M (.adr p) ds
theorem Seq.rep {x : D} {ds : List D} {v : V} {H H0 : Hp} (h : Seq M x ds) (t : Ht X.K H0 H M) (r : Rep X.K H0 v x) : ∃ p vs, v = .ref p ∧ (SqL X.K H p vs ∨ SqT X.K H p vs) ∧ RepA X.K H0 vs ds := by
  cases h with
  | lst ds => cases r with | lst a b => exact ⟨_, _, rfl, .inl (SqL.of (t.ex _ _ a)), b⟩
  | scr ds => cases r with | scr a b => exact ⟨_, _, rfl, .inl (t.ex.seq a), b⟩
  | tup ds => cases r with | tup a b => exact ⟨_, _, rfl, .inr (SqT.of (t.ex _ _ a)), b⟩
  | adr hm =>
    cases r
    obtain ⟨_, vs, h1, h2⟩ := t.mem _ hm
    exact ⟨_, vs, rfl, .inl (SqL.of h1), h2⟩
variable {p : Pos}
theorem dv_len {ds : List D} {f : Str} (n : Bn X f (.builtin "len")) (ha : DV X kx e ρ M x) (h : Seq M x ds) (he : starEach [e] X.env = (false, eval e X.env) :: starEach [] X.env := by rfl) : DV X kx (.Call (.Name f p) [e] [] pos) ρ M (.int (ds.length : Int)) :=
  dv_callB n call_len_seq (fun vs H H0 t r Q q => by
    obtain ⟨v, rfl, r1⟩ := repA1 r
    obtain ⟨p, vs, rfl, h1, h2⟩ := h.rep t r1
    exact ⟨p, vs, rfl, h1, by rw [h2.length]; exact q _ H H0 (Pu.refl t.ex) (.int _)⟩) (da_cons ha da_nil he) he
theorem dv_lenS {z : Str} {f : Str} (n : Bn X f (.builtin "len")) (ha : DV X kx e ρ M (.str z)) (h : z.length ≤ sizeLine) (he : starEach [e] X.env = (false, eval e X.env) :: starEach [] X.env := by rfl) : DV X kx (.Call (.Name f p) [e] [] pos) ρ M (.int (z.length : Int)) :=
  dv_callB n call_len_str (fun vs H H0 t r Q q => by
    obtain ⟨v, rfl, r1⟩ := repA1 r
    cases r1
    exact ⟨z, rfl, h, q _ H H0 (Pu.refl t.ex) (.int _)⟩) (da_cons ha da_nil he) he
theorem Seq.ints {is : List Int} {v : V} {H H0 : Hp} (h : Seq M x (is.map D.int)) (t : Ht X.K H0 H M) (r : Rep X.K H0 v x) : ∃ p, v = .ref p ∧ (SqL X.K H p (is.map V.int) ∨ SqT X.K H p (is.map V.int)) := by
  obtain ⟨p, vs, rfl, h1, h2⟩ := h.rep t r
  have e := h2.ints
  subst e
  exact ⟨p, rfl, h1⟩
theorem SeqL.seq {ds : List D} (h : SeqL M x ds) : Seq M x ds := by
  cases h with
  | lst ds => exact .lst ds
  | scr ds => exact .scr ds
  | adr h => exact .adr h
theorem SeqL.ints {is : List Int} {v : V} {H H0 : Hp} (h : SeqL M x (is.map D.int)) (t : Ht X.K H0 H M) (r : Rep X.K H0 v x) : ∃ p, v = .ref p ∧ SqL X.K H p (is.map V.int) := by
  obtain ⟨p, vs, rfl, h1, h2⟩ := h.rep t r
  have e := h2.ints
  subst e
  exact ⟨p, rfl, h1⟩
theorem dv_all {bs : List Bool} {f : Str} (hc : X.calm = true) (n : Bn X f (.builtin "all")) (ha : DV X kx e ρ M x) (h : SeqL M x (bs.map D.bl)) (he : starEach [e] X.env = (false, eval e X.env) :: starEach [] X.env := by rfl) : DV X kx (.Call (.Name f p) [e] [] pos) ρ M (.bl (bs.all id)) :=
  dv_callB n (cr_all hc) (fun vs H H0 t r Q q => by
    obtain ⟨v, rfl, r1⟩ := repA1 r
    obtain ⟨p, vs, rfl, h1, h2⟩ := h.rep t r1
    have e := h2.bls
    subst e
    exact ⟨p, bs, rfl, h1, q _ H H0 (Pu.refl t.ex) (.bl _)⟩) (da_cons ha da_nil he) he
/-! isinstance of data, built-in classes -/
inductive TyN (M : Mem) : D → String → Prop
  | non : TyN M .non "NoneType"
  | bl (b : Bool) : TyN M (.bl b) "bool"
  | int (i : Int) : TyN M (.int i) "int"
  | str (s : Str) : TyN M (.str s) "str"
  | lst (ds : List D) : TyN M (.lst ds) "list"
  | scr (ds : List D) : TyN M (.scr ds) "list"
  | tup (ds : List D) : TyN M (.tup ds) "tuple"
  | adr {p : Addr} {ds : List D} : (p, Mu.lst ds) ∈ M → TyN M (.adr p) "list"
theorem tyx_L {K : Frag} {H : Hp} {a : Addr} {xs : List V} (h : SqL K H a xs) : TyX K H (.ref a) (.type "list") := by
  rcases h with (h | ⟨o, h⟩) | ⟨o, its, n, h1, h2, _⟩
  · exact .base (.lst h)
  · exact .base (.frz h)
  · exact .kList h1 h2
theorem tyx_T {K : Frag} {H : Hp} {a : Addr} {xs : List V} (h : SqT K H a xs) : TyX K H (.ref a) (.type "tuple") := by
  rcases h with (h | ⟨o, h⟩) | ⟨o, its, n, h1, h2, _⟩
  · exact .base (.tup h)
  · exact .fTuple h
  · exact .kTuple h1 h2
theorem TyN.tyx {T : String} {v : V} {H H0 : Hp} (h : TyN M x T) (t : Ht X.K H0 H M) (r : Rep X.K H0 v x) : TyX X.K H v (.type T) := by
  cases h with
  | non => cases r; exact .base .non
  | bl b => cases r; exact .base (.bl b)
  | int b => cases r; exact .base (.int b)
  | str b => cases r; exact .base (.str b)
  | lst ds => cases r with | lst a b => exact .base (.lst (t.ex _ _ a))
  | scr ds => cases r with | scr a b => exact tyx_L (t.ex.seq a)
  | tup ds => cases r with | tup a b => exact tyx_T (SqT.of (t.ex _ _ a))
  | adr hm =>
    cases r
    obtain ⟨_, vs, h1, h2⟩ := t.mem _ hm
    exact .base (.lst h1)
theorem dv_isi {T S : String} {f g : Str} {p2 : Pos} {k : Bool} (n : Bn X f (.builtin "isinstance")) (n2 : Bn X g (.type S)) (ha : DV X kx a ρ M x) (h : TyN M x T) (hk : kitB T S = some k)
    (he : starEach [a, .Name g p2] X.env = (false, eval a X.env) :: starEach [.Name g p2] X.env := by rfl) : DV X kx (.Call (.Name f p) [a, .Name g p2] [] pos) ρ M (.bl k) :=
  dv_callB n call_isi (fun vs H H0 t r Q q => by
    obtain ⟨v, u, rfl, r1, r2⟩ := repA2 r
    cases r2
    exact ⟨v, .ty S, .type T, .type S, k, rfl, .ty S, h.tyx t r1, kit_ty hk, q _ H H0 (Pu.refl t.ex) (.bl _)⟩) (da_cons ha (da_cons (dv_bn n2) da_nil) he) he
end
end Dl

namespace Dl
open PySem PySem.Spec PyProof.Rows L2
/-! ### where one stands -/
structure Bd (X : Cx) (N : List Str) (sc : Scope) (k : Nat) : Prop where
  hN : X.N = N
  hnd : N.Nodup
  hsc : X.env.scope = sc
  calm : X.calm = true
  room : Room k X.A
  po : PassesOwn (model X.prog X.w) X.A X.env X.xe
structure Bf (X : Cx) : Prop where
  fn : ∀ x, X.fn x = true
  stk : X.stack = X.env :: X.outer
  fr : X.env.frame = some X.env.locals
section
variable {X : Cx} {N : List Str} {sc : Scope} {k : Nat}
theorem Bd.hu (B : Bd X N sc k) : X.A.units + 64 < cLine := B.room.units
theorem Bd.nm (B : Bd X N sc k) {i : Nat} {x : Str} (h : N[i]? = some x) (v : Vis sc x) (d1 : (x == ("__debug__" : Str)) = false := by decide) (d2 : (x == ("__classdict__" : Str)) = false := by decide) : Nm X i x :=
  ⟨by rw [B.hN]; exact h, by rw [B.hsc]; exact v, d1, d2⟩
theorem Bd.ns (B : Bd X N sc k) {i : Nat} {x : Str} (h : N[i]? = some x) (v : sc.names.lookup x = some .local) (d1 : (x == ("__debug__" : Str)) = false := by decide) (d2 : (x == ("__classdict__" : Str)) = false := by decide) : Ns X i x :=
  { B.nm h (.inl v) d1 d2 with nd := by rw [B.hN]; exact B.hnd, loc := by rw [B.hsc]; exact .inl v, fn := .inr (by rw [B.hsc]; exact v) }
theorem Bd.gl (B : Bd X N sc k) {x : Str} (h : sc.names.lookup x = some .globalImplicit) : Gl X x := by
  show X.env.scope.names.lookup x = some .globalImplicit
  rw [B.hsc]; exact h
theorem Bd.bn (B : Bd X N sc k) {x : Str} {u : Value} (h : sc.names.lookup x = some .globalImplicit) (m : X.mg x = none) (b : bootBuiltins x = some u) (n : x ≠ "__name__" := by decide) (d : (x == ("__debug__" : Str)) = false := by decide) : Bn X x u :=
  ⟨B.gl h, m, b, n, d⟩
end
/-! ### what is walked -/
section
variable {X : Cx} {kx : XD} {ρ ρ' ρ'' : Ro} {M M' : Mem} {P : Out → Mem → Prop} {pos p : Pos} {tg a b c e : Expr} {es : List Expr} {x y z : D}
theorem wk_same {K : Frag} {J : It} {H0 : Hp} {ds : List D} {vs : List V} {G : Hp → Prop} (r : RepA K H0 vs ds) (hG : ∀ H, Same H0 H → G H) (w : Walk J vs.length G (YAt vs)) : WkD K J H0 ds :=
  ⟨G, YAt vs, by rw [← r.length]; exact w, hG, fun i H1 x H2 H01 d e0 e1 hd y => by
    obtain ⟨rfl, hx⟩ := y
    obtain ⟨v, hv, rv⟩ := r.get hd
    rw [hx] at hv; cases hv
    exact ⟨H01, Pu.refl e1, rv.mo e0⟩⟩
theorem di_list {ds : List D} (h : DV X kx e ρ M (.lst ds)) : DI X kx tg e ρ M ds := fun σ H H0 t s W tk hx R q =>
  sI.by (pi_list (pe_s e)) (h σ H H0 t s W tk hx _ fun v H' H0' p r => by
    cases r with
    | @lst a xs _ c d => exact ⟨a, rfl, ⟨xs, SqL.of (p.ex _ _ c)⟩, q _ H' H0' p (wk_same d (fun H e => SqL.of (e _ _ c)) walk_list)⟩)
/-- the numbers from lo on, n of them -/
def rngD (lo : Int) (n : Nat) : List Int := (List.range n).map fun i => lo + (i : Nat)
theorem rngD_length (lo : Int) (n : Nat) : (rngD lo n).length = n := by simp [rngD]
theorem rngD_get {lo : Int} {n i : Nat} {j : Int} (h : (rngD lo n)[i]? = some j) : i < n ∧ j = lo + (i : Nat) := by
  obtain ⟨h1, h2⟩ := List.getElem?_eq_some_iff.mp h
  rw [rngD_length] at h1
  refine ⟨h1, ?_⟩
  rw [← h2]
  simp [rngD]
theorem wk_range {K : Frag} {H0 : Hp} {lo : Int} {n : Nat} : WkD K (Itr lo n) H0 ((rngD lo n).map D.int) :=
  ⟨fun _ => True, _, by rw [List.length_map, rngD_length]; exact walk_range, fun _ _ => trivial, fun i H1 x H2 H01 d e0 e1 hd y => by
    obtain ⟨rfl, rfl⟩ := y
    rw [List.getElem?_map] at hd
    cases q : (rngD lo n)[i]? with
    | none => rw [q] at hd; cases hd
    | some j =>
      rw [q] at hd
      obtain ⟨_, rfl⟩ := rngD_get q
      cases hd
      exact ⟨H01, Pu.refl e1, .int _⟩⟩
theorem di_range1 {n : Int} (hg : Bn X "range" (.type "range")) (h : DV X kx e ρ M (.int n)) (h1 : -(2 ^ 62) ≤ n) (h2 : n < 2 ^ 62) (hs : starEach [e] X.env = [(false, eval e X.env)] := by rfl) : DI X kx tg (.Call (.Name "range" p) [e] [] pos) ρ M ((rngD 0 n.toNat).map D.int) := fun σ H H0 t s W tk hx R q =>
  sI.by (pi_range1 hg.gl hg.mg (pa_s [e]) hs) ((da_cons h da_nil hs : DA X kx [e] ρ M [.int n]) σ H H0 t s W tk hx _ fun vs H' H0' p r => by
    obtain ⟨v, rfl, r1⟩ := repA1 r
    cases r1
    exact ⟨n, rfl, h1, h2, q _ H' H0' p wk_range⟩)
/-! ### for -/
def forP (Inv : Nat → Ro → Mem → Prop) (i : Nat) (P : Out → Mem → Prop) : Out → Mem → Prop
  | .nx ρ, M => Inv (i + 1) ρ M
  | .ct ρ, M => Inv (i + 1) ρ M
  | .bk ρ, M => P (.nx ρ) M
  | .rt d, M => P (.rt d) M
theorem ds1_for {N : List Str} {sc : Scope} {k : Nat} {body : List Stmt} {ds : List D} (B : Bd X N sc k) (Inv : Nat → Ro → Mem → Prop) (hi : DI X kx tg e ρ M ds) (h0 : Inv 0 ρ M)
    (hs : ∀ (i : Nat) d ρ1 M1, ds[i]? = some d → Inv i ρ1 M1 → ∃ ts ρ2, DG X tg ts d ρ1 ρ2 ∧ DS X kx body ρ2 M1 (forP Inv i P)) (hd : ∀ ρ1 M1, Inv ds.length ρ1 M1 → P (.nx ρ1) M1)
    (hf : ∀ x, foldedSetIterable e X.env x = pure x := by intro _; rfl) : DS1 X kx (.For tg e body [] pos) ρ M P := fun σ H H0 t s W tk hx D cn =>
  sS.by (ps_for B.po B.calm (pi_s tg e) (pg_s tg) (pss_s body) hf) (hi σ H H0 t s W tk hx _ fun J HJ H0J pJ w => by
    obtain ⟨G, Y, w, hG, hY⟩ := w
    have tJ := t.pu pJ
    refine for_it w (fun i σ' H' => ∃ H0' ρ' M', Go H0J HJ M H0' H' M' ∧ Ht X.K H0' H' M' ∧ Sl X.K H0' σ' ρ' ∧ Inv i ρ' M') ⟨H0J, ρ, M, Go.refl, tJ, s.mo pJ.e0, h0⟩ (fun i σ' H' _ ⟨H0', ρ', M', g, t', _, _⟩ => hG H' (g.e0.trans t'.ex)) ?_ ?_
    · rintro i x σ1 H1 H2 hi ⟨H01, ρ1, M1, g1, t1, s1, inv⟩ y
      have hdd : ds[i]? = some ds[i] := List.getElem?_eq_getElem hi
      obtain ⟨H02, p2, r2⟩ := hY i H1 x H2 H01 _ g1.e0 t1.ex hdd y
      obtain ⟨ts, ρ2, hg, hb⟩ := hs i _ ρ1 M1 hdd inv
      have t2 := t1.pu p2
      have g2 := pJ.go.trans (g1.trans p2.go)
      refine hg σ1 H2 H02 x t2.ex (s1.mo p2.e0) r2 _ fun σ2 s2 _ => hb σ2 H2 H02 t2 s2 W tk (hx.step g2) _ ?_
      have gJ := g1.trans p2.go
      exact ⟨fun σ' H' H0' ρ' M' g t' s' q => ⟨H0', ρ', M', gJ.trans g, t', s', q⟩, fun σ' H' H0' ρ' M' g t' s' q => cn.nx σ' H' H0' ρ' M' (g2.trans g) t' s' q,
        fun σ' H' H0' ρ' M' g t' s' q => ⟨H0', ρ', M', gJ.trans g, t', s', q⟩, fun v H' H0' d M' g t' r q => cn.rt v H' H0' d M' (g2.trans g) t' r q⟩
    · rintro σ1 H1 ⟨H01, ρ1, M1, g1, t1, s1, inv⟩
      exact cn.nx σ1 H1 H01 ρ1 M1 (pJ.go.trans g1) t1 s1 (hd ρ1 M1 inv))
/-- a walk over typed things -/
theorem ds1_forT {α : Type} {xs : List α} {enc : α → D} {N : List Str} {sc : Scope} {k : Nat} {body : List Stmt} (B : Bd X N sc k) (Inv : Nat → Ro → Mem → Prop) (hi : DI X kx tg e ρ M (xs.map enc)) (h0 : Inv 0 ρ M)
    (hs : ∀ (i : Nat) x ρ1 M1, xs[i]? = some x → Inv i ρ1 M1 → ∃ ts ρ2, DG X tg ts (enc x) ρ1 ρ2 ∧ DS X kx body ρ2 M1 (forP Inv i P)) (hd : ∀ ρ1 M1, Inv xs.length ρ1 M1 → P (.nx ρ1) M1)
    (hf : ∀ x, foldedSetIterable e X.env x = pure x := by intro _; rfl) : DS1 X kx (.For tg e body [] pos) ρ M P :=
  ds1_for B Inv hi h0 (fun i d ρ1 M1 h inv => by
    rw [List.getElem?_map] at h
    cases q : xs[i]? with
    | none => rw [q] at h; cases h
    | some x =>
      rw [q] at h
      cases h
      exact hs i x ρ1 M1 q inv) (fun ρ1 M1 inv => hd ρ1 M1 (by rw [List.length_map] at inv; exact inv)) hf
/-- slots forgotten, place by place -/
def FgtL : Ro → Ro → Prop
  | [], [] => True
  | x :: xs, y :: ys => (y = none ∨ x = y) ∧ FgtL xs ys
  | _, _ => False
theorem FgtL.fgt : ∀ {ρ ρ' : Ro}, FgtL ρ ρ' → Fgt ρ ρ'
  | [], [], _ => ⟨rfl, fun i d h => by simp at h⟩
  | x :: xs, y :: ys, ⟨h, r⟩ => by
    obtain ⟨h1, h2⟩ := FgtL.fgt r
    refine ⟨by rw [List.length_cons, List.length_cons, h1], fun i d e => ?_⟩
    cases i with
    | zero =>
      rcases h with h | h
      · subst h; simp at e
      · subst h; exact e
    | succ i => exact h2 i d (by simpa using e)
  | [], _ :: _, h => h.elim
  | _ :: _, [], h => h.elim
/-- a loop that carries a state: the slots R, what may change Mf -/
def foldP {β : Type} (R : β → Ro) (Mf : β → Mem) (J : Nat → β → Prop) (i : Nat) (st : β) (P : Out → Mem → Prop) : Out → Mem → Prop
  | .nx ρ, M => FgtL ρ (R st) ∧ M = Mf st ∧ J (i + 1) st
  | .ct ρ, M => FgtL ρ (R st) ∧ M = Mf st ∧ J (i + 1) st
  | .bk ρ, M => P (.nx ρ) M
  | .rt d, M => P (.rt d) M
theorem then_fgt {rest : List Stmt} : ∀ ρ1 ρ2 M1, Fgt ρ1 ρ2 → thenP X kx rest P (.nx ρ2) M1 → thenP X kx rest P (.nx ρ1) M1 := fun ρ1 ρ2 M1 f h => DS.fgt h f
/-! ### while -/
def whP (Inv : Nat → Ro → Mem → Prop) (m : Nat) (P : Out → Mem → Prop) : Out → Mem → Prop
  | .nx ρ, M => ∃ m', m' < m ∧ Inv m' ρ M
  | .ct ρ, M => ∃ m', m' < m ∧ Inv m' ρ M
  | .bk ρ, M => P (.nx ρ) M
  | .rt d, M => P (.rt d) M
/-! ### comprehensions -/
theorem dts_nil : DTs X kx [] ρ M true := fun σ H H0 t s W tk hx Q q => sTs.by pts_nil (q H H0 (Pu.refl t.ex))
def wipeD (ρ : Ro) : List Nat → Ro
  | [] => ρ
  | v :: vs => (wipeD ρ vs).set v none
theorem Sl.clr {K : Frag} {H0 : Hp} {σ : L2.St} {ρ : Ro} (h : Sl K H0 σ ρ) (i : Nat) : Sl K H0 (σ.set i none) (ρ.set i none) := by
  refine ⟨by rw [List.length_set, List.length_set]; exact h.1, fun j d' e => ?_⟩
  by_cases hj : i = j
  · subst hj
    by_cases hi : i < ρ.length
    · rw [List.getElem?_set_self hi] at e; cases e
    · rw [List.getElem?_eq_none (by rw [List.length_set]; omega)] at e; cases e
  · rw [List.getElem?_set_ne hj] at e ⊢
    exact h.2 j d' e
theorem Sl.wipe {K : Frag} {H0 : Hp} {σ : L2.St} {ρ : Ro} (h : Sl K H0 σ ρ) : ∀ vs, Sl K H0 (L2.wipe σ vs) (wipeD ρ vs)
  | [] => h
  | v :: vs => (Sl.wipe h vs).clr v
theorem takesN {X : Cx} : Takes X (fun _ _ _ _ => False) := fun _ _ x => by
  obtain ⟨_, _, _, _, _, _, _, _, _, _, _, _, _, _, _, _, z⟩ := x
  exact z.elim
/-- a block's own place -/
abbrev Cx.bk (X : Cx) (csc : Scope) (s : Shared) (H : Hp) (C : Addr) (cl : List (Str × Addr)) (fp : List Addr) : Cx := X.blk s H csc (compEnvC csc cl C X.env) fp
theorem Bd.blk {N : List Str} {sc csc : Scope} {k : Nat} (B : Bd X N sc k) (s : Shared) (H : Hp) (C : Addr) (cl : List (Str × Addr)) (fp : List Addr) : Bd (Cx.bk X csc s H C cl fp) N (relS csc sc) k where
  hN := B.hN
  hnd := B.hnd
  hsc := by
    rw [← B.hsc]
    rfl
  calm := B.calm
  room := B.room
  po := PassesOwn.never
theorem wipe_wipe (σ : L2.St) (vs : List Nat) : L2.wipe (L2.wipe σ vs) vs = L2.wipe σ vs := by
  refine List.ext_getElem? fun j => ?_
  rw [wipe_at, wipe_at, wipe_length]
  by_cases hj : j ∈ vs ∧ j < σ.length
  · rw [if_pos hj, if_pos hj]
  · rw [if_neg hj]
def uG (X : Cx) (csc : Scope) (tg : Expr) : TG := fun v σ H Q => ∀ s H' C cl fp, sG (Cx.bk X csc s H' C cl fp) tg v σ H Q
def uT (X : Cx) (csc : Scope) (ifs : List Expr) : TT := fun σ H Q => ∀ s H' C cl fp, sTs (Cx.bk X csc s H' C cl fp) ifs σ H Q
def uE (X : Cx) (csc : Scope) (elt : Expr) : TE := fun σ H Q => ∀ s H' C cl fp, sE (Cx.bk X csc s H' C cl fp) elt σ H Q
section
variable {α : Type} {N : List Str} {sc csc : Scope} {k : Nat}
def outs (xs : List α) (cnd : α → Bool) (f : α → D) : List D := (xs.filter cnd).map f
theorem outs_yes {xs : List α} {cnd : α → Bool} {f : α → D} {i : Nat} {x : α} (h : xs[i]? = some x) (hc : cnd x = true) : outs (xs.take (i + 1)) cnd f = outs (xs.take i) cnd f ++ [f x] := by
  unfold outs
  rw [List.take_add_one, h, Option.toList_some, List.filter_append, List.map_append, List.filter_cons, if_pos hc] <;> rfl
theorem outs_no {xs : List α} {cnd : α → Bool} {f : α → D} {i : Nat} {x : α} (h : xs[i]? = some x) (hc : cnd x = false) : outs (xs.take (i + 1)) cnd f = outs (xs.take i) cnd f := by
  unfold outs
  rw [List.take_add_one, h, Option.toList_some, List.filter_append, List.map_append, List.filter_cons, if_neg (by rw [hc]; decide)]
  show _ ++ [] = _
  rw [List.append_nil]
theorem outs_len (xs : List α) (cnd : α → Bool) (f : α → D) : (outs xs cnd f).length ≤ xs.length := by
  unfold outs
  rw [List.length_map]
  exact List.length_filter_le _ _
/-- what a clause does, for every place it may stand at -/
def LcB (X : Cx) (N : List Str) (sc csc : Scope) (k : Nat) (own : List (Str × Nat)) (tg elt : Expr) (ifs : List Expr) (ρ : Ro) (M : Mem) (d : D) (b : Bool) (z : D) : Prop :=
  ∃ ts ρ2, (∀ i ∈ ts, i ∈ own.map (·.2)) ∧ ∀ s H C cl fp w acc, Bd (Cx.bk X csc s H C cl fp) N (relS csc sc) k → DG (Cx.bk X csc s H C cl fp) tg ts d (wipeD ρ (own.map (·.2))) ρ2 ∧ DTs (Cx.bk X csc s H C cl fp) kx0 ifs ρ2 ((w, .lst acc) :: M) b ∧
    (b = true → DV (Cx.bk X csc s H C cl fp) kx0 elt ρ2 ((w, .lst acc) :: M) z)
/-- the reading of a block, uniform -/
theorem lc_read {own : List (Str × Nat)} {elt : Expr} {ifs : List Expr} {xs : List α} {enc : α → D} {cnd : α → Bool} {f : α → D} {σ : L2.St} {H H0 : Hp} {W : WX} {Q : VK}
    (hi : DI X kx tg e ρ M (xs.map enc)) (B : Bd X N sc k) (hl : xs.length < sizeLine) (h : ∀ x, x ∈ xs → LcB X N sc csc k own tg elt ifs ρ M (enc x) (cnd x) (f x))
    (t : Ht X.K H0 H M) (s : Sl X.K H0 σ ρ) (tk : Takes X W) (hx : Hx X W H0 H M kx) (q : ∀ w H' H0', Go H0 H M H0' H' ((w, .lst (outs xs cnd f)) :: M) → Ht X.K H0' H' ((w, .lst (outs xs cnd f)) :: M) → w ∉ M.dom → Same H H' → Q (.ref w) H') :
    tLc (sI X tg e) (uG X csc tg) (uT X csc ifs) (uE X csc elt) (own.map (·.2)) σ H Q := by
  refine hi σ H H0 t s W tk hx _ fun J HJ H0J pJ w => ?_
  intro L hL
  obtain ⟨G, Y, w, hG, hY⟩ := w
  rw [List.length_map] at w
  have tJ := t.pu pJ
  have hL0 := tJ.free hL
  refine lc_it (g := uG X csc tg) (tt := uT X csc ifs) (te := uE X csc elt) (vs := own.map (·.2)) (σ := σ) (D := L) (H1 := HJ) (Qd := fun H' => Q (.ref L) H') w (fun i H' => ∃ H0' acc, Pu H0J HJ H0' (upd H' L (.lst [])) ∧ H0' L = none ∧ H' L = some (.lst acc) ∧ RepA X.K H0' acc (outs (xs.take i) cnd f) ∧ Same H0' H' ∧ (∀ a o, HJ a = some o → H' a = some o)) ?_ ?_ ?_ ?_
  · refine ⟨H0J, [], ?_, hL0.1, upd_same, .nil, pJ.ex.trans (same_new hL), fun a o e => same_new hL a o e⟩
    rw [upd_upd]
    exact ⟨Same.refl _, same_new hL, pJ.ex.trans (same_new hL), fun _ h _ => h⟩
  · rintro i H' _ ⟨H0', acc, p, _, _, _, e, _⟩
    exact hG H' (p.e0.trans e)
  · rintro i x H1 H2 hi2 ⟨H01, acc, p1, n1, l1, r1, e1, k1⟩ y
    have hx2 : xs[i]? = some xs[i] := List.getElem?_eq_getElem hi2
    have hdd : (xs.map enc)[i]? = some (enc xs[i]) := by rw [List.getElem?_map, hx2]; rfl
    obtain ⟨H02, p2, r2⟩ := hY i H1 x H2 H01 _ p1.e0 e1 hdd y
    obtain ⟨ts, ρ2, hts, hb⟩ := h xs[i] (List.getElem_mem hi2)
    have l2 : H2 L = some (.lst acc) := p2.e _ _ l1
    have n2 : H02 L = none := p2.new L n1 (by rw [l1]; exact trivial)
    -- the state within: the list among what may change
    have tt : ∀ {Ha H0a : Hp}, Pu H02 H2 H0a Ha → Ht X.K H0a Ha ((L, .lst (outs (xs.take i) cnd f)) :: M) := fun {Ha H0a} pa => by
      have lA : Ha L = some (.lst acc) := pa.e _ _ l2
      refine ⟨pa.ex, List.nodup_cons.mpr ⟨hL0.2, t.nd⟩, fun m hm => ?_⟩
      rcases List.mem_cons.mp hm with rfl | hm
      · exact ⟨pa.new L n2 (by rw [l2]; exact trivial), acc, lA, r1.mo (p2.e0.trans pa.e0)⟩
      · obtain ⟨m1, m2⟩ := tJ.mem m hm
        obtain ⟨o, ho⟩ := m2.there
        have o1 := k1 _ _ ho
        have o2 := p2.e _ _ o1
        have z1 : H01 m.1 = none := p1.new _ m1 m2.nt
        refine ⟨pa.new _ (p2.new _ z1 (m2.nt.keep fun o e => k1 _ _ e)) ((m2.nt.keep fun o e => k1 _ _ e).keep fun o e => p2.e _ _ e), m2.mono (p1.e0.trans (p2.e0.trans pa.e0)) fun o' e' => ?_⟩
        exact pa.e _ _ (p2.e _ _ (k1 _ _ e'))
    have sw : Sl X.K H02 (L2.wipe σ (own.map (·.2))) (wipeD ρ (own.map (·.2))) := (s.wipe _).mo (pJ.e0.trans (p1.e0.trans p2.e0))
    intro s' H' C cl fp
    refine (hb s' H' C cl fp L (outs (xs.take i) cnd f) (B.blk s' H' C cl fp)).1 _ H2 H02 x p2.ex sw r2 _ fun σ2 s2 bt => ⟨(bt _ hts).trans (wipe_wipe σ _), ?_⟩
    intro s'' H'' C' cl' fp'
    refine (hb s'' H'' C' cl' fp' L (outs (xs.take i) cnd f) (B.blk s'' H'' C' cl' fp')).2.1 σ2 H2 H02 (tt (Pu.refl p2.ex)) s2 _ takesN Hx.none _ fun H3 H03 p3 => ?_
    have p13 := p2.trans p3
    have back : ∀ {Ha H0a : Hp} {l : List V}, Pu H01 H1 H0a Ha → Pu H0J HJ H0a (upd (upd Ha L (.lst l)) L (.lst [])) := fun {Ha H0a l} pa => by
      have na : H0a L = none := pa.new L n1 (by rw [l1]; exact trivial)
      rw [upd_upd]
      refine ⟨p1.e0.trans pa.e0, fun b o eb => ?_, fun b o eb => ?_, fun b h1 h2 => ?_⟩
      · rw [upd_ne (ne_of_none eb hL)]; exact pa.e _ _ (k1 _ _ eb)
      · rw [upd_ne (ne_of_none eb na)]; exact pa.ex _ _ eb
      · exact pa.new b (p1.new b h1 h2) (h2.keep fun o e => k1 _ _ e)
    have keep : ∀ {Ha H0a : Hp} {l : List V}, Pu H01 H1 H0a Ha → (∀ a o, HJ a = some o → (upd Ha L (.lst l)) a = some o) := fun {Ha H0a l} pa a o ea => by
      rw [upd_ne (ne_of_none ea hL)]; exact pa.e _ _ (k1 _ _ ea)
    have same : ∀ {Ha H0a : Hp} {l : List V}, Pu H01 H1 H0a Ha → Same H0a (upd Ha L (.lst l)) := fun {Ha H0a l} pa b o eb => by
      have na : H0a L = none := pa.new L n1 (by rw [l1]; exact trivial)
      rw [upd_ne (ne_of_none eb na)]; exact pa.ex _ _ eb
    have nl : ∀ {Ha H0a : Hp}, Pu H01 H1 H0a Ha → H0a L = none := fun {Ha H0a} pa => pa.new L n1 (by rw [l1]; exact trivial)
    cases hc : cnd xs[i] with
    | true =>
      refine iteT ?_
      intro s3 H3' C3 cl3 fp3
      refine (hb s3 H3' C3 cl3 fp3 L (outs (xs.take i) cnd f) (B.blk s3 H3' C3 cl3 fp3)).2.2 hc σ2 H3 H03 (tt p3) (s2.mo p3.e0) _ takesN Hx.none _ fun v H4 H04 p4 r4 => ?_
      have p14 := p13.trans p4
      refine ⟨acc, p14.e _ _ l1, ?_, H04, acc ++ [v], back p14, nl p14, upd_same, ?_, same p14, keep p14⟩
      · have e2 := r1.length
        have e3 := outs_len (xs.take i) cnd f
        rw [List.length_take] at e3
        omega
      · rw [outs_yes hx2 hc]
        exact (r1.mo p14.e0).app (.one r4)
    | false =>
      refine iteF ⟨H03, acc, ?_, nl p13, p13.e _ _ l1, ?_, p13.ex, fun a o ea => p13.e _ _ (k1 _ _ ea)⟩
      · have z := back (l := acc) p13
        rw [upd_upd] at z
        exact z
      · rw [outs_no hx2 hc]
        exact r1.mo p13.e0
  · rintro H' ⟨H0', acc, p, n, l, r, e, kk⟩
    rw [List.take_length] at r
    have g : Go H0J HJ M H0' H' ((L, .lst (outs xs cnd f)) :: M) := by
      refine ⟨p.e0, fun b o eb _ => kk _ _ eb, fun b h1 h2 _ => p.new b h1 h2, fun b hb => ?_⟩
      rcases List.mem_cons.mp (show b ∈ L :: M.dom from hb) with rfl | hb
      · exact .inr hL
      · exact .inl hb
    refine q L H' H0' (pJ.go.trans g) ⟨e, List.nodup_cons.mpr ⟨hL0.2, t.nd⟩, fun m hm => ?_⟩ hL0.2 (pJ.e.trans kk)
    rcases List.mem_cons.mp hm with rfl | hm
    · exact ⟨n, acc, l, r⟩
    · obtain ⟨m1, m2⟩ := tJ.mem m hm
      obtain ⟨o, ho⟩ := m2.there
      exact ⟨p.new _ m1 m2.nt, m2.mono p.e0 fun o' e' => kk _ _ e'⟩
end
end
/-! ### what may change no more -/
section
variable {K : Frag} {H0 H : Hp} {M : Mem}
theorem Ht.frz (t : Ht K H0 H M) {w : Addr} {ds : List D} (h : (w, Mu.lst ds) ∈ M) : ∃ H0', Same H0 H0' ∧ Ht K H0' H (M.filter fun p => decide (p.1 ≠ w)) ∧ Rep K H0' (.ref w) (.lst ds) ∧ Go H0 H M H0' H (M.filter fun p => decide (p.1 ≠ w)) := by
  obtain ⟨h0, vs, h1, h2⟩ := t.mem _ h
  have sm : Same H0 (upd H0 w (.lst vs)) := same_new h0
  have sub : ∀ q ∈ M.filter fun p => decide (p.1 ≠ w), q ∈ M ∧ q.1 ≠ w := fun q hq => by
    obtain ⟨a, b⟩ := List.mem_filter.mp hq
    exact ⟨a, of_decide_eq_true b⟩
  refine ⟨_, sm, ⟨fun b o e => ?_, ?_, fun q hq => ?_⟩, .lst upd_same (h2.mo sm), ⟨sm, fun _ _ e _ => e, fun a a1 a2 a3 => ?_, fun a ha => ?_⟩⟩
  · by_cases hb : b = w
    · subst hb; rw [upd_same] at e; cases e; exact h1
    · rw [upd_ne hb] at e; exact t.ex _ _ e
  · exact t.nd.sublist (List.Sublist.map _ List.filter_sublist)
  · obtain ⟨a, b⟩ := sub q hq
    obtain ⟨c, d⟩ := t.mem q a
    exact ⟨by rw [upd_ne b]; exact c, d.mono sm fun _ e => e⟩
  · rw [upd_ne (fun z => a3 (by rw [z]; exact List.mem_map.mpr ⟨_, h, rfl⟩))]; exact a1
  · obtain ⟨q, hq, rfl⟩ := List.mem_map.mp ha
    exact .inl (List.mem_map.mpr ⟨q, (sub q hq).1, rfl⟩)
end
end Dl

namespace Dl
open PySem PySem.Spec PyProof.Rows L2
/-! ### promises -/
/-- a def that changes nothing of what stood -/
def spP (K : Frag) {α : Type} (args : α → List D) (pre : α → Prop) (post : α → D → Prop) (ex : α → Value → List (Str × D) → Prop) : Sp := fun vs H Q E =>
  ∃ x H0, Same H0 H ∧ RepA K H0 vs (args x) ∧ pre x ∧ (∀ v H' H0' d, Pu H0 H H0' H' → Rep K H0' v d → post x d → Q v H') ∧
    (∀ cls dd H' H0' fs, Pu H0 H H0' H' → XRep K H0' H' dd fs → ex x cls fs → E cls dd H')
/-- a def that changes what stands at Mi -/
def spM (K : Frag) {α : Type} (args : α → List D) (Mi : α → Mem) (pre : α → Prop) (post : α → D → Mem → Prop) (ex : α → Value → List (Str × D) → Mem → Prop) : Sp := fun vs H Q E =>
  ∃ x H0, Ht K H0 H (Mi x) ∧ RepA K H0 vs (args x) ∧ pre x ∧ (∀ v H' H0' d M', Go H0 H (Mi x) H0' H' M' → Ht K H0' H' M' → Rep K H0' v d → post x d M' → Q v H') ∧
    (∀ cls dd H' H0' fs M', Go H0 H (Mi x) H0' H' M' → Ht K H0' H' M' → XRep K H0' H' dd fs → ex x cls fs M' → E cls dd H')
def startD (N : List Str) (ds : List D) : Ro := ds.map some ++ List.replicate (N.length - ds.length) none
def retP (post : D → Mem → Prop) : Out → Mem → Prop
  | .rt d, M => post d M
  | .nx _, M => post .non M
  | .bk _, _ => False
  | .ct _, _ => False
theorem start_rep {K : Frag} {H0 : Hp} {N : List Str} {vs : List V} {ds : List D} (r : RepA K H0 vs ds) : Sl K H0 (L2.start N vs) (startD N ds) := by
  unfold L2.start startD
  refine ⟨by simp [r.length], fun i d h => ?_⟩
  by_cases hi : i < ds.length
  · rw [List.getElem?_append_left (by simpa using hi), List.getElem?_map] at h
    rw [List.getElem?_append_left (by rw [List.length_map, r.length]; exact hi), List.getElem?_map]
    cases e : ds[i]? with
    | none => rw [e] at h; cases h
    | some d' =>
      rw [e] at h
      cases h
      obtain ⟨v, h1, h2⟩ := r.get e
      exact ⟨v, by rw [h1]; rfl, h2⟩
  · rw [List.getElem?_append_right (by simpa using hi)] at h
    have h2 := List.mem_of_getElem? h
    have h3 := List.eq_of_mem_replicate h2
    cases h3
section
variable {P : Program} {w : World} {K : Frag} {mg : Str → Option Value} {base : Heap} {α : Type}
theorem bd_of {qual : Str} {sc : Scope} {N ps : List Str} {k : Nat} {f : Addr} {cd : Value} {A : Around} {outer : List Env} {s : Shared} {H : Hp} {E : XK} (S : FnScope N ps sc) (hr : Room k (A.deeper (envOfC qual sc s.heap.objs.size f cd))) :
    Bd (cxOf (L2.CX P w) P w K mg base N qual sc f cd A outer s H E) N sc k ∧ Bf (cxOf (L2.CX P w) P w K mg base N qual sc f cd A outer s H E) :=
  ⟨⟨rfl, S.nd, rfl, rfl, hr, passes_of rfl⟩, ⟨fun _ => rfl, rfl, rfl⟩⟩
theorem fn_p {x qual : Str} {st : Stmt} {f : Addr} {fd : FuncData} {N ps : List Str} {k : Nat} {args : α → List D} {pre : α → Prop} {post : α → D → Prop} {ex : α → Value → List (Str × D) → Prop} (F : Fun K x qual st f fd) (S : FnScope N ps (defScope st)) (hl : ∀ a, (args a).length = ps.length)
    (body : ∀ X : Cx, X.prog = P → X.w = w → X.K = K → X.mg = mg → X.base = base → Bd X N (defScope st) k → Bf X → ∀ a, pre a → DS X (fun cls fs _ _ => ex a cls fs) (defBody st) (startD N (args a)) [] (retP fun d _ => post a d)) :
    FnOk P w K mg base (L2.CX P w) (k + 1) f fd ps (spP K args pre post ex) := by
  refine F.okX S (fun vs H Q E h => ?_) (fun cdv A outer s H vs Q E hr hsp => ?_)
  · obtain ⟨x, H0, _, r, _⟩ := h
    rw [r.length, hl]
  · obtain ⟨x, H0, hs, r, hp, hq, he⟩ := hsp
    obtain ⟨B, Fz⟩ := bd_of (P := P) (w := w) (K := K) (mg := mg) (base := base) (outer := outer) (H := H) (E := E) S hr
    refine ⟨_, pss_s _, body _ rfl rfl rfl rfl rfl B Fz x hp (L2.start N vs) H H0 (Ht.emp hs) (start_rep r) (fun cls d _ H => E cls d H) (takes_of rfl rfl rfl rfl) (fun cls dd σ' H' H0' fs ρ' M' g t s' xr e => he cls dd H' H0' fs (g.pu t) xr e) _ ?_⟩
    exact ⟨fun σ' H' H0' ρ' M' g t _ p => hq .non H' H0' .non (g.pu t) .non p, fun _ _ _ _ _ _ _ _ p => p.elim, fun _ _ _ _ _ _ _ _ p => p.elim, fun v H' H0' d M' g t r p => hq v H' H0' d (g.pu t) r p⟩
end
/-- a global def, with the values dvs for its last parameters -/
def GF (P : Program) (w : World) (K : Frag) (mg : Str → Option Value) (base : Heap) (k : Nat) (x : Str) (dvs : List D) (sp : Sp) : Prop :=
  ∃ (f : Addr) (fd : FuncData) (ps : List Str) (ds : List Value) (vs : List V), mg x = some (.ref f) ∧ PySem.W.keepIn K (.ref f) = true ∧ FnOk P w K mg base (L2.CX P w) k f fd ps sp ∧ Binds K fd ps ds ∧ Vals vs ds ∧ ∀ H, RepA K H vs dvs
def GM (P : Program) (w : World) (K : Frag) (mg : Str → Option Value) (base : Heap) (k : Nat) (C : Addr) (m : Str) (dvs : List D) (sp : Sp) : Prop :=
  ∃ (f : Addr) (fd : FuncData) (ps : List Str) (ds : List Value) (vs : List V), Meth K C m f ∧ FnOk P w K mg base (L2.CX P w) k f fd ps sp ∧ Binds K fd ps ds ∧ Vals vs ds ∧ ∀ H, RepA K H vs dvs
def GC (P : Program) (w : World) (K : Frag) (mg : Str → Option Value) (base : Heap) (k : Nat) (C : Addr) (dvs : List D) (sp : Sp) : Prop :=
  ∃ (f : Addr) (fd : FuncData) (ps : List Str) (ds : List Value) (vs : List V), Mk K C f ∧ FnOk P w K mg base (L2.CX P w) k f fd ps sp ∧ Binds K fd ps ds ∧ Vals vs ds ∧ ∀ H, RepA K H vs dvs
section
variable {P : Program} {w : World} {K : Frag} {mg : Str → Option Value} {base : Heap} {j k : Nat} {x : Str} {dvs : List D} {sp sp' : Sp}
theorem GF.imp (g : GF P w K mg base k x dvs sp) (h : ∀ vs H Q E, sp' vs H Q E → sp vs H Q E) : GF P w K mg base k x dvs sp' :=
  let ⟨f, fd, ps, ds, vs, h1, h2, h3, h4⟩ := g
  ⟨f, fd, ps, ds, vs, h1, h2, h3.imp h, h4⟩
end
section
variable {X : Cx} {kx : XD} {ρ ρ' ρ'' : Ro} {M M' : Mem} {Pp : Out → Mem → Prop} {pos p apos : Pos} {e o : Expr} {es : List Expr} {y z : D} {α : Type} {k : Nat} {x m : Str} {C : Addr} {dvs ds : List D}
  {args : α → List D} {pre : α → Prop} {post : α → D → Prop} {ex : α → Value → List (Str × D) → Prop} {Mi : α → Mem} {postM : α → D → Mem → Prop} {exM : α → Value → List (Str × D) → Mem → Prop}
/-- what a promise gives to a caller at its slots -/
theorem spP_use {σ : L2.St} {H H0 : Hp} {vs us : List V} {W : WX} {Q : VK} (t : Ht X.K H0 H M) (s : Sl X.K H0 σ ρ) (hx : Hx X W H0 H M kx) (r : RepA X.K H0 vs ds) (ru : RepA X.K H0 us dvs) (a : α) (ha : args a = ds ++ dvs) (hp : pre a)
    (hex : ∀ cls fs, ex a cls fs → kx cls fs ρ M) (q : ∀ v H' H0' d, Pu H0 H H0' H' → Rep X.K H0' v d → post a d → Q v H') : spP X.K args pre post ex (vs ++ us) H Q (WE W σ) :=
  ⟨a, H0, t.ex, by rw [ha]; exact r.app ru, hp, fun v H' H0' d p rr pp => q v H' H0' d p rr pp, fun cls dd H' H0' fs p xr e => hx cls dd σ H' H0' fs ρ M p.go (t.pu p) (s.mo p.e0) xr (hex cls fs e)⟩
/-- the frame: what a callee leaves alone -/
theorem frame_of {K : Frag} {H0 H H0' H' : Hp} {Ma Mb F : Mem} (t : Ht K H0 H (Ma ++ F)) (g : Go H0 H Ma H0' H' Mb) (t' : Ht K H0' H' Mb) : Go H0 H (Ma ++ F) H0' H' (Mb ++ F) ∧ Ht K H0' H' (Mb ++ F) := by
  have nd := t.nd
  have dd : Mem.dom (Ma ++ F) = Mem.dom Ma ++ Mem.dom F := by simp [Mem.dom]
  have dd2 : Mem.dom (Mb ++ F) = Mem.dom Mb ++ Mem.dom F := by simp [Mem.dom]
  rw [dd] at nd
  obtain ⟨n1, n2, n3⟩ := List.nodup_append.mp nd
  have there : ∀ q ∈ F, ∃ o, H q.1 = some o := fun q hq => (t.mem q (List.mem_append_right _ hq)).2.there
  have out : ∀ q ∈ F, q.1 ∉ Ma.dom := fun q hq h => n3 q.1 h q.1 (List.mem_map.mpr ⟨q, hq, rfl⟩) rfl
  refine ⟨⟨g.e0, fun b o e hb => g.e b o e fun z => hb (by rw [dd]; exact List.mem_append_left _ z), fun a h1 h2 h3 => g.new a h1 h2 fun z => h3 (by rw [dd]; exact List.mem_append_left _ z), fun a ha => ?_⟩, ⟨t'.ex, ?_, fun q hq => ?_⟩⟩
  · rw [dd2] at ha
    rw [dd]
    rcases List.mem_append.mp ha with ha | ha
    · exact (g.dom a ha).imp (List.mem_append_left _) id
    · exact .inl (List.mem_append_right _ ha)
  · rw [dd2]
    refine List.nodup_append.mpr ⟨t'.nd, n2, fun a ha b hb e => ?_⟩
    subst e
    rcases g.dom a ha with z | z
    · exact n3 a z a hb rfl
    · obtain ⟨q, hq, rfl⟩ := List.mem_map.mp hb
      obtain ⟨o, ho⟩ := there q hq
      rw [z] at ho; cases ho
  · rcases List.mem_append.mp hq with hq | hq
    · exact t'.mem q hq
    · obtain ⟨m1, m2⟩ := t.mem q (List.mem_append_right _ hq)
      obtain ⟨o, ho⟩ := there q hq
      exact ⟨g.new _ m1 m2.nt (out q hq), m2.mono g.e0 fun o e => g.e _ _ e (out q hq)⟩
theorem Ht.left {K : Frag} {H0 H : Hp} {Ma F : Mem} (t : Ht K H0 H (Ma ++ F)) : Ht K H0 H Ma :=
  ⟨t.ex, by
    have h := t.nd
    rw [show Mem.dom (Ma ++ F) = Mem.dom Ma ++ Mem.dom F by simp [Mem.dom]] at h
    exact (List.nodup_append.mp h).1, fun q hq => t.mem q (List.mem_append_left _ hq)⟩
/-! ### f(e, ..) -/
theorem call_e {n : Nat} {sp : Sp} (G : GF X.prog X.w X.K X.mg X.base k x dvs sp) (hr : Room k X.A) (hg : Gl X x) {σ : L2.St} {H H0 : Hp} {Q : VK} {W : WX} (t : Ht X.K H0 H M) (s : Sl X.K H0 σ ρ) (tk : Takes X W) (hx : Hx X W H0 H M kx) (ha : DA X kx (e :: es) ρ M ds)
    (h : ∀ vs us H1 H01, Pu H0 H H01 H1 → RepA X.K H01 vs ds → RepA X.K H01 us dvs → sp (vs ++ us) H1 Q (WE W σ)) (hdb : (x == ("__debug__" : Str)) = false := by decide)
    (he : starEach (e :: es) X.env = (false, eval e X.env) :: starEach es X.env := by rfl) (hpl : (backTo pos (starEach es X.env)).any (·.1) = false := by rfl) : sE X (.Call (.Name x p) (e :: es) [] pos) σ H Q := by
  obtain ⟨f, fd, ps, dv, vd, g1, g2, g3, g4, g5, g6⟩ := G
  refine fun pins st I => wpAny_Call_Name_kw (ld_glob I hg g1 ?_ hdb)
  refine PySem.W.callWith_K (h₀ := X.base) I.ok.mod.kin g2 (thn ((pa_s (e :: es)).run pos pins st σ H (fun vs H' => ∃ H01, Pu H0 H H01 H' ∧ RepA X.K H01 vs ds) I (ha σ H H0 t s W tk hx _ fun vs H' H0' p r => ⟨H0', p, r⟩)) fun us s1 ⟨vs, H1, I1, r, H01, p1, q1⟩ => ⟨I1.kIn, ?_⟩) he hpl
  exact run_fnSD (E := WE W) g3 hr g4 g5 (passAt tk σ) I1 r (h vs vd H1 H01 p1 q1 (g6 _))
theorem dv_call (G : GF X.prog X.w X.K X.mg X.base k x dvs (spP X.K args pre post ex)) (hr : Room k X.A) (hg : Gl X x) (ha : DA X kx (e :: es) ρ M ds) (a : α) (hargs : args a = ds ++ dvs) (hp : pre a) (hz : ∀ d, post a d → d = z) (hex : ∀ cls fs, ex a cls fs → kx cls fs ρ M)
    (hdb : (x == ("__debug__" : Str)) = false := by decide) (he : starEach (e :: es) X.env = (false, eval e X.env) :: starEach es X.env := by rfl) (hpl : (backTo pos (starEach es X.env)).any (·.1) = false := by rfl) : DV X kx (.Call (.Name x p) (e :: es) [] pos) ρ M z := fun σ H H0 t s W tk hx Q q =>
  call_e (n := 0) G hr hg t s tk hx ha (fun vs us H1 H01 p1 r ru => spP_use (t.pu p1) (s.mo p1.e0) (hx.pu p1) r ru a hargs hp hex fun v H' H0' d p2 rr pp => q v H' H0' (p1.trans p2) (by rw [← hz d pp]; exact rr)) hdb he hpl
/-- one of the answers that may be -/
theorem de_call {kk : D → Mem → Prop} (G : GF X.prog X.w X.K X.mg X.base k x dvs (spP X.K args pre post ex)) (hr : Room k X.A) (hg : Gl X x) (ha : DA X kx (e :: es) ρ M ds) (a : α) (hargs : args a = ds ++ dvs) (hp : pre a) (hz : ∀ d, post a d → kk d M) (hex : ∀ cls fs, ex a cls fs → kx cls fs ρ M)
    (hdb : (x == ("__debug__" : Str)) = false := by decide) (he : starEach (e :: es) X.env = (false, eval e X.env) :: starEach es X.env := by rfl) (hpl : (backTo pos (starEach es X.env)).any (·.1) = false := by rfl) : DE X kx (.Call (.Name x p) (e :: es) [] pos) ρ M kk := fun σ H H0 t s W tk hx Q q =>
  call_e (n := 0) G hr hg t s tk hx ha (fun vs us H1 H01 p1 r ru => spP_use (t.pu p1) (s.mo p1.e0) (hx.pu p1) r ru a hargs hp hex fun v H' H0' d p2 rr pp => q v H' H0' d M (p1.trans p2).go (t.pu (p1.trans p2)) rr (hz d pp)) hdb he hpl
/-! ### objects -/
/-- an object of the class C with the fields ns -/
inductive Obj (M : Mem) : D → Addr → List Str → List D → Prop
  | ins (C : Addr) (ns : List Str) (ds : List D) : Obj M (.ins C ns ds) C ns ds
  | adr {a C : Addr} {ns : List Str} {ds : List D} : (a, Mu.ins C ns ds) ∈ M → Obj M (.adr a) C ns ds
theorem Obj.rep {H H0 : Hp} {v : V} {ns : List Str} (h : Obj M y C ns ds) (t : Ht X.K H0 H M) (r : Rep X.K H0 v y) : ∃ (a dx : Addr) (vs : List (Str × V)) (xs : List V), v = .ref a ∧ H a = some (.ins C dx vs) ∧ vs.map Prod.fst = ns ∧ vs.map Prod.snd = xs ∧ RepA X.K H0 xs ds := by
  cases h with
  | ins C ns ds => cases r with | ins a b c d => exact ⟨_, _, _, _, rfl, t.ex _ _ a, b, c, d⟩
  | adr hm =>
    cases r
    obtain ⟨_, dx, vs, xs, h1, h2, h3, h4⟩ := t.mem _ hm
    exact ⟨_, dx, vs, xs, rfl, h1, h2, h3, h4⟩
theorem lookup_rep {K : Frag} {H : Hp} {f : Str} : ∀ {ns : List Str} {vs : List (Str × V)} {xs : List V} {ds : List D}, vs.map Prod.fst = ns → vs.map Prod.snd = xs → RepA K H xs ds →
    (∀ d, (ns.zip ds).lookup f = some d → ∃ v, vs.lookup f = some v ∧ Rep K H v d) ∧ ((ns.zip ds).lookup f = none → vs.lookup f = none)
  | _, [], _, ds, h1, h2, r => by
    subst h1
    exact ⟨fun d h => by simp at h, fun _ => rfl⟩
  | _, (n, v) :: vs, _, ds, h1, h2, r => by
    subst h1; subst h2
    cases r with
    | @cons _ _ d ds r1 r2 =>
      have ih := lookup_rep (f := f) (ns := vs.map Prod.fst) (vs := vs) rfl rfl r2
      simp only [List.map_cons, List.zip_cons_cons, List.lookup_cons]
      cases hf : f == n with
      | true => exact ⟨fun d' h => by cases h; exact ⟨v, rfl, r1⟩, fun h => by cases h⟩
      | false => exact ih
section
variable {ns : List Str} {fs : List D} {pl : Sem Bool}
end
end
end Dl

namespace Dl
open PySem PySem.Spec PyProof.Rows L2
section
variable {K : Frag} {H0 H : Hp} {M : Mem}
theorem set_dom {M : Mem} {i : Nat} {p : Addr} {m m' : Mu} (h : M[i]? = some (p, m)) : Mem.dom (M.set i (p, m')) = M.dom := by
  refine List.ext_getElem? fun j => ?_
  rw [List.getElem?_map, List.getElem?_map]
  by_cases e : i = j
  · subst e
    rw [List.getElem?_set_self (List.getElem?_eq_some_iff.mp h).1, h]; rfl
  · rw [List.getElem?_set_ne e]
theorem Ht.setM (t : Ht K H0 H M) {i : Nat} {p : Addr} {o : HO} {m m' : Mu} (h : M[i]? = some (p, m)) (hm : ∀ H', H' p = some o → MuRep K H0 H' p m') : Ht K H0 (upd H p o) (M.set i (p, m')) ∧ Go H0 H M H0 (upd H p o) (M.set i (p, m')) := by
  have hp : p ∈ M.dom := List.mem_map.mpr ⟨_, List.mem_of_getElem? h, rfl⟩
  have h0 : H0 p = none := (t.mem _ (List.mem_of_getElem? h)).1
  refine ⟨⟨fun b u e => ?_, by rw [set_dom h]; exact t.nd, fun q hq => ?_⟩, ⟨Same.refl _, fun b u e hb => ?_, fun _ h _ _ => h, fun b hb => .inl (by rw [set_dom h] at hb; exact hb)⟩⟩
  · rw [upd_ne (fun z => by rw [z, h0] at e; cases e)]; exact t.ex _ _ e
  · obtain ⟨j, hj⟩ := List.mem_iff_getElem?.mp hq
    by_cases e : i = j
    · subst e
      rw [List.getElem?_set_self (List.getElem?_eq_some_iff.mp h).1] at hj
      cases hj
      exact ⟨h0, hm _ upd_same⟩
    · rw [List.getElem?_set_ne e] at hj
      have hq2 := List.mem_of_getElem? hj
      obtain ⟨a, b⟩ := t.mem q hq2
      refine ⟨a, b.mono (Same.refl _) fun o' q' => ?_⟩
      rw [upd_ne (fun z => ?_)]
      · exact q'
      · -- two places of one address
        have d1 : (M.dom)[i]? = some p := by rw [List.getElem?_map, h]; rfl
        have d2 : (M.dom)[j]? = some p := by rw [List.getElem?_map, hj]; show some q.1 = some p; rw [z]
        exact e (nodup_at t.nd d1 d2)
  · rw [upd_ne (fun z => hb (by rw [z]; exact hp))]; exact e
where
  nodup_at {l : List Addr} (n : l.Nodup) {i j : Nat} {p : Addr} (a : l[i]? = some p) (b : l[j]? = some p) : i = j := by
    obtain ⟨h1, e1⟩ := List.getElem?_eq_some_iff.mp a
    obtain ⟨h2, e2⟩ := List.getElem?_eq_some_iff.mp b
    exact (List.getElem_inj n).mp (e1.trans e2.symm)
end
section
variable {X : Cx} {kx : XD} {ρ ρ' ρ'' : Ro} {M M' : Mem} {P : Out → Mem → Prop} {pos p apos tpos : Pos} {a b c e o : Expr} {es : List Expr} {x y z d : D} {ds : List D} {w : Addr}
/-- the list at w, in the slot j, will not change any more -/
theorem ds_frz {sts : List Stmt} (i j : Nat) (hm : M[i]? = some (w, .lst ds)) (hj : ρ[j]? = some (some (.adr w))) (h : DS X kx sts (ρ.set j (some (.lst ds))) (M.eraseIdx i) P) : DS X kx sts ρ M P := fun σ H H0 t s W tk hx D c => by
  obtain ⟨h0, vs, h1, h2⟩ := t.mem _ (List.mem_of_getElem? hm)
  have sm : Same H0 (upd H0 w (.lst vs)) := same_new h0
  have nd : (M.dom)[i]? = some w := by rw [List.getElem?_map, hm]; rfl
  have t' : Ht X.K (upd H0 w (.lst vs)) H (M.eraseIdx i) := by
    refine ⟨fun b o e => ?_, ?_, fun q hq => ?_⟩
    · by_cases hb : b = w
      · subst hb; rw [upd_same] at e; cases e; exact h1
      · rw [upd_ne hb] at e; exact t.ex _ _ e
    · exact t.nd.sublist (List.Sublist.map _ (List.eraseIdx_sublist _ _))
    · have hq1 : q ∈ M := List.mem_of_mem_eraseIdx hq
      have ne : q.1 ≠ w := fun z => by
        obtain ⟨j', hj', e1⟩ := List.mem_eraseIdx_iff_getElem?.mp hq
        have d2 : (M.dom)[j']? = some w := by rw [List.getElem?_map, e1]; show some q.1 = some w; rw [z]
        exact hj' (Ht.setM.nodup_at t.nd d2 nd)
      obtain ⟨a, b⟩ := t.mem q hq1
      exact ⟨by rw [upd_ne ne]; exact a, b.mono sm fun _ e => e⟩
  have g : Go H0 H M (upd H0 w (.lst vs)) H (M.eraseIdx i) := by
    refine ⟨sm, fun _ _ e _ => e, fun a a1 a2 a3 => ?_, fun a ha => ?_⟩
    · rw [upd_ne (fun z => a3 (by rw [z]; exact List.mem_map.mpr ⟨_, List.mem_of_getElem? hm, rfl⟩))]; exact a1
    · obtain ⟨q, hq, rfl⟩ := List.mem_map.mp ha
      exact .inl (List.mem_map.mpr ⟨q, List.mem_of_mem_eraseIdx hq, rfl⟩)
  obtain ⟨v, e1, r1⟩ := s.2 j _ hj
  cases r1
  have s' : Sl X.K (upd H0 w (.lst vs)) σ (ρ.set j (some (.lst ds))) := by
    have z := (s.mo sm).set (v := .ref w) (d := .lst ds) (.lst upd_same (h2.mo sm)) j
    have e2 : σ.set j (some (.ref w)) = σ := by
      refine List.ext_getElem? fun k => ?_
      by_cases hk : j = k
      · subst hk; rw [List.getElem?_set_self (List.getElem?_eq_some_iff.mp e1).1, e1]
      · rw [List.getElem?_set_ne hk]
    rw [e2] at z
    exact z
  exact h σ H _ t' s' W tk (hx.step g) D (c.step g)
/-! ### o.f = e -/
def putD (f : Str) (d : D) : List Str → List D → List Str × List D
  | n :: ns, x :: xs => if n = f then (n :: ns, d :: xs) else ((n :: (putD f d ns xs).1), (x :: (putD f d ns xs).2))
  | _, _ => ([f], [d])
end
/-! ### what is left behind a def: that it never changes any more -/
section
variable {K : Frag} {H0 H : Hp} {M : Mem}
theorem Ht.frz1 (t : Ht K H0 H M) {i : Nat} {w : Addr} {ds : List D} (hm : M[i]? = some (w, .lst ds)) : ∃ H0', Same H0 H0' ∧ Ht K H0' H (M.eraseIdx i) ∧ Rep K H0' (.ref w) (.lst ds) ∧ Go H0 H M H0' H (M.eraseIdx i) := by
  obtain ⟨h0, vs, h1, h2⟩ := t.mem _ (List.mem_of_getElem? hm)
  have sm : Same H0 (upd H0 w (.lst vs)) := same_new h0
  have nd : (M.dom)[i]? = some w := by rw [List.getElem?_map, hm]; rfl
  refine ⟨_, sm, ⟨fun b o e => ?_, t.nd.sublist (List.Sublist.map _ (List.eraseIdx_sublist _ _)), fun q hq => ?_⟩, .lst upd_same (h2.mo sm), ⟨sm, fun _ _ e _ => e, fun a a1 a2 a3 => ?_, fun a ha => ?_⟩⟩
  · by_cases hb : b = w
    · subst hb; rw [upd_same] at e; cases e; exact h1
    · rw [upd_ne hb] at e; exact t.ex _ _ e
  · have ne : q.1 ≠ w := fun z => by
      obtain ⟨j', hj', e1⟩ := List.mem_eraseIdx_iff_getElem?.mp hq
      have d2 : (M.dom)[j']? = some w := by rw [List.getElem?_map, e1]; show some q.1 = some w; rw [z]
      exact hj' (Ht.setM.nodup_at t.nd d2 nd)
    obtain ⟨a, b⟩ := t.mem q (List.mem_of_mem_eraseIdx hq)
    exact ⟨by rw [upd_ne ne]; exact a, b.mono sm fun _ e => e⟩
  · rw [upd_ne (fun z => a3 (by rw [z]; exact List.mem_map.mpr ⟨_, List.mem_of_getElem? hm, rfl⟩))]; exact a1
  · obtain ⟨q, hq, rfl⟩ := List.mem_map.mp ha
    exact .inl (List.mem_map.mpr ⟨q, List.mem_of_mem_eraseIdx hq, rfl⟩)
variable {X : Cx} {kx : XD} {ρ : Ro} {e : Expr}
/-- what an expression made and may change, is laid for ever -/
theorem DE.frz {k k' : D → Mem → Prop} (h : DE X kx e ρ M k') (hk : ∀ d m, k' d m → ∃ w ds i, d = .adr w ∧ m[i]? = some (w, .lst ds) ∧ k (.lst ds) (m.eraseIdx i)) : DE X kx e ρ M k := fun σ H H0 t s W tk hx Q q =>
  h σ H H0 t s W tk hx Q fun v H' H0' d M' g t' r kk => by
    obtain ⟨w, ds, i, rfl, hm, k2⟩ := hk d M' kk
    cases r
    obtain ⟨H0s, sm, t2, r2, g2⟩ := t'.frz1 hm
    exact q _ H' H0s _ _ (g.trans g2) t2 r2 k2
/-- a list that is made and never changed: a value -/
theorem DE.dv {d : D} (h : DE X kx e ρ M fun d' m => d' = d ∧ m = M) (hp : ∀ (H0 H H0' H' : Hp), Ht X.K H0 H M → Go H0 H M H0' H' M → Ht X.K H0' H' M → Pu H0 H H0' H') : DV X kx e ρ M d := fun σ H H0 t s W tk hx Q q =>
  h σ H H0 t s W tk hx Q fun v H' H0' d' M' g t' r ⟨e1, e2⟩ => by subst e1; subst e2; exact q v H' H0' (hp _ _ _ _ t g t') r
end
section
variable {X : Cx} {kx : XD} {ρ : Ro} {M : Mem} {pos : Pos} {α : Type} {N : List Str} {sc csc : Scope} {k : Nat} {tg e : Expr}
/-- [elt for tg in e if ..], a list that never changes -/
theorem dv_lc {own : List (Str × Nat)} {elt : Expr} {ifs : List Expr} {xs : List α} {enc : α → D} {cnd : α → Bool} {f : α → D} (B : Bd X N sc k) (hi : DI X kx tg e ρ M (xs.map enc)) (ok : BlkOk N sc csc own) (hl : xs.length < sizeLine)
    (h : ∀ x, x ∈ xs → LcB X N sc csc k own tg elt ifs ρ M (enc x) (cnd x) (f x)) (hs : ∀ x, foldedSetIterable e X.env x = pure x := by intro _; rfl) : DV X kx (.ListComp elt [⟨tg, e, ifs, 0⟩] csc pos) ρ M (.lst (outs xs cnd f)) := fun σ H H0 t s W tk hx Q q => by
  refine sE.by (pe_lc (g := uG X csc tg) (tt := uT X csc ifs) (te := uE X csc elt) B.calm (by rw [B.hN]; exact B.hnd) (pi_s tg e) (by rw [B.hN, B.hsc]; exact ok) (fun s H C cl fp => ?_) (fun s H C cl fp => ?_) (fun s H C cl fp => ?_) hs) ?_
  · exact ⟨fun pins s' σ' H' v u Q' I r h => h s H C cl fp pins s' u I r⟩
  · exact ⟨fun pins s' σ' H' Q' I h => h s H C cl fp pins s' I⟩
  · exact ⟨fun pins s' σ' H' Q' I h => h s H C cl fp pins s' I⟩
  · refine lc_read (cnd := cnd) (f := f) hi B hl h t s tk hx fun w H' H0' g t' hw hk => ?_
    obtain ⟨H0s, sm, t2, r2, g2⟩ := t'.frz1 (i := 0) rfl
    have g3 := g.trans g2
    refine q (.ref w) H' H0s ⟨g3.e0, hk, t2.ex, fun a h1 h2 => ?_⟩ r2
    by_cases ha : a ∈ M.dom
    · obtain ⟨m, hm, rfl⟩ := List.mem_map.mp ha
      exact (t2.mem m hm).1
    · exact g3.new a h1 h2 ha
end
end Dl

namespace Dl
open PySem PySem.Spec PyProof.Rows L2
/-! ### built-ins by name -/
theorem bt_len : bootBuiltins "len" = some (.builtin "len") := by first | exact PySem.boot_len | exact PyProof.Rows.boot_len | exact PySem.W.boot_len | exact PySem.Calls.boot_len | decide +kernel
theorem bt_all : bootBuiltins "all" = some (.builtin "all") := by first | exact PySem.boot_all | exact PyProof.Rows.boot_all | exact PySem.W.boot_all | exact PySem.Calls.boot_all | decide +kernel
theorem bt_sorted : bootBuiltins "sorted" = some (.builtin "sorted") := by first | exact PySem.boot_sorted | exact PyProof.Rows.boot_sorted | exact PySem.W.boot_sorted | exact PySem.Calls.boot_sorted | decide +kernel
theorem bt_isinstance : bootBuiltins "isinstance" = some (.builtin "isinstance") := by first | exact PySem.boot_isinstance | exact PyProof.Rows.boot_isinstance | exact PySem.W.boot_isinstance | exact PySem.Calls.boot_isinstance | decide +kernel
theorem bt_int : bootBuiltins "int" = some (.type "int") := by first | exact PySem.boot_int | exact PyProof.Rows.boot_int | exact PySem.W.boot_int | exact PySem.Calls.boot_int | decide +kernel
theorem bt_bool : bootBuiltins "bool" = some (.type "bool") := by first | exact PySem.boot_bool | exact PyProof.Rows.boot_bool | exact PySem.W.boot_bool | exact PySem.Calls.boot_bool | decide +kernel
theorem bt_str : bootBuiltins "str" = some (.type "str") := by first | exact PySem.boot_str | exact PyProof.Rows.boot_str | exact PySem.W.boot_str | exact PySem.Calls.boot_str | decide +kernel
theorem bt_range : bootBuiltins "range" = some (.type "range") := by first | exact PySem.boot_range | exact PyProof.Rows.boot_range | exact PySem.W.boot_range | exact PySem.Calls.boot_range | decide +kernel
/-! ### a def of the top -/
/-- the def st stands at the name x with all its parameters given -/
def FunT (K : Frag) (mg : Str → Option Value) (x : Str) (st : Stmt) (ps : List Str) : Prop := ∃ f fd, Fun K x x st f fd ∧ mg x = some (.ref f) ∧ Binds K fd ps []
theorem FunT.gf {P : Program} {w : World} {K : Frag} {mg : Str → Option Value} {base : Heap} {x : Str} {st : Stmt} {ps : List Str} {k : Nat} {sp : Sp} (T : FunT K mg x st ps) (h : ∀ f fd, Fun K x x st f fd → FnOk P w K mg base (L2.CX P w) k f fd ps sp) : GF P w K mg base k x [] sp := by
  obtain ⟨f, fd, F, g, b⟩ := T
  exact ⟨f, fd, ps, [], [], g, F.kp, h f fd F, b, .nil, fun _ => .nil⟩
theorem fscope {N ps : List Str} {sc : Scope} (h : (match sc.kind with | .function => true | _ => false) && !sc.isCoroutine && !sc.isGenerator && decide N.Nodup && decide (N.take ps.length = ps) &&
    (ps.all fun x => match sc.names.lookup x with | some .local => true | some .cell => true | _ => false) && (sc.names.all fun y => match y.2 with | .free => false | _ => true)) : FnScope N ps sc := by
  simp only [Bool.and_eq_true, List.all_eq_true, decide_eq_true_eq, Bool.not_eq_true'] at h
  obtain ⟨⟨⟨⟨⟨⟨h1, h2⟩, h3⟩, h4⟩, h5⟩, h6⟩, h7⟩ := h
  refine ⟨?_, h2, h3, h4, h5, fun x hx => ?_, fun y hy e => ?_⟩
  · split at h1
    · assumption
    · cases h1
  · have q := h6 x hx
    split at q
    · exact .inl (by assumption)
    · exact .inr (by assumption)
    · cases q
  · have q := h7 y hy
    rw [e] at q; cases q
theorem vloc {sc : Scope} {x : Str} (h : sc.names.lookup x = some .local) : Vis sc x := .inl h
/-! ### least and greatest -/
def minI (l : List Int) : Int := (l.min?).getD 0
def maxI (l : List Int) : Int := (l.max?).getD 0
section
variable {X : Cx} {kx : XD} {ρ ρ' ρ'' : Ro} {M M' : Mem} {P : Out → Mem → Prop} {pos p : Pos} {tg a b c e : Expr} {es : List Expr} {x y z : D} {f : Str}
/-- an item at an open place -/
theorem atI_map {α : Type} {xs : List α} {f : α → D} {i : Int} {v : α} (h0 : 0 ≤ i) (h : xs[i.toNat]? = some v) : atI (xs.map f) i = some (f v) := by
  have e : i = ((i.toNat : Nat) : Int) := by omega
  rw [e]
  exact atI_nat (by rw [List.getElem?_map, h]; rfl)
theorem atI_neg {α : Type} {xs : List α} {f : α → D} {i : Int} (v : α) (h0 : i < 0) (h : -(xs.length : Int) ≤ i) : atI (xs.map f) i = some (f (xs.getD (i + xs.length).toNat v)) := by
  unfold atI ixN
  rw [List.length_map, if_neg (by omega), if_pos h, Option.bind_some, List.getElem?_map, List.getD_eq_getElem?_getD, List.getElem?_eq_getElem (by omega)]; rfl
/-- a menu of numbers -/
def menu (l : List Int) (i : Int) : Int := l.getD i.toNat 0
/-! ### lists put together -/
theorem r2_cat {ds us : List D} (h1 : SeqO M x ds) (h2 : SeqO M y us) (hl : ds.length + us.length ≤ sizeLine) : R2D X.K rCat M x y (.lst (ds ++ us)) := fun v u H H0 t r1 r2 Q q => by
  obtain ⟨p1, xs, rfl, a1, b1⟩ := h1.rep t r1
  obtain ⟨p2, ys, rfl, a2, b2⟩ := h2.rep t r2
  refine ⟨p1, p2, xs, ys, rfl, rfl, a1, a2, by rw [b1.length, b2.length]; exact hl, fun w hw => ?_⟩
  have g := Pu.new1 t.ex hw (.lst (xs ++ ys))
  exact q _ _ _ g (.lst upd_same ((b1.app b2).mo g.e0))
theorem dv_cat {ds us : List D} (ha : DV X kx a ρ M x) (hb : DV X kx b ρ M y) (h1 : SeqO M x ds) (h2 : SeqO M y us) (hl : ds.length + us.length ≤ sizeLine) : DV X kx (.BinOp a .Add b pos) ρ M (.lst (ds ++ us)) := dv_op op_cat (r2_cat h1 h2 hl) ha hb
end
/-! ### side conditions -/
theorem szN {α : Type} {l : List α} (n : Nat) (h : l.length = n) (h2 : n ≤ 1000 := by decide) : l.length ≤ sizeLine := by
  rw [h, sizeLine_eq]; omega
theorem sz_le {n : Nat} (h : n ≤ 100000) : n ≤ sizeLine := by rw [sizeLine_eq]; omega
theorem sz_lt {n : Nat} (h : n ≤ 100000) : n < sizeLine := by rw [sizeLine_eq]; omega
/-- a product that is not too great -/
def MulOk (i j : Int) : Prop := CMul i j ∨ CMulW i j
theorem mok_r {i j : Int} (h1 : -(2 ^ 64) < j) (h2 : j < 2 ^ 64) : MulOk i j := .inl (.inr ⟨h1, h2⟩)
/-- below 2 ^ 300 either way -/
def Big (i : Int) : Prop := -(2 ^ 300) < i ∧ i < 2 ^ 300
theorem mok_c {i j : Int} (h : -(2 ^ 64) < i ∧ i < 2 ^ 64 ∨ -(2 ^ 64) < j ∧ j < 2 ^ 64) : MulOk i j := .inl h
theorem div_c {i j : Int} (h1 : 0 < j) (h2 : j < 2 ^ 300) : CDivW i j := wide_div (b := 300) h1 (by omega) (by decide) (by decide)
section
variable {X : Cx} {kx : XD} {ρ : Ro} {M : Mem} {P : Out → Mem → Prop} {pos p tpos : Pos} {a b c e : Expr} {i j : Int} {x d : D} {k : Bool}
theorem dv_mulX (ha : DV X kx a ρ M (.int i)) (hb : DV X kx b ρ M (.int j)) (h : MulOk i j) : DV X kx (.BinOp a .Mult b pos) ρ M (.int (i * j)) := by
  rcases h with h | h
  · exact dv_mul ha hb h
  · exact dv_mulW ha hb h
/-- x = e, where e makes a list that will change -/
theorem ds1_newE {s : Nat} {v : Str} {p2 : Pos} {ds : List D} (nn : Ns X s v) (h : DE X kx e ρ M fun d m => ∃ w, w ∉ M.dom ∧ d = .adr w ∧ m = (w, .lst ds) :: M) (hp : ∀ w, w ∉ M.dom → P (.nx (ρ.set s (some (.adr w)))) ((w, .lst ds) :: M))
    (hs : swapsWithSole [.Name v p2] e pos.line X.env = pure false := by rfl) (hw : swappedStores [.Name v p2] e X.env = pure none := by rfl) : DS1 X kx (.Assign [.Name v p2] e pos) ρ M P :=
  ds1_setE (k := fun d m => ∃ w, w ∉ M.dom ∧ d = .adr w ∧ m = (w, .lst ds) :: M) nn h (fun d m ⟨w, h1, h2, h3⟩ => by subst h2; subst h3; exact hp w h1) hs hw
end
/-! ### the end of a law -/
theorem FunT.mk {K : Frag} {h : Heap} {mg : Str → Option Value} (X : K.In h) (G : h.Ns mainGlobals mg) {x : Str} {st : Stmt} {ps : List Str} {f : Addr} {od an : Option Addr} {sl : Array (Option Value)} {oc kV dc pm cd ct : Value}
    (a : PySem.W.nsIn K mainGlobals x = some (some (.ref f))) (l : K.lookup f = some ⟨oc, od, .func (PySem.W.fnOf x x (defArgs st) (defBody st) (defScope st) .none kV dc pm an cd ct), sl⟩) (c : PySem.W.codeIn K cd x = true) (k : PySem.W.keepIn K (.ref f) = true)
    (b : ∀ (kV doc pm : Value) (an : Option Addr) (cdv ct : Value) (us : List Value), us.length = ps.length → bindArgs (PySem.W.fnOf x x (defArgs st) (defBody st) (defScope st) .none kV doc pm an cdv ct) ⟨us, []⟩ = pure (ps.zip us)) : FunT K mg x st ps :=
  have F := fun_mk (st := st) l c k
  ⟨f, _, F, PySem.W.mg_of X G a, F.binds b⟩
/-- the promise of the law itself -/
def spLaw (K : Frag) : Sp := spP K (fun q : List Int => [.scr (q.map D.int)]) (fun q => q.length ≤ 63) (fun _ d => d = .bl true) (fun _ _ _ => False)
theorem law_hsp {K : Frag} {H : Hp} {a : Addr} {ns : List Int} (hl : ns.length ≤ 63) (h : SqL K H a (ns.map V.int)) : spLaw K [.ref a] H (fun v _ => v = .bl true) fun _ _ _ => False :=
  ⟨ns, H, Same.refl _, .cons (.scr h (RepA.ofInts ns)) .nil, hl, fun v H' H0' d _ r e => by subst e; cases r; rfl, fun _ _ _ _ _ _ _ z => z.elim⟩
end Dl

namespace Dl
open PySem PySem.Spec PyProof.Rows L2
/-! ### encodings by which == is = -/
/-- an encoding: clean, of small depth, one to one -/
structure En {α : Type} (n : Nat) (f : α → D) : Prop where
  flat : ∀ x, (f x).flat = true
  lay : ∀ x, PyData.canLay0 (f x).py = true
  depth : ∀ x, (f x).py.depth ≤ n
  eqv : ∀ x y, PyData.eqv (f x).py (f y).py = true ↔ x = y
/-- the same of a row of things -/
structure EnL {α : Type} (n : Nat) (F : α → List D) : Prop where
  flat : ∀ x, D.flatA (F x) = true
  lay : ∀ x, PyData.canLayAll0 (D.pyA (F x)) = true
  depth : ∀ x, PyData.depthAll (D.pyA (F x)) ≤ n
  eqv : ∀ x y, PyData.eqvAll (D.pyA (F x)) (D.pyA (F y)) = true ↔ x = y
section
variable {α β : Type} {n m : Nat} {f : α → D} {F : α → List D} {G : β → List D}
theorem En.mono (h : En n f) (l : n ≤ m) : En m f := ⟨h.flat, h.lay, fun x => Nat.le_trans (h.depth x) l, h.eqv⟩
theorem En.eqs [DecidableEq α] (h : En n f) (x y : α) (hn : n ≤ 64 := by decide) : Eqs (f x) (f y) (decide (x = y)) := by
  refine ⟨h.flat x, h.flat y, ?_, ?_, ?_⟩
  · have := h.depth x
    unfold SeqAt.shaped; rw [h.lay, Bool.true_and, decide_eq_true_eq]; omega
  · have := h.depth y
    unfold SeqAt.shaped; rw [h.lay, Bool.true_and, decide_eq_true_eq]; omega
  · refine Bool.eq_iff_iff.mpr ?_
    rw [decide_eq_true_iff]; exact h.eqv x y
theorem En.refl [DecidableEq α] (h : En n f) (x : α) (hn : n ≤ 64 := by decide) : Eqs (f x) (f x) true := by
  have := h.eqs x x hn
  rw [decide_eq_true rfl] at this
  exact this
theorem en_int : En 0 D.int := ⟨fun x => by simp [D.flat], fun x => by simp [D.py, PyData.canLay0], fun x => by simp [D.py, PyData.depth], fun x y => by simp [D.py, PyData.eqv]⟩
end
def dOpt {α : Type} (f : α → D) : Option α → D
  | none => .non
  | some x => f x
theorem en_opt {α : Type} {n : Nat} {f : α → D} (h : En n f) (hn : ∀ x, PyData.eqv .none (f x).py = false ∧ PyData.eqv (f x).py .none = false) : En n (dOpt f) :=
  ⟨fun o => by cases o <;> simp [dOpt, D.flat, h.flat], fun o => by cases o <;> simp [dOpt, D.py, PyData.canLay0, h.lay], fun o => by cases o <;> simp [dOpt, D.py, PyData.depth, h.depth], fun o q => by
    cases o with
    | none =>
      cases q with
      | none => simp [dOpt, D.py, PyData.eqv]
      | some y => simp [dOpt, D.py, (hn y).1]
    | some x =>
      cases q with
      | none => simp [dOpt, D.py, (hn x).2]
      | some y => simp [dOpt, h.eqv]⟩
theorem isNon_opt {α : Type} {f : α → D} (hn : ∀ x, (f x).isNon = false) (o : Option α) : (dOpt f o).isNon = o.isNone := by
  cases o with
  | none => rfl
  | some x => exact hn x
end Dl

/-! ### list(reversed(a list)), at the library's level -/
namespace RT
open PySem PySem.Spec PySem.W PyProof.Rows PySem.Calls
section
variable {prog : Program} {w : World} {A : Around} {E : Value → Shared → Prop} {s : Shared}
end
end RT
namespace Dl
open PySem PySem.Spec PyProof.Rows L2
def cutD' {α : Type} (xs : List α) (lo hi : Option Int) : List α := (xs.drop (HT.sIx xs.length 0 lo)).take (HT.sIx xs.length xs.length hi - HT.sIx xs.length 0 lo)
theorem cutD_map {α : Type} (xs : List α) (f : α → D) (lo hi : Option Int) : cutD (xs.map f) lo hi = (cutD' xs lo hi).map f := by
  unfold cutD cutD'
  rw [List.length_map, ← List.map_drop, ← List.map_take]
section
variable {X : Cx} {kx : XD} {ρ ρ' ρ'' : Ro} {M M' : Mem} {P : Out → Mem → Prop} {pos p : Pos} {tg a b c e : Expr} {es : List Expr} {x y z : D} {f : Str} {α : Type} {xs : List α}
/-- a < b < c, of numbers -/
theorem dv_chain {op op' : CmpOp} {g g' : Int → Int → Bool} {i j k : Int} (ho : OpR X (compareOp op) (rI0 fun i j => .bl (g i j))) (ho' : OpR X (compareOp op') (rI0 fun i j => .bl (g' i j))) (ha : DV X kx a ρ M (.int i)) (hb : DV X kx b ρ M (.int j)) (hc : DV X kx c ρ M (.int k))
    (hm : lastMarks [op, op'] [b, c] = false := by with_unfolding_all rfl) : DV X kx (.Compare a [op, op'] [b, c] pos) ρ M (.bl (g i j && g' j k)) := fun σ H H0 t s W tk hx Q q =>
  sE.by (pe_chain ho ho' (pe_s a) (pe_s b) (pe_s c) hm) (ha σ H H0 t s W tk hx _ fun v H1 H01 p1 r1 => hb σ H1 H01 (t.pu p1) (s.mo p1.e0) W tk (hx.pu p1) _ fun u H2 H02 p2 r2 => by
    cases r1; cases r2
    have p12 := p1.trans p2
    refine ⟨i, j, rfl, rfl, g i j, rfl, ?_⟩
    cases hg : g i j with
    | true => exact iteT (hc σ H2 H02 (t.pu p12) (s.mo p12.e0) W tk (hx.pu p12) _ fun w H3 H03 p3 r3 => by cases r3; exact ⟨j, k, rfl, rfl, by rw [hg, Bool.true_and] at q; exact q _ H3 H03 (p12.trans p3) (.bl _)⟩)
    | false => exact iteF (by rw [hg, Bool.false_and] at q; exact q _ H2 H02 p12 (.bl _)))
end
end Dl

namespace Dl
open PySem PySem.Spec PyProof.Rows L2
section
variable {X : Cx} {kx : XD} {ρ ρ' ρ'' : Ro} {M M' : Mem} {P : Out → Mem → Prop} {pos p : Pos} {tg a b c e : Expr} {es : List Expr} {x y z : D} {f : Str} {α : Type} {xs ys : List α}
theorem dv_slM {g : α → D} {lo hi : Option Expr} {p2} {i j : Option Int} (ha : DV X kx a ρ M x) (hq : SeqL M x (xs.map g)) (hl : DO X kx lo ρ M i) (hh : DO X kx hi ρ M j) : DV X kx (.Subscript a (.Slice lo hi none p2) pos) ρ M (.lst ((cutD' xs i j).map g)) :=
  DV.is (dv_slS ha hq hl hh) (by rw [cutD_map])
theorem dv_lenM {g : α → D} (n : Bn X f (.builtin "len")) (ha : DV X kx e ρ M x) (h : SeqL M x (xs.map g)) (he : starEach [e] X.env = (false, eval e X.env) :: starEach [] X.env := by rfl) : DV X kx (.Call (.Name f p) [e] [] pos) ρ M (.int (xs.length : Int)) := by
  have h' : Seq M x (xs.map g) := by
    cases h with
    | lst _ => exact .lst _
    | scr _ => exact .scr _
    | adr q => exact .adr q
  have r := dv_len (pos := pos) (p := p) n ha h' he
  rw [List.length_map] at r
  exact r
theorem dv_catM {g : α → D} (ha : DV X kx a ρ M x) (hb : DV X kx b ρ M y) (h1 : SeqO M x (xs.map g)) (h2 : SeqO M y (ys.map g)) (hl : xs.length + ys.length ≤ sizeLine) : DV X kx (.BinOp a .Add b pos) ρ M (.lst ((xs ++ ys).map g)) := by
  rw [List.map_append]
  exact dv_cat ha hb h1 h2 (by rw [List.length_map, List.length_map]; exact hl)
end
/-! ### x = [.. for ..] -/
section
variable {X : Cx} {kx : XD} {ρ : Ro} {M : Mem} {P : Out → Mem → Prop} {pos spos py : Pos} {α : Type} {N : List Str} {sc csc : Scope} {k i : Nat} {y : Str} {tg e : Expr}
end
theorem cut_len {α : Type} (xs : List α) (i j : Option Int) : (cutD' xs i j).length ≤ xs.length := by
  unfold cutD'
  rw [List.length_take, List.length_drop]
  omega
end Dl

/-! what a def computes, as a plain function: it ends well, it raises, or it is out of what is promised -/
namespace Dl
open PySem PySem.Spec PyProof.Rows L2
inductive Ex (α : Type) where
  | ok (a : α) | exc (n : Str) (fs : List (Str × D)) | bad
section
variable {α β γ ρ : Type}
theorem Ex.ok_ne (a : α) : Ex.ok a ≠ .bad := fun h => by cases h
def Ex.get [Inhabited α] : Ex α → α
  | .ok a => a
  | _ => default
open Classical in
noncomputable def gd (p : Prop) (m : Ex α) : Ex α := if p then m else .bad
def bindP (m : Ex α) (k : α → Ex β) : Ex β := match m with
  | .ok a => k a
  | _ => .bad
def bindX (m : Ex α) (k : α → Ex β) : Ex β := match m with
  | .ok a => k a
  | .exc n fs => .exc n fs
  | .bad => .bad
def letE (a : α) (k : α → β) : β := k a
def jpE (k : α) (f : α → β) : β := f k
def someE (o : Option α) : Ex α := match o with
  | some a => .ok a
  | none => .bad
def andE (a : Bool) (m : Ex Bool) : Ex Bool := if a = true then m else .ok false
def orE (a : Bool) (m : Ex Bool) : Ex Bool := if a = true then .ok true else m
def ixE (xs : List α) (i : Int) : Ex α := if 0 ≤ i then someE xs[i.toNat]? else if 0 ≤ i + xs.length then someE xs[(i + xs.length).toNat]? else .bad
def foldE (f : β → α → Ex β) : β → List α → Ex β
  | z, [] => .ok z
  | z, x :: xs => bindX (f z x) fun z => foldE f z xs
inductive Ct (β ρ : Type) where
  | nx (z : β) | bk (z : β) | rt (r : ρ)
def loopE (f : β → α → Ex (Ct β ρ)) : β → List α → Ex (Ct β ρ)
  | z, [] => .ok (.nx z)
  | z, x :: xs => bindX (f z x) fun c => match c with
    | .nx z => loopE f z xs
    | .bk z => .ok (.nx z)
    | .rt r => .ok (.rt r)
/-- behind a loop -/
def ctE (c : Ct β ρ) (k : β → γ) (r : ρ → γ) : γ := match c with
  | .nx z => k z
  | .bk z => k z
  | .rt x => r x
def whileE (n : Nat) (c : β → Ex Bool) (f : β → Ex β) (z : β) : Ex β := match n with
  | 0 => .bad
  | n + 1 => bindP (c z) fun b => if b = true then bindX (f z) fun z => whileE n c f z else .ok z
def compE (c : α → Ex Bool) (f : α → Ex β) : List α → Ex (List β)
  | [] => .ok []
  | x :: xs => bindP (c x) fun b => if b = true then bindP (f x) fun y => bindP (compE c f xs) fun ys => .ok (y :: ys) else compE c f xs
/-! ### for the mathematics -/
theorem gd_ok {p : Prop} {m : Ex α} (h : p) : gd p m = m := by unfold gd; rw [if_pos h]
theorem bindP_ok {a : α} {k : α → Ex β} : bindP (.ok a) k = k a := rfl
theorem bindX_ok {a : α} {k : α → Ex β} : bindX (.ok a) k = k a := rfl
theorem ixE_nat {xs : List α} {i : Int} {x : α} (h0 : 0 ≤ i) (h : xs[i.toNat]? = some x) : ixE xs i = .ok x := by unfold ixE; rw [if_pos h0, h]; rfl
theorem ixE_neg {xs : List α} {i : Int} {x : α} (h0 : i < 0) (h1 : 0 ≤ i + xs.length) (h : xs[(i + xs.length).toNat]? = some x) : ixE xs i = .ok x := by unfold ixE; rw [if_neg (by omega), if_pos h1, h]; rfl
theorem loopE_cons {f : β → α → Ex (Ct β ρ)} {z : β} {x : α} {xs : List α} : loopE f z (x :: xs) = bindX (f z x) fun c => match c with
    | .nx z => loopE f z xs
    | .bk z => .ok (.nx z)
    | .rt r => .ok (.rt r) := rfl
theorem loopE_inv {f : β → α → Ex (Ct β ρ)} (J : Nat → β → Prop) : ∀ (xs : List α) (i : Nat) (z : β), J i z → (∀ j z x, xs[j]? = some x → J (i + j) z → ∃ z', f z x = .ok (.nx z') ∧ J (i + j + 1) z') → ∃ z', loopE f z xs = .ok (.nx z') ∧ J (i + xs.length) z'
  | [], i, z, h, _ => ⟨z, rfl, h⟩
  | x :: xs, i, z, h, hs => by
    obtain ⟨z1, e1, h1⟩ := hs 0 z x rfl h
    obtain ⟨z2, e2, h2⟩ := loopE_inv J xs (i + 1) z1 h1 fun j z y hy hj => by
      have e : i + 1 + j = i + (j + 1) := by omega
      rw [e] at hj ⊢
      exact hs (j + 1) z y hy hj
    refine ⟨z2, by rw [loopE_cons, e1]; exact e2, ?_⟩
    rw [List.length_cons, show i + (xs.length + 1) = i + 1 + xs.length by omega]
    exact h2
theorem loopE_inv0 {f : β → α → Ex (Ct β ρ)} (J : Nat → β → Prop) (xs : List α) (z : β) (h0 : J 0 z) (h : ∀ j z x, xs[j]? = some x → J j z → ∃ z', f z x = .ok (.nx z') ∧ J (j + 1) z') : ∃ z', loopE f z xs = .ok (.nx z') ∧ J xs.length z' := by
  have r := loopE_inv J xs 0 z h0 (fun j z x hx hj => by rw [Nat.zero_add] at hj ⊢; exact h j z x hx hj)
  rw [Nat.zero_add] at r
  exact r
theorem compE_eq {c : α → Ex Bool} {f : α → Ex β} {p : α → Bool} {g : α → β} : ∀ (xs : List α), (∀ x ∈ xs, c x = .ok (p x)) → (∀ x ∈ xs, p x = true → f x = .ok (g x)) → compE c f xs = .ok ((xs.filter p).map g)
  | [], _, _ => rfl
  | x :: xs, h1, h2 => by
    unfold compE
    rw [h1 x (List.mem_cons_self ..), bindP_ok, compE_eq (p := p) (g := g) xs (fun y hy => h1 y (List.mem_cons_of_mem _ hy)) fun y hy => h2 y (List.mem_cons_of_mem _ hy)]
    cases hp : p x with
    | true => rw [if_pos rfl, h2 x (List.mem_cons_self ..) hp, List.filter_cons, if_pos hp]; rfl
    | false => rw [if_neg (by decide), List.filter_cons, if_neg (by rw [hp]; decide)]
theorem compE_map {f : α → Ex β} {g : α → β} (xs : List α) (h : ∀ x ∈ xs, f x = .ok (g x)) : compE (fun _ => .ok true) f xs = .ok (xs.map g) := by
  have r := compE_eq (p := fun _ => true) (g := g) (c := fun _ => .ok true) xs (fun _ _ => rfl) fun x hx _ => h x hx
  rw [List.filter_eq_self.mpr (fun _ _ => rfl)] at r
  exact r
/-! ### for the walk -/
theorem gd_out {p : Prop} {m out : Ex α} (h : gd p m = out) (ne : out ≠ .bad) : p ∧ m = out := by
  unfold gd at h
  split at h
  · exact ⟨‹p›, h⟩
  · exact absurd h.symm ne
theorem bindP_out {m : Ex α} {k : α → Ex β} {out : Ex β} (h : bindP m k = out) (ne : out ≠ .bad) : ∃ a, m = .ok a ∧ k a = out := by
  cases m with
  | ok a => exact ⟨a, rfl, h⟩
  | exc n fs => exact absurd h.symm ne
  | bad => exact absurd h.symm ne
theorem bindX_out {m : Ex α} {k : α → Ex β} {out : Ex β} (h : bindX m k = out) (ne : out ≠ .bad) : (∃ a, m = .ok a ∧ k a = out) ∨ ∃ n fs, m = .exc n fs ∧ out = .exc n fs := by
  cases m with
  | ok a => exact .inl ⟨a, rfl, h⟩
  | exc n fs => exact .inr ⟨n, fs, rfl, h.symm⟩
  | bad => exact absurd h.symm ne
theorem letE_out {a : α} {k : α → β} {out : β} (h : letE a k = out) : ∃ x, x = a ∧ k x = out := ⟨a, rfl, h⟩
theorem jpE_out {k : α} {f : α → β} {out : β} (h : jpE k f = out) : ∃ x, x = k ∧ f x = out := ⟨k, rfl, h⟩
theorem some_out {o : Option α} {v : α} (h : someE o = .ok v) : o = some v := by
  cases o with
  | none => cases h
  | some a => cases h; rfl
theorem ite_t {c : Bool} {A B out : Ex α} (h : (if c = true then A else B) = out) (e : c = true) : A = out := by rw [if_pos e] at h; exact h
theorem ite_f {c : Bool} {A B out : Ex α} (h : (if c = true then A else B) = out) (e : c = false) : B = out := by rw [if_neg (by rw [e]; decide)] at h; exact h
theorem compE_out [Inhabited β] {c : α → Ex Bool} {f : α → Ex β} : ∀ {xs : List α} {ys : List β}, compE c f xs = .ok ys →
    ys = (xs.filter fun x => (c x).get).map (fun x => (f x).get) ∧ ∀ x ∈ xs, ∃ b, c x = .ok b ∧ (b = true → ∃ v, f x = .ok v)
  | [], ys, h => by cases h; exact ⟨rfl, fun _ z => absurd z (by simp)⟩
  | x :: xs, ys, h => by
    unfold compE at h
    obtain ⟨b, hb, h⟩ := bindP_out h (Ex.ok_ne _)
    cases b with
    | true =>
      obtain ⟨y, hy, h⟩ := bindP_out (ite_t h rfl) (Ex.ok_ne _)
      obtain ⟨zs, hz, h⟩ := bindP_out h (Ex.ok_ne _)
      cases h
      obtain ⟨e, r⟩ := compE_out hz
      refine ⟨?_, fun z hz => ?_⟩
      · have cx : (c x).get = true := by rw [hb]; rfl
        rw [List.filter_cons, if_pos cx, List.map_cons, ← e, hy]; rfl
      · rcases List.mem_cons.mp hz with rfl | hz
        · exact ⟨true, hb, fun _ => ⟨y, hy⟩⟩
        · exact r z hz
    | false =>
      obtain ⟨e, r⟩ := compE_out (ite_f h rfl)
      refine ⟨?_, fun z hz => ?_⟩
      · have cx : ¬ (c x).get = true := by rw [hb]; exact fun z => by cases z
        rw [List.filter_cons, if_neg cx]
        exact e
      · rcases List.mem_cons.mp hz with rfl | hz
        · exact ⟨false, hb, fun z => by cases z⟩
        · exact r z hz
theorem ixE_out {xs : List α} {i : Int} {x : α} (h : ixE xs i = .ok x) (f : α → D) : atI (xs.map f) i = some (f x) := by
  unfold ixE at h
  by_cases c : 0 ≤ i
  · rw [if_pos c] at h
    exact atI_map c (some_out h)
  · rw [if_neg c] at h
    by_cases c2 : 0 ≤ i + xs.length
    · rw [if_pos c2] at h
      have e := some_out h
      have l := (List.getElem?_eq_some_iff.mp e).1
      have r := atI_neg (xs := xs) (f := f) (i := i) x (by omega) (by omega)
      rw [r, List.getD_eq_getElem?_getD, e]; rfl
    · rw [if_neg c2] at h; cases h
end
/-! ### what a def's walk ends with -/
def kxE (mg : Str → Option Value) {α : Type} (out : Ex α) : XD := fun cls fs _ _ => ∃ n, out = .exc n fs ∧ mg n = some cls
def retQ {α : Type} (enc : α → D) (out : Ex α) : Out → Mem → Prop
  | .rt d, _ => ∃ r, out = .ok r ∧ d = enc r
  | .nx _, _ => ∃ r, out = .ok r ∧ D.non = enc r
  | .bk _, _ => False
  | .ct _, _ => False
abbrev spE (K : Frag) (mg : Str → Option Value) {α β : Type} (args : α → List D) (F : α → Ex β) (enc : β → D) : Sp :=
  spP K args (fun q => F q ≠ .bad) (fun q d => ∃ r, F q = .ok r ∧ d = enc r) (fun q cls fs => ∃ n, F q = .exc n fs ∧ mg n = some cls)
section
variable {P : Program} {w : World} {K : Frag} {mg : Str → Option Value} {base : Heap} {α β : Type}
theorem fn_e {x qual : Str} {st : Stmt} {f : Addr} {fd : FuncData} {N ps : List Str} {k : Nat} {args : α → List D} {F : α → Ex β} {enc : β → D} (Fu : Fun K x qual st f fd) (S : FnScope N ps (defScope st)) (hl : ∀ a, (args a).length = ps.length)
    (body : ∀ X : Cx, X.prog = P → X.w = w → X.K = K → X.mg = mg → X.base = base → Bd X N (defScope st) k → Bf X → ∀ a out, F a = out → out ≠ .bad → DS X (kxE mg out) (defBody st) (startD N (args a)) [] (retQ enc out)) :
    FnOk P w K mg base (L2.CX P w) (k + 1) f fd ps (spE K mg args F enc) :=
  fn_p Fu S hl fun X e1 e2 e3 e4 e5 B Fz a ha => (body X e1 e2 e3 e4 e5 B Fz a _ rfl ha).imp fun o m h => by
    cases o with
    | nx ρ => exact h
    | bk ρ => exact h
    | ct ρ => exact h
    | rt d => exact h
end
section
variable {X : Cx} {kx kx' : XD} {ρ ρ' ρ'' : Ro} {M M' : Mem} {P : Out → Mem → Prop} {pos p : Pos} {tg a b c e : Expr} {es : List Expr} {x y z : D} {k l : Bool}
theorem Hx.onX {W : WX} {H0 H : Hp} (h : Hx X W H0 H M kx) (i : ∀ cls fs ρ M, kx' cls fs ρ M → kx cls fs ρ M) : Hx X W H0 H M kx' :=
  fun cls dd σ' H' H0' fs ρ' M' g t s xr q => h cls dd σ' H' H0' fs ρ' M' g t s xr (i _ _ _ _ q)
theorem DS.onX {sts : List Stmt} (h : DS X kx' sts ρ M P) (i : ∀ cls fs ρ M, kx' cls fs ρ M → kx cls fs ρ M) : DS X kx sts ρ M P :=
  fun σ H H0 t s W tk hx D c => h σ H H0 t s W tk (hx.onX i) D c
/-! loops -/
def foldQ {β : Type} (R : β → Ro) (Mf : β → Mem) (o : Ex β) : Out → Mem → Prop
  | .nx ρ, M => ∃ z, o = .ok z ∧ FgtL ρ (R z) ∧ M = Mf z
  | .ct ρ, M => ∃ z, o = .ok z ∧ FgtL ρ (R z) ∧ M = Mf z
  | .bk _, _ => False
  | .rt _, _ => False
theorem drop_get {α : Type} {xs : List α} {i : Nat} {x : α} (h : xs[i]? = some x) : xs.drop i = x :: xs.drop (i + 1) := by
  obtain ⟨h1, h2⟩ := List.getElem?_eq_some_iff.mp h
  rw [← h2]
  exact (List.drop_eq_getElem_cons h1)
def loopQ {β γ : Type} (R : β → Ro) (Mf : β → Mem) (enr : γ → D) (o : Ex (Ct β γ)) : Out → Mem → Prop
  | .nx ρ, M => ∃ z, o = .ok (.nx z) ∧ FgtL ρ (R z) ∧ M = Mf z
  | .ct ρ, M => ∃ z, o = .ok (.nx z) ∧ FgtL ρ (R z) ∧ M = Mf z
  | .bk ρ, M => ∃ z, o = .ok (.bk z) ∧ FgtL ρ (R z) ∧ M = Mf z
  | .rt d, _ => ∃ r, o = .ok (.rt r) ∧ d = enr r
theorem ds1_loopE {α β γ : Type} {xs : List α} {enc : α → D} {enr : γ → D} {N : List Str} {sc : Scope} {k : Nat} {body : List Stmt} {f : β → α → Ex (Ct β γ)} {st0 : β} {out : Ex (Ct β γ)} (B : Bd X N sc k) (R : β → Ro) (Mf : β → Mem) (hF : loopE f st0 xs = out) (hne : out ≠ .bad)
    (hi : DI X kx tg e ρ M (xs.map enc)) (h0 : FgtL ρ (R st0)) (hM : M = Mf st0)
    (hs : ∀ st x o, x ∈ xs → f st x = o → o ≠ .bad → ∃ ts ρ2, DG X tg ts (enc x) (R st) ρ2 ∧ DS X (kxE X.mg o) body ρ2 (Mf st) (loopQ R Mf enr o))
    (hd : ∀ st', out = .ok (.nx st') → P (.nx (R st')) (Mf st')) (hr : ∀ r M', out = .ok (.rt r) → P (.rt (enr r)) M') (hx : ∀ cls fs ρ' M', kxE X.mg out cls fs ρ' M' → kx cls fs ρ' M')
    (hP : ∀ ρ1 ρ2 M1, Fgt ρ1 ρ2 → P (.nx ρ2) M1 → P (.nx ρ1) M1) (hf : ∀ x, foldedSetIterable e X.env x = pure x := by intro _; rfl) : DS1 X kx (.For tg e body [] pos) ρ M P :=
  ds1_forT B (fun i ρ1 M1 => ∃ st, FgtL ρ1 (R st) ∧ M1 = Mf st ∧ loopE f st (xs.drop i) = out) hi ⟨st0, h0, hM, hF⟩
    (fun i x ρ1 M1 hxi ⟨st, fg, m, hE⟩ => by
      subst m
      rw [drop_get hxi, loopE_cons] at hE
      have nb : f st x ≠ .bad := fun z => hne (by rw [← hE, z]; rfl)
      obtain ⟨ts, ρ2, g, b⟩ := hs st x _ (List.mem_of_getElem? hxi) rfl nb
      refine ⟨ts, ρ2, fun σ H H0 v hs s r Q q => g σ H H0 v hs (s.fgt fg.fgt) r Q q, (b.onX fun cls fs ρ' M' ⟨n, e1, e2⟩ => hx _ _ ρ' M' ⟨n, by rw [← hE, e1]; rfl, e2⟩).imp fun o m q => ?_⟩
      · cases o with
        | nx ρ =>
          obtain ⟨z, e1, e2, e3⟩ := q
          exact ⟨z, e2, e3, by rw [e1] at hE; exact hE⟩
        | ct ρ =>
          obtain ⟨z, e1, e2, e3⟩ := q
          exact ⟨z, e2, e3, by rw [e1] at hE; exact hE⟩
        | bk ρ =>
          obtain ⟨z, e1, e2, e3⟩ := q
          rw [e1] at hE
          subst e3
          exact hP _ _ _ e2.fgt (hd z hE.symm)
        | rt d =>
          obtain ⟨r, e1, e2⟩ := q
          rw [e1] at hE
          subst e2
          exact hr r m hE.symm)
    (fun ρ1 M1 ⟨st, fg, m, hE⟩ => by
      rw [List.drop_length] at hE
      subst m
      exact hP _ _ _ fg.fgt (hd st hE.symm)) hf
/-! parts that are looked at only if need be -/
theorem dv_andE {rest : List Expr} {m : Ex Bool} {v : Bool} (h : andE k m = .ok v) (h1 : DV X kx a ρ M (.bl k)) (h2 : k = true → ∀ v, m = .ok v → DV X kx (.BoolOp .And (b :: rest) pos) ρ M (.bl v)) : DV X kx (.BoolOp .And (a :: b :: rest) pos) ρ M (.bl v) := by
  cases k with
  | true => exact dv_and h1 fun e => h2 e v h
  | false => cases h; exact dv_and (l := false) h1 fun e => by cases e
theorem dv_orE {rest : List Expr} {m : Ex Bool} {v : Bool} (h : orE k m = .ok v) (h1 : DV X kx a ρ M (.bl k)) (h2 : k = false → ∀ v, m = .ok v → DV X kx (.BoolOp .Or (b :: rest) pos) ρ M (.bl v)) : DV X kx (.BoolOp .Or (a :: b :: rest) pos) ρ M (.bl v) := by
  cases k with
  | false =>
    have h' : m = .ok v := h
    have r := dv_or (l := v) h1 fun e => h2 e v h'
    rw [Bool.false_or] at r
    exact r
  | true =>
    cases h
    have r := dv_or (l := true) (b := b) (rest := rest) (pos := pos) h1 fun e => by cases e
    exact r
theorem dw_andE {rest : List Expr} {m : Ex Bool} {v : Bool} (h : andE k m = .ok v) (h1 : DT X kx a ρ M k) (h2 : k = true → ∀ v, m = .ok v → DW X kx (.BoolOp .And (b :: rest) pos) ρ M v) : DW X kx (.BoolOp .And (a :: b :: rest) pos) ρ M v := by
  cases k with
  | true => exact dw_and h1 fun e => h2 e v h
  | false => cases h; exact dw_and (l := false) h1 fun e => by cases e
theorem dw_orE {rest : List Expr} {m : Ex Bool} {v : Bool} (h : orE k m = .ok v) (h1 : DT X kx a ρ M k) (h2 : k = false → ∀ v, m = .ok v → DW X kx (.BoolOp .Or (b :: rest) pos) ρ M v) : DW X kx (.BoolOp .Or (a :: b :: rest) pos) ρ M v := by
  cases k with
  | false =>
    have h' : m = .ok v := h
    have r := dw_or (l := v) h1 fun e => h2 e v h'
    rw [Bool.false_or] at r
    exact r
  | true =>
    cases h
    have r := dw_or (l := true) (b := b) (rest := rest) (pos := pos) h1 fun e => by cases e
    exact r
/-! == of texts, of truths -/
theorem r2_eqs {i j : Str} : R2D X.K rEq M (.str i) (.str j) (.bl (decide (i = j))) := fun v u H H0 t r1 r2 Q q => by
  cases r1; cases r2
  refine ⟨rfl, ?_⟩
  have e : decide (V.str i = V.str j) = decide (i = j) := decide_eq_decide.mpr ⟨fun h => by injection h, fun h => by rw [h]⟩
  rw [e]
  exact q _ H H0 (Pu.refl t.ex) (.bl _)
theorem r2_nes {i j : Str} : R2D X.K rNe M (.str i) (.str j) (.bl (!decide (i = j))) := fun v u H H0 t r1 r2 Q q => by
  cases r1; cases r2
  refine ⟨rfl, ?_⟩
  have e : decide (V.str i = V.str j) = decide (i = j) := decide_eq_decide.mpr ⟨fun h => by injection h, fun h => by rw [h]⟩
  rw [e]
  exact q _ H H0 (Pu.refl t.ex) (.bl _)
section
variable {s t : Str} {u v : Bool}
theorem dv_eqs (ha : DV X kx a ρ M (.str s)) (hb : DV X kx b ρ M (.str t)) : DV X kx (.Compare a [.Eq] [b] pos) ρ M (.bl (decide (s = t))) := dv_cmp op_eq r2_eqs ha hb (nomark _)
theorem dv_nes (ha : DV X kx a ρ M (.str s)) (hb : DV X kx b ρ M (.str t)) : DV X kx (.Compare a [.NotEq] [b] pos) ρ M (.bl (!decide (s = t))) := dv_cmp op_ne r2_nes ha hb (nomark _)
theorem dt_eqs (ha : DV X kx a ρ M (.str s)) (hb : DV X kx b ρ M (.str t)) : DT X kx (.Compare a [.Eq] [b] pos) ρ M (decide (s = t)) := dt_cmp op_eq r2_eqs ha hb (nomark _)
theorem dt_nes (ha : DV X kx a ρ M (.str s)) (hb : DV X kx b ρ M (.str t)) : DT X kx (.Compare a [.NotEq] [b] pos) ρ M (!decide (s = t)) := dt_cmp op_ne r2_nes ha hb (nomark _)
end
/-! None of an Option -/
theorem dt_isNO {α : Type} {f : α → D} {o : Option α} {j p2} (hn : ∀ x, (f x).isNon = false) (h : DV X kx a ρ M (dOpt f o)) : DT X kx (.Compare a [.Is] [.Constant .none j p2] pos) ρ M o.isNone := by
  have r := dt_isN (pos := pos) (j := j) (p2 := p2) h; rw [isNon_opt hn] at r; exact r
/-! x in the place of its let -/
theorem dv_isE {α : Type} {enc : α → D} {t v : α} (h : DV X kx e ρ M (enc t)) (hv : v = t) : DV X kx e ρ M (enc v) := hv ▸ h
theorem coeL {α β : Type} {f : α → β} {g : β → D} {h : α → D} (xs : List α) (e : ∀ x, h x = g (f x)) : D.lst (xs.map h) = D.lst ((xs.map f).map g) := by
  rw [List.map_map]; exact congrArg D.lst (List.map_congr_left fun x _ => e x)
/-! ways that meet again -/
def joinQ {ι β γ : Type} (R : ι → β → Ro) (Mf : ι → β → Mem) (kf : β → Ex γ) (out : Ex γ) (P : Out → Mem → Prop) : Out → Mem → Prop
  | .nx ρ, M => ∃ a z, kf z = out ∧ FgtL ρ (R a z) ∧ M = Mf a z
  | o, M => P o M
theorem ds1_ifJ {ι β γ : Type} {A B : List Stmt} {kf : β → Ex γ} {out : Ex γ} (R : ι → β → Ro) (Mf : ι → β → Mem) (hc : DT X kx c ρ M k) (h1 : k = true → DS X kx A ρ M (joinQ R Mf kf out P)) (h2 : k = false → DS X kx B ρ M (joinQ R Mf kf out P))
    (hk : ∀ a z, kf z = out → P (.nx (R a z)) (Mf a z)) (hP : ∀ ρ1 ρ2 M1, Fgt ρ1 ρ2 → P (.nx ρ2) M1 → P (.nx ρ1) M1) : DS1 X kx (.If c A B pos) ρ M P := by
  have i : ∀ o m, joinQ R Mf kf out P o m → P o m := fun o m q => by
    cases o with
    | nx ρ1 =>
      obtain ⟨a, z, e1, e2, e3⟩ := q
      subst e3
      exact hP _ _ _ e2.fgt (hk a z e1)
    | bk ρ1 => exact q
    | ct ρ1 => exact q
    | rt d => exact q
  exact ds1_if hc (fun e => (h1 e).imp i) (fun e => (h2 e).imp i)
theorem join_nx {ι β γ : Type} {R : ι → β → Ro} {Mf : ι → β → Mem} {kf : β → Ex γ} {out : Ex γ} {P : Out → Mem → Prop} (a : ι) (z : β) (h : kf z = out) (f : FgtL ρ (R a z)) (m : M = Mf a z) : joinQ R Mf kf out P (.nx ρ) M := ⟨a, z, h, f, m⟩
theorem ret_mk {α : Type} {enc : α → D} {out : Ex α} {r : α} (h : .ok r = out) : retQ enc out (.rt (enc r)) M := ⟨r, h.symm, rfl⟩
theorem fall_mk {enc : Unit → D} {out : Ex Unit} (h : .ok () = out) (he : enc () = .non) : retQ enc out (.nx ρ) M := ⟨(), h.symm, he.symm⟩
theorem loop_nx {β γ : Type} {R : β → Ro} {Mf : β → Mem} {enr : γ → D} {o : Ex (Ct β γ)} {z : β} (h : .ok (.nx z) = o) (f : FgtL ρ (R z)) (m : M = Mf z) : loopQ R Mf enr o (.nx ρ) M := ⟨z, h.symm, f, m⟩
theorem loop_rt {β γ : Type} {R : β → Ro} {Mf : β → Mem} {enr : γ → D} {o : Ex (Ct β γ)} {r : γ} (h : .ok (.rt r) = o) : loopQ R Mf enr o (.rt (enr r)) M := ⟨r, h.symm, rfl⟩
theorem bindX_cut {α β : Type} {m : Ex α} {k : α → Ex β} {out : Ex β} (h : bindX m k = out) (ne : out ≠ .bad) : ∃ o, m = o ∧ o ≠ .bad ∧ bindX o k = out := ⟨m, rfl, fun z => ne (by rw [← h, z]; rfl), h⟩
theorem okE {α β : Type} {a : α} {k : α → Ex β} {out : Ex β} (h : bindX (.ok a) k = out) : k a = out := h
theorem nxE {α β ρ : Type} {a : α} {k : α → β} {r : ρ → β} {out : β} (h : ctE (.nx a) k r = out) : k a = out := h
theorem kx_exc {α : Type} {mg : Str → Option Value} {out : Ex α} {n : Str} {fs : List (Str × D)} {cls : Value} (h : .exc n fs = out) (e : mg n = some cls) : kxE mg out cls fs ρ M := ⟨n, h.symm, e⟩
/-! comprehensions -/
theorem lcb_E {β : Type} {cM : Ex Bool} {fM : Ex β} [Inhabited β] {ifs : List Expr} {elt : Expr} {enc : β → D} (hb : ∃ b, cM = .ok b ∧ (b = true → ∃ v, fM = .ok v)) (hc : ∀ b, cM = .ok b → DTs X kx ifs ρ M b) (hf : ∀ v, fM = .ok v → DV X kx elt ρ M (enc v)) :
    DTs X kx ifs ρ M cM.get ∧ (cM.get = true → DV X kx elt ρ M (enc fM.get)) := by
  obtain ⟨b, e, h⟩ := hb
  have g : cM.get = b := by rw [e]; rfl
  rw [g]
  refine ⟨hc b e, fun q => ?_⟩
  obtain ⟨v, hv⟩ := h q
  have gv : fM.get = v := by rw [hv]; rfl
  rw [gv]
  exact hf v hv
theorem outs_E {α β : Type} [Inhabited β] {xs : List α} {ys : List β} {c : α → Ex Bool} {f : α → Ex β} (enc : β → D) (h : ys = (xs.filter fun x => (c x).get).map (fun x => (f x).get)) : outs xs (fun x => (c x).get) (fun x => enc (f x).get) = ys.map enc := by
  rw [h, List.map_map]; rfl
theorem dv_lcE {α : Type} {N : List Str} {sc csc : Scope} {k : Nat} {own : List (Str × Nat)} {elt : Expr} {ifs : List Expr} {xs : List α} {enc : α → D} {cnd : α → Bool} {f : α → D} {ds : List D} (B : Bd X N sc k) (hi : DI X kx tg e ρ M (xs.map enc)) (ok : BlkOk N sc csc own) (hl : xs.length < sizeLine)
    (h : ∀ x, x ∈ xs → LcB X N sc csc k own tg elt ifs ρ M (enc x) (cnd x) (f x)) (hd : outs xs cnd f = ds) (hs : ∀ x, foldedSetIterable e X.env x = pure x := by intro _; rfl) : DV X kx (.ListComp elt [⟨tg, e, ifs, 0⟩] csc pos) ρ M (.lst ds) :=
  (dv_lc B hi ok hl h hs).is (by rw [hd])
/-! walks -/
def enumL {α : Type} (xs : List α) : List (Int × α) := ((List.range xs.length).zip xs).map fun q => (((q.1 : Nat) : Int), q.2)
/-- a global's number -/
theorem dv_gint {x : Str} {i : Int} {u : Value} (hg : Gl X x) (hm : X.mg x = some u) (r : RelV (.int i) u) (hd : (x == ("__debug__" : Str)) = false := by decide) : DV X kx (.Name x pos) ρ M (.int i) := fun σ H H0 t s W tk hx Q q =>
  sE.by (pe_glob hg hm r hd) (q _ H H0 (Pu.refl t.ex) (.int i))
/-- // by a positive number -/
def DivOk (j : Int) : Prop := 0 < j ∧ j < 2 ^ 300
def RngOk (i : Int) : Prop := -(2 ^ 62) ≤ i ∧ i < 2 ^ 62
def DivPOk (i j : Int) : Prop := CDivP i j
theorem dv_isiO {α : Type} {T S : String} {f g : Str} {p2 : Pos} {enc : α → D} {o : Option α} (n : Bn X f (.builtin "isinstance")) (n2 : Bn X g (.type S)) (ha : DV X kx a ρ M (dOpt enc o)) (h : ∀ x, TyN M (enc x) T) (hk : kitB T S = some true) (hn : kitB "NoneType" S = some false)
    (he : starEach [a, .Name g p2] X.env = (false, eval a X.env) :: starEach [.Name g p2] X.env := by rfl) : DV X kx (.Call (.Name f p) [a, .Name g p2] [] pos) ρ M (.bl o.isSome) := by
  cases o with
  | none => exact dv_isi n n2 ha .non hn he
  | some x => exact dv_isi n n2 ha (h x) hk he
theorem dv_isiN {α : Type} {T S : String} {f g : Str} {p2 : Pos} {enc : α → D} {o : Option α} (n : Bn X f (.builtin "isinstance")) (n2 : Bn X g (.type S)) (ha : DV X kx a ρ M (dOpt enc o)) (h : ∀ x, TyN M (enc x) T) (hk : kitB T S = some false) (hn : kitB "NoneType" S = some false)
    (he : starEach [a, .Name g p2] X.env = (false, eval a X.env) :: starEach [.Name g p2] X.env := by rfl) : DV X kx (.Call (.Name f p) [a, .Name g p2] [] pos) ρ M (.bl false) := by
  cases o with
  | none => exact dv_isi n n2 ha .non hn he
  | some x => exact dv_isi n n2 ha (h x) hk he
end
theorem fnok_imp {P : Program} {w : World} {K : Frag} {mg : Str → Option Value} {base : Heap} {CX : CXT} {k : Nat} {f : Addr} {fd : FuncData} {ps : List Str} {sp sp' : Sp} (g : FnOk P w K mg base CX k f fd ps sp) (h : ∀ vs H Q E, sp' vs H Q E → sp vs H Q E) : FnOk P w K mg base CX k f fd ps sp' := g.imp h
end Dl

/-! what a plain function hands back: small rules for its parts -/
namespace Dl
open PySem PySem.Spec PyProof.Rows L2
/-- it ends well, with a thing of which P holds -/
def Ret {α : Type} (e : Ex α) (P : α → Prop) : Prop := ∃ r, e = .ok r ∧ P r
section
variable {α β γ ρ : Type} {P : α → Prop} {Q : β → Prop}
theorem Ret.ok {a : α} (h : P a) : Ret (.ok a) P := ⟨a, rfl, h⟩
theorem Ret.of {e : Ex α} {a : α} (h : e = .ok a) : Ret e (fun r => r = a) := ⟨a, h, rfl⟩
theorem Ret.eq {e : Ex α} {a : α} (h : Ret e fun r => r = a) : e = .ok a := by
  obtain ⟨r, h, e⟩ := h; rw [h, e]
theorem Ret.imp {e : Ex α} {P' : α → Prop} (h : Ret e P') (i : ∀ a, P' a → P a) : Ret e P := by
  obtain ⟨r, h, p⟩ := h; exact ⟨r, h, i r p⟩
theorem Ret.gd {p : Prop} {m : Ex α} (h : p) (k : Ret m P) : Ret (gd p m) P := by rw [gd_ok h]; exact k
theorem Ret.bindP {m : Ex α} {k : α → Ex β} {R : α → Prop} (h : Ret m R) (i : ∀ a, R a → Ret (k a) Q) : Ret (bindP m k) Q := by
  obtain ⟨r, e, p⟩ := h; rw [e]; exact i r p
theorem Ret.bindX {m : Ex α} {k : α → Ex β} {R : α → Prop} (h : Ret m R) (i : ∀ a, R a → Ret (k a) Q) : Ret (bindX m k) Q := by
  obtain ⟨r, e, p⟩ := h; rw [e]; exact i r p
/-- what is known by an equation -/
theorem Ret.eqP {m : Ex α} {a : α} {k : α → Ex β} (h : m = .ok a) (i : Ret (k a) Q) : Ret (Dl.bindP m k) Q := by rw [h]; exact i
theorem Ret.letE {a : α} {k : α → Ex β} (h : ∀ x, x = a → Ret (k x) Q) : Ret (letE a k) Q := h a rfl
theorem Ret.letI {a : α} {k : α → Ex β} (h : Ret (k a) Q) : Ret (Dl.letE a k) Q := h
theorem Ret.jpE {k : α} {f : α → Ex β} (h : Ret (f k) Q) : Ret (jpE k f) Q := h
/-- ways that meet again, where C holds -/
theorem Ret.jpA {δ : Type} {k : δ → Ex α} {f : (δ → Ex α) → Ex β} {Q : β → Prop} {R : α → Prop} (C : δ → Prop) (hk : ∀ z, C z → Ret (k z) R) (hf : ∀ k' : δ → Ex α, (∀ z, C z → Ret (k' z) R) → Ret (f k') Q) : Ret (Dl.jpE k f) Q := hf k hk
theorem Ret.ite {c : Bool} {m1 m2 : Ex α} (h1 : c = true → Ret m1 P) (h2 : c = false → Ret m2 P) : Ret (if c = true then m1 else m2) P := by
  cases c with
  | true => exact h1 rfl
  | false => exact h2 rfl
theorem Ret.iteD {p : Prop} [Decidable p] {m1 m2 : Ex α} (h1 : p → Ret m1 P) (h2 : ¬ p → Ret m2 P) : Ret (if decide p = true then m1 else m2) P :=
  Ret.ite (fun h => h1 (of_decide_eq_true h)) (fun h => h2 (of_decide_eq_false h))
theorem Ret.iteN {p : Prop} [Decidable p] {m1 m2 : Ex α} (h1 : ¬ p → Ret m1 P) (h2 : p → Ret m2 P) : Ret (if (!decide p) = true then m1 else m2) P :=
  Ret.ite (fun h => h1 (by simpa using h)) (fun h => h2 (by simpa using h))
theorem Ret.t {c : Bool} {m1 m2 : Ex α} (h : c = true) (k : Ret m1 P) : Ret (if c = true then m1 else m2) P := by rw [if_pos h]; exact k
theorem Ret.f {c : Bool} {m1 m2 : Ex α} (h : c = false) (k : Ret m2 P) : Ret (if c = true then m1 else m2) P := by rw [if_neg (by rw [h]; decide)]; exact k
theorem Ret.someE {o : Option α} {a : α} {k : α → Ex β} (h : o = some a) (i : Ret (k a) Q) : Ret (Dl.bindP (someE o) k) Q := by rw [h]; exact i
theorem Ret.ix {xs : List α} {i : Int} {k : α → Ex β} (h0 : 0 ≤ i) (h1 : i < xs.length) (h : ∀ x, xs[i.toNat]? = some x → Ret (k x) Q) : Ret (Dl.bindP (ixE xs i) k) Q := by
  have l : i.toNat < xs.length := by omega
  have e := List.getElem?_eq_getElem l
  rw [ixE_nat h0 e]
  exact h _ e
theorem Ret.ixN {xs : List α} {i : Int} {k : α → Ex β} (h0 : i < 0) (h1 : 0 ≤ i + xs.length) (h : ∀ x, xs[(i + xs.length).toNat]? = some x → Ret (k x) Q) : Ret (Dl.bindP (ixE xs i) k) Q := by
  have l : (i + xs.length).toNat < xs.length := by omega
  have e := List.getElem?_eq_getElem l
  rw [ixE_neg h0 h1 e]
  exact h _ e
theorem Ret.ixM {xs : List α} {i : Int} {k : α → Ex β} (h0 : 0 ≤ i) (h1 : i < xs.length) (h : ∀ x ∈ xs, Ret (k x) Q) : Ret (Dl.bindP (ixE xs i) k) Q :=
  Ret.ix h0 h1 fun x e => h x (List.mem_of_getElem? e)
theorem Ret.andE {a : Bool} {m : Ex Bool} {P : Bool → Prop} (h1 : a = true → Ret m P) (h2 : a = false → P false) : Ret (andE a m) P := by
  cases a with
  | true => exact h1 rfl
  | false => exact ⟨false, rfl, h2 rfl⟩
theorem Ret.orE {a : Bool} {m : Ex Bool} {P : Bool → Prop} (h1 : a = false → Ret m P) (h2 : a = true → P true) : Ret (orE a m) P := by
  cases a with
  | false => exact h1 rfl
  | true => exact ⟨true, rfl, h2 rfl⟩
/-- a loop that is never left ahead of its end -/
theorem Ret.loop {f : β → α → Ex (Ct β ρ)} {k : β → Ex γ} {r : ρ → Ex γ} {Q : γ → Prop} {xs : List α} {z : β} (J : Nat → β → Prop) (h0 : J 0 z) (hs : ∀ j z x, xs[j]? = some x → J j z → Ret (f z x) fun c => ∃ z', c = .nx z' ∧ J (j + 1) z') (hk : ∀ z, J xs.length z → Ret (k z) Q) :
    Ret (Dl.bindX (loopE f z xs) fun c => ctE c k r) Q := by
  obtain ⟨z', e, j⟩ := loopE_inv0 (f := f) J xs z h0 fun j z x hx hj => by
    obtain ⟨c, e, z', e2, h⟩ := hs j z x hx hj
    exact ⟨z', by rw [e, e2], h⟩
  rw [e]; exact hk z' j
theorem loopE_any {f : β → α → Ex (Ct β ρ)} (J : Nat → β → Prop) (B : β → Prop) (R : ρ → Prop) : ∀ (xs : List α) (i : Nat) (z : β), J i z → (∀ j z x, xs[j]? = some x → J (i + j) z → Ret (f z x) fun c => match c with | .nx z' => J (i + j + 1) z' | .bk z' => B z' | .rt r => R r) →
    Ret (loopE f z xs) fun c => match c with | .nx z' => J (i + xs.length) z' ∨ B z' | .bk _ => False | .rt r => R r
  | [], i, z, h, _ => ⟨.nx z, rfl, .inl h⟩
  | x :: xs, i, z, h, hs => by
    obtain ⟨c, e1, h1⟩ := hs 0 z x rfl h
    rw [loopE_cons, e1]
    cases c with
    | nx z1 =>
      have ih := loopE_any J B R xs (i + 1) z1 h1 fun j z y hy hj => by
        have e : i + 1 + j = i + (j + 1) := by omega
        rw [e] at hj ⊢
        exact hs (j + 1) z y hy hj
      refine ih.imp fun c hc => ?_
      cases c with
      | nx z' =>
        rcases hc with q | q
        · left
          rw [List.length_cons, show i + (xs.length + 1) = i + 1 + xs.length by omega]; exact q
        · exact .inr q
      | bk z' => exact hc
      | rt r => exact hc
    | bk z1 => exact ⟨.nx z1, rfl, .inr h1⟩
    | rt r => exact ⟨.rt r, rfl, h1⟩
/-- a loop that may be left: B where it breaks off, R where it hands back -/
theorem Ret.loopX {f : β → α → Ex (Ct β ρ)} {k : β → Ex γ} {r : ρ → Ex γ} {Q : γ → Prop} {xs : List α} {z : β} (J : Nat → β → Prop) (B : β → Prop) (R : ρ → Prop) (h0 : J 0 z) (hs : ∀ j z x, xs[j]? = some x → J j z → Ret (f z x) fun c => match c with | .nx z' => J (j + 1) z' | .bk z' => B z' | .rt r => R r)
    (hk : ∀ z, J xs.length z → Ret (k z) Q) (hb : ∀ z, B z → Ret (k z) Q) (hr : ∀ x, R x → Ret (r x) Q) : Ret (Dl.bindX (loopE f z xs) fun c => ctE c k r) Q := by
  have q := loopE_any J B R xs 0 z h0 fun j z x hx hj => by rw [Nat.zero_add] at hj ⊢; exact hs j z x hx hj
  rw [Nat.zero_add] at q
  refine q.bindX fun c hc => ?_
  cases c with
  | nx z' => exact hc.elim (hk z') (hb z')
  | bk z' => exact hc.elim
  | rt x => exact hr x hc
theorem Ret.map {f : α → Ex β} {k : List β → Ex γ} {Q : γ → Prop} {xs : List α} (g : α → β) (hf : ∀ x ∈ xs, f x = .ok (g x)) (h : Ret (k (xs.map g)) Q) : Ret (Dl.bindP (compE (fun _ => .ok true) f xs) k) Q := by
  rw [compE_map xs hf]; exact h
end
end Dl

namespace Dl
open PySem PySem.Spec PyProof.Rows L2
section
variable {X : Cx} {kx kx' : XD} {ρ ρ' ρ'' : Ro} {M M' : Mem} {P : Out → Mem → Prop} {pos p apos tpos : Pos} {tg a b c e o ix : Expr} {es : List Expr} {x y z : D} {k l : Bool} {w : Addr} {α β γ : Type}
/-! ### is True -/
/-! ### xs[i] = e -/
def setE (xs : List α) (i : Int) (v : α) : Ex (List α) := match ixN xs.length i with
  | some j => .ok (xs.set j v)
  | none => .bad
theorem setE_out {xs ys : List α} {i : Int} {v : α} (h : setE xs i v = .ok ys) : ∃ j, ixN xs.length i = some j ∧ ys = xs.set j v := by
  unfold setE at h
  cases q : ixN xs.length i with
  | none => rw [q] at h; cases h
  | some j => rw [q] at h; cases h; exact ⟨j, rfl, rfl⟩
theorem ds1_seti {i : Int} {n : Nat} {v : α} {xs ys : List α} {g : α → D} (h : setE xs i v = .ok ys) (hv : DV X kx e ρ M (g v)) (ho : DV X kx o ρ M (.adr w)) (hi : DV X kx ix ρ M (.int i)) (hm : M[n]? = some (w, .lst (xs.map g))) (hk : P (.nx ρ) (M.set n (w, .lst (ys.map g))))
    (ha : ∀ v, assign (.Subscript o ix apos) X.env v = (do
      let ov ← holding [v] (eval o X.env)
      let iv ← holding [v, ov] (eval ix X.env)
      standAt apos
      holding [v, ov, iv] (setItem ov iv v)
      release [v, ov, iv] []) := by intro _; rfl)
    (hs : swapsWithSole [.Subscript o ix apos] e pos.line X.env = pure false := by rfl) (hw : swappedStores [.Subscript o ix apos] e X.env = pure none := by rfl)
    (h1 : (assignEach [.Subscript o ix apos] X.env).map (·.2) = [assign (.Subscript o ix apos) X.env] := by rfl) : DS1 X kx (.Assign [.Subscript o ix apos] e pos) ρ M P := fun σ H H0 t s W tk hx D c => by
  obtain ⟨j, hj, rfl⟩ := setE_out h
  refine sS.by (ps_asg (pe_s e) (pg_sub (pe_s o) (pe_s ix) set_list ha) hs hw h1) (hv σ H H0 t s W tk hx _ fun v' H1 H01 p1 r1 => ho σ H1 H01 (t.pu p1) (s.mo p1.e0) W tk (hx.pu p1) _ fun u H2 H02 p2 r2 => hi σ H2 H02 (t.pu (p1.trans p2)) (s.mo (p1.trans p2).e0) W tk (hx.pu (p1.trans p2)) _ fun iv H3 H03 p3 r3 => ?_)
  cases r2; cases r3
  have p13 := (p1.trans p2).trans p3
  obtain ⟨_, vs, h1, h2⟩ := (t.pu p13).mem _ (List.mem_of_getElem? hm)
  obtain ⟨t3, g3⟩ := (t.pu p13).setM (o := .lst (vs.set j v')) (m' := .lst ((xs.set j v).map g)) hm fun H' e => ⟨vs.set j v', e, by rw [List.map_set]; exact h2.set j (r1.mo (p2.trans p3).e0)⟩
  exact ⟨w, vs, i, j, rfl, rfl, h1, by rw [h2.length, List.length_map]; exact hj, c.nx σ _ H03 ρ _ (p13.go.trans g3) t3 (s.mo p13.e0) hk⟩
/-! ### raise -/
/-- an own class of exceptions, x at C -/
structure ExT (K : Frag) (mg : Str → Option Value) (x : Str) (C : Addr) : Prop extends ExcC K C where
  gC : mg x = some (.ref C)
  xC : PySem.W.excIn K C [.type "ValueError", .type "Exception", .type "BaseException", .type "object"] "ValueError.__new__" = true
  kC : PySem.W.keepIn K (.ref C) = true
  tC : PySem.W.typeIn K (.ref C) = some (.type "type")
/-! ### f(e), that raises -/
theorem de_exc {α : Type} {x : Str} {args : α → List D} {F : α → Ex β} {enc : β → D} {k : Nat} {dvs ds : List D} {n : Str} {fs : List (Str × D)} (G : GF X.prog X.w X.K X.mg X.base k x dvs (spE X.K X.mg args F enc)) (hr : Room k X.A) (hg : Gl X x) (ha : DA X kx (e :: es) ρ M ds) (a : α) (hargs : args a = ds ++ dvs)
    (hF : F a = .exc n fs) (hk : ∀ cls, X.mg n = some cls → kx cls fs ρ M) (hdb : (x == ("__debug__" : Str)) = false := by decide) (he : starEach (e :: es) X.env = (false, eval e X.env) :: starEach es X.env := by rfl) (hpl : (backTo pos (starEach es X.env)).any (·.1) = false := by rfl) :
    DE X kx (.Call (.Name x p) (e :: es) [] pos) ρ M fun _ _ => False :=
  de_call G hr hg ha a hargs (fun h => by cases hF.symm.trans h) (fun d ⟨r, h, _⟩ => by cases hF.symm.trans h) (fun cls fs' ⟨n', h, hm⟩ => by cases hF.symm.trans h; exact hk cls hm) hdb he hpl
theorem ds1_void {e : Expr} (h : DE X kx e ρ M fun _ _ => False) (hs : swapsWith e none tpos.line X.env = pure false := by rfl) : DS1 X kx (.Expr e tpos) ρ M P := ds1_expr h (fun _ _ z => z.elim) hs
theorem ds1_exprV {e : Expr} {d : D} (h : DV X kx e ρ M d) (hp : P (.nx ρ) M) (hs : swapsWith e none tpos.line X.env = pure false := by rfl) : DS1 X kx (.Expr e tpos) ρ M P :=
  ds1_expr (h.de (k := fun _ m => m = M) rfl) (fun _ m e => by subst e; exact hp) hs
end
end Dl
namespace Dl
open PySem PySem.Spec PyProof.Rows L2
/-! ### classes, methods, defaults: what the top has written -/
/-- an own class, x at C -/
structure ClsT (K : Frag) (mg : Str → Option Value) (x : Str) (C : Addr) (fs : List Str) : Prop where
  gC : mg x = some (.ref C)
  cl : Cls K C
  na : ∀ f ∈ fs, NoAttr K C f
  mks : PySem.W.makesIn K C = true
  kp : PySem.W.keepIn K (.ref C) = true
/-- a def with perhaps defaults, as K holds it: any number of the last arguments may be left out -/
structure DefT (K : Frag) (x qual : Str) (st : Stmt) (ps : List Str) (dvs : List V) (f : Addr) (fd : FuncData) : Prop where
  F : FunD K x qual (defArgs st) (defBody st) (defScope st) dvs [] f fd
  b : ∀ j, j ≤ dvs.length → ∃ ds, Vals (dvs.drop j) ds ∧ Binds K fd ps ds
def MethT (K : Frag) (C : Addr) (m qual : Str) (st : Stmt) (ps : List Str) (dvs : List V) : Prop := ∃ f fd, DefT K m qual st ps dvs f fd ∧ PySem.W.findIn K (.ref C) m = some (some (.ref f)) ∧ PySem.W.isFn K (.ref f) = true
def FunDT (K : Frag) (mg : Str → Option Value) (x : Str) (st : Stmt) (ps : List Str) (dvs : List V) : Prop := ∃ f fd, DefT K x x st ps dvs f fd ∧ mg x = some (.ref f)
section
variable {K : Frag} {x qual : Str} {st : Stmt} {ps : List Str} {dvs : List V} {f : Addr} {fd : FuncData}
end
section
variable {P : Program} {w : World} {K : Frag} {mg : Str → Option Value} {base : Heap} {α β : Type}
/-- what __init__ leaves: the object at w with the fields ns -/
def initQ (C : Addr) (ns : List Str) (encs : β → List D) (out : Ex β) (w : Addr) : Out → Mem → Prop
  | .nx _, M => ∃ r, out = .ok r ∧ M = [(w, .ins C ns (encs r))]
  | _, _ => False
abbrev spI (K : Frag) (mg : Str → Option Value) (C : Addr) (ns : List Str) (args : α → List D) (F : α → Ex β) (encs : β → List D) : Sp :=
  spM K (fun q : Addr × α => .adr q.1 :: args q.2) (fun q => [(q.1, .ins C [] [])]) (fun q => F q.2 ≠ .bad) (fun q d M' => (∃ r, F q.2 = .ok r ∧ M' = [(q.1, .ins C ns (encs r))]) ∧ d = .non) (fun q cls fs M' => ∃ n, F q.2 = .exc n fs ∧ mg n = some cls)
theorem FunDT.gf {x : Str} {st : Stmt} {ps : List Str} {dvs : List V} {k : Nat} {sp : Sp} (T : FunDT K mg x st ps dvs) (j : Nat) (hj : j ≤ dvs.length) (ds : List D) (hd : ∀ H vs, vs = dvs.drop j → RepA K H vs ds) (h : ∀ f fd, FunD K x x (defArgs st) (defBody st) (defScope st) dvs [] f fd → FnOk P w K mg base (L2.CX P w) k f fd ps sp) : GF P w K mg base k x ds sp := by
  obtain ⟨f, fd, Df, a⟩ := T
  obtain ⟨us, v, b⟩ := Df.b j hj
  exact ⟨f, fd, ps, us, _, a, Df.F.kp, h f fd Df.F, b, v, fun H => hd H _ rfl⟩
end
section
variable {X : Cx} {kx kx' : XD} {ρ ρ' ρ'' : Ro} {M M' : Mem} {P : Out → Mem → Prop} {pos p apos tpos : Pos} {tg a b c e o ix : Expr} {es : List Expr} {x y z : D} {w C : Addr} {α β γ : Type} {k : Nat} {m : Str} {ns : List Str} {dvs ds fs : List D}
end
end Dl
namespace Dl
open PySem PySem.Spec PyProof.Rows L2
end Dl
namespace Dl
open PySem PySem.Spec PyProof.Rows L2
/-! ### a list that changes, looked at by others meanwhile -/
mutual
/-- no list, no object within -/
def D.plain : D → Bool
  | .non => true
  | .bl _ => true
  | .int _ => true
  | .str _ => true
  | .ty _ => true
  | .lst _ => false
  | .scr _ => false
  | .tup xs => D.plainA xs
  | .ins _ _ _ => false
  | .adr _ => true
  | .dK _ _ => false
  | .dT _ _ => false
  | .exn _ _ xs => D.plainA xs
def D.plainA : List D → Bool
  | [] => true
  | d :: ds => d.plain && D.plainA ds
end
def cutH (H : Hp) (w : Addr) : Hp := fun a => if a = w then none else H a
theorem cutH_ne {H : Hp} {w a : Addr} (h : a ≠ w) : cutH H w a = H a := by unfold cutH; rw [if_neg h]
mutual
theorem Rep.cut {K : Frag} {H : Hp} {w : Addr} {xs : List V} (hw : H w = some (.lst xs)) : ∀ (d : D) (v : V), d.plain = true → Rep K H v d → Rep K (cutH H w) v d
  | .non, _, _, h => by cases h; exact .non
  | .bl b, _, _, h => by cases h; exact .bl b
  | .int b, _, _, h => by cases h; exact .int b
  | .str b, _, _, h => by cases h; exact .str b
  | .ty b, _, _, h => by cases h; exact .ty b
  | .lst ds, _, p, h => by simp [D.plain] at p
  | .scr ds, _, p, h => by simp [D.plain] at p
  | .tup ds, _, p, h => by
    cases h with
    | @tup a xs' _ c d =>
      have q : a ≠ w := fun z => by rw [z, hw] at c; cases c
      exact .tup (by rw [cutH_ne q]; exact c) (RepA.cut hw ds _ (by simpa [D.plain] using p) d)
  | .ins C ns ds, _, p, h => by simp [D.plain] at p
  | .adr a, _, _, h => by cases h; exact .adr a
  | .dK _ _, _, p, h => by simp [D.plain] at p
  | .dT _ _, _, p, h => by simp [D.plain] at p
  | .exn C ns ds, _, p, h => by
    have ne : ∀ {a C : Addr} {d : Option Addr}, H a = some (exT a C d) → a ≠ w := fun {a C d} c z => by rw [z, hw] at c; cases c
    cases h with
    | exn0 c => exact .exn0 (by rw [cutH_ne (ne c)]; exact c)
    | @exn1 a C d vs ns xs' ds c1 c2 c3 c4 c5 =>
      have nd : d ≠ w := fun z => by rw [z, hw] at c2; cases c2
      exact .exn1 (by rw [cutH_ne (ne c1)]; exact c1) (by rw [cutH_ne nd]; exact c2) c3 c4 (RepA.cut hw ds _ (by simpa [D.plain] using p) c5)
theorem RepA.cut {K : Frag} {H : Hp} {w : Addr} {xs : List V} (hw : H w = some (.lst xs)) : ∀ (ds : List D) (vs : List V), D.plainA ds = true → RepA K H vs ds → RepA K (cutH H w) vs ds
  | [], _, _, h => by cases h; exact .nil
  | d :: ds, _, p, h => by
    simp only [D.plainA, Bool.and_eq_true] at p
    cases h with
    | cons a b => exact .cons (Rep.cut hw d _ p.1 a) (RepA.cut hw ds _ p.2 b)
end
section
variable {X : Cx} {kx kx' : XD} {ρ ρ' ρ'' : Ro} {M M' : Mem} {P : Out → Mem → Prop} {pos p apos tpos : Pos} {tg a b c e o ix : Expr} {es : List Expr} {x y z d : D} {w C : Addr} {α β γ : Type} {k : Nat} {m : Str} {ns : List Str} {dvs ds fs : List D}
/-! ### a new list handed back, that may change -/
def retF {β : Type} (g : β → D) (out : Ex (List β)) : Out → Mem → Prop
  | .rt d, M => ∃ r w, out = .ok r ∧ d = .adr w ∧ (w, Mu.lst (r.map g)) ∈ M
  | _, _ => False
abbrev spF (K : Frag) (mg : Str → Option Value) (args : α → List D) (F : α → Ex (List β)) (g : β → D) : Sp :=
  spM K args (fun _ => []) (fun q => F q ≠ .bad) (fun q d M' => ∃ r w, F q = .ok r ∧ d = .adr w ∧ (w, Mu.lst (r.map g)) ∈ M') (fun q cls fs _ => ∃ n, F q = .exc n fs ∧ mg n = some cls)
end
section
variable {P : Program} {w : World} {K : Frag} {mg : Str → Option Value} {base : Heap} {α β : Type}
end
section
variable {X : Cx} {kx kx' : XD} {ρ ρ' ρ'' : Ro} {M M' : Mem} {P : Out → Mem → Prop} {pos p apos tpos : Pos} {tg a b c e o ix : Expr} {es : List Expr} {x y z d : D} {w C : Addr} {α β γ : Type} {k : Nat} {m : Str} {ns : List Str} {dvs ds fs : List D}
end
end Dl

namespace Dl
open PySem PySem.Spec PyProof.Rows L2
section
variable {X : Cx} {kx kx' : XD} {ρ ρ' ρ'' : Ro} {M M' : Mem} {P : Out → Mem → Prop} {pos p apos tpos kpos : Pos} {tg a b c e o ix dd : Expr} {es : List Expr} {x y z d : D} {w C : Addr} {α β γ : Type} {k : Nat} {ds fs : List D}
/-! ### max(xs, default=None) -/
def maxO (l : List Int) : Option Int := if l = [] then none else some (maxI l)
def minO (l : List Int) : Option Int := if l = [] then none else some (minI l)
def rMaxD (K : PySem.W.Frag) : List V → List V → Hp → VK → Prop := fun vs zs H Q => ∃ (a : Addr) (ns : List Int) (z : V), vs = [V.ref a] ∧ zs = [z] ∧ SqL K H a (ns.map V.int) ∧ Q (match maxO ns with | none => z | some m => .int m) H
theorem vals1 {z : V} {ws : List Value} (h : Vals [z] ws) : ∃ w1, ws = [w1] ∧ RelV z w1 := by
  cases h with
  | cons a b => cases b; exact ⟨_, rfl, a⟩
/-! ### xs * n -/
def repL (xs : List α) (n : Int) : List α := (List.replicate n.toNat xs).flatten
def RepOk (n : Int) : Prop := -(2 ^ 63) ≤ n ∧ n < 2 ^ 63
/-! ### x in a tuple of numbers -/
/-! ### xs[::-1] -/
end
end Dl

namespace Dl
open PySem PySem.Spec PyProof.Rows L2
/-! ### the mirror of a try -/
def excE {β : Type} (hs : List (Str × Ex β)) (n : Str) : Ex β := match hs with
  | [] => .bad
  | (m, h) :: t => if n = m then h else excE t n
def tryE {α β : Type} (m : Ex α) (k : α → Ex β) (hs : List (Str × Ex β)) : Ex β := match m with
  | .ok a => k a
  | .exc n fs => if fs.length = 0 then excE hs n else .bad
  | .bad => .bad
/-! ### the walk -/
structure BdS (X : Cx) (N : List Str) (sc : Scope) (k : Nat) : Prop where
  hN : X.N = N
  hnd : N.Nodup
  hsc : X.env.scope = sc
  un : X.A.units + 64 < cLine
section
variable {X : Cx} {N : List Str} {sc : Scope} {k : Nat}
theorem BdS.hu (B : BdS X N sc k) : X.A.units + 64 < cLine := B.un
theorem BdS.nm (B : BdS X N sc k) {i : Nat} {x : Str} (h : N[i]? = some x) (v : Vis sc x) (d1 : (x == ("__debug__" : Str)) = false := by decide) (d2 : (x == ("__classdict__" : Str)) = false := by decide) : Nm X i x :=
  ⟨by rw [B.hN]; exact h, by rw [B.hsc]; exact v, d1, d2⟩
theorem BdS.ns (B : BdS X N sc k) {i : Nat} {x : Str} (h : N[i]? = some x) (v : sc.names.lookup x = some .local) (d1 : (x == ("__debug__" : Str)) = false := by decide) (d2 : (x == ("__classdict__" : Str)) = false := by decide) : Ns X i x :=
  { B.nm h (.inl v) d1 d2 with nd := by rw [B.hN]; exact B.hnd, loc := by rw [B.hsc]; exact .inl v, fn := .inr (by rw [B.hsc]; exact v) }
theorem BdS.gl (B : BdS X N sc k) {x : Str} (h : sc.names.lookup x = some .globalImplicit) : Gl X x := by
  show X.env.scope.names.lookup x = some .globalImplicit
  rw [B.hsc]; exact h
theorem BdS.bn (B : BdS X N sc k) {x : Str} {u : Value} (h : sc.names.lookup x = some .globalImplicit) (m : X.mg x = none) (b : bootBuiltins x = some u) (n : x ≠ "__name__" := by decide) (d : (x == ("__debug__" : Str)) = false := by decide) : Bn X x u :=
  ⟨B.gl h, m, b, n, d⟩
theorem Bd.su (B : Bd X N sc k) (a : Addr) (l : List (Addr × PySem.Obj)) : BdS (X.suite a l) N sc k := ⟨B.hN, B.hnd, B.hsc, B.room.units⟩
theorem Bd.tr (B : Bd X N sc k) {pn : List (Addr × PySem.Obj)} {xe : Value → Shared → Prop} (po : PassesOwn (model X.prog X.w) X.A X.env xe) : Bd (X.tr pn xe) N sc k := ⟨B.hN, B.hnd, B.hsc, B.calm, B.room, po⟩
theorem Bf.tr (F : Bf X) {pn : List (Addr × PySem.Obj)} {xe : Value → Shared → Prop} : Bf (X.tr pn xe) := ⟨F.fn, F.stk, F.fr⟩
end
/-- the exception that the suite holds, of the class at C -/
def Held (X : Cx) (a C : Addr) : Prop := ∃ (Y : Cx) (oe : PySem.Obj) (l : List (Addr × PySem.Obj)), X = Y.suite a ((a, oe) :: l) ∧ Zc (.ref C) none oe ∧ ∃ vs, oe.data = .fields vs
/-- what follows, once the exception's name is gone -/
def goneP (i : Nat) (P : Out → Mem → Prop) : Out → Mem → Prop
  | .nx ρ, M => P (.nx (ρ.set i none)) M
  | .bk ρ, M => P (.bk (ρ.set i none)) M
  | .ct ρ, M => P (.ct (ρ.set i none)) M
  | .rt d, M => P (.rt d) M
section
variable {X : Cx} {kx kx' : XD} {ρ ρ' ρ'' : Ro} {M M' : Mem} {P : Out → Mem → Prop} {pos p np pos' : Pos} {tg a b c e o ix dd : Expr} {es : List Expr} {x y z d : D} {w C : Addr} {α β γ : Type} {k i : Nat} {ds fs : List D} {N : List Str} {sc : Scope}
theorem Sl.none {K : Frag} {H0 : Hp} {σ : L2.St} (h : Sl K H0 σ ρ) (i : Nat) : Sl K H0 (σ.set i none) (ρ.set i none) := by
  refine ⟨by rw [List.length_set, List.length_set]; exact h.1, fun j d' e => ?_⟩
  by_cases hj : i = j
  · subst hj
    by_cases hi : i < ρ.length
    · rw [List.getElem?_set_self hi] at e
      cases e
    · rw [List.getElem?_eq_none (by rw [List.length_set]; omega)] at e
      cases e
  · rw [List.getElem?_set_ne hj] at e ⊢
    exact h.2 j d' e
/-! ### isinstance(e, D) -/
/-- a class's name -/
theorem dv_cls {n : Str} {pp : Pos} (hg : Gl X n) (hm : X.mg n = some (.ref C)) (hdb : (n == ("__debug__" : Str)) = false := by decide) : DV X kx (.Name n pp) ρ M (.adr C) := fun σ H H0 t s W tk hx Q q =>
  sE.by (pe_glob hg hm (v := .ref C) rfl hdb) (q _ H H0 (Pu.refl t.ex) (.adr C))
/-! ### a, b = x, y -/
theorem ds1_par2 {i j kt k2 : Nat} {x1 x2 : Str} {p1 p2 pt pt2 : Pos} {d1 d2 : D} {e1 e2 : Expr} (B : Bd X N sc k) (n1 : Ns X i x1) (n2 : Ns X j x2) (l1 : sc.names.lookup x1 = some .local) (l2 : sc.names.lookup x2 = some .local) (ha : DA X kx [e1, e2] ρ M [d1, d2]) (hij : i ≠ j) (hp : P (.nx ((ρ.set i (some d1)).set j (some d2))) M)
    (hw : ∀ env : Env, env.scope = sc → swappedStores [.Tuple [.Name x1 p1, .Name x2 p2] kt pt] (.Tuple [e1, e2] k2 pt2) env = pure (some [x1, x2]) := by intro env h; unfold swappedStores Env.blockKind Env.kindOf; simp only [h]; rfl)
    (hs : swapsWithSole [.Tuple [.Name x1 p1, .Name x2 p2] kt pt] (.Tuple [e1, e2] k2 pt2) pos.line X.env = pure false := by rfl) : DS1 X kx (.Assign [.Tuple [.Name x1 p1, .Name x2 p2] kt pt] (.Tuple [e1, e2] k2 pt2) pos) ρ M P := fun σ H H0 t s W tk hx D c =>
  sS.by (ps_par B.calm (by rw [B.hN]; exact B.hnd) n1.get n2.get hij (by rw [B.hsc]; exact l1) (by rw [B.hsc]; exact l2) (pa_s _) (hw X.env B.hsc) hs) (ha σ H H0 t s W tk hx _ fun vs H1 H01 p r => by
    cases r with
    | cons r1 rr =>
      cases rr with
      | cons r2 rr =>
        cases rr
        exact ⟨_, _, rfl, c.nx _ H1 H01 _ M p.go (t.pu p) (((s.mo p.e0).set r1 i).set r2 j) hp⟩)
theorem letJ_out {α β : Type} {a : α} {k : α → β} {out : β} (h : letE a k = out) : ∃ x, x = k ∧ x a = out := ⟨k, rfl, h⟩
end
end Dl

/-! a list that changes, locked while others look at it: what they make of it may be lists, too -/
namespace Dl
open PySem PySem.Spec PyProof.Rows L2
mutual
/-- no list that is read in place within -/
def D.nsc : D → Bool
  | .non => true
  | .bl _ => true
  | .int _ => true
  | .str _ => true
  | .ty _ => true
  | .lst xs => D.nscA xs
  | .scr _ => false
  | .tup xs => D.nscA xs
  | .ins _ _ xs => D.nscA xs
  | .adr _ => true
  | .dK _ xs => D.nscA xs
  | .dT _ xs => D.nscA xs
  | .exn _ _ xs => D.nscA xs
def D.nscA : List D → Bool
  | [] => true
  | d :: ds => d.nsc && D.nscA ds
end
mutual
theorem Rep.cutF {K : Frag} {H : Hp} {w : Addr} {o : PySem.Obj} {xs : List V} (hw : H w = some (.frz o (.lst xs))) : ∀ (d : D) (v : V), d.nsc = true → Rep K H v d → Rep K (cutH H w) v d
  | .non, _, _, h => by cases h; exact .non
  | .bl b, _, _, h => by cases h; exact .bl b
  | .int b, _, _, h => by cases h; exact .int b
  | .str b, _, _, h => by cases h; exact .str b
  | .ty b, _, _, h => by cases h; exact .ty b
  | .adr a, _, _, h => by cases h; exact .adr a
  | .scr ds, _, p, h => by simp [D.nsc] at p
  | .lst ds, _, p, h => by
    simp only [D.nsc] at p
    cases h with
    | lst c d => exact .lst (by rw [cutH_ne (fun z => by rw [z, hw] at c; cases c)]; exact c) (RepA.cutF hw ds _ p d)
  | .tup ds, _, p, h => by
    simp only [D.nsc] at p
    cases h with
    | tup c d => exact .tup (by rw [cutH_ne (fun z => by rw [z, hw] at c; cases c)]; exact c) (RepA.cutF hw ds _ p d)
  | .ins C ns ds, _, p, h => by
    simp only [D.nsc] at p
    cases h with
    | ins c d e f => exact .ins (by rw [cutH_ne (fun z => by rw [z, hw] at c; cases c)]; exact c) d e (RepA.cutF hw ds _ p f)
  | .dK ks ds, _, p, h => by
    simp only [D.nsc] at p
    cases h with
    | dK c d e f => exact .dK (by rw [cutH_ne (fun z => by rw [z, hw] at c; cases c)]; exact c) d e (RepA.cutF hw ds _ p f)
  | .dT ks ds, _, p, h => by
    simp only [D.nsc] at p
    cases h with
    | dT c d e f => exact .dT (by rw [cutH_ne (fun z => by rw [z, hw] at c; cases c)]; exact c) d e (RepA.cutF hw ds _ p f)
  | .exn C ns ds, _, p, h => by
    simp only [D.nsc] at p
    cases h with
    | exn0 c => exact .exn0 (by rw [cutH_ne (fun z => by rw [z, hw] at c; cases c)]; exact c)
    | exn1 c1 c2 c3 c4 c5 => exact .exn1 (by rw [cutH_ne (fun z => by rw [z, hw] at c1; cases c1)]; exact c1) (by rw [cutH_ne (fun z => by rw [z, hw] at c2; cases c2)]; exact c2) c3 c4 (RepA.cutF hw ds _ p c5)
theorem RepA.cutF {K : Frag} {H : Hp} {w : Addr} {o : PySem.Obj} {xs : List V} (hw : H w = some (.frz o (.lst xs))) : ∀ (ds : List D) (vs : List V), D.nscA ds = true → RepA K H vs ds → RepA K (cutH H w) vs ds
  | [], _, _, h => by cases h; exact .nil
  | d :: ds, _, p, h => by
    simp only [D.nscA, Bool.and_eq_true] at p
    cases h with
    | cons a b => exact .cons (Rep.cutF hw d _ p.1 a) (RepA.cutF hw ds _ p.2 b)
end
section
variable {X : Cx} {kx kx' : XD} {ρ ρ' ρ'' : Ro} {M M' : Mem} {e : Expr} {d : D} {w : Addr} {ds : List D}
end
end Dl
namespace Dl
open PySem PySem.Spec PyProof.Rows L2
end Dl

/-! dicts: kept in Mem while they change, locked for good when they don't -/
namespace Dl
open PySem PySem.Spec PyProof.Rows L2
section
variable {κ β γ : Type} [DecidableEq κ]
def getA (xs : List (κ × β)) (k : κ) : Option β := (xs.find? fun q => decide (q.1 = k)).map (·.2)
def putA (xs : List (κ × β)) (k : κ) (v : β) : List (κ × β) := if (xs.any fun q => decide (q.1 = k)) = true then xs.map (fun q => if q.1 = k then (q.1, v) else q) else xs ++ [(k, v)]
def setdA (xs : List (κ × β)) (k : κ) (v : β) : List (κ × β) := if (getA xs k).isSome = true then xs else putA xs k v
theorem getA_cons (q : κ × β) (xs : List (κ × β)) (k : κ) : getA (q :: xs) k = if q.1 = k then some q.2 else getA xs k := by
  unfold getA
  rw [List.find?_cons]
  by_cases h : q.1 = k
  · rw [if_pos h, decide_eq_true h]; rfl
  · rw [if_neg h, decide_eq_false h]
theorem valV_cons' (q : κ × V) (xs : List (κ × V)) (k : κ) : valV (q :: xs) k = if q.1 = k then some q.2 else valV xs k := by
  by_cases h : q.1 = k
  · rw [if_pos h, valV_pos h]
  · rw [if_neg h, valV_neg h]
/-- what a dict's look-up gives, value beside data -/
def Look2 (K : Frag) (H : Hp) : Option V → Option D → Prop
  | none, none => True
  | some v, some d => Rep K H v d
  | _, _ => False
theorem get_rep {K : Frag} {H : Hp} (k : κ) : ∀ {vs : List (κ × V)} {kvs : List (κ × D)}, vs.map Prod.fst = kvs.map Prod.fst → RepA K H (vs.map Prod.snd) (kvs.map Prod.snd) → Look2 K H (valV vs k) (getA kvs k)
  | [], [], _, _ => trivial
  | [], _ :: _, h, _ => by simp at h
  | _ :: _, [], h, _ => by simp at h
  | v :: vs, q :: kvs, h, r => by
    simp only [List.map_cons, List.cons.injEq] at h
    simp only [List.map_cons] at r
    cases r with
    | cons r1 r2 =>
      rw [valV_cons', getA_cons, h.1]
      by_cases e : q.1 = k
      · rw [if_pos e, if_pos e]; exact r1
      · rw [if_neg e, if_neg e]; exact get_rep k h.2 r2
/-! typed -/
end
/-! ### keys -/
def kD : Key → D
  | .inl i => .int i
  | .inr x => .str x
theorem kD_rep {K : Frag} {H : Hp} {v : V} {k : Key} (r : Rep K H v (kD k)) : v = kV k := by
  cases k with
  | inl i => cases r; rfl
  | inr x => cases r; rfl
theorem kDs_rep {K : Frag} {H : Hp} : ∀ {ks : List Key} {vs : List V}, RepA K H vs (ks.map kD) → vs = ks.map kV
  | [], _, r => by cases r; rfl
  | k :: ks, _, r => by
    have r' : RepA K H _ (kD k :: ks.map kD) := r
    cases r' with
    | cons a b => rw [kD_rep a, kDs_rep b]; rfl
/-- a dict with tuples as keys, that changes or doesn't -/
inductive DctT (M : Mem) : D → List (List Key × D) → Prop
  | adr {w : Addr} {kvs : List (List Key × D)} : (w, Mu.dT kvs) ∈ M → DctT M (.adr w) kvs
  | frz (kvs : List (List Key × D)) : DctT M (.dT (kvs.map Prod.fst) (kvs.map Prod.snd)) kvs
inductive DctK (M : Mem) : D → List (Key × D) → Prop
  | adr {w : Addr} {kvs : List (Key × D)} : (w, Mu.dK kvs) ∈ M → DctK M (.adr w) kvs
  | frz (kvs : List (Key × D)) : DctK M (.dK (kvs.map Prod.fst) (kvs.map Prod.snd)) kvs
theorem DctT.rep {K : Frag} {M : Mem} {H H0 : Hp} {v : V} {d : D} {kvs : List (List Key × D)} (h : DctT M d kvs) (t : Ht K H0 H M) (r : Rep K H0 v d) : ∃ (a : Addr) (vs : List (List Key × V)), v = .ref a ∧ Rd H a (.dT vs) ∧ vs.map Prod.fst = kvs.map Prod.fst ∧ RepA K H0 (vs.map Prod.snd) (kvs.map Prod.snd) := by
  cases h with
  | adr hm =>
    cases r
    obtain ⟨_, vs, xs, h1, h2, h3, h4⟩ := t.mem _ hm
    subst h3
    exact ⟨_, vs, rfl, .inl h1, h2, h4⟩
  | frz kvs =>
    cases r with
    | @dT a o vs ks xs ds h1 h2 h3 h4 =>
      subst h3
      exact ⟨_, vs, rfl, .inr ⟨o, t.ex _ _ h1⟩, h2, h4⟩
theorem DctK.rep {K : Frag} {M : Mem} {H H0 : Hp} {v : V} {d : D} {kvs : List (Key × D)} (h : DctK M d kvs) (t : Ht K H0 H M) (r : Rep K H0 v d) : ∃ (a : Addr) (vs : List (Key × V)), v = .ref a ∧ Rd H a (.dK vs) ∧ vs.map Prod.fst = kvs.map Prod.fst ∧ RepA K H0 (vs.map Prod.snd) (kvs.map Prod.snd) := by
  cases h with
  | adr hm =>
    cases r
    obtain ⟨_, vs, xs, h1, h2, h3, h4⟩ := t.mem _ hm
    subst h3
    exact ⟨_, vs, rfl, .inl h1, h2, h4⟩
  | frz kvs =>
    cases r with
    | @dK a o vs ks xs ds h1 h2 h3 h4 =>
      subst h3
      exact ⟨_, vs, rfl, .inr ⟨o, t.ex _ _ h1⟩, h2, h4⟩
/-- either kind of dict, with a key: what a look-up gives -/
inductive DKey (M : Mem) (x y : D) : Option D → Prop
  | t {kvs : List (List Key × D)} {k : List Key} : DctT M x kvs → y = .tup (k.map kD) → DKey M x y (getA kvs k)
  | k {kvs : List (Key × D)} {k : Key} : DctK M x kvs → y = kD k → DKey M x y (getA kvs k)
theorem DKey.get {K : Frag} {M : Mem} {H H0 : Hp} {v u : V} {x y : D} {o : Option D} (h : DKey M x y o) (t : Ht K H0 H M) (r : Rep K H0 v x) (ru : Rep K H0 u y) : ∃ a q, v = .ref a ∧ DGet H a u q ∧ Look2 K H0 q o := by
  cases h with
  | @t kvs k h e =>
    obtain ⟨a, vs, h1, h2, h3, h4⟩ := h.rep t r
    subst e
    cases ru with
    | @tup b xs _ c d =>
      have ek := kDs_rep d
      subst ek
      exact ⟨a, valV vs k, h1, .inr ⟨vs, k, b, h2, rfl, t.ex _ _ c, rfl⟩, get_rep k h3 h4⟩
  | @k kvs k h e =>
    obtain ⟨a, vs, h1, h2, h3, h4⟩ := h.rep t r
    subst e
    rw [kD_rep ru]
    exact ⟨a, valV vs k, h1, .inl ⟨vs, k, h2, rfl, rfl⟩, get_rep k h3 h4⟩
section
variable {X : Cx} {kx kx' : XD} {ρ ρ' ρ'' : Ro} {M M' : Mem} {P : Out → Mem → Prop} {pos p apos cpos tpos : Pos} {tg a b c e o ix f : Expr} {es : List Expr} {x y z d : D} {w C : Addr} {α β κ : Type} {k : Nat} {op : Option D} {N : List Str} {sc : Scope}
theorem m1 (base : attributeBase o "get" X.env (eval o X.env) = eval o X.env := by rfl)
    (few : ((backTo cpos (starEach [e] X.env)).all (fun x => !x.1) && (backToKw cpos (keywordEach [] X.env)).all (fun x => x.1.isSome) && decide (([e] : List Expr).length + ([] : List Keyword).length + (if ([] : List Keyword).isEmpty then 0 else 1) < 30)) = true := by rfl)
    (line : (apos.endLine == cpos.line) = true := by rfl) (trees : backTo cpos (starEach [e] X.env) = [(false, eval e X.env)] := by rfl) : M1 X o "get" apos e cpos := ⟨base, few, line, trees⟩
theorem m2 {m : Str} (base : attributeBase o m X.env (eval o X.env) = eval o X.env := by rfl)
    (few : ((backTo cpos (starEach [e, f] X.env)).all (fun x => !x.1) && (backToKw cpos (keywordEach [] X.env)).all (fun x => x.1.isSome) && decide (([e, f] : List Expr).length + ([] : List Keyword).length + (if ([] : List Keyword).isEmpty then 0 else 1) < 30)) = true := by rfl)
    (line : (apos.endLine == cpos.line) = true := by rfl) (trees : backTo cpos (starEach [e, f] X.env) = [(false, eval e X.env), (false, eval f X.env)] := by rfl) : M2 X o m apos e f cpos := ⟨base, few, line, trees⟩
end
/-! ### setdefault of a dict with tuples as keys -/
def rSetdT : V → List V → Hp → VK → Prop := fun x xs H Q => ∃ (a : Addr) (vs : List (List Key × V)) (k : List Key) (b : Addr) (dv : V), x = .ref a ∧ xs = [.ref b, dv] ∧ H a = some (.dT vs) ∧ H b = some (.tup (k.map kV)) ∧ vs.length < sizeLine ∧
  (∀ v, valV vs k = some v → Q v H) ∧ (valV vs k = none → Q dv (upd H a (.dT (putK vs k dv))))
section
variable {X : Cx} {kx kx' : XD} {ρ ρ' ρ'' : Ro} {M M' : Mem} {P : Out → Mem → Prop} {pos p apos cpos spos : Pos} {tg a b c e o ix f : Expr} {x y z d : D} {w C : Addr} {k : Nat} {N : List Str} {sc : Scope}
end
end Dl

/-! walks over dicts that are locked -/
namespace Dl
open PySem PySem.Spec PyProof.Rows L2
/-- the pairs of a locked dict whose keys are tuples, each pair a new tuple -/
def ItiT (d : Addr) (o : PySem.Obj) (kvs : List (List Key × V)) : It :=
  ⟨fun i H => H d = some (.frz o (.dT kvs)) ∧ i < kvs.length,
    fun i H x H' => ∃ T k v q, kvs[i]? = some (k, v) ∧ x = .ref T ∧ H T = none ∧ H q = some (.tup (k.map kV)) ∧ H' = upd H T (.tup [.ref q, v]),
    fun i H => H d = some (.frz o (.dT kvs)) ∧ kvs.length ≤ i⟩
section
variable {P : Program} {w : World} {K : PySem.W.Frag} {d : Addr} {o : PySem.Obj} {es : Array DictEntry} {ep : Nat}
end
def iItemsT (td : TE) : TI := fun σ H R => td σ H fun x H1 => ∃ d o kvs, x = .ref d ∧ H1 d = some (.frz o (.dT kvs)) ∧ R (ItiT d o kvs) H1
section
variable {X : Cx} {kx kx' : XD} {ρ ρ' ρ'' : Ro} {M M' : Mem} {P : Out → Mem → Prop} {pos p apos cpos tpos : Pos} {tg a b c e o ix f : Expr} {es elts : List Expr} {kk : Nat} {x y z d : D} {w C : Addr} {α β κ : Type} {k : Nat}
end
end Dl

/-! things that own what they are made of: trees of lists, objects, dicts -/
namespace Dl
open PySem PySem.Spec PyProof.Rows L2
inductive Ow where
  | fr (d : D) | lst (a : Addr) (xs : List Ow) | ins (a C : Addr) (ns : List Str) (xs : List Ow) | dK (a : Addr) (ks : List Key) (xs : List Ow) | dT (a : Addr) (ks : List (List Key)) (xs : List Ow) | tup (xs : List Ow) | seq (xs : List Ow)
mutual
def Ow.root : Ow → D
  | .fr d => d
  | .lst a _ => .adr a
  | .ins a _ _ _ => .adr a
  | .dK a _ _ => .adr a
  | .dT a _ _ => .adr a
  | .tup xs => .tup (Ow.rootA xs)
  | .seq xs => .lst (Ow.rootA xs)
def Ow.rootA : List Ow → List D
  | [] => []
  | o :: os => o.root :: Ow.rootA os
end
mutual
def Ow.mem : Ow → Mem
  | .fr _ => []
  | .lst a xs => (a, .lst (Ow.rootA xs)) :: Ow.memA xs
  | .ins a C ns xs => (a, .ins C ns (Ow.rootA xs)) :: Ow.memA xs
  | .dK a ks xs => (a, .dK (ks.zip (Ow.rootA xs))) :: Ow.memA xs
  | .dT a ks xs => (a, .dT (ks.zip (Ow.rootA xs))) :: Ow.memA xs
  | .tup xs => Ow.memA xs
  | .seq xs => Ow.memA xs
def Ow.memA : List Ow → Mem
  | [] => []
  | o :: os => o.mem ++ Ow.memA os
end
mutual
def Ow.frz : Ow → D
  | .fr d => d
  | .lst _ xs => .scr (Ow.frzA xs)
  | .ins _ C ns xs => .ins C ns (Ow.frzA xs)
  | .dK _ ks xs => .dK ks (Ow.frzA xs)
  | .dT _ ks xs => .dT ks (Ow.frzA xs)
  | .tup xs => .tup (Ow.frzA xs)
  | .seq xs => .lst (Ow.frzA xs)
def Ow.frzA : List Ow → List D
  | [] => []
  | o :: os => o.frz :: Ow.frzA os
end
mutual
/-- keys and values are as many -/
def Ow.fit : Ow → Prop
  | .fr _ => True
  | .lst _ xs => Ow.fitA xs
  | .ins _ _ _ xs => Ow.fitA xs
  | .dK _ ks xs => ks.length = xs.length ∧ Ow.fitA xs
  | .dT _ ks xs => ks.length = xs.length ∧ Ow.fitA xs
  | .tup xs => Ow.fitA xs
  | .seq xs => Ow.fitA xs
def Ow.fitA : List Ow → Prop
  | [] => True
  | o :: os => o.fit ∧ Ow.fitA os
end
theorem rootA_map : ∀ os : List Ow, Ow.rootA os = os.map Ow.root
  | [] => by simp [Ow.rootA]
  | o :: os => by simp [Ow.rootA, rootA_map os]
/-! ### order in Mem is of no matter -/
section
variable {K : Frag} {H0 H H0' H' : Hp} {M M2 M' N : Mem}
theorem Ht.perm (t : Ht K H0 H M) (p : M.Perm M2) : Ht K H0 H M2 :=
  ⟨t.ex, (p.map Prod.fst).nodup_iff.mp t.nd, fun q hq => t.mem q (p.mem_iff.mpr hq)⟩
theorem dom_perm (p : M.Perm M2) (a : Addr) : a ∈ M.dom ↔ a ∈ M2.dom := (p.map Prod.fst).mem_iff
theorem Go.permL (g : Go H0 H M H0' H' M') (p : M.Perm M2) : Go H0 H M2 H0' H' M' :=
  ⟨g.e0, fun b o e hb => g.e b o e fun z => hb ((dom_perm p b).mp z), fun a h1 h2 h3 => g.new a h1 h2 fun z => h3 ((dom_perm p a).mp z), fun a ha => (g.dom a ha).imp (dom_perm p a).mp id⟩
theorem Go.permR (g : Go H0 H M H0' H' M') (p : M'.Perm N) : Go H0 H M H0' H' N := ⟨g.e0, g.e, g.new, fun a ha => g.dom a ((dom_perm p a).mpr ha)⟩
/-- a part of Mem -/
theorem Ht.sub (t : Ht K H0 H M) (s : M2.Sublist M) : Ht K H0 H M2 := ⟨t.ex, t.nd.sublist (s.map Prod.fst), fun q hq => t.mem q (s.subset hq)⟩
end
section
variable {X : Cx} {kx kx' : XD} {ρ ρ' ρ'' : Ro} {M M2 M' : Mem} {P : Out → Mem → Prop} {e : Expr} {sts : List Stmt}
theorem Hx.perm {W : WX} {H0 H : Hp} (hx : Hx X W H0 H M kx) (p : M.Perm M2) (i : ∀ cls fs ρ' m, kx' cls fs ρ' m → ∃ m', m.Perm m' ∧ kx cls fs ρ' m') : Hx X W H0 H M2 kx' :=
  fun cls dd σ' H' H0' fs ρ' m g t s xr q => by
    obtain ⟨m', p', q'⟩ := i _ _ _ _ q
    exact hx cls dd σ' H' H0' fs ρ' m' ((g.permL p.symm).permR p') (t.perm p') s xr q'
theorem DE.perm {k k' : D → Mem → Prop} (p : M.Perm M2) (h : DE X kx' e ρ M2 k') (hk : ∀ d m, k' d m → ∃ m', m.Perm m' ∧ k d m') (i : ∀ cls fs ρ' m, kx' cls fs ρ' m → ∃ m', m.Perm m' ∧ kx cls fs ρ' m') : DE X kx e ρ M k :=
  fun σ H H0 t s W tk hx Q q => h σ H H0 (t.perm p) s W tk (hx.perm p i) Q fun v H' H0' d m g t' r kk => by
    obtain ⟨m', p', k2⟩ := hk d m kk
    exact q v H' H0' d m' ((g.permL p.symm).permR p') (t'.perm p') r k2
theorem DS.perm (p : M.Perm M2) (h : DS X kx sts ρ M2 P) (i : ∀ cls fs ρ' m, kx cls fs ρ' m → kx cls fs ρ' m := fun _ _ _ _ h => h) : DS X kx sts ρ M P := fun σ H H0 t sl W tk hx D c =>
  h σ H H0 (t.perm p) sl W tk (fun cls dd σ' H' H0' fs ρ' m g t' s' xr q => hx cls dd σ' H' H0' fs ρ' m (g.permL p.symm) t' s' xr q) D
    ⟨fun σ' H' H0' ρ' M' g t' s' q => c.nx σ' H' H0' ρ' M' (g.permL p.symm) t' s' q, fun σ' H' H0' ρ' M' g t' s' q => c.bk σ' H' H0' ρ' M' (g.permL p.symm) t' s' q, fun σ' H' H0' ρ' M' g t' s' q => c.ct σ' H' H0' ρ' M' (g.permL p.symm) t' s' q, fun v H' H0' d M' g t' r q => c.rt v H' H0' d M' (g.permL p.symm) t' r q⟩
end
/-! ### locks -/
def Mu.dict : Mu → Bool
  | .lst _ => true
  | .dK _ => true
  | .dT _ => true
  | _ => false
def Mu.lock : Mu → Mu
  | .lst ds => .fL ds
  | .dK kvs => .fK kvs
  | .dT kvs => .fT kvs
  | m => m
def lockM (c : Mem) : Mem := c.map fun p => (p.1, p.2.lock)
def locksOf (c : Mem) : List Addr := (c.filter fun p => p.2.dict).map Prod.fst
def lockL (H : Hp) (od : Addr → PySem.Obj) (L : List Addr) : Hp := fun b => if b ∈ L then (H b).map fun u => .frz (od b) u else H b
theorem lockL_nil {H : Hp} {od : Addr → PySem.Obj} : lockL H od [] = H := by funext b; unfold lockL; rw [if_neg (by simp)]
theorem lockL_ne {H : Hp} {od : Addr → PySem.Obj} {L : List Addr} {b : Addr} (h : b ∉ L) : lockL H od L b = H b := by unfold lockL; rw [if_neg h]
theorem lockL_in {H : Hp} {od : Addr → PySem.Obj} {L : List Addr} {b : Addr} (h : b ∈ L) : lockL H od L b = (H b).map fun u => .frz (od b) u := by unfold lockL; rw [if_pos h]
theorem lockL_cons {H : Hp} {od : Addr → PySem.Obj} {L : List Addr} {a : Addr} {u : HO} {o : PySem.Obj} (ha : H a = some u) (hn : a ∉ L) : lockL (upd H a (.frz o u)) od L = lockL H (fun b => if b = a then o else od b) (a :: L) := by
  funext b
  by_cases hb : b = a
  · subst hb
    rw [lockL_ne hn, upd_same, lockL_in (by simp), ha]
    simp
  · by_cases hl : b ∈ L
    · rw [lockL_in hl, lockL_in (List.mem_cons_of_mem _ hl), upd_ne hb]
      simp [hb]
    · rw [lockL_ne hl, upd_ne hb, lockL_ne (by simp [hb, hl])]
theorem inv_locks {X : Cx} {pins : List (Addr × PySem.Obj)} {σ : L2.St} {s : Shared} : ∀ (L : List Addr) (H : Hp), Inv X pins σ H s → L.Nodup → (∀ a ∈ L, ∃ u, H a = some u ∧ Mut (some u)) → ∃ od, Inv X pins σ (lockL H od L) s
  | [], H, I, _, _ => ⟨fun _ => default, by rw [lockL_nil]; exact I⟩
  | a :: L, H, I, nd, h => by
    obtain ⟨n1, n2⟩ := List.nodup_cons.mp nd
    obtain ⟨u, hu, mu⟩ := h a (by simp)
    obtain ⟨o, I1⟩ := I.lock hu mu
    obtain ⟨od, I2⟩ := inv_locks L _ I1 n2 fun b hb => by
      obtain ⟨v, hv, mv⟩ := h b (List.mem_cons_of_mem _ hb)
      exact ⟨v, by rw [upd_ne (fun z => n1 (by rw [← z]; exact hb))]; exact hv, mv⟩
    rw [lockL_cons hu n1] at I2
    exact ⟨_, I2⟩
def unlockL (H H' : Hp) (L : List Addr) : Hp := fun b => if b ∈ L then H b else H' b
section
variable {X : Cx} {σ : L2.St} {H : Hp} {L : List Addr}
theorem sE_post {e : Expr} {Q : VK} (h : sE X e σ H fun v H1 => ∃ L : List Addr, L.Nodup ∧ (∀ a ∈ L, ∃ u, H1 a = some u ∧ Mut (some u)) ∧ ∀ od, Q v (lockL H1 od L)) : sE X e σ H Q := fun pins s I => by
  refine thn (h pins s I) fun u s1 ⟨v, H1, J, r, L, nd, hL, q⟩ => ?_
  obtain ⟨od, J1⟩ := inv_locks L H1 J nd hL
  exact ⟨v, _, J1, r, q od⟩
end
theorem MuRep.mut {K : Frag} {H0 H : Hp} {a : Addr} {m : Mu} (h : MuRep K H0 H a m) (d : m.dict = true) : ∃ u, H a = some u ∧ Mut (some u) := by
  cases m with
  | lst ds => obtain ⟨vs, h, _⟩ := h; exact ⟨_, h, trivial⟩
  | fL ds => cases d
  | ins C ns ds => cases d
  | dK kvs => obtain ⟨vs, xs, h, _⟩ := h; exact ⟨_, h, trivial⟩
  | dT kvs => obtain ⟨vs, xs, h, _⟩ := h; exact ⟨_, h, trivial⟩
  | fK kvs => cases d
  | fT kvs => cases d
theorem locks_sub (c : Mem) : (locksOf c).Sublist c.dom := List.Sublist.map _ List.filter_sublist
theorem locks_mem {c : Mem} {a : Addr} (h : a ∈ locksOf c) : ∃ p ∈ c, p.1 = a ∧ p.2.dict = true := by
  obtain ⟨p, hp, rfl⟩ := List.mem_map.mp h
  obtain ⟨a, b⟩ := List.mem_filter.mp hp
  exact ⟨p, a, rfl, b⟩
section
variable {K : Frag} {H0 H : Hp} {c R : Mem}
theorem Ht.lockable (t : Ht K H0 H (c ++ R)) : (locksOf c).Nodup ∧ ∀ a ∈ locksOf c, ∃ u, H a = some u ∧ Mut (some u) := by
  have tl := t.left
  refine ⟨tl.nd.sublist (locks_sub c), fun a ha => ?_⟩
  obtain ⟨p, hp, rfl, hd⟩ := locks_mem ha
  exact (tl.mem p hp).2.mut hd
theorem lockM_dom (c : Mem) : (lockM c).dom = c.dom := by
  unfold lockM Mem.dom
  rw [List.map_map]; rfl
theorem in_one {M : Mem} (nd : M.dom.Nodup) {p q : Addr × Mu} (hp : p ∈ M) (hq : q ∈ M) (e : p.1 = q.1) : p = q := by
  induction M with
  | nil => simp at hp
  | cons x M ih =>
    have nd' : (x.1 :: Mem.dom M).Nodup := nd
    obtain ⟨n1, n2⟩ := List.nodup_cons.mp nd'
    rcases List.mem_cons.mp hp with hp1 | hp1
    · rcases List.mem_cons.mp hq with hq1 | hq1
      · rw [hp1, hq1]
      · exact absurd (show x.1 ∈ Mem.dom M from List.mem_map.mpr ⟨q, hq1, by rw [← e, hp1]⟩) n1
    · rcases List.mem_cons.mp hq with hq1 | hq1
      · exact absurd (show x.1 ∈ Mem.dom M from List.mem_map.mpr ⟨p, hp1, by rw [e, hq1]⟩) n1
      · exact ih n2 hp1 hq1
/-- the heap with the dicts of c locked -/
theorem Ht.locked (t : Ht K H0 H (c ++ R)) (od : Addr → PySem.Obj) : Ht K H0 (lockL H od (locksOf c)) (lockM c ++ R) ∧ Go H0 H (c ++ R) H0 (lockL H od (locksOf c)) (lockM c ++ R) := by
  have dd : Mem.dom (lockM c ++ R) = Mem.dom (c ++ R) := by
    have h1 : Mem.dom (lockM c ++ R) = Mem.dom (lockM c) ++ Mem.dom R := by simp [Mem.dom]
    have h2 : Mem.dom (c ++ R) = Mem.dom c ++ Mem.dom R := by simp [Mem.dom]
    rw [h1, h2, lockM_dom]
  have inM : ∀ a ∈ locksOf c, a ∈ Mem.dom (c ++ R) := fun a ha => by
    obtain ⟨p, hp, rfl, _⟩ := locks_mem ha
    exact List.mem_map.mpr ⟨p, List.mem_append_left _ hp, rfl⟩
  have z0 : ∀ a ∈ locksOf c, H0 a = none := fun a ha => by
    obtain ⟨p, hp, rfl, _⟩ := locks_mem ha
    exact (t.mem p (List.mem_append_left _ hp)).1
  refine ⟨⟨fun b o e => ?_, by rw [dd]; exact t.nd, fun q hq => ?_⟩, ⟨Same.refl _, fun b o e hb => ?_, fun _ h _ _ => h, fun a ha => by rw [dd] at ha; exact .inl ha⟩⟩
  · rw [lockL_ne (fun z => by rw [z0 b z] at e; cases e)]; exact t.ex _ _ e
  · rcases List.mem_append.mp hq with hq | hq
    · obtain ⟨p, hp, rfl⟩ := List.mem_map.mp hq
      obtain ⟨m1, m2⟩ := t.mem p (List.mem_append_left _ hp)
      refine ⟨m1, ?_⟩
      obtain ⟨a, m⟩ := p
      have no : m.dict = false → a ∉ locksOf c := fun hd z => by
        obtain ⟨p', hp', e, hd'⟩ := locks_mem z
        have := in_one t.left.nd hp hp' e.symm
        subst this
        have hd : m.dict = false := hd
        have hd' : m.dict = true := hd'
        rw [hd] at hd'; cases hd'
      have yes : m.dict = true → a ∈ locksOf c := fun hd => List.mem_map.mpr ⟨(a, m), List.mem_filter.mpr ⟨hp, hd⟩, rfl⟩
      cases m with
      | fL ds => exact m2.mono (Same.refl _) fun o e => by rw [lockL_ne (no rfl)]; exact e
      | lst ds =>
        obtain ⟨vs, h1, h2⟩ := m2
        exact ⟨od a, vs, by rw [lockL_in (yes rfl)]; show (H a).map _ = _; rw [h1]; rfl, h2⟩
      | ins C ns ds => exact m2.mono (Same.refl _) fun o e => by rw [lockL_ne (no rfl)]; exact e
      | fK kvs => exact m2.mono (Same.refl _) fun o e => by rw [lockL_ne (no rfl)]; exact e
      | fT kvs => exact m2.mono (Same.refl _) fun o e => by rw [lockL_ne (no rfl)]; exact e
      | dK kvs =>
        obtain ⟨vs, xs, h1, h2⟩ := m2
        exact ⟨od a, vs, xs, by rw [lockL_in (yes rfl)]; show (H a).map _ = _; rw [h1]; rfl, h2⟩
      | dT kvs =>
        obtain ⟨vs, xs, h1, h2⟩ := m2
        exact ⟨od a, vs, xs, by rw [lockL_in (yes rfl)]; show (H a).map _ = _; rw [h1]; rfl, h2⟩
    · obtain ⟨m1, m2⟩ := t.mem q (List.mem_append_right _ hq)
      refine ⟨m1, m2.mono (Same.refl _) fun o e => ?_⟩
      rw [lockL_ne fun z => ?_]
      · exact e
      · obtain ⟨p', hp', e', _⟩ := locks_mem z
        have nd := t.nd
        rw [show Mem.dom (c ++ R) = Mem.dom c ++ Mem.dom R by simp [Mem.dom]] at nd
        exact (List.nodup_append.mp nd).2.2 p'.1 (List.mem_map.mpr ⟨p', hp', rfl⟩) q.1 (List.mem_map.mpr ⟨q, hq, rfl⟩) e'
  · rw [lockL_ne (fun z => hb (inM b z))]; exact e
end
/-! ### laid for good -/
theorem lockM_app (a b : Mem) : lockM (a ++ b) = lockM a ++ lockM b := by unfold lockM; rw [List.map_append]
section
variable {K : Frag}
/-- one thing more that never changes -/
theorem Ht.lay {H0 H : Hp} {a : Addr} {m : Mu} {R : Mem} (t : Ht K H0 H ((a, m) :: R)) {o : HO} (ho : H a = some o) : Ht K (upd H0 a o) H R ∧ Same H0 (upd H0 a o) ∧ Go H0 H ((a, m) :: R) (upd H0 a o) H R := by
  have nd : (a :: R.dom).Nodup := t.nd
  obtain ⟨n1, n2⟩ := List.nodup_cons.mp nd
  have h0 := (t.mem (a, m) List.mem_cons_self).1
  have sm : Same H0 (upd H0 a o) := same_new h0
  refine ⟨⟨fun b u e => ?_, n2, fun q hq => ?_⟩, sm, ⟨sm, fun _ _ e _ => e, fun b b1 b2 b3 => ?_, fun b hb => .inl (List.mem_cons_of_mem _ hb)⟩⟩
  · by_cases hb : b = a
    · subst hb; rw [upd_same] at e; cases e; exact ho
    · rw [upd_ne hb] at e; exact t.ex _ _ e
  · obtain ⟨m1, m2⟩ := t.mem q (List.mem_cons_of_mem _ hq)
    have ne : q.1 ≠ a := fun z => n1 (by rw [← z]; exact List.mem_map.mpr ⟨q, hq, rfl⟩)
    exact ⟨by rw [upd_ne ne]; exact m1, m2.mono sm fun _ e => e⟩
  · rw [upd_ne (fun z => b3 (by rw [z]; exact List.mem_cons_self))]; exact b1
theorem zip_fst {α β : Type} : ∀ {xs : List α} {ys : List β}, xs.length = ys.length → (xs.zip ys).map Prod.fst = xs
  | [], [], _ => rfl
  | [], _ :: _, h => by simp at h
  | _ :: _, [], h => by simp at h
  | x :: xs, y :: ys, h => by
    simp only [List.zip_cons_cons, List.map_cons]
    rw [zip_fst (by simpa using h)]
theorem zip_snd {α β : Type} : ∀ {xs : List α} {ys : List β}, xs.length = ys.length → (xs.zip ys).map Prod.snd = ys
  | [], [], _ => rfl
  | [], _ :: _, h => by simp at h
  | _ :: _, [], h => by simp at h
  | x :: xs, y :: ys, h => by
    simp only [List.zip_cons_cons, List.map_cons]
    rw [zip_snd (by simpa using h)]
mutual
theorem frz_ok : ∀ (o : Ow) {H0 H : Hp} {R : Mem} {v : V}, o.fit → Ht K H0 H (lockM o.mem ++ R) → Rep K H0 v o.root → ∃ H0', Ht K H0' H R ∧ Rep K H0' v o.frz ∧ Same H0 H0' ∧ Go H0 H (lockM o.mem ++ R) H0' H R
  | .fr d, H0, H, R, v, _, t, r => by
    simp only [Ow.mem, Ow.root, Ow.frz] at *
    exact ⟨H0, t, r, Same.refl _, Go.refl⟩
  | .lst a xs, H0, H, R, v, f, t, r => by
    simp only [Ow.mem, Ow.root, Ow.frz, Ow.fit] at *
    have p : (lockM ((a, .lst (Ow.rootA xs)) :: Ow.memA xs) ++ R).Perm (lockM (Ow.memA xs) ++ ((a, .fL (Ow.rootA xs)) :: R)) := (List.perm_middle).symm
    have t2 := t.perm p
    obtain ⟨_, ob, vs, h1, h2⟩ := t2.mem (a, .fL (Ow.rootA xs)) (by simp)
    obtain ⟨H0', t3, r3, sm, g3⟩ := frzA_ok xs f t2 h2
    obtain ⟨t4, sm4, g4⟩ := t3.lay h1
    cases r
    exact ⟨_, t4, .scr (.inl (.inr ⟨ob, upd_same⟩)) (r3.mo sm4), sm.trans sm4, (g3.permL p.symm).trans g4⟩
  | .ins a C ns xs, H0, H, R, v, f, t, r => by
    simp only [Ow.mem, Ow.root, Ow.frz, Ow.fit] at *
    have p : (lockM ((a, .ins C ns (Ow.rootA xs)) :: Ow.memA xs) ++ R).Perm (lockM (Ow.memA xs) ++ ((a, .ins C ns (Ow.rootA xs)) :: R)) := (List.perm_middle).symm
    have t2 := t.perm p
    obtain ⟨_, dx, vs, ys, h1, h2, h3, h4⟩ := t2.mem (a, .ins C ns (Ow.rootA xs)) (by simp)
    obtain ⟨H0', t3, r3, sm, g3⟩ := frzA_ok xs f t2 h4
    obtain ⟨t4, sm4, g4⟩ := t3.lay h1
    cases r
    exact ⟨_, t4, .ins upd_same h2 h3 (r3.mo sm4), sm.trans sm4, (g3.permL p.symm).trans g4⟩
  | .dK a ks xs, H0, H, R, v, f, t, r => by
    simp only [Ow.mem, Ow.root, Ow.frz, Ow.fit] at *
    have p : (lockM ((a, .dK (ks.zip (Ow.rootA xs))) :: Ow.memA xs) ++ R).Perm (lockM (Ow.memA xs) ++ ((a, .fK (ks.zip (Ow.rootA xs))) :: R)) := (List.perm_middle).symm
    have t2 := t.perm p
    obtain ⟨_, ob, vs, ys, h1, h2, h3, h4⟩ := t2.mem (a, .fK (ks.zip (Ow.rootA xs))) (by simp)
    have lx : ks.length = (Ow.rootA xs).length := by rw [rootA_map, List.length_map]; exact f.1
    rw [zip_snd lx] at h4
    rw [zip_fst lx] at h2
    obtain ⟨H0', t3, r3, sm, g3⟩ := frzA_ok xs f.2 t2 h4
    obtain ⟨t4, sm4, g4⟩ := t3.lay h1
    cases r
    exact ⟨_, t4, .dK upd_same h2 h3 (r3.mo sm4), sm.trans sm4, (g3.permL p.symm).trans g4⟩
  | .dT a ks xs, H0, H, R, v, f, t, r => by
    simp only [Ow.mem, Ow.root, Ow.frz, Ow.fit] at *
    have p : (lockM ((a, .dT (ks.zip (Ow.rootA xs))) :: Ow.memA xs) ++ R).Perm (lockM (Ow.memA xs) ++ ((a, .fT (ks.zip (Ow.rootA xs))) :: R)) := (List.perm_middle).symm
    have t2 := t.perm p
    obtain ⟨_, ob, vs, ys, h1, h2, h3, h4⟩ := t2.mem (a, .fT (ks.zip (Ow.rootA xs))) (by simp)
    have lx : ks.length = (Ow.rootA xs).length := by rw [rootA_map, List.length_map]; exact f.1
    rw [zip_snd lx] at h4
    rw [zip_fst lx] at h2
    obtain ⟨H0', t3, r3, sm, g3⟩ := frzA_ok xs f.2 t2 h4
    obtain ⟨t4, sm4, g4⟩ := t3.lay h1
    cases r
    exact ⟨_, t4, .dT upd_same h2 h3 (r3.mo sm4), sm.trans sm4, (g3.permL p.symm).trans g4⟩
  | .tup xs, H0, H, R, v, f, t, r => by
    simp only [Ow.mem, Ow.root, Ow.frz, Ow.fit] at *
    cases r with
    | tup h1 h2 =>
      obtain ⟨H0', t3, r3, sm, g3⟩ := frzA_ok xs f t h2
      exact ⟨_, t3, .tup (sm _ _ h1) r3, sm, g3⟩
  | .seq xs, H0, H, R, v, f, t, r => by
    simp only [Ow.mem, Ow.root, Ow.frz, Ow.fit] at *
    cases r with
    | lst h1 h2 =>
      obtain ⟨H0', t3, r3, sm, g3⟩ := frzA_ok xs f t h2
      exact ⟨_, t3, .lst (sm _ _ h1) r3, sm, g3⟩
theorem frzA_ok : ∀ (os : List Ow) {H0 H : Hp} {R : Mem} {vs : List V}, Ow.fitA os → Ht K H0 H (lockM (Ow.memA os) ++ R) → RepA K H0 vs (Ow.rootA os) → ∃ H0', Ht K H0' H R ∧ RepA K H0' vs (Ow.frzA os) ∧ Same H0 H0' ∧ Go H0 H (lockM (Ow.memA os) ++ R) H0' H R
  | [], H0, H, R, vs, _, t, r => by
    simp only [Ow.memA, Ow.rootA, Ow.frzA] at *
    exact ⟨H0, t, r, Same.refl _, Go.refl⟩
  | o :: os, H0, H, R, vs, f, t, r => by
    simp only [Ow.memA, Ow.rootA, Ow.frzA, Ow.fitA] at *
    rw [lockM_app, List.append_assoc] at t
    cases r with
    | cons r1 r2 =>
      obtain ⟨H1, t1, q1, sm1, g1⟩ := frz_ok o f.1 t r1
      obtain ⟨H2, t2, q2, sm2, g2⟩ := frzA_ok os f.2 t1 (r2.mo sm1)
      exact ⟨H2, t2, .cons (q1.mo sm2) q2, sm1.trans sm2, by rw [lockM_app, List.append_assoc]; exact g1.trans g2⟩
end
end
/-! ### what a value owns, by its kind -/
section
variable {α β γ κ : Type}
/-- r is owned as d, by what stands at m -/
def OwR (E : β → Ow → Prop) (r : β) (d : D) (m : Mem) : Prop := ∃ o, E r o ∧ d = o.root ∧ m = o.mem
/-- a kind of owned things, and how they look when laid for good -/
structure OwK (E : β → Ow → Prop) (enc : β → D) : Prop where
  frz : ∀ r o, E r o → o.frz = enc r
  fit : ∀ r o, E r o → o.fit
def isFr (f : β → D) (r : β) (o : Ow) : Prop := o = .fr (f r)
inductive All2 (E : β → Ow → Prop) : List β → List Ow → Prop
  | nil : All2 E [] []
  | cons {r : β} {rs : List β} {o : Ow} {os : List Ow} : E r o → All2 E rs os → All2 E (r :: rs) (o :: os)
theorem All2.frz {E : β → Ow → Prop} {enc : β → D} (k : OwK E enc) {rs : List β} {os : List Ow} (h : All2 E rs os) : Ow.frzA os = rs.map enc ∧ Ow.fitA os := by
  induction h with
  | nil => exact ⟨by simp [Ow.frzA], by simp [Ow.fitA]⟩
  | cons a b ih => exact ⟨by simp [Ow.frzA, k.frz _ _ a, ih.1], by simp [Ow.fitA, k.fit _ _ a, ih.2]⟩
theorem All2.len {E : β → Ow → Prop} {rs : List β} {os : List Ow} (h : All2 E rs os) : os.length = rs.length := by
  induction h with
  | nil => rfl
  | cons a b ih => rw [List.length_cons, List.length_cons, ih]
theorem All2.get {E : β → Ow → Prop} {rs : List β} {os : List Ow} (h : All2 E rs os) : ∀ {i : Nat} {r : β}, rs[i]? = some r → ∃ o, os[i]? = some o ∧ E r o := by
  induction h with
  | nil => intro i r e; simp at e
  | cons a b ih =>
    intro i r e
    cases i with
    | zero => simp at e; subst e; exact ⟨_, rfl, a⟩
    | succ i => simpa using ih (by simpa using e)
theorem All2.set {E : β → Ow → Prop} {rs : List β} {os : List Ow} {r : β} {o : Ow} (h : All2 E rs os) (e : E r o) : ∀ (i : Nat), All2 E (rs.set i r) (os.set i o) := by
  induction h with
  | nil => intro i; exact .nil
  | cons a b ih =>
    intro i
    cases i with
    | zero => exact .cons e b
    | succ i => exact .cons a (ih i)
theorem All2.app {E : β → Ow → Prop} {rs : List β} {os : List Ow} {rs' : List β} {os' : List Ow} (h : All2 E rs os) (g : All2 E rs' os') : All2 E (rs ++ rs') (os ++ os') := by
  induction h with
  | nil => exact g
  | cons a b ih => exact .cons a ih
/-- a list that owns its things -/
def isLst (E : β → Ow → Prop) (rs : List β) (o : Ow) : Prop := ∃ a os, o = .lst a os ∧ All2 E rs os
/-- a list of things that never change -/
def isLstF (f : β → D) (rs : List β) (o : Ow) : Prop := ∃ a, o = .lst a (rs.map fun r => .fr (f r))
/-- dicts of things that never change -/
def isDTF (ek : κ → List Key) (f : β → D) (xs : List (κ × β)) (o : Ow) : Prop := ∃ a, o = .dT a (xs.map fun q => ek q.1) (xs.map fun q => .fr (f q.2))
def isDKF (ek : κ → Key) (f : β → D) (xs : List (κ × β)) (o : Ow) : Prop := ∃ a, o = .dK a (xs.map fun q => ek q.1) (xs.map fun q => .fr (f q.2))
/-- a dict that owns its values -/
def isDK (ek : κ → Key) (E : β → Ow → Prop) (xs : List (κ × β)) (o : Ow) : Prop := ∃ a os, o = .dK a (xs.map fun q => ek q.1) os ∧ All2 E (xs.map Prod.snd) os
end
section
variable {X : Cx} {kx kx' : XD} {ρ ρ' ρ'' : Ro} {M M' R : Mem} {P : Out → Mem → Prop} {e : Expr} {sts : List Stmt} {β : Type} {E : β → Ow → Prop} {enc : β → D} {r : β} {d : D} {m : Mem}
/-- what an expression makes, laid for good at once -/
theorem DE.lay (k : OwK E enc) (h : DE X kx0 e ρ [] fun d' m' => OwR E r d' m') : DV X kx e ρ M (enc r) := fun σ H H0 t s W tk hx Q q =>
  sE_post (h σ H H0 (Ht.emp t.ex) s W tk Hx.none _ fun v H1 H01 d' M1 g1 t1 r1 ho => by
    obtain ⟨o, he, rfl, rfl⟩ := ho
    obtain ⟨gf, tf⟩ := frame_of (Ma := []) (F := M) t g1 t1
    obtain ⟨nd, lk⟩ := tf.lockable
    refine ⟨_, nd, lk, fun od => ?_⟩
    obtain ⟨t3, g3⟩ := tf.locked od
    obtain ⟨H0', t4, r4, sm, g4⟩ := frz_ok o (k.fit _ _ he) t3 r1
    rw [k.frz _ _ he] at r4
    have g := gf.trans (g3.trans g4)
    refine q v _ H0' ⟨g.e0, fun b u eb => ?_, t4.ex, fun a h1 h2 => ?_⟩ r4
    · have e1 := g1.e b u eb (by simp)
      rw [lockL_ne]
      · exact e1
      · intro z
        obtain ⟨pp, hp, e2, _⟩ := locks_mem z
        rcases g1.dom b (List.mem_map.mpr ⟨pp, hp, e2⟩) with z | z
        · simp at z
        · rw [eb] at z; cases z
    · by_cases ha : a ∈ M.dom
      · obtain ⟨mm, hm, rfl⟩ := List.mem_map.mp ha
        exact (t4.mem mm hm).1
      · exact g.new a h1 h2 (by simpa using ha))
end
end Dl

/-! things that change, looked at by others meanwhile; what is made new -/
namespace Dl
open PySem PySem.Spec PyProof.Rows L2
/-- which things are lent: objects with these fields, lists, dicts -/
structure Shp where
  ns : List (List Str)
  l : Bool
  d : Bool
mutual
/-- nothing of the kind within -/
def D.off (S : Shp) : D → Bool
  | .non => true
  | .bl _ => true
  | .int _ => true
  | .str _ => true
  | .ty _ => true
  | .lst xs => D.offA S xs
  | .scr xs => !S.l && D.offA S xs
  | .tup xs => D.offA S xs
  | .ins _ ns xs => !S.ns.contains ns && D.offA S xs
  | .adr _ => true
  | .dK _ xs => !S.d && D.offA S xs
  | .dT _ xs => !S.d && D.offA S xs
  | .exn _ _ xs => D.offA S xs
def D.offA (S : Shp) : List D → Bool
  | [] => true
  | d :: ds => d.off S && D.offA S ds
end
/-- how a thing looks -/
def MSh (S : Shp) : Mu → Option HO → Prop
  | .lst _, o => S.l = true ∧ ∃ ob vs, o = some (.frz ob (.lst vs))
  | .fL _, o => S.l = true ∧ ∃ ob vs, o = some (.frz ob (.lst vs))
  | .ins C ns _, o => ns ∈ S.ns ∧ ∃ dx vs, o = some (.ins C dx vs) ∧ vs.map Prod.fst = ns
  | .dK _, o => S.d = true ∧ ∃ ob vs, o = some (.frz ob (.dK vs))
  | .dT _, o => S.d = true ∧ ∃ ob vs, o = some (.frz ob (.dT vs))
  | .fK _, o => S.d = true ∧ ∃ ob vs, o = some (.frz ob (.dK vs))
  | .fT _, o => S.d = true ∧ ∃ ob vs, o = some (.frz ob (.dT vs))
/-- what Mem says of how things look -/
def MuSh (S : Shp) : Mu → Bool
  | .lst _ => S.l
  | .fL _ => S.l
  | .ins _ ns _ => S.ns.contains ns
  | _ => S.d
def cutL (H : Hp) (L : List Addr) : Hp := fun b => if b ∈ L then none else H b
theorem cutL_ne {H : Hp} {L : List Addr} {b : Addr} (h : b ∉ L) : cutL H L b = H b := by unfold cutL; rw [if_neg h]
theorem shNo {H : Hp} {S : Shp} {c : Mem} {a : Addr} {u : HO} (hc : ∀ p ∈ c, ∀ o, H p.1 = some o → MSh S p.2 (some o)) (h : H a = some u) (no : ∀ {m : Mu}, MSh S m (some u) → False) : a ∉ c.dom := fun z => by
  obtain ⟨m, hm, rfl⟩ := List.mem_map.mp z
  exact no (hc m hm _ h)
theorem sh_lstX {S : Shp} {vs : List V} : ∀ {m : Mu}, MSh S m (some (.lst vs)) → False
  | .lst _, ⟨_, _, _, e⟩ => by cases e
  | .fL _, ⟨_, _, _, e⟩ => by cases e
  | .ins _ _ _, ⟨_, _, _, e, _⟩ => by cases e
  | .dK _, ⟨_, _, _, e⟩ => by cases e
  | .dT _, ⟨_, _, _, e⟩ => by cases e
  | .fK _, ⟨_, _, _, e⟩ => by cases e
  | .fT _, ⟨_, _, _, e⟩ => by cases e
theorem sh_tupX {S : Shp} {vs : List V} : ∀ {m : Mu}, MSh S m (some (.tup vs)) → False
  | .lst _, ⟨_, _, _, e⟩ => by cases e
  | .fL _, ⟨_, _, _, e⟩ => by cases e
  | .ins _ _ _, ⟨_, _, _, e, _⟩ => by cases e
  | .dK _, ⟨_, _, _, e⟩ => by cases e
  | .dT _, ⟨_, _, _, e⟩ => by cases e
  | .fK _, ⟨_, _, _, e⟩ => by cases e
  | .fT _, ⟨_, _, _, e⟩ => by cases e
theorem sh_xdX {S : Shp} {vs : List (Str × V)} : ∀ {m : Mu}, MSh S m (some (.xd vs)) → False
  | .lst _, ⟨_, _, _, e⟩ => by cases e
  | .fL _, ⟨_, _, _, e⟩ => by cases e
  | .ins _ _ _, ⟨_, _, _, e, _⟩ => by cases e
  | .dK _, ⟨_, _, _, e⟩ => by cases e
  | .dT _, ⟨_, _, _, e⟩ => by cases e
  | .fK _, ⟨_, _, _, e⟩ => by cases e
  | .fT _, ⟨_, _, _, e⟩ => by cases e
theorem sh_exX {S : Shp} {a C : Addr} {d : Option Addr} : ∀ {m : Mu}, MSh S m (some (exT a C d)) → False
  | .lst _, ⟨_, _, _, e⟩ => by cases e
  | .fL _, ⟨_, _, _, e⟩ => by cases e
  | .ins _ _ _, ⟨_, _, _, e, _⟩ => by cases e
  | .dK _, ⟨_, _, _, e⟩ => by cases e
  | .dT _, ⟨_, _, _, e⟩ => by cases e
  | .fK _, ⟨_, _, _, e⟩ => by cases e
  | .fT _, ⟨_, _, _, e⟩ => by cases e
theorem sh_flX {S : Shp} {o : PySem.Obj} {vs : List V} (h : S.l = false) : ∀ {m : Mu}, MSh S m (some (.frz o (.lst vs))) → False
  | .lst _, ⟨q, _, _, _⟩ => by rw [h] at q; cases q
  | .fL _, ⟨q, _, _, _⟩ => by rw [h] at q; cases q
  | .ins _ _ _, ⟨_, _, _, e, _⟩ => by cases e
  | .dK _, ⟨_, _, _, e⟩ => by cases e
  | .dT _, ⟨_, _, _, e⟩ => by cases e
  | .fK _, ⟨_, _, _, e⟩ => by cases e
  | .fT _, ⟨_, _, _, e⟩ => by cases e
theorem sh_insX {S : Shp} {C dx : Addr} {ns : List Str} {vs : List (Str × V)} (h : S.ns.contains ns = false) (h2 : vs.map Prod.fst = ns) : ∀ {m : Mu}, MSh S m (some (.ins C dx vs)) → False
  | .lst _, ⟨_, _, _, e⟩ => by cases e
  | .fL _, ⟨_, _, _, e⟩ => by cases e
  | .ins _ _ _, ⟨i, _, _, e, f⟩ => by
    cases e
    rw [h2] at f
    subst f
    have := List.contains_iff_mem.mpr i
    rw [h] at this; cases this
  | .dK _, ⟨_, _, _, e⟩ => by cases e
  | .dT _, ⟨_, _, _, e⟩ => by cases e
  | .fK _, ⟨_, _, _, e⟩ => by cases e
  | .fT _, ⟨_, _, _, e⟩ => by cases e
theorem sh_fkX {S : Shp} {o : PySem.Obj} {vs : List (Key × V)} (h : S.d = false) : ∀ {m : Mu}, MSh S m (some (.frz o (.dK vs))) → False
  | .lst _, ⟨_, _, _, e⟩ => by cases e
  | .fL _, ⟨_, _, _, e⟩ => by cases e
  | .ins _ _ _, ⟨_, _, _, e, _⟩ => by cases e
  | .dK _, ⟨q, _⟩ => by rw [h] at q; cases q
  | .dT _, ⟨q, _⟩ => by rw [h] at q; cases q
  | .fK _, ⟨q, _⟩ => by rw [h] at q; cases q
  | .fT _, ⟨q, _⟩ => by rw [h] at q; cases q
theorem sh_ftX {S : Shp} {o : PySem.Obj} {vs : List (List Key × V)} (h : S.d = false) : ∀ {m : Mu}, MSh S m (some (.frz o (.dT vs))) → False
  | .lst _, ⟨_, _, _, e⟩ => by cases e
  | .fL _, ⟨_, _, _, e⟩ => by cases e
  | .ins _ _ _, ⟨_, _, _, e, _⟩ => by cases e
  | .dK _, ⟨q, _⟩ => by rw [h] at q; cases q
  | .dT _, ⟨q, _⟩ => by rw [h] at q; cases q
  | .fK _, ⟨q, _⟩ => by rw [h] at q; cases q
  | .fT _, ⟨q, _⟩ => by rw [h] at q; cases q
mutual
theorem Rep.cutL {K : Frag} {H : Hp} {S : Shp} {c : Mem} (hc : ∀ p ∈ c, ∀ o, H p.1 = some o → MSh S p.2 (some o)) : ∀ (d : D) (v : V), d.off S = true → Rep K H v d → Rep K (cutL H c.dom) v d
  | .non, _, _, h => by cases h; exact .non
  | .bl b, _, _, h => by cases h; exact .bl b
  | .int b, _, _, h => by cases h; exact .int b
  | .str b, _, _, h => by cases h; exact .str b
  | .ty b, _, _, h => by cases h; exact .ty b
  | .adr a, _, _, h => by cases h; exact .adr a
  | .lst ds, _, p, h => by
    simp only [D.off] at p
    cases h with
    | @lst a xs _ h1 h2 => exact .lst (by rw [cutL_ne (shNo hc h1 sh_lstX)]; exact h1) (RepA.cutL hc ds _ p h2)
  | .scr ds, _, p, h => by
    simp only [D.off, Bool.and_eq_true, Bool.not_eq_true'] at p
    cases h with
    | @scr a xs _ h1 h2 =>
      refine .scr ?_ (RepA.cutL hc ds _ p.2 h2)
      rcases h1 with (h1 | ⟨o, h1⟩) | h1
      · exact .inl (.inl (by rw [cutL_ne (shNo hc h1 sh_lstX)]; exact h1))
      · exact .inl (.inr ⟨o, by rw [cutL_ne (shNo hc h1 (sh_flX p.1))]; exact h1⟩)
      · exact .inr h1
  | .tup ds, _, p, h => by
    simp only [D.off] at p
    cases h with
    | @tup a xs _ h1 h2 => exact .tup (by rw [cutL_ne (shNo hc h1 sh_tupX)]; exact h1) (RepA.cutL hc ds _ p h2)
  | .ins C ns ds, _, p, h => by
    simp only [D.off, Bool.and_eq_true, Bool.not_eq_true'] at p
    cases h with
    | @ins a _ dx vs _ xs _ h1 h2 h3 h4 =>
      exact .ins (by rw [cutL_ne (shNo hc h1 (sh_insX p.1 h2))]; exact h1) h2 h3 (RepA.cutL hc ds _ p.2 h4)
  | .dK ks ds, _, p, h => by
    simp only [D.off, Bool.and_eq_true, Bool.not_eq_true'] at p
    cases h with
    | @dK a ob vs _ xs _ h1 h2 h3 h4 => exact .dK (by rw [cutL_ne (shNo hc h1 (sh_fkX p.1))]; exact h1) h2 h3 (RepA.cutL hc ds _ p.2 h4)
  | .dT ks ds, _, p, h => by
    simp only [D.off, Bool.and_eq_true, Bool.not_eq_true'] at p
    cases h with
    | @dT a ob vs _ xs _ h1 h2 h3 h4 => exact .dT (by rw [cutL_ne (shNo hc h1 (sh_ftX p.1))]; exact h1) h2 h3 (RepA.cutL hc ds _ p.2 h4)
  | .exn C ns ds, _, p, h => by
    simp only [D.off] at p
    cases h with
    | exn0 h1 => exact .exn0 (by rw [cutL_ne (shNo hc h1 sh_exX)]; exact h1)
    | exn1 h1 h2 h3 h4 h5 => exact .exn1 (by rw [cutL_ne (shNo hc h1 sh_exX)]; exact h1) (by rw [cutL_ne (shNo hc h2 sh_xdX)]; exact h2) h3 h4 (RepA.cutL hc ds _ p h5)
theorem RepA.cutL {K : Frag} {H : Hp} {S : Shp} {c : Mem} (hc : ∀ p ∈ c, ∀ o, H p.1 = some o → MSh S p.2 (some o)) : ∀ (ds : List D) (vs : List V), D.offA S ds = true → RepA K H vs ds → RepA K (cutL H c.dom) vs ds
  | [], _, _, h => by cases h; exact .nil
  | d :: ds, _, p, h => by
    simp only [D.offA, Bool.and_eq_true] at p
    cases h with
    | cons a b => exact .cons (Rep.cutL hc d _ p.1 a) (RepA.cutL hc ds _ p.2 b)
end
/-- slots whose things are laid for good -/
def setAll (ρ : Ro) (sl : List (Nat × D × D)) : Ro := sl.foldl (fun ρ q => ρ.set q.1 (some q.2.2)) ρ
/-- the things at these slots, one by one: what they are, what they look like laid for good -/
inductive Lends (S : Shp) : List (Nat × D × D) → List Ow → Prop
  | nil : Lends S [] []
  | cons {β : Type} {E : β → Ow → Prop} {enc : β → D} {j : Nat} {r : β} {d : D} {o : Ow} {sl : List (Nat × D × D)} {os : List Ow} (k : OwK E enc) (h : E r o) (hd : d = o.root) (hS : ∀ p ∈ o.mem, MuSh S p.2 = true) (t : Lends S sl os) : Lends S ((j, d, enc r) :: sl) (o :: os)
section
variable {X : Cx} {kx kx' : XD} {ρ ρ' ρ'' : Ro} {M M' R : Mem} {P : Out → Mem → Prop} {e : Expr} {sts : List Stmt} {β : Type} {E : β → Ow → Prop} {enc : β → D} {r : β} {d : D} {m : Mem} {S : Shp} {sl : List (Nat × D × D)} {os : List Ow}
/-- a new thing, that may change: nothing that stood is changed -/
def DN (X : Cx) (kx : XD) (e : Expr) (ρ : Ro) (M : Mem) (k : D → Mem → Prop) : Prop :=
  ∀ (σ : L2.St) (H H0 : Hp), Ht X.K H0 H M → Sl X.K H0 σ ρ → ∀ (W : WX), Takes X W → Hx X W H0 H M kx → ∀ (Q : VK), (∀ v H' H0' d m, Pu H0 H H0' H' → Ht X.K H0' H' (m ++ M) → (∀ a ∈ m.dom, H a = none) → Rep X.K H0' v d → k d m → Q v H') → sE X e σ H Q
theorem DN.de {k kk : D → Mem → Prop} (h : DN X kx e ρ M k) (hk : ∀ d m, k d m → kk d (m ++ M)) : DE X kx e ρ M kk := fun σ H H0 t s W tk hx Q q =>
  h σ H H0 t s W tk hx Q fun v H' H0' d m p t' hn r kd => q v H' H0' d _ ⟨p.e0, fun b o e _ => p.e b o e, fun a h1 h2 _ => p.new a h1 h2, fun a ha => by
    have e : Mem.dom (m ++ M) = Mem.dom m ++ Mem.dom M := by simp [Mem.dom]
    rw [e] at ha
    exact (List.mem_append.mp ha).elim (fun z => .inr (hn a z)) .inl⟩ t' r (hk d m kd)
theorem DN.imp {k k' : D → Mem → Prop} (h : DN X kx e ρ M k) (i : ∀ d m, k d m → k' d m) : DN X kx e ρ M k' := fun σ H H0 t s W tk hx Q q =>
  h σ H H0 t s W tk hx Q fun v H' H0' d m p t' hn r kd => q v H' H0' d m p t' hn r (i d m kd)
/-- laid for good at once -/
theorem DN.lay (k : OwK E enc) (h : DN X kx e ρ M (OwR E r)) : DV X kx e ρ M (enc r) := fun σ H H0 t s W tk hx Q q =>
  sE_post (h σ H H0 t s W tk hx _ fun v H1 H01 d' m1 p1 t1 hn r1 ho => by
    obtain ⟨o, he, rfl, rfl⟩ := ho
    obtain ⟨nd, lk⟩ := t1.lockable
    refine ⟨_, nd, lk, fun od => ?_⟩
    obtain ⟨t3, g3⟩ := t1.locked od
    obtain ⟨H0', t4, r4, sm, g4⟩ := frz_ok o (k.fit _ _ he) t3 r1
    rw [k.frz _ _ he] at r4
    have nl : ∀ b, H b ≠ none → b ∉ locksOf o.mem := fun b hb z => hb (hn b ((locks_sub _).subset z))
    refine q v _ H0' ⟨p1.e0.trans sm, fun b u eb => ?_, t4.ex, fun a h1 h2 => ?_⟩ r4
    · rw [lockL_ne (nl b (by rw [eb]; exact fun z => by cases z))]
      exact p1.e _ _ eb
    · by_cases ha : a ∈ M.dom
      · obtain ⟨mm, hm, rfl⟩ := List.mem_map.mp ha
        exact (t4.mem mm hm).1
      · obtain ⟨u, hu⟩ := h2.ex
        have z1 := p1.new a h1 h2
        have hne : a ∉ locksOf o.mem := nl a (by rw [hu]; exact fun z => by cases z)
        refine g4.new a z1 ?_ fun z => ?_
        · rw [lockL_ne hne]; exact h2.keep fun o e => p1.e _ _ e
        · have e : Mem.dom (lockM o.mem ++ M) = Mem.dom (lockM o.mem) ++ Mem.dom M := by simp [Mem.dom]
          rw [e, lockM_dom] at z
          rcases List.mem_append.mp z with z | z
          · have := hn a z; rw [hu] at this; cases this
          · exact ha z)
/-- what is owned is nothing of the kind -/
def Mu.offM (S : Shp) : Mu → Bool
  | .lst ds => D.offA S ds
  | .fL ds => D.offA S ds
  | .ins _ _ ds => D.offA S ds
  | .dK kvs => D.offA S (kvs.map Prod.snd)
  | .dT kvs => D.offA S (kvs.map Prod.snd)
  | .fK kvs => D.offA S (kvs.map Prod.snd)
  | .fT kvs => D.offA S (kvs.map Prod.snd)
theorem MuRep.cutL {K : Frag} {H H0 Hs : Hp} {c : Mem} {a : Addr} (hc : ∀ p ∈ c, ∀ o, H0 p.1 = some o → MSh S p.2 (some o)) (k : ∀ o, H a = some o → Hs a = some o) : ∀ {m : Mu}, m.offM S = true → MuRep K H0 H a m → MuRep K (Dl.cutL H0 c.dom) Hs a m
  | .lst ds, f, ⟨vs, h, r⟩ => ⟨vs, k _ h, RepA.cutL hc _ _ f r⟩
  | .fL ds, f, ⟨o, vs, h, r⟩ => ⟨o, vs, k _ h, RepA.cutL hc _ _ f r⟩
  | .ins C ns ds, f, ⟨dx, vs, xs, h, h2, h3, r⟩ => ⟨dx, vs, xs, k _ h, h2, h3, RepA.cutL hc _ _ f r⟩
  | .dK kvs, f, ⟨vs, xs, h, h2, h3, r⟩ => ⟨vs, xs, k _ h, h2, h3, RepA.cutL hc _ _ f r⟩
  | .dT kvs, f, ⟨vs, xs, h, h2, h3, r⟩ => ⟨vs, xs, k _ h, h2, h3, RepA.cutL hc _ _ f r⟩
  | .fK kvs, f, ⟨o, vs, xs, h, h2, h3, r⟩ => ⟨o, vs, xs, k _ h, h2, h3, RepA.cutL hc _ _ f r⟩
  | .fT kvs, f, ⟨o, vs, xs, h, h2, h3, r⟩ => ⟨o, vs, xs, k _ h, h2, h3, RepA.cutL hc _ _ f r⟩
end
end Dl

/-! promises of defs that change what is handed to them, or hand back what is owned -/
namespace Dl
open PySem PySem.Spec PyProof.Rows L2
abbrev spR (K : Frag) (mg : Str → Option Value) {α β : Type} (args : α → List D) (Mi : α → Mem) (pre : α → Prop) (F : α → Ex β) (res : α → β → D → Mem → Prop) : Sp :=
  spM K args Mi (fun q => pre q ∧ F q ≠ .bad) (fun q d M' => ∃ r m N, F q = .ok r ∧ res q r d m ∧ M'.Perm (m ++ N)) (fun q cls fs M' => ∃ n N, F q = .exc n fs ∧ mg n = some cls ∧ M'.Perm (Mi q ++ N))
/-- .. where nothing is said of what was handed in, if it raises -/
abbrev spRw (K : Frag) (mg : Str → Option Value) {α β : Type} (args : α → List D) (Mi : α → Mem) (pre : α → Prop) (F : α → Ex β) (res : α → β → D → Mem → Prop) : Sp :=
  spM K args Mi (fun q => pre q ∧ F q ≠ .bad) (fun q d M' => ∃ r m N, F q = .ok r ∧ res q r d m ∧ M'.Perm (m ++ N)) (fun q cls fs M' => ∃ n, F q = .exc n fs ∧ mg n = some cls)
def kxR (mg : Str → Option Value) {β : Type} (out : Ex β) (Mi : Mem) : XD := fun cls fs _ M' => ∃ n N, out = .exc n fs ∧ mg n = some cls ∧ M'.Perm (Mi ++ N)
def retR {β : Type} (res : β → D → Mem → Prop) (out : Ex β) : Out → Mem → Prop
  | .rt d, M => ∃ r m N, out = .ok r ∧ res r d m ∧ M.Perm (m ++ N)
  | .nx _, M => ∃ r m N, out = .ok r ∧ res r .non m ∧ M.Perm (m ++ N)
  | .bk _, _ => False
  | .ct _, _ => False
section
variable {P : Program} {w : World} {K : Frag} {mg : Str → Option Value} {base : Heap} {α β : Type}
/-- __init__ of a class whose objects own what they are made of -/
abbrev spJ (K : Frag) (mg : Str → Option Value) (C : Addr) (args : α → List D) (F : α → Ex β) (E : β → Ow → Prop) : Sp :=
  spM K (fun q : Addr × α => .adr q.1 :: args q.2) (fun q => [(q.1, .ins C [] [])]) (fun q => F q.2 ≠ .bad) (fun q d M' => (∃ r m N, F q.2 = .ok r ∧ OwR E r (.adr q.1) m ∧ M'.Perm (m ++ N)) ∧ d = .non) (fun q cls fs M' => ∃ n, F q.2 = .exc n fs ∧ mg n = some cls)
def initR (E : β → Ow → Prop) (out : Ex β) (w : Addr) : Out → Mem → Prop
  | .nx _, M => ∃ r m N, out = .ok r ∧ OwR E r (.adr w) m ∧ M.Perm (m ++ N)
  | _, _ => False
end
/-- the kind's things are objects of the class at C with these fields -/
def ClsK {β : Type} (E : β → Ow → Prop) (C : Addr) (ns : List Str) : Prop := ∀ r o, E r o → ∃ a xs, o = .ins a C ns xs
theorem Obj.more {M M' : Mem} {y : D} {C : Addr} {ns : List Str} {fs : List D} (h : Obj M y C ns fs) (s : ∀ p ∈ M, p ∈ M') : Obj M' y C ns fs := by
  cases h with
  | ins => exact .ins _ _ _
  | adr h => exact .adr (s _ h)
section
variable {X : Cx} {kx kx' : XD} {ρ ρ' ρ'' : Ro} {M M' R : Mem} {P : Out → Mem → Prop} {pos p apos : Pos} {e o : Expr} {es : List Expr} {y z : D} {α β : Type} {k : Nat} {x m : Str} {C : Addr} {dvs ds : List D} {ns : List Str}
  {args : α → List D} {Mi : α → Mem} {pre : α → Prop} {F : α → Ex β} {res : α → β → D → Mem → Prop} {r : β} {kk : D → Mem → Prop} {n : Str} {fs : List (Str × D)}
/-! ### f(e, ..) -/
/-! ### o.m(e, ..) -/
section
variable {pl : Sem Bool} {gs : List D}
end
/-! ### C(e, ..) -/
end
end Dl

/-! loops and ways that meet, with owned things carried along: ι tells where they stand, J that they do -/
namespace Dl
open PySem PySem.Spec PyProof.Rows L2
section
variable {X : Cx} {kx kx' : XD} {ρ ρ' ρ'' : Ro} {M M' : Mem} {P : Out → Mem → Prop} {pos p np pos' tpos spos : Pos} {tg a b c e : Expr} {es : List Expr} {k : Bool} {ι β γ : Type}
def foldO (R : ι → β → Ro) (Mf : ι → β → Mem) (J : ι → β → Prop) (o : Ex β) : Out → Mem → Prop
  | .nx ρ, M => ∃ i z, o = .ok z ∧ J i z ∧ FgtL ρ (R i z) ∧ M = Mf i z
  | .ct ρ, M => ∃ i z, o = .ok z ∧ J i z ∧ FgtL ρ (R i z) ∧ M = Mf i z
  | .bk _, _ => False
  | .rt _, _ => False
/-- a loop that may be left: what it hands back is told by Rt -/
def loopO (R : ι → β → Ro) (Mf : ι → β → Mem) (J : ι → β → Prop) (Rt : γ → D → Mem → Prop) (o : Ex (Ct β γ)) : Out → Mem → Prop
  | .nx ρ, M => ∃ i z, o = .ok (.nx z) ∧ J i z ∧ FgtL ρ (R i z) ∧ M = Mf i z
  | .ct ρ, M => ∃ i z, o = .ok (.nx z) ∧ J i z ∧ FgtL ρ (R i z) ∧ M = Mf i z
  | .bk ρ, M => ∃ i z, o = .ok (.bk z) ∧ J i z ∧ FgtL ρ (R i z) ∧ M = Mf i z
  | .rt d, M => ∃ r m N, o = .ok (.rt r) ∧ Rt r d m ∧ M.Perm (m ++ N)
/-! ways that meet again -/
def joinO (R : ι → β → Ro) (Mf : ι → β → Mem) (J : ι → β → Prop) (kf : β → Ex γ) (out : Ex γ) (P : Out → Mem → Prop) : Out → Mem → Prop
  | .nx ρ, M => ∃ a z, kf z = out ∧ J a z ∧ FgtL ρ (R a z) ∧ M = Mf a z
  | o, M => P o M
/-! while -/
end
end Dl

/-! sorted of tuples of ints, any number of them, of any ints; of ints -/
namespace Dl
open PySem PySem.Spec PyProof.Rows L2
def lexLt : List Int → List Int → Bool
  | [], [] => false
  | [], _ :: _ => true
  | _ :: _, [] => false
  | x :: xs, y :: ys => if x = y then lexLt xs ys else decide (x < y)
/-- the list, sorted -/
def sortL {α : Type} (g : α → List Int) (xs : List α) : List α := xs.mergeSort fun a b => !lexLt (g b) (g a)
/-! ### the rule -/
section
open PySem PyProof.Rows Srt SrtO
variable {prog : Program} {w : World} {A : Around} {E : Value → Shared → Prop} {s : Shared}
/-- each is a tuple of d ints, k says which -/
def TupsK (h : Heap) (d : Nat) (k : Value → List Int) (vs : List Value) : Prop := ∀ v, v ∈ vs → TS.TupInts h v (k v) ∧ (k v).length = d
end
def rSortedL (K : PySem.W.Frag) : List V → Hp → VK → Prop := fun vs H Q => ∃ (a : Addr) (xs : List V) (k : V → List Int) (d : Nat), vs = [V.ref a] ∧ SqL K H a xs ∧ 1 ≤ d ∧ (∀ x ∈ xs, ∃ t, x = V.ref t ∧ SqT K H t ((k x).map V.int) ∧ (k x).length = d) ∧
  ∀ ys p, ys.Pairwise (fun x y => lexLt (k y) (k x) = false) → ys.Perm xs → H p = none → Q (.ref p) (upd H p (.lst ys))
/-! ### typed -/
/-- the ints of a tuple -/
noncomputable def intsV (H : Hp) : V → List Int
  | .ref a => match H a with
    | some (.tup xs) => xs.map fun v => match v with | .int i => i | _ => 0
    | _ => []
  | _ => []
section
variable {X : Cx} {kx : XD} {ρ : Ro} {M : Mem} {pos p : Pos} {e : Expr} {x : D} {α : Type}
/-- sorted(xs), ints -/
def sortI (xs : List Int) : List Int := xs.mergeSort fun a b => decide (a ≤ b)
theorem sortI_perm (xs : List Int) : (sortI xs).Perm xs := List.mergeSort_perm _ _
theorem sortI_asc (xs : List Int) : (sortI xs).Pairwise (· ≤ ·) := by
  have h := List.pairwise_mergeSort (le := fun a b : Int => decide (a ≤ b)) (fun a b c h1 h2 => by
    simp only [decide_eq_true_eq] at h1 h2 ⊢
    omega) (fun a b => by simp only [Bool.or_eq_true, decide_eq_true_eq]; omega) xs
  exact h.imp fun h => by simpa using h
theorem asc_one : ∀ {l m : List Int}, l.Perm m → l.Pairwise (· ≤ ·) → m.Pairwise (· ≤ ·) → l = m
  | l, m, p, h1, h2 => p.eq_of_pairwise (le := (· ≤ ·)) (fun a b _ _ h1 h2 => by omega) h1 h2
end
end Dl

/-! sorted(xs), sorted(xs, reverse=True): ints, tuples of ints -/
namespace Dl
open PySem PySem.Spec PyProof.Rows L2
def sortIR (xs : List Int) : List Int := (sortI xs).reverse
section
variable {X : Cx} {kx : XD} {ρ : Ro} {M : Mem} {pos p kpos : Pos} {e : Expr} {x : D} {α : Type} {f : Str}
end
/-! tuples, reversed -/
def rSortedLR (K : PySem.W.Frag) : List V → List V → Hp → VK → Prop := fun vs zs H Q => ∃ (a : Addr) (xs : List V) (k : V → List Int) (d : Nat), vs = [V.ref a] ∧ zs = [.bl true] ∧ SqL K H a xs ∧ 1 ≤ d ∧ (∀ x ∈ xs, ∃ t, x = V.ref t ∧ SqT K H t ((k x).map V.int) ∧ (k x).length = d) ∧
  ∀ ys p, ys.Pairwise (fun x y => lexLt (k x) (k y) = false) → ys.Perm xs → H p = none → Q (.ref p) (upd H p (.lst ys))
/-- the list, sorted the other way about -/
def sortLR {α : Type} (g : α → List Int) (xs : List α) : List α := (sortL g xs).reverse
section
variable {X : Cx} {kx : XD} {ρ : Ro} {M : Mem} {pos p kpos : Pos} {e : Expr} {x : D} {α : Type} {f : Str}
end
end Dl

/-! owned things at work: what the printed walks stand on -/
namespace Dl
open PySem PySem.Spec PyProof.Rows L2
/-! ### a part of Mem taken to the front -/
/-! ### lent -/
def ShK {β : Type} (S : Shp) (E : β → Ow → Prop) : Prop := ∀ r o, E r o → ∀ p ∈ o.mem, MuSh S p.2 = true
section
variable {X : Cx} {kx kx' : XD} {ρ ρ' ρ'' : Ro} {M M' R : Mem} {P : Out → Mem → Prop} {e : Expr} {sts : List Stmt} {β : Type} {E : β → Ow → Prop} {enc : β → D} {r : β} {d d' : D} {m : Mem} {S : Shp}
/-- what a kind's things own is nothing of the kind -/
def OffK (S : Shp) (E : β → Ow → Prop) : Prop := ∀ r d m, OwR E r d m → d.off S = true ∧ ∀ p ∈ m, p.2.offM S = true
end
/-! ### nothing of the kind -/
/-! ### a dict or a list on its own, owned -/
section
variable {κ β : Type}
end
/-! ### what is handed back, or raised -/
section
variable {mg : Str → Option Value} {α β γ : Type} {res : β → D → Mem → Prop} {out : Ex β} {d : D} {m N M Mi : Mem} {ρ : Ro}
end
section
variable {X : Cx} {kx kx' : XD} {ρ ρ' ρ'' : Ro} {M M' R : Mem} {P : Out → Mem → Prop} {pos p pos' apos cpos tpos : Pos} {e o ix a b : Expr} {es : List Expr} {x y z d : D} {w C : Addr} {α β κ : Type} {k : Nat} {N : List Str} {sc : Scope} {E : β → Ow → Prop} {enc : β → D} {r : β}
theorem DE.to {kk k2 : D → Mem → Prop} (h : DE X kx e ρ M kk) (hk : ∀ d m, kk d m → k2 d m) : DE X kx e ρ M k2 := fun σ H H0 t s W tk hx Q q =>
  h σ H H0 t s W tk hx Q fun v H' H0' d m g t' r kd => q v H' H0' d m g t' r (hk d m kd)
/-! dicts with typed keys -/
variable {xs : List (κ × β)} {ek : κ → List Key} {eK : κ → Key} {f : β → D} {kk : κ}
end
section
open L2
variable {X : Cx} {kx kx' : XD} {ρ ρ' ρ'' : Ro} {M M' : Mem} {P : Out → Mem → Prop} {pos p np pos' tpos spos : Pos} {N : List Str} {sc : Scope} {k i : Nat}
end
end Dl

/-! what follows an expression that changes something, told by what is wanted behind it -/
namespace Dl
open PySem PySem.Spec PyProof.Rows L2
section
variable {X : Cx} {kx kx' : XD} {ρ ρ' ρ'' : Ro} {M M' R : Mem} {P : Out → Mem → Prop} {pos p pos' apos cpos tpos spos : Pos} {tg e o ix a b : Expr} {es : List Expr} {x y z d : D} {w C : Addr} {α β κ : Type} {k : Nat} {N : List Str} {sc : Scope}
end
/-! ### range with a step -/
def rgN (i j c : Int) : Nat := (Builtin.Range.rangeSize i j c).toNat
def rngC (lo c : Int) (n : Nat) : List Int := (List.range n).map fun k => lo + ((k : Nat) : Int) * c
section
variable {X : Cx} {kx : XD} {ρ : Ro} {M : Mem} {pos p : Pos} {tg a b c : Expr}
end
/-! ### nothing of the kind, by kinds -/
section
variable {S : Shp} {α : Type}
end
end Dl
namespace Dl
open PySem PySem.Spec PyProof.Rows L2
section
variable {X : Cx} {kx kx' : XD} {ρ : Ro} {M : Mem} {P : Out → Mem → Prop} {pos apos : Pos} {o e : Expr} {f : Str}
end
end Dl

/-! a try of any clauses; what is caught stays known -/
namespace Dl
open PySem PySem.Spec PyProof.Rows L2
/-- what is caught, at a -/
abbrev exV (a : Addr) (cls : Value) (d : Option Addr) : HO := .ext fun h => ∃ oe : PySem.Obj, h.get? a = some oe ∧ (oe.cls = cls ∧ oe.dict = d) ∧ ∃ vs, oe.data = .fields vs
abbrev Clause := Value × Option Nat × (Addr → Value → Option Addr → TS)
/-- the name's slot is set; gone again -/
def bdO (oi : Option Nat) (a : Addr) (σ : L2.St) : L2.St := match oi with
  | none => σ
  | some i => σ.set i (some (.ref a))
def unO (oi : Option Nat) (σ : L2.St) : L2.St := match oi with
  | none => σ
  | some i => σ.set i none
def endsO (oi : Option Nat) (D : Ends) : Ends := { nx := fun σ H => D.nx (unO oi σ) H, bk := fun σ H => D.bk (unO oi σ) H, ct := fun σ H => D.ct (unO oi σ) H, rt := D.rt }
def hsW (K : PySem.W.Frag) (Wout : WX) (D : Ends) : List Clause → WX
  | [] => Wout
  | (c, oi, ts) :: l => fun cls d σ H => ∃ b, PySem.W.exmOne K cls c = some b ∧ (b = true → ∀ a, H a = none → ts a cls d (endsO oi D) (bdO oi a σ) (upd H a (exV a cls d))) ∧ (b = false → hsW K Wout D l cls d σ H)
def NmO (X : Cx) : Option Str → Option Nat → Prop
  | none, none => True
  | some n, some i => X.N[i]? = some n ∧ X.env.kindOf n = some .local
  | _, _ => False
inductive HsOk (X : Cx) : List ExceptHandler → List Clause → Prop
  | nil : HsOk X [] []
  | cons {x : Str} {c : Value} {ts : Addr → Value → Option Addr → TS} {b0 : Stmt} {suite : List Stmt} {on : Option Str} {oi : Option Nat} {np pos : Pos} {hds : List ExceptHandler} {l : List Clause} (hc : Names X x c) (hn : NmO X on oi)
      (hsu : ∀ (a : Addr) (cls : Value) (d : Option Addr) (pn : List (Addr × PySem.Obj)), PSs (X.suite a pn) (b0 :: suite) (ts a cls d)) (r : HsOk X hds l) :
      HsOk X (.ExceptHandler (some (.Name x np)) on (b0 :: suite) pos :: hds) ((c, oi, ts) :: l)
section
variable {X : Cx} {pins : List (Addr × PySem.Obj)} {σ : L2.St} {H : Hp} {s : Shared}
/-- a thing of the heap that no one knew is known from now on -/
theorem _root_.L2.Inv.track {a : Addr} {o : HO} {ob : PySem.Obj} {vs : Array Value} (I : Inv X pins σ H s) (na : H a = none) (ha : s.heap.get? a = some ob) (hd : ob.data = .fields vs) (nL : a ≠ X.env.locals) (n0 : ∀ o, X.s_0.heap.get? a = some o → a ∉ X.ex → False) (np : ∀ p ∈ X.pn ++ pins, p.1 ≠ a)
    (new : ObjOk X.prog X.w (upd H a o) s.heap a o) : Inv X pins σ (upd H a o) s where
  ok := I.ok
  os := I.os
  bare := I.bare
  base := { keep := I.base.keep, slot := I.base.slot, there := I.base.there
            free := fun b ob e n hx => by rw [upd_ne (fun z => by subst z; exact n0 _ e hx)]; exact I.base.free b ob e n hx
            tups := fun b xs e => by rw [upd_ne (ne_of_none (I.base.tups b xs e) na)]; exact I.base.tups b xs e
            frzs := fun b ob u e => by rw [upd_ne (ne_of_none (I.base.frzs b ob u e) na)]; exact I.base.frzs b ob u e
            tbls := fun b ps e => by
              obtain ⟨more, q⟩ := I.base.tbls b ps e
              exact ⟨more, by rw [upd_ne (ne_of_none q na)]; exact q⟩ }
  loc := I.loc
  cell := I.cell
  free := by rw [upd_ne (Ne.symm nL)]; exact I.free
  freeC := fun x c e => by
    rw [upd_ne (fun z => ?_)]
    · exact I.freeC x c e
    · obtain ⟨v, o', h1, h2⟩ := I.cell x c e
      rw [z, ha] at h1
      cases h1
      rw [hd] at h2
      cases h2
  pin := fun p hp => by
    obtain ⟨h1, h2, h3⟩ := I.pin p hp
    exact ⟨h1, by rw [upd_ne (np p hp)]; exact h2, h3⟩
  hok := I.hok.laidN (fun _ _ e => e) na new
  len := I.len
theorem exV_ok {P : Program} {w : World} {h : Heap} {a : Addr} {cls : Value} {d : Option Addr} {oe : PySem.Obj} (he : h.get? a = some oe) (hz : oe.cls = cls ∧ oe.dict = d) (hd : ∃ vs, oe.data = .fields vs) : ObjOk P w H h a (exV a cls d) :=
  ⟨⟨oe, he, hz, hd⟩, ⟨oe, he⟩, fun _ _ ⟨o, q, r⟩ k => ⟨o, k o q, r⟩⟩
theorem _root_.L2.Inv.inSuite {a : Addr} (I : Inv X pins σ H s) : Inv (X.suite a (X.pn ++ pins)) [] σ H s :=
  ⟨I.ok.suite _ _, I.os, I.bare, I.base, I.loc, I.cell, I.free, I.freeC, fun p hp => I.pin p (by rw [List.append_nil] at hp; exact hp), I.hok, I.len⟩
theorem _root_.L2.Inv.outSuite {a : Addr} (I : Inv (X.suite a (X.pn ++ pins)) [] σ H s) (ok : X.Ok) : Inv X pins σ H s :=
  ⟨ok, I.os, I.bare, I.base, I.loc, I.cell, I.free, I.freeC, fun p hp => I.pin p (List.mem_append_left _ hp), I.hok, I.len⟩
end
section
variable {X : Cx} {body : List Stmt} {h0 : ExceptHandler} {hds : List ExceptHandler} {l : List Clause} {pos : Pos} {tb : WX → TS} {Wout : WX}
/-- what the clauses do with the exception at a -/
theorem clauses_ok {pins : List (Addr × PySem.Obj)} {σ : L2.St} {H : Hp} {sI s' : Shared} {D : Ends} {B h3 : Heap} {a : Addr} {cls : Value} {d : Option Addr} (hs : X.stack = X.env :: X.outer) (hf : X.env.frame = some X.env.locals) (hN : X.N.Nodup) (tk : Takes X Wout)
    (J : Inv X pins σ H sI) (nb : ∀ b o, sI.heap.get? b = some o → b ∉ frs X.stack → B.get? b = some o) (up : sI.heap.UpToSlots h3) (fl : HandSPX.FlyingZ B (X.env :: X.outer) a (Zc cls d) h3) (na : H a = none) (os : s'.os = sI.os) (ag : AllBare s'.gens) :
    ∀ {hds : List ExceptHandler} {l : List Clause}, HsOk X hds l → hsW X.K Wout D l cls d σ H → wpAny (model X.prog X.w) X.A (handleBy (.ref a) X.env hds) (SP X pins D) X.xe { s' with heap := h3 } := by
  obtain ⟨oe, vs, he, hz, hd⟩ := fl.there
  have J3 : Inv X pins σ H { s' with heap := h3 } := J.landed nb fl.1 up os ag
  have nfr : a ∉ frs (X.env :: X.outer) := fun hm => by
    obtain ⟨_, o', e', hnf⟩ := fl.2.2.1.mem hm
    rw [he] at e'
    cases e'
    exact hnf _ hd
  have nL : a ≠ X.env.locals := fun z => nfr (List.mem_filterMap.mpr ⟨X.env, List.mem_cons_self, by rw [hf, z]⟩)
  have nF : a ∉ X.fs := fun hm => by
    obtain ⟨e, h1, h2⟩ := List.mem_filterMap.mp hm
    exact nfr (List.mem_filterMap.mpr ⟨e, List.mem_cons_of_mem _ h1, h2⟩)
  have nI : sI.heap.get? a = none := by
    cases q : sI.heap.get? a with
    | none => rfl
    | some o =>
      have z := nb a o q (by rw [hs]; exact nfr)
      rw [fl.2.1] at z
      cases z
  have n0 : ∀ o, X.s_0.heap.get? a = some o → a ∉ X.ex → False := fun o e hx => by
    obtain ⟨o', z⟩ := J.base.there a o e hx
    rw [nI] at z
    cases z
  intro hds l hk
  induction hk with
  | nil =>
    intro w
    obtain ⟨_, _, _, oe1, vs1, T, oT, ts1, he1, hz1, hd1, h1, hr⟩ := id fl
    refine wpAny_handleBy_nil ?_
    unfold PySem.passOn
    refine wpAny_bind (wpAny_field he1 hd1 h1 ?_)
    rw [if_neg (by simp)]
    have last : wpAny (model X.prog X.w) X.A (setFlight (.ref a) X.env.frame) (fun _ s4 => wpAny (model X.prog X.w) X.A (throw (.ref a) : Sem Flow) (SP X pins D) X.xe s4) X.xe { s' with heap := h3 } := by
      rw [hf]
      exact HandSPX.setFlight_upZ fl fun h4 hh4 up4 => wpAny_throw (tk _ _ ⟨a, B, sI, pins, σ, H, cls, d, rfl, J, nb, up.trans up4, .inr (.inr (by rw [hs]; exact hh4)), na, os, ag, w⟩)
    first
      | exact wpAny_bind (wpAny_pure (wpAny_bind last))
      | exact wpAny_bind last
  | @cons x c ts b0 suite on oi np pos hds l hc hn hsu r ih =>
    intro w
    obtain ⟨b, hb, yes, no⟩ := w
    refine wpAny_handleBy_cons (codeAny_handlers_test ?_) (by intro q; cases q)
    have LT : PySem.W.Looks (model X.prog X.w) h3 (typeOf (.ref a)) cls := fun A Q E s k q => wpAny_typeOf_ref (k _ _ he) (by rw [hz.1]; exact q)
    have LM := PySem.W.exm_one (M := model X.prog X.w) J3.kIn LT hb
    have test : ∀ {Q : Value → Shared → Prop} {E : Value → Shared → Prop}, Q c { s' with heap := h3 } → wpAny (model X.prog X.w) (X.A.mark (some (.ref a))) (eval (.Name x np) X.env) Q E { s' with heap := h3 } := fun {Q E} q => by
      have S : Inv (X.suite a (X.pn ++ pins)) [] σ H { s' with heap := h3 } := J3.inSuite
      obtain ⟨hg, hdb, hm | ⟨hm, hv, hnn⟩⟩ := hc
      · exact ld_glob S hg hm q hdb
      · exact ld_blt S hg hm hv q hnn hdb
    refine test (LM.here ?_)
    cases b with
    | false => exact ih (no rfl)
    | true =>
      have key : ∀ (h4 : Heap), HandSPX.FlyingZ B (X.env :: X.outer) a (Zc cls d) h4 → h3.UpToSlots h4 → Inv (X.suite a (X.pn ++ pins)) [] σ (upd H a (exV a cls d)) { s' with heap := h4 } := fun h4 fl4 up4 => by
        obtain ⟨oe4, vs4, he4, hz4, hd4⟩ := fl4.there
        have J4 : Inv X pins σ H { s' with heap := h4 } := J.landed nb fl4.1 (up.trans up4) os ag
        refine (J4.track na he4 hd4 nL n0 (fun p hp z => ?_) (exV_ok he4 hz4 ⟨_, hd4⟩)).inSuite
        have z2 := (J.pin p hp).1
        rw [z, nI] at z2
        cases z2
      have y := yes rfl a na
      cases on with
      | none =>
        cases oi with
        | some i => exact hn.elim
        | none =>
          refine codeAny_handlers_suite (HandSPX.lands_againZ fl fun h4 fl4 up4 => wpAny_mono ((hsu a cls d (X.pn ++ pins)).run [] _ _ _ _ (key h4 fl4 up4) y) (fun f s6 hsp => ?_) fun _ _ z => z.elim)
          cases f with
          | next => obtain ⟨σ6, H6, S6, q6⟩ := hsp; exact ⟨_, _, S6.outSuite J.ok, q6⟩
          | brk => obtain ⟨σ6, H6, S6, q6⟩ := hsp; exact ⟨_, _, S6.outSuite J.ok, q6⟩
          | cont => obtain ⟨σ6, H6, S6, q6⟩ := hsp; exact ⟨_, _, S6.outSuite J.ok, q6⟩
          | ret u => obtain ⟨v6, σ6, H6, S6, r6, q6⟩ := hsp; exact ⟨_, _, _, S6.outSuite J.ok, r6, q6⟩
      | some n =>
        cases oi with
        | none => exact hn.elim
        | some i =>
          obtain ⟨hi, hln⟩ := hn
          refine codeAny_handlers_suite_as (HandSPX.lands_againZ fl fun h4 fl4 up4 => store_ok (X := X.suite a (X.pn ++ pins)) (v := .ref a) (key h4 fl4 up4) hN hi (.inl hln) rfl (fun s5 S5 => ?_) (.inr hln))
          refine wpAny_mono ((hsu a cls d (X.pn ++ pins)).run [] _ _ _ _ S5 y) (fun f s6 hsp => ?_) fun _ _ z => z.elim
          cases f with
          | next => obtain ⟨σ6, H6, S6, q6⟩ := hsp; exact gone_ok (S6.outSuite J.ok) hN hi hln fun s7 J7 => ⟨_, _, J7, q6⟩
          | brk => obtain ⟨σ6, H6, S6, q6⟩ := hsp; exact gone_ok (S6.outSuite J.ok) hN hi hln fun s7 J7 => ⟨_, _, J7, q6⟩
          | cont => obtain ⟨σ6, H6, S6, q6⟩ := hsp; exact gone_ok (S6.outSuite J.ok) hN hi hln fun s7 J7 => ⟨_, _, J7, q6⟩
          | ret u => obtain ⟨v6, σ6, H6, S6, r6, q6⟩ := hsp; exact gone_ok (S6.outSuite J.ok) hN hi hln fun s7 J7 => ⟨_, _, _, J7, r6, q6⟩
/-- try: body, except ..: the exception that a clause takes is known from then on -/
theorem ps_try_hd (hs : X.stack = X.env :: X.outer) (hf : X.env.frame = some X.env.locals) (hN : X.N.Nodup) (tk : Takes X Wout)
    (hb : ∀ (W : WX) (pn : List (Addr × PySem.Obj)) (xe : Value → Shared → Prop), Takes (X.tr pn xe) W → PassesOwn (model X.prog X.w) X.A X.env xe → PSs (X.tr pn xe) body (tb W))
    (hh : HsOk X (h0 :: hds) l) : PS X (.Try body (h0 :: hds) [] [] pos) (fun D σ H => tb (hsW X.K Wout D l) D σ H) := by
  refine ⟨fun pins s σ H D I h => wpAny_Try_except ?_⟩
  have ok := I.ok
  have hfr : X.A.frames = some (X.env :: X.outer) := by rw [ok.frames, hs]
  refine wpAny_mono ((hb (hsW X.K Wout D l) (X.pn ++ pins) (fun e s₁ => wpAny (model X.prog X.w) X.A (noteFrame e X.env) (fun _ s₂ => wpAny (model X.prog X.w) X.A (setFlight e none) (fun _ s₃ =>
    wpAny (model X.prog X.w) X.A (handleBy e X.env (h0 :: hds)) (SP X pins D) X.xe s₃) X.xe s₂) X.xe s₁) (fun u s' xx => ?_) PassesOwn.looking).run [] s σ H D (I.toTry _) h) (fun f s1 hsp => ?_) (fun e s1 he => he)
  · obtain ⟨a, B, sI, pins', σ', H', cls, d, rfl, J', nb, up, sky, na, os, ag, w⟩ := xx
    have J : Inv X pins σ' H' sI := J'.ofTry ok
    have sky' : Sky B (X.env :: X.outer) a (Zc cls d) X.env.locals s'.heap := by rw [← hs]; exact sky
    exact Sky.land Zc.steady hfr hf sky' fun h3 fl3 up3 => clauses_ok hs hf hN tk J nb (up.trans up3) fl3 na os ag hh w
  · cases f with
    | next => obtain ⟨σ', H', J', q⟩ := hsp; exact wpAny_execs_nil ⟨σ', H', J'.ofTry ok, q⟩
    | brk => obtain ⟨σ', H', J', q⟩ := hsp; exact ⟨σ', H', J'.ofTry ok, q⟩
    | cont => obtain ⟨σ', H', J', q⟩ := hsp; exact ⟨σ', H', J'.ofTry ok, q⟩
    | ret u => obtain ⟨v, σ', H', J', r, q⟩ := hsp; exact ⟨v, σ', H', J'.ofTry ok, r, q⟩
end
/-! ### at the level of data -/
def NmS (N : List Str) (sc : Scope) : Option Str → Option Nat → Prop
  | none, none => True
  | some n, some i => N[i]? = some n ∧ sc.names.lookup n = some .local
  | _, _ => False
inductive HdD (X : Cx) (N : List Str) (sc : Scope) : List ExceptHandler → List (Value × Option Nat × List Stmt) → Prop
  | nil : HdD X N sc [] []
  | cons {xx : Str} {cv : Value} {on : Option Str} {oi : Option Nat} {b0 : Stmt} {suite : List Stmt} {np pos : Pos} {hds : List ExceptHandler} {l : List (Value × Option Nat × List Stmt)} (hg : Gl X xx) (hm : X.mg xx = some cv) (hn : NmS N sc on oi) (r : HdD X N sc hds l)
      (hdb : (xx == ("__debug__" : Str)) = false := by decide) : HdD X N sc (.ExceptHandler (some (.Name xx np)) on (b0 :: suite) pos :: hds) ((cv, oi, b0 :: suite) :: l)
def setO (oi : Option Nat) (d : D) (ρ : Ro) : Ro := match oi with
  | none => ρ
  | some i => ρ.set i (some d)
def goneO (oi : Option Nat) (P : Out → Mem → Prop) : Out → Mem → Prop := match oi with
  | none => P
  | some i => goneP i P
def hdQ (X : Cx) (N : List Str) (sc : Scope) (k : Nat) (kx : XD) (P : Out → Mem → Prop) : List (Value × Option Nat × List Stmt) → XD
  | [] => kx
  | (cv, oi, st) :: t => fun cls fs ρ M => ∃ b, PySem.W.exmOne X.K cls cv = some b ∧ (b = true → ∃ C, cls = .ref C ∧ ∀ a l, BdS (X.suite a l) N sc k → DS (X.suite a l) kx0 st (setO oi (.exn C (fs.map Prod.fst) (fs.map Prod.snd)) ρ) M (goneO oi P)) ∧ (b = false → hdQ X N sc k kx P t cls fs ρ M)
section
variable {X : Cx} {kx kx' : XD} {ρ ρ' ρ'' : Ro} {M M' : Mem} {P : Out → Mem → Prop} {pos p np pos' : Pos} {e c : Expr} {w C : Addr} {k i : Nat} {N : List Str} {sc : Scope}
theorem hdD_ok (B : Bd X N sc k) {hds : List ExceptHandler} {l : List (Value × Option Nat × List Stmt)} (h : HdD X N sc hds l) :
    HsOk X hds (l.map fun q => (q.1, q.2.1, fun a cls d => fun D' σ' H' => ∀ pn, sSs (X.suite a pn) q.2.2 D' σ' H')) := by
  induction h with
  | nil => exact .nil
  | cons hg hm hn r hdb ih =>
    refine .cons ⟨hg, hdb, .inl hm⟩ ?_ (fun a cls d pn => ⟨fun pins s' σ' H' D' I q => q pn pins s' I⟩) ih
    rename_i on oi _ _ _ _ _ _
    cases on with
    | none => cases oi with
      | none => exact trivial
      | some i => exact hn.elim
    | some n => cases oi with
      | none => exact hn.elim
      | some i => exact ⟨by rw [B.hN]; exact hn.1, by show X.env.scope.names.lookup n = some .local; rw [B.hsc]; exact hn.2⟩
theorem takes_suite {a : Addr} {pn : List (Addr × PySem.Obj)} : Takes (X.suite a pn) fun _ _ _ _ => False := by
  rintro u s2 ⟨_, _, _, _, _, _, _, _, _, _, _, _, _, _, _, _, z⟩
  exact z.elim
theorem ds1_tryH {body : List Stmt} {h0 : ExceptHandler} {hds : List ExceptHandler} {l : List (Value × Option Nat × List Stmt)} (B : Bd X N sc k) (F : Bf X) (hh : HdD X N sc (h0 :: hds) l)
    (hb : ∀ pn xe, Bd (X.tr pn xe) N sc k → Bf (X.tr pn xe) → DS (X.tr pn xe) (hdQ X N sc k kx P l) body ρ M P) : DS1 X kx (.Try body (h0 :: hds) [] [] pos) ρ M P := fun σ H H0 t s W tk hx E c => by
  refine sS.by (ps_try_hd (Wout := W) (l := l.map fun q => (q.1, q.2.1, fun a cls d => fun D' σ' H' => ∀ pn, sSs (X.suite a pn) q.2.2 D' σ' H'))
    (tb := fun W' => fun D' σ' H' => ∀ pn xe, Takes (X.tr pn xe) W' → PassesOwn (model X.prog X.w) X.A X.env xe → sSs (X.tr pn xe) body D' σ' H')
    F.stk F.fr (by rw [B.hN]; exact B.hnd) tk (fun W' pn xe tk' po => ⟨fun pins s' σ' H' D' I q => q pn xe tk' po pins s' I⟩) (hdD_ok B hh)) ?_
  intro pn xe tk' po
  refine hb pn xe (B.tr po) F.tr σ H H0 t s _ tk' ?_ E ⟨c.nx, c.bk, c.ct, c.rt⟩
  intro cls dd σ' H' H0' fs ρ' M' g t' s' xr kq
  clear hh hb tk' po
  induction l with
  | nil => exact hx cls dd σ' H' H0' fs ρ' M' g t' s' xr kq
  | cons q l ih =>
    obtain ⟨cv, oi, st⟩ := q
    obtain ⟨b, e1, yes, no⟩ := kq
    refine ⟨b, e1, fun hb a na pn2 => ?_, fun hb => ih (no hb)⟩
    obtain ⟨C, rfl, hsu⟩ := yes hb
    have p := Pu.new1 t'.ex na (exV a (.ref C) dd)
    have r : Rep X.K (upd H0' a (exV a (.ref C) dd)) (.ref a) (.exn C (fs.map Prod.fst) (fs.map Prod.snd)) := by
      rcases xr with ⟨rfl, rfl⟩ | ⟨_, d, vs, xs, rfl, h1, h2, h3, h4⟩
      · exact .exn0 upd_same
      · exact .exn1 upd_same (p.e0 _ _ h1) h2 h3 (h4.mo p.e0)
    have g1 := g.trans (Pu.go (M := M') p)
    cases oi with
    | none =>
      exact hsu a pn2 (B.su a pn2) σ' _ _ (t'.pu p) (s'.mo p.e0) _ takes_suite Hx.none _ ⟨fun σ2 H2 H02 ρ2 M2 g2 => c.nx σ2 H2 H02 ρ2 M2 (g1.trans g2), fun σ2 H2 H02 ρ2 M2 g2 => c.bk σ2 H2 H02 ρ2 M2 (g1.trans g2),
        fun σ2 H2 H02 ρ2 M2 g2 => c.ct σ2 H2 H02 ρ2 M2 (g1.trans g2), fun v H2 H02 d M2 g2 => c.rt v H2 H02 d M2 (g1.trans g2)⟩
    | some i =>
      exact hsu a pn2 (B.su a pn2) _ _ _ (t'.pu p) ((s'.mo p.e0).set r i) _ takes_suite Hx.none _ ⟨fun σ2 H2 H02 ρ2 M2 g2 t2 s2 q => c.nx _ H2 H02 _ M2 (g1.trans g2) t2 (s2.none i) q, fun σ2 H2 H02 ρ2 M2 g2 t2 s2 q => c.bk _ H2 H02 _ M2 (g1.trans g2) t2 (s2.none i) q,
        fun σ2 H2 H02 ρ2 M2 g2 t2 s2 q => c.ct _ H2 H02 _ M2 (g1.trans g2) t2 (s2.none i) q, fun v H2 H02 d M2 g2 t2 r2 q => c.rt v H2 H02 d M2 (g1.trans g2) t2 r2 q⟩
end
end Dl

/-! exceptions kept: what is asked of them, the mirror of a try -/
namespace Dl
open PySem PySem.Spec PyProof.Rows L2
/-- what is kept of an exception: its class's name, its fields -/
abbrev Xn := Str × List (Str × D)
def hdF {β : Type} : List (List Str × (Xn → Ex β)) → Xn → Ex β
  | [], e => .exc e.1 e.2
  | (ns, h) :: t, e => if e.1 ∈ ns then h e else hdF t e
/-- try: m, else what follows; the first clause that names the exception -/
def tryF {α β : Type} (names : List Str) (m : Ex α) (k : α → Ex β) (hs : List (List Str × (Xn → Ex β))) : Ex β := match m with
  | .ok a => k a
  | .exc n fs => if n ∈ names then hdF hs (n, fs) else .bad
  | .bad => .bad
/-- isinstance of what may be an exception -/
def isEO (ns : List Str) (o : Option Xn) : Bool := match o with
  | none => false
  | some e => decide (e.1 ∈ ns)
def fldE (e : Xn) (f : Str) : Ex Int := match e.2.lookup f with
  | some (.int v) => .ok v
  | _ => .bad
theorem fldE_out {e : Xn} {f : Str} {v : Int} (h : fldE e f = .ok v) : e.2.lookup f = some (.int v) := by
  unfold fldE at h
  split at h
  · rename_i w q
    cases h
    exact q
  · cases h
theorem zip_fs {α β : Type} : ∀ l : List (α × β), (l.map Prod.fst).zip (l.map Prod.snd) = l
  | [] => rfl
  | (a, b) :: l => by rw [List.map_cons, List.map_cons, List.zip_cons_cons, zip_fs l]
/-- is each name in a clause -/
def covB (names : List Str) (ls : List (List Str)) : Bool := names.all fun n => ls.any fun l => decide (n ∈ l)
theorem covB_mem {β : Type} {names : List Str} {hs : List (List Str × β)} {n : Str} (h : covB names (hs.map Prod.fst) = true) (hn : n ∈ names) : ∃ c ∈ hs, n ∈ c.1 := by
  unfold covB at h
  have a := List.all_eq_true.mp h n hn
  obtain ⟨l, hl, q⟩ := List.any_eq_true.mp a
  obtain ⟨c, hc, rfl⟩ := List.mem_map.mp hl
  exact ⟨c, hc, of_decide_eq_true q⟩
/-! ### for the mathematics -/
section
variable {α β : Type} {names : List Str} {m : Ex α} {k : α → Ex β} {hs : List (List Str × (Xn → Ex β))} {Q : β → Prop}
theorem tryF_ok {a : α} (h : m = .ok a) : tryF names m k hs = k a := by rw [h]; rfl
theorem tryF_exc {n : Str} {fs : List (Str × D)} (h : m = .exc n fs) (i : n ∈ names) : tryF names m k hs = hdF hs (n, fs) := by
  rw [h]
  show (if n ∈ names then hdF hs (n, fs) else .bad) = _
  rw [if_pos i]
theorem hdF_yes {ns : List Str} {h : Xn → Ex β} {e : Xn} (i : e.1 ∈ ns) : hdF ((ns, h) :: hs) e = h e := by
  show (if e.1 ∈ ns then h e else hdF hs e) = _
  rw [if_pos i]
theorem hdF_no {ns : List Str} {h : Xn → Ex β} {e : Xn} (i : e.1 ∉ ns) : hdF ((ns, h) :: hs) e = hdF hs e := by
  show (if e.1 ∈ ns then h e else hdF hs e) = _
  rw [if_neg i]
end
/-! ### the walk -/
/-- isinstance(e, c), e an exception that stands in the heap -/
def rIsX (K : PySem.W.Frag) (C a : Addr) : List V → Hp → VK → Prop := fun xs H Q => ∃ (c : V) (cv : Value) (b : Bool) (d : Option Addr), xs = [.ref a, c] ∧ (∀ u, RelV c u → u = cv) ∧ PySem.W.kitOne K (.ref C) cv = some b ∧
  H a = some (exT a C d) ∧ (d = none ∨ ∃ dd vs, d = some dd ∧ H dd = some (.xd vs)) ∧ Q (.bl b) H
/-- the exception as the kit asks for it -/
theorem ext_inst {P : Program} {w : World} {H : Hp} {h : Heap} {a C : Addr} {d : Option Addr} (hok : HOk P w H h) (ea : H a = some (exT a C d)) (hd : d = none ∨ ∃ dd vs, d = some dd ∧ H dd = some (.xd vs)) :
    ∃ oe od, PySem.W.InstAt h a oe C od ∧ (∀ dd, d = some dd → ∃ o, od = some o ∧ h.get? dd = some o) := by
  have z := hok a _ ea
  obtain ⟨⟨oe, he, ⟨hz1, hz2⟩, vs, hv⟩, _⟩ := z
  rcases hd with rfl | ⟨dd, ws, rfl, hdd⟩
  · exact ⟨oe, none, ⟨he, hz1, by unfold PySem.W.notCls; rw [hv] <;> rfl, by rw [hz2]; trivial⟩, fun _ z => by cases z⟩
  · have hx : ObjOk P w H h dd (.xd ws) := hok dd _ hdd
    obtain ⟨mA, hns, hr⟩ := hx
    obtain ⟨od, ho, hl⟩ := lookIn_ns hns
    exact ⟨oe, some od, ⟨he, hz1, by unfold PySem.W.notCls; rw [hv] <;> rfl, by rw [hz2]; exact ho⟩, fun _ z => by cases z; exact ⟨od, rfl, ho⟩⟩
theorem call_isX {X : Cx} {a C : Addr} (T : ExcC X.K C) : CallR X (.builtin "isinstance") (rIsX X.K C a) := by
  intro pins s σ H xs us Q I r h
  obtain ⟨c, cv, b, d, rfl, hcv, e, ea, hd, q⟩ := h
  cases r with
  | cons rx rr =>
    cases rr with
    | cons rt rr =>
      cases rr
      cases rx
      have ec := hcv _ rt
      subst ec
      obtain ⟨oe, od, J, _⟩ := ext_inst I.hok ea hd
      obtain ⟨cd, hcd, _⟩ := PySem.W.any_some T.hd
      exact PySem.W.kia_one (PySem.W.kitx_exc (od := od) (by rw [hcd]; rfl) T.hg T.hk T.hs T.ha T.hn T.ht T.hm) I.kIn J e (fun z => nomatch z) fun tk => ⟨.bl b, H, I.kept (t' := tk) fun _ _ z => z, rfl, q⟩
section
variable {X : Cx} {kx kx' : XD} {ρ ρ' ρ'' : Ro} {M M' : Mem} {P : Out → Mem → Prop} {pos p np pos' tpos spos : Pos} {e c : Expr} {C : Addr} {N : List Str} {sc : Scope} {k i : Nat} {x : D} {ns : List Str} {ds : List D}
/-- what stands in the heap for an exception that is kept -/
theorem exn_at {K : Frag} {H0 H : Hp} {v : V} (t : Same H0 H) (r : Rep K H0 v (.exn C ns ds)) : ∃ a d, v = .ref a ∧ H a = some (exT a C d) ∧ (d = none ∨ ∃ dd vs, d = some dd ∧ H dd = some (.xd vs)) ∧
    ((d = none ∧ ns = [] ∧ ds = []) ∨ ∃ dd vs xs, d = some dd ∧ H dd = some (.xd vs) ∧ vs.map Prod.fst = ns ∧ vs.map Prod.snd = xs ∧ RepA K H0 xs ds) := by
  cases r with
  | exn0 h => exact ⟨_, none, rfl, t _ _ h, .inl rfl, .inl ⟨rfl, rfl, rfl⟩⟩
  | exn1 h1 h2 h3 h4 h5 => exact ⟨_, _, rfl, t _ _ h1, .inr ⟨_, _, rfl, t _ _ h2⟩, .inr ⟨_, _, _, rfl, t _ _ h2, h3, h4, h5⟩⟩
theorem dv_isXe {cv : Value} {b : Bool} {f : Str} (n0 : Bn X f (.builtin "isinstance")) (T : ExcC X.K C) (hv : DV X kx e ρ M (.exn C ns ds)) (hc : DV X kx c ρ M x) (hcv : ∀ (v : V) (u : Value) (H0 : Hp), Rep X.K H0 v x → RelV v u → u = cv) (hk : PySem.W.kitOne X.K (.ref C) cv = some b)
    (he : starEach [e, c] X.env = (false, eval e X.env) :: starEach [c] X.env := by rfl) (he2 : starEach [c] X.env = (false, eval c X.env) :: starEach [] X.env := by rfl) (hpl : (backTo pos (starEach [c] X.env)).any (·.1) = false := by rfl) : DV X kx (.Call (.Name f p) [e, c] [] pos) ρ M (.bl b) := fun σ H H0 t s W tk hx Q q =>
  sE.by (pe_callB (r := fun xs H Q => ∃ a, rIsX X.K C a xs H Q) (fun pins s σ H xs us Q I r ⟨a, h⟩ => call_isX T pins s σ H xs us Q I r h) n0.gl n0.mg n0.bt (pa_s _) n0.n n0.d he hpl) (da_cons hv (da_cons hc da_nil he2) he σ H H0 t s W tk hx _ fun vs H1 H01 p1 r1 => by
    cases r1 with
    | cons r1 rr =>
      cases rr with
      | cons r2 rr =>
        cases rr
        obtain ⟨a, d, rfl, ea, hd, _⟩ := exn_at (t.pu p1).ex r1
        exact ⟨a, _, cv, b, d, rfl, fun u hu => hcv _ _ H01 r2 hu, hk, ea, hd, q _ H1 H01 p1 (.bl _)⟩)
/-- e.f of an exception -/
def tXe (C : Addr) (f : Str) (te : TE) : TE := fun σ H Q => te σ H fun x H1 => ∃ (a dd : Addr) (fs : List (Str × V)) (v : V), x = .ref a ∧ H1 a = some (exT a C (some dd)) ∧ H1 dd = some (.xd fs) ∧ fs.lookup f = some v ∧ Q v H1
theorem pe_xe {te : TE} {f : Str} (T : XfC X.K C) (hno : PySem.W.findIn X.K (.ref C) f = some none) (he : PE X e te) (hb : attributeBase e f X.env (eval e X.env) = eval e X.env := by rfl) : PE X (.Attribute e f pos) (tXe C f te) := by
  refine ⟨fun pins s σ H Q I h => ?_⟩
  refine attr_of hb (thn (he.run pins s σ H _ I h) fun u s1 hh => ?_)
  obtain ⟨x, H1, I1, rx, a, dd, fs, v, ex, ea, ed, l, q⟩ := hh
  subst ex
  obtain rfl : u = Value.ref a := rx
  obtain ⟨oe, od, J, hod⟩ := ext_inst I1.hok ea (.inr ⟨dd, fs, rfl, ed⟩)
  have hx : ObjOk X.prog X.w H1 s1.heap dd (.xd fs) := I1.hok dd _ ed
  obtain ⟨mA, hns, hr⟩ := hx
  obtain ⟨od', ho, hl⟩ := lookIn_ns hns
  obtain ⟨o, e1, e2⟩ := hod dd rfl
  rw [ho] at e2
  cases e2
  subst e1
  obtain ⟨u, hu, ru⟩ := RelO.some_of (v := v) (o := mA f) (by rw [← l]; exact hr f)
  exact HandSPX.exc_get I1.kIn J T.ga T.gg T.exC (PySem.W.findObj_own T.hdC hno rfl (by rw [hl, hu])) (handed_of ru) ⟨v, H1, I1.tok _, ru, q⟩
theorem dv_xfld {f : Str} {d : D} (T : XfC X.K C) (hno : PySem.W.findIn X.K (.ref C) f = some none) (hv : DV X kx e ρ M (.exn C ns ds)) (hl : (ns.zip ds).lookup f = some d) (hb : attributeBase e f X.env (eval e X.env) = eval e X.env := by rfl) : DV X kx (.Attribute e f pos) ρ M d := fun σ H H0 t s W tk hx Q q =>
  sE.by (pe_xe T hno (pe_s e) hb) (hv σ H H0 t s W tk hx _ fun v H1 H01 p1 r1 => by
    obtain ⟨a, d', rfl, ea, _, h⟩ := exn_at (t.pu p1).ex r1
    rcases h with ⟨_, rfl, rfl⟩ | ⟨dd, vs, xs, rfl, h2, h3, h4, h5⟩
    · cases hl
    · obtain ⟨v, h6, h7⟩ := (lookup_rep (f := f) h3 h4 h5).1 d hl
      exact ⟨a, dd, vs, v, rfl, ea, h2, h6, q v H1 H01 p1 h7⟩)
/-! ### what is asked of one that may be there -/
section
variable {ad : Str → Addr} {names subs : List Str} {o : Option Xn} {e0 : Xn}
def dExn (ad : Str → Addr) (e : Xn) : D := .exn (ad e.1) (e.2.map Prod.fst) (e.2.map Prod.snd)
/-- isinstance(e, T) -/
theorem dv_isX1 {cv : Value} {f : Str} (n0 : Bn X f (.builtin "isinstance")) (T : ∀ n ∈ names, ExcC X.K (ad n)) (hv : DV X kx e ρ M (dExn ad e0)) (hc : DV X kx c ρ M x) (hcv : ∀ (v : V) (u : Value) (H0 : Hp), Rep X.K H0 v x → RelV v u → u = cv) (hn : e0.1 ∈ names) (hk : ∀ n ∈ names, PySem.W.kitOne X.K (.ref (ad n)) cv = some (decide (n ∈ subs)))
    (he : starEach [e, c] X.env = (false, eval e X.env) :: starEach [c] X.env := by rfl) (he2 : starEach [c] X.env = (false, eval c X.env) :: starEach [] X.env := by rfl) (hpl : (backTo pos (starEach [c] X.env)).any (·.1) = false := by rfl) : DV X kx (.Call (.Name f p) [e, c] [] pos) ρ M (.bl (decide (e0.1 ∈ subs))) :=
  dv_isXe (C := ad e0.1) n0 (T _ hn) hv hc hcv (hk _ hn) he he2 hpl
theorem dv_isX1C {f : Str} {cc : Addr} (n0 : Bn X f (.builtin "isinstance")) (T : ∀ n ∈ names, ExcC X.K (ad n)) (hv : DV X kx e ρ M (dExn ad e0)) (hc : DV X kx c ρ M (.adr cc)) (hn : e0.1 ∈ names) (hk : ∀ n ∈ names, PySem.W.kitOne X.K (.ref (ad n)) (.ref cc) = some (decide (n ∈ subs)))
    (he : starEach [e, c] X.env = (false, eval e X.env) :: starEach [c] X.env := by rfl) (he2 : starEach [c] X.env = (false, eval c X.env) :: starEach [] X.env := by rfl) (hpl : (backTo pos (starEach [c] X.env)).any (·.1) = false := by rfl) : DV X kx (.Call (.Name f p) [e, c] [] pos) ρ M (.bl (decide (e0.1 ∈ subs))) :=
  dv_isX1 n0 T hv hc (fun v u H0 r ru => by cases r; exact ru) hn hk he he2 hpl
/-- e.f, a whole number -/
theorem dv_xfI {f : Str} {v : Int} (T : ∀ n ∈ names, XfC X.K (ad n) ∧ PySem.W.findIn X.K (.ref (ad n)) f = some none) (hn : e0.1 ∈ names) (hv : DV X kx e ρ M (dExn ad e0)) (hl : fldE e0 f = .ok v) (hb : attributeBase e f X.env (eval e X.env) = eval e X.env := by rfl) : DV X kx (.Attribute e f pos) ρ M (.int v) :=
  dv_xfld (T _ hn).1 (T _ hn).2 hv (by rw [zip_fs]; exact fldE_out hl) hb
end
/-! ### try -/
section
variable {α γ : Type} {ad : Str → Addr} {names : List Str} {m : Ex α} {kf : α → Ex γ} {hs : List (List Str × (Xn → Ex γ))} {out : Ex γ}
/-- the clauses and their mirrors -/
inductive HdF (X : Cx) (N : List Str) (sc : Scope) (k : Nat) (ad : Str → Addr) (names : List Str) (ρE : Ro) (M : Mem) (P : Out → Mem → Prop) (out : Ex γ) : List (Value × Option Nat × List Stmt) → List (List Str × (Xn → Ex γ)) → Prop
  | nil : HdF X N sc k ad names ρE M P out [] []
  | cons {cv : Value} {oi : Option Nat} {st : List Stmt} {l : List (Value × Option Nat × List Stmt)} {ns : List Str} {h : Xn → Ex γ} {hs : List (List Str × (Xn → Ex γ))} (e1 : ∀ n ∈ names, PySem.W.exmOne X.K (.ref (ad n)) cv = some (decide (n ∈ ns)))
      (b : ∀ e0 : Xn, h e0 = out → ∀ a l, BdS (X.suite a l) N sc k → DS (X.suite a l) kx0 st (setO oi (dExn ad e0) ρE) M (goneO oi P)) (r : HdF X N sc k ad names ρE M P out l hs) : HdF X N sc k ad names ρE M P out ((cv, oi, st) :: l) ((ns, h) :: hs)
theorem fgt_set {ρ1 ρ2 : Ro} (f : Fgt ρ1 ρ2) (i : Nat) (d : Option D) : Fgt (ρ1.set i d) (ρ2.set i d) := by
  obtain ⟨g1, g2⟩ := f
  refine ⟨by rw [List.length_set, List.length_set]; exact g1, fun j d' e => ?_⟩
  by_cases hj : i = j
  · subst hj
    by_cases hl : i < ρ2.length
    · rw [List.getElem?_set_self hl] at e
      rw [List.getElem?_set_self (by omega)]
      exact e
    · rw [List.getElem?_eq_none (by rw [List.length_set]; omega)] at e
      cases e
  · rw [List.getElem?_set_ne hj] at e ⊢
    exact g2 j d' e
theorem fgt_setO {ρ1 ρ2 : Ro} (f : Fgt ρ1 ρ2) (oi : Option Nat) (d : D) : Fgt (setO oi d ρ1) (setO oi d ρ2) := by
  cases oi with
  | none => exact f
  | some i => exact fgt_set f i _
theorem hdF_q {l : List (Value × Option Nat × List Stmt)} {ρE ρ' : Ro} {n : Str} {fs : List (Str × D)} (h : HdF X N sc k ad names ρE M P out l hs) (hn : n ∈ names) (f : Fgt ρ' ρE) (cov : ∃ c ∈ hs, n ∈ c.1) (e : hdF hs (n, fs) = out) : hdQ X N sc k kx P l (.ref (ad n)) fs ρ' M := by
  induction h with
  | nil => obtain ⟨c, z, _⟩ := cov; cases z
  | @cons cv oi st l ns h hs e1 b r ih =>
    refine ⟨_, e1 n hn, fun y => ⟨ad n, rfl, fun a l' B' => ?_⟩, fun y => ih ?_ ?_⟩
    · have q := b (n, fs) (by rw [hdF_yes (of_decide_eq_true y)] at e; exact e) a l' B'
      exact q.fgt (fgt_setO f oi _)
    · obtain ⟨c, z, zz⟩ := cov
      rcases List.mem_cons.mp z with rfl | z
      · exact absurd zz (of_decide_eq_false y)
      · exact ⟨c, z, zz⟩
    · rw [hdF_no (of_decide_eq_false y)] at e; exact e
theorem ds1_tryC {body : List Stmt} {h0 : ExceptHandler} {hds : List ExceptHandler} {l : List (Value × Option Nat × List Stmt)} {Q0 : Ex α → Out → Mem → Prop} (ρE : Ro) (B : Bd X N sc k) (F : Bf X) (hh : HdD X N sc (h0 :: hds) l) (ht : tryF names m kf hs = out) (ne : out ≠ .bad)
    (ga : ∀ n ∈ names, X.mg n = some (.ref (ad n)))
    (hb : ∀ pn xe, Bd (X.tr pn xe) N sc k → Bf (X.tr pn xe) → ∀ o, m = o → o ≠ .bad → DS (X.tr pn xe) (fun cls fs ρ' M' => kxE X.mg o cls fs ρ' M' ∧ FgtL ρ' ρE ∧ M' = M) body ρ M (Q0 o))
    (h1 : ∀ o md, Q0 m o md → P o md) (hcl : HdF X N sc k ad names ρE M P out l hs) (cov : covB names (hs.map Prod.fst) = true) : DS1 X kx (.Try body (h0 :: hds) [] [] pos) ρ M P := by
  have nb : m ≠ .bad := fun z => ne (by rw [← ht, z]; rfl)
  refine ds1_tryH B F hh fun pn xe B' F' => ((hb pn xe B' F' m rfl nb).onX fun cls fs ρ' M' q => ?_).imp h1
  obtain ⟨⟨n, e1, e2⟩, e3, rfl⟩ := q
  have hn : n ∈ names := by
    by_cases hn : n ∈ names
    · exact hn
    · refine absurd ?_ ne
      rw [← ht, e1]
      show (if n ∈ names then hdF hs (n, fs) else .bad) = _
      rw [if_neg hn]
  rw [tryF_exc e1 hn] at ht
  have e4 := (ga n hn).symm.trans e2
  cases e4
  exact hdF_q hcl hn e3.fgt (covB_mem cov hn) ht
/-- try, what follows joined -/
theorem ds1_tryG {ι : Type} {body : List Stmt} {h0 : ExceptHandler} {hds : List ExceptHandler} {l : List (Value × Option Nat × List Stmt)} (R : ι → α → Ro) (Mf : ι → α → Mem) (ρE : Ro) (B : Bd X N sc k) (F : Bf X) (hh : HdD X N sc (h0 :: hds) l) (ht : tryF names m kf hs = out) (ne : out ≠ .bad)
    (ga : ∀ n ∈ names, X.mg n = some (.ref (ad n))) (cov : covB names (hs.map Prod.fst) = true)
    (hb : ∀ pn xe, Bd (X.tr pn xe) N sc k → Bf (X.tr pn xe) → ∀ o, m = o → o ≠ .bad → DS (X.tr pn xe) (fun cls fs ρ' M' => kxE X.mg o cls fs ρ' M' ∧ FgtL ρ' ρE ∧ M' = M) body ρ M (joinQ R Mf Ex.ok o P))
    (hcl : HdF X N sc k ad names ρE M (joinQ R Mf kf out P) out l hs)
    (hk : ∀ a z, kf z = out → P (.nx (R a z)) (Mf a z)) (hP : ∀ ρ1 ρ2 M1, Fgt ρ1 ρ2 → P (.nx ρ2) M1 → P (.nx ρ1) M1) : DS1 X kx (.Try body (h0 :: hds) [] [] pos) ρ M P := by
  have jn : ∀ {o : Out} {m' : Mem}, joinQ R Mf kf out P o m' → P o m' := fun {o m'} q => by
    cases o with
    | nx ρ1 =>
      obtain ⟨a, z, e1, e2, e3⟩ := q
      subst e3
      exact hP _ _ _ e2.fgt (hk a z e1)
    | bk ρ1 => exact q
    | ct ρ1 => exact q
    | rt d => exact q
  have r : DS1 X kx (.Try body (h0 :: hds) [] [] pos) ρ M (joinQ R Mf kf out P) := by
    refine ds1_tryC ρE B F hh ht ne ga (fun pn xe B' F' o e n => (hb pn xe B' F' o e n)) (fun o md q => ?_) hcl cov
    cases o with
    | nx ρ1 =>
      obtain ⟨a, z, e1, e2, e3⟩ := q
      exact ⟨a, z, by rw [← ht, ← e1]; rfl, e2, e3⟩
    | bk ρ1 => exact q
    | ct ρ1 => exact q
    | rt d => exact q
  exact fun σ H H0 t s W tk hx D c => r σ H H0 t s W tk hx D (c.imp fun o m q => jn q)
theorem goneS_nx {i : Nat} {Q : Out → Mem → Prop} (h : Q (.nx (ρ.set i none)) M) : goneO (some i) Q (.nx ρ) M := h
end
end
end Dl

/-! raising an exception of an own class that keeps a field: its __init__ calls the base's, stores the field -/
namespace Dl
open PySem PySem.Spec PyProof.Rows L2
section
variable {X : Cx} {o e : Expr} {es : List Expr} {to te : TE} {ta : TA} {f : Str} {p p' p1 p2 pos : Pos}
/-- B.__init__(self, ..), B an own class that has none of its own -/
theorem pe_cinit {pl : Sem Bool} {bx : Str} {CB : Addr} {mc : Value} (hg : Gl X bx) (hm : X.mg bx = some (.ref CB)) (r : ClX.CRead X.K CB mc) (vV : PySem.W.findCls X.K (.ref CB) mc "__init__" = some (.val (.builtin "ValueError.__init__"))) (ha : PA X (e :: es) ta) (hdb : (bx == ("__debug__" : Str)) = false := by decide)
    (hc : eval (.Call (.Attribute (.Name bx p1) "__init__" p2) (e :: es) [] pos) X.env = (do
      let ov ← eval (.Name bx p1) X.env
      standAt p2.atName
      let (f, first) ← holding [ov] (getMethod ov "__init__" pl)
      callWith pos f first (backTo pos (starEach (e :: es) X.env)) (backToKw pos (keywordEach [] X.env))) := by rfl)
    (he : starEach (e :: es) X.env = (false, eval e X.env) :: starEach es X.env := by rfl) (hpl : (backTo pos (starEach es X.env)).any (·.1) = false := by rfl) :
    PE X (.Call (.Attribute (.Name bx p1) "__init__" p2) (e :: es) [] pos) (tVeI X.K ta) := by
  refine ⟨fun pins s σ H Q I h => ?_⟩
  refine PySem.W.methodCall_KW (ld_glob I hg hm ?_ hdb) hc
  refine PySem.W.method_cls I.kIn r.ga (PySem.W.cls_value I.kIn r.rd vV (by decide +kernel) ?_)
  show wpAny _ _ (callWith pos (Value.builtin "ValueError.__init__") [] (backTo pos (starEach (e :: es) X.env)) []) _ _ _
  refine PyProof.Rows.callWith_method1 (thn (ha.run pos pins _ σ H _ (I.tok _) h) fun us s1 ⟨vs, H1, I1, r1, a, C, ws, ev, hl, T, ea, q⟩ => ?_) he hpl
  subst ev
  cases r1 with
  | @cons _ u0 _ ur ra rw' =>
    obtain rfl : u0 = Value.ref a := ra
    have hlen : ur.length ≤ sizeLine := by
      rw [← Paired.length rw', sizeLine_eq]
      omega
    exact oinit_ok T I1 ea hlen fun s' J => ⟨.non, H1, J, rfl, q⟩
end
/-- what such an __init__ does -/
def spX (K : Frag) (C : Addr) (fl : Str) : Sp := fun xs H Q E => ∃ (a : Addr) (v : V), xs = [.ref a, v] ∧ OexC K C ∧ PySem.W.findIn K (.ref C) fl = some none ∧ H a = some (exo a C none) ∧
  ∀ dx, H dx = none → dx ≠ a → Q .non (upd (upd H dx (exd dx [(fl, v)])) a (exo a C (some dx)))
/-- an own class of exceptions with one field -/
structure XFT (K : Frag) (mg : Str → Option Value) (x : Str) (C : Addr) (fl : Str) (st : Stmt) (CB : Addr) : Prop where
  gC : mg x = some (.ref C)
  oex : OexC K C
  fno : PySem.W.findIn K (.ref C) fl = some none
  gB : mg "BookError" = some (.ref CB)
  rB : ClX.CRead K CB (.type "type")
  vB : PySem.W.findCls K (.ref CB) (.type "type") "__init__" = some (.val (.builtin "ValueError.__init__"))
  ini : ∃ f fd, FunD K "__init__" (x ++ ".__init__") (defArgs st) (defBody st) (defScope st) [] [] f fd ∧ Binds K fd ["self", fl] [] ∧ PySem.W.findIn K (.ref C) "__init__" = some (some (.ref f)) ∧ PySem.W.typeIn K (.ref f) = some (.type "function")
section
variable {P : Program} {w : World} {K : Frag} {mg : Str → Option Value} {base : Heap}
theorem fn_xinit {x qual : Str} {st : Stmt} {f C CB : Addr} {fd : FuncData} {fl t : Str} {k j : Nat} {p1 p2 p3 p4 p5 p6 p7 p8 p9 p10 : Pos} (F : FunD K x qual (defArgs st) (defBody st) (defScope st) [] [] f fd) (S : FnScope ["self", fl] ["self", fl] (defScope st))
    (hb : defBody st = [.Expr (.Call (.Attribute (.Name "BookError" p1) "__init__" p2) [.Name "self" p3, .Constant (.str t) j p4] [] p5) p6, .Assign [.Attribute (.Name "self" p7) fl p8] (.Name fl p9) p10])
    (gB : mg "BookError" = some (.ref CB)) (rB : ClX.CRead K CB (.type "type")) (vB : PySem.W.findCls K (.ref CB) (.type "type") "__init__" = some (.val (.builtin "ValueError.__init__")))
    (hl : (defScope st).names.lookup ("BookError" : Str) = some .globalImplicit) (v0 : (defScope st).names.lookup ("self" : Str) = some .local) (v1 : (defScope st).names.lookup fl = some .local) (d1 : (fl == ("__debug__" : Str)) = false) (d2 : (fl == ("__classdict__" : Str)) = false)
    (hc : ∀ env : Env, ∃ pl, eval (.Call (.Attribute (.Name "BookError" p1) "__init__" p2) [.Name "self" p3, .Constant (.str t) j p4] [] p5) env = (do
      let ov ← eval (.Name "BookError" p1) env
      standAt p2.atName
      let (f, first) ← holding [ov] (getMethod ov "__init__" pl)
      callWith p5 f first (backTo p5 (starEach [.Name "self" p3, .Constant (.str t) j p4] env)) (backToKw p5 (keywordEach [] env)))) :
    FnOk P w K mg base (L2.CX P w) (k + 1) f fd ["self", fl] (spX K C fl) := by
  refine F.ok S (fun vs H Q E h => ?_) (fun cdv A outer s H vs Q E hr hsp => ?_)
  · obtain ⟨a, v, rfl, _⟩ := h
    rfl
  · obtain ⟨a, v, rfl, T, hno, ea, hq⟩ := hsp
    obtain ⟨B, Fz⟩ := bd_of (P := P) (w := w) (K := K) (mg := mg) (base := base) (outer := outer) (H := H) (E := E) S hr
    rw [hb]
    obtain ⟨pl, hc⟩ := hc (cxOf (L2.CX P w) P w K mg base ["self", fl] qual (defScope st) f cdv A outer s H E).env
    have nSelf := B.nm (i := 0) (x := "self") rfl (.inl v0)
    have nF := B.nm (i := 1) (x := fl) rfl (.inl v1) d1 d2
    refine ⟨_, pss_cons (ps_expr (pe_cinit (pl := pl) (B.gl hl) gB rB vB (pa_cons (pe_var nSelf.get nSelf.vis nSelf.d1 nSelf.d2) (pa_cons pe_str pa_nil)) (by decide) hc) (by rfl)) (pss_cons (ps_ost (pe_var nSelf.get nSelf.vis nSelf.d1 nSelf.d2) (pe_var nF.get nF.vis nF.d1 nF.d2)) pss_nil), ?_⟩
    refine ⟨.ref a, rfl, ?_⟩
    refine ⟨a, C, [.str t], rfl, (by show (1 : Nat) ≤ 1000; decide), T, ea, ?_⟩
    refine ⟨v, rfl, .ref a, rfl, a, C, rfl, T, hno, .inl ⟨ea, fun dx h1 h2 => hq dx h1 h2⟩⟩
end
section
variable {X : Cx} {kx : XD} {ρ : Ro} {M : Mem} {P : Out → Mem → Prop} {pos p pos2 : Pos} {e : Expr} {d : D}
theorem ds1_raiseF {x fl : Str} {C : Addr} {f : Addr} {fd : FuncData} {k : Nat} (hc : X.calm = true) (oex : OexC X.K C) (gC : X.mg x = some (.ref C)) (hg : Gl X x) (fno : PySem.W.findIn X.K (.ref C) fl = some none) (iC : PySem.W.findIn X.K (.ref C) "__init__" = some (some (.ref f))) (tI : PySem.W.typeIn X.K (.ref f) = some (.type "function"))
    (F1 : FnOk X.prog X.w X.K X.mg X.base (L2.CX X.prog X.w) k f fd ["self", fl] (spX X.K C fl)) (hr : Room (k + 1) X.A) (hb : Binds X.K fd ["self", fl] []) (hv : DV X kx e ρ M d) (hk : ∀ cls, X.mg x = some cls → kx cls [(fl, d)] ρ M) (hdb : (x == ("__debug__" : Str)) = false := by decide)
    (he : starEach [e] X.env = (false, eval e X.env) :: starEach [] X.env := by rfl) (hpl : (backTo pos (starEach [] X.env)).any (·.1) = false := by rfl) :
    DS1 X kx (.Raise (some (.Call (.Name x p) [e] [] pos)) none pos2) ρ M P := fun σ H H0 t s W tk hx D c =>
  sS.by (ps_raise hc tk (pmk_oex oex iC tI F1 hr hb .nil (fun _ _ _ _ _ _ _ ⟨_, _, _, _, _, _, _, _, _, _, _, _, z⟩ => z.elim) hg gC (pa_s _) hdb he hpl)) (da_cons hv da_nil he σ H H0 t s W tk hx _ fun vs H1 H01 p1 r1 => by
    obtain ⟨v, rfl, r2⟩ := repA1 r1
    · refine ⟨(by show (1 : Nat) ≤ 1000; decide), fun a na => ⟨a, _, rfl, oex, fno, upd_same, fun dx h1 h2 => ?_⟩⟩
      have hd : H1 dx = none := by rw [upd_ne h2] at h1; exact h1
      refine ⟨rfl, dx, _, upd_same, by rw [upd_ne h2, upd_same], hd, ?_⟩
      have eH : upd (del (upd (upd (upd H1 a (exo a C none)) dx (exd dx [(fl, v)])) a (exo a C (some dx))) a) dx (.xd [(fl, v)]) = upd H1 dx (.xd [(fl, v)]) := by
        funext b
        by_cases hb : b = dx
        · rw [hb, upd_same, upd_same]
        · rw [upd_ne hb, upd_ne hb]
          by_cases hba : b = a
          · rw [hba, del_same, na]
          · rw [del_ne hba, upd_ne hba, upd_ne hb, upd_ne hba]
      rw [eH]
      have pn := Pu.new1 (t.pu p1).ex hd (.xd [(fl, v)])
      have pz := p1.trans pn
      exact hx (.ref C) (some dx) σ _ _ [(fl, d)] ρ M pz.go (t.pu pz) (s.mo pz.e0) (.inr ⟨by simp, dx, [(fl, v)], [v], rfl, upd_same, rfl, rfl, .cons (r2.mo pn.e0) .nil⟩) (hk _ gC))
end
/-! ### what the top has written -/
/-- an own class of exceptions that has its own __init__ -/
structure ExF (K : Frag) (mg : Str → Option Value) (x : Str) (C : Addr) : Prop extends ExcC K C where
  gC : mg x = some (.ref C)
/-- an exception's own __init__, as K holds it -/
def XIni (K : Frag) (C : Addr) (x : String) (fl : Str) (st : Stmt) : Prop := ∃ f fd, FunD K "__init__" (x ++ ".__init__") (defArgs st) (defBody st) (defScope st) [] [] f fd ∧ Binds K fd ["self", fl] [] ∧ PySem.W.findIn K (.ref C) "__init__" = some (some (.ref f)) ∧ PySem.W.typeIn K (.ref f) = some (.type "function")
theorem XIni.mk {K : Frag} {C f : Addr} {x : String} {fl : Str} {st : Stmt} {od an : Option Addr} {sl : Array (Option Value)} {oc kV dc pm cd ct : Value} (a : PySem.W.findIn K (.ref C) "__init__" = some (some (.ref f))) (i : PySem.W.typeIn K (.ref f) = some (.type "function"))
    (l : K.lookup f = some ⟨oc, od, .func (PySem.W.fnOf "__init__" (x ++ ".__init__") (defArgs st) (defBody st) (defScope st) .none kV dc pm an cd ct), sl⟩) (c : PySem.W.codeIn K cd (x ++ ".__init__") = true) (k : PySem.W.keepIn K (.ref f) = true)
    (b : ∀ (kV doc pm : Value) (an : Option Addr) (cdv ct : Value) (us : List Value), us.length = 2 → bindArgs (PySem.W.fnOf "__init__" (x ++ ".__init__") (defArgs st) (defBody st) (defScope st) .none kV doc pm an cdv ct) ⟨us, []⟩ = pure ((["self", fl] : List Str).zip us)) : XIni K C x fl st := by
  have F : FunD K "__init__" (x ++ ".__init__") (defArgs st) (defBody st) (defScope st) [] [] f (PySem.W.fnOf "__init__" (x ++ ".__init__") (defArgs st) (defBody st) (defScope st) .none kV dc pm an cd ct) := ⟨⟨oc, od, .none, kV, dc, pm, an, cd, ct, sl, rfl, l, c, .inl ⟨rfl, rfl⟩, .inl rfl⟩, k⟩
  exact ⟨f, _, F, F.bindsN b, a, i⟩
section
variable {X : Cx} {kx : XD} {ρ : Ro} {M : Mem} {P : Out → Mem → Prop} {pos p pos2 : Pos} {e : Expr} {d : D}
/-- raise x(e), x an own class with a field -/
theorem ds1_raiseX {x : String} {fl t : Str} {C CB : Addr} {st : Stmt} {j : Nat} {p1 p2 p3 p4 p5 p6 p7 p8 p9 p10 : Pos} (hc : X.calm = true) (hr : Room 2 X.A) (oex : OexC X.K C) (gC : X.mg (Str.ofString x) = some (.ref C)) (hg : Gl X (Str.ofString x)) (fno : PySem.W.findIn X.K (.ref C) fl = some none) (I : XIni X.K C x fl st)
    (S : FnScope ["self", fl] ["self", fl] (defScope st)) (hb : defBody st = [.Expr (.Call (.Attribute (.Name "BookError" p1) "__init__" p2) [.Name "self" p3, .Constant (.str t) j p4] [] p5) p6, .Assign [.Attribute (.Name "self" p7) fl p8] (.Name fl p9) p10])
    (gB : X.mg "BookError" = some (.ref CB)) (rB : PySem.W.readsIn X.K CB (.type "type") = true) (rG : PySem.W.specialIn X.K (.ref CB) "__getattribute__" = some (some (.builtin "type.__getattribute__"))) (vB : PySem.W.findCls X.K (.ref CB) (.type "type") "__init__" = some (.val (.builtin "ValueError.__init__")))
    (hl : (defScope st).names.lookup ("BookError" : Str) = some .globalImplicit) (v0 : (defScope st).names.lookup ("self" : Str) = some .local) (v1 : (defScope st).names.lookup fl = some .local) (d1 : (fl == ("__debug__" : Str)) = false) (d2 : (fl == ("__classdict__" : Str)) = false)
    (hcc : ∀ env : Env, ∃ pl, eval (.Call (.Attribute (.Name "BookError" p1) "__init__" p2) [.Name "self" p3, .Constant (.str t) j p4] [] p5) env = (do
      let ov ← eval (.Name "BookError" p1) env
      standAt p2.atName
      let (f, first) ← holding [ov] (getMethod ov "__init__" pl)
      callWith p5 f first (backTo p5 (starEach [.Name "self" p3, .Constant (.str t) j p4] env)) (backToKw p5 (keywordEach [] env))))
    (hv : DV X kx e ρ M d) (hk : ∀ cls, X.mg (Str.ofString x) = some cls → kx cls [(fl, d)] ρ M) (hdb : (Str.ofString x == ("__debug__" : Str)) = false := by decide)
    (he : starEach [e] X.env = (false, eval e X.env) :: starEach [] X.env := by rfl) (hpl : (backTo pos (starEach [] X.env)).any (·.1) = false := by rfl) :
    DS1 X kx (.Raise (some (.Call (.Name (Str.ofString x) p) [e] [] pos)) none pos2) ρ M P := by
  obtain ⟨f, fd, F, Bi, iC, tI⟩ := I
  exact ds1_raiseF hc oex gC hg fno iC tI (fn_xinit (k := 0) F S hb gB ⟨rB, rG⟩ vB hl v0 v1 d1 d2 hcc) hr Bi hv hk hdb he hpl
end
end Dl

/-! slices of tuples; lists of owned things -/
namespace Dl
open PySem PySem.Spec PyProof.Rows L2
section
variable {X : Cx} {kx kx' : XD} {ρ ρ' ρ'' : Ro} {M M' : Mem} {P : Out → Mem → Prop} {pos p np pos' tpos spos : Pos} {a e c : Expr} {C : Addr} {N : List Str} {sc : Scope} {k i : Nat} {x : D} {ns : List Str} {ds : List D}
end
/-! ### == of things with texts within -/
/-- an encoding: clean, of small depth, one to one -/
structure EnS {α : Type} (n : Nat) (f : α → D) : Prop where
  flat : ∀ x, (f x).flat = true
  depth : ∀ x, (f x).py.depth ≤ n
  eqv : ∀ x y, PyData.eqv (f x).py (f y).py = true ↔ x = y
structure EnSL {α : Type} (n : Nat) (F : α → List D) : Prop where
  flat : ∀ x, D.flatA (F x) = true
  depth : ∀ x, PyData.depthAll (D.pyA (F x)) ≤ n
  eqv : ∀ x y, PyData.eqvAll (D.pyA (F x)) (D.pyA (F y)) = true ↔ x = y
/-- the texts within are texts -/
def layD (d : D) : Prop := PyData.canLay0 d.py = true
section
variable {α β : Type} {n m : Nat} {f : α → D} {F : α → List D} {G : β → List D}
theorem EnS.mono (h : EnS n f) (l : n ≤ m) : EnS m f := ⟨h.flat, fun x => Nat.le_trans (h.depth x) l, h.eqv⟩
theorem En.s (h : En n f) : EnS n f := ⟨h.flat, h.depth, h.eqv⟩
theorem EnS.eqs [DecidableEq α] (h : EnS n f) (x y : α) (lx : layD (f x)) (ly : layD (f y)) (hn : n ≤ 64 := by decide) : Eqs (f x) (f y) (decide (x = y)) := by
  refine ⟨h.flat x, h.flat y, ?_, ?_, ?_⟩
  · have := h.depth x
    unfold SeqAt.shaped; rw [lx, Bool.true_and, decide_eq_true_eq]; omega
  · have := h.depth y
    unfold SeqAt.shaped; rw [ly, Bool.true_and, decide_eq_true_eq]; omega
  · refine Bool.eq_iff_iff.mpr ?_
    rw [decide_eq_true_iff]; exact h.eqv x y
theorem enS_str : EnS 0 D.str := ⟨fun x => by simp [D.flat], fun x => by simp [D.py, PyData.depth], fun x y => by simp [D.py, PyData.eqv]⟩
theorem enSL_one (h : EnS n f) : EnSL n fun x => [f x] := ⟨fun x => by simp [D.flatA, h.flat], fun x => by simp [D.pyA, PyData.depthAll, h.depth], fun x y => by simp [D.pyA, PyData.eqvAll, h.eqv]⟩
theorem enSL_cons (h : EnS n f) (k : EnSL n G) : EnSL n fun p : α × β => f p.1 :: G p.2 :=
  ⟨fun x => by simp [D.flatA, h.flat, k.flat], fun x => by
    have := h.depth x.1
    have := k.depth x.2
    simp only [D.pyA, PyData.depthAll]; omega, fun x y => by simp [D.pyA, PyData.eqvAll, h.eqv, k.eqv, Prod.ext_iff]⟩
theorem enS_tup (h : EnSL n F) : EnS (n + 1) fun x => D.tup (F x) :=
  ⟨fun x => by simp [D.flat, h.flat], fun x => by
    have := h.depth x
    simp only [D.py, PyData.depth]; omega, fun x y => by simp [D.py, PyData.eqv, h.eqv]⟩
end
end Dl

/-! lists of things that change: one of them taken out to be changed; comprehensions that change, or make, things -/
namespace Dl
open PySem PySem.Spec PyProof.Rows L2
/-! ### one of a list -/
def updI {α : Type} (xs : List α) (i : Int) (v : α) : List α := match ixN xs.length i with
  | some j => xs.set j v
  | none => xs
section
variable {α β : Type} {E : β → Ow → Prop}
theorem ixE_ixN {xs : List α} {i : Int} {x : α} (h : ixE xs i = .ok x) : ∃ j, ixN xs.length i = some j ∧ xs[j]? = some x := by
  unfold ixE at h
  unfold ixN
  by_cases c : 0 ≤ i
  · rw [if_pos c] at h
    have e := some_out h
    have l := (List.getElem?_eq_some_iff.mp e).1
    exact ⟨i.toNat, by rw [if_pos c, if_pos (by omega)], e⟩
  · rw [if_neg c] at h
    by_cases c2 : 0 ≤ i + xs.length
    · rw [if_pos c2] at h
      have e := some_out h
      refine ⟨(i + xs.length).toNat, ?_, e⟩
      rw [if_neg c, if_pos (by omega)]
    · rw [if_neg c2] at h; cases h
/-- several, each owned -/
inductive OwA (E : β → Ow → Prop) : List β → List D → Mem → Prop
  | nil : OwA E [] [] []
  | cons {r : β} {rs : List β} {d : D} {ds : List D} {m1 m2 : Mem} : OwR E r d m1 → OwA E rs ds m2 → OwA E (r :: rs) (d :: ds) (m1 ++ m2)
theorem OwA.all {rs : List β} {ds : List D} {m : Mem} (h : OwA E rs ds m) : ∃ os, All2 E rs os ∧ ds = Ow.rootA os ∧ m = Ow.memA os := by
  induction h with
  | nil => exact ⟨[], .nil, by simp [Ow.rootA], by simp [Ow.memA]⟩
  | cons h _ ih =>
    obtain ⟨o, h1, rfl, rfl⟩ := h
    obtain ⟨os, h2, rfl, rfl⟩ := ih
    exact ⟨o :: os, .cons h1 h2, by simp [Ow.rootA], by simp [Ow.memA]⟩
theorem All2.mem {rs : List β} {os : List Ow} (h : All2 E rs os) {o : Ow} (ho : o ∈ os) : ∃ r, E r o := by
  induction h with
  | nil => cases ho
  | cons a _ ih =>
    rcases List.mem_cons.mp ho with rfl | ho
    · exact ⟨_, a⟩
    · exact ih ho
end
/-! ### comprehensions that change things, or make them -/
section
variable {X : Cx} {kx kx' : XD} {ρ ρ' ρ'' : Ro} {M M' : Mem} {P : Out → Mem → Prop} {pos p np pos' tpos spos : Pos} {tg a e c elt : Expr} {N : List Str} {sc csc : Scope} {k i : Nat} {ds : List D} {own : List (Str × Nat)}
/-- [elt for tg in e], J what stands as the walk goes on -/
def LcX (X : Cx) (N : List Str) (sc csc : Scope) (k : Nat) (own : List (Str × Nat)) (tg elt : Expr) (ρ : Ro) (ds : List D) (J : Nat → List D → Mem → Prop) : Prop :=
  ∀ i d acc m, ds[i]? = some d → J i acc m → ∃ ts ρ2, (∀ i ∈ ts, i ∈ own.map (·.2)) ∧ ∀ s H C cl fp w, Bd (Cx.bk X csc s H C cl fp) N (relS csc sc) k → DG (Cx.bk X csc s H C cl fp) tg ts d (wipeD ρ (own.map (·.2))) ρ2 ∧
    DE (Cx.bk X csc s H C cl fp) kx0 elt ρ2 ((w, .lst acc) :: m) fun d' m' => ∃ m2, m' = (w, .lst acc) :: m2 ∧ J (i + 1) (acc ++ [d']) m2
end
end Dl
namespace Dl
open PySem PySem.Spec PyProof.Rows L2
section
variable {X : Cx} {kx kx' : XD} {ρ ρ' ρ'' : Ro} {M M' : Mem} {P : Out → Mem → Prop} {pos p np pos' tpos spos apos : Pos} {tg a b e c o ix elt : Expr} {es : List Expr} {N : List Str} {sc csc : Scope} {k i n : Nat} {ds : List D} {own : List (Str × Nat)} {w : Addr} {x y : D}
/-! ### several things, each of which may change something -/
def DAE (X : Cx) (kx : XD) (es : List Expr) (ρ : Ro) (M : Mem) (k : List D → Mem → Prop) : Prop :=
  ∀ (σ : L2.St) (H H0 : Hp), Ht X.K H0 H M → Sl X.K H0 σ ρ → ∀ (W : WX), Takes X W → Hx X W H0 H M kx → ∀ (Q : List V → Hp → Prop), (∀ vs H' H0' ds M', Go H0 H M H0' H' M' → Ht X.K H0' H' M' → RepA X.K H0' vs ds → k ds M' → Q vs H') → sA X es σ H Q
/-! ### tests that change something -/
def DTE (X : Cx) (kx : XD) (e : Expr) (ρ : Ro) (M : Mem) (k : Bool → Mem → Prop) : Prop :=
  ∀ (σ : L2.St) (H H0 : Hp), Ht X.K H0 H M → Sl X.K H0 σ ρ → ∀ (W : WX), Takes X W → Hx X W H0 H M kx → ∀ (Q : Bool → Hp → Prop), (∀ H' H0' b M', Go H0 H M H0' H' M' → Ht X.K H0' H' M' → k b M' → Q b H') → sT X e σ H Q
end
end Dl
namespace Dl
open PySem PySem.Spec PyProof.Rows L2
section
variable {X : Cx} {kx kx' : XD} {ρ ρ' ρ'' : Ro} {M M' : Mem} {P : Out → Mem → Prop} {pos p np pos' tpos spos apos : Pos} {tg a b e c o ix elt : Expr} {es : List Expr} {N : List Str} {sc csc : Scope} {k i n : Nat} {ds : List D} {own : List (Str × Nat)} {w : Addr} {x y : D} {α β : Type} {E : β → Ow → Prop}
/-- [elt for tg in e], each elt a new thing -/
def LcN (X : Cx) (N : List Str) (sc csc : Scope) (k : Nat) (own : List (Str × Nat)) (tg elt : Expr) (ρ : Ro) (xs : List α) (enc : α → D) (fm : α → Ex β) (E : β → Ow → Prop) : Prop :=
  ∀ x, x ∈ xs → ∃ ts ρ2, (∀ i ∈ ts, i ∈ own.map (·.2)) ∧ ∀ s H C cl fp M1, Bd (Cx.bk X csc s H C cl fp) N (relS csc sc) k → DG (Cx.bk X csc s H C cl fp) tg ts (enc x) (wipeD ρ (own.map (·.2))) ρ2 ∧ ∀ v, fm x = .ok v → DN (Cx.bk X csc s H C cl fp) kx0 elt ρ2 M1 (OwR E v)
end
end Dl
namespace Dl
open PySem PySem.Spec PyProof.Rows L2
section
variable {α : Type} {xs : List α}
def unp2E (xs : List α) : Ex (α × α) := match xs with
  | [a, b] => .ok (a, b)
  | _ => .bad
def unp3E (xs : List α) : Ex (α × α × α) := match xs with
  | [a, b, c] => .ok (a, b, c)
  | _ => .bad
def unp4E (xs : List α) : Ex (α × α × α × α) := match xs with
  | [a, b, c, d] => .ok (a, b, c, d)
  | _ => .bad
variable {X : Cx} {kx : XD} {ρ : Ro} {M : Mem} {e : Expr} {enc : α → D}
end
end Dl
namespace Dl
open PySem PySem.Spec PyProof.Rows L2
section
variable {α β : Type} {E : β → Ow → Prop}
end
end Dl

/-! tests that change something; lists of new things written out -/
namespace Dl
open PySem PySem.Spec PyProof.Rows L2
section
variable {X : Cx} {kx kx' : XD} {ρ ρ' ρ'' : Ro} {M M' M2 : Mem} {P : Out → Mem → Prop} {pos p np pos' tpos spos apos : Pos} {tg a b c e o ix elt : Expr} {es : List Expr} {N : List Str} {sc csc : Scope} {k i n : Nat} {ds : List D} {own : List (Str × Nat)} {w : Addr} {x y : D} {α β : Type} {E : β → Ow → Prop} {A B : Mem → Prop}
/-- a test that may change something, and what follows either way -/
def DTT (X : Cx) (kx : XD) (e : Expr) (ρ : Ro) (M : Mem) (A B : Mem → Prop) : Prop := DTE X kx e ρ M fun b m => (b = true → A m) ∧ (b = false → B m)
def DWT (X : Cx) (kx : XD) (e : Expr) (ρ : Ro) (M : Mem) (A B : Mem → Prop) : Prop :=
  ∀ (σ : L2.St) (H H0 : Hp), Ht X.K H0 H M → Sl X.K H0 σ ρ → ∀ (W : WX), Takes X W → Hx X W H0 H M kx → ∀ (Q : Bool → Hp → Prop), (∀ H' H0' b M', Go H0 H M H0' H' M' → Ht X.K H0' H' M' → (b = true → A M') ∧ (b = false → B M') → Q b H') → sW X e σ H Q
theorem DWT.t (h : DWT X kx e ρ M A B) : DTT X kx e ρ M A B := fun σ H H0 t s W tk hx Q q => sT.by (pw_s e).pt (h σ H H0 t s W tk hx Q q)
theorem DTT.perm (p : M.Perm M2) (h : DTT X kx e ρ M2 A B) : DTT X kx e ρ M A B := fun σ H H0 t s W tk hx Q q =>
  h σ H H0 (t.perm p) s W tk (hx.perm p fun _ _ _ m hk => ⟨m, .refl _, hk⟩) Q fun H' H0' b m g t' hb => q H' H0' b m (g.permL p.symm) t' hb
theorem DWT.perm (p : M.Perm M2) (h : DWT X kx e ρ M2 A B) : DWT X kx e ρ M A B := fun σ H H0 t s W tk hx Q q =>
  h σ H H0 (t.perm p) s W tk (hx.perm p fun _ _ _ m hk => ⟨m, .refl _, hk⟩) Q fun H' H0' b m g t' hb => q H' H0' b m (g.permL p.symm) t' hb
/-! ### lists written out -/
theorem DAE.perm {kk : List D → Mem → Prop} (p : M.Perm M2) (h : DAE X kx es ρ M2 kk) : DAE X kx es ρ M kk := fun σ H H0 t s W tk hx Q q =>
  h σ H H0 (t.perm p) s W tk (hx.perm p fun _ _ _ m hk => ⟨m, .refl _, hk⟩) Q fun vs H' H0' ds m g t' r hk => q vs H' H0' ds m (g.permL p.symm) t' r hk
/-! ### comprehensions that change one thing at each turn -/
end
section
variable {X : Cx} {σ : L2.St} {H : Hp} {L : List Addr}
end
section
variable {X : Cx} {kx kx' : XD} {ρ ρ' ρ'' : Ro} {M M' M2 R m : Mem} {P : Out → Mem → Prop} {pos p np pos' tpos spos apos : Pos} {tg a b c e o ix elt : Expr} {es : List Expr} {N : List Str} {sc csc : Scope} {k i n : Nat} {ds : List D} {own : List (Str × Nat)} {w : Addr} {x y d dd : D} {α β : Type} {E : β → Ow → Prop} {enc0 : β → D} {r : β} {S : Shp} {sl : List (Nat × D × D)} {os : List Ow}
end
end Dl

/-! more rules -/
namespace Dl
open PySem PySem.Spec PyProof.Rows L2
section
variable {X : Cx} {kx kx' : XD} {ρ ρ' ρ'' : Ro} {M M' M2 R m : Mem} {P : Out → Mem → Prop} {pos p np pos' tpos spos apos : Pos} {tg a b c e o ix elt : Expr} {es : List Expr} {N : List Str} {sc csc : Scope} {k n : Nat} {ds : List D} {own : List (Str × Nat)} {w : Addr} {x y d dd : D} {α β : Type} {E : β → Ow → Prop}
/-! ### x in a list of numbers -/
/-- the context of a block, by what is known of it -/
abbrev bX {X : Cx} {N : List Str} {sc : Scope} {k : Nat} (_ : Bd X N sc k) : Cx := X
/-! ### tuples of things that change -/
/-- two lists in a tuple -/
def isTup2 (f : α → D) (g : β → D) (r : List α × List β) (o : Ow) : Prop := ∃ a b, o = .tup [.lst a (r.1.map fun x => .fr (f x)), .lst b (r.2.map fun x => .fr (g x))]
theorem Eqs.l {x x' y : D} {k : Bool} (h : Eqs x y k) (e : x'.py = x.py) (f : x'.flat = x.flat) : Eqs x' y k := ⟨f.trans h.fx, h.fy, by rw [e]; exact h.sx, h.sy, by rw [e]; exact h.eq⟩
theorem Eqs.r {x y y' : D} {k : Bool} (h : Eqs x y k) (e : y'.py = y.py) (f : y'.flat = y.flat) : Eqs x y' k := ⟨h.fx, f.trans h.fy, h.sx, by rw [e]; exact h.sy, by rw [e]; exact h.eq⟩
/-! ### zip of lists, locked ones too -/
inductive SeqC : D → List D → Prop
  | lst (ds : List D) : SeqC (.lst ds) ds
  | scr (ds : List D) : SeqC (.scr ds) ds
theorem SeqC.rep {K : Frag} {H0 : Hp} {v : V} (h : SeqC x ds) (r : Rep K H0 v x) : ∃ p vs, v = .ref p ∧ (∀ H, Same H0 H → SqL K H p vs) ∧ RepA K H0 vs ds := by
  cases h with
  | lst ds => cases r with | lst a b => exact ⟨_, _, rfl, fun H e => SqL.of (e _ _ a), b⟩
  | scr ds => cases r with | scr a b => exact ⟨_, _, rfl, fun H e => e.seq a, b⟩
end
end Dl

/-! an exception while things are lent; what is owned, or None; an owned thing moved into a list -/
namespace Dl
open PySem PySem.Spec PyProof.Rows L2
section
variable {X : Cx} {kx kx' : XD} {ρ ρ' ρ'' : Ro} {M M' M2 R m : Mem} {P : Out → Mem → Prop} {pos p np pos' tpos spos apos : Pos} {tg a b c e o ix elt : Expr} {es : List Expr} {N : List Str} {sc csc : Scope} {k n : Nat} {ds dvs : List D} {own : List (Str × Nat)} {w : Addr} {x y d dd : D} {α β : Type} {E : β → Ow → Prop} {enc0 : β → D} {r : β} {S : Shp} {sl : List (Nat × D × D)} {os : List Ow}
/-! ### owned, or None -/
def isOpt (E : β → Ow → Prop) (r : Option β) (o : Ow) : Prop := match r with
  | none => o = .fr .non
  | some x => E x o
end
end Dl

/-! objects without fields; what is None, a number or a pair -/
namespace Dl
open PySem PySem.Spec PyProof.Rows L2
section
variable {X : Cx} {kx kx' : XD} {ρ ρ' ρ'' : Ro} {M M' M2 R m : Mem} {P : Out → Mem → Prop} {pos p np pos' tpos spos apos : Pos} {tg a b c e o ix elt : Expr} {es : List Expr} {N : List Str} {sc csc : Scope} {k n : Nat} {ds : List D} {own : List (Str × Nat)} {w C : Addr} {x y d dd : D} {α β : Type} {E : β → Ow → Prop}
/-! ### C(), there being no __init__ -/
/-! ### isinstance(x, C), x an object without fields that change -/
structure InsT (K : Frag) (C : Addr) : Prop where
  cl : Cls K C
  ha : PySem.W.findIn K (.ref C) "__class__" = some (some (.builtin "object.__class__"))
  hn : PySem.W.specialIn K (.builtin "object.__class__") "__get__" = some (some (.builtin "getset_descriptor.__get__"))
  ht : PySem.W.takesIn K (.builtin "object.__class__") = some true
  hm : PySem.W.mroIn K C (.type "object") = some true
/-! ### a method that raises, of an object that stays as it is -/
/-! ### None, a number, or a pair of numbers -/
inductive Zv where
  | n
  | i (k : Int)
  | p (a b : Int)
  deriving DecidableEq
instance : Inhabited Zv := ⟨.n⟩
def dZ : Zv → D
  | .n => .non
  | .i k => .int k
  | .p a b => .tup [.int a, .int b]
def zSel {γ : Type} (z : Zv) (a b c : γ) : γ := match z with
  | .n => a
  | .i _ => b
  | .p _ _ => c
def zI : Zv → Ex Int
  | .i k => .ok k
  | _ => .bad
def zP : Zv → Ex (Int × Int)
  | .p a b => .ok (a, b)
  | _ => .bad
def zO : Option Int → Zv
  | none => .n
  | some k => .i k
def zOP : Option (Int × Int) → Zv
  | none => .n
  | some q => .p q.1 q.2
theorem dv_zI {z : Zv} {i : Int} (h : DV X kx e ρ M (dZ z)) (hz : zI z = .ok i) : DV X kx e ρ M (.int i) := by
  cases z with
  | i k => cases hz; exact h
  | n => cases hz
  | p a b => cases hz
theorem dv_zP {z : Zv} {q : Int × Int} (h : DV X kx e ρ M (dZ z)) (hz : zP z = .ok q) : DV X kx e ρ M (.tup [.int q.1, .int q.2]) := by
  cases z with
  | p a b => cases hz; exact h
  | n => cases hz
  | i k => cases hz
theorem dt_isNZ {z : Zv} {j p2} (h : DV X kx a ρ M (dZ z)) : DT X kx (.Compare a [.Is] [.Constant .none j p2] pos) ρ M (zSel z true false false) := by cases z <;> exact dt_isN h
theorem en_Z : En 1 dZ := ⟨fun z => by cases z <;> simp [dZ, D.flat, D.flatA], fun z => by cases z <;> simp [dZ, D.py, D.pyA, PyData.canLay0, PyData.canLayAll0], fun z => by cases z <;> simp [dZ, D.py, D.pyA, PyData.depth, PyData.depthAll], fun x y => by cases x <;> cases y <;> simp [dZ, D.py, D.pyA, PyData.eqv, PyData.eqvAll]⟩
end
/-! ### more of what is None, a number or a pair; extend; sorted of locked lists -/
section
variable {X : Cx} {kx kx' : XD} {ρ ρ' ρ'' : Ro} {M M' M2 R m : Mem} {P : Out → Mem → Prop} {pos p np pos' tpos spos apos cpos : Pos} {tg a b c e o ix elt : Expr} {es : List Expr} {ds zs : List D} {w C : Addr} {x y d dd : D} {α β : Type}
end
/-! ### lists of lists that change -/
section
variable {α : Type} {f : α → D} {rs : List α} {d : D} {m : Mem}
end
end Dl

/-! texts -/
namespace Dl
open PySem PySem.Spec PyProof.Rows L2
section
variable {X : Cx} {kx kx' : XD} {ρ ρ' ρ'' : Ro} {M M' M2 R m : Mem} {P : Out → Mem → Prop} {pos p np pos' tpos spos apos cpos : Pos} {tg a b c e o ix elt : Expr} {es : List Expr} {ds zs : List D} {w C : Addr} {x y d dd : D} {α β : Type} {s t : Str}
theorem dv_addS (ha : DV X kx a ρ M (.str s)) (hb : DV X kx b ρ M (.str t)) (hl : s.length + t.length ≤ 100000) : DV X kx (.BinOp a .Add b pos) ρ M (.str (s ++ t)) := dv_op op_add_str (fun v u H H0 t r1 r2 Q q => by cases r1; cases r2; exact ⟨_, _, rfl, rfl, sz_le hl, q _ H H0 (Pu.refl t.ex) (.str _)⟩) ha hb
theorem dv_slT' {lo hi : Option Expr} {p2} {i j : Option Int} (ha : DV X kx a ρ M (.str s)) (hz : s.length ≤ 100000) (hl : DO X kx lo ρ M i) (hh : DO X kx hi ρ M j) : DV X kx (.Subscript a (.Slice lo hi none p2) pos) ρ M (.str (cutS s i j)) := fun σ H H0 t s W tk hx Q q =>
  sE.by (pe_slice sl_str (pe_s a) (po_s lo) (po_s hi)) (ha σ H H0 t s W tk hx _ fun v H1 H01 p1 r1 => hl.run (t.pu p1) (s.mo p1.e0) tk (hx.pu p1) fun H2 H02 p2 => hh.run (t.pu (p1.trans p2)) (s.mo (p1.trans p2).e0) tk (hx.pu (p1.trans p2)) fun H3 H03 p3 => by
    have p123 := (p1.trans p2).trans p3
    cases r1
    exact ⟨_, rfl, sz_le hz, q _ _ _ p123 (.str _)⟩)
end
end Dl

/-! a list beside an empty one; more calls of types -/
namespace Dl
open PySem PySem.Spec PyProof.Rows L2
section
variable {X : Cx} {kx kx' : XD} {ρ ρ' ρ'' : Ro} {M M' M2 R m : Mem} {P : Out → Mem → Prop} {pos p np pos' tpos spos apos cpos : Pos} {tg a b c e o ix elt : Expr} {es : List Expr} {ds zs : List D} {w C : Addr} {x y d dd : D} {α β : Type}
def rEqNil (K : Frag) : R2 := fun x y H Q => ∃ a b xs, x = .ref a ∧ y = .ref b ∧ SqL K H a xs ∧ SqL K H b [] ∧ Q (.bl xs.isEmpty) H
def rNeNil (K : Frag) : R2 := fun x y H Q => ∃ a b xs, x = .ref a ∧ y = .ref b ∧ SqL K H a xs ∧ SqL K H b [] ∧ Q (.bl (!xs.isEmpty)) H
/-- int(b) -/
theorem dv_intB {f : Str} {z : Bool} (n : Bn X f (.type "int")) (ha : DV X kx e ρ M (.bl z)) (he : starEach [e] X.env = (false, eval e X.env) :: starEach [] X.env := by rfl) : DV X kx (.Call (.Name f p) [e] [] pos) ρ M (.int (if z then 1 else 0)) :=
  dv_callT n call_int1 (fun vs H H0 t r Q q => by
    obtain ⟨v, rfl, r1⟩ := repA1 r
    cases r1
    exact .inr ⟨z, rfl, q _ H H0 (Pu.refl t.ex) (.int _)⟩) (da_cons ha da_nil he) he
/-! ### dict(pairs) -/
def mergeA (xs : List (Int × Int)) : List (Int × Int) := xs.foldl (fun acc q => putA acc q.1 q.2) []
def kvI (q : Int × Int) : Key × D := (.inl q.1, .int q.2)
end
end Dl

/-! texts: signs, walks, join, split, order, lists of texts -/
namespace Dl
open PySem PySem.Spec PyProof.Rows L2
/-- a text of one sign; a text's signs -/
def sg (c : Nat) : Str := ⟨#[c]⟩
def sgs (s : Str) : List Str := s.cps.toList.map sg
def oneS (s : Str) : Prop := s.cps.size = 1
theorem oneS_sg (c : Nat) : oneS (sg c) := rfl
theorem oneS_out {s : Str} (h : oneS s) : s = sg (s.cps.getD 0 0) := by
  obtain ⟨a⟩ := s
  have h : a.size = 1 := h
  show Str.mk a = Str.mk #[a.getD 0 0]
  congr 1
  apply Array.ext
  · simpa using h
  · intro i h1 h2
    have : i = 0 := by omega
    subst this
    simp [h]
/-- one sign among a text's -/
def inSg (s z : Str) : Bool := decide (s.cps.getD 0 0 ∈ z.cps.toList)
theorem inSg_sg (c : Nat) (z : Str) : inSg (sg c) z = decide (c ∈ z.cps.toList) := rfl
section
variable {K : Frag} {H : Hp}
end
section
variable {X : Cx} {kx kx' : XD} {ρ ρ' ρ'' : Ro} {M M' M2 R m : Mem} {P : Out → Mem → Prop} {pos p np pos' tpos spos apos cpos : Pos} {tg a b c e o ix elt : Expr} {es : List Expr} {ds zs : List D} {w C : Addr} {x y d dd : D} {α β : Type} {s t : Str}
/-- text[i] -/
theorem dv_ixSg {i : Int} {c : Nat} (ha : DV X kx a ρ M (.str s)) (hb : DV X kx b ρ M (.int i)) (hl : s.length ≤ 100000) (h : ixE s.cps.toList i = .ok c) (hs : PlainIx b := by intro _ _; rfl) : DV X kx (.Subscript a b pos) ρ M (.str (sg c)) :=
  dv_ix ix_str (fun v u H H0 t r1 r2 Q q => by
    cases r1; cases r2
    refine ⟨s, i, c, rfl, rfl, sz_le hl, ?_, q _ H H0 (Pu.refl t.ex) (.str _)⟩
    obtain ⟨j, e1, e2⟩ := ixE_ixN h
    show (ixN s.cps.toList.length i).bind (fun j => s.cps.toList[j]?) = some c
    rw [e1]; exact e2) ha hb hs
/-- for sign in text -/
theorem wk_str {K : Frag} {H0 : Hp} : WkD K (Its s) H0 ((sgs s).map D.str) := by
  refine ⟨fun _ => True, fun i H v H' => H' = H ∧ ∃ c, s.cps[i]? = some c ∧ v = .str ⟨#[c]⟩, ?_, fun _ _ => trivial, ?_⟩
  · rw [show ((sgs s).map D.str).length = s.cps.size by simp [sgs]]
    exact walk_str
  · intro i H1 x H2 H01 d e1 e2 hd h
    obtain ⟨rfl, c, hc, rfl⟩ := h
    refine ⟨H01, Pu.refl e2, ?_⟩
    rw [List.getElem?_map, sgs, List.getElem?_map, Array.getElem?_toList, hc] at hd
    cases hd
    exact .str _
theorem di_str (h : DV X kx e ρ M (.str s)) : DI X kx tg e ρ M ((sgs s).map D.str) := fun σ H H0 t s' W tk hx R q =>
  sI.by (pi_str (pe_s e)) (h σ H H0 t s' W tk hx _ fun v H' H0' p r => by
    cases r
    exact ⟨s, rfl, q _ H' H0' p wk_str⟩)
/-- a sign in a text -/
theorem r2_inSg (h1 : oneS s) : R2D X.K (fun x y H Q => ∃ (c : Nat) (z : Str), x = .str ⟨#[c]⟩ ∧ y = .str z ∧ Q (.bl (decide (c ∈ z.cps.toList))) H) M (.str s) (.str t) (.bl (inSg s t)) := fun v u H H0 tt r1 r2 Q q => by
  cases r1; cases r2
  exact ⟨s.cps.getD 0 0, t, by rw [show (⟨#[s.cps.getD 0 0]⟩ : Str) = sg (s.cps.getD 0 0) from rfl, ← oneS_out h1], rfl, q _ H H0 (Pu.refl tt.ex) (.bl _)⟩
theorem r2_ninSg (h1 : oneS s) : R2D X.K (fun x y H Q => ∃ (c : Nat) (z : Str), x = .str ⟨#[c]⟩ ∧ y = .str z ∧ Q (.bl (!decide (c ∈ z.cps.toList))) H) M (.str s) (.str t) (.bl (!inSg s t)) := fun v u H H0 tt r1 r2 Q q => by
  cases r1; cases r2
  exact ⟨s.cps.getD 0 0, t, by rw [show (⟨#[s.cps.getD 0 0]⟩ : Str) = sg (s.cps.getD 0 0) from rfl, ← oneS_out h1], rfl, q _ H H0 (Pu.refl tt.ex) (.bl _)⟩
theorem dv_inSg (h1 : oneS s) (ha : DV X kx a ρ M (.str s)) (hb : DV X kx b ρ M (.str t)) (hm : behindInMarks .In b = false := by rfl) : DV X kx (.Compare a [.In] [b] pos) ρ M (.bl (inSg s t)) := dv_cmp op_in_sign (r2_inSg h1) ha hb hm
theorem dt_ninSg (h1 : oneS s) (ha : DV X kx a ρ M (.str s)) (hb : DV X kx b ρ M (.str t)) (hm : behindInMarks .NotIn b = false := by rfl) : DT X kx (.Compare a [.NotIn] [b] pos) ρ M (!inSg s t) := dt_cmp op_notIn_sign (r2_ninSg h1) ha hb hm
/-! a text in a tuple of texts -/
/-! order -/
def ltS (s t : Str) : Bool := decide (s.cps.toList < t.cps.toList)
def sortS (xs : List Str) : List Str := xs.mergeSort fun a b => !ltS b a
/-! methods of texts -/
theorem dv_startswith (ho : DV X kx o ρ M (.str s)) (he : DV X kx e ρ M (.str t)) (hs : starEach [e] X.env = [(false, eval e X.env)] := by rfl) (hbase : attributeBase o "startswith" X.env (eval o X.env) = eval o X.env := by rfl) (hline : (apos.endLine == pos.line) = true := by rfl) :
    DV X kx (.Call (.Attribute o "startswith" apos) [e] [] pos) ρ M (.bl (Txt.startswith s t)) := fun σ H H0 tt s' W tk hx Q q =>
  sE.by (pe_m1 F.slot_str_startswith F.type_str_startswith mt_startswith (pe_s o) (pe_s e) hs hbase hline) (ho σ H H0 tt s' W tk hx _ fun v H1 H01 p1 r1 => by
    cases r1
    exact ⟨⟨_, rfl⟩, he σ H1 H01 (tt.pu p1) (s'.mo p1.e0) W tk (hx.pu p1) _ fun u H2 H02 p2 r2 => by
      cases r2
      exact ⟨s, t, rfl, rfl, q _ _ _ (p1.trans p2) (.bl _)⟩⟩)
/-! str(i), int(text), text constants of the module -/
theorem dv_gstr {x : Str} {i : Str} {u : Value} (hg : Gl X x) (hm : X.mg x = some u) (r : RelV (.str i) u) (hd : (x == ("__debug__" : Str)) = false := by decide) : DV X kx (.Name x pos) ρ M (.str i) := fun σ H H0 t s W tk hx Q q =>
  sE.by (pe_glob hg hm r hd) (q _ H H0 (Pu.refl t.ex) (.str i))
/-! a dict that stands for good: its keys sorted, its values walked -/
end
end Dl

/-! things of any kind -/
namespace Dl
open PySem PySem.Spec PyProof.Rows L2
abbrev dD (d : D) : D := d
def asS : D → Option Str
  | .str s => some s
  | _ => none
def asI : D → Option Int
  | .int s => some s
  | _ => none
def asB : D → Option Bool
  | .bl s => some s
  | _ => none
/-- all of them texts -/
def asSs : List D → Option (List Str)
  | [] => some []
  | d :: ds => match asS d, asSs ds with
    | some s, some ss => some (s :: ss)
    | _, _ => none
def flatD (d : D) : Prop := d.flat = true ∧ SeqAt.shaped d.py = true
def eqvD (x y : D) : Bool := PyData.eqv x.py y.py
theorem eqs_D {x y : D} (hx : flatD x) (hy : flatD y) : Eqs x y (eqvD x y) := ⟨hx.1, hy.1, hx.2, hy.2, rfl⟩
/-- by kind: None, truth, int, text, list, tuple -/
def dSel (d : D) (n b i s l t : Bool) : Bool := match d with
  | .non => n
  | .bl _ => b
  | .int _ => i
  | .str _ => s
  | .lst _ => l
  | .scr _ => l
  | .tup _ => t
  | _ => false
section
variable {X : Cx} {kx kx' : XD} {ρ ρ' ρ'' : Ro} {M M' M2 R m : Mem} {P : Out → Mem → Prop} {pos p np pos' tpos spos apos cpos : Pos} {tg a b c e o ix elt : Expr} {es : List Expr} {ds zs : List D} {w C : Addr} {x y d dd : D} {α β : Type} {s t : Str}
theorem asS_ok {v : Str} (h : someE (asS d) = .ok v) : d = .str v := by
  cases d <;> first | (cases h; rfl) | (exact absurd h (by simp [asS, someE]))
theorem dv_asS {v : Str} (h : DV X kx e ρ M d) (hs : someE (asS d) = .ok v) : DV X kx e ρ M (.str v) := h.is (asS_ok hs)
theorem dv_isiD {S : String} {f g : Str} {p2 : Pos} {k1 k2 k3 k4 k5 k6 : Bool} {z : D} (n : Bn X f (.builtin "isinstance")) (n2 : Bn X g (.type S)) (ha : DV X kx a ρ M z) (hf : z.flat = true) (h1 : kitB "NoneType" S = some k1) (h2 : kitB "bool" S = some k2) (h3 : kitB "int" S = some k3) (h4 : kitB "str" S = some k4) (h5 : kitB "list" S = some k5) (h6 : kitB "tuple" S = some k6)
    (he : starEach [a, .Name g p2] X.env = (false, eval a X.env) :: starEach [.Name g p2] X.env := by rfl) : DV X kx (.Call (.Name f p) [a, .Name g p2] [] pos) ρ M (.bl (dSel z k1 k2 k3 k4 k5 k6)) := by
  cases z with
  | non => exact dv_isi n n2 ha .non h1 he
  | bl k => exact dv_isi n n2 ha (.bl k) h2 he
  | int k => exact dv_isi n n2 ha (.int k) h3 he
  | str k => exact dv_isi n n2 ha (.str k) h4 he
  | lst k => exact dv_isi n n2 ha (.lst k) h5 he
  | scr k => exact dv_isi n n2 ha (.scr k) h5 he
  | tup k => exact dv_isi n n2 ha (.tup k) h6 he
  | _ => exact absurd hf (by simp [D.flat])
end
end Dl

/-! what raises, nothing being changed; things lent meanwhile; calls whose arguments change something -/
namespace Dl
open PySem PySem.Spec PyProof.Rows L2
theorem XRep.cutL {K : Frag} {H H2 H2' : Hp} {S : Shp} {c : Mem} {dd : Option Addr} {fs : List (Str × D)} (hc : ∀ p ∈ c, ∀ o, H p.1 = some o → MSh S p.2 (some o)) (ho : D.offA S (fs.map Prod.snd) = true) (x : XRep K H H2 dd fs) : XRep K (cutL H c.dom) H2' dd fs := by
  rcases x with x | ⟨h1, d, vs, xs, h2, h3, h4, h5, h6⟩
  · exact .inl x
  · exact .inr ⟨h1, d, vs, xs, h2, by rw [cutL_ne (shNo hc h3 sh_xdX)]; exact h3, h4, h5, RepA.cutL hc _ _ ho h6⟩
section
variable {X : Cx} {kx kx' : XD} {ρ ρ' ρ'' : Ro} {M M' M2 R m : Mem} {P : Out → Mem → Prop} {pos p np pos' tpos spos apos cpos : Pos} {tg a b c e o ix elt : Expr} {es : List Expr} {ds zs dvs gs : List D} {w C : Addr} {x y d dd : D} {α β : Type} {s t : Str} {k : Nat} {n f mn : Str} {fs : List (Str × D)} {S : Shp} {sl : List (Nat × D × D)} {os : List Ow} {E : β → Ow → Prop} {enc : β → D} {r : β}
def DX (X : Cx) (e : Expr) (ρ : Ro) (M : Mem) (n : Str) (fs : List (Str × D)) : Prop :=
  ∀ (σ : L2.St) (H H0 : Hp), Ht X.K H0 H M → Sl X.K H0 σ ρ → ∀ (W : WX), Takes X W → (∀ cls dd H' H0', Pu H0 H H0' H' → XRep X.K H0' H' dd fs → X.mg n = some cls → W cls dd σ H') → ∀ (Q : VK), sE X e σ H Q
def DXA (X : Cx) (es : List Expr) (ρ : Ro) (M : Mem) (n : Str) (fs : List (Str × D)) : Prop :=
  ∀ (σ : L2.St) (H H0 : Hp), Ht X.K H0 H M → Sl X.K H0 σ ρ → ∀ (W : WX), Takes X W → (∀ cls dd H' H0', Pu H0 H H0' H' → XRep X.K H0' H' dd fs → X.mg n = some cls → W cls dd σ H') → ∀ (Q : List V → Hp → Prop), sA X es σ H Q
theorem DX.de (h : DX X e ρ M n fs) (hk : ∀ cls, X.mg n = some cls → kx cls fs ρ M) : DE X kx e ρ M fun _ _ => False := fun σ H H0 t s W tk hx Q q =>
  h σ H H0 t s W tk (fun cls dd H' H0' p xr hm => hx cls dd σ H' H0' fs ρ M p.go (t.pu p) (s.mo p.e0) xr (hk cls hm)) Q
/-! calls -/
/-! calls whose arguments change something -/
end
/-! ### dicts of owned things: what stands at the keys -/
section
variable {κ β : Type} [DecidableEq κ] {E : β → Ow → Prop}
inductive OwD (E : β → Ow → Prop) : List (κ × β) → List (κ × D) → Mem → Prop
  | nil : OwD E [] [] []
  | cons {k : κ} {r : β} {d : D} {xs : List (κ × β)} {rs : List (κ × D)} {m1 m2 : Mem} : OwR E r d m1 → OwD E xs rs m2 → OwD E ((k, r) :: xs) ((k, d) :: rs) (m1 ++ m2)
theorem OwD.keys {xs : List (κ × β)} {rs : List (κ × D)} {m : Mem} (h : OwD E xs rs m) : rs.map Prod.fst = xs.map Prod.fst := by
  induction h with
  | nil => rfl
  | cons a b ih => simp [ih]
theorem OwD.len {xs : List (κ × β)} {rs : List (κ × D)} {m : Mem} (h : OwD E xs rs m) : rs.length = xs.length := by
  have := congrArg List.length h.keys
  simpa using this
theorem OwD.get {xs : List (κ × β)} {rs : List (κ × D)} {m : Mem} (h : OwD E xs rs m) (k : κ) : (getA rs k).isSome = (getA xs k).isSome := by
  induction h with
  | nil => rfl
  | @cons k' r d xs rs m1 m2 a b ih =>
    unfold getA at *
    by_cases e : k' = k
    · simp [e]
    · simp [e, ih]
theorem putA_cons_eq {k : κ} {r v : β} {xs : List (κ × β)} (h : k ∉ xs.map Prod.fst) : putA ((k, r) :: xs) k v = (k, v) :: xs := by
  unfold putA
  rw [if_pos (by simp)]
  simp only [List.map_cons, if_true, List.cons.injEq, true_and]
  conv => rhs; rw [← List.map_id xs]
  refine List.map_congr_left fun q hq => ?_
  rw [if_neg (fun e => h (List.mem_map.mpr ⟨q, hq, e⟩))]; rfl
theorem putA_cons_ne {k k' : κ} {r v : β} {xs : List (κ × β)} (h : k' ≠ k) : putA ((k', r) :: xs) k v = (k', r) :: putA xs k v := by
  unfold putA
  simp only [List.any_cons, h, decide_false, Bool.false_or]
  split
  · simp [h]
  · simp
theorem putA_nil (k : κ) (v : β) : putA ([] : List (κ × β)) k v = [(k, v)] := by unfold putA; simp
theorem OwD.put {xs : List (κ × β)} {rs : List (κ × D)} {m : Mem} (h : OwD E xs rs m) (nd : (xs.map Prod.fst).Nodup) (k : κ) {r : β} {d : D} {mr : Mem} (hr : OwR E r d mr) : ∃ m' old, OwD E (putA xs k r) (putA rs k d) m' ∧ (mr ++ m).Perm (m' ++ old) := by
  induction h with
  | nil => exact ⟨mr ++ [], [], by rw [putA_nil, putA_nil]; exact .cons hr .nil, by simp⟩
  | @cons k' r0 d0 xs rs m1 m2 a b ih =>
    obtain ⟨n1, n2⟩ := List.nodup_cons.mp nd
    by_cases e : k' = k
    · subst e
      refine ⟨mr ++ m2, m1, ?_, ?_⟩
      · rw [putA_cons_eq n1, putA_cons_eq (by rw [b.keys]; exact n1)]
        exact .cons hr b
      · rw [List.append_assoc]
        exact List.Perm.append_left mr List.perm_append_comm
    · obtain ⟨m', old, i1, i2⟩ := ih n2
      refine ⟨m1 ++ m', old, ?_, ?_⟩
      · rw [putA_cons_ne e, putA_cons_ne e]; exact .cons a i1
      · rw [List.append_assoc]
        refine List.Perm.trans ?_ (List.Perm.append_left m1 i2)
        rw [← List.append_assoc, ← List.append_assoc]
        exact List.Perm.append_right m2 List.perm_append_comm
theorem OwD.all {xs : List (κ × β)} {rs : List (κ × D)} {m : Mem} (h : OwD E xs rs m) : ∃ os, All2 E (xs.map Prod.snd) os ∧ rs.map Prod.fst = xs.map Prod.fst ∧ rs.map Prod.snd = Ow.rootA os ∧ m = Ow.memA os := by
  induction h with
  | nil => exact ⟨[], .nil, rfl, by simp [Ow.rootA], by simp [Ow.memA]⟩
  | cons a b ih =>
    obtain ⟨o, h1, rfl, rfl⟩ := a
    obtain ⟨os, h2, e1, e2, rfl⟩ := ih
    exact ⟨o :: os, .cons h1 h2, by simp [e1], by simp [Ow.rootA, e2], by simp [Ow.memA]⟩
theorem OwD.off {S : Shp} (hE : OffK S E) {xs : List (κ × β)} {rs : List (κ × D)} {m : Mem} (h : OwD E xs rs m) : (∀ p ∈ m, p.2.offM S = true) ∧ ∀ q ∈ rs, q.2.off S = true := by
  induction h with
  | nil => exact ⟨fun p hp => by simp at hp, fun q hq => by simp at hq⟩
  | cons a b ih =>
    obtain ⟨h1, h2⟩ := hE _ _ _ a
    refine ⟨fun p hp => (List.mem_append.mp hp).elim (h2 p) (ih.1 p), fun q hq => ?_⟩
    rcases List.mem_cons.mp hq with rfl | hq
    · exact h1
    · exact ih.2 q hq
end
/-! ### how often a text is in a list -/
def eqks (k : Str) (v : Value) : Bool := match v with
  | .str n _ => n == k
  | _ => false
def rCntS (K : PySem.W.Frag) : V → List V → Hp → VK → Prop := fun x xs H Q => ∃ (p : Addr) (ns : List Str) (k : Str), x = .ref p ∧ xs = [.str k] ∧ SqL K H p (ns.map V.str) ∧ Q (.int (ns.count k : Nat)) H
section
variable {X : Cx} {kx : XD} {ρ : Ro} {M : Mem} {pos apos cpos : Pos} {e o : Expr} {y : D}
end
/-- None or something that is not None -/
def noN (o : Option D) : Prop := ∀ d, o = some d → d.isNon = false
section
variable {X : Cx} {kx : XD} {ρ : Ro} {M : Mem} {pos p2 : Pos} {a : Expr} {o : Option D} {j : Nat}
end
end Dl

/-! zip of three lists; lists of things that change, laid open while they are walked -/
namespace Dl
open PySem PySem.Spec PyProof.Rows L2
/-! ### zip of three lists -/
def Itz3 (K : PySem.W.Frag) (a b c : Addr) : It :=
  ⟨fun i H => ∃ (xs ys zs : List V) (x y u : V), SqL K H a xs ∧ SqL K H b ys ∧ SqL K H c zs ∧ xs[i]? = some x ∧ ys[i]? = some y ∧ zs[i]? = some u,
    fun i H v H' => ∃ T x y u, v = .ref T ∧ H T = none ∧ H' = upd H T (.tup [x, y, u]) ∧ (∀ xs, SqL K H a xs → xs[i]? = some x) ∧ (∀ ys, SqL K H b ys → ys[i]? = some y) ∧ ∀ zs, SqL K H c zs → zs[i]? = some u,
    fun i H => ∃ xs ys zs : List V, SqL K H a xs ∧ SqL K H b ys ∧ SqL K H c zs ∧ i ≤ xs.length ∧ i ≤ ys.length ∧ i ≤ zs.length ∧ (i = xs.length ∨ i = ys.length ∨ i = zs.length)⟩
def iZip3 (K : PySem.W.Frag) (ta : TA) : TI := fun σ H R => ta σ H fun vs H1 => ∃ a b c xs ys zs, vs = [.ref a, .ref b, .ref c] ∧ SqL K H1 a xs ∧ SqL K H1 b ys ∧ SqL K H1 c zs ∧ R (Itz3 K a b c) H1
def YTrip (xs ys zs : Nat → Option V) : Nat → Hp → V → Hp → Prop := fun i H v H' => ∃ T x y u, v = .ref T ∧ H T = none ∧ H' = upd H T (.tup [x, y, u]) ∧ xs i = some x ∧ ys i = some y ∧ zs i = some u
section
variable {X : Cx} {kx : XD} {ρ : Ro} {M : Mem} {a b c : Expr} {p pos : Pos} {α β γ : Type} {x y z : D}
end
section
variable {X : Cx} {kx : XD} {ρ : Ro} {M : Mem} {a b : Expr} {pos : Pos} {k : Bool} {kk : D → Mem → Prop}
end
/-! ### a list of things that change, laid open: the list stands for good, the things do not -/
section
variable {β : Type} {E : β → Ow → Prop} {f : Int → D} {n : Nat}
def isOpn (f : Int → D) (n : Nat) (E : β → Ow → Prop) (rs : List β) (o : Ow) : Prop := ∃ os, o = .tup os ∧ All2 E rs os ∧ Ow.rootA os = (rngD 0 n).map f
/-- a list that stands for good, of things that change -/
def isSeq (E : β → Ow → Prop) (rs : List β) (o : Ow) : Prop := ∃ os, o = .seq os ∧ All2 E rs os
end
end Dl

/-! a method that only hands something back, called while an exception is handled -/
namespace Dl
open PySem PySem.Spec PyProof.Rows L2
structure RoomQ (k : Nat) (A : Around) : Prop where
  dp : A.depth + 3 * k + 5 < recursionLimit
  un : A.units + 16 * k + 200 < cLine
theorem RoomQ.deeper {k : Nat} {A : Around} (r : RoomQ (k + 1) A) (env : Env) : RoomQ k (A.deeper env) :=
  ⟨by have := r.dp; show A.depth + 1 + 3 * k + 5 < _; omega, by have := r.un; show A.units + 3 + 16 * k + 200 < _; omega⟩
structure FnQ (P : Program) (w : World) (K : Frag) (mg : Str → Option Value) (base : Heap) (CX : CXT) (k : Nat) (f : Addr) (fd : FuncData) (ps : List Str) (sp : Sp) : Prop where
  len : ∀ vs H Q E, sp vs H Q E → vs.length = ps.length
  run : ∀ (A : Around) (outer : List Env) (s : Shared) (H : Hp) (args : Args) (us : List Value) (vs : List V) (Q : VK) (E : XK), RoomQ k A → Env0 P w K mg base A outer s H → BindsTo s fd args (ps.zip us) → Vals vs us → sp vs H Q E →
    codeAny (model P w) A (.call (.ref f) args) (CR CX outer P w H s Q E) s
def cxQ (CX : CXT) (P : Program) (w : World) (K : Frag) (mg : Str → Option Value) (base : Heap) (N : List Str) (qual : Str) (scope : Scope) (f : Addr) (cd : Value) (A : Around) (outer : List Env) (s : Shared) (H : Hp) (E : XK) : Cx :=
  { cxOf CX P w K mg base N qual scope f cd A outer s H E with calm := false }
section
variable {CX : CXT} {P : Program} {w : World} {K : Frag} {mg : Str → Option Value} {base : Heap}
/-- a getter: what it promises -/
abbrev spQ (K : Frag) {α β : Type} (args : α → List D) (F : α → Ex β) (enc : β → D) : Sp := spP K args (fun a => ∃ r, F a = .ok r) (fun a d => ∃ r, F a = .ok r ∧ d = enc r) fun _ _ _ => False
def GMQ (P : Program) (w : World) (K : Frag) (mg : Str → Option Value) (base : Heap) (k : Nat) (C : Addr) (m : Str) (sp : Sp) : Prop :=
  ∃ (f : Addr) (fd : FuncData) (ps : List Str), Meth K C m f ∧ FnQ P w K mg base (L2.CX P w) k f fd ps sp ∧ Binds K fd ps []
end
section
variable {X : Cx} {kx : XD} {ρ : Ro} {M : Mem} {pos apos : Pos} {o : Expr} {y z : D} {α β : Type} {k : Nat} {m : Str} {C : Addr} {args : α → List D} {F : α → Ex β} {enc : β → D} {ns : List Str} {fs : List D} {pl : Sem Bool}
end
end Dl

/-! shifts to the right, masks -/
namespace Dl
open PySem PySem.Spec PyProof.Rows L2
section
variable {X : Cx} {kx : XD} {ρ : Ro} {M : Mem} {a b : Expr} {pos : Pos} {i j : Int}
end
end Dl

/-! what the top has written, read off the end of one run: the law's head by HandSHeadRun.head_any -/
namespace Dl
open PySem PySem.Spec PyProof.Rows L2 He
abbrev Chk : Type := Frag → Bool
/-! ### the part of the heap that is looked at -/
def gVal (g : Addr → Option PySem.Obj) (ns : Addr) (x : Str) : Option Addr := match g ns with
  | some ⟨_, _, .dict es _, _⟩ => (match es.toList.find? (·.key.isStr x) with
    | some e => (match e.val with
      | .ref a => some a
      | _ => none)
    | none => none)
  | _ => none
def gFn (g : Addr → Option PySem.Obj) : Option Addr → List Addr
  | none => []
  | some f => (match g f with
    | some ⟨_, _, .func fd, _⟩ => f :: (refV fd.code ++ refV fd.defaults)
    | _ => [f])
def gCls (g : Addr → Option PySem.Obj) (x : Str) : List Addr := match gVal g mainGlobals x with
  | some C => (match g C with
    | some ⟨_, _, .cls cd, _⟩ => [C, cd.ns]
    | _ => [C])
  | none => []
def gDef (g : Addr → Option PySem.Obj) (p : Str × Option Str) : List Addr := match p.2 with
  | none => gFn g (gVal g mainGlobals p.1)
  | some m => (match gVal g mainGlobals p.1 with
    | some C => (match g C with
      | some ⟨_, _, .cls cd, _⟩ => gFn g (gVal g cd.ns m)
      | _ => [])
    | none => [])
def gAll (g : Addr → Option PySem.Obj) (cl : List Str) (fn : List DefD) : List Addr := mainGlobals :: cStatics :: (cl.flatMap (gCls g) ++ fn.flatMap fun d => gDef g d.at_)
/-! ### the Hook -/
def obsH (cs : List Chk) (fn : List DefD) (K : Frag) : AlD := ((cs.all fun f => f K) && fn.all fun d => d.ok K, fn.map fun d => fnW K d.at_)
def SaysH (cs : List Chk) (fn : List DefD) (K : Frag) : Prop := obsH cs fn K = valD fn
def obsHG (cl : List Str) (cs : List Chk) (fn : List DefD) (g : Addr → Option PySem.Obj) : AlD := obsH cs fn (frG g (gAll g cl fn))
def hookH (cl : List Str) (cs : List Chk) (fn : List DefD) : PySem.W.Hook where
  α := AlD
  obs := fun s => obsHG cl cs fn s.heap.get?
  val := fun _ => valD fn
  says := fun _ h => ∃ K : Frag, K.In h ∧ SaysH cs fn K
  of := fun _ _ e => ⟨_, frG_in, e⟩
  keeps := fun _ _ _ ⟨K, hK, c⟩ k => ⟨K, PySem.W.Frag.In.keeps hK k, c⟩
theorem obsHG_eq {cl : List Str} {cs : List Chk} {fn : List DefD} {g : Addr → Option PySem.Obj} {s : Shared} (h : ∀ a, g a = s.heap.get? a) : obsHG cl cs fn g = (hookH cl cs fn).obs s := by
  have e : g = s.heap.get? := funext h
  rw [e] <;> rfl
section
variable {cs : List Chk} {fn : List DefD} {K : Frag}
theorem SaysH.fact (c : SaysH cs fn K) (i : Nat) {f : Chk} (h : cs[i]? = some f := by rfl) : f K = true := by
  have c1 := (ba (show ((cs.all fun f => f K) && fn.all fun d => d.ok K) = true from congrArg (fun z : AlD => z.1) c)).1
  exact List.all_eq_true.mp c1 f (List.mem_of_getElem? h)
theorem SaysH.def_ (c : SaysH cs fn K) (i : Nat) {d : DefD} (h : fn[i]? = some d := by rfl) : ∃ fd, FunD K d.name d.qual d.params d.body d.scope (d.dvs K) (d.kws K) (fAd K d.at_) fd := by
  have c2 := (ba (show ((cs.all fun f => f K) && fn.all fun d => d.ok K) = true from congrArg (fun z : AlD => z.1) c)).2
  have e : fn.map (fun d => fnW K d.at_) = fn.map DefD.val := congrArg (fun z : AlD => z.2) c
  have e2 : (fn.map fun d => fnW K d.at_)[i]? = (fn.map DefD.val)[i]? := by rw [e]
  rw [List.getElem?_map, List.getElem?_map, h] at e2
  exact DefD.funD (Option.some.inj e2) (List.all_eq_true.mp c2 d (List.mem_of_getElem? h))
end
/-! ### checks -/
def excCB (K : Frag) (C : Addr) : Bool := eqO (PySem.W.findIn K (.ref C) "__getattribute__") (some (some (.builtin "BaseException.__getattribute__"))) && (eqO (PySem.W.findIn K (.ref C) "__getattr__") (some none) && (decide (PySem.W.subIn K (.ref C) (.type "BaseException") = some true) && (PySem.W.hasDictIn K C &&
  (eqO (PySem.W.findIn K (.ref C) "__class__") (some (some (.builtin "object.__class__"))) && (eqO (PySem.W.specialIn K (.builtin "object.__class__") "__get__") (some (some (.builtin "getset_descriptor.__get__"))) && (decide (PySem.W.takesIn K (.builtin "object.__class__") = some true) && decide (PySem.W.mroIn K C (.type "object") = some true)))))))
theorem excCB_ok {K : Frag} {C : Addr} (h : excCB K C = true) : ExcC K C := by
  obtain ⟨h1, h⟩ := ba h
  obtain ⟨h2, h⟩ := ba h
  obtain ⟨h3, h⟩ := ba h
  obtain ⟨h4, h⟩ := ba h
  obtain ⟨h5, h⟩ := ba h
  obtain ⟨h6, h⟩ := ba h
  obtain ⟨h7, h8⟩ := ba h
  exact ⟨eqO_ok h1, eqO_ok h2, of_decide_eq_true h3, h4, eqO_ok h5, eqO_ok h6, of_decide_eq_true h7, of_decide_eq_true h8⟩
def gloB (x : Str) : Chk := fun K => (Fa.glo x).ok K
def freB (x : Str) : Chk := fun K => (Fa.free x).ok K
def extB (x : Str) : Chk := fun K => gloB x K && (excCB K (ga K x) && (PySem.W.excIn K (ga K x) veBase "ValueError.__new__" && (PySem.W.keepIn K (.ref (ga K x)) && decide (PySem.W.typeIn K (.ref (ga K x)) = some (.type "type")))))
def exfB (x : Str) : Chk := fun K => gloB x K && excCB K (ga K x)
def clsB (x : Str) (fs : List Str) : Chk := fun K => gloB x K && ((Fa.cls x).ok K && (PySem.W.makesIn K (ga K x) && (PySem.W.keepIn K (.ref (ga K x)) && fs.all fun f => (Fa.noat x f).ok K)))
def oexC (K : Frag) (C : Addr) : Bool := match K.lookup C with
  | some ⟨.type "type", _, .cls cd, sl⟩ => (match cd.mro, sl.toList with
    | .ref C' :: bm, [_, _, _, _, some (.builtin n), _] => C' == C && (n == "ValueError.__new__" && (!cd.hasDel && (cd.hasDict && PySem.HandSPX.refsVE bm)))
    | _, _ => false)
  | _ => false
theorem oexC_ok {K : Frag} {C : Addr} (q : oexC K C = true) : ∃ nm q N bs bm sn sub ab col dd k0 k1 k2 k3 k5, K.lookup C = some (excClassObj nm q C N bs bm true sn sub ab col dd k0 k1 k2 k3 k5 "ValueError.__new__") ∧ PySem.HandSPX.refsVE bm = true := by
  unfold oexC at q
  split at q
  · rename_i dd cd sl ho
    split at q
    · rename_i C' bm k0 k1 k2 k3 n k5 hm hs
      simp only [Bool.and_eq_true, beq_iff_eq, Bool.not_eq_true'] at q
      obtain ⟨rfl, rfl, hdel, hd, hr⟩ := q
      obtain ⟨nm, bs, mro, ns, qn, hdd, sn, sub, ab, col, del⟩ := cd
      dsimp only at hm hdel hd
      subst hm hdel hd
      have hsl : sl = #[k0, k1, k2, k3, some (.builtin "ValueError.__new__"), k5] := by
        obtain ⟨l⟩ := sl
        simp only at hs
        rw [hs]
      subst hsl
      exact ⟨nm, qn, ns, bs, bm, sn, sub, ab, col, dd, k0, k1, k2, k3, k5, ho, hr⟩
    · cases q
  · cases q
def oexB (x : Str) : Chk := fun K => oexC K (ga K x) && (eqO (PySem.W.findIn K (.ref (ga K x)) "__setattr__") (some (some (.builtin "object.__setattr__"))) && (decide (PySem.W.subIn K (.ref (ga K x)) (.type "BaseException") = some true) && (decide (PySem.W.typeIn K (.ref (ga K x)) = some (.type "type")) && PySem.W.keepIn K (.ref (ga K x)))))
theorem oexB_ok {K : Frag} {x : Str} (h : oexB x K = true) : OexC K (ga K x) := by
  obtain ⟨h1, h⟩ := ba h
  obtain ⟨h2, h⟩ := ba h
  obtain ⟨h3, h⟩ := ba h
  obtain ⟨h4, h5⟩ := ba h
  exact ⟨oexC_ok h1, eqO_ok h2, of_decide_eq_true h3, of_decide_eq_true h4, h5⟩
/-- x.f is not written in the class -/
def natB (x f : Str) : Chk := fun K => eqO (PySem.W.findIn K (.ref (ga K x)) f) (some none)
theorem natB_ok {K : Frag} {x f : Str} (h : natB x f K = true) : PySem.W.findIn K (.ref (ga K x)) f = some none := eqO_ok h
/-- x.m is the def at p -/
def metB (x m : Str) (p : Str × Option Str) : Chk := fun K => eqO (PySem.W.findIn K (.ref (ga K x)) m) (some (some (.ref (fAd K p)))) && PySem.W.isFn K (.ref (fAd K p))
def iniB (x m : Str) (p : Str × Option Str) : Chk := fun K => eqO (PySem.W.findIn K (.ref (ga K x)) m) (some (some (.ref (fAd K p)))) && decide (PySem.W.typeIn K (.ref (fAd K p)) = some (.type "function"))
def bltB (x f : Str) (b : String) : Chk := fun K => eqO (PySem.W.findIn K (.ref (ga K x)) f) (some (some (.builtin b)))
def kitB (a b : Str) (r : Bool) : Chk := fun K => decide (PySem.W.kitOne K (.ref (ga K a)) (.ref (ga K b)) = some r)
def kitT (a : Str) (t : String) (r : Bool) : Chk := fun K => decide (PySem.W.kitOne K (.ref (ga K a)) (.type t) = some r)
def kitN (t : String) (b : Str) (r : Bool) : Chk := fun K => decide (PySem.W.kitOne K (.type t) (.ref (ga K b)) = some r)
def exmB (a b : Str) (r : Bool) : Chk := fun K => decide (PySem.W.exmOne K (.ref (ga K a)) (.ref (ga K b)) = some r)
def exmT (a : Str) (t : String) (r : Bool) : Chk := fun K => decide (PySem.W.exmOne K (.ref (ga K a)) (.type t) = some r)
theorem dec_ok {p : Prop} [Decidable p] (h : decide p = true) : p := of_decide_eq_true h
def xfcB (x f : Str) : Chk := fun K => xfB K (ga K x) && natB x f K
theorem xfcB_ok {K : Frag} {x f : Str} (h : xfcB x f K = true) : XfC K (ga K x) ∧ PySem.W.findIn K (.ref (ga K x)) f = some none := ⟨xfB_ok (ba h).1, natB_ok (ba h).2⟩
def insB (x : Str) : Chk := fun K => (Fa.cls x).ok K && (eqO (PySem.W.findIn K (.ref (ga K x)) "__class__") (some (some (.builtin "object.__class__"))) && (eqO (PySem.W.specialIn K (.builtin "object.__class__") "__get__") (some (some (.builtin "getset_descriptor.__get__"))) && (decide (PySem.W.takesIn K (.builtin "object.__class__") = some true) && decide (PySem.W.mroIn K (ga K x) (.type "object") = some true))))
/-- BookError's own reads -/
def rbeB (x : Str) : Chk := fun K => PySem.W.readsIn K (ga K x) (.type "type") && (eqO (PySem.W.specialIn K (.ref (ga K x)) "__getattribute__") (some (some (.builtin "type.__getattribute__"))) && (match PySem.W.findCls K (.ref (ga K x)) (.type "type") "__init__" with
  | some (.val (.builtin n)) => decide (n = "ValueError.__init__")
  | _ => false))
theorem rbeB_ok {K : Frag} {x : Str} (h : rbeB x K = true) : PySem.W.readsIn K (ga K x) (.type "type") = true ∧ PySem.W.specialIn K (.ref (ga K x)) "__getattribute__" = some (some (.builtin "type.__getattribute__")) ∧ PySem.W.findCls K (.ref (ga K x)) (.type "type") "__init__" = some (.val (.builtin "ValueError.__init__")) := by
  obtain ⟨h1, h⟩ := ba h
  obtain ⟨h2, h3⟩ := ba h
  refine ⟨h1, eqO_ok h2, ?_⟩
  split at h3
  · rename_i n e
    rw [e, of_decide_eq_true h3]
  · cases h3
section
variable {K : Frag} {h : Heap} {mg : Str → Option Value}
theorem gloB_ok (X : K.In h) (G : h.Ns mainGlobals mg) {x : Str} (c : gloB x K = true) : mg x = some (.ref (ga K x)) := glo_ok X G c
theorem freB_ok (X : K.In h) (G : h.Ns mainGlobals mg) {x : Str} (c : freB x K = true) : mg x = none := free_ok X G c
theorem exfB_ok (X : K.In h) (G : h.Ns mainGlobals mg) {x : Str} (c : exfB x K = true) : ExF K mg x (ga K x) := by
  obtain ⟨h1, h2⟩ := ba c
  exact ⟨excCB_ok h2, gloB_ok X G h1⟩
theorem fun_of {x qual : Str} {st : Stmt} {f : Addr} {fd : FuncData} (F : FunD K x qual (defArgs st) (defBody st) (defScope st) [] [] f fd) : Fun K x qual st f fd := by
  obtain ⟨oc, od, dV, kV, doc, pm, an, cdv, ct, osl, e, lk, hcd, hD, hK⟩ := F.ex
  rcases hD with ⟨_, rfl⟩ | ⟨z, _⟩
  · exact ⟨⟨oc, od, kV, doc, pm, an, cdv, ct, osl, e, lk, hcd⟩, F.kp⟩
  · exact absurd rfl z
theorem funT_of {x : Str} {st : Stmt} {ps : List Str} (X : K.In h) (G : h.Ns mainGlobals mg) (F : ∃ fd, FunD K x x (defArgs st) (defBody st) (defScope st) [] [] (ga K x) fd) (c : gloB x K = true)
    (b : ∀ (kV doc pm : Value) (an : Option Addr) (cdv ct : Value) (us : List Value), us.length = ps.length → bindArgs (PySem.W.fnOf x x (defArgs st) (defBody st) (defScope st) .none kV doc pm an cdv ct) ⟨us, []⟩ = pure (ps.zip us)) : FunT K mg x st ps := by
  obtain ⟨fd, F⟩ := F
  exact ⟨_, fd, fun_of F, gloB_ok X G c, F.bindsN b⟩
theorem xini_of {C : Str} {x : String} {fl : Str} {p : Str × Option Str} {st : Stmt} (F : ∃ fd, FunD K "__init__" (x ++ ".__init__") (defArgs st) (defBody st) (defScope st) [] [] (fAd K p) fd) (c : iniB C "__init__" p K = true)
    (b : ∀ (kV doc pm : Value) (an : Option Addr) (cdv ct : Value) (us : List Value), us.length = 2 → bindArgs (PySem.W.fnOf "__init__" (x ++ ".__init__") (defArgs st) (defBody st) (defScope st) .none kV doc pm an cdv ct) ⟨us, []⟩ = pure ((["self", fl] : List Str).zip us)) : XIni K (ga K C) x fl st := by
  obtain ⟨fd, F⟩ := F
  obtain ⟨c1, c2⟩ := ba c
  exact ⟨_, fd, F, F.bindsN b, eqO_ok c1, of_decide_eq_true c2⟩
def intB (x : Str) (i : Int) : Chk := fun K => (Fa.int x i).ok K
def strB (x z : Str) : Chk := fun K => (Fa.str x z).ok K
theorem intB_ok (X : K.In h) (G : h.Ns mainGlobals mg) {x : Str} {i : Int} (c : intB x i K = true) : ∃ t, mg x = some (.int i t) := int_ok X G c
theorem strB_ok (X : K.In h) (G : h.Ns mainGlobals mg) {x z : Str} (c : strB x z K = true) : ∃ t, mg x = some (.str z t) := str_ok X G c
end
/-! ### the end -/
theorem walkH {l : PySem.W.OpenLaw} {k : Nat} {q : Program} {loose : List Str} {XP : (Str → Option Value) → Heap → Prop} {YP : World → Heap → Prop} {d : DefRec} {x : Str}
    (hn : l.most = some 63) (hdf : d.params.defaults = []) (hr : Room k callerA)
    (F : ∀ (w : World) (mg : Str → Option Value) (fa : Addr) (h : Heap), YP w h → h.Ns mainGlobals mg → mg d.name = some (.ref fa) →
      ∃ (K : Frag) (fd : FuncData), K.In h ∧ (∀ (s : Shared) (u : Value), BindsTo s fd ⟨[u], []⟩ [(x, u)]) ∧ ∀ base : Heap, K.In base → base.Ns mainGlobals mg → FnOk l.prog w K mg base (L2.CX l.prog w) k fa fd [x] (spLaw K)) :
    PySem.W.WalkO q loose XP YP l.row.toRowW d [] (fun f vs => PySem.call f vs) := by
  refine Att.attach_call hn hdf fun w s₀ s₁ mg mb fa o pm cd doc a vs ns G Y ho hd hcd hmg hobj hints hlen hg => ?_
  obtain ⟨K, fd, KX, hb, hF⟩ := F w mg fa _ Y G.T.g hmg
  exact law_call KX G.T.g G.T.b G.T.builtins G.T.nolimit hg hobj hints (Nat.le_trans hlen (by decide)) hr hF hb (fun H hO hS => law_hsp hlen hS) fun H e s' h => by
    obtain ⟨_, _, _, _, _, _, _, _, _, _, _, _, z⟩ := h
    exact z
end Dl

/-! what may be None and is owned; a bind that lets out exceptions without fields only; list.insert; how often a text is in a list of any things -/
namespace Dl
open PySem PySem.Spec PyProof.Rows L2
section
variable {α β : Type}
def bindX0 (m : Ex α) (k : α → Ex β) : Ex β := match m with
  | .ok a => k a
  | .exc n [] => .exc n []
  | .exc _ (_ :: _) => .bad
  | .bad => .bad
end
section
variable {X : Cx} {kx : XD} {ρ : Ro} {M : Mem} {pos : Pos} {a b : Expr}
end
section
variable {X : Cx} {kx : XD} {ρ : Ro} {M : Mem} {P : Out → Mem → Prop} {pos apos cpos spos : Pos} {e e2 o : Expr} {α : Type} {w : Addr}
end
/-! ### how often a text is in a list of any things -/
def isSV (k : Str) : V → Bool
  | .str s => s == k
  | _ => false
def isSD (k : Str) : D → Bool
  | .str s => s == k
  | _ => false
def simpV (K : Frag) (H : Hp) : V → Prop
  | .non => True
  | .bl _ => True
  | .int _ => True
  | .str _ => True
  | .ref l => ∃ ws, SqL K H l ws
  | _ => False
/-- None, truth, number, text, list -/
def simpD : D → Bool
  | .non => true
  | .bl _ => true
  | .int _ => true
  | .str _ => true
  | .lst _ => true
  | _ => false
def cntD (ds : List D) (k : Str) : Nat := ds.countP (isSD k)
def rCntD (K : PySem.W.Frag) : V → List V → Hp → VK → Prop := fun x xs H Q => ∃ (p : Addr) (vs : List V) (k : Str), x = .ref p ∧ xs = [.str k] ∧ SqL K H p vs ∧ (∀ v ∈ vs, simpV K H v) ∧ Q (.int (vs.countP (isSV k) : Nat)) H
section
variable {X : Cx} {kx : XD} {ρ : Ro} {M : Mem} {pos apos cpos : Pos} {e o : Expr} {y : D}
end
section
variable {X : Cx} {kx : XD} {ρ : Ro} {M : Mem} {pos apos p : Pos} {e o : Expr} {es : List Expr} {ds dvs fs : List D} {y : D} {C : Addr} {ns : List Str} {m : Str} {k : Nat} {α β : Type}
end
end Dl

/-! a list of lists that change, new -/
namespace Dl
open PySem PySem.Spec PyProof.Rows L2
section
variable {X : Cx} {kx kx' : XD} {ρ : Ro} {M R : Mem} {P : Out → Mem → Prop} {pos p apos : Pos} {e a b c tg elt : Expr} {d : D} {m : Mem} {α β : Type}
end
end Dl
namespace Dl
open PySem PySem.Spec PyProof.Rows L2
section
variable {X : Cx} {kx kx' : XD} {ρ : Ro} {M R : Mem} {pos p apos : Pos} {e : Expr} {x : D} {α β : Type}
end
end Dl
/-! ### a list of addresses that is walked while it may still be changed: it stands in Mem at each turn -/
namespace Dl
open PySem PySem.Spec PyProof.Rows L2
def WkM (K : Frag) (J : It) (H0 : Hp) (keep : Mem → Prop) (ds : List D) : Prop :=
  ∃ (G : Hp → Prop) (Y : Nat → Hp → V → Hp → Prop), Walk J ds.length G Y ∧ (∀ H H0' M, Same H0 H0' → Ht K H0' H M → keep M → G H) ∧
    ∀ i H1 x H2 H01 d, Same H0 H01 → Same H01 H1 → ds[i]? = some d → Y i H1 x H2 → ∃ H02, Pu H01 H1 H02 H2 ∧ Rep K H02 x d
def DIM (X : Cx) (kx : XD) (tg it : Expr) (ρ : Ro) (M : Mem) (keep : Mem → Prop) (ds : List D) : Prop :=
  ∀ (σ : L2.St) (H H0 : Hp), Ht X.K H0 H M → Sl X.K H0 σ ρ → ∀ (W : WX), Takes X W → Hx X W H0 H M kx → ∀ (R : It → Hp → Prop), (∀ J H' H0', Pu H0 H H0' H' → WkM X.K J H0' keep ds → R J H') → sI X tg it σ H R
/-- all of them addresses -/
def Adrs (ds : List D) : Prop := ∀ d ∈ ds, ∃ a, d = .adr a
def adrV : D → V
  | .adr a => .ref a
  | _ => .non
section
variable {X : Cx} {kx kx' : XD} {ρ ρ' ρ'' : Ro} {M M' : Mem} {P : Out → Mem → Prop} {pos p np pos' tpos spos : Pos} {tg a b c e : Expr} {es : List Expr} {ι α β γ : Type} {w : Addr} {keep : Mem → Prop} {x : D}
end
end Dl

/-! numbers of many figures as texts; a text times a number; the limit on figures is the one that stands from the start -/
namespace Dl
open PySem PySem.Spec PyProof.Rows L2
/-- no limit on figures was set -/
def NoDg (K : Frag) : Prop := ∃ o es ep, K.lookup cStatics = some o ∧ o.data = .dict es ep ∧ StrKeys es ∧ nsFind es "sys.int_max_str_digits" = none
def isStrV : Value → Bool
  | .str _ _ => true
  | _ => false
def ndgB : Frag → Bool := fun K => match K.lookup cStatics with
  | some ⟨_, _, .dict es _, _⟩ => es.toList.all (fun e => isStrV e.key) && (nsFind es "sys.int_max_str_digits").isNone
  | _ => false
theorem ndgB_ok {K : Frag} (h : ndgB K = true) : NoDg K := by
  unfold ndgB at h
  split at h
  · rename_i c d es ep sl e
    simp only [Bool.and_eq_true] at h
    obtain ⟨h1, h2⟩ := h
    refine ⟨_, es, ep, e, rfl, fun x hx => ?_, by simpa using h2⟩
    have := List.all_eq_true.mp h1 x (by simpa using hx)
    cases q : x.key with
    | str n t => exact ⟨n, t, rfl⟩
    | _ => rw [q] at this; cases this
  · cases h
theorem NoDg.at {K : Frag} (n : NoDg K) {h : Heap} (i : K.In h) : h.NoDigits := by
  obtain ⟨o, es, ep, e, d, s, f⟩ := n
  exact ⟨fun x => nsFind es x, ⟨o, es, ep, i _ _ e, d, s, fun _ => rfl⟩, f⟩
end Dl
namespace PySem.W.KIN
open PySem PySem.Calls PySem.NumText PyProof.Rows PySem.W
theorem wp_textN {M : Model} {A : Around} {E : Value → Shared → Prop} {s : Shared} {Q : Value → Shared → Prop} {v : Value} {text : List Nat} {n : Int} (nd : s.heap.NoDigits)
    (hs : ¬ (text.takeWhile (· != 0)).length ≤ 640) (hr : (int_private% "readNumeral") 4300 10 (text.takeWhile (· != 0)) = (int_private% "Numeral.value") n)
    (ha : ((text.takeWhile (· != 0)).length == text.length) = true) (h : Q (.int n s.toks) { s with toks := s.toks + 1 }) :
    wpAny M A ((int_private% "intFromText") v text 10) Q E s := by
  obtain ⟨mc, hns, hnone⟩ := nd
  show wpAny M A (do
    let limit ← if (text.takeWhile (· != 0)).length ≤ 640 then pure 0 else Builtin.intMaxStrDigits
    _) Q E s
  rw [if_neg hs]
  refine wpAny_bind ?_
  unfold Builtin.intMaxStrDigits
  refine wpAny_bind (wpAny_nsGet hns ?_)
  rw [hnone]
  refine wpAny_pure ?_
  dsimp only []
  simp only [hr]
  rw [if_pos ha]
  first
    | exact wpAny_bind (wpAny_mkInt (wpAny_pure h))
    | exact wpAny_mkInt h
    | exact wpAny_bind (wpAny_bind (wpAny_mkInt (wpAny_pure h)))
theorem meets_textN {x : PySem.Str} {u : Tok} {n : Int} (hl : x.length ≤ 4300) (hn : PySem.intText? x = some n) :
    Meets (Builtin.«int.__new__» ⟨[.type "int", .str x u], []⟩) (fun _ R s => s.heap.NoDigits ∧ R (.ok (.ret (.int n s.toks))) { s with toks := s.toks + 1 }) :=
  Meets.of_wp fun prog w A R s h => by
    by_cases hs : (numSeenOf x).length ≤ 640
    · have hr : (int_private% "readNumeral") 0 10 (numSeenOf x) = (int_private% "Numeral.value") n ∧ ((numSeenOf x).length == (numTextOf x).length) = true := by
        rcases read0 x hs with ⟨m, h1, h2, h3⟩ | ⟨h1, _⟩
        · rw [hn] at h1
          injection h1 with h1
          subst h1
          exact ⟨h3, h2⟩
        · rw [hn] at h1
          cases h1
      obtain ⟨nd, h⟩ := h
      obtain ⟨hp, g, d, tk, os⟩ := s
      have f1 := F.conv_sub_int
      have f2 := F.madeHere_int
      have f3 := str_int
      have f4 := str_idx
      have f5 := str_trunc
      have f6 : typeOf (.str x u) = pure (.type "str") := rfl
      have hk := Hid.mk (And.intro hs hr)
      have hq := Hid.mk nd
      clear hs hr hl hn nd
      repeat (any_goals (first
        | assumption
        | ((with_reducible show wpAny _ _ ((int_private% "intFromText") _ _ _) _ _ _); refine wp_text hk.out.1 hk.out.2.1 hk.out.2.2 ?_)
        | wp_step))
      all_goals first | exact ⟨_, rfl, h⟩ | skip
    · have hr : (int_private% "readNumeral") 4300 10 (numSeenOf x) = (int_private% "Numeral.value") n ∧ ((numSeenOf x).length == (numTextOf x).length) = true := by
        rcases read4300 x (by rw [sizeLine_eq]; omega) with ⟨m, h1, h2, h3⟩ | ⟨h1, _⟩
        · rw [hn] at h1
          injection h1 with h1
          subst h1
          exact ⟨h3, h2⟩
        · rw [hn] at h1
          cases h1
      obtain ⟨nd, h⟩ := h
      obtain ⟨hp, g, d, tk, os⟩ := s
      have f1 := F.conv_sub_int
      have f2 := F.madeHere_int
      have f3 := str_int
      have f4 := str_idx
      have f5 := str_trunc
      have f6 : typeOf (.str x u) = pure (.type "str") := rfl
      have hk := Hid.mk (And.intro hs (And.intro hr nd))
      clear hs hr hl hn nd
      repeat (any_goals (first
        | assumption
        | ((with_reducible show wpAny _ _ ((int_private% "intFromText") _ _ _) _ _ _); refine wp_textN hk.out.2.2 hk.out.1 hk.out.2.1.1 hk.out.2.1.2 ?_)
        | wp_step))
      all_goals first | exact ⟨_, rfl, h⟩ | skip
section
variable {prog : Program} {w : World} {A : Around} {E : Value → Shared → Prop} {s : Shared} {Q : Value → Shared → Prop} {x : PySem.Str} {t : Tok} {n : Int}
theorem call_textN (nd : s.heap.NoDigits) (hn : PySem.intText? x = some n) (hl : x.length ≤ 4300) (h : Q (.int n s.toks) { s with toks := s.toks + 1 }) : wpAny (model prog w) A (call (.type "int") [.str x t]) Q E s :=
  call_int_1 (meets_textN hl hn) ⟨nd, rfl, h⟩
end
end PySem.W.KIN
namespace Dl
open PySem PySem.Spec PyProof.Rows L2
/-! ### str(i), int(s) -/
def StrOk (i : Int) : Prop := i.natAbs < 10 ^ 4300
theorem call_str_intN {X : Cx} (hc : X.calm = true) (nd : NoDg X.K) : CallR X (.type "str") (fun xs H Q => ∃ i, xs = [.int i] ∧ StrOk i ∧ Q (.str (toString i)) H) := by
  intro pins s σ H xs us Q I r h
  obtain ⟨i, rfl, hz, q⟩ := h
  obtain ⟨u, rfl, t, rfl⟩ := vals1 r
  exact str_of_int_or (I.ok.hd hc) (nd.at I.kIn) (fun _ => ⟨.str _, H, I.tok _, ⟨_, rfl⟩, q⟩) (fun z => absurd z (Nat.not_le_of_lt hz))
theorem call_int_strN {X : Cx} (nd : NoDg X.K) : CallR X (.type "int") (fun xs H Q => ∃ a n, xs = [.str a] ∧ PySem.intText? a = some n ∧ a.length ≤ 4300 ∧ Q (.int n) H) := by
  intro pins s σ H xs us Q I rs h
  obtain ⟨a, n, rfl, hn, hl, h⟩ := h
  cases rs with
  | cons r1 rs =>
    cases rs
    obtain ⟨t, rfl⟩ := r1
    exact PySem.W.KIN.call_textN (nd.at I.kIn) hn hl ⟨.int n, H, I.tok _, ⟨_, rfl⟩, h⟩
/-- a text so many times -/
def repT (s : Str) (n : Int) : Str := if n < 1 then Str.empty else if (n == 1 || s.length == 0) = true then s else ⟨(List.replicate n.toNat s.cps).foldl (· ++ ·) #[]⟩
def RepS (s : Str) (n : Int) : Prop := -(2 ^ 62) < n ∧ n < 2 ^ 62 ∧ s.length * n.toNat ≤ sizeLine
theorem rep_size (a : Array Nat) : ∀ (k : Nat) (acc : Array Nat), ((List.replicate k a).foldl (· ++ ·) acc).size = acc.size + k * a.size
  | 0, acc => by simp
  | k + 1, acc => by
    rw [List.replicate_succ, List.foldl_cons, rep_size a k (acc ++ a), Array.size_append, Nat.succ_mul]
    omega
theorem op_mulS {X : Cx} : OpR X (binaryOp .Mult) (fun x y H Q => ∃ (s : Str) (n : Int), x = .str s ∧ y = .int n ∧ RepS s n ∧ Q (.str (repT s n)) H) := by
  intro pins s σ H x y v u Q I rx ry h
  obtain ⟨a, n, rfl, rfl, ⟨h1, h2, h3⟩, q⟩ := h
  obtain ⟨t, rfl⟩ := rx
  obtain ⟨t2, rfl⟩ := ry
  rw [sizeLine_eq] at h3
  refine PySem.P.mul_str ?_ (fun c1 c2 => ?_) (fun c1 c2 => ?_) ?_
  · rw [decide_eq_false (by omega), decide_eq_false (by omega)]; rfl
  · have n1 : 1 ≤ n := by omega
    obtain ⟨m, rfl⟩ := Int.eq_ofNat_of_zero_le (show 0 ≤ n by omega)
    have e : ((m : Nat) : Int).toNat = m := by omega
    rw [e] at h3
    have h4 : (a.length : Int) ≤ (2 ^ 63 - 1) / ((m : Nat) : Int) := by
      refine (Int.le_ediv_iff_mul_le (by omega)).mpr ?_
      have h5 := Int.ofNat_le.mpr h3
      rw [Int.natCast_mul] at h5
      exact Int.le_trans h5 (by decide)
    omega
  · exact decide_eq_false (by
      show ¬ (_ < a.length * n.toNat)
      first | omega | (rw [sizeLine_eq]; omega))
  · unfold repT at q
    by_cases c1 : n < 1
    · rw [if_pos c1] at q ⊢
      exact ⟨by decide, ⟨.str _, H, I.tok _, ⟨_, rfl⟩, q⟩⟩
    · rw [if_neg c1] at q ⊢
      by_cases c2 : (n == 1 || a.length == 0) = true
      · rw [if_pos c2] at q ⊢
        exact ⟨.str a, H, I, ⟨_, rfl⟩, q⟩
      · rw [if_neg c2] at q ⊢
        refine ⟨?_, ⟨.str _, H, I.tok _, ⟨_, rfl⟩, q⟩⟩
        have e := rep_size a.cps n.toNat #[]
        first
          | (show ((List.replicate n.toNat a.cps).foldl (· ++ ·) #[]).size ≤ sizeLine
             rw [e, sizeLine_eq]
             have h6 : a.length = a.cps.size := rfl
             rw [h6, Nat.mul_comm] at h3
             simpa using h3)
          | skip
section
variable {X : Cx} {kx : XD} {ρ : Ro} {M : Mem} {pos p : Pos} {a b e : Expr} {es : List Expr} {s : Str} {i n : Int} {f : Str}
theorem dv_strN (hc : X.calm = true) (nd : NoDg X.K) (n : Bn X f (.type "str")) (h : StrOk i) (ha : DV X kx e ρ M (.int i)) (he : starEach [e] X.env = (false, eval e X.env) :: starEach [] X.env := by rfl) : DV X kx (.Call (.Name f p) [e] [] pos) ρ M (.str (Str.ofString (toString i))) :=
  dv_callT n (call_str_intN hc nd) (fun vs H H0 t r Q q => by
    obtain ⟨v, rfl, r1⟩ := repA1 r
    cases r1
    exact ⟨i, rfl, h, q _ H H0 (Pu.refl t.ex) (.str _)⟩) (da_cons ha da_nil he) he
theorem dv_intN (nd : NoDg X.K) (n : Bn X f (.type "int")) (h : PySem.intText? s = some i) (hl : s.length ≤ 4300) (ha : DV X kx e ρ M (.str s)) (he : starEach [e] X.env = (false, eval e X.env) :: starEach [] X.env := by rfl) : DV X kx (.Call (.Name f p) [e] [] pos) ρ M (.int i) :=
  dv_callT n (call_int_strN nd) (fun vs H H0 t r Q q => by
    obtain ⟨v, rfl, r1⟩ := repA1 r
    cases r1
    exact ⟨s, i, rfl, h, hl, q _ H H0 (Pu.refl t.ex) (.int _)⟩) (da_cons ha da_nil he) he
theorem dv_mulS (ha : DV X kx a ρ M (.str s)) (hb : DV X kx b ρ M (.int n)) (h : RepS s n) : DV X kx (.BinOp a .Mult b pos) ρ M (.str (repT s n)) :=
  dv_op op_mulS (fun v u H H0 t r1 r2 Q q => by
    cases r1; cases r2
    exact ⟨s, n, rfl, rfl, h, q _ H H0 (Pu.refl t.ex) (.str _)⟩) ha hb
end
end Dl
/-! ### f(e, ..), f a local name that holds a def -/
namespace Dl
open PySem PySem.Spec PyProof.Rows L2
section
variable {X : Cx} {kx : XD} {ρ : Ro} {M : Mem} {pos p : Pos} {e : Expr} {es : List Expr} {x y : Str} {k i : Nat} {ds dvs : List D} {f : Addr} {α : Type} {args : α → List D} {pre : α → Prop} {post : α → D → Prop} {ex : α → Value → List (Str × D) → Prop} {z : D}
theorem call_eL {sp : Sp} (G : GF X.prog X.w X.K X.mg X.base k y dvs sp) (hr : Room k X.A) (nm : Nm X i x) (hs : ρ[i]? = some (some (.adr f))) (hf : X.mg y = some (.ref f)) {σ : L2.St} {H H0 : Hp} {Q : VK} {W : WX} (t : Ht X.K H0 H M) (s : Sl X.K H0 σ ρ) (tk : Takes X W) (hx : Hx X W H0 H M kx) (ha : DA X kx (e :: es) ρ M ds)
    (h : ∀ vs us H1 H01, Pu H0 H H01 H1 → RepA X.K H01 vs ds → RepA X.K H01 us dvs → sp (vs ++ us) H1 Q (WE W σ))
    (he : starEach (e :: es) X.env = (false, eval e X.env) :: starEach es X.env := by rfl) (hpl : (backTo pos (starEach es X.env)).any (·.1) = false := by rfl) : sE X (.Call (.Name x p) (e :: es) [] pos) σ H Q := by
  obtain ⟨f', fd, ps, dv, vd, g1, g2, g3, g4, g5, g6⟩ := G
  rw [hf] at g1
  cases g1
  obtain ⟨v0, hv0, r0⟩ := s.2 i _ hs
  cases r0
  intro pins st I
  refine wpAny_Call_Name_kw (thn ((pe_var (pos := p) nm.get nm.vis nm.d1 nm.d2).run pins st σ H (fun v H1 => v = .ref f ∧ H1 = H) I ⟨.ref f, hv0, rfl, rfl⟩) fun u s1 ⟨v, H1, I1, r1, q1⟩ => ?_)
  obtain ⟨rfl, rfl⟩ := q1
  cases r1
  refine PySem.W.callWith_K (h₀ := X.base) I.ok.mod.kin g2 (thn ((pa_s (e :: es)).run pos pins s1 σ _ (fun vs H' => ∃ H01, Pu H0 _ H01 H' ∧ RepA X.K H01 vs ds) I1 (ha σ _ H0 t s W tk hx _ fun vs H' H0' p r => ⟨H0', p, r⟩)) fun us s1 ⟨vs, H1, I1, r, H01, p1, q1⟩ => ⟨I1.kIn, ?_⟩) he hpl
  exact run_fnSD (E := WE W) g3 hr g4 g5 (passAt tk σ) I1 r (h vs vd H1 H01 p1 q1 (g6 _))
theorem dv_callL (G : GF X.prog X.w X.K X.mg X.base k y dvs (spP X.K args pre post ex)) (hr : Room k X.A) (nm : Nm X i x) (hs : ρ[i]? = some (some (.adr f))) (hf : X.mg y = some (.ref f)) (ha : DA X kx (e :: es) ρ M ds) (a : α) (hargs : args a = ds ++ dvs) (hp : pre a) (hz : ∀ d, post a d → d = z) (hex : ∀ cls fs, ex a cls fs → kx cls fs ρ M)
    (he : starEach (e :: es) X.env = (false, eval e X.env) :: starEach es X.env := by rfl) (hpl : (backTo pos (starEach es X.env)).any (·.1) = false := by rfl) : DV X kx (.Call (.Name x p) (e :: es) [] pos) ρ M z := fun σ H H0 t s W tk hx Q q =>
  call_eL G hr nm hs hf t s tk hx ha (fun vs us H1 H01 p1 r ru => spP_use (t.pu p1) (s.mo p1.e0) (hx.pu p1) r ru a hargs hp hex fun v H' H0' d p2 rr pp => q v H' H0' (p1.trans p2) (by rw [← hz d pp]; exact rr)) he hpl
end
end Dl
namespace Dl
open PySem PySem.Spec PyProof.Rows L2
section
variable {X : Cx} {kx : XD} {ρ : Ro} {M : Mem} {pos p : Pos} {e : Expr} {x : D} {f : Str}
theorem de_sortedI {xs : List Int} {kk : D → Mem → Prop} (n : Bn X f (.builtin "sorted")) (ha : DV X kx e ρ M x) (h : SeqL M x (xs.map D.int)) (hk : ∀ w, w ∉ M.dom → kk (.adr w) ((w, .lst ((sortI xs).map D.int)) :: M))
    (hs : starEach [e] X.env = (false, eval e X.env) :: starEach [] X.env := by rfl) : DE X kx (.Call (.Name f p) [e] [] pos) ρ M kk := fun σ H H0 t s W tk hx Q q =>
  sE.by (pe_callB cr_sortedI n.gl n.mg n.bt (pa_s _) n.n n.d hs rfl) ((da_cons ha da_nil hs : DA X kx [e] ρ M [x]) σ H H0 t s W tk hx _ fun vs H1 H01 p1 r1 => by
    obtain ⟨v, rfl, r2⟩ := repA1 r1
    obtain ⟨l, rfl, h1⟩ := h.ints (t.pu p1) r2
    refine ⟨l, xs, rfl, h1, fun ns' w pm pw hw => ?_⟩
    have e1 : ns' = sortI xs := asc_one (pm.trans (sortI_perm xs).symm) pw (sortI_asc xs)
    subst e1
    exact q (.ref w) _ H01 _ _ (p1.go.trans (Go.new1 hw (.lst _))) ((t.pu p1).new1 (m := .lst ((sortI xs).map D.int)) hw fun H2 e2 => ⟨_, e2, RepA.ofInts _⟩) (.adr w) (hk w ((t.pu p1).free hw).2))
end
end Dl
/-! ### long lists written out -/
namespace Dl
open PySem PySem.Spec PyProof.Rows L2
section
variable {env : Env} {es : List Expr} {p : Pos}
theorem star_Constant {c : Const} {k : Nat} : starEach (.Constant c k p :: es) env = (false, eval (.Constant c k p) env) :: starEach es env := rfl
end
section
variable {X : Cx} {kx : XD} {ρ : Ro} {M : Mem} {P : Out → Mem → Prop} {rest : List Stmt}
/-- x = [..], a long one -/
theorem ds_setQ {st : Stmt} {e : Expr} {pos pos' : Pos} {i : Nat} {x : Str} {d : D} (he : st = .Assign [.Name x pos'] e pos) (n : Ns X i x) (h : DV X kx e ρ M d) (hp : DS X kx rest (ρ.set i (some d)) M P) (hs : swapsWithSole [.Name x pos'] e pos.line X.env = pure false) (hw : swappedStores [.Name x pos'] e X.env = pure none) : DS X kx (st :: rest) ρ M P := by
  subst he; exact ds_cons (ds1_set n h hp hs hw)
end
end Dl
namespace Dl
open PySem PySem.Spec PyProof.Rows L2
/-- the texts that a list written out holds -/
def strsOf : List Expr → Option (List Str)
  | [] => some []
  | .Constant (.str s) _ _ :: es => (strsOf es).map (s :: ·)
  | _ :: _ => none
section
variable {X : Cx} {kx : XD} {ρ : Ro} {M : Mem} {pos : Pos}
theorem da_strs : ∀ {es : List Expr} {ss : List Str}, strsOf es = some ss → DA X kx es ρ M (ss.map D.str)
  | [], ss, h => by cases h; exact da_nil
  | e :: es, ss, h => by
    unfold strsOf at h
    split at h
    · rename_i heq
      cases heq
    · rename_i s k p es' heq
      cases heq
      cases q : strsOf es with
      | none => rw [q] at h; cases h
      | some ss' =>
        rw [q] at h
        cases h
        exact da_cons dv_str (da_strs q) star_Constant
    · cases h
theorem dv_strs {es : List Expr} {ss : List Str} (h : strsOf es = some ss) (hl : ss.length ≤ 1000) : DV X kx (.List es pos) ρ M (.lst (ss.map D.str)) := dv_lst (da_strs h) (szN (ss.map D.str).length rfl (by rw [List.length_map]; exact hl))
end
end Dl
namespace Dl
open PySem PySem.Spec PyProof.Rows L2
/-- the plain things that a list written out holds: texts, small numbers, truth, None; lists of texts; pairs of numbers -/
def constD : Expr → Option D
  | .Constant (.str s) _ _ => some (.str s)
  | .Constant (.int i) _ _ => some (.int i)
  | .Constant (.bool b) _ _ => some (.bl b)
  | .Constant .none _ _ => some .non
  | .List es _ => match strsOf es with
    | some ss => if ss.length ≤ 1000 then some (.lst (ss.map D.str)) else none
    | none => none
  | .Tuple [.Constant (.int i) _ _, .Constant (.int j) _ _] _ _ => some (.tup [.int i, .int j])
  | _ => none
def constsD : List Expr → Option (List D)
  | [] => some []
  | e :: es => match constD e, constsD es with
    | some d, some ds => some (d :: ds)
    | _, _ => none
section
variable {X : Cx} {kx : XD} {ρ : Ro} {M : Mem} {pos : Pos}
theorem constD_dv {e : Expr} {d : D} (h : constD e = some d) : DV X kx e ρ M d ∧ ∀ (es : List Expr), starEach (e :: es) X.env = (false, eval e X.env) :: starEach es X.env := by
  unfold constD at h
  split at h
  · cases h; exact ⟨dv_str, fun _ => rfl⟩
  · cases h; exact ⟨dv_int, fun _ => rfl⟩
  · cases h; exact ⟨dv_bl, fun _ => rfl⟩
  · cases h; exact ⟨dv_non, fun _ => rfl⟩
  · rename_i es p
    cases q : strsOf es with
    | none => rw [q] at h; cases h
    | some ss =>
      rw [q] at h
      replace h : (if ss.length ≤ 1000 then some (D.lst (ss.map D.str)) else none) = some d := h
      by_cases c : ss.length ≤ 1000
      · rw [if_pos c] at h
        cases h
        exact ⟨dv_strs q c, fun _ => rfl⟩
      · rw [if_neg c] at h; cases h
  · cases h; exact ⟨dv_tup (da_cons dv_int (da_cons dv_int da_nil)) (szN 2 rfl), fun _ => rfl⟩
  · cases h
theorem da_consts : ∀ {es : List Expr} {ds : List D}, constsD es = some ds → DA X kx es ρ M ds
  | [], ds, h => by cases h; exact da_nil
  | e :: es, ds, h => by
    unfold constsD at h
    cases q1 : constD e with
    | none => rw [q1] at h; cases h
    | some d =>
      cases q2 : constsD es with
      | none => rw [q1, q2] at h; cases h
      | some ds' =>
        rw [q1, q2] at h
        cases h
        obtain ⟨a, b⟩ := constD_dv (X := X) (kx := kx) (ρ := ρ) (M := M) q1
        exact da_cons a (da_consts q2) (b es)
theorem dv_constsD {es : List Expr} {ds : List D} (h : constsD es = some ds) (hl : ds.length ≤ 1000) : DV X kx (.List es pos) ρ M (.lst (ds.map dD)) := by
  have e : ds.map dD = ds := by show ds.map (fun d => d) = ds; simp
  rw [e]
  exact dv_lst (da_consts h) (szN ds.length rfl hl)
end
end Dl

namespace Lw
open PySem PySem.Spec PyProof.Rows L2 Dl
/-! ### what each def computes -/
def dk_LI (t : List Int) : D := .lst (t.map D.int)
def dk_N (t : Unit) : D := .non
def dk_T2SOI (t : Str × (Option Int)) : D := .tup [.str t.1, dOpt D.int t.2]
def dk_T2II (t : Int × Int) : D := .tup [.int t.1, .int t.2]
def dk_LD (t : List D) : D := .lst (t.map dD)
def dk_T2ZZ (t : Zv × Zv) : D := .tup [dZ t.1, dZ t.2]
def dk_LT2II (t : List (Int × Int)) : D := .lst (t.map dk_T2II)
def dk_T2T2IIT2II (t : (Int × Int) × (Int × Int)) : D := .tup [dk_T2II t.1, dk_T2II t.2]
def dk_T2NN (t : Unit × Unit) : D := .tup [.non, .non]
noncomputable def F_l_number (cell1 : Int) : Ex Int := if (decide (cell1 % 4 = 0)) = true then .ok (((cell1 / 4) % 19) - 9) else if (decide (cell1 % 4 = 1)) = true then .ok (((cell1 / 4) % 2000001) - 1000000) else if (decide (cell1 % 4 = 2)) = true then .ok (((cell1 / 4) % 2000000000000000000000000000000000000000000000000000000000001) - 1000000000000000000000000000000000000000000000000000000000000) else gd (("123456789" : Str).length ≤ 100000) (bindP (ixE ("123456789" : Str).cps.toList ((cell1 / 4) % 9)) fun c6 => gd (RepS (sg c6) (1 + ((cell1 / 36) % 1000))) (gd ((repT (sg c6) (1 + ((cell1 / 36) % 1000))).length ≤ 4300) (bindP (someE (PySem.intText? (repT (sg c6) (1 + ((cell1 / 36) % 1000))))) fun i10 => if (decide ((cell1 / 8) % 2 = 1)) = true then .ok (0 - i10) else .ok i10)))
noncomputable def F_show_number (number1 : Int) : Ex Str := gd (StrOk number1) (.ok (Str.ofString (toString (number1 : Int))))
noncomputable def F_l_due (text1 : Str) : Ex (Option Int) := if (!true) = true then .ok none else gd (text1.length ≤ 100000) (jpE (fun (figures9 : Str) => bindP (orE (decide (figures9 = ("" : Str))) (gd (figures9.length ≤ 100000) (bindP (orE (decide (1000 < (figures9.length : Int))) (gd (figures9.length ≤ 100000) (bindP (ixE figures9.cps.toList 0) fun c12 => .ok ((decide ((sg c12) = ("0" : Str))) && (!decide (text1 = ("0" : Str))))))) fun b14 => .ok b14))) fun b16 => if b16 = true then .ok none else bindX (loopE (ρ := Option Int) (fun (_ : Unit) (x19 : Str) => gd (oneS x19) (if (!inSg x19 ("0123456789" : Str)) = true then .ok (.rt none) else .ok (.nx ()))) () (sgs figures9)) fun c => ctE c (fun (_ : Unit) => gd (text1.length ≤ 4300) (bindP (someE (PySem.intText? text1)) fun i24 => .ok (some i24))) (fun r29 => .ok r29)) fun jk5 => if (decide (cutS text1 none (some 1) = ("-" : Str))) = true then gd (text1.length ≤ 100000) (letE (cutS text1 (some 1) none) fun figures7 => jk5 figures7) else jk5 text1)
noncomputable def F_needed (truth1 : Bool) : Ex Unit := if (!truth1) = true then .exc "NoText" [("line", .int 0)] else .ok ()
noncomputable def F_read_number (text1 : Str) : Ex Int := bindX (F_needed true) fun r2 => jpE (fun (figures9 : Str) => gd (figures9.length ≤ 100000) (bindX (F_needed (decide (1 ≤ (figures9.length : Int)) && decide ((figures9.length : Int) ≤ 1000))) fun r11 => gd ((sgs figures9).length ≤ 100000) (bindP (compE (fun (u13 : Str) => .ok true) (fun (u13 : Str) => gd (oneS u13) (.ok (inSg u13 ("0123456789" : Str)))) (sgs figures9)) fun ys17 => bindX (F_needed (ys17.all id)) fun r19 => gd (figures9.length ≤ 100000) (bindP (ixE figures9.cps.toList 0) fun c22 => bindX (F_needed ((!decide ((sg c22) = ("0" : Str))) || (decide (text1 = ("0" : Str))))) fun r24 => gd (text1.length ≤ 4300) (bindP (someE (PySem.intText? text1)) fun i27 => .ok i27))))) fun jk5 => if (Txt.startswith text1 ("-" : Str)) = true then gd (text1.length ≤ 100000) (letE (cutS text1 (some 1) none) fun figures7 => jk5 figures7) else jk5 text1
noncomputable def F_l_whole (thing1 : Option Int) : Ex Bool := .ok (thing1.isSome && (!false))
noncomputable def F_l_read (text1 : Str) : Ex (Str × (Option Int)) := letE ("told" : Str) fun word2 => jpE (fun ((found31, word32) : (Option Int) × Str) => bindP (andE (decide (word32 = ("told" : Str))) (bindP (F_l_whole found31) fun r33 => .ok (!r33))) fun b35 => letE (if b35 = true then letE ("other" : Str) fun word39 => word39 else word32) (fun (word41 : Str) => Ex.ok (word41, found31))) fun jk4 => tryF ["NoText"] (bindX (F_read_number text1) fun found6 => .ok ((some found6), word2)) jk4 [(["NoText"], fun e8 => letE ("other" : Str) fun word9 => gd (e8.1 ∈ (["NoText"] : List Str)) (bindP (andE (decide (e8.1 ∈ (["NoText"] : List Str))) (gd (e8.1 ∈ (["NoText"] : List Str)) (bindP (andE (!(decide (e8.1 ∈ ([] : List Str)))) (gd (e8.1 ∈ (["NoText"] : List Str)) (.ok (!(decide (e8.1 ∈ ([] : List Str))))))) fun b14 => .ok b14))) fun b16 => jpE (fun (word30 : Str) => jk4 (none, word30)) fun jk19 => if b16 = true then gd (e8.1 ∈ (["NoText"] : List Str)) (bindP (fldE e8 "line") fun line21 => bindP (orE false (gd (e8.1 ∈ (["NoText"] : List Str)) (bindP (fldE e8 "line") fun line24 => .ok (!decide (line24 = 0))))) fun b26 => bindP (ixE [("none" : Str), ("other" : Str)] (if b26 = true then (1 : Int) else 0)) fun x28 => jk19 x28) else jk19 word9))]
noncomputable def F_l_right (text1 : Str) : Ex Bool := bindP (F_l_due text1) fun r2 => letE ("told" : Str) fun word4 => letE (if r2.isNone = true then letE ("none" : Str) fun word8 => word8 else word4) (fun (word10 : Str) => bindP (F_l_read text1) fun r11 => gd (layD (dk_T2SOI r11)) (gd (layD (dk_T2SOI (word10, r2))) (.ok (decide (r11 = (word10, r2))))))
noncomputable def F_l_odd (cell1 : Int) : Ex D := letE [("" : Str), ("-" : Str), ("+1" : Str), ("-0" : Str), ("00" : Str), ("01" : Str), ("-01" : Str), ("1 " : Str), (" 1" : Str), ("1.0" : Str), ("0x1" : Str), ("1_0" : Str), ("--1" : Str), ("1-" : Str), ("1e3" : Str), ("none" : Str), ("1/2" : Str)] fun some2 => gd (((some2.map fun x => (.str x : D)).length + [(.str ("1:2" : Str) : D), (.str ("a" : Str) : D), (.str ("1\n" : Str) : D), (.str ("	1" : Str) : D), (.non : D), (.int 7 : D), (dk_T2II (1, 2) : D), (.bl true : D), (.lst ([("1" : Str)].map D.str) : D)].length : Nat) ≤ 100000) (letE ((some2.map fun x => (.str x : D)) ++ [(.str ("1:2" : Str) : D), (.str ("a" : Str) : D), (.str ("1\n" : Str) : D), (.str ("	1" : Str) : D), (.non : D), (.int 7 : D), (dk_T2II (1, 2) : D), (.bl true : D), (.lst ([("1" : Str)].map D.str) : D)]) fun some5 => bindP (ixE some5 (cell1 % 26)) fun x7 => .ok x7)
noncomputable def F_l_spoilt (text1 : Str) (cell2 : Int) : Ex D := gd (text1.length ≤ 100000) (gd (0 < 1 + (text1.length : Int)) (letE ((cell2 / 5) % (1 + (text1.length : Int))) fun at5 => if (decide (cell2 % 5 = 0)) = true then gd (text1.length ≤ 100000) (gd ((" -+.0_,x9" : Str).length ≤ 100000) (bindP (ixE (" -+.0_,x9" : Str).cps.toList ((cell2 / 7) % 9)) fun c10 => gd (((cutS text1 none (some at5)).length + (sg c10).length : Nat) ≤ 100000) (gd (text1.length ≤ 100000) (gd ((((cutS text1 none (some at5)) ++ (sg c10)).length + (cutS text1 (some at5) none).length : Nat) ≤ 100000) (.ok (.str (((cutS text1 none (some at5)) ++ (sg c10)) ++ (cutS text1 (some at5) none)) : D)))))) else if (decide (cell2 % 5 = 1)) = true then gd (text1.length ≤ 100000) (gd (text1.length ≤ 100000) (gd (((cutS text1 none (some at5)).length + (cutS text1 (some ((at5 + 1) + ((cell2 / 7) % 2))) none).length : Nat) ≤ 100000) (.ok (.str ((cutS text1 none (some at5)) ++ (cutS text1 (some ((at5 + 1) + ((cell2 / 7) % 2))) none)) : D)))) else if (decide (cell2 % 5 = 2)) = true then gd (RepS ("8" : Str) (1001 + ((cell2 / 5) % 300))) (.ok (.str (repT ("8" : Str) (1001 + ((cell2 / 5) % 300))) : D)) else if (decide (cell2 % 5 = 3)) = true then gd (RepS ("-" : Str) ((cell2 / 5) % 3)) (gd (((repT ("-" : Str) ((cell2 / 5) % 3)).length + text1.length : Nat) ≤ 100000) (.ok (.str ((repT ("-" : Str) ((cell2 / 5) % 3)) ++ text1) : D))) else bindP (F_l_odd (cell2 / 5)) fun r24 => .ok r24))
noncomputable def F_l_due_2 (text1 : D) : Ex (Option Int) := gd (flatD text1) (if (!(dSel text1 false false false true false false)) = true then .ok none else bindP (someE (asS text1)) fun s4 => gd (s4.length ≤ 100000) (jpE (fun (figures14 : D) => gd (flatD figures14) (gd (flatD (.str ("" : Str) : D)) (bindP (orE (eqvD figures14 (.str ("" : Str) : D)) (bindP (someE (asS figures14)) fun s17 => gd (s17.length ≤ 100000) (bindP (orE (decide (1000 < (s17.length : Int))) (bindP (someE (asS figures14)) fun s20 => gd (s20.length ≤ 100000) (bindP (ixE s20.cps.toList 0) fun c23 => bindP (andE (decide ((sg c23) = ("0" : Str))) (gd (flatD text1) (gd (flatD (.str ("0" : Str) : D)) (.ok (!(eqvD text1 (.str ("0" : Str) : D))))))) fun b27 => .ok b27))) fun b29 => .ok b29))) fun b31 => if b31 = true then .ok none else bindP (someE (asS figures14)) fun s34 => bindX (loopE (ρ := Option Int) (fun (_ : Unit) (x36 : Str) => gd (oneS x36) (if (!inSg x36 ("0123456789" : Str)) = true then .ok (.rt none) else .ok (.nx ()))) () (sgs s34)) fun c => ctE c (fun (_ : Unit) => bindP (someE (asS text1)) fun s40 => gd (s40.length ≤ 4300) (bindP (someE (PySem.intText? s40)) fun i43 => .ok (some i43))) (fun r48 => .ok r48)))) fun jk8 => if (decide (cutS s4 none (some 1) = ("-" : Str))) = true then bindP (someE (asS text1)) fun s9 => gd (s9.length ≤ 100000) (letE (cutS s9 (some 1) none) fun figures12 => jk8 (.str figures12 : D)) else jk8 text1))
noncomputable def F_read_number_2 (text1 : D) : Ex Int := gd (flatD text1) (bindX (F_needed (dSel text1 false false false true false false)) fun r3 => bindP (someE (asS text1)) fun s5 => jpE (fun (figures14 : D) => bindP (someE (asS figures14)) fun s15 => gd (s15.length ≤ 100000) (bindX (F_needed (decide (1 ≤ (s15.length : Int)) && decide ((s15.length : Int) ≤ 1000))) fun r18 => bindP (someE (asS figures14)) fun s20 => gd ((sgs s20).length ≤ 100000) (bindP (compE (fun (u22 : Str) => .ok true) (fun (u22 : Str) => gd (oneS u22) (.ok (inSg u22 ("0123456789" : Str)))) (sgs s20)) fun ys26 => bindX (F_needed (ys26.all id)) fun r28 => bindP (someE (asS figures14)) fun s30 => gd (s30.length ≤ 100000) (bindP (ixE s30.cps.toList 0) fun c33 => bindP (orE (!decide ((sg c33) = ("0" : Str))) (gd (flatD text1) (gd (flatD (.str ("0" : Str) : D)) (.ok (eqvD text1 (.str ("0" : Str) : D)))))) fun b37 => bindX (F_needed b37) fun r39 => bindP (someE (asS text1)) fun s41 => gd (s41.length ≤ 4300) (bindP (someE (PySem.intText? s41)) fun i44 => .ok i44))))) fun jk8 => if (Txt.startswith s5 ("-" : Str)) = true then bindP (someE (asS text1)) fun s9 => gd (s9.length ≤ 100000) (letE (cutS s9 (some 1) none) fun figures12 => jk8 (.str figures12 : D)) else jk8 text1)
noncomputable def F_l_read_2 (text1 : D) : Ex (Str × (Option Int)) := letE ("told" : Str) fun word2 => jpE (fun ((found31, word32) : (Option Int) × Str) => bindP (andE (decide (word32 = ("told" : Str))) (bindP (F_l_whole found31) fun r33 => .ok (!r33))) fun b35 => letE (if b35 = true then letE ("other" : Str) fun word39 => word39 else word32) (fun (word41 : Str) => Ex.ok (word41, found31))) fun jk4 => tryF ["NoText"] (bindX (F_read_number_2 text1) fun found6 => .ok ((some found6), word2)) jk4 [(["NoText"], fun e8 => letE ("other" : Str) fun word9 => gd (e8.1 ∈ (["NoText"] : List Str)) (bindP (andE (decide (e8.1 ∈ (["NoText"] : List Str))) (gd (e8.1 ∈ (["NoText"] : List Str)) (bindP (andE (!(decide (e8.1 ∈ ([] : List Str)))) (gd (e8.1 ∈ (["NoText"] : List Str)) (.ok (!(decide (e8.1 ∈ ([] : List Str))))))) fun b14 => .ok b14))) fun b16 => jpE (fun (word30 : Str) => jk4 (none, word30)) fun jk19 => if b16 = true then gd (e8.1 ∈ (["NoText"] : List Str)) (bindP (fldE e8 "line") fun line21 => bindP (orE false (gd (e8.1 ∈ (["NoText"] : List Str)) (bindP (fldE e8 "line") fun line24 => .ok (!decide (line24 = 0))))) fun b26 => bindP (ixE [("none" : Str), ("other" : Str)] (if b26 = true then (1 : Int) else 0)) fun x28 => jk19 x28) else jk19 word9))]
noncomputable def F_l_right_2 (text1 : D) : Ex Bool := bindP (F_l_due_2 text1) fun r2 => letE ("told" : Str) fun word4 => letE (if r2.isNone = true then letE ("none" : Str) fun word8 => word8 else word4) (fun (word10 : Str) => bindP (F_l_read_2 text1) fun r11 => gd (layD (dk_T2SOI r11)) (gd (layD (dk_T2SOI (word10, r2))) (.ok (decide (r11 = (word10, r2))))))
noncomputable def F_show_fraction (one1 : Zv) : Ex Str := bindP (zP one1) fun z2 => if (decide (z2.2 = 1)) = true then bindP (F_show_number z2.1) fun r5 => .ok r5 else bindP (F_show_number z2.1) fun r7 => gd ((r7.length + ("/" : Str).length : Nat) ≤ 100000) (bindP (F_show_number z2.2) fun r10 => gd (((r7 ++ ("/" : Str)).length + r10.length : Nat) ≤ 100000) (.ok ((r7 ++ ("/" : Str)) ++ r10)))
noncomputable def F_show_number_2 (number1 : Zv) : Ex Str := bindP (zI number1) fun z2 => gd (StrOk z2) (.ok (Str.ofString (toString (z2 : Int))))
noncomputable def F_fv_show_fraction_show_number (t0 : Bool) (x0 : Zv) : Ex Str := if t0 = true then F_show_number_2 x0 else F_show_fraction x0
noncomputable def F_show_pair (word1 : Str) (pair2 : Zv × Zv) : Ex Str := letE (if (decide (word1 = ("mean" : Str))) = true then false else true) (fun (show5 : Bool) => if (zSel pair2.1 true false false) = true then .ok ("none" : Str) else if (decide (pair2.1 = pair2.2)) = true then bindP (F_fv_show_fraction_show_number show5 pair2.1) fun r8 => .ok r8 else bindP (F_fv_show_fraction_show_number show5 pair2.1) fun r10 => gd ((r10.length + (".." : Str).length : Nat) ≤ 100000) (bindP (F_fv_show_fraction_show_number show5 pair2.2) fun r13 => gd (((r10 ++ (".." : Str)).length + r13.length : Nat) ≤ 100000) (.ok ((r10 ++ (".." : Str)) ++ r13))))
noncomputable def F_l_pair (low1 : Str) (high2 : Str) : Ex Str := if (decide (low1 = high2)) = true then .ok low1 else gd ((low1.length + (".." : Str).length : Nat) ≤ 100000) (gd (((low1 ++ (".." : Str)).length + high2.length : Nat) ≤ 100000) (.ok ((low1 ++ (".." : Str)) ++ high2)))
noncomputable def F_show_fraction_2 (one1 : Int × Int) : Ex Str := if (decide (one1.2 = 1)) = true then bindP (F_show_number one1.1) fun r3 => .ok r3 else bindP (F_show_number one1.1) fun r5 => gd ((r5.length + ("/" : Str).length : Nat) ≤ 100000) (bindP (F_show_number one1.2) fun r8 => gd (((r5 ++ ("/" : Str)).length + r8.length : Nat) ≤ 100000) (.ok ((r5 ++ ("/" : Str)) ++ r8)))
noncomputable def F_l_fraction (one1 : Int × Int) : Ex Str := if (decide (one1.2 = 1)) = true then gd (StrOk one1.1) (.ok (Str.ofString (toString (one1.1 : Int)))) else gd (StrOk one1.1) (gd (((Str.ofString (toString (one1.1 : Int))).length + ("/" : Str).length : Nat) ≤ 100000) (gd (StrOk one1.2) (gd ((((Str.ofString (toString (one1.1 : Int))) ++ ("/" : Str)).length + (Str.ofString (toString (one1.2 : Int))).length : Nat) ≤ 100000) (.ok (((Str.ofString (toString (one1.1 : Int))) ++ ("/" : Str)) ++ (Str.ofString (toString (one1.2 : Int))))))))
noncomputable def F_l_pairs_right (low1 : Int) (high2 : Int) (cell3 : Int) : Ex Bool := bindP (ixE [("many" : Str), ("sum" : Str), ("least" : Str), ("greatest" : Str)] (cell3 % 4)) fun x4 => jpE (fun (ends13 : List Int) => bindP (ixE ends13 0) fun x14 => bindP (ixE ends13 1) fun x16 => bindP (F_show_pair x4 ((Zv.i ((x14, x16).1)), (Zv.i ((x14, x16).2)))) fun r18 => bindP (ixE ends13 0) fun x20 => gd (StrOk x20) (bindP (ixE ends13 1) fun x23 => gd (StrOk x23) (bindP (F_l_pair (Str.ofString (toString (x20 : Int))) (Str.ofString (toString (x23 : Int)))) fun r26 => if (!decide (r18 = r26)) = true then .ok false else letE ((2 * ((cell3 / 12) % 100000000000000000000)) + 1) fun odd29 => bindP (ixE ends13 0) fun x31 => bindP (ixE ends13 0) fun x33 => bindP (ixE ends13 0) fun x35 => letE [(x31, 1), ((2 * x33) + 1, 2), ((1152921504606846976 * x35) + odd29, 1152921504606846976)] fun parts37 => bindX (loopE (ρ := Bool) (fun (_ : Unit) (x39 : Int × Int) => bindP (F_show_fraction_2 x39) fun r41 => bindP (orE (!true) (bindP (F_l_fraction x39) fun r43 => .ok (!decide (r41 = r43)))) fun b45 => if b45 = true then .ok (.rt false) else .ok (.nx ())) () parts37) fun c => ctE c (fun (_ : Unit) => bindP (ixE parts37 (cell3 % 3)) fun x48 => bindP (ixE parts37 ((cell3 / 3) % 3)) fun x50 => gd (Dl.MulOk x48.1 x50.2) (gd (Dl.MulOk x50.1 x48.2) (jpE (fun ((one56, other57) : (Int × Int) × (Int × Int)) => bindP (F_show_pair ("mean" : Str) ((Zv.p ((one56, other57).1).1 ((one56, other57).1).2), (Zv.p ((one56, other57).2).1 ((one56, other57).2).2))) fun r58 => bindP (orE (!true) (bindP (F_l_fraction one56) fun r60 => bindP (F_l_fraction other57) fun r62 => bindP (F_l_pair r60 r62) fun r64 => .ok (!decide (r58 = r64)))) fun b66 => if b66 = true then .ok false else bindP (F_show_pair x4 (Zv.n, Zv.n)) fun r69 => bindP (andE (decide (r69 = ("none" : Str))) (bindP (F_show_pair ("mean" : Str) (Zv.n, Zv.n)) fun r71 => .ok (decide (r71 = ("none" : Str))))) fun b73 => .ok b73) fun jk55 => if (decide (x50.1 * x48.2 < x48.1 * x50.2)) = true then jk55 (x50, x48) else jk55 (x48, x50)))) (fun r78 => .ok r78)))) fun jk8 => if (decide ((cell3 / 4) % 3 = 0)) = true then bindP (ixE (sortI [low1, high2]) 0) fun x9 => bindP (setE (sortI [low1, high2]) 1 x9) fun ends11 => jk8 ends11 else jk8 (sortI [low1, high2])
noncomputable def F_law (script1 : List Int) : Ex Bool := letE (cutD' script1 none (some 16)) fun cells2 => gd (RngOk (cells2.length : Int)) (bindX (loopE (ρ := Bool) (fun (_ : Unit) (x5 : Int) => bindP (ixE cells2 x5) fun x7 => bindP (F_l_number x7) fun r9 => gd (StrOk r9) (letE (Str.ofString (toString (r9 : Int))) fun text12 => bindP (F_show_number r9) fun r14 => if ((!true) || (!decide (r14 = text12))) = true then .ok (.rt false) else bindP (F_l_right text12) fun r17 => bindP (orE (!r17) (bindP (ixE cells2 (x5 - 1)) fun x19 => bindP (F_l_spoilt text12 (x19 / 11)) fun r21 => bindP (F_l_right_2 r21) fun r23 => .ok (!r23))) fun b25 => if b25 = true then .ok (.rt false) else bindP (ixE cells2 x5) fun x28 => letE (((x28 / 3) % 200000000000000000000000000000000000000000000000000) - 100000000000000000000000000000000000000000000000000) fun low30 => bindP (ixE cells2 (x5 - 1)) fun x32 => bindP (ixE cells2 (x5 - 1)) fun x34 => bindP (F_l_pairs_right low30 (((x32 / 7) % 2001) - 1000) (x34 / 3)) fun r36 => if (!r36) = true then .ok (.rt false) else .ok (.nx ()))) () (rngD 0 (cells2.length : Int).toNat)) fun c => ctE c (fun (_ : Unit) => bindP (F_l_right ("-1" : Str)) fun r39 => bindP (andE r39 (bindP (F_l_right ("0" : Str)) fun r41 => bindP (andE r41 (bindP (F_l_right ("-0" : Str)) fun r43 => .ok r43)) fun b45 => .ok b45)) fun b47 => .ok b47) (fun r52 => .ok r52))
end Lw
namespace Lw
open PySem PySem.Spec PyProof.Rows L2 Dl
/-! ### sums -/
def sm {α : Type} (f : α → Int) (xs : List α) : Int := (xs.map f).sum
section
variable {α : Type} {f g : α → Int} {xs ys : List α}
end
end Lw

namespace Lw
open PySem PySem.Spec PyProof.Rows L2 Dl
theorem cutS_to {b : List Nat} {i : Int} (h0 : 0 ≤ i) (h : i ≤ b.length) : cutS ⟨b.toArray⟩ none (some i) = ⟨(b.take i.toNat).toArray⟩ := by
  obtain ⟨n, rfl⟩ := Int.eq_ofNat_of_zero_le h0
  unfold cutS
  rw [HT.sIx_nat, HT.sIx_none]
  have l : (⟨b.toArray⟩ : Str).length = b.length := by simp [Str.length]
  rw [l, show min n b.length - 0 = n by omega]
  rfl
theorem cutS_from {b : List Nat} {i : Int} (h0 : 0 ≤ i) (h : i ≤ b.length) : cutS ⟨b.toArray⟩ (some i) none = ⟨(b.drop i.toNat).toArray⟩ := by
  obtain ⟨n, rfl⟩ := Int.eq_ofNat_of_zero_le h0
  unfold cutS
  rw [HT.sIx_nat, HT.sIx_none]
  have l : (⟨b.toArray⟩ : Str).length = b.length := by simp [Str.length]
  rw [l, show min n b.length = n by omega]
  show (⟨(List.take (b.length - n) (List.drop n b)).toArray⟩ : Str) = _
  rw [List.take_of_length_le (by rw [List.length_drop]; omega)]
  rfl
end Lw

-- use base
-- use cuts
namespace Lw
open PySem PySem.Spec PyProof.Rows L2 Dl PySem.NumText
/-! ### numbers as texts -/
def txt (b : List Nat) : Str := ⟨b.toArray⟩
theorem txt_cps (b : List Nat) : (txt b).cps.toList = b := by simp [txt]
theorem txt_len (b : List Nat) : (txt b).length = b.length := by simp [txt, Str.length]
theorem txt_of (s : Str) : s = txt s.cps.toList := by
  obtain ⟨a⟩ := s
  simp [txt]
theorem txt_inj {a b : List Nat} : txt a = txt b ↔ a = b := by
  constructor
  · intro h
    have := congrArg (fun s : Str => s.cps.toList) h
    simpa [txt] using this
  · intro h; rw [h]
theorem txt_app (a b : List Nat) : txt a ++ txt b = txt (a ++ b) := by
  show (⟨a.toArray ++ b.toArray⟩ : Str) = _
  simp [txt]
def figL (b : List Nat) : List Nat := if b.head? = some 45 then b.tail else b
def isDg (c : Nat) : Bool := decide (48 ≤ c ∧ c ≤ 57)
theorem alld {b : List Nat} : b.all isDg = true ↔ AllDigits b := by
  rw [List.all_eq_true]
  constructor
  · intro h c hc; exact of_decide_eq_true (h c hc)
  · intro h c hc; exact decide_eq_true (h c hc)
def dgL (m : Nat) : List Nat := (Nat.toDigits 10 m).map Char.toNat
def nL (i : Int) : List Nat := if i < 0 then 45 :: dgL i.natAbs else dgL i.natAbs
theorem dgL_all (m : Nat) : AllDigits (dgL m) := by
  intro c hc
  obtain ⟨ch, hch, e⟩ := List.mem_map.mp hc
  have r := digit_range (Nat.isDigit_of_mem_toDigits (by decide) (by decide) hch)
  rw [← e]
  exact r
theorem dgL_ne (m : Nat) : dgL m ≠ [] := by
  intro e
  have h := toDigits_len_ge 10 m
  rw [List.map_eq_nil_iff.mp e] at h
  exact absurd h (by decide)
theorem nTxt (i : Int) : Str.ofString (toString i) = txt (nL i) := by
  rw [txt_of (Str.ofString (toString i)), signs_ofString]
  congr 1
  cases i with
  | ofNat m =>
    have h : ¬ ((Int.ofNat m : Int) < 0) := by simp
    unfold nL
    rw [if_neg h]
    show (Nat.repr m).toList.map Char.toNat = _
    rw [Nat.toList_repr]; rfl
  | negSucc m =>
    have h : (Int.negSucc m : Int) < 0 := Int.negSucc_lt_zero m
    unfold nL
    rw [if_pos h]
    show (String.append "-" (Nat.repr (m + 1))).toList.map Char.toNat = _
    have e : (String.append "-" (Nat.repr (m + 1))).toList = '-' :: (Nat.repr (m + 1)).toList := by
      show ("-" ++ Nat.repr (m + 1)).toList = _
      rw [String.toList_append]; rfl
    rw [e, List.map_cons, Nat.toList_repr]; rfl
theorem nL_len {i : Int} {k : Nat} (hk : 0 < k) (h : i.natAbs < 10 ^ k) : (nL i).length ≤ k + 1 := by
  have e := congrArg Str.length (nTxt i)
  rw [txt_len] at e
  rw [← e, PySem.ofString_length]
  have := int_text_length_le10 hk h
  omega
theorem nL_chars (i : Int) : ∀ c ∈ nL i, c = 45 ∨ (48 ≤ c ∧ c ≤ 57) := by
  intro c hc
  unfold nL at hc
  split at hc
  · rcases List.mem_cons.mp hc with rfl | hc
    · exact .inl rfl
    · exact .inr (dgL_all _ c hc)
  · exact .inr (dgL_all _ c hc)
theorem dg_val (m : Nat) : digitsVal (dgL m) = m := PySem.W.KIN.val_back m
theorem nL_read {i : Int} (h : (nL i).length ≤ 4300) : PySem.intText? (txt (nL i)) = some i := by
  unfold nL at h ⊢
  by_cases c : i < 0
  · rw [if_pos c] at h ⊢
    rw [intText_neg (cs := dgL i.natAbs) (by rw [txt_cps]) (dgL_all _) (dgL_ne _) (by rw [txt_len]; exact h), dg_val]
    congr 1; omega
  · rw [if_neg c] at h ⊢
    rw [intText_digits (by rw [txt_cps]; exact dgL_all _) (by rw [txt_cps]; exact dgL_ne _) (by rw [txt_len]; exact h), txt_cps, dg_val]
    congr 1; omega
theorem nL_inj {i j : Int} (hi : (nL i).length ≤ 4300) (hj : (nL j).length ≤ 4300) (h : nL i = nL j) : i = j := by
  have a := nL_read hi
  rw [h, nL_read hj] at a
  exact (Option.some.inj a).symm
theorem dg_lt : ∀ {cs : List Nat}, AllDigits cs → ∀ a : Nat, cs.foldl (fun acc c => acc * 10 + (c - 48)) a < (a + 1) * 10 ^ cs.length
  | [], _, a => by simp
  | c :: cs, h, a => by
    rw [List.foldl_cons, List.length_cons]
    have ih := dg_lt (fun x hx => h x (List.mem_cons_of_mem _ hx)) (a * 10 + (c - 48))
    have hc := h c (List.mem_cons_self ..)
    refine Nat.lt_of_lt_of_le ih ?_
    rw [Nat.pow_succ, Nat.mul_comm (10 ^ cs.length) 10, ← Nat.mul_assoc]
    exact Nat.mul_le_mul_right _ (by omega)
theorem val_lt {cs : List Nat} (h : AllDigits cs) : digitsVal cs < 10 ^ cs.length := by
  have := dg_lt h 0
  rw [Nat.zero_add, Nat.one_mul] at this
  exact this
/-- what may be read as a number -/
def GoodN (b : List Nat) : Bool := decide (1 ≤ (figL b).length) && (decide ((figL b).length ≤ 1000) && ((figL b).all isDg && (!decide ((figL b).head? = some 48) || decide (b = [48]))))
theorem good_read {b : List Nat} (h1 : figL b ≠ []) (h2 : (figL b).length ≤ 1000) (h3 : AllDigits (figL b)) : ∃ n, PySem.intText? (txt b) = some n := by
  unfold figL at h1 h2 h3
  cases b with
  | nil => exact absurd rfl h1
  | cons c r =>
    by_cases e : c = 45
    · subst e
      have f : (if (45 :: r).head? = some 45 then (45 :: r).tail else 45 :: r) = r := if_pos rfl
      rw [f] at h1 h2 h3
      exact ⟨_, intText_neg (cs := r) (by rw [txt_cps]) h3 h1 (by rw [txt_len, List.length_cons]; omega)⟩
    · have f : (if (c :: r).head? = some 45 then (c :: r).tail else c :: r) = c :: r := if_neg (by simpa using e)
      rw [f] at h1 h2 h3
      exact ⟨_, intText_digits (by rw [txt_cps]; exact h3) (by rw [txt_cps]; exact h1) (by rw [txt_len]; omega)⟩
theorem strOk_pow {i : Int} {k : Nat} (hk : k ≤ 4300) (h : i.natAbs < 10 ^ k) : StrOk i := Nat.lt_of_lt_of_le h (Nat.pow_le_pow_right (by decide) hk)
end Lw

-- use nums
namespace Lw
open PySem PySem.Spec PyProof.Rows L2 Dl PySem.NumText
theorem flat_txt {b : List Nat} (h : ∀ c ∈ b, c < 128) : Dl.flatD (.str (txt b)) := by
  refine ⟨by simp [D.flat], ?_⟩
  unfold SeqAt.shaped
  have e : PyData.canLay0 (D.py (.str (txt b))) = true := by
    show (txt b).cps.all (fun x => decide (x < 0x110000)) = true
    rw [← Array.all_toList, List.all_eq_true]
    intro c hc
    have := h c (by simpa [txt] using hc)
    exact decide_eq_true (by omega)
  rw [e, Bool.true_and]
  simp [D.py, PyData.depth]
theorem eqv_str (a b : Str) : eqvD (.str a) (.str b) = decide (a = b) := by
  show PyData.eqv (D.py (.str a)) (D.py (.str b)) = _
  simp only [D.py, PyData.eqv]
  by_cases h : a = b
  · simp [h]
  · simp [h]
theorem t_zero : ("0" : Str) = txt [48] := by decide +kernel
theorem t_minus : ("-" : Str) = txt [45] := by decide +kernel
theorem t_empty : ("" : Str) = txt [] := by decide +kernel
theorem t_digits : ("0123456789" : Str).cps.toList = [48, 49, 50, 51, 52, 53, 54, 55, 56, 57] := by decide +kernel
theorem in_dg (c : Nat) : inSg (sg c) ("0123456789" : Str) = isDg c := by
  rw [inSg_sg, t_digits]
  unfold isDg
  by_cases h : 48 ≤ c ∧ c ≤ 57
  · rw [decide_eq_true h]
    refine decide_eq_true ?_
    simp only [List.mem_cons, List.not_mem_nil, or_false]; omega
  · rw [decide_eq_false h]
    refine decide_eq_false fun z => h ?_
    simp only [List.mem_cons, List.not_mem_nil, or_false] at z; omega
theorem sgs_txt (b : List Nat) : sgs (txt b) = b.map sg := by unfold sgs; rw [txt_cps]
theorem sg_zero (c : Nat) : (sg c = ("0" : Str)) ↔ c = 48 := by
  rw [t_zero]
  show txt [c] = txt [48] ↔ _
  rw [txt_inj]; simp
theorem sw_minus (b : List Nat) : Txt.startswith (txt b) ("-" : Str) = decide (b.head? = some 45) := by
  rw [t_minus]
  unfold Txt.startswith
  rw [txt_len, txt_len]
  cases b with
  | nil => rfl
  | cons c r =>
    have e : Builtin.Str.subAt (txt (c :: r)) (txt [45]) 0 = (#[c] == #[45]) := by
      unfold Builtin.Str.subAt
      rw [txt_len]
      show ((c :: r).toArray.extract 0 1 == #[45]) = _
      simp
    rw [e]
    by_cases h : c = 45
    · subst h; simp
    · simp [h]
theorem cut_one (b : List Nat) : cutS (txt b) none (some 1) = ("-" : Str) ↔ b.head? = some 45 := by
  cases b with
  | nil =>
    have : cutS (txt []) none (some 1) = txt [] := by decide +kernel
    rw [this, t_minus, txt_inj]; simp
  | cons c r =>
    have e := cutS_to (b := c :: r) (i := 1) (by decide) (by simp; omega)
    rw [show txt (c :: r) = ⟨(c :: r).toArray⟩ from rfl, e, t_minus]
    show txt (List.take 1 (c :: r)) = txt [45] ↔ _
    rw [txt_inj]; simp
theorem cut_fig {b : List Nat} (h : b.head? = some 45) : cutS (txt b) (some 1) none = txt (figL b) := by
  cases b with
  | nil => cases h
  | cons c r =>
    have e := cutS_from (b := c :: r) (i := 1) (by decide) (by simp; omega)
    rw [show txt (c :: r) = ⟨(c :: r).toArray⟩ from rfl, e]
    unfold figL
    rw [if_pos h]; rfl
theorem fig_no {b : List Nat} (h : b.head? ≠ some 45) : figL b = b := if_neg h
theorem fig_len (b : List Nat) : (figL b).length ≤ b.length := by
  unfold figL
  split <;> simp
theorem needed_eq (c : Bool) : F_needed c = if c = true then .ok () else .exc "NoText" [("line", .int 0)] := by cases c <;> rfl
def numE (b : List Nat) : Ex Int := if GoodN b = true then (match PySem.intText? (txt b) with | some n => .ok n | none => .bad) else .exc "NoText" [("line", .int 0)]
theorem good_iff (b : List Nat) : GoodN b = true ↔ (1 ≤ (figL b).length ∧ (figL b).length ≤ 1000) ∧ (figL b).all isDg = true ∧ ((figL b).head? ≠ some 48 ∨ b = [48]) := by
  unfold GoodN
  simp only [Bool.and_eq_true, Bool.or_eq_true, Bool.not_eq_true', decide_eq_true_eq, decide_eq_false_iff_not]
  constructor
  · rintro ⟨a, b, c, d⟩; exact ⟨⟨a, b⟩, c, d⟩
  · rintro ⟨⟨a, b⟩, c, d⟩; exact ⟨a, b, c, d⟩
theorem good_num {b : List Nat} (g : GoodN b = true) : ∃ n, PySem.intText? (txt b) = some n := by
  obtain ⟨⟨a, b'⟩, c, _⟩ := (good_iff b).mp g
  exact good_read (List.ne_nil_of_length_pos a) b' (alld.mp c)
theorem numE_bad {b : List Nat} (g : ¬ GoodN b = true) : numE b = .exc "NoText" [("line", .int 0)] := if_neg g
theorem all_id (f : List Nat) : (((f.map sg).map fun u => inSg u ("0123456789" : Str)).all id) = f.all isDg := by
  rw [List.map_map, List.all_map]
  congr 1
  funext c
  exact in_dg c
theorem fig_eq {β : Type} {b : List Nat} (hb : b.length ≤ 4000) (K : Str → Ex β) : (jpE K fun jk => if Txt.startswith (txt b) ("-" : Str) = true then gd ((txt b).length ≤ 100000) (letE (cutS (txt b) (some 1) none) fun f => jk f) else jk (txt b)) = K (txt (figL b)) := by
  show (if Txt.startswith (txt b) ("-" : Str) = true then gd ((txt b).length ≤ 100000) (letE (cutS (txt b) (some 1) none) fun f => K f) else K (txt b)) = K (txt (figL b))
  rw [sw_minus]
  by_cases h : b.head? = some 45
  · rw [if_pos (decide_eq_true h), gd_ok (by rw [txt_len]; omega), cut_fig h]; rfl
  · rw [if_neg (by rw [decide_eq_false h]; decide), fig_no h]
theorem fig_eqC {β : Type} {b : List Nat} (hb : b.length ≤ 4000) (K : Str → Ex β) : (jpE K fun jk => if decide (cutS (txt b) none (some 1) = ("-" : Str)) = true then gd ((txt b).length ≤ 100000) (letE (cutS (txt b) (some 1) none) fun f => jk f) else jk (txt b)) = K (txt (figL b)) := by
  show (if decide (cutS (txt b) none (some 1) = ("-" : Str)) = true then gd ((txt b).length ≤ 100000) (letE (cutS (txt b) (some 1) none) fun f => K f) else K (txt b)) = K (txt (figL b))
  by_cases h : b.head? = some 45
  · rw [if_pos (decide_eq_true ((cut_one b).mpr h)), gd_ok (by rw [txt_len]; omega), cut_fig h]; rfl
  · rw [if_neg (by rw [decide_eq_false (fun z => h ((cut_one b).mp z))]; decide), fig_no h]
theorem read_ok {b : List Nat} (hb : b.length ≤ 4000) : F_read_number (txt b) = numE b := by
  unfold F_read_number
  rw [show F_needed true = .ok () from rfl, bindX_ok]
  refine (fig_eq hb _).trans ?_
  have fl := fig_len b
  have tl := txt_len (figL b)
  rw [gd_ok (by rw [tl]; omega)]
  rw [needed_eq, tl]
  by_cases h1 : 1 ≤ (figL b).length ∧ (figL b).length ≤ 1000
  case neg =>
    rw [if_neg (by simp only [Bool.and_eq_true, decide_eq_true_eq]; omega), numE_bad (fun g => h1 ((good_iff b).mp g).1)]; rfl
  rw [if_pos (by simp only [Bool.and_eq_true, decide_eq_true_eq]; omega)]
  show gd ((sgs (txt (figL b))).length ≤ 100000) _ = _
  rw [sgs_txt, gd_ok (by rw [List.length_map]; omega), compE_map (g := fun u => inSg u ("0123456789" : Str)) _ (fun x hx => by
    obtain ⟨c, _, rfl⟩ := List.mem_map.mp hx
    exact gd_ok (oneS_sg c)), bindP_ok, all_id, needed_eq]
  by_cases h2 : (figL b).all isDg = true
  case neg =>
    rw [if_neg h2, numE_bad (fun g => h2 ((good_iff b).mp g).2.1)]; rfl
  rw [if_pos h2]
  show gd ((txt (figL b)).length ≤ 100000) _ = _
  rw [gd_ok (by rw [tl]; omega)]
  obtain ⟨c, r, e⟩ := List.exists_cons_of_length_pos h1.1
  have ix : ixE (txt (figL b)).cps.toList 0 = .ok c := by rw [txt_cps, e]; rfl
  rw [ix, bindP_ok, needed_eq]
  have hd : (figL b).head? = some c := by rw [e]; rfl
  have z1 : decide (sg c = ("0" : Str)) = decide (c = 48) := by congr 1; exact propext (sg_zero c)
  have z2 : decide (txt b = ("0" : Str)) = decide (b = [48]) := by rw [t_zero]; congr 1; exact propext txt_inj
  rw [z1, z2]
  by_cases h3 : (figL b).head? ≠ some 48 ∨ b = [48]
  case neg =>
    have c48 : c = 48 := by
      have := not_or.mp h3
      have := Classical.not_not.mp this.1
      rw [hd] at this; exact Option.some.inj this
    have nb : b ≠ [48] := (not_or.mp h3).2
    rw [if_neg (by rw [decide_eq_true c48, decide_eq_false nb]; decide), numE_bad (fun g => h3 ((good_iff b).mp g).2.2)]; rfl
  have g : GoodN b = true := (good_iff b).mpr ⟨h1, h2, h3⟩
  have t : (!decide (c = 48) || decide (b = [48])) = true := by
    rcases h3 with h | h
    · rw [decide_eq_false (fun z => h (by rw [hd, z]))]; rfl
    · rw [decide_eq_true h]; simp
  rw [if_pos t]
  show gd ((txt b).length ≤ 4300) _ = _
  rw [gd_ok (by rw [txt_len]; omega)]
  obtain ⟨n, hn⟩ := good_num g
  unfold numE
  rw [if_pos g, hn]; rfl
def dueB (b : List Nat) : Option Int := if GoodN b = true then PySem.intText? (txt b) else none
theorem due_bad {b : List Nat} (g : ¬ GoodN b = true) : dueB b = none := if_neg g
theorem loop_dg {γ : Type} {f : List Nat} {k : Unit → Ex γ} {r : Option Int → Ex γ} {Q : γ → Prop} (h1 : f.all isDg = true → Ret (k ()) Q) (h2 : ¬ f.all isDg = true → Ret (r none) Q) :
    Ret (Dl.bindX (loopE (ρ := Option Int) (fun (_ : Unit) (x : Str) => gd (oneS x) (if (!inSg x ("0123456789" : Str)) = true then .ok (.rt none) else .ok (.nx ()))) () (f.map sg)) fun c => ctE c k r) Q := by
  refine Ret.loopX (fun j _ => (f.take j).all isDg = true) (fun _ => False) (fun r => r = none ∧ ¬ f.all isDg = true) rfl (fun j z x hx hj => ?_) (fun z hz => ?_) (fun z hz => hz.elim) (fun x hx => ?_)
  · rw [List.getElem?_map] at hx
    cases q : f[j]? with
    | none => rw [q] at hx; cases hx
    | some c =>
      rw [q] at hx
      obtain rfl : sg c = x := by simpa using hx
      refine Ret.gd (oneS_sg c) ?_
      rw [in_dg]
      cases hc : isDg c with
      | true =>
        refine Ret.f rfl (Ret.ok ?_)
        show (f.take (j + 1)).all isDg = true
        rw [List.take_add_one, q, List.all_append, hj]
        simp [hc]
      | false =>
        refine Ret.t rfl (Ret.ok ⟨rfl, fun z => ?_⟩)
        rw [List.all_eq_true.mp z c (List.mem_of_getElem? q)] at hc; cases hc
  · rw [List.length_map, List.take_length] at hz
    exact h1 hz
  · obtain ⟨rfl, h⟩ := hx
    exact h2 h
theorem due_ok {b : List Nat} (hb : b.length ≤ 4000) : F_l_due (txt b) = .ok (dueB b) := by
  unfold F_l_due
  rw [if_neg (by decide), gd_ok (by rw [txt_len]; omega)]
  refine (fig_eqC hb _).trans ?_
  have fl := fig_len b
  have tl := txt_len (figL b)
  have em : decide (txt (figL b) = ("" : Str)) = decide (figL b = []) := by rw [t_empty]; congr 1; exact propext txt_inj
  have z2 : decide (txt b = ("0" : Str)) = decide (b = [48]) := by rw [t_zero]; congr 1; exact propext txt_inj
  have g1 : (txt (figL b)).length ≤ 100000 := by rw [tl]; omega
  refine Ret.eq ?_
  rw [em, z2]
  refine Ret.bindP (R := fun c => c = true ↔ ¬ ((1 ≤ (figL b).length ∧ (figL b).length ≤ 1000) ∧ ((figL b).head? ≠ some 48 ∨ b = [48]))) (Ret.orE (fun e => ?_) fun e => ?_) fun c hc => ?_
  · have ne := of_decide_eq_false e
    obtain ⟨x, r, e2⟩ := List.exists_cons_of_ne_nil ne
    have l1 : 1 ≤ (figL b).length := by rw [e2]; simp
    refine Ret.gd g1 (Ret.bindP (R := fun c => c = true ↔ ¬ ((1 ≤ (figL b).length ∧ (figL b).length ≤ 1000) ∧ ((figL b).head? ≠ some 48 ∨ b = [48]))) (Ret.orE (fun e3 => ?_) fun e3 => ?_) fun c hc => Ret.ok hc)
    · have h2 := of_decide_eq_false e3
      rw [tl] at h2
      have ix : ixE (txt (figL b)).cps.toList 0 = .ok x := by rw [txt_cps, e2]; rfl
      have z1 : decide (sg x = ("0" : Str)) = decide (x = 48) := by congr 1; exact propext (sg_zero x)
      have hd : (figL b).head? = some x := by rw [e2]; rfl
      refine Ret.gd g1 (Ret.eqP ix (Ret.ok ?_))
      rw [z1, hd]
      simp only [Bool.and_eq_true, Bool.not_eq_true', decide_eq_true_eq, decide_eq_false_iff_not, ne_eq, Option.some.injEq]
      constructor
      · rintro ⟨a1, a2⟩ ⟨_, a3⟩
        rcases a3 with a3 | a3
        · exact a3 a1
        · exact a2 a3
      · intro h
        by_cases x48 : x = 48
        · exact ⟨x48, fun z => h ⟨⟨l1, by omega⟩, .inr z⟩⟩
        · exact absurd ⟨⟨l1, by omega⟩, .inl x48⟩ h
    · have h2 := of_decide_eq_true e3
      rw [tl] at h2
      exact ⟨fun _ z => by omega, fun _ => rfl⟩
  · have e' := of_decide_eq_true e
    exact ⟨fun _ z => by rw [e'] at z; simp at z, fun _ => rfl⟩
  cases c with
  | true =>
    have h := hc.mp rfl
    refine Ret.t rfl (Ret.ok ?_)
    rw [due_bad fun g => h ⟨((good_iff b).mp g).1, ((good_iff b).mp g).2.2⟩]
  | false =>
    have h : (1 ≤ (figL b).length ∧ (figL b).length ≤ 1000) ∧ ((figL b).head? ≠ some 48 ∨ b = [48]) := Classical.not_not.mp fun z => by cases hc.mpr z
    refine Ret.f rfl ?_
    rw [sgs_txt]
    refine loop_dg (fun d => ?_) (fun d => Ret.ok ?_)
    · have g : GoodN b = true := (good_iff b).mpr ⟨h.1, d, h.2⟩
      obtain ⟨n, hn⟩ := good_num g
      refine Ret.gd (by rw [txt_len]; omega) ?_
      rw [hn]
      refine Ret.ok ?_
      unfold dueB
      rw [if_pos g, hn]
    · rw [due_bad fun g => d ((good_iff b).mp g).2.1]
def readB (b : List Nat) : Str × Option Int := if GoodN b = true then ("told", PySem.intText? (txt b)) else ("none", none)
/-- what the law's reading says, of what the program's says -/
noncomputable def lreadE (m : Ex Int) : Ex (Str × (Option Int)) := letE ("told" : Str) fun word2 => jpE (fun ((found31, word32) : (Option Int) × Str) => bindP (andE (decide (word32 = ("told" : Str))) (bindP (F_l_whole found31) fun r33 => .ok (!r33))) fun b35 => letE (if b35 = true then letE ("other" : Str) fun word39 => word39 else word32) (fun (word41 : Str) => Ex.ok (word41, found31))) fun jk4 => tryF ["NoText"] (bindX m fun found6 => .ok ((some found6), word2)) jk4 [(["NoText"], fun e8 => letE ("other" : Str) fun word9 => gd (e8.1 ∈ (["NoText"] : List Str)) (bindP (andE (decide (e8.1 ∈ (["NoText"] : List Str))) (gd (e8.1 ∈ (["NoText"] : List Str)) (bindP (andE (!(decide (e8.1 ∈ ([] : List Str)))) (gd (e8.1 ∈ (["NoText"] : List Str)) (.ok (!(decide (e8.1 ∈ ([] : List Str))))))) fun b14 => .ok b14))) fun b16 => jpE (fun (word30 : Str) => jk4 (none, word30)) fun jk19 => if b16 = true then gd (e8.1 ∈ (["NoText"] : List Str)) (bindP (fldE e8 "line") fun line21 => bindP (orE false (gd (e8.1 ∈ (["NoText"] : List Str)) (bindP (fldE e8 "line") fun line24 => .ok (!decide (line24 = 0))))) fun b26 => bindP (ixE [("none" : Str), ("other" : Str)] (if b26 = true then (1 : Int) else 0)) fun x28 => jk19 x28) else jk19 word9))]
theorem lreadE_ok (n : Int) : lreadE (.ok n) = .ok ("told", some n) := by
  unfold lreadE
  refine Ret.eq (Ret.letI (Ret.jpE ?_))
  rw [tryF_ok (m := bindX (Ex.ok n) fun found6 => .ok ((some found6), ("told" : Str))) (a := (some n, ("told" : Str))) rfl]
  refine Ret.bindP (R := fun b => b = false) (Ret.andE (fun _ => ?_) (fun _ => rfl)) fun b hb => ?_
  · exact Ret.eqP (a := true) rfl (Ret.ok rfl)
  · subst hb; exact Ret.ok rfl
theorem lreadE_no : lreadE (.exc "NoText" [("line", .int 0)]) = .ok ("none", none) := by
  unfold lreadE
  refine Ret.eq (Ret.letI (Ret.jpE ?_))
  rw [tryF_exc (n := "NoText") (fs := [("line", .int 0)]) (m := bindX (Ex.exc "NoText" [("line", .int 0)]) fun (found6 : Int) => .ok ((some found6), ("told" : Str))) rfl (by decide), hdF_yes (by dsimp only; decide)]
  refine Ret.letI (Ret.gd (by dsimp only; decide) (Ret.bindP (R := fun b => b = true) (Ret.andE (fun _ => Ret.gd (by dsimp only; decide) ?_) (fun z => absurd z (by dsimp only; decide))) fun b hb => ?_))
  · refine Ret.bindP (R := fun b => b = true) (Ret.andE (fun _ => Ret.gd (by dsimp only; decide) (Ret.ok ?_)) (fun z => absurd z (by decide))) fun b hb => Ret.ok hb
    decide
  · subst hb
    refine Ret.jpE (Ret.t rfl (Ret.gd (by dsimp only; decide) (Ret.eqP (a := 0) rfl ?_)))
    refine Ret.bindP (R := fun b => b = false) (Ret.orE (fun _ => Ret.gd (by dsimp only; decide) ?_) (fun z => by cases z)) fun b hb => ?_
    · exact Ret.eqP (a := 0) rfl (Ret.ok (by decide))
    subst hb
    refine Ret.eqP (a := ("none" : Str)) rfl ?_
    refine Ret.bindP (R := fun b => b = false) (Ret.andE (fun z => absurd (of_decide_eq_true z) (by decide)) (fun _ => rfl)) fun b hb => ?_
    subst hb
    exact Ret.ok rfl
theorem numE_cases (b : List Nat) : (∃ n, GoodN b = true ∧ PySem.intText? (txt b) = some n ∧ numE b = .ok n) ∨ (¬ GoodN b = true ∧ numE b = .exc "NoText" [("line", .int 0)]) := by
  by_cases g : GoodN b = true
  · obtain ⟨n, hn⟩ := good_num g
    refine .inl ⟨n, g, hn, ?_⟩
    unfold numE
    rw [if_pos g, hn]
  · exact .inr ⟨g, numE_bad g⟩
theorem lread_ok {b : List Nat} (hb : b.length ≤ 4000) : F_l_read (txt b) = .ok (readB b) := by
  have e : F_l_read (txt b) = lreadE (F_read_number (txt b)) := rfl
  rw [e, read_ok hb]
  unfold readB
  rcases numE_cases b with ⟨n, g, hn, e⟩ | ⟨g, e⟩
  · rw [e, lreadE_ok, if_pos g, hn]
  · rw [e, lreadE_no, if_neg g]
theorem lay_pair (w : Str) (o : Option Int) (h : PyData.strOk w = true) : layD (dk_T2SOI (w, o)) := by
  cases o with
  | none => unfold layD; simp [dk_T2SOI, dOpt, D.py, D.pyA, PyData.canLay0, PyData.canLayAll0, h]
  | some n => unfold layD; simp [dk_T2SOI, dOpt, D.py, D.pyA, PyData.canLay0, PyData.canLayAll0, h]
theorem right_ok {b : List Nat} (hb : b.length ≤ 4000) : F_l_right (txt b) = .ok true := by
  unfold F_l_right
  rw [due_ok hb, bindP_ok, lread_ok hb]
  have l1 : PyData.strOk ("told" : Str) = true := by decide +kernel
  have l2 : PyData.strOk ("none" : Str) = true := by decide +kernel
  by_cases g : GoodN b = true
  · obtain ⟨n, hn⟩ := good_num g
    unfold dueB readB
    rw [if_pos g, if_pos g, hn]
    show gd (layD (dk_T2SOI (("told" : Str), some n))) (gd (layD (dk_T2SOI (("told" : Str), some n))) (.ok (decide ((("told" : Str), some n) = (("told" : Str), some n))))) = _
    rw [gd_ok (lay_pair _ _ l1), gd_ok (lay_pair _ _ l1)]
    simp
  · unfold dueB readB
    rw [if_neg g, if_neg g]
    show gd (layD (dk_T2SOI (("none" : Str), none))) (gd (layD (dk_T2SOI (("none" : Str), none))) (.ok (decide ((("none" : Str), (none : Option Int)) = (("none" : Str), none))))) = _
    rw [gd_ok (lay_pair _ _ l2), gd_ok (lay_pair _ _ l2)]
    simp

/-! ### things that may be no text -/
def GoodD (d : D) : Prop := (∃ b : List Nat, d = .str (txt b) ∧ b.length ≤ 4000 ∧ ∀ c ∈ b, c < 128) ∨ (Dl.flatD d ∧ dSel d false false false true false false = false)
theorem fig_lt {b : List Nat} (h : ∀ c ∈ b, c < 128) : ∀ c ∈ figL b, c < 128 := by
  intro c hc
  unfold figL at hc
  split at hc
  · exact h c (List.mem_of_mem_tail hc)
  · exact h c hc
theorem flat_lit {b : List Nat} {s : Str} (e : s = txt b) (h : ∀ c ∈ b, c < 128) : Dl.flatD (.str s) := by rw [e]; exact flat_txt h
theorem fig_eqCD {β : Type} {b : List Nat} (hb : b.length ≤ 4000) (K : D → Ex β) : (jpE K fun jk => if decide (cutS (txt b) none (some 1) = ("-" : Str)) = true then bindP (someE (asS (.str (txt b)))) fun s9 => gd (s9.length ≤ 100000) (letE (cutS s9 (some 1) none) fun f => jk (.str f)) else jk (.str (txt b))) = K (.str (txt (figL b))) := fig_eqC hb fun f => K (.str f)
theorem fig_eqD {β : Type} {b : List Nat} (hb : b.length ≤ 4000) (K : D → Ex β) : (jpE K fun jk => if Txt.startswith (txt b) ("-" : Str) = true then bindP (someE (asS (.str (txt b)))) fun s9 => gd (s9.length ≤ 100000) (letE (cutS s9 (some 1) none) fun f => jk (.str f)) else jk (.str (txt b))) = K (.str (txt (figL b))) := fig_eq hb fun f => K (.str f)
theorem asS_str (s : Str) : someE (asS (.str s)) = .ok s := rfl
theorem andE_ok (a x : Bool) : andE a (.ok x) = .ok (a && x) := by cases a <;> rfl
theorem orE_ok (a x : Bool) : orE a (.ok x) = .ok (a || x) := by cases a <;> rfl
theorem due2_ok {b : List Nat} (hb : b.length ≤ 4000) (hc : ∀ c ∈ b, c < 128) : F_l_due_2 (.str (txt b)) = F_l_due (txt b) := by
  unfold F_l_due_2 F_l_due
  have f0 := flat_txt hc
  have f1 := flat_txt (fig_lt hc)
  have fe : Dl.flatD (.str ("" : Str)) := flat_lit t_empty (by simp)
  have fz : Dl.flatD (.str ("0" : Str)) := flat_lit t_zero (by simp)
  have hl : (txt b).length ≤ 100000 := by rw [txt_len]; omega
  rw [gd_ok f0, if_neg (show ¬ (!(dSel (.str (txt b)) false false false true false false)) = true from (show ¬ (!true) = true by decide)), if_neg (show ¬ (!true) = true from by decide)]
  show gd ((txt b).length ≤ 100000) _ = gd ((txt b).length ≤ 100000) _
  rw [gd_ok hl, gd_ok hl]
  refine (fig_eqCD hb _).trans (Eq.trans ?_ (fig_eqC hb _).symm)
  rw [gd_ok f1, gd_ok fe]
  simp only [eqv_str, gd_ok f0, gd_ok fz, asS_str, bindP_ok, andE_ok]
theorem read2_ok {b : List Nat} (hb : b.length ≤ 4000) (hc : ∀ c ∈ b, c < 128) : F_read_number_2 (.str (txt b)) = F_read_number (txt b) := by
  unfold F_read_number_2 F_read_number
  have f0 := flat_txt hc
  have fz : Dl.flatD (.str ("0" : Str)) := flat_lit t_zero (by simp)
  rw [gd_ok f0]
  rw [show F_needed (dSel (.str (txt b)) false false false true false false) = .ok () from rfl, bindX_ok, show F_needed true = .ok () from rfl, bindX_ok]
  rw [asS_str, bindP_ok]
  refine (fig_eqD hb _).trans (Eq.trans ?_ (fig_eq hb _).symm)
  simp only [eqv_str, gd_ok f0, gd_ok fz, asS_str, bindP_ok, orE_ok]
theorem right2_txt {b : List Nat} (hb : b.length ≤ 4000) (hc : ∀ c ∈ b, c < 128) : F_l_right_2 (.str (txt b)) = .ok true := by
  have e : F_l_right_2 (.str (txt b)) = bindP (F_l_due_2 (.str (txt b))) fun r2 => letE ("told" : Str) fun word4 => letE (if r2.isNone = true then letE ("none" : Str) fun word8 => word8 else word4) (fun (word10 : Str) => bindP (lreadE (F_read_number_2 (.str (txt b)))) fun r11 => gd (layD (dk_T2SOI r11)) (gd (layD (dk_T2SOI (word10, r2))) (.ok (decide (r11 = (word10, r2)))))) := rfl
  rw [e, due2_ok hb hc, read2_ok hb hc]
  exact right_ok hb
theorem right2_no {d : D} (hf : Dl.flatD d) (h : dSel d false false false true false false = false) : F_l_right_2 d = .ok true := by
  have e : F_l_right_2 d = bindP (F_l_due_2 d) fun r2 => letE ("told" : Str) fun word4 => letE (if r2.isNone = true then letE ("none" : Str) fun word8 => word8 else word4) (fun (word10 : Str) => bindP (lreadE (F_read_number_2 d)) fun r11 => gd (layD (dk_T2SOI r11)) (gd (layD (dk_T2SOI (word10, r2))) (.ok (decide (r11 = (word10, r2)))))) := rfl
  have l2 : PyData.strOk ("none" : Str) = true := by decide +kernel
  have e1 : F_l_due_2 d = .ok none := by
    unfold F_l_due_2
    rw [gd_ok hf, h]; rfl
  have e2 : F_read_number_2 d = .exc "NoText" [("line", .int 0)] := by
    unfold F_read_number_2
    rw [gd_ok hf, h]; rfl
  rw [e, e1, e2, bindP_ok]
  show bindP (lreadE (.exc "NoText" [("line", .int 0)])) (fun r11 => gd (layD (dk_T2SOI r11)) (gd (layD (dk_T2SOI (("none" : Str), (none : Option Int)))) (.ok (decide (r11 = (("none" : Str), (none : Option Int))))))) = _
  rw [lreadE_no, bindP_ok]
  rw [gd_ok (lay_pair _ _ l2), gd_ok (lay_pair _ _ l2)]
  simp
theorem right2_ok {d : D} (h : GoodD d) : F_l_right_2 d = .ok true := by
  rcases h with ⟨b, rfl, h1, h2⟩ | ⟨h1, h2⟩
  · exact right2_txt h1 h2
  · exact right2_no h1 h2
theorem good_lit (s : Str) (h1 : s.cps.toList.length ≤ 4000) (h2 : (s.cps.toList.all fun c => decide (c < 128)) = true) : GoodD (.str s) :=
  .inl ⟨s.cps.toList, by rw [← txt_of], h1, fun c hc => of_decide_eq_true (List.all_eq_true.mp h2 c hc)⟩
theorem good_txt {b : List Nat} (h1 : b.length ≤ 4000) (h2 : ∀ c ∈ b, c < 128) : GoodD (.str (txt b)) := .inl ⟨b, rfl, h1, h2⟩
theorem odd_ok (c : Int) : Ret (F_l_odd c) GoodD := by
  unfold F_l_odd
  refine Ret.letI (Ret.gd (by decide) (Ret.letI (Ret.ixM (by omega) (by simp; omega) fun x hx => Ret.ok ?_)))
  rcases List.mem_append.mp hx with hx | hx
  · obtain ⟨s, hs, rfl⟩ := List.mem_map.mp hx
    simp only [List.mem_cons, List.not_mem_nil, or_false] at hs
    rcases hs with rfl | rfl | rfl | rfl | rfl | rfl | rfl | rfl | rfl | rfl | rfl | rfl | rfl | rfl | rfl | rfl | rfl <;> exact good_lit _ (by decide +kernel) (by decide +kernel)
  · simp only [List.mem_cons, List.not_mem_nil, or_false] at hx
    rcases hx with rfl | rfl | rfl | rfl | rfl | rfl | rfl | rfl | rfl
    iterate 4 exact good_lit _ (by decide +kernel) (by decide +kernel)
    all_goals exact .inr ⟨⟨by decide +kernel, by decide +kernel⟩, by decide⟩
/-! ### texts spoilt -/
theorem foldl_rep (c : Nat) : ∀ (k : Nat) (acc : List Nat), (List.replicate k (#[c] : Array Nat)).foldl (· ++ ·) acc.toArray = (acc ++ List.replicate k c).toArray
  | 0, acc => by simp
  | k + 1, acc => by
    rw [List.replicate_succ, List.foldl_cons]
    have e : acc.toArray ++ (#[c] : Array Nat) = (acc ++ [c]).toArray := by simp
    rw [e, foldl_rep c k (acc ++ [c]), List.append_assoc]
    rfl
theorem repT_sg (c : Nat) (n : Int) : repT (sg c) n = txt (List.replicate n.toNat c) := by
  unfold repT
  by_cases h : n < 1
  · rw [if_pos h, show n.toNat = 0 by omega]; rfl
  · rw [if_neg h]
    by_cases h1 : n = 1
    · subst h1; rfl
    · rw [if_neg (by
        simp only [Bool.or_eq_true, beq_iff_eq, not_or]
        exact ⟨h1, by show ¬ (1 = 0); decide⟩)]
      have := foldl_rep c n.toNat []
      show (⟨(List.replicate n.toNat (#[c] : Array Nat)).foldl (· ++ ·) #[]⟩ : Str) = _
      rw [show (#[] : Array Nat) = ([] : List Nat).toArray from rfl, this, List.nil_append]
      rfl
theorem tcut_to {b : List Nat} {i : Int} (h0 : 0 ≤ i) (h : i ≤ b.length) : cutS (txt b) none (some i) = txt (b.take i.toNat) := cutS_to h0 h
theorem tcut_from {b : List Nat} {i : Int} (h0 : 0 ≤ i) : cutS (txt b) (some i) none = txt (b.drop i.toNat) := by
  by_cases h : i ≤ b.length
  · exact cutS_from h0 h
  · obtain ⟨n, rfl⟩ := Int.eq_ofNat_of_zero_le h0
    have l : (txt b).length = b.length := txt_len b
    unfold cutS
    rw [HT.sIx_nat, HT.sIx_none, l, show min n b.length = b.length by omega]
    show (⟨(List.take (b.length - b.length) (List.drop b.length b)).toArray⟩ : Str) = _
    rw [List.drop_eq_nil_of_le (show b.length ≤ ((n : Nat) : Int).toNat by omega)]
    simp [txt]
theorem spoilt_ok {b : List Nat} (c : Int) (hb : b.length ≤ 1500) (hc : ∀ x ∈ b, x < 128) : Ret (F_l_spoilt (txt b) c) GoodD := by
  unfold F_l_spoilt
  have l := txt_len b
  have l2 : ((txt b).length : Int) = b.length := by rw [l]
  have m0 := Int.emod_nonneg (c / 5) (show 1 + ((txt b).length : Int) ≠ 0 by omega)
  have m1 := Int.emod_lt_of_pos (c / 5) (show 0 < 1 + ((txt b).length : Int) by omega)
  refine Ret.gd (by omega) (Ret.gd (by omega) (Ret.letE fun at5 hat => ?_))
  rw [← hat] at m0 m1
  have ct := tcut_to (b := b) m0 (by omega)
  refine Ret.iteD (fun _ => ?_) fun _ => Ret.iteD (fun _ => ?_) fun _ => Ret.iteD (fun _ => ?_) fun _ => Ret.iteD (fun _ => ?_) fun _ => (odd_ok _).bindP fun r hr => Ret.ok hr
  · refine Ret.gd (by omega) (Ret.gd (by decide +kernel) (Ret.ixM (by omega) (by rw [show (" -+.0_,x9" : Str).cps.toList = [32, 45, 43, 46, 48, 95, 44, 120, 57] by decide +kernel]; simp; omega) fun x hx => ?_))
    rw [ct, tcut_from m0, show sg x = txt [x] from rfl, txt_app, txt_app]
    simp only [txt_len]
    have h1 := List.length_take_le at5.toNat b
    have h2 : (b.drop at5.toNat).length ≤ b.length := by rw [List.length_drop]; omega
    have hx2 : x < 128 := by
      rw [show (" -+.0_,x9" : Str).cps.toList = [32, 45, 43, 46, 48, 95, 44, 120, 57] by decide +kernel] at hx
      simp only [List.mem_cons, List.not_mem_nil, or_false] at hx; omega
    refine Ret.gd (by simp only [List.length_cons, List.length_nil]; omega) (Ret.gd (by omega) (Ret.gd (by simp only [List.length_append, List.length_cons, List.length_nil]; omega) (Ret.ok (good_txt (by simp only [List.length_append, List.length_cons, List.length_nil]; omega) fun y hy => ?_))))
    rcases List.mem_append.mp hy with hy | hy
    · rcases List.mem_append.mp hy with hy | hy
      · exact hc y (List.mem_of_mem_take hy)
      · obtain rfl : y = x := by simpa using hy
        exact hx2
    · exact hc y (List.mem_of_mem_drop hy)
  · rw [ct, tcut_from (by omega), txt_app]
    simp only [txt_len]
    have h1 := List.length_take_le at5.toNat b
    have h2 : (b.drop (at5 + 1 + c / 7 % 2).toNat).length ≤ b.length := by rw [List.length_drop]; omega
    refine Ret.gd (by omega) (Ret.gd (by omega) (Ret.gd (by omega) (Ret.ok (good_txt (by rw [List.length_append]; omega) fun y hy => ?_))))
    rcases List.mem_append.mp hy with hy | hy
    · exact hc y (List.mem_of_mem_take hy)
    · exact hc y (List.mem_of_mem_drop hy)
  · have e8 : ("8" : Str) = sg 56 := by decide +kernel
    rw [e8, repT_sg]
    refine Ret.gd ⟨by omega, by omega, by rw [sizeLine_eq]; show 1 * _ ≤ _; omega⟩ (Ret.ok (good_txt (by rw [List.length_replicate]; omega) fun y hy => ?_))
    rw [List.eq_of_mem_replicate hy]; decide
  · have em : ("-" : Str) = sg 45 := by decide +kernel
    rw [em, repT_sg, txt_app, txt_len, txt_len, List.length_replicate]
    refine Ret.gd ⟨by omega, by omega, by rw [sizeLine_eq]; show 1 * _ ≤ _; omega⟩ (Ret.gd (by omega) (Ret.ok (good_txt (by rw [List.length_append, List.length_replicate]; omega) fun y hy => ?_)))
    rcases List.mem_append.mp hy with hy | hy
    · rw [List.eq_of_mem_replicate hy]; decide
    · exact hc y hy
/-! ### the numbers -/
theorem number_ok (c : Int) : Ret (F_l_number c) fun i => i.natAbs < 10 ^ 1000 := by
  unfold F_l_number
  have p1 : (10 : Nat) ^ 61 ≤ 10 ^ 1000 := Nat.pow_le_pow_right (by decide) (by decide)
  refine Ret.iteD (fun _ => Ret.ok (by omega)) fun _ => Ret.iteD (fun _ => Ret.ok (by omega)) fun _ => Ret.iteD (fun _ => Ret.ok (by omega)) fun _ => ?_
  have e9 : ("123456789" : Str).cps.toList = [49, 50, 51, 52, 53, 54, 55, 56, 57] := by decide +kernel
  refine Ret.gd (by decide +kernel) (Ret.ixM (by omega) (by rw [e9]; simp; omega) fun x hx => ?_)
  have hx2 : 48 ≤ x ∧ x ≤ 57 := by
    rw [e9] at hx
    simp only [List.mem_cons, List.not_mem_nil, or_false] at hx; omega
  have al : AllDigits (List.replicate (1 + c / 36 % 1000).toNat x) := fun y hy => by rw [List.eq_of_mem_replicate hy]; exact hx2
  have ll : (List.replicate (1 + c / 36 % 1000).toNat x).length ≤ 1000 := by rw [List.length_replicate]; omega
  rw [repT_sg, txt_len]
  have v := val_lt al
  have v2 : 10 ^ (List.replicate (1 + c / 36 % 1000).toNat x).length ≤ 10 ^ 1000 := Nat.pow_le_pow_right (by decide) ll
  refine Ret.gd ⟨by omega, by omega, by rw [sizeLine_eq]; show 1 * _ ≤ _; omega⟩ (Ret.gd (by omega) (Ret.someE (intText_digits (by rw [txt_cps]; exact al) (by rw [txt_cps]; intro z; have := congrArg List.length z; rw [List.length_replicate, List.length_nil] at this; omega) (by rw [txt_len]; omega)) ?_))
  rw [txt_cps]
  exact Ret.iteD (fun _ => Ret.ok (by omega)) fun _ => Ret.ok (by omega)
theorem nL_len1000 {i : Int} (h : i.natAbs < 10 ^ 1000) : (nL i).length ≤ 1001 := nL_len (by decide) h
theorem nL_128 (i : Int) : ∀ c ∈ nL i, c < 128 := fun c hc => by have := nL_chars i c hc; omega
theorem nL_no47 (i : Int) : 47 ∉ nL i := fun h => by have := nL_chars i 47 h; omega
theorem show_ok {i : Int} (h : i.natAbs < 10 ^ 1000) : F_show_number i = .ok (txt (nL i)) := by
  unfold F_show_number
  rw [gd_ok (strOk_pow (k := 1000) (by decide) h), nTxt]
/-! ### pairs -/
def fracL (p : Int × Int) : List Nat := if p.2 = 1 then nL p.1 else nL p.1 ++ 47 :: nL p.2
def FracOk (p : Int × Int) : Prop := p.1.natAbs < 10 ^ 100 ∧ p.2.natAbs < 10 ^ 100
theorem big1000 {i : Int} (h : i.natAbs < 10 ^ 100) : i.natAbs < 10 ^ 1000 := Nat.lt_of_lt_of_le h (Nat.pow_le_pow_right (by decide) (by decide))
theorem nL_len100 {i : Int} (h : i.natAbs < 10 ^ 100) : (nL i).length ≤ 101 := nL_len (by decide) h
theorem t_slash : ("/" : Str) = txt [47] := by decide +kernel
theorem t_dots : (".." : Str) = txt [46, 46] := by decide +kernel
theorem frac_len {p : Int × Int} (h : FracOk p) : (fracL p).length ≤ 203 := by
  have a := nL_len100 h.1
  have b := nL_len100 h.2
  unfold fracL
  split
  · omega
  · rw [List.length_append, List.length_cons]; omega
theorem split47 : ∀ {a b c d : List Nat}, 47 ∉ a → 47 ∉ c → a ++ 47 :: b = c ++ 47 :: d → a = c ∧ b = d
  | [], b, [], d, _, _, h => by simpa using h
  | [], b, x :: c, d, _, hc, h => by
    simp only [List.nil_append, List.cons_append, List.cons.injEq] at h
    exact absurd (by rw [← h.1]; simp) hc
  | x :: a, b, [], d, ha, _, h => by
    simp only [List.nil_append, List.cons_append, List.cons.injEq] at h
    exact absurd (by rw [h.1]; simp) ha
  | x :: a, b, y :: c, d, ha, hc, h => by
    simp only [List.cons_append, List.cons.injEq] at h
    obtain ⟨e1, e2⟩ := split47 (fun z => ha (List.mem_cons_of_mem _ z)) (fun z => hc (List.mem_cons_of_mem _ z)) h.2
    exact ⟨by rw [h.1, e1], e2⟩
theorem frac_inj {p q : Int × Int} (hp : FracOk p) (hq : FracOk q) (h : fracL p = fracL q) : p = q := by
  have a1 := nL_len100 hp.1
  have a2 := nL_len100 hp.2
  have b1 := nL_len100 hq.1
  have b2 := nL_len100 hq.2
  obtain ⟨t, u⟩ := p
  obtain ⟨v, w⟩ := q
  unfold fracL at h
  dsimp only at h a1 a2 b1 b2
  by_cases c1 : u = 1 <;> by_cases c2 : w = 1
  · rw [if_pos c1, if_pos c2] at h
    rw [nL_inj (by omega) (by omega) h, c1, c2]
  · rw [if_pos c1, if_neg c2] at h
    exact absurd (by rw [h]; simp) (nL_no47 t)
  · rw [if_neg c1, if_pos c2] at h
    exact absurd (by rw [← h]; simp) (nL_no47 v)
  · rw [if_neg c1, if_neg c2] at h
    obtain ⟨e1, e2⟩ := split47 (nL_no47 t) (nL_no47 v) h
    rw [nL_inj (by omega) (by omega) e1, nL_inj (by omega) (by omega) e2]

def pairL (a b : List Nat) : List Nat := if a = b then a else a ++ 46 :: 46 :: b
theorem lpair_ok {a b : List Nat} (ha : a.length ≤ 3000) (hb : b.length ≤ 3000) : F_l_pair (txt a) (txt b) = .ok (txt (pairL a b)) := by
  unfold F_l_pair pairL
  rw [t_dots]
  by_cases h : a = b
  · rw [if_pos (decide_eq_true (by rw [h])), if_pos h]
  · rw [if_neg (by rw [decide_eq_false (fun z => h (txt_inj.mp z))]; decide), if_neg h]
    simp only [txt_app, txt_len]
    rw [gd_ok (by simp only [List.length_cons, List.length_nil]; omega), gd_ok (by simp only [List.length_append, List.length_cons, List.length_nil]; omega)]
    simp
theorem fv_num {k : Int} (h : k.natAbs < 10 ^ 1000) : F_fv_show_fraction_show_number true (Zv.i k) = .ok (txt (nL k)) := by
  unfold F_fv_show_fraction_show_number
  rw [if_pos rfl]
  show gd (StrOk k) _ = _
  rw [gd_ok (strOk_pow (k := 1000) (by decide) h), nTxt]
theorem frac_gen {p : Int × Int} (h : FracOk p) {m1 m2 : Ex Str} (e1 : m1 = .ok (txt (nL p.1))) (e2 : m2 = .ok (txt (nL p.2))) : (if (decide (p.2 = 1)) = true then bindP m1 fun r => .ok r else bindP m1 fun r5 => gd ((r5.length + ("/" : Str).length : Nat) ≤ 100000) (bindP m2 fun r8 => gd (((r5 ++ ("/" : Str)).length + r8.length : Nat) ≤ 100000) (.ok ((r5 ++ ("/" : Str)) ++ r8)))) = .ok (txt (fracL p)) := by
  have a := nL_len100 h.1
  have b := nL_len100 h.2
  rw [e1, e2]
  unfold fracL
  by_cases c : p.2 = 1
  · rw [if_pos (decide_eq_true c), if_pos c]; rfl
  · rw [if_neg (by rw [decide_eq_false c]; decide), if_neg c]
    simp only [bindP_ok, t_slash, txt_app, txt_len]
    rw [gd_ok (by simp only [List.length_cons, List.length_nil]; omega), gd_ok (by simp only [List.length_append, List.length_cons, List.length_nil]; omega)]
    simp
theorem fv_frac {p : Int × Int} (h : FracOk p) : F_fv_show_fraction_show_number false (Zv.p p.1 p.2) = .ok (txt (fracL p)) := by
  unfold F_fv_show_fraction_show_number
  rw [if_neg (by decide)]
  exact frac_gen h (show_ok (big1000 h.1)) (show_ok (big1000 h.2))
theorem frac2_ok {p : Int × Int} (h : FracOk p) : F_show_fraction_2 p = .ok (txt (fracL p)) := frac_gen h (show_ok (big1000 h.1)) (show_ok (big1000 h.2))
theorem lfrac_ok {p : Int × Int} (h : FracOk p) : F_l_fraction p = .ok (txt (fracL p)) := by
  have s1 := strOk_pow (k := 1000) (by decide) (big1000 h.1)
  have s2 := strOk_pow (k := 1000) (by decide) (big1000 h.2)
  have a := nL_len100 h.1
  have b := nL_len100 h.2
  unfold F_l_fraction fracL
  by_cases c : p.2 = 1
  · rw [if_pos (decide_eq_true c), if_pos c, gd_ok s1, nTxt]
  · rw [if_neg (by rw [decide_eq_false c]; decide), if_neg c, gd_ok s1]
    simp only [nTxt, t_slash, txt_app, txt_len]
    rw [gd_ok (by simp only [List.length_cons, List.length_nil]; omega), gd_ok s2, gd_ok (by simp only [List.length_append, List.length_cons, List.length_nil]; omega)]
    simp
theorem showpair_ok {w : Str} {s : Bool} {z1 z2 : Zv} {a b : List Nat} (hs : s = if (decide (w = ("mean" : Str))) = true then false else true) (hz : zSel z1 true false false = false) (h1 : F_fv_show_fraction_show_number s z1 = .ok (txt a)) (h2 : F_fv_show_fraction_show_number s z2 = .ok (txt b))
    (he : z1 = z2 ↔ a = b) (ha : a.length ≤ 3000) (hb : b.length ≤ 3000) : F_show_pair w (z1, z2) = .ok (txt (pairL a b)) := by
  unfold F_show_pair pairL letE
  rw [← hs]
  dsimp only
  rw [if_neg (by rw [hz]; decide)]
  by_cases c : a = b
  · rw [if_pos (decide_eq_true (he.mpr c)), if_pos c, h1]; rfl
  · rw [if_neg (by rw [decide_eq_false (fun z => c (he.mp z))]; decide), if_neg c, h1, h2]
    simp only [bindP_ok, t_dots, txt_app, txt_len]
    rw [gd_ok (by simp only [List.length_cons, List.length_nil]; omega), gd_ok (by simp only [List.length_append, List.length_cons, List.length_nil]; omega)]
    simp
theorem nonepair_ok (w : Str) : F_show_pair w (Zv.n, Zv.n) = .ok "none" := by
  unfold F_show_pair letE
  rfl
theorem two_of {l h : Int} : ∃ u v, sortI [l, h] = [u, v] ∧ (u = l ∨ u = h) ∧ (v = l ∨ v = h) := by
  have pm := sortI_perm [l, h]
  have len := pm.length_eq
  match e : sortI [l, h], len with
  | [u, v], _ =>
    rw [e] at pm
    refine ⟨u, v, rfl, ?_, ?_⟩
    · have := pm.mem_iff.mp (List.mem_cons_self (a := u) (l := [v]))
      simpa using this
    · have := pm.mem_iff.mp (show v ∈ [u, v] by simp)
      simpa using this
theorem pairs_ok {low high : Int} (cell : Int) (hl : low.natAbs ≤ 10 ^ 50) (hh : high.natAbs ≤ 10 ^ 50) : F_l_pairs_right low high cell = .ok true := by
  unfold F_l_pairs_right
  refine Ret.eq (Ret.ixM (by omega) (by simp; omega) fun w hw => ?_)
  have wn : ¬ w = ("mean" : Str) := by
    simp only [List.mem_cons, List.not_mem_nil, or_false] at hw
    rcases hw with rfl | rfl | rfl | rfl <;> decide
  have ws : true = if (decide (w = ("mean" : Str))) = true then false else true := by rw [decide_eq_false wn]; rfl
  have ms : false = if (decide (("mean" : Str) = ("mean" : Str))) = true then false else true := by rw [decide_eq_true rfl]; rfl
  obtain ⟨u, v, e, hu, hv⟩ := two_of (l := low) (h := high)
  have bu : u.natAbs ≤ 10 ^ 50 := by rcases hu with rfl | rfl <;> assumption
  have bv : v.natAbs ≤ 10 ^ 50 := by rcases hv with rfl | rfl <;> assumption
  rw [e]
  refine Ret.jpA (fun es => ∃ p q : Int, es = [p, q] ∧ p.natAbs ≤ 10 ^ 50 ∧ q.natAbs ≤ 10 ^ 50) (R := fun r => r = true) ?_ fun jk hjk => Ret.iteD (fun _ => Ret.eqP (a := u) rfl (Ret.eqP (a := [u, u]) rfl (Ret.letI (hjk _ ⟨u, u, rfl, bu, bu⟩)))) fun _ => hjk _ ⟨u, v, rfl, bu, bv⟩
  rintro es ⟨p, q, rfl, bp, bq⟩
  have p100 : (10 : Nat) ^ 50 < 10 ^ 100 := by decide +kernel
  have fp : p.natAbs < 10 ^ 100 := Nat.lt_of_le_of_lt bp p100
  have fq : q.natAbs < 10 ^ 100 := Nat.lt_of_le_of_lt bq p100
  have lp := nL_len100 fp
  have lq := nL_len100 fq
  have s1 := strOk_pow (k := 1000) (by decide) (big1000 fp)
  have s2 := strOk_pow (k := 1000) (by decide) (big1000 fq)
  have sp := showpair_ok (w := w) (z1 := Zv.i p) (z2 := Zv.i q) ws rfl (fv_num (big1000 fp)) (fv_num (big1000 fq)) ⟨fun z => by cases z; rfl, fun z => by rw [nL_inj (by omega) (by omega) z]⟩ (by omega) (by omega)
  refine Ret.eqP (a := p) rfl (Ret.eqP (a := q) rfl (Ret.eqP sp (Ret.eqP (a := p) rfl (Ret.gd s1 (Ret.eqP (a := q) rfl (Ret.gd s2 ?_))))))
  rw [nTxt, nTxt]
  refine Ret.eqP (lpair_ok (by omega) (by omega)) (Ret.iteN (fun z => absurd rfl z) fun _ => ?_)
  refine Ret.letE fun odd hodd => Ret.eqP (a := p) rfl (Ret.eqP (a := p) rfl (Ret.eqP (a := p) rfl (Ret.letE fun parts hparts => ?_)))
  have hf : ∀ x ∈ parts, FracOk x ∧ 1 ≤ x.2 ∧ x.2 < 2 ^ 64 := by
    intro x hx
    rw [hparts] at hx
    simp only [List.mem_cons, List.not_mem_nil, or_false] at hx
    have e50 : (10 : Nat) ^ 50 = 100000000000000000000000000000000000000000000000000 := by decide +kernel
    have e100 : (10 : Nat) ^ 100 = 10000000000000000000000000000000000000000000000000000000000000000000000000000000000000000000000000000 := by decide +kernel
    have e64 : (2 : Int) ^ 64 = 18446744073709551616 := by decide +kernel
    unfold FracOk
    rw [e100, e64]
    rw [e50] at bp
    rcases hx with rfl | rfl | rfl
    · exact ⟨⟨by dsimp only; omega, by dsimp only; omega⟩, by dsimp only; omega, by dsimp only; omega⟩
    · exact ⟨⟨by dsimp only; omega, by dsimp only; omega⟩, by dsimp only; omega, by dsimp only; omega⟩
    · exact ⟨⟨by dsimp only; omega, by dsimp only; omega⟩, by dsimp only; omega, by dsimp only; omega⟩
  have len : parts.length = 3 := by rw [hparts]; rfl
  refine Ret.loop (fun _ _ => True) trivial (fun j z x hx _ => ?_) fun _ _ => ?_
  · have fx := (hf x (List.mem_of_getElem? hx)).1
    refine Ret.eqP (frac2_ok fx) (Ret.bindP (R := fun b => b = false) (Ret.orE (fun _ => ?_) (fun z => by cases z)) fun b hb => ?_)
    · exact Ret.eqP (lfrac_ok fx) (Ret.ok (by simp))
    · subst hb; exact Ret.f rfl (Ret.ok ⟨(), rfl, trivial⟩)
  · refine Ret.ixM (by omega) (by rw [len]; omega) fun a ha => Ret.ixM (by omega) (by rw [len]; omega) fun b hb => ?_
    obtain ⟨fa, a1, a2⟩ := hf a ha
    obtain ⟨fb, b1, b2⟩ := hf b hb
    refine Ret.gd (mok_r (by omega) b2) (Ret.gd (mok_r (by omega) a2) ?_)
    refine Ret.jpA (fun z : (Int × Int) × (Int × Int) => FracOk z.1 ∧ FracOk z.2) (R := fun r => r = true) ?_ fun jk hjk => Ret.iteD (fun _ => hjk _ ⟨fb, fa⟩) fun _ => hjk _ ⟨fa, fb⟩
    rintro ⟨x, y⟩ ⟨fx, fy⟩
    dsimp only at fx fy ⊢
    have lx := frac_len fx
    have ly := frac_len fy
    have sq := showpair_ok (w := "mean") (z1 := Zv.p x.1 x.2) (z2 := Zv.p y.1 y.2) ms rfl (fv_frac fx) (fv_frac fy) ⟨fun z => by
      simp only [Zv.p.injEq] at z
      rw [Prod.ext z.1 z.2], fun z => by rw [frac_inj fx fy z]⟩ (by omega) (by omega)
    refine Ret.eqP sq (Ret.bindP (R := fun b => b = false) (Ret.orE (fun _ => ?_) (fun z => by cases z)) fun b hb => ?_)
    · exact Ret.eqP (lfrac_ok fx) (Ret.eqP (lfrac_ok fy) (Ret.eqP (lpair_ok (by omega) (by omega)) (Ret.ok (by simp))))
    · subst hb
      refine Ret.f rfl (Ret.eqP (nonepair_ok w) (Ret.bindP (R := fun b => b = true) (Ret.andE (fun _ => ?_) (fun z => absurd rfl (of_decide_eq_false z))) fun b hb => Ret.ok hb))
      exact Ret.eqP (nonepair_ok "mean") (Ret.ok (decide_eq_true rfl))
theorem lit_right (s : Str) (h : s.cps.toList.length ≤ 4000) : F_l_right s = .ok true := by
  rw [txt_of s]; exact right_ok h
theorem law_ok (ns : List Int) (hl : ns.length ≤ 63) : F_law ns = .ok true := by
  refine Ret.eq ?_
  unfold F_law
  refine Ret.letE fun cs hcs => Ret.gd ?_ ?_
  · have := cut_len ns none (some 16)
    rw [hcs]
    exact ⟨by omega, by omega⟩
  · refine Ret.loop (fun _ _ => True) trivial (fun j u x hx _ => ?_) fun _ _ => ?_
    · have bk := rngD_get hx
      have n0 : 0 < cs.length := by omega
      have last : ∃ y, ixE cs (x - 1) = .ok y := by
        by_cases q : 0 ≤ x - 1
        · exact ⟨_, ixE_nat q (List.getElem?_eq_getElem (by omega))⟩
        · exact ⟨_, ixE_neg (by omega) (by omega) (List.getElem?_eq_getElem (by omega))⟩
      obtain ⟨y, hy⟩ := last
      obtain ⟨c, hc⟩ : ∃ c, ixE cs x = .ok c := ⟨_, ixE_nat (by omega) (List.getElem?_eq_getElem (by omega))⟩
      refine Ret.eqP hc ((number_ok c).bindP fun i hi => Ret.gd (strOk_pow (k := 1000) (by decide) hi) (Ret.letI ?_))
      have li := nL_len1000 hi
      rw [nTxt]
      refine Ret.eqP (show_ok hi) (Ret.f (by simp) (Ret.eqP (right_ok (by omega)) ?_))
      refine Ret.bindP (R := fun b => b = false) (Ret.orE (fun _ => ?_) (fun z => by cases z)) fun b hb => ?_
      · exact Ret.eqP hy ((spoilt_ok _ (by omega) (nL_128 i)).bindP fun d hd => Ret.eqP (right2_ok hd) (Ret.ok rfl))
      · subst hb
        refine Ret.f rfl (Ret.eqP hc (Ret.letE fun low hlow => Ret.eqP hy (Ret.eqP hy (Ret.eqP (pairs_ok _ ?_ ?_) (Ret.f rfl (Ret.ok ⟨(), rfl, trivial⟩))))))
        · have e50 : (10 : Nat) ^ 50 = 100000000000000000000000000000000000000000000000000 := by decide +kernel
          rw [e50]; omega
        · have e50 : (10 : Nat) ^ 50 = 100000000000000000000000000000000000000000000000000 := by decide +kernel
          rw [e50]; omega
    · refine Ret.eqP (lit_right _ (by decide +kernel)) (Ret.bindP (R := fun b => b = true) (Ret.andE (fun _ => ?_) (fun z => by cases z)) fun b hb => Ret.ok hb)
      refine Ret.eqP (lit_right _ (by decide +kernel)) (Ret.bindP (R := fun b => b = true) (Ret.andE (fun _ => ?_) (fun z => by cases z)) fun b hb => Ret.ok hb)
      exact Ret.eqP (lit_right _ (by decide +kernel)) (Ret.ok rfl)
end Lw
namespace Lw
open PySem PySem.Spec PyProof.Rows L2 Dl
def topS (i : Nat) : Stmt := PySem.Challenge.pw_thinbook_k81_numbers_and_pairs.main.body.getD i (.Pass ⟨0, 0, 0, 0⟩)
abbrev s_xi_NoText : Stmt := inClass (topS 3) 0
abbrev s_l_number : Stmt := topS 14
abbrev s_show_number : Stmt := topS 9
abbrev s_l_due : Stmt := topS 17
abbrev s_needed : Stmt := topS 8
abbrev s_read_number : Stmt := topS 10
abbrev s_l_whole : Stmt := topS 18
abbrev s_l_read : Stmt := topS 19
abbrev s_l_right : Stmt := topS 20
abbrev s_l_odd : Stmt := topS 15
abbrev s_l_spoilt : Stmt := topS 16
abbrev s_show_fraction : Stmt := topS 11
abbrev s_show_pair : Stmt := topS 12
abbrev s_l_pair : Stmt := topS 22
abbrev s_l_fraction : Stmt := topS 21
abbrev s_l_pairs_right : Stmt := topS 23
abbrev s_law : Stmt := topS 24
/-! ### what the top has written -/
structure Adr where
  none_ : Addr
  a_NoText : Addr
  n_BookError : Addr
  n_NoNumber : Addr
  n_NoRow : Addr
  n_show_number : Addr
  n_show_fraction : Addr
def adE (A : Adr) (n : Str) : Addr := if n = "NoText" then A.a_NoText else 0
theorem ad_NoText (A : Adr) : adE A "NoText" = A.a_NoText := by unfold adE; rw [if_pos rfl]
theorem en_OI : En 0 (dOpt D.int) := en_opt en_int fun x => by simp [D.py, D.pyA, PyData.eqv, D.nsc]
theorem en_T2SOI : EnS 1 dk_T2SOI := enS_tup (enSL_cons enS_str (enSL_one en_OI.s))
structure Txt (K : Frag) (mg : Str → Option Value) (A : Adr) : Prop where
  nodg : NoDg K
  x_NoText : ExF K mg "NoText" A.a_NoText
  n_BookError : mg "BookError" = some (.ref A.n_BookError)
  n_NoText : mg "NoText" = some (.ref A.a_NoText)
  n_NoNumber : mg "NoNumber" = some (.ref A.n_NoNumber)
  n_NoRow : mg "NoRow" = some (.ref A.n_NoRow)
  n_show_number : mg "show_number" = some (.ref A.n_show_number)
  n_show_fraction : mg "show_fraction" = some (.ref A.n_show_fraction)
  xi_NoText : XIni K A.a_NoText "NoText" "line" s_xi_NoText
  oex_NoText : OexC K A.a_NoText
  xn_NoText : PySem.W.findIn K (.ref A.a_NoText) "line" = some none
  rB : PySem.W.readsIn K A.n_BookError (.type "type") = true
  rG : PySem.W.specialIn K (.ref A.n_BookError) "__getattribute__" = some (some (.builtin "type.__getattribute__"))
  vB : PySem.W.findCls K (.ref A.n_BookError) (.type "type") "__init__" = some (.val (.builtin "ValueError.__init__"))
  i_NoText_NoText : PySem.W.kitOne K (.ref A.a_NoText) (.ref A.a_NoText) = some true
  i_NoText_NoNumber : PySem.W.kitOne K (.ref A.a_NoText) (.ref A.n_NoNumber) = some false
  i_NoText_NoRow : PySem.W.kitOne K (.ref A.a_NoText) (.ref A.n_NoRow) = some false
  e_NoText_BookError : PySem.W.exmOne K (.ref A.a_NoText) (.ref A.n_BookError) = some true
  xf_NoText_line : XfC K A.a_NoText ∧ PySem.W.findIn K (.ref A.a_NoText) "line" = some none
  f_l_number : FunT K mg "_law_number" s_l_number ["_law_cell"]
  f_show_number : FunT K mg "show_number" s_show_number ["number"]
  f_l_due : FunT K mg "_law_due" s_l_due ["_law_text"]
  f_needed : FunT K mg "needed" s_needed ["truth"]
  f_read_number : FunT K mg "read_number" s_read_number ["text"]
  f_l_whole : FunT K mg "_law_whole" s_l_whole ["_law_thing"]
  f_l_read : FunT K mg "_law_read" s_l_read ["_law_text"]
  f_l_right : FunT K mg "_law_right" s_l_right ["_law_text"]
  f_l_odd : FunT K mg "_law_odd" s_l_odd ["_law_cell"]
  f_l_spoilt : FunT K mg "_law_spoilt" s_l_spoilt ["_law_text", "_law_cell"]
  f_show_fraction : FunT K mg "show_fraction" s_show_fraction ["one"]
  f_show_pair : FunT K mg "show_pair" s_show_pair ["word", "pair"]
  f_l_pair : FunT K mg "_law_pair" s_l_pair ["_law_low", "_law_high"]
  f_l_fraction : FunT K mg "_law_fraction" s_l_fraction ["_law_one"]
  f_l_pairs_right : FunT K mg "_law_pairs_right" s_l_pairs_right ["_law_low", "_law_high", "_law_cell"]
  b_len : mg "len" = none
  b_range : mg "range" = none
  b_int : mg "int" = none
  b_str : mg "str" = none
  b_isinstance : mg "isinstance" = none
  b_all : mg "all" = none
  b_bool : mg "bool" = none
  b_sorted : mg "sorted" = none
  k_MOST_FIGURES : ∃ t, mg "MOST_FIGURES" = some (.int 1000 t)
  k_FIGURES : ∃ t, mg "FIGURES" = some (.str ("0123456789" : Str) t)
section
variable {P : Program} {w : World} {K : Frag} {mg : Str → Option Value} {base : Heap} {A : Adr}
theorem sc_xi_NoText : FnScope ["self", "line"] ["self", "line"] (defScope s_xi_NoText) := fscope (by decide +kernel)
theorem rz_NoText {X : Cx} {kx : XD} {ρ : Ro} {M : Mem} {Q : Out → Mem → Prop} {pos p pos2 : Pos} {e : Expr} {d : D} (T : Txt X.K X.mg A) (hc : X.calm = true) (hr : Room 2 X.A) (hg : Gl X "NoText") (hv : DV X kx e ρ M d) (hk : ∀ cls, X.mg "NoText" = some cls → kx cls [("line", d)] ρ M) (he : starEach [e] X.env = (false, eval e X.env) :: starEach [] X.env := by rfl) (hpl : (backTo pos (starEach [] X.env)).any (·.1) = false := by rfl) : DS1 X kx (.Raise (some (.Call (.Name "NoText" p) [e] [] pos)) none pos2) ρ M Q :=
  ds1_raiseX (x := "NoText") hc hr T.oex_NoText T.x_NoText.gC hg T.xn_NoText T.xi_NoText sc_xi_NoText rfl T.n_BookError T.rB T.rG T.vB rfl rfl rfl (by decide) (by decide) (fun _ => ⟨_, rfl⟩) hv hk (by decide) he hpl
theorem xs0 (T : Txt K mg A) : ∀ n ∈ (["NoText"] : List Str), PySem.W.kitOne K (.ref (adE A n)) (.ref A.a_NoText) = some (decide (n ∈ (["NoText"] : List Str))) := by
  intro n h
  simp only [List.mem_cons, List.not_mem_nil, or_false] at h
  rcases h with rfl
  · rw [ad_NoText]; exact T.i_NoText_NoText.trans (by decide)
theorem xs1 (T : Txt K mg A) : ∀ n ∈ (["NoText"] : List Str), ExcC K (adE A n) := by
  intro n h
  simp only [List.mem_cons, List.not_mem_nil, or_false] at h
  rcases h with rfl
  · rw [ad_NoText]; exact T.x_NoText.toExcC
theorem xs2 (T : Txt K mg A) : ∀ n ∈ (["NoText"] : List Str), PySem.W.kitOne K (.ref (adE A n)) (.ref A.n_NoNumber) = some (decide (n ∈ ([] : List Str))) := by
  intro n h
  simp only [List.mem_cons, List.not_mem_nil, or_false] at h
  rcases h with rfl
  · rw [ad_NoText]; exact T.i_NoText_NoNumber.trans (by decide)
theorem xs3 (T : Txt K mg A) : ∀ n ∈ (["NoText"] : List Str), PySem.W.kitOne K (.ref (adE A n)) (.ref A.n_NoRow) = some (decide (n ∈ ([] : List Str))) := by
  intro n h
  simp only [List.mem_cons, List.not_mem_nil, or_false] at h
  rcases h with rfl
  · rw [ad_NoText]; exact T.i_NoText_NoRow.trans (by decide)
theorem xs4 (T : Txt K mg A) : ∀ n ∈ (["NoText"] : List Str), XfC K (adE A n) ∧ PySem.W.findIn K (.ref (adE A n)) "line" = some none := by
  intro n h
  simp only [List.mem_cons, List.not_mem_nil, or_false] at h
  rcases h with rfl
  · rw [ad_NoText]; exact ⟨T.xf_NoText_line.1, T.xf_NoText_line.2⟩
theorem xs5 (T : Txt K mg A) : ∀ n ∈ (["NoText"] : List Str), PySem.W.exmOne K (.ref (adE A n)) (.ref A.n_BookError) = some (decide (n ∈ (["NoText"] : List Str))) := by
  intro n h
  simp only [List.mem_cons, List.not_mem_nil, or_false] at h
  rcases h with rfl
  · rw [ad_NoText]; exact T.e_NoText_BookError.trans (by decide)
theorem xs6 (T : Txt K mg A) : ∀ n ∈ (["NoText"] : List Str), mg n = some (.ref (adE A n)) := by
  intro n h
  simp only [List.mem_cons, List.not_mem_nil, or_false] at h
  rcases h with rfl
  · rw [ad_NoText]; exact T.x_NoText.gC
theorem sc_l_number : FnScope ["_law_cell", "_law_number_here"] ["_law_cell"] (defScope s_l_number) := fscope (by decide +kernel)
theorem g_l_number (T : Txt K mg A) : GF P w K mg base 1 "_law_number" [] (spE K mg (fun q : Int => [.int q]) (fun q => F_l_number q) D.int) := by
  refine T.f_l_number.gf fun f fd F => fn_e F sc_l_number (fun _ => rfl) fun X e1 e2 e3 e4 e5 B Fz cell1 out hF hne => ?_
  subst e1 e2 e3 e4 e5
  have v0 : Ns X 0 "_law_cell" := B.ns rfl rfl
  have v1 : Ns X 1 "_law_number_here" := B.ns rfl rfl
  replace hF : F_l_number cell1 = out := hF
  unfold F_l_number at hF
  change DS _ _ _ [some (.int cell1), none] [] _
  refine ds_cons (ds1_if (dt_eqi (dv_mod (dv_var v0.toNm rfl) dv_int (by decide)) dv_int) (fun hh2 => ?_) (fun hh2 => ?_))
  ·
    replace hF := ite_t hF hh2
    refine ds_cons (ds1_retV (dv_sub (dv_mod (dv_fdiv (dv_var v0.toNm rfl) dv_int (div_c (by decide) (by decide))) dv_int (by decide)) dv_int) ?_)
    exact ret_mk (enc := D.int) (M := []) hF
  ·
    replace hF := ite_f hF hh2
    refine ds_nil ?_
    refine ds_cons (ds1_if (dt_eqi (dv_mod (dv_var v0.toNm rfl) dv_int (by decide)) dv_int) (fun hh3 => ?_) (fun hh3 => ?_))
    ·
      replace hF := ite_t hF hh3
      refine ds_cons (ds1_retV (dv_sub (dv_mod (dv_fdiv (dv_var v0.toNm rfl) dv_int (div_c (by decide) (by decide))) dv_int (by decide)) dv_int) ?_)
      exact ret_mk (enc := D.int) (M := []) hF
    ·
      replace hF := ite_f hF hh3
      refine ds_nil ?_
      refine ds_cons (ds1_if (dt_eqi (dv_mod (dv_var v0.toNm rfl) dv_int (by decide)) dv_int) (fun hh4 => ?_) (fun hh4 => ?_))
      ·
        replace hF := ite_t hF hh4
        refine ds_cons (ds1_retV (dv_sub (dv_mod (dv_fdiv (dv_var v0.toNm rfl) dv_int (div_c (by decide) (by decide))) (DV.is (dv_add (DV.is (dv_mulX dv_int (DV.is (dv_pow dv_int dv_int ⟨by decide, by decide, by decide⟩) (show D.int _ = D.int (1000000000000000000000000000000000000000000000000000000000000) from congrArg D.int (by decide +kernel))) (mok_c (.inl ⟨by decide, by decide⟩))) (show D.int _ = D.int (2000000000000000000000000000000000000000000000000000000000000) from congrArg D.int (by decide +kernel))) dv_int) (show D.int _ = D.int (2000000000000000000000000000000000000000000000000000000000001) from congrArg D.int (by decide +kernel))) (by decide)) (DV.is (dv_pow dv_int dv_int ⟨by decide, by decide, by decide⟩) (show D.int _ = D.int (1000000000000000000000000000000000000000000000000000000000000) from congrArg D.int (by decide +kernel)))) ?_)
        exact ret_mk (enc := D.int) (M := []) hF
      ·
        replace hF := ite_f hF hh4
        refine ds_nil ?_
        obtain ⟨hh5, hF⟩ := gd_out hF hne
        obtain ⟨c6, hh7, hF⟩ := bindP_out hF hne
        obtain ⟨hh8, hF⟩ := gd_out hF hne
        obtain ⟨hh9, hF⟩ := gd_out hF hne
        obtain ⟨i10, hh11, hF⟩ := bindP_out hF hne
        refine ds_cons (ds1_set v1 (dv_intN T.nodg (B.bn (x := "int") rfl T.b_int bt_int) (some_out hh11) hh9 (dv_mulS (dv_ixSg dv_str (dv_mod (dv_fdiv (dv_var v0.toNm rfl) dv_int (div_c (by decide) (by decide))) dv_int (by decide)) hh5 hh7) (dv_add dv_int (dv_mod (dv_fdiv (dv_var v0.toNm rfl) dv_int (div_c (by decide) (by decide))) dv_int (by decide))) hh8)) ?_)
        change DS _ _ _ [some (.int cell1), some (.int i10)] [] _
        refine ds_cons (ds1_if (dt_eqi (dv_mod (dv_fdiv (dv_var v0.toNm rfl) dv_int (div_c (by decide) (by decide))) dv_int (by decide)) dv_int) (fun hh12 => ?_) (fun hh12 => ?_))
        ·
          replace hF := ite_t hF hh12
          refine ds_cons (ds1_retV (dv_sub dv_int (dv_var v1.toNm rfl)) ?_)
          exact ret_mk (enc := D.int) (M := []) hF
        ·
          replace hF := ite_f hF hh12
          refine ds_nil ?_
          refine ds_cons (ds1_retV (dv_var v1.toNm rfl) ?_)
          exact ret_mk (enc := D.int) (M := []) hF
theorem c_l_number {X : Cx} {kx : XD} {ρ : Ro} {M : Mem} {pos p : Pos} {e0 : Expr} {cell1 : Int} {r : Int} (T : Txt X.K X.mg A) (hr : Room 1 X.A) (hg : Gl X "_law_number") (h0 : DV X kx e0 ρ M (.int cell1)) (hF : F_l_number cell1 = .ok r) (he0 : starEach [e0] X.env = (false, eval e0 X.env) :: starEach [] X.env := by rfl) (hpl : (backTo pos (starEach [] X.env)).any (·.1) = false := by rfl) : DV X kx (.Call (.Name "_law_number" p) [e0] [] pos) ρ M (.int r) :=
  dv_call (g_l_number T) hr hg (da_cons h0 da_nil he0) cell1 rfl (fun h => Ex.ok_ne r (hF.symm.trans h)) (fun d ⟨r', a1, a2⟩ => by cases hF.symm.trans a1; exact a2) (fun cls fs ⟨n, a1, _⟩ => by cases hF.symm.trans a1) (by decide) he0 hpl
theorem sc_show_number : FnScope ["number"] ["number"] (defScope s_show_number) := fscope (by decide +kernel)
theorem g_show_number (T : Txt K mg A) : GF P w K mg base 1 "show_number" [] (spE K mg (fun q : Int => [.int q]) (fun q => F_show_number q) D.str) := by
  refine T.f_show_number.gf fun f fd F => fn_e F sc_show_number (fun _ => rfl) fun X e1 e2 e3 e4 e5 B Fz number1 out hF hne => ?_
  subst e1 e2 e3 e4 e5
  have v0 : Ns X 0 "number" := B.ns rfl rfl
  replace hF : F_show_number number1 = out := hF
  unfold F_show_number at hF
  change DS _ _ _ [some (.int number1)] [] _
  obtain ⟨hh2, hF⟩ := gd_out hF hne
  refine ds_cons (ds1_retV (dv_strN B.calm T.nodg (B.bn (x := "str") rfl T.b_str bt_str) hh2 (dv_var v0.toNm rfl)) ?_)
  exact ret_mk (enc := D.str) (M := []) hF
theorem c_show_number {X : Cx} {kx : XD} {ρ : Ro} {M : Mem} {pos p : Pos} {e0 : Expr} {number1 : Int} {r : Str} (T : Txt X.K X.mg A) (hr : Room 1 X.A) (hg : Gl X "show_number") (h0 : DV X kx e0 ρ M (.int number1)) (hF : F_show_number number1 = .ok r) (he0 : starEach [e0] X.env = (false, eval e0 X.env) :: starEach [] X.env := by rfl) (hpl : (backTo pos (starEach [] X.env)).any (·.1) = false := by rfl) : DV X kx (.Call (.Name "show_number" p) [e0] [] pos) ρ M (.str r) :=
  dv_call (g_show_number T) hr hg (da_cons h0 da_nil he0) number1 rfl (fun h => Ex.ok_ne r (hF.symm.trans h)) (fun d ⟨r', a1, a2⟩ => by cases hF.symm.trans a1; exact a2) (fun cls fs ⟨n, a1, _⟩ => by cases hF.symm.trans a1) (by decide) he0 hpl
theorem sc_l_due : FnScope ["_law_text", "_law_figures", "_law_sign"] ["_law_text"] (defScope s_l_due) := fscope (by decide +kernel)
theorem g_l_due (T : Txt K mg A) : GF P w K mg base 1 "_law_due" [] (spE K mg (fun q : Str => [.str q]) (fun q => F_l_due q) (dOpt D.int)) := by
  refine T.f_l_due.gf fun f fd F => fn_e F sc_l_due (fun _ => rfl) fun X e1 e2 e3 e4 e5 B Fz text1 out hF hne => ?_
  subst e1 e2 e3 e4 e5
  have v0 : Ns X 0 "_law_text" := B.ns rfl rfl
  have v1 : Ns X 1 "_law_figures" := B.ns rfl rfl
  have v2 : Ns X 2 "_law_sign" := B.ns rfl rfl
  replace hF : F_l_due text1 = out := hF
  unfold F_l_due at hF
  change DS _ _ _ [some (.str text1), none, none] [] _
  refine ds_cons (ds1_if (dt_not (dt_val (dv_isi (T := "str") (k := true) (B.bn (x := "isinstance") rfl T.b_isinstance bt_isinstance) (B.bn (x := "str") rfl T.b_str bt_str) (dv_var v0.toNm rfl) (by first | exact .non | exact .int _ | exact .bl _ | exact .str _ | exact .lst _ | exact .tup _ | exact .scr _) (by decide +kernel)))) (fun hh2 => ?_) (fun hh2 => ?_))
  ·
    replace hF := ite_t hF hh2
    refine ds_cons (ds1_retV (DV.is dv_non (show _ = dOpt D.int none from rfl)) ?_)
    exact ret_mk (enc := (dOpt D.int)) (M := []) hF
  ·
    replace hF := ite_f hF hh2
    refine ds_nil ?_
    refine ds_cons (ds1_set v1 (dv_var v0.toNm rfl) ?_)
    change DS _ _ _ [some (.str text1), some (.str text1), none] [] _
    obtain ⟨hh3, hF⟩ := gd_out hF hne
    obtain ⟨jk5, hjk5, hF⟩ := jpE_out hF
    refine ds_cons (ds1_ifJ (kf := jk5) (out := out) (fun (a : Unit) (z : Str) => [some (.str text1), some (.str z), none]) (fun (a : Unit) (z : Str) => []) (dt_eqs (dv_slT' (dv_var v0.toNm rfl) hh3 do_none (do_some dv_int)) dv_str) (fun hh4 => ?_) (fun hh4 => ?_) ?_ then_fgt)
    ·
      replace hF := ite_t hF hh4
      obtain ⟨hh6, hF⟩ := gd_out hF hne
      obtain ⟨figures7, hh8, hF⟩ := letE_out hF
      refine ds_cons (ds1_set v1 (dv_isE (enc := D.str) (dv_slT' (dv_var v0.toNm rfl) hh6 (do_some dv_int) do_none) hh8) ?_)
      change DS _ _ _ [some (.str text1), some (.str figures7), none] [] _
      refine ds_nil ?_
      exact join_nx () figures7 hF ⟨.inr rfl, .inr rfl, .inl rfl, trivial⟩ rfl
    ·
      replace hF := ite_f hF hh4
      refine ds_nil ?_
      exact join_nx () text1 hF ⟨.inr rfl, .inr rfl, .inl rfl, trivial⟩ rfl
    ·
      rintro ⟨⟩ figures9 hF
      subst hjk5
      change DS _ _ _ [some (.str text1), some (.str figures9), none] [] _
      obtain ⟨b16, hh17, hF⟩ := bindP_out hF hne
      refine ds_cons (ds1_if (DW.t (dw_orE hh17 (dt_eqs (dv_var v1.toNm rfl) dv_str) fun _ _ hF => (by obtain ⟨hh10, hF⟩ := gd_out hF (Ex.ok_ne _); obtain ⟨b14, hh15, hF⟩ := bindP_out hF (Ex.ok_ne _); cases hF; exact (dw_orE hh15 (dt_gt (dv_lenS (B.bn (x := "len") rfl T.b_len bt_len) (dv_var v1.toNm rfl) (sz_le hh10)) dv_int) fun _ _ hF => (by obtain ⟨hh11, hF⟩ := gd_out hF (Ex.ok_ne _); obtain ⟨c12, hh13, hF⟩ := bindP_out hF (Ex.ok_ne _); cases hF; exact (dw_or1 (DW.t (dw_and (dt_eqs (dv_ixSg (dv_var v1.toNm rfl) dv_int hh11 hh13) dv_str) fun _ => (dw_and1 (dt_nes (dv_var v0.toNm rfl) dv_str)))))))))) (fun hh18 => ?_) (fun hh18 => ?_))
      ·
        replace hF := ite_t hF hh18
        refine ds_cons (ds1_retV (DV.is dv_non (show _ = dOpt D.int none from rfl)) ?_)
        exact ret_mk (enc := (dOpt D.int)) (M := []) hF
      ·
        replace hF := ite_f hF hh18
        refine ds_nil ?_
        obtain ⟨o26, hh27, hh28, hF⟩ := bindX_cut hF hne
        refine ds_cons (ds1_loopE (enc := D.str) (enr := (dOpt D.int)) B (fun (z : Unit) => [some (.str text1), some (.str figures9), none]) (fun (z : Unit) => []) hh27 hh28 (di_str (dv_var v1.toNm rfl)) ⟨.inr rfl, .inr rfl, .inl rfl, trivial⟩ rfl ?hso26 ?hdo26 ?hro26 ?hxo26 then_fgt)
        case hso26 =>
          clear hF
          rintro ⟨⟩ x19 o20 _ hF hne
          refine ⟨_, _, (dg_name v2), ?_⟩
          change DS _ _ _ [some (.str text1), some (.str figures9), some (.str x19)] [] _
          obtain ⟨hh21, hF⟩ := gd_out hF hne
          refine ds_cons (ds1_if (dt_ninSg hh21 (dv_var v2.toNm rfl) dv_str) (fun hh22 => ?_) (fun hh22 => ?_))
          ·
            replace hF := ite_t hF hh22
            refine ds_cons (ds1_retV (DV.is dv_non (show _ = dOpt D.int none from rfl)) ?_)
            exact loop_rt (R := fun _ => []) (Mf := fun _ => []) (enr := (dOpt D.int)) (M := []) hF
          ·
            replace hF := ite_f hF hh22
            refine ds_nil ?_
            refine ds_nil ?_
            exact loop_nx (enr := (dOpt D.int)) hF ⟨.inr rfl, .inr rfl, .inl rfl, trivial⟩ rfl
        case hdo26 =>
          rintro ⟨⟩ rfl
          replace hF := okE hF
          replace hF := nxE hF
          change DS _ _ _ [some (.str text1), some (.str figures9), none] [] _
          obtain ⟨hh23, hF⟩ := gd_out hF hne
          obtain ⟨i24, hh25, hF⟩ := bindP_out hF hne
          refine ds_cons (ds1_retV (DV.is (dv_intN T.nodg (B.bn (x := "int") rfl T.b_int bt_int) (some_out hh25) hh23 (dv_var v0.toNm rfl)) (show _ = dOpt D.int (some i24) from rfl)) ?_)
          exact ret_mk (enc := (dOpt D.int)) (M := []) hF
        case hro26 =>
          rintro r29 _ rfl
          exact ret_mk (enc := (dOpt D.int)) (M := []) hF
        case hxo26 =>
          rintro cls fs _ _ ⟨n, rfl, e2⟩
          exact kx_exc hF e2
theorem c_l_due {X : Cx} {kx : XD} {ρ : Ro} {M : Mem} {pos p : Pos} {e0 : Expr} {text1 : Str} {r : Option Int} (T : Txt X.K X.mg A) (hr : Room 1 X.A) (hg : Gl X "_law_due") (h0 : DV X kx e0 ρ M (.str text1)) (hF : F_l_due text1 = .ok r) (he0 : starEach [e0] X.env = (false, eval e0 X.env) :: starEach [] X.env := by rfl) (hpl : (backTo pos (starEach [] X.env)).any (·.1) = false := by rfl) : DV X kx (.Call (.Name "_law_due" p) [e0] [] pos) ρ M (dOpt D.int r) :=
  dv_call (g_l_due T) hr hg (da_cons h0 da_nil he0) text1 rfl (fun h => Ex.ok_ne r (hF.symm.trans h)) (fun d ⟨r', a1, a2⟩ => by cases hF.symm.trans a1; exact a2) (fun cls fs ⟨n, a1, _⟩ => by cases hF.symm.trans a1) (by decide) he0 hpl
theorem sc_needed : FnScope ["truth"] ["truth"] (defScope s_needed) := fscope (by decide +kernel)
theorem g_needed (T : Txt K mg A) : GF P w K mg base 3 "needed" [] (spE K mg (fun q : Bool => [.bl q]) (fun q => F_needed q) dk_N) := by
  refine T.f_needed.gf fun f fd F => fn_e F sc_needed (fun _ => rfl) fun X e1 e2 e3 e4 e5 B Fz truth1 out hF hne => ?_
  subst e1 e2 e3 e4 e5
  have v0 : Ns X 0 "truth" := B.ns rfl rfl
  replace hF : F_needed truth1 = out := hF
  unfold F_needed at hF
  change DS _ _ _ [some (.bl truth1)] [] _
  refine ds_cons (ds1_if (dt_not (dt_val (dv_var v0.toNm rfl))) (fun hh2 => ?_) (fun hh2 => ?_))
  ·
    replace hF := ite_t hF hh2
    exact ds_cons (rz_NoText T B.calm (B.room.mono (by decide)) (B.gl (x := "NoText") rfl) dv_int fun cls hm => (kx_exc hF hm))
  ·
    replace hF := ite_f hF hh2
    refine ds_nil ?_
    refine ds_nil ?_
    exact fall_mk hF rfl
theorem x_needed {X : Cx} {kx : XD} {ρ : Ro} {M : Mem} {pos p : Pos} {e0 : Expr} {truth1 : Bool} {n : Str} {fs : List (Str × D)} (T : Txt X.K X.mg A) (hr : Room 3 X.A) (hg : Gl X "needed") (h0 : DV X kx e0 ρ M (.bl truth1)) (hF : F_needed truth1 = .exc n fs) (hk : ∀ cls, X.mg n = some cls → kx cls fs ρ M) (he0 : starEach [e0] X.env = (false, eval e0 X.env) :: starEach [] X.env := by rfl) (hpl : (backTo pos (starEach [] X.env)).any (·.1) = false := by rfl) : DE X kx (.Call (.Name "needed" p) [e0] [] pos) ρ M fun _ _ => False :=
  de_exc (g_needed T) hr hg (da_cons h0 da_nil he0) truth1 rfl hF hk (by decide) he0 hpl
theorem c_needed {X : Cx} {kx : XD} {ρ : Ro} {M : Mem} {pos p : Pos} {e0 : Expr} {truth1 : Bool} {r : Unit} (T : Txt X.K X.mg A) (hr : Room 3 X.A) (hg : Gl X "needed") (h0 : DV X kx e0 ρ M (.bl truth1)) (hF : F_needed truth1 = .ok r) (he0 : starEach [e0] X.env = (false, eval e0 X.env) :: starEach [] X.env := by rfl) (hpl : (backTo pos (starEach [] X.env)).any (·.1) = false := by rfl) : DV X kx (.Call (.Name "needed" p) [e0] [] pos) ρ M (.non) :=
  dv_call (g_needed T) hr hg (da_cons h0 da_nil he0) truth1 rfl (fun h => Ex.ok_ne r (hF.symm.trans h)) (fun d ⟨r', a1, a2⟩ => by cases hF.symm.trans a1; exact a2) (fun cls fs ⟨n, a1, _⟩ => by cases hF.symm.trans a1) (by decide) he0 hpl
theorem sc_read_number : FnScope ["text", "figures", "sign"] ["text"] (defScope s_read_number) := fscope (by decide +kernel)
theorem g_read_number (T : Txt K mg A) : GF P w K mg base 4 "read_number" [] (spE K mg (fun q : Str => [.str q]) (fun q => F_read_number q) D.int) := by
  refine T.f_read_number.gf fun f fd F => fn_e F sc_read_number (fun _ => rfl) fun X e1 e2 e3 e4 e5 B Fz text1 out hF hne => ?_
  subst e1 e2 e3 e4 e5
  have v0 : Ns X 0 "text" := B.ns rfl rfl
  have v1 : Ns X 1 "figures" := B.ns rfl rfl
  replace hF : F_read_number text1 = out := hF
  unfold F_read_number at hF
  change DS _ _ _ [some (.str text1), none, none] [] _
  rcases bindX_out hF hne with ⟨r2, hh3, hF⟩ | ⟨n, fs, hh3, hF⟩
  rotate_left
  · exact ds_cons (ds1_void (x_needed T (B.room.mono (by decide)) (B.gl (x := "needed") rfl) (dv_isi (T := "str") (k := true) (B.bn (x := "isinstance") rfl T.b_isinstance bt_isinstance) (B.bn (x := "str") rfl T.b_str bt_str) (dv_var v0.toNm rfl) (by first | exact .non | exact .int _ | exact .bl _ | exact .str _ | exact .lst _ | exact .tup _ | exact .scr _) (by decide +kernel)) hh3 fun cls hm => (kx_exc hF.symm hm)))
  refine ds_cons (ds1_exprV (c_needed T (B.room.mono (by decide)) (B.gl (x := "needed") rfl) (dv_isi (T := "str") (k := true) (B.bn (x := "isinstance") rfl T.b_isinstance bt_isinstance) (B.bn (x := "str") rfl T.b_str bt_str) (dv_var v0.toNm rfl) (by first | exact .non | exact .int _ | exact .bl _ | exact .str _ | exact .lst _ | exact .tup _ | exact .scr _) (by decide +kernel)) hh3) ?_)
  refine ds_cons (ds1_set v1 (dv_var v0.toNm rfl) ?_)
  change DS _ _ _ [some (.str text1), some (.str text1), none] [] _
  obtain ⟨jk5, hjk5, hF⟩ := jpE_out hF
  refine ds_cons (ds1_ifJ (kf := jk5) (out := out) (fun (a : Unit) (z : Str) => [some (.str text1), some (.str z), none]) (fun (a : Unit) (z : Str) => []) (dt_val (dv_startswith (dv_var v0.toNm rfl) dv_str)) (fun hh4 => ?_) (fun hh4 => ?_) ?_ then_fgt)
  ·
    replace hF := ite_t hF hh4
    obtain ⟨hh6, hF⟩ := gd_out hF hne
    obtain ⟨figures7, hh8, hF⟩ := letE_out hF
    refine ds_cons (ds1_set v1 (dv_isE (enc := D.str) (dv_slT' (dv_var v0.toNm rfl) hh6 (do_some dv_int) do_none) hh8) ?_)
    change DS _ _ _ [some (.str text1), some (.str figures7), none] [] _
    refine ds_nil ?_
    exact join_nx () figures7 hF ⟨.inr rfl, .inr rfl, .inl rfl, trivial⟩ rfl
  ·
    replace hF := ite_f hF hh4
    refine ds_nil ?_
    exact join_nx () text1 hF ⟨.inr rfl, .inr rfl, .inl rfl, trivial⟩ rfl
  ·
    rintro ⟨⟩ figures9 hF
    subst hjk5
    change DS _ _ _ [some (.str text1), some (.str figures9), none] [] _
    obtain ⟨hh10, hF⟩ := gd_out hF hne
    rcases bindX_out hF hne with ⟨r11, hh12, hF⟩ | ⟨n, fs, hh12, hF⟩
    rotate_left
    · exact ds_cons (ds1_void (x_needed T (B.room.mono (by decide)) (B.gl (x := "needed") rfl) (dv_chain op_le op_le dv_int (dv_lenS (B.bn (x := "len") rfl T.b_len bt_len) (dv_var v1.toNm rfl) (sz_le hh10)) (T.k_MOST_FIGURES.elim fun _ h => dv_gint (B.gl (x := "MOST_FIGURES") rfl) h ⟨_, rfl⟩)) hh12 fun cls hm => (kx_exc hF.symm hm)))
    refine ds_cons (ds1_exprV (c_needed T (B.room.mono (by decide)) (B.gl (x := "needed") rfl) (dv_chain op_le op_le dv_int (dv_lenS (B.bn (x := "len") rfl T.b_len bt_len) (dv_var v1.toNm rfl) (sz_le hh10)) (T.k_MOST_FIGURES.elim fun _ h => dv_gint (B.gl (x := "MOST_FIGURES") rfl) h ⟨_, rfl⟩)) hh12) ?_)
    obtain ⟨hh16, hF⟩ := gd_out hF hne
    obtain ⟨ys17, hh18, hF⟩ := bindP_out hF hne
    rcases bindX_out hF hne with ⟨r19, hh20, hF⟩ | ⟨n, fs, hh20, hF⟩
    rotate_left
    · exact ds_cons (ds1_void (x_needed T (B.room.mono (by decide)) (B.gl (x := "needed") rfl) (dv_all B.calm (B.bn (x := "all") rfl T.b_all bt_all) (dv_lcE (own := [("sign", 2)]) B  (di_str (dv_var v1.toNm rfl)) (blkOk_by (by decide +kernel)) (sz_lt hh16) (fun u13 hx => ⟨_, _, fun _ h => h, fun _ _ _ _ _ _ _ B14 => ⟨(dg_name (B14.ns (i := 2) rfl rfl)), lcb_E (enc := D.bl) ((compE_out hh18).2 u13 hx) (fun _ hF => (by cases hF; exact dts_nil)) fun _ hF => (by obtain ⟨hh15, hF⟩ := gd_out hF (Ex.ok_ne _); cases hF; exact (dv_inSg hh15 (dv_var (B14.nm (i := 2) rfl (vloc rfl)) rfl) (T.k_FIGURES.elim fun _ h => dv_gstr (B14.gl (x := "FIGURES") rfl) h ⟨_, rfl⟩)))⟩⟩) (outs_E D.bl (compE_out hh18).1)) (.lst _)) hh20 fun cls hm => (kx_exc hF.symm hm)))
    refine ds_cons (ds1_exprV (c_needed T (B.room.mono (by decide)) (B.gl (x := "needed") rfl) (dv_all B.calm (B.bn (x := "all") rfl T.b_all bt_all) (dv_lcE (own := [("sign", 2)]) B  (di_str (dv_var v1.toNm rfl)) (blkOk_by (by decide +kernel)) (sz_lt hh16) (fun u13 hx => ⟨_, _, fun _ h => h, fun _ _ _ _ _ _ _ B14 => ⟨(dg_name (B14.ns (i := 2) rfl rfl)), lcb_E (enc := D.bl) ((compE_out hh18).2 u13 hx) (fun _ hF => (by cases hF; exact dts_nil)) fun _ hF => (by obtain ⟨hh15, hF⟩ := gd_out hF (Ex.ok_ne _); cases hF; exact (dv_inSg hh15 (dv_var (B14.nm (i := 2) rfl (vloc rfl)) rfl) (T.k_FIGURES.elim fun _ h => dv_gstr (B14.gl (x := "FIGURES") rfl) h ⟨_, rfl⟩)))⟩⟩) (outs_E D.bl (compE_out hh18).1)) (.lst _)) hh20) ?_)
    obtain ⟨hh21, hF⟩ := gd_out hF hne
    obtain ⟨c22, hh23, hF⟩ := bindP_out hF hne
    rcases bindX_out hF hne with ⟨r24, hh25, hF⟩ | ⟨n, fs, hh25, hF⟩
    rotate_left
    · exact ds_cons (ds1_void (x_needed T (B.room.mono (by decide)) (B.gl (x := "needed") rfl) (dv_or (dv_nes (dv_ixSg (dv_var v1.toNm rfl) dv_int hh21 hh23) dv_str) fun _ => (dv_one (dv_eqs (dv_var v0.toNm rfl) dv_str))) hh25 fun cls hm => (kx_exc hF.symm hm)))
    refine ds_cons (ds1_exprV (c_needed T (B.room.mono (by decide)) (B.gl (x := "needed") rfl) (dv_or (dv_nes (dv_ixSg (dv_var v1.toNm rfl) dv_int hh21 hh23) dv_str) fun _ => (dv_one (dv_eqs (dv_var v0.toNm rfl) dv_str))) hh25) ?_)
    obtain ⟨hh26, hF⟩ := gd_out hF hne
    obtain ⟨i27, hh28, hF⟩ := bindP_out hF hne
    refine ds_cons (ds1_retV (dv_intN T.nodg (B.bn (x := "int") rfl T.b_int bt_int) (some_out hh28) hh26 (dv_var v0.toNm rfl)) ?_)
    exact ret_mk (enc := D.int) (M := []) hF
theorem x_read_number {X : Cx} {kx : XD} {ρ : Ro} {M : Mem} {pos p : Pos} {e0 : Expr} {text1 : Str} {n : Str} {fs : List (Str × D)} (T : Txt X.K X.mg A) (hr : Room 4 X.A) (hg : Gl X "read_number") (h0 : DV X kx e0 ρ M (.str text1)) (hF : F_read_number text1 = .exc n fs) (hk : ∀ cls, X.mg n = some cls → kx cls fs ρ M) (he0 : starEach [e0] X.env = (false, eval e0 X.env) :: starEach [] X.env := by rfl) (hpl : (backTo pos (starEach [] X.env)).any (·.1) = false := by rfl) : DE X kx (.Call (.Name "read_number" p) [e0] [] pos) ρ M fun _ _ => False :=
  de_exc (g_read_number T) hr hg (da_cons h0 da_nil he0) text1 rfl hF hk (by decide) he0 hpl
theorem c_read_number {X : Cx} {kx : XD} {ρ : Ro} {M : Mem} {pos p : Pos} {e0 : Expr} {text1 : Str} {r : Int} (T : Txt X.K X.mg A) (hr : Room 4 X.A) (hg : Gl X "read_number") (h0 : DV X kx e0 ρ M (.str text1)) (hF : F_read_number text1 = .ok r) (he0 : starEach [e0] X.env = (false, eval e0 X.env) :: starEach [] X.env := by rfl) (hpl : (backTo pos (starEach [] X.env)).any (·.1) = false := by rfl) : DV X kx (.Call (.Name "read_number" p) [e0] [] pos) ρ M (.int r) :=
  dv_call (g_read_number T) hr hg (da_cons h0 da_nil he0) text1 rfl (fun h => Ex.ok_ne r (hF.symm.trans h)) (fun d ⟨r', a1, a2⟩ => by cases hF.symm.trans a1; exact a2) (fun cls fs ⟨n, a1, _⟩ => by cases hF.symm.trans a1) (by decide) he0 hpl
theorem sc_l_whole : FnScope ["_law_thing"] ["_law_thing"] (defScope s_l_whole) := fscope (by decide +kernel)
theorem g_l_whole (T : Txt K mg A) : GF P w K mg base 1 "_law_whole" [] (spE K mg (fun q : Option Int => [dOpt D.int q]) (fun q => F_l_whole q) D.bl) := by
  refine T.f_l_whole.gf fun f fd F => fn_e F sc_l_whole (fun _ => rfl) fun X e1 e2 e3 e4 e5 B Fz thing1 out hF hne => ?_
  subst e1 e2 e3 e4 e5
  have v0 : Ns X 0 "_law_thing" := B.ns rfl rfl
  replace hF : F_l_whole thing1 = out := hF
  unfold F_l_whole at hF
  change DS _ _ _ [some (dOpt D.int thing1)] [] _
  refine ds_cons (ds1_retV (dv_and (dv_isiO (T := "int") (B.bn (x := "isinstance") rfl T.b_isinstance bt_isinstance) (B.bn (x := "int") rfl T.b_int bt_int) (dv_var v0.toNm rfl) (fun _ => (by first | exact .non | exact .int _ | exact .bl _ | exact .str _ | exact .lst _ | exact .tup _ | exact .scr _)) (by decide +kernel) (by decide +kernel)) fun _ => (dv_one (dv_not (dv_isiN (T := "int") (B.bn (x := "isinstance") rfl T.b_isinstance bt_isinstance) (B.bn (x := "bool") rfl T.b_bool bt_bool) (dv_var v0.toNm rfl) (fun _ => (by first | exact .non | exact .int _ | exact .bl _ | exact .str _ | exact .lst _ | exact .tup _ | exact .scr _)) (by decide +kernel) (by decide +kernel))))) ?_)
  exact ret_mk (enc := D.bl) (M := []) hF
theorem c_l_whole {X : Cx} {kx : XD} {ρ : Ro} {M : Mem} {pos p : Pos} {e0 : Expr} {thing1 : Option Int} {r : Bool} (T : Txt X.K X.mg A) (hr : Room 1 X.A) (hg : Gl X "_law_whole") (h0 : DV X kx e0 ρ M (dOpt D.int thing1)) (hF : F_l_whole thing1 = .ok r) (he0 : starEach [e0] X.env = (false, eval e0 X.env) :: starEach [] X.env := by rfl) (hpl : (backTo pos (starEach [] X.env)).any (·.1) = false := by rfl) : DV X kx (.Call (.Name "_law_whole" p) [e0] [] pos) ρ M (.bl r) :=
  dv_call (g_l_whole T) hr hg (da_cons h0 da_nil he0) thing1 rfl (fun h => Ex.ok_ne r (hF.symm.trans h)) (fun d ⟨r', a1, a2⟩ => by cases hF.symm.trans a1; exact a2) (fun cls fs ⟨n, a1, _⟩ => by cases hF.symm.trans a1) (by decide) he0 hpl
theorem sc_l_read : FnScope ["_law_text", "_law_found", "_law_word", "e"] ["_law_text"] (defScope s_l_read) := fscope (by decide +kernel)
theorem g_l_read (T : Txt K mg A) : GF P w K mg base 5 "_law_read" [] (spE K mg (fun q : Str => [.str q]) (fun q => F_l_read q) dk_T2SOI) := by
  refine T.f_l_read.gf fun f fd F => fn_e F sc_l_read (fun _ => rfl) fun X e1 e2 e3 e4 e5 B Fz text1 out hF hne => ?_
  subst e1 e2 e3 e4 e5
  have v0 : Ns X 0 "_law_text" := B.ns rfl rfl
  have v1 : Ns X 1 "_law_found" := B.ns rfl rfl
  have v2 : Ns X 2 "_law_word" := B.ns rfl rfl
  have v3 : Ns X 3 "e" := B.ns rfl rfl
  replace hF : F_l_read text1 = out := hF
  unfold F_l_read at hF
  change DS _ _ _ [some (.str text1), none, none, none] [] _
  refine ds_cons (ds1_set v1 dv_non ?_)
  change DS _ _ _ [some (.str text1), some (.non), none, none] [] _
  obtain ⟨word2, hh3, hF⟩ := letE_out hF
  refine ds_cons (ds1_set v2 (dv_isE (enc := D.str) dv_str hh3) ?_)
  change DS _ _ _ [some (.str text1), some (.non), some (.str word2), none] [] _
  obtain ⟨jk4, hjk4, hF⟩ := jpE_out hF
  refine ds_cons (ds1_tryG (ad := adE A) (kf := jk4) (out := out) (fun (a : Unit) (z : (Option Int) × Str) => [some (.str text1), some (dOpt D.int z.1), some (.str z.2), none]) (fun (a : Unit) (z : (Option Int) × Str) => []) ([some (.str text1), some (.non), some (.str word2), none]) B Fz (HdD.cons (oi := some 3) (B.gl (x := "BookError") rfl) T.n_BookError ⟨rfl, rfl⟩ (.nil)) hF hne (xs6 T) (by rfl) ?hbo5 ?hho5 ?hko5 then_fgt)
  case hbo5 =>
    clear hF hne
    intro pn xe B Fz o5 hF hne
    have v0 : Ns _ 0 "_law_text" := B.ns rfl rfl
    have v1 : Ns _ 1 "_law_found" := B.ns rfl rfl
    have v2 : Ns _ 2 "_law_word" := B.ns rfl rfl
    have v3 : Ns _ 3 "e" := B.ns rfl rfl
    rcases bindX_out hF hne with ⟨found6, hh7, hF⟩ | ⟨n, fs, hh7, hF⟩
    rotate_left
    · exact ds_cons (ds1_setE v1 (x_read_number T (B.room.mono (by decide)) (B.gl (x := "read_number") rfl) (dv_var v0.toNm rfl) hh7 fun cls hm => ⟨(kx_exc hF.symm hm), ⟨.inr rfl, .inr rfl, .inr rfl, .inl rfl, trivial⟩, rfl⟩) (fun _ _ z => z.elim))
    refine ds_cons (ds1_set v1 (c_read_number T (B.room.mono (by decide)) (B.gl (x := "read_number") rfl) (dv_var v0.toNm rfl) hh7) ?_)
    change DS _ _ _ [some (.str text1), some (.int found6), some (.str word2), none] [] _
    refine ds_nil ?_
    exact (join_nx () ((some found6), word2) hF ⟨.inr rfl, .inr rfl, .inr rfl, .inl rfl, trivial⟩ rfl)
  case hho5 =>
    clear hF
    refine (.cons (xs5 T) (fun e8 hF a l B => ?_) (.nil))
    ·
      have v0 : Ns _ 0 "_law_text" := B.ns rfl rfl
      have v1 : Ns _ 1 "_law_found" := B.ns rfl rfl
      have v2 : Ns _ 2 "_law_word" := B.ns rfl rfl
      have v3 : Ns _ 3 "e" := B.ns rfl rfl
      change DS _ _ _ [some (.str text1), some (.non), some (.str word2), some ((dExn (adE A)) e8)] [] _
      obtain ⟨word9, hh10, hF⟩ := letE_out hF
      refine ds_cons (ds1_set v2 (dv_isE (enc := D.str) dv_str hh10) ?_)
      change DS _ _ _ [some (.str text1), some (.non), some (.str word9), some ((dExn (adE A)) e8)] [] _
      obtain ⟨hh11, hF⟩ := gd_out hF hne
      obtain ⟨b16, hh17, hF⟩ := bindP_out hF hne
      obtain ⟨jk19, hjk19, hF⟩ := jpE_out hF
      refine ds_cons (ds1_ifJ (kf := jk19) (out := out) (fun (a : Unit) (z : Str) => [some (.str text1), some (.non), some (.str z), some ((dExn (adE A)) e8)]) (fun (a : Unit) (z : Str) => []) (DW.t (dw_andE hh17 (dt_val (dv_isX1C (B.bn (x := "isinstance") rfl T.b_isinstance bt_isinstance) (xs1 T) (dv_var v3.toNm rfl) (dv_cls (B.gl (x := "NoText") rfl) T.n_NoText) hh11 (xs0 T))) fun _ _ hF => (by obtain ⟨hh12, hF⟩ := gd_out hF (Ex.ok_ne _); obtain ⟨b14, hh15, hF⟩ := bindP_out hF (Ex.ok_ne _); cases hF; exact (dw_andE hh15 (dt_not (dt_val (dv_isX1C (B.bn (x := "isinstance") rfl T.b_isinstance bt_isinstance) (xs1 T) (dv_var v3.toNm rfl) (dv_cls (B.gl (x := "NoNumber") rfl) T.n_NoNumber) hh12 (xs2 T)))) fun _ _ hF => (by obtain ⟨hh13, hF⟩ := gd_out hF (Ex.ok_ne _); cases hF; exact (dw_and1 (dt_not (dt_val (dv_isX1C (B.bn (x := "isinstance") rfl T.b_isinstance bt_isinstance) (xs1 T) (dv_var v3.toNm rfl) (dv_cls (B.gl (x := "NoRow") rfl) T.n_NoRow) hh13 (xs3 T)))))))))) (fun hh18 => ?_) (fun hh18 => ?_) ?_ then_fgt)
      ·
        replace hF := ite_t hF hh18
        obtain ⟨hh20, hF⟩ := gd_out hF hne
        obtain ⟨line21, hh22, hF⟩ := bindP_out hF hne
        obtain ⟨b26, hh27, hF⟩ := bindP_out hF hne
        obtain ⟨x28, hh29, hF⟩ := bindP_out hF hne
        refine ds_cons (ds1_set v2 (dv_ixS (show DV _ _ _ _ _ (.lst ([("none" : Str), ("other" : Str)].map D.str)) from dv_lst (da_cons dv_str (da_cons dv_str da_nil)) (szN 2 rfl)) (.lst _) (DV.is (dv_intB (B.bn (x := "int") rfl T.b_int bt_int) (dv_orE hh27 (dv_isi (T := "int") (k := false) (B.bn (x := "isinstance") rfl T.b_isinstance bt_isinstance) (B.bn (x := "bool") rfl T.b_bool bt_bool) (dv_xfI (xs4 T) hh20 (dv_var v3.toNm rfl) hh22) (by first | exact .non | exact .int _ | exact .bl _ | exact .str _ | exact .lst _ | exact .tup _ | exact .scr _) (by decide +kernel)) fun _ _ hF => (by obtain ⟨hh23, hF⟩ := gd_out hF (Ex.ok_ne _); obtain ⟨line24, hh25, hF⟩ := bindP_out hF (Ex.ok_ne _); cases hF; exact (dv_one (dv_nei (dv_xfI (xs4 T) hh23 (dv_var v3.toNm rfl) hh25) dv_int))))) (show D.int _ = D.int _ from rfl)) (ixE_out hh29 D.str)) ?_)
        change DS _ _ _ [some (.str text1), some (.non), some (.str x28), some ((dExn (adE A)) e8)] [] _
        refine ds_nil ?_
        exact join_nx () x28 hF ⟨.inr rfl, .inr rfl, .inr rfl, .inr rfl, trivial⟩ rfl
      ·
        replace hF := ite_f hF hh18
        refine ds_nil ?_
        exact join_nx () word9 hF ⟨.inr rfl, .inr rfl, .inr rfl, .inr rfl, trivial⟩ rfl
      ·
        rintro ⟨⟩ word30 hF
        subst hjk19
        change DS _ _ _ [some (.str text1), some (.non), some (.str word30), some ((dExn (adE A)) e8)] [] _
        refine ds_nil ?_
        exact goneS_nx (join_nx () (none, word30) hF ⟨.inr rfl, .inr rfl, .inr rfl, .inl rfl, trivial⟩ rfl)
  case hko5 =>
    rintro ⟨⟩ ⟨found31, word32⟩ hF
    subst hjk4
    change DS _ _ _ [some (.str text1), some (dOpt D.int found31), some (.str word32), none] [] _
    obtain ⟨b35, hh36, hF⟩ := bindP_out hF hne
    obtain ⟨jk38, hjk38, hF⟩ := letJ_out hF
    refine ds_cons (ds1_ifJ (kf := jk38) (out := out) (fun (a : Unit) (z : Str) => [some (.str text1), some (dOpt D.int found31), some (.str z), none]) (fun (a : Unit) (z : Str) => []) (DW.t (dw_andE hh36 (dt_eqs (dv_var v2.toNm rfl) dv_str) fun _ _ hF => (by obtain ⟨r33, hh34, hF⟩ := bindP_out hF (Ex.ok_ne _); cases hF; exact (dw_and1 (dt_not (dt_val (c_l_whole T (B.room.mono (by decide)) (B.gl (x := "_law_whole") rfl) (dv_var v1.toNm rfl) hh34))))))) (fun hh37 => ?_) (fun hh37 => ?_) ?_ then_fgt)
    ·
      rw [if_pos hh37] at hF
      obtain ⟨word39, hh40, hF⟩ := letE_out hF
      refine ds_cons (ds1_set v2 (dv_isE (enc := D.str) dv_str hh40) ?_)
      change DS _ _ _ [some (.str text1), some (dOpt D.int found31), some (.str word39), none] [] _
      refine ds_nil ?_
      exact join_nx () word39 hF ⟨.inr rfl, .inr rfl, .inr rfl, .inl rfl, trivial⟩ rfl
    ·
      rw [if_neg (by rw [hh37]; decide)] at hF
      refine ds_nil ?_
      exact join_nx () word32 hF ⟨.inr rfl, .inr rfl, .inr rfl, .inl rfl, trivial⟩ rfl
    ·
      rintro ⟨⟩ word41 hF
      subst hjk38
      change DS _ _ _ [some (.str text1), some (dOpt D.int found31), some (.str word41), none] [] _
      refine ds_cons (ds1_retV (show DV _ _ _ _ _ (dk_T2SOI (word41, found31)) from dv_tup (da_cons (dv_var v2.toNm rfl) (da_cons (dv_var v1.toNm rfl) da_nil)) (szN 2 rfl)) ?_)
      exact ret_mk (enc := dk_T2SOI) (M := []) hF
theorem c_l_read {X : Cx} {kx : XD} {ρ : Ro} {M : Mem} {pos p : Pos} {e0 : Expr} {text1 : Str} {r : Str × (Option Int)} (T : Txt X.K X.mg A) (hr : Room 5 X.A) (hg : Gl X "_law_read") (h0 : DV X kx e0 ρ M (.str text1)) (hF : F_l_read text1 = .ok r) (he0 : starEach [e0] X.env = (false, eval e0 X.env) :: starEach [] X.env := by rfl) (hpl : (backTo pos (starEach [] X.env)).any (·.1) = false := by rfl) : DV X kx (.Call (.Name "_law_read" p) [e0] [] pos) ρ M (dk_T2SOI r) :=
  dv_call (g_l_read T) hr hg (da_cons h0 da_nil he0) text1 rfl (fun h => Ex.ok_ne r (hF.symm.trans h)) (fun d ⟨r', a1, a2⟩ => by cases hF.symm.trans a1; exact a2) (fun cls fs ⟨n, a1, _⟩ => by cases hF.symm.trans a1) (by decide) he0 hpl
theorem sc_l_right : FnScope ["_law_text", "_law_due_here", "_law_word"] ["_law_text"] (defScope s_l_right) := fscope (by decide +kernel)
theorem g_l_right (T : Txt K mg A) : GF P w K mg base 6 "_law_right" [] (spE K mg (fun q : Str => [.str q]) (fun q => F_l_right q) D.bl) := by
  refine T.f_l_right.gf fun f fd F => fn_e F sc_l_right (fun _ => rfl) fun X e1 e2 e3 e4 e5 B Fz text1 out hF hne => ?_
  subst e1 e2 e3 e4 e5
  have v0 : Ns X 0 "_law_text" := B.ns rfl rfl
  have v1 : Ns X 1 "_law_due_here" := B.ns rfl rfl
  have v2 : Ns X 2 "_law_word" := B.ns rfl rfl
  replace hF : F_l_right text1 = out := hF
  unfold F_l_right at hF
  change DS _ _ _ [some (.str text1), none, none] [] _
  obtain ⟨r2, hh3, hF⟩ := bindP_out hF hne
  refine ds_cons (ds1_set v1 (c_l_due T (B.room.mono (by decide)) (B.gl (x := "_law_due") rfl) (dv_var v0.toNm rfl) hh3) ?_)
  change DS _ _ _ [some (.str text1), some (dOpt D.int r2), none] [] _
  obtain ⟨word4, hh5, hF⟩ := letE_out hF
  refine ds_cons (ds1_set v2 (dv_isE (enc := D.str) dv_str hh5) ?_)
  change DS _ _ _ [some (.str text1), some (dOpt D.int r2), some (.str word4)] [] _
  obtain ⟨jk7, hjk7, hF⟩ := letJ_out hF
  refine ds_cons (ds1_ifJ (kf := jk7) (out := out) (fun (a : Unit) (z : Str) => [some (.str text1), some (dOpt D.int r2), some (.str z)]) (fun (a : Unit) (z : Str) => []) (dt_isNO (fun _ => rfl) (dv_var v1.toNm rfl)) (fun hh6 => ?_) (fun hh6 => ?_) ?_ then_fgt)
  ·
    rw [if_pos hh6] at hF
    obtain ⟨word8, hh9, hF⟩ := letE_out hF
    refine ds_cons (ds1_set v2 (dv_isE (enc := D.str) dv_str hh9) ?_)
    change DS _ _ _ [some (.str text1), some (dOpt D.int r2), some (.str word8)] [] _
    refine ds_nil ?_
    exact join_nx () word8 hF ⟨.inr rfl, .inr rfl, .inr rfl, trivial⟩ rfl
  ·
    rw [if_neg (by rw [hh6]; decide)] at hF
    refine ds_nil ?_
    exact join_nx () word4 hF ⟨.inr rfl, .inr rfl, .inr rfl, trivial⟩ rfl
  ·
    rintro ⟨⟩ word10 hF
    subst hjk7
    change DS _ _ _ [some (.str text1), some (dOpt D.int r2), some (.str word10)] [] _
    obtain ⟨r11, hh12, hF⟩ := bindP_out hF hne
    obtain ⟨hh13, hF⟩ := gd_out hF hne
    obtain ⟨hh14, hF⟩ := gd_out hF hne
    refine ds_cons (ds1_retV (dv_eqD B.hu (c_l_read T (B.room.mono (by decide)) (B.gl (x := "_law_read") rfl) (dv_var v0.toNm rfl) hh12) (show DV _ _ _ _ _ (dk_T2SOI (word10, r2)) from dv_tup (da_cons (dv_var v2.toNm rfl) (da_cons (dv_var v1.toNm rfl) da_nil)) (szN 2 rfl)) (en_T2SOI.eqs r11 (word10, r2) hh13 hh14)) ?_)
    exact ret_mk (enc := D.bl) (M := []) hF
theorem c_l_right {X : Cx} {kx : XD} {ρ : Ro} {M : Mem} {pos p : Pos} {e0 : Expr} {text1 : Str} {r : Bool} (T : Txt X.K X.mg A) (hr : Room 6 X.A) (hg : Gl X "_law_right") (h0 : DV X kx e0 ρ M (.str text1)) (hF : F_l_right text1 = .ok r) (he0 : starEach [e0] X.env = (false, eval e0 X.env) :: starEach [] X.env := by rfl) (hpl : (backTo pos (starEach [] X.env)).any (·.1) = false := by rfl) : DV X kx (.Call (.Name "_law_right" p) [e0] [] pos) ρ M (.bl r) :=
  dv_call (g_l_right T) hr hg (da_cons h0 da_nil he0) text1 rfl (fun h => Ex.ok_ne r (hF.symm.trans h)) (fun d ⟨r', a1, a2⟩ => by cases hF.symm.trans a1; exact a2) (fun cls fs ⟨n, a1, _⟩ => by cases hF.symm.trans a1) (by decide) he0 hpl
theorem sc_l_odd : FnScope ["_law_cell", "_law_some"] ["_law_cell"] (defScope s_l_odd) := fscope (by decide +kernel)
theorem g_l_odd (T : Txt K mg A) : GF P w K mg base 1 "_law_odd" [] (spE K mg (fun q : Int => [.int q]) (fun q => F_l_odd q) dD) := by
  refine T.f_l_odd.gf fun f fd F => fn_e F sc_l_odd (fun _ => rfl) fun X e1 e2 e3 e4 e5 B Fz cell1 out hF hne => ?_
  subst e1 e2 e3 e4 e5
  have v0 : Ns X 0 "_law_cell" := B.ns rfl rfl
  have v1 : Ns X 1 "_law_some" := B.ns rfl rfl
  replace hF : F_l_odd cell1 = out := hF
  unfold F_l_odd at hF
  change DS _ _ _ [some (.int cell1), none] [] _
  obtain ⟨some2, hh3, hF⟩ := letE_out hF
  refine (fun h9 => ds_setQ (d := .lst (some2.map D.str)) rfl v1 h9 ?hp9 ?hs9 ?hw9) ?h9
  case hs9 => rfl
  case hw9 => rfl
  case h9 =>
    subst hh3
    refine dv_strs ?ha9 ?hb9
    case ha9 => rfl
    case hb9 => decide
  case hp9 =>
    change DS _ _ _ [some (.int cell1), some (.lst (some2.map D.str))] [] _
    obtain ⟨hh4, hF⟩ := gd_out hF hne
    obtain ⟨some5, hh6, hF⟩ := letE_out hF
    refine ds_cons (ds1_set v1 (dv_isE (enc := dk_LD) (dv_catM (g := dD) (DV.is (dv_var v1.toNm rfl) (show _ = .lst ((some2.map fun x => (.str x : D)).map dD) from (coeL _ fun _ => rfl))) (show DV _ _ _ _ _ (.lst ([(.str ("1:2" : Str) : D), (.str ("a" : Str) : D), (.str ("1\n" : Str) : D), (.str ("	1" : Str) : D), (.non : D), (.int 7 : D), (dk_T2II (1, 2) : D), (.bl true : D), (.lst ([("1" : Str)].map D.str) : D)].map dD)) from (by refine dv_constsD ?_ ?_ <;> first | rfl | decide)) (.lst _) (.lst _) (sz_le hh4)) hh6) ?_)
    change DS _ _ _ [some (.int cell1), some (.lst (some5.map dD))] [] _
    obtain ⟨x7, hh8, hF⟩ := bindP_out hF hne
    refine ds_cons (ds1_retV (dv_ixS (dv_var v1.toNm rfl) (.lst _) (dv_mod (dv_var v0.toNm rfl) dv_int (by decide)) (ixE_out hh8 dD)) ?_)
    exact ret_mk (enc := dD) (M := []) hF
theorem c_l_odd {X : Cx} {kx : XD} {ρ : Ro} {M : Mem} {pos p : Pos} {e0 : Expr} {cell1 : Int} {r : D} (T : Txt X.K X.mg A) (hr : Room 1 X.A) (hg : Gl X "_law_odd") (h0 : DV X kx e0 ρ M (.int cell1)) (hF : F_l_odd cell1 = .ok r) (he0 : starEach [e0] X.env = (false, eval e0 X.env) :: starEach [] X.env := by rfl) (hpl : (backTo pos (starEach [] X.env)).any (·.1) = false := by rfl) : DV X kx (.Call (.Name "_law_odd" p) [e0] [] pos) ρ M (dD r) :=
  dv_call (g_l_odd T) hr hg (da_cons h0 da_nil he0) cell1 rfl (fun h => Ex.ok_ne r (hF.symm.trans h)) (fun d ⟨r', a1, a2⟩ => by cases hF.symm.trans a1; exact a2) (fun cls fs ⟨n, a1, _⟩ => by cases hF.symm.trans a1) (by decide) he0 hpl
theorem sc_l_spoilt : FnScope ["_law_text", "_law_cell", "_law_at"] ["_law_text", "_law_cell"] (defScope s_l_spoilt) := fscope (by decide +kernel)
theorem g_l_spoilt (T : Txt K mg A) : GF P w K mg base 2 "_law_spoilt" [] (spE K mg (fun q : Str × Int => [.str q.1, .int q.2]) (fun q => F_l_spoilt q.1 q.2) dD) := by
  refine T.f_l_spoilt.gf fun f fd F => fn_e F sc_l_spoilt (fun _ => rfl) fun X e1 e2 e3 e4 e5 B Fz q out hF hne => ?_
  subst e1 e2 e3 e4 e5
  have v0 : Ns X 0 "_law_text" := B.ns rfl rfl
  have v1 : Ns X 1 "_law_cell" := B.ns rfl rfl
  have v2 : Ns X 2 "_law_at" := B.ns rfl rfl
  obtain ⟨text1, cell2⟩ := q
  replace hF : F_l_spoilt text1 cell2 = out := hF
  unfold F_l_spoilt at hF
  change DS _ _ _ [some (.str text1), some (.int cell2), none] [] _
  obtain ⟨hh3, hF⟩ := gd_out hF hne
  obtain ⟨hh4, hF⟩ := gd_out hF hne
  obtain ⟨at5, hh6, hF⟩ := letE_out hF
  refine ds_cons (ds1_set v2 (dv_isE (enc := D.int) (dv_mod (dv_fdiv (dv_var v1.toNm rfl) dv_int (div_c (by decide) (by decide))) (dv_add dv_int (dv_lenS (B.bn (x := "len") rfl T.b_len bt_len) (dv_var v0.toNm rfl) (sz_le hh3))) hh4) hh6) ?_)
  change DS _ _ _ [some (.str text1), some (.int cell2), some (.int at5)] [] _
  refine ds_cons (ds1_if (dt_eqi (dv_mod (dv_var v1.toNm rfl) dv_int (by decide)) dv_int) (fun hh7 => ?_) (fun hh7 => ?_))
  ·
    replace hF := ite_t hF hh7
    obtain ⟨hh8, hF⟩ := gd_out hF hne
    obtain ⟨hh9, hF⟩ := gd_out hF hne
    obtain ⟨c10, hh11, hF⟩ := bindP_out hF hne
    obtain ⟨hh12, hF⟩ := gd_out hF hne
    obtain ⟨hh13, hF⟩ := gd_out hF hne
    obtain ⟨hh14, hF⟩ := gd_out hF hne
    refine ds_cons (ds1_retV (DV.is (dv_addS (dv_addS (dv_slT' (dv_var v0.toNm rfl) hh8 do_none (do_some (dv_var v2.toNm rfl))) (dv_ixSg dv_str (dv_mod (dv_fdiv (dv_var v1.toNm rfl) dv_int (div_c (by decide) (by decide))) dv_int (by decide)) hh9 hh11) hh12) (dv_slT' (dv_var v0.toNm rfl) hh13 (do_some (dv_var v2.toNm rfl)) do_none) hh14) (show _ = dD (.str (((cutS text1 none (some at5)) ++ (sg c10)) ++ (cutS text1 (some at5) none)) : D) from rfl)) ?_)
    exact ret_mk (enc := dD) (M := []) hF
  ·
    replace hF := ite_f hF hh7
    refine ds_nil ?_
    refine ds_cons (ds1_if (dt_eqi (dv_mod (dv_var v1.toNm rfl) dv_int (by decide)) dv_int) (fun hh15 => ?_) (fun hh15 => ?_))
    ·
      replace hF := ite_t hF hh15
      obtain ⟨hh16, hF⟩ := gd_out hF hne
      obtain ⟨hh17, hF⟩ := gd_out hF hne
      obtain ⟨hh18, hF⟩ := gd_out hF hne
      refine ds_cons (ds1_retV (DV.is (dv_addS (dv_slT' (dv_var v0.toNm rfl) hh16 do_none (do_some (dv_var v2.toNm rfl))) (dv_slT' (dv_var v0.toNm rfl) hh17 (do_some (dv_add (dv_add (dv_var v2.toNm rfl) dv_int) (dv_mod (dv_fdiv (dv_var v1.toNm rfl) dv_int (div_c (by decide) (by decide))) dv_int (by decide)))) do_none) hh18) (show _ = dD (.str ((cutS text1 none (some at5)) ++ (cutS text1 (some ((at5 + 1) + ((cell2 / 7) % 2))) none)) : D) from rfl)) ?_)
      exact ret_mk (enc := dD) (M := []) hF
    ·
      replace hF := ite_f hF hh15
      refine ds_nil ?_
      refine ds_cons (ds1_if (dt_eqi (dv_mod (dv_var v1.toNm rfl) dv_int (by decide)) dv_int) (fun hh19 => ?_) (fun hh19 => ?_))
      ·
        replace hF := ite_t hF hh19
        obtain ⟨hh20, hF⟩ := gd_out hF hne
        refine ds_cons (ds1_retV (DV.is (dv_mulS dv_str (dv_add dv_int (dv_mod (dv_fdiv (dv_var v1.toNm rfl) dv_int (div_c (by decide) (by decide))) dv_int (by decide))) hh20) (show _ = dD (.str (repT ("8" : Str) (1001 + ((cell2 / 5) % 300))) : D) from rfl)) ?_)
        exact ret_mk (enc := dD) (M := []) hF
      ·
        replace hF := ite_f hF hh19
        refine ds_nil ?_
        refine ds_cons (ds1_if (dt_eqi (dv_mod (dv_var v1.toNm rfl) dv_int (by decide)) dv_int) (fun hh21 => ?_) (fun hh21 => ?_))
        ·
          replace hF := ite_t hF hh21
          obtain ⟨hh22, hF⟩ := gd_out hF hne
          obtain ⟨hh23, hF⟩ := gd_out hF hne
          refine ds_cons (ds1_retV (DV.is (dv_addS (dv_mulS dv_str (dv_mod (dv_fdiv (dv_var v1.toNm rfl) dv_int (div_c (by decide) (by decide))) dv_int (by decide)) hh22) (dv_var v0.toNm rfl) hh23) (show _ = dD (.str ((repT ("-" : Str) ((cell2 / 5) % 3)) ++ text1) : D) from rfl)) ?_)
          exact ret_mk (enc := dD) (M := []) hF
        ·
          replace hF := ite_f hF hh21
          refine ds_nil ?_
          obtain ⟨r24, hh25, hF⟩ := bindP_out hF hne
          refine ds_cons (ds1_retV (c_l_odd T (B.room.mono (by decide)) (B.gl (x := "_law_odd") rfl) (dv_fdiv (dv_var v1.toNm rfl) dv_int (div_c (by decide) (by decide))) hh25) ?_)
          exact ret_mk (enc := dD) (M := []) hF
theorem c_l_spoilt {X : Cx} {kx : XD} {ρ : Ro} {M : Mem} {pos p : Pos} {e0 e1 : Expr} {text1 : Str} {cell2 : Int} {r : D} (T : Txt X.K X.mg A) (hr : Room 2 X.A) (hg : Gl X "_law_spoilt") (h0 : DV X kx e0 ρ M (.str text1)) (h1 : DV X kx e1 ρ M (.int cell2)) (hF : F_l_spoilt text1 cell2 = .ok r) (he0 : starEach [e0, e1] X.env = (false, eval e0 X.env) :: starEach [e1] X.env := by rfl) (he1 : starEach [e1] X.env = (false, eval e1 X.env) :: starEach [] X.env := by rfl) (hpl : (backTo pos (starEach [e1] X.env)).any (·.1) = false := by rfl) : DV X kx (.Call (.Name "_law_spoilt" p) [e0, e1] [] pos) ρ M (dD r) :=
  dv_call (g_l_spoilt T) hr hg (da_cons h0 (da_cons h1 da_nil he1) he0) (text1, cell2) rfl (fun h => Ex.ok_ne r (hF.symm.trans h)) (fun d ⟨r', a1, a2⟩ => by cases hF.symm.trans a1; exact a2) (fun cls fs ⟨n, a1, _⟩ => by cases hF.symm.trans a1) (by decide) he0 hpl
theorem sc_l_due_2 : FnScope ["_law_text", "_law_figures", "_law_sign"] ["_law_text"] (defScope s_l_due) := fscope (by decide +kernel)
theorem g_l_due_2 (T : Txt K mg A) : GF P w K mg base 1 "_law_due" [] (spE K mg (fun q : D => [dD q]) (fun q => F_l_due_2 q) (dOpt D.int)) := by
  refine T.f_l_due.gf fun f fd F => fn_e F sc_l_due_2 (fun _ => rfl) fun X e1 e2 e3 e4 e5 B Fz text1 out hF hne => ?_
  subst e1 e2 e3 e4 e5
  have v0 : Ns X 0 "_law_text" := B.ns rfl rfl
  have v1 : Ns X 1 "_law_figures" := B.ns rfl rfl
  have v2 : Ns X 2 "_law_sign" := B.ns rfl rfl
  replace hF : F_l_due_2 text1 = out := hF
  unfold F_l_due_2 at hF
  change DS _ _ _ [some (dD text1), none, none] [] _
  obtain ⟨hh2, hF⟩ := gd_out hF hne
  refine ds_cons (ds1_if (dt_not (dt_val (dv_isiD (S := "str") (k1 := false) (k2 := false) (k3 := false) (k4 := true) (k5 := false) (k6 := false) (B.bn (x := "isinstance") rfl T.b_isinstance bt_isinstance) (B.bn (x := "str") rfl T.b_str bt_str) (dv_var v0.toNm rfl) hh2.1 (by decide +kernel) (by decide +kernel) (by decide +kernel) (by decide +kernel) (by decide +kernel) (by decide +kernel)))) (fun hh3 => ?_) (fun hh3 => ?_))
  ·
    replace hF := ite_t hF hh3
    refine ds_cons (ds1_retV (DV.is dv_non (show _ = dOpt D.int none from rfl)) ?_)
    exact ret_mk (enc := (dOpt D.int)) (M := []) hF
  ·
    replace hF := ite_f hF hh3
    refine ds_nil ?_
    refine ds_cons (ds1_set v1 (dv_var v0.toNm rfl) ?_)
    change DS _ _ _ [some (dD text1), some (dD text1), none] [] _
    obtain ⟨s4, hh5, hF⟩ := bindP_out hF hne
    obtain ⟨hh6, hF⟩ := gd_out hF hne
    obtain ⟨jk8, hjk8, hF⟩ := jpE_out hF
    refine ds_cons (ds1_ifJ (kf := jk8) (out := out) (fun (a : Unit) (z : D) => [some (dD text1), some (dD z), none]) (fun (a : Unit) (z : D) => []) (dt_eqs (dv_slT' (dv_asS (dv_var v0.toNm rfl) hh5) hh6 do_none (do_some dv_int)) dv_str) (fun hh7 => ?_) (fun hh7 => ?_) ?_ then_fgt)
    ·
      replace hF := ite_t hF hh7
      obtain ⟨s9, hh10, hF⟩ := bindP_out hF hne
      obtain ⟨hh11, hF⟩ := gd_out hF hne
      obtain ⟨figures12, hh13, hF⟩ := letE_out hF
      refine ds_cons (ds1_set v1 (dv_isE (enc := D.str) (dv_slT' (dv_asS (dv_var v0.toNm rfl) hh10) hh11 (do_some dv_int) do_none) hh13) ?_)
      change DS _ _ _ [some (dD text1), some (.str figures12), none] [] _
      refine ds_nil ?_
      exact join_nx () (.str figures12 : D) hF ⟨.inr rfl, .inr rfl, .inl rfl, trivial⟩ rfl
    ·
      replace hF := ite_f hF hh7
      refine ds_nil ?_
      exact join_nx () text1 hF ⟨.inr rfl, .inr rfl, .inl rfl, trivial⟩ rfl
    ·
      rintro ⟨⟩ figures14 hF
      subst hjk8
      change DS _ _ _ [some (dD text1), some (dD figures14), none] [] _
      obtain ⟨hh15, hF⟩ := gd_out hF hne
      obtain ⟨hh16, hF⟩ := gd_out hF hne
      obtain ⟨b31, hh32, hF⟩ := bindP_out hF hne
      refine ds_cons (ds1_if (DW.t (dw_orE hh32 (dt_eqD B.hu (dv_var v1.toNm rfl) (DV.is dv_str (show _ = dD (.str ("" : Str) : D) from rfl)) (eqs_D hh15 hh16)) fun _ _ hF => (by obtain ⟨s17, hh18, hF⟩ := bindP_out hF (Ex.ok_ne _); obtain ⟨hh19, hF⟩ := gd_out hF (Ex.ok_ne _); obtain ⟨b29, hh30, hF⟩ := bindP_out hF (Ex.ok_ne _); cases hF; exact (dw_orE hh30 (dt_gt (dv_lenS (B.bn (x := "len") rfl T.b_len bt_len) (dv_asS (dv_var v1.toNm rfl) hh18) (sz_le hh19)) dv_int) fun _ _ hF => (by obtain ⟨s20, hh21, hF⟩ := bindP_out hF (Ex.ok_ne _); obtain ⟨hh22, hF⟩ := gd_out hF (Ex.ok_ne _); obtain ⟨c23, hh24, hF⟩ := bindP_out hF (Ex.ok_ne _); obtain ⟨b27, hh28, hF⟩ := bindP_out hF (Ex.ok_ne _); cases hF; exact (dw_or1 (DW.t (dw_andE hh28 (dt_eqs (dv_ixSg (dv_asS (dv_var v1.toNm rfl) hh21) dv_int hh22 hh24) dv_str) fun _ _ hF => (by obtain ⟨hh25, hF⟩ := gd_out hF (Ex.ok_ne _); obtain ⟨hh26, hF⟩ := gd_out hF (Ex.ok_ne _); cases hF; exact (dw_and1 (dt_neD B.hu (dv_var v0.toNm rfl) (DV.is dv_str (show _ = dD (.str ("0" : Str) : D) from rfl)) (eqs_D hh25 hh26)))))))))))) (fun hh33 => ?_) (fun hh33 => ?_))
      ·
        replace hF := ite_t hF hh33
        refine ds_cons (ds1_retV (DV.is dv_non (show _ = dOpt D.int none from rfl)) ?_)
        exact ret_mk (enc := (dOpt D.int)) (M := []) hF
      ·
        replace hF := ite_f hF hh33
        refine ds_nil ?_
        obtain ⟨s34, hh35, hF⟩ := bindP_out hF hne
        obtain ⟨o45, hh46, hh47, hF⟩ := bindX_cut hF hne
        refine ds_cons (ds1_loopE (enc := D.str) (enr := (dOpt D.int)) B (fun (z : Unit) => [some (dD text1), some (dD figures14), none]) (fun (z : Unit) => []) hh46 hh47 (di_str (dv_asS (dv_var v1.toNm rfl) hh35)) ⟨.inr rfl, .inr rfl, .inl rfl, trivial⟩ rfl ?hso45 ?hdo45 ?hro45 ?hxo45 then_fgt)
        case hso45 =>
          clear hF
          rintro ⟨⟩ x36 o37 _ hF hne
          refine ⟨_, _, (dg_name v2), ?_⟩
          change DS _ _ _ [some (dD text1), some (dD figures14), some (.str x36)] [] _
          obtain ⟨hh38, hF⟩ := gd_out hF hne
          refine ds_cons (ds1_if (dt_ninSg hh38 (dv_var v2.toNm rfl) dv_str) (fun hh39 => ?_) (fun hh39 => ?_))
          ·
            replace hF := ite_t hF hh39
            refine ds_cons (ds1_retV (DV.is dv_non (show _ = dOpt D.int none from rfl)) ?_)
            exact loop_rt (R := fun _ => []) (Mf := fun _ => []) (enr := (dOpt D.int)) (M := []) hF
          ·
            replace hF := ite_f hF hh39
            refine ds_nil ?_
            refine ds_nil ?_
            exact loop_nx (enr := (dOpt D.int)) hF ⟨.inr rfl, .inr rfl, .inl rfl, trivial⟩ rfl
        case hdo45 =>
          rintro ⟨⟩ rfl
          replace hF := okE hF
          replace hF := nxE hF
          change DS _ _ _ [some (dD text1), some (dD figures14), none] [] _
          obtain ⟨s40, hh41, hF⟩ := bindP_out hF hne
          obtain ⟨hh42, hF⟩ := gd_out hF hne
          obtain ⟨i43, hh44, hF⟩ := bindP_out hF hne
          refine ds_cons (ds1_retV (DV.is (dv_intN T.nodg (B.bn (x := "int") rfl T.b_int bt_int) (some_out hh44) hh42 (dv_asS (dv_var v0.toNm rfl) hh41)) (show _ = dOpt D.int (some i43) from rfl)) ?_)
          exact ret_mk (enc := (dOpt D.int)) (M := []) hF
        case hro45 =>
          rintro r48 _ rfl
          exact ret_mk (enc := (dOpt D.int)) (M := []) hF
        case hxo45 =>
          rintro cls fs _ _ ⟨n, rfl, e2⟩
          exact kx_exc hF e2
theorem c_l_due_2 {X : Cx} {kx : XD} {ρ : Ro} {M : Mem} {pos p : Pos} {e0 : Expr} {text1 : D} {r : Option Int} (T : Txt X.K X.mg A) (hr : Room 1 X.A) (hg : Gl X "_law_due") (h0 : DV X kx e0 ρ M (dD text1)) (hF : F_l_due_2 text1 = .ok r) (he0 : starEach [e0] X.env = (false, eval e0 X.env) :: starEach [] X.env := by rfl) (hpl : (backTo pos (starEach [] X.env)).any (·.1) = false := by rfl) : DV X kx (.Call (.Name "_law_due" p) [e0] [] pos) ρ M (dOpt D.int r) :=
  dv_call (g_l_due_2 T) hr hg (da_cons h0 da_nil he0) text1 rfl (fun h => Ex.ok_ne r (hF.symm.trans h)) (fun d ⟨r', a1, a2⟩ => by cases hF.symm.trans a1; exact a2) (fun cls fs ⟨n, a1, _⟩ => by cases hF.symm.trans a1) (by decide) he0 hpl
theorem sc_read_number_2 : FnScope ["text", "figures", "sign"] ["text"] (defScope s_read_number) := fscope (by decide +kernel)
theorem g_read_number_2 (T : Txt K mg A) : GF P w K mg base 4 "read_number" [] (spE K mg (fun q : D => [dD q]) (fun q => F_read_number_2 q) D.int) := by
  refine T.f_read_number.gf fun f fd F => fn_e F sc_read_number_2 (fun _ => rfl) fun X e1 e2 e3 e4 e5 B Fz text1 out hF hne => ?_
  subst e1 e2 e3 e4 e5
  have v0 : Ns X 0 "text" := B.ns rfl rfl
  have v1 : Ns X 1 "figures" := B.ns rfl rfl
  replace hF : F_read_number_2 text1 = out := hF
  unfold F_read_number_2 at hF
  change DS _ _ _ [some (dD text1), none, none] [] _
  obtain ⟨hh2, hF⟩ := gd_out hF hne
  rcases bindX_out hF hne with ⟨r3, hh4, hF⟩ | ⟨n, fs, hh4, hF⟩
  rotate_left
  · exact ds_cons (ds1_void (x_needed T (B.room.mono (by decide)) (B.gl (x := "needed") rfl) (dv_isiD (S := "str") (k1 := false) (k2 := false) (k3 := false) (k4 := true) (k5 := false) (k6 := false) (B.bn (x := "isinstance") rfl T.b_isinstance bt_isinstance) (B.bn (x := "str") rfl T.b_str bt_str) (dv_var v0.toNm rfl) hh2.1 (by decide +kernel) (by decide +kernel) (by decide +kernel) (by decide +kernel) (by decide +kernel) (by decide +kernel)) hh4 fun cls hm => (kx_exc hF.symm hm)))
  refine ds_cons (ds1_exprV (c_needed T (B.room.mono (by decide)) (B.gl (x := "needed") rfl) (dv_isiD (S := "str") (k1 := false) (k2 := false) (k3 := false) (k4 := true) (k5 := false) (k6 := false) (B.bn (x := "isinstance") rfl T.b_isinstance bt_isinstance) (B.bn (x := "str") rfl T.b_str bt_str) (dv_var v0.toNm rfl) hh2.1 (by decide +kernel) (by decide +kernel) (by decide +kernel) (by decide +kernel) (by decide +kernel) (by decide +kernel)) hh4) ?_)
  refine ds_cons (ds1_set v1 (dv_var v0.toNm rfl) ?_)
  change DS _ _ _ [some (dD text1), some (dD text1), none] [] _
  obtain ⟨s5, hh6, hF⟩ := bindP_out hF hne
  obtain ⟨jk8, hjk8, hF⟩ := jpE_out hF
  refine ds_cons (ds1_ifJ (kf := jk8) (out := out) (fun (a : Unit) (z : D) => [some (dD text1), some (dD z), none]) (fun (a : Unit) (z : D) => []) (dt_val (dv_startswith (dv_asS (dv_var v0.toNm rfl) hh6) dv_str)) (fun hh7 => ?_) (fun hh7 => ?_) ?_ then_fgt)
  ·
    replace hF := ite_t hF hh7
    obtain ⟨s9, hh10, hF⟩ := bindP_out hF hne
    obtain ⟨hh11, hF⟩ := gd_out hF hne
    obtain ⟨figures12, hh13, hF⟩ := letE_out hF
    refine ds_cons (ds1_set v1 (dv_isE (enc := D.str) (dv_slT' (dv_asS (dv_var v0.toNm rfl) hh10) hh11 (do_some dv_int) do_none) hh13) ?_)
    change DS _ _ _ [some (dD text1), some (.str figures12), none] [] _
    refine ds_nil ?_
    exact join_nx () (.str figures12 : D) hF ⟨.inr rfl, .inr rfl, .inl rfl, trivial⟩ rfl
  ·
    replace hF := ite_f hF hh7
    refine ds_nil ?_
    exact join_nx () text1 hF ⟨.inr rfl, .inr rfl, .inl rfl, trivial⟩ rfl
  ·
    rintro ⟨⟩ figures14 hF
    subst hjk8
    change DS _ _ _ [some (dD text1), some (dD figures14), none] [] _
    obtain ⟨s15, hh16, hF⟩ := bindP_out hF hne
    obtain ⟨hh17, hF⟩ := gd_out hF hne
    rcases bindX_out hF hne with ⟨r18, hh19, hF⟩ | ⟨n, fs, hh19, hF⟩
    rotate_left
    · exact ds_cons (ds1_void (x_needed T (B.room.mono (by decide)) (B.gl (x := "needed") rfl) (dv_chain op_le op_le dv_int (dv_lenS (B.bn (x := "len") rfl T.b_len bt_len) (dv_asS (dv_var v1.toNm rfl) hh16) (sz_le hh17)) (T.k_MOST_FIGURES.elim fun _ h => dv_gint (B.gl (x := "MOST_FIGURES") rfl) h ⟨_, rfl⟩)) hh19 fun cls hm => (kx_exc hF.symm hm)))
    refine ds_cons (ds1_exprV (c_needed T (B.room.mono (by decide)) (B.gl (x := "needed") rfl) (dv_chain op_le op_le dv_int (dv_lenS (B.bn (x := "len") rfl T.b_len bt_len) (dv_asS (dv_var v1.toNm rfl) hh16) (sz_le hh17)) (T.k_MOST_FIGURES.elim fun _ h => dv_gint (B.gl (x := "MOST_FIGURES") rfl) h ⟨_, rfl⟩)) hh19) ?_)
    obtain ⟨s20, hh21, hF⟩ := bindP_out hF hne
    obtain ⟨hh25, hF⟩ := gd_out hF hne
    obtain ⟨ys26, hh27, hF⟩ := bindP_out hF hne
    rcases bindX_out hF hne with ⟨r28, hh29, hF⟩ | ⟨n, fs, hh29, hF⟩
    rotate_left
    · exact ds_cons (ds1_void (x_needed T (B.room.mono (by decide)) (B.gl (x := "needed") rfl) (dv_all B.calm (B.bn (x := "all") rfl T.b_all bt_all) (dv_lcE (own := [("sign", 2)]) B  (di_str (dv_asS (dv_var v1.toNm rfl) hh21)) (blkOk_by (by decide +kernel)) (sz_lt hh25) (fun u22 hx => ⟨_, _, fun _ h => h, fun _ _ _ _ _ _ _ B23 => ⟨(dg_name (B23.ns (i := 2) rfl rfl)), lcb_E (enc := D.bl) ((compE_out hh27).2 u22 hx) (fun _ hF => (by cases hF; exact dts_nil)) fun _ hF => (by obtain ⟨hh24, hF⟩ := gd_out hF (Ex.ok_ne _); cases hF; exact (dv_inSg hh24 (dv_var (B23.nm (i := 2) rfl (vloc rfl)) rfl) (T.k_FIGURES.elim fun _ h => dv_gstr (B23.gl (x := "FIGURES") rfl) h ⟨_, rfl⟩)))⟩⟩) (outs_E D.bl (compE_out hh27).1)) (.lst _)) hh29 fun cls hm => (kx_exc hF.symm hm)))
    refine ds_cons (ds1_exprV (c_needed T (B.room.mono (by decide)) (B.gl (x := "needed") rfl) (dv_all B.calm (B.bn (x := "all") rfl T.b_all bt_all) (dv_lcE (own := [("sign", 2)]) B  (di_str (dv_asS (dv_var v1.toNm rfl) hh21)) (blkOk_by (by decide +kernel)) (sz_lt hh25) (fun u22 hx => ⟨_, _, fun _ h => h, fun _ _ _ _ _ _ _ B23 => ⟨(dg_name (B23.ns (i := 2) rfl rfl)), lcb_E (enc := D.bl) ((compE_out hh27).2 u22 hx) (fun _ hF => (by cases hF; exact dts_nil)) fun _ hF => (by obtain ⟨hh24, hF⟩ := gd_out hF (Ex.ok_ne _); cases hF; exact (dv_inSg hh24 (dv_var (B23.nm (i := 2) rfl (vloc rfl)) rfl) (T.k_FIGURES.elim fun _ h => dv_gstr (B23.gl (x := "FIGURES") rfl) h ⟨_, rfl⟩)))⟩⟩) (outs_E D.bl (compE_out hh27).1)) (.lst _)) hh29) ?_)
    obtain ⟨s30, hh31, hF⟩ := bindP_out hF hne
    obtain ⟨hh32, hF⟩ := gd_out hF hne
    obtain ⟨c33, hh34, hF⟩ := bindP_out hF hne
    obtain ⟨b37, hh38, hF⟩ := bindP_out hF hne
    rcases bindX_out hF hne with ⟨r39, hh40, hF⟩ | ⟨n, fs, hh40, hF⟩
    rotate_left
    · exact ds_cons (ds1_void (x_needed T (B.room.mono (by decide)) (B.gl (x := "needed") rfl) (dv_orE hh38 (dv_nes (dv_ixSg (dv_asS (dv_var v1.toNm rfl) hh31) dv_int hh32 hh34) dv_str) fun _ _ hF => (by obtain ⟨hh35, hF⟩ := gd_out hF (Ex.ok_ne _); obtain ⟨hh36, hF⟩ := gd_out hF (Ex.ok_ne _); cases hF; exact (dv_one (dv_eqD B.hu (dv_var v0.toNm rfl) (DV.is dv_str (show _ = dD (.str ("0" : Str) : D) from rfl)) (eqs_D hh35 hh36))))) hh40 fun cls hm => (kx_exc hF.symm hm)))
    refine ds_cons (ds1_exprV (c_needed T (B.room.mono (by decide)) (B.gl (x := "needed") rfl) (dv_orE hh38 (dv_nes (dv_ixSg (dv_asS (dv_var v1.toNm rfl) hh31) dv_int hh32 hh34) dv_str) fun _ _ hF => (by obtain ⟨hh35, hF⟩ := gd_out hF (Ex.ok_ne _); obtain ⟨hh36, hF⟩ := gd_out hF (Ex.ok_ne _); cases hF; exact (dv_one (dv_eqD B.hu (dv_var v0.toNm rfl) (DV.is dv_str (show _ = dD (.str ("0" : Str) : D) from rfl)) (eqs_D hh35 hh36))))) hh40) ?_)
    obtain ⟨s41, hh42, hF⟩ := bindP_out hF hne
    obtain ⟨hh43, hF⟩ := gd_out hF hne
    obtain ⟨i44, hh45, hF⟩ := bindP_out hF hne
    refine ds_cons (ds1_retV (dv_intN T.nodg (B.bn (x := "int") rfl T.b_int bt_int) (some_out hh45) hh43 (dv_asS (dv_var v0.toNm rfl) hh42)) ?_)
    exact ret_mk (enc := D.int) (M := []) hF
theorem x_read_number_2 {X : Cx} {kx : XD} {ρ : Ro} {M : Mem} {pos p : Pos} {e0 : Expr} {text1 : D} {n : Str} {fs : List (Str × D)} (T : Txt X.K X.mg A) (hr : Room 4 X.A) (hg : Gl X "read_number") (h0 : DV X kx e0 ρ M (dD text1)) (hF : F_read_number_2 text1 = .exc n fs) (hk : ∀ cls, X.mg n = some cls → kx cls fs ρ M) (he0 : starEach [e0] X.env = (false, eval e0 X.env) :: starEach [] X.env := by rfl) (hpl : (backTo pos (starEach [] X.env)).any (·.1) = false := by rfl) : DE X kx (.Call (.Name "read_number" p) [e0] [] pos) ρ M fun _ _ => False :=
  de_exc (g_read_number_2 T) hr hg (da_cons h0 da_nil he0) text1 rfl hF hk (by decide) he0 hpl
theorem c_read_number_2 {X : Cx} {kx : XD} {ρ : Ro} {M : Mem} {pos p : Pos} {e0 : Expr} {text1 : D} {r : Int} (T : Txt X.K X.mg A) (hr : Room 4 X.A) (hg : Gl X "read_number") (h0 : DV X kx e0 ρ M (dD text1)) (hF : F_read_number_2 text1 = .ok r) (he0 : starEach [e0] X.env = (false, eval e0 X.env) :: starEach [] X.env := by rfl) (hpl : (backTo pos (starEach [] X.env)).any (·.1) = false := by rfl) : DV X kx (.Call (.Name "read_number" p) [e0] [] pos) ρ M (.int r) :=
  dv_call (g_read_number_2 T) hr hg (da_cons h0 da_nil he0) text1 rfl (fun h => Ex.ok_ne r (hF.symm.trans h)) (fun d ⟨r', a1, a2⟩ => by cases hF.symm.trans a1; exact a2) (fun cls fs ⟨n, a1, _⟩ => by cases hF.symm.trans a1) (by decide) he0 hpl
theorem sc_l_read_2 : FnScope ["_law_text", "_law_found", "_law_word", "e"] ["_law_text"] (defScope s_l_read) := fscope (by decide +kernel)
theorem g_l_read_2 (T : Txt K mg A) : GF P w K mg base 5 "_law_read" [] (spE K mg (fun q : D => [dD q]) (fun q => F_l_read_2 q) dk_T2SOI) := by
  refine T.f_l_read.gf fun f fd F => fn_e F sc_l_read_2 (fun _ => rfl) fun X e1 e2 e3 e4 e5 B Fz text1 out hF hne => ?_
  subst e1 e2 e3 e4 e5
  have v0 : Ns X 0 "_law_text" := B.ns rfl rfl
  have v1 : Ns X 1 "_law_found" := B.ns rfl rfl
  have v2 : Ns X 2 "_law_word" := B.ns rfl rfl
  have v3 : Ns X 3 "e" := B.ns rfl rfl
  replace hF : F_l_read_2 text1 = out := hF
  unfold F_l_read_2 at hF
  change DS _ _ _ [some (dD text1), none, none, none] [] _
  refine ds_cons (ds1_set v1 dv_non ?_)
  change DS _ _ _ [some (dD text1), some (.non), none, none] [] _
  obtain ⟨word2, hh3, hF⟩ := letE_out hF
  refine ds_cons (ds1_set v2 (dv_isE (enc := D.str) dv_str hh3) ?_)
  change DS _ _ _ [some (dD text1), some (.non), some (.str word2), none] [] _
  obtain ⟨jk4, hjk4, hF⟩ := jpE_out hF
  refine ds_cons (ds1_tryG (ad := adE A) (kf := jk4) (out := out) (fun (a : Unit) (z : (Option Int) × Str) => [some (dD text1), some (dOpt D.int z.1), some (.str z.2), none]) (fun (a : Unit) (z : (Option Int) × Str) => []) ([some (dD text1), some (.non), some (.str word2), none]) B Fz (HdD.cons (oi := some 3) (B.gl (x := "BookError") rfl) T.n_BookError ⟨rfl, rfl⟩ (.nil)) hF hne (xs6 T) (by rfl) ?hbo5 ?hho5 ?hko5 then_fgt)
  case hbo5 =>
    clear hF hne
    intro pn xe B Fz o5 hF hne
    have v0 : Ns _ 0 "_law_text" := B.ns rfl rfl
    have v1 : Ns _ 1 "_law_found" := B.ns rfl rfl
    have v2 : Ns _ 2 "_law_word" := B.ns rfl rfl
    have v3 : Ns _ 3 "e" := B.ns rfl rfl
    rcases bindX_out hF hne with ⟨found6, hh7, hF⟩ | ⟨n, fs, hh7, hF⟩
    rotate_left
    · exact ds_cons (ds1_setE v1 (x_read_number_2 T (B.room.mono (by decide)) (B.gl (x := "read_number") rfl) (dv_var v0.toNm rfl) hh7 fun cls hm => ⟨(kx_exc hF.symm hm), ⟨.inr rfl, .inr rfl, .inr rfl, .inl rfl, trivial⟩, rfl⟩) (fun _ _ z => z.elim))
    refine ds_cons (ds1_set v1 (c_read_number_2 T (B.room.mono (by decide)) (B.gl (x := "read_number") rfl) (dv_var v0.toNm rfl) hh7) ?_)
    change DS _ _ _ [some (dD text1), some (.int found6), some (.str word2), none] [] _
    refine ds_nil ?_
    exact (join_nx () ((some found6), word2) hF ⟨.inr rfl, .inr rfl, .inr rfl, .inl rfl, trivial⟩ rfl)
  case hho5 =>
    clear hF
    refine (.cons (xs5 T) (fun e8 hF a l B => ?_) (.nil))
    ·
      have v0 : Ns _ 0 "_law_text" := B.ns rfl rfl
      have v1 : Ns _ 1 "_law_found" := B.ns rfl rfl
      have v2 : Ns _ 2 "_law_word" := B.ns rfl rfl
      have v3 : Ns _ 3 "e" := B.ns rfl rfl
      change DS _ _ _ [some (dD text1), some (.non), some (.str word2), some ((dExn (adE A)) e8)] [] _
      obtain ⟨word9, hh10, hF⟩ := letE_out hF
      refine ds_cons (ds1_set v2 (dv_isE (enc := D.str) dv_str hh10) ?_)
      change DS _ _ _ [some (dD text1), some (.non), some (.str word9), some ((dExn (adE A)) e8)] [] _
      obtain ⟨hh11, hF⟩ := gd_out hF hne
      obtain ⟨b16, hh17, hF⟩ := bindP_out hF hne
      obtain ⟨jk19, hjk19, hF⟩ := jpE_out hF
      refine ds_cons (ds1_ifJ (kf := jk19) (out := out) (fun (a : Unit) (z : Str) => [some (dD text1), some (.non), some (.str z), some ((dExn (adE A)) e8)]) (fun (a : Unit) (z : Str) => []) (DW.t (dw_andE hh17 (dt_val (dv_isX1C (B.bn (x := "isinstance") rfl T.b_isinstance bt_isinstance) (xs1 T) (dv_var v3.toNm rfl) (dv_cls (B.gl (x := "NoText") rfl) T.n_NoText) hh11 (xs0 T))) fun _ _ hF => (by obtain ⟨hh12, hF⟩ := gd_out hF (Ex.ok_ne _); obtain ⟨b14, hh15, hF⟩ := bindP_out hF (Ex.ok_ne _); cases hF; exact (dw_andE hh15 (dt_not (dt_val (dv_isX1C (B.bn (x := "isinstance") rfl T.b_isinstance bt_isinstance) (xs1 T) (dv_var v3.toNm rfl) (dv_cls (B.gl (x := "NoNumber") rfl) T.n_NoNumber) hh12 (xs2 T)))) fun _ _ hF => (by obtain ⟨hh13, hF⟩ := gd_out hF (Ex.ok_ne _); cases hF; exact (dw_and1 (dt_not (dt_val (dv_isX1C (B.bn (x := "isinstance") rfl T.b_isinstance bt_isinstance) (xs1 T) (dv_var v3.toNm rfl) (dv_cls (B.gl (x := "NoRow") rfl) T.n_NoRow) hh13 (xs3 T)))))))))) (fun hh18 => ?_) (fun hh18 => ?_) ?_ then_fgt)
      ·
        replace hF := ite_t hF hh18
        obtain ⟨hh20, hF⟩ := gd_out hF hne
        obtain ⟨line21, hh22, hF⟩ := bindP_out hF hne
        obtain ⟨b26, hh27, hF⟩ := bindP_out hF hne
        obtain ⟨x28, hh29, hF⟩ := bindP_out hF hne
        refine ds_cons (ds1_set v2 (dv_ixS (show DV _ _ _ _ _ (.lst ([("none" : Str), ("other" : Str)].map D.str)) from dv_lst (da_cons dv_str (da_cons dv_str da_nil)) (szN 2 rfl)) (.lst _) (DV.is (dv_intB (B.bn (x := "int") rfl T.b_int bt_int) (dv_orE hh27 (dv_isi (T := "int") (k := false) (B.bn (x := "isinstance") rfl T.b_isinstance bt_isinstance) (B.bn (x := "bool") rfl T.b_bool bt_bool) (dv_xfI (xs4 T) hh20 (dv_var v3.toNm rfl) hh22) (by first | exact .non | exact .int _ | exact .bl _ | exact .str _ | exact .lst _ | exact .tup _ | exact .scr _) (by decide +kernel)) fun _ _ hF => (by obtain ⟨hh23, hF⟩ := gd_out hF (Ex.ok_ne _); obtain ⟨line24, hh25, hF⟩ := bindP_out hF (Ex.ok_ne _); cases hF; exact (dv_one (dv_nei (dv_xfI (xs4 T) hh23 (dv_var v3.toNm rfl) hh25) dv_int))))) (show D.int _ = D.int _ from rfl)) (ixE_out hh29 D.str)) ?_)
        change DS _ _ _ [some (dD text1), some (.non), some (.str x28), some ((dExn (adE A)) e8)] [] _
        refine ds_nil ?_
        exact join_nx () x28 hF ⟨.inr rfl, .inr rfl, .inr rfl, .inr rfl, trivial⟩ rfl
      ·
        replace hF := ite_f hF hh18
        refine ds_nil ?_
        exact join_nx () word9 hF ⟨.inr rfl, .inr rfl, .inr rfl, .inr rfl, trivial⟩ rfl
      ·
        rintro ⟨⟩ word30 hF
        subst hjk19
        change DS _ _ _ [some (dD text1), some (.non), some (.str word30), some ((dExn (adE A)) e8)] [] _
        refine ds_nil ?_
        exact goneS_nx (join_nx () (none, word30) hF ⟨.inr rfl, .inr rfl, .inr rfl, .inl rfl, trivial⟩ rfl)
  case hko5 =>
    rintro ⟨⟩ ⟨found31, word32⟩ hF
    subst hjk4
    change DS _ _ _ [some (dD text1), some (dOpt D.int found31), some (.str word32), none] [] _
    obtain ⟨b35, hh36, hF⟩ := bindP_out hF hne
    obtain ⟨jk38, hjk38, hF⟩ := letJ_out hF
    refine ds_cons (ds1_ifJ (kf := jk38) (out := out) (fun (a : Unit) (z : Str) => [some (dD text1), some (dOpt D.int found31), some (.str z), none]) (fun (a : Unit) (z : Str) => []) (DW.t (dw_andE hh36 (dt_eqs (dv_var v2.toNm rfl) dv_str) fun _ _ hF => (by obtain ⟨r33, hh34, hF⟩ := bindP_out hF (Ex.ok_ne _); cases hF; exact (dw_and1 (dt_not (dt_val (c_l_whole T (B.room.mono (by decide)) (B.gl (x := "_law_whole") rfl) (dv_var v1.toNm rfl) hh34))))))) (fun hh37 => ?_) (fun hh37 => ?_) ?_ then_fgt)
    ·
      rw [if_pos hh37] at hF
      obtain ⟨word39, hh40, hF⟩ := letE_out hF
      refine ds_cons (ds1_set v2 (dv_isE (enc := D.str) dv_str hh40) ?_)
      change DS _ _ _ [some (dD text1), some (dOpt D.int found31), some (.str word39), none] [] _
      refine ds_nil ?_
      exact join_nx () word39 hF ⟨.inr rfl, .inr rfl, .inr rfl, .inl rfl, trivial⟩ rfl
    ·
      rw [if_neg (by rw [hh37]; decide)] at hF
      refine ds_nil ?_
      exact join_nx () word32 hF ⟨.inr rfl, .inr rfl, .inr rfl, .inl rfl, trivial⟩ rfl
    ·
      rintro ⟨⟩ word41 hF
      subst hjk38
      change DS _ _ _ [some (dD text1), some (dOpt D.int found31), some (.str word41), none] [] _
      refine ds_cons (ds1_retV (show DV _ _ _ _ _ (dk_T2SOI (word41, found31)) from dv_tup (da_cons (dv_var v2.toNm rfl) (da_cons (dv_var v1.toNm rfl) da_nil)) (szN 2 rfl)) ?_)
      exact ret_mk (enc := dk_T2SOI) (M := []) hF
theorem c_l_read_2 {X : Cx} {kx : XD} {ρ : Ro} {M : Mem} {pos p : Pos} {e0 : Expr} {text1 : D} {r : Str × (Option Int)} (T : Txt X.K X.mg A) (hr : Room 5 X.A) (hg : Gl X "_law_read") (h0 : DV X kx e0 ρ M (dD text1)) (hF : F_l_read_2 text1 = .ok r) (he0 : starEach [e0] X.env = (false, eval e0 X.env) :: starEach [] X.env := by rfl) (hpl : (backTo pos (starEach [] X.env)).any (·.1) = false := by rfl) : DV X kx (.Call (.Name "_law_read" p) [e0] [] pos) ρ M (dk_T2SOI r) :=
  dv_call (g_l_read_2 T) hr hg (da_cons h0 da_nil he0) text1 rfl (fun h => Ex.ok_ne r (hF.symm.trans h)) (fun d ⟨r', a1, a2⟩ => by cases hF.symm.trans a1; exact a2) (fun cls fs ⟨n, a1, _⟩ => by cases hF.symm.trans a1) (by decide) he0 hpl
theorem sc_l_right_2 : FnScope ["_law_text", "_law_due_here", "_law_word"] ["_law_text"] (defScope s_l_right) := fscope (by decide +kernel)
theorem g_l_right_2 (T : Txt K mg A) : GF P w K mg base 6 "_law_right" [] (spE K mg (fun q : D => [dD q]) (fun q => F_l_right_2 q) D.bl) := by
  refine T.f_l_right.gf fun f fd F => fn_e F sc_l_right_2 (fun _ => rfl) fun X e1 e2 e3 e4 e5 B Fz text1 out hF hne => ?_
  subst e1 e2 e3 e4 e5
  have v0 : Ns X 0 "_law_text" := B.ns rfl rfl
  have v1 : Ns X 1 "_law_due_here" := B.ns rfl rfl
  have v2 : Ns X 2 "_law_word" := B.ns rfl rfl
  replace hF : F_l_right_2 text1 = out := hF
  unfold F_l_right_2 at hF
  change DS _ _ _ [some (dD text1), none, none] [] _
  obtain ⟨r2, hh3, hF⟩ := bindP_out hF hne
  refine ds_cons (ds1_set v1 (c_l_due_2 T (B.room.mono (by decide)) (B.gl (x := "_law_due") rfl) (dv_var v0.toNm rfl) hh3) ?_)
  change DS _ _ _ [some (dD text1), some (dOpt D.int r2), none] [] _
  obtain ⟨word4, hh5, hF⟩ := letE_out hF
  refine ds_cons (ds1_set v2 (dv_isE (enc := D.str) dv_str hh5) ?_)
  change DS _ _ _ [some (dD text1), some (dOpt D.int r2), some (.str word4)] [] _
  obtain ⟨jk7, hjk7, hF⟩ := letJ_out hF
  refine ds_cons (ds1_ifJ (kf := jk7) (out := out) (fun (a : Unit) (z : Str) => [some (dD text1), some (dOpt D.int r2), some (.str z)]) (fun (a : Unit) (z : Str) => []) (dt_isNO (fun _ => rfl) (dv_var v1.toNm rfl)) (fun hh6 => ?_) (fun hh6 => ?_) ?_ then_fgt)
  ·
    rw [if_pos hh6] at hF
    obtain ⟨word8, hh9, hF⟩ := letE_out hF
    refine ds_cons (ds1_set v2 (dv_isE (enc := D.str) dv_str hh9) ?_)
    change DS _ _ _ [some (dD text1), some (dOpt D.int r2), some (.str word8)] [] _
    refine ds_nil ?_
    exact join_nx () word8 hF ⟨.inr rfl, .inr rfl, .inr rfl, trivial⟩ rfl
  ·
    rw [if_neg (by rw [hh6]; decide)] at hF
    refine ds_nil ?_
    exact join_nx () word4 hF ⟨.inr rfl, .inr rfl, .inr rfl, trivial⟩ rfl
  ·
    rintro ⟨⟩ word10 hF
    subst hjk7
    change DS _ _ _ [some (dD text1), some (dOpt D.int r2), some (.str word10)] [] _
    obtain ⟨r11, hh12, hF⟩ := bindP_out hF hne
    obtain ⟨hh13, hF⟩ := gd_out hF hne
    obtain ⟨hh14, hF⟩ := gd_out hF hne
    refine ds_cons (ds1_retV (dv_eqD B.hu (c_l_read_2 T (B.room.mono (by decide)) (B.gl (x := "_law_read") rfl) (dv_var v0.toNm rfl) hh12) (show DV _ _ _ _ _ (dk_T2SOI (word10, r2)) from dv_tup (da_cons (dv_var v2.toNm rfl) (da_cons (dv_var v1.toNm rfl) da_nil)) (szN 2 rfl)) (en_T2SOI.eqs r11 (word10, r2) hh13 hh14)) ?_)
    exact ret_mk (enc := D.bl) (M := []) hF
theorem c_l_right_2 {X : Cx} {kx : XD} {ρ : Ro} {M : Mem} {pos p : Pos} {e0 : Expr} {text1 : D} {r : Bool} (T : Txt X.K X.mg A) (hr : Room 6 X.A) (hg : Gl X "_law_right") (h0 : DV X kx e0 ρ M (dD text1)) (hF : F_l_right_2 text1 = .ok r) (he0 : starEach [e0] X.env = (false, eval e0 X.env) :: starEach [] X.env := by rfl) (hpl : (backTo pos (starEach [] X.env)).any (·.1) = false := by rfl) : DV X kx (.Call (.Name "_law_right" p) [e0] [] pos) ρ M (.bl r) :=
  dv_call (g_l_right_2 T) hr hg (da_cons h0 da_nil he0) text1 rfl (fun h => Ex.ok_ne r (hF.symm.trans h)) (fun d ⟨r', a1, a2⟩ => by cases hF.symm.trans a1; exact a2) (fun cls fs ⟨n, a1, _⟩ => by cases hF.symm.trans a1) (by decide) he0 hpl
theorem sc_show_fraction : FnScope ["one", "top", "bottom"] ["one"] (defScope s_show_fraction) := fscope (by decide +kernel)
theorem g_show_fraction (T : Txt K mg A) : GF P w K mg base 2 "show_fraction" [] (spE K mg (fun q : Zv => [dZ q]) (fun q => F_show_fraction q) D.str) := by
  refine T.f_show_fraction.gf fun f fd F => fn_e F sc_show_fraction (fun _ => rfl) fun X e1 e2 e3 e4 e5 B Fz one1 out hF hne => ?_
  subst e1 e2 e3 e4 e5
  have v0 : Ns X 0 "one" := B.ns rfl rfl
  have v1 : Ns X 1 "top" := B.ns rfl rfl
  have v2 : Ns X 2 "bottom" := B.ns rfl rfl
  replace hF : F_show_fraction one1 = out := hF
  unfold F_show_fraction at hF
  change DS _ _ _ [some (dZ one1), none, none] [] _
  obtain ⟨z2, hh3, hF⟩ := bindP_out hF hne
  refine ds_cons (ds1_unp (show DV _ _ _ _ _ (.tup [.int z2.1, .int z2.2]) from (show DV _ _ _ _ _ (dk_T2II z2) from dv_zP (dv_var v0.toNm rfl) hh3)) (dg_tup B.calm (dgs_cons (dg_name v1) (dgs_cons (dg_name v2) dgs_nil))) ?_)
  change DS _ _ _ [some (dZ one1), some (.int z2.1), some (.int z2.2)] [] _
  refine ds_cons (ds1_if (dt_eqi (dv_var v2.toNm rfl) dv_int) (fun hh4 => ?_) (fun hh4 => ?_))
  ·
    replace hF := ite_t hF hh4
    obtain ⟨r5, hh6, hF⟩ := bindP_out hF hne
    refine ds_cons (ds1_retV (c_show_number T (B.room.mono (by decide)) (B.gl (x := "show_number") rfl) (dv_var v1.toNm rfl) hh6) ?_)
    exact ret_mk (enc := D.str) (M := []) hF
  ·
    replace hF := ite_f hF hh4
    refine ds_nil ?_
    obtain ⟨r7, hh8, hF⟩ := bindP_out hF hne
    obtain ⟨hh9, hF⟩ := gd_out hF hne
    obtain ⟨r10, hh11, hF⟩ := bindP_out hF hne
    obtain ⟨hh12, hF⟩ := gd_out hF hne
    refine ds_cons (ds1_retV (dv_addS (dv_addS (c_show_number T (B.room.mono (by decide)) (B.gl (x := "show_number") rfl) (dv_var v1.toNm rfl) hh8) dv_str hh9) (c_show_number T (B.room.mono (by decide)) (B.gl (x := "show_number") rfl) (dv_var v2.toNm rfl) hh11) hh12) ?_)
    exact ret_mk (enc := D.str) (M := []) hF
theorem sc_show_number_2 : FnScope ["number"] ["number"] (defScope s_show_number) := fscope (by decide +kernel)
theorem g_show_number_2 (T : Txt K mg A) : GF P w K mg base 1 "show_number" [] (spE K mg (fun q : Zv => [dZ q]) (fun q => F_show_number_2 q) D.str) := by
  refine T.f_show_number.gf fun f fd F => fn_e F sc_show_number_2 (fun _ => rfl) fun X e1 e2 e3 e4 e5 B Fz number1 out hF hne => ?_
  subst e1 e2 e3 e4 e5
  have v0 : Ns X 0 "number" := B.ns rfl rfl
  replace hF : F_show_number_2 number1 = out := hF
  unfold F_show_number_2 at hF
  change DS _ _ _ [some (dZ number1)] [] _
  obtain ⟨z2, hh3, hF⟩ := bindP_out hF hne
  obtain ⟨hh4, hF⟩ := gd_out hF hne
  refine ds_cons (ds1_retV (dv_strN B.calm T.nodg (B.bn (x := "str") rfl T.b_str bt_str) hh4 (dv_zI (dv_var v0.toNm rfl) hh3)) ?_)
  exact ret_mk (enc := D.str) (M := []) hF
theorem cv_fv_show_fraction_show_number {X : Cx} {kx : XD} {ρ : Ro} {M : Mem} {pos p : Pos} {e0 : Expr} {x : Str} {i : Nat} {t0 : Bool} {x0 : Zv} {r : Str} (T : Txt X.K X.mg A) (hr : Room 2 X.A) (nm : Nm X i x) (hs : ρ[i]? = some (some (.adr (if t0 = true then A.n_show_number else A.n_show_fraction)))) (h0 : DV X kx e0 ρ M (dZ x0)) (hF : F_fv_show_fraction_show_number t0 x0 = .ok r) (he0 : starEach [e0] X.env = (false, eval e0 X.env) :: starEach [] X.env := by rfl) (hpl : (backTo pos (starEach [] X.env)).any (·.1) = false := by rfl) : DV X kx (.Call (.Name x p) [e0] [] pos) ρ M (.str r) := by
  unfold F_fv_show_fraction_show_number at hF
  cases t0
  · rw [if_neg (by decide)] at hs hF
    exact dv_callL (g_show_fraction T) (hr.mono (by decide)) nm hs T.n_show_fraction (da_cons h0 da_nil he0) (x0) rfl (fun h => Ex.ok_ne r (hF.symm.trans h)) (fun d ⟨r', a1, a2⟩ => by cases hF.symm.trans a1; exact a2) (fun cls fs ⟨n, a1, _⟩ => by cases hF.symm.trans a1) he0 hpl
  · rw [if_pos rfl] at hs hF
    exact dv_callL (g_show_number_2 T) (hr.mono (by decide)) nm hs T.n_show_number (da_cons h0 da_nil he0) (x0) rfl (fun h => Ex.ok_ne r (hF.symm.trans h)) (fun d ⟨r', a1, a2⟩ => by cases hF.symm.trans a1; exact a2) (fun cls fs ⟨n, a1, _⟩ => by cases hF.symm.trans a1) he0 hpl
theorem sc_show_pair : FnScope ["word", "pair", "show", "low", "high"] ["word", "pair"] (defScope s_show_pair) := fscope (by decide +kernel)
theorem g_show_pair (T : Txt K mg A) : GF P w K mg base 3 "show_pair" [] (spE K mg (fun q : Str × (Zv × Zv) => [.str q.1, dk_T2ZZ q.2]) (fun q => F_show_pair q.1 q.2) D.str) := by
  refine T.f_show_pair.gf fun f fd F => fn_e F sc_show_pair (fun _ => rfl) fun X e1 e2 e3 e4 e5 B Fz q out hF hne => ?_
  subst e1 e2 e3 e4 e5
  have v0 : Ns X 0 "word" := B.ns rfl rfl
  have v1 : Ns X 1 "pair" := B.ns rfl rfl
  have v2 : Ns X 2 "show" := B.ns rfl rfl
  have v3 : Ns X 3 "low" := B.ns rfl rfl
  have v4 : Ns X 4 "high" := B.ns rfl rfl
  obtain ⟨word1, pair2⟩ := q
  replace hF : F_show_pair word1 pair2 = out := hF
  unfold F_show_pair at hF
  change DS _ _ _ [some (.str word1), some (dk_T2ZZ pair2), none, none, none] [] _
  refine ds_cons (ds1_set v2 (dv_cls (B.gl (x := "show_number") rfl) T.n_show_number) ?_)
  change DS _ _ _ [some (.str word1), some (dk_T2ZZ pair2), some ((fun _ : Unit => D.adr A.n_show_number) ()), none, none] [] _
  obtain ⟨jk4, hjk4, hF⟩ := letJ_out hF
  refine ds_cons (ds1_ifJ (kf := jk4) (out := out) (fun (a : Unit) (z : Bool) => [some (.str word1), some (dk_T2ZZ pair2), some ((fun t : Bool => D.adr (if t = true then A.n_show_number else A.n_show_fraction)) z), none, none]) (fun (a : Unit) (z : Bool) => []) (dt_eqs (dv_var v0.toNm rfl) dv_str) (fun hh3 => ?_) (fun hh3 => ?_) ?_ then_fgt)
  ·
    rw [if_pos hh3] at hF
    refine ds_cons (ds1_set v2 (dv_cls (B.gl (x := "show_fraction") rfl) T.n_show_fraction) ?_)
    change DS _ _ _ [some (.str word1), some (dk_T2ZZ pair2), some ((fun _ : Unit => D.adr A.n_show_fraction) ()), none, none] [] _
    refine ds_nil ?_
    exact join_nx () false hF ⟨.inr rfl, .inr rfl, .inr rfl, .inl rfl, .inl rfl, trivial⟩ rfl
  ·
    rw [if_neg (by rw [hh3]; decide)] at hF
    refine ds_nil ?_
    exact join_nx () true hF ⟨.inr rfl, .inr rfl, .inr rfl, .inl rfl, .inl rfl, trivial⟩ rfl
  ·
    rintro ⟨⟩ show5 hF
    subst hjk4
    change DS _ _ _ [some (.str word1), some (dk_T2ZZ pair2), some ((fun t : Bool => D.adr (if t = true then A.n_show_number else A.n_show_fraction)) show5), none, none] [] _
    refine ds_cons (ds1_unp (show DV _ _ _ _ _ (.tup [dZ pair2.1, dZ pair2.2]) from (dv_var v1.toNm rfl)) (dg_tup B.calm (dgs_cons (dg_name v3) (dgs_cons (dg_name v4) dgs_nil))) ?_)
    change DS _ _ _ [some (.str word1), some (dk_T2ZZ pair2), some ((fun t : Bool => D.adr (if t = true then A.n_show_number else A.n_show_fraction)) show5), some (dZ pair2.1), some (dZ pair2.2)] [] _
    refine ds_cons (ds1_if (dt_isNZ (dv_var v3.toNm rfl)) (fun hh6 => ?_) (fun hh6 => ?_))
    ·
      replace hF := ite_t hF hh6
      refine ds_cons (ds1_retV dv_str ?_)
      exact ret_mk (enc := D.str) (M := []) hF
    ·
      replace hF := ite_f hF hh6
      refine ds_nil ?_
      refine ds_cons (ds1_if (dt_eqD B.hu (dv_var v3.toNm rfl) (dv_var v4.toNm rfl) (en_Z.eqs pair2.1 pair2.2)) (fun hh7 => ?_) (fun hh7 => ?_))
      ·
        replace hF := ite_t hF hh7
        obtain ⟨r8, hh9, hF⟩ := bindP_out hF hne
        refine ds_cons (ds1_retV (cv_fv_show_fraction_show_number T (B.room.mono (by decide)) v2.toNm rfl (dv_var v3.toNm rfl) hh9) ?_)
        exact ret_mk (enc := D.str) (M := []) hF
      ·
        replace hF := ite_f hF hh7
        refine ds_nil ?_
        obtain ⟨r10, hh11, hF⟩ := bindP_out hF hne
        obtain ⟨hh12, hF⟩ := gd_out hF hne
        obtain ⟨r13, hh14, hF⟩ := bindP_out hF hne
        obtain ⟨hh15, hF⟩ := gd_out hF hne
        refine ds_cons (ds1_retV (dv_addS (dv_addS (cv_fv_show_fraction_show_number T (B.room.mono (by decide)) v2.toNm rfl (dv_var v3.toNm rfl) hh11) dv_str hh12) (cv_fv_show_fraction_show_number T (B.room.mono (by decide)) v2.toNm rfl (dv_var v4.toNm rfl) hh14) hh15) ?_)
        exact ret_mk (enc := D.str) (M := []) hF
theorem c_show_pair {X : Cx} {kx : XD} {ρ : Ro} {M : Mem} {pos p : Pos} {e0 e1 : Expr} {word1 : Str} {pair2 : Zv × Zv} {r : Str} (T : Txt X.K X.mg A) (hr : Room 3 X.A) (hg : Gl X "show_pair") (h0 : DV X kx e0 ρ M (.str word1)) (h1 : DV X kx e1 ρ M (dk_T2ZZ pair2)) (hF : F_show_pair word1 pair2 = .ok r) (he0 : starEach [e0, e1] X.env = (false, eval e0 X.env) :: starEach [e1] X.env := by rfl) (he1 : starEach [e1] X.env = (false, eval e1 X.env) :: starEach [] X.env := by rfl) (hpl : (backTo pos (starEach [e1] X.env)).any (·.1) = false := by rfl) : DV X kx (.Call (.Name "show_pair" p) [e0, e1] [] pos) ρ M (.str r) :=
  dv_call (g_show_pair T) hr hg (da_cons h0 (da_cons h1 da_nil he1) he0) (word1, pair2) rfl (fun h => Ex.ok_ne r (hF.symm.trans h)) (fun d ⟨r', a1, a2⟩ => by cases hF.symm.trans a1; exact a2) (fun cls fs ⟨n, a1, _⟩ => by cases hF.symm.trans a1) (by decide) he0 hpl
theorem sc_l_pair : FnScope ["_law_low", "_law_high"] ["_law_low", "_law_high"] (defScope s_l_pair) := fscope (by decide +kernel)
theorem g_l_pair (T : Txt K mg A) : GF P w K mg base 1 "_law_pair" [] (spE K mg (fun q : Str × Str => [.str q.1, .str q.2]) (fun q => F_l_pair q.1 q.2) D.str) := by
  refine T.f_l_pair.gf fun f fd F => fn_e F sc_l_pair (fun _ => rfl) fun X e1 e2 e3 e4 e5 B Fz q out hF hne => ?_
  subst e1 e2 e3 e4 e5
  have v0 : Ns X 0 "_law_low" := B.ns rfl rfl
  have v1 : Ns X 1 "_law_high" := B.ns rfl rfl
  obtain ⟨low1, high2⟩ := q
  replace hF : F_l_pair low1 high2 = out := hF
  unfold F_l_pair at hF
  change DS _ _ _ [some (.str low1), some (.str high2)] [] _
  refine ds_cons (ds1_if (dt_eqs (dv_var v0.toNm rfl) (dv_var v1.toNm rfl)) (fun hh3 => ?_) (fun hh3 => ?_))
  ·
    replace hF := ite_t hF hh3
    refine ds_cons (ds1_retV (dv_var v0.toNm rfl) ?_)
    exact ret_mk (enc := D.str) (M := []) hF
  ·
    replace hF := ite_f hF hh3
    refine ds_nil ?_
    obtain ⟨hh4, hF⟩ := gd_out hF hne
    obtain ⟨hh5, hF⟩ := gd_out hF hne
    refine ds_cons (ds1_retV (dv_addS (dv_addS (dv_var v0.toNm rfl) dv_str hh4) (dv_var v1.toNm rfl) hh5) ?_)
    exact ret_mk (enc := D.str) (M := []) hF
theorem c_l_pair {X : Cx} {kx : XD} {ρ : Ro} {M : Mem} {pos p : Pos} {e0 e1 : Expr} {low1 : Str} {high2 : Str} {r : Str} (T : Txt X.K X.mg A) (hr : Room 1 X.A) (hg : Gl X "_law_pair") (h0 : DV X kx e0 ρ M (.str low1)) (h1 : DV X kx e1 ρ M (.str high2)) (hF : F_l_pair low1 high2 = .ok r) (he0 : starEach [e0, e1] X.env = (false, eval e0 X.env) :: starEach [e1] X.env := by rfl) (he1 : starEach [e1] X.env = (false, eval e1 X.env) :: starEach [] X.env := by rfl) (hpl : (backTo pos (starEach [e1] X.env)).any (·.1) = false := by rfl) : DV X kx (.Call (.Name "_law_pair" p) [e0, e1] [] pos) ρ M (.str r) :=
  dv_call (g_l_pair T) hr hg (da_cons h0 (da_cons h1 da_nil he1) he0) (low1, high2) rfl (fun h => Ex.ok_ne r (hF.symm.trans h)) (fun d ⟨r', a1, a2⟩ => by cases hF.symm.trans a1; exact a2) (fun cls fs ⟨n, a1, _⟩ => by cases hF.symm.trans a1) (by decide) he0 hpl
theorem sc_show_fraction_2 : FnScope ["one", "top", "bottom"] ["one"] (defScope s_show_fraction) := fscope (by decide +kernel)
theorem g_show_fraction_2 (T : Txt K mg A) : GF P w K mg base 2 "show_fraction" [] (spE K mg (fun q : Int × Int => [dk_T2II q]) (fun q => F_show_fraction_2 q) D.str) := by
  refine T.f_show_fraction.gf fun f fd F => fn_e F sc_show_fraction_2 (fun _ => rfl) fun X e1 e2 e3 e4 e5 B Fz one1 out hF hne => ?_
  subst e1 e2 e3 e4 e5
  have v0 : Ns X 0 "one" := B.ns rfl rfl
  have v1 : Ns X 1 "top" := B.ns rfl rfl
  have v2 : Ns X 2 "bottom" := B.ns rfl rfl
  replace hF : F_show_fraction_2 one1 = out := hF
  unfold F_show_fraction_2 at hF
  change DS _ _ _ [some (dk_T2II one1), none, none] [] _
  refine ds_cons (ds1_unp (show DV _ _ _ _ _ (.tup [.int one1.1, .int one1.2]) from (dv_var v0.toNm rfl)) (dg_tup B.calm (dgs_cons (dg_name v1) (dgs_cons (dg_name v2) dgs_nil))) ?_)
  change DS _ _ _ [some (dk_T2II one1), some (.int one1.1), some (.int one1.2)] [] _
  refine ds_cons (ds1_if (dt_eqi (dv_var v2.toNm rfl) dv_int) (fun hh2 => ?_) (fun hh2 => ?_))
  ·
    replace hF := ite_t hF hh2
    obtain ⟨r3, hh4, hF⟩ := bindP_out hF hne
    refine ds_cons (ds1_retV (c_show_number T (B.room.mono (by decide)) (B.gl (x := "show_number") rfl) (dv_var v1.toNm rfl) hh4) ?_)
    exact ret_mk (enc := D.str) (M := []) hF
  ·
    replace hF := ite_f hF hh2
    refine ds_nil ?_
    obtain ⟨r5, hh6, hF⟩ := bindP_out hF hne
    obtain ⟨hh7, hF⟩ := gd_out hF hne
    obtain ⟨r8, hh9, hF⟩ := bindP_out hF hne
    obtain ⟨hh10, hF⟩ := gd_out hF hne
    refine ds_cons (ds1_retV (dv_addS (dv_addS (c_show_number T (B.room.mono (by decide)) (B.gl (x := "show_number") rfl) (dv_var v1.toNm rfl) hh6) dv_str hh7) (c_show_number T (B.room.mono (by decide)) (B.gl (x := "show_number") rfl) (dv_var v2.toNm rfl) hh9) hh10) ?_)
    exact ret_mk (enc := D.str) (M := []) hF
theorem c_show_fraction_2 {X : Cx} {kx : XD} {ρ : Ro} {M : Mem} {pos p : Pos} {e0 : Expr} {one1 : Int × Int} {r : Str} (T : Txt X.K X.mg A) (hr : Room 2 X.A) (hg : Gl X "show_fraction") (h0 : DV X kx e0 ρ M (dk_T2II one1)) (hF : F_show_fraction_2 one1 = .ok r) (he0 : starEach [e0] X.env = (false, eval e0 X.env) :: starEach [] X.env := by rfl) (hpl : (backTo pos (starEach [] X.env)).any (·.1) = false := by rfl) : DV X kx (.Call (.Name "show_fraction" p) [e0] [] pos) ρ M (.str r) :=
  dv_call (g_show_fraction_2 T) hr hg (da_cons h0 da_nil he0) one1 rfl (fun h => Ex.ok_ne r (hF.symm.trans h)) (fun d ⟨r', a1, a2⟩ => by cases hF.symm.trans a1; exact a2) (fun cls fs ⟨n, a1, _⟩ => by cases hF.symm.trans a1) (by decide) he0 hpl
theorem sc_l_fraction : FnScope ["_law_one"] ["_law_one"] (defScope s_l_fraction) := fscope (by decide +kernel)
theorem g_l_fraction (T : Txt K mg A) : GF P w K mg base 1 "_law_fraction" [] (spE K mg (fun q : Int × Int => [dk_T2II q]) (fun q => F_l_fraction q) D.str) := by
  refine T.f_l_fraction.gf fun f fd F => fn_e F sc_l_fraction (fun _ => rfl) fun X e1 e2 e3 e4 e5 B Fz one1 out hF hne => ?_
  subst e1 e2 e3 e4 e5
  have v0 : Ns X 0 "_law_one" := B.ns rfl rfl
  replace hF : F_l_fraction one1 = out := hF
  unfold F_l_fraction at hF
  change DS _ _ _ [some (dk_T2II one1)] [] _
  refine ds_cons (ds1_if (dt_eqi (dv_ixT (show DV _ _ _ _ _ (.tup [.int one1.1, .int one1.2]) from (dv_var v0.toNm rfl)) dv_int rfl) dv_int) (fun hh2 => ?_) (fun hh2 => ?_))
  ·
    replace hF := ite_t hF hh2
    obtain ⟨hh3, hF⟩ := gd_out hF hne
    refine ds_cons (ds1_retV (dv_strN B.calm T.nodg (B.bn (x := "str") rfl T.b_str bt_str) hh3 (dv_ixT (show DV _ _ _ _ _ (.tup [.int one1.1, .int one1.2]) from (dv_var v0.toNm rfl)) dv_int rfl)) ?_)
    exact ret_mk (enc := D.str) (M := []) hF
  ·
    replace hF := ite_f hF hh2
    refine ds_nil ?_
    obtain ⟨hh4, hF⟩ := gd_out hF hne
    obtain ⟨hh5, hF⟩ := gd_out hF hne
    obtain ⟨hh6, hF⟩ := gd_out hF hne
    obtain ⟨hh7, hF⟩ := gd_out hF hne
    refine ds_cons (ds1_retV (dv_addS (dv_addS (dv_strN B.calm T.nodg (B.bn (x := "str") rfl T.b_str bt_str) hh4 (dv_ixT (show DV _ _ _ _ _ (.tup [.int one1.1, .int one1.2]) from (dv_var v0.toNm rfl)) dv_int rfl)) dv_str hh5) (dv_strN B.calm T.nodg (B.bn (x := "str") rfl T.b_str bt_str) hh6 (dv_ixT (show DV _ _ _ _ _ (.tup [.int one1.1, .int one1.2]) from (dv_var v0.toNm rfl)) dv_int rfl)) hh7) ?_)
    exact ret_mk (enc := D.str) (M := []) hF
theorem c_l_fraction {X : Cx} {kx : XD} {ρ : Ro} {M : Mem} {pos p : Pos} {e0 : Expr} {one1 : Int × Int} {r : Str} (T : Txt X.K X.mg A) (hr : Room 1 X.A) (hg : Gl X "_law_fraction") (h0 : DV X kx e0 ρ M (dk_T2II one1)) (hF : F_l_fraction one1 = .ok r) (he0 : starEach [e0] X.env = (false, eval e0 X.env) :: starEach [] X.env := by rfl) (hpl : (backTo pos (starEach [] X.env)).any (·.1) = false := by rfl) : DV X kx (.Call (.Name "_law_fraction" p) [e0] [] pos) ρ M (.str r) :=
  dv_call (g_l_fraction T) hr hg (da_cons h0 da_nil he0) one1 rfl (fun h => Ex.ok_ne r (hF.symm.trans h)) (fun d ⟨r', a1, a2⟩ => by cases hF.symm.trans a1; exact a2) (fun cls fs ⟨n, a1, _⟩ => by cases hF.symm.trans a1) (by decide) he0 hpl
theorem sc_l_pairs_right : FnScope ["_law_low", "_law_high", "_law_cell", "_law_word", "_law_ends", "_law_odd_here", "_law_parts", "_law_one", "_law_made", "_law_other", "_law_found"] ["_law_low", "_law_high", "_law_cell"] (defScope s_l_pairs_right) := fscope (by decide +kernel)
theorem g_l_pairs_right (T : Txt K mg A) : GF P w K mg base 4 "_law_pairs_right" [] (spE K mg (fun q : Int × Int × Int => [.int q.1, .int q.2.1, .int q.2.2]) (fun q => F_l_pairs_right q.1 q.2.1 q.2.2) D.bl) := by
  refine T.f_l_pairs_right.gf fun f fd F => fn_e F sc_l_pairs_right (fun _ => rfl) fun X e1 e2 e3 e4 e5 B Fz q out hF hne => ?_
  subst e1 e2 e3 e4 e5
  have v0 : Ns X 0 "_law_low" := B.ns rfl rfl
  have v1 : Ns X 1 "_law_high" := B.ns rfl rfl
  have v2 : Ns X 2 "_law_cell" := B.ns rfl rfl
  have v3 : Ns X 3 "_law_word" := B.ns rfl rfl
  have v4 : Ns X 4 "_law_ends" := B.ns rfl rfl
  have v5 : Ns X 5 "_law_odd_here" := B.ns rfl rfl
  have v6 : Ns X 6 "_law_parts" := B.ns rfl rfl
  have v7 : Ns X 7 "_law_one" := B.ns rfl rfl
  have v8 : Ns X 8 "_law_made" := B.ns rfl rfl
  have v9 : Ns X 9 "_law_other" := B.ns rfl rfl
  have v10 : Ns X 10 "_law_found" := B.ns rfl rfl
  obtain ⟨low1, high2, cell3⟩ := q
  replace hF : F_l_pairs_right low1 high2 cell3 = out := hF
  unfold F_l_pairs_right at hF
  change DS _ _ _ [some (.int low1), some (.int high2), some (.int cell3), none, none, none, none, none, none, none, none] [] _
  obtain ⟨x4, hh5, hF⟩ := bindP_out hF hne
  refine ds_cons (ds1_set v3 (dv_ixS (show DV _ _ _ _ _ (.lst ([("many" : Str), ("sum" : Str), ("least" : Str), ("greatest" : Str)].map D.str)) from dv_lst (da_cons dv_str (da_cons dv_str (da_cons dv_str (da_cons dv_str da_nil)))) (szN 4 rfl)) (.lst _) (dv_mod (dv_var v2.toNm rfl) dv_int (by decide)) (ixE_out hh5 D.str)) ?_)
  change DS _ _ _ [some (.int low1), some (.int high2), some (.int cell3), some (.str x4), none, none, none, none, none, none, none] [] _
  refine ds_cons (ds1_newE v4 (de_sortedI (B.bn (x := "sorted") rfl T.b_sorted bt_sorted) (show DV _ _ _ _ _ (.lst ([low1, high2].map D.int)) from dv_lst (da_cons (dv_var v0.toNm rfl) (da_cons (dv_var v1.toNm rfl) da_nil)) (szN 2 rfl)) (.lst _) fun w hw => ⟨w, hw, rfl, rfl⟩) fun w6 n_w6 => ?_)
  change DS _ _ _ [some (.int low1), some (.int high2), some (.int cell3), some (.str x4), some (.adr w6), none, none, none, none, none, none] [(w6, Mu.lst ((sortI [low1, high2]).map D.int))] _
  obtain ⟨jk8, hjk8, hF⟩ := jpE_out hF
  refine ds_cons (ds1_ifJ (kf := jk8) (out := out) (fun (a : Unit) (z : List Int) => [some (.int low1), some (.int high2), some (.int cell3), some (.str x4), some (.lst (z.map D.int)), none, none, none, none, none, none]) (fun (a : Unit) (z : List Int) => []) (dt_eqi (dv_mod (dv_fdiv (dv_var v2.toNm rfl) dv_int (div_c (by decide) (by decide))) dv_int (by decide)) dv_int) (fun hh7 => ?_) (fun hh7 => ?_) ?_ then_fgt)
  ·
    replace hF := ite_t hF hh7
    obtain ⟨x9, hh10, hF⟩ := bindP_out hF hne
    obtain ⟨ends11, hh12, hF⟩ := bindP_out hF hne
    refine ds_cons (ds1_seti (n := 0) (g := D.int) hh12 (dv_ixS (dv_var v4.toNm rfl) (.adr (List.mem_of_getElem? (i := 0) (show _ = some (w6, Mu.lst ((sortI [low1, high2]).map D.int)) from rfl))) dv_int (ixE_out hh10 D.int)) (dv_var v4.toNm rfl) dv_int rfl ?_)
    change DS _ _ _ [some (.int low1), some (.int high2), some (.int cell3), some (.str x4), some (.adr w6), none, none, none, none, none, none] [(w6, Mu.lst (ends11.map D.int))] _
    refine ds_frz 0 4 rfl rfl ?_
    change DS _ _ _ [some (.int low1), some (.int high2), some (.int cell3), some (.str x4), some (.lst (ends11.map D.int)), none, none, none, none, none, none] [] _
    refine ds_nil ?_
    exact join_nx () ends11 hF ⟨.inr rfl, .inr rfl, .inr rfl, .inr rfl, .inr rfl, .inl rfl, .inl rfl, .inl rfl, .inl rfl, .inl rfl, .inl rfl, trivial⟩ rfl
  ·
    replace hF := ite_f hF hh7
    refine ds_frz 0 4 rfl rfl ?_
    change DS _ _ _ [some (.int low1), some (.int high2), some (.int cell3), some (.str x4), some (.lst ((sortI [low1, high2]).map D.int)), none, none, none, none, none, none] [] _
    refine ds_nil ?_
    exact join_nx () (sortI [low1, high2]) hF ⟨.inr rfl, .inr rfl, .inr rfl, .inr rfl, .inr rfl, .inl rfl, .inl rfl, .inl rfl, .inl rfl, .inl rfl, .inl rfl, trivial⟩ rfl
  ·
    rintro ⟨⟩ ends13 hF
    subst hjk8
    change DS _ _ _ [some (.int low1), some (.int high2), some (.int cell3), some (.str x4), some (.lst (ends13.map D.int)), none, none, none, none, none, none] [] _
    obtain ⟨x14, hh15, hF⟩ := bindP_out hF hne
    obtain ⟨x16, hh17, hF⟩ := bindP_out hF hne
    obtain ⟨r18, hh19, hF⟩ := bindP_out hF hne
    obtain ⟨x20, hh21, hF⟩ := bindP_out hF hne
    obtain ⟨hh22, hF⟩ := gd_out hF hne
    obtain ⟨x23, hh24, hF⟩ := bindP_out hF hne
    obtain ⟨hh25, hF⟩ := gd_out hF hne
    obtain ⟨r26, hh27, hF⟩ := bindP_out hF hne
    refine ds_cons (ds1_if (dt_nes (c_show_pair T (B.room.mono (by decide)) (B.gl (x := "show_pair") rfl) (dv_var v3.toNm rfl) (DV.is (show DV _ _ _ _ _ (dk_T2II (x14, x16)) from dv_tup (da_cons (dv_ixS (dv_var v4.toNm rfl) (.lst _) dv_int (ixE_out hh15 D.int)) (da_cons (dv_ixS (dv_var v4.toNm rfl) (.lst _) dv_int (ixE_out hh17 D.int)) da_nil)) (szN 2 rfl)) (show _ = dk_T2ZZ ((Zv.i ((x14, x16).1)), (Zv.i ((x14, x16).2))) from rfl)) hh19) (c_l_pair T (B.room.mono (by decide)) (B.gl (x := "_law_pair") rfl) (dv_strN B.calm T.nodg (B.bn (x := "str") rfl T.b_str bt_str) hh22 (dv_ixS (dv_var v4.toNm rfl) (.lst _) dv_int (ixE_out hh21 D.int))) (dv_strN B.calm T.nodg (B.bn (x := "str") rfl T.b_str bt_str) hh25 (dv_ixS (dv_var v4.toNm rfl) (.lst _) dv_int (ixE_out hh24 D.int))) hh27)) (fun hh28 => ?_) (fun hh28 => ?_))
    ·
      replace hF := ite_t hF hh28
      refine ds_cons (ds1_retV dv_bl ?_)
      exact ret_mk (enc := D.bl) (M := []) hF
    ·
      replace hF := ite_f hF hh28
      refine ds_nil ?_
      obtain ⟨odd29, hh30, hF⟩ := letE_out hF
      refine ds_cons (ds1_set v5 (dv_isE (enc := D.int) (dv_add (dv_mulX dv_int (dv_mod (dv_fdiv (dv_var v2.toNm rfl) dv_int (div_c (by decide) (by decide))) (DV.is (dv_pow dv_int dv_int ⟨by decide, by decide, by decide⟩) (show D.int _ = D.int (100000000000000000000) from congrArg D.int (by decide +kernel))) (by decide)) (mok_c (.inl ⟨by decide, by decide⟩))) dv_int) hh30) ?_)
      change DS _ _ _ [some (.int low1), some (.int high2), some (.int cell3), some (.str x4), some (.lst (ends13.map D.int)), some (.int odd29), none, none, none, none, none] [] _
      obtain ⟨x31, hh32, hF⟩ := bindP_out hF hne
      obtain ⟨x33, hh34, hF⟩ := bindP_out hF hne
      obtain ⟨x35, hh36, hF⟩ := bindP_out hF hne
      obtain ⟨parts37, hh38, hF⟩ := letE_out hF
      refine ds_cons (ds1_set v6 (dv_isE (enc := dk_LT2II) (show DV _ _ _ _ _ (.lst ([(x31, 1), ((2 * x33) + 1, 2), ((1152921504606846976 * x35) + odd29, 1152921504606846976)].map dk_T2II)) from dv_lst (da_cons (show DV _ _ _ _ _ (dk_T2II (x31, 1)) from dv_tup (da_cons (dv_ixS (dv_var v4.toNm rfl) (.lst _) dv_int (ixE_out hh32 D.int)) (da_cons dv_int da_nil)) (szN 2 rfl)) (da_cons (show DV _ _ _ _ _ (dk_T2II ((2 * x33) + 1, 2)) from dv_tup (da_cons (dv_add (dv_mulX dv_int (dv_ixS (dv_var v4.toNm rfl) (.lst _) dv_int (ixE_out hh34 D.int)) (mok_c (.inl ⟨by decide, by decide⟩))) dv_int) (da_cons dv_int da_nil)) (szN 2 rfl)) (da_cons (show DV _ _ _ _ _ (dk_T2II ((1152921504606846976 * x35) + odd29, 1152921504606846976)) from dv_tup (da_cons (dv_add (dv_mulX (DV.is (dv_pow dv_int dv_int ⟨by decide, by decide, by decide⟩) (show D.int _ = D.int (1152921504606846976) from congrArg D.int (by decide +kernel))) (dv_ixS (dv_var v4.toNm rfl) (.lst _) dv_int (ixE_out hh36 D.int)) (mok_c (.inl ⟨by decide, by decide⟩))) (dv_var v5.toNm rfl)) (da_cons (DV.is (dv_pow dv_int dv_int ⟨by decide, by decide, by decide⟩) (show D.int _ = D.int (1152921504606846976) from congrArg D.int (by decide +kernel))) da_nil)) (szN 2 rfl)) da_nil))) (szN 3 rfl)) hh38) ?_)
      change DS _ _ _ [some (.int low1), some (.int high2), some (.int cell3), some (.str x4), some (.lst (ends13.map D.int)), some (.int odd29), some (.lst (parts37.map dk_T2II)), none, none, none, none] [] _
      obtain ⟨o75, hh76, hh77, hF⟩ := bindX_cut hF hne
      refine ds_cons (ds1_loopE (enc := dk_T2II) (enr := D.bl) B (fun (z : Unit) => [some (.int low1), some (.int high2), some (.int cell3), some (.str x4), some (.lst (ends13.map D.int)), some (.int odd29), some (.lst (parts37.map dk_T2II)), none, none, none, none]) (fun (z : Unit) => []) hh76 hh77 (di_list (dv_var v6.toNm rfl)) ⟨.inr rfl, .inr rfl, .inr rfl, .inr rfl, .inr rfl, .inr rfl, .inr rfl, .inl rfl, .inl rfl, .inl rfl, .inl rfl, trivial⟩ rfl ?hso75 ?hdo75 ?hro75 ?hxo75 then_fgt)
      case hso75 =>
        clear hF
        rintro ⟨⟩ x39 o40 _ hF hne
        refine ⟨_, _, (dg_name v7), ?_⟩
        change DS _ _ _ [some (.int low1), some (.int high2), some (.int cell3), some (.str x4), some (.lst (ends13.map D.int)), some (.int odd29), some (.lst (parts37.map dk_T2II)), some (dk_T2II x39), none, none, none] [] _
        obtain ⟨r41, hh42, hF⟩ := bindP_out hF hne
        refine ds_cons (ds1_set v8 (c_show_fraction_2 T (B.room.mono (by decide)) (B.gl (x := "show_fraction") rfl) (dv_var v7.toNm rfl) hh42) ?_)
        change DS _ _ _ [some (.int low1), some (.int high2), some (.int cell3), some (.str x4), some (.lst (ends13.map D.int)), some (.int odd29), some (.lst (parts37.map dk_T2II)), some (dk_T2II x39), some (.str r41), none, none] [] _
        obtain ⟨b45, hh46, hF⟩ := bindP_out hF hne
        refine ds_cons (ds1_if (DW.t (dw_orE hh46 (dt_not (dt_val (dv_isi (T := "str") (k := true) (B.bn (x := "isinstance") rfl T.b_isinstance bt_isinstance) (B.bn (x := "str") rfl T.b_str bt_str) (dv_var v8.toNm rfl) (by first | exact .non | exact .int _ | exact .bl _ | exact .str _ | exact .lst _ | exact .tup _ | exact .scr _) (by decide +kernel)))) fun _ _ hF => (by obtain ⟨r43, hh44, hF⟩ := bindP_out hF (Ex.ok_ne _); cases hF; exact (dw_or1 (dt_nes (dv_var v8.toNm rfl) (c_l_fraction T (B.room.mono (by decide)) (B.gl (x := "_law_fraction") rfl) (dv_var v7.toNm rfl) hh44)))))) (fun hh47 => ?_) (fun hh47 => ?_))
        ·
          replace hF := ite_t hF hh47
          refine ds_cons (ds1_retV dv_bl ?_)
          exact loop_rt (R := fun _ => []) (Mf := fun _ => []) (enr := D.bl) (M := []) hF
        ·
          replace hF := ite_f hF hh47
          refine ds_nil ?_
          refine ds_nil ?_
          exact loop_nx (enr := D.bl) hF ⟨.inr rfl, .inr rfl, .inr rfl, .inr rfl, .inr rfl, .inr rfl, .inr rfl, .inl rfl, .inl rfl, .inl rfl, .inl rfl, trivial⟩ rfl
      case hdo75 =>
        rintro ⟨⟩ rfl
        replace hF := okE hF
        replace hF := nxE hF
        change DS _ _ _ [some (.int low1), some (.int high2), some (.int cell3), some (.str x4), some (.lst (ends13.map D.int)), some (.int odd29), some (.lst (parts37.map dk_T2II)), none, none, none, none] [] _
        obtain ⟨x48, hh49, hF⟩ := bindP_out hF hne
        refine ds_cons (ds1_set v7 (dv_ixS (dv_var v6.toNm rfl) (.lst _) (dv_mod (dv_var v2.toNm rfl) dv_int (by decide)) (ixE_out hh49 dk_T2II)) ?_)
        change DS _ _ _ [some (.int low1), some (.int high2), some (.int cell3), some (.str x4), some (.lst (ends13.map D.int)), some (.int odd29), some (.lst (parts37.map dk_T2II)), some (dk_T2II x48), none, none, none] [] _
        obtain ⟨x50, hh51, hF⟩ := bindP_out hF hne
        refine ds_cons (ds1_set v9 (dv_ixS (dv_var v6.toNm rfl) (.lst _) (dv_mod (dv_fdiv (dv_var v2.toNm rfl) dv_int (div_c (by decide) (by decide))) dv_int (by decide)) (ixE_out hh51 dk_T2II)) ?_)
        change DS _ _ _ [some (.int low1), some (.int high2), some (.int cell3), some (.str x4), some (.lst (ends13.map D.int)), some (.int odd29), some (.lst (parts37.map dk_T2II)), some (dk_T2II x48), none, some (dk_T2II x50), none] [] _
        obtain ⟨hh52, hF⟩ := gd_out hF hne
        obtain ⟨hh53, hF⟩ := gd_out hF hne
        obtain ⟨jk55, hjk55, hF⟩ := jpE_out hF
        refine ds_cons (ds1_ifJ (kf := jk55) (out := out) (fun (a : Unit) (z : (Int × Int) × (Int × Int)) => [some (.int low1), some (.int high2), some (.int cell3), some (.str x4), some (.lst (ends13.map D.int)), some (.int odd29), some (.lst (parts37.map dk_T2II)), some (dk_T2II z.1), none, some (dk_T2II z.2), none]) (fun (a : Unit) (z : (Int × Int) × (Int × Int)) => []) (dt_gt (dv_mulX (dv_ixT (show DV _ _ _ _ _ (.tup [.int x48.1, .int x48.2]) from (dv_var v7.toNm rfl)) dv_int rfl) (dv_ixT (show DV _ _ _ _ _ (.tup [.int x50.1, .int x50.2]) from (dv_var v9.toNm rfl)) dv_int rfl) hh52) (dv_mulX (dv_ixT (show DV _ _ _ _ _ (.tup [.int x50.1, .int x50.2]) from (dv_var v9.toNm rfl)) dv_int rfl) (dv_ixT (show DV _ _ _ _ _ (.tup [.int x48.1, .int x48.2]) from (dv_var v7.toNm rfl)) dv_int rfl) hh53)) (fun hh54 => ?_) (fun hh54 => ?_) ?_ then_fgt)
        ·
          replace hF := ite_t hF hh54
          refine ds_cons (ds1_par2 B v7 v9 rfl rfl (da_cons (dv_var v9.toNm rfl) (da_cons (dv_var v7.toNm rfl) da_nil)) (by decide) ?_)
          change DS _ _ _ [some (.int low1), some (.int high2), some (.int cell3), some (.str x4), some (.lst (ends13.map D.int)), some (.int odd29), some (.lst (parts37.map dk_T2II)), some (dk_T2II x50), none, some (dk_T2II x48), none] [] _
          refine ds_nil ?_
          exact join_nx () (x50, x48) hF ⟨.inr rfl, .inr rfl, .inr rfl, .inr rfl, .inr rfl, .inr rfl, .inr rfl, .inr rfl, .inl rfl, .inr rfl, .inl rfl, trivial⟩ rfl
        ·
          replace hF := ite_f hF hh54
          refine ds_nil ?_
          exact join_nx () (x48, x50) hF ⟨.inr rfl, .inr rfl, .inr rfl, .inr rfl, .inr rfl, .inr rfl, .inr rfl, .inr rfl, .inl rfl, .inr rfl, .inl rfl, trivial⟩ rfl
        ·
          rintro ⟨⟩ ⟨one56, other57⟩ hF
          subst hjk55
          change DS _ _ _ [some (.int low1), some (.int high2), some (.int cell3), some (.str x4), some (.lst (ends13.map D.int)), some (.int odd29), some (.lst (parts37.map dk_T2II)), some (dk_T2II one56), none, some (dk_T2II other57), none] [] _
          obtain ⟨r58, hh59, hF⟩ := bindP_out hF hne
          refine ds_cons (ds1_set v10 (c_show_pair T (B.room.mono (by decide)) (B.gl (x := "show_pair") rfl) dv_str (DV.is (show DV _ _ _ _ _ (dk_T2T2IIT2II (one56, other57)) from dv_tup (da_cons (dv_var v7.toNm rfl) (da_cons (dv_var v9.toNm rfl) da_nil)) (szN 2 rfl)) (show _ = dk_T2ZZ ((Zv.p ((one56, other57).1).1 ((one56, other57).1).2), (Zv.p ((one56, other57).2).1 ((one56, other57).2).2)) from rfl)) hh59) ?_)
          change DS _ _ _ [some (.int low1), some (.int high2), some (.int cell3), some (.str x4), some (.lst (ends13.map D.int)), some (.int odd29), some (.lst (parts37.map dk_T2II)), some (dk_T2II one56), none, some (dk_T2II other57), some (.str r58)] [] _
          obtain ⟨b66, hh67, hF⟩ := bindP_out hF hne
          refine ds_cons (ds1_if (DW.t (dw_orE hh67 (dt_not (dt_val (dv_isi (T := "str") (k := true) (B.bn (x := "isinstance") rfl T.b_isinstance bt_isinstance) (B.bn (x := "str") rfl T.b_str bt_str) (dv_var v10.toNm rfl) (by first | exact .non | exact .int _ | exact .bl _ | exact .str _ | exact .lst _ | exact .tup _ | exact .scr _) (by decide +kernel)))) fun _ _ hF => (by obtain ⟨r60, hh61, hF⟩ := bindP_out hF (Ex.ok_ne _); obtain ⟨r62, hh63, hF⟩ := bindP_out hF (Ex.ok_ne _); obtain ⟨r64, hh65, hF⟩ := bindP_out hF (Ex.ok_ne _); cases hF; exact (dw_or1 (dt_nes (dv_var v10.toNm rfl) (c_l_pair T (B.room.mono (by decide)) (B.gl (x := "_law_pair") rfl) (c_l_fraction T (B.room.mono (by decide)) (B.gl (x := "_law_fraction") rfl) (dv_var v7.toNm rfl) hh61) (c_l_fraction T (B.room.mono (by decide)) (B.gl (x := "_law_fraction") rfl) (dv_var v9.toNm rfl) hh63) hh65)))))) (fun hh68 => ?_) (fun hh68 => ?_))
          ·
            replace hF := ite_t hF hh68
            refine ds_cons (ds1_retV dv_bl ?_)
            exact ret_mk (enc := D.bl) (M := []) hF
          ·
            replace hF := ite_f hF hh68
            refine ds_nil ?_
            obtain ⟨r69, hh70, hF⟩ := bindP_out hF hne
            obtain ⟨b73, hh74, hF⟩ := bindP_out hF hne
            refine ds_cons (ds1_retV (dv_andE hh74 (dv_eqs (c_show_pair T (B.room.mono (by decide)) (B.gl (x := "show_pair") rfl) (dv_var v3.toNm rfl) (DV.is (show DV _ _ _ _ _ (dk_T2NN ((), ())) from dv_tup (da_cons dv_non (da_cons dv_non da_nil)) (szN 2 rfl)) (show _ = dk_T2ZZ (Zv.n, Zv.n) from rfl)) hh70) dv_str) fun _ _ hF => (by obtain ⟨r71, hh72, hF⟩ := bindP_out hF (Ex.ok_ne _); cases hF; exact (dv_one (dv_eqs (c_show_pair T (B.room.mono (by decide)) (B.gl (x := "show_pair") rfl) dv_str (DV.is (show DV _ _ _ _ _ (dk_T2NN ((), ())) from dv_tup (da_cons dv_non (da_cons dv_non da_nil)) (szN 2 rfl)) (show _ = dk_T2ZZ (Zv.n, Zv.n) from rfl)) hh72) dv_str)))) ?_)
            exact ret_mk (enc := D.bl) (M := []) hF
      case hro75 =>
        rintro r78 _ rfl
        exact ret_mk (enc := D.bl) (M := []) hF
      case hxo75 =>
        rintro cls fs _ _ ⟨n, rfl, e2⟩
        exact kx_exc hF e2
theorem c_l_pairs_right {X : Cx} {kx : XD} {ρ : Ro} {M : Mem} {pos p : Pos} {e0 e1 e2 : Expr} {low1 : Int} {high2 : Int} {cell3 : Int} {r : Bool} (T : Txt X.K X.mg A) (hr : Room 4 X.A) (hg : Gl X "_law_pairs_right") (h0 : DV X kx e0 ρ M (.int low1)) (h1 : DV X kx e1 ρ M (.int high2)) (h2 : DV X kx e2 ρ M (.int cell3)) (hF : F_l_pairs_right low1 high2 cell3 = .ok r) (he0 : starEach [e0, e1, e2] X.env = (false, eval e0 X.env) :: starEach [e1, e2] X.env := by rfl) (he1 : starEach [e1, e2] X.env = (false, eval e1 X.env) :: starEach [e2] X.env := by rfl) (he2 : starEach [e2] X.env = (false, eval e2 X.env) :: starEach [] X.env := by rfl) (hpl : (backTo pos (starEach [e1, e2] X.env)).any (·.1) = false := by rfl) : DV X kx (.Call (.Name "_law_pairs_right" p) [e0, e1, e2] [] pos) ρ M (.bl r) :=
  dv_call (g_l_pairs_right T) hr hg (da_cons h0 (da_cons h1 (da_cons h2 da_nil he2) he1) he0) (low1, high2, cell3) rfl (fun h => Ex.ok_ne r (hF.symm.trans h)) (fun d ⟨r', a1, a2⟩ => by cases hF.symm.trans a1; exact a2) (fun cls fs ⟨n, a1, _⟩ => by cases hF.symm.trans a1) (by decide) he0 hpl
theorem sc_law : FnScope ["_law_script", "_law_cells", "_law_k", "_law_number_here", "_law_text", "_law_made", "_law_low"] ["_law_script"] (defScope s_law) := fscope (by decide +kernel)
theorem g_law (T : Txt K mg A) {f : Addr} {fd : FuncData} (F : Fun K "law" "law" s_law f fd) : FnOk P w K mg base (L2.CX P w) 7 f fd ["_law_script"] (spE K mg (fun q : List Int => [.scr (q.map D.int)]) (fun q => F_law q) D.bl) := by
  refine fn_e F sc_law (fun _ => rfl) fun X e1 e2 e3 e4 e5 B Fz script1 out hF hne => ?_
  subst e1 e2 e3 e4 e5
  have v0 : Ns X 0 "_law_script" := B.ns rfl rfl
  have v1 : Ns X 1 "_law_cells" := B.ns rfl rfl
  have v2 : Ns X 2 "_law_k" := B.ns rfl rfl
  have v3 : Ns X 3 "_law_number_here" := B.ns rfl rfl
  have v4 : Ns X 4 "_law_text" := B.ns rfl rfl
  have v5 : Ns X 5 "_law_made" := B.ns rfl rfl
  have v6 : Ns X 6 "_law_low" := B.ns rfl rfl
  replace hF : F_law script1 = out := hF
  unfold F_law at hF
  change DS _ _ _ [some (.scr (script1.map D.int)), none, none, none, none, none, none] [] _
  obtain ⟨cells2, hh3, hF⟩ := letE_out hF
  refine ds_cons (ds1_set v1 (dv_isE (enc := dk_LI) (dv_slM (g := D.int) (dv_var v0.toNm rfl) (.scr _) do_none (do_some dv_int)) hh3) ?_)
  change DS _ _ _ [some (.scr (script1.map D.int)), some (.lst (cells2.map D.int)), none, none, none, none, none] [] _
  obtain ⟨hh4, hF⟩ := gd_out hF hne
  obtain ⟨o49, hh50, hh51, hF⟩ := bindX_cut hF hne
  refine ds_cons (ds1_loopE (enc := D.int) (enr := D.bl) B (fun (z : Unit) => [some (.scr (script1.map D.int)), some (.lst (cells2.map D.int)), none, none, none, none, none]) (fun (z : Unit) => []) hh50 hh51 (di_range1 (B.bn (x := "range") rfl T.b_range bt_range) (dv_lenM (g := D.int) (B.bn (x := "len") rfl T.b_len bt_len) (dv_var v1.toNm rfl) (.lst _)) hh4.1 hh4.2) ⟨.inr rfl, .inr rfl, .inl rfl, .inl rfl, .inl rfl, .inl rfl, .inl rfl, trivial⟩ rfl ?hso49 ?hdo49 ?hro49 ?hxo49 then_fgt)
  case hso49 =>
    clear hF
    rintro ⟨⟩ x5 o6 _ hF hne
    refine ⟨_, _, (dg_name v2), ?_⟩
    change DS _ _ _ [some (.scr (script1.map D.int)), some (.lst (cells2.map D.int)), some (.int x5), none, none, none, none] [] _
    obtain ⟨x7, hh8, hF⟩ := bindP_out hF hne
    obtain ⟨r9, hh10, hF⟩ := bindP_out hF hne
    refine ds_cons (ds1_set v3 (c_l_number T (B.room.mono (by decide)) (B.gl (x := "_law_number") rfl) (dv_ixS (dv_var v1.toNm rfl) (.lst _) (dv_var v2.toNm rfl) (ixE_out hh8 D.int)) hh10) ?_)
    change DS _ _ _ [some (.scr (script1.map D.int)), some (.lst (cells2.map D.int)), some (.int x5), some (.int r9), none, none, none] [] _
    obtain ⟨hh11, hF⟩ := gd_out hF hne
    obtain ⟨text12, hh13, hF⟩ := letE_out hF
    refine ds_cons (ds1_set v4 (dv_isE (enc := D.str) (dv_strN B.calm T.nodg (B.bn (x := "str") rfl T.b_str bt_str) hh11 (dv_var v3.toNm rfl)) hh13) ?_)
    change DS _ _ _ [some (.scr (script1.map D.int)), some (.lst (cells2.map D.int)), some (.int x5), some (.int r9), some (.str text12), none, none] [] _
    obtain ⟨r14, hh15, hF⟩ := bindP_out hF hne
    refine ds_cons (ds1_set v5 (c_show_number T (B.room.mono (by decide)) (B.gl (x := "show_number") rfl) (dv_var v3.toNm rfl) hh15) ?_)
    change DS _ _ _ [some (.scr (script1.map D.int)), some (.lst (cells2.map D.int)), some (.int x5), some (.int r9), some (.str text12), some (.str r14), none] [] _
    refine ds_cons (ds1_if (DW.t (dw_or (dt_not (dt_val (dv_isi (T := "str") (k := true) (B.bn (x := "isinstance") rfl T.b_isinstance bt_isinstance) (B.bn (x := "str") rfl T.b_str bt_str) (dv_var v5.toNm rfl) (by first | exact .non | exact .int _ | exact .bl _ | exact .str _ | exact .lst _ | exact .tup _ | exact .scr _) (by decide +kernel)))) fun _ => (dw_or1 (dt_nes (dv_var v5.toNm rfl) (dv_var v4.toNm rfl))))) (fun hh16 => ?_) (fun hh16 => ?_))
    ·
      replace hF := ite_t hF hh16
      refine ds_cons (ds1_retV dv_bl ?_)
      exact loop_rt (R := fun _ => []) (Mf := fun _ => []) (enr := D.bl) (M := []) hF
    ·
      replace hF := ite_f hF hh16
      refine ds_nil ?_
      obtain ⟨r17, hh18, hF⟩ := bindP_out hF hne
      obtain ⟨b25, hh26, hF⟩ := bindP_out hF hne
      refine ds_cons (ds1_if (DW.t (dw_orE hh26 (dt_not (dt_val (c_l_right T (B.room.mono (by decide)) (B.gl (x := "_law_right") rfl) (dv_var v4.toNm rfl) hh18))) fun _ _ hF => (by obtain ⟨x19, hh20, hF⟩ := bindP_out hF (Ex.ok_ne _); obtain ⟨r21, hh22, hF⟩ := bindP_out hF (Ex.ok_ne _); obtain ⟨r23, hh24, hF⟩ := bindP_out hF (Ex.ok_ne _); cases hF; exact (dw_or1 (dt_not (dt_val (c_l_right_2 T (B.room.mono (by decide)) (B.gl (x := "_law_right") rfl) (c_l_spoilt T (B.room.mono (by decide)) (B.gl (x := "_law_spoilt") rfl) (dv_var v4.toNm rfl) (dv_fdiv (dv_ixS (dv_var v1.toNm rfl) (.lst _) (dv_sub (dv_var v2.toNm rfl) dv_int) (ixE_out hh20 D.int)) dv_int (div_c (by decide) (by decide))) hh22) hh24))))))) (fun hh27 => ?_) (fun hh27 => ?_))
      ·
        replace hF := ite_t hF hh27
        refine ds_cons (ds1_retV dv_bl ?_)
        exact loop_rt (R := fun _ => []) (Mf := fun _ => []) (enr := D.bl) (M := []) hF
      ·
        replace hF := ite_f hF hh27
        refine ds_nil ?_
        obtain ⟨x28, hh29, hF⟩ := bindP_out hF hne
        obtain ⟨low30, hh31, hF⟩ := letE_out hF
        refine ds_cons (ds1_set v6 (dv_isE (enc := D.int) (dv_sub (dv_mod (dv_fdiv (dv_ixS (dv_var v1.toNm rfl) (.lst _) (dv_var v2.toNm rfl) (ixE_out hh29 D.int)) dv_int (div_c (by decide) (by decide))) (DV.is (dv_mulX dv_int (DV.is (dv_pow dv_int dv_int ⟨by decide, by decide, by decide⟩) (show D.int _ = D.int (100000000000000000000000000000000000000000000000000) from congrArg D.int (by decide +kernel))) (mok_c (.inl ⟨by decide, by decide⟩))) (show D.int _ = D.int (200000000000000000000000000000000000000000000000000) from congrArg D.int (by decide +kernel))) (by decide)) (DV.is (dv_pow dv_int dv_int ⟨by decide, by decide, by decide⟩) (show D.int _ = D.int (100000000000000000000000000000000000000000000000000) from congrArg D.int (by decide +kernel)))) hh31) ?_)
        change DS _ _ _ [some (.scr (script1.map D.int)), some (.lst (cells2.map D.int)), some (.int x5), some (.int r9), some (.str text12), some (.str r14), some (.int low30)] [] _
        obtain ⟨x32, hh33, hF⟩ := bindP_out hF hne
        obtain ⟨x34, hh35, hF⟩ := bindP_out hF hne
        obtain ⟨r36, hh37, hF⟩ := bindP_out hF hne
        refine ds_cons (ds1_if (dt_not (dt_val (c_l_pairs_right T (B.room.mono (by decide)) (B.gl (x := "_law_pairs_right") rfl) (dv_var v6.toNm rfl) (dv_sub (dv_mod (dv_fdiv (dv_ixS (dv_var v1.toNm rfl) (.lst _) (dv_sub (dv_var v2.toNm rfl) dv_int) (ixE_out hh33 D.int)) dv_int (div_c (by decide) (by decide))) dv_int (by decide)) dv_int) (dv_fdiv (dv_ixS (dv_var v1.toNm rfl) (.lst _) (dv_sub (dv_var v2.toNm rfl) dv_int) (ixE_out hh35 D.int)) dv_int (div_c (by decide) (by decide))) hh37))) (fun hh38 => ?_) (fun hh38 => ?_))
        ·
          replace hF := ite_t hF hh38
          refine ds_cons (ds1_retV dv_bl ?_)
          exact loop_rt (R := fun _ => []) (Mf := fun _ => []) (enr := D.bl) (M := []) hF
        ·
          replace hF := ite_f hF hh38
          refine ds_nil ?_
          refine ds_nil ?_
          exact loop_nx (enr := D.bl) hF ⟨.inr rfl, .inr rfl, .inl rfl, .inl rfl, .inl rfl, .inl rfl, .inl rfl, trivial⟩ rfl
  case hdo49 =>
    rintro ⟨⟩ rfl
    replace hF := okE hF
    replace hF := nxE hF
    change DS _ _ _ [some (.scr (script1.map D.int)), some (.lst (cells2.map D.int)), none, none, none, none, none] [] _
    obtain ⟨r39, hh40, hF⟩ := bindP_out hF hne
    obtain ⟨b47, hh48, hF⟩ := bindP_out hF hne
    refine ds_cons (ds1_retV (dv_andE hh48 (c_l_right T (B.room.mono (by decide)) (B.gl (x := "_law_right") rfl) dv_str hh40) fun _ _ hF => (by obtain ⟨r41, hh42, hF⟩ := bindP_out hF (Ex.ok_ne _); obtain ⟨b45, hh46, hF⟩ := bindP_out hF (Ex.ok_ne _); cases hF; exact (dv_andE hh46 (c_l_right T (B.room.mono (by decide)) (B.gl (x := "_law_right") rfl) dv_str hh42) fun _ _ hF => (by obtain ⟨r43, hh44, hF⟩ := bindP_out hF (Ex.ok_ne _); cases hF; exact (dv_one (c_l_right T (B.room.mono (by decide)) (B.gl (x := "_law_right") rfl) dv_str hh44)))))) ?_)
    exact ret_mk (enc := D.bl) (M := []) hF
  case hro49 =>
    rintro r52 _ rfl
    exact ret_mk (enc := D.bl) (M := []) hF
  case hxo49 =>
    rintro cls fs _ _ ⟨n, rfl, e2⟩
    exact kx_exc hF e2
end
end Lw
namespace Lw
open PySem PySem.Spec PyProof.Rows L2 Dl
/-! ### the head: one run of the top -/
def hd_xi_NoText : He.DefD := ⟨("NoText", some "__init__"), "__init__", "NoText.__init__", defArgs s_xi_NoText, defBody s_xi_NoText, defScope s_xi_NoText, [], []⟩
def hd_l_number : He.DefD := ⟨("_law_number", none), "_law_number", "_law_number", defArgs s_l_number, defBody s_l_number, defScope s_l_number, [], []⟩
def hd_show_number : He.DefD := ⟨("show_number", none), "show_number", "show_number", defArgs s_show_number, defBody s_show_number, defScope s_show_number, [], []⟩
def hd_l_due : He.DefD := ⟨("_law_due", none), "_law_due", "_law_due", defArgs s_l_due, defBody s_l_due, defScope s_l_due, [], []⟩
def hd_needed : He.DefD := ⟨("needed", none), "needed", "needed", defArgs s_needed, defBody s_needed, defScope s_needed, [], []⟩
def hd_read_number : He.DefD := ⟨("read_number", none), "read_number", "read_number", defArgs s_read_number, defBody s_read_number, defScope s_read_number, [], []⟩
def hd_l_whole : He.DefD := ⟨("_law_whole", none), "_law_whole", "_law_whole", defArgs s_l_whole, defBody s_l_whole, defScope s_l_whole, [], []⟩
def hd_l_read : He.DefD := ⟨("_law_read", none), "_law_read", "_law_read", defArgs s_l_read, defBody s_l_read, defScope s_l_read, [], []⟩
def hd_l_right : He.DefD := ⟨("_law_right", none), "_law_right", "_law_right", defArgs s_l_right, defBody s_l_right, defScope s_l_right, [], []⟩
def hd_l_odd : He.DefD := ⟨("_law_odd", none), "_law_odd", "_law_odd", defArgs s_l_odd, defBody s_l_odd, defScope s_l_odd, [], []⟩
def hd_l_spoilt : He.DefD := ⟨("_law_spoilt", none), "_law_spoilt", "_law_spoilt", defArgs s_l_spoilt, defBody s_l_spoilt, defScope s_l_spoilt, [], []⟩
def hd_show_fraction : He.DefD := ⟨("show_fraction", none), "show_fraction", "show_fraction", defArgs s_show_fraction, defBody s_show_fraction, defScope s_show_fraction, [], []⟩
def hd_show_pair : He.DefD := ⟨("show_pair", none), "show_pair", "show_pair", defArgs s_show_pair, defBody s_show_pair, defScope s_show_pair, [], []⟩
def hd_l_pair : He.DefD := ⟨("_law_pair", none), "_law_pair", "_law_pair", defArgs s_l_pair, defBody s_l_pair, defScope s_l_pair, [], []⟩
def hd_l_fraction : He.DefD := ⟨("_law_fraction", none), "_law_fraction", "_law_fraction", defArgs s_l_fraction, defBody s_l_fraction, defScope s_l_fraction, [], []⟩
def hd_l_pairs_right : He.DefD := ⟨("_law_pairs_right", none), "_law_pairs_right", "_law_pairs_right", defArgs s_l_pairs_right, defBody s_l_pairs_right, defScope s_l_pairs_right, [], []⟩
def hd_law : He.DefD := ⟨("law", none), "law", "law", defArgs s_law, defBody s_law, defScope s_law, [], []⟩
def hfn_0 : List He.DefD := [hd_xi_NoText, hd_l_number, hd_show_number, hd_l_due, hd_needed, hd_read_number, hd_l_whole, hd_l_read, hd_l_right, hd_l_odd, hd_l_spoilt, hd_show_fraction, hd_show_pair, hd_l_pair, hd_l_fraction, hd_l_pairs_right, hd_law]
def hfn : List He.DefD := hfn_0
def hck_0 : List Dl.Chk := [Dl.exfB "NoText", Dl.ndgB, Dl.gloB "BookError", Dl.gloB "NoText", Dl.gloB "NoNumber", Dl.gloB "NoRow", Dl.gloB "show_number", Dl.gloB "show_fraction", Dl.iniB "NoText" "__init__" ("NoText", some "__init__"), Dl.oexB "NoText", Dl.natB "NoText" "line", Dl.rbeB "BookError", Dl.kitB "NoText" "NoText" true, Dl.kitB "NoText" "NoNumber" false, Dl.kitB "NoText" "NoRow" false, Dl.exmB "NoText" "BookError" true, Dl.xfcB "NoText" "line", Dl.gloB "_law_number", Dl.gloB "_law_due", Dl.gloB "needed"]
def hck_1 : List Dl.Chk := [Dl.gloB "read_number", Dl.gloB "_law_whole", Dl.gloB "_law_read", Dl.gloB "_law_right", Dl.gloB "_law_odd", Dl.gloB "_law_spoilt", Dl.gloB "show_pair", Dl.gloB "_law_pair", Dl.gloB "_law_fraction", Dl.gloB "_law_pairs_right", Dl.freB "len", Dl.freB "range", Dl.freB "int", Dl.freB "str", Dl.freB "isinstance", Dl.freB "all", Dl.freB "bool", Dl.freB "sorted", Dl.intB "MOST_FIGURES" (1000), Dl.strB "FIGURES" "0123456789"]
def hck_2 : List Dl.Chk := [Dl.gloB "law"]
def hck : List Dl.Chk := hck_0 ++ (hck_1 ++ (hck_2))
def hcl_0 : List Str := ["BookError", "NoNumber", "NoText", "NoRow"]
def hcl : List Str := hcl_0
def hnm_0 : List Str := ["BookError", "NoNumber", "NoText", "NoRow", "FIGURES", "MOST_FIGURES", "needed", "show_number", "read_number", "show_fraction", "show_pair", "_law_number", "_law_odd", "_law_spoilt", "_law_due", "_law_whole", "_law_read", "_law_right", "_law_fraction", "_law_pair"]
def hnm_1 : List Str := ["_law_pairs_right"]
def hnm : List Str := hnm_0 ++ (hnm_1)
abbrev hR : PySem.W.OpenRow := PySem.W.OpenLaw.row PySem.Challenge.rw_thinbook_k81_numbers_and_pairs
abbrev hk : PySem.W.Hook := Dl.hookH hcl hck hfn
def hob (s : PySem.W.SharedT) : He.AlD := Dl.obsHG hcl hck hfn (HandSHeadRun.getT s)
theorem hob_eq (s : PySem.W.SharedT) : hob s = hk.obs s.abs := Dl.obsHG_eq (HandSHeadRun.getT_eq s)
theorem hrun (w : World) : HandSHeadRun.RunEq hR (PySem.W.view hR.prog [24]) hk hob 30000 hnm w := by
  intro os
  kernel_rfl
def hA (K : Frag) : Adr := { none_ := 0, a_NoText := He.ga K "NoText", n_BookError := He.ga K "BookError", n_NoNumber := He.ga K "NoNumber", n_NoRow := He.ga K "NoRow", n_show_number := He.ga K "show_number", n_show_fraction := He.ga K "show_fraction" }
theorem htxt {K : Frag} {mg : Str → Option Value} {h : Heap} (KX : K.In h) (G : h.Ns mainGlobals mg) (c : Dl.SaysH hck hfn K) : Txt K mg (hA K) where
  x_NoText := Dl.exfB_ok KX G (c.fact 0 (f := Dl.exfB "NoText"))
  nodg := Dl.ndgB_ok (c.fact 1 (f := Dl.ndgB))
  n_BookError := Dl.gloB_ok KX G (c.fact 2 (f := Dl.gloB "BookError"))
  n_NoText := Dl.gloB_ok KX G (c.fact 3 (f := Dl.gloB "NoText"))
  n_NoNumber := Dl.gloB_ok KX G (c.fact 4 (f := Dl.gloB "NoNumber"))
  n_NoRow := Dl.gloB_ok KX G (c.fact 5 (f := Dl.gloB "NoRow"))
  n_show_number := Dl.gloB_ok KX G (c.fact 6 (f := Dl.gloB "show_number"))
  n_show_fraction := Dl.gloB_ok KX G (c.fact 7 (f := Dl.gloB "show_fraction"))
  xi_NoText := Dl.xini_of (x := "NoText") (C := "NoText") (st := s_xi_NoText) (p := ("NoText", some "__init__")) (c.def_ 0 (d := hd_xi_NoText)) (c.fact 8 (f := Dl.iniB "NoText" "__init__" ("NoText", some "__init__"))) (fun _ _ _ _ _ _ us hl => match us, hl with | [_, _], _ => rfl)
  oex_NoText := Dl.oexB_ok (c.fact 9 (f := Dl.oexB "NoText"))
  xn_NoText := Dl.natB_ok (c.fact 10 (f := Dl.natB "NoText" "line"))
  rB := (Dl.rbeB_ok (c.fact 11 (f := Dl.rbeB "BookError"))).1
  rG := (Dl.rbeB_ok (c.fact 11 (f := Dl.rbeB "BookError"))).2.1
  vB := (Dl.rbeB_ok (c.fact 11 (f := Dl.rbeB "BookError"))).2.2
  i_NoText_NoText := Dl.dec_ok (c.fact 12 (f := Dl.kitB "NoText" "NoText" true))
  i_NoText_NoNumber := Dl.dec_ok (c.fact 13 (f := Dl.kitB "NoText" "NoNumber" false))
  i_NoText_NoRow := Dl.dec_ok (c.fact 14 (f := Dl.kitB "NoText" "NoRow" false))
  e_NoText_BookError := Dl.dec_ok (c.fact 15 (f := Dl.exmB "NoText" "BookError" true))
  xf_NoText_line := Dl.xfcB_ok (c.fact 16 (f := Dl.xfcB "NoText" "line"))
  f_l_number := Dl.funT_of (st := s_l_number) KX G (c.def_ 1 (d := hd_l_number)) (c.fact 17 (f := Dl.gloB "_law_number")) (fun _ _ _ _ _ _ us hl => match us, hl with | [_], _ => rfl)
  f_show_number := Dl.funT_of (st := s_show_number) KX G (c.def_ 2 (d := hd_show_number)) (c.fact 6 (f := Dl.gloB "show_number")) (fun _ _ _ _ _ _ us hl => match us, hl with | [_], _ => rfl)
  f_l_due := Dl.funT_of (st := s_l_due) KX G (c.def_ 3 (d := hd_l_due)) (c.fact 18 (f := Dl.gloB "_law_due")) (fun _ _ _ _ _ _ us hl => match us, hl with | [_], _ => rfl)
  f_needed := Dl.funT_of (st := s_needed) KX G (c.def_ 4 (d := hd_needed)) (c.fact 19 (f := Dl.gloB "needed")) (fun _ _ _ _ _ _ us hl => match us, hl with | [_], _ => rfl)
  f_read_number := Dl.funT_of (st := s_read_number) KX G (c.def_ 5 (d := hd_read_number)) (c.fact 20 (f := Dl.gloB "read_number")) (fun _ _ _ _ _ _ us hl => match us, hl with | [_], _ => rfl)
  f_l_whole := Dl.funT_of (st := s_l_whole) KX G (c.def_ 6 (d := hd_l_whole)) (c.fact 21 (f := Dl.gloB "_law_whole")) (fun _ _ _ _ _ _ us hl => match us, hl with | [_], _ => rfl)
  f_l_read := Dl.funT_of (st := s_l_read) KX G (c.def_ 7 (d := hd_l_read)) (c.fact 22 (f := Dl.gloB "_law_read")) (fun _ _ _ _ _ _ us hl => match us, hl with | [_], _ => rfl)
  f_l_right := Dl.funT_of (st := s_l_right) KX G (c.def_ 8 (d := hd_l_right)) (c.fact 23 (f := Dl.gloB "_law_right")) (fun _ _ _ _ _ _ us hl => match us, hl with | [_], _ => rfl)
  f_l_odd := Dl.funT_of (st := s_l_odd) KX G (c.def_ 9 (d := hd_l_odd)) (c.fact 24 (f := Dl.gloB "_law_odd")) (fun _ _ _ _ _ _ us hl => match us, hl with | [_], _ => rfl)
  f_l_spoilt := Dl.funT_of (st := s_l_spoilt) KX G (c.def_ 10 (d := hd_l_spoilt)) (c.fact 25 (f := Dl.gloB "_law_spoilt")) (fun _ _ _ _ _ _ us hl => match us, hl with | [_, _], _ => rfl)
  f_show_fraction := Dl.funT_of (st := s_show_fraction) KX G (c.def_ 11 (d := hd_show_fraction)) (c.fact 7 (f := Dl.gloB "show_fraction")) (fun _ _ _ _ _ _ us hl => match us, hl with | [_], _ => rfl)
  f_show_pair := Dl.funT_of (st := s_show_pair) KX G (c.def_ 12 (d := hd_show_pair)) (c.fact 26 (f := Dl.gloB "show_pair")) (fun _ _ _ _ _ _ us hl => match us, hl with | [_, _], _ => rfl)
  f_l_pair := Dl.funT_of (st := s_l_pair) KX G (c.def_ 13 (d := hd_l_pair)) (c.fact 27 (f := Dl.gloB "_law_pair")) (fun _ _ _ _ _ _ us hl => match us, hl with | [_, _], _ => rfl)
  f_l_fraction := Dl.funT_of (st := s_l_fraction) KX G (c.def_ 14 (d := hd_l_fraction)) (c.fact 28 (f := Dl.gloB "_law_fraction")) (fun _ _ _ _ _ _ us hl => match us, hl with | [_], _ => rfl)
  f_l_pairs_right := Dl.funT_of (st := s_l_pairs_right) KX G (c.def_ 15 (d := hd_l_pairs_right)) (c.fact 29 (f := Dl.gloB "_law_pairs_right")) (fun _ _ _ _ _ _ us hl => match us, hl with | [_, _, _], _ => rfl)
  b_len := Dl.freB_ok KX G (c.fact 30 (f := Dl.freB "len"))
  b_range := Dl.freB_ok KX G (c.fact 31 (f := Dl.freB "range"))
  b_int := Dl.freB_ok KX G (c.fact 32 (f := Dl.freB "int"))
  b_str := Dl.freB_ok KX G (c.fact 33 (f := Dl.freB "str"))
  b_isinstance := Dl.freB_ok KX G (c.fact 34 (f := Dl.freB "isinstance"))
  b_all := Dl.freB_ok KX G (c.fact 35 (f := Dl.freB "all"))
  b_bool := Dl.freB_ok KX G (c.fact 36 (f := Dl.freB "bool"))
  b_sorted := Dl.freB_ok KX G (c.fact 37 (f := Dl.freB "sorted"))
  k_MOST_FIGURES := Dl.intB_ok KX G (c.fact 38 (f := Dl.intB "MOST_FIGURES" (1000)))
  k_FIGURES := Dl.strB_ok KX G (c.fact 39 (f := Dl.strB "FIGURES" "0123456789"))
theorem hfin {P : Program} {w : World} {K : Frag} {mg : Str → Option Value} {h : Heap} {fa : Addr} (X : K.In h) (G : h.Ns mainGlobals mg) (c : Dl.SaysH hck hfn K) (hfa : mg "law" = some (.ref fa)) :
    ∃ fd : FuncData, (∀ (s : Shared) (u : Value), BindsTo s fd ⟨[u], []⟩ [("_law_script", u)]) ∧ ∀ base : Heap, K.In base → base.Ns mainGlobals mg → FnOk P w K mg base (L2.CX P w) 7 fa fd ["_law_script"] (spLaw K) := by
  have T := htxt X G c
  obtain ⟨fd, F⟩ := (show ∃ fd, FunD K "law" "law" (defArgs s_law) (defBody s_law) (defScope s_law) [] [] (He.ga K "law") fd from c.def_ 16 (d := hd_law))
  have e := hfa.symm.trans (Dl.gloB_ok X G (c.fact 40 (f := Dl.gloB "law")))
  cases e
  have b := FunD.bindsA (ps := ["_law_script"]) F fun _ _ _ _ _ _ us hl => match us, hl with | [_], _ => rfl
  refine ⟨fd, fun s v => b s [v] rfl, fun base _ _ => fnok_imp (g_law T (Dl.fun_of F)) fun vs H Q E ⟨q, H0, b1, b2, b3, b4, b5⟩ => ⟨q, H0, b1, b2, fun z => Ex.ok_ne true ((law_ok q b3).symm.trans z), fun v H' H0' d c1 c2 ⟨r, c3, c4⟩ => b4 v H' H0' d c1 c2 (by cases (law_ok q b3).symm.trans c3; exact c4), fun cls dd H' H0' fs c1 c2 ⟨n, c3, _⟩ => (by cases (law_ok q b3).symm.trans c3)⟩⟩
end Lw
open PySem PySem.W PyProof.Rows
set_option maxRecDepth 100000 in
set_option maxHeartbeats 0 in
theorem PySem.Challenge.cw_thinbook_k81_numbers_and_pairs_holds : PySem.Challenge.rw_thinbook_k81_numbers_and_pairs.Holds := by
  w_on; o_law
  refine HandSHeadRun.head_any (r := OpenLaw.row PySem.Challenge.rw_thinbook_k81_numbers_and_pairs) (q := view (OpenLaw.row PySem.Challenge.rw_thinbook_k81_numbers_and_pairs).prog [24]) (H := Lw.hk) (ob := Lw.hob) (M := 30000) (loose := Lw.hnm) (d := HandSHeadRun.topDef (OpenLaw.row PySem.Challenge.rw_thinbook_k81_numbers_and_pairs).prog 24) (kwd := []) Lw.hob_eq
    (by kernel_rfl) (fun s => by kernel_rfl) Lw.hrun (by kernel_rfl) (by kernel_rfl) (by kernel_rfl) (by rfl) (by first | assumption | decide +kernel) (by decide +kernel) ⟨rfl, rfl, rfl, rfl, rfl, by decide +kernel⟩ ?hw ?hc
  case hw => w_witness2
  case hc =>
    refine Dl.walkH (l := PySem.Challenge.rw_thinbook_k81_numbers_and_pairs) (k := 7) (x := "_law_script") rfl (by kernel_rfl) ⟨rfl, by decide, by decide⟩ ?F
    intro w mg fa h Y G hmg0
    obtain ⟨K, KX, c⟩ := Y
    have hmg : mg ("law" : PySem.Str) = some (.ref fa) := by
      have e : (HandSHeadRun.topDef (OpenLaw.row PySem.Challenge.rw_thinbook_k81_numbers_and_pairs).prog 24).name = ("law" : PySem.Str) := by kernel_rfl
      rw [← e]
      exact hmg0
    obtain ⟨fd, hb, hF⟩ := Lw.hfin KX G c hmg
    exact ⟨K, fd, KX, hb, hF⟩
