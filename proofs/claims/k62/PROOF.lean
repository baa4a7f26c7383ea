import PyProof.Rows.All
import Wide.All
import HandS.Nested
import OpenK.AllK
import Wide.FinOn
import HandS.ForMost
import HandS.ForExc
import HandS.Wide
import HandS.Walk
import HandS.Zip
import HandS.NestedK
import HandS.IsInst
import HandS.SortKw
import HandS.CallSlots
import HandS.Rev
import KE.KDictList
import HandS.WideBits
import HandS.TupLe
import HandS.ExcIs
import HandS.Defaults
import KE.DatumOrd
import HandS.Style
import HandS.TryOnly
import HandS.Iter
import HandS.Dict
import HandS.DictTup
import HandS.SetKeys
import HandS.TupLen
import KE.KDictWalk
import PyProof.DictMoreH
import HandS.SortInts
import HandS.ExcValue
import HandS.ExcField
import HandS.ExcInit
import KE.KExcIs
import HandS.ClsMeth
import HandS.Text
import HandS.StrMore
import HandS.More
import KE.GoesMore
import KE.GoesEnum
import HandS.Head0
import HandS.Head1
import HandS.Head2
import HandS.HeadHook1
import HandS.HeadHook2
import HandS.EndTab
import PySem.Challenge.RW_thinbook_k62_sieves
set_option Elab.async false
set_option synthInstance.maxHeartbeats 400000
set_option synthInstance.maxSize 2000
set_option linter.all false
set_option maxRecDepth 100000
set_option maxHeartbeats 4000000
/-! the tables of code objects that may grow: which there are -/
namespace Dl
def tabT : List NdefX.NTab := [(65, fun _ _ => "sieve.<locals>.lets")]
end Dl

namespace Dl
open PySem PySem.Spec PyProof.Rows L2

/-! ### data -/
inductive D where
  | non | bl (b : Bool) | int (i : Int) | str (x : Str) | ty (n : String)
  | lst (xs : List D) | scr (xs : List D) | tup (xs : List D) | ins (C : Addr) (ns : List Str) (xs : List D) | adr (a : Addr)
  | dK (ks : List Key) (xs : List D) | dT (ks : List (List Key)) (xs : List D) | exn (C : Addr) (ns : List Str) (xs : List D)
  | clo (G : NdefX.NF) (fr : List Str) (xs : List D)
instance : Inhabited D := ⟨.non⟩
abbrev Frag := PySem.W.Frag
/-- an exception that was caught, of the class at C, its dict at d -/
def exT (a C : Addr) (d : Option Addr) : HO := .ext fun h => ∃ oe : PySem.Obj, h.get? a = some oe ∧ (oe.cls = .ref C ∧ oe.dict = d) ∧ ∃ vs, oe.data = .fields vs
/-- the cell at c, v in it -/
def CellO (c : Addr) (v : V) : HO := .ext fun h => ∃ u, RelV v u ∧ h.IsCell c (some u)
/-- a made function's cells and code object put in -/
def cloF (G : NdefX.NF) (cl : List (Str × Addr)) (c : Addr) : NdefX.NF := { G with cl := cl, c := c }
/-- the cells of a made function -/
def Cells (H : Hp) (fr : List Str) (cl : List (Str × Addr)) (vs : List V) : Prop := cl.map Prod.fst = fr ∧ fr.Nodup ∧ (cl.map Prod.snd).Nodup ∧ vs.length = cl.length ∧ ∀ (i : Nat) (q : Str × Addr) (v : V), cl[i]? = some q → vs[i]? = some v → H q.2 = some (CellO q.2 v)

mutual
inductive Rep (K : Frag) (H : Hp) : V → D → Prop
  | non : Rep K H .non .non
  | bl (b : Bool) : Rep K H (.bl b) (.bl b)
  | int (i : Int) : Rep K H (.int i) (.int i)
  | str (x : Str) : Rep K H (.str x) (.str x)
  | ty (n : String) : Rep K H (.ty n) (.ty n)
  | lst {a : Addr} {xs : List V} {ds : List D} : H a = some (.lst xs) → RepA K H xs ds → Rep K H (.ref a) (.lst ds)
  | scr {a : Addr} {xs : List V} {ds : List D} : SqL K H a xs → RepA K H xs ds → Rep K H (.ref a) (.scr ds)
  | tup {a : Addr} {xs : List V} {ds : List D} : H a = some (.tup xs) → RepA K H xs ds → Rep K H (.ref a) (.tup ds)
  | ins {a C dx : Addr} {vs : List (Str × V)} {ns : List Str} {xs : List V} {ds : List D} : H a = some (.ins C dx vs) → vs.map Prod.fst = ns → vs.map Prod.snd = xs → RepA K H xs ds → Rep K H (.ref a) (.ins C ns ds)
  | adr (a : Addr) : Rep K H (.ref a) (.adr a)
  | dK {a : Addr} {o : PySem.Obj} {vs : List (Key × V)} {ks : List Key} {xs : List V} {ds : List D} : H a = some (.frz o (.dK vs)) → vs.map Prod.fst = ks → vs.map Prod.snd = xs → RepA K H xs ds → Rep K H (.ref a) (.dK ks ds)
  | dT {a : Addr} {o : PySem.Obj} {vs : List (List Key × V)} {ks : List (List Key)} {xs : List V} {ds : List D} : H a = some (.frz o (.dT vs)) → vs.map Prod.fst = ks → vs.map Prod.snd = xs → RepA K H xs ds → Rep K H (.ref a) (.dT ks ds)
  | exn0 {a C : Addr} : H a = some (exT a C none) → Rep K H (.ref a) (.exn C [] [])
  | exn1 {a C d : Addr} {vs : List (Str × V)} {ns : List Str} {xs : List V} {ds : List D} : H a = some (exT a C (some d)) → H d = some (.xd vs) → vs.map Prod.fst = ns → vs.map Prod.snd = xs → RepA K H xs ds → Rep K H (.ref a) (.exn C ns ds)
  | clo {f c : Addr} {G : NdefX.NF} {cl : List (Str × Addr)} {fr : List Str} {vs : List V} {ds : List D} : H f = some (NdefX.FnO f (cloF G cl c)) → H c = some (LamX.CodeO c G.qual) → Cells H fr cl vs → RepA K H vs ds → Rep K H (.ref f) (.clo G fr ds)
inductive RepA (K : Frag) (H : Hp) : List V → List D → Prop
  | nil : RepA K H [] []
  | cons {v : V} {vs : List V} {d : D} {ds : List D} : Rep K H v d → RepA K H vs ds → RepA K H (v :: vs) (d :: ds)
end

theorem same_new {H : Hp} {p : Addr} {o : HO} (h : H p = none) : Same H (upd H p o) := fun b x e => by
  rw [upd_ne (ne_of_none e h)]
  exact e
mutual
theorem Rep.mono {K : Frag} {H H' : Hp} (e : Same H H') : ∀ (d : D) (v : V), Rep K H v d → Rep K H' v d
  | .non, _, h => by cases h; exact .non
  | .bl b, _, h => by cases h; exact .bl b
  | .int b, _, h => by cases h; exact .int b
  | .str b, _, h => by cases h; exact .str b
  | .ty b, _, h => by cases h; exact .ty b
  | .lst ds, _, h => by
    cases h with
    | lst a b => exact .lst (e _ _ a) (RepA.mono e ds _ b)
  | .scr ds, _, h => by
    cases h with
    | scr a b => exact .scr (e.seq a) (RepA.mono e ds _ b)
  | .tup ds, _, h => by
    cases h with
    | tup a b => exact .tup (e _ _ a) (RepA.mono e ds _ b)
  | .ins C ns ds, _, h => by
    cases h with
    | ins a b c d => exact .ins (e _ _ a) b c (RepA.mono e ds _ d)
  | .adr a, _, h => by cases h; exact .adr a
  | .dK ks ds, _, h => by
    cases h with
    | dK a b c d => exact .dK (e _ _ a) b c (RepA.mono e ds _ d)
  | .dT ks ds, _, h => by
    cases h with
    | dT a b c d => exact .dT (e _ _ a) b c (RepA.mono e ds _ d)
  | .exn C ns ds, _, h => by
    cases h with
    | exn0 a => exact .exn0 (e _ _ a)
    | exn1 a b c d f => exact .exn1 (e _ _ a) (e _ _ b) c d (RepA.mono e ds _ f)
  | .clo G fr ds, _, h => by
    cases h with
    | clo a b c d => exact .clo (e _ _ a) (e _ _ b) ⟨c.1, c.2.1, c.2.2.1, c.2.2.2.1, fun i q v h1 h2 => e _ _ (c.2.2.2.2 i q v h1 h2)⟩ (RepA.mono e ds _ d)
theorem RepA.mono {K : Frag} {H H' : Hp} (e : Same H H') : ∀ (ds : List D) (vs : List V), RepA K H vs ds → RepA K H' vs ds
  | [], _, h => by cases h; exact .nil
  | d :: ds, _, h => by
    cases h with
    | cons a b => exact .cons (Rep.mono e d _ a) (RepA.mono e ds _ b)
end
section
variable {K : Frag} {H H' : Hp} {v : V} {d : D} {vs : List V} {ds : List D}
theorem Rep.mo (h : Rep K H v d) (e : Same H H') : Rep K H' v d := Rep.mono e d v h
theorem RepA.mo (h : RepA K H vs ds) (e : Same H H') : RepA K H' vs ds := RepA.mono e ds vs h
theorem RepA.length : ∀ {ds : List D} {vs : List V}, RepA K H vs ds → vs.length = ds.length
  | [], _, h => by cases h; rfl
  | d :: ds, _, h => by
    cases h with
    | cons a b => rw [List.length_cons, List.length_cons, b.length]
theorem RepA.get : ∀ {ds : List D} {vs : List V} {i : Nat} {d : D}, RepA K H vs ds → ds[i]? = some d → ∃ v, vs[i]? = some v ∧ Rep K H v d
  | [], _, _, _, _, h => by simp at h
  | d :: ds, _, 0, _, h, e => by
    cases h with
    | cons a b =>
      simp at e; subst e
      exact ⟨_, rfl, a⟩
  | d :: ds, _, i + 1, _, h, e => by
    cases h with
    | cons a b =>
      obtain ⟨v, h1, h2⟩ := RepA.get (i := i) b (by simpa using e)
      exact ⟨v, by simpa using h1, h2⟩
theorem RepA.getV : ∀ {ds : List D} {vs : List V} {i : Nat} {v : V}, RepA K H vs ds → vs[i]? = some v → ∃ d, ds[i]? = some d ∧ Rep K H v d
  | [], _, _, _, h, e => by cases h; simp at e
  | d :: ds, _, 0, _, h, e => by
    cases h with
    | cons a b =>
      simp at e; subst e
      exact ⟨_, rfl, a⟩
  | d :: ds, _, i + 1, _, h, e => by
    cases h with
    | cons a b =>
      obtain ⟨d', h1, h2⟩ := RepA.getV (i := i) b (by simpa using e)
      exact ⟨d', by simpa using h1, h2⟩
theorem RepA.app : ∀ {ds es : List D} {vs us : List V}, RepA K H vs ds → RepA K H us es → RepA K H (vs ++ us) (ds ++ es)
  | [], _, _, _, h, g => by cases h; exact g
  | d :: ds, _, _, _, h, g => by
    cases h with
    | cons a b => exact .cons a (b.app g)
theorem RepA.one (h : Rep K H v d) : RepA K H [v] [d] := .cons h .nil
theorem RepA.take : ∀ {ds : List D} {vs : List V} (n : Nat), RepA K H vs ds → RepA K H (vs.take n) (ds.take n)
  | _, _, 0, _ => .nil
  | [], _, _ + 1, h => by cases h; exact .nil
  | d :: ds, _, n + 1, h => by
    cases h with
    | cons a b => exact .cons a (b.take n)
theorem RepA.drop : ∀ {ds : List D} {vs : List V} (n : Nat), RepA K H vs ds → RepA K H (vs.drop n) (ds.drop n)
  | _, _, 0, h => h
  | [], _, _ + 1, h => by cases h; exact .nil
  | d :: ds, _, n + 1, h => by
    cases h with
    | cons a b => exact b.drop n
theorem RepA.set : ∀ {ds : List D} {vs : List V} (n : Nat), RepA K H vs ds → Rep K H v d → RepA K H (vs.set n v) (ds.set n d)
  | [], _, _, h, g => by cases h; exact .nil
  | d :: ds, _, 0, h, g => by
    cases h with
    | cons a b => exact .cons g b
  | d :: ds, _, n + 1, h, g => by
    cases h with
    | cons a b => exact .cons a (b.set n g)
theorem RepA.bls : ∀ {is : List Bool} {vs : List V}, RepA K H vs (is.map D.bl) → vs = is.map V.bl
  | [], _, h => by cases h; rfl
  | i :: is, _, h => by
    have h' : RepA K H _ (D.bl i :: is.map D.bl) := h
    cases h' with
    | cons a b =>
      cases a
      rw [b.bls]; rfl
theorem RepA.strs : ∀ {is : List Str} {vs : List V}, RepA K H vs (is.map D.str) → vs = is.map V.str
  | [], _, h => by cases h; rfl
  | i :: is, _, h => by
    have h' : RepA K H _ (D.str i :: is.map D.str) := h
    cases h' with
    | cons a b =>
      cases a
      rw [b.strs]; rfl
theorem RepA.ofInts (is : List Int) : RepA K H (is.map V.int) (is.map D.int) := by
  induction is with
  | nil => exact .nil
  | cons i is ih => exact .cons (.int i) ih
end

/-! ### what may change -/
inductive Mu where
  | lst (ds : List D) | ins (C : Addr) (ns : List Str) (ds : List D) | dK (kvs : List (Key × D)) | dT (kvs : List (List Key × D)) | fK (kvs : List (Key × D)) | fT (kvs : List (List Key × D)) | fL (ds : List D)
abbrev Mem := List (Addr × Mu)
abbrev Mem.dom (M : Mem) : List Addr := M.map Prod.fst
/-- no table of code objects -/
def NTb (o : HO) : Prop := ∀ ps, o ≠ .tbl ps
theorem NTb.of {o : HO} (h : ∀ ps, o ≠ .tbl ps := by intro _ z; cases z) : NTb o := h
def MuRep (K : Frag) (H0 H : Hp) (a : Addr) : Mu → Prop
  | .lst ds => ∃ vs, H a = some (.lst vs) ∧ RepA K H0 vs ds
  | .fL ds => ∃ (o : PySem.Obj) (vs : List V), H a = some (.frz o (.lst vs)) ∧ RepA K H0 vs ds
  | .ins C ns ds => ∃ dx vs xs, H a = some (.ins C dx vs) ∧ vs.map Prod.fst = ns ∧ vs.map Prod.snd = xs ∧ RepA K H0 xs ds
  | .dK kvs => ∃ (vs : List (Key × V)) (xs : List V), H a = some (.dK vs) ∧ vs.map Prod.fst = kvs.map Prod.fst ∧ vs.map Prod.snd = xs ∧ RepA K H0 xs (kvs.map Prod.snd)
  | .dT kvs => ∃ (vs : List (List Key × V)) (xs : List V), H a = some (.dT vs) ∧ vs.map Prod.fst = kvs.map Prod.fst ∧ vs.map Prod.snd = xs ∧ RepA K H0 xs (kvs.map Prod.snd)
  | .fK kvs => ∃ (o : PySem.Obj) (vs : List (Key × V)) (xs : List V), H a = some (.frz o (.dK vs)) ∧ vs.map Prod.fst = kvs.map Prod.fst ∧ vs.map Prod.snd = xs ∧ RepA K H0 xs (kvs.map Prod.snd)
  | .fT kvs => ∃ (o : PySem.Obj) (vs : List (List Key × V)) (xs : List V), H a = some (.frz o (.dT vs)) ∧ vs.map Prod.fst = kvs.map Prod.fst ∧ vs.map Prod.snd = xs ∧ RepA K H0 xs (kvs.map Prod.snd)
theorem MuRep.mono {K : Frag} {H0 H0' H H' : Hp} {a : Addr} : ∀ {m : Mu}, MuRep K H0 H a m → Same H0 H0' → (∀ o, H a = some o → NTb o → H' a = some o) → MuRep K H0' H' a m
  | .lst ds, ⟨vs, h, r⟩, e, k => ⟨vs, k _ h NTb.of, r.mo e⟩
  | .fL ds, ⟨o, vs, h, r⟩, e, k => ⟨o, vs, k _ h NTb.of, r.mo e⟩
  | .ins C ns ds, ⟨dx, vs, xs, h, h2, h3, r⟩, e, k => ⟨dx, vs, xs, k _ h NTb.of, h2, h3, r.mo e⟩
  | .dK kvs, ⟨vs, xs, h, h2, h3, r⟩, e, k => ⟨vs, xs, k _ h NTb.of, h2, h3, r.mo e⟩
  | .dT kvs, ⟨vs, xs, h, h2, h3, r⟩, e, k => ⟨vs, xs, k _ h NTb.of, h2, h3, r.mo e⟩
  | .fK kvs, ⟨o, vs, xs, h, h2, h3, r⟩, e, k => ⟨o, vs, xs, k _ h NTb.of, h2, h3, r.mo e⟩
  | .fT kvs, ⟨o, vs, xs, h, h2, h3, r⟩, e, k => ⟨o, vs, xs, k _ h NTb.of, h2, h3, r.mo e⟩
theorem MuRep.there {K : Frag} {H0 H : Hp} {a : Addr} : ∀ {m : Mu}, MuRep K H0 H a m → ∃ o, H a = some o
  | .lst ds, ⟨vs, h, _⟩ => ⟨_, h⟩
  | .fL ds, ⟨o, vs, h, _⟩ => ⟨_, h⟩
  | .ins C ns ds, ⟨dx, vs, xs, h, _⟩ => ⟨_, h⟩
  | .dK kvs, ⟨vs, xs, h, _⟩ => ⟨_, h⟩
  | .dT kvs, ⟨vs, xs, h, _⟩ => ⟨_, h⟩
  | .fK kvs, ⟨o, vs, xs, h, _⟩ => ⟨_, h⟩
  | .fT kvs, ⟨o, vs, xs, h, _⟩ => ⟨_, h⟩
/-- a thing, and no tuple (these never change) -/
def NT : Option HO → Prop
  | none => False
  | some (.tup _) => False
  | some (.tbl _) => False
  | some (.ext _) => False
  | some _ => True
theorem NT.ex {o : Option HO} (h : NT o) : ∃ u, o = some u := by
  cases o with
  | none => exact h.elim
  | some u => exact ⟨u, rfl⟩
theorem NT.ntb {o : HO} (h : NT (some o)) : NTb o := fun ps z => by subst z; exact h
theorem MuRep.nt {K : Frag} {H0 H : Hp} {a : Addr} : ∀ {m : Mu}, MuRep K H0 H a m → NT (H a)
  | .lst ds, ⟨vs, h, _⟩ => by rw [h]; exact trivial
  | .fL ds, ⟨o, vs, h, _⟩ => by rw [h]; exact trivial
  | .ins C ns ds, ⟨dx, vs, xs, h, _⟩ => by rw [h]; exact trivial
  | .dK kvs, ⟨vs, xs, h, _⟩ => by rw [h]; exact trivial
  | .dT kvs, ⟨vs, xs, h, _⟩ => by rw [h]; exact trivial
  | .fK kvs, ⟨o, vs, xs, h, _⟩ => by rw [h]; exact trivial
  | .fT kvs, ⟨o, vs, xs, h, _⟩ => by rw [h]; exact trivial
/-- what stood stays, but for the tables -/
def Sm (H H' : Hp) : Prop := ∀ b o, H b = some o → NTb o → H' b = some o
def Tb (H H' : Hp) : Prop := ∀ b ps, H b = some (.tbl ps) → H' b = some (.tbl ps)
def TB (H0 H : Hp) : Prop := (∀ p ∈ tabT, H0 p.1 = none ∧ NdefX.TabN H p.1 p.2) ∧ ∀ b ps, H0 b ≠ some (.tbl ps)
theorem Same.sm {H H' : Hp} (e : ∀ b o, H b = some o → H' b = some o) : Sm H H' := fun b o h _ => e b o h
theorem Sm.refl (H : Hp) : Sm H H := fun _ _ h _ => h
theorem Sm.trans {H H1 H2 : Hp} (a : Sm H H1) (b : Sm H1 H2) : Sm H H2 := fun c o h n => b c o (a c o h n) n
/-- what is known by what is true of its object stays -/
def Xt (H H' : Hp) : Prop := ∀ c φ, H c = some (.ext φ) → H' c = some (.ext φ)
theorem Sm.xt {H H' : Hp} (e : Sm H H') : Xt H H' := fun c φ h => e c _ h .of
theorem tabn_keep {H H' : Hp} {P : Addr} {nm : Nat → Nat → Str} (t : NdefX.TabN H P nm) (k : ∀ ps, H P = some (.tbl ps) → H' P = some (.tbl ps)) (e : Xt H H') : NdefX.TabN H' P nm := by
  obtain ⟨ps, h1, h2, h3⟩ := t
  refine ⟨ps, k _ h1, h2, fun pos cv hc => ?_⟩
  obtain ⟨c, e1, e2⟩ := h3 pos cv hc
  exact ⟨c, e1, e _ _ e2⟩
theorem TB.keep {H0 H H0' H' : Hp} (t : TB H0 H) (n : ∀ b ps, H0 b = none → H b = some (.tbl ps) → H0' b = none) (k : ∀ b ps, H b = some (.tbl ps) → H' b = some (.tbl ps)) (e : Xt H H') (z : ∀ b ps, H0' b = some (.tbl ps) → H0 b = some (.tbl ps)) : TB H0' H' := ⟨fun p hp => by
  obtain ⟨a, b⟩ := t.1 p hp
  obtain ⟨ps, h1, _⟩ := id b
  exact ⟨n _ ps a h1, tabn_keep b (k p.1) e⟩, fun b ps y => t.2 b ps (z b ps y)⟩
/-- neither a table nor known by what is true -/
def NX (o : Option HO) : Prop := (∀ ps, o ≠ some (.tbl ps)) ∧ ∀ φ, o ≠ some (.ext φ)
theorem NX.of {o : Option HO} {u : HO} (h : o = some u) (n : ∀ ps, u ≠ .tbl ps := by intro _ z; cases z) (m : ∀ φ, u ≠ .ext φ := by intro _ z; cases z) : NX o := ⟨fun ps z => n ps (by rw [h] at z; exact Option.some.inj z), fun φ z => m φ (by rw [h] at z; exact Option.some.inj z)⟩
theorem TB.chg {H0 H : Hp} (t : TB H0 H) {a : Addr} (h : NX (H a)) (o : HO) : TB H0 (upd H a o) :=
  t.keep (fun _ _ n _ => n) (fun b ps e => by rw [upd_ne (fun z => h.1 ps (by rw [← z]; exact e))]; exact e) (fun c φ e => by rw [upd_ne (fun z => h.2 φ (by rw [← z]; exact e))]; exact e) fun _ _ z => z
theorem upd_self {H : Hp} {a : Addr} {o : HO} (h : H a = some o) : upd H a o = H := by
  funext b
  unfold upd
  by_cases e : b = a
  · rw [if_pos e, e, h]
  · rw [if_neg e]
theorem TB.back {H0 H : Hp} {a : Addr} {o u : HO} (t : TB H0 (upd H a u)) (h : H a = some o) (n : ∀ ps, u ≠ .tbl ps := by intro _ z; cases z) (m : ∀ φ, u ≠ .ext φ := by intro _ z; cases z) : TB H0 H := by
  have := t.chg (a := a) (NX.of upd_same n m) o
  rw [upd_upd, upd_self h] at this
  exact this
theorem upd_tb {H : Hp} {a b : Addr} {o : HO} {ps : Array Value} (n : ∀ ps, o ≠ .tbl ps) (z : upd H a o b = some (.tbl ps)) : H b = some (.tbl ps) := by
  unfold upd at z
  split at z
  · exact absurd (Option.some.inj z) (n ps)
  · exact z
theorem TB.same {H0 H H2 : Hp} (t : TB H0 H) (e : ∀ b o, H b = some o → H2 b = some o) : TB H0 H2 := t.keep (fun _ _ n _ => n) (fun b ps h => e _ _ h) (Same.sm e).xt fun _ _ z => z
theorem TB.all {H0 H H0' : Hp} (t : TB H0 H) (n : ∀ b, H0 b = none → (∃ ps, H b = some (.tbl ps)) → H0' b = none) (z : ∀ b ps, H0' b = some (.tbl ps) → H0 b = some (.tbl ps)) : TB H0' H := t.keep (fun b ps a e => n b a ⟨ps, e⟩) (fun _ _ e => e) (fun _ _ e => e) z
theorem TB.frz {H0 H : Hp} (t : TB H0 H) {w : Addr} {u u' : HO} (h : H w = some u) (n : ∀ ps, u ≠ .tbl ps := by intro _ z; cases z) (n' : ∀ ps, u' ≠ .tbl ps := by intro _ z; cases z) : TB (upd H0 w u') H := t.all (fun b nn ⟨ps, e⟩ => by
  rw [upd_ne (fun z => n ps (by rw [z, h] at e; exact Option.some.inj e))]; exact nn) fun b ps z => upd_tb n' z
theorem NX.stay {H : Hp} {a b : Addr} (n : NX (H a)) {ps : Array Value} (e : H b = some (.tbl ps)) (o : HO) : upd H a o b = some (.tbl ps) := by
  rw [upd_ne (fun z => n.1 ps (by rw [← z]; exact e))]; exact e
theorem MuRep.nx {K : Frag} {H0 H : Hp} {a : Addr} : ∀ {m : Mu}, MuRep K H0 H a m → NX (H a)
  | .lst ds, ⟨vs, h, _⟩ => .of h
  | .fL ds, ⟨o, vs, h, _⟩ => .of h
  | .ins C ns ds, ⟨dx, vs, xs, h, _⟩ => .of h
  | .dK kvs, ⟨vs, xs, h, _⟩ => .of h
  | .dT kvs, ⟨vs, xs, h, _⟩ => .of h
  | .fK kvs, ⟨o, vs, xs, h, _⟩ => .of h
  | .fT kvs, ⟨o, vs, xs, h, _⟩ => .of h
/-- the heap: H0 what never changes again, M what may -/
structure Ht (K : Frag) (H0 H : Hp) (M : Mem) : Prop where
  ex : Same H0 H
  nd : M.dom.Nodup
  mem : ∀ p ∈ M, H0 p.1 = none ∧ MuRep K H0 H p.1 p.2
  tb : TB H0 H
/-- pure steps -/
structure Pu (H0 H H0' H' : Hp) : Prop where
  e0 : Same H0 H0'
  e : Sm H H'
  ex : Same H0' H'
  new : ∀ a, H0 a = none → NT (H a) → H0' a = none
  there : ∀ b, H' b = none → H b = none
  tb : TB H0 H → TB H0' H'
/-- any steps -/
structure Go (H0 H : Hp) (M : Mem) (H0' H' : Hp) (M' : Mem) : Prop where
  e0 : Same H0 H0'
  e : ∀ b o, H b = some o → b ∉ M.dom → NTb o → H' b = some o
  new : ∀ a, H0 a = none → NT (H a) → a ∉ M.dom → H0' a = none
  dom : ∀ a ∈ M'.dom, a ∈ M.dom ∨ H a = none
  there : ∀ b, H' b = none → H b = none
section
variable {K : Frag} {H0 H H0' H' H0s Hs : Hp} {M M' Ms : Mem}
theorem Pu.refl (h : Same H0 H) : Pu H0 H H0 H := ⟨Same.refl _, Sm.refl _, h, fun _ h _ => h, fun _ e => e, id⟩
theorem NT.keep {H H' : Hp} {a : Addr} (h : NT (H a)) (k : ∀ o, H a = some o → NTb o → H' a = some o) : NT (H' a) := by
  obtain ⟨u, e⟩ := h.ex
  have n : NTb u := NT.ntb (by rw [← e]; exact h)
  rw [k _ e n, ← e]; exact h
theorem Pu.free (p : Pu H0 H H0' H') {a : Addr} (h : H' a = none) : H a = none := p.there a h
theorem Go.free (p : Go H0 H M H0' H' M') {a : Addr} (hm : a ∉ M.dom) (h : H' a = none) : H a = none := p.there a h
theorem Pu.k (p : Pu H0 H H0' H') {a : Addr} {o : HO} (h : H a = some o) (n : ∀ ps, o ≠ .tbl ps := by intro _ z; cases z) : H' a = some o := p.e _ _ h n
theorem Pu.trans (p : Pu H0 H H0' H') (q : Pu H0' H' H0s Hs) : Pu H0 H H0s Hs :=
  ⟨p.e0.trans q.e0, p.e.trans q.e, q.ex, fun a h1 h2 => q.new a (p.new a h1 h2) (h2.keep fun o e n => p.e a o e n), fun b e => p.there b (q.there b e), fun t => q.tb (p.tb t)⟩
theorem Ht.pu (h : Ht K H0 H M) (p : Pu H0 H H0' H') : Ht K H0' H' M := ⟨p.ex, h.nd, fun q hq => by
  obtain ⟨h1, h2⟩ := h.mem q hq
  exact ⟨p.new _ h1 h2.nt, h2.mono p.e0 fun o e n => p.e _ _ e n⟩, p.tb h.tb⟩
theorem Go.refl : Go H0 H M H0 H M := ⟨Same.refl _, fun _ _ e _ _ => e, fun _ h _ _ => h, fun _ h => .inl h, fun _ e => e⟩
theorem Pu.go (p : Pu H0 H H0' H') : Go H0 H M H0' H' M := ⟨p.e0, fun b o e _ n => p.e b o e n, fun a h1 h2 _ => p.new a h1 h2, fun _ h => .inl h, p.there⟩
theorem Go.trans (p : Go H0 H M H0' H' M') (q : Go H0' H' M' H0s Hs Ms) : Go H0 H M H0s Hs Ms where
  e0 := p.e0.trans q.e0
  e := fun b o e hb n => q.e b o (p.e b o e hb n) (fun z => (p.dom b z).elim hb fun z => by rw [e] at z; cases z) n
  new := fun a h1 h2 h3 => by
    obtain ⟨o, e⟩ := h2.ex
    exact q.new a (p.new a h1 h2 h3) (h2.keep fun o e n => p.e a o e h3 n) fun z => (p.dom a z).elim h3 fun z => by rw [e] at z; cases z
  dom := fun a ha => by
    rcases q.dom a ha with h | h
    · exact p.dom a h
    · by_cases hm : a ∈ M.dom
      · exact .inl hm
      · exact .inr (p.free hm h)
  there := fun b e => p.there b (q.there b e)
theorem Go.pu (g : Go H0 H [] H0' H' M') (h : Ht K H0' H' M') : Pu H0 H H0' H' := ⟨g.e0, fun b o e n => g.e b o e (by simp) n, h.ex, fun a h1 h2 => g.new a h1 h2 (by simp), g.there, fun _ => h.tb⟩
theorem Ht.emp (h : Same H0 H) (t : TB H0 H) : Ht K H0 H [] := ⟨h, List.nodup_nil, fun _ z => absurd z (by simp), t⟩
/-- a step that leaves the tables as they are -/
theorem TB.new {H0 H : Hp} (t : TB H0 H) {p : Addr} {o : HO} (hp : H p = none) : TB H0 (upd H p o) := t.keep (fun _ _ n _ => n) (fun b ps e => same_new hp _ _ e) (Same.sm (same_new hp)).xt fun _ _ z => z
theorem TB.new2 {H0 H : Hp} (t : TB H0 H) {p : Addr} {o o' : HO} (hp : H p = none) (n' : ∀ ps, o' ≠ .tbl ps := by intro _ z; cases z) : TB (upd H0 p o') (upd H p o) := t.keep (fun b ps n e => by rw [upd_ne (fun z => by rw [z, hp] at e; cases e)]; exact n) (fun b ps e => same_new hp _ _ e) (Same.sm (same_new hp)).xt fun b ps z => upd_tb n' z
theorem Ht.free (h : Ht K H0 H M) {p : Addr} (hp : H p = none) : H0 p = none ∧ p ∉ M.dom := by
  refine ⟨h.ex.free hp, fun z => ?_⟩
  obtain ⟨q, hq, rfl⟩ := List.mem_map.mp z
  obtain ⟨o, ho⟩ := (h.mem q hq).2.there
  rw [hp] at ho; cases ho
/-- a new thing that will not change -/
theorem Pu.new1 (h : Same H0 H) {p : Addr} (hp : H p = none) (o : HO) (n' : ∀ ps, o ≠ .tbl ps := by intro _ z; cases z) : Pu H0 H (upd H0 p o) (upd H p o) := by
  have h0 := h.free hp
  refine ⟨same_new h0, (Same.sm (same_new hp)), fun b u e => ?_, fun a h1 h2 => ?_, fun b e => NdefX.upd_none e, fun t => t.new2 hp n'⟩
  · by_cases hb : b = p
    · subst hb; rw [upd_same] at e ⊢; exact e
    · rw [upd_ne hb] at e ⊢; exact h _ _ e
  · obtain ⟨u, e⟩ := h2.ex
    rw [upd_ne (fun z => by rw [z, hp] at e; cases e)]; exact h1
/-- a new thing that may change -/
theorem Go.new1 {p : Addr} (hp : H p = none) (o : HO) {m : Mu} : Go H0 H M H0 (upd H p o) ((p, m) :: M) := by
  refine ⟨Same.refl _, fun b u e _ _ => same_new hp b u e, fun _ h _ _ => h, fun a ha => ?_, fun b e => NdefX.upd_none e⟩
  rcases List.mem_cons.mp (show a ∈ p :: M.dom from ha) with rfl | ha
  · exact .inr hp
  · exact .inl ha
theorem Ht.new1 (h : Ht K H0 H M) {p : Addr} (hp : H p = none) {o : HO} {m : Mu} (hm : ∀ H', H' p = some o → MuRep K H0 H' p m) : Ht K H0 (upd H p o) ((p, m) :: M) := by
  obtain ⟨h0, hd⟩ := h.free hp
  refine ⟨h.ex.trans (same_new hp), ?_, fun q hq => ?_, h.tb.new hp⟩
  · show (p :: M.dom).Nodup
    exact List.nodup_cons.mpr ⟨hd, h.nd⟩
  · rcases List.mem_cons.mp hq with rfl | hq
    · exact ⟨h0, hm _ upd_same⟩
    · obtain ⟨h1, h2⟩ := h.mem q hq
      exact ⟨h1, h2.mono (Same.refl _) fun o e _ => same_new hp _ _ e⟩
/-- the thing at a changes -/
def Mem.put (M : Mem) (a : Addr) (m : Mu) : Mem := M.map fun p => if p.1 = a then (a, m) else p
end
end Dl

namespace Dl
open PySem PySem.Spec PyProof.Rows L2
/-! ### slots, exceptions, what is wanted -/
abbrev Ro := List (Option D)
def Sl (K : Frag) (H0 : Hp) (σ : L2.St) (ρ : Ro) : Prop := σ.length = ρ.length ∧ ∀ (i : Nat) (d : D), ρ[i]? = some (some d) → ∃ v, σ[i]? = some (some v) ∧ Rep K H0 v d
abbrev XD := Value → List (Str × D) → Ro → Mem → Prop
abbrev kx0 : XD := fun _ _ _ _ => False
def XRep (K : Frag) (H0 H : Hp) (dd : Option Addr) (fs : List (Str × D)) : Prop :=
  (dd = none ∧ fs = []) ∨ fs ≠ [] ∧ ∃ (d : Addr) (vs : List (Str × V)) (xs : List V), dd = some d ∧ H0 d = some (.xd vs) ∧ vs.map Prod.fst = fs.map Prod.fst ∧ vs.map Prod.snd = xs ∧ RepA K H0 xs (fs.map Prod.snd)
inductive Out where
  | nx (ρ : Ro) | bk (ρ : Ro) | ct (ρ : Ro) | rt (d : D)
section
variable {K : Frag} {H0 H0' : Hp} {σ : L2.St} {ρ : Ro}
theorem Sl.mo (h : Sl K H0 σ ρ) (e : Same H0 H0') : Sl K H0' σ ρ := ⟨h.1, fun i d q => let ⟨v, a, b⟩ := h.2 i d q; ⟨v, a, b.mo e⟩⟩
theorem Sl.set (h : Sl K H0 σ ρ) {v : V} {d : D} (r : Rep K H0 v d) (i : Nat) : Sl K H0 (σ.set i (some v)) (ρ.set i (some d)) := by
  refine ⟨by rw [List.length_set, List.length_set]; exact h.1, fun j d' e => ?_⟩
  by_cases hj : i = j
  · subst hj
    by_cases hi : i < ρ.length
    · rw [List.getElem?_set_self hi] at e
      cases e
      exact ⟨v, List.getElem?_set_self (by rw [h.1]; exact hi), r⟩
    · rw [List.getElem?_eq_none (by rw [List.length_set]; omega)] at e
      cases e
  · rw [List.getElem?_set_ne hj] at e ⊢
    exact h.2 j d' e
/-- slots forgotten -/
def Fgt (ρ ρ' : Ro) : Prop := ρ.length = ρ'.length ∧ ∀ (i : Nat) (d : D), ρ'[i]? = some (some d) → ρ[i]? = some (some d)
theorem Sl.fgt {ρ' : Ro} (h : Sl K H0 σ ρ) (f : Fgt ρ ρ') : Sl K H0 σ ρ' := ⟨h.1.trans f.1, fun i d e => h.2 i d (f.2 i d e)⟩
end
section
variable (X : Cx)
def sE (e : Expr) : TE := fun σ H Q => ∀ pins s, Inv X pins σ H s → wpAny (model X.prog X.w) X.A (eval e X.env) (EP X pins σ Q) X.xe s
def sT (e : Expr) : TT := fun σ H Q => ∀ pins s, Inv X pins σ H s → wpAny (model X.prog X.w) X.A (isTrue e X.env (eval e X.env)) (TP X pins σ Q) X.xe s
def sW (e : Expr) : TT := fun σ H Q => ∀ whole pins s, Inv X pins σ H s → wpAny (model X.prog X.w) X.A (isTrue e X.env whole) (TP X pins σ Q) X.xe s
def sA (es : List Expr) : TA := fun σ H Q => ∀ pos pins s, Inv X pins σ H s → wpAny (model X.prog X.w) X.A (spliced (backTo pos (starEach es X.env))) (AP X pins σ Q) X.xe s
def sS (st : Stmt) : TS := fun D σ H => ∀ pins s, Inv X pins σ H s → wpAny (model X.prog X.w) X.A (exec st X.env) (SP X pins D) X.xe s
def sSs (sts : List Stmt) : TS := fun D σ H => ∀ pins s, Inv X pins σ H s → wpAny (model X.prog X.w) X.A (execs sts X.env) (SP X pins D) X.xe s
def sG (tg : Expr) : TG := fun v σ H Q => ∀ pins s u, Inv X pins σ H s → RelV v u → wpAny (model X.prog X.w) X.A (assign tg X.env u) (fun _ s' => ∃ σ' H', Inv X pins σ' H' s' ∧ Q σ' H') X.xe s
def sGs (ts : List Expr) : TGs := fun vs σ H Q => ∀ pins s us, Inv X pins σ H s → Vals vs us → wpAny (model X.prog X.w) X.A (assignInOrder ((assignEach ts X.env).map (·.2)) us) (fun _ s' => ∃ σ' H', Inv X pins σ' H' s' ∧ Q σ' H') X.xe s
def sI (tg it : Expr) : TI := fun σ H R => ∀ pins s, Inv X pins σ H s → wpAny (model X.prog X.w) X.A (eval it X.env) (fun v s1 => wpAny (model X.prog X.w) X.A (pyIter v) (PIE X pins σ tg R) X.xe s1) X.xe s
def sTs (ifs : List Expr) : TT := fun σ H Q => ∀ pins s, Inv X pins σ H s → wpAny (model X.prog X.w) X.A (forIn ifs true fun c r => if r = true then do let ok ← isTrue c X.env (eval c X.env); pure (ForInStep.yield ok) else pure (ForInStep.yield r)) (TP X pins σ Q) X.xe s
end
section
variable {X : Cx}
theorem pe_s (e : Expr) : PE X e (sE X e) := ⟨fun pins s _ _ _ I h => h pins s I⟩
theorem pt_s (e : Expr) : PT X e (sT X e) := ⟨fun pins s _ _ _ I h => h pins s I⟩
theorem pw_s (e : Expr) : PW X e (sW X e) := ⟨fun w pins s _ _ _ I h => h w pins s I⟩
theorem pa_s (e : List Expr) : PA X e (sA X e) := ⟨fun pos pins s _ _ _ I h => h pos pins s I⟩
theorem ps_s (e : Stmt) : PS X e (sS X e) := ⟨fun pins s _ _ _ I h => h pins s I⟩
theorem pss_s (e : List Stmt) : PSs X e (sSs X e) := ⟨fun pins s _ _ _ I h => h pins s I⟩
theorem pg_s (e : Expr) : PG X e (sG X e) := ⟨fun pins s _ _ _ u _ I r h => h pins s u I r⟩
theorem pgs_s (e : List Expr) : PGs X e (sGs X e) := ⟨fun pins s _ _ _ u _ I r h => h pins s u I r⟩
theorem pi_s (tg it : Expr) : PI X tg it (sI X tg it) := ⟨fun pins s _ _ _ I h => h pins s I⟩
variable {σ : L2.St} {H : Hp}
theorem sE.by {e : Expr} {t : TE} {Q : VK} (p : PE X e t) (h : t σ H Q) : sE X e σ H Q := fun pins s I => p.run pins s σ H Q I h
theorem sT.by {e : Expr} {t : TT} {Q : Bool → Hp → Prop} (p : PT X e t) (h : t σ H Q) : sT X e σ H Q := fun pins s I => p.run pins s σ H Q I h
theorem sW.by {e : Expr} {t : TT} {Q : Bool → Hp → Prop} (p : PW X e t) (h : t σ H Q) : sW X e σ H Q := fun w pins s I => p.run w pins s σ H Q I h
theorem sA.by {e : List Expr} {t : TA} {Q : List V → Hp → Prop} (p : PA X e t) (h : t σ H Q) : sA X e σ H Q := fun pos pins s I => p.run pos pins s σ H Q I h
theorem sS.by {e : Stmt} {t : TS} {D : Ends} (p : PS X e t) (h : t D σ H) : sS X e D σ H := fun pins s I => p.run pins s σ H D I h
theorem sSs.by {e : List Stmt} {t : TS} {D : Ends} (p : PSs X e t) (h : t D σ H) : sSs X e D σ H := fun pins s I => p.run pins s σ H D I h
theorem sG.by {e : Expr} {t : TG} {v : V} {Q : L2.St → Hp → Prop} (p : PG X e t) (h : t v σ H Q) : sG X e v σ H Q := fun pins s u I r => p.run pins s σ H v u Q I r h
theorem sGs.by {e : List Expr} {t : TGs} {v : List V} {Q : L2.St → Hp → Prop} (p : PGs X e t) (h : t v σ H Q) : sGs X e v σ H Q := fun pins s u I r => p.run pins s σ H v u Q I r h
theorem sI.by {tg it : Expr} {t : TI} {R : It → Hp → Prop} (p : PI X tg it t) (h : t σ H R) : sI X tg it σ H R := fun pins s I => p.run pins s σ H R I h
theorem sTs.by {e : List Expr} {t : TT} {Q : Bool → Hp → Prop} (p : PTs X e t) (h : t σ H Q) : sTs X e σ H Q := fun pins s I => p.run pins s σ H Q I h
/-- what is wanted of an exception -/
def Hx (X : Cx) (W : WX) (H0 H : Hp) (M : Mem) (kx : XD) : Prop :=
  ∀ cls dd σ' H' H0' fs ρ' M', Go H0 H M H0' H' M' → Ht X.K H0' H' M' → Sl X.K H0' σ' ρ' → XRep X.K H0' H' dd fs → kx cls fs ρ' M' → W cls dd σ' H'
theorem Hx.step {W : WX} {H0 H H0' H' : Hp} {M M' : Mem} {kx : XD} (h : Hx X W H0 H M kx) (g : Go H0 H M H0' H' M') : Hx X W H0' H' M' kx :=
  fun cls dd σ' H2 H02 fs ρ' M2 g2 => h cls dd σ' H2 H02 fs ρ' M2 (g.trans g2)
theorem Hx.pu {W : WX} {H0 H H0' H' : Hp} {M : Mem} {kx : XD} (h : Hx X W H0 H M kx) (p : Pu H0 H H0' H') : Hx X W H0' H' M kx := h.step p.go
theorem Hx.none {W : WX} {H0 H : Hp} {M : Mem} : Hx X W H0 H M kx0 := fun _ _ _ _ _ _ _ _ _ _ _ _ z => z.elim
end
/-! ### the judgements -/
/-- a value, nothing changed -/
def DV (X : Cx) (kx : XD) (e : Expr) (ρ : Ro) (M : Mem) (d : D) : Prop :=
  ∀ (σ : L2.St) (H H0 : Hp), Ht X.K H0 H M → Sl X.K H0 σ ρ → ∀ (W : WX), Takes X W → Hx X W H0 H M kx → ∀ (Q : VK), (∀ v H' H0', Pu H0 H H0' H' → Rep X.K H0' v d → Q v H') → sE X e σ H Q
/-- a value, something changed perhaps -/
def DE (X : Cx) (kx : XD) (e : Expr) (ρ : Ro) (M : Mem) (k : D → Mem → Prop) : Prop :=
  ∀ (σ : L2.St) (H H0 : Hp), Ht X.K H0 H M → Sl X.K H0 σ ρ → ∀ (W : WX), Takes X W → Hx X W H0 H M kx → ∀ (Q : VK), (∀ v H' H0' d M', Go H0 H M H0' H' M' → Ht X.K H0' H' M' → Rep X.K H0' v d → k d M' → Q v H') → sE X e σ H Q
def DA (X : Cx) (kx : XD) (es : List Expr) (ρ : Ro) (M : Mem) (ds : List D) : Prop :=
  ∀ (σ : L2.St) (H H0 : Hp), Ht X.K H0 H M → Sl X.K H0 σ ρ → ∀ (W : WX), Takes X W → Hx X W H0 H M kx → ∀ (Q : List V → Hp → Prop), (∀ vs H' H0', Pu H0 H H0' H' → RepA X.K H0' vs ds → Q vs H') → sA X es σ H Q
def DT (X : Cx) (kx : XD) (e : Expr) (ρ : Ro) (M : Mem) (b : Bool) : Prop :=
  ∀ (σ : L2.St) (H H0 : Hp), Ht X.K H0 H M → Sl X.K H0 σ ρ → ∀ (W : WX), Takes X W → Hx X W H0 H M kx → ∀ (Q : Bool → Hp → Prop), (∀ H' H0', Pu H0 H H0' H' → Q b H') → sT X e σ H Q
def DW (X : Cx) (kx : XD) (e : Expr) (ρ : Ro) (M : Mem) (b : Bool) : Prop :=
  ∀ (σ : L2.St) (H H0 : Hp), Ht X.K H0 H M → Sl X.K H0 σ ρ → ∀ (W : WX), Takes X W → Hx X W H0 H M kx → ∀ (Q : Bool → Hp → Prop), (∀ H' H0', Pu H0 H H0' H' → Q b H') → sW X e σ H Q
def DTs (X : Cx) (kx : XD) (e : List Expr) (ρ : Ro) (M : Mem) (b : Bool) : Prop :=
  ∀ (σ : L2.St) (H H0 : Hp), Ht X.K H0 H M → Sl X.K H0 σ ρ → ∀ (W : WX), Takes X W → Hx X W H0 H M kx → ∀ (Q : Bool → Hp → Prop), (∀ H' H0', Pu H0 H H0' H' → Q b H') → sTs X e σ H Q
/-- the slots ts alone differ -/
def But (ts : List Nat) (σ σ' : L2.St) : Prop := ∀ vs : List Nat, (∀ i ∈ ts, i ∈ vs) → wipe σ' vs = wipe σ vs
theorem But.refl {ts : List Nat} {σ : L2.St} : But ts σ σ := fun _ _ => rfl
theorem But.mono {ts us : List Nat} {σ σ' : L2.St} (h : But ts σ σ') (i : ∀ x ∈ ts, x ∈ us) : But us σ σ' := fun vs q => h vs fun x hx => q x (i x hx)
theorem But.trans {ts : List Nat} {σ σ' τ : L2.St} (h : But ts σ σ') (g : But ts σ' τ) : But ts σ τ := fun vs q => (g vs q).trans (h vs q)
theorem wipe_at (σ : L2.St) : ∀ (vs : List Nat) (j : Nat), (wipe σ vs)[j]? = if j ∈ vs ∧ j < σ.length then some none else σ[j]?
  | [], j => by simp [wipe]
  | v :: vs, j => by
    unfold wipe
    by_cases hj : v = j
    · subst hj
      by_cases hl : v < σ.length
      · rw [List.getElem?_set_self (by rw [wipe_length]; exact hl), if_pos ⟨List.mem_cons_self, hl⟩]
      · rw [if_neg (fun z => hl z.2), List.getElem?_eq_none (by rw [List.length_set, wipe_length]; omega), List.getElem?_eq_none (by omega)]
    · rw [List.getElem?_set_ne hj, wipe_at σ vs j]
      by_cases h : j ∈ vs ∧ j < σ.length
      · rw [if_pos h, if_pos ⟨List.mem_cons_of_mem _ h.1, h.2⟩]
      · rw [if_neg h, if_neg fun z => h ⟨(List.mem_cons.mp z.1).resolve_left (Ne.symm hj), z.2⟩]
theorem But.set {ts : List Nat} {σ : L2.St} {i : Nat} {y : Option V} (h : i ∈ ts) : But ts σ (σ.set i y) := fun vs q => by
  refine List.ext_getElem? fun j => ?_
  rw [wipe_at, wipe_at, List.length_set]
  by_cases hj : j ∈ vs ∧ j < σ.length
  · rw [if_pos hj, if_pos hj]
  · rw [if_neg hj, if_neg hj]
    by_cases e : i = j
    · subst e
      have hl : ¬ i < σ.length := fun z => hj ⟨q i h, z⟩
      rw [List.getElem?_eq_none (by rw [List.length_set]; omega), List.getElem?_eq_none (by omega)]
    · rw [List.getElem?_set_ne e]
/-- a target takes a value -/
def DG (X : Cx) (tg : Expr) (ts : List Nat) (d : D) (ρ ρ' : Ro) : Prop :=
  ∀ (σ : L2.St) (H H0 : Hp) (v : V), Same H0 H → Sl X.K H0 σ ρ → Rep X.K H0 v d → ∀ (Q : L2.St → Hp → Prop), (∀ σ', Sl X.K H0 σ' ρ' → But ts σ σ' → Q σ' H) → sG X tg v σ H Q
def DGs (X : Cx) (tgs : List Expr) (ts : List Nat) (ds : List D) (ρ ρ' : Ro) : Prop :=
  ∀ (σ : L2.St) (H H0 : Hp) (vs : List V), Same H0 H → Sl X.K H0 σ ρ → RepA X.K H0 vs ds → ∀ (Q : L2.St → Hp → Prop), (∀ σ', Sl X.K H0 σ' ρ' → But ts σ σ' → Q σ' H) → sGs X tgs vs σ H Q
/-- what is walked: the things that come, nothing changed but new pairs -/
def WkD (K : Frag) (J : It) (H0 : Hp) (ds : List D) : Prop :=
  ∃ (G : Hp → Prop) (Y : Nat → Hp → V → Hp → Prop), Walk J ds.length G Y ∧ (∀ H, Same H0 H → G H) ∧
    ∀ i H1 x H2 H01 d, Same H0 H01 → Same H01 H1 → ds[i]? = some d → Y i H1 x H2 → ∃ H02, Pu H01 H1 H02 H2 ∧ Rep K H02 x d
def DI (X : Cx) (kx : XD) (tg it : Expr) (ρ : Ro) (M : Mem) (ds : List D) : Prop :=
  ∀ (σ : L2.St) (H H0 : Hp), Ht X.K H0 H M → Sl X.K H0 σ ρ → ∀ (W : WX), Takes X W → Hx X W H0 H M kx → ∀ (R : It → Hp → Prop), (∀ J H' H0', Pu H0 H H0' H' → WkD X.K J H0' ds → R J H') → sI X tg it σ H R
structure Cn (X : Cx) (D : Ends) (H0 H : Hp) (M : Mem) (P : Out → Mem → Prop) : Prop where
  nx : ∀ σ' H' H0' ρ' M', Go H0 H M H0' H' M' → Ht X.K H0' H' M' → Sl X.K H0' σ' ρ' → P (.nx ρ') M' → D.nx σ' H'
  bk : ∀ σ' H' H0' ρ' M', Go H0 H M H0' H' M' → Ht X.K H0' H' M' → Sl X.K H0' σ' ρ' → P (.bk ρ') M' → D.bk σ' H'
  ct : ∀ σ' H' H0' ρ' M', Go H0 H M H0' H' M' → Ht X.K H0' H' M' → Sl X.K H0' σ' ρ' → P (.ct ρ') M' → D.ct σ' H'
  rt : ∀ v H' H0' d M', Go H0 H M H0' H' M' → Ht X.K H0' H' M' → Rep X.K H0' v d → P (.rt d) M' → D.rt v H'
def DS (X : Cx) (kx : XD) (sts : List Stmt) (ρ : Ro) (M : Mem) (P : Out → Mem → Prop) : Prop :=
  ∀ (σ : L2.St) (H H0 : Hp), Ht X.K H0 H M → Sl X.K H0 σ ρ → ∀ (W : WX), Takes X W → Hx X W H0 H M kx → ∀ (D : Ends), Cn X D H0 H M P → sSs X sts D σ H
def DS1 (X : Cx) (kx : XD) (st : Stmt) (ρ : Ro) (M : Mem) (P : Out → Mem → Prop) : Prop :=
  ∀ (σ : L2.St) (H H0 : Hp), Ht X.K H0 H M → Sl X.K H0 σ ρ → ∀ (W : WX), Takes X W → Hx X W H0 H M kx → ∀ (D : Ends), Cn X D H0 H M P → sS X st D σ H
def thenP (X : Cx) (kx : XD) (rest : List Stmt) (P : Out → Mem → Prop) : Out → Mem → Prop
  | .nx ρ, M => DS X kx rest ρ M P
  | o, M => P o M
section
variable {X : Cx} {kx : XD} {ρ ρ' ρ'' : Ro} {M M' : Mem} {P : Out → Mem → Prop}
theorem Cn.step {D : Ends} {H0 H H0' H' : Hp} (c : Cn X D H0 H M P) (g : Go H0 H M H0' H' M') : Cn X D H0' H' M' P :=
  ⟨fun σ' H2 H02 ρ' M2 g2 => c.nx σ' H2 H02 ρ' M2 (g.trans g2), fun σ' H2 H02 ρ' M2 g2 => c.bk σ' H2 H02 ρ' M2 (g.trans g2),
    fun σ' H2 H02 ρ' M2 g2 => c.ct σ' H2 H02 ρ' M2 (g.trans g2), fun v H2 H02 d M2 g2 => c.rt v H2 H02 d M2 (g.trans g2)⟩
theorem Cn.imp {D : Ends} {H0 H : Hp} {P' : Out → Mem → Prop} (c : Cn X D H0 H M P) (h : ∀ o m, P' o m → P o m) : Cn X D H0 H M P' :=
  ⟨fun σ' H2 H02 ρ' M2 g t s p => c.nx σ' H2 H02 ρ' M2 g t s (h _ _ p), fun σ' H2 H02 ρ' M2 g t s p => c.bk σ' H2 H02 ρ' M2 g t s (h _ _ p),
    fun σ' H2 H02 ρ' M2 g t s p => c.ct σ' H2 H02 ρ' M2 g t s (h _ _ p), fun v H2 H02 d M2 g t s p => c.rt v H2 H02 d M2 g t s (h _ _ p)⟩
theorem DS.imp {sts : List Stmt} {P' : Out → Mem → Prop} (h : DS X kx sts ρ M P') (i : ∀ o m, P' o m → P o m) : DS X kx sts ρ M P :=
  fun σ H H0 t s W tk hx D c => h σ H H0 t s W tk hx D (c.imp i)
theorem DS.fgt {sts : List Stmt} (h : DS X kx sts ρ' M P) (f : Fgt ρ ρ') : DS X kx sts ρ M P :=
  fun σ H H0 t s W tk hx D c => h σ H H0 t (s.fgt f) W tk hx D c
theorem DV.de {e : Expr} {d : D} {k : D → Mem → Prop} (h : DV X kx e ρ M d) (hk : k d M) : DE X kx e ρ M k :=
  fun σ H H0 t s W tk hx Q q => h σ H H0 t s W tk hx Q fun v H' H0' p r => q v H' H0' d M p.go (t.pu p) r hk
theorem DV.is {e : Expr} {d d' : D} (h : DV X kx e ρ M d) (e' : d = d') : DV X kx e ρ M d' := e' ▸ h
theorem DT.is {e : Expr} {d d' : Bool} (h : DT X kx e ρ M d) (e' : d = d') : DT X kx e ρ M d' := e' ▸ h
theorem DA.is {e : List Expr} {d d' : List D} (h : DA X kx e ρ M d) (e' : d = d') : DA X kx e ρ M d' := e' ▸ h
/-! ### statements -/
theorem ds_nil (h : P (.nx ρ) M) : DS X kx [] ρ M P := fun σ H H0 t s W tk hx D c => sSs.by pss_nil (c.nx σ H H0 ρ M Go.refl t s h)
theorem ds_cons {st : Stmt} {rest : List Stmt} (h : DS1 X kx st ρ M (thenP X kx rest P)) : DS X kx (st :: rest) ρ M P := fun σ H H0 t s W tk hx D c =>
  sSs.by (pss_cons (ps_s st) (pss_s rest)) (h σ H H0 t s W tk hx { D with nx := sSs X rest D }
    ⟨fun σ' H' H0' ρ' M' g t' s' p => p σ' H' H0' t' s' W tk (hx.step g) D (c.step g), c.bk, c.ct, c.rt⟩)
theorem ds1_ret {e : Expr} {pos : Pos} {k : D → Mem → Prop} (h : DE X kx e ρ M k) (hk : ∀ d m, k d m → P (.rt d) m) : DS1 X kx (.Return (some e) pos) ρ M P := fun σ H H0 t s W tk hx D c =>
  sS.by (ps_ret (pe_s e)) (h σ H H0 t s W tk hx D.rt fun v H' H0' d M' g t' r p => c.rt v H' H0' d M' g t' r (hk d M' p))
theorem ds1_retV {e : Expr} {pos : Pos} {d : D} (h : DV X kx e ρ M d) (hk : P (.rt d) M) : DS1 X kx (.Return (some e) pos) ρ M P :=
  ds1_ret (h.de (k := fun d' m => d' = d ∧ m = M) ⟨rfl, rfl⟩) fun d' m ⟨a, b⟩ => by subst a; subst b; exact hk
theorem ds1_expr {e : Expr} {pos : Pos} {k : D → Mem → Prop} (h : DE X kx e ρ M k) (hk : ∀ d m, k d m → P (.nx ρ) m) (hs : swapsWith e none pos.line X.env = pure false := by rfl) : DS1 X kx (.Expr e pos) ρ M P := fun σ H H0 t s W tk hx D c =>
  sS.by (ps_expr (pe_s e) hs) (h σ H H0 t s W tk hx (fun _ H1 => D.nx σ H1) fun v H' H0' d M' g t' r p => c.nx σ H' H0' ρ M' g t' (s.mo g.e0) (hk d M' p))
theorem ds1_if {c : Expr} {A B : List Stmt} {pos : Pos} {b : Bool} (hc : DT X kx c ρ M b) (h1 : b = true → DS X kx A ρ M P) (h2 : b = false → DS X kx B ρ M P) : DS1 X kx (.If c A B pos) ρ M P := fun σ H H0 t s W tk hx D cn =>
  sS.by (ps_if (pt_s c) (pss_s A) (pss_s B)) (hc σ H H0 t s W tk hx _ fun H' H0' p => by
    cases b with
    | true => exact h1 rfl σ H' H0' (t.pu p) (s.mo p.e0) W tk (hx.pu p) D (cn.step p.go)
    | false => exact h2 rfl σ H' H0' (t.pu p) (s.mo p.e0) W tk (hx.pu p) D (cn.step p.go))
/-- target = e -/
theorem ds1_asg {tg e : Expr} {pos : Pos} {k : D → Mem → Prop} (h : DE X kx e ρ M k) (hg : ∀ d m, k d m → ∃ ts ρ', DG X tg ts d ρ ρ' ∧ P (.nx ρ') m) (hs : swapsWithSole [tg] e pos.line X.env = pure false := by rfl) (hw : swappedStores [tg] e X.env = pure none := by rfl)
    (h1 : (assignEach [tg] X.env).map (·.2) = [assign tg X.env] := by rfl) : DS1 X kx (.Assign [tg] e pos) ρ M P := fun σ H H0 t s W tk hx D c =>
  sS.by (ps_asg (pe_s e) (pg_s tg) hs hw h1) (h σ H H0 t s W tk hx _ fun v H' H0' d M' g t' r p => by
    obtain ⟨ts, ρ', g1, p1⟩ := hg d M' p
    exact g1 σ H' H0' v t'.ex (s.mo g.e0) r _ fun σ' s' _ => c.nx σ' H' H0' ρ' M' g t' s' p1)
end
/-! ### names -/
structure Nm (X : Cx) (i : Nat) (x : Str) : Prop where
  get : X.N[i]? = some x
  vis : Vis X.env.scope x
  d1 : (x == ("__debug__" : Str)) = false
  d2 : (x == ("__classdict__" : Str)) = false
structure Ns (X : Cx) (i : Nat) (x : Str) : Prop extends Nm X i x where
  nd : X.N.Nodup
  loc : Loc X.env.scope x
  fn : X.fn x = true ∨ X.env.scope.names.lookup x = some .local
section
variable {X : Cx} {kx : XD} {ρ ρ' ρ'' : Ro} {M M' : Mem} {P : Out → Mem → Prop} {pos : Pos}
theorem dv_var {i : Nat} {x : Str} {d : D} (n : Nm X i x) (h : ρ[i]? = some (some d) := by rfl) : DV X kx (.Name x pos) ρ M d := fun σ H H0 t s W tk hx Q q =>
  let ⟨v, a, r⟩ := s.2 i d h
  sE.by (pe_var n.get n.vis n.d1 n.d2) ⟨v, a, q v H H0 (Pu.refl t.ex) r⟩
theorem dg_name {i : Nat} {x : Str} {d : D} (n : Ns X i x) : DG X (.Name x pos) [i] d ρ (ρ.set i (some d)) := fun σ H H0 v e s r Q q =>
  sG.by (pg_name n.nd n.get n.loc n.fn) (q _ (s.set r i) (But.set (by simp)))
theorem dgs_nil : DGs X [] [] [] ρ ρ := fun σ H H0 vs e s r Q q => sGs.by pgs_nil ⟨by cases r; rfl, q σ s But.refl⟩
theorem dgs_cons {tg : Expr} {tgs : List Expr} {ts us : List Nat} {d : D} {ds : List D} (h1 : DG X tg ts d ρ ρ') (h2 : DGs X tgs us ds ρ' ρ'') (hs : (assignEach (tg :: tgs) X.env).map (·.2) = assign tg X.env :: (assignEach tgs X.env).map (·.2) := by rfl) :
    DGs X (tg :: tgs) (ts ++ us) (d :: ds) ρ ρ'' := fun σ H H0 vs e s r Q q => by
  cases r with
  | cons a b => exact sGs.by (pgs_cons (pg_s tg) (pgs_s tgs) hs) ⟨_, _, rfl, h1 σ H H0 _ e s a _ fun σ' s' b1 => h2 σ' H H0 _ e s' b _ fun σ'' s'' b2 => q σ'' s'' ((b1.mono fun x h => List.mem_append_left _ h).trans (b2.mono fun x h => List.mem_append_right _ h))⟩
theorem dg_tup {es : List Expr} {ts : List Nat} {k : Nat} {ds : List D} (hc : X.calm = true) (h : DGs X es ts ds ρ ρ') (hn : (assignEach es X.env).length = ds.length := by rfl) (hst : (assignEach es X.env).findIdx? (·.1) = none := by rfl) : DG X (.Tuple es k pos) ts (.tup ds) ρ ρ' := fun σ H H0 v e s r Q q => by
  cases r with
  | tup a b => exact sG.by (pg_tup hc (pgs_s es) hn hst) ⟨_, _, rfl, SqT.of (e _ _ a), b.length, h σ H H0 _ e s b Q q⟩
theorem ds1_set {i : Nat} {x : Str} {e : Expr} {pos' : Pos} {d : D} (n : Ns X i x) (h : DV X kx e ρ M d) (hp : P (.nx (ρ.set i (some d))) M) (hs : swapsWithSole [.Name x pos'] e pos.line X.env = pure false := by rfl) (hw : swappedStores [.Name x pos'] e X.env = pure none := by rfl) :
    DS1 X kx (.Assign [.Name x pos'] e pos) ρ M P :=
  ds1_asg (h.de (k := fun d' m => d' = d ∧ m = M) ⟨rfl, rfl⟩) (fun d' m ⟨a, b⟩ => ⟨_, _, dg_name n, by subst a; subst b; exact hp⟩) hs hw
theorem ds1_setE {i : Nat} {x : Str} {e : Expr} {pos' : Pos} {k : D → Mem → Prop} (n : Ns X i x) (h : DE X kx e ρ M k) (hp : ∀ d m, k d m → P (.nx (ρ.set i (some d))) m) (hs : swapsWithSole [.Name x pos'] e pos.line X.env = pure false := by rfl) (hw : swappedStores [.Name x pos'] e X.env = pure none := by rfl) :
    DS1 X kx (.Assign [.Name x pos'] e pos) ρ M P :=
  ds1_asg h (fun d' m q => ⟨_, _, dg_name n, hp d' m q⟩) hs hw
theorem dv_int {i j} : DV X kx (.Constant (.int i) j pos) ρ M (.int i) := fun σ H H0 t s W tk hx Q q => sE.by pe_int (q _ H H0 (Pu.refl t.ex) (.int i))
theorem dv_bl {i j} : DV X kx (.Constant (.bool i) j pos) ρ M (.bl i) := fun σ H H0 t s W tk hx Q q => sE.by pe_bl (q _ H H0 (Pu.refl t.ex) (.bl i))
theorem dv_non {j} : DV X kx (.Constant .none j pos) ρ M .non := fun σ H H0 t s W tk hx Q q => sE.by pe_non (q _ H H0 (Pu.refl t.ex) .non)
theorem dv_str {i j} : DV X kx (.Constant (.str i) j pos) ρ M (.str i) := fun σ H H0 t s W tk hx Q q => sE.by pe_str (q _ H H0 (Pu.refl t.ex) (.str i))
theorem da_nil : DA X kx [] ρ M [] := fun σ H H0 t s W tk hx Q q => sA.by pa_nil (q [] H H0 (Pu.refl t.ex) .nil)
theorem da_cons {e : Expr} {es : List Expr} {d : D} {ds : List D} (h1 : DV X kx e ρ M d) (h2 : DA X kx es ρ M ds) (hs : starEach (e :: es) X.env = (false, eval e X.env) :: starEach es X.env := by rfl) : DA X kx (e :: es) ρ M (d :: ds) := fun σ H H0 t s W tk hx Q q =>
  sA.by (pa_cons (pe_s e) (pa_s es) hs) (h1 σ H H0 t s W tk hx _ fun v H1 H01 p1 r1 => h2 σ H1 H01 (t.pu p1) (s.mo p1.e0) W tk (hx.pu p1) _ fun vs H2 H02 p2 r2 => q _ H2 H02 (p1.trans p2) (.cons (r1.mo p2.e0) r2))
/-! ### operators -/
def R2D (K : Frag) (r : R2) (M : Mem) (x y z : D) : Prop := ∀ (v u : V) (H H0 : Hp), Ht K H0 H M → Rep K H0 v x → Rep K H0 u y → ∀ (Q : VK), (∀ w H' H0', Pu H0 H H0' H' → Rep K H0' w z → Q w H') → r v u H Q
theorem dv_op {op : Operator} {r : R2} {a b : Expr} {x y z : D} (ho : OpR X (binaryOp op) r) (hr : R2D X.K r M x y z) (ha : DV X kx a ρ M x) (hb : DV X kx b ρ M y) : DV X kx (.BinOp a op b pos) ρ M z := fun σ H H0 t s W tk hx Q q =>
  sE.by (pe_op ho (pe_s a) (pe_s b)) (ha σ H H0 t s W tk hx _ fun v H1 H01 p1 r1 => hb σ H1 H01 (t.pu p1) (s.mo p1.e0) W tk (hx.pu p1) _ fun u H2 H02 p2 r2 =>
    hr v u H2 H02 (t.pu (p1.trans p2)) (r1.mo p2.e0) r2 Q fun w H3 H03 p3 r3 => q w H3 H03 ((p1.trans p2).trans p3) r3)
theorem dv_cmp {op : CmpOp} {r : R2} {a b : Expr} {x y z : D} (ho : OpR X (compareOp op) r) (hr : R2D X.K r M x y z) (ha : DV X kx a ρ M x) (hb : DV X kx b ρ M y) (hm : behindInMarks op b = false) : DV X kx (.Compare a [op] [b] pos) ρ M z := fun σ H H0 t s W tk hx Q q =>
  sE.by (pe_cmpR ho (pe_s a) (pe_s b) hm) (ha σ H H0 t s W tk hx _ fun v H1 H01 p1 r1 => hb σ H1 H01 (t.pu p1) (s.mo p1.e0) W tk (hx.pu p1) _ fun u H2 H02 p2 r2 =>
    hr v u H2 H02 (t.pu (p1.trans p2)) (r1.mo p2.e0) r2 Q fun w H3 H03 p3 r3 => q w H3 H03 ((p1.trans p2).trans p3) r3)
theorem dt_cmp {op : CmpOp} {r : R2} {a b : Expr} {x y : D} {z : Bool} (ho : OpR X (compareOp op) r) (hr : R2D X.K r M x y (.bl z)) (ha : DV X kx a ρ M x) (hb : DV X kx b ρ M y) (hm : behindInMarks op b = false) : DT X kx (.Compare a [op] [b] pos) ρ M z := fun σ H H0 t s W tk hx Q q =>
  sT.by (pt_cmpR ho (pe_s a) (pe_s b) hm) (ha σ H H0 t s W tk hx _ fun v H1 H01 p1 r1 => hb σ H1 H01 (t.pu p1) (s.mo p1.e0) W tk (hx.pu p1) _ fun u H2 H02 p2 r2 =>
    hr v u H2 H02 (t.pu (p1.trans p2)) (r1.mo p2.e0) r2 _ fun w H3 H03 p3 r3 => by cases r3; exact ⟨z, rfl, q H3 H03 ((p1.trans p2).trans p3)⟩)
theorem r2_ii {g : Int → Int → Int} {i j : Int} : R2D X.K (rI0 fun i j => .int (g i j)) M (.int i) (.int j) (.int (g i j)) := fun v u H H0 t r1 r2 Q q => by
  cases r1; cases r2; exact ⟨i, j, rfl, rfl, q _ H H0 (Pu.refl t.ex) (.int _)⟩
theorem r2_ib {g : Int → Int → Bool} {i j : Int} : R2D X.K (rI0 fun i j => .bl (g i j)) M (.int i) (.int j) (.bl (g i j)) := fun v u H H0 t r1 r2 Q q => by
  cases r1; cases r2; exact ⟨i, j, rfl, rfl, q _ H H0 (Pu.refl t.ex) (.bl _)⟩
theorem r2_iC {C : Int → Int → Prop} {g : Int → Int → Int} {i j : Int} (h : C i j) : R2D X.K (rI C fun i j => .int (g i j)) M (.int i) (.int j) (.int (g i j)) := fun v u H H0 t r1 r2 Q q => by
  cases r1; cases r2; exact ⟨i, j, rfl, rfl, h, q _ H H0 (Pu.refl t.ex) (.int _)⟩
variable {a b : Expr} {i j : Int}
theorem dv_add (ha : DV X kx a ρ M (.int i)) (hb : DV X kx b ρ M (.int j)) : DV X kx (.BinOp a .Add b pos) ρ M (.int (i + j)) := dv_op op_add r2_ii ha hb
theorem dv_mul (ha : DV X kx a ρ M (.int i)) (hb : DV X kx b ρ M (.int j)) (h : CMul i j) : DV X kx (.BinOp a .Mult b pos) ρ M (.int (i * j)) := dv_op op_mul (r2_iC h) ha hb
theorem dv_mulW (ha : DV X kx a ρ M (.int i)) (hb : DV X kx b ρ M (.int j)) (h : CMulW i j) : DV X kx (.BinOp a .Mult b pos) ρ M (.int (i * j)) := dv_op op_mulW (r2_iC h) ha hb
theorem dv_fdiv (ha : DV X kx a ρ M (.int i)) (hb : DV X kx b ρ M (.int j)) (h : CDivW i j) : DV X kx (.BinOp a .FloorDiv b pos) ρ M (.int (i / j)) := dv_op op_fdivW (r2_iC h) ha hb
theorem dv_mod (ha : DV X kx a ρ M (.int i)) (hb : DV X kx b ρ M (.int j)) (h : 0 < j) : DV X kx (.BinOp a .Mod b pos) ρ M (.int (i % j)) := dv_op op_mod (r2_iC (C := fun _ j => 0 < j) h) ha hb
theorem dt_lt (ha : DV X kx a ρ M (.int i)) (hb : DV X kx b ρ M (.int j)) : DT X kx (.Compare a [.Lt] [b] pos) ρ M (decide (i < j)) := dt_cmp op_lt r2_ib ha hb (nomark _)
theorem dt_gt (ha : DV X kx a ρ M (.int i)) (hb : DV X kx b ρ M (.int j)) : DT X kx (.Compare a [.Gt] [b] pos) ρ M (decide (j < i)) := dt_cmp op_gt r2_ib ha hb (nomark _)
theorem r2_eqi {i j : Int} : R2D X.K rEq M (.int i) (.int j) (.bl (decide (i = j))) := fun v u H H0 t r1 r2 Q q => by
  cases r1; cases r2
  refine ⟨rfl, ?_⟩
  rw [dec_int, Bool.beq_eq_decide_eq]
  exact q _ H H0 (Pu.refl t.ex) (.bl _)
theorem dt_eqi (ha : DV X kx a ρ M (.int i)) (hb : DV X kx b ρ M (.int j)) : DT X kx (.Compare a [.Eq] [b] pos) ρ M (decide (i = j)) := dt_cmp op_eq r2_eqi ha hb (nomark _)
end
end Dl

namespace Dl
open PySem PySem.Spec PyProof.Rows L2
section
variable {X : Cx} {kx : XD} {ρ ρ' ρ'' : Ro} {M M' : Mem} {P : Out → Mem → Prop} {pos : Pos} {a b c e : Expr} {es : List Expr} {x y z : D} {k l : Bool}
/-! ### tests -/
theorem dt_val (h : DV X kx e ρ M (.bl k)) (he : ∀ whole, isTrue e X.env whole = (do let v ← whole; standAt e.pos; holding [v] (truthy v)) := by intro _; rfl) : DT X kx e ρ M k := fun σ H H0 t s W tk hx Q q =>
  sT.by (pt_val (pe_s e) he) (h σ H H0 t s W tk hx _ fun v H' H0' p r => by cases r; exact ⟨k, rfl, q H' H0' p⟩)
theorem dt_not (h : DT X kx a ρ M k) : DT X kx (.UnaryOp .Not a pos) ρ M (!k) := fun σ H H0 t s W tk hx Q q =>
  sT.by (pt_not (pt_s a)) (h σ H H0 t s W tk hx _ fun H' H0' p => q H' H0' p)
theorem DW.t (h : DW X kx e ρ M k) : DT X kx e ρ M k := fun σ H H0 t s W tk hx Q q => sT.by (pw_s e).pt (h σ H H0 t s W tk hx Q q)
theorem dw_or1 (h : DT X kx a ρ M k) : DW X kx (.BoolOp .Or [a] pos) ρ M k := fun σ H H0 t s W tk hx Q q => sW.by (pw_or1 (pt_s a)) (h σ H H0 t s W tk hx Q q)
theorem dw_or {rest : List Expr} (h1 : DT X kx a ρ M k) (h2 : k = false → DW X kx (.BoolOp .Or (b :: rest) pos) ρ M l) : DW X kx (.BoolOp .Or (a :: b :: rest) pos) ρ M (k || l) := fun σ H H0 t s W tk hx Q q =>
  sW.by (pw_or (pt_s a) (pw_s _)) (h1 σ H H0 t s W tk hx _ fun H' H0' p => by
    cases k with
    | true => exact iteT (q H' H0' p)
    | false => exact iteF (h2 rfl σ H' H0' (t.pu p) (s.mo p.e0) W tk (hx.pu p) Q fun H2 H02 p2 => q H2 H02 (p.trans p2)))
/-! the same as values -/
theorem dv_one {op} (h : DV X kx a ρ M x) : DV X kx (.BoolOp op [a] pos) ρ M x := fun σ H H0 t s W tk hx Q q => sE.by (pe_one (pe_s a)) (h σ H H0 t s W tk hx Q q)
theorem dv_and {rest : List Expr} (h1 : DV X kx a ρ M (.bl k)) (h2 : k = true → DV X kx (.BoolOp .And (b :: rest) pos) ρ M (.bl l)) : DV X kx (.BoolOp .And (a :: b :: rest) pos) ρ M (.bl (k && l)) := fun σ H H0 t s W tk hx Q q =>
  sE.by (pe_and (pe_s a) (pe_s _)) (h1 σ H H0 t s W tk hx _ fun v H' H0' p r => by
    cases r
    refine ⟨k, rfl, ?_⟩
    cases k with
    | true => exact iteT (h2 rfl σ H' H0' (t.pu p) (s.mo p.e0) W tk (hx.pu p) Q fun v H2 H02 p2 r2 => q v H2 H02 (p.trans p2) r2)
    | false => exact iteF (q _ H' H0' p (.bl false)))
theorem dv_not (h : DV X kx a ρ M (.bl k)) : DV X kx (.UnaryOp .Not a pos) ρ M (.bl (!k)) := fun σ H H0 t s W tk hx Q q =>
  sE.by (pe_not (pe_s a)) (h σ H H0 t s W tk hx _ fun v H' H0' p r => by cases r; exact ⟨k, rfl, q _ H' H0' p (.bl _)⟩)
/-! ### None -/
def D.isNon : D → Bool
  | .non => true
  | _ => false
theorem rep_non {K : Frag} {H : Hp} {v : V} {d : D} (r : Rep K H v d) : decide (v = .non) = d.isNon := by
  cases r <;> rfl
theorem r2_isN : R2D X.K (fun x y H Q => y = .non ∧ Q (.bl (decide (x = .non))) H) M x .non (.bl x.isNon) := fun v u H H0 t r1 r2 Q q => by
  cases r2
  refine ⟨rfl, ?_⟩
  rw [rep_non r1]
  exact q _ H H0 (Pu.refl t.ex) (.bl _)
theorem dt_isN {j p2} (h : DV X kx a ρ M x) : DT X kx (.Compare a [.Is] [.Constant .none j p2] pos) ρ M x.isNon := dt_cmp op_isN r2_isN h dv_non (nomark _)
end
/-! ### data that compares -/
mutual
def D.py : D → PyData
  | .non => .none
  | .bl b => .bool b
  | .int i => .int i
  | .str x => .str x
  | .ty _ => .none
  | .lst xs => .list (D.pyA xs)
  | .scr xs => .list (D.pyA xs)
  | .tup xs => .tuple (D.pyA xs)
  | .ins _ _ _ => .none
  | .adr _ => .none
  | .dK _ _ => .none
  | .dT _ _ => .none
  | .exn _ _ _ => .none
  | .clo _ _ _ => .none
def D.pyA : List D → List PyData
  | [] => []
  | d :: ds => d.py :: D.pyA ds
end
mutual
/-- no objects within -/
def D.flat : D → Bool
  | .non => true
  | .bl _ => true
  | .int _ => true
  | .str _ => true
  | .ty _ => false
  | .lst xs => D.flatA xs
  | .scr xs => D.flatA xs
  | .tup xs => D.flatA xs
  | .ins _ _ _ => false
  | .adr _ => false
  | .dK _ _ => false
  | .dT _ _ => false
  | .exn _ _ _ => false
  | .clo _ _ _ => false
def D.flatA : List D → Bool
  | [] => true
  | d :: ds => d.flat && D.flatA ds
end
mutual
theorem Rep.dp {K : Frag} {H : Hp} : ∀ (d : D) (v : V), d.flat = true → Rep K H v d → Dp K H v d.py
  | .non, _, f, h => by cases h; simp only [D.py]; exact .non
  | .bl b, _, f, h => by cases h; simp only [D.py]; exact .bl b
  | .int b, _, f, h => by cases h; simp only [D.py]; exact .int b
  | .str b, _, f, h => by cases h; simp only [D.py]; exact .str b
  | .ty b, _, f, h => by simp [D.flat] at f
  | .lst ds, _, f, h => by
    cases h with
    | lst a b =>
      simp only [D.py]
      exact .lst (SqL.of a) (RepA.dp ds _ (by simpa [D.flat] using f) b)
  | .scr ds, _, f, h => by
    cases h with
    | scr a b =>
      simp only [D.py]
      exact .lst a (RepA.dp ds _ (by simpa [D.flat] using f) b)
  | .tup ds, _, f, h => by
    cases h with
    | tup a b =>
      simp only [D.py]
      exact .tup (SqT.of a) (RepA.dp ds _ (by simpa [D.flat] using f) b)
  | .ins C ns ds, _, f, h => by simp [D.flat] at f
  | .adr a, _, f, h => by simp [D.flat] at f
  | .dK _ _, _, f, h => by simp [D.flat] at f
  | .dT _ _, _, f, h => by simp [D.flat] at f
  | .exn _ _ _, _, f, h => by simp [D.flat] at f
  | .clo _ _ _, _, f, h => by simp [D.flat] at f
theorem RepA.dp {K : Frag} {H : Hp} : ∀ (ds : List D) (vs : List V), D.flatA ds = true → RepA K H vs ds → DpAll K H vs (D.pyA ds)
  | [], _, f, h => by cases h; simp only [D.pyA]; exact .nil
  | d :: ds, _, f, h => by
    simp only [D.flatA, Bool.and_eq_true] at f
    cases h with
    | cons a b =>
      simp only [D.pyA]
      exact .cons (Rep.dp d _ f.1 a) (RepA.dp ds _ f.2 b)
end
/-- a thing's data: it is flat, of small depth; == of two such things is k -/
structure Eqs (x y : D) (k : Bool) : Prop where
  fx : x.flat = true
  fy : y.flat = true
  sx : SeqAt.shaped x.py = true
  sy : SeqAt.shaped y.py = true
  eq : PyData.eqv x.py y.py = k
section
variable {X : Cx} {kx : XD} {ρ ρ' ρ'' : Ro} {M M' : Mem} {P : Out → Mem → Prop} {pos : Pos} {a b c e : Expr} {es : List Expr} {x y z : D} {k l : Bool}
theorem r2_eqD (h : Eqs x y k) : R2D X.K (rEqD X.K) M x y (.bl k) := fun v u H H0 t r1 r2 Q q =>
  ⟨x.py, y.py, Rep.dp _ _ h.fx (r1.mo t.ex), Rep.dp _ _ h.fy (r2.mo t.ex), h.sx, h.sy, by rw [h.eq]; exact q _ H H0 (Pu.refl t.ex) (.bl _)⟩
theorem r2_neD (h : Eqs x y k) : R2D X.K (rNeD X.K) M x y (.bl (!k)) := fun v u H H0 t r1 r2 Q q =>
  ⟨x.py, y.py, Rep.dp _ _ h.fx (r1.mo t.ex), Rep.dp _ _ h.fy (r2.mo t.ex), h.sx, h.sy, by rw [h.eq]; exact q _ H H0 (Pu.refl t.ex) (.bl _)⟩
theorem dt_eqD (hu : X.A.units + 64 < cLine) (ha : DV X kx a ρ M x) (hb : DV X kx b ρ M y) (h : Eqs x y k) : DT X kx (.Compare a [.Eq] [b] pos) ρ M k := dt_cmp (op_eqD hu) (r2_eqD h) ha hb (nomark _)
theorem dt_neD (hu : X.A.units + 64 < cLine) (ha : DV X kx a ρ M x) (hb : DV X kx b ρ M y) (h : Eqs x y k) : DT X kx (.Compare a [.NotEq] [b] pos) ρ M (!k) := dt_cmp (op_neD hu) (r2_neD h) ha hb (nomark _)
/-! ### displays -/
theorem dv_tup {n} {ds : List D} (h : DA X kx es ρ M ds) (hl : ds.length ≤ sizeLine) : DV X kx (.Tuple es n pos) ρ M (.tup ds) := fun σ H H0 t s W tk hx Q q =>
  sE.by (pe_tup (pa_s es)) (h σ H H0 t s W tk hx _ fun vs H' H0' p r => ⟨by rw [r.length]; exact hl, fun w hw =>
    let g := Pu.new1 p.ex hw (.tup vs)
    q (.ref w) _ _ (p.trans g) (.tup upd_same (r.mo g.e0))⟩)
theorem dv_lst {ds : List D} (h : DA X kx es ρ M ds) (hl : ds.length ≤ sizeLine) : DV X kx (.List es pos) ρ M (.lst ds) := fun σ H H0 t s W tk hx Q q =>
  sE.by (pe_lst (pa_s es)) (h σ H H0 t s W tk hx _ fun vs H' H0' p r => ⟨by rw [r.length]; exact hl, fun w hw =>
    let g := Pu.new1 p.ex hw (.lst vs)
    q (.ref w) _ _ (p.trans g) (.lst upd_same (r.mo g.e0))⟩)
/-- a list that will change -/
theorem de_lst {ds : List D} {k : D → Mem → Prop} (h : DA X kx es ρ M ds) (hl : ds.length ≤ sizeLine) (hk : ∀ w, w ∉ M.dom → k (.adr w) ((w, .lst ds) :: M)) : DE X kx (.List es pos) ρ M k := fun σ H H0 t s W tk hx Q q =>
  sE.by (pe_lst (pa_s es)) (h σ H H0 t s W tk hx _ fun vs H' H0' p r => ⟨by rw [r.length]; exact hl, fun w hw =>
    q (.ref w) _ H0' _ _ (p.go.trans (Go.new1 hw (.lst vs))) ((t.pu p).new1 (m := .lst ds) hw fun H2 e2 => ⟨vs, e2, r⟩) (.adr w) (hk w ((t.pu p).free hw).2)⟩)
/-- a row that is a list -/
inductive SeqL (M : Mem) : D → List D → Prop
  | lst (ds : List D) : SeqL M (.lst ds) ds
  | scr (ds : List D) : SeqL M (.scr ds) ds
  | adr {p : Addr} {ds : List D} : (p, Mu.lst ds) ∈ M → SeqL M (.adr p) ds
theorem SeqL.rep {x : D} {ds : List D} {v : V} {H H0 : Hp} (h : SeqL M x ds) (t : Ht X.K H0 H M) (r : Rep X.K H0 v x) : ∃ p vs, v = .ref p ∧ SqL X.K H p vs ∧ RepA X.K H0 vs ds := by
  cases h with
  | lst ds => cases r with | lst a b => exact ⟨_, _, rfl, SqL.of (t.ex _ _ a), b⟩
  | scr ds => cases r with | scr a b => exact ⟨_, _, rfl, t.ex.seq a, b⟩
  | adr hm =>
    cases r
    obtain ⟨_, vs, h1, h2⟩ := t.mem _ hm
    exact ⟨_, vs, rfl, SqL.of h1, h2⟩
/-- a list by itself: it may be put together with another one -/
inductive SeqO (M : Mem) : D → List D → Prop
  | lst (ds : List D) : SeqO M (.lst ds) ds
  | adr {p : Addr} {ds : List D} : (p, Mu.lst ds) ∈ M → SeqO M (.adr p) ds
theorem SeqO.rep {x : D} {ds : List D} {v : V} {H H0 : Hp} (h : SeqO M x ds) (t : Ht X.K H0 H M) (r : Rep X.K H0 v x) : ∃ p vs, v = .ref p ∧ H p = some (.lst vs) ∧ RepA X.K H0 vs ds := by
  cases h with
  | lst ds => cases r with | lst a b => exact ⟨_, _, rfl, t.ex _ _ a, b⟩
  | adr hm =>
    cases r
    obtain ⟨_, vs, h1, h2⟩ := t.mem _ hm
    exact ⟨_, vs, rfl, h1, h2⟩
/-! ### subscripts -/
theorem rep_ix {K : Frag} {H : Hp} {vs : List V} {ds : List D} {i : Int} {d : D} (r : RepA K H vs ds) (h : atI ds i = some d) : ∃ v, atI vs i = some v ∧ Rep K H v d := by
  unfold atI at h ⊢
  rw [r.length]
  cases e : ixN ds.length i with
  | none => rw [e] at h; cases h
  | some j =>
    rw [e] at h
    exact r.get h
theorem r2_ixL {ds : List D} {i : Int} {d : D} (hq : SeqL M x ds) (h : atI ds i = some d) : R2D X.K (rIxL X.K) M x (.int i) d := fun v u H H0 t r1 r2 Q q => by
  cases r2
  obtain ⟨p, vs, rfl, h1, h2⟩ := hq.rep t r1
  obtain ⟨w, h3, h4⟩ := rep_ix h2 h
  exact ⟨p, vs, i, w, rfl, rfl, h1, h3, q _ H H0 (Pu.refl t.ex) h4⟩
theorem dv_ix {r : R2} (hr : IxR X r) (h : R2D X.K r M x y z) (ha : DV X kx a ρ M x) (hb : DV X kx b ρ M y) (hs : PlainIx b) : DV X kx (.Subscript a b pos) ρ M z := fun σ H H0 t s W tk hx Q q =>
  sE.by (pe_ix hr (pe_s a) (pe_s b) hs) (ha σ H H0 t s W tk hx _ fun v H1 H01 p1 r1 => hb σ H1 H01 (t.pu p1) (s.mo p1.e0) W tk (hx.pu p1) _ fun u H2 H02 p2 r2 =>
    h v u H2 H02 (t.pu (p1.trans p2)) (r1.mo p2.e0) r2 Q fun w H3 H03 p3 r3 => q w H3 H03 ((p1.trans p2).trans p3) r3)
theorem dv_ixS {ds : List D} {i : Int} {d : D} (ha : DV X kx a ρ M x) (hq : SeqL M x ds) (hb : DV X kx b ρ M (.int i)) (h : atI ds i = some d) (hs : PlainIx b := by intro _ _; rfl) : DV X kx (.Subscript a b pos) ρ M d := dv_ix ix_list (r2_ixL hq h) ha hb hs
/-! ### slices -/
def DO (X : Cx) (kx : XD) (e : Option Expr) (ρ : Ro) (M : Mem) (o : Option Int) : Prop :=
  match e with
  | none => o = none
  | some e => ∃ i, o = some i ∧ DV X kx e ρ M (.int i)
theorem do_none : DO X kx none ρ M none := rfl
theorem do_some {i : Int} (h : DV X kx e ρ M (.int i)) : DO X kx (some e) ρ M (some i) := ⟨i, rfl, h⟩
def sO (X : Cx) : Option Expr → TO
  | none => tNoPart
  | some e => tPart (sE X e)
theorem po_s : ∀ e : Option Expr, PO X e (sO X e)
  | none => po_none
  | some e => po_some (pe_s e)
theorem DO.run {o : Option Expr} {i : Option Int} (h : DO X kx o ρ M i) {σ : L2.St} {H H0 : Hp} (t : Ht X.K H0 H M) (s : Sl X.K H0 σ ρ) {W : WX} (tk : Takes X W) (hx : Hx X W H0 H M kx) {Q : Option Int → Hp → Prop} (q : ∀ H' H0', Pu H0 H H0' H' → Q i H') : sO X o σ H Q := by
  cases o with
  | none =>
    have e : i = none := h
    subst e
    exact q H H0 (Pu.refl t.ex)
  | some e =>
    obtain ⟨j, rfl, h⟩ := h
    exact h σ H H0 t s W tk hx _ fun v H' H0' p r => by cases r; exact ⟨j, rfl, q H' H0' p⟩
def cutD (xs : List D) (lo hi : Option Int) : List D := (xs.drop (HT.sIx xs.length 0 lo)).take (HT.sIx xs.length xs.length hi - HT.sIx xs.length 0 lo)
theorem rep_cut {K : Frag} {H : Hp} {vs : List V} {ds : List D} (r : RepA K H vs ds) (lo hi : Option Int) : RepA K H (cutV vs lo hi) (cutD ds lo hi) := by
  unfold cutV cutD
  rw [r.length]
  exact (r.drop _).take _
theorem dv_slS {lo hi : Option Expr} {p2} {i j : Option Int} {ds : List D} (ha : DV X kx a ρ M x) (hq : SeqL M x ds) (hl : DO X kx lo ρ M i) (hh : DO X kx hi ρ M j) : DV X kx (.Subscript a (.Slice lo hi none p2) pos) ρ M (.lst (cutD ds i j)) := fun σ H H0 t s W tk hx Q q =>
  sE.by (pe_slice sl_list (pe_s a) (po_s lo) (po_s hi)) (ha σ H H0 t s W tk hx _ fun v H1 H01 p1 r1 => hl.run (t.pu p1) (s.mo p1.e0) tk (hx.pu p1) fun H2 H02 p2 => hh.run (t.pu (p1.trans p2)) (s.mo (p1.trans p2).e0) tk (hx.pu (p1.trans p2)) fun H3 H03 p3 => by
    have p123 := (p1.trans p2).trans p3
    obtain ⟨p, vs, rfl, h1, h2⟩ := hq.rep (t.pu p123) (r1.mo (p2.trans p3).e0)
    refine ⟨_, vs, rfl, h1, fun w hw => ?_⟩
    have g := Pu.new1 p123.ex hw (.lst (cutV vs i j))
    exact q (.ref w) _ _ (p123.trans g) (.lst upd_same (rep_cut (h2.mo g.e0) i j)))
/-! ### built-ins called -/
/-- a global name that is a built-in's -/
structure Bn (X : Cx) (x : Str) (u : Value) : Prop where
  gl : Gl X x
  mg : X.mg x = none
  bt : bootBuiltins x = some u
  n : x ≠ "__name__"
  d : (x == ("__debug__" : Str)) = false
def RCD (K : Frag) (r : List V → Hp → VK → Prop) (M : Mem) (ds : List D) (z : D) : Prop := ∀ (vs : List V) (H H0 : Hp), Ht K H0 H M → RepA K H0 vs ds → ∀ (Q : VK), (∀ w H' H0', Pu H0 H H0' H' → Rep K H0' w z → Q w H') → r vs H Q
theorem dv_callB {id : String} {x : Str} {p : Pos} {r : List V → Hp → VK → Prop} {ds : List D} {z : D} (n : Bn X x (.builtin id)) (hc : CallR X (.builtin id) r) (hr : RCD X.K r M ds z) (ha : DA X kx (e :: es) ρ M ds)
    (he : starEach (e :: es) X.env = (false, eval e X.env) :: starEach es X.env := by rfl) (hpl : (backTo pos (starEach es X.env)).any (·.1) = false := by rfl) : DV X kx (.Call (.Name x p) (e :: es) [] pos) ρ M z := fun σ H H0 t s W tk hx Q q =>
  sE.by (pe_callB hc n.gl n.mg n.bt (pa_s _) n.n n.d he hpl) (ha σ H H0 t s W tk hx _ fun vs H1 H01 p1 r1 => hr vs H1 H01 (t.pu p1) r1 Q fun w H2 H02 p2 r2 => q w H2 H02 (p1.trans p2) r2)
theorem dv_callT {T : String} {x : Str} {p : Pos} {r : List V → Hp → VK → Prop} {ds : List D} {z : D} (n : Bn X x (.type T)) (hc : CallR X (.type T) r) (hr : RCD X.K r M ds z) (ha : DA X kx (e :: es) ρ M ds)
    (he : starEach (e :: es) X.env = (false, eval e X.env) :: starEach es X.env := by rfl) (hpl : (backTo pos (starEach es X.env)).any (·.1) = false := by rfl) : DV X kx (.Call (.Name x p) (e :: es) [] pos) ρ M z := fun σ H H0 t s W tk hx Q q =>
  sE.by (pe_callTy hc n.gl n.mg n.bt (pa_s _) n.n n.d he hpl) (ha σ H H0 t s W tk hx _ fun vs H1 H01 p1 r1 => hr vs H1 H01 (t.pu p1) r1 Q fun w H2 H02 p2 r2 => q w H2 H02 (p1.trans p2) r2)
theorem dv_bn {x : Str} {T : String} (n : Bn X x (.type T)) : DV X kx (.Name x pos) ρ M (.ty T) := fun σ H H0 t s W tk hx Q q =>
  sE.by (pe_bltn n.gl n.mg n.bt (v := .ty T) rfl n.n n.d) (q _ H H0 (Pu.refl t.ex) (.ty T))
theorem repA1 {K : Frag} {H : Hp} {vs : List V} {d : D} (r : RepA K H vs [d]) : ∃ v, vs = [v] ∧ Rep K H v d := by
  cases r with
  | cons a b => cases b; exact ⟨_, rfl, a⟩
theorem repA2 {K : Frag} {H : Hp} {vs : List V} {d d' : D} (r : RepA K H vs [d, d']) : ∃ v v', vs = [v, v'] ∧ Rep K H v d ∧ Rep K H v' d' := by
  cases r with
  | cons a b =>
    obtain ⟨v, rfl, r⟩ := repA1 b
    exact ⟨_, _, rfl, a, r⟩
/-- a thing of things in a row: a list, a tuple, a list that may change -/
inductive Seq (M : Mem) : D → List D → Prop
  | lst (ds : List D) : Seq M (.lst ds) ds
  | scr (ds : List D) : Seq M (.scr ds) ds
  | tup (ds : List D) : Seq M (.tup ds) ds
  | adr {p : Addr} {ds : List D} : (p, Mu.lst ds) ∈ M → Seq M (.adr p) ds
theorem Seq.rep {x : D} {ds : List D} {v : V} {H H0 : Hp} (h : Seq M x ds) (t : Ht X.K H0 H M) (r : Rep X.K H0 v x) : ∃ p vs, v = .ref p ∧ (SqL X.K H p vs ∨ SqT X.K H p vs) ∧ RepA X.K H0 vs ds := by
  cases h with
  | lst ds => cases r with | lst a b => exact ⟨_, _, rfl, .inl (SqL.of (t.ex _ _ a)), b⟩
  | scr ds => cases r with | scr a b => exact ⟨_, _, rfl, .inl (t.ex.seq a), b⟩
  | tup ds => cases r with | tup a b => exact ⟨_, _, rfl, .inr (SqT.of (t.ex _ _ a)), b⟩
  | adr hm =>
    cases r
    obtain ⟨_, vs, h1, h2⟩ := t.mem _ hm
    exact ⟨_, vs, rfl, .inl (SqL.of h1), h2⟩
variable {p : Pos}
theorem dv_len {ds : List D} {f : Str} (n : Bn X f (.builtin "len")) (ha : DV X kx e ρ M x) (h : Seq M x ds) (he : starEach [e] X.env = (false, eval e X.env) :: starEach [] X.env := by rfl) : DV X kx (.Call (.Name f p) [e] [] pos) ρ M (.int (ds.length : Int)) :=
  dv_callB n call_len_seq (fun vs H H0 t r Q q => by
    obtain ⟨v, rfl, r1⟩ := repA1 r
    obtain ⟨p, vs, rfl, h1, h2⟩ := h.rep t r1
    exact ⟨p, vs, rfl, h1, by rw [h2.length]; exact q _ H H0 (Pu.refl t.ex) (.int _)⟩) (da_cons ha da_nil he) he
theorem dv_lenS {z : Str} {f : Str} (n : Bn X f (.builtin "len")) (ha : DV X kx e ρ M (.str z)) (h : z.length ≤ sizeLine) (he : starEach [e] X.env = (false, eval e X.env) :: starEach [] X.env := by rfl) : DV X kx (.Call (.Name f p) [e] [] pos) ρ M (.int (z.length : Int)) :=
  dv_callB n call_len_str (fun vs H H0 t r Q q => by
    obtain ⟨v, rfl, r1⟩ := repA1 r
    cases r1
    exact ⟨z, rfl, h, q _ H H0 (Pu.refl t.ex) (.int _)⟩) (da_cons ha da_nil he) he
/-- list(xs): a new list that never changes | that may -/
theorem dv_list {ds : List D} {f : Str} (n : Bn X f (.type "list")) (ha : DV X kx e ρ M x) (h : Seq M x ds) (he : starEach [e] X.env = (false, eval e X.env) :: starEach [] X.env := by rfl) : DV X kx (.Call (.Name f p) [e] [] pos) ρ M (.lst ds) :=
  dv_callT n call_list_of (fun vs H H0 t r Q q => by
    obtain ⟨v, rfl, r1⟩ := repA1 r
    obtain ⟨p, vs, rfl, h1, h2⟩ := h.rep t r1
    exact ⟨p, vs, rfl, h1, fun w hw => let g := Pu.new1 t.ex hw (.lst vs); q _ _ _ g (.lst upd_same (h2.mo g.e0))⟩) (da_cons ha da_nil he) he
theorem SeqL.seq {ds : List D} (h : SeqL M x ds) : Seq M x ds := by
  cases h with
  | lst ds => exact .lst ds
  | scr ds => exact .scr ds
  | adr h => exact .adr h
theorem dv_all {bs : List Bool} {f : Str} (hc : X.calm = true) (n : Bn X f (.builtin "all")) (ha : DV X kx e ρ M x) (h : SeqL M x (bs.map D.bl)) (he : starEach [e] X.env = (false, eval e X.env) :: starEach [] X.env := by rfl) : DV X kx (.Call (.Name f p) [e] [] pos) ρ M (.bl (bs.all id)) :=
  dv_callB n (cr_all hc) (fun vs H H0 t r Q q => by
    obtain ⟨v, rfl, r1⟩ := repA1 r
    obtain ⟨p, vs, rfl, h1, h2⟩ := h.rep t r1
    have e := h2.bls
    subst e
    exact ⟨p, bs, rfl, h1, q _ H H0 (Pu.refl t.ex) (.bl _)⟩) (da_cons ha da_nil he) he
/-! isinstance of data, built-in classes -/
inductive TyN (M : Mem) : D → String → Prop
  | non : TyN M .non "NoneType"
  | bl (b : Bool) : TyN M (.bl b) "bool"
  | int (i : Int) : TyN M (.int i) "int"
  | str (s : Str) : TyN M (.str s) "str"
  | lst (ds : List D) : TyN M (.lst ds) "list"
  | scr (ds : List D) : TyN M (.scr ds) "list"
  | tup (ds : List D) : TyN M (.tup ds) "tuple"
  | adr {p : Addr} {ds : List D} : (p, Mu.lst ds) ∈ M → TyN M (.adr p) "list"
theorem tyx_L {K : Frag} {H : Hp} {a : Addr} {xs : List V} (h : SqL K H a xs) : TyX K H (.ref a) (.type "list") := by
  rcases h with (h | ⟨o, h⟩) | ⟨o, its, n, h1, h2, _⟩
  · exact .base (.lst h)
  · exact .base (.frz h)
  · exact .kList h1 h2
theorem tyx_T {K : Frag} {H : Hp} {a : Addr} {xs : List V} (h : SqT K H a xs) : TyX K H (.ref a) (.type "tuple") := by
  rcases h with (h | ⟨o, h⟩) | ⟨o, its, n, h1, h2, _⟩
  · exact .base (.tup h)
  · exact .fTuple h
  · exact .kTuple h1 h2
theorem TyN.tyx {T : String} {v : V} {H H0 : Hp} (h : TyN M x T) (t : Ht X.K H0 H M) (r : Rep X.K H0 v x) : TyX X.K H v (.type T) := by
  cases h with
  | non => cases r; exact .base .non
  | bl b => cases r; exact .base (.bl b)
  | int b => cases r; exact .base (.int b)
  | str b => cases r; exact .base (.str b)
  | lst ds => cases r with | lst a b => exact .base (.lst (t.ex _ _ a))
  | scr ds => cases r with | scr a b => exact tyx_L (t.ex.seq a)
  | tup ds => cases r with | tup a b => exact tyx_T (SqT.of (t.ex _ _ a))
  | adr hm =>
    cases r
    obtain ⟨_, vs, h1, h2⟩ := t.mem _ hm
    exact .base (.lst h1)
theorem dv_isi {T S : String} {f g : Str} {p2 : Pos} {k : Bool} (n : Bn X f (.builtin "isinstance")) (n2 : Bn X g (.type S)) (ha : DV X kx a ρ M x) (h : TyN M x T) (hk : kitB T S = some k)
    (he : starEach [a, .Name g p2] X.env = (false, eval a X.env) :: starEach [.Name g p2] X.env := by rfl) : DV X kx (.Call (.Name f p) [a, .Name g p2] [] pos) ρ M (.bl k) :=
  dv_callB n call_isi (fun vs H H0 t r Q q => by
    obtain ⟨v, u, rfl, r1, r2⟩ := repA2 r
    cases r2
    exact ⟨v, .ty S, .type T, .type S, k, rfl, .ty S, h.tyx t r1, kit_ty hk, q _ H H0 (Pu.refl t.ex) (.bl _)⟩) (da_cons ha (da_cons (dv_bn n2) da_nil) he) he
end
end Dl

namespace Dl
open PySem PySem.Spec PyProof.Rows L2
/-! ### where one stands -/
structure Bd (X : Cx) (N : List Str) (sc : Scope) (k : Nat) : Prop where
  hN : X.N = N
  hnd : N.Nodup
  hsc : X.env.scope = sc
  calm : X.calm = true
  room : Room k X.A
  po : PassesOwn (model X.prog X.w) X.A X.env X.xe
structure Bf (X : Cx) : Prop where
  fn : ∀ x, X.fn x = true
  stk : X.stack = X.env :: X.outer
  fr : X.env.frame = some X.env.locals
section
variable {X : Cx} {N : List Str} {sc : Scope} {k : Nat}
theorem Bd.hu (B : Bd X N sc k) : X.A.units + 64 < cLine := B.room.units
theorem Bd.nm (B : Bd X N sc k) {i : Nat} {x : Str} (h : N[i]? = some x) (v : Vis sc x) (d1 : (x == ("__debug__" : Str)) = false := by decide) (d2 : (x == ("__classdict__" : Str)) = false := by decide) : Nm X i x :=
  ⟨by rw [B.hN]; exact h, by rw [B.hsc]; exact v, d1, d2⟩
theorem Bd.ns (B : Bd X N sc k) {i : Nat} {x : Str} (h : N[i]? = some x) (v : sc.names.lookup x = some .local) (d1 : (x == ("__debug__" : Str)) = false := by decide) (d2 : (x == ("__classdict__" : Str)) = false := by decide) : Ns X i x :=
  { B.nm h (.inl v) d1 d2 with nd := by rw [B.hN]; exact B.hnd, loc := by rw [B.hsc]; exact .inl v, fn := .inr (by rw [B.hsc]; exact v) }
theorem Bd.nc (B : Bd X N sc k) (F : Bf X) {i : Nat} {x : Str} (h : N[i]? = some x) (v : sc.names.lookup x = some .cell) (d1 : (x == ("__debug__" : Str)) = false := by decide) (d2 : (x == ("__classdict__" : Str)) = false := by decide) : Ns X i x :=
  { B.nm h (.inr (.inl v)) d1 d2 with nd := by rw [B.hN]; exact B.hnd, loc := by rw [B.hsc]; exact .inr v, fn := .inl (F.fn x) }
theorem Bd.gl (B : Bd X N sc k) {x : Str} (h : sc.names.lookup x = some .globalImplicit) : Gl X x := by
  show X.env.scope.names.lookup x = some .globalImplicit
  rw [B.hsc]; exact h
theorem Bd.bn (B : Bd X N sc k) {x : Str} {u : Value} (h : sc.names.lookup x = some .globalImplicit) (m : X.mg x = none) (b : bootBuiltins x = some u) (n : x ≠ "__name__" := by decide) (d : (x == ("__debug__" : Str)) = false := by decide) : Bn X x u :=
  ⟨B.gl h, m, b, n, d⟩
end
/-! ### what is walked -/
section
variable {X : Cx} {kx : XD} {ρ ρ' ρ'' : Ro} {M M' : Mem} {P : Out → Mem → Prop} {pos p : Pos} {tg a b c e : Expr} {es : List Expr} {x y z : D}
theorem wk_same {K : Frag} {J : It} {H0 : Hp} {ds : List D} {vs : List V} {G : Hp → Prop} (r : RepA K H0 vs ds) (hG : ∀ H, Same H0 H → G H) (w : Walk J vs.length G (YAt vs)) : WkD K J H0 ds :=
  ⟨G, YAt vs, by rw [← r.length]; exact w, hG, fun i H1 x H2 H01 d e0 e1 hd y => by
    obtain ⟨rfl, hx⟩ := y
    obtain ⟨v, hv, rv⟩ := r.get hd
    rw [hx] at hv; cases hv
    exact ⟨H01, Pu.refl e1, rv.mo e0⟩⟩
theorem di_list {ds : List D} (h : DV X kx e ρ M (.lst ds)) : DI X kx tg e ρ M ds := fun σ H H0 t s W tk hx R q =>
  sI.by (pi_list (pe_s e)) (h σ H H0 t s W tk hx _ fun v H' H0' p r => by
    cases r with
    | @lst a xs _ c d => exact ⟨a, rfl, ⟨xs, SqL.of (p.ex _ _ c)⟩, q _ H' H0' p (wk_same d (fun H e => SqL.of (e _ _ c)) walk_list)⟩)
theorem di_scr {ds : List D} (h : DV X kx e ρ M (.scr ds)) : DI X kx tg e ρ M ds := fun σ H H0 t s W tk hx R q =>
  sI.by (pi_list (pe_s e)) (h σ H H0 t s W tk hx _ fun v H' H0' p r => by
    cases r with
    | @scr a xs _ c d => exact ⟨a, rfl, ⟨xs, p.ex.seq c⟩, q _ H' H0' p (wk_same d (fun H e => e.seq c) walk_list)⟩)
/-- the numbers from lo on, n of them -/
def rngD (lo : Int) (n : Nat) : List Int := (List.range n).map fun i => lo + (i : Nat)
theorem rngD_length (lo : Int) (n : Nat) : (rngD lo n).length = n := by simp [rngD]
theorem rngD_get {lo : Int} {n i : Nat} {j : Int} (h : (rngD lo n)[i]? = some j) : i < n ∧ j = lo + (i : Nat) := by
  obtain ⟨h1, h2⟩ := List.getElem?_eq_some_iff.mp h
  rw [rngD_length] at h1
  refine ⟨h1, ?_⟩
  rw [← h2]
  simp [rngD]
theorem wk_range {K : Frag} {H0 : Hp} {lo : Int} {n : Nat} : WkD K (Itr lo n) H0 ((rngD lo n).map D.int) :=
  ⟨fun _ => True, _, by rw [List.length_map, rngD_length]; exact walk_range, fun _ _ => trivial, fun i H1 x H2 H01 d e0 e1 hd y => by
    obtain ⟨rfl, rfl⟩ := y
    rw [List.getElem?_map] at hd
    cases q : (rngD lo n)[i]? with
    | none => rw [q] at hd; cases hd
    | some j =>
      rw [q] at hd
      obtain ⟨_, rfl⟩ := rngD_get q
      cases hd
      exact ⟨H01, Pu.refl e1, .int _⟩⟩
theorem di_range1 {n : Int} (hg : Bn X "range" (.type "range")) (h : DV X kx e ρ M (.int n)) (h1 : -(2 ^ 62) ≤ n) (h2 : n < 2 ^ 62) (hs : starEach [e] X.env = [(false, eval e X.env)] := by rfl) : DI X kx tg (.Call (.Name "range" p) [e] [] pos) ρ M ((rngD 0 n.toNat).map D.int) := fun σ H H0 t s W tk hx R q =>
  sI.by (pi_range1 hg.gl hg.mg (pa_s [e]) hs) ((da_cons h da_nil hs : DA X kx [e] ρ M [.int n]) σ H H0 t s W tk hx _ fun vs H' H0' p r => by
    obtain ⟨v, rfl, r1⟩ := repA1 r
    cases r1
    exact ⟨n, rfl, h1, h2, q _ H' H0' p wk_range⟩)
/-! ### for -/
def forP (Inv : Nat → Ro → Mem → Prop) (i : Nat) (P : Out → Mem → Prop) : Out → Mem → Prop
  | .nx ρ, M => Inv (i + 1) ρ M
  | .ct ρ, M => Inv (i + 1) ρ M
  | .bk ρ, M => P (.nx ρ) M
  | .rt d, M => P (.rt d) M
theorem ds1_for {N : List Str} {sc : Scope} {k : Nat} {body : List Stmt} {ds : List D} (B : Bd X N sc k) (Inv : Nat → Ro → Mem → Prop) (hi : DI X kx tg e ρ M ds) (h0 : Inv 0 ρ M)
    (hs : ∀ (i : Nat) d ρ1 M1, ds[i]? = some d → Inv i ρ1 M1 → ∃ ts ρ2, DG X tg ts d ρ1 ρ2 ∧ DS X kx body ρ2 M1 (forP Inv i P)) (hd : ∀ ρ1 M1, Inv ds.length ρ1 M1 → P (.nx ρ1) M1)
    (hf : ∀ x, foldedSetIterable e X.env x = pure x := by intro _; rfl) : DS1 X kx (.For tg e body [] pos) ρ M P := fun σ H H0 t s W tk hx D cn =>
  sS.by (ps_for B.po B.calm (pi_s tg e) (pg_s tg) (pss_s body) hf) (hi σ H H0 t s W tk hx _ fun J HJ H0J pJ w => by
    obtain ⟨G, Y, w, hG, hY⟩ := w
    have tJ := t.pu pJ
    refine for_it w (fun i σ' H' => ∃ H0' ρ' M', Go H0J HJ M H0' H' M' ∧ Ht X.K H0' H' M' ∧ Sl X.K H0' σ' ρ' ∧ Inv i ρ' M') ⟨H0J, ρ, M, Go.refl, tJ, s.mo pJ.e0, h0⟩ (fun i σ' H' _ ⟨H0', ρ', M', g, t', _, _⟩ => hG H' (g.e0.trans t'.ex)) ?_ ?_
    · rintro i x σ1 H1 H2 hi ⟨H01, ρ1, M1, g1, t1, s1, inv⟩ y
      have hdd : ds[i]? = some ds[i] := List.getElem?_eq_getElem hi
      obtain ⟨H02, p2, r2⟩ := hY i H1 x H2 H01 _ g1.e0 t1.ex hdd y
      obtain ⟨ts, ρ2, hg, hb⟩ := hs i _ ρ1 M1 hdd inv
      have t2 := t1.pu p2
      have g2 := pJ.go.trans (g1.trans p2.go)
      refine hg σ1 H2 H02 x t2.ex (s1.mo p2.e0) r2 _ fun σ2 s2 _ => hb σ2 H2 H02 t2 s2 W tk (hx.step g2) _ ?_
      have gJ := g1.trans p2.go
      exact ⟨fun σ' H' H0' ρ' M' g t' s' q => ⟨H0', ρ', M', gJ.trans g, t', s', q⟩, fun σ' H' H0' ρ' M' g t' s' q => cn.nx σ' H' H0' ρ' M' (g2.trans g) t' s' q,
        fun σ' H' H0' ρ' M' g t' s' q => ⟨H0', ρ', M', gJ.trans g, t', s', q⟩, fun v H' H0' d M' g t' r q => cn.rt v H' H0' d M' (g2.trans g) t' r q⟩
    · rintro σ1 H1 ⟨H01, ρ1, M1, g1, t1, s1, inv⟩
      exact cn.nx σ1 H1 H01 ρ1 M1 (pJ.go.trans g1) t1 s1 (hd ρ1 M1 inv))
/-- a walk over typed things -/
theorem ds1_forT {α : Type} {xs : List α} {enc : α → D} {N : List Str} {sc : Scope} {k : Nat} {body : List Stmt} (B : Bd X N sc k) (Inv : Nat → Ro → Mem → Prop) (hi : DI X kx tg e ρ M (xs.map enc)) (h0 : Inv 0 ρ M)
    (hs : ∀ (i : Nat) x ρ1 M1, xs[i]? = some x → Inv i ρ1 M1 → ∃ ts ρ2, DG X tg ts (enc x) ρ1 ρ2 ∧ DS X kx body ρ2 M1 (forP Inv i P)) (hd : ∀ ρ1 M1, Inv xs.length ρ1 M1 → P (.nx ρ1) M1)
    (hf : ∀ x, foldedSetIterable e X.env x = pure x := by intro _; rfl) : DS1 X kx (.For tg e body [] pos) ρ M P :=
  ds1_for B Inv hi h0 (fun i d ρ1 M1 h inv => by
    rw [List.getElem?_map] at h
    cases q : xs[i]? with
    | none => rw [q] at h; cases h
    | some x =>
      rw [q] at h
      cases h
      exact hs i x ρ1 M1 q inv) (fun ρ1 M1 inv => hd ρ1 M1 (by rw [List.length_map] at inv; exact inv)) hf
/-- slots forgotten, place by place -/
def FgtL : Ro → Ro → Prop
  | [], [] => True
  | x :: xs, y :: ys => (y = none ∨ x = y) ∧ FgtL xs ys
  | _, _ => False
theorem FgtL.fgt : ∀ {ρ ρ' : Ro}, FgtL ρ ρ' → Fgt ρ ρ'
  | [], [], _ => ⟨rfl, fun i d h => by simp at h⟩
  | x :: xs, y :: ys, ⟨h, r⟩ => by
    obtain ⟨h1, h2⟩ := FgtL.fgt r
    refine ⟨by rw [List.length_cons, List.length_cons, h1], fun i d e => ?_⟩
    cases i with
    | zero =>
      rcases h with h | h
      · subst h; simp at e
      · subst h; exact e
    | succ i => exact h2 i d (by simpa using e)
  | [], _ :: _, h => h.elim
  | _ :: _, [], h => h.elim
/-- a loop that carries a state: the slots R, what may change Mf -/
def foldP {β : Type} (R : β → Ro) (Mf : β → Mem) (J : Nat → β → Prop) (i : Nat) (st : β) (P : Out → Mem → Prop) : Out → Mem → Prop
  | .nx ρ, M => FgtL ρ (R st) ∧ M = Mf st ∧ J (i + 1) st
  | .ct ρ, M => FgtL ρ (R st) ∧ M = Mf st ∧ J (i + 1) st
  | .bk ρ, M => P (.nx ρ) M
  | .rt d, M => P (.rt d) M
theorem then_fgt {rest : List Stmt} : ∀ ρ1 ρ2 M1, Fgt ρ1 ρ2 → thenP X kx rest P (.nx ρ2) M1 → thenP X kx rest P (.nx ρ1) M1 := fun ρ1 ρ2 M1 f h => DS.fgt h f
/-! ### while -/
def whP (Inv : Nat → Ro → Mem → Prop) (m : Nat) (P : Out → Mem → Prop) : Out → Mem → Prop
  | .nx ρ, M => ∃ m', m' < m ∧ Inv m' ρ M
  | .ct ρ, M => ∃ m', m' < m ∧ Inv m' ρ M
  | .bk ρ, M => P (.nx ρ) M
  | .rt d, M => P (.rt d) M
/-! ### comprehensions -/
theorem dts_nil : DTs X kx [] ρ M true := fun σ H H0 t s W tk hx Q q => sTs.by pts_nil (q H H0 (Pu.refl t.ex))
def wipeD (ρ : Ro) : List Nat → Ro
  | [] => ρ
  | v :: vs => (wipeD ρ vs).set v none
theorem Sl.clr {K : Frag} {H0 : Hp} {σ : L2.St} {ρ : Ro} (h : Sl K H0 σ ρ) (i : Nat) : Sl K H0 (σ.set i none) (ρ.set i none) := by
  refine ⟨by rw [List.length_set, List.length_set]; exact h.1, fun j d' e => ?_⟩
  by_cases hj : i = j
  · subst hj
    by_cases hi : i < ρ.length
    · rw [List.getElem?_set_self hi] at e; cases e
    · rw [List.getElem?_eq_none (by rw [List.length_set]; omega)] at e; cases e
  · rw [List.getElem?_set_ne hj] at e ⊢
    exact h.2 j d' e
theorem Sl.wipe {K : Frag} {H0 : Hp} {σ : L2.St} {ρ : Ro} (h : Sl K H0 σ ρ) : ∀ vs, Sl K H0 (L2.wipe σ vs) (wipeD ρ vs)
  | [] => h
  | v :: vs => (Sl.wipe h vs).clr v
theorem takesN {X : Cx} : Takes X (fun _ _ _ _ => False) := fun _ _ x => by
  obtain ⟨_, _, _, _, _, _, _, _, _, _, _, _, _, _, _, _, z⟩ := x
  exact z.elim
/-- a block's own place -/
abbrev Cx.bk (X : Cx) (csc : Scope) (s : Shared) (H : Hp) (C : Addr) (cl : List (Str × Addr)) (fp : List Addr) : Cx := X.blk s H csc (compEnvC csc cl C X.env) fp
theorem Bd.blk {N : List Str} {sc csc : Scope} {k : Nat} (B : Bd X N sc k) (s : Shared) (H : Hp) (C : Addr) (cl : List (Str × Addr)) (fp : List Addr) : Bd (Cx.bk X csc s H C cl fp) N (relS csc sc) k where
  hN := B.hN
  hnd := B.hnd
  hsc := by
    rw [← B.hsc]
    rfl
  calm := B.calm
  room := B.room
  po := PassesOwn.never
theorem wipe_wipe (σ : L2.St) (vs : List Nat) : L2.wipe (L2.wipe σ vs) vs = L2.wipe σ vs := by
  refine List.ext_getElem? fun j => ?_
  rw [wipe_at, wipe_at, wipe_length]
  by_cases hj : j ∈ vs ∧ j < σ.length
  · rw [if_pos hj, if_pos hj]
  · rw [if_neg hj]
def uG (X : Cx) (csc : Scope) (tg : Expr) : TG := fun v σ H Q => ∀ s H' C cl fp, sG (Cx.bk X csc s H' C cl fp) tg v σ H Q
def uT (X : Cx) (csc : Scope) (ifs : List Expr) : TT := fun σ H Q => ∀ s H' C cl fp, sTs (Cx.bk X csc s H' C cl fp) ifs σ H Q
def uE (X : Cx) (csc : Scope) (elt : Expr) : TE := fun σ H Q => ∀ s H' C cl fp, sE (Cx.bk X csc s H' C cl fp) elt σ H Q
section
variable {α : Type} {N : List Str} {sc csc : Scope} {k : Nat}
def outs (xs : List α) (cnd : α → Bool) (f : α → D) : List D := (xs.filter cnd).map f
theorem outs_yes {xs : List α} {cnd : α → Bool} {f : α → D} {i : Nat} {x : α} (h : xs[i]? = some x) (hc : cnd x = true) : outs (xs.take (i + 1)) cnd f = outs (xs.take i) cnd f ++ [f x] := by
  unfold outs
  rw [List.take_add_one, h, Option.toList_some, List.filter_append, List.map_append, List.filter_cons, if_pos hc] <;> rfl
theorem outs_no {xs : List α} {cnd : α → Bool} {f : α → D} {i : Nat} {x : α} (h : xs[i]? = some x) (hc : cnd x = false) : outs (xs.take (i + 1)) cnd f = outs (xs.take i) cnd f := by
  unfold outs
  rw [List.take_add_one, h, Option.toList_some, List.filter_append, List.map_append, List.filter_cons, if_neg (by rw [hc]; decide)]
  show _ ++ [] = _
  rw [List.append_nil]
theorem outs_len (xs : List α) (cnd : α → Bool) (f : α → D) : (outs xs cnd f).length ≤ xs.length := by
  unfold outs
  rw [List.length_map]
  exact List.length_filter_le _ _
/-- what a clause does, for every place it may stand at -/
def LcB (X : Cx) (N : List Str) (sc csc : Scope) (k : Nat) (own : List (Str × Nat)) (tg elt : Expr) (ifs : List Expr) (ρ : Ro) (M : Mem) (d : D) (b : Bool) (z : D) : Prop :=
  ∃ ts ρ2, (∀ i ∈ ts, i ∈ own.map (·.2)) ∧ ∀ s H C cl fp w acc, Bd (Cx.bk X csc s H C cl fp) N (relS csc sc) k → DG (Cx.bk X csc s H C cl fp) tg ts d (wipeD ρ (own.map (·.2))) ρ2 ∧ DTs (Cx.bk X csc s H C cl fp) kx0 ifs ρ2 ((w, .lst acc) :: M) b ∧
    (b = true → DV (Cx.bk X csc s H C cl fp) kx0 elt ρ2 ((w, .lst acc) :: M) z)
/-- the reading of a block, uniform -/
theorem lc_read {own : List (Str × Nat)} {elt : Expr} {ifs : List Expr} {xs : List α} {enc : α → D} {cnd : α → Bool} {f : α → D} {σ : L2.St} {H H0 : Hp} {W : WX} {Q : VK}
    (hi : DI X kx tg e ρ M (xs.map enc)) (B : Bd X N sc k) (hl : xs.length < sizeLine) (h : ∀ x, x ∈ xs → LcB X N sc csc k own tg elt ifs ρ M (enc x) (cnd x) (f x))
    (t : Ht X.K H0 H M) (s : Sl X.K H0 σ ρ) (tk : Takes X W) (hx : Hx X W H0 H M kx) (q : ∀ w H' H0', Go H0 H M H0' H' ((w, .lst (outs xs cnd f)) :: M) → Ht X.K H0' H' ((w, .lst (outs xs cnd f)) :: M) → w ∉ M.dom → Sm H H' → Q (.ref w) H') :
    tLc (sI X tg e) (uG X csc tg) (uT X csc ifs) (uE X csc elt) (own.map (·.2)) σ H Q := by
  refine hi σ H H0 t s W tk hx _ fun J HJ H0J pJ w => ?_
  intro L hL
  obtain ⟨G, Y, w, hG, hY⟩ := w
  rw [List.length_map] at w
  have tJ := t.pu pJ
  have hL0 := tJ.free hL
  refine lc_it (g := uG X csc tg) (tt := uT X csc ifs) (te := uE X csc elt) (vs := own.map (·.2)) (σ := σ) (D := L) (H1 := HJ) (Qd := fun H' => Q (.ref L) H') w (fun i H' => ∃ H0' acc, Pu H0J HJ H0' (upd H' L (.lst [])) ∧ H0' L = none ∧ H' L = some (.lst acc) ∧ RepA X.K H0' acc (outs (xs.take i) cnd f) ∧ Same H0' H' ∧ Sm HJ H') ?_ ?_ ?_ ?_
  · refine ⟨H0J, [], ?_, hL0.1, upd_same, .nil, pJ.ex.trans (same_new hL), Same.sm (same_new hL)⟩
    rw [upd_upd]
    exact ⟨Same.refl _, Same.sm (same_new hL), pJ.ex.trans (same_new hL), fun _ h _ => h, fun b e => NdefX.upd_none e, fun t => t.new hL⟩
  · rintro i H' _ ⟨H0', acc, p, _, _, _, e, _⟩
    exact hG H' (p.e0.trans e)
  · rintro i x H1 H2 hi2 ⟨H01, acc, p1, n1, l1, r1, e1, k1⟩ y
    have hx2 : xs[i]? = some xs[i] := List.getElem?_eq_getElem hi2
    have hdd : (xs.map enc)[i]? = some (enc xs[i]) := by rw [List.getElem?_map, hx2]; rfl
    obtain ⟨H02, p2, r2⟩ := hY i H1 x H2 H01 _ p1.e0 e1 hdd y
    obtain ⟨ts, ρ2, hts, hb⟩ := h xs[i] (List.getElem_mem hi2)
    have l2 : H2 L = some (.lst acc) := p2.k l1
    have n2 : H02 L = none := p2.new L n1 (by rw [l1]; exact trivial)
    have tb1 : TB H01 H1 := (p1.tb tJ.tb).back l1
    -- the state within: the list among what may change
    have tt : ∀ {Ha H0a : Hp}, Pu H02 H2 H0a Ha → Ht X.K H0a Ha ((L, .lst (outs (xs.take i) cnd f)) :: M) := fun {Ha H0a} pa => by
      have lA : Ha L = some (.lst acc) := pa.k l2
      refine ⟨pa.ex, List.nodup_cons.mpr ⟨hL0.2, t.nd⟩, fun m hm => ?_, pa.tb (p2.tb tb1)⟩
      rcases List.mem_cons.mp hm with rfl | hm
      · exact ⟨pa.new L n2 (by rw [l2]; exact trivial), acc, lA, r1.mo (p2.e0.trans pa.e0)⟩
      · obtain ⟨m1, m2⟩ := tJ.mem m hm
        obtain ⟨o, ho⟩ := m2.there
        have nb : NTb o := NT.ntb (by rw [← ho]; exact m2.nt)
        have o1 := k1 _ _ ho nb
        have o2 := p2.e _ _ o1 nb
        have z1 : H01 m.1 = none := p1.new _ m1 m2.nt
        refine ⟨pa.new _ (p2.new _ z1 (m2.nt.keep fun o e n => k1 _ _ e n)) ((m2.nt.keep fun o e n => k1 _ _ e n).keep fun o e n => p2.e _ _ e n), m2.mono (p1.e0.trans (p2.e0.trans pa.e0)) fun o' e' n => ?_⟩
        exact pa.e _ _ (p2.e _ _ (k1 _ _ e' n) n) n
    have sw : Sl X.K H02 (L2.wipe σ (own.map (·.2))) (wipeD ρ (own.map (·.2))) := (s.wipe _).mo (pJ.e0.trans (p1.e0.trans p2.e0))
    intro s' H' C cl fp
    refine (hb s' H' C cl fp L (outs (xs.take i) cnd f) (B.blk s' H' C cl fp)).1 _ H2 H02 x p2.ex sw r2 _ fun σ2 s2 bt => ⟨(bt _ hts).trans (wipe_wipe σ _), ?_⟩
    intro s'' H'' C' cl' fp'
    refine (hb s'' H'' C' cl' fp' L (outs (xs.take i) cnd f) (B.blk s'' H'' C' cl' fp')).2.1 σ2 H2 H02 (tt (Pu.refl p2.ex)) s2 _ takesN Hx.none _ fun H3 H03 p3 => ?_
    have p13 := p2.trans p3
    have back : ∀ {Ha H0a : Hp} {l : List V}, Pu H01 H1 H0a Ha → Pu H0J HJ H0a (upd (upd Ha L (.lst l)) L (.lst [])) := fun {Ha H0a l} pa => by
      have na : H0a L = none := pa.new L n1 (by rw [l1]; exact trivial)
      rw [upd_upd]
      refine ⟨p1.e0.trans pa.e0, fun b o eb n => ?_, fun b o eb => ?_, fun b h1 h2 => ?_, fun b eb => ?_, fun t => ((pa.tb tb1).chg (NX.of (pa.k l1)) _)⟩
      · rw [upd_ne (ne_of_none eb hL)]; exact pa.e _ _ (k1 _ _ eb n) n
      · rw [upd_ne (ne_of_none eb na)]; exact pa.ex _ _ eb
      · exact pa.new b (p1.new b h1 h2) (h2.keep fun o e n => k1 _ _ e n)
      · have z := pa.there b (NdefX.upd_none eb)
        refine p1.there b ?_
        have bl : b ≠ L := fun y => by rw [y, l1] at z; cases z
        rw [upd_ne bl]; exact z
    have keep : ∀ {Ha H0a : Hp} {l : List V}, Pu H01 H1 H0a Ha → Sm HJ (upd Ha L (.lst l)) := fun {Ha H0a l} pa a o ea n => by
      rw [upd_ne (ne_of_none ea hL)]; exact pa.e _ _ (k1 _ _ ea n) n
    have same : ∀ {Ha H0a : Hp} {l : List V}, Pu H01 H1 H0a Ha → Same H0a (upd Ha L (.lst l)) := fun {Ha H0a l} pa b o eb => by
      have na : H0a L = none := pa.new L n1 (by rw [l1]; exact trivial)
      rw [upd_ne (ne_of_none eb na)]; exact pa.ex _ _ eb
    have nl : ∀ {Ha H0a : Hp}, Pu H01 H1 H0a Ha → H0a L = none := fun {Ha H0a} pa => pa.new L n1 (by rw [l1]; exact trivial)
    cases hc : cnd xs[i] with
    | true =>
      refine iteT ?_
      intro s3 H3' C3 cl3 fp3
      refine (hb s3 H3' C3 cl3 fp3 L (outs (xs.take i) cnd f) (B.blk s3 H3' C3 cl3 fp3)).2.2 hc σ2 H3 H03 (tt p3) (s2.mo p3.e0) _ takesN Hx.none _ fun v H4 H04 p4 r4 => ?_
      have p14 := p13.trans p4
      refine ⟨acc, p14.k l1, ?_, H04, acc ++ [v], back p14, nl p14, upd_same, ?_, same p14, keep p14⟩
      · have e2 := r1.length
        have e3 := outs_len (xs.take i) cnd f
        rw [List.length_take] at e3
        omega
      · rw [outs_yes hx2 hc]
        exact (r1.mo p14.e0).app (.one r4)
    | false =>
      refine iteF ⟨H03, acc, ?_, nl p13, p13.k l1, ?_, p13.ex, fun a o ea n => p13.e _ _ (k1 _ _ ea n) n⟩
      · have z := back (l := acc) p13
        rw [upd_upd] at z
        exact z
      · rw [outs_no hx2 hc]
        exact r1.mo p13.e0
  · rintro H' ⟨H0', acc, p, n, l, r, e, kk⟩
    rw [List.take_length] at r
    have g : Go H0J HJ M H0' H' ((L, .lst (outs xs cnd f)) :: M) := by
      refine ⟨p.e0, fun b o eb _ n => kk _ _ eb n, fun b h1 h2 _ => p.new b h1 h2, fun b hb => ?_, fun b eb => ?_⟩
      · rcases List.mem_cons.mp (show b ∈ L :: M.dom from hb) with rfl | hb
        · exact .inr hL
        · exact .inl hb
      · refine p.there b ?_
        have bl : b ≠ L := fun y => by rw [y, l] at eb; cases eb
        rw [upd_ne bl]; exact eb
    refine q L H' H0' (pJ.go.trans g) ⟨e, List.nodup_cons.mpr ⟨hL0.2, t.nd⟩, fun m hm => ?_, (p.tb tJ.tb).back l⟩ hL0.2 (pJ.e.trans kk)
    rcases List.mem_cons.mp hm with rfl | hm
    · exact ⟨n, acc, l, r⟩
    · obtain ⟨m1, m2⟩ := tJ.mem m hm
      obtain ⟨o, ho⟩ := m2.there
      exact ⟨p.new _ m1 m2.nt, m2.mono p.e0 fun o' e' n => kk _ _ e' n⟩
end
end
/-! ### what may change no more -/
section
variable {K : Frag} {H0 H : Hp} {M : Mem}
theorem Ht.frz (t : Ht K H0 H M) {w : Addr} {ds : List D} (h : (w, Mu.lst ds) ∈ M) : ∃ H0', Same H0 H0' ∧ Ht K H0' H (M.filter fun p => decide (p.1 ≠ w)) ∧ Rep K H0' (.ref w) (.lst ds) ∧ Go H0 H M H0' H (M.filter fun p => decide (p.1 ≠ w)) := by
  obtain ⟨h0, vs, h1, h2⟩ := t.mem _ h
  have sm : Same H0 (upd H0 w (.lst vs)) := same_new h0
  have sub : ∀ q ∈ M.filter fun p => decide (p.1 ≠ w), q ∈ M ∧ q.1 ≠ w := fun q hq => by
    obtain ⟨a, b⟩ := List.mem_filter.mp hq
    exact ⟨a, of_decide_eq_true b⟩
  refine ⟨_, sm, ⟨fun b o e => ?_, ?_, fun q hq => ?_, t.tb.frz h1⟩, .lst upd_same (h2.mo sm), ⟨sm, fun _ _ e _ _ => e, fun a a1 a2 a3 => ?_, fun a ha => ?_, fun _ e => e⟩⟩
  · by_cases hb : b = w
    · subst hb; rw [upd_same] at e; cases e; exact h1
    · rw [upd_ne hb] at e; exact t.ex _ _ e
  · exact t.nd.sublist (List.Sublist.map _ List.filter_sublist)
  · obtain ⟨a, b⟩ := sub q hq
    obtain ⟨c, d⟩ := t.mem q a
    exact ⟨by rw [upd_ne b]; exact c, d.mono sm fun _ e _ => e⟩
  · rw [upd_ne (fun z => a3 (by rw [z]; exact List.mem_map.mpr ⟨_, h, rfl⟩))]; exact a1
  · obtain ⟨q, hq, rfl⟩ := List.mem_map.mp ha
    exact .inl (List.mem_map.mpr ⟨q, (sub q hq).1, rfl⟩)
end
end Dl

namespace Dl
open PySem PySem.Spec PyProof.Rows L2
/-! ### promises -/
/-- a def that changes nothing of what stood -/
def spP (K : Frag) {α : Type} (args : α → List D) (pre : α → Prop) (post : α → D → Prop) (ex : α → Value → List (Str × D) → Prop) : Sp := fun vs H Q E =>
  ∃ x H0, (Same H0 H ∧ TB H0 H) ∧ RepA K H0 vs (args x) ∧ pre x ∧ (∀ v H' H0' d, Pu H0 H H0' H' → Rep K H0' v d → post x d → Q v H') ∧
    (∀ cls dd H' H0' fs, Pu H0 H H0' H' → XRep K H0' H' dd fs → ex x cls fs → E cls dd H')
/-- a def that changes what stands at Mi -/
def spM (K : Frag) {α : Type} (args : α → List D) (Mi : α → Mem) (pre : α → Prop) (post : α → D → Mem → Prop) (ex : α → Value → List (Str × D) → Mem → Prop) : Sp := fun vs H Q E =>
  ∃ x H0, Ht K H0 H (Mi x) ∧ RepA K H0 vs (args x) ∧ pre x ∧ (∀ v H' H0' d M', Go H0 H (Mi x) H0' H' M' → Ht K H0' H' M' → Rep K H0' v d → post x d M' → Q v H') ∧
    (∀ cls dd H' H0' fs M', Go H0 H (Mi x) H0' H' M' → Ht K H0' H' M' → XRep K H0' H' dd fs → ex x cls fs M' → E cls dd H')
def startD (N : List Str) (ds : List D) : Ro := ds.map some ++ List.replicate (N.length - ds.length) none
def retP (post : D → Mem → Prop) : Out → Mem → Prop
  | .rt d, M => post d M
  | .nx _, M => post .non M
  | .bk _, _ => False
  | .ct _, _ => False
theorem start_rep {K : Frag} {H0 : Hp} {N : List Str} {vs : List V} {ds : List D} (r : RepA K H0 vs ds) : Sl K H0 (L2.start N vs) (startD N ds) := by
  unfold L2.start startD
  refine ⟨by simp [r.length], fun i d h => ?_⟩
  by_cases hi : i < ds.length
  · rw [List.getElem?_append_left (by simpa using hi), List.getElem?_map] at h
    rw [List.getElem?_append_left (by rw [List.length_map, r.length]; exact hi), List.getElem?_map]
    cases e : ds[i]? with
    | none => rw [e] at h; cases h
    | some d' =>
      rw [e] at h
      cases h
      obtain ⟨v, h1, h2⟩ := r.get e
      exact ⟨v, by rw [h1]; rfl, h2⟩
  · rw [List.getElem?_append_right (by simpa using hi)] at h
    have h2 := List.mem_of_getElem? h
    have h3 := List.eq_of_mem_replicate h2
    cases h3
section
variable {P : Program} {w : World} {K : Frag} {mg : Str → Option Value} {base : Heap} {α : Type}
theorem bd_of {qual : Str} {sc : Scope} {N ps : List Str} {k : Nat} {f : Addr} {cd : Value} {A : Around} {outer : List Env} {s : Shared} {H : Hp} {E : XK} (S : FnScope N ps sc) (hr : Room k (A.deeper (envOfC qual sc s.heap.objs.size f cd))) :
    Bd (cxOf (L2.CX P w) P w K mg base N qual sc f cd A outer s H E) N sc k ∧ Bf (cxOf (L2.CX P w) P w K mg base N qual sc f cd A outer s H E) :=
  ⟨⟨rfl, S.nd, rfl, rfl, hr, passes_of rfl⟩, ⟨fun _ => rfl, rfl, rfl⟩⟩
theorem fn_p {x qual : Str} {st : Stmt} {f : Addr} {fd : FuncData} {N ps : List Str} {k : Nat} {args : α → List D} {pre : α → Prop} {post : α → D → Prop} {ex : α → Value → List (Str × D) → Prop} (F : Fun K x qual st f fd) (S : FnScope N ps (defScope st)) (hl : ∀ a, (args a).length = ps.length)
    (body : ∀ X : Cx, X.prog = P → X.w = w → X.K = K → X.mg = mg → X.base = base → Bd X N (defScope st) k → Bf X → ∀ a, pre a → DS X (fun cls fs _ _ => ex a cls fs) (defBody st) (startD N (args a)) [] (retP fun d _ => post a d)) :
    FnOk P w K mg base (L2.CX P w) (k + 1) f fd ps (spP K args pre post ex) := by
  refine F.okX S (fun vs H Q E h => ?_) (fun cdv A outer s H vs Q E hr hsp => ?_)
  · obtain ⟨x, H0, _, r, _⟩ := h
    rw [r.length, hl]
  · obtain ⟨x, H0, hs, r, hp, hq, he⟩ := hsp
    obtain ⟨B, Fz⟩ := bd_of (P := P) (w := w) (K := K) (mg := mg) (base := base) (outer := outer) (H := H) (E := E) S hr
    refine ⟨_, pss_s _, body _ rfl rfl rfl rfl rfl B Fz x hp (L2.start N vs) H H0 (Ht.emp hs.1 hs.2) (start_rep r) (fun cls d _ H => E cls d H) (takes_of rfl rfl rfl rfl) (fun cls dd σ' H' H0' fs ρ' M' g t s' xr e => he cls dd H' H0' fs (g.pu t) xr e) _ ?_⟩
    exact ⟨fun σ' H' H0' ρ' M' g t _ p => hq .non H' H0' .non (g.pu t) .non p, fun _ _ _ _ _ _ _ _ p => p.elim, fun _ _ _ _ _ _ _ _ p => p.elim, fun v H' H0' d M' g t r p => hq v H' H0' d (g.pu t) r p⟩
end
/-- a global def, with the values dvs for its last parameters -/
def GF (P : Program) (w : World) (K : Frag) (mg : Str → Option Value) (base : Heap) (k : Nat) (x : Str) (dvs : List D) (sp : Sp) : Prop :=
  ∃ (f : Addr) (fd : FuncData) (ps : List Str) (ds : List Value) (vs : List V), mg x = some (.ref f) ∧ PySem.W.keepIn K (.ref f) = true ∧ FnOk P w K mg base (L2.CX P w) k f fd ps sp ∧ Binds K fd ps ds ∧ Vals vs ds ∧ ∀ H, RepA K H vs dvs
def GM (P : Program) (w : World) (K : Frag) (mg : Str → Option Value) (base : Heap) (k : Nat) (C : Addr) (m : Str) (dvs : List D) (sp : Sp) : Prop :=
  ∃ (f : Addr) (fd : FuncData) (ps : List Str) (ds : List Value) (vs : List V), Meth K C m f ∧ FnOk P w K mg base (L2.CX P w) k f fd ps sp ∧ Binds K fd ps ds ∧ Vals vs ds ∧ ∀ H, RepA K H vs dvs
def GC (P : Program) (w : World) (K : Frag) (mg : Str → Option Value) (base : Heap) (k : Nat) (C : Addr) (dvs : List D) (sp : Sp) : Prop :=
  ∃ (f : Addr) (fd : FuncData) (ps : List Str) (ds : List Value) (vs : List V), Mk K C f ∧ FnOk P w K mg base (L2.CX P w) k f fd ps sp ∧ Binds K fd ps ds ∧ Vals vs ds ∧ ∀ H, RepA K H vs dvs
section
variable {P : Program} {w : World} {K : Frag} {mg : Str → Option Value} {base : Heap} {j k : Nat} {x : Str} {dvs : List D} {sp sp' : Sp}
theorem GF.imp (g : GF P w K mg base k x dvs sp) (h : ∀ vs H Q E, sp' vs H Q E → sp vs H Q E) : GF P w K mg base k x dvs sp' :=
  let ⟨f, fd, ps, ds, vs, h1, h2, h3, h4⟩ := g
  ⟨f, fd, ps, ds, vs, h1, h2, h3.imp h, h4⟩
end
section
variable {X : Cx} {kx : XD} {ρ ρ' ρ'' : Ro} {M M' : Mem} {Pp : Out → Mem → Prop} {pos p apos : Pos} {e o : Expr} {es : List Expr} {y z : D} {α : Type} {k : Nat} {x m : Str} {C : Addr} {dvs ds : List D}
  {args : α → List D} {pre : α → Prop} {post : α → D → Prop} {ex : α → Value → List (Str × D) → Prop} {Mi : α → Mem} {postM : α → D → Mem → Prop} {exM : α → Value → List (Str × D) → Mem → Prop}
/-- what a promise gives to a caller at its slots -/
theorem spP_use {σ : L2.St} {H H0 : Hp} {vs us : List V} {W : WX} {Q : VK} (t : Ht X.K H0 H M) (s : Sl X.K H0 σ ρ) (hx : Hx X W H0 H M kx) (r : RepA X.K H0 vs ds) (ru : RepA X.K H0 us dvs) (a : α) (ha : args a = ds ++ dvs) (hp : pre a)
    (hex : ∀ cls fs, ex a cls fs → kx cls fs ρ M) (q : ∀ v H' H0' d, Pu H0 H H0' H' → Rep X.K H0' v d → post a d → Q v H') : spP X.K args pre post ex (vs ++ us) H Q (WE W σ) :=
  ⟨a, H0, ⟨t.ex, t.tb⟩, by rw [ha]; exact r.app ru, hp, fun v H' H0' d p rr pp => q v H' H0' d p rr pp, fun cls dd H' H0' fs p xr e => hx cls dd σ H' H0' fs ρ M p.go (t.pu p) (s.mo p.e0) xr (hex cls fs e)⟩
/-- the frame: what a callee leaves alone -/
theorem frame_of {K : Frag} {H0 H H0' H' : Hp} {Ma Mb F : Mem} (t : Ht K H0 H (Ma ++ F)) (g : Go H0 H Ma H0' H' Mb) (t' : Ht K H0' H' Mb) : Go H0 H (Ma ++ F) H0' H' (Mb ++ F) ∧ Ht K H0' H' (Mb ++ F) := by
  have nd := t.nd
  have dd : Mem.dom (Ma ++ F) = Mem.dom Ma ++ Mem.dom F := by simp [Mem.dom]
  have dd2 : Mem.dom (Mb ++ F) = Mem.dom Mb ++ Mem.dom F := by simp [Mem.dom]
  rw [dd] at nd
  obtain ⟨n1, n2, n3⟩ := List.nodup_append.mp nd
  have there : ∀ q ∈ F, ∃ o, H q.1 = some o := fun q hq => (t.mem q (List.mem_append_right _ hq)).2.there
  have out : ∀ q ∈ F, q.1 ∉ Ma.dom := fun q hq h => n3 q.1 h q.1 (List.mem_map.mpr ⟨q, hq, rfl⟩) rfl
  refine ⟨⟨g.e0, fun b o e hb n => g.e b o e (fun z => hb (by rw [dd]; exact List.mem_append_left _ z)) n, fun a h1 h2 h3 => g.new a h1 h2 fun z => h3 (by rw [dd]; exact List.mem_append_left _ z), fun a ha => ?_, g.there⟩, ⟨t'.ex, ?_, fun q hq => ?_, t'.tb⟩⟩
  · rw [dd2] at ha
    rw [dd]
    rcases List.mem_append.mp ha with ha | ha
    · exact (g.dom a ha).imp (List.mem_append_left _) id
    · exact .inl (List.mem_append_right _ ha)
  · rw [dd2]
    refine List.nodup_append.mpr ⟨t'.nd, n2, fun a ha b hb e => ?_⟩
    subst e
    rcases g.dom a ha with z | z
    · exact n3 a z a hb rfl
    · obtain ⟨q, hq, rfl⟩ := List.mem_map.mp hb
      obtain ⟨o, ho⟩ := there q hq
      rw [z] at ho; cases ho
  · rcases List.mem_append.mp hq with hq | hq
    · exact t'.mem q hq
    · obtain ⟨m1, m2⟩ := t.mem q (List.mem_append_right _ hq)
      obtain ⟨o, ho⟩ := there q hq
      exact ⟨g.new _ m1 m2.nt (out q hq), m2.mono g.e0 fun o e n => g.e _ _ e (out q hq) n⟩
theorem Ht.left {K : Frag} {H0 H : Hp} {Ma F : Mem} (t : Ht K H0 H (Ma ++ F)) : Ht K H0 H Ma :=
  ⟨t.ex, by
    have h := t.nd
    rw [show Mem.dom (Ma ++ F) = Mem.dom Ma ++ Mem.dom F by simp [Mem.dom]] at h
    exact (List.nodup_append.mp h).1, fun q hq => t.mem q (List.mem_append_left _ hq), t.tb⟩
/-! ### f(e, ..) -/
theorem call_e {n : Nat} {sp : Sp} (G : GF X.prog X.w X.K X.mg X.base k x dvs sp) (hr : Room k X.A) (hg : Gl X x) {σ : L2.St} {H H0 : Hp} {Q : VK} {W : WX} (t : Ht X.K H0 H M) (s : Sl X.K H0 σ ρ) (tk : Takes X W) (hx : Hx X W H0 H M kx) (ha : DA X kx (e :: es) ρ M ds)
    (h : ∀ vs us H1 H01, Pu H0 H H01 H1 → RepA X.K H01 vs ds → RepA X.K H01 us dvs → sp (vs ++ us) H1 Q (WE W σ)) (hdb : (x == ("__debug__" : Str)) = false := by decide)
    (he : starEach (e :: es) X.env = (false, eval e X.env) :: starEach es X.env := by rfl) (hpl : (backTo pos (starEach es X.env)).any (·.1) = false := by rfl) : sE X (.Call (.Name x p) (e :: es) [] pos) σ H Q := by
  obtain ⟨f, fd, ps, dv, vd, g1, g2, g3, g4, g5, g6⟩ := G
  refine fun pins st I => wpAny_Call_Name_kw (ld_glob I hg g1 ?_ hdb)
  refine PySem.W.callWith_K (h₀ := X.base) I.ok.mod.kin g2 (thn ((pa_s (e :: es)).run pos pins st σ H (fun vs H' => ∃ H01, Pu H0 H H01 H' ∧ RepA X.K H01 vs ds) I (ha σ H H0 t s W tk hx _ fun vs H' H0' p r => ⟨H0', p, r⟩)) fun us s1 ⟨vs, H1, I1, r, H01, p1, q1⟩ => ⟨I1.kIn, ?_⟩) he hpl
  exact run_fnSD (E := WE W) g3 hr g4 g5 (passAt tk σ) I1 r (h vs vd H1 H01 p1 q1 (g6 _))
theorem dv_call (G : GF X.prog X.w X.K X.mg X.base k x dvs (spP X.K args pre post ex)) (hr : Room k X.A) (hg : Gl X x) (ha : DA X kx (e :: es) ρ M ds) (a : α) (hargs : args a = ds ++ dvs) (hp : pre a) (hz : ∀ d, post a d → d = z) (hex : ∀ cls fs, ex a cls fs → kx cls fs ρ M)
    (hdb : (x == ("__debug__" : Str)) = false := by decide) (he : starEach (e :: es) X.env = (false, eval e X.env) :: starEach es X.env := by rfl) (hpl : (backTo pos (starEach es X.env)).any (·.1) = false := by rfl) : DV X kx (.Call (.Name x p) (e :: es) [] pos) ρ M z := fun σ H H0 t s W tk hx Q q =>
  call_e (n := 0) G hr hg t s tk hx ha (fun vs us H1 H01 p1 r ru => spP_use (t.pu p1) (s.mo p1.e0) (hx.pu p1) r ru a hargs hp hex fun v H' H0' d p2 rr pp => q v H' H0' (p1.trans p2) (by rw [← hz d pp]; exact rr)) hdb he hpl
/-- one of the answers that may be -/
theorem de_call {kk : D → Mem → Prop} (G : GF X.prog X.w X.K X.mg X.base k x dvs (spP X.K args pre post ex)) (hr : Room k X.A) (hg : Gl X x) (ha : DA X kx (e :: es) ρ M ds) (a : α) (hargs : args a = ds ++ dvs) (hp : pre a) (hz : ∀ d, post a d → kk d M) (hex : ∀ cls fs, ex a cls fs → kx cls fs ρ M)
    (hdb : (x == ("__debug__" : Str)) = false := by decide) (he : starEach (e :: es) X.env = (false, eval e X.env) :: starEach es X.env := by rfl) (hpl : (backTo pos (starEach es X.env)).any (·.1) = false := by rfl) : DE X kx (.Call (.Name x p) (e :: es) [] pos) ρ M kk := fun σ H H0 t s W tk hx Q q =>
  call_e (n := 0) G hr hg t s tk hx ha (fun vs us H1 H01 p1 r ru => spP_use (t.pu p1) (s.mo p1.e0) (hx.pu p1) r ru a hargs hp hex fun v H' H0' d p2 rr pp => q v H' H0' d M (p1.trans p2).go (t.pu (p1.trans p2)) rr (hz d pp)) hdb he hpl
/-! ### objects -/
/-- an object of the class C with the fields ns -/
inductive Obj (M : Mem) : D → Addr → List Str → List D → Prop
  | ins (C : Addr) (ns : List Str) (ds : List D) : Obj M (.ins C ns ds) C ns ds
  | adr {a C : Addr} {ns : List Str} {ds : List D} : (a, Mu.ins C ns ds) ∈ M → Obj M (.adr a) C ns ds
theorem Obj.rep {H H0 : Hp} {v : V} {ns : List Str} (h : Obj M y C ns ds) (t : Ht X.K H0 H M) (r : Rep X.K H0 v y) : ∃ (a dx : Addr) (vs : List (Str × V)) (xs : List V), v = .ref a ∧ H a = some (.ins C dx vs) ∧ vs.map Prod.fst = ns ∧ vs.map Prod.snd = xs ∧ RepA X.K H0 xs ds := by
  cases h with
  | ins C ns ds => cases r with | ins a b c d => exact ⟨_, _, _, _, rfl, t.ex _ _ a, b, c, d⟩
  | adr hm =>
    cases r
    obtain ⟨_, dx, vs, xs, h1, h2, h3, h4⟩ := t.mem _ hm
    exact ⟨_, dx, vs, xs, rfl, h1, h2, h3, h4⟩
section
variable {ns : List Str} {fs : List D} {pl : Sem Bool}
end
end
end Dl

namespace Dl
open PySem PySem.Spec PyProof.Rows L2
section
variable {K : Frag} {H0 H : Hp} {M : Mem}
theorem set_dom {M : Mem} {i : Nat} {p : Addr} {m m' : Mu} (h : M[i]? = some (p, m)) : Mem.dom (M.set i (p, m')) = M.dom := by
  refine List.ext_getElem? fun j => ?_
  rw [List.getElem?_map, List.getElem?_map]
  by_cases e : i = j
  · subst e
    rw [List.getElem?_set_self (List.getElem?_eq_some_iff.mp h).1, h]; rfl
  · rw [List.getElem?_set_ne e]
theorem Ht.setM (t : Ht K H0 H M) {i : Nat} {p : Addr} {o : HO} {m m' : Mu} (h : M[i]? = some (p, m)) (hm : ∀ H', H' p = some o → MuRep K H0 H' p m') : Ht K H0 (upd H p o) (M.set i (p, m')) ∧ Go H0 H M H0 (upd H p o) (M.set i (p, m')) := by
  have hp : p ∈ M.dom := List.mem_map.mpr ⟨_, List.mem_of_getElem? h, rfl⟩
  have h0 : H0 p = none := (t.mem _ (List.mem_of_getElem? h)).1
  have nx := (t.mem _ (List.mem_of_getElem? h)).2.nx
  refine ⟨⟨fun b u e => ?_, by rw [set_dom h]; exact t.nd, fun q hq => ?_, t.tb.chg nx _⟩, ⟨Same.refl _, fun b u e hb _ => ?_, fun _ h _ _ => h, fun b hb => .inl (by rw [set_dom h] at hb; exact hb), fun b e => NdefX.upd_none e⟩⟩
  · rw [upd_ne (fun z => by rw [z, h0] at e; cases e)]; exact t.ex _ _ e
  · obtain ⟨j, hj⟩ := List.mem_iff_getElem?.mp hq
    by_cases e : i = j
    · subst e
      rw [List.getElem?_set_self (List.getElem?_eq_some_iff.mp h).1] at hj
      cases hj
      exact ⟨h0, hm _ upd_same⟩
    · rw [List.getElem?_set_ne e] at hj
      have hq2 := List.mem_of_getElem? hj
      obtain ⟨a, b⟩ := t.mem q hq2
      refine ⟨a, b.mono (Same.refl _) fun o' q' _ => ?_⟩
      rw [upd_ne (fun z => ?_)]
      · exact q'
      · -- two places of one address
        have d1 : (M.dom)[i]? = some p := by rw [List.getElem?_map, h]; rfl
        have d2 : (M.dom)[j]? = some p := by rw [List.getElem?_map, hj]; show some q.1 = some p; rw [z]
        exact e (nodup_at t.nd d1 d2)
  · rw [upd_ne (fun z => hb (by rw [z]; exact hp))]; exact e
where
  nodup_at {l : List Addr} (n : l.Nodup) {i j : Nat} {p : Addr} (a : l[i]? = some p) (b : l[j]? = some p) : i = j := by
    obtain ⟨h1, e1⟩ := List.getElem?_eq_some_iff.mp a
    obtain ⟨h2, e2⟩ := List.getElem?_eq_some_iff.mp b
    exact (List.getElem_inj n).mp (e1.trans e2.symm)
end
section
variable {X : Cx} {kx : XD} {ρ ρ' ρ'' : Ro} {M M' : Mem} {P : Out → Mem → Prop} {pos p apos tpos : Pos} {a b c e o : Expr} {es : List Expr} {x y z d : D} {ds : List D} {w : Addr}
/-- xs.append(e) -/
theorem de_app {i : Nat} {k : D → Mem → Prop} (ho : DV X kx o ρ M (.adr w)) (hv : DV X kx e ρ M d) (hm : M[i]? = some (w, .lst ds)) (hl : ds.length < sizeLine) (hk : k .non (M.set i (w, .lst (ds ++ [d]))))
    (hb : attributeBase o "append" X.env (eval o X.env) = eval o X.env := by rfl)
    (hfew : ((backTo pos (starEach [e] X.env)).all (fun x => !x.1) && (backToKw pos (keywordEach [] X.env)).all (fun x => x.1.isSome) && decide ([e].length + ([] : List Keyword).length + (if ([] : List Keyword).isEmpty then 0 else 1) < 30)) = true := by rfl)
    (hline : (apos.endLine == pos.line) = true := by rfl) (hs : starEach [e] X.env = (false, eval e X.env) :: starEach [] X.env := by rfl) : DE X kx (.Call (.Attribute o "append" apos) [e] [] pos) ρ M k := fun σ H H0 t s W tk hx Q q =>
  sE.by (pe_bm PySem.F.plainAttrs_list PySem.F.slot_list_append PySem.F.type_list_append mt_append (pe_s o) (pa_s [e]) hb hfew hline hs rfl) (ho σ H H0 t s W tk hx _ fun v H1 H01 p1 r1 => by
    cases r1
    obtain ⟨_, vs, h1, h2⟩ := (t.pu p1).mem _ (List.mem_of_getElem? hm)
    refine ⟨.inl ⟨rfl, vs, SqL.of h1⟩, (da_cons hv da_nil hs : DA X kx [e] ρ M [d]) σ H1 H01 (t.pu p1) (s.mo p1.e0) W tk (hx.pu p1) _ fun us H2 H02 p2 r2 => ?_⟩
    obtain ⟨u, rfl, ru⟩ := repA1 r2
    have g1 := p2.k h1
    obtain ⟨t3, g3⟩ := (t.pu (p1.trans p2)).setM (o := .lst (vs ++ [u])) (m' := .lst (ds ++ [d])) hm fun H' e => ⟨vs ++ [u], e, (h2.mo p2.e0).app (.one ru)⟩
    exact ⟨w, vs, u, rfl, rfl, g1, by rw [h2.length]; exact hl, q .non _ H02 _ _ ((p1.trans p2).go.trans g3) t3 .non hk⟩)
theorem ds1_app {i : Nat} (ho : DV X kx o ρ M (.adr w)) (hv : DV X kx e ρ M d) (hm : M[i]? = some (w, .lst ds)) (hl : ds.length < sizeLine) (hk : P (.nx ρ) (M.set i (w, .lst (ds ++ [d]))))
    (hb : attributeBase o "append" X.env (eval o X.env) = eval o X.env := by rfl)
    (hfew : ((backTo pos (starEach [e] X.env)).all (fun x => !x.1) && (backToKw pos (keywordEach [] X.env)).all (fun x => x.1.isSome) && decide ([e].length + ([] : List Keyword).length + (if ([] : List Keyword).isEmpty then 0 else 1) < 30)) = true := by rfl)
    (hline : (apos.endLine == pos.line) = true := by rfl) (hs : starEach [e] X.env = (false, eval e X.env) :: starEach [] X.env := by rfl)
    (hs2 : swapsWith (.Call (.Attribute o "append" apos) [e] [] pos) none tpos.line X.env = pure false := by rfl) : DS1 X kx (.Expr (.Call (.Attribute o "append" apos) [e] [] pos) tpos) ρ M P :=
  ds1_expr (de_app (k := fun d' m => d' = .non ∧ m = M.set i (w, .lst (ds ++ [d]))) ho hv hm hl ⟨rfl, rfl⟩ hb hfew hline hs) (fun d' m ⟨_, e⟩ => by rw [e]; exact hk) hs2
/-- the list at w, in the slot j, will not change any more -/
theorem ds_frz {sts : List Stmt} (i j : Nat) (hm : M[i]? = some (w, .lst ds)) (hj : ρ[j]? = some (some (.adr w))) (h : DS X kx sts (ρ.set j (some (.lst ds))) (M.eraseIdx i) P) : DS X kx sts ρ M P := fun σ H H0 t s W tk hx D c => by
  obtain ⟨h0, vs, h1, h2⟩ := t.mem _ (List.mem_of_getElem? hm)
  have sm : Same H0 (upd H0 w (.lst vs)) := same_new h0
  have nd : (M.dom)[i]? = some w := by rw [List.getElem?_map, hm]; rfl
  have t' : Ht X.K (upd H0 w (.lst vs)) H (M.eraseIdx i) := by
    refine ⟨fun b o e => ?_, ?_, fun q hq => ?_, t.tb.frz h1⟩
    · by_cases hb : b = w
      · subst hb; rw [upd_same] at e; cases e; exact h1
      · rw [upd_ne hb] at e; exact t.ex _ _ e
    · exact t.nd.sublist (List.Sublist.map _ (List.eraseIdx_sublist _ _))
    · have hq1 : q ∈ M := List.mem_of_mem_eraseIdx hq
      have ne : q.1 ≠ w := fun z => by
        obtain ⟨j', hj', e1⟩ := List.mem_eraseIdx_iff_getElem?.mp hq
        have d2 : (M.dom)[j']? = some w := by rw [List.getElem?_map, e1]; show some q.1 = some w; rw [z]
        exact hj' (Ht.setM.nodup_at t.nd d2 nd)
      obtain ⟨a, b⟩ := t.mem q hq1
      exact ⟨by rw [upd_ne ne]; exact a, b.mono sm fun _ e _ => e⟩
  have g : Go H0 H M (upd H0 w (.lst vs)) H (M.eraseIdx i) := by
    refine ⟨sm, fun _ _ e _ _ => e, fun a a1 a2 a3 => ?_, fun a ha => ?_, fun _ e => e⟩
    · rw [upd_ne (fun z => a3 (by rw [z]; exact List.mem_map.mpr ⟨_, List.mem_of_getElem? hm, rfl⟩))]; exact a1
    · obtain ⟨q, hq, rfl⟩ := List.mem_map.mp ha
      exact .inl (List.mem_map.mpr ⟨q, List.mem_of_mem_eraseIdx hq, rfl⟩)
  obtain ⟨v, e1, r1⟩ := s.2 j _ hj
  cases r1
  have s' : Sl X.K (upd H0 w (.lst vs)) σ (ρ.set j (some (.lst ds))) := by
    have z := (s.mo sm).set (v := .ref w) (d := .lst ds) (.lst upd_same (h2.mo sm)) j
    have e2 : σ.set j (some (.ref w)) = σ := by
      refine List.ext_getElem? fun k => ?_
      by_cases hk : j = k
      · subst hk; rw [List.getElem?_set_self (List.getElem?_eq_some_iff.mp e1).1, e1]
      · rw [List.getElem?_set_ne hk]
    rw [e2] at z
    exact z
  exact h σ H _ t' s' W tk (hx.step g) D (c.step g)
/-! ### o.f = e -/
def putD (f : Str) (d : D) : List Str → List D → List Str × List D
  | n :: ns, x :: xs => if n = f then (n :: ns, d :: xs) else ((n :: (putD f d ns xs).1), (x :: (putD f d ns xs).2))
  | _, _ => ([f], [d])
end
/-! ### what is left behind a def: that it never changes any more -/
section
variable {K : Frag} {H0 H : Hp} {M : Mem}
theorem Ht.frz1 (t : Ht K H0 H M) {i : Nat} {w : Addr} {ds : List D} (hm : M[i]? = some (w, .lst ds)) : ∃ H0', Same H0 H0' ∧ Ht K H0' H (M.eraseIdx i) ∧ Rep K H0' (.ref w) (.lst ds) ∧ Go H0 H M H0' H (M.eraseIdx i) := by
  obtain ⟨h0, vs, h1, h2⟩ := t.mem _ (List.mem_of_getElem? hm)
  have sm : Same H0 (upd H0 w (.lst vs)) := same_new h0
  have nd : (M.dom)[i]? = some w := by rw [List.getElem?_map, hm]; rfl
  refine ⟨_, sm, ⟨fun b o e => ?_, t.nd.sublist (List.Sublist.map _ (List.eraseIdx_sublist _ _)), fun q hq => ?_, t.tb.frz h1⟩, .lst upd_same (h2.mo sm), ⟨sm, fun _ _ e _ _ => e, fun a a1 a2 a3 => ?_, fun a ha => ?_, fun _ e => e⟩⟩
  · by_cases hb : b = w
    · subst hb; rw [upd_same] at e; cases e; exact h1
    · rw [upd_ne hb] at e; exact t.ex _ _ e
  · have ne : q.1 ≠ w := fun z => by
      obtain ⟨j', hj', e1⟩ := List.mem_eraseIdx_iff_getElem?.mp hq
      have d2 : (M.dom)[j']? = some w := by rw [List.getElem?_map, e1]; show some q.1 = some w; rw [z]
      exact hj' (Ht.setM.nodup_at t.nd d2 nd)
    obtain ⟨a, b⟩ := t.mem q (List.mem_of_mem_eraseIdx hq)
    exact ⟨by rw [upd_ne ne]; exact a, b.mono sm fun _ e _ => e⟩
  · rw [upd_ne (fun z => a3 (by rw [z]; exact List.mem_map.mpr ⟨_, List.mem_of_getElem? hm, rfl⟩))]; exact a1
  · obtain ⟨q, hq, rfl⟩ := List.mem_map.mp ha
    exact .inl (List.mem_map.mpr ⟨q, List.mem_of_mem_eraseIdx hq, rfl⟩)
variable {X : Cx} {kx : XD} {ρ : Ro} {e : Expr}
/-- what an expression made and may change, is laid for ever -/
theorem DE.frz {k k' : D → Mem → Prop} (h : DE X kx e ρ M k') (hk : ∀ d m, k' d m → ∃ w ds i, d = .adr w ∧ m[i]? = some (w, .lst ds) ∧ k (.lst ds) (m.eraseIdx i)) : DE X kx e ρ M k := fun σ H H0 t s W tk hx Q q =>
  h σ H H0 t s W tk hx Q fun v H' H0' d M' g t' r kk => by
    obtain ⟨w, ds, i, rfl, hm, k2⟩ := hk d M' kk
    cases r
    obtain ⟨H0s, sm, t2, r2, g2⟩ := t'.frz1 hm
    exact q _ H' H0s _ _ (g.trans g2) t2 r2 k2
/-- a list that is made and never changed: a value -/
theorem DE.dv {d : D} (h : DE X kx e ρ M fun d' m => d' = d ∧ m = M) (hp : ∀ (H0 H H0' H' : Hp), Ht X.K H0 H M → Go H0 H M H0' H' M → Ht X.K H0' H' M → Pu H0 H H0' H') : DV X kx e ρ M d := fun σ H H0 t s W tk hx Q q =>
  h σ H H0 t s W tk hx Q fun v H' H0' d' M' g t' r ⟨e1, e2⟩ => by subst e1; subst e2; exact q v H' H0' (hp _ _ _ _ t g t') r
end
section
variable {X : Cx} {kx : XD} {ρ : Ro} {M : Mem} {pos : Pos} {α : Type} {N : List Str} {sc csc : Scope} {k : Nat} {tg e : Expr}
/-- [elt for tg in e if ..], a list that never changes -/
theorem dv_lc {own : List (Str × Nat)} {elt : Expr} {ifs : List Expr} {xs : List α} {enc : α → D} {cnd : α → Bool} {f : α → D} (B : Bd X N sc k) (hi : DI X kx tg e ρ M (xs.map enc)) (ok : BlkOk N sc csc own) (hl : xs.length < sizeLine)
    (h : ∀ x, x ∈ xs → LcB X N sc csc k own tg elt ifs ρ M (enc x) (cnd x) (f x)) (hs : ∀ x, foldedSetIterable e X.env x = pure x := by intro _; rfl) : DV X kx (.ListComp elt [⟨tg, e, ifs, 0⟩] csc pos) ρ M (.lst (outs xs cnd f)) := fun σ H H0 t s W tk hx Q q => by
  refine sE.by (pe_lc (g := uG X csc tg) (tt := uT X csc ifs) (te := uE X csc elt) B.calm (by rw [B.hN]; exact B.hnd) (pi_s tg e) (by rw [B.hN, B.hsc]; exact ok) (fun s H C cl fp => ?_) (fun s H C cl fp => ?_) (fun s H C cl fp => ?_) hs) ?_
  · exact ⟨fun pins s' σ' H' v u Q' I r h => h s H C cl fp pins s' u I r⟩
  · exact ⟨fun pins s' σ' H' Q' I h => h s H C cl fp pins s' I⟩
  · exact ⟨fun pins s' σ' H' Q' I h => h s H C cl fp pins s' I⟩
  · refine lc_read (cnd := cnd) (f := f) hi B hl h t s tk hx fun w H' H0' g t' hw hk => ?_
    obtain ⟨H0s, sm, t2, r2, g2⟩ := t'.frz1 (i := 0) rfl
    have g3 := g.trans g2
    refine q (.ref w) H' H0s ⟨g3.e0, hk, t2.ex, fun a h1 h2 => ?_, g3.there, fun _ => t2.tb⟩ r2
    by_cases ha : a ∈ M.dom
    · obtain ⟨m, hm, rfl⟩ := List.mem_map.mp ha
      exact (t2.mem m hm).1
    · exact g3.new a h1 h2 ha
end
end Dl

namespace Dl
open PySem PySem.Spec PyProof.Rows L2
/-! ### built-ins by name -/
theorem bt_len : bootBuiltins "len" = some (.builtin "len") := by first | exact PySem.boot_len | exact PyProof.Rows.boot_len | exact PySem.W.boot_len | exact PySem.Calls.boot_len | decide +kernel
theorem bt_all : bootBuiltins "all" = some (.builtin "all") := by first | exact PySem.boot_all | exact PyProof.Rows.boot_all | exact PySem.W.boot_all | exact PySem.Calls.boot_all | decide +kernel
theorem bt_isinstance : bootBuiltins "isinstance" = some (.builtin "isinstance") := by first | exact PySem.boot_isinstance | exact PyProof.Rows.boot_isinstance | exact PySem.W.boot_isinstance | exact PySem.Calls.boot_isinstance | decide +kernel
theorem bt_list : bootBuiltins "list" = some (.type "list") := by first | exact PySem.boot_list | exact PyProof.Rows.boot_list | exact PySem.W.boot_list | exact PySem.Calls.boot_list | decide +kernel
theorem bt_bool : bootBuiltins "bool" = some (.type "bool") := by first | exact PySem.boot_bool | exact PyProof.Rows.boot_bool | exact PySem.W.boot_bool | exact PySem.Calls.boot_bool | decide +kernel
theorem bt_str : bootBuiltins "str" = some (.type "str") := by first | exact PySem.boot_str | exact PyProof.Rows.boot_str | exact PySem.W.boot_str | exact PySem.Calls.boot_str | decide +kernel
theorem bt_range : bootBuiltins "range" = some (.type "range") := by first | exact PySem.boot_range | exact PyProof.Rows.boot_range | exact PySem.W.boot_range | exact PySem.Calls.boot_range | decide +kernel
/-! ### a def of the top -/
/-- the def st stands at the name x with all its parameters given -/
def FunT (K : Frag) (mg : Str → Option Value) (x : Str) (st : Stmt) (ps : List Str) : Prop := ∃ f fd, Fun K x x st f fd ∧ mg x = some (.ref f) ∧ Binds K fd ps []
theorem FunT.gf {P : Program} {w : World} {K : Frag} {mg : Str → Option Value} {base : Heap} {x : Str} {st : Stmt} {ps : List Str} {k : Nat} {sp : Sp} (T : FunT K mg x st ps) (h : ∀ f fd, Fun K x x st f fd → FnOk P w K mg base (L2.CX P w) k f fd ps sp) : GF P w K mg base k x [] sp := by
  obtain ⟨f, fd, F, g, b⟩ := T
  exact ⟨f, fd, ps, [], [], g, F.kp, h f fd F, b, .nil, fun _ => .nil⟩
theorem fscope {N ps : List Str} {sc : Scope} (h : (match sc.kind with | .function => true | _ => false) && !sc.isCoroutine && !sc.isGenerator && decide N.Nodup && decide (N.take ps.length = ps) &&
    (ps.all fun x => match sc.names.lookup x with | some .local => true | some .cell => true | _ => false) && (sc.names.all fun y => match y.2 with | .free => false | _ => true)) : FnScope N ps sc := by
  simp only [Bool.and_eq_true, List.all_eq_true, decide_eq_true_eq, Bool.not_eq_true'] at h
  obtain ⟨⟨⟨⟨⟨⟨h1, h2⟩, h3⟩, h4⟩, h5⟩, h6⟩, h7⟩ := h
  refine ⟨?_, h2, h3, h4, h5, fun x hx => ?_, fun y hy e => ?_⟩
  · split at h1
    · assumption
    · cases h1
  · have q := h6 x hx
    split at q
    · exact .inl (by assumption)
    · exact .inr (by assumption)
    · cases q
  · have q := h7 y hy
    rw [e] at q; cases q
theorem vloc {sc : Scope} {x : Str} (h : sc.names.lookup x = some .local) : Vis sc x := .inl h
theorem vcel {sc : Scope} {x : Str} (h : sc.names.lookup x = some .cell) : Vis sc x := .inr (.inl h)
/-! ### least and greatest -/
def minI (l : List Int) : Int := (l.min?).getD 0
def maxI (l : List Int) : Int := (l.max?).getD 0
section
variable {X : Cx} {kx : XD} {ρ ρ' ρ'' : Ro} {M M' : Mem} {P : Out → Mem → Prop} {pos p : Pos} {tg a b c e : Expr} {es : List Expr} {x y z : D} {f : Str}
/-- an item at an open place -/
theorem atI_map {α : Type} {xs : List α} {f : α → D} {i : Int} {v : α} (h0 : 0 ≤ i) (h : xs[i.toNat]? = some v) : atI (xs.map f) i = some (f v) := by
  have e : i = ((i.toNat : Nat) : Int) := by omega
  rw [e]
  exact atI_nat (by rw [List.getElem?_map, h]; rfl)
theorem atI_neg {α : Type} {xs : List α} {f : α → D} {i : Int} (v : α) (h0 : i < 0) (h : -(xs.length : Int) ≤ i) : atI (xs.map f) i = some (f (xs.getD (i + xs.length).toNat v)) := by
  unfold atI ixN
  rw [List.length_map, if_neg (by omega), if_pos h, Option.bind_some, List.getElem?_map, List.getD_eq_getElem?_getD, List.getElem?_eq_getElem (by omega)]; rfl
/-- a menu of numbers -/
def menu (l : List Int) (i : Int) : Int := l.getD i.toNat 0
/-! ### lists put together -/
theorem r2_cat {ds us : List D} (h1 : SeqO M x ds) (h2 : SeqO M y us) (hl : ds.length + us.length ≤ sizeLine) : R2D X.K rCat M x y (.lst (ds ++ us)) := fun v u H H0 t r1 r2 Q q => by
  obtain ⟨p1, xs, rfl, a1, b1⟩ := h1.rep t r1
  obtain ⟨p2, ys, rfl, a2, b2⟩ := h2.rep t r2
  refine ⟨p1, p2, xs, ys, rfl, rfl, a1, a2, by rw [b1.length, b2.length]; exact hl, fun w hw => ?_⟩
  have g := Pu.new1 t.ex hw (.lst (xs ++ ys))
  exact q _ _ _ g (.lst upd_same ((b1.app b2).mo g.e0))
theorem dv_cat {ds us : List D} (ha : DV X kx a ρ M x) (hb : DV X kx b ρ M y) (h1 : SeqO M x ds) (h2 : SeqO M y us) (hl : ds.length + us.length ≤ sizeLine) : DV X kx (.BinOp a .Add b pos) ρ M (.lst (ds ++ us)) := dv_op op_cat (r2_cat h1 h2 hl) ha hb
end
/-! ### side conditions -/
theorem szN {α : Type} {l : List α} (n : Nat) (h : l.length = n) (h2 : n ≤ 1000 := by decide) : l.length ≤ sizeLine := by
  rw [h, sizeLine_eq]; omega
theorem sz_le {n : Nat} (h : n ≤ 100000) : n ≤ sizeLine := by rw [sizeLine_eq]; omega
theorem sz_lt {n : Nat} (h : n ≤ 100000) : n < sizeLine := by rw [sizeLine_eq]; omega
/-- a product that is not too great -/
def MulOk (i j : Int) : Prop := CMul i j ∨ CMulW i j
theorem mok_l {i j : Int} (h1 : -(2 ^ 64) < i) (h2 : i < 2 ^ 64) : MulOk i j := .inl (.inl ⟨h1, h2⟩)
/-- below 2 ^ 300 either way -/
def Big (i : Int) : Prop := -(2 ^ 300) < i ∧ i < 2 ^ 300
theorem mok_c {i j : Int} (h : -(2 ^ 64) < i ∧ i < 2 ^ 64 ∨ -(2 ^ 64) < j ∧ j < 2 ^ 64) : MulOk i j := .inl h
theorem div_c {i j : Int} (h1 : 0 < j) (h2 : j < 2 ^ 300) : CDivW i j := wide_div (b := 300) h1 (by omega) (by decide) (by decide)
section
variable {X : Cx} {kx : XD} {ρ : Ro} {M : Mem} {P : Out → Mem → Prop} {pos p tpos : Pos} {a b c e : Expr} {i j : Int} {x d : D} {k : Bool}
theorem dv_mulX (ha : DV X kx a ρ M (.int i)) (hb : DV X kx b ρ M (.int j)) (h : MulOk i j) : DV X kx (.BinOp a .Mult b pos) ρ M (.int (i * j)) := by
  rcases h with h | h
  · exact dv_mul ha hb h
  · exact dv_mulW ha hb h
/-- x = [..], a list that will change -/
theorem ds1_newL {s : Nat} {v : Str} {p2 : Pos} {es : List Expr} {ds : List D} (nn : Ns X s v) (h : DA X kx es ρ M ds) (hl : ds.length ≤ sizeLine) (hp : ∀ w, w ∉ M.dom → P (.nx (ρ.set s (some (.adr w)))) ((w, .lst ds) :: M))
    (hs : swapsWithSole [.Name v p2] (.List es p) pos.line X.env = pure false := by rfl) (hw : swappedStores [.Name v p2] (.List es p) X.env = pure none := by rfl) : DS1 X kx (.Assign [.Name v p2] (.List es p) pos) ρ M P :=
  ds1_setE (k := fun d m => ∃ w, w ∉ M.dom ∧ d = .adr w ∧ m = (w, .lst ds) :: M) nn (de_lst h hl fun w hw => ⟨w, hw, rfl, rfl⟩) (fun d m ⟨w, h1, h2, h3⟩ => by subst h2; subst h3; exact hp w h1) hs hw
end
/-! ### the end of a law -/
theorem FunT.mk {K : Frag} {h : Heap} {mg : Str → Option Value} (X : K.In h) (G : h.Ns mainGlobals mg) {x : Str} {st : Stmt} {ps : List Str} {f : Addr} {od an : Option Addr} {sl : Array (Option Value)} {oc kV dc pm cd ct : Value}
    (a : PySem.W.nsIn K mainGlobals x = some (some (.ref f))) (l : K.lookup f = some ⟨oc, od, .func (PySem.W.fnOf x x (defArgs st) (defBody st) (defScope st) .none kV dc pm an cd ct), sl⟩) (c : PySem.W.codeIn K cd x = true) (k : PySem.W.keepIn K (.ref f) = true)
    (b : ∀ (kV doc pm : Value) (an : Option Addr) (cdv ct : Value) (us : List Value), us.length = ps.length → bindArgs (PySem.W.fnOf x x (defArgs st) (defBody st) (defScope st) .none kV doc pm an cdv ct) ⟨us, []⟩ = pure (ps.zip us)) : FunT K mg x st ps :=
  have F := fun_mk (st := st) l c k
  ⟨f, _, F, PySem.W.mg_of X G a, F.binds b⟩
/-- the promise of the law itself -/
def spLaw (K : Frag) : Sp := spP K (fun q : List Int => [.scr (q.map D.int)]) (fun q => q.length ≤ 63) (fun _ d => d = .bl true) (fun _ _ _ => False)
end Dl

namespace Dl
open PySem PySem.Spec PyProof.Rows L2
/-! ### encodings by which == is = -/
theorem pyA_map : ∀ xs : List D, D.pyA xs = xs.map D.py
  | [] => by simp [D.pyA]
  | x :: xs => by simp [D.pyA, pyA_map xs]
theorem flatA_all : ∀ xs : List D, D.flatA xs = xs.all D.flat
  | [] => by simp [D.flatA]
  | x :: xs => by simp [D.flatA, flatA_all xs]
theorem depth_all : ∀ (xs : List PyData) (n : Nat), (∀ x ∈ xs, x.depth ≤ n) → PyData.depthAll xs ≤ n
  | [], n, _ => by simp [PyData.depthAll]
  | x :: xs, n, h => by
    simp only [PyData.depthAll]
    have h1 := h x List.mem_cons_self
    have h2 := depth_all xs n fun y hy => h y (List.mem_cons_of_mem _ hy)
    omega
/-- an encoding: clean, of small depth, one to one -/
structure En {α : Type} (n : Nat) (f : α → D) : Prop where
  flat : ∀ x, (f x).flat = true
  lay : ∀ x, PyData.canLay0 (f x).py = true
  depth : ∀ x, (f x).py.depth ≤ n
  eqv : ∀ x y, PyData.eqv (f x).py (f y).py = true ↔ x = y
/-- the same of a row of things -/
structure EnL {α : Type} (n : Nat) (F : α → List D) : Prop where
  flat : ∀ x, D.flatA (F x) = true
  lay : ∀ x, PyData.canLayAll0 (D.pyA (F x)) = true
  depth : ∀ x, PyData.depthAll (D.pyA (F x)) ≤ n
  eqv : ∀ x y, PyData.eqvAll (D.pyA (F x)) (D.pyA (F y)) = true ↔ x = y
section
variable {α β : Type} {n m : Nat} {f : α → D} {F : α → List D} {G : β → List D}
theorem En.mono (h : En n f) (l : n ≤ m) : En m f := ⟨h.flat, h.lay, fun x => Nat.le_trans (h.depth x) l, h.eqv⟩
theorem En.eqs [DecidableEq α] (h : En n f) (x y : α) (hn : n ≤ 64 := by decide) : Eqs (f x) (f y) (decide (x = y)) := by
  refine ⟨h.flat x, h.flat y, ?_, ?_, ?_⟩
  · have := h.depth x
    unfold SeqAt.shaped; rw [h.lay, Bool.true_and, decide_eq_true_eq]; omega
  · have := h.depth y
    unfold SeqAt.shaped; rw [h.lay, Bool.true_and, decide_eq_true_eq]; omega
  · refine Bool.eq_iff_iff.mpr ?_
    rw [decide_eq_true_iff]; exact h.eqv x y
theorem En.refl [DecidableEq α] (h : En n f) (x : α) (hn : n ≤ 64 := by decide) : Eqs (f x) (f x) true := by
  have := h.eqs x x hn
  rw [decide_eq_true rfl] at this
  exact this
end
def dOpt {α : Type} (f : α → D) : Option α → D
  | none => .non
  | some x => f x
theorem isNon_opt {α : Type} {f : α → D} (hn : ∀ x, (f x).isNon = false) (o : Option α) : (dOpt f o).isNon = o.isNone := by
  cases o with
  | none => rfl
  | some x => exact hn x
end Dl

/-! ### list(reversed(a list)), at the library's level -/
namespace RT
open PySem PySem.Spec PySem.W PyProof.Rows PySem.Calls
section
variable {prog : Program} {w : World} {A : Around} {E : Value → Shared → Prop} {s : Shared}
end
end RT
namespace Dl
open PySem PySem.Spec PyProof.Rows L2
def cutD' {α : Type} (xs : List α) (lo hi : Option Int) : List α := (xs.drop (HT.sIx xs.length 0 lo)).take (HT.sIx xs.length xs.length hi - HT.sIx xs.length 0 lo)
theorem cutD_map {α : Type} (xs : List α) (f : α → D) (lo hi : Option Int) : cutD (xs.map f) lo hi = (cutD' xs lo hi).map f := by
  unfold cutD cutD'
  rw [List.length_map, ← List.map_drop, ← List.map_take]
section
variable {X : Cx} {kx : XD} {ρ ρ' ρ'' : Ro} {M M' : Mem} {P : Out → Mem → Prop} {pos p : Pos} {tg a b c e : Expr} {es : List Expr} {x y z : D} {f : Str} {α : Type} {xs : List α}
theorem dt_chain {op op' : CmpOp} {g g' : Int → Int → Bool} {i j k : Int} (ho : OpR X (compareOp op) (rI0 fun i j => .bl (g i j))) (ho' : OpR X (compareOp op') (rI0 fun i j => .bl (g' i j))) (ha : DV X kx a ρ M (.int i)) (hb : DV X kx b ρ M (.int j)) (hc : DV X kx c ρ M (.int k))
    (hm : lastMarks [op, op'] [b, c] = false := by with_unfolding_all rfl) : DT X kx (.Compare a [op, op'] [b, c] pos) ρ M (g i j && g' j k) := fun σ H H0 t s W tk hx Q q =>
  sT.by (pt_chain ho ho' (pe_s a) (pe_s b) (pe_s c) hm) (ha σ H H0 t s W tk hx _ fun v H1 H01 p1 r1 => hb σ H1 H01 (t.pu p1) (s.mo p1.e0) W tk (hx.pu p1) _ fun u H2 H02 p2 r2 => by
    cases r1; cases r2
    have p12 := p1.trans p2
    refine ⟨i, j, rfl, rfl, g i j, rfl, ?_⟩
    cases hg : g i j with
    | true => exact iteT (hc σ H2 H02 (t.pu p12) (s.mo p12.e0) W tk (hx.pu p12) _ fun w H3 H03 p3 r3 => by cases r3; exact ⟨j, k, rfl, rfl, _, rfl, by rw [hg, Bool.true_and] at q; exact q H3 H03 (p12.trans p3)⟩)
    | false => exact iteF ⟨false, rfl, by rw [hg, Bool.false_and] at q; exact q H2 H02 p12⟩)
end
end Dl

namespace Dl
open PySem PySem.Spec PyProof.Rows L2
section
variable {X : Cx} {kx : XD} {ρ ρ' ρ'' : Ro} {M M' : Mem} {P : Out → Mem → Prop} {pos p : Pos} {tg a b c e : Expr} {es : List Expr} {x y z : D} {f : Str} {α : Type} {xs ys : List α}
theorem dv_slM {g : α → D} {lo hi : Option Expr} {p2} {i j : Option Int} (ha : DV X kx a ρ M x) (hq : SeqL M x (xs.map g)) (hl : DO X kx lo ρ M i) (hh : DO X kx hi ρ M j) : DV X kx (.Subscript a (.Slice lo hi none p2) pos) ρ M (.lst ((cutD' xs i j).map g)) :=
  DV.is (dv_slS ha hq hl hh) (by rw [cutD_map])
theorem dv_lenM {g : α → D} (n : Bn X f (.builtin "len")) (ha : DV X kx e ρ M x) (h : SeqL M x (xs.map g)) (he : starEach [e] X.env = (false, eval e X.env) :: starEach [] X.env := by rfl) : DV X kx (.Call (.Name f p) [e] [] pos) ρ M (.int (xs.length : Int)) := by
  have h' : Seq M x (xs.map g) := by
    cases h with
    | lst _ => exact .lst _
    | scr _ => exact .scr _
    | adr q => exact .adr q
  have r := dv_len (pos := pos) (p := p) n ha h' he
  rw [List.length_map] at r
  exact r
theorem dv_catM {g : α → D} (ha : DV X kx a ρ M x) (hb : DV X kx b ρ M y) (h1 : SeqO M x (xs.map g)) (h2 : SeqO M y (ys.map g)) (hl : xs.length + ys.length ≤ sizeLine) : DV X kx (.BinOp a .Add b pos) ρ M (.lst ((xs ++ ys).map g)) := by
  rw [List.map_append]
  exact dv_cat ha hb h1 h2 (by rw [List.length_map, List.length_map]; exact hl)
end
/-! ### x = [.. for ..] -/
section
variable {X : Cx} {kx : XD} {ρ : Ro} {M : Mem} {P : Out → Mem → Prop} {pos spos py : Pos} {α : Type} {N : List Str} {sc csc : Scope} {k i : Nat} {y : Str} {tg e : Expr}
theorem outs_all {xs : List α} {f : α → D} : outs xs (fun _ => true) f = xs.map f := by unfold outs; rw [List.filter_eq_self.mpr fun _ _ => rfl]
end
end Dl

/-! what a def computes, as a plain function: it ends well, it raises, or it is out of what is promised -/
namespace Dl
open PySem PySem.Spec PyProof.Rows L2
inductive Ex (α : Type) where
  | ok (a : α) | exc (n : Str) (fs : List (Str × D)) | bad
section
variable {α β γ ρ : Type}
theorem Ex.ok_ne (a : α) : Ex.ok a ≠ .bad := fun h => by cases h
def Ex.get [Inhabited α] : Ex α → α
  | .ok a => a
  | _ => default
open Classical in
noncomputable def gd (p : Prop) (m : Ex α) : Ex α := if p then m else .bad
def bindP (m : Ex α) (k : α → Ex β) : Ex β := match m with
  | .ok a => k a
  | _ => .bad
def bindX (m : Ex α) (k : α → Ex β) : Ex β := match m with
  | .ok a => k a
  | .exc n fs => .exc n fs
  | .bad => .bad
def letE (a : α) (k : α → β) : β := k a
def jpE (k : α) (f : α → β) : β := f k
def someE (o : Option α) : Ex α := match o with
  | some a => .ok a
  | none => .bad
def andE (a : Bool) (m : Ex Bool) : Ex Bool := if a = true then m else .ok false
def orE (a : Bool) (m : Ex Bool) : Ex Bool := if a = true then .ok true else m
def ixE (xs : List α) (i : Int) : Ex α := if 0 ≤ i then someE xs[i.toNat]? else if 0 ≤ i + xs.length then someE xs[(i + xs.length).toNat]? else .bad
def foldE (f : β → α → Ex β) : β → List α → Ex β
  | z, [] => .ok z
  | z, x :: xs => bindX (f z x) fun z => foldE f z xs
inductive Ct (β ρ : Type) where
  | nx (z : β) | bk (z : β) | rt (r : ρ)
def loopE (f : β → α → Ex (Ct β ρ)) : β → List α → Ex (Ct β ρ)
  | z, [] => .ok (.nx z)
  | z, x :: xs => bindX (f z x) fun c => match c with
    | .nx z => loopE f z xs
    | .bk z => .ok (.nx z)
    | .rt r => .ok (.rt r)
/-- behind a loop -/
def ctE (c : Ct β ρ) (k : β → γ) (r : ρ → γ) : γ := match c with
  | .nx z => k z
  | .bk z => k z
  | .rt x => r x
def whileE (n : Nat) (c : β → Ex Bool) (f : β → Ex β) (z : β) : Ex β := match n with
  | 0 => .bad
  | n + 1 => bindP (c z) fun b => if b = true then bindX (f z) fun z => whileE n c f z else .ok z
def compE (c : α → Ex Bool) (f : α → Ex β) : List α → Ex (List β)
  | [] => .ok []
  | x :: xs => bindP (c x) fun b => if b = true then bindP (f x) fun y => bindP (compE c f xs) fun ys => .ok (y :: ys) else compE c f xs
/-! ### for the mathematics -/
theorem gd_ok {p : Prop} {m : Ex α} (h : p) : gd p m = m := by unfold gd; rw [if_pos h]
theorem bindP_ok {a : α} {k : α → Ex β} : bindP (.ok a) k = k a := rfl
theorem foldE_cons {f : β → α → Ex β} {z : β} {x : α} {xs : List α} : foldE f z (x :: xs) = bindX (f z x) fun z => foldE f z xs := rfl
theorem ixE_nat {xs : List α} {i : Int} {x : α} (h0 : 0 ≤ i) (h : xs[i.toNat]? = some x) : ixE xs i = .ok x := by unfold ixE; rw [if_pos h0, h]; rfl
theorem ixE_neg {xs : List α} {i : Int} {x : α} (h0 : i < 0) (h1 : 0 ≤ i + xs.length) (h : xs[(i + xs.length).toNat]? = some x) : ixE xs i = .ok x := by unfold ixE; rw [if_neg (by omega), if_pos h1, h]; rfl
/-- a loop by an invariant -/
theorem foldE_inv {f : β → α → Ex β} (J : Nat → β → Prop) : ∀ (xs : List α) (i : Nat) (z : β), J i z → (∀ j z x, xs[j]? = some x → J (i + j) z → ∃ z', f z x = .ok z' ∧ J (i + j + 1) z') → ∃ z', foldE f z xs = .ok z' ∧ J (i + xs.length) z'
  | [], i, z, h, _ => ⟨z, rfl, h⟩
  | x :: xs, i, z, h, hs => by
    obtain ⟨z1, e1, h1⟩ := hs 0 z x rfl h
    obtain ⟨z2, e2, h2⟩ := foldE_inv J xs (i + 1) z1 h1 fun j z y hy hj => by
      have e : i + 1 + j = i + (j + 1) := by omega
      rw [e] at hj ⊢
      exact hs (j + 1) z y hy hj
    refine ⟨z2, by rw [foldE_cons, e1]; exact e2, ?_⟩
    rw [List.length_cons, show i + (xs.length + 1) = i + 1 + xs.length by omega]
    exact h2
theorem foldE_inv0 {f : β → α → Ex β} (J : Nat → β → Prop) (xs : List α) (z : β) (h0 : J 0 z) (h : ∀ j z x, xs[j]? = some x → J j z → ∃ z', f z x = .ok z' ∧ J (j + 1) z') : ∃ z', foldE f z xs = .ok z' ∧ J xs.length z' := by
  have r := foldE_inv J xs 0 z h0 (fun j z x hx hj => by rw [Nat.zero_add] at hj ⊢; exact h j z x hx hj)
  rw [Nat.zero_add] at r
  exact r
theorem loopE_cons {f : β → α → Ex (Ct β ρ)} {z : β} {x : α} {xs : List α} : loopE f z (x :: xs) = bindX (f z x) fun c => match c with
    | .nx z => loopE f z xs
    | .bk z => .ok (.nx z)
    | .rt r => .ok (.rt r) := rfl
theorem loopE_inv {f : β → α → Ex (Ct β ρ)} (J : Nat → β → Prop) : ∀ (xs : List α) (i : Nat) (z : β), J i z → (∀ j z x, xs[j]? = some x → J (i + j) z → ∃ z', f z x = .ok (.nx z') ∧ J (i + j + 1) z') → ∃ z', loopE f z xs = .ok (.nx z') ∧ J (i + xs.length) z'
  | [], i, z, h, _ => ⟨z, rfl, h⟩
  | x :: xs, i, z, h, hs => by
    obtain ⟨z1, e1, h1⟩ := hs 0 z x rfl h
    obtain ⟨z2, e2, h2⟩ := loopE_inv J xs (i + 1) z1 h1 fun j z y hy hj => by
      have e : i + 1 + j = i + (j + 1) := by omega
      rw [e] at hj ⊢
      exact hs (j + 1) z y hy hj
    refine ⟨z2, by rw [loopE_cons, e1]; exact e2, ?_⟩
    rw [List.length_cons, show i + (xs.length + 1) = i + 1 + xs.length by omega]
    exact h2
theorem loopE_inv0 {f : β → α → Ex (Ct β ρ)} (J : Nat → β → Prop) (xs : List α) (z : β) (h0 : J 0 z) (h : ∀ j z x, xs[j]? = some x → J j z → ∃ z', f z x = .ok (.nx z') ∧ J (j + 1) z') : ∃ z', loopE f z xs = .ok (.nx z') ∧ J xs.length z' := by
  have r := loopE_inv J xs 0 z h0 (fun j z x hx hj => by rw [Nat.zero_add] at hj ⊢; exact h j z x hx hj)
  rw [Nat.zero_add] at r
  exact r
theorem compE_eq {c : α → Ex Bool} {f : α → Ex β} {p : α → Bool} {g : α → β} : ∀ (xs : List α), (∀ x ∈ xs, c x = .ok (p x)) → (∀ x ∈ xs, p x = true → f x = .ok (g x)) → compE c f xs = .ok ((xs.filter p).map g)
  | [], _, _ => rfl
  | x :: xs, h1, h2 => by
    unfold compE
    rw [h1 x (List.mem_cons_self ..), bindP_ok, compE_eq (p := p) (g := g) xs (fun y hy => h1 y (List.mem_cons_of_mem _ hy)) fun y hy => h2 y (List.mem_cons_of_mem _ hy)]
    cases hp : p x with
    | true => rw [if_pos rfl, h2 x (List.mem_cons_self ..) hp, List.filter_cons, if_pos hp]; rfl
    | false => rw [if_neg (by decide), List.filter_cons, if_neg (by rw [hp]; decide)]
theorem compE_map {f : α → Ex β} {g : α → β} (xs : List α) (h : ∀ x ∈ xs, f x = .ok (g x)) : compE (fun _ => .ok true) f xs = .ok (xs.map g) := by
  have r := compE_eq (p := fun _ => true) (g := g) (c := fun _ => .ok true) xs (fun _ _ => rfl) fun x hx _ => h x hx
  rw [List.filter_eq_self.mpr (fun _ _ => rfl)] at r
  exact r
/-! ### for the walk -/
theorem gd_out {p : Prop} {m out : Ex α} (h : gd p m = out) (ne : out ≠ .bad) : p ∧ m = out := by
  unfold gd at h
  split at h
  · exact ⟨‹p›, h⟩
  · exact absurd h.symm ne
theorem bindP_out {m : Ex α} {k : α → Ex β} {out : Ex β} (h : bindP m k = out) (ne : out ≠ .bad) : ∃ a, m = .ok a ∧ k a = out := by
  cases m with
  | ok a => exact ⟨a, rfl, h⟩
  | exc n fs => exact absurd h.symm ne
  | bad => exact absurd h.symm ne
theorem bindX_out {m : Ex α} {k : α → Ex β} {out : Ex β} (h : bindX m k = out) (ne : out ≠ .bad) : (∃ a, m = .ok a ∧ k a = out) ∨ ∃ n fs, m = .exc n fs ∧ out = .exc n fs := by
  cases m with
  | ok a => exact .inl ⟨a, rfl, h⟩
  | exc n fs => exact .inr ⟨n, fs, rfl, h.symm⟩
  | bad => exact absurd h.symm ne
theorem letE_out {a : α} {k : α → β} {out : β} (h : letE a k = out) : ∃ x, x = a ∧ k x = out := ⟨a, rfl, h⟩
theorem jpE_out {k : α} {f : α → β} {out : β} (h : jpE k f = out) : ∃ x, x = k ∧ f x = out := ⟨k, rfl, h⟩
theorem some_out {o : Option α} {v : α} (h : someE o = .ok v) : o = some v := by
  cases o with
  | none => cases h
  | some a => cases h; rfl
theorem ite_t {c : Bool} {A B out : Ex α} (h : (if c = true then A else B) = out) (e : c = true) : A = out := by rw [if_pos e] at h; exact h
theorem ite_f {c : Bool} {A B out : Ex α} (h : (if c = true then A else B) = out) (e : c = false) : B = out := by rw [if_neg (by rw [e]; decide)] at h; exact h
theorem compE_out [Inhabited β] {c : α → Ex Bool} {f : α → Ex β} : ∀ {xs : List α} {ys : List β}, compE c f xs = .ok ys →
    ys = (xs.filter fun x => (c x).get).map (fun x => (f x).get) ∧ ∀ x ∈ xs, ∃ b, c x = .ok b ∧ (b = true → ∃ v, f x = .ok v)
  | [], ys, h => by cases h; exact ⟨rfl, fun _ z => absurd z (by simp)⟩
  | x :: xs, ys, h => by
    unfold compE at h
    obtain ⟨b, hb, h⟩ := bindP_out h (Ex.ok_ne _)
    cases b with
    | true =>
      obtain ⟨y, hy, h⟩ := bindP_out (ite_t h rfl) (Ex.ok_ne _)
      obtain ⟨zs, hz, h⟩ := bindP_out h (Ex.ok_ne _)
      cases h
      obtain ⟨e, r⟩ := compE_out hz
      refine ⟨?_, fun z hz => ?_⟩
      · have cx : (c x).get = true := by rw [hb]; rfl
        rw [List.filter_cons, if_pos cx, List.map_cons, ← e, hy]; rfl
      · rcases List.mem_cons.mp hz with rfl | hz
        · exact ⟨true, hb, fun _ => ⟨y, hy⟩⟩
        · exact r z hz
    | false =>
      obtain ⟨e, r⟩ := compE_out (ite_f h rfl)
      refine ⟨?_, fun z hz => ?_⟩
      · have cx : ¬ (c x).get = true := by rw [hb]; exact fun z => by cases z
        rw [List.filter_cons, if_neg cx]
        exact e
      · rcases List.mem_cons.mp hz with rfl | hz
        · exact ⟨false, hb, fun z => by cases z⟩
        · exact r z hz
theorem ixE_out {xs : List α} {i : Int} {x : α} (h : ixE xs i = .ok x) (f : α → D) : atI (xs.map f) i = some (f x) := by
  unfold ixE at h
  by_cases c : 0 ≤ i
  · rw [if_pos c] at h
    exact atI_map c (some_out h)
  · rw [if_neg c] at h
    by_cases c2 : 0 ≤ i + xs.length
    · rw [if_pos c2] at h
      have e := some_out h
      have l := (List.getElem?_eq_some_iff.mp e).1
      have r := atI_neg (xs := xs) (f := f) (i := i) x (by omega) (by omega)
      rw [r, List.getD_eq_getElem?_getD, e]; rfl
    · rw [if_neg c2] at h; cases h
end
/-! ### what a def's walk ends with -/
def kxE (mg : Str → Option Value) {α : Type} (out : Ex α) : XD := fun cls fs _ _ => ∃ n, out = .exc n fs ∧ mg n = some cls
def retQ {α : Type} (enc : α → D) (out : Ex α) : Out → Mem → Prop
  | .rt d, _ => ∃ r, out = .ok r ∧ d = enc r
  | .nx _, _ => ∃ r, out = .ok r ∧ D.non = enc r
  | .bk _, _ => False
  | .ct _, _ => False
abbrev spE (K : Frag) (mg : Str → Option Value) {α β : Type} (args : α → List D) (F : α → Ex β) (enc : β → D) : Sp :=
  spP K args (fun q => F q ≠ .bad) (fun q d => ∃ r, F q = .ok r ∧ d = enc r) (fun q cls fs => ∃ n, F q = .exc n fs ∧ mg n = some cls)
section
variable {P : Program} {w : World} {K : Frag} {mg : Str → Option Value} {base : Heap} {α β : Type}
theorem fn_e {x qual : Str} {st : Stmt} {f : Addr} {fd : FuncData} {N ps : List Str} {k : Nat} {args : α → List D} {F : α → Ex β} {enc : β → D} (Fu : Fun K x qual st f fd) (S : FnScope N ps (defScope st)) (hl : ∀ a, (args a).length = ps.length)
    (body : ∀ X : Cx, X.prog = P → X.w = w → X.K = K → X.mg = mg → X.base = base → Bd X N (defScope st) k → Bf X → ∀ a out, F a = out → out ≠ .bad → DS X (kxE mg out) (defBody st) (startD N (args a)) [] (retQ enc out)) :
    FnOk P w K mg base (L2.CX P w) (k + 1) f fd ps (spE K mg args F enc) :=
  fn_p Fu S hl fun X e1 e2 e3 e4 e5 B Fz a ha => (body X e1 e2 e3 e4 e5 B Fz a _ rfl ha).imp fun o m h => by
    cases o with
    | nx ρ => exact h
    | bk ρ => exact h
    | ct ρ => exact h
    | rt d => exact h
end
section
variable {X : Cx} {kx kx' : XD} {ρ ρ' ρ'' : Ro} {M M' : Mem} {P : Out → Mem → Prop} {pos p : Pos} {tg a b c e : Expr} {es : List Expr} {x y z : D} {k l : Bool}
theorem Hx.onX {W : WX} {H0 H : Hp} (h : Hx X W H0 H M kx) (i : ∀ cls fs ρ M, kx' cls fs ρ M → kx cls fs ρ M) : Hx X W H0 H M kx' :=
  fun cls dd σ' H' H0' fs ρ' M' g t s xr q => h cls dd σ' H' H0' fs ρ' M' g t s xr (i _ _ _ _ q)
theorem DS.onX {sts : List Stmt} (h : DS X kx' sts ρ M P) (i : ∀ cls fs ρ M, kx' cls fs ρ M → kx cls fs ρ M) : DS X kx sts ρ M P :=
  fun σ H H0 t s W tk hx D c => h σ H H0 t s W tk (hx.onX i) D c
/-! loops -/
def foldQ {β : Type} (R : β → Ro) (Mf : β → Mem) (o : Ex β) : Out → Mem → Prop
  | .nx ρ, M => ∃ z, o = .ok z ∧ FgtL ρ (R z) ∧ M = Mf z
  | .ct ρ, M => ∃ z, o = .ok z ∧ FgtL ρ (R z) ∧ M = Mf z
  | .bk _, _ => False
  | .rt _, _ => False
theorem drop_get {α : Type} {xs : List α} {i : Nat} {x : α} (h : xs[i]? = some x) : xs.drop i = x :: xs.drop (i + 1) := by
  obtain ⟨h1, h2⟩ := List.getElem?_eq_some_iff.mp h
  rw [← h2]
  exact (List.drop_eq_getElem_cons h1)
theorem ds1_foldE {α β : Type} {xs : List α} {enc : α → D} {N : List Str} {sc : Scope} {k : Nat} {body : List Stmt} {f : β → α → Ex β} {st0 : β} {out : Ex β} (B : Bd X N sc k) (R : β → Ro) (Mf : β → Mem) (hF : foldE f st0 xs = out) (hne : out ≠ .bad)
    (hi : DI X kx tg e ρ M (xs.map enc)) (h0 : FgtL ρ (R st0)) (hM : M = Mf st0)
    (hs : ∀ st x o, x ∈ xs → f st x = o → o ≠ .bad → ∃ ts ρ2, DG X tg ts (enc x) (R st) ρ2 ∧ DS X (kxE X.mg o) body ρ2 (Mf st) (foldQ R Mf o))
    (hd : ∀ st', out = .ok st' → P (.nx (R st')) (Mf st')) (hx : ∀ cls fs ρ' M', kxE X.mg out cls fs ρ' M' → kx cls fs ρ' M')
    (hP : ∀ ρ1 ρ2 M1, Fgt ρ1 ρ2 → P (.nx ρ2) M1 → P (.nx ρ1) M1) (hf : ∀ x, foldedSetIterable e X.env x = pure x := by intro _; rfl) : DS1 X kx (.For tg e body [] pos) ρ M P :=
  ds1_forT B (fun i ρ1 M1 => ∃ st, FgtL ρ1 (R st) ∧ M1 = Mf st ∧ foldE f st (xs.drop i) = out) hi ⟨st0, h0, hM, hF⟩
    (fun i x ρ1 M1 hxi ⟨st, fg, m, hE⟩ => by
      subst m
      rw [drop_get hxi, foldE_cons] at hE
      have nb : f st x ≠ .bad := fun z => hne (by rw [← hE, z]; rfl)
      obtain ⟨ts, ρ2, g, b⟩ := hs st x _ (List.mem_of_getElem? hxi) rfl nb
      refine ⟨ts, ρ2, fun σ H H0 v hs s r Q q => g σ H H0 v hs (s.fgt fg.fgt) r Q q, (b.onX fun cls fs ρ' M' ⟨n, e1, e2⟩ => hx _ _ ρ' M' ⟨n, by rw [← hE, e1]; rfl, e2⟩).imp fun o m q => ?_⟩
      · cases o with
        | nx ρ =>
          obtain ⟨z, e1, e2, e3⟩ := q
          exact ⟨z, e2, e3, by rw [e1] at hE; exact hE⟩
        | ct ρ =>
          obtain ⟨z, e1, e2, e3⟩ := q
          exact ⟨z, e2, e3, by rw [e1] at hE; exact hE⟩
        | bk ρ => exact q.elim
        | rt d => exact q.elim)
    (fun ρ1 M1 ⟨st, fg, m, hE⟩ => by
      rw [List.drop_length] at hE
      subst m
      exact hP _ _ _ fg.fgt (hd st hE.symm)) hf
def loopQ {β γ : Type} (R : β → Ro) (Mf : β → Mem) (enr : γ → D) (o : Ex (Ct β γ)) : Out → Mem → Prop
  | .nx ρ, M => ∃ z, o = .ok (.nx z) ∧ FgtL ρ (R z) ∧ M = Mf z
  | .ct ρ, M => ∃ z, o = .ok (.nx z) ∧ FgtL ρ (R z) ∧ M = Mf z
  | .bk ρ, M => ∃ z, o = .ok (.bk z) ∧ FgtL ρ (R z) ∧ M = Mf z
  | .rt d, _ => ∃ r, o = .ok (.rt r) ∧ d = enr r
theorem ds1_loopE {α β γ : Type} {xs : List α} {enc : α → D} {enr : γ → D} {N : List Str} {sc : Scope} {k : Nat} {body : List Stmt} {f : β → α → Ex (Ct β γ)} {st0 : β} {out : Ex (Ct β γ)} (B : Bd X N sc k) (R : β → Ro) (Mf : β → Mem) (hF : loopE f st0 xs = out) (hne : out ≠ .bad)
    (hi : DI X kx tg e ρ M (xs.map enc)) (h0 : FgtL ρ (R st0)) (hM : M = Mf st0)
    (hs : ∀ st x o, x ∈ xs → f st x = o → o ≠ .bad → ∃ ts ρ2, DG X tg ts (enc x) (R st) ρ2 ∧ DS X (kxE X.mg o) body ρ2 (Mf st) (loopQ R Mf enr o))
    (hd : ∀ st', out = .ok (.nx st') → P (.nx (R st')) (Mf st')) (hr : ∀ r M', out = .ok (.rt r) → P (.rt (enr r)) M') (hx : ∀ cls fs ρ' M', kxE X.mg out cls fs ρ' M' → kx cls fs ρ' M')
    (hP : ∀ ρ1 ρ2 M1, Fgt ρ1 ρ2 → P (.nx ρ2) M1 → P (.nx ρ1) M1) (hf : ∀ x, foldedSetIterable e X.env x = pure x := by intro _; rfl) : DS1 X kx (.For tg e body [] pos) ρ M P :=
  ds1_forT B (fun i ρ1 M1 => ∃ st, FgtL ρ1 (R st) ∧ M1 = Mf st ∧ loopE f st (xs.drop i) = out) hi ⟨st0, h0, hM, hF⟩
    (fun i x ρ1 M1 hxi ⟨st, fg, m, hE⟩ => by
      subst m
      rw [drop_get hxi, loopE_cons] at hE
      have nb : f st x ≠ .bad := fun z => hne (by rw [← hE, z]; rfl)
      obtain ⟨ts, ρ2, g, b⟩ := hs st x _ (List.mem_of_getElem? hxi) rfl nb
      refine ⟨ts, ρ2, fun σ H H0 v hs s r Q q => g σ H H0 v hs (s.fgt fg.fgt) r Q q, (b.onX fun cls fs ρ' M' ⟨n, e1, e2⟩ => hx _ _ ρ' M' ⟨n, by rw [← hE, e1]; rfl, e2⟩).imp fun o m q => ?_⟩
      · cases o with
        | nx ρ =>
          obtain ⟨z, e1, e2, e3⟩ := q
          exact ⟨z, e2, e3, by rw [e1] at hE; exact hE⟩
        | ct ρ =>
          obtain ⟨z, e1, e2, e3⟩ := q
          exact ⟨z, e2, e3, by rw [e1] at hE; exact hE⟩
        | bk ρ =>
          obtain ⟨z, e1, e2, e3⟩ := q
          rw [e1] at hE
          subst e3
          exact hP _ _ _ e2.fgt (hd z hE.symm)
        | rt d =>
          obtain ⟨r, e1, e2⟩ := q
          rw [e1] at hE
          subst e2
          exact hr r m hE.symm)
    (fun ρ1 M1 ⟨st, fg, m, hE⟩ => by
      rw [List.drop_length] at hE
      subst m
      exact hP _ _ _ fg.fgt (hd st hE.symm)) hf
/-! parts that are looked at only if need be -/
theorem dw_orE {rest : List Expr} {m : Ex Bool} {v : Bool} (h : orE k m = .ok v) (h1 : DT X kx a ρ M k) (h2 : k = false → ∀ v, m = .ok v → DW X kx (.BoolOp .Or (b :: rest) pos) ρ M v) : DW X kx (.BoolOp .Or (a :: b :: rest) pos) ρ M v := by
  cases k with
  | false =>
    have h' : m = .ok v := h
    have r := dw_or (l := v) h1 fun e => h2 e v h'
    rw [Bool.false_or] at r
    exact r
  | true =>
    cases h
    have r := dw_or (l := true) (b := b) (rest := rest) (pos := pos) h1 fun e => by cases e
    exact r
/-! == of texts, of truths -/
theorem r2_eqs {i j : Str} : R2D X.K rEq M (.str i) (.str j) (.bl (decide (i = j))) := fun v u H H0 t r1 r2 Q q => by
  cases r1; cases r2
  refine ⟨rfl, ?_⟩
  have e : decide (V.str i = V.str j) = decide (i = j) := decide_eq_decide.mpr ⟨fun h => by injection h, fun h => by rw [h]⟩
  rw [e]
  exact q _ H H0 (Pu.refl t.ex) (.bl _)
theorem r2_nes {i j : Str} : R2D X.K rNe M (.str i) (.str j) (.bl (!decide (i = j))) := fun v u H H0 t r1 r2 Q q => by
  cases r1; cases r2
  refine ⟨rfl, ?_⟩
  have e : decide (V.str i = V.str j) = decide (i = j) := decide_eq_decide.mpr ⟨fun h => by injection h, fun h => by rw [h]⟩
  rw [e]
  exact q _ H H0 (Pu.refl t.ex) (.bl _)
theorem r2_eqb {i j : Bool} : R2D X.K rEq M (.bl i) (.bl j) (.bl (decide (i = j))) := fun v u H H0 t r1 r2 Q q => by
  cases r1; cases r2
  refine ⟨rfl, ?_⟩
  have e : decide (V.bl i = V.bl j) = decide (i = j) := decide_eq_decide.mpr ⟨fun h => by injection h, fun h => by rw [h]⟩
  rw [e]
  exact q _ H H0 (Pu.refl t.ex) (.bl _)
theorem r2_neb {i j : Bool} : R2D X.K rNe M (.bl i) (.bl j) (.bl (!decide (i = j))) := fun v u H H0 t r1 r2 Q q => by
  cases r1; cases r2
  refine ⟨rfl, ?_⟩
  have e : decide (V.bl i = V.bl j) = decide (i = j) := decide_eq_decide.mpr ⟨fun h => by injection h, fun h => by rw [h]⟩
  rw [e]
  exact q _ H H0 (Pu.refl t.ex) (.bl _)
section
variable {s t : Str} {u v : Bool}
theorem dv_eqs (ha : DV X kx a ρ M (.str s)) (hb : DV X kx b ρ M (.str t)) : DV X kx (.Compare a [.Eq] [b] pos) ρ M (.bl (decide (s = t))) := dv_cmp op_eq r2_eqs ha hb (nomark _)
theorem dt_eqs (ha : DV X kx a ρ M (.str s)) (hb : DV X kx b ρ M (.str t)) : DT X kx (.Compare a [.Eq] [b] pos) ρ M (decide (s = t)) := dt_cmp op_eq r2_eqs ha hb (nomark _)
theorem dt_nes (ha : DV X kx a ρ M (.str s)) (hb : DV X kx b ρ M (.str t)) : DT X kx (.Compare a [.NotEq] [b] pos) ρ M (!decide (s = t)) := dt_cmp op_ne r2_nes ha hb (nomark _)
theorem dv_eqb (ha : DV X kx a ρ M (.bl u)) (hb : DV X kx b ρ M (.bl v)) : DV X kx (.Compare a [.Eq] [b] pos) ρ M (.bl (decide (u = v))) := dv_cmp op_eq r2_eqb ha hb (nomark _)
theorem dt_neb (ha : DV X kx a ρ M (.bl u)) (hb : DV X kx b ρ M (.bl v)) : DT X kx (.Compare a [.NotEq] [b] pos) ρ M (!decide (u = v)) := dt_cmp op_ne r2_neb ha hb (nomark _)
end
/-! None of an Option -/
theorem dt_isNO {α : Type} {f : α → D} {o : Option α} {j p2} (hn : ∀ x, (f x).isNon = false) (h : DV X kx a ρ M (dOpt f o)) : DT X kx (.Compare a [.Is] [.Constant .none j p2] pos) ρ M o.isNone := by
  have r := dt_isN (pos := pos) (j := j) (p2 := p2) h; rw [isNon_opt hn] at r; exact r
/-! x in the place of its let -/
theorem dv_isE {α : Type} {enc : α → D} {t v : α} (h : DV X kx e ρ M (enc t)) (hv : v = t) : DV X kx e ρ M (enc v) := hv ▸ h
theorem dv_un {α : Type} {enc : α → D} {o : Option α} {v : α} (h : DV X kx e ρ M (dOpt enc o)) (hv : someE o = .ok v) : DV X kx e ρ M (enc v) := by
  rw [some_out hv] at h; exact h
theorem ds1_appM {α : Type} {g : α → D} {o e : Expr} {w : Addr} {v : α} {xs : List α} {apos cpos spos : Pos} (i : Nat) (ho : DV X kx o ρ M (.adr w)) (hv : DV X kx e ρ M (g v)) (hm : M[i]? = some (w, .lst (xs.map g))) (hl : xs.length ≤ 100000) (hk : P (.nx ρ) (M.set i (w, .lst ((xs ++ [v]).map g))))
    (hb : attributeBase o "append" X.env (eval o X.env) = eval o X.env := by rfl)
    (hfew : ((backTo cpos (starEach [e] X.env)).all (fun x => !x.1) && (backToKw cpos (keywordEach [] X.env)).all (fun x => x.1.isSome) && decide ([e].length + ([] : List Keyword).length + (if ([] : List Keyword).isEmpty then 0 else 1) < 30)) = true := by rfl)
    (hline : (apos.endLine == cpos.line) = true := by rfl) (hs : starEach [e] X.env = (false, eval e X.env) :: starEach [] X.env := by rfl)
    (hs2 : swapsWith (.Call (.Attribute o "append" apos) [e] [] cpos) none spos.line X.env = pure false := by rfl) : DS1 X kx (.Expr (.Call (.Attribute o "append" apos) [e] [] cpos) spos) ρ M P := by
  have hl' : (xs.map g).length < sizeLine := by rw [List.length_map]; exact sz_lt hl
  rw [List.map_append] at hk
  exact ds1_app (i := i) ho hv hm hl' hk hb hfew hline hs hs2
/-! ways that meet again -/
def joinQ {ι β γ : Type} (R : ι → β → Ro) (Mf : ι → β → Mem) (kf : β → Ex γ) (out : Ex γ) (P : Out → Mem → Prop) : Out → Mem → Prop
  | .nx ρ, M => ∃ a z, kf z = out ∧ FgtL ρ (R a z) ∧ M = Mf a z
  | o, M => P o M
theorem ds1_ifJ {ι β γ : Type} {A B : List Stmt} {kf : β → Ex γ} {out : Ex γ} (R : ι → β → Ro) (Mf : ι → β → Mem) (hc : DT X kx c ρ M k) (h1 : k = true → DS X kx A ρ M (joinQ R Mf kf out P)) (h2 : k = false → DS X kx B ρ M (joinQ R Mf kf out P))
    (hk : ∀ a z, kf z = out → P (.nx (R a z)) (Mf a z)) (hP : ∀ ρ1 ρ2 M1, Fgt ρ1 ρ2 → P (.nx ρ2) M1 → P (.nx ρ1) M1) : DS1 X kx (.If c A B pos) ρ M P := by
  have i : ∀ o m, joinQ R Mf kf out P o m → P o m := fun o m q => by
    cases o with
    | nx ρ1 =>
      obtain ⟨a, z, e1, e2, e3⟩ := q
      subst e3
      exact hP _ _ _ e2.fgt (hk a z e1)
    | bk ρ1 => exact q
    | ct ρ1 => exact q
    | rt d => exact q
  exact ds1_if hc (fun e => (h1 e).imp i) (fun e => (h2 e).imp i)
theorem join_nx {ι β γ : Type} {R : ι → β → Ro} {Mf : ι → β → Mem} {kf : β → Ex γ} {out : Ex γ} {P : Out → Mem → Prop} (a : ι) (z : β) (h : kf z = out) (f : FgtL ρ (R a z)) (m : M = Mf a z) : joinQ R Mf kf out P (.nx ρ) M := ⟨a, z, h, f, m⟩
theorem ret_mk {α : Type} {enc : α → D} {out : Ex α} {r : α} (h : .ok r = out) : retQ enc out (.rt (enc r)) M := ⟨r, h.symm, rfl⟩
theorem fold_nx {β : Type} {R : β → Ro} {Mf : β → Mem} {o : Ex β} {z : β} (h : .ok z = o) (f : FgtL ρ (R z)) (m : M = Mf z) : foldQ R Mf o (.nx ρ) M := ⟨z, h.symm, f, m⟩
theorem loop_nx {β γ : Type} {R : β → Ro} {Mf : β → Mem} {enr : γ → D} {o : Ex (Ct β γ)} {z : β} (h : .ok (.nx z) = o) (f : FgtL ρ (R z)) (m : M = Mf z) : loopQ R Mf enr o (.nx ρ) M := ⟨z, h.symm, f, m⟩
theorem loop_rt {β γ : Type} {R : β → Ro} {Mf : β → Mem} {enr : γ → D} {o : Ex (Ct β γ)} {r : γ} (h : .ok (.rt r) = o) : loopQ R Mf enr o (.rt (enr r)) M := ⟨r, h.symm, rfl⟩
theorem bindX_cut {α β : Type} {m : Ex α} {k : α → Ex β} {out : Ex β} (h : bindX m k = out) (ne : out ≠ .bad) : ∃ o, m = o ∧ o ≠ .bad ∧ bindX o k = out := ⟨m, rfl, fun z => ne (by rw [← h, z]; rfl), h⟩
theorem okE {α β : Type} {a : α} {k : α → Ex β} {out : Ex β} (h : bindX (.ok a) k = out) : k a = out := h
theorem nxE {α β ρ : Type} {a : α} {k : α → β} {r : ρ → β} {out : β} (h : ctE (.nx a) k r = out) : k a = out := h
theorem kx_exc {α : Type} {mg : Str → Option Value} {out : Ex α} {n : Str} {fs : List (Str × D)} {cls : Value} (h : .exc n fs = out) (e : mg n = some cls) : kxE mg out cls fs ρ M := ⟨n, h.symm, e⟩
/-! comprehensions -/
theorem lcb_E {β : Type} {cM : Ex Bool} {fM : Ex β} [Inhabited β] {ifs : List Expr} {elt : Expr} {enc : β → D} (hb : ∃ b, cM = .ok b ∧ (b = true → ∃ v, fM = .ok v)) (hc : ∀ b, cM = .ok b → DTs X kx ifs ρ M b) (hf : ∀ v, fM = .ok v → DV X kx elt ρ M (enc v)) :
    DTs X kx ifs ρ M cM.get ∧ (cM.get = true → DV X kx elt ρ M (enc fM.get)) := by
  obtain ⟨b, e, h⟩ := hb
  have g : cM.get = b := by rw [e]; rfl
  rw [g]
  refine ⟨hc b e, fun q => ?_⟩
  obtain ⟨v, hv⟩ := h q
  have gv : fM.get = v := by rw [hv]; rfl
  rw [gv]
  exact hf v hv
theorem outs_E {α β : Type} [Inhabited β] {xs : List α} {ys : List β} {c : α → Ex Bool} {f : α → Ex β} (enc : β → D) (h : ys = (xs.filter fun x => (c x).get).map (fun x => (f x).get)) : outs xs (fun x => (c x).get) (fun x => enc (f x).get) = ys.map enc := by
  rw [h, List.map_map]; rfl
theorem outs_M {α β : Type} (xs : List α) (f : α → β) (enc : β → D) : outs xs (fun _ => true) (fun x => enc (f x)) = (xs.map f).map enc := by
  rw [outs_all, List.map_map]; rfl
theorem dv_lcE {α : Type} {N : List Str} {sc csc : Scope} {k : Nat} {own : List (Str × Nat)} {elt : Expr} {ifs : List Expr} {xs : List α} {enc : α → D} {cnd : α → Bool} {f : α → D} {ds : List D} (B : Bd X N sc k) (hi : DI X kx tg e ρ M (xs.map enc)) (ok : BlkOk N sc csc own) (hl : xs.length < sizeLine)
    (h : ∀ x, x ∈ xs → LcB X N sc csc k own tg elt ifs ρ M (enc x) (cnd x) (f x)) (hd : outs xs cnd f = ds) (hs : ∀ x, foldedSetIterable e X.env x = pure x := by intro _; rfl) : DV X kx (.ListComp elt [⟨tg, e, ifs, 0⟩] csc pos) ρ M (.lst ds) :=
  (dv_lc B hi ok hl h hs).is (by rw [hd])
/-! walks -/
def enumL {α : Type} (xs : List α) : List (Int × α) := ((List.range xs.length).zip xs).map fun q => (((q.1 : Nat) : Int), q.2)
/-- a global's number -/
theorem dv_gint {x : Str} {i : Int} {u : Value} (hg : Gl X x) (hm : X.mg x = some u) (r : RelV (.int i) u) (hd : (x == ("__debug__" : Str)) = false := by decide) : DV X kx (.Name x pos) ρ M (.int i) := fun σ H H0 t s W tk hx Q q =>
  sE.by (pe_glob hg hm r hd) (q _ H H0 (Pu.refl t.ex) (.int i))
/-- // by a positive number -/
def DivOk (j : Int) : Prop := 0 < j ∧ j < 2 ^ 300
def RngOk (i : Int) : Prop := -(2 ^ 62) ≤ i ∧ i < 2 ^ 62
def DivPOk (i j : Int) : Prop := CDivP i j
end
theorem fnok_imp {P : Program} {w : World} {K : Frag} {mg : Str → Option Value} {base : Heap} {CX : CXT} {k : Nat} {f : Addr} {fd : FuncData} {ps : List Str} {sp sp' : Sp} (g : FnOk P w K mg base CX k f fd ps sp) (h : ∀ vs H Q E, sp' vs H Q E → sp vs H Q E) : FnOk P w K mg base CX k f fd ps sp' := g.imp h
end Dl

/-! what a plain function hands back: small rules for its parts -/
namespace Dl
open PySem PySem.Spec PyProof.Rows L2
/-- it ends well, with a thing of which P holds -/
def Ret {α : Type} (e : Ex α) (P : α → Prop) : Prop := ∃ r, e = .ok r ∧ P r
section
variable {α β γ ρ : Type} {P : α → Prop} {Q : β → Prop}
theorem Ret.ok {a : α} (h : P a) : Ret (.ok a) P := ⟨a, rfl, h⟩
theorem Ret.of {e : Ex α} {a : α} (h : e = .ok a) : Ret e (fun r => r = a) := ⟨a, h, rfl⟩
theorem Ret.eq {e : Ex α} {a : α} (h : Ret e fun r => r = a) : e = .ok a := by
  obtain ⟨r, h, e⟩ := h; rw [h, e]
theorem Ret.imp {e : Ex α} {P' : α → Prop} (h : Ret e P') (i : ∀ a, P' a → P a) : Ret e P := by
  obtain ⟨r, h, p⟩ := h; exact ⟨r, h, i r p⟩
theorem Ret.gd {p : Prop} {m : Ex α} (h : p) (k : Ret m P) : Ret (gd p m) P := by rw [gd_ok h]; exact k
theorem Ret.bindP {m : Ex α} {k : α → Ex β} {R : α → Prop} (h : Ret m R) (i : ∀ a, R a → Ret (k a) Q) : Ret (bindP m k) Q := by
  obtain ⟨r, e, p⟩ := h; rw [e]; exact i r p
theorem Ret.bindX {m : Ex α} {k : α → Ex β} {R : α → Prop} (h : Ret m R) (i : ∀ a, R a → Ret (k a) Q) : Ret (bindX m k) Q := by
  obtain ⟨r, e, p⟩ := h; rw [e]; exact i r p
/-- what is known by an equation -/
theorem Ret.eqP {m : Ex α} {a : α} {k : α → Ex β} (h : m = .ok a) (i : Ret (k a) Q) : Ret (Dl.bindP m k) Q := by rw [h]; exact i
theorem Ret.eqX {m : Ex α} {a : α} {k : α → Ex β} (h : m = .ok a) (i : Ret (k a) Q) : Ret (Dl.bindX m k) Q := by rw [h]; exact i
theorem Ret.letE {a : α} {k : α → Ex β} (h : ∀ x, x = a → Ret (k x) Q) : Ret (letE a k) Q := h a rfl
theorem Ret.letI {a : α} {k : α → Ex β} (h : Ret (k a) Q) : Ret (Dl.letE a k) Q := h
theorem Ret.jpE {k : α} {f : α → Ex β} (h : Ret (f k) Q) : Ret (jpE k f) Q := h
theorem Ret.ite {c : Bool} {m1 m2 : Ex α} (h1 : c = true → Ret m1 P) (h2 : c = false → Ret m2 P) : Ret (if c = true then m1 else m2) P := by
  cases c with
  | true => exact h1 rfl
  | false => exact h2 rfl
theorem Ret.iteD {p : Prop} [Decidable p] {m1 m2 : Ex α} (h1 : p → Ret m1 P) (h2 : ¬ p → Ret m2 P) : Ret (if decide p = true then m1 else m2) P :=
  Ret.ite (fun h => h1 (of_decide_eq_true h)) (fun h => h2 (of_decide_eq_false h))
theorem Ret.iteN {p : Prop} [Decidable p] {m1 m2 : Ex α} (h1 : ¬ p → Ret m1 P) (h2 : p → Ret m2 P) : Ret (if (!decide p) = true then m1 else m2) P :=
  Ret.ite (fun h => h1 (by simpa using h)) (fun h => h2 (by simpa using h))
theorem Ret.t {c : Bool} {m1 m2 : Ex α} (h : c = true) (k : Ret m1 P) : Ret (if c = true then m1 else m2) P := by rw [if_pos h]; exact k
theorem Ret.f {c : Bool} {m1 m2 : Ex α} (h : c = false) (k : Ret m2 P) : Ret (if c = true then m1 else m2) P := by rw [if_neg (by rw [h]; decide)]; exact k
theorem Ret.someE {o : Option α} {a : α} {k : α → Ex β} (h : o = some a) (i : Ret (k a) Q) : Ret (Dl.bindP (someE o) k) Q := by rw [h]; exact i
theorem Ret.ix {xs : List α} {i : Int} {k : α → Ex β} (h0 : 0 ≤ i) (h1 : i < xs.length) (h : ∀ x, xs[i.toNat]? = some x → Ret (k x) Q) : Ret (Dl.bindP (ixE xs i) k) Q := by
  have l : i.toNat < xs.length := by omega
  have e := List.getElem?_eq_getElem l
  rw [ixE_nat h0 e]
  exact h _ e
theorem Ret.ixN {xs : List α} {i : Int} {k : α → Ex β} (h0 : i < 0) (h1 : 0 ≤ i + xs.length) (h : ∀ x, xs[(i + xs.length).toNat]? = some x → Ret (k x) Q) : Ret (Dl.bindP (ixE xs i) k) Q := by
  have l : (i + xs.length).toNat < xs.length := by omega
  have e := List.getElem?_eq_getElem l
  rw [ixE_neg h0 h1 e]
  exact h _ e
theorem Ret.ixM {xs : List α} {i : Int} {k : α → Ex β} (h0 : 0 ≤ i) (h1 : i < xs.length) (h : ∀ x ∈ xs, Ret (k x) Q) : Ret (Dl.bindP (ixE xs i) k) Q :=
  Ret.ix h0 h1 fun x e => h x (List.mem_of_getElem? e)
theorem Ret.andE {a : Bool} {m : Ex Bool} {P : Bool → Prop} (h1 : a = true → Ret m P) (h2 : a = false → P false) : Ret (andE a m) P := by
  cases a with
  | true => exact h1 rfl
  | false => exact ⟨false, rfl, h2 rfl⟩
theorem Ret.orE {a : Bool} {m : Ex Bool} {P : Bool → Prop} (h1 : a = false → Ret m P) (h2 : a = true → P true) : Ret (orE a m) P := by
  cases a with
  | false => exact h1 rfl
  | true => exact ⟨true, rfl, h2 rfl⟩
theorem Ret.fold {f : β → α → Ex β} {k : β → Ex γ} {Q : γ → Prop} {xs : List α} {z : β} (J : Nat → β → Prop) (h0 : J 0 z) (hs : ∀ j z x, xs[j]? = some x → J j z → Ret (f z x) fun z' => J (j + 1) z') (hk : ∀ z, J xs.length z → Ret (k z) Q) : Ret (Dl.bindX (foldE f z xs) k) Q := by
  obtain ⟨z', e, j⟩ := foldE_inv0 J xs z h0 fun j z x hx hj => hs j z x hx hj
  rw [e]; exact hk z' j
/-- a loop that is never left ahead of its end -/
theorem Ret.loop {f : β → α → Ex (Ct β ρ)} {k : β → Ex γ} {r : ρ → Ex γ} {Q : γ → Prop} {xs : List α} {z : β} (J : Nat → β → Prop) (h0 : J 0 z) (hs : ∀ j z x, xs[j]? = some x → J j z → Ret (f z x) fun c => ∃ z', c = .nx z' ∧ J (j + 1) z') (hk : ∀ z, J xs.length z → Ret (k z) Q) :
    Ret (Dl.bindX (loopE f z xs) fun c => ctE c k r) Q := by
  obtain ⟨z', e, j⟩ := loopE_inv0 (f := f) J xs z h0 fun j z x hx hj => by
    obtain ⟨c, e, z', e2, h⟩ := hs j z x hx hj
    exact ⟨z', by rw [e, e2], h⟩
  rw [e]; exact hk z' j
theorem Ret.map {f : α → Ex β} {k : List β → Ex γ} {Q : γ → Prop} {xs : List α} (g : α → β) (hf : ∀ x ∈ xs, f x = .ok (g x)) (h : Ret (k (xs.map g)) Q) : Ret (Dl.bindP (compE (fun _ => .ok true) f xs) k) Q := by
  rw [compE_map xs hf]; exact h
end
end Dl

namespace Dl
open PySem PySem.Spec PyProof.Rows L2
section
variable {X : Cx} {kx kx' : XD} {ρ ρ' ρ'' : Ro} {M M' : Mem} {P : Out → Mem → Prop} {pos p apos tpos : Pos} {tg a b c e o ix : Expr} {es : List Expr} {x y z : D} {k l : Bool} {w : Addr} {α β γ : Type}
/-! ### is True -/
/-! ### xs[i] = e -/
def setE (xs : List α) (i : Int) (v : α) : Ex (List α) := match ixN xs.length i with
  | some j => .ok (xs.set j v)
  | none => .bad
/-! ### raise -/
/-- an own class of exceptions, x at C -/
structure ExT (K : Frag) (mg : Str → Option Value) (x : Str) (C : Addr) : Prop extends ExcC K C where
  gC : mg x = some (.ref C)
  xC : PySem.W.excIn K C [.type "ValueError", .type "Exception", .type "BaseException", .type "object"] "ValueError.__new__" = true
  kC : PySem.W.keepIn K (.ref C) = true
  tC : PySem.W.typeIn K (.ref C) = some (.type "type")
theorem ds1_raise {x m : Str} {C : Addr} {j : Nat} {p2 pos2 : Pos} (hc : X.calm = true) (T : ExT X.K X.mg x C) (hg : Gl X x) (hk : ∀ cls, X.mg x = some cls → kx cls [] ρ M) (hdb : (x == ("__debug__" : Str)) = false := by decide) :
    DS1 X kx (.Raise (some (.Call (.Name x p) [.Constant (.str m) j p2] [] pos)) none pos2) ρ M P := fun σ H H0 t s W tk hx D c =>
  sS.by (ps_raise hc tk (pmk_own PySem.F.excBase_ValueError T.xC T.gC T.kC (raises_own T.hs T.tC) hg hdb)) (hx (.ref C) none σ H H0 [] ρ M Go.refl t s (.inl ⟨rfl, rfl⟩) (hk _ T.gC))
/-! ### f(e), that raises -/
theorem de_exc {α : Type} {x : Str} {args : α → List D} {F : α → Ex β} {enc : β → D} {k : Nat} {dvs ds : List D} {n : Str} {fs : List (Str × D)} (G : GF X.prog X.w X.K X.mg X.base k x dvs (spE X.K X.mg args F enc)) (hr : Room k X.A) (hg : Gl X x) (ha : DA X kx (e :: es) ρ M ds) (a : α) (hargs : args a = ds ++ dvs)
    (hF : F a = .exc n fs) (hk : ∀ cls, X.mg n = some cls → kx cls fs ρ M) (hdb : (x == ("__debug__" : Str)) = false := by decide) (he : starEach (e :: es) X.env = (false, eval e X.env) :: starEach es X.env := by rfl) (hpl : (backTo pos (starEach es X.env)).any (·.1) = false := by rfl) :
    DE X kx (.Call (.Name x p) (e :: es) [] pos) ρ M fun _ _ => False :=
  de_call G hr hg ha a hargs (fun h => by cases hF.symm.trans h) (fun d ⟨r, h, _⟩ => by cases hF.symm.trans h) (fun cls fs' ⟨n', h, hm⟩ => by cases hF.symm.trans h; exact hk cls hm) hdb he hpl
theorem ds1_void {e : Expr} (h : DE X kx e ρ M fun _ _ => False) (hs : swapsWith e none tpos.line X.env = pure false := by rfl) : DS1 X kx (.Expr e tpos) ρ M P := ds1_expr h (fun _ _ z => z.elim) hs
theorem ds1_exprV {e : Expr} {d : D} (h : DV X kx e ρ M d) (hp : P (.nx ρ) M) (hs : swapsWith e none tpos.line X.env = pure false := by rfl) : DS1 X kx (.Expr e tpos) ρ M P :=
  ds1_expr (h.de (k := fun _ m => m = M) rfl) (fun _ m e => by subst e; exact hp) hs
end
end Dl
namespace Dl
open PySem PySem.Spec PyProof.Rows L2
/-! ### classes, methods, defaults: what the top has written -/
/-- an own class, x at C -/
structure ClsT (K : Frag) (mg : Str → Option Value) (x : Str) (C : Addr) (fs : List Str) : Prop where
  gC : mg x = some (.ref C)
  cl : Cls K C
  na : ∀ f ∈ fs, NoAttr K C f
  mks : PySem.W.makesIn K C = true
  kp : PySem.W.keepIn K (.ref C) = true
/-- a def with perhaps defaults, as K holds it: any number of the last arguments may be left out -/
structure DefT (K : Frag) (x qual : Str) (st : Stmt) (ps : List Str) (dvs : List V) (f : Addr) (fd : FuncData) : Prop where
  F : FunD K x qual (defArgs st) (defBody st) (defScope st) dvs [] f fd
  b : ∀ j, j ≤ dvs.length → ∃ ds, Vals (dvs.drop j) ds ∧ Binds K fd ps ds
def MethT (K : Frag) (C : Addr) (m qual : Str) (st : Stmt) (ps : List Str) (dvs : List V) : Prop := ∃ f fd, DefT K m qual st ps dvs f fd ∧ PySem.W.findIn K (.ref C) m = some (some (.ref f)) ∧ PySem.W.isFn K (.ref f) = true
def FunDT (K : Frag) (mg : Str → Option Value) (x : Str) (st : Stmt) (ps : List Str) (dvs : List V) : Prop := ∃ f fd, DefT K x x st ps dvs f fd ∧ mg x = some (.ref f)
section
variable {K : Frag} {x qual : Str} {st : Stmt} {ps : List Str} {dvs : List V} {f : Addr} {fd : FuncData}
end
section
variable {P : Program} {w : World} {K : Frag} {mg : Str → Option Value} {base : Heap} {α β : Type}
/-- what __init__ leaves: the object at w with the fields ns -/
def initQ (C : Addr) (ns : List Str) (encs : β → List D) (out : Ex β) (w : Addr) : Out → Mem → Prop
  | .nx _, M => ∃ r, out = .ok r ∧ M = [(w, .ins C ns (encs r))]
  | _, _ => False
abbrev spI (K : Frag) (mg : Str → Option Value) (C : Addr) (ns : List Str) (args : α → List D) (F : α → Ex β) (encs : β → List D) : Sp :=
  spM K (fun q : Addr × α => .adr q.1 :: args q.2) (fun q => [(q.1, .ins C [] [])]) (fun q => F q.2 ≠ .bad) (fun q d M' => (∃ r, F q.2 = .ok r ∧ M' = [(q.1, .ins C ns (encs r))]) ∧ d = .non) (fun q cls fs M' => ∃ n, F q.2 = .exc n fs ∧ mg n = some cls)
theorem FunDT.gf {x : Str} {st : Stmt} {ps : List Str} {dvs : List V} {k : Nat} {sp : Sp} (T : FunDT K mg x st ps dvs) (j : Nat) (hj : j ≤ dvs.length) (ds : List D) (hd : ∀ H vs, vs = dvs.drop j → RepA K H vs ds) (h : ∀ f fd, FunD K x x (defArgs st) (defBody st) (defScope st) dvs [] f fd → FnOk P w K mg base (L2.CX P w) k f fd ps sp) : GF P w K mg base k x ds sp := by
  obtain ⟨f, fd, Df, a⟩ := T
  obtain ⟨us, v, b⟩ := Df.b j hj
  exact ⟨f, fd, ps, us, _, a, Df.F.kp, h f fd Df.F, b, v, fun H => hd H _ rfl⟩
end
section
variable {X : Cx} {kx kx' : XD} {ρ ρ' ρ'' : Ro} {M M' : Mem} {P : Out → Mem → Prop} {pos p apos tpos : Pos} {tg a b c e o ix : Expr} {es : List Expr} {x y z : D} {w C : Addr} {α β γ : Type} {k : Nat} {m : Str} {ns : List Str} {dvs ds fs : List D}
end
end Dl
namespace Dl
open PySem PySem.Spec PyProof.Rows L2
end Dl
namespace Dl
open PySem PySem.Spec PyProof.Rows L2
/-! ### a list that changes, looked at by others meanwhile -/
mutual
/-- no list, no object within -/
def D.plain : D → Bool
  | .non => true
  | .bl _ => true
  | .int _ => true
  | .str _ => true
  | .ty _ => true
  | .lst _ => false
  | .scr _ => false
  | .tup xs => D.plainA xs
  | .ins _ _ _ => false
  | .adr _ => true
  | .dK _ _ => false
  | .dT _ _ => false
  | .exn _ _ xs => D.plainA xs
  | .clo _ _ xs => D.plainA xs
def D.plainA : List D → Bool
  | [] => true
  | d :: ds => d.plain && D.plainA ds
end
def cutH (H : Hp) (w : Addr) : Hp := fun a => if a = w then none else H a
theorem cutH_ne {H : Hp} {w a : Addr} (h : a ≠ w) : cutH H w a = H a := by unfold cutH; rw [if_neg h]
mutual
theorem Rep.cut {K : Frag} {H : Hp} {w : Addr} {xs : List V} (hw : H w = some (.lst xs)) : ∀ (d : D) (v : V), d.plain = true → Rep K H v d → Rep K (cutH H w) v d
  | .non, _, _, h => by cases h; exact .non
  | .bl b, _, _, h => by cases h; exact .bl b
  | .int b, _, _, h => by cases h; exact .int b
  | .str b, _, _, h => by cases h; exact .str b
  | .ty b, _, _, h => by cases h; exact .ty b
  | .lst ds, _, p, h => by simp [D.plain] at p
  | .scr ds, _, p, h => by simp [D.plain] at p
  | .tup ds, _, p, h => by
    cases h with
    | @tup a xs' _ c d =>
      have q : a ≠ w := fun z => by rw [z, hw] at c; cases c
      exact .tup (by rw [cutH_ne q]; exact c) (RepA.cut hw ds _ (by simpa [D.plain] using p) d)
  | .ins C ns ds, _, p, h => by simp [D.plain] at p
  | .adr a, _, _, h => by cases h; exact .adr a
  | .dK _ _, _, p, h => by simp [D.plain] at p
  | .dT _ _, _, p, h => by simp [D.plain] at p
  | .exn C ns ds, _, p, h => by
    have ne : ∀ {a C : Addr} {d : Option Addr}, H a = some (exT a C d) → a ≠ w := fun {a C d} c z => by rw [z, hw] at c; cases c
    cases h with
    | exn0 c => exact .exn0 (by rw [cutH_ne (ne c)]; exact c)
    | @exn1 a C d vs ns xs' ds c1 c2 c3 c4 c5 =>
      have nd : d ≠ w := fun z => by rw [z, hw] at c2; cases c2
      exact .exn1 (by rw [cutH_ne (ne c1)]; exact c1) (by rw [cutH_ne nd]; exact c2) c3 c4 (RepA.cut hw ds _ (by simpa [D.plain] using p) c5)
  | .clo G fr ds, _, p, h => by
    have ne : ∀ {a : Addr} {φ : Heap → Prop}, H a = some (.ext φ) → a ≠ w := fun {a φ} c z => by rw [z, hw] at c; cases c
    cases h with
    | clo c1 c2 c3 c4 =>
      exact .clo (by rw [cutH_ne (ne c1)]; exact c1) (by rw [cutH_ne (ne c2)]; exact c2)
        ⟨c3.1, c3.2.1, c3.2.2.1, c3.2.2.2.1, fun i q v a b => by have z := c3.2.2.2.2 i q v a b; rw [cutH_ne (ne z)]; exact z⟩ (RepA.cut hw ds _ (by simpa [D.plain] using p) c4)
theorem RepA.cut {K : Frag} {H : Hp} {w : Addr} {xs : List V} (hw : H w = some (.lst xs)) : ∀ (ds : List D) (vs : List V), D.plainA ds = true → RepA K H vs ds → RepA K (cutH H w) vs ds
  | [], _, _, h => by cases h; exact .nil
  | d :: ds, _, p, h => by
    simp only [D.plainA, Bool.and_eq_true] at p
    cases h with
    | cons a b => exact .cons (Rep.cut hw d _ p.1 a) (RepA.cut hw ds _ p.2 b)
end
section
variable {X : Cx} {kx kx' : XD} {ρ ρ' ρ'' : Ro} {M M' : Mem} {P : Out → Mem → Prop} {pos p apos tpos : Pos} {tg a b c e o ix : Expr} {es : List Expr} {x y z d : D} {w C : Addr} {α β γ : Type} {k : Nat} {m : Str} {ns : List Str} {dvs ds fs : List D}
/-! ### a new list handed back, that may change -/
def retF {β : Type} (g : β → D) (out : Ex (List β)) : Out → Mem → Prop
  | .rt d, M => ∃ r w, out = .ok r ∧ d = .adr w ∧ (w, Mu.lst (r.map g)) ∈ M
  | _, _ => False
abbrev spF (K : Frag) (mg : Str → Option Value) (args : α → List D) (F : α → Ex (List β)) (g : β → D) : Sp :=
  spM K args (fun _ => []) (fun q => F q ≠ .bad) (fun q d M' => ∃ r w, F q = .ok r ∧ d = .adr w ∧ (w, Mu.lst (r.map g)) ∈ M') (fun q cls fs _ => ∃ n, F q = .exc n fs ∧ mg n = some cls)
end
section
variable {P : Program} {w : World} {K : Frag} {mg : Str → Option Value} {base : Heap} {α β : Type}
end
section
variable {X : Cx} {kx kx' : XD} {ρ ρ' ρ'' : Ro} {M M' : Mem} {P : Out → Mem → Prop} {pos p apos tpos : Pos} {tg a b c e o ix : Expr} {es : List Expr} {x y z d : D} {w C : Addr} {α β γ : Type} {k : Nat} {m : Str} {ns : List Str} {dvs ds fs : List D}
end
end Dl

namespace Dl
open PySem PySem.Spec PyProof.Rows L2
section
variable {X : Cx} {kx kx' : XD} {ρ ρ' ρ'' : Ro} {M M' : Mem} {P : Out → Mem → Prop} {pos p apos tpos kpos : Pos} {tg a b c e o ix dd : Expr} {es : List Expr} {x y z d : D} {w C : Addr} {α β γ : Type} {k : Nat} {ds fs : List D}
/-! ### max(xs, default=None) -/
def maxO (l : List Int) : Option Int := if l = [] then none else some (maxI l)
def minO (l : List Int) : Option Int := if l = [] then none else some (minI l)
def rMaxD (K : PySem.W.Frag) : List V → List V → Hp → VK → Prop := fun vs zs H Q => ∃ (a : Addr) (ns : List Int) (z : V), vs = [V.ref a] ∧ zs = [z] ∧ SqL K H a (ns.map V.int) ∧ Q (match maxO ns with | none => z | some m => .int m) H
/-! ### xs * n -/
def repL (xs : List α) (n : Int) : List α := (List.replicate n.toNat xs).flatten
def RepOk (n : Int) : Prop := -(2 ^ 63) ≤ n ∧ n < 2 ^ 63
/-! ### x in a tuple of numbers -/
/-! ### xs[::-1] -/
end
end Dl

namespace Dl
open PySem PySem.Spec PyProof.Rows L2
/-! ### the mirror of a try -/
def excE {β : Type} (hs : List (Str × Ex β)) (n : Str) : Ex β := match hs with
  | [] => .bad
  | (m, h) :: t => if n = m then h else excE t n
def tryE {α β : Type} (m : Ex α) (k : α → Ex β) (hs : List (Str × Ex β)) : Ex β := match m with
  | .ok a => k a
  | .exc n fs => if fs.length = 0 then excE hs n else .bad
  | .bad => .bad
theorem tryE_exc {α β : Type} {m : Ex α} {k : α → Ex β} {hs : List (Str × Ex β)} {n : Str} (h : m = .exc n []) : tryE m k hs = excE hs n := by subst h; rfl
theorem excE_hd {β : Type} {hs : List (Str × Ex β)} {n m : Str} {h o : Ex β} (e : excE ((m, h) :: hs) n = o) : (n = m ∧ h = o) ∨ excE hs n = o := by
  unfold excE at e
  by_cases q : n = m
  · rw [if_pos q] at e; exact .inl ⟨q, e⟩
  · rw [if_neg q] at e; exact .inr e
theorem excE_nil {β : Type} {n : Str} {o : Ex β} (e : excE [] n = o) (ho : o ≠ .bad) : False := ho e.symm
theorem Ret.tryX {α β : Type} {m : Ex α} {k : α → Ex β} {hs : List (Str × Ex β)} {Q : β → Prop} {n : Str} (h : m = .exc n []) (i : Ret (excE hs n) Q) : Ret (tryE m k hs) Q := by
  rw [tryE_exc h]; exact i
theorem Ret.excHd {β : Type} {n : Str} {h : Ex β} {hs : List (Str × Ex β)} {Q : β → Prop} (i : Ret h Q) : Ret (excE ((n, h) :: hs) n) Q := by
  unfold excE; rw [if_pos rfl]; exact i
/-! ### the walk -/
structure BdS (X : Cx) (N : List Str) (sc : Scope) (k : Nat) : Prop where
  hN : X.N = N
  hnd : N.Nodup
  hsc : X.env.scope = sc
  un : X.A.units + 64 < cLine
section
variable {X : Cx} {N : List Str} {sc : Scope} {k : Nat}
theorem BdS.hu (B : BdS X N sc k) : X.A.units + 64 < cLine := B.un
theorem BdS.nm (B : BdS X N sc k) {i : Nat} {x : Str} (h : N[i]? = some x) (v : Vis sc x) (d1 : (x == ("__debug__" : Str)) = false := by decide) (d2 : (x == ("__classdict__" : Str)) = false := by decide) : Nm X i x :=
  ⟨by rw [B.hN]; exact h, by rw [B.hsc]; exact v, d1, d2⟩
theorem BdS.ns (B : BdS X N sc k) {i : Nat} {x : Str} (h : N[i]? = some x) (v : sc.names.lookup x = some .local) (d1 : (x == ("__debug__" : Str)) = false := by decide) (d2 : (x == ("__classdict__" : Str)) = false := by decide) : Ns X i x :=
  { B.nm h (.inl v) d1 d2 with nd := by rw [B.hN]; exact B.hnd, loc := by rw [B.hsc]; exact .inl v, fn := .inr (by rw [B.hsc]; exact v) }
theorem BdS.gl (B : BdS X N sc k) {x : Str} (h : sc.names.lookup x = some .globalImplicit) : Gl X x := by
  show X.env.scope.names.lookup x = some .globalImplicit
  rw [B.hsc]; exact h
theorem BdS.bn (B : BdS X N sc k) {x : Str} {u : Value} (h : sc.names.lookup x = some .globalImplicit) (m : X.mg x = none) (b : bootBuiltins x = some u) (n : x ≠ "__name__" := by decide) (d : (x == ("__debug__" : Str)) = false := by decide) : Bn X x u :=
  ⟨B.gl h, m, b, n, d⟩
theorem Bd.su (B : Bd X N sc k) (a : Addr) (l : List (Addr × PySem.Obj)) : BdS (X.suite a l) N sc k := ⟨B.hN, B.hnd, B.hsc, B.room.units⟩
theorem Bd.tr (B : Bd X N sc k) {pn : List (Addr × PySem.Obj)} {xe : Value → Shared → Prop} (po : PassesOwn (model X.prog X.w) X.A X.env xe) : Bd (X.tr pn xe) N sc k := ⟨B.hN, B.hnd, B.hsc, B.calm, B.room, po⟩
theorem Bf.tr (F : Bf X) {pn : List (Addr × PySem.Obj)} {xe : Value → Shared → Prop} : Bf (X.tr pn xe) := ⟨F.fn, F.stk, F.fr⟩
end
/-- the exception that the suite holds, of the class at C -/
def Held (X : Cx) (a C : Addr) : Prop := ∃ (Y : Cx) (oe : PySem.Obj) (l : List (Addr × PySem.Obj)), X = Y.suite a ((a, oe) :: l) ∧ Zc (.ref C) none oe ∧ ∃ vs, oe.data = .fields vs
/-- what follows, once the exception's name is gone -/
def goneP (i : Nat) (P : Out → Mem → Prop) : Out → Mem → Prop
  | .nx ρ, M => P (.nx (ρ.set i none)) M
  | .bk ρ, M => P (.bk (ρ.set i none)) M
  | .ct ρ, M => P (.ct (ρ.set i none)) M
  | .rt d, M => P (.rt d) M
section
variable {X : Cx} {kx kx' : XD} {ρ ρ' ρ'' : Ro} {M M' : Mem} {P : Out → Mem → Prop} {pos p np pos' : Pos} {tg a b c e o ix dd : Expr} {es : List Expr} {x y z d : D} {w C : Addr} {α β γ : Type} {k i : Nat} {ds fs : List D} {N : List Str} {sc : Scope}
theorem Sl.none {K : Frag} {H0 : Hp} {σ : L2.St} (h : Sl K H0 σ ρ) (i : Nat) : Sl K H0 (σ.set i none) (ρ.set i none) := by
  refine ⟨by rw [List.length_set, List.length_set]; exact h.1, fun j d' e => ?_⟩
  by_cases hj : i = j
  · subst hj
    by_cases hi : i < ρ.length
    · rw [List.getElem?_set_self hi] at e
      cases e
    · rw [List.getElem?_eq_none (by rw [List.length_set]; omega)] at e
      cases e
  · rw [List.getElem?_set_ne hj] at e ⊢
    exact h.2 j d' e
theorem ds1_try {n xx : Str} {cv : Value} {body suite : List Stmt} {b0 : Stmt} {kxB : XD} (B : Bd X N sc k) (F : Bf X) (hi : N[i]? = some n) (hln : sc.names.lookup n = some .local) (hg : Gl X xx) (hm : X.mg xx = some cv)
    (hb : ∀ pn xe, Bd (X.tr pn xe) N sc k → Bf (X.tr pn xe) → DS (X.tr pn xe) kxB body ρ M P)
    (hh : ∀ cls fs ρ' M', kxB cls fs ρ' M' → ∃ C, cls = .ref C ∧ fs = [] ∧ PySem.W.exmOne X.K cls cv = some true ∧ ∀ a l, BdS (X.suite a l) N sc k → Held (X.suite a l) a C → DS (X.suite a l) kx0 (b0 :: suite) (ρ'.set i (some (.adr a))) M' (goneP i P))
    (hdb : (xx == ("__debug__" : Str)) = false := by decide) :
    DS1 X kx (.Try body [.ExceptHandler (some (.Name xx np)) (some n) (b0 :: suite) pos'] [] [] pos) ρ M P := fun σ H H0 t s W tk hx E c => by
  refine sS.by (ps_try_as (Wout := W) (c := cv)
    (tb := fun W' => fun D' σ' H' => ∀ pn xe, Takes (X.tr pn xe) W' → PassesOwn (model X.prog X.w) X.A X.env xe → sSs (X.tr pn xe) body D' σ' H')
    (ts := fun a cls d => fun D' σ' H' => ∀ oe pn, Zc cls d oe → (∃ vs, oe.data = .fields vs) → sSs (X.suite a ((a, oe) :: pn)) (b0 :: suite) D' σ' H')
    F.stk F.fr (by rw [B.hN]; exact B.hnd) (by rw [B.hN]; exact hi) (by show X.env.scope.names.lookup n = some .local; rw [B.hsc]; exact hln) ⟨hg, hdb, .inl hm⟩ tk
    (fun W' pn xe tk' po => ⟨fun pins s' σ' H' D' I q => q pn xe tk' po pins s' I⟩)
    (fun a oe cls d pn hz hd => ⟨fun pins s' σ' H' D' I q => q oe pn hz hd pins s' I⟩)) ?_
  intro pn xe tk' po
  refine hb pn xe (B.tr po) F.tr σ H H0 t s _ tk' ?_ E ⟨c.nx, c.bk, c.ct, c.rt⟩
  intro cls dd σ' H' H0' fs ρ' M' g t' s' xr kq
  obtain ⟨C, rfl, rfl, e1, hsu⟩ := hh cls fs ρ' M' kq
  have hd0 : dd = none := by
    rcases xr with ⟨z, _⟩ | ⟨z, _⟩
    · exact z
    · exact absurd rfl z
  subst hd0
  refine ⟨true, e1, fun _ a ha => ?_, fun z => by cases z⟩
  intro oe pn2 hz hd
  refine hsu a _ (B.su a _) ⟨X, oe, pn2, rfl, hz, hd⟩ (σ'.set i (some (.ref a))) H' H0' t' (s'.set (.adr a) i) (fun _ _ _ _ => False) ?_ Hx.none _ ⟨?_, ?_, ?_, ?_⟩
  · rintro u s2 ⟨_, _, _, _, _, _, _, _, _, _, _, _, _, _, _, _, z⟩
    exact z.elim
  · exact fun σ2 H2 H02 ρ2 M2 g2 t2 s2 q => c.nx _ H2 H02 _ M2 (g.trans g2) t2 (s2.none i) q
  · exact fun σ2 H2 H02 ρ2 M2 g2 t2 s2 q => c.bk _ H2 H02 _ M2 (g.trans g2) t2 (s2.none i) q
  · exact fun σ2 H2 H02 ρ2 M2 g2 t2 s2 q => c.ct _ H2 H02 _ M2 (g.trans g2) t2 (s2.none i) q
  · exact fun v H2 H02 d M2 g2 t2 r q => c.rt v H2 H02 d M2 (g.trans g2) t2 r q
/-! ### isinstance(e, D) -/
theorem dv_isX {cv : Value} {b : Bool} {f : Str} (n0 : Bn X f (.builtin "isinstance")) (h : Held X w C) (T : ExcC X.K C) (hv : DV X kx e ρ M (.adr w)) (hc : DV X kx c ρ M x) (hcv : ∀ (v : V) (u : Value) (H0 : Hp), Rep X.K H0 v x → RelV v u → u = cv) (hk : PySem.W.kitOne X.K (.ref C) cv = some b)
    (he : starEach [e, c] X.env = (false, eval e X.env) :: starEach [c] X.env := by rfl) (he2 : starEach [c] X.env = (false, eval c X.env) :: starEach [] X.env := by rfl) (hpl : (backTo pos (starEach [c] X.env)).any (·.1) = false := by rfl) : DV X kx (.Call (.Name f p) [e, c] [] pos) ρ M (.bl b) := by
  obtain ⟨Y, oe, l, rfl, hz, hd⟩ := h
  refine dv_callB n0 (call_isE T hz hd) (fun vs H H0 t r Q q => ?_) (da_cons hv (da_cons hc da_nil he2) he) he hpl
  cases r with
  | cons r1 rr =>
    cases rr with
    | cons r2 rr =>
      cases rr
      cases r1
      exact ⟨_, cv, b, rfl, fun u hu => hcv _ _ H0 r2 hu, hk, q _ H H0 (Pu.refl t.ex) (.bl _)⟩
/-- a class's name -/
theorem dv_cls {n : Str} {pp : Pos} (hg : Gl X n) (hm : X.mg n = some (.ref C)) (hdb : (n == ("__debug__" : Str)) = false := by decide) : DV X kx (.Name n pp) ρ M (.adr C) := fun σ H H0 t s W tk hx Q q =>
  sE.by (pe_glob hg hm (v := .ref C) rfl hdb) (q _ H H0 (Pu.refl t.ex) (.adr C))
theorem dv_isXC {f : Str} {b : Bool} {DA : Addr} (n0 : Bn X f (.builtin "isinstance")) (h : Held X w C) (T : ExcC X.K C) (hv : DV X kx e ρ M (.adr w)) (hc : DV X kx c ρ M (.adr DA)) (hk : PySem.W.kitOne X.K (.ref C) (.ref DA) = some b)
    (he : starEach [e, c] X.env = (false, eval e X.env) :: starEach [c] X.env := by rfl) (he2 : starEach [c] X.env = (false, eval c X.env) :: starEach [] X.env := by rfl) (hpl : (backTo pos (starEach [c] X.env)).any (·.1) = false := by rfl) : DV X kx (.Call (.Name f p) [e, c] [] pos) ρ M (.bl b) :=
  dv_isX n0 h T hv hc (fun v u H0 r ru => by cases r; exact ru) hk he he2 hpl
theorem ds1_tryJ {ι β γ : Type} {n xx : Str} {cv : Value} {body suite : List Stmt} {b0 : Stmt} {m : Ex β} {kf : β → Ex γ} {hs : List (Str × Ex γ)} {out : Ex γ} (R : ι → β → Ro) (Mf : ι → β → Mem) (ρE : Ro) (B : Bd X N sc k) (F : Bf X) (hi : N[i]? = some n) (hln : sc.names.lookup n = some .local) (hg : Gl X xx) (hm : X.mg xx = some cv)
    (ht : tryE m kf hs = out) (ne : out ≠ .bad)
    (hb : ∀ pn xe, Bd (X.tr pn xe) N sc k → Bf (X.tr pn xe) → ∀ o, m = o → o ≠ .bad → DS (X.tr pn xe) (fun cls fs ρ' M' => kxE X.mg o cls fs ρ' M' ∧ FgtL ρ' ρE ∧ M' = M) body ρ M (joinQ R Mf Ex.ok o P))
    (hh : ∀ nm, m = .exc nm [] → excE hs nm = out → ∃ C, X.mg nm = some (.ref C) ∧ PySem.W.exmOne X.K (.ref C) cv = some true ∧ ∀ a l, BdS (X.suite a l) N sc k → Held (X.suite a l) a C → DS (X.suite a l) kx0 (b0 :: suite) (ρE.set i (some (.adr a))) M (goneP i (joinQ R Mf kf out P)))
    (hk : ∀ a z, kf z = out → P (.nx (R a z)) (Mf a z)) (hP : ∀ ρ1 ρ2 M1, Fgt ρ1 ρ2 → P (.nx ρ2) M1 → P (.nx ρ1) M1)
    (hdb : (xx == ("__debug__" : Str)) = false := by decide) :
    DS1 X kx (.Try body [.ExceptHandler (some (.Name xx np)) (some n) (b0 :: suite) pos'] [] [] pos) ρ M P := by
  have jn : ∀ {kf' : β → Ex γ} {o : Out} {m' : Mem}, joinQ R Mf kf out P o m' → P o m' := fun {kf' o m'} q => by
    cases o with
    | nx ρ1 =>
      obtain ⟨a, z, e1, e2, e3⟩ := q
      subst e3
      exact hP _ _ _ e2.fgt (hk a z e1)
    | bk ρ1 => exact q
    | ct ρ1 => exact q
    | rt d => exact q
  refine ds1_try (kxB := fun cls fs ρ' M' => kxE X.mg m cls fs ρ' M' ∧ FgtL ρ' ρE ∧ M' = M) B F hi hln hg hm (fun pn xe B' F' => ?_) (fun cls fs ρ' M' hq => ?_) hdb
  · have nb : m ≠ .bad := fun z => ne (by rw [← ht, z]; rfl)
    refine (hb pn xe B' F' m rfl nb).imp fun o m' q => ?_
    cases o with
    | nx ρ1 =>
      obtain ⟨a, z, e1, e2, e3⟩ := q
      subst e3
      refine hP _ _ _ e2.fgt (hk a z ?_)
      rw [← e1] at ht
      exact ht
    | bk ρ1 => exact q
    | ct ρ1 => exact q
    | rt d => exact q
  · obtain ⟨⟨nm, e1, e2⟩, e3, rfl⟩ := hq
    have fs0 : fs = [] := by
      cases fs with
      | nil => rfl
      | cons f fs => exact absurd (by rw [← ht, e1]; rfl) ne
    subst fs0
    obtain ⟨C, c1, c2, c3⟩ := hh nm e1 (by rw [← ht, e1]; rfl)
    rw [e2] at c1
    cases c1
    refine ⟨C, rfl, rfl, c2, fun a l B' hd => ?_⟩
    have f2 : Fgt (ρ'.set i (some (.adr a))) (ρE.set i (some (.adr a))) := by
      obtain ⟨g1, g2⟩ := e3.fgt
      refine ⟨by rw [List.length_set, List.length_set]; exact g1, fun j d e => ?_⟩
      by_cases hj : i = j
      · subst hj
        by_cases hl : i < ρE.length
        · rw [List.getElem?_set_self hl] at e
          rw [List.getElem?_set_self (by omega)]
          exact e
        · rw [List.getElem?_eq_none (by rw [List.length_set]; omega)] at e
          cases e
      · rw [List.getElem?_set_ne hj] at e ⊢
        exact g2 j d e
    refine ((c3 a l B' hd).fgt f2).imp fun o m' q => ?_
    cases o with
    | nx ρ1 => exact jn (kf' := kf) q
    | bk ρ1 => exact jn (kf' := kf) q
    | ct ρ1 => exact jn (kf' := kf) q
    | rt d => exact jn (kf' := kf) q
/-! ### a, b = x, y -/
end
end Dl

/-! a list that changes, locked while others look at it: what they make of it may be lists, too -/
namespace Dl
open PySem PySem.Spec PyProof.Rows L2
mutual
/-- no list that is read in place within -/
def D.nsc : D → Bool
  | .non => true
  | .bl _ => true
  | .int _ => true
  | .str _ => true
  | .ty _ => true
  | .lst xs => D.nscA xs
  | .scr _ => false
  | .tup xs => D.nscA xs
  | .ins _ _ xs => D.nscA xs
  | .adr _ => true
  | .dK _ xs => D.nscA xs
  | .dT _ xs => D.nscA xs
  | .exn _ _ xs => D.nscA xs
  | .clo _ _ xs => D.nscA xs
def D.nscA : List D → Bool
  | [] => true
  | d :: ds => d.nsc && D.nscA ds
end
mutual
theorem Rep.cutF {K : Frag} {H : Hp} {w : Addr} {o : PySem.Obj} {xs : List V} (hw : H w = some (.frz o (.lst xs))) : ∀ (d : D) (v : V), d.nsc = true → Rep K H v d → Rep K (cutH H w) v d
  | .non, _, _, h => by cases h; exact .non
  | .bl b, _, _, h => by cases h; exact .bl b
  | .int b, _, _, h => by cases h; exact .int b
  | .str b, _, _, h => by cases h; exact .str b
  | .ty b, _, _, h => by cases h; exact .ty b
  | .adr a, _, _, h => by cases h; exact .adr a
  | .scr ds, _, p, h => by simp [D.nsc] at p
  | .lst ds, _, p, h => by
    simp only [D.nsc] at p
    cases h with
    | lst c d => exact .lst (by rw [cutH_ne (fun z => by rw [z, hw] at c; cases c)]; exact c) (RepA.cutF hw ds _ p d)
  | .tup ds, _, p, h => by
    simp only [D.nsc] at p
    cases h with
    | tup c d => exact .tup (by rw [cutH_ne (fun z => by rw [z, hw] at c; cases c)]; exact c) (RepA.cutF hw ds _ p d)
  | .ins C ns ds, _, p, h => by
    simp only [D.nsc] at p
    cases h with
    | ins c d e f => exact .ins (by rw [cutH_ne (fun z => by rw [z, hw] at c; cases c)]; exact c) d e (RepA.cutF hw ds _ p f)
  | .dK ks ds, _, p, h => by
    simp only [D.nsc] at p
    cases h with
    | dK c d e f => exact .dK (by rw [cutH_ne (fun z => by rw [z, hw] at c; cases c)]; exact c) d e (RepA.cutF hw ds _ p f)
  | .dT ks ds, _, p, h => by
    simp only [D.nsc] at p
    cases h with
    | dT c d e f => exact .dT (by rw [cutH_ne (fun z => by rw [z, hw] at c; cases c)]; exact c) d e (RepA.cutF hw ds _ p f)
  | .exn C ns ds, _, p, h => by
    simp only [D.nsc] at p
    cases h with
    | exn0 c => exact .exn0 (by rw [cutH_ne (fun z => by rw [z, hw] at c; cases c)]; exact c)
    | exn1 c1 c2 c3 c4 c5 => exact .exn1 (by rw [cutH_ne (fun z => by rw [z, hw] at c1; cases c1)]; exact c1) (by rw [cutH_ne (fun z => by rw [z, hw] at c2; cases c2)]; exact c2) c3 c4 (RepA.cutF hw ds _ p c5)
  | .clo G fr ds, _, p, h => by
    simp only [D.nsc] at p
    have ne : ∀ {a : Addr} {φ : Heap → Prop}, H a = some (.ext φ) → a ≠ w := fun {a φ} c z => by rw [z, hw] at c; cases c
    cases h with
    | clo c1 c2 c3 c4 =>
      exact .clo (by rw [cutH_ne (ne c1)]; exact c1) (by rw [cutH_ne (ne c2)]; exact c2)
        ⟨c3.1, c3.2.1, c3.2.2.1, c3.2.2.2.1, fun i q v a b => by have z := c3.2.2.2.2 i q v a b; rw [cutH_ne (ne z)]; exact z⟩ (RepA.cutF hw ds _ p c4)
theorem RepA.cutF {K : Frag} {H : Hp} {w : Addr} {o : PySem.Obj} {xs : List V} (hw : H w = some (.frz o (.lst xs))) : ∀ (ds : List D) (vs : List V), D.nscA ds = true → RepA K H vs ds → RepA K (cutH H w) vs ds
  | [], _, _, h => by cases h; exact .nil
  | d :: ds, _, p, h => by
    simp only [D.nscA, Bool.and_eq_true] at p
    cases h with
    | cons a b => exact .cons (Rep.cutF hw d _ p.1 a) (RepA.cutF hw ds _ p.2 b)
end
section
variable {X : Cx} {kx kx' : XD} {ρ ρ' ρ'' : Ro} {M M' : Mem} {e : Expr} {d : D} {w : Addr} {ds : List D}
end
end Dl
namespace Dl
open PySem PySem.Spec PyProof.Rows L2
end Dl

/-! dicts: kept in Mem while they change, locked for good when they don't -/
namespace Dl
open PySem PySem.Spec PyProof.Rows L2
section
variable {κ β γ : Type} [DecidableEq κ]
def getA (xs : List (κ × β)) (k : κ) : Option β := (xs.find? fun q => decide (q.1 = k)).map (·.2)
def putA (xs : List (κ × β)) (k : κ) (v : β) : List (κ × β) := if (xs.any fun q => decide (q.1 = k)) = true then xs.map (fun q => if q.1 = k then (q.1, v) else q) else xs ++ [(k, v)]
def setdA (xs : List (κ × β)) (k : κ) (v : β) : List (κ × β) := if (getA xs k).isSome = true then xs else putA xs k v
theorem getA_nil (k : κ) : getA ([] : List (κ × β)) k = none := rfl
theorem getA_cons (q : κ × β) (xs : List (κ × β)) (k : κ) : getA (q :: xs) k = if q.1 = k then some q.2 else getA xs k := by
  unfold getA
  rw [List.find?_cons]
  by_cases h : q.1 = k
  · rw [if_pos h, decide_eq_true h]; rfl
  · rw [if_neg h, decide_eq_false h]
theorem valV_cons' (q : κ × V) (xs : List (κ × V)) (k : κ) : valV (q :: xs) k = if q.1 = k then some q.2 else valV xs k := by
  by_cases h : q.1 = k
  · rw [if_pos h, valV_pos h]
  · rw [if_neg h, valV_neg h]
theorem getA_any (xs : List (κ × β)) (k : κ) : (xs.any fun q => decide (q.1 = k)) = (getA xs k).isSome := by
  induction xs with
  | nil => rfl
  | cons q xs ih =>
    rw [List.any_cons, getA_cons, ih]
    by_cases h : q.1 = k
    · rw [if_pos h, decide_eq_true h]; rfl
    · rw [if_neg h, decide_eq_false h]; rfl
/-- what a dict's look-up gives, value beside data -/
def Look2 (K : Frag) (H : Hp) : Option V → Option D → Prop
  | none, none => True
  | some v, some d => Rep K H v d
  | _, _ => False
theorem get_rep {K : Frag} {H : Hp} (k : κ) : ∀ {vs : List (κ × V)} {kvs : List (κ × D)}, vs.map Prod.fst = kvs.map Prod.fst → RepA K H (vs.map Prod.snd) (kvs.map Prod.snd) → Look2 K H (valV vs k) (getA kvs k)
  | [], [], _, _ => trivial
  | [], _ :: _, h, _ => by simp at h
  | _ :: _, [], h, _ => by simp at h
  | v :: vs, q :: kvs, h, r => by
    simp only [List.map_cons, List.cons.injEq] at h
    simp only [List.map_cons] at r
    cases r with
    | cons r1 r2 =>
      rw [valV_cons', getA_cons, h.1]
      by_cases e : q.1 = k
      · rw [if_pos e, if_pos e]; exact r1
      · rw [if_neg e, if_neg e]; exact get_rep k h.2 r2
theorem any_fst {κ β γ : Type} [DecidableEq κ] (k : κ) : ∀ {xs : List (κ × β)} {ys : List (κ × γ)}, xs.map Prod.fst = ys.map Prod.fst → (xs.any fun q => decide (q.1 = k)) = (ys.any fun q => decide (q.1 = k))
  | [], [], _ => rfl
  | [], _ :: _, h => by simp at h
  | _ :: _, [], h => by simp at h
  | x :: xs, y :: ys, h => by
    simp only [List.map_cons, List.cons.injEq] at h
    rw [List.any_cons, List.any_cons, any_fst k h.2, h.1]
theorem map_rep {K : Frag} {H : Hp} {k : κ} {v : V} {d : D} (r0 : Rep K H v d) : ∀ {vs : List (κ × V)} {kvs : List (κ × D)}, vs.map Prod.fst = kvs.map Prod.fst → RepA K H (vs.map Prod.snd) (kvs.map Prod.snd) →
    (vs.map fun q => if q.1 = k then (q.1, v) else q).map Prod.fst = (kvs.map fun q => if q.1 = k then (q.1, d) else q).map Prod.fst ∧ RepA K H ((vs.map fun q => if q.1 = k then (q.1, v) else q).map Prod.snd) ((kvs.map fun q => if q.1 = k then (q.1, d) else q).map Prod.snd)
  | [], [], _, _ => ⟨rfl, .nil⟩
  | [], _ :: _, h, _ => by simp at h
  | _ :: _, [], h, _ => by simp at h
  | x :: vs, q :: kvs, h, r => by
    simp only [List.map_cons, List.cons.injEq] at h
    simp only [List.map_cons] at r
    cases r with
    | cons r1 r2 =>
      obtain ⟨i1, i2⟩ := map_rep (k := k) r0 h.2 r2
      simp only [List.map_cons]
      rw [h.1]
      by_cases e : q.1 = k
      · rw [if_pos e, if_pos e]; exact ⟨congrArg (q.1 :: ·) i1, .cons r0 i2⟩
      · rw [if_neg e, if_neg e]; exact ⟨by rw [h.1, i1], .cons r1 i2⟩
theorem put_rep {K : Frag} {H : Hp} {k : κ} {v : V} {d : D} {vs : List (κ × V)} {kvs : List (κ × D)} (h : vs.map Prod.fst = kvs.map Prod.fst) (r : RepA K H (vs.map Prod.snd) (kvs.map Prod.snd)) (r0 : Rep K H v d) :
    (putK vs k v).map Prod.fst = (putA kvs k d).map Prod.fst ∧ RepA K H ((putK vs k v).map Prod.snd) ((putA kvs k d).map Prod.snd) := by
  unfold putK putA
  rw [any_fst k h]
  by_cases e : (kvs.any fun q => decide (q.1 = k)) = true
  · rw [if_pos e, if_pos e]
    exact map_rep r0 h r
  · rw [if_neg e, if_neg e]
    refine ⟨by rw [List.map_append, List.map_append, h]; rfl, ?_⟩
    rw [List.map_append, List.map_append]
    exact r.app (.one r0)
/-! typed -/
theorem getA_map {κ' : Type} [DecidableEq κ'] {ek : κ → κ'} (inj : ∀ a b, ek a = ek b → a = b) {g : β → γ} (k : κ) : ∀ xs : List (κ × β), getA (xs.map fun q => (ek q.1, g q.2)) (ek k) = (getA xs k).map g
  | [] => rfl
  | q :: xs => by
    rw [List.map_cons, getA_cons, getA_cons, getA_map inj k xs]
    dsimp only
    by_cases e : q.1 = k
    · rw [if_pos e, if_pos (congrArg ek e)]; rfl
    · rw [if_neg e, if_neg (fun z => e (inj _ _ z))]
theorem putA_map {κ' : Type} [DecidableEq κ'] {ek : κ → κ'} (inj : ∀ a b, ek a = ek b → a = b) {g : β → γ} (xs : List (κ × β)) (k : κ) (v : β) : putA (xs.map fun q => (ek q.1, g q.2)) (ek k) (g v) = (putA xs k v).map fun q => (ek q.1, g q.2) := by
  unfold putA
  have e : ((xs.map fun q => (ek q.1, g q.2)).any fun q => decide (q.1 = ek k)) = xs.any fun q => decide (q.1 = k) := by
    rw [List.any_map]
    congr 1
    funext q
    exact decide_eq_decide.mpr ⟨fun h => inj _ _ h, fun h => congrArg ek h⟩
  rw [e]
  split
  · rw [List.map_map, List.map_map]
    refine List.map_congr_left fun q _ => ?_
    show (if ek q.1 = ek k then (ek q.1, g v) else (ek q.1, g q.2)) = _
    by_cases h : q.1 = k
    · rw [if_pos (congrArg ek h)]; simp [h]
    · rw [if_neg (fun z => h (inj _ _ z))]; simp [h]
  · rw [List.map_append]; rfl
theorem putA_len (xs : List (κ × β)) (k : κ) (v : β) : (putA xs k v).length ≤ xs.length + 1 := by
  unfold putA
  split
  · rw [List.length_map]; omega
  · rw [List.length_append]; exact Nat.le_refl _
end
/-! ### keys -/
def kD : Key → D
  | .inl i => .int i
  | .inr x => .str x
theorem kD_rep {K : Frag} {H : Hp} {v : V} {k : Key} (r : Rep K H v (kD k)) : v = kV k := by
  cases k with
  | inl i => cases r; rfl
  | inr x => cases r; rfl
theorem kDs_rep {K : Frag} {H : Hp} : ∀ {ks : List Key} {vs : List V}, RepA K H vs (ks.map kD) → vs = ks.map kV
  | [], _, r => by cases r; rfl
  | k :: ks, _, r => by
    have r' : RepA K H _ (kD k :: ks.map kD) := r
    cases r' with
    | cons a b => rw [kD_rep a, kDs_rep b]; rfl
theorem rep_kD {K : Frag} {H : Hp} : ∀ (k : Key), Rep K H (kV k) (kD k)
  | .inl i => .int i
  | .inr x => .str x
/-- a dict with tuples as keys, that changes or doesn't -/
inductive DctT (M : Mem) : D → List (List Key × D) → Prop
  | adr {w : Addr} {kvs : List (List Key × D)} : (w, Mu.dT kvs) ∈ M → DctT M (.adr w) kvs
  | frz (kvs : List (List Key × D)) : DctT M (.dT (kvs.map Prod.fst) (kvs.map Prod.snd)) kvs
inductive DctK (M : Mem) : D → List (Key × D) → Prop
  | adr {w : Addr} {kvs : List (Key × D)} : (w, Mu.dK kvs) ∈ M → DctK M (.adr w) kvs
  | frz (kvs : List (Key × D)) : DctK M (.dK (kvs.map Prod.fst) (kvs.map Prod.snd)) kvs
theorem DctT.rep {K : Frag} {M : Mem} {H H0 : Hp} {v : V} {d : D} {kvs : List (List Key × D)} (h : DctT M d kvs) (t : Ht K H0 H M) (r : Rep K H0 v d) : ∃ (a : Addr) (vs : List (List Key × V)), v = .ref a ∧ Rd H a (.dT vs) ∧ vs.map Prod.fst = kvs.map Prod.fst ∧ RepA K H0 (vs.map Prod.snd) (kvs.map Prod.snd) := by
  cases h with
  | adr hm =>
    cases r
    obtain ⟨_, vs, xs, h1, h2, h3, h4⟩ := t.mem _ hm
    subst h3
    exact ⟨_, vs, rfl, .inl h1, h2, h4⟩
  | frz kvs =>
    cases r with
    | @dT a o vs ks xs ds h1 h2 h3 h4 =>
      subst h3
      exact ⟨_, vs, rfl, .inr ⟨o, t.ex _ _ h1⟩, h2, h4⟩
theorem DctK.rep {K : Frag} {M : Mem} {H H0 : Hp} {v : V} {d : D} {kvs : List (Key × D)} (h : DctK M d kvs) (t : Ht K H0 H M) (r : Rep K H0 v d) : ∃ (a : Addr) (vs : List (Key × V)), v = .ref a ∧ Rd H a (.dK vs) ∧ vs.map Prod.fst = kvs.map Prod.fst ∧ RepA K H0 (vs.map Prod.snd) (kvs.map Prod.snd) := by
  cases h with
  | adr hm =>
    cases r
    obtain ⟨_, vs, xs, h1, h2, h3, h4⟩ := t.mem _ hm
    subst h3
    exact ⟨_, vs, rfl, .inl h1, h2, h4⟩
  | frz kvs =>
    cases r with
    | @dK a o vs ks xs ds h1 h2 h3 h4 =>
      subst h3
      exact ⟨_, vs, rfl, .inr ⟨o, t.ex _ _ h1⟩, h2, h4⟩
/-- either kind of dict, with a key: what a look-up gives -/
inductive DKey (M : Mem) (x y : D) : Option D → Prop
  | t {kvs : List (List Key × D)} {k : List Key} : DctT M x kvs → y = .tup (k.map kD) → DKey M x y (getA kvs k)
  | k {kvs : List (Key × D)} {k : Key} : DctK M x kvs → y = kD k → DKey M x y (getA kvs k)
theorem DKey.get {K : Frag} {M : Mem} {H H0 : Hp} {v u : V} {x y : D} {o : Option D} (h : DKey M x y o) (t : Ht K H0 H M) (r : Rep K H0 v x) (ru : Rep K H0 u y) : ∃ a q, v = .ref a ∧ DGet H a u q ∧ Look2 K H0 q o := by
  cases h with
  | @t kvs k h e =>
    obtain ⟨a, vs, h1, h2, h3, h4⟩ := h.rep t r
    subst e
    cases ru with
    | @tup b xs _ c d =>
      have ek := kDs_rep d
      subst ek
      exact ⟨a, valV vs k, h1, .inr ⟨vs, k, b, h2, rfl, t.ex _ _ c, rfl⟩, get_rep k h3 h4⟩
  | @k kvs k h e =>
    obtain ⟨a, vs, h1, h2, h3, h4⟩ := h.rep t r
    subst e
    rw [kD_rep ru]
    exact ⟨a, valV vs k, h1, .inl ⟨vs, k, h2, rfl, rfl⟩, get_rep k h3 h4⟩
section
variable {X : Cx} {kx kx' : XD} {ρ ρ' ρ'' : Ro} {M M' : Mem} {P : Out → Mem → Prop} {pos p apos cpos tpos : Pos} {tg a b c e o ix f : Expr} {es : List Expr} {x y z d : D} {w C : Addr} {α β κ : Type} {k : Nat} {op : Option D} {N : List Str} {sc : Scope}
theorem m1 (base : attributeBase o "get" X.env (eval o X.env) = eval o X.env := by rfl)
    (few : ((backTo cpos (starEach [e] X.env)).all (fun x => !x.1) && (backToKw cpos (keywordEach [] X.env)).all (fun x => x.1.isSome) && decide (([e] : List Expr).length + ([] : List Keyword).length + (if ([] : List Keyword).isEmpty then 0 else 1) < 30)) = true := by rfl)
    (line : (apos.endLine == cpos.line) = true := by rfl) (trees : backTo cpos (starEach [e] X.env) = [(false, eval e X.env)] := by rfl) : M1 X o "get" apos e cpos := ⟨base, few, line, trees⟩
theorem m2 {m : Str} (base : attributeBase o m X.env (eval o X.env) = eval o X.env := by rfl)
    (few : ((backTo cpos (starEach [e, f] X.env)).all (fun x => !x.1) && (backToKw cpos (keywordEach [] X.env)).all (fun x => x.1.isSome) && decide (([e, f] : List Expr).length + ([] : List Keyword).length + (if ([] : List Keyword).isEmpty then 0 else 1) < 30)) = true := by rfl)
    (line : (apos.endLine == cpos.line) = true := by rfl) (trees : backTo cpos (starEach [e, f] X.env) = [(false, eval e X.env), (false, eval f X.env)] := by rfl) : M2 X o m apos e f cpos := ⟨base, few, line, trees⟩
/-- d[k], there -/
theorem dv_dix (B : Bd X N sc k) (ho : DV X kx o ρ M x) (he : DV X kx e ρ M y) (hd : DKey M x y (some d)) (hs : NoSl e := by exact ⟨rfl, rfl⟩) : DV X kx (.Subscript o e pos) ρ M d := fun σ H H0 t s W tk hx Q q =>
  sE.by (pe_dget (by have := B.hu; omega) (pe_s o) (pe_s e) hs) (ho σ H H0 t s W tk hx _ fun v H1 H01 p1 r1 => he σ H1 H01 (t.pu p1) (s.mo p1.e0) W tk (hx.pu p1) _ fun u H2 H02 p2 r2 => by
    obtain ⟨a', qv, e3, e4, e5⟩ := hd.get (t.pu (p1.trans p2)) (r1.mo p2.e0) r2
    cases qv with
    | none => exact e5.elim
    | some v' => exact ⟨a', v', e3, e4, q _ H2 H02 (p1.trans p2) e5⟩)
theorem de_newK {kk : D → Mem → Prop} (hk : ∀ w, w ∉ M.dom → kk (.adr w) ((w, .dK []) :: M)) : DE X kx (.Dict [] [] pos) ρ M kk := fun σ H H0 t s W tk hx Q q =>
  sE.by pe_dnewK fun p hp => q (.ref p) _ H0 (.adr p) _ (Go.new1 hp (.dK [])) (t.new1 (m := .dK []) hp fun H' e => ⟨[], [], e, rfl, rfl, .nil⟩) (.adr p) (hk p (t.free hp).2)
end
/-! ### setdefault of a dict with tuples as keys -/
def rSetdT : V → List V → Hp → VK → Prop := fun x xs H Q => ∃ (a : Addr) (vs : List (List Key × V)) (k : List Key) (b : Addr) (dv : V), x = .ref a ∧ xs = [.ref b, dv] ∧ H a = some (.dT vs) ∧ H b = some (.tup (k.map kV)) ∧ vs.length < sizeLine ∧
  (∀ v, valV vs k = some v → Q v H) ∧ (valV vs k = none → Q dv (upd H a (.dT (putK vs k dv))))
section
variable {X : Cx} {kx kx' : XD} {ρ ρ' ρ'' : Ro} {M M' : Mem} {P : Out → Mem → Prop} {pos p apos cpos spos : Pos} {tg a b c e o ix f : Expr} {x y z d : D} {w C : Addr} {k : Nat} {N : List Str} {sc : Scope}
end
end Dl

/-! walks over dicts that are locked -/
namespace Dl
open PySem PySem.Spec PyProof.Rows L2
/-- the pairs of a locked dict whose keys are tuples, each pair a new tuple -/
def ItiT (d : Addr) (o : PySem.Obj) (kvs : List (List Key × V)) : It :=
  ⟨fun i H => H d = some (.frz o (.dT kvs)) ∧ i < kvs.length,
    fun i H x H' => ∃ T k v q, kvs[i]? = some (k, v) ∧ x = .ref T ∧ H T = none ∧ H q = some (.tup (k.map kV)) ∧ H' = upd H T (.tup [.ref q, v]),
    fun i H => H d = some (.frz o (.dT kvs)) ∧ kvs.length ≤ i⟩
section
variable {P : Program} {w : World} {K : PySem.W.Frag} {d : Addr} {o : PySem.Obj} {es : Array DictEntry} {ep : Nat}
end
def iItemsT (td : TE) : TI := fun σ H R => td σ H fun x H1 => ∃ d o kvs, x = .ref d ∧ H1 d = some (.frz o (.dT kvs)) ∧ R (ItiT d o kvs) H1
section
variable {X : Cx} {kx kx' : XD} {ρ ρ' ρ'' : Ro} {M M' : Mem} {P : Out → Mem → Prop} {pos p apos cpos tpos : Pos} {tg a b c e o ix f : Expr} {es elts : List Expr} {kk : Nat} {x y z d : D} {w C : Addr} {α β κ : Type} {k : Nat}
/-- .. keys being numbers or texts -/
theorem di_itemsK {kvs : List (Key × D)} (h : DV X kx e ρ M (.dK (kvs.map Prod.fst) (kvs.map Prod.snd))) (hbase : attributeBase e "items" X.env (eval e X.env) = eval e X.env := by rfl) (hline : (apos.endLine == cpos.line) = true := by rfl) :
    DI X kx (.Tuple elts kk tpos) (.Call (.Attribute e "items" apos) [] [] cpos) ρ M (kvs.map fun q => .tup [kD q.1, q.2]) := fun σ H H0 t s W tk hx R q =>
  sI.by (pi_items (pe_s e) hbase hline) (h σ H H0 t s W tk hx _ fun v H' H0' p r => by
    cases r with
    | @dK a ob vs ks xs ds h1 h2 h3 h4 =>
      subst h3
      have lv : vs.length = kvs.length := by have := congrArg List.length h2; simpa using this
      refine ⟨a, ob, vs, rfl, p.ex _ _ h1, q _ H' H0' p ⟨_, _, by rw [List.length_map, ← lv]; exact walk_items, fun H e => e _ _ h1, ?_⟩⟩
      rintro i H1 x H2 H01 d e0 e1 hd ⟨T, y, u, rfl, nT, rfl, hy, hu⟩
      rw [List.getElem?_map] at hd
      cases hk : kvs[i]? with
      | none => rw [hk] at hd; cases hd
      | some kv =>
        rw [hk] at hd
        cases hd
        have hy : (vs[i]?).map (fun kv => kV kv.1) = some y := hy
        have hu : (vs[i]?).map Prod.snd = some u := hu
        cases hv : vs[i]? with
        | none => rw [hv] at hy; cases hy
        | some kw =>
          rw [hv] at hy hu
          cases hy; cases hu
          have hs : (vs.map Prod.snd)[i]? = some kw.2 := by rw [List.getElem?_map, hv]; rfl
          obtain ⟨d', hd', rv⟩ := h4.getV hs
          rw [List.getElem?_map, hk] at hd'
          cases hd'
          have hf : (vs.map Prod.fst)[i]? = (kvs.map Prod.fst)[i]? := by rw [h2]
          rw [List.getElem?_map, List.getElem?_map, hv, hk] at hf
          have ek : kw.1 = kv.1 := by simpa using hf
          have g := Pu.new1 e1 nT (.tup [kV kw.1, kw.2])
          refine ⟨_, g, .tup upd_same (.cons ?_ (.cons (rv.mo (e0.trans g.e0)) .nil))⟩
          rw [ek]; exact rep_kD _)
end
end Dl

/-! things that own what they are made of: trees of lists, objects, dicts -/
namespace Dl
open PySem PySem.Spec PyProof.Rows L2
inductive Ow where
  | fr (d : D) | lst (a : Addr) (xs : List Ow) | ins (a C : Addr) (ns : List Str) (xs : List Ow) | dK (a : Addr) (ks : List Key) (xs : List Ow) | dT (a : Addr) (ks : List (List Key)) (xs : List Ow) | tup (xs : List Ow) | seq (xs : List Ow)
mutual
def Ow.root : Ow → D
  | .fr d => d
  | .lst a _ => .adr a
  | .ins a _ _ _ => .adr a
  | .dK a _ _ => .adr a
  | .dT a _ _ => .adr a
  | .tup xs => .tup (Ow.rootA xs)
  | .seq xs => .lst (Ow.rootA xs)
def Ow.rootA : List Ow → List D
  | [] => []
  | o :: os => o.root :: Ow.rootA os
end
mutual
def Ow.mem : Ow → Mem
  | .fr _ => []
  | .lst a xs => (a, .lst (Ow.rootA xs)) :: Ow.memA xs
  | .ins a C ns xs => (a, .ins C ns (Ow.rootA xs)) :: Ow.memA xs
  | .dK a ks xs => (a, .dK (ks.zip (Ow.rootA xs))) :: Ow.memA xs
  | .dT a ks xs => (a, .dT (ks.zip (Ow.rootA xs))) :: Ow.memA xs
  | .tup xs => Ow.memA xs
  | .seq xs => Ow.memA xs
def Ow.memA : List Ow → Mem
  | [] => []
  | o :: os => o.mem ++ Ow.memA os
end
mutual
def Ow.frz : Ow → D
  | .fr d => d
  | .lst _ xs => .scr (Ow.frzA xs)
  | .ins _ C ns xs => .ins C ns (Ow.frzA xs)
  | .dK _ ks xs => .dK ks (Ow.frzA xs)
  | .dT _ ks xs => .dT ks (Ow.frzA xs)
  | .tup xs => .tup (Ow.frzA xs)
  | .seq xs => .lst (Ow.frzA xs)
def Ow.frzA : List Ow → List D
  | [] => []
  | o :: os => o.frz :: Ow.frzA os
end
mutual
/-- keys and values are as many -/
def Ow.fit : Ow → Prop
  | .fr _ => True
  | .lst _ xs => Ow.fitA xs
  | .ins _ _ _ xs => Ow.fitA xs
  | .dK _ ks xs => ks.length = xs.length ∧ Ow.fitA xs
  | .dT _ ks xs => ks.length = xs.length ∧ Ow.fitA xs
  | .tup xs => Ow.fitA xs
  | .seq xs => Ow.fitA xs
def Ow.fitA : List Ow → Prop
  | [] => True
  | o :: os => o.fit ∧ Ow.fitA os
end
theorem rootA_map : ∀ os : List Ow, Ow.rootA os = os.map Ow.root
  | [] => by simp [Ow.rootA]
  | o :: os => by simp [Ow.rootA, rootA_map os]
theorem frzA_map : ∀ os : List Ow, Ow.frzA os = os.map Ow.frz
  | [] => by simp [Ow.frzA]
  | o :: os => by simp [Ow.frzA, frzA_map os]
theorem memA_map : ∀ os : List Ow, Ow.memA os = (os.map Ow.mem).flatten
  | [] => by simp [Ow.memA]
  | o :: os => by simp [Ow.memA, memA_map os]
theorem memA_fr {α : Type} (f : α → D) : ∀ xs : List α, Ow.memA (xs.map fun x => .fr (f x)) = []
  | [] => by simp [Ow.memA]
  | x :: xs => by simp [Ow.memA, Ow.mem, memA_fr f xs]
theorem fitA_fr {α : Type} (f : α → D) : ∀ xs : List α, Ow.fitA (xs.map fun x => .fr (f x))
  | [] => by simp [Ow.fitA]
  | x :: xs => by simp [Ow.fitA, Ow.fit, fitA_fr f xs]
theorem rootA_fr {α : Type} (f : α → D) (xs : List α) : Ow.rootA (xs.map fun x => .fr (f x)) = xs.map f := by
  rw [rootA_map, List.map_map]
  refine List.map_congr_left fun x _ => ?_
  simp [Ow.root]
theorem frzA_fr {α : Type} (f : α → D) (xs : List α) : Ow.frzA (xs.map fun x => .fr (f x)) = xs.map f := by
  rw [frzA_map, List.map_map]
  refine List.map_congr_left fun x _ => ?_
  simp [Ow.frz]
/-! ### order in Mem is of no matter -/
section
variable {K : Frag} {H0 H H0' H' : Hp} {M M2 M' N : Mem}
theorem Ht.perm (t : Ht K H0 H M) (p : M.Perm M2) : Ht K H0 H M2 :=
  ⟨t.ex, (p.map Prod.fst).nodup_iff.mp t.nd, fun q hq => t.mem q (p.mem_iff.mpr hq), t.tb⟩
theorem dom_perm (p : M.Perm M2) (a : Addr) : a ∈ M.dom ↔ a ∈ M2.dom := (p.map Prod.fst).mem_iff
theorem Go.permL (g : Go H0 H M H0' H' M') (p : M.Perm M2) : Go H0 H M2 H0' H' M' :=
  ⟨g.e0, fun b o e hb n => g.e b o e (fun z => hb ((dom_perm p b).mp z)) n, fun a h1 h2 h3 => g.new a h1 h2 fun z => h3 ((dom_perm p a).mp z), fun a ha => (g.dom a ha).imp (dom_perm p a).mp id, g.there⟩
theorem Go.permR (g : Go H0 H M H0' H' M') (p : M'.Perm N) : Go H0 H M H0' H' N := ⟨g.e0, g.e, g.new, fun a ha => g.dom a ((dom_perm p a).mpr ha), g.there⟩
/-- a part of Mem -/
theorem Ht.sub (t : Ht K H0 H M) (s : M2.Sublist M) : Ht K H0 H M2 := ⟨t.ex, t.nd.sublist (s.map Prod.fst), fun q hq => t.mem q (s.subset hq), t.tb⟩
theorem Go.subR (g : Go H0 H M H0' H' M') (s : N.Sublist M') : Go H0 H M H0' H' N := ⟨g.e0, g.e, g.new, fun a ha => g.dom a ((s.map Prod.fst).subset ha), g.there⟩
end
section
variable {X : Cx} {kx kx' : XD} {ρ ρ' ρ'' : Ro} {M M2 M' : Mem} {P : Out → Mem → Prop} {e : Expr} {sts : List Stmt}
theorem Hx.perm {W : WX} {H0 H : Hp} (hx : Hx X W H0 H M kx) (p : M.Perm M2) (i : ∀ cls fs ρ' m, kx' cls fs ρ' m → ∃ m', m.Perm m' ∧ kx cls fs ρ' m') : Hx X W H0 H M2 kx' :=
  fun cls dd σ' H' H0' fs ρ' m g t s xr q => by
    obtain ⟨m', p', q'⟩ := i _ _ _ _ q
    exact hx cls dd σ' H' H0' fs ρ' m' ((g.permL p.symm).permR p') (t.perm p') s xr q'
theorem DE.perm {k k' : D → Mem → Prop} (p : M.Perm M2) (h : DE X kx' e ρ M2 k') (hk : ∀ d m, k' d m → ∃ m', m.Perm m' ∧ k d m') (i : ∀ cls fs ρ' m, kx' cls fs ρ' m → ∃ m', m.Perm m' ∧ kx cls fs ρ' m') : DE X kx e ρ M k :=
  fun σ H H0 t s W tk hx Q q => h σ H H0 (t.perm p) s W tk (hx.perm p i) Q fun v H' H0' d m g t' r kk => by
    obtain ⟨m', p', k2⟩ := hk d m kk
    exact q v H' H0' d m' ((g.permL p.symm).permR p') (t'.perm p') r k2
theorem DS.perm (p : M.Perm M2) (h : DS X kx sts ρ M2 P) (i : ∀ cls fs ρ' m, kx cls fs ρ' m → kx cls fs ρ' m := fun _ _ _ _ h => h) : DS X kx sts ρ M P := fun σ H H0 t sl W tk hx D c =>
  h σ H H0 (t.perm p) sl W tk (fun cls dd σ' H' H0' fs ρ' m g t' s' xr q => hx cls dd σ' H' H0' fs ρ' m (g.permL p.symm) t' s' xr q) D
    ⟨fun σ' H' H0' ρ' M' g t' s' q => c.nx σ' H' H0' ρ' M' (g.permL p.symm) t' s' q, fun σ' H' H0' ρ' M' g t' s' q => c.bk σ' H' H0' ρ' M' (g.permL p.symm) t' s' q, fun σ' H' H0' ρ' M' g t' s' q => c.ct σ' H' H0' ρ' M' (g.permL p.symm) t' s' q, fun v H' H0' d M' g t' r q => c.rt v H' H0' d M' (g.permL p.symm) t' r q⟩
end
/-! ### locks -/
def Mu.dict : Mu → Bool
  | .lst _ => true
  | .dK _ => true
  | .dT _ => true
  | _ => false
def Mu.lock : Mu → Mu
  | .lst ds => .fL ds
  | .dK kvs => .fK kvs
  | .dT kvs => .fT kvs
  | m => m
def lockM (c : Mem) : Mem := c.map fun p => (p.1, p.2.lock)
def locksOf (c : Mem) : List Addr := (c.filter fun p => p.2.dict).map Prod.fst
def lockL (H : Hp) (od : Addr → PySem.Obj) (L : List Addr) : Hp := fun b => if b ∈ L then (H b).map fun u => .frz (od b) u else H b
theorem lockL_nil {H : Hp} {od : Addr → PySem.Obj} : lockL H od [] = H := by funext b; unfold lockL; rw [if_neg (by simp)]
theorem lockL_ne {H : Hp} {od : Addr → PySem.Obj} {L : List Addr} {b : Addr} (h : b ∉ L) : lockL H od L b = H b := by unfold lockL; rw [if_neg h]
theorem lockL_in {H : Hp} {od : Addr → PySem.Obj} {L : List Addr} {b : Addr} (h : b ∈ L) : lockL H od L b = (H b).map fun u => .frz (od b) u := by unfold lockL; rw [if_pos h]
theorem lockL_cons {H : Hp} {od : Addr → PySem.Obj} {L : List Addr} {a : Addr} {u : HO} {o : PySem.Obj} (ha : H a = some u) (hn : a ∉ L) : lockL (upd H a (.frz o u)) od L = lockL H (fun b => if b = a then o else od b) (a :: L) := by
  funext b
  by_cases hb : b = a
  · subst hb
    rw [lockL_ne hn, upd_same, lockL_in (by simp), ha]
    simp
  · by_cases hl : b ∈ L
    · rw [lockL_in hl, lockL_in (List.mem_cons_of_mem _ hl), upd_ne hb]
      simp [hb]
    · rw [lockL_ne hl, upd_ne hb, lockL_ne (by simp [hb, hl])]
theorem inv_locks {X : Cx} {pins : List (Addr × PySem.Obj)} {σ : L2.St} {s : Shared} : ∀ (L : List Addr) (H : Hp), Inv X pins σ H s → L.Nodup → (∀ a ∈ L, ∃ u, H a = some u ∧ Mut (some u)) → ∃ od, Inv X pins σ (lockL H od L) s
  | [], H, I, _, _ => ⟨fun _ => default, by rw [lockL_nil]; exact I⟩
  | a :: L, H, I, nd, h => by
    obtain ⟨n1, n2⟩ := List.nodup_cons.mp nd
    obtain ⟨u, hu, mu⟩ := h a (by simp)
    obtain ⟨o, I1⟩ := I.lock hu mu
    obtain ⟨od, I2⟩ := inv_locks L _ I1 n2 fun b hb => by
      obtain ⟨v, hv, mv⟩ := h b (List.mem_cons_of_mem _ hb)
      exact ⟨v, by rw [upd_ne (fun z => n1 (by rw [← z]; exact hb))]; exact hv, mv⟩
    rw [lockL_cons hu n1] at I2
    exact ⟨_, I2⟩
theorem lock_none {H : Hp} {od : Addr → PySem.Obj} {L : List Addr} {b : Addr} (e : lockL H od L b = none) : H b = none := by
  unfold lockL at e
  split at e
  · cases z : H b with
    | none => rfl
    | some u => rw [z] at e; cases e
  · exact e
def unlockL (H H' : Hp) (L : List Addr) : Hp := fun b => if b ∈ L then H b else H' b
theorem TB.lock {H0 H : Hp} {od : Addr → PySem.Obj} {L : List Addr} (t : TB H0 H) (h : ∀ a ∈ L, NX (H a)) : TB H0 (lockL H od L) :=
  t.keep (fun _ _ n _ => n) (fun b ps e => by rw [lockL_ne (fun z => (h b z).1 ps e)]; exact e) (fun c φ e => by rw [lockL_ne (fun z => (h c z).2 φ e)]; exact e) fun _ _ z => z
section
variable {X : Cx} {σ : L2.St} {H : Hp} {L : List Addr}
theorem sSs_pre {sts : List Stmt} {D : Ends} (nd : L.Nodup) (hL : ∀ a ∈ L, ∃ u, H a = some u ∧ Mut (some u)) (h : ∀ od, sSs X sts D σ (lockL H od L)) : sSs X sts D σ H := fun pins s I => by
  obtain ⟨od, I1⟩ := inv_locks L H I nd hL
  exact h od pins s I1
theorem sE_post {e : Expr} {Q : VK} (h : sE X e σ H fun v H1 => ∃ L : List Addr, L.Nodup ∧ (∀ a ∈ L, ∃ u, H1 a = some u ∧ Mut (some u)) ∧ ∀ od, Q v (lockL H1 od L)) : sE X e σ H Q := fun pins s I => by
  refine thn (h pins s I) fun u s1 ⟨v, H1, J, r, L, nd, hL, q⟩ => ?_
  obtain ⟨od, J1⟩ := inv_locks L H1 J nd hL
  exact ⟨v, _, J1, r, q od⟩
end
theorem MuRep.mut {K : Frag} {H0 H : Hp} {a : Addr} {m : Mu} (h : MuRep K H0 H a m) (d : m.dict = true) : ∃ u, H a = some u ∧ Mut (some u) := by
  cases m with
  | lst ds => obtain ⟨vs, h, _⟩ := h; exact ⟨_, h, trivial⟩
  | fL ds => cases d
  | ins C ns ds => cases d
  | dK kvs => obtain ⟨vs, xs, h, _⟩ := h; exact ⟨_, h, trivial⟩
  | dT kvs => obtain ⟨vs, xs, h, _⟩ := h; exact ⟨_, h, trivial⟩
  | fK kvs => cases d
  | fT kvs => cases d
theorem locks_sub (c : Mem) : (locksOf c).Sublist c.dom := List.Sublist.map _ List.filter_sublist
theorem locks_mem {c : Mem} {a : Addr} (h : a ∈ locksOf c) : ∃ p ∈ c, p.1 = a ∧ p.2.dict = true := by
  obtain ⟨p, hp, rfl⟩ := List.mem_map.mp h
  obtain ⟨a, b⟩ := List.mem_filter.mp hp
  exact ⟨p, a, rfl, b⟩
section
variable {K : Frag} {H0 H : Hp} {c R : Mem}
theorem Ht.lockable (t : Ht K H0 H (c ++ R)) : (locksOf c).Nodup ∧ ∀ a ∈ locksOf c, ∃ u, H a = some u ∧ Mut (some u) := by
  have tl := t.left
  refine ⟨tl.nd.sublist (locks_sub c), fun a ha => ?_⟩
  obtain ⟨p, hp, rfl, hd⟩ := locks_mem ha
  exact (tl.mem p hp).2.mut hd
theorem lockM_dom (c : Mem) : (lockM c).dom = c.dom := by
  unfold lockM Mem.dom
  rw [List.map_map]; rfl
theorem in_one {M : Mem} (nd : M.dom.Nodup) {p q : Addr × Mu} (hp : p ∈ M) (hq : q ∈ M) (e : p.1 = q.1) : p = q := by
  induction M with
  | nil => simp at hp
  | cons x M ih =>
    have nd' : (x.1 :: Mem.dom M).Nodup := nd
    obtain ⟨n1, n2⟩ := List.nodup_cons.mp nd'
    rcases List.mem_cons.mp hp with hp1 | hp1
    · rcases List.mem_cons.mp hq with hq1 | hq1
      · rw [hp1, hq1]
      · exact absurd (show x.1 ∈ Mem.dom M from List.mem_map.mpr ⟨q, hq1, by rw [← e, hp1]⟩) n1
    · rcases List.mem_cons.mp hq with hq1 | hq1
      · exact absurd (show x.1 ∈ Mem.dom M from List.mem_map.mpr ⟨p, hp1, by rw [e, hq1]⟩) n1
      · exact ih n2 hp1 hq1
theorem Ht.lnx (t : Ht K H0 H (c ++ R)) : ∀ a ∈ locksOf c, NX (H a) := fun a ha => by
  obtain ⟨p, hp, rfl, _⟩ := locks_mem ha
  exact (t.mem p (List.mem_append_left _ hp)).2.nx
/-- the heap with the dicts of c locked -/
theorem Ht.locked (t : Ht K H0 H (c ++ R)) (od : Addr → PySem.Obj) : Ht K H0 (lockL H od (locksOf c)) (lockM c ++ R) ∧ Go H0 H (c ++ R) H0 (lockL H od (locksOf c)) (lockM c ++ R) := by
  have dd : Mem.dom (lockM c ++ R) = Mem.dom (c ++ R) := by
    have h1 : Mem.dom (lockM c ++ R) = Mem.dom (lockM c) ++ Mem.dom R := by simp [Mem.dom]
    have h2 : Mem.dom (c ++ R) = Mem.dom c ++ Mem.dom R := by simp [Mem.dom]
    rw [h1, h2, lockM_dom]
  have inM : ∀ a ∈ locksOf c, a ∈ Mem.dom (c ++ R) := fun a ha => by
    obtain ⟨p, hp, rfl, _⟩ := locks_mem ha
    exact List.mem_map.mpr ⟨p, List.mem_append_left _ hp, rfl⟩
  have z0 : ∀ a ∈ locksOf c, H0 a = none := fun a ha => by
    obtain ⟨p, hp, rfl, _⟩ := locks_mem ha
    exact (t.mem p (List.mem_append_left _ hp)).1
  refine ⟨⟨fun b o e => ?_, by rw [dd]; exact t.nd, fun q hq => ?_, t.tb.lock t.lnx⟩, ⟨Same.refl _, fun b o e hb _ => ?_, fun _ h _ _ => h, fun a ha => by rw [dd] at ha; exact .inl ha, fun b e => lock_none e⟩⟩
  · rw [lockL_ne (fun z => by rw [z0 b z] at e; cases e)]; exact t.ex _ _ e
  · rcases List.mem_append.mp hq with hq | hq
    · obtain ⟨p, hp, rfl⟩ := List.mem_map.mp hq
      obtain ⟨m1, m2⟩ := t.mem p (List.mem_append_left _ hp)
      refine ⟨m1, ?_⟩
      obtain ⟨a, m⟩ := p
      have no : m.dict = false → a ∉ locksOf c := fun hd z => by
        obtain ⟨p', hp', e, hd'⟩ := locks_mem z
        have := in_one t.left.nd hp hp' e.symm
        subst this
        have hd : m.dict = false := hd
        have hd' : m.dict = true := hd'
        rw [hd] at hd'; cases hd'
      have yes : m.dict = true → a ∈ locksOf c := fun hd => List.mem_map.mpr ⟨(a, m), List.mem_filter.mpr ⟨hp, hd⟩, rfl⟩
      cases m with
      | fL ds => exact m2.mono (Same.refl _) fun o e _ => by rw [lockL_ne (no rfl)]; exact e
      | lst ds =>
        obtain ⟨vs, h1, h2⟩ := m2
        exact ⟨od a, vs, by rw [lockL_in (yes rfl)]; show (H a).map _ = _; rw [h1]; rfl, h2⟩
      | ins C ns ds => exact m2.mono (Same.refl _) fun o e _ => by rw [lockL_ne (no rfl)]; exact e
      | fK kvs => exact m2.mono (Same.refl _) fun o e _ => by rw [lockL_ne (no rfl)]; exact e
      | fT kvs => exact m2.mono (Same.refl _) fun o e _ => by rw [lockL_ne (no rfl)]; exact e
      | dK kvs =>
        obtain ⟨vs, xs, h1, h2⟩ := m2
        exact ⟨od a, vs, xs, by rw [lockL_in (yes rfl)]; show (H a).map _ = _; rw [h1]; rfl, h2⟩
      | dT kvs =>
        obtain ⟨vs, xs, h1, h2⟩ := m2
        exact ⟨od a, vs, xs, by rw [lockL_in (yes rfl)]; show (H a).map _ = _; rw [h1]; rfl, h2⟩
    · obtain ⟨m1, m2⟩ := t.mem q (List.mem_append_right _ hq)
      refine ⟨m1, m2.mono (Same.refl _) fun o e _ => ?_⟩
      rw [lockL_ne fun z => ?_]
      · exact e
      · obtain ⟨p', hp', e', _⟩ := locks_mem z
        have nd := t.nd
        rw [show Mem.dom (c ++ R) = Mem.dom c ++ Mem.dom R by simp [Mem.dom]] at nd
        exact (List.nodup_append.mp nd).2.2 p'.1 (List.mem_map.mpr ⟨p', hp', rfl⟩) q.1 (List.mem_map.mpr ⟨q, hq, rfl⟩) e'
  · rw [lockL_ne (fun z => hb (inM b z))]; exact e
end
/-! ### laid for good -/
theorem lockM_app (a b : Mem) : lockM (a ++ b) = lockM a ++ lockM b := by unfold lockM; rw [List.map_append]
section
variable {K : Frag}
/-- one thing more that never changes -/
theorem Ht.lay {H0 H : Hp} {a : Addr} {m : Mu} {R : Mem} (t : Ht K H0 H ((a, m) :: R)) {o : HO} (ho : H a = some o) : Ht K (upd H0 a o) H R ∧ Same H0 (upd H0 a o) ∧ Go H0 H ((a, m) :: R) (upd H0 a o) H R := by
  have nd : (a :: R.dom).Nodup := t.nd
  obtain ⟨n1, n2⟩ := List.nodup_cons.mp nd
  have h0 := (t.mem (a, m) List.mem_cons_self).1
  have sm : Same H0 (upd H0 a o) := same_new h0
  refine ⟨⟨fun b u e => ?_, n2, fun q hq => ?_, t.tb.frz ho (fun ps z => (t.mem (a, m) List.mem_cons_self).2.nx.1 ps (by rw [ho, z])) fun ps z => (t.mem (a, m) List.mem_cons_self).2.nx.1 ps (by rw [ho, z])⟩, sm, ⟨sm, fun _ _ e _ _ => e, fun b b1 b2 b3 => ?_, fun b hb => .inl (List.mem_cons_of_mem _ hb), fun _ e => e⟩⟩
  · by_cases hb : b = a
    · subst hb; rw [upd_same] at e; cases e; exact ho
    · rw [upd_ne hb] at e; exact t.ex _ _ e
  · obtain ⟨m1, m2⟩ := t.mem q (List.mem_cons_of_mem _ hq)
    have ne : q.1 ≠ a := fun z => n1 (by rw [← z]; exact List.mem_map.mpr ⟨q, hq, rfl⟩)
    exact ⟨by rw [upd_ne ne]; exact m1, m2.mono sm fun _ e _ => e⟩
  · rw [upd_ne (fun z => b3 (by rw [z]; exact List.mem_cons_self))]; exact b1
theorem zip_fst {α β : Type} : ∀ {xs : List α} {ys : List β}, xs.length = ys.length → (xs.zip ys).map Prod.fst = xs
  | [], [], _ => rfl
  | [], _ :: _, h => by simp at h
  | _ :: _, [], h => by simp at h
  | x :: xs, y :: ys, h => by
    simp only [List.zip_cons_cons, List.map_cons]
    rw [zip_fst (by simpa using h)]
theorem zip_snd {α β : Type} : ∀ {xs : List α} {ys : List β}, xs.length = ys.length → (xs.zip ys).map Prod.snd = ys
  | [], [], _ => rfl
  | [], _ :: _, h => by simp at h
  | _ :: _, [], h => by simp at h
  | x :: xs, y :: ys, h => by
    simp only [List.zip_cons_cons, List.map_cons]
    rw [zip_snd (by simpa using h)]
mutual
theorem frz_ok : ∀ (o : Ow) {H0 H : Hp} {R : Mem} {v : V}, o.fit → Ht K H0 H (lockM o.mem ++ R) → Rep K H0 v o.root → ∃ H0', Ht K H0' H R ∧ Rep K H0' v o.frz ∧ Same H0 H0' ∧ Go H0 H (lockM o.mem ++ R) H0' H R
  | .fr d, H0, H, R, v, _, t, r => by
    simp only [Ow.mem, Ow.root, Ow.frz] at *
    exact ⟨H0, t, r, Same.refl _, Go.refl⟩
  | .lst a xs, H0, H, R, v, f, t, r => by
    simp only [Ow.mem, Ow.root, Ow.frz, Ow.fit] at *
    have p : (lockM ((a, .lst (Ow.rootA xs)) :: Ow.memA xs) ++ R).Perm (lockM (Ow.memA xs) ++ ((a, .fL (Ow.rootA xs)) :: R)) := (List.perm_middle).symm
    have t2 := t.perm p
    obtain ⟨_, ob, vs, h1, h2⟩ := t2.mem (a, .fL (Ow.rootA xs)) (by simp)
    obtain ⟨H0', t3, r3, sm, g3⟩ := frzA_ok xs f t2 h2
    obtain ⟨t4, sm4, g4⟩ := t3.lay h1
    cases r
    exact ⟨_, t4, .scr (.inl (.inr ⟨ob, upd_same⟩)) (r3.mo sm4), sm.trans sm4, (g3.permL p.symm).trans g4⟩
  | .ins a C ns xs, H0, H, R, v, f, t, r => by
    simp only [Ow.mem, Ow.root, Ow.frz, Ow.fit] at *
    have p : (lockM ((a, .ins C ns (Ow.rootA xs)) :: Ow.memA xs) ++ R).Perm (lockM (Ow.memA xs) ++ ((a, .ins C ns (Ow.rootA xs)) :: R)) := (List.perm_middle).symm
    have t2 := t.perm p
    obtain ⟨_, dx, vs, ys, h1, h2, h3, h4⟩ := t2.mem (a, .ins C ns (Ow.rootA xs)) (by simp)
    obtain ⟨H0', t3, r3, sm, g3⟩ := frzA_ok xs f t2 h4
    obtain ⟨t4, sm4, g4⟩ := t3.lay h1
    cases r
    exact ⟨_, t4, .ins upd_same h2 h3 (r3.mo sm4), sm.trans sm4, (g3.permL p.symm).trans g4⟩
  | .dK a ks xs, H0, H, R, v, f, t, r => by
    simp only [Ow.mem, Ow.root, Ow.frz, Ow.fit] at *
    have p : (lockM ((a, .dK (ks.zip (Ow.rootA xs))) :: Ow.memA xs) ++ R).Perm (lockM (Ow.memA xs) ++ ((a, .fK (ks.zip (Ow.rootA xs))) :: R)) := (List.perm_middle).symm
    have t2 := t.perm p
    obtain ⟨_, ob, vs, ys, h1, h2, h3, h4⟩ := t2.mem (a, .fK (ks.zip (Ow.rootA xs))) (by simp)
    have lx : ks.length = (Ow.rootA xs).length := by rw [rootA_map, List.length_map]; exact f.1
    rw [zip_snd lx] at h4
    rw [zip_fst lx] at h2
    obtain ⟨H0', t3, r3, sm, g3⟩ := frzA_ok xs f.2 t2 h4
    obtain ⟨t4, sm4, g4⟩ := t3.lay h1
    cases r
    exact ⟨_, t4, .dK upd_same h2 h3 (r3.mo sm4), sm.trans sm4, (g3.permL p.symm).trans g4⟩
  | .dT a ks xs, H0, H, R, v, f, t, r => by
    simp only [Ow.mem, Ow.root, Ow.frz, Ow.fit] at *
    have p : (lockM ((a, .dT (ks.zip (Ow.rootA xs))) :: Ow.memA xs) ++ R).Perm (lockM (Ow.memA xs) ++ ((a, .fT (ks.zip (Ow.rootA xs))) :: R)) := (List.perm_middle).symm
    have t2 := t.perm p
    obtain ⟨_, ob, vs, ys, h1, h2, h3, h4⟩ := t2.mem (a, .fT (ks.zip (Ow.rootA xs))) (by simp)
    have lx : ks.length = (Ow.rootA xs).length := by rw [rootA_map, List.length_map]; exact f.1
    rw [zip_snd lx] at h4
    rw [zip_fst lx] at h2
    obtain ⟨H0', t3, r3, sm, g3⟩ := frzA_ok xs f.2 t2 h4
    obtain ⟨t4, sm4, g4⟩ := t3.lay h1
    cases r
    exact ⟨_, t4, .dT upd_same h2 h3 (r3.mo sm4), sm.trans sm4, (g3.permL p.symm).trans g4⟩
  | .tup xs, H0, H, R, v, f, t, r => by
    simp only [Ow.mem, Ow.root, Ow.frz, Ow.fit] at *
    cases r with
    | tup h1 h2 =>
      obtain ⟨H0', t3, r3, sm, g3⟩ := frzA_ok xs f t h2
      exact ⟨_, t3, .tup (sm _ _ h1) r3, sm, g3⟩
  | .seq xs, H0, H, R, v, f, t, r => by
    simp only [Ow.mem, Ow.root, Ow.frz, Ow.fit] at *
    cases r with
    | lst h1 h2 =>
      obtain ⟨H0', t3, r3, sm, g3⟩ := frzA_ok xs f t h2
      exact ⟨_, t3, .lst (sm _ _ h1) r3, sm, g3⟩
theorem frzA_ok : ∀ (os : List Ow) {H0 H : Hp} {R : Mem} {vs : List V}, Ow.fitA os → Ht K H0 H (lockM (Ow.memA os) ++ R) → RepA K H0 vs (Ow.rootA os) → ∃ H0', Ht K H0' H R ∧ RepA K H0' vs (Ow.frzA os) ∧ Same H0 H0' ∧ Go H0 H (lockM (Ow.memA os) ++ R) H0' H R
  | [], H0, H, R, vs, _, t, r => by
    simp only [Ow.memA, Ow.rootA, Ow.frzA] at *
    exact ⟨H0, t, r, Same.refl _, Go.refl⟩
  | o :: os, H0, H, R, vs, f, t, r => by
    simp only [Ow.memA, Ow.rootA, Ow.frzA, Ow.fitA] at *
    rw [lockM_app, List.append_assoc] at t
    cases r with
    | cons r1 r2 =>
      obtain ⟨H1, t1, q1, sm1, g1⟩ := frz_ok o f.1 t r1
      obtain ⟨H2, t2, q2, sm2, g2⟩ := frzA_ok os f.2 t1 (r2.mo sm1)
      exact ⟨H2, t2, .cons (q1.mo sm2) q2, sm1.trans sm2, by rw [lockM_app, List.append_assoc]; exact g1.trans g2⟩
end
end
/-! ### what a value owns, by its kind -/
section
variable {α β γ κ : Type}
/-- r is owned as d, by what stands at m -/
def OwR (E : β → Ow → Prop) (r : β) (d : D) (m : Mem) : Prop := ∃ o, E r o ∧ d = o.root ∧ m = o.mem
/-- a kind of owned things, and how they look when laid for good -/
structure OwK (E : β → Ow → Prop) (enc : β → D) : Prop where
  frz : ∀ r o, E r o → o.frz = enc r
  fit : ∀ r o, E r o → o.fit
def isFr (f : β → D) (r : β) (o : Ow) : Prop := o = .fr (f r)
inductive All2 (E : β → Ow → Prop) : List β → List Ow → Prop
  | nil : All2 E [] []
  | cons {r : β} {rs : List β} {o : Ow} {os : List Ow} : E r o → All2 E rs os → All2 E (r :: rs) (o :: os)
theorem All2.frz {E : β → Ow → Prop} {enc : β → D} (k : OwK E enc) {rs : List β} {os : List Ow} (h : All2 E rs os) : Ow.frzA os = rs.map enc ∧ Ow.fitA os := by
  induction h with
  | nil => exact ⟨by simp [Ow.frzA], by simp [Ow.fitA]⟩
  | cons a b ih => exact ⟨by simp [Ow.frzA, k.frz _ _ a, ih.1], by simp [Ow.fitA, k.fit _ _ a, ih.2]⟩
theorem All2.len {E : β → Ow → Prop} {rs : List β} {os : List Ow} (h : All2 E rs os) : os.length = rs.length := by
  induction h with
  | nil => rfl
  | cons a b ih => rw [List.length_cons, List.length_cons, ih]
theorem All2.get {E : β → Ow → Prop} {rs : List β} {os : List Ow} (h : All2 E rs os) : ∀ {i : Nat} {r : β}, rs[i]? = some r → ∃ o, os[i]? = some o ∧ E r o := by
  induction h with
  | nil => intro i r e; simp at e
  | cons a b ih =>
    intro i r e
    cases i with
    | zero => simp at e; subst e; exact ⟨_, rfl, a⟩
    | succ i => simpa using ih (by simpa using e)
theorem All2.set {E : β → Ow → Prop} {rs : List β} {os : List Ow} {r : β} {o : Ow} (h : All2 E rs os) (e : E r o) : ∀ (i : Nat), All2 E (rs.set i r) (os.set i o) := by
  induction h with
  | nil => intro i; exact .nil
  | cons a b ih =>
    intro i
    cases i with
    | zero => exact .cons e b
    | succ i => exact .cons a (ih i)
theorem All2.app {E : β → Ow → Prop} {rs : List β} {os : List Ow} {rs' : List β} {os' : List Ow} (h : All2 E rs os) (g : All2 E rs' os') : All2 E (rs ++ rs') (os ++ os') := by
  induction h with
  | nil => exact g
  | cons a b ih => exact .cons a ih
/-- a list that owns its things -/
def isLst (E : β → Ow → Prop) (rs : List β) (o : Ow) : Prop := ∃ a os, o = .lst a os ∧ All2 E rs os
/-- a list of things that never change -/
def isLstF (f : β → D) (rs : List β) (o : Ow) : Prop := ∃ a, o = .lst a (rs.map fun r => .fr (f r))
theorem okLstF (f : β → D) : OwK (isLstF f) fun rs => .scr (rs.map f) :=
  ⟨fun r o ⟨a, e⟩ => by subst e; simp only [Ow.frz, frzA_fr], fun r o ⟨a, e⟩ => by subst e; simp only [Ow.fit]; exact fitA_fr _ _⟩
/-- dicts of things that never change -/
def isDTF (ek : κ → List Key) (f : β → D) (xs : List (κ × β)) (o : Ow) : Prop := ∃ a, o = .dT a (xs.map fun q => ek q.1) (xs.map fun q => .fr (f q.2))
def isDKF (ek : κ → Key) (f : β → D) (xs : List (κ × β)) (o : Ow) : Prop := ∃ a, o = .dK a (xs.map fun q => ek q.1) (xs.map fun q => .fr (f q.2))
/-- a dict that owns its values -/
def isDK (ek : κ → Key) (E : β → Ow → Prop) (xs : List (κ × β)) (o : Ow) : Prop := ∃ a os, o = .dK a (xs.map fun q => ek q.1) os ∧ All2 E (xs.map Prod.snd) os
end
section
variable {X : Cx} {kx kx' : XD} {ρ ρ' ρ'' : Ro} {M M' R : Mem} {P : Out → Mem → Prop} {e : Expr} {sts : List Stmt} {β : Type} {E : β → Ow → Prop} {enc : β → D} {r : β} {d : D} {m : Mem}
/-- a slot's thing laid for good -/
theorem ds_frzO (k : OwK E enc) (h : OwR E r d m) (j : Nat) (p : M.Perm (m ++ R)) (hj : ρ[j]? = some (some d)) (hd : DS X kx sts (ρ.set j (some (enc r))) R P) : DS X kx sts ρ M P := fun σ H H0 t s W tk hx D c => by
  obtain ⟨o, he, rfl, rfl⟩ := h
  have t1 := t.perm p
  obtain ⟨nd, lk⟩ := t1.lockable
  refine sSs_pre nd lk fun od => ?_
  obtain ⟨t2, g2⟩ := t1.locked od
  obtain ⟨v, hv, rv⟩ := s.2 j _ hj
  obtain ⟨H0', t3, r3, sm, g3⟩ := frz_ok o (k.fit _ _ he) t2 rv
  rw [k.frz _ _ he] at r3
  have g := (g2.trans g3).permL p.symm
  have s' := (s.mo sm).set r3 j
  have e : σ.set j (some v) = σ := by
    refine List.ext_getElem? fun i => ?_
    by_cases hi : j = i
    · subst hi; rw [List.getElem?_set_self (List.getElem?_eq_some_iff.mp hv).1, hv]
    · rw [List.getElem?_set_ne hi]
  rw [e] at s'
  exact hd σ _ H0' t3 s' W tk (hx.step g) D (c.step g)
/-- what an expression makes, laid for good at once -/
theorem DE.lay (k : OwK E enc) (h : DE X kx0 e ρ [] fun d' m' => OwR E r d' m') : DV X kx e ρ M (enc r) := fun σ H H0 t s W tk hx Q q =>
  sE_post (h σ H H0 (Ht.emp t.ex t.tb) s W tk Hx.none _ fun v H1 H01 d' M1 g1 t1 r1 ho => by
    obtain ⟨o, he, rfl, rfl⟩ := ho
    obtain ⟨gf, tf⟩ := frame_of (Ma := []) (F := M) t g1 t1
    obtain ⟨nd, lk⟩ := tf.lockable
    refine ⟨_, nd, lk, fun od => ?_⟩
    obtain ⟨t3, g3⟩ := tf.locked od
    obtain ⟨H0', t4, r4, sm, g4⟩ := frz_ok o (k.fit _ _ he) t3 r1
    rw [k.frz _ _ he] at r4
    have g := gf.trans (g3.trans g4)
    refine q v _ H0' ⟨g.e0, fun b u eb n => ?_, t4.ex, fun a h1 h2 => ?_, g.there, fun _ => t4.tb⟩ r4
    · have e1 := g1.e b u eb (by simp) n
      rw [lockL_ne]
      · exact e1
      · intro z
        obtain ⟨pp, hp, e2, _⟩ := locks_mem z
        rcases g1.dom b (List.mem_map.mpr ⟨pp, hp, e2⟩) with z | z
        · simp at z
        · rw [eb] at z; cases z
    · by_cases ha : a ∈ M.dom
      · obtain ⟨mm, hm, rfl⟩ := List.mem_map.mp ha
        exact (t4.mem mm hm).1
      · exact g.new a h1 h2 (by simpa using ha))
end
end Dl

/-! things that change, looked at by others meanwhile; what is made new -/
namespace Dl
open PySem PySem.Spec PyProof.Rows L2
/-- which things are lent: objects with these fields, lists, dicts -/
structure Shp where
  ns : List (List Str)
  l : Bool
  d : Bool
mutual
/-- nothing of the kind within -/
def D.off (S : Shp) : D → Bool
  | .non => true
  | .bl _ => true
  | .int _ => true
  | .str _ => true
  | .ty _ => true
  | .lst xs => D.offA S xs
  | .scr xs => !S.l && D.offA S xs
  | .tup xs => D.offA S xs
  | .ins _ ns xs => !S.ns.contains ns && D.offA S xs
  | .adr _ => true
  | .dK _ xs => !S.d && D.offA S xs
  | .dT _ xs => !S.d && D.offA S xs
  | .exn _ _ xs => D.offA S xs
  | .clo _ _ xs => D.offA S xs
def D.offA (S : Shp) : List D → Bool
  | [] => true
  | d :: ds => d.off S && D.offA S ds
end
/-- how a thing looks -/
def MSh (S : Shp) : Mu → Option HO → Prop
  | .lst _, o => S.l = true ∧ ∃ ob vs, o = some (.frz ob (.lst vs))
  | .fL _, o => S.l = true ∧ ∃ ob vs, o = some (.frz ob (.lst vs))
  | .ins C ns _, o => ns ∈ S.ns ∧ ∃ dx vs, o = some (.ins C dx vs) ∧ vs.map Prod.fst = ns
  | .dK _, o => S.d = true ∧ ∃ ob vs, o = some (.frz ob (.dK vs))
  | .dT _, o => S.d = true ∧ ∃ ob vs, o = some (.frz ob (.dT vs))
  | .fK _, o => S.d = true ∧ ∃ ob vs, o = some (.frz ob (.dK vs))
  | .fT _, o => S.d = true ∧ ∃ ob vs, o = some (.frz ob (.dT vs))
/-- what Mem says of how things look -/
def MuSh (S : Shp) : Mu → Bool
  | .lst _ => S.l
  | .fL _ => S.l
  | .ins _ ns _ => S.ns.contains ns
  | _ => S.d
def cutL (H : Hp) (L : List Addr) : Hp := fun b => if b ∈ L then none else H b
theorem cutL_ne {H : Hp} {L : List Addr} {b : Addr} (h : b ∉ L) : cutL H L b = H b := by unfold cutL; rw [if_neg h]
theorem cutL_some {H : Hp} {L : List Addr} {b : Addr} {o : HO} (h : cutL H L b = some o) : H b = some o := by
  unfold cutL at h
  split at h
  · cases h
  · exact h
theorem cutL_in {H : Hp} {L : List Addr} {b : Addr} (h : b ∈ L) : cutL H L b = none := by unfold cutL; rw [if_pos h]
theorem shNo {H : Hp} {S : Shp} {c : Mem} {a : Addr} {u : HO} (hc : ∀ p ∈ c, ∀ o, H p.1 = some o → MSh S p.2 (some o)) (h : H a = some u) (no : ∀ {m : Mu}, MSh S m (some u) → False) : a ∉ c.dom := fun z => by
  obtain ⟨m, hm, rfl⟩ := List.mem_map.mp z
  exact no (hc m hm _ h)
theorem sh_lstX {S : Shp} {vs : List V} : ∀ {m : Mu}, MSh S m (some (.lst vs)) → False
  | .lst _, ⟨_, _, _, e⟩ => by cases e
  | .fL _, ⟨_, _, _, e⟩ => by cases e
  | .ins _ _ _, ⟨_, _, _, e, _⟩ => by cases e
  | .dK _, ⟨_, _, _, e⟩ => by cases e
  | .dT _, ⟨_, _, _, e⟩ => by cases e
  | .fK _, ⟨_, _, _, e⟩ => by cases e
  | .fT _, ⟨_, _, _, e⟩ => by cases e
theorem sh_tupX {S : Shp} {vs : List V} : ∀ {m : Mu}, MSh S m (some (.tup vs)) → False
  | .lst _, ⟨_, _, _, e⟩ => by cases e
  | .fL _, ⟨_, _, _, e⟩ => by cases e
  | .ins _ _ _, ⟨_, _, _, e, _⟩ => by cases e
  | .dK _, ⟨_, _, _, e⟩ => by cases e
  | .dT _, ⟨_, _, _, e⟩ => by cases e
  | .fK _, ⟨_, _, _, e⟩ => by cases e
  | .fT _, ⟨_, _, _, e⟩ => by cases e
theorem sh_xdX {S : Shp} {vs : List (Str × V)} : ∀ {m : Mu}, MSh S m (some (.xd vs)) → False
  | .lst _, ⟨_, _, _, e⟩ => by cases e
  | .fL _, ⟨_, _, _, e⟩ => by cases e
  | .ins _ _ _, ⟨_, _, _, e, _⟩ => by cases e
  | .dK _, ⟨_, _, _, e⟩ => by cases e
  | .dT _, ⟨_, _, _, e⟩ => by cases e
  | .fK _, ⟨_, _, _, e⟩ => by cases e
  | .fT _, ⟨_, _, _, e⟩ => by cases e
theorem sh_exX {S : Shp} {a C : Addr} {d : Option Addr} : ∀ {m : Mu}, MSh S m (some (exT a C d)) → False
  | .lst _, ⟨_, _, _, e⟩ => by cases e
  | .fL _, ⟨_, _, _, e⟩ => by cases e
  | .ins _ _ _, ⟨_, _, _, e, _⟩ => by cases e
  | .dK _, ⟨_, _, _, e⟩ => by cases e
  | .dT _, ⟨_, _, _, e⟩ => by cases e
  | .fK _, ⟨_, _, _, e⟩ => by cases e
  | .fT _, ⟨_, _, _, e⟩ => by cases e
theorem sh_extX {S : Shp} {φ : Heap → Prop} : ∀ {m : Mu}, MSh S m (some (.ext φ)) → False
  | .lst _, ⟨_, _, _, e⟩ => by cases e
  | .fL _, ⟨_, _, _, e⟩ => by cases e
  | .ins _ _ _, ⟨_, _, _, e, _⟩ => by cases e
  | .dK _, ⟨_, _, _, e⟩ => by cases e
  | .dT _, ⟨_, _, _, e⟩ => by cases e
  | .fK _, ⟨_, _, _, e⟩ => by cases e
  | .fT _, ⟨_, _, _, e⟩ => by cases e
theorem sh_flX {S : Shp} {o : PySem.Obj} {vs : List V} (h : S.l = false) : ∀ {m : Mu}, MSh S m (some (.frz o (.lst vs))) → False
  | .lst _, ⟨q, _, _, _⟩ => by rw [h] at q; cases q
  | .fL _, ⟨q, _, _, _⟩ => by rw [h] at q; cases q
  | .ins _ _ _, ⟨_, _, _, e, _⟩ => by cases e
  | .dK _, ⟨_, _, _, e⟩ => by cases e
  | .dT _, ⟨_, _, _, e⟩ => by cases e
  | .fK _, ⟨_, _, _, e⟩ => by cases e
  | .fT _, ⟨_, _, _, e⟩ => by cases e
theorem sh_insX {S : Shp} {C dx : Addr} {ns : List Str} {vs : List (Str × V)} (h : S.ns.contains ns = false) (h2 : vs.map Prod.fst = ns) : ∀ {m : Mu}, MSh S m (some (.ins C dx vs)) → False
  | .lst _, ⟨_, _, _, e⟩ => by cases e
  | .fL _, ⟨_, _, _, e⟩ => by cases e
  | .ins _ _ _, ⟨i, _, _, e, f⟩ => by
    cases e
    rw [h2] at f
    subst f
    have := List.contains_iff_mem.mpr i
    rw [h] at this; cases this
  | .dK _, ⟨_, _, _, e⟩ => by cases e
  | .dT _, ⟨_, _, _, e⟩ => by cases e
  | .fK _, ⟨_, _, _, e⟩ => by cases e
  | .fT _, ⟨_, _, _, e⟩ => by cases e
theorem sh_fkX {S : Shp} {o : PySem.Obj} {vs : List (Key × V)} (h : S.d = false) : ∀ {m : Mu}, MSh S m (some (.frz o (.dK vs))) → False
  | .lst _, ⟨_, _, _, e⟩ => by cases e
  | .fL _, ⟨_, _, _, e⟩ => by cases e
  | .ins _ _ _, ⟨_, _, _, e, _⟩ => by cases e
  | .dK _, ⟨q, _⟩ => by rw [h] at q; cases q
  | .dT _, ⟨q, _⟩ => by rw [h] at q; cases q
  | .fK _, ⟨q, _⟩ => by rw [h] at q; cases q
  | .fT _, ⟨q, _⟩ => by rw [h] at q; cases q
theorem sh_ftX {S : Shp} {o : PySem.Obj} {vs : List (List Key × V)} (h : S.d = false) : ∀ {m : Mu}, MSh S m (some (.frz o (.dT vs))) → False
  | .lst _, ⟨_, _, _, e⟩ => by cases e
  | .fL _, ⟨_, _, _, e⟩ => by cases e
  | .ins _ _ _, ⟨_, _, _, e, _⟩ => by cases e
  | .dK _, ⟨q, _⟩ => by rw [h] at q; cases q
  | .dT _, ⟨q, _⟩ => by rw [h] at q; cases q
  | .fK _, ⟨q, _⟩ => by rw [h] at q; cases q
  | .fT _, ⟨q, _⟩ => by rw [h] at q; cases q
mutual
theorem Rep.cutL {K : Frag} {H : Hp} {S : Shp} {c : Mem} (hc : ∀ p ∈ c, ∀ o, H p.1 = some o → MSh S p.2 (some o)) : ∀ (d : D) (v : V), d.off S = true → Rep K H v d → Rep K (cutL H c.dom) v d
  | .non, _, _, h => by cases h; exact .non
  | .bl b, _, _, h => by cases h; exact .bl b
  | .int b, _, _, h => by cases h; exact .int b
  | .str b, _, _, h => by cases h; exact .str b
  | .ty b, _, _, h => by cases h; exact .ty b
  | .adr a, _, _, h => by cases h; exact .adr a
  | .lst ds, _, p, h => by
    simp only [D.off] at p
    cases h with
    | @lst a xs _ h1 h2 => exact .lst (by rw [cutL_ne (shNo hc h1 sh_lstX)]; exact h1) (RepA.cutL hc ds _ p h2)
  | .scr ds, _, p, h => by
    simp only [D.off, Bool.and_eq_true, Bool.not_eq_true'] at p
    cases h with
    | @scr a xs _ h1 h2 =>
      refine .scr ?_ (RepA.cutL hc ds _ p.2 h2)
      rcases h1 with (h1 | ⟨o, h1⟩) | h1
      · exact .inl (.inl (by rw [cutL_ne (shNo hc h1 sh_lstX)]; exact h1))
      · exact .inl (.inr ⟨o, by rw [cutL_ne (shNo hc h1 (sh_flX p.1))]; exact h1⟩)
      · exact .inr h1
  | .tup ds, _, p, h => by
    simp only [D.off] at p
    cases h with
    | @tup a xs _ h1 h2 => exact .tup (by rw [cutL_ne (shNo hc h1 sh_tupX)]; exact h1) (RepA.cutL hc ds _ p h2)
  | .ins C ns ds, _, p, h => by
    simp only [D.off, Bool.and_eq_true, Bool.not_eq_true'] at p
    cases h with
    | @ins a _ dx vs _ xs _ h1 h2 h3 h4 =>
      exact .ins (by rw [cutL_ne (shNo hc h1 (sh_insX p.1 h2))]; exact h1) h2 h3 (RepA.cutL hc ds _ p.2 h4)
  | .dK ks ds, _, p, h => by
    simp only [D.off, Bool.and_eq_true, Bool.not_eq_true'] at p
    cases h with
    | @dK a ob vs _ xs _ h1 h2 h3 h4 => exact .dK (by rw [cutL_ne (shNo hc h1 (sh_fkX p.1))]; exact h1) h2 h3 (RepA.cutL hc ds _ p.2 h4)
  | .dT ks ds, _, p, h => by
    simp only [D.off, Bool.and_eq_true, Bool.not_eq_true'] at p
    cases h with
    | @dT a ob vs _ xs _ h1 h2 h3 h4 => exact .dT (by rw [cutL_ne (shNo hc h1 (sh_ftX p.1))]; exact h1) h2 h3 (RepA.cutL hc ds _ p.2 h4)
  | .exn C ns ds, _, p, h => by
    simp only [D.off] at p
    cases h with
    | exn0 h1 => exact .exn0 (by rw [cutL_ne (shNo hc h1 sh_exX)]; exact h1)
    | exn1 h1 h2 h3 h4 h5 => exact .exn1 (by rw [cutL_ne (shNo hc h1 sh_exX)]; exact h1) (by rw [cutL_ne (shNo hc h2 sh_xdX)]; exact h2) h3 h4 (RepA.cutL hc ds _ p h5)
  | .clo G fr ds, _, p, h => by
    simp only [D.off] at p
    cases h with
    | clo h1 h2 h3 h4 =>
      exact .clo (by rw [cutL_ne (shNo hc h1 sh_extX)]; exact h1) (by rw [cutL_ne (shNo hc h2 sh_extX)]; exact h2)
        ⟨h3.1, h3.2.1, h3.2.2.1, h3.2.2.2.1, fun i q v a b => by have z := h3.2.2.2.2 i q v a b; rw [cutL_ne (shNo hc z sh_extX)]; exact z⟩ (RepA.cutL hc ds _ p h4)
theorem RepA.cutL {K : Frag} {H : Hp} {S : Shp} {c : Mem} (hc : ∀ p ∈ c, ∀ o, H p.1 = some o → MSh S p.2 (some o)) : ∀ (ds : List D) (vs : List V), D.offA S ds = true → RepA K H vs ds → RepA K (cutL H c.dom) vs ds
  | [], _, _, h => by cases h; exact .nil
  | d :: ds, _, p, h => by
    simp only [D.offA, Bool.and_eq_true] at p
    cases h with
    | cons a b => exact .cons (Rep.cutL hc d _ p.1 a) (RepA.cutL hc ds _ p.2 b)
end
/-- slots whose things are laid for good -/
def setAll (ρ : Ro) (sl : List (Nat × D × D)) : Ro := sl.foldl (fun ρ q => ρ.set q.1 (some q.2.2)) ρ
/-- the things at these slots, one by one: what they are, what they look like laid for good -/
inductive Lends (S : Shp) : List (Nat × D × D) → List Ow → Prop
  | nil : Lends S [] []
  | cons {β : Type} {E : β → Ow → Prop} {enc : β → D} {j : Nat} {r : β} {d : D} {o : Ow} {sl : List (Nat × D × D)} {os : List Ow} (k : OwK E enc) (h : E r o) (hd : d = o.root) (hS : ∀ p ∈ o.mem, MuSh S p.2 = true) (t : Lends S sl os) : Lends S ((j, d, enc r) :: sl) (o :: os)
section
variable {X : Cx} {kx kx' : XD} {ρ ρ' ρ'' : Ro} {M M' R : Mem} {P : Out → Mem → Prop} {e : Expr} {sts : List Stmt} {β : Type} {E : β → Ow → Prop} {enc : β → D} {r : β} {d : D} {m : Mem} {S : Shp} {sl : List (Nat × D × D)} {os : List Ow}
/-- a new thing, that may change: nothing that stood is changed -/
def DN (X : Cx) (kx : XD) (e : Expr) (ρ : Ro) (M : Mem) (k : D → Mem → Prop) : Prop :=
  ∀ (σ : L2.St) (H H0 : Hp), Ht X.K H0 H M → Sl X.K H0 σ ρ → ∀ (W : WX), Takes X W → Hx X W H0 H M kx → ∀ (Q : VK), (∀ v H' H0' d m, Pu H0 H H0' H' → Ht X.K H0' H' (m ++ M) → (∀ a ∈ m.dom, H a = none) → Rep X.K H0' v d → k d m → Q v H') → sE X e σ H Q
theorem DN.de {k kk : D → Mem → Prop} (h : DN X kx e ρ M k) (hk : ∀ d m, k d m → kk d (m ++ M)) : DE X kx e ρ M kk := fun σ H H0 t s W tk hx Q q =>
  h σ H H0 t s W tk hx Q fun v H' H0' d m p t' hn r kd => q v H' H0' d _ ⟨p.e0, fun b o e _ n => p.e b o e n, fun a h1 h2 _ => p.new a h1 h2, (fun a ha => by
    have e : Mem.dom (m ++ M) = Mem.dom m ++ Mem.dom M := by simp [Mem.dom]
    rw [e] at ha
    exact (List.mem_append.mp ha).elim (fun z => .inr (hn a z)) .inl), p.there⟩ t' r (hk d m kd)
theorem DN.imp {k k' : D → Mem → Prop} (h : DN X kx e ρ M k) (i : ∀ d m, k d m → k' d m) : DN X kx e ρ M k' := fun σ H H0 t s W tk hx Q q =>
  h σ H H0 t s W tk hx Q fun v H' H0' d m p t' hn r kd => q v H' H0' d m p t' hn r (i d m kd)
/-- laid for good at once -/
theorem DN.lay (k : OwK E enc) (h : DN X kx e ρ M (OwR E r)) : DV X kx e ρ M (enc r) := fun σ H H0 t s W tk hx Q q =>
  sE_post (h σ H H0 t s W tk hx _ fun v H1 H01 d' m1 p1 t1 hn r1 ho => by
    obtain ⟨o, he, rfl, rfl⟩ := ho
    obtain ⟨nd, lk⟩ := t1.lockable
    refine ⟨_, nd, lk, fun od => ?_⟩
    obtain ⟨t3, g3⟩ := t1.locked od
    obtain ⟨H0', t4, r4, sm, g4⟩ := frz_ok o (k.fit _ _ he) t3 r1
    rw [k.frz _ _ he] at r4
    have nl : ∀ b, H b ≠ none → b ∉ locksOf o.mem := fun b hb z => hb (hn b ((locks_sub _).subset z))
    refine q v _ H0' ⟨p1.e0.trans sm, fun b u eb n => ?_, t4.ex, fun a h1 h2 => ?_, fun b eb => ?_, fun _ => t4.tb⟩ r4
    · rw [lockL_ne (nl b (by rw [eb]; exact fun z => by cases z))]
      exact p1.e _ _ eb n
    · by_cases ha : a ∈ M.dom
      · obtain ⟨mm, hm, rfl⟩ := List.mem_map.mp ha
        exact (t4.mem mm hm).1
      · obtain ⟨u, hu⟩ := h2.ex
        have z1 := p1.new a h1 h2
        have hne : a ∉ locksOf o.mem := nl a (by rw [hu]; exact fun z => by cases z)
        refine g4.new a z1 ?_ fun z => ?_
        · rw [lockL_ne hne]; exact h2.keep fun o e n => p1.e _ _ e n
        · have e : Mem.dom (lockM o.mem ++ M) = Mem.dom (lockM o.mem) ++ Mem.dom M := by simp [Mem.dom]
          rw [e, lockM_dom] at z
          rcases List.mem_append.mp z with z | z
          · have := hn a z; rw [hu] at this; cases this
          · exact ha z
    · exact p1.there b (lock_none eb))
/-- what is owned is nothing of the kind -/
def Mu.offM (S : Shp) : Mu → Bool
  | .lst ds => D.offA S ds
  | .fL ds => D.offA S ds
  | .ins _ _ ds => D.offA S ds
  | .dK kvs => D.offA S (kvs.map Prod.snd)
  | .dT kvs => D.offA S (kvs.map Prod.snd)
  | .fK kvs => D.offA S (kvs.map Prod.snd)
  | .fT kvs => D.offA S (kvs.map Prod.snd)
theorem MuRep.cutL {K : Frag} {H H0 Hs : Hp} {c : Mem} {a : Addr} (hc : ∀ p ∈ c, ∀ o, H0 p.1 = some o → MSh S p.2 (some o)) (k : ∀ o, H a = some o → Hs a = some o) : ∀ {m : Mu}, m.offM S = true → MuRep K H0 H a m → MuRep K (Dl.cutL H0 c.dom) Hs a m
  | .lst ds, f, ⟨vs, h, r⟩ => ⟨vs, k _ h, RepA.cutL hc _ _ f r⟩
  | .fL ds, f, ⟨o, vs, h, r⟩ => ⟨o, vs, k _ h, RepA.cutL hc _ _ f r⟩
  | .ins C ns ds, f, ⟨dx, vs, xs, h, h2, h3, r⟩ => ⟨dx, vs, xs, k _ h, h2, h3, RepA.cutL hc _ _ f r⟩
  | .dK kvs, f, ⟨vs, xs, h, h2, h3, r⟩ => ⟨vs, xs, k _ h, h2, h3, RepA.cutL hc _ _ f r⟩
  | .dT kvs, f, ⟨vs, xs, h, h2, h3, r⟩ => ⟨vs, xs, k _ h, h2, h3, RepA.cutL hc _ _ f r⟩
  | .fK kvs, f, ⟨o, vs, xs, h, h2, h3, r⟩ => ⟨o, vs, xs, k _ h, h2, h3, RepA.cutL hc _ _ f r⟩
  | .fT kvs, f, ⟨o, vs, xs, h, h2, h3, r⟩ => ⟨o, vs, xs, k _ h, h2, h3, RepA.cutL hc _ _ f r⟩
end
end Dl

/-! promises of defs that change what is handed to them, or hand back what is owned -/
namespace Dl
open PySem PySem.Spec PyProof.Rows L2
abbrev spR (K : Frag) (mg : Str → Option Value) {α β : Type} (args : α → List D) (Mi : α → Mem) (pre : α → Prop) (F : α → Ex β) (res : α → β → D → Mem → Prop) : Sp :=
  spM K args Mi (fun q => pre q ∧ F q ≠ .bad) (fun q d M' => ∃ r m N, F q = .ok r ∧ res q r d m ∧ M'.Perm (m ++ N)) (fun q cls fs M' => ∃ n N, F q = .exc n fs ∧ mg n = some cls ∧ M'.Perm (Mi q ++ N))
/-- .. where nothing is said of what was handed in, if it raises -/
abbrev spRw (K : Frag) (mg : Str → Option Value) {α β : Type} (args : α → List D) (Mi : α → Mem) (pre : α → Prop) (F : α → Ex β) (res : α → β → D → Mem → Prop) : Sp :=
  spM K args Mi (fun q => pre q ∧ F q ≠ .bad) (fun q d M' => ∃ r m N, F q = .ok r ∧ res q r d m ∧ M'.Perm (m ++ N)) (fun q cls fs M' => ∃ n, F q = .exc n fs ∧ mg n = some cls)
def kxR (mg : Str → Option Value) {β : Type} (out : Ex β) (Mi : Mem) : XD := fun cls fs _ M' => ∃ n N, out = .exc n fs ∧ mg n = some cls ∧ M'.Perm (Mi ++ N)
def retR {β : Type} (res : β → D → Mem → Prop) (out : Ex β) : Out → Mem → Prop
  | .rt d, M => ∃ r m N, out = .ok r ∧ res r d m ∧ M.Perm (m ++ N)
  | .nx _, M => ∃ r m N, out = .ok r ∧ res r .non m ∧ M.Perm (m ++ N)
  | .bk _, _ => False
  | .ct _, _ => False
section
variable {P : Program} {w : World} {K : Frag} {mg : Str → Option Value} {base : Heap} {α β : Type}
/-- __init__ of a class whose objects own what they are made of -/
abbrev spJ (K : Frag) (mg : Str → Option Value) (C : Addr) (args : α → List D) (F : α → Ex β) (E : β → Ow → Prop) : Sp :=
  spM K (fun q : Addr × α => .adr q.1 :: args q.2) (fun q => [(q.1, .ins C [] [])]) (fun q => F q.2 ≠ .bad) (fun q d M' => (∃ r m N, F q.2 = .ok r ∧ OwR E r (.adr q.1) m ∧ M'.Perm (m ++ N)) ∧ d = .non) (fun q cls fs M' => ∃ n, F q.2 = .exc n fs ∧ mg n = some cls)
def initR (E : β → Ow → Prop) (out : Ex β) (w : Addr) : Out → Mem → Prop
  | .nx _, M => ∃ r m N, out = .ok r ∧ OwR E r (.adr w) m ∧ M.Perm (m ++ N)
  | _, _ => False
end
/-- the kind's things are objects of the class at C with these fields -/
def ClsK {β : Type} (E : β → Ow → Prop) (C : Addr) (ns : List Str) : Prop := ∀ r o, E r o → ∃ a xs, o = .ins a C ns xs
theorem Obj.more {M M' : Mem} {y : D} {C : Addr} {ns : List Str} {fs : List D} (h : Obj M y C ns fs) (s : ∀ p ∈ M, p ∈ M') : Obj M' y C ns fs := by
  cases h with
  | ins => exact .ins _ _ _
  | adr h => exact .adr (s _ h)
section
variable {X : Cx} {kx kx' : XD} {ρ ρ' ρ'' : Ro} {M M' R : Mem} {P : Out → Mem → Prop} {pos p apos : Pos} {e o : Expr} {es : List Expr} {y z : D} {α β : Type} {k : Nat} {x m : Str} {C : Addr} {dvs ds : List D} {ns : List Str}
  {args : α → List D} {Mi : α → Mem} {pre : α → Prop} {F : α → Ex β} {res : α → β → D → Mem → Prop} {r : β} {kk : D → Mem → Prop} {n : Str} {fs : List (Str × D)}
/-! ### f(e, ..) -/
/-! ### o.m(e, ..) -/
section
variable {pl : Sem Bool} {gs : List D}
end
/-! ### C(e, ..) -/
end
end Dl

/-! loops and ways that meet, with owned things carried along: ι tells where they stand, J that they do -/
namespace Dl
open PySem PySem.Spec PyProof.Rows L2
section
variable {X : Cx} {kx kx' : XD} {ρ ρ' ρ'' : Ro} {M M' : Mem} {P : Out → Mem → Prop} {pos p np pos' tpos spos : Pos} {tg a b c e : Expr} {es : List Expr} {k : Bool} {ι β γ : Type}
def foldO (R : ι → β → Ro) (Mf : ι → β → Mem) (J : ι → β → Prop) (o : Ex β) : Out → Mem → Prop
  | .nx ρ, M => ∃ i z, o = .ok z ∧ J i z ∧ FgtL ρ (R i z) ∧ M = Mf i z
  | .ct ρ, M => ∃ i z, o = .ok z ∧ J i z ∧ FgtL ρ (R i z) ∧ M = Mf i z
  | .bk _, _ => False
  | .rt _, _ => False
theorem ds1_foldO {α : Type} {xs : List α} {enc : α → D} {N : List Str} {sc : Scope} {k : Nat} {body : List Stmt} {f : β → α → Ex β} {st0 : β} {out : Ex β} (i0 : ι) (B : Bd X N sc k) (R : ι → β → Ro) (Mf : ι → β → Mem) (J : ι → β → Prop) (hF : foldE f st0 xs = out) (hne : out ≠ .bad)
    (hi : DI X kx tg e ρ M (xs.map enc)) (hJ : J i0 st0) (h0 : FgtL ρ (R i0 st0)) (hM : M = Mf i0 st0)
    (hs : ∀ i st x o, J i st → x ∈ xs → f st x = o → o ≠ .bad → ∃ ts ρ2, DG X tg ts (enc x) (R i st) ρ2 ∧ DS X (kxE X.mg o) body ρ2 (Mf i st) (foldO R Mf J o))
    (hd : ∀ i st', J i st' → out = .ok st' → P (.nx (R i st')) (Mf i st')) (hx : ∀ cls fs ρ' M', kxE X.mg out cls fs ρ' M' → kx cls fs ρ' M')
    (hP : ∀ ρ1 ρ2 M1, Fgt ρ1 ρ2 → P (.nx ρ2) M1 → P (.nx ρ1) M1) (hf : ∀ x, foldedSetIterable e X.env x = pure x := by intro _; rfl) : DS1 X kx (.For tg e body [] pos) ρ M P :=
  ds1_forT B (fun n ρ1 M1 => ∃ i st, J i st ∧ FgtL ρ1 (R i st) ∧ M1 = Mf i st ∧ foldE f st (xs.drop n) = out) hi ⟨i0, st0, hJ, h0, hM, hF⟩
    (fun n x ρ1 M1 hxi ⟨i, st, j, fg, m, hE⟩ => by
      subst m
      rw [drop_get hxi, foldE_cons] at hE
      have nb : f st x ≠ .bad := fun z => hne (by rw [← hE, z]; rfl)
      obtain ⟨ts, ρ2, g, b⟩ := hs i st x _ j (List.mem_of_getElem? hxi) rfl nb
      refine ⟨ts, ρ2, fun σ H H0 v hs s r Q q => g σ H H0 v hs (s.fgt fg.fgt) r Q q, (b.onX fun cls fs ρ' M' ⟨n, e1, e2⟩ => hx _ _ ρ' M' ⟨n, by rw [← hE, e1]; rfl, e2⟩).imp fun o m q => ?_⟩
      · cases o with
        | nx ρ =>
          obtain ⟨i, z, e1, j, e2, e3⟩ := q
          exact ⟨i, z, j, e2, e3, by rw [e1] at hE; exact hE⟩
        | ct ρ =>
          obtain ⟨i, z, e1, j, e2, e3⟩ := q
          exact ⟨i, z, j, e2, e3, by rw [e1] at hE; exact hE⟩
        | bk ρ => exact q.elim
        | rt d => exact q.elim)
    (fun ρ1 M1 ⟨i, st, j, fg, m, hE⟩ => by
      rw [List.drop_length] at hE
      subst m
      exact hP _ _ _ fg.fgt (hd i st j hE.symm)) hf
theorem foldO_nx {R : ι → β → Ro} {Mf : ι → β → Mem} {J : ι → β → Prop} {o : Ex β} (i : ι) (z : β) (h : .ok z = o) (j : J i z) (f : FgtL ρ (R i z)) (m : M = Mf i z) : foldO R Mf J o (.nx ρ) M := ⟨i, z, h.symm, j, f, m⟩
/-- a loop that may be left: what it hands back is told by Rt -/
def loopO (R : ι → β → Ro) (Mf : ι → β → Mem) (J : ι → β → Prop) (Rt : γ → D → Mem → Prop) (o : Ex (Ct β γ)) : Out → Mem → Prop
  | .nx ρ, M => ∃ i z, o = .ok (.nx z) ∧ J i z ∧ FgtL ρ (R i z) ∧ M = Mf i z
  | .ct ρ, M => ∃ i z, o = .ok (.nx z) ∧ J i z ∧ FgtL ρ (R i z) ∧ M = Mf i z
  | .bk ρ, M => ∃ i z, o = .ok (.bk z) ∧ J i z ∧ FgtL ρ (R i z) ∧ M = Mf i z
  | .rt d, M => ∃ r m N, o = .ok (.rt r) ∧ Rt r d m ∧ M.Perm (m ++ N)
/-! ways that meet again -/
def joinO (R : ι → β → Ro) (Mf : ι → β → Mem) (J : ι → β → Prop) (kf : β → Ex γ) (out : Ex γ) (P : Out → Mem → Prop) : Out → Mem → Prop
  | .nx ρ, M => ∃ a z, kf z = out ∧ J a z ∧ FgtL ρ (R a z) ∧ M = Mf a z
  | o, M => P o M
/-! while -/
end
end Dl

/-! sorted of tuples of ints, any number of them, of any ints; of ints -/
namespace Dl
open PySem PySem.Spec PyProof.Rows L2
def lexLt : List Int → List Int → Bool
  | [], [] => false
  | [], _ :: _ => true
  | _ :: _, [] => false
  | x :: xs, y :: ys => if x = y then lexLt xs ys else decide (x < y)
/-- the list, sorted -/
def sortL {α : Type} (g : α → List Int) (xs : List α) : List α := xs.mergeSort fun a b => !lexLt (g b) (g a)
/-! ### the rule -/
section
open PySem PyProof.Rows Srt SrtO
variable {prog : Program} {w : World} {A : Around} {E : Value → Shared → Prop} {s : Shared}
/-- each is a tuple of d ints, k says which -/
def TupsK (h : Heap) (d : Nat) (k : Value → List Int) (vs : List Value) : Prop := ∀ v, v ∈ vs → TS.TupInts h v (k v) ∧ (k v).length = d
end
def rSortedL (K : PySem.W.Frag) : List V → Hp → VK → Prop := fun vs H Q => ∃ (a : Addr) (xs : List V) (k : V → List Int) (d : Nat), vs = [V.ref a] ∧ SqL K H a xs ∧ 1 ≤ d ∧ (∀ x ∈ xs, ∃ t, x = V.ref t ∧ SqT K H t ((k x).map V.int) ∧ (k x).length = d) ∧
  ∀ ys p, ys.Pairwise (fun x y => lexLt (k y) (k x) = false) → ys.Perm xs → H p = none → Q (.ref p) (upd H p (.lst ys))
/-! ### typed -/
/-- the ints of a tuple -/
noncomputable def intsV (H : Hp) : V → List Int
  | .ref a => match H a with
    | some (.tup xs) => xs.map fun v => match v with | .int i => i | _ => 0
    | _ => []
  | _ => []
section
variable {X : Cx} {kx : XD} {ρ : Ro} {M : Mem} {pos p : Pos} {e : Expr} {x : D} {α : Type}
/-- sorted(xs), ints -/
def sortI (xs : List Int) : List Int := xs.mergeSort fun a b => decide (a ≤ b)
end
end Dl

/-! sorted(xs), sorted(xs, reverse=True): ints, tuples of ints -/
namespace Dl
open PySem PySem.Spec PyProof.Rows L2
def sortIR (xs : List Int) : List Int := (sortI xs).reverse
section
variable {X : Cx} {kx : XD} {ρ : Ro} {M : Mem} {pos p kpos : Pos} {e : Expr} {x : D} {α : Type} {f : Str}
end
/-! tuples, reversed -/
def rSortedLR (K : PySem.W.Frag) : List V → List V → Hp → VK → Prop := fun vs zs H Q => ∃ (a : Addr) (xs : List V) (k : V → List Int) (d : Nat), vs = [V.ref a] ∧ zs = [.bl true] ∧ SqL K H a xs ∧ 1 ≤ d ∧ (∀ x ∈ xs, ∃ t, x = V.ref t ∧ SqT K H t ((k x).map V.int) ∧ (k x).length = d) ∧
  ∀ ys p, ys.Pairwise (fun x y => lexLt (k x) (k y) = false) → ys.Perm xs → H p = none → Q (.ref p) (upd H p (.lst ys))
/-- the list, sorted the other way about -/
def sortLR {α : Type} (g : α → List Int) (xs : List α) : List α := (sortL g xs).reverse
section
variable {X : Cx} {kx : XD} {ρ : Ro} {M : Mem} {pos p kpos : Pos} {e : Expr} {x : D} {α : Type} {f : Str}
end
end Dl

/-! owned things at work: what the printed walks stand on -/
namespace Dl
open PySem PySem.Spec PyProof.Rows L2
/-! ### a part of Mem taken to the front -/
/-! ### lent -/
def ShK {β : Type} (S : Shp) (E : β → Ow → Prop) : Prop := ∀ r o, E r o → ∀ p ∈ o.mem, MuSh S p.2 = true
section
variable {X : Cx} {kx kx' : XD} {ρ ρ' ρ'' : Ro} {M M' R : Mem} {P : Out → Mem → Prop} {e : Expr} {sts : List Stmt} {β : Type} {E : β → Ow → Prop} {enc : β → D} {r : β} {d d' : D} {m : Mem} {S : Shp}
/-- what a kind's things own is nothing of the kind -/
def OffK (S : Shp) (E : β → Ow → Prop) : Prop := ∀ r d m, OwR E r d m → d.off S = true ∧ ∀ p ∈ m, p.2.offM S = true
end
/-! ### nothing of the kind -/
/-! ### a dict or a list on its own, owned -/
section
variable {κ β : Type}
end
/-! ### what is handed back, or raised -/
section
variable {mg : Str → Option Value} {α β γ : Type} {res : β → D → Mem → Prop} {out : Ex β} {d : D} {m N M Mi : Mem} {ρ : Ro}
end
section
variable {X : Cx} {kx kx' : XD} {ρ ρ' ρ'' : Ro} {M M' R : Mem} {P : Out → Mem → Prop} {pos p pos' apos cpos tpos : Pos} {e o ix a b : Expr} {es : List Expr} {x y z d : D} {w C : Addr} {α β κ : Type} {k : Nat} {N : List Str} {sc : Scope} {E : β → Ow → Prop} {enc : β → D} {r : β}
theorem DE.to {kk k2 : D → Mem → Prop} (h : DE X kx e ρ M kk) (hk : ∀ d m, kk d m → k2 d m) : DE X kx e ρ M k2 := fun σ H H0 t s W tk hx Q q =>
  h σ H H0 t s W tk hx Q fun v H' H0' d m g t' r kd => q v H' H0' d m g t' r (hk d m kd)
/-! dicts with typed keys -/
variable {xs : List (κ × β)} {ek : κ → List Key} {eK : κ → Key} {f : β → D} {kk : κ}
theorem dk_kA [DecidableEq κ] (inj : ∀ a b, eK a = eK b → a = b) (hm : (w, Mu.dK (xs.map fun q => (eK q.1, f q.2))) ∈ M) (hy : y = kD (eK kk)) : DKey M (.adr w) y ((getA xs kk).map f) := by
  rw [← getA_map inj (g := f) kk xs]; exact .k (.adr hm) hy
theorem dv_dixE {q : Option β} {v : β} (B : Bd X N sc k) (hq : someE q = .ok v) (ho : DV X kx o ρ M x) (he : DV X kx e ρ M y) (hd : DKey M x y (q.map f)) (hs : NoSl e := by first | exact ⟨rfl, rfl⟩ | exact fun _ _ => rfl) : DV X kx (.Subscript o e pos) ρ M (f v) := by
  cases q with
  | none => cases hq
  | some u => cases hq; exact dv_dix B ho he hd hs
theorem di_itemsKF {elts : List Expr} {kk : Nat} {enp : κ × β → D} (hp : ∀ q : κ × β, enp q = .tup [kD (eK q.1), f q.2]) (xs : List (κ × β)) {tg : Expr} (ht : tg = .Tuple elts kk tpos) (h : DV X kx e ρ M (.dK (xs.map fun q => eK q.1) (xs.map fun q => f q.2))) (hbase : attributeBase e "items" X.env (eval e X.env) = eval e X.env := by rfl) (hline : (apos.endLine == cpos.line) = true := by rfl) :
    DI X kx tg (.Call (.Attribute e "items" apos) [] [] cpos) ρ M (xs.map enp) := by
  subst ht
  have e0 : xs.map enp = (xs.map fun q => (eK q.1, f q.2)).map fun q => .tup [kD q.1, q.2] := by
    rw [List.map_map]; exact List.map_congr_left fun q _ => hp q
  rw [e0]
  refine di_itemsK ?_ hbase hline
  rw [List.map_map, List.map_map]
  exact h
end
section
open L2
variable {X : Cx} {kx kx' : XD} {ρ ρ' ρ'' : Ro} {M M' : Mem} {P : Out → Mem → Prop} {pos p np pos' tpos spos : Pos} {N : List Str} {sc : Scope} {k i : Nat}
end
end Dl

/-! what follows an expression that changes something, told by what is wanted behind it -/
namespace Dl
open PySem PySem.Spec PyProof.Rows L2
section
variable {X : Cx} {kx kx' : XD} {ρ ρ' ρ'' : Ro} {M M' R : Mem} {P : Out → Mem → Prop} {pos p pos' apos cpos tpos spos : Pos} {tg e o ix a b : Expr} {es : List Expr} {x y z d : D} {w C : Addr} {α β κ : Type} {k : Nat} {N : List Str} {sc : Scope}
end
/-! ### range with a step -/
def rgN (i j c : Int) : Nat := (Builtin.Range.rangeSize i j c).toNat
def rngC (lo c : Int) (n : Nat) : List Int := (List.range n).map fun k => lo + ((k : Nat) : Int) * c
section
variable {X : Cx} {kx : XD} {ρ : Ro} {M : Mem} {pos p : Pos} {tg a b c : Expr}
end
/-! ### nothing of the kind, by kinds -/
section
variable {S : Shp} {α : Type}
end
end Dl
namespace Dl
open PySem PySem.Spec PyProof.Rows L2
section
variable {X : Cx} {kx kx' : XD} {ρ : Ro} {M : Mem} {P : Out → Mem → Prop} {pos apos : Pos} {o e : Expr} {f : Str}
end
end Dl

/-! a try of any clauses; what is caught stays known -/
namespace Dl
open PySem PySem.Spec PyProof.Rows L2
/-- what is caught, at a -/
abbrev exV (a : Addr) (cls : Value) (d : Option Addr) : HO := .ext fun h => ∃ oe : PySem.Obj, h.get? a = some oe ∧ (oe.cls = cls ∧ oe.dict = d) ∧ ∃ vs, oe.data = .fields vs
abbrev Clause := Value × Option Nat × (Addr → Value → Option Addr → TS)
/-- the name's slot is set; gone again -/
def bdO (oi : Option Nat) (a : Addr) (σ : L2.St) : L2.St := match oi with
  | none => σ
  | some i => σ.set i (some (.ref a))
def unO (oi : Option Nat) (σ : L2.St) : L2.St := match oi with
  | none => σ
  | some i => σ.set i none
def endsO (oi : Option Nat) (D : Ends) : Ends := { nx := fun σ H => D.nx (unO oi σ) H, bk := fun σ H => D.bk (unO oi σ) H, ct := fun σ H => D.ct (unO oi σ) H, rt := D.rt }
def hsW (K : PySem.W.Frag) (Wout : WX) (D : Ends) : List Clause → WX
  | [] => Wout
  | (c, oi, ts) :: l => fun cls d σ H => ∃ b, PySem.W.exmOne K cls c = some b ∧ (b = true → ∀ a, H a = none → ts a cls d (endsO oi D) (bdO oi a σ) (upd H a (exV a cls d))) ∧ (b = false → hsW K Wout D l cls d σ H)
def NmO (X : Cx) : Option Str → Option Nat → Prop
  | none, none => True
  | some n, some i => X.N[i]? = some n ∧ X.env.kindOf n = some .local
  | _, _ => False
inductive HsOk (X : Cx) : List ExceptHandler → List Clause → Prop
  | nil : HsOk X [] []
  | cons {x : Str} {c : Value} {ts : Addr → Value → Option Addr → TS} {b0 : Stmt} {suite : List Stmt} {on : Option Str} {oi : Option Nat} {np pos : Pos} {hds : List ExceptHandler} {l : List Clause} (hc : Names X x c) (hn : NmO X on oi)
      (hsu : ∀ (a : Addr) (cls : Value) (d : Option Addr) (pn : List (Addr × PySem.Obj)), PSs (X.suite a pn) (b0 :: suite) (ts a cls d)) (r : HsOk X hds l) :
      HsOk X (.ExceptHandler (some (.Name x np)) on (b0 :: suite) pos :: hds) ((c, oi, ts) :: l)
section
variable {X : Cx} {pins : List (Addr × PySem.Obj)} {σ : L2.St} {H : Hp} {s : Shared}
end
section
variable {X : Cx} {body : List Stmt} {h0 : ExceptHandler} {hds : List ExceptHandler} {l : List Clause} {pos : Pos} {tb : WX → TS} {Wout : WX}
end
/-! ### at the level of data -/
def NmS (N : List Str) (sc : Scope) : Option Str → Option Nat → Prop
  | none, none => True
  | some n, some i => N[i]? = some n ∧ sc.names.lookup n = some .local
  | _, _ => False
inductive HdD (X : Cx) (N : List Str) (sc : Scope) : List ExceptHandler → List (Value × Option Nat × List Stmt) → Prop
  | nil : HdD X N sc [] []
  | cons {xx : Str} {cv : Value} {on : Option Str} {oi : Option Nat} {b0 : Stmt} {suite : List Stmt} {np pos : Pos} {hds : List ExceptHandler} {l : List (Value × Option Nat × List Stmt)} (hg : Gl X xx) (hm : X.mg xx = some cv) (hn : NmS N sc on oi) (r : HdD X N sc hds l)
      (hdb : (xx == ("__debug__" : Str)) = false := by decide) : HdD X N sc (.ExceptHandler (some (.Name xx np)) on (b0 :: suite) pos :: hds) ((cv, oi, b0 :: suite) :: l)
def setO (oi : Option Nat) (d : D) (ρ : Ro) : Ro := match oi with
  | none => ρ
  | some i => ρ.set i (some d)
def goneO (oi : Option Nat) (P : Out → Mem → Prop) : Out → Mem → Prop := match oi with
  | none => P
  | some i => goneP i P
def hdQ (X : Cx) (N : List Str) (sc : Scope) (k : Nat) (kx : XD) (P : Out → Mem → Prop) : List (Value × Option Nat × List Stmt) → XD
  | [] => kx
  | (cv, oi, st) :: t => fun cls fs ρ M => ∃ b, PySem.W.exmOne X.K cls cv = some b ∧ (b = true → ∃ C, cls = .ref C ∧ ∀ a l, BdS (X.suite a l) N sc k → DS (X.suite a l) kx0 st (setO oi (.exn C (fs.map Prod.fst) (fs.map Prod.snd)) ρ) M (goneO oi P)) ∧ (b = false → hdQ X N sc k kx P t cls fs ρ M)
section
variable {X : Cx} {kx kx' : XD} {ρ ρ' ρ'' : Ro} {M M' : Mem} {P : Out → Mem → Prop} {pos p np pos' : Pos} {e c : Expr} {w C : Addr} {k i : Nat} {N : List Str} {sc : Scope}
end
end Dl

/-! exceptions kept: what is asked of them, the mirror of a try -/
namespace Dl
open PySem PySem.Spec PyProof.Rows L2
/-- what is kept of an exception: its class's name, its fields -/
abbrev Xn := Str × List (Str × D)
def hdF {β : Type} : List (List Str × (Xn → Ex β)) → Xn → Ex β
  | [], e => .exc e.1 e.2
  | (ns, h) :: t, e => if e.1 ∈ ns then h e else hdF t e
/-- try: m, else what follows; the first clause that names the exception -/
def tryF {α β : Type} (names : List Str) (m : Ex α) (k : α → Ex β) (hs : List (List Str × (Xn → Ex β))) : Ex β := match m with
  | .ok a => k a
  | .exc n fs => if n ∈ names then hdF hs (n, fs) else .bad
  | .bad => .bad
/-- isinstance of what may be an exception -/
def isEO (ns : List Str) (o : Option Xn) : Bool := match o with
  | none => false
  | some e => decide (e.1 ∈ ns)
def fldE (e : Xn) (f : Str) : Ex Int := match e.2.lookup f with
  | some (.int v) => .ok v
  | _ => .bad
/-- is each name in a clause -/
def covB (names : List Str) (ls : List (List Str)) : Bool := names.all fun n => ls.any fun l => decide (n ∈ l)
/-! ### for the mathematics -/
section
variable {α β : Type} {names : List Str} {m : Ex α} {k : α → Ex β} {hs : List (List Str × (Xn → Ex β))} {Q : β → Prop}
end
/-! ### the walk -/
/-- isinstance(e, c), e an exception that stands in the heap -/
def rIsX (K : PySem.W.Frag) (C a : Addr) : List V → Hp → VK → Prop := fun xs H Q => ∃ (c : V) (cv : Value) (b : Bool) (d : Option Addr), xs = [.ref a, c] ∧ (∀ u, RelV c u → u = cv) ∧ PySem.W.kitOne K (.ref C) cv = some b ∧
  H a = some (exT a C d) ∧ (d = none ∨ ∃ dd vs, d = some dd ∧ H dd = some (.xd vs)) ∧ Q (.bl b) H
section
variable {X : Cx} {kx kx' : XD} {ρ ρ' ρ'' : Ro} {M M' : Mem} {P : Out → Mem → Prop} {pos p np pos' tpos spos : Pos} {e c : Expr} {C : Addr} {N : List Str} {sc : Scope} {k i : Nat} {x : D} {ns : List Str} {ds : List D}
/-- e.f of an exception -/
def tXe (C : Addr) (f : Str) (te : TE) : TE := fun σ H Q => te σ H fun x H1 => ∃ (a dd : Addr) (fs : List (Str × V)) (v : V), x = .ref a ∧ H1 a = some (exT a C (some dd)) ∧ H1 dd = some (.xd fs) ∧ fs.lookup f = some v ∧ Q v H1
/-! ### what is asked of one that may be there -/
section
variable {ad : Str → Addr} {names subs : List Str} {o : Option Xn} {e0 : Xn}
def dExn (ad : Str → Addr) (e : Xn) : D := .exn (ad e.1) (e.2.map Prod.fst) (e.2.map Prod.snd)
end
/-! ### try -/
section
variable {α γ : Type} {ad : Str → Addr} {names : List Str} {m : Ex α} {kf : α → Ex γ} {hs : List (List Str × (Xn → Ex γ))} {out : Ex γ}
/-- the clauses and their mirrors -/
inductive HdF (X : Cx) (N : List Str) (sc : Scope) (k : Nat) (ad : Str → Addr) (names : List Str) (ρE : Ro) (M : Mem) (P : Out → Mem → Prop) (out : Ex γ) : List (Value × Option Nat × List Stmt) → List (List Str × (Xn → Ex γ)) → Prop
  | nil : HdF X N sc k ad names ρE M P out [] []
  | cons {cv : Value} {oi : Option Nat} {st : List Stmt} {l : List (Value × Option Nat × List Stmt)} {ns : List Str} {h : Xn → Ex γ} {hs : List (List Str × (Xn → Ex γ))} (e1 : ∀ n ∈ names, PySem.W.exmOne X.K (.ref (ad n)) cv = some (decide (n ∈ ns)))
      (b : ∀ e0 : Xn, h e0 = out → ∀ a l, BdS (X.suite a l) N sc k → DS (X.suite a l) kx0 st (setO oi (dExn ad e0) ρE) M (goneO oi P)) (r : HdF X N sc k ad names ρE M P out l hs) : HdF X N sc k ad names ρE M P out ((cv, oi, st) :: l) ((ns, h) :: hs)
end
end
end Dl

/-! raising an exception of an own class that keeps a field: its __init__ calls the base's, stores the field -/
namespace Dl
open PySem PySem.Spec PyProof.Rows L2
section
variable {X : Cx} {o e : Expr} {es : List Expr} {to te : TE} {ta : TA} {f : Str} {p p' p1 p2 pos : Pos}
end
/-- what such an __init__ does -/
def spX (K : Frag) (C : Addr) (fl : Str) : Sp := fun xs H Q E => ∃ (a : Addr) (v : V), xs = [.ref a, v] ∧ OexC K C ∧ PySem.W.findIn K (.ref C) fl = some none ∧ H a = some (exo a C none) ∧
  ∀ dx, H dx = none → dx ≠ a → Q .non (upd (upd H dx (exd dx [(fl, v)])) a (exo a C (some dx)))
/-- an own class of exceptions with one field -/
structure XFT (K : Frag) (mg : Str → Option Value) (x : Str) (C : Addr) (fl : Str) (st : Stmt) (CB : Addr) : Prop where
  gC : mg x = some (.ref C)
  oex : OexC K C
  fno : PySem.W.findIn K (.ref C) fl = some none
  gB : mg "BookError" = some (.ref CB)
  rB : ClX.CRead K CB (.type "type")
  vB : PySem.W.findCls K (.ref CB) (.type "type") "__init__" = some (.val (.builtin "ValueError.__init__"))
  ini : ∃ f fd, FunD K "__init__" (x ++ ".__init__") (defArgs st) (defBody st) (defScope st) [] [] f fd ∧ Binds K fd ["self", fl] [] ∧ PySem.W.findIn K (.ref C) "__init__" = some (some (.ref f)) ∧ PySem.W.typeIn K (.ref f) = some (.type "function")
section
variable {P : Program} {w : World} {K : Frag} {mg : Str → Option Value} {base : Heap}
end
section
variable {X : Cx} {kx : XD} {ρ : Ro} {M : Mem} {P : Out → Mem → Prop} {pos p pos2 : Pos} {e : Expr} {d : D}
end
/-! ### what the top has written -/
/-- an own class of exceptions that has its own __init__ -/
structure ExF (K : Frag) (mg : Str → Option Value) (x : Str) (C : Addr) : Prop extends ExcC K C where
  gC : mg x = some (.ref C)
/-- an exception's own __init__, as K holds it -/
def XIni (K : Frag) (C : Addr) (x : String) (fl : Str) (st : Stmt) : Prop := ∃ f fd, FunD K "__init__" (x ++ ".__init__") (defArgs st) (defBody st) (defScope st) [] [] f fd ∧ Binds K fd ["self", fl] [] ∧ PySem.W.findIn K (.ref C) "__init__" = some (some (.ref f)) ∧ PySem.W.typeIn K (.ref f) = some (.type "function")
theorem XIni.mk {K : Frag} {C f : Addr} {x : String} {fl : Str} {st : Stmt} {od an : Option Addr} {sl : Array (Option Value)} {oc kV dc pm cd ct : Value} (a : PySem.W.findIn K (.ref C) "__init__" = some (some (.ref f))) (i : PySem.W.typeIn K (.ref f) = some (.type "function"))
    (l : K.lookup f = some ⟨oc, od, .func (PySem.W.fnOf "__init__" (x ++ ".__init__") (defArgs st) (defBody st) (defScope st) .none kV dc pm an cd ct), sl⟩) (c : PySem.W.codeIn K cd (x ++ ".__init__") = true) (k : PySem.W.keepIn K (.ref f) = true)
    (b : ∀ (kV doc pm : Value) (an : Option Addr) (cdv ct : Value) (us : List Value), us.length = 2 → bindArgs (PySem.W.fnOf "__init__" (x ++ ".__init__") (defArgs st) (defBody st) (defScope st) .none kV doc pm an cdv ct) ⟨us, []⟩ = pure ((["self", fl] : List Str).zip us)) : XIni K C x fl st := by
  have F : FunD K "__init__" (x ++ ".__init__") (defArgs st) (defBody st) (defScope st) [] [] f (PySem.W.fnOf "__init__" (x ++ ".__init__") (defArgs st) (defBody st) (defScope st) .none kV dc pm an cd ct) := ⟨⟨oc, od, .none, kV, dc, pm, an, cd, ct, sl, rfl, l, c, .inl ⟨rfl, rfl⟩, .inl rfl⟩, k⟩
  exact ⟨f, _, F, F.bindsN b, a, i⟩
section
variable {X : Cx} {kx : XD} {ρ : Ro} {M : Mem} {P : Out → Mem → Prop} {pos p pos2 : Pos} {e : Expr} {d : D}
end
end Dl

/-! slices of tuples; lists of owned things -/
namespace Dl
open PySem PySem.Spec PyProof.Rows L2
section
variable {X : Cx} {kx kx' : XD} {ρ ρ' ρ'' : Ro} {M M' : Mem} {P : Out → Mem → Prop} {pos p np pos' tpos spos : Pos} {a e c : Expr} {C : Addr} {N : List Str} {sc : Scope} {k i : Nat} {x : D} {ns : List Str} {ds : List D}
end
/-! ### == of things with texts within -/
/-- an encoding: clean, of small depth, one to one -/
structure EnS {α : Type} (n : Nat) (f : α → D) : Prop where
  flat : ∀ x, (f x).flat = true
  depth : ∀ x, (f x).py.depth ≤ n
  eqv : ∀ x y, PyData.eqv (f x).py (f y).py = true ↔ x = y
structure EnSL {α : Type} (n : Nat) (F : α → List D) : Prop where
  flat : ∀ x, D.flatA (F x) = true
  depth : ∀ x, PyData.depthAll (D.pyA (F x)) ≤ n
  eqv : ∀ x y, PyData.eqvAll (D.pyA (F x)) (D.pyA (F y)) = true ↔ x = y
/-- the texts within are texts -/
def layD (d : D) : Prop := PyData.canLay0 d.py = true
section
variable {α β : Type} {n m : Nat} {f : α → D} {F : α → List D} {G : β → List D}
theorem EnS.mono (h : EnS n f) (l : n ≤ m) : EnS m f := ⟨h.flat, fun x => Nat.le_trans (h.depth x) l, h.eqv⟩
theorem En.s (h : En n f) : EnS n f := ⟨h.flat, h.depth, h.eqv⟩
theorem EnS.eqs [DecidableEq α] (h : EnS n f) (x y : α) (lx : layD (f x)) (ly : layD (f y)) (hn : n ≤ 64 := by decide) : Eqs (f x) (f y) (decide (x = y)) := by
  refine ⟨h.flat x, h.flat y, ?_, ?_, ?_⟩
  · have := h.depth x
    unfold SeqAt.shaped; rw [lx, Bool.true_and, decide_eq_true_eq]; omega
  · have := h.depth y
    unfold SeqAt.shaped; rw [ly, Bool.true_and, decide_eq_true_eq]; omega
  · refine Bool.eq_iff_iff.mpr ?_
    rw [decide_eq_true_iff]; exact h.eqv x y
theorem enS_str : EnS 0 D.str := ⟨fun x => by simp [D.flat], fun x => by simp [D.py, PyData.depth], fun x y => by simp [D.py, PyData.eqv]⟩
theorem eqvAllS_map (h : EnS n f) : ∀ xs ys : List α, PyData.eqvAll ((xs.map f).map D.py) ((ys.map f).map D.py) = true ↔ xs = ys
  | [], [] => by simp [PyData.eqvAll]
  | [], y :: ys => by simp [PyData.eqvAll]
  | x :: xs, [] => by simp [PyData.eqvAll]
  | x :: xs, y :: ys => by
    have ih := eqvAllS_map h xs ys
    simp only [List.map_cons, PyData.eqvAll, Bool.and_eq_true, h.eqv, ih, List.cons.injEq]
theorem enS_lst (h : EnS n f) : EnS (n + 1) fun xs : List α => D.lst (xs.map f) :=
  ⟨fun xs => by simp only [D.flat, flatA_all, List.all_map, List.all_eq_true]; exact fun x _ => h.flat x,
    fun xs => by
      have z := depth_all ((xs.map f).map D.py) n fun y hy => by
        obtain ⟨d, hd, rfl⟩ := List.mem_map.mp hy
        obtain ⟨x, hx, rfl⟩ := List.mem_map.mp hd
        exact h.depth x
      simp only [D.py, PyData.depth, pyA_map]; omega,
    fun xs ys => by simp only [D.py, PyData.eqv, pyA_map]; exact eqvAllS_map h xs ys⟩
end
end Dl

/-! lists of things that change: one of them taken out to be changed; comprehensions that change, or make, things -/
namespace Dl
open PySem PySem.Spec PyProof.Rows L2
/-! ### one of a list -/
def updI {α : Type} (xs : List α) (i : Int) (v : α) : List α := match ixN xs.length i with
  | some j => xs.set j v
  | none => xs
section
variable {α β : Type} {E : β → Ow → Prop}
theorem updI_at {xs : List α} {i : Int} {j : Nat} (h : ixN xs.length i = some j) (v : α) : updI xs i v = xs.set j v := by unfold updI; rw [h]
theorem ixE_ixN {xs : List α} {i : Int} {x : α} (h : ixE xs i = .ok x) : ∃ j, ixN xs.length i = some j ∧ xs[j]? = some x := by
  unfold ixE at h
  unfold ixN
  by_cases c : 0 ≤ i
  · rw [if_pos c] at h
    have e := some_out h
    have l := (List.getElem?_eq_some_iff.mp e).1
    exact ⟨i.toNat, by rw [if_pos c, if_pos (by omega)], e⟩
  · rw [if_neg c] at h
    by_cases c2 : 0 ≤ i + xs.length
    · rw [if_pos c2] at h
      have e := some_out h
      refine ⟨(i + xs.length).toNat, ?_, e⟩
      rw [if_neg c, if_pos (by omega)]
    · rw [if_neg c2] at h; cases h
theorem memA_split {os : List Ow} {j : Nat} {o : Ow} (h : os[j]? = some o) : Ow.memA os = Ow.memA (os.take j) ++ (o.mem ++ Ow.memA (os.drop (j + 1))) := by
  have e : os = os.take j ++ o :: os.drop (j + 1) := by
    rw [← drop_get h, List.take_append_drop]
  conv => lhs; rw [e]
  rw [memA_map, List.map_append, List.flatten_append, List.map_cons, List.flatten_cons, ← memA_map, ← memA_map]
theorem foc0 {rs : List β} {d : D} {m : Mem} {i : Int} {r : β} (h : OwR (isLst E) rs d m) (hi : ixE rs i = .ok r) :
    ∃ (w : Addr) (ds : List D) (dr : D) (mr mx : Mem), d = .adr w ∧ m.Perm ((w, .lst ds) :: (mr ++ mx)) ∧ atI ds i = some dr ∧ ds.length = rs.length ∧ OwR E r dr mr ∧
      ∀ r' dr' mr', OwR E r' dr' mr' → ∃ m', OwR (isLst E) (updI rs i r') (.adr w) m' ∧ m'.Perm ((w, .lst (updI ds i dr')) :: (mr' ++ mx)) := by
  obtain ⟨o, ⟨a, os, rfl, al⟩, rfl, rfl⟩ := h
  obtain ⟨j, hj, hr⟩ := ixE_ixN hi
  obtain ⟨oj, ho, hE⟩ := al.get hr
  have ln := al.len
  have lr : (Ow.rootA os).length = rs.length := by rw [rootA_map, List.length_map, ln]
  refine ⟨a, Ow.rootA os, oj.root, oj.mem, Ow.memA (os.take j) ++ Ow.memA (os.drop (j + 1)), by simp only [Ow.root], ?_, ?_, lr, ⟨oj, hE, rfl, rfl⟩, ?_⟩
  · simp only [Ow.mem]
    rw [memA_split ho]
    refine List.Perm.cons _ ?_
    rw [← List.append_assoc, ← List.append_assoc]
    exact List.Perm.append_right _ List.perm_append_comm
  · unfold atI
    rw [lr, hj, rootA_map]
    show (os.map Ow.root)[j]? = _
    rw [List.getElem?_map, ho]; rfl
  · rintro r' dr' mr' ⟨o', hE', rfl, rfl⟩
    have lj := (List.getElem?_eq_some_iff.mp ho).1
    refine ⟨_, ⟨.lst a (os.set j o'), ⟨a, _, rfl, ?_⟩, by simp only [Ow.root], rfl⟩, ?_⟩
    · rw [updI_at hj]; exact al.set hE' j
    · simp only [Ow.mem]
      have e1 : Ow.rootA (os.set j o') = updI (Ow.rootA os) i o'.root := by
        rw [updI_at (by rw [lr]; exact hj), rootA_map, rootA_map, List.map_set]
      rw [e1]
      refine List.Perm.cons _ ?_
      rw [memA_split (os := os.set j o') (j := j) (o := o') (List.getElem?_set_self lj), List.take_set_of_le (Nat.le_refl _), List.drop_set_of_lt (by omega)]
      rw [← List.append_assoc, ← List.append_assoc]
      exact List.Perm.append_right _ List.perm_append_comm
theorem updI_id {xs : List α} {i : Int} {x : α} (h : atI xs i = some x) : updI xs i x = xs := by
  unfold updI
  unfold atI at h
  cases e : ixN xs.length i with
  | none => rfl
  | some j =>
    rw [e] at h
    dsimp only
    have h' : xs[j]? = some x := h
    obtain ⟨l, e2⟩ := List.getElem?_eq_some_iff.mp h'
    rw [← e2]; exact List.set_getElem_self l
/-- taken out; put back, at the same place -/
theorem foc {rs : List β} {d : D} {m : Mem} {i : Int} {r : β} (h : OwR (isLst E) rs d m) (hi : ixE rs i = .ok r) :
    ∃ (w : Addr) (ds : List D) (dr : D) (mr mx : Mem), d = .adr w ∧ m.Perm ((w, .lst ds) :: (mr ++ mx)) ∧ atI ds i = some dr ∧ OwR E r dr mr ∧
      ∀ r' mr', OwR E r' dr mr' → ∃ m', OwR (isLst E) (updI rs i r') (.adr w) m' ∧ m'.Perm ((w, .lst ds) :: (mr' ++ mx)) := by
  obtain ⟨w, ds, dr, mr, mx, h1, h2, h3, _, h4, h5⟩ := foc0 h hi
  refine ⟨w, ds, dr, mr, mx, h1, h2, h3, h4, fun r' mr' h6 => ?_⟩
  obtain ⟨m', a, b⟩ := h5 r' dr mr' h6
  rw [updI_id h3] at b
  exact ⟨m', a, b⟩
/-- several, each owned -/
inductive OwA (E : β → Ow → Prop) : List β → List D → Mem → Prop
  | nil : OwA E [] [] []
  | cons {r : β} {rs : List β} {d : D} {ds : List D} {m1 m2 : Mem} : OwR E r d m1 → OwA E rs ds m2 → OwA E (r :: rs) (d :: ds) (m1 ++ m2)
theorem OwA.all {rs : List β} {ds : List D} {m : Mem} (h : OwA E rs ds m) : ∃ os, All2 E rs os ∧ ds = Ow.rootA os ∧ m = Ow.memA os := by
  induction h with
  | nil => exact ⟨[], .nil, by simp [Ow.rootA], by simp [Ow.memA]⟩
  | cons h _ ih =>
    obtain ⟨o, h1, rfl, rfl⟩ := h
    obtain ⟨os, h2, rfl, rfl⟩ := ih
    exact ⟨o :: os, .cons h1 h2, by simp [Ow.rootA], by simp [Ow.memA]⟩
theorem All2.mem {rs : List β} {os : List Ow} (h : All2 E rs os) {o : Ow} (ho : o ∈ os) : ∃ r, E r o := by
  induction h with
  | nil => cases ho
  | cons a _ ih =>
    rcases List.mem_cons.mp ho with rfl | ho
    · exact ⟨_, a⟩
    · exact ih ho
end
/-! ### comprehensions that change things, or make them -/
section
variable {X : Cx} {kx kx' : XD} {ρ ρ' ρ'' : Ro} {M M' : Mem} {P : Out → Mem → Prop} {pos p np pos' tpos spos : Pos} {tg a e c elt : Expr} {N : List Str} {sc csc : Scope} {k i : Nat} {ds : List D} {own : List (Str × Nat)}
/-- [elt for tg in e], J what stands as the walk goes on -/
def LcX (X : Cx) (N : List Str) (sc csc : Scope) (k : Nat) (own : List (Str × Nat)) (tg elt : Expr) (ρ : Ro) (ds : List D) (J : Nat → List D → Mem → Prop) : Prop :=
  ∀ i d acc m, ds[i]? = some d → J i acc m → ∃ ts ρ2, (∀ i ∈ ts, i ∈ own.map (·.2)) ∧ ∀ s H C cl fp w, Bd (Cx.bk X csc s H C cl fp) N (relS csc sc) k → DG (Cx.bk X csc s H C cl fp) tg ts d (wipeD ρ (own.map (·.2))) ρ2 ∧
    DE (Cx.bk X csc s H C cl fp) kx0 elt ρ2 ((w, .lst acc) :: m) fun d' m' => ∃ m2, m' = (w, .lst acc) :: m2 ∧ J (i + 1) (acc ++ [d']) m2
end
end Dl
namespace Dl
open PySem PySem.Spec PyProof.Rows L2
section
variable {X : Cx} {kx kx' : XD} {ρ ρ' ρ'' : Ro} {M M' : Mem} {P : Out → Mem → Prop} {pos p np pos' tpos spos apos : Pos} {tg a b e c o ix elt : Expr} {es : List Expr} {N : List Str} {sc csc : Scope} {k i n : Nat} {ds : List D} {own : List (Str × Nat)} {w : Addr} {x y : D}
/-! ### several things, each of which may change something -/
def DAE (X : Cx) (kx : XD) (es : List Expr) (ρ : Ro) (M : Mem) (k : List D → Mem → Prop) : Prop :=
  ∀ (σ : L2.St) (H H0 : Hp), Ht X.K H0 H M → Sl X.K H0 σ ρ → ∀ (W : WX), Takes X W → Hx X W H0 H M kx → ∀ (Q : List V → Hp → Prop), (∀ vs H' H0' ds M', Go H0 H M H0' H' M' → Ht X.K H0' H' M' → RepA X.K H0' vs ds → k ds M' → Q vs H') → sA X es σ H Q
/-! ### tests that change something -/
def DTE (X : Cx) (kx : XD) (e : Expr) (ρ : Ro) (M : Mem) (k : Bool → Mem → Prop) : Prop :=
  ∀ (σ : L2.St) (H H0 : Hp), Ht X.K H0 H M → Sl X.K H0 σ ρ → ∀ (W : WX), Takes X W → Hx X W H0 H M kx → ∀ (Q : Bool → Hp → Prop), (∀ H' H0' b M', Go H0 H M H0' H' M' → Ht X.K H0' H' M' → k b M' → Q b H') → sT X e σ H Q
end
end Dl
namespace Dl
open PySem PySem.Spec PyProof.Rows L2
section
variable {X : Cx} {kx kx' : XD} {ρ ρ' ρ'' : Ro} {M M' : Mem} {P : Out → Mem → Prop} {pos p np pos' tpos spos apos : Pos} {tg a b e c o ix elt : Expr} {es : List Expr} {N : List Str} {sc csc : Scope} {k i n : Nat} {ds : List D} {own : List (Str × Nat)} {w : Addr} {x y : D} {α β : Type} {E : β → Ow → Prop}
/-- [elt for tg in e], each elt a new thing -/
def LcN (X : Cx) (N : List Str) (sc csc : Scope) (k : Nat) (own : List (Str × Nat)) (tg elt : Expr) (ρ : Ro) (xs : List α) (enc : α → D) (fm : α → Ex β) (E : β → Ow → Prop) : Prop :=
  ∀ x, x ∈ xs → ∃ ts ρ2, (∀ i ∈ ts, i ∈ own.map (·.2)) ∧ ∀ s H C cl fp M1, Bd (Cx.bk X csc s H C cl fp) N (relS csc sc) k → DG (Cx.bk X csc s H C cl fp) tg ts (enc x) (wipeD ρ (own.map (·.2))) ρ2 ∧ ∀ v, fm x = .ok v → DN (Cx.bk X csc s H C cl fp) kx0 elt ρ2 M1 (OwR E v)
end
end Dl
namespace Dl
open PySem PySem.Spec PyProof.Rows L2
section
variable {α : Type} {xs : List α}
def unp2E (xs : List α) : Ex (α × α) := match xs with
  | [a, b] => .ok (a, b)
  | _ => .bad
def unp3E (xs : List α) : Ex (α × α × α) := match xs with
  | [a, b, c] => .ok (a, b, c)
  | _ => .bad
def unp4E (xs : List α) : Ex (α × α × α × α) := match xs with
  | [a, b, c, d] => .ok (a, b, c, d)
  | _ => .bad
variable {X : Cx} {kx : XD} {ρ : Ro} {M : Mem} {e : Expr} {enc : α → D}
end
end Dl
namespace Dl
open PySem PySem.Spec PyProof.Rows L2
section
variable {α β : Type} {E : β → Ow → Prop}
end
end Dl

/-! tests that change something; lists of new things written out -/
namespace Dl
open PySem PySem.Spec PyProof.Rows L2
section
variable {X : Cx} {kx kx' : XD} {ρ ρ' ρ'' : Ro} {M M' M2 : Mem} {P : Out → Mem → Prop} {pos p np pos' tpos spos apos : Pos} {tg a b c e o ix elt : Expr} {es : List Expr} {N : List Str} {sc csc : Scope} {k i n : Nat} {ds : List D} {own : List (Str × Nat)} {w : Addr} {x y : D} {α β : Type} {E : β → Ow → Prop} {A B : Mem → Prop}
/-- a test that may change something, and what follows either way -/
def DTT (X : Cx) (kx : XD) (e : Expr) (ρ : Ro) (M : Mem) (A B : Mem → Prop) : Prop := DTE X kx e ρ M fun b m => (b = true → A m) ∧ (b = false → B m)
def DWT (X : Cx) (kx : XD) (e : Expr) (ρ : Ro) (M : Mem) (A B : Mem → Prop) : Prop :=
  ∀ (σ : L2.St) (H H0 : Hp), Ht X.K H0 H M → Sl X.K H0 σ ρ → ∀ (W : WX), Takes X W → Hx X W H0 H M kx → ∀ (Q : Bool → Hp → Prop), (∀ H' H0' b M', Go H0 H M H0' H' M' → Ht X.K H0' H' M' → (b = true → A M') ∧ (b = false → B M') → Q b H') → sW X e σ H Q
theorem DWT.t (h : DWT X kx e ρ M A B) : DTT X kx e ρ M A B := fun σ H H0 t s W tk hx Q q => sT.by (pw_s e).pt (h σ H H0 t s W tk hx Q q)
theorem DTT.perm (p : M.Perm M2) (h : DTT X kx e ρ M2 A B) : DTT X kx e ρ M A B := fun σ H H0 t s W tk hx Q q =>
  h σ H H0 (t.perm p) s W tk (hx.perm p fun _ _ _ m hk => ⟨m, .refl _, hk⟩) Q fun H' H0' b m g t' hb => q H' H0' b m (g.permL p.symm) t' hb
theorem DWT.perm (p : M.Perm M2) (h : DWT X kx e ρ M2 A B) : DWT X kx e ρ M A B := fun σ H H0 t s W tk hx Q q =>
  h σ H H0 (t.perm p) s W tk (hx.perm p fun _ _ _ m hk => ⟨m, .refl _, hk⟩) Q fun H' H0' b m g t' hb => q H' H0' b m (g.permL p.symm) t' hb
/-! ### lists written out -/
theorem DAE.perm {kk : List D → Mem → Prop} (p : M.Perm M2) (h : DAE X kx es ρ M2 kk) : DAE X kx es ρ M kk := fun σ H H0 t s W tk hx Q q =>
  h σ H H0 (t.perm p) s W tk (hx.perm p fun _ _ _ m hk => ⟨m, .refl _, hk⟩) Q fun vs H' H0' ds m g t' r hk => q vs H' H0' ds m (g.permL p.symm) t' r hk
/-! ### comprehensions that change one thing at each turn -/
end
section
variable {X : Cx} {σ : L2.St} {H : Hp} {L : List Addr}
end
section
variable {X : Cx} {kx kx' : XD} {ρ ρ' ρ'' : Ro} {M M' M2 R m : Mem} {P : Out → Mem → Prop} {pos p np pos' tpos spos apos : Pos} {tg a b c e o ix elt : Expr} {es : List Expr} {N : List Str} {sc csc : Scope} {k i n : Nat} {ds : List D} {own : List (Str × Nat)} {w : Addr} {x y d dd : D} {α β : Type} {E : β → Ow → Prop} {enc0 : β → D} {r : β} {S : Shp} {sl : List (Nat × D × D)} {os : List Ow}
end
end Dl

/-! more rules -/
namespace Dl
open PySem PySem.Spec PyProof.Rows L2
section
variable {X : Cx} {kx kx' : XD} {ρ ρ' ρ'' : Ro} {M M' M2 R m : Mem} {P : Out → Mem → Prop} {pos p np pos' tpos spos apos : Pos} {tg a b c e o ix elt : Expr} {es : List Expr} {N : List Str} {sc csc : Scope} {k n : Nat} {ds : List D} {own : List (Str × Nat)} {w : Addr} {x y d dd : D} {α β : Type} {E : β → Ow → Prop}
/-! ### x in a list of numbers -/
/-- the context of a block, by what is known of it -/
abbrev bX {X : Cx} {N : List Str} {sc : Scope} {k : Nat} (_ : Bd X N sc k) : Cx := X
/-! ### tuples of things that change -/
/-- two lists in a tuple -/
def isTup2 (f : α → D) (g : β → D) (r : List α × List β) (o : Ow) : Prop := ∃ a b, o = .tup [.lst a (r.1.map fun x => .fr (f x)), .lst b (r.2.map fun x => .fr (g x))]
theorem Eqs.l {x x' y : D} {k : Bool} (h : Eqs x y k) (e : x'.py = x.py) (f : x'.flat = x.flat) : Eqs x' y k := ⟨f.trans h.fx, h.fy, by rw [e]; exact h.sx, h.sy, by rw [e]; exact h.eq⟩
theorem Eqs.r {x y y' : D} {k : Bool} (h : Eqs x y k) (e : y'.py = y.py) (f : y'.flat = y.flat) : Eqs x y' k := ⟨h.fx, f.trans h.fy, h.sx, by rw [e]; exact h.sy, by rw [e]; exact h.eq⟩
/-! ### zip of lists, locked ones too -/
inductive SeqC : D → List D → Prop
  | lst (ds : List D) : SeqC (.lst ds) ds
  | scr (ds : List D) : SeqC (.scr ds) ds
theorem SeqC.rep {K : Frag} {H0 : Hp} {v : V} (h : SeqC x ds) (r : Rep K H0 v x) : ∃ p vs, v = .ref p ∧ (∀ H, Same H0 H → SqL K H p vs) ∧ RepA K H0 vs ds := by
  cases h with
  | lst ds => cases r with | lst a b => exact ⟨_, _, rfl, fun H e => SqL.of (e _ _ a), b⟩
  | scr ds => cases r with | scr a b => exact ⟨_, _, rfl, fun H e => e.seq a, b⟩
end
end Dl

/-! an exception while things are lent; what is owned, or None; an owned thing moved into a list -/
namespace Dl
open PySem PySem.Spec PyProof.Rows L2
section
variable {X : Cx} {kx kx' : XD} {ρ ρ' ρ'' : Ro} {M M' M2 R m : Mem} {P : Out → Mem → Prop} {pos p np pos' tpos spos apos : Pos} {tg a b c e o ix elt : Expr} {es : List Expr} {N : List Str} {sc csc : Scope} {k n : Nat} {ds dvs : List D} {own : List (Str × Nat)} {w : Addr} {x y d dd : D} {α β : Type} {E : β → Ow → Prop} {enc0 : β → D} {r : β} {S : Shp} {sl : List (Nat × D × D)} {os : List Ow}
/-! ### owned, or None -/
def isOpt (E : β → Ow → Prop) (r : Option β) (o : Ow) : Prop := match r with
  | none => o = .fr .non
  | some x => E x o
end
end Dl

/-! objects without fields; what is None, a number or a pair -/
namespace Dl
open PySem PySem.Spec PyProof.Rows L2
section
variable {X : Cx} {kx kx' : XD} {ρ ρ' ρ'' : Ro} {M M' M2 R m : Mem} {P : Out → Mem → Prop} {pos p np pos' tpos spos apos : Pos} {tg a b c e o ix elt : Expr} {es : List Expr} {N : List Str} {sc csc : Scope} {k n : Nat} {ds : List D} {own : List (Str × Nat)} {w C : Addr} {x y d dd : D} {α β : Type} {E : β → Ow → Prop}
/-! ### C(), there being no __init__ -/
/-! ### isinstance(x, C), x an object without fields that change -/
structure InsT (K : Frag) (C : Addr) : Prop where
  cl : Cls K C
  ha : PySem.W.findIn K (.ref C) "__class__" = some (some (.builtin "object.__class__"))
  hn : PySem.W.specialIn K (.builtin "object.__class__") "__get__" = some (some (.builtin "getset_descriptor.__get__"))
  ht : PySem.W.takesIn K (.builtin "object.__class__") = some true
  hm : PySem.W.mroIn K C (.type "object") = some true
/-! ### a method that raises, of an object that stays as it is -/
/-! ### None, a number, or a pair of numbers -/
inductive Zv where
  | n
  | i (k : Int)
  | p (a b : Int)
  deriving DecidableEq
instance : Inhabited Zv := ⟨.n⟩
def dZ : Zv → D
  | .n => .non
  | .i k => .int k
  | .p a b => .tup [.int a, .int b]
def zSel {γ : Type} (z : Zv) (a b c : γ) : γ := match z with
  | .n => a
  | .i _ => b
  | .p _ _ => c
def zI : Zv → Ex Int
  | .i k => .ok k
  | _ => .bad
def zP : Zv → Ex (Int × Int)
  | .p a b => .ok (a, b)
  | _ => .bad
def zO : Option Int → Zv
  | none => .n
  | some k => .i k
def zOP : Option (Int × Int) → Zv
  | none => .n
  | some q => .p q.1 q.2
end
/-! ### more of what is None, a number or a pair; extend; sorted of locked lists -/
section
variable {X : Cx} {kx kx' : XD} {ρ ρ' ρ'' : Ro} {M M' M2 R m : Mem} {P : Out → Mem → Prop} {pos p np pos' tpos spos apos cpos : Pos} {tg a b c e o ix elt : Expr} {es : List Expr} {ds zs : List D} {w C : Addr} {x y d dd : D} {α β : Type}
end
/-! ### lists of lists that change -/
section
variable {α : Type} {f : α → D} {rs : List α} {d : D} {m : Mem}
theorem own_lstF : OwR (isLstF f) rs d m ↔ ∃ w, d = .adr w ∧ m = [(w, Mu.lst (rs.map f))] := by
  constructor
  · rintro ⟨o, ⟨a, rfl⟩, rfl, rfl⟩
    exact ⟨a, by simp only [Ow.root], by simp only [Ow.mem, rootA_fr, memA_fr]⟩
  · rintro ⟨a, rfl, rfl⟩
    exact ⟨_, ⟨a, rfl⟩, by simp only [Ow.root], by simp only [Ow.mem, rootA_fr, memA_fr]⟩
end
end Dl

/-! texts -/
namespace Dl
open PySem PySem.Spec PyProof.Rows L2
section
variable {X : Cx} {kx kx' : XD} {ρ ρ' ρ'' : Ro} {M M' M2 R m : Mem} {P : Out → Mem → Prop} {pos p np pos' tpos spos apos cpos : Pos} {tg a b c e o ix elt : Expr} {es : List Expr} {ds zs : List D} {w C : Addr} {x y d dd : D} {α β : Type} {s t : Str}
theorem dv_addS (ha : DV X kx a ρ M (.str s)) (hb : DV X kx b ρ M (.str t)) (hl : s.length + t.length ≤ 100000) : DV X kx (.BinOp a .Add b pos) ρ M (.str (s ++ t)) := dv_op op_add_str (fun v u H H0 t r1 r2 Q q => by cases r1; cases r2; exact ⟨_, _, rfl, rfl, sz_le hl, q _ H H0 (Pu.refl t.ex) (.str _)⟩) ha hb
theorem dv_slT' {lo hi : Option Expr} {p2} {i j : Option Int} (ha : DV X kx a ρ M (.str s)) (hz : s.length ≤ 100000) (hl : DO X kx lo ρ M i) (hh : DO X kx hi ρ M j) : DV X kx (.Subscript a (.Slice lo hi none p2) pos) ρ M (.str (cutS s i j)) := fun σ H H0 t s W tk hx Q q =>
  sE.by (pe_slice sl_str (pe_s a) (po_s lo) (po_s hi)) (ha σ H H0 t s W tk hx _ fun v H1 H01 p1 r1 => hl.run (t.pu p1) (s.mo p1.e0) tk (hx.pu p1) fun H2 H02 p2 => hh.run (t.pu (p1.trans p2)) (s.mo (p1.trans p2).e0) tk (hx.pu (p1.trans p2)) fun H3 H03 p3 => by
    have p123 := (p1.trans p2).trans p3
    cases r1
    exact ⟨_, rfl, sz_le hz, q _ _ _ p123 (.str _)⟩)
end
end Dl

/-! a list beside an empty one; more calls of types -/
namespace Dl
open PySem PySem.Spec PyProof.Rows L2
section
variable {X : Cx} {kx kx' : XD} {ρ ρ' ρ'' : Ro} {M M' M2 R m : Mem} {P : Out → Mem → Prop} {pos p np pos' tpos spos apos cpos : Pos} {tg a b c e o ix elt : Expr} {es : List Expr} {ds zs : List D} {w C : Addr} {x y d dd : D} {α β : Type}
def rEqNil (K : Frag) : R2 := fun x y H Q => ∃ a b xs, x = .ref a ∧ y = .ref b ∧ SqL K H a xs ∧ SqL K H b [] ∧ Q (.bl xs.isEmpty) H
def rNeNil (K : Frag) : R2 := fun x y H Q => ∃ a b xs, x = .ref a ∧ y = .ref b ∧ SqL K H a xs ∧ SqL K H b [] ∧ Q (.bl (!xs.isEmpty)) H
/-! ### dict(pairs) -/
def mergeA (xs : List (Int × Int)) : List (Int × Int) := xs.foldl (fun acc q => putA acc q.1 q.2) []
def kvI (q : Int × Int) : Key × D := (.inl q.1, .int q.2)
end
end Dl

/-! texts: signs, walks, join, split, order, lists of texts -/
namespace Dl
open PySem PySem.Spec PyProof.Rows L2
/-- a text of one sign; a text's signs -/
def sg (c : Nat) : Str := ⟨#[c]⟩
def sgs (s : Str) : List Str := s.cps.toList.map sg
def oneS (s : Str) : Prop := s.cps.size = 1
theorem oneS_sg (c : Nat) : oneS (sg c) := rfl
theorem oneS_out {s : Str} (h : oneS s) : s = sg (s.cps.getD 0 0) := by
  obtain ⟨a⟩ := s
  have h : a.size = 1 := h
  show Str.mk a = Str.mk #[a.getD 0 0]
  congr 1
  apply Array.ext
  · simpa using h
  · intro i h1 h2
    have : i = 0 := by omega
    subst this
    simp [h]
/-- one sign among a text's -/
def inSg (s z : Str) : Bool := decide (s.cps.getD 0 0 ∈ z.cps.toList)
theorem inSg_sg (c : Nat) (z : Str) : inSg (sg c) z = decide (c ∈ z.cps.toList) := rfl
theorem sgs_len (s : Str) : (sgs s).length = s.length := by simp [sgs, Str.length]
section
variable {K : Frag} {H : Hp}
theorem RepA.ofStrs (is : List Str) : RepA K H (is.map V.str) (is.map D.str) := by
  induction is with
  | nil => exact .nil
  | cons i is ih => exact .cons (.str i) ih
end
section
variable {X : Cx} {kx kx' : XD} {ρ ρ' ρ'' : Ro} {M M' M2 R m : Mem} {P : Out → Mem → Prop} {pos p np pos' tpos spos apos cpos : Pos} {tg a b c e o ix elt : Expr} {es : List Expr} {ds zs : List D} {w C : Addr} {x y d dd : D} {α β : Type} {s t : Str}
theorem SeqL.strs {is : List Str} {v : V} {H H0 : Hp} (h : SeqL M x (is.map D.str)) (t : Ht X.K H0 H M) (r : Rep X.K H0 v x) : ∃ p, v = .ref p ∧ SqL X.K H p (is.map V.str) := by
  obtain ⟨p, vs, rfl, h1, h2⟩ := h.rep t r
  have e := h2.strs
  subst e
  exact ⟨p, rfl, h1⟩
/-- text[i] -/
theorem dv_ixSg {i : Int} {c : Nat} (ha : DV X kx a ρ M (.str s)) (hb : DV X kx b ρ M (.int i)) (hl : s.length ≤ 100000) (h : ixE s.cps.toList i = .ok c) (hs : PlainIx b := by intro _ _; rfl) : DV X kx (.Subscript a b pos) ρ M (.str (sg c)) :=
  dv_ix ix_str (fun v u H H0 t r1 r2 Q q => by
    cases r1; cases r2
    refine ⟨s, i, c, rfl, rfl, sz_le hl, ?_, q _ H H0 (Pu.refl t.ex) (.str _)⟩
    obtain ⟨j, e1, e2⟩ := ixE_ixN h
    show (ixN s.cps.toList.length i).bind (fun j => s.cps.toList[j]?) = some c
    rw [e1]; exact e2) ha hb hs
/-- for sign in text -/
theorem wk_str {K : Frag} {H0 : Hp} : WkD K (Its s) H0 ((sgs s).map D.str) := by
  refine ⟨fun _ => True, fun i H v H' => H' = H ∧ ∃ c, s.cps[i]? = some c ∧ v = .str ⟨#[c]⟩, ?_, fun _ _ => trivial, ?_⟩
  · rw [show ((sgs s).map D.str).length = s.cps.size by simp [sgs]]
    exact walk_str
  · intro i H1 x H2 H01 d e1 e2 hd h
    obtain ⟨rfl, c, hc, rfl⟩ := h
    refine ⟨H01, Pu.refl e2, ?_⟩
    rw [List.getElem?_map, sgs, List.getElem?_map, Array.getElem?_toList, hc] at hd
    cases hd
    exact .str _
theorem di_str (h : DV X kx e ρ M (.str s)) : DI X kx tg e ρ M ((sgs s).map D.str) := fun σ H H0 t s' W tk hx R q =>
  sI.by (pi_str (pe_s e)) (h σ H H0 t s' W tk hx _ fun v H' H0' p r => by
    cases r
    exact ⟨s, rfl, q _ H' H0' p wk_str⟩)
/-- a sign in a text -/
theorem r2_inSg (h1 : oneS s) : R2D X.K (fun x y H Q => ∃ (c : Nat) (z : Str), x = .str ⟨#[c]⟩ ∧ y = .str z ∧ Q (.bl (decide (c ∈ z.cps.toList))) H) M (.str s) (.str t) (.bl (inSg s t)) := fun v u H H0 tt r1 r2 Q q => by
  cases r1; cases r2
  exact ⟨s.cps.getD 0 0, t, by rw [show (⟨#[s.cps.getD 0 0]⟩ : Str) = sg (s.cps.getD 0 0) from rfl, ← oneS_out h1], rfl, q _ H H0 (Pu.refl tt.ex) (.bl _)⟩
theorem r2_ninSg (h1 : oneS s) : R2D X.K (fun x y H Q => ∃ (c : Nat) (z : Str), x = .str ⟨#[c]⟩ ∧ y = .str z ∧ Q (.bl (!decide (c ∈ z.cps.toList))) H) M (.str s) (.str t) (.bl (!inSg s t)) := fun v u H H0 tt r1 r2 Q q => by
  cases r1; cases r2
  exact ⟨s.cps.getD 0 0, t, by rw [show (⟨#[s.cps.getD 0 0]⟩ : Str) = sg (s.cps.getD 0 0) from rfl, ← oneS_out h1], rfl, q _ H H0 (Pu.refl tt.ex) (.bl _)⟩
theorem dv_inSg (h1 : oneS s) (ha : DV X kx a ρ M (.str s)) (hb : DV X kx b ρ M (.str t)) (hm : behindInMarks .In b = false := by rfl) : DV X kx (.Compare a [.In] [b] pos) ρ M (.bl (inSg s t)) := dv_cmp op_in_sign (r2_inSg h1) ha hb hm
theorem dt_ninSg (h1 : oneS s) (ha : DV X kx a ρ M (.str s)) (hb : DV X kx b ρ M (.str t)) (hm : behindInMarks .NotIn b = false := by rfl) : DT X kx (.Compare a [.NotIn] [b] pos) ρ M (!inSg s t) := dt_cmp op_notIn_sign (r2_ninSg h1) ha hb hm
/-- a text in a list of texts -/
theorem inV_strs (xs : List Str) : inV (.str s) (xs.map V.str) = decide (s ∈ xs) := by
  unfold inV
  rw [List.any_map, Bool.eq_iff_iff, List.any_eq_true, decide_eq_true_eq]
  constructor
  · rintro ⟨y, hy, h⟩
    have : y = s := by simpa [eqV] using h
    exact this ▸ hy
  · exact fun h => ⟨s, h, by simp [eqV]⟩
theorem flat_strs (xs : List Str) : (xs.map V.str).all flatV = true := by
  rw [List.all_eq_true]; intro y hy; obtain ⟨z, _, rfl⟩ := List.mem_map.mp hy; rfl
theorem r2_inLS {xs : List Str} (hq : SeqL M y (xs.map D.str)) : R2D X.K (rIn X.K false) M (.str s) y (.bl (decide (s ∈ xs))) := fun v u H H0 t r1 r2 Q q => by
  cases r1
  obtain ⟨p, rfl, h1⟩ := hq.strs t r2
  refine ⟨p, _, rfl, .inl h1, rfl, flat_strs xs, ?_⟩
  rw [if_neg (by decide), inV_strs]
  exact q _ H H0 (Pu.refl t.ex) (.bl _)
theorem r2_ninLS {xs : List Str} (hq : SeqL M y (xs.map D.str)) : R2D X.K (rIn X.K true) M (.str s) y (.bl (!decide (s ∈ xs))) := fun v u H H0 t r1 r2 Q q => by
  cases r1
  obtain ⟨p, rfl, h1⟩ := hq.strs t r2
  refine ⟨p, _, rfl, .inl h1, rfl, flat_strs xs, ?_⟩
  rw [if_pos rfl, inV_strs]
  exact q _ H H0 (Pu.refl t.ex) (.bl _)
theorem dv_inLS {xs : List Str} (ha : DV X kx a ρ M (.str s)) (hb : DV X kx b ρ M y) (hq : SeqL M y (xs.map D.str)) (hm : behindInMarks .In b = false := by rfl) : DV X kx (.Compare a [.In] [b] pos) ρ M (.bl (decide (s ∈ xs))) := dv_cmp op_in_seq (r2_inLS hq) ha hb hm
theorem dt_ninLS {xs : List Str} (ha : DV X kx a ρ M (.str s)) (hb : DV X kx b ρ M y) (hq : SeqL M y (xs.map D.str)) (hm : behindInMarks .NotIn b = false := by rfl) : DT X kx (.Compare a [.NotIn] [b] pos) ρ M (!decide (s ∈ xs)) := dt_cmp op_notIn_seq (r2_ninLS hq) ha hb hm
/-! a text in a tuple of texts -/
/-! order -/
def ltS (s t : Str) : Bool := decide (s.cps.toList < t.cps.toList)
def sortS (xs : List Str) : List Str := xs.mergeSort fun a b => !ltS b a
/-! methods of texts -/
theorem dv_join {ys : List Str} (ho : DV X kx o ρ M (.str s)) (he : DV X kx e ρ M y) (hq : SeqL M y (ys.map D.str)) (hl : (ys.map (·.length)).sum + ys.length * s.length ≤ 16777216) (hs : starEach [e] X.env = [(false, eval e X.env)] := by rfl) (hbase : attributeBase o "join" X.env (eval o X.env) = eval o X.env := by rfl) (hline : (apos.endLine == pos.line) = true := by rfl) :
    DV X kx (.Call (.Attribute o "join" apos) [e] [] pos) ρ M (.str (Txt.join s ys)) := fun σ H H0 t s' W tk hx Q q =>
  sE.by (pe_join (pe_s o) (pe_s e) hs hbase hline) (ho σ H H0 t s' W tk hx _ fun v H1 H01 p1 r1 => by
    cases r1
    exact ⟨⟨_, rfl⟩, he σ H1 H01 (t.pu p1) (s'.mo p1.e0) W tk (hx.pu p1) _ fun u H2 H02 p2 r2 => by
      obtain ⟨l, rfl, h1⟩ := hq.strs (t.pu (p1.trans p2)) r2
      exact ⟨s, l, ys, rfl, rfl, .inl h1, hl, q _ _ _ (p1.trans p2) (.str _)⟩⟩)
theorem dv_split (ho : DV X kx o ρ M (.str s)) (he : DV X kx e ρ M (.str t)) (hb : (t.length == 0) = false) (hl : s.length ≤ 100000) (hs : starEach [e] X.env = [(false, eval e X.env)] := by rfl) (hbase : attributeBase o "split" X.env (eval o X.env) = eval o X.env := by rfl) (hline : (apos.endLine == pos.line) = true := by rfl) :
    DV X kx (.Call (.Attribute o "split" apos) [e] [] pos) ρ M (.lst ((Txt.split s t).map D.str)) := fun σ H H0 tt s' W tk hx Q q =>
  sE.by (pe_split (pe_s o) (pe_s e) hs hbase hline) (ho σ H H0 tt s' W tk hx _ fun v H1 H01 p1 r1 => by
    cases r1
    exact ⟨⟨_, rfl⟩, he σ H1 H01 (tt.pu p1) (s'.mo p1.e0) W tk (hx.pu p1) _ fun u H2 H02 p2 r2 => by
      cases r2
      refine ⟨s, t, rfl, rfl, hb, Nat.le_trans (Nat.add_le_add_right hl 2) (by rw [sizeLine_eq]; decide), fun w hw => ?_⟩
      have gp := Pu.new1 (tt.pu (p1.trans p2)).ex hw (.lst ((Txt.split s t).map V.str))
      exact q _ _ _ ((p1.trans p2).trans gp) (.lst upd_same (RepA.ofStrs _))⟩)
theorem dv_startswith (ho : DV X kx o ρ M (.str s)) (he : DV X kx e ρ M (.str t)) (hs : starEach [e] X.env = [(false, eval e X.env)] := by rfl) (hbase : attributeBase o "startswith" X.env (eval o X.env) = eval o X.env := by rfl) (hline : (apos.endLine == pos.line) = true := by rfl) :
    DV X kx (.Call (.Attribute o "startswith" apos) [e] [] pos) ρ M (.bl (Txt.startswith s t)) := fun σ H H0 tt s' W tk hx Q q =>
  sE.by (pe_m1 F.slot_str_startswith F.type_str_startswith mt_startswith (pe_s o) (pe_s e) hs hbase hline) (ho σ H H0 tt s' W tk hx _ fun v H1 H01 p1 r1 => by
    cases r1
    exact ⟨⟨_, rfl⟩, he σ H1 H01 (tt.pu p1) (s'.mo p1.e0) W tk (hx.pu p1) _ fun u H2 H02 p2 r2 => by
      cases r2
      exact ⟨s, t, rfl, rfl, q _ _ _ (p1.trans p2) (.bl _)⟩⟩)
/-! str(i), int(text), text constants of the module -/
theorem dv_gstr {x : Str} {i : Str} {u : Value} (hg : Gl X x) (hm : X.mg x = some u) (r : RelV (.str i) u) (hd : (x == ("__debug__" : Str)) = false := by decide) : DV X kx (.Name x pos) ρ M (.str i) := fun σ H H0 t s W tk hx Q q =>
  sE.by (pe_glob hg hm r hd) (q _ H H0 (Pu.refl t.ex) (.str i))
/-! a dict that stands for good: its keys sorted, its values walked -/
end
end Dl

/-! things of any kind -/
namespace Dl
open PySem PySem.Spec PyProof.Rows L2
abbrev dD (d : D) : D := d
def asS : D → Option Str
  | .str s => some s
  | _ => none
def asI : D → Option Int
  | .int s => some s
  | _ => none
def asB : D → Option Bool
  | .bl s => some s
  | _ => none
/-- all of them texts -/
def asSs : List D → Option (List Str)
  | [] => some []
  | d :: ds => match asS d, asSs ds with
    | some s, some ss => some (s :: ss)
    | _, _ => none
def flatD (d : D) : Prop := d.flat = true ∧ SeqAt.shaped d.py = true
def eqvD (x y : D) : Bool := PyData.eqv x.py y.py
theorem eqs_D {x y : D} (hx : flatD x) (hy : flatD y) : Eqs x y (eqvD x y) := ⟨hx.1, hy.1, hx.2, hy.2, rfl⟩
/-- by kind: None, truth, int, text, list, tuple -/
def dSel (d : D) (n b i s l t : Bool) : Bool := match d with
  | .non => n
  | .bl _ => b
  | .int _ => i
  | .str _ => s
  | .lst _ => l
  | .scr _ => l
  | .tup _ => t
  | _ => false
section
variable {X : Cx} {kx kx' : XD} {ρ ρ' ρ'' : Ro} {M M' M2 R m : Mem} {P : Out → Mem → Prop} {pos p np pos' tpos spos apos cpos : Pos} {tg a b c e o ix elt : Expr} {es : List Expr} {ds zs : List D} {w C : Addr} {x y d dd : D} {α β : Type} {s t : Str}
theorem asS_ok {v : Str} (h : someE (asS d) = .ok v) : d = .str v := by
  cases d <;> first | (cases h; rfl) | (exact absurd h (by simp [asS, someE]))
theorem dv_asS {v : Str} (h : DV X kx e ρ M d) (hs : someE (asS d) = .ok v) : DV X kx e ρ M (.str v) := h.is (asS_ok hs)
theorem dv_isiD {S : String} {f g : Str} {p2 : Pos} {k1 k2 k3 k4 k5 k6 : Bool} {z : D} (n : Bn X f (.builtin "isinstance")) (n2 : Bn X g (.type S)) (ha : DV X kx a ρ M z) (hf : z.flat = true) (h1 : kitB "NoneType" S = some k1) (h2 : kitB "bool" S = some k2) (h3 : kitB "int" S = some k3) (h4 : kitB "str" S = some k4) (h5 : kitB "list" S = some k5) (h6 : kitB "tuple" S = some k6)
    (he : starEach [a, .Name g p2] X.env = (false, eval a X.env) :: starEach [.Name g p2] X.env := by rfl) : DV X kx (.Call (.Name f p) [a, .Name g p2] [] pos) ρ M (.bl (dSel z k1 k2 k3 k4 k5 k6)) := by
  cases z with
  | non => exact dv_isi n n2 ha .non h1 he
  | bl k => exact dv_isi n n2 ha (.bl k) h2 he
  | int k => exact dv_isi n n2 ha (.int k) h3 he
  | str k => exact dv_isi n n2 ha (.str k) h4 he
  | lst k => exact dv_isi n n2 ha (.lst k) h5 he
  | scr k => exact dv_isi n n2 ha (.scr k) h5 he
  | tup k => exact dv_isi n n2 ha (.tup k) h6 he
  | _ => exact absurd hf (by simp [D.flat])
end
end Dl

/-! what raises, nothing being changed; things lent meanwhile; calls whose arguments change something -/
namespace Dl
open PySem PySem.Spec PyProof.Rows L2
theorem XRep.cutL {K : Frag} {H H2 H2' : Hp} {S : Shp} {c : Mem} {dd : Option Addr} {fs : List (Str × D)} (hc : ∀ p ∈ c, ∀ o, H p.1 = some o → MSh S p.2 (some o)) (ho : D.offA S (fs.map Prod.snd) = true) (x : XRep K H H2 dd fs) : XRep K (cutL H c.dom) H2' dd fs := by
  rcases x with x | ⟨h1, d, vs, xs, h2, h3, h4, h5, h6⟩
  · exact .inl x
  · exact .inr ⟨h1, d, vs, xs, h2, by rw [cutL_ne (shNo hc h3 sh_xdX)]; exact h3, h4, h5, RepA.cutL hc _ _ ho h6⟩
section
variable {X : Cx} {kx kx' : XD} {ρ ρ' ρ'' : Ro} {M M' M2 R m : Mem} {P : Out → Mem → Prop} {pos p np pos' tpos spos apos cpos : Pos} {tg a b c e o ix elt : Expr} {es : List Expr} {ds zs dvs gs : List D} {w C : Addr} {x y d dd : D} {α β : Type} {s t : Str} {k : Nat} {n f mn : Str} {fs : List (Str × D)} {S : Shp} {sl : List (Nat × D × D)} {os : List Ow} {E : β → Ow → Prop} {enc : β → D} {r : β}
def DX (X : Cx) (e : Expr) (ρ : Ro) (M : Mem) (n : Str) (fs : List (Str × D)) : Prop :=
  ∀ (σ : L2.St) (H H0 : Hp), Ht X.K H0 H M → Sl X.K H0 σ ρ → ∀ (W : WX), Takes X W → (∀ cls dd H' H0', Pu H0 H H0' H' → XRep X.K H0' H' dd fs → X.mg n = some cls → W cls dd σ H') → ∀ (Q : VK), sE X e σ H Q
def DXA (X : Cx) (es : List Expr) (ρ : Ro) (M : Mem) (n : Str) (fs : List (Str × D)) : Prop :=
  ∀ (σ : L2.St) (H H0 : Hp), Ht X.K H0 H M → Sl X.K H0 σ ρ → ∀ (W : WX), Takes X W → (∀ cls dd H' H0', Pu H0 H H0' H' → XRep X.K H0' H' dd fs → X.mg n = some cls → W cls dd σ H') → ∀ (Q : List V → Hp → Prop), sA X es σ H Q
theorem DX.de (h : DX X e ρ M n fs) (hk : ∀ cls, X.mg n = some cls → kx cls fs ρ M) : DE X kx e ρ M fun _ _ => False := fun σ H H0 t s W tk hx Q q =>
  h σ H H0 t s W tk (fun cls dd H' H0' p xr hm => hx cls dd σ H' H0' fs ρ M p.go (t.pu p) (s.mo p.e0) xr (hk cls hm)) Q
/-! calls -/
/-! calls whose arguments change something -/
end
/-! ### dicts of owned things: what stands at the keys -/
section
variable {κ β : Type} [DecidableEq κ] {E : β → Ow → Prop}
inductive OwD (E : β → Ow → Prop) : List (κ × β) → List (κ × D) → Mem → Prop
  | nil : OwD E [] [] []
  | cons {k : κ} {r : β} {d : D} {xs : List (κ × β)} {rs : List (κ × D)} {m1 m2 : Mem} : OwR E r d m1 → OwD E xs rs m2 → OwD E ((k, r) :: xs) ((k, d) :: rs) (m1 ++ m2)
theorem OwD.keys {xs : List (κ × β)} {rs : List (κ × D)} {m : Mem} (h : OwD E xs rs m) : rs.map Prod.fst = xs.map Prod.fst := by
  induction h with
  | nil => rfl
  | cons a b ih => simp [ih]
theorem OwD.len {xs : List (κ × β)} {rs : List (κ × D)} {m : Mem} (h : OwD E xs rs m) : rs.length = xs.length := by
  have := congrArg List.length h.keys
  simpa using this
theorem OwD.get {xs : List (κ × β)} {rs : List (κ × D)} {m : Mem} (h : OwD E xs rs m) (k : κ) : (getA rs k).isSome = (getA xs k).isSome := by
  induction h with
  | nil => rfl
  | @cons k' r d xs rs m1 m2 a b ih =>
    unfold getA at *
    by_cases e : k' = k
    · simp [e]
    · simp [e, ih]
theorem putA_cons_eq {k : κ} {r v : β} {xs : List (κ × β)} (h : k ∉ xs.map Prod.fst) : putA ((k, r) :: xs) k v = (k, v) :: xs := by
  unfold putA
  rw [if_pos (by simp)]
  simp only [List.map_cons, if_true, List.cons.injEq, true_and]
  conv => rhs; rw [← List.map_id xs]
  refine List.map_congr_left fun q hq => ?_
  rw [if_neg (fun e => h (List.mem_map.mpr ⟨q, hq, e⟩))]; rfl
theorem putA_cons_ne {k k' : κ} {r v : β} {xs : List (κ × β)} (h : k' ≠ k) : putA ((k', r) :: xs) k v = (k', r) :: putA xs k v := by
  unfold putA
  simp only [List.any_cons, h, decide_false, Bool.false_or]
  split
  · simp [h]
  · simp
theorem putA_nil (k : κ) (v : β) : putA ([] : List (κ × β)) k v = [(k, v)] := by unfold putA; simp
theorem putA_keys (xs : List (κ × β)) (k : κ) (v : β) (nd : (xs.map Prod.fst).Nodup) : ((putA xs k v).map Prod.fst).Nodup := by
  induction xs with
  | nil => rw [putA_nil]; simp
  | cons q xs ih =>
    obtain ⟨k', r⟩ := q
    obtain ⟨n1, n2⟩ := List.nodup_cons.mp nd
    by_cases e : k' = k
    · subst e; rw [putA_cons_eq n1]; exact nd
    · rw [putA_cons_ne e]
      refine List.nodup_cons.mpr ⟨fun z => ?_, ih n2⟩
      have : ∀ (ys : List (κ × β)), k' ∈ (putA ys k v).map Prod.fst → k' ∈ ys.map Prod.fst := fun ys hy => by
        unfold putA at hy
        split at hy
        · rw [List.map_map] at hy
          obtain ⟨q, hq, e2⟩ := List.mem_map.mp hy
          refine List.mem_map.mpr ⟨q, hq, ?_⟩
          rw [← e2]
          by_cases c : q.1 = k <;> simp [c]
        · rw [List.map_append, List.mem_append] at hy
          rcases hy with hy | hy
          · exact hy
          · exact absurd (by simpa using hy) e
      exact n1 (this xs z)
theorem getA_cons' {k k' : κ} {r : β} {xs : List (κ × β)} : getA ((k', r) :: xs) k = if k' = k then some r else getA xs k := by
  unfold getA
  by_cases e : k' = k <;> simp [e]
theorem OwD.foc {xs : List (κ × β)} {rs : List (κ × D)} {m : Mem} (h : OwD E xs rs m) (nd : (xs.map Prod.fst).Nodup) {k : κ} {r : β} (hg : getA xs k = some r) :
    ∃ d mr mx, getA rs k = some d ∧ OwR E r d mr ∧ m.Perm (mr ++ mx) ∧ ∀ r' mr', OwR E r' d mr' → ∃ m', OwD E (putA xs k r') rs m' ∧ (mr' ++ mx).Perm m' := by
  induction h with
  | nil => cases hg
  | @cons k' r0 d xs rs m1 m2 a b ih =>
    obtain ⟨n1, n2⟩ := List.nodup_cons.mp nd
    rw [getA_cons'] at hg
    by_cases e : k' = k
    · subst e
      rw [if_pos rfl] at hg
      cases hg
      refine ⟨d, m1, m2, by rw [getA_cons', if_pos rfl], a, .refl _, fun r' mr' h' => ⟨mr' ++ m2, ?_, .refl _⟩⟩
      rw [putA_cons_eq n1]
      exact .cons h' b
    · rw [if_neg e] at hg
      obtain ⟨d', mr, mx, i1, i2, i3, i4⟩ := ih n2 hg
      refine ⟨d', mr, m1 ++ mx, by rw [getA_cons', if_neg e]; exact i1, i2, ?_, fun r' mr' h' => ?_⟩
      · refine (List.Perm.append_left m1 i3).trans ?_
        rw [← List.append_assoc, ← List.append_assoc]
        exact List.Perm.append_right mx List.perm_append_comm
      · obtain ⟨m', j1, j2⟩ := i4 r' mr' h'
        refine ⟨m1 ++ m', ?_, ?_⟩
        · rw [putA_cons_ne e]; exact .cons a j1
        · refine List.Perm.trans ?_ (List.Perm.append_left m1 j2)
          rw [← List.append_assoc, ← List.append_assoc]
          exact List.Perm.append_right mx List.perm_append_comm
theorem OwD.put {xs : List (κ × β)} {rs : List (κ × D)} {m : Mem} (h : OwD E xs rs m) (nd : (xs.map Prod.fst).Nodup) (k : κ) {r : β} {d : D} {mr : Mem} (hr : OwR E r d mr) : ∃ m' old, OwD E (putA xs k r) (putA rs k d) m' ∧ (mr ++ m).Perm (m' ++ old) := by
  induction h with
  | nil => exact ⟨mr ++ [], [], by rw [putA_nil, putA_nil]; exact .cons hr .nil, by simp⟩
  | @cons k' r0 d0 xs rs m1 m2 a b ih =>
    obtain ⟨n1, n2⟩ := List.nodup_cons.mp nd
    by_cases e : k' = k
    · subst e
      refine ⟨mr ++ m2, m1, ?_, ?_⟩
      · rw [putA_cons_eq n1, putA_cons_eq (by rw [b.keys]; exact n1)]
        exact .cons hr b
      · rw [List.append_assoc]
        exact List.Perm.append_left mr List.perm_append_comm
    · obtain ⟨m', old, i1, i2⟩ := ih n2
      refine ⟨m1 ++ m', old, ?_, ?_⟩
      · rw [putA_cons_ne e, putA_cons_ne e]; exact .cons a i1
      · rw [List.append_assoc]
        refine List.Perm.trans ?_ (List.Perm.append_left m1 i2)
        rw [← List.append_assoc, ← List.append_assoc]
        exact List.Perm.append_right m2 List.perm_append_comm
theorem OwD.all {xs : List (κ × β)} {rs : List (κ × D)} {m : Mem} (h : OwD E xs rs m) : ∃ os, All2 E (xs.map Prod.snd) os ∧ rs.map Prod.fst = xs.map Prod.fst ∧ rs.map Prod.snd = Ow.rootA os ∧ m = Ow.memA os := by
  induction h with
  | nil => exact ⟨[], .nil, rfl, by simp [Ow.rootA], by simp [Ow.memA]⟩
  | cons a b ih =>
    obtain ⟨o, h1, rfl, rfl⟩ := a
    obtain ⟨os, h2, e1, e2, rfl⟩ := ih
    exact ⟨o :: os, .cons h1 h2, by simp [e1], by simp [Ow.rootA, e2], by simp [Ow.memA]⟩
theorem All2.owD {E : β → Ow → Prop} : ∀ {xs : List (κ × β)} {os : List Ow}, All2 E (xs.map Prod.snd) os → OwD E xs ((xs.map Prod.fst).zip (Ow.rootA os)) (Ow.memA os)
  | [], _, h => by cases h; simp [Ow.rootA, Ow.memA]; exact .nil
  | (k, r) :: xs, _, h => by
    have h' : All2 E (r :: xs.map Prod.snd) _ := h
    cases h' with
    | cons a b =>
      simp only [Ow.rootA, Ow.memA, List.map_cons, List.zip_cons_cons]
      exact .cons ⟨_, a, rfl, rfl⟩ (All2.owD b)
theorem zip_of {α γ : Type} : ∀ (rs : List (α × γ)), rs = (rs.map Prod.fst).zip (rs.map Prod.snd)
  | [] => rfl
  | q :: rs => by simp [← zip_of rs]
theorem OwD.off {S : Shp} (hE : OffK S E) {xs : List (κ × β)} {rs : List (κ × D)} {m : Mem} (h : OwD E xs rs m) : (∀ p ∈ m, p.2.offM S = true) ∧ ∀ q ∈ rs, q.2.off S = true := by
  induction h with
  | nil => exact ⟨fun p hp => by simp at hp, fun q hq => by simp at hq⟩
  | cons a b ih =>
    obtain ⟨h1, h2⟩ := hE _ _ _ a
    refine ⟨fun p hp => (List.mem_append.mp hp).elim (h2 p) (ih.1 p), fun q hq => ?_⟩
    rcases List.mem_cons.mp hq with rfl | hq
    · exact h1
    · exact ih.2 q hq
theorem zip_keys {α : Type} {ek : κ → α} {xs : List (κ × β)} {ds : List D} : ((xs.map Prod.fst).zip ds).map (fun q => (ek q.1, dD q.2)) = (xs.map fun q => ek q.1).zip ds := by
  induction xs generalizing ds with
  | nil => simp
  | cons x xs ih => cases ds with
    | nil => simp
    | cons d ds => simp [ih]
end
/-! ### how often a text is in a list -/
def eqks (k : Str) (v : Value) : Bool := match v with
  | .str n _ => n == k
  | _ => false
def rCntS (K : PySem.W.Frag) : V → List V → Hp → VK → Prop := fun x xs H Q => ∃ (p : Addr) (ns : List Str) (k : Str), x = .ref p ∧ xs = [.str k] ∧ SqL K H p (ns.map V.str) ∧ Q (.int (ns.count k : Nat)) H
section
variable {X : Cx} {kx : XD} {ρ : Ro} {M : Mem} {pos apos cpos : Pos} {e o : Expr} {y : D}
end
/-- None or something that is not None -/
def noN (o : Option D) : Prop := ∀ d, o = some d → d.isNon = false
section
variable {X : Cx} {kx : XD} {ρ : Ro} {M : Mem} {pos p2 : Pos} {a : Expr} {o : Option D} {j : Nat}
end
end Dl

/-! zip of three lists; lists of things that change, laid open while they are walked -/
namespace Dl
open PySem PySem.Spec PyProof.Rows L2
/-! ### zip of three lists -/
def Itz3 (K : PySem.W.Frag) (a b c : Addr) : It :=
  ⟨fun i H => ∃ (xs ys zs : List V) (x y u : V), SqL K H a xs ∧ SqL K H b ys ∧ SqL K H c zs ∧ xs[i]? = some x ∧ ys[i]? = some y ∧ zs[i]? = some u,
    fun i H v H' => ∃ T x y u, v = .ref T ∧ H T = none ∧ H' = upd H T (.tup [x, y, u]) ∧ (∀ xs, SqL K H a xs → xs[i]? = some x) ∧ (∀ ys, SqL K H b ys → ys[i]? = some y) ∧ ∀ zs, SqL K H c zs → zs[i]? = some u,
    fun i H => ∃ xs ys zs : List V, SqL K H a xs ∧ SqL K H b ys ∧ SqL K H c zs ∧ i ≤ xs.length ∧ i ≤ ys.length ∧ i ≤ zs.length ∧ (i = xs.length ∨ i = ys.length ∨ i = zs.length)⟩
def iZip3 (K : PySem.W.Frag) (ta : TA) : TI := fun σ H R => ta σ H fun vs H1 => ∃ a b c xs ys zs, vs = [.ref a, .ref b, .ref c] ∧ SqL K H1 a xs ∧ SqL K H1 b ys ∧ SqL K H1 c zs ∧ R (Itz3 K a b c) H1
def YTrip (xs ys zs : Nat → Option V) : Nat → Hp → V → Hp → Prop := fun i H v H' => ∃ T x y u, v = .ref T ∧ H T = none ∧ H' = upd H T (.tup [x, y, u]) ∧ xs i = some x ∧ ys i = some y ∧ zs i = some u
section
variable {X : Cx} {kx : XD} {ρ : Ro} {M : Mem} {a b c : Expr} {p pos : Pos} {α β γ : Type} {x y z : D}
end
section
variable {X : Cx} {kx : XD} {ρ : Ro} {M : Mem} {a b : Expr} {pos : Pos} {k : Bool} {kk : D → Mem → Prop}
end
/-! ### a list of things that change, laid open: the list stands for good, the things do not -/
section
variable {β : Type} {E : β → Ow → Prop} {f : Int → D} {n : Nat}
def isOpn (f : Int → D) (n : Nat) (E : β → Ow → Prop) (rs : List β) (o : Ow) : Prop := ∃ os, o = .tup os ∧ All2 E rs os ∧ Ow.rootA os = (rngD 0 n).map f
/-- a list that stands for good, of things that change -/
def isSeq (E : β → Ow → Prop) (rs : List β) (o : Ow) : Prop := ∃ os, o = .seq os ∧ All2 E rs os
end
end Dl

/-! a method that only hands something back, called while an exception is handled -/
namespace Dl
open PySem PySem.Spec PyProof.Rows L2
structure RoomQ (k : Nat) (A : Around) : Prop where
  dp : A.depth + 3 * k + 5 < recursionLimit
  un : A.units + 16 * k + 200 < cLine
theorem RoomQ.deeper {k : Nat} {A : Around} (r : RoomQ (k + 1) A) (env : Env) : RoomQ k (A.deeper env) :=
  ⟨by have := r.dp; show A.depth + 1 + 3 * k + 5 < _; omega, by have := r.un; show A.units + 3 + 16 * k + 200 < _; omega⟩
structure FnQ (P : Program) (w : World) (K : Frag) (mg : Str → Option Value) (base : Heap) (CX : CXT) (k : Nat) (f : Addr) (fd : FuncData) (ps : List Str) (sp : Sp) : Prop where
  len : ∀ vs H Q E, sp vs H Q E → vs.length = ps.length
  run : ∀ (A : Around) (outer : List Env) (s : Shared) (H : Hp) (args : Args) (us : List Value) (vs : List V) (Q : VK) (E : XK), RoomQ k A → Env0 P w K mg base A outer s H → BindsTo s fd args (ps.zip us) → Vals vs us → sp vs H Q E →
    codeAny (model P w) A (.call (.ref f) args) (CR CX outer P w H s Q E) s
def cxQ (CX : CXT) (P : Program) (w : World) (K : Frag) (mg : Str → Option Value) (base : Heap) (N : List Str) (qual : Str) (scope : Scope) (f : Addr) (cd : Value) (A : Around) (outer : List Env) (s : Shared) (H : Hp) (E : XK) : Cx :=
  { cxOf CX P w K mg base N qual scope f cd A outer s H E with calm := false }
section
variable {CX : CXT} {P : Program} {w : World} {K : Frag} {mg : Str → Option Value} {base : Heap}
/-- a getter: what it promises -/
abbrev spQ (K : Frag) {α β : Type} (args : α → List D) (F : α → Ex β) (enc : β → D) : Sp := spP K args (fun a => ∃ r, F a = .ok r) (fun a d => ∃ r, F a = .ok r ∧ d = enc r) fun _ _ _ => False
def GMQ (P : Program) (w : World) (K : Frag) (mg : Str → Option Value) (base : Heap) (k : Nat) (C : Addr) (m : Str) (sp : Sp) : Prop :=
  ∃ (f : Addr) (fd : FuncData) (ps : List Str), Meth K C m f ∧ FnQ P w K mg base (L2.CX P w) k f fd ps sp ∧ Binds K fd ps []
end
section
variable {X : Cx} {kx : XD} {ρ : Ro} {M : Mem} {pos apos : Pos} {o : Expr} {y z : D} {α β : Type} {k : Nat} {m : Str} {C : Addr} {args : α → List D} {F : α → Ex β} {enc : β → D} {ns : List Str} {fs : List D} {pl : Sem Bool}
end
end Dl

/-! shifts to the right, masks -/
namespace Dl
open PySem PySem.Spec PyProof.Rows L2
section
variable {X : Cx} {kx : XD} {ρ : Ro} {M : Mem} {a b : Expr} {pos : Pos} {i j : Int}
end
end Dl

/-! what the top has written, read off the end of one run: the law's head by HandSHeadRun.head_any -/
namespace Dl
open PySem PySem.Spec PyProof.Rows L2 He
abbrev Chk : Type := Frag → Bool
/-! ### the part of the heap that is looked at -/
def gVal (g : Addr → Option PySem.Obj) (ns : Addr) (x : Str) : Option Addr := match g ns with
  | some ⟨_, _, .dict es _, _⟩ => (match es.toList.find? (·.key.isStr x) with
    | some e => (match e.val with
      | .ref a => some a
      | _ => none)
    | none => none)
  | _ => none
def gFn (g : Addr → Option PySem.Obj) : Option Addr → List Addr
  | none => []
  | some f => (match g f with
    | some ⟨_, _, .func fd, _⟩ => f :: (refV fd.code ++ refV fd.defaults)
    | _ => [f])
def gCls (g : Addr → Option PySem.Obj) (x : Str) : List Addr := match gVal g mainGlobals x with
  | some C => (match g C with
    | some ⟨_, _, .cls cd, _⟩ => [C, cd.ns]
    | _ => [C])
  | none => []
def gDef (g : Addr → Option PySem.Obj) (p : Str × Option Str) : List Addr := match p.2 with
  | none => gFn g (gVal g mainGlobals p.1)
  | some m => (match gVal g mainGlobals p.1 with
    | some C => (match g C with
      | some ⟨_, _, .cls cd, _⟩ => gFn g (gVal g cd.ns m)
      | _ => [])
    | none => [])
def gAll (g : Addr → Option PySem.Obj) (cl : List Str) (fn : List DefD) : List Addr := mainGlobals :: cStatics :: (cl.flatMap (gCls g) ++ fn.flatMap fun d => gDef g d.at_)
/-! ### the Hook -/
def obsH (cs : List Chk) (fn : List DefD) (K : Frag) : AlD := ((cs.all fun f => f K) && fn.all fun d => d.ok K, fn.map fun d => fnW K d.at_)
def SaysH (cs : List Chk) (fn : List DefD) (K : Frag) : Prop := obsH cs fn K = valD fn
def obsHG (cl : List Str) (cs : List Chk) (fn : List DefD) (g : Addr → Option PySem.Obj) : AlD := obsH cs fn (frG g (gAll g cl fn))
def hookH (cl : List Str) (cs : List Chk) (fn : List DefD) : PySem.W.Hook where
  α := AlD
  obs := fun s => obsHG cl cs fn s.heap.get?
  val := fun _ => valD fn
  says := fun _ h => ∃ K : Frag, K.In h ∧ SaysH cs fn K
  of := fun _ _ e => ⟨_, frG_in, e⟩
  keeps := fun _ _ _ ⟨K, hK, c⟩ k => ⟨K, PySem.W.Frag.In.keeps hK k, c⟩
section
variable {cs : List Chk} {fn : List DefD} {K : Frag}
theorem SaysH.fact (c : SaysH cs fn K) (i : Nat) {f : Chk} (h : cs[i]? = some f := by rfl) : f K = true := by
  have c1 := (ba (show ((cs.all fun f => f K) && fn.all fun d => d.ok K) = true from congrArg (fun z : AlD => z.1) c)).1
  exact List.all_eq_true.mp c1 f (List.mem_of_getElem? h)
theorem SaysH.def_ (c : SaysH cs fn K) (i : Nat) {d : DefD} (h : fn[i]? = some d := by rfl) : ∃ fd, FunD K d.name d.qual d.params d.body d.scope (d.dvs K) (d.kws K) (fAd K d.at_) fd := by
  have c2 := (ba (show ((cs.all fun f => f K) && fn.all fun d => d.ok K) = true from congrArg (fun z : AlD => z.1) c)).2
  have e : fn.map (fun d => fnW K d.at_) = fn.map DefD.val := congrArg (fun z : AlD => z.2) c
  have e2 : (fn.map fun d => fnW K d.at_)[i]? = (fn.map DefD.val)[i]? := by rw [e]
  rw [List.getElem?_map, List.getElem?_map, h] at e2
  exact DefD.funD (Option.some.inj e2) (List.all_eq_true.mp c2 d (List.mem_of_getElem? h))
end
/-! ### checks -/
def excCB (K : Frag) (C : Addr) : Bool := eqO (PySem.W.findIn K (.ref C) "__getattribute__") (some (some (.builtin "BaseException.__getattribute__"))) && (eqO (PySem.W.findIn K (.ref C) "__getattr__") (some none) && (decide (PySem.W.subIn K (.ref C) (.type "BaseException") = some true) && (PySem.W.hasDictIn K C &&
  (eqO (PySem.W.findIn K (.ref C) "__class__") (some (some (.builtin "object.__class__"))) && (eqO (PySem.W.specialIn K (.builtin "object.__class__") "__get__") (some (some (.builtin "getset_descriptor.__get__"))) && (decide (PySem.W.takesIn K (.builtin "object.__class__") = some true) && decide (PySem.W.mroIn K C (.type "object") = some true)))))))
theorem excCB_ok {K : Frag} {C : Addr} (h : excCB K C = true) : ExcC K C := by
  obtain ⟨h1, h⟩ := ba h
  obtain ⟨h2, h⟩ := ba h
  obtain ⟨h3, h⟩ := ba h
  obtain ⟨h4, h⟩ := ba h
  obtain ⟨h5, h⟩ := ba h
  obtain ⟨h6, h⟩ := ba h
  obtain ⟨h7, h8⟩ := ba h
  exact ⟨eqO_ok h1, eqO_ok h2, of_decide_eq_true h3, h4, eqO_ok h5, eqO_ok h6, of_decide_eq_true h7, of_decide_eq_true h8⟩
def gloB (x : Str) : Chk := fun K => (Fa.glo x).ok K
def freB (x : Str) : Chk := fun K => (Fa.free x).ok K
def extB (x : Str) : Chk := fun K => gloB x K && (excCB K (ga K x) && (PySem.W.excIn K (ga K x) veBase "ValueError.__new__" && (PySem.W.keepIn K (.ref (ga K x)) && decide (PySem.W.typeIn K (.ref (ga K x)) = some (.type "type")))))
def exfB (x : Str) : Chk := fun K => gloB x K && excCB K (ga K x)
def clsB (x : Str) (fs : List Str) : Chk := fun K => gloB x K && ((Fa.cls x).ok K && (PySem.W.makesIn K (ga K x) && (PySem.W.keepIn K (.ref (ga K x)) && fs.all fun f => (Fa.noat x f).ok K)))
def oexC (K : Frag) (C : Addr) : Bool := match K.lookup C with
  | some ⟨.type "type", _, .cls cd, sl⟩ => (match cd.mro, sl.toList with
    | .ref C' :: bm, [_, _, _, _, some (.builtin n), _] => C' == C && (n == "ValueError.__new__" && (!cd.hasDel && (cd.hasDict && PySem.HandSPX.refsVE bm)))
    | _, _ => false)
  | _ => false
def oexB (x : Str) : Chk := fun K => oexC K (ga K x) && (eqO (PySem.W.findIn K (.ref (ga K x)) "__setattr__") (some (some (.builtin "object.__setattr__"))) && (decide (PySem.W.subIn K (.ref (ga K x)) (.type "BaseException") = some true) && (decide (PySem.W.typeIn K (.ref (ga K x)) = some (.type "type")) && PySem.W.keepIn K (.ref (ga K x)))))
/-- x.f is not written in the class -/
def natB (x f : Str) : Chk := fun K => eqO (PySem.W.findIn K (.ref (ga K x)) f) (some none)
/-- x.m is the def at p -/
def metB (x m : Str) (p : Str × Option Str) : Chk := fun K => eqO (PySem.W.findIn K (.ref (ga K x)) m) (some (some (.ref (fAd K p)))) && PySem.W.isFn K (.ref (fAd K p))
def iniB (x m : Str) (p : Str × Option Str) : Chk := fun K => eqO (PySem.W.findIn K (.ref (ga K x)) m) (some (some (.ref (fAd K p)))) && decide (PySem.W.typeIn K (.ref (fAd K p)) = some (.type "function"))
def bltB (x f : Str) (b : String) : Chk := fun K => eqO (PySem.W.findIn K (.ref (ga K x)) f) (some (some (.builtin b)))
def kitB (a b : Str) (r : Bool) : Chk := fun K => decide (PySem.W.kitOne K (.ref (ga K a)) (.ref (ga K b)) = some r)
def kitT (a : Str) (t : String) (r : Bool) : Chk := fun K => decide (PySem.W.kitOne K (.ref (ga K a)) (.type t) = some r)
def kitN (t : String) (b : Str) (r : Bool) : Chk := fun K => decide (PySem.W.kitOne K (.type t) (.ref (ga K b)) = some r)
def exmB (a b : Str) (r : Bool) : Chk := fun K => decide (PySem.W.exmOne K (.ref (ga K a)) (.ref (ga K b)) = some r)
def exmT (a : Str) (t : String) (r : Bool) : Chk := fun K => decide (PySem.W.exmOne K (.ref (ga K a)) (.type t) = some r)
theorem dec_ok {p : Prop} [Decidable p] (h : decide p = true) : p := of_decide_eq_true h
def xfcB (x f : Str) : Chk := fun K => xfB K (ga K x) && natB x f K
def insB (x : Str) : Chk := fun K => (Fa.cls x).ok K && (eqO (PySem.W.findIn K (.ref (ga K x)) "__class__") (some (some (.builtin "object.__class__"))) && (eqO (PySem.W.specialIn K (.builtin "object.__class__") "__get__") (some (some (.builtin "getset_descriptor.__get__"))) && (decide (PySem.W.takesIn K (.builtin "object.__class__") = some true) && decide (PySem.W.mroIn K (ga K x) (.type "object") = some true))))
/-- BookError's own reads -/
def rbeB (x : Str) : Chk := fun K => PySem.W.readsIn K (ga K x) (.type "type") && (eqO (PySem.W.specialIn K (.ref (ga K x)) "__getattribute__") (some (some (.builtin "type.__getattribute__"))) && (match PySem.W.findCls K (.ref (ga K x)) (.type "type") "__init__" with
  | some (.val (.builtin n)) => decide (n = "ValueError.__init__")
  | _ => false))
section
variable {K : Frag} {h : Heap} {mg : Str → Option Value}
theorem gloB_ok (X : K.In h) (G : h.Ns mainGlobals mg) {x : Str} (c : gloB x K = true) : mg x = some (.ref (ga K x)) := glo_ok X G c
theorem freB_ok (X : K.In h) (G : h.Ns mainGlobals mg) {x : Str} (c : freB x K = true) : mg x = none := free_ok X G c
theorem extB_ok (X : K.In h) (G : h.Ns mainGlobals mg) {x : Str} (c : extB x K = true) : ExT K mg x (ga K x) := by
  obtain ⟨h1, c⟩ := ba c
  obtain ⟨h2, c⟩ := ba c
  obtain ⟨h3, c⟩ := ba c
  obtain ⟨h4, h5⟩ := ba c
  exact ⟨excCB_ok h2, gloB_ok X G h1, h3, h4, of_decide_eq_true h5⟩
theorem fun_of {x qual : Str} {st : Stmt} {f : Addr} {fd : FuncData} (F : FunD K x qual (defArgs st) (defBody st) (defScope st) [] [] f fd) : Fun K x qual st f fd := by
  obtain ⟨oc, od, dV, kV, doc, pm, an, cdv, ct, osl, e, lk, hcd, hD, hK⟩ := F.ex
  rcases hD with ⟨_, rfl⟩ | ⟨z, _⟩
  · exact ⟨⟨oc, od, kV, doc, pm, an, cdv, ct, osl, e, lk, hcd⟩, F.kp⟩
  · exact absurd rfl z
theorem funT_of {x : Str} {st : Stmt} {ps : List Str} (X : K.In h) (G : h.Ns mainGlobals mg) (F : ∃ fd, FunD K x x (defArgs st) (defBody st) (defScope st) [] [] (ga K x) fd) (c : gloB x K = true)
    (b : ∀ (kV doc pm : Value) (an : Option Addr) (cdv ct : Value) (us : List Value), us.length = ps.length → bindArgs (PySem.W.fnOf x x (defArgs st) (defBody st) (defScope st) .none kV doc pm an cdv ct) ⟨us, []⟩ = pure (ps.zip us)) : FunT K mg x st ps := by
  obtain ⟨fd, F⟩ := F
  exact ⟨_, fd, fun_of F, gloB_ok X G c, F.bindsN b⟩
def intB (x : Str) (i : Int) : Chk := fun K => (Fa.int x i).ok K
def strB (x z : Str) : Chk := fun K => (Fa.str x z).ok K
theorem intB_ok (X : K.In h) (G : h.Ns mainGlobals mg) {x : Str} {i : Int} (c : intB x i K = true) : ∃ t, mg x = some (.int i t) := int_ok X G c
theorem strB_ok (X : K.In h) (G : h.Ns mainGlobals mg) {x z : Str} (c : strB x z K = true) : ∃ t, mg x = some (.str z t) := str_ok X G c
end
/-! ### the end -/
end Dl

/-! what may be None and is owned; a bind that lets out exceptions without fields only; list.insert; how often a text is in a list of any things -/
namespace Dl
open PySem PySem.Spec PyProof.Rows L2
section
variable {α β : Type}
def bindX0 (m : Ex α) (k : α → Ex β) : Ex β := match m with
  | .ok a => k a
  | .exc n [] => .exc n []
  | .exc _ (_ :: _) => .bad
  | .bad => .bad
end
section
variable {X : Cx} {kx : XD} {ρ : Ro} {M : Mem} {pos : Pos} {a b : Expr}
end
section
variable {X : Cx} {kx : XD} {ρ : Ro} {M : Mem} {P : Out → Mem → Prop} {pos apos cpos spos : Pos} {e e2 o : Expr} {α : Type} {w : Addr}
end
/-! ### how often a text is in a list of any things -/
def isSV (k : Str) : V → Bool
  | .str s => s == k
  | _ => false
def isSD (k : Str) : D → Bool
  | .str s => s == k
  | _ => false
def simpV (K : Frag) (H : Hp) : V → Prop
  | .non => True
  | .bl _ => True
  | .int _ => True
  | .str _ => True
  | .ref l => ∃ ws, SqL K H l ws
  | _ => False
/-- None, truth, number, text, list -/
def simpD : D → Bool
  | .non => true
  | .bl _ => true
  | .int _ => true
  | .str _ => true
  | .lst _ => true
  | _ => false
def cntD (ds : List D) (k : Str) : Nat := ds.countP (isSD k)
def rCntD (K : PySem.W.Frag) : V → List V → Hp → VK → Prop := fun x xs H Q => ∃ (p : Addr) (vs : List V) (k : Str), x = .ref p ∧ xs = [.str k] ∧ SqL K H p vs ∧ (∀ v ∈ vs, simpV K H v) ∧ Q (.int (vs.countP (isSV k) : Nat)) H
section
variable {X : Cx} {kx : XD} {ρ : Ro} {M : Mem} {pos apos cpos : Pos} {e o : Expr} {y : D}
end
section
variable {X : Cx} {kx : XD} {ρ : Ro} {M : Mem} {pos apos p : Pos} {e o : Expr} {es : List Expr} {ds dvs fs : List D} {y : D} {C : Addr} {ns : List Str} {m : Str} {k : Nat} {α β : Type}
end
end Dl

/-! a list of lists that change, new -/
namespace Dl
open PySem PySem.Spec PyProof.Rows L2
section
variable {X : Cx} {kx kx' : XD} {ρ : Ro} {M R : Mem} {P : Out → Mem → Prop} {pos p apos : Pos} {e a b c tg elt : Expr} {d : D} {m : Mem} {α β : Type}
end
end Dl
namespace Dl
open PySem PySem.Spec PyProof.Rows L2
section
variable {X : Cx} {kx kx' : XD} {ρ : Ro} {M R : Mem} {pos p apos : Pos} {e : Expr} {x : D} {α β : Type}
end
end Dl
/-! ### a list of addresses that is walked while it may still be changed: it stands in Mem at each turn -/
namespace Dl
open PySem PySem.Spec PyProof.Rows L2
def WkM (K : Frag) (J : It) (H0 : Hp) (keep : Mem → Prop) (ds : List D) : Prop :=
  ∃ (G : Hp → Prop) (Y : Nat → Hp → V → Hp → Prop), Walk J ds.length G Y ∧ (∀ H H0' M, Same H0 H0' → Ht K H0' H M → keep M → G H) ∧
    ∀ i H1 x H2 H01 d, Same H0 H01 → Same H01 H1 → ds[i]? = some d → Y i H1 x H2 → ∃ H02, Pu H01 H1 H02 H2 ∧ Rep K H02 x d
def DIM (X : Cx) (kx : XD) (tg it : Expr) (ρ : Ro) (M : Mem) (keep : Mem → Prop) (ds : List D) : Prop :=
  ∀ (σ : L2.St) (H H0 : Hp), Ht X.K H0 H M → Sl X.K H0 σ ρ → ∀ (W : WX), Takes X W → Hx X W H0 H M kx → ∀ (R : It → Hp → Prop), (∀ J H' H0', Pu H0 H H0' H' → WkM X.K J H0' keep ds → R J H') → sI X tg it σ H R
/-- all of them addresses -/
def Adrs (ds : List D) : Prop := ∀ d ∈ ds, ∃ a, d = .adr a
def adrV : D → V
  | .adr a => .ref a
  | _ => .non
section
variable {X : Cx} {kx kx' : XD} {ρ ρ' ρ'' : Ro} {M M' : Mem} {P : Out → Mem → Prop} {pos p np pos' tpos spos : Pos} {tg a b c e : Expr} {es : List Expr} {ι α β γ : Type} {w : Addr} {keep : Mem → Prop} {x : D}
end
end Dl

/-! tests that change something, both ways going on; comprehensions that change the things of a list one by one -/
namespace Dl
open PySem PySem.Spec PyProof.Rows L2
section
variable {X : Cx} {kx kx' : XD} {ρ ρ' ρ'' : Ro} {M M' M2 : Mem} {P : Out → Mem → Prop} {pos p np pos' tpos spos apos : Pos} {tg a b c e o ix elt : Expr} {es : List Expr} {N : List Str} {sc csc : Scope} {k i n : Nat} {ds : List D} {own : List (Str × Nat)} {w : Addr} {x y : D} {ι α β γ : Type} {E : β → Ow → Prop} {A B : Mem → Prop}
theorem DTT.imp {A' B' : Mem → Prop} (h : DTT X kx e ρ M A B) (ha : ∀ m, A m → A' m) (hb : ∀ m, B m → B' m) : DTT X kx e ρ M A' B' := fun σ H H0 t s W tk hx Q q =>
  h σ H H0 t s W tk hx Q fun H' H0' b m g t' hh => q H' H0' b m g t' ⟨fun z => ha m (hh.1 z), fun z => hb m (hh.2 z)⟩
/-- a list none of whose things is None -/
def allSome : List (Option α) → Option (List α)
  | [] => some []
  | none :: _ => none
  | some x :: xs => match allSome xs with
    | some ys => some (x :: ys)
    | none => none
end
end Dl

namespace Dl
open PySem PySem.Spec PyProof.Rows L2 NdefX LamX
/-! ### made functions handed on -/
theorem wp_app {M : Model} {Γ : PySem.Ctx} {env : Env} {rest : List Stmt} {Q : Flow → Pos → Shared → Prop} {E : Value → Pos → Shared → Prop} : ∀ (pre : List Stmt) (p : Pos) (s : Shared),
    Sem.wp M Γ (execs pre env) (fun f p' s' => match f with | .next => Sem.wp M Γ (execs rest env) Q E p' s' | f => Q f p' s') E p s → Sem.wp M Γ (execs (pre ++ rest) env) Q E p s
  | [], p, s, h => by
    have h' : Sem.wp M Γ (Pure.pure Flow.next) _ E p s := h
    rw [Sem.wp_pure'] at h'
    exact h'
  | a :: pre, p, s, h => by
    rw [List.cons_append, execs_cons, Sem.wp_bind']
    rw [execs_cons, Sem.wp_bind'] at h
    refine Sem.wp_mono M Γ _ (fun f p' s' h' => ?_) (fun _ _ _ h' => h') p s h
    cases f with
    | next => exact wp_app pre p' s' h'
    | ret v => rw [Sem.wp_pure'] at h' ⊢; exact h'
    | brk => rw [Sem.wp_pure'] at h' ⊢; exact h'
    | cont => rw [Sem.wp_pure'] at h' ⊢; exact h'
theorem execs_app {M : Model} {A : Around} {env : Env} {pre rest : List Stmt} {Q : Flow → Shared → Prop} {E : Value → Shared → Prop} {s : Shared}
    (h : wpAny M A (execs pre env) (fun f s' => match f with | .next => wpAny M A (execs rest env) Q E s' | f => Q f s') E s) : wpAny M A (execs (pre ++ rest) env) Q E s := fun Γ p hΓ => by
  refine wp_app pre p s (Sem.wp_mono M Γ _ (fun f p' s' h' => ?_) (fun _ _ _ h' => h') p s (h Γ p hΓ))
  cases f with
  | next => exact h' Γ p' hΓ
  | ret v => exact h'
  | brk => exact h'
  | cont => exact h'
/-- the cells known from now on -/
def updC (H : Hp) : List (Str × Addr) → List V → Hp
  | q :: cl, v :: vs => upd (updC H cl vs) q.2 (CellO q.2 v)
  | _, _ => H
theorem updC_ne {H : Hp} {b : Addr} : ∀ {cl : List (Str × Addr)} {vs : List V}, b ∉ cl.map Prod.snd → updC H cl vs b = H b
  | [], vs, _ => by cases vs <;> rfl
  | q :: cl, [], _ => rfl
  | q :: cl, v :: vs, h => by
    show upd (updC H cl vs) q.2 _ b = _
    rw [upd_ne (fun z => h (by rw [z]; simp)), updC_ne (fun z => h (List.mem_cons_of_mem _ z))]
theorem updC_at {H : Hp} : ∀ {cl : List (Str × Addr)} {vs : List V} {i : Nat} {q : Str × Addr} {v : V}, (cl.map Prod.snd).Nodup → cl[i]? = some q → vs[i]? = some v → updC H cl vs q.2 = some (CellO q.2 v)
  | [], _, _, _, _, _, h, _ => by simp at h
  | _ :: _, [], _, _, _, _, _, h => by simp at h
  | p :: cl, u :: vs, 0, q, v, nd, h1, h2 => by
    simp at h1 h2; subst h1; subst h2
    exact upd_same
  | p :: cl, u :: vs, i + 1, q, v, nd, h1, h2 => by
    obtain ⟨n1, n2⟩ := List.nodup_cons.mp (show (p.2 :: cl.map Prod.snd).Nodup from nd)
    have h1' : cl[i]? = some q := by simpa using h1
    have h2' : vs[i]? = some v := by simpa using h2
    show upd (updC H cl vs) p.2 _ q.2 = _
    rw [upd_ne (fun z => n1 (by rw [← z]; exact List.mem_map.mpr ⟨q, List.mem_of_getElem? h1', rfl⟩))]
    exact updC_at n2 h1' h2'
theorem updC_cases {H : Hp} {b : Addr} {o : HO} {cl : List (Str × Addr)} {vs : List V} (nd : (cl.map Prod.snd).Nodup) (hl : vs.length = cl.length) (h : updC H cl vs b = some o) : (b ∉ cl.map Prod.snd ∧ H b = some o) ∨ ∃ (i : Nat) (q : Str × Addr) (v : V), cl[i]? = some q ∧ vs[i]? = some v ∧ q.2 = b ∧ o = CellO b v := by
  by_cases hb : b ∈ cl.map Prod.snd
  · obtain ⟨q, hq, rfl⟩ := List.mem_map.mp hb
    obtain ⟨i, hi⟩ := List.getElem?_of_mem hq
    have li : i < vs.length := by rw [hl]; exact (List.getElem?_eq_some_iff.mp hi).1
    have e := updC_at (H := H) nd hi (List.getElem?_eq_getElem li)
    rw [h] at e
    exact .inr ⟨i, q, vs[i], hi, List.getElem?_eq_getElem li, rfl, Option.some.inj e⟩
  · exact .inl ⟨hb, by rw [updC_ne hb] at h; exact h⟩
/-- what the cells hold, in the heap -/
def HasC (h : Heap) (cl : List (Str × Addr)) (vs : List V) : Prop := ∀ (i : Nat) (q : Str × Addr) (v : V), cl[i]? = some q → vs[i]? = some v → ∃ u, RelV v u ∧ h.IsCell q.2 (some u)
theorem hok_updC {P : Program} {w : World} {H : Hp} {h : Heap} {cl : List (Str × Addr)} {vs : List V} (ok : HOk P w H h) (nd : (cl.map Prod.snd).Nodup) (hl : vs.length = cl.length) (nf : ∀ c ∈ cl.map Prod.snd, H c = none) (hc : HasC h cl vs) : HOk P w (updC H cl vs) h := fun a o e => by
  have same : ∀ b u, H b = some u → updC H cl vs b = some u := fun b u e => by rw [updC_ne (fun z => by rw [nf b z] at e; cases e)]; exact e
  rcases updC_cases nd hl e with ⟨h1, h2⟩ | ⟨i, q, v, h1, h2, rfl, rfl⟩
  · exact (ok a o h2).stay (fun _ _ _ r => r) (fun b r => same _ _ r) fun b xs r => same _ _ r
  · obtain ⟨u, ru, hu⟩ := hc i q v h1 h2
    refine ⟨⟨u, ru, hu⟩, ?_, fun h1 h2 ⟨u, r, o, ho, hd⟩ k => ⟨u, r, o, k o ho, hd⟩⟩
    obtain ⟨o, ho, _⟩ := hu
    exact ⟨o, ho⟩
/-- what is wanted of the place ahead of «def f(..): ..; return f» -/
def CloEnd (fr : List Str) (js : List Nat) (G : NF) (σ : L2.St) (H : Hp) (Q : VK) : Prop := TabsN tabT H ∧ ∃ vs : List V, vs.length = js.length ∧ (∀ (n j : Nat) (v : V), js[n]? = some j → vs[n]? = some v → σ[j]? = some (some v)) ∧
  ∀ (f c' : Addr) (cl : List (Str × Addr)) (H1 : Hp), f ≠ c' → Sm H H1 → (∀ b, H1 b = none → H b = none) → TabsN tabT H1 → H f = none → H1 f = some (FnO f (cloF G cl c')) → H1 c' = some (CodeO c' G.qual) → cl.map Prod.fst = fr → (cl.map Prod.snd).Nodup → (∀ c ∈ cl.map Prod.snd, H1 c = none) → Q (.ref f) (updC H1 cl vs)
/-- the end of such a def -/
theorem clo_end {X : Cx} {s : Shared} {σ : L2.St} {H : Hp} {Q : VK} {fr : List Str} {js : List Nat} {ndf : Stmt} {name : Str} {npos rp rpos : Pos} {c P0 : Addr} {nm : Nat → Nat → Str} {i : Nat} (I : Inv X [] σ H s) (h : CloEnd fr js (NF.of ndf name (X.env.qual ++ name) [] 0) σ H Q)
    (hnd : ndf = .FunctionDef name (C8.fnArgs ndf) (C8.fnBody ndf) [] none [] (C8.fnScope ndf) none name npos) (TBl : TabB X.base X.mg c P0) (hcode : X.env.code = .ref c) (hm : (P0, nm) ∈ tabT) (hn : nm npos.line npos.col = X.env.qual ++ name) (hu : ∀ p ∈ tabT, p.1 = P0 → p.2 = nm)
    (hfree : ∀ y ∈ (C8.fnScope ndf).names, y.2 = .free → X.env.scope.names.lookup y.1 = some .cell ∨ X.env.scope.names.lookup y.1 = some .free) (hd0 : (C8.fnArgs ndf).defaults = []) (hk0 : (C8.fnArgs ndf).kw_defaults = []) (ha : annTrees (C8.fnArgs ndf) none X.env = [])
    (hN : X.N.Nodup) (hi : X.N[i]? = some name) (hloc : X.env.scope.names.lookup name = some .local) (hjs : js.map (fun j => X.N[j]?) = fr.map some) (hfr : ∀ y ∈ fr, X.env.scope.names.lookup y = some .cell) (ndr : fr.Nodup)
    (hcl : cloFrom X.env.cells (C8.fnScope ndf).names [] = fr.map fun y => (y, (X.env.cells.lookup y).getD 0)) (hfn : ∀ x, X.fn x = true) (hd1 : (name == ("__debug__" : Str)) = false) (hd2 : (name == ("__classdict__" : Str)) = false) :
    wpAny (model X.prog X.w) X.A (execs [ndf, .Return (some (.Name name rp)) rpos] X.env) (fun fl s' => ∃ u v H', fl = .ret u ∧ s'.os = X.s_0.os ∧ AllBare s'.gens ∧ Un X.fs X.ex X.H_0 H' X.s_0.heap s'.heap ∧ HOk X.prog X.w H' s'.heap ∧ RelV v u ∧ Q v H') X.xe s := by
  obtain ⟨hT, vs, lvs, hvs, hq⟩ := h
  have ij : i ∉ js := fun z => by
    have e : (X.N[i]?) ∈ js.map (fun j => X.N[j]?) := List.mem_map.mpr ⟨i, z, rfl⟩
    rw [hjs, hi] at e
    obtain ⟨y, hy, e2⟩ := List.mem_map.mp e
    have := hfr y hy
    rw [Option.some.inj e2, hloc] at this
    cases this
  -- the cells
  have cell : ∀ y ∈ fr, ∃ c, X.env.cells.lookup y = some c := fun y hy => I.ok.has y (.inl (hfr y hy))
  have clm : (fr.map fun y => (y, (X.env.cells.lookup y).getD 0)).map Prod.fst = fr := by rw [List.map_map]; exact List.map_id fr
  have clnd : ((fr.map fun y => (y, (X.env.cells.lookup y).getD 0)).map Prod.snd).Nodup := by
    rw [List.map_map]
    unfold List.Nodup
    rw [List.pairwise_map]
    refine ndr.imp_of_mem fun {a b} ha hb ne e => ne ?_
    obtain ⟨c1, h1⟩ := cell a ha
    obtain ⟨c2, h2⟩ := cell b hb
    have e' : (X.env.cells.lookup a).getD 0 = (X.env.cells.lookup b).getD 0 := e
    rw [h1, h2] at e'
    have e2 : c1 = c2 := e'
    subst e2
    exact I.ok.inj a b c1 h1 h2
  refine wpAny_execs_cons (thn ((ps_ndefMS (X := X) (i := i) hnd TBl hcode hm hn hu hfree hd0 hk0 ha hN hi (.inl hloc) (.inr hloc)).run [] s σ H
    { nx := fun σ1 H1 => ∃ f c', σ1 = σ.set i (some (.ref f)) ∧ H f = none ∧ Sm H H1 ∧ (∀ b, H1 b = none → H b = none) ∧ TabsN tabT H1 ∧ H1 f = some (FnO f (cloF (NF.of ndf name (X.env.qual ++ name) [] 0) (fr.map fun y => (y, (X.env.cells.lookup y).getD 0)) c')) ∧ H1 c' = some (CodeO c' (X.env.qual ++ name)), rt := fun _ _ => False } I ?_) fun fl s1 q => ?_)
  · refine ⟨hT, fun f c' H1 e nn T1 f0 f1 c1 => ⟨f, c', rfl, f0, e, nn, T1, ?_, c1⟩⟩
    rw [← hcl]; exact f1
  cases fl with
  | ret u => obtain ⟨_, _, _, _, _, z⟩ := q; exact False.elim z
  | brk => obtain ⟨_, _, _, z⟩ := q; exact False.elim z
  | cont => obtain ⟨_, _, _, z⟩ := q; exact False.elim z
  | next =>
    obtain ⟨σ1, H1, I1, f, c', rfl, f0, e, nn, T1, f1, c1⟩ := q
    have li : i < σ.length := by rw [I.len]; exact (List.getElem?_eq_some_iff.mp hi).1
    refine wpAny_execs_cons (wpAny_Return_some (thn ((pe_var (pos := rp) hi (.inl hloc) hd1 hd2).run [] s1 _ H1 (fun v H2 => v = .ref f ∧ H2 = H1) I1 ⟨.ref f, by rw [List.getElem?_set_self li], rfl, rfl⟩) fun u s2 ⟨v, H2, I2, r2, ev, eH⟩ => ?_))
    subst ev
    subst eH
    have nf : ∀ c ∈ ((fr.map fun y => (y, (X.env.cells.lookup y).getD 0)).map Prod.snd), H2 c = none := fun c hc => by
      rw [List.map_map] at hc
      obtain ⟨y, hy, rfl⟩ := List.mem_map.mp hc
      obtain ⟨c1, h1⟩ := cell y hy
      show H2 ((X.env.cells.lookup y).getD 0) = none
      rw [h1]
      exact I2.freeC y c1 h1
    have lv2 : vs.length = (fr.map fun y => (y, (X.env.cells.lookup y).getD 0)).length := by
      rw [lvs, List.length_map]
      have := congrArg List.length hjs
      simpa using this
    have hc : HasC s2.heap (fr.map fun y => (y, (X.env.cells.lookup y).getD 0)) vs := fun n q v h1 h2 => by
      rw [List.getElem?_map] at h1
      cases ey : fr[n]? with
      | none => rw [ey] at h1; cases h1
      | some y =>
        rw [ey] at h1
        cases h1
        have hy := List.mem_of_getElem? ey
        obtain ⟨c1, e1⟩ := cell y hy
        have ejs : (js.map fun j => X.N[j]?)[n]? = some (some y) := by rw [hjs, List.getElem?_map, ey]; rfl
        rw [List.getElem?_map] at ejs
        cases ej : js[n]? with
        | none => rw [ej] at ejs; cases ejs
        | some j =>
          rw [ej] at ejs
          have eN : X.N[j]? = some y := Option.some.inj ejs
          have sj := hvs n j v ej h2
          have sj2 : (σ.set i (some (V.ref f)))[j]? = some (some v) := by
            rw [List.getElem?_set_ne (fun z => ij (by rw [z]; exact List.mem_of_getElem? ej))]; exact sj
          obtain ⟨m, _, hl⟩ := I2.loc
          obtain ⟨u2, ru, lk⟩ := hl j y v eN sj2 (.inr (.inl (hfr y hy)))
          rcases lk with ⟨z, _⟩ | ⟨_, c2, e2, hcell⟩
          · have z' : X.env.scope.names.lookup y = some .local := z
            rw [hfr y hy] at z'; cases z'
          · refine ⟨u2, ru, ?_⟩
            show s2.heap.IsCell ((X.env.cells.lookup y).getD 0) _
            rw [e2]; exact hcell
    refine ⟨u, .ref f, updC H2 _ vs, rfl, I2.os, I2.bare, ?_, hok_updC I2.hok clnd lv2 nf hc, r2, hq f c' _ H2 (fun z => ?_) e nn T1 f0 f1 c1 clm clnd nf⟩
    case refine_2 =>
      subst z
      obtain ⟨od, sl, doc, pm, ctv, e1⟩ := fnO_at I2.hok f1
      obtain ⟨c, oc, vs, t, e2, e3, e4, _⟩ := codeO_at I2.hok c1
      cases e2
      rw [e1] at e3; cases e3; cases e4
    have ub := I2.base
    have new : ∀ c ∈ ((fr.map fun y => (y, (X.env.cells.lookup y).getD 0)).map Prod.snd), X.s_0.heap.get? c = none := fun c hc => by
      rw [List.map_map] at hc
      obtain ⟨y, hy, rfl⟩ := List.mem_map.mp hc
      obtain ⟨c1, h1⟩ := cell y hy
      show X.s_0.heap.get? ((X.env.cells.lookup y).getD 0) = none
      rw [h1]
      exact Heap.get?_none_of_le (I2.ok.cab y c1 (hfn y) h1)
    have same : ∀ b u, H2 b = some u → updC H2 (fr.map fun y => (y, (X.env.cells.lookup y).getD 0)) vs b = some u := fun b u e => by rw [updC_ne (fun z => by rw [nf b z] at e; cases e)]; exact e
    refine ⟨ub.keep, ub.slot, fun b o e n hx => ?_, ub.there, fun b xs e => same _ _ (ub.tups b xs e), fun b o xs e => same _ _ (ub.frzs b o xs e), fun b ps e => ?_⟩
    · rw [updC_ne (fun z => by rw [new b z] at e; cases e)]
      exact ub.free b o e n hx
    · obtain ⟨more, z⟩ := ub.tbls b ps e
      exact ⟨more, same _ _ z⟩

/-- the code object of the def at f has its table at P -/
def codeTab (K : Frag) (f P : Addr) : Bool := match K.lookup f with
  | some ⟨_, _, .func fd, _⟩ => (match fd.code with
    | .ref c => PySem.W.codeHdIn K c P
    | _ => false)
  | _ => false
theorem cd_ref {K : Frag} {P : Addr} {cdv : Value} (h : (match cdv with | .ref c => PySem.W.codeHdIn K c P | _ => false) = true) : ∃ c, cdv = .ref c ∧ PySem.W.codeHdIn K c P = true := by
  cases cdv with
  | ref c => exact ⟨c, rfl, h⟩
  | _ => cases h
/-- where the tables lie -/
def TabsB (K : Frag) (base : Heap) (mg : Str → Option Value) : Prop := ∀ (c P : Addr), P ∈ tabT.map Prod.fst → PySem.W.codeHdIn K c P = true → TabB base mg c P
/-- its looks, by decide -/
structure CloLook (st ndf : Stmt) (prel : List Stmt) (name : Str) (npos rp rpos : Pos) (N fr : List Str) (js : List Nat) (i : Nat) : Prop where
  hbd : defBody st = prel ++ [ndf, .Return (some (.Name name rp)) rpos]
  hnd : ndf = .FunctionDef name (C8.fnArgs ndf) (C8.fnBody ndf) [] none [] (C8.fnScope ndf) none name npos
  hfree : ∀ y ∈ (C8.fnScope ndf).names, y.2 = .free → (defScope st).names.lookup y.1 = some .cell ∨ (defScope st).names.lookup y.1 = some .free
  hd0 : (C8.fnArgs ndf).defaults = []
  hk0 : (C8.fnArgs ndf).kw_defaults = []
  ha : ∀ env, annTrees (C8.fnArgs ndf) none env = []
  hi : N[i]? = some name
  hloc : (defScope st).names.lookup name = some .local
  hjs : js.map (fun j => N[j]?) = fr.map some
  hfr : ∀ y ∈ fr, (defScope st).names.lookup y = some .cell
  ndr : fr.Nodup
  hcl : ∀ cells : List (Str × Addr), cloFrom cells (C8.fnScope ndf).names [] = fr.map fun y => (y, (cells.lookup y).getD 0)
  hd1 : (name == ("__debug__" : Str)) = false
  hd2 : (name == ("__classdict__" : Str)) = false
section
variable {P : Program} {w : World} {K : Frag} {mg : Str → Option Value} {base : Heap} {α : Type}
/-- what the def's captured names hold at its end -/
def endP (js : List Nat) (post : List D → Prop) : Out → Mem → Prop
  | .nx ρ, _ => ∃ ds : List D, ds.length = js.length ∧ (∀ (n j : Nat) (d : D), js[n]? = some j → ds[n]? = some d → ρ[j]? = some (some d)) ∧ post ds
  | _, _ => False
theorem slots_vals {K : Frag} {H0 : Hp} {σ : L2.St} {ρ : Ro} (s : Sl K H0 σ ρ) : ∀ (js : List Nat) (ds : List D), ds.length = js.length → (∀ (n j : Nat) (d : D), js[n]? = some j → ds[n]? = some d → ρ[j]? = some (some d)) → ∃ vs : List V, vs.length = js.length ∧ RepA K H0 vs ds ∧ ∀ (n j : Nat) (v : V), js[n]? = some j → vs[n]? = some v → σ[j]? = some (some v)
  | [], [], _, _ => ⟨[], rfl, .nil, fun n j v h => by simp at h⟩
  | [], _ :: _, h, _ => by simp at h
  | _ :: _, [], h, _ => by simp at h
  | j :: js, d :: ds, hl, h => by
    obtain ⟨vs, l, r, hv⟩ := slots_vals s js ds (by simpa using hl) fun n j' d' h1 h2 => h (n + 1) j' d' (by simpa using h1) (by simpa using h2)
    obtain ⟨v, e, rv⟩ := s.2 j d (h 0 j d rfl rfl)
    refine ⟨v :: vs, by simp [l], .cons rv r, fun n j' v' h1 h2 => ?_⟩
    cases n with
    | zero => simp at h1 h2; subst h1; subst h2; exact e
    | succ n => exact hv n j' v' (by simpa using h1) (by simpa using h2)
theorem fn_clo {x qual : Str} {st ndf : Stmt} {f P0 : Addr} {fd : FuncData} {N ps fr : List Str} {k i : Nat} {js : List Nat} {prel : List Stmt} {name : Str} {npos rp rpos : Pos} {nm : Nat → Nat → Str} {args : α → List D} {pre : α → Prop} {post : α → List D → Prop} {ex : α → Value → List (Str × D) → Prop} (F : Fun K x qual st f fd) (S : FnScope N ps (defScope st)) (hl : ∀ a, (args a).length = ps.length)
    (L : CloLook st ndf prel name npos rp rpos N fr js i) (TBs : TabsB K base mg) (hcd : codeTab K f P0 = true) (hm : (P0, nm) ∈ tabT) (hu : ∀ p ∈ tabT, p.1 = P0 → p.2 = nm) (hn : nm npos.line npos.col = (envOfC qual (defScope st) 0 0 .none).qual ++ name)
    (body : ∀ X : Cx, X.prog = P → X.w = w → X.K = K → X.mg = mg → X.base = base → Bd X N (defScope st) k → Bf X → ∀ a, pre a → DS X (fun cls fs _ _ => ex a cls fs) prel (startD N (args a)) [] (endP js (post a))) :
    FnOk P w K mg base (L2.CX P w) (k + 1) f fd ps (spP K args pre (fun a d => ∃ ds, d = .clo (NF.of ndf name ((envOfC qual (defScope st) 0 0 .none).qual ++ name) [] 0) fr ds ∧ post a ds) ex) := by
  have len : ∀ vs H Q E, spP K args pre (fun a d => ∃ ds, d = .clo (NF.of ndf name ((envOfC qual (defScope st) 0 0 .none).qual ++ name) [] 0) fr ds ∧ post a ds) ex vs H Q E → vs.length = ps.length := fun vs H Q E h => by
    obtain ⟨x, H0, _, r, _⟩ := h
    rw [r.length, hl]
  obtain ⟨oc, od, kV, doc, pm, an, cdv, ct, osl, rfl, lk, hcdI⟩ := F.ex
  have hc : ∃ c, cdv = .ref c ∧ PySem.W.codeHdIn K c P0 = true := by
    unfold codeTab at hcd
    rw [lk] at hcd
    exact cd_ref hcd
  obtain ⟨c, rfl, hch⟩ := hc
  have TBl : TabB base mg c P0 := TBs c P0 (List.mem_map.mpr ⟨_, hm, rfl⟩) hch
  refine ⟨len, fun A outer s H args' us vs Q E hr e0 hb r hsp => ?_⟩
  have hlv := len _ _ _ _ hsp
  have KX : K.In s.heap := e0.mod.kin.keeps fun b o e => (e0.bs b o e).1
  have lim : s.heap.NoLimit := e0.mod.nolimit.keeps fun b o e => (e0.bs b o e).1
  have hkind : ∀ y ∈ ps.zip us, (defScope st).names.lookup y.1 = some .local ∨ ((defScope st).names.lookup y.1 = some .cell ∧ ((cellsFrom (s.heap.objs.size + 1) (defScope st).names []).lookup y.1).isSome = true) := fun ⟨n, v⟩ hy => by
    rcases S.par n (List.of_mem_zip hy).1 with q | q
    · exact .inl q
    · exact .inr ⟨q, PySem.W.cellsFrom_some _ _ _ (.inl q)⟩
  refine codeAny_call_function hr.depth (KX _ _ lk) rfl S.co S.gen rfl (PySem.W.codeRec_of KX hcdI) (hb _ _ _ _ ?_)
  refine wpAny_newFunctionEnv_cells S.kind hkind fun env he s1 xx => ?_
  subst he
  refine ⟨lim.keeps xx.toInCall.keep, codeAny_func ?_⟩
  obtain ⟨a, H0, hs, rr, hp, hq, hE⟩ := hsp
  have I : Inv (cxOf (L2.CX P w) P w K mg base N qual (defScope st) f (.ref c) A outer s H E) [] (start N vs) H s1 := inv_start S hr.hd e0 hlv r xx
  obtain ⟨B, Fz⟩ := bd_of (P := P) (w := w) (K := K) (mg := mg) (base := base) (outer := outer) (H := H) (E := E) (qual := qual) (f := f) (cd := .ref c) (s := s) (A := A) S (hr.deeper _)
  have pss := body _ rfl rfl rfl rfl rfl B Fz a hp (start N vs) H H0 (Ht.emp hs.1 hs.2) (start_rep rr) (fun cls d _ H => E cls d H) (takes_of rfl rfl rfl rfl) (fun cls dd σ' H' H0' fs ρ' M' g t s' xr e => hE cls dd H' H0' fs (g.pu t) xr e)
    { nx := fun σ' H' => CloEnd fr js (NF.of ndf name ((cxOf (L2.CX P w) P w K mg base N qual (defScope st) f (.ref c) A outer s H E).env.qual ++ name) [] 0) σ' H' Q, rt := fun _ _ => False }
    ⟨fun σ' H' H0' ρ' M' g t sl ⟨ds, l, hds, hpost⟩ => ?_, fun _ _ _ _ _ _ _ _ z => z.elim, fun _ _ _ _ _ _ _ _ z => z.elim, fun _ _ _ _ _ _ _ _ z => z.elim⟩
  · rw [L.hbd]
    refine execs_app (thn (pss [] s1 I) fun fl s2 q => ?_)
    cases fl with
    | ret u => obtain ⟨_, _, _, _, _, z⟩ := q; exact z.elim
    | brk => obtain ⟨_, _, _, z⟩ := q; exact False.elim z
    | cont => obtain ⟨_, _, _, z⟩ := q; exact False.elim z
    | next =>
      obtain ⟨σ', H', I', q⟩ := q
      refine thn (clo_end I' q L.hnd TBl rfl hm hn hu L.hfree L.hd0 L.hk0 (L.ha _) S.nd L.hi L.hloc L.hjs L.hfr L.ndr (L.hcl _) (fun _ => rfl) L.hd1 L.hd2) fun fl s3 ⟨u, v, H2, e1, e2, e3, e4, e5, e6, e7⟩ => ?_
      subst e1
      exact ⟨v, H2, e2, e3, e4, e5, e6, e7⟩
  · -- the state ahead of the inner def
    obtain ⟨vs', l1, r1, h1⟩ := slots_vals sl js ds l hds
    have pz := g.pu t
    refine ⟨fun p hp => (t.tb.1 p hp).2, vs', l1, h1, fun f' c' cl H1 fc sm nn T1 f0 f1 c1 cl1 nd nf => ?_⟩
    have nf' : ∀ c ∈ cl.map Prod.snd, H0' c = none := fun c hc => t.ex.free (nn c (nf c hc))
    have same1 : ∀ b u, H1 b = some u → updC H1 cl vs' b = some u := fun b u e => by rw [updC_ne (fun z => by rw [nf b z] at e; cases e)]; exact e
    have lcl : vs'.length = cl.length := by
      rw [l1, ← List.length_map (f := Prod.fst) (as := cl), cl1]
      have := congrArg List.length L.hjs
      simpa using this
    have sm0 : Same H0' H1 := fun b o e => sm b o (t.ex b o e) fun ps z => t.tb.2 b ps (by rw [← z]; exact e)
    have samec : ∀ b u, H0' b = some u → updC H0' cl vs' b = some u := fun b u e => by rw [updC_ne (fun z => by rw [nf' b z] at e; cases e)]; exact e
    -- the frozen heap behind the call
    have Z : ∀ b o, (upd (upd (updC H0' cl vs') c' (CodeO c' ((envOfC qual (defScope st) 0 0 .none).qual ++ name))) f' (FnO f' (cloF (NF.of ndf name ((envOfC qual (defScope st) 0 0 .none).qual ++ name) [] 0) cl c'))) b = some o → updC H1 cl vs' b = some o := fun b o e => by
      unfold L2.upd at e
      split at e
      · rename_i q; subst q; rw [← e]; exact same1 _ _ f1
      · split at e
        · rename_i q; subst q; rw [← e]; exact same1 _ _ c1
        · rcases updC_cases nd lcl e with ⟨h1, h2⟩ | ⟨n, q, v, g1, g2, rfl, rfl⟩
          · exact same1 _ _ (sm0 _ _ h2)
          · exact updC_at nd g1 g2
    have f0' : updC H0' cl vs' f' = none := by
      have nin : f' ∉ cl.map Prod.snd := fun z => by rw [nf f' z] at f1; cases f1
      rw [updC_ne nin]; exact t.ex.free f0
    have cne : c' ∉ cl.map Prod.snd := fun z => by rw [nf c' z] at c1; cases c1
    have S0 : Same H0' (upd (upd (updC H0' cl vs') c' (CodeO c' ((envOfC qual (defScope st) 0 0 .none).qual ++ name))) f' (FnO f' (cloF (NF.of ndf name ((envOfC qual (defScope st) 0 0 .none).qual ++ name) [] 0) cl c'))) := fun b o e => by
      have nb : b ≠ f' := fun z => by rw [z, t.ex.free f0] at e; cases e
      rw [upd_ne nb]
      by_cases hb : b = c'
      · subst hb
        rw [upd_same]
        have := sm0 _ _ e
        rw [c1] at this
        exact this
      · rw [upd_ne hb]; exact samec _ _ e
    refine hq (.ref f') (updC H1 cl vs') _ (.clo (NF.of ndf name ((envOfC qual (defScope st) 0 0 .none).qual ++ name) [] 0) fr ds) ?_ (.clo (f := f') (c := c') (cl := cl) (vs := vs') upd_same ?_ ⟨cl1, L.ndr, nd, lcl, fun n q v g1 g2 => ?_⟩ (r1.mo S0)) ⟨ds, rfl, hpost⟩
    · refine pz.trans ⟨S0, fun b o e n => same1 _ _ (sm _ _ e n), Z, fun b b1 b2 => ?_, fun b e => nn b ?_, fun tb => ⟨fun p hp => ⟨?_, ?_⟩, fun b ps e => ?_⟩⟩
      · -- what is known and not for good stays so
        obtain ⟨u, hu⟩ := b2.ex
        have nu : NTb u := NT.ntb (by rw [← hu]; exact b2)
        have hb1 : H1 b = some u := sm _ _ hu nu
        have nbf : b ≠ f' := fun z => by rw [z, f0] at hu; cases hu
        have nbc : b ∉ cl.map Prod.snd := fun z => by rw [nf b z] at hb1; cases hb1
        rw [upd_ne nbf]
        by_cases hb : b = c'
        · rw [hb, c1] at hb1
          rw [hu, ← Option.some.inj hb1] at b2
          exact b2.elim
        · rw [upd_ne hb, updC_ne nbc]; exact b1
      · cases y : H1 b with
        | none => rfl
        | some u => rw [same1 _ _ y] at e; cases e
      · obtain ⟨ps, q1, _⟩ := T1 p hp
        have nf1 : p.1 ≠ f' := fun z => by rw [z, f1] at q1; cases q1
        have nc1 : p.1 ≠ c' := fun z => by rw [z, c1] at q1; cases q1
        have ncl : p.1 ∉ cl.map Prod.snd := fun z => by rw [nf _ z] at q1; cases q1
        rw [upd_ne nf1, upd_ne nc1, updC_ne ncl]
        exact (tb.1 p hp).1
      · exact tabn_keep (T1 p hp) (fun ps e => same1 _ _ e) fun c φ e => same1 _ _ e
      · have z := Z b _ e
        unfold L2.upd at e
        split at e
        · cases e
        · split at e
          · cases e
          · rcases updC_cases nd lcl e with ⟨_, h2⟩ | ⟨n, q, v, _, _, _, y⟩
            · exact tb.2 b ps h2
            · cases y
    · rw [upd_ne (Ne.symm fc)]; exact upd_same
    · have y := updC_at (H := H0') nd g1 g2
      have n1 : q.2 ≠ f' := fun z => by rw [z] at y; rw [f0'] at y; cases y
      have mq : q.2 ∈ cl.map Prod.snd := List.mem_map.mpr ⟨q, List.mem_of_getElem? g1, rfl⟩
      have n2 : q.2 ≠ c' := fun z => cne (by rw [← z]; exact mq)
      rw [upd_ne n1, upd_ne n2]
      exact y
end
end Dl

namespace Dl
open PySem PySem.Spec PyProof.Rows L2 NdefX LamX
/-! ### made functions called -/
mutual
/-- no made function within -/
def D.nce : D → Bool
  | .non => true
  | .bl _ => true
  | .int _ => true
  | .str _ => true
  | .ty _ => true
  | .lst xs => D.nceA xs
  | .scr xs => D.nceA xs
  | .tup xs => D.nceA xs
  | .ins _ _ xs => D.nceA xs
  | .adr _ => true
  | .dK _ xs => D.nceA xs
  | .dT _ xs => D.nceA xs
  | .exn _ _ _ => false
  | .clo _ _ _ => false
def D.nceA : List D → Bool
  | [] => true
  | d :: ds => d.nce && D.nceA ds
end
theorem nceA_all : ∀ xs : List D, D.nceA xs = xs.all D.nce
  | [] => by simp [D.nceA]
  | x :: xs => by simp [D.nceA, nceA_all xs]
theorem nceA_map {α : Type} {f : α → D} (h : ∀ x, (f x).nce = true) (xs : List α) : D.nceA (xs.map f) = true := by
  rw [nceA_all, List.all_map, List.all_eq_true]; exact fun x _ => h x
theorem nce_str (x : Str) : (D.str x).nce = true := by simp [D.nce]
theorem nce_bl (x : Bool) : (D.bl x).nce = true := by simp [D.nce]
theorem nce_lst {α : Type} {f : α → D} (h : ∀ x, (f x).nce = true) (xs : List α) : (D.lst (xs.map f)).nce = true := by simp only [D.nce]; exact nceA_map h xs
theorem nce_scr {α : Type} {f : α → D} (h : ∀ x, (f x).nce = true) (xs : List α) : (D.scr (xs.map f)).nce = true := by simp only [D.nce]; exact nceA_map h xs
theorem nce_nil : D.nceA [] = true := by simp [D.nceA]
theorem nce_cons {d : D} {ds : List D} (h : d.nce = true) (k : D.nceA ds = true) : D.nceA (d :: ds) = true := by simp [D.nceA, h, k]
/-- these are known by what is true of their objects -/
def ExtAt (H : Hp) (L : List Addr) : Prop := ∀ b ∈ L, ∀ o, H b = some o → ∃ φ, o = .ext φ
theorem ExtAt.ne {H : Hp} {L : List Addr} {a : Addr} {o : HO} (x : ExtAt H L) (h : H a = some o) (n : ∀ φ, o ≠ .ext φ := by intro _ z; cases z) : a ∉ L := fun z => by
  obtain ⟨φ, e⟩ := x a z o h
  exact n φ e
theorem ExtAt.keep {H : Hp} {L : List Addr} {a : Addr} {o : HO} (x : ExtAt H L) (h : H a = some o) (n : ∀ φ, o ≠ .ext φ := by intro _ z; cases z) : cutL H L a = some o := by
  rw [cutL_ne (x.ne h n)]; exact h
mutual
theorem Rep.hide {K : Frag} {H : Hp} {L : List Addr} (x : ExtAt H L) : ∀ (d : D) (v : V), d.nce = true → Rep K H v d → Rep K (cutL H L) v d
  | .non, _, _, h => by cases h; exact .non
  | .bl b, _, _, h => by cases h; exact .bl b
  | .int b, _, _, h => by cases h; exact .int b
  | .str b, _, _, h => by cases h; exact .str b
  | .ty b, _, _, h => by cases h; exact .ty b
  | .adr a, _, _, h => by cases h; exact .adr a
  | .lst ds, _, p, h => by
    simp only [D.nce] at p
    cases h with
    | lst h1 h2 => exact .lst (x.keep h1) (RepA.hide x ds _ p h2)
  | .scr ds, _, p, h => by
    simp only [D.nce] at p
    cases h with
    | scr h1 h2 =>
      refine .scr ?_ (RepA.hide x ds _ p h2)
      rcases h1 with (h1 | ⟨o, h1⟩) | h1
      · exact .inl (.inl (x.keep h1))
      · exact .inl (.inr ⟨o, x.keep h1⟩)
      · exact .inr h1
  | .tup ds, _, p, h => by
    simp only [D.nce] at p
    cases h with
    | tup h1 h2 => exact .tup (x.keep h1) (RepA.hide x ds _ p h2)
  | .ins C ns ds, _, p, h => by
    simp only [D.nce] at p
    cases h with
    | ins h1 h2 h3 h4 => exact .ins (x.keep h1) h2 h3 (RepA.hide x ds _ p h4)
  | .dK ks ds, _, p, h => by
    simp only [D.nce] at p
    cases h with
    | dK h1 h2 h3 h4 => exact .dK (x.keep h1) h2 h3 (RepA.hide x ds _ p h4)
  | .dT ks ds, _, p, h => by
    simp only [D.nce] at p
    cases h with
    | dT h1 h2 h3 h4 => exact .dT (x.keep h1) h2 h3 (RepA.hide x ds _ p h4)
  | .exn _ _ _, _, p, _ => by simp [D.nce] at p
  | .clo _ _ _, _, p, _ => by simp [D.nce] at p
theorem RepA.hide {K : Frag} {H : Hp} {L : List Addr} (x : ExtAt H L) : ∀ (ds : List D) (vs : List V), D.nceA ds = true → RepA K H vs ds → RepA K (cutL H L) vs ds
  | [], _, _, h => by cases h; exact .nil
  | d :: ds, _, p, h => by
    simp only [D.nceA, Bool.and_eq_true] at p
    cases h with
    | cons a b => exact .cons (Rep.hide x d _ p.1 a) (RepA.hide x ds _ p.2 b)
end
def Mu.nce : Mu → Bool
  | .lst ds => D.nceA ds
  | .fL ds => D.nceA ds
  | .ins _ _ ds => D.nceA ds
  | .dK kvs => D.nceA (kvs.map Prod.snd)
  | .dT kvs => D.nceA (kvs.map Prod.snd)
  | .fK kvs => D.nceA (kvs.map Prod.snd)
  | .fT kvs => D.nceA (kvs.map Prod.snd)
theorem MuRep.hide {K : Frag} {H H0 : Hp} {L : List Addr} {a : Addr} (x0 : ExtAt H0 L) (x : ExtAt H L) : ∀ {m : Mu}, m.nce = true → MuRep K H0 H a m → MuRep K (Dl.cutL H0 L) (Dl.cutL H L) a m
  | .lst ds, f, ⟨vs, h, r⟩ => ⟨vs, x.keep h, RepA.hide x0 _ _ f r⟩
  | .fL ds, f, ⟨o, vs, h, r⟩ => ⟨o, vs, x.keep h, RepA.hide x0 _ _ f r⟩
  | .ins C ns ds, f, ⟨dx, vs, xs, h, h2, h3, r⟩ => ⟨dx, vs, xs, x.keep h, h2, h3, RepA.hide x0 _ _ f r⟩
  | .dK kvs, f, ⟨vs, xs, h, h2, h3, r⟩ => ⟨vs, xs, x.keep h, h2, h3, RepA.hide x0 _ _ f r⟩
  | .dT kvs, f, ⟨vs, xs, h, h2, h3, r⟩ => ⟨vs, xs, x.keep h, h2, h3, RepA.hide x0 _ _ f r⟩
  | .fK kvs, f, ⟨o, vs, xs, h, h2, h3, r⟩ => ⟨o, vs, xs, x.keep h, h2, h3, RepA.hide x0 _ _ f r⟩
  | .fT kvs, f, ⟨o, vs, xs, h, h2, h3, r⟩ => ⟨o, vs, xs, x.keep h, h2, h3, RepA.hide x0 _ _ f r⟩
/-! ### its promise -/
/-- a made function that changes what stands at Mi and raises nothing -/
def nspM (K : Frag) {α : Type} (args caps : α → List D) (Mi : α → Mem) (pre : α → Prop) (post : α → D → Mem → Prop) : List (Option V) → Sp := fun ws vs H Q _ =>
  ∃ x H0 us, Ht K H0 H (Mi x) ∧ RepA K H0 vs (args x) ∧ ws = us.map some ∧ RepA K H0 us (caps x) ∧ pre x ∧ (∀ v H' H0' d M', Go H0 H (Mi x) H0' H' M' → Ht K H0' H' M' → Rep K H0' v d → post x d M' → Q v H')
/-- the promise of the made functions of one def -/
def GClo (P : Program) (w : World) (K : Frag) (mg : Str → Option Value) (base : Heap) (k : Nat) (G : NF) (ps fr : List Str) (sp : List (Option V) → Sp) : Prop := ∀ (f : Addr) (cl : List (Str × Addr)) (c : Addr), NOk P w K mg base (L2.CX P w) k f (cloF G cl c) ps fr sp
section
variable {P : Program} {w : World} {K : Frag} {mg : Str → Option Value} {base : Heap} {α : Type}
theorem fn_n {G : NF} {N ps fr : List Str} {k : Nat} {args caps : α → List D} {Mi : α → Mem} {pre : α → Prop} {post : α → D → Mem → Prop} (S : NScope N ps fr G.scope) (hb : ∀ (cl : List (Str × Addr)) (c : Addr) (doc pm ctv : Value) (us : List Value), us.length = ps.length → bindArgs ((cloF G cl c).fd doc pm ctv) ⟨us, []⟩ = pure (ps.zip us))
    (hl : ∀ a, (args a).length = ps.length) (body : ∀ X : Cx, X.prog = P → X.w = w → X.K = K → X.mg = mg → X.base = base → Bd X N G.scope k → ∀ a, pre a → DS X kx0 G.body (startD N (args a ++ caps a)) (Mi a) (retP (post a))) :
    GClo P w K mg base (k + 1) G ps fr (nspM K args caps Mi pre post) := fun f cl c => by
  refine nok_of S (hb cl c) (fun ws vs H Q E h => ?_) (fun A outer s H vs ws Q E hr hf hc lw hsp => ?_)
  · obtain ⟨x, H0, us, _, r, _⟩ := h
    rw [r.length, hl]
  · obtain ⟨x, H0, us, t, r, rfl, ru, hp, hq⟩ := hsp
    have est : startF N vs (us.map some) = L2.start N (vs ++ us) := by
      unfold startF L2.start
      rw [List.map_append, List.append_assoc, List.length_map, List.length_append, Nat.sub_sub]
    refine ⟨_, pss_s _, ?_⟩
    rw [est]
    refine body (ncx (L2.CX P w) P w K mg base N (cloF G cl c) f A outer s H E) rfl rfl rfl rfl rfl ⟨rfl, S.nd, rfl, rfl, hr, passes_of rfl⟩ x hp (L2.start N (vs ++ us)) H H0 t (start_rep (r.app ru)) _ takesN Hx.none _ ?_
    exact ⟨fun σ' H' H0' ρ' M' g t _ p => hq .non H' H0' .non M' g t .non p, fun _ _ _ _ _ _ _ _ p => p.elim, fun _ _ _ _ _ _ _ _ p => p.elim, fun v H' H0' d M' g t r p => hq v H' H0' d M' g t r p⟩
end
theorem cells_ext {H : Hp} {fr : List Str} {cl : List (Str × Addr)} {vs : List V} (C : Cells H fr cl vs) : ∀ c ∈ cl.map Prod.snd, ∃ v, H c = some (CellO c v) := fun c hc => by
  obtain ⟨q, hq, rfl⟩ := List.mem_map.mp hc
  obtain ⟨i, hi⟩ := List.getElem?_of_mem hq
  have li : i < vs.length := by rw [C.2.2.2.1]; exact (List.getElem?_eq_some_iff.mp hi).1
  exact ⟨_, C.2.2.2.2 i q vs[i] hi (List.getElem?_eq_getElem li)⟩
theorem cells_extAt {H : Hp} {fr : List Str} {cl : List (Str × Addr)} {vs : List V} (C : Cells H fr cl vs) : ExtAt H (cl.map Prod.snd) := fun b hb o e => by
  obtain ⟨v, h⟩ := cells_ext C b hb
  rw [h] at e
  exact ⟨_, (Option.some.inj e).symm⟩
theorem lookup_mem {cl : List (Str × Addr)} {y : Str} {c : Addr} (h : cl.lookup y = some c) : (y, c) ∈ cl := PySem.mem_of_lookup h
theorem lookup_nd {cl : List (Str × Addr)} (nd : (cl.map Prod.fst).Nodup) : ∀ {i : Nat} {q : Str × Addr}, cl[i]? = some q → cl.lookup q.1 = some q.2 := fun {i q} h => by
  induction cl generalizing i with
  | nil => simp at h
  | cons p cl ih =>
    obtain ⟨n1, n2⟩ := List.nodup_cons.mp (show (p.1 :: cl.map Prod.fst).Nodup from nd)
    cases i with
    | zero => simp at h; subst h; simp [List.lookup]
    | succ i =>
      have h' : cl[i]? = some q := by simpa using h
      have ne : (q.1 == p.1) = false := by
        have : q.1 ≠ p.1 := fun z => n1 (by rw [← z]; exact List.mem_map.mpr ⟨q, List.mem_of_getElem? h', rfl⟩)
        simpa using this
      show (match q.1 == p.1 with | true => some p.2 | false => cl.lookup q.1) = _
      rw [ne]
      exact ih n2 h'
section
variable {X : Cx} {pins : List (Addr × PySem.Obj)} {σ : L2.St} {H : Hp} {s : Shared}
/-- a made function runs; its cells are out of sight meanwhile -/
theorem run_clo {k : Nat} {G : NF} {ps fr : List Str} {sp : List (Option V) → Sp} {f c : Addr} {cl : List (Str × Addr)} {cvs vs : List V} {us : List Value} {Q : VK} (Fn : GClo X.prog X.w X.K X.mg X.base k G ps fr sp) (hr : Room k X.A) (I : Inv X pins σ H s) (hf : H f = some (FnO f (cloF G cl c))) (hc : H c = some (CodeO c G.qual)) (C : Cells H fr cl cvs) (r : Vals vs us)
    (q : (∀ b ∈ cl.map Prod.snd, b ≠ f ∧ ∀ q, H b ≠ some (CodeO b q)) → sp (cvs.map some) vs (cutL H (cl.map Prod.snd)) (fun v H' => (∀ b ∈ cl.map Prod.snd, H' b = none) → Q v (updC H' cl cvs)) (fun _ _ _ => False)) : wpAny (model X.prog X.w) X.A (call (.ref f) us) (EP X pins σ Q) X.xe s := by
  have xt := cells_extAt C
  have cellAt : ∀ (i : Nat) (p : Str × Addr) (v : V), cl[i]? = some p → cvs[i]? = some v → ∃ u, RelV v u ∧ s.heap.IsCell p.2 (some u) := fun i p v h1 h2 => by
    obtain ⟨z, _, _⟩ := I.hok p.2 _ (C.2.2.2.2 i p v h1 h2)
    exact z
  have cellO : ∀ b ∈ cl.map Prod.snd, ∃ o u, s.heap.get? b = some o ∧ o.data = .cell (some u) := fun b hb => by
    obtain ⟨p, hp, rfl⟩ := List.mem_map.mp hb
    obtain ⟨i, hi⟩ := List.getElem?_of_mem hp
    have li : i < cvs.length := by rw [C.2.2.2.1]; exact (List.getElem?_eq_some_iff.mp hi).1
    obtain ⟨u, _, o, ho, hd⟩ := cellAt i p cvs[i] hi (List.getElem?_eq_getElem li)
    exact ⟨o, u, ho, hd⟩
  have apart : ∀ b ∈ cl.map Prod.snd, b ≠ f ∧ ∀ q, H b ≠ some (CodeO b q) := fun b hb => by
    obtain ⟨o, u, ho, hd⟩ := cellO b hb
    refine ⟨fun z => ?_, fun q z => ?_⟩
    · obtain ⟨od, sl, doc, pm, ctv, e1⟩ := fnO_at I.hok hf
      rw [← z, ho] at e1
      cases e1; cases hd
    · obtain ⟨c2, oc, vs2, t, e2, e3, e4, _⟩ := codeO_at I.hok z
      cases e2
      rw [ho] at e3; cases e3; rw [hd] at e4; cases e4
  have hf' : cutL H (cl.map Prod.snd) f = some (FnO f (cloF G cl c)) := by rw [cutL_ne (fun z => (apart f z).1 rfl)]; exact hf
  have hc' : cutL H (cl.map Prod.snd) c = some (CodeO c G.qual) := by rw [cutL_ne (fun z => (apart c z).2 _ hc)]; exact hc
  have E0 := I.env0
  have hokH : HOk X.prog X.w (cutL H (cl.map Prod.snd)) s.heap := fun a o e => by
    have e' := cutL_some e
    exact (I.hok a o e').stay (fun _ _ _ z => z) (fun b z => xt.keep z) fun b xs z => xt.keep z
  have E1 : Env0 X.prog X.w X.K X.mg X.base X.A X.stack s (cutL H (cl.map Prod.snd)) := ⟨E0.frames, E0.mod, fun b o e => ⟨(E0.bs b o e).1, by
    have := (E0.bs b o e).2
    unfold cutL; split
    · rfl
    · exact this⟩, E0.bsz, E0.funs, fun b hb => by
    have := E0.frf b hb
    unfold cutL; split
    · rfl
    · exact this, hokH, E0.bare⟩
  have ndf : (cl.map Prod.fst).Nodup := by rw [C.1]; exact C.2.1
  have CA : CellsAt cl fr (cvs.map some) s.heap (cutL H (cl.map Prod.snd)) := by
    refine ⟨by rw [List.length_map, C.2.2.2.1, ← C.1, List.length_map], fun y b e => ?_, fun x y b e1 e2 => ?_, fun i y e => ?_⟩
    · have hb : b ∈ cl.map Prod.snd := List.mem_map.mpr ⟨_, lookup_mem e, rfl⟩
      obtain ⟨o, u, ho, hd⟩ := cellO b hb
      exact ⟨cutL_in hb, some u, o, ho, hd⟩
    · obtain ⟨i1, h1⟩ := List.getElem?_of_mem (lookup_mem e1)
      obtain ⟨i2, h2⟩ := List.getElem?_of_mem (lookup_mem e2)
      have l1 := (List.getElem?_eq_some_iff.mp h1).1
      have d1 : (cl.map Prod.snd)[i1]? = some b := by rw [List.getElem?_map, h1]; rfl
      have d2 : (cl.map Prod.snd)[i2]? = some b := by rw [List.getElem?_map, h2]; rfl
      have ei : i1 = i2 := (List.getElem?_inj (by rw [List.length_map]; exact l1) C.2.2.1).mp (d1.trans d2.symm)
      rw [ei, h2] at h1
      cases h1; rfl
    · have e2 : (cl.map Prod.fst)[i]? = some y := by rw [C.1]; exact e
      rw [List.getElem?_map] at e2
      cases ei : cl[i]? with
      | none => rw [ei] at e2; cases e2
      | some p =>
        rw [ei] at e2
        cases e2
        refine ⟨p.2, lookup_nd ndf ei, fun v ev => ?_⟩
        rw [List.getElem?_map] at ev
        cases ec : cvs[i]? with
        | none => rw [ec] at ev; cases ev
        | some v' =>
          rw [ec] at ev
          cases ev
          exact cellAt i p _ ei ec
  refine wpAny_call (codeAny_mono ((Fn f cl c).run X.A X.stack s _ us vs (cvs.map some) _ _ hr E1 hf' hc' CA r (q apart)) fun rr s' hq => ?_)
  cases rr with
  | error e =>
    obtain ⟨_, _, _, _, _, _, _, _, _, _, _, _, z⟩ := hq
    exact False.elim z
  | ok fl =>
    cases fl with
    | next => exact False.elim hq
    | brk => exact False.elim hq
    | cont => exact False.elim hq
    | ret u =>
      obtain ⟨v, H', os, bare, un, hok', rv, q'⟩ := hq
      have nf : ∀ b ∈ cl.map Prod.snd, H' b = none := fun b hb => by
        obtain ⟨o, u, ho, _⟩ := cellO b hb
        exact un.free b o ho (cutL_in hb) (by simp)
      have nfr : ∀ b ∈ cl.map Prod.snd, b ∉ frs X.stack := fun b hb z => by
        obtain ⟨v, h⟩ := cells_ext C b hb
        rw [I.stkFree b z] at h; cases h
      have same : ∀ b u, H' b = some u → updC H' cl cvs b = some u := fun b u e => by rw [updC_ne (fun z => by rw [nf b z] at e; cases e)]; exact e
      have cn : ∀ b, H b = none → cutL H (cl.map Prod.snd) b = none := fun b e => by
        unfold cutL; split
        · rfl
        · exact e
      have hcs : HasC s'.heap cl cvs := fun i p v h1 h2 => by
        obtain ⟨u, ru, o, ho, hd⟩ := cellAt i p v h1 h2
        have hb : p.2 ∈ cl.map Prod.snd := List.mem_map.mpr ⟨p, List.mem_of_getElem? h1, rfl⟩
        exact ⟨u, ru, o, un.keep p.2 o ho (cutL_in hb) (nfr _ hb) (by simp), hd⟩
      refine I.after ⟨v, updC H' cl cvs, os, bare, ⟨fun b o e n => un.keep b o e (cn b n), fun b o e n => un.slot b o e (cn b n), fun b o e n hx => ?_, un.there, fun b xs e => same _ _ (un.tups b xs (xt.keep e)), fun b o xs e => same _ _ (un.frzs b o xs (xt.keep e)), fun b ps e => ?_⟩, hok_updC hok' C.2.2.1 C.2.2.2.1 nf hcs, rv, q' nf⟩
      · rw [updC_ne (fun z => by obtain ⟨v, h⟩ := cells_ext C b z; rw [n] at h; cases h)]
        exact un.free b o e (cn b n) hx
      · obtain ⟨more, z⟩ := un.tbls b ps (xt.keep e)
        exact ⟨more, same _ _ z⟩
end

/-- the state with the cells out of sight -/
theorem Ht.hide {K : Frag} {H0 H : Hp} {M : Mem} {fr : List Str} {cl : List (Str × Addr)} {vs : List V} (t : Ht K H0 H M) (C : Cells H0 fr cl vs) (hn : ∀ b ∈ cl.map Prod.snd, ∀ q, H b ≠ some (CodeO b q)) (nm : ∀ p ∈ M, p.2.nce = true) : Ht K (cutL H0 (cl.map Prod.snd)) (cutL H (cl.map Prod.snd)) M := by
  have x0 := cells_extAt C
  have CH : Cells H fr cl vs := ⟨C.1, C.2.1, C.2.2.1, C.2.2.2.1, fun i q v a b => t.ex _ _ (C.2.2.2.2 i q v a b)⟩
  have x := cells_extAt CH
  have c0 : ∀ b, H0 b = none → cutL H0 (cl.map Prod.snd) b = none := fun b e => by
    unfold cutL; split
    · rfl
    · exact e
  refine ⟨fun b o e => ?_, t.nd, fun p hp => ?_, ⟨fun p hp => ?_, fun b ps e => t.tb.2 b ps (cutL_some e)⟩⟩
  · by_cases hb : b ∈ cl.map Prod.snd
    · rw [cutL_in hb] at e; cases e
    · rw [cutL_ne hb] at e ⊢; exact t.ex _ _ e
  · obtain ⟨m1, m2⟩ := t.mem p hp
    exact ⟨c0 _ m1, m2.hide x0 x (nm p hp)⟩
  · obtain ⟨m1, ps, h1, h2, h3⟩ := t.tb.1 p hp
    refine ⟨c0 _ m1, ps, x.keep h1, h2, fun pos cv hc => ?_⟩
    obtain ⟨c, e1, e2⟩ := h3 pos cv hc
    exact ⟨c, e1, by rw [cutL_ne (fun z => hn c z _ e2)]; exact e2⟩
/-- and back -/
theorem unhide {K : Frag} {H0 H H0' H' : Hp} {M M' : Mem} {fr : List Str} {cl : List (Str × Addr)} {vs : List V} (t : Ht K H0 H M) (C : Cells H0 fr cl vs) (g : Go (cutL H0 (cl.map Prod.snd)) (cutL H (cl.map Prod.snd)) M H0' H' M') (t' : Ht K H0' H' M') (nf : ∀ b ∈ cl.map Prod.snd, H' b = none) :
    Go H0 H M (updC H0' cl vs) (updC H' cl vs) M' ∧ Ht K (updC H0' cl vs) (updC H' cl vs) M' ∧ Same H0' (updC H0' cl vs) := by
  have nf0 : ∀ b ∈ cl.map Prod.snd, H0' b = none := fun b hb => t'.ex.free (nf b hb)
  have same0 : Same H0' (updC H0' cl vs) := fun b u e => by rw [updC_ne (fun z => by rw [nf0 b z] at e; cases e)]; exact e
  have same1 : Same H' (updC H' cl vs) := fun b u e => by rw [updC_ne (fun z => by rw [nf b z] at e; cases e)]; exact e
  have CH : ∀ (i : Nat) (q : Str × Addr) (v : V), cl[i]? = some q → vs[i]? = some v → H q.2 = some (CellO q.2 v) := fun i q v a b => t.ex _ _ (C.2.2.2.2 i q v a b)
  have inc : ∀ {Z : Hp} {b : Addr} {o : HO}, (∀ (i : Nat) (q : Str × Addr) (v : V), cl[i]? = some q → vs[i]? = some v → Z q.2 = some (CellO q.2 v)) → b ∈ cl.map Prod.snd → Z b = some o → ∀ Y : Hp, updC Y cl vs b = some o := fun {Z b o} hZ hb e Y => by
    obtain ⟨q, hq, rfl⟩ := List.mem_map.mp hb
    obtain ⟨i, hi⟩ := List.getElem?_of_mem hq
    have li : i < vs.length := by rw [C.2.2.2.1]; exact (List.getElem?_eq_some_iff.mp hi).1
    have h1 := hZ i q vs[i] hi (List.getElem?_eq_getElem li)
    rw [e] at h1
    rw [h1]
    exact updC_at C.2.2.1 hi (List.getElem?_eq_getElem li)
  have cin : ∀ b ∈ cl.map Prod.snd, H0 b ≠ none ∧ H b ≠ none := fun b hb => by
    obtain ⟨v, h⟩ := cells_ext C b hb
    exact ⟨by rw [h]; exact fun z => (by cases z), by rw [t.ex _ _ h]; exact fun z => (by cases z)⟩
  refine ⟨⟨fun b o e => ?_, fun b o e hm n => ?_, fun b b1 b2 b3 => ?_, fun b hb => ?_, fun b e => ?_⟩, ⟨fun b o e => ?_, t'.nd, fun p hp => ?_, t'.tb.keep (fun b ps a e => ?_) (fun b ps e => same1 _ _ e) (fun c φ e => same1 _ _ e) fun b ps e => ?_⟩, same0⟩
  · by_cases hb : b ∈ cl.map Prod.snd
    · exact inc C.2.2.2.2 hb e _
    · exact same0 _ _ (g.e0 _ _ (by rw [cutL_ne hb]; exact e))
  · by_cases hb : b ∈ cl.map Prod.snd
    · exact inc CH hb e _
    · exact same1 _ _ (g.e _ _ (by rw [cutL_ne hb]; exact e) hm n)
  · have hb : b ∉ cl.map Prod.snd := fun z => (cin b z).1 b1
    rw [updC_ne hb]
    exact g.new b (by rw [cutL_ne hb]; exact b1) (by rw [cutL_ne hb]; exact b2) b3
  · rcases g.dom b hb with z | z
    · exact .inl z
    · by_cases hc : b ∈ cl.map Prod.snd
      · obtain ⟨p, hp, rfl⟩ := List.mem_map.mp hb
        obtain ⟨o, ho⟩ := (t'.mem p hp).2.there
        rw [nf _ hc] at ho; cases ho
      · rw [cutL_ne hc] at z; exact .inr z
  · by_cases hb : b ∈ cl.map Prod.snd
    · obtain ⟨v, h⟩ := cells_ext C b hb
      have := inc (Z := H0) C.2.2.2.2 hb h H'
      rw [this] at e; cases e
    · rw [updC_ne hb] at e
      have := g.there b e
      rw [cutL_ne hb] at this
      exact this
  · rcases updC_cases C.2.2.1 C.2.2.2.1 e with ⟨_, h2⟩ | ⟨i, q, v, h1, h2, rfl, rfl⟩
    · exact same1 _ _ (t'.ex _ _ h2)
    · exact updC_at C.2.2.1 h1 h2
  · obtain ⟨m1, m2⟩ := t'.mem p hp
    obtain ⟨o, ho⟩ := m2.there
    refine ⟨by rw [updC_ne (fun z => by rw [nf _ z] at ho; cases ho)]; exact m1, m2.mono same0 fun o e _ => same1 _ _ e⟩
  · rw [updC_ne (fun z => by rw [nf b z] at e; cases e)]; exact a
  · rcases updC_cases C.2.2.1 C.2.2.2.1 e with ⟨_, h2⟩ | ⟨i, q, v, h1, h2, _, z⟩
    · exact h2
    · cases z
section
variable {X : Cx} {kx : XD} {ρ : Ro} {M F : Mem} {pos p : Pos} {e : Expr} {es : List Expr} {α : Type} {k i : Nat} {x : Str} {G : NF} {ps fr : List Str} {as ds : List D} {args caps : α → List D} {Mi : α → Mem} {pre : α → Prop} {post : α → D → Mem → Prop} {kk : D → Mem → Prop} {z : D}
theorem callN (Fn : GClo X.prog X.w X.K X.mg X.base k G ps fr (nspM X.K args caps Mi pre post)) (hr : Room k X.A) (n : Nm X i x) (hs : ρ[i]? = some (some (.clo G fr ds))) (ha : DA X kx (e :: es) ρ M as) (a : α) (hargs : args a = as) (hcaps : caps a = ds) (na : D.nceA as = true) (nd : D.nceA ds = true) (nm : ∀ p ∈ Mi a, p.2.nce = true) (pm : M.Perm (Mi a ++ F)) (hp : pre a)
    (he : starEach (e :: es) X.env = (false, eval e X.env) :: starEach es X.env := by rfl) (hpl : (backTo pos (starEach es X.env)).any (·.1) = false := by rfl) {σ : L2.St} {H H0 : Hp} (t : Ht X.K H0 H M) (s : Sl X.K H0 σ ρ) {W : WX} (tk : Takes X W) (hx : Hx X W H0 H M kx) {Q : VK}
    (hk : ∀ v H1 H01 H' H0' d M', Pu H0 H H01 H1 → Go H01 H1 (Mi a) H0' H' M' → Ht X.K H0' H' M' → Rep X.K H0' v d → post a d M' → Q v H') : sE X (.Call (.Name x p) (e :: es) [] pos) σ H Q := fun pins st I => by
  obtain ⟨v, e1, r1⟩ := s.2 i _ hs
  cases r1 with
  | @clo f c _ cl _ cvs _ hf hc C rc =>
    refine wpAny_Call_Name_kw (thn ((pe_var (pos := p) n.get n.vis n.d1 n.d2).run pins st σ H (fun v H1 => v = .ref f ∧ H1 = H) I ⟨.ref f, e1, rfl, rfl⟩) fun u s1 ⟨v, H1, I1, r1, ev, eH⟩ => ?_)
    subst ev
    subst eH
    obtain rfl : u = Value.ref f := r1
    refine PySem.W.callWith_F (first := []) (fnAt_of I1 (t.ex _ _ hf)) (thn ((pa_s (e :: es)).run pos pins s1 σ _ (fun vs H' => ∃ H01, Pu H0 _ H01 H' ∧ RepA X.K H01 vs as) I1 (ha σ _ H0 t s W tk hx _ fun vs H' H0' p r => ⟨H0', p, r⟩)) fun us s2 ⟨vs, H2, I2, rv, H01, p1, q1⟩ => ?_) he hpl
    have t2 := t.pu p1
    have up : ∀ {b : Addr} {o : HO}, H0 b = some o → H01 b = some o := fun {b o} e => p1.e0 _ _ e
    have C1 : Cells H01 fr cl cvs := ⟨C.1, C.2.1, C.2.2.1, C.2.2.2.1, fun i q v a b => up (C.2.2.2.2 i q v a b)⟩
    have C2 : Cells H2 fr cl cvs := ⟨C.1, C.2.1, C.2.2.1, C.2.2.2.1, fun i q v a b => t2.ex _ _ (up (C.2.2.2.2 i q v a b))⟩
    refine ⟨fnAt_of I2 (t2.ex _ _ (up hf)), ?_⟩
    show wpAny _ _ (call (.ref f) us) _ _ _
    refine run_clo Fn hr I2 (t2.ex _ _ (up hf)) (t2.ex _ _ (up hc)) C2 rv fun apart => ?_
    have tl := (t2.perm pm).left
    have th := tl.hide C1 (fun b hb => (apart b hb).2) nm
    have x1 := cells_extAt C1
    refine ⟨a, cutL H01 (cl.map Prod.snd), cvs, th, by rw [hargs]; exact RepA.hide x1 _ _ na q1, rfl, by rw [hcaps]; exact RepA.hide x1 _ _ nd (rc.mo p1.e0), hp, fun v H' H0' d M' g t' rr pp nf => ?_⟩
    obtain ⟨g2, t4, sm⟩ := unhide tl C1 g t' nf
    exact hk v H2 H01 _ _ d M' p1 g2 t4 (rr.mo sm) pp
/-- .. that changes nothing -/
theorem dv_callN (Fn : GClo X.prog X.w X.K X.mg X.base k G ps fr (nspM X.K args caps (fun _ => []) pre post)) (hr : Room k X.A) (n : Nm X i x) (hs : ρ[i]? = some (some (.clo G fr ds))) (ha : DA X kx (e :: es) ρ M as) (a : α) (hargs : args a = as) (hcaps : caps a = ds) (na : D.nceA as = true) (nd : D.nceA ds = true) (hp : pre a)
    (hk : ∀ d M', post a d M' → d = z) (he : starEach (e :: es) X.env = (false, eval e X.env) :: starEach es X.env := by rfl) (hpl : (backTo pos (starEach es X.env)).any (·.1) = false := by rfl) : DV X kx (.Call (.Name x p) (e :: es) [] pos) ρ M z := fun σ H H0 t s W tk hx Q q =>
  callN (F := M) Fn hr n hs ha a hargs hcaps na nd (fun p hp => by cases hp) (List.Perm.refl _) hp he hpl t s tk hx fun v H1 H01 H' H0' d M' p1 g t' rr pp => by
    rw [hk d M' pp] at rr
    exact q v _ _ (p1.trans (g.pu t')) rr
end
end Dl

namespace Dl
open PySem PySem.Spec PyProof.Rows L2
/-! ### dicts of lists that change -/
section
variable {κ β : Type} [DecidableEq κ] {ek : κ → Key} {f : β → D} {r : List (κ × List β)} {d : D} {m : Mem}
def isDKL (ek : κ → Key) (f : β → D) (r : List (κ × List β)) (o : Ow) : Prop := ∃ (a : Addr) (os : List Ow), o = .dK a (r.map fun q => ek q.1) os ∧ All2 (isLstF f) (r.map Prod.snd) os ∧ (r.map Prod.fst).Nodup
theorem own_dkl : OwR (isDKL ek f) r d m ↔ ∃ (a : Addr) (rs : List (κ × D)) (m' : Mem), OwD (isLstF f) r rs m' ∧ d = .adr a ∧ m = (a, Mu.dK (rs.map fun q => (ek q.1, q.2))) :: m' ∧ (r.map Prod.fst).Nodup := by
  have e : ∀ os : List Ow, ((r.map Prod.fst).zip (Ow.rootA os)).map (fun q => (ek q.1, q.2)) = (r.map fun q => ek q.1).zip (Ow.rootA os) := fun os => by
    have := zip_keys (ek := ek) (xs := r) (ds := Ow.rootA os)
    exact this
  constructor
  · rintro ⟨o, ⟨a, os, rfl, h, nd⟩, rfl, rfl⟩
    refine ⟨a, _, _, h.owD, by simp only [Ow.root], ?_, nd⟩
    rw [e]
    simp only [Ow.mem]
  · rintro ⟨a, rs, m', h, rfl, rfl, nd⟩
    obtain ⟨os, h1, h2, h3, rfl⟩ := h.all
    refine ⟨_, ⟨a, os, rfl, h1, nd⟩, by simp only [Ow.root], ?_⟩
    simp only [Ow.mem]
    rw [← e os, ← h2, ← h3, ← zip_of rs]
theorem ok_dkl : OwK (isDKL ek f) (fun r => .dK (r.map fun q => ek q.1) (r.map fun q => .scr (q.2.map f))) := by
  have kl : OwK (isLstF f) (fun xs => D.scr (xs.map f)) := okLstF f
  refine ⟨?_, ?_⟩
  · rintro r o ⟨a, os, rfl, h, _⟩
    simp only [Ow.frz]
    rw [(h.frz kl).1, List.map_map]; rfl
  · rintro r o ⟨a, os, rfl, h, _⟩
    simp only [Ow.fit]
    refine ⟨?_, (h.frz kl).2⟩
    have := congrArg List.length (h.frz kl).1
    rw [frzA_map, List.length_map, List.length_map, List.length_map] at this
    rw [List.length_map, this]
end
section
variable {X : Cx} {kx : XD} {ρ : Ro} {M R : Mem} {P : Out → Mem → Prop} {pos p apos cpos spos tpos np xpos : Pos} {e o ix a : Expr} {d y : D} {N : List Str} {sc : Scope} {k : Nat} {κ β : Type} [DecidableEq κ] {ek : κ → Key} {f : β → D} {r : List (κ × List β)} {m : Mem} {kk : κ}
/-- x = {}, a dict of lists -/
theorem ds1_newG {i : Nat} {v : Str} (ek : κ → Key) (f : β → D) (n : Ns X i v) (hp : ∀ d m, OwR (isDKL ek f) [] d m → P (.nx (ρ.set i (some d))) (m ++ M))
    (hs : swapsWithSole [.Name v np] (.Dict [] [] apos) pos.line X.env = pure false := by rfl) (hw : swappedStores [.Name v np] (.Dict [] [] apos) X.env = pure none := by rfl) : DS1 X kx (.Assign [.Name v np] (.Dict [] [] apos) pos) ρ M P :=
  ds1_setE (k := fun d m => ∃ w, w ∉ M.dom ∧ d = .adr w ∧ m = (w, .dK []) :: M) n (de_newK fun w hw => ⟨w, hw, rfl, rfl⟩) (fun d m ⟨w, h1, h2, h3⟩ => by
    subst h2; subst h3
    exact hp _ [(w, Mu.dK [])] (own_dkl.mpr ⟨w, [], [], .nil, rfl, rfl, List.nodup_nil⟩)) hs hw
theorem getA_raw (inj : ∀ a b, ek a = ek b → a = b) (rs : List (κ × D)) (kk : κ) : getA (rs.map fun q => (ek q.1, q.2)) (ek kk) = getA rs kk := by
  have := getA_map inj (g := fun x : D => x) kk rs
  rw [this]
  cases getA rs kk <;> rfl
/-- x.setdefault(k, []) -/
theorem ds1_setdG (h : OwR (isDKL ek f) r d m) (pm : M.Perm (m ++ R)) (B : Bd X N sc k) (inj : ∀ a b, ek a = ek b → a = b) (ho : DV X kx o ρ M d) (he : DV X kx e ρ M (kD (ek kk))) (hl : r.length ≤ 90000) (hk : ∀ m', OwR (isDKL ek f) (setdA r kk []) d m' → P (.nx ρ) (m' ++ R))
    (mm : M2 X o "setdefault" apos e (.List [] p) cpos := by exact m2) (hs : swapsWith (.Call (.Attribute o "setdefault" apos) [e, .List [] p] [] cpos) none spos.line X.env = pure false := by rfl) : DS1 X kx (.Expr (.Call (.Attribute o "setdefault" apos) [e, .List [] p] [] cpos) spos) ρ M P := fun σ H H0 t s W tk hx D cn => by
  obtain ⟨w, rs, m0, hd, rfl, rfl, nd⟩ := own_dkl.mp h
  refine sS.by (ps_expr (pe_dsetd (pe_s o) (pe_s e) (pe_s (.List [] p)) mm) hs) ?_
  refine ho σ H H0 t s W tk hx _ fun u H1 H01 p1 r1 => ?_
  cases r1
  have t1 := (t.pu p1).perm pm
  obtain ⟨_, vs0, xs0, h10, _⟩ := t1.mem (w, Mu.dK (rs.map fun q => (ek q.1, q.2))) (by simp)
  refine ⟨w, rfl, .inl ⟨vs0, .inl h10⟩, he σ H1 H01 (t.pu p1) (s.mo p1.e0) W tk (hx.pu p1) _ fun u2 H2 H02 p2 r2 => ?_⟩
  have ek2 := kD_rep r2
  subst ek2
  have p12 := p1.trans p2
  refine sE.by (pe_lst (pa_s [])) ((da_nil : DA X kx [] ρ M []) σ H2 H02 (t.pu p12) (s.mo p12.e0) W tk (hx.pu p12) _ fun us H3 H03 p3 r3 => ⟨by rw [r3.length]; exact Nat.zero_le _, fun l hl0 => ?_⟩)
  cases r3
  have p13 := p12.trans p3
  have t3 := (t.pu p13).perm pm
  obtain ⟨z0, vs, xs, h1, h2, h3, h4⟩ := t3.mem (w, Mu.dK (rs.map fun q => (ek q.1, q.2))) (by simp)
  subst h3
  have lv : vs.length = rs.length := by have := congrArg List.length h2; simpa using this
  have lr := hd.len
  -- the new list
  have t4 := t3.new1 (p := l) (m := .lst []) hl0 (o := .lst []) fun H' e => ⟨[], e, .nil⟩
  have g4 : Go H03 H3 ((w, Mu.dK (rs.map fun q => (ek q.1, q.2))) :: m0 ++ R) H03 (upd H3 l (.lst [])) ((l, .lst []) :: ((w, Mu.dK (rs.map fun q => (ek q.1, q.2))) :: m0 ++ R)) := Go.new1 hl0 (.lst [])
  have nwl : w ≠ l := fun z => by rw [← z, h1] at hl0; cases hl0
  have h1' : upd H3 l (.lst []) w = some (.dK vs) := by rw [upd_ne nwl]; exact h1
  have lk := get_rep (K := X.K) (H := H03) (ek kk) h2 h4
  rw [getA_raw inj] at lk
  have gs := hd.get kk
  have gg := (p13.go.trans (g4.permL pm.symm))
  refine ⟨vs, ek kk, h1', rfl, by rw [sizeLine_eq]; omega, fun v hv => ?_, fun hn => ?_⟩
  · rw [hv] at lk
    have e1 : (getA rs kk).isSome = true := by
      cases z : getA rs kk with
      | none => rw [z] at lk; exact lk.elim
      | some _ => rfl
    have e2 : setdA r kk [] = r := by unfold setdA; rw [if_pos (by rw [← gs]; exact e1)]
    rw [e2] at hk
    exact cn.nx σ _ H03 ρ _ (gg.subR (List.sublist_cons_self _ _)) (t4.sub (List.sublist_cons_self _ _)) (s.mo p13.e0) (hk _ h)
  · rw [hn] at lk
    have e1 : getA rs kk = none := by
      cases z : getA rs kk with
      | none => rfl
      | some _ => rw [z] at lk; exact lk.elim
    have e0 : getA r kk = none := by
      rw [e1] at gs
      cases z : getA r kk with
      | none => rfl
      | some _ => rw [z] at gs; cases gs
    have e2 : setdA r kk [] = putA r kk [] := by unfold setdA; rw [e0]; rfl
    rw [e2] at hk
    obtain ⟨m', old, j1, j2⟩ := hd.put nd kk (own_lstF.mpr ⟨l, rfl, rfl⟩ : OwR (isLstF f) [] (.adr l) [(l, Mu.lst [])])
    obtain ⟨i1, i2⟩ := put_rep (k := ek kk) (v := .ref l) (d := .adr l) h2 h4 (.adr l)
    have hm1 : ((l, Mu.lst []) :: ((w, Mu.dK (rs.map fun q => (ek q.1, q.2))) :: m0 ++ R))[1]? = some (w, Mu.dK (rs.map fun q => (ek q.1, q.2))) := rfl
    obtain ⟨t5, g5⟩ := t4.setM (o := .dK (putK vs (ek kk) (.ref l))) (m' := .dK (putA (rs.map fun q => (ek q.1, q.2)) (ek kk) (.adr l))) hm1 fun H' e => ⟨_, _, e, i1, rfl, i2⟩
    have ep : putA (rs.map fun q => (ek q.1, q.2)) (ek kk) (Dl.D.adr l) = (putA rs kk (Dl.D.adr l)).map fun q => (ek q.1, q.2) := putA_map inj (g := fun x : Dl.D => x) rs kk (Dl.D.adr l)
    have pf : ((l, Mu.lst []) :: ((w, Mu.dK (rs.map fun q => (ek q.1, q.2))) :: m0 ++ R)).set 1 (w, Mu.dK (putA (rs.map fun q => (ek q.1, q.2)) (ek kk) (.adr l))) = (l, Mu.lst []) :: (w, Mu.dK ((putA rs kk (.adr l)).map fun q => (ek q.1, q.2))) :: (m0 ++ R) := by rw [ep]; rfl
    rw [pf] at t5 g5
    have pq : ((l, Mu.lst []) :: (w, Mu.dK ((putA rs kk (.adr l)).map fun q => (ek q.1, q.2))) :: (m0 ++ R)).Perm (((w, Mu.dK ((putA rs kk (.adr l)).map fun q => (ek q.1, q.2))) :: m' ++ R) ++ old) := by
      refine (List.Perm.swap _ _ _).trans (List.Perm.cons _ ?_)
      refine ((j2.append_right R) : ((l, Mu.lst []) :: (m0 ++ R)).Perm _).trans ?_
      rw [List.append_assoc]
      have z : (m' ++ (old ++ R)).Perm ((m' ++ R) ++ old) := by
        rw [List.append_assoc]
        exact List.Perm.append_left m' List.perm_append_comm
      exact z
    have sub : ((w, Mu.dK ((putA rs kk (.adr l)).map fun q => (ek q.1, q.2))) :: m' ++ R).Sublist (((w, Mu.dK ((putA rs kk (.adr l)).map fun q => (ek q.1, q.2))) :: m' ++ R) ++ old) := List.sublist_append_left _ _
    exact cn.nx σ _ H03 ρ _ (((gg.trans g5).permR pq).subR sub) ((t5.perm pq).sub sub) (s.mo p13.e0) (hk _ (own_dkl.mpr ⟨w, _, m', j1, rfl, rfl, putA_keys _ _ _ nd⟩))
/-- x[k].append(v) -/
theorem ds1_appG {xs : List β} {v : β} (h : OwR (isDKL ek f) r d m) (pm : M.Perm (m ++ R)) (B : Bd X N sc k) (inj : ∀ a b, ek a = ek b → a = b) (ho : ∀ M', M.Perm M' → DV X kx0 o ρ M' d) (hi : ∀ M', M.Perm M' → DV X kx0 ix ρ M' (kD (ek kk))) (hv : ∀ M', M.Perm M' → DV X kx0 e ρ M' (f v)) (hg : someE (getA r kk) = .ok xs) (hl : xs.length ≤ 90000)
    (hk : ∀ m', OwR (isDKL ek f) (putA r kk (xs ++ [v])) d m' → P (.nx ρ) (m' ++ R))
    (hsl : NoSl ix := by first | exact ⟨rfl, rfl⟩ | exact fun _ _ => rfl)
    (hb : attributeBase (.Subscript o ix xpos) "append" X.env (eval (.Subscript o ix xpos) X.env) = eval (.Subscript o ix xpos) X.env := by rfl)
    (hfew : ((backTo cpos (starEach [e] X.env)).all (fun x => !x.1) && (backToKw cpos (keywordEach [] X.env)).all (fun x => x.1.isSome) && decide ([e].length + ([] : List Keyword).length + (if ([] : List Keyword).isEmpty then 0 else 1) < 30)) = true := by rfl)
    (hline : (apos.endLine == cpos.line) = true := by rfl) (hs : starEach [e] X.env = (false, eval e X.env) :: starEach [] X.env := by rfl)
    (hs2 : swapsWith (.Call (.Attribute (.Subscript o ix xpos) "append" apos) [e] [] cpos) none tpos.line X.env = pure false := by rfl) : DS1 X kx (.Expr (.Call (.Attribute (.Subscript o ix xpos) "append" apos) [e] [] cpos) tpos) ρ M P := by
  obtain ⟨w, rs, m0, hd, rfl, rfl, nd⟩ := own_dkl.mp h
  have hg' : getA r kk = some xs := by
    cases z : getA r kk with
    | none => rw [z] at hg; cases hg
    | some u => rw [z] at hg; cases hg; rfl
  obtain ⟨d1, mr, mx, a1, a2, a3, a4⟩ := hd.foc nd hg'
  obtain ⟨l, rfl, rfl⟩ := own_lstF.mp a2
  obtain ⟨m', b1, b2⟩ := a4 (xs ++ [v]) [(l, Mu.lst ((xs ++ [v]).map f))] (own_lstF.mpr ⟨l, rfl, rfl⟩)
  have pq : M.Perm ((l, Mu.lst (xs.map f)) :: (w, Mu.dK (rs.map fun q => (ek q.1, q.2))) :: (mx ++ R)) := by
    refine pm.trans ((List.Perm.cons _ ((a3.append_right R) : (m0 ++ R).Perm ((l, Mu.lst (xs.map f)) :: (mx ++ R)))).trans (List.Perm.swap _ _ _))
  have e1 : ((l, Mu.lst (xs.map f)) :: (w, Mu.dK (rs.map fun q => (ek q.1, q.2))) :: (mx ++ R)).set 0 (l, Mu.lst (xs.map f ++ [f v])) = (l, Mu.lst ((xs ++ [v]).map f)) :: (w, Mu.dK (rs.map fun q => (ek q.1, q.2))) :: (mx ++ R) := by rw [List.map_append]; rfl
  have key : DS1 X kx0 (.Expr (.Call (.Attribute (.Subscript o ix xpos) "append" apos) [e] [] cpos) tpos) ρ ((l, Mu.lst (xs.map f)) :: (w, Mu.dK (rs.map fun q => (ek q.1, q.2))) :: (mx ++ R)) (fun out M' => out = .nx ρ ∧ M' = (l, Mu.lst ((xs ++ [v]).map f)) :: (w, Mu.dK (rs.map fun q => (ek q.1, q.2))) :: (mx ++ R)) := by
    have dk : DKey ((l, Mu.lst (xs.map f)) :: (w, Mu.dK (rs.map fun q => (ek q.1, q.2))) :: (mx ++ R)) (.adr w) (kD (ek kk)) ((getA rs kk).map fun x => x) := dk_kA (f := fun x : D => x) inj (by simp) rfl
    rw [a1] at dk
    exact ds1_app (i := 0) (dv_dixE (q := some (D.adr l)) (f := fun x : D => x) B rfl (ho _ pq) (hi _ pq) dk hsl) (hv _ pq) rfl (by rw [List.length_map, sizeLine_eq]; omega) ⟨rfl, e1⟩ hb hfew hline hs hs2
  have pz : ((l, Mu.lst ((xs ++ [v]).map f)) :: (w, Mu.dK (rs.map fun q => (ek q.1, q.2))) :: (mx ++ R)).Perm ((w, Mu.dK (rs.map fun q => (ek q.1, q.2))) :: m' ++ R) :=
    (List.Perm.swap _ _ _).trans (List.Perm.cons _ ((b2.append_right R) : ((l, Mu.lst ((xs ++ [v]).map f)) :: (mx ++ R)).Perm (m' ++ R)))
  exact fun σ H H0 t s W tk hx D c => key σ H H0 (t.perm pq) s W tk (fun _ _ _ _ _ _ _ _ _ _ _ _ z => z.elim) D
    ⟨fun σ' H' H0' ρ' M' g t' s' ⟨q1, q2⟩ => by
      cases q1; subst q2
      exact c.nx σ' H' H0' ρ _ ((g.permL pq.symm).permR pz) (t'.perm pz) s' (hk _ (own_dkl.mpr ⟨w, rs, m', b1, rfl, rfl, putA_keys _ _ _ nd⟩)),
    fun _ _ _ _ _ _ _ _ z => (by cases z.1), fun _ _ _ _ _ _ _ _ z => (by cases z.1), fun _ _ _ _ _ _ _ _ z => (by cases z.1)⟩
end
end Dl

namespace Dl
open PySem PySem.Spec PyProof.Rows L2 NdefX LamX He
/-! ### for the printed walks -/
def nthS (l : List Stmt) (n : Nat) (d : Stmt) : Stmt := (l[n]?).getD d
/-- the places of «return f» at a suite's end -/
def retP1 (l : List Stmt) : Pos := match l.getLast? with
  | some (.Return (some (.Name _ p)) _) => p
  | _ => ⟨0, 0, 0, 0⟩
def retP2 (l : List Stmt) : Pos := match l.getLast? with
  | some (.Return _ p) => p
  | _ => ⟨0, 0, 0, 0⟩
def defP (s : Stmt) : Pos := match s with
  | .FunctionDef _ _ _ _ _ _ _ _ _ p => p
  | _ => ⟨0, 0, 0, 0⟩
/-- a captured name -/
structure Fre (X : Cx) (i : Nat) (x : Str) : Prop where
  toNm : Nm X i x
theorem Bd.fre {X : Cx} {N : List Str} {sc : Scope} {k i : Nat} {x : Str} (B : Bd X N sc k) (h : N[i]? = some x) (v : sc.names.lookup x = some .free) (d1 : (x == ("__debug__" : Str)) = false := by decide) (d2 : (x == ("__classdict__" : Str)) = false := by decide) : Fre X i x := ⟨B.nm h (.inr (.inr v)) d1 d2⟩
theorem nce_dK {α : Type} {ks : List Key} {f : α → D} (h : ∀ x, (f x).nce = true) (xs : List α) : (D.dK ks (xs.map f)).nce = true := by simp only [D.nce]; exact nceA_map h xs
section
variable {ρ : Ro} {M : Mem} {post : List D → Prop} {j0 j1 j2 : Nat} {d0 d1 d2 : D}
theorem end1 (h0 : ρ[j0]? = some (some d0)) (p : post [d0]) : endP [j0] post (.nx ρ) M := ⟨[d0], rfl, fun n j d a b => by
  match n, a, b with
  | 0, a, b => cases a; cases b; exact h0, p⟩
end
section
variable {P : Program} {w : World} {K : Frag} {mg : Str → Option Value} {base : Heap} {α β : Type}
theorem FunT.gfM {x : Str} {st : Stmt} {ps : List Str} {k : Nat} {sp : Sp} (T : FunT K mg x st ps) (h : ∀ f fd, mg x = some (.ref f) → Fun K x x st f fd → FnOk P w K mg base (L2.CX P w) k f fd ps sp) : GF P w K mg base k x [] sp := by
  obtain ⟨f, fd, F, g, b⟩ := T
  exact ⟨f, fd, ps, [], [], g, F.kp, h f fd g F, b, .nil, fun _ => .nil⟩
/-- where the def hands back its inner def -/
def endE (js : List Nat) (encs : β → List D) (out : Ex β) : Out → Mem → Prop := endP js fun ds => ∃ r, out = .ok r ∧ ds = encs r
theorem fn_cloE {x qual : Str} {st ndf : Stmt} {f P0 : Addr} {fd : FuncData} {N ps fr : List Str} {k i : Nat} {js : List Nat} {prel : List Stmt} {name : Str} {npos rp rpos : Pos} {nm : Nat → Nat → Str} {args : α → List D} {F : α → Ex β} {encs : β → List D} {enc : β → D} (Fu : Fun K x qual st f fd) (S : FnScope N ps (defScope st)) (hl : ∀ a, (args a).length = ps.length)
    (L : CloLook st ndf prel name npos rp rpos N fr js i) (TBs : TabsB K base mg) (hcd : codeTab K f P0 = true) (hm : (P0, nm) ∈ tabT) (hu : ∀ p ∈ tabT, p.1 = P0 → p.2 = nm) (hn : nm npos.line npos.col = (envOfC qual (defScope st) 0 0 .none).qual ++ name)
    (he : ∀ r, enc r = .clo (NF.of ndf name ((envOfC qual (defScope st) 0 0 .none).qual ++ name) [] 0) fr (encs r))
    (body : ∀ X : Cx, X.prog = P → X.w = w → X.K = K → X.mg = mg → X.base = base → Bd X N (defScope st) k → Bf X → ∀ a out, F a = out → out ≠ .bad → DS X (kxE mg out) prel (startD N (args a)) [] (endE js encs out)) :
    FnOk P w K mg base (L2.CX P w) (k + 1) f fd ps (spE K mg args F enc) := by
  have h := fn_clo (ex := fun q cls fs => ∃ n, F q = .exc n fs ∧ mg n = some cls) (pre := fun q => F q ≠ .bad) (post := fun q ds => ∃ r, F q = .ok r ∧ ds = encs r) Fu S hl L TBs hcd hm hu hn fun X e1 e2 e3 e4 e5 B Fz a ha => body X e1 e2 e3 e4 e5 B Fz a _ rfl ha
  refine fnok_imp h fun vs H Q E ⟨q, H0, b1, b2, b3, b4, b5⟩ => ⟨q, H0, b1, b2, b3, fun v H' H0' d c1 c2 ⟨ds, e1, r, e2, e3⟩ => b4 v H' H0' d c1 c2 ⟨r, e2, ?_⟩, b5⟩
  rw [e1, e3, he]
/-- a made function that changes nothing and raises nothing -/
abbrev nspE (K : Frag) (args caps : α → List D) (F : α → Ex β) (enc : β → D) : List (Option V) → Sp := nspM K args caps (fun _ => []) (fun q => ∃ r, F q = .ok r) (fun q d _ => ∃ r, F q = .ok r ∧ d = enc r)
theorem fn_nE {G : NF} {N ps fr : List Str} {k : Nat} {args caps : α → List D} {F : α → Ex β} {enc : β → D} (S : NScope N ps fr G.scope) (hb : ∀ (cl : List (Str × Addr)) (c : Addr) (doc pm ctv : Value) (us : List Value), us.length = ps.length → bindArgs ((cloF G cl c).fd doc pm ctv) ⟨us, []⟩ = pure (ps.zip us))
    (hl : ∀ a, (args a).length = ps.length) (body : ∀ X : Cx, X.prog = P → X.w = w → X.K = K → X.mg = mg → X.base = base → Bd X N G.scope k → ∀ a out, F a = out → out ≠ .bad → DS X (kxE mg out) G.body (startD N (args a ++ caps a)) [] (retQ enc out)) :
    GClo P w K mg base (k + 1) G ps fr (nspE K args caps F enc) :=
  fn_n S hb hl fun X e1 e2 e3 e4 e5 B a ⟨r, hr⟩ => by
    have h := body X e1 e2 e3 e4 e5 B a _ hr (Ex.ok_ne r)
    refine (DS.onX (kx := kx0) h fun cls fs ρ M ⟨n, e, _⟩ => by cases e).imp fun o m hq => ?_
    cases o with
    | nx ρ => obtain ⟨r', h1, h2⟩ := hq; cases h1; exact ⟨r, hr, h2⟩
    | bk ρ => exact hq
    | ct ρ => exact hq
    | rt d => obtain ⟨r', h1, h2⟩ := hq; cases h1; exact ⟨r, hr, h2⟩
end
/-! ### the head with tables -/
def tabE (o : Option PySem.Obj) : Bool := match o with
  | some ⟨.none, none, .fields a, sl⟩ => a.size == 0 && sl.size == 0
  | _ => false
theorem tabE_ok {o : Option PySem.Obj} (h : tabE o = true) : o = some { cls := .none, data := .fields #[] } := by
  unfold tabE at h
  split at h
  · rename_i a sl
    simp only [Bool.and_eq_true, beq_iff_eq] at h
    have e1 : a = #[] := Array.eq_empty_of_size_eq_zero h.1
    have e2 : sl = #[] := Array.eq_empty_of_size_eq_zero h.2
    subst e1; subst e2; rfl
  · cases h
def obsHT (cl : List Str) (cs : List Chk) (fn : List DefD) (ts : List Addr) (g : Addr → Option PySem.Obj) : AlD × Bool := (obsHG cl cs fn g, ts.all fun P => tabE (g P) && ((frG g (gAll g cl fn)).lookup P).isNone)
def hookT (cl : List Str) (cs : List Chk) (fn : List DefD) (ts : List Addr) : PySem.W.Hook where
  α := AlD × Bool
  obs := fun s => obsHT cl cs fn ts s.heap.get?
  val := fun _ => (valD fn, true)
  says := fun _ h => ∃ K : Frag, K.In h ∧ SaysH cs fn K ∧ ∀ P ∈ ts, h.get? P = some { cls := .none, data := .fields #[] } ∧ K.lookup P = none
  of := fun _ _ e => ⟨_, frG_in, congrArg Prod.fst e, fun P hP => by
    have z := List.all_eq_true.mp (congrArg Prod.snd e) P hP
    obtain ⟨z1, z2⟩ := ba z
    exact ⟨tabE_ok z1, by simpa using z2⟩⟩
  keeps := fun _ _ _ ⟨K, hK, c, t⟩ k => ⟨K, PySem.W.Frag.In.keeps hK k, c, fun P hP => ⟨k _ _ (t P hP).1, (t P hP).2⟩⟩
theorem obsHT_eq {cl : List Str} {cs : List Chk} {fn : List DefD} {ts : List Addr} {g : Addr → Option PySem.Obj} {s : Shared} (h : ∀ a, g a = s.heap.get? a) : obsHT cl cs fn ts g = (hookT cl cs fn ts).obs s := by
  have e : g = s.heap.get? := funext h
  rw [e] <;> rfl
/-- the def's code object and its table -/
def tabB (x : Str) (P : Addr) : Chk := fun K => codeTab K (ga K x) P
theorem codeTab_ex {K : Frag} {f P : Addr} (h : codeTab K f P = true) : ∃ c, PySem.W.codeHdIn K c P = true := by
  unfold codeTab at h
  split at h
  · split at h
    · exact ⟨_, h⟩
    · cases h
  · cases h
def onlyA (H : Hp) (a : Addr) : Hp := fun b => if b = a then H a else none
theorem walkHT {l : PySem.W.OpenLaw} {k : Nat} {q : Program} {loose : List Str} {XP : (Str → Option Value) → Heap → Prop} {YP : World → Heap → Prop} {d : DefRec} {x : Str}
    (hn : l.most = some 63) (hdf : d.params.defaults = []) (hr : Room k callerA)
    (F : ∀ (w : World) (mg : Str → Option Value) (fa : Addr) (h : Heap), YP w h → h.Ns mainGlobals mg → mg d.name = some (.ref fa) →
      ∃ (K : Frag) (fd : FuncData), K.In h ∧ (∀ P ∈ tabT.map Prod.fst, h.get? P = some { cls := .none, data := .fields #[] } ∧ K.lookup P = none ∧ ∃ c, PySem.W.codeHdIn K c P = true) ∧ (∀ (s : Shared) (u : Value), BindsTo s fd ⟨[u], []⟩ [(x, u)]) ∧ ∀ base : Heap, K.In base → base.Ns mainGlobals mg → TabsB K base mg → FnOk l.prog w K mg base (L2.CX l.prog w) k fa fd [x] (spLaw K)) :
    PySem.W.WalkO q loose XP YP l.row.toRowW d [] (fun f vs => PySem.call f vs) := by
  refine Att.attach_call hn hdf fun w s₀ s₁ mg mb fa o pm cd doc a vs ns G Y ho hd hcd hmg hobj hints hlen hg => ?_
  obtain ⟨K, fd, KX, hT, hb, hF⟩ := F w mg fa _ Y G.T.g hmg
  obtain ⟨cs, e1, e2⟩ : ∃ cs : List (Addr × Addr), cs.map Prod.snd = tabT.map Prod.fst ∧ ∀ p ∈ cs, PySem.W.codeHdIn K p.1 p.2 = true := by
    have gen : ∀ ts : List Addr, (∀ P ∈ ts, ∃ c, PySem.W.codeHdIn K c P = true) → ∃ cs : List (Addr × Addr), cs.map Prod.snd = ts ∧ ∀ p ∈ cs, PySem.W.codeHdIn K p.1 p.2 = true := fun ts => by
      induction ts with
      | nil => intro _; exact ⟨[], rfl, by simp⟩
      | cons P ts ih =>
        intro h
        obtain ⟨c, hc⟩ := h P (by simp)
        obtain ⟨cs, i1, i2⟩ := ih fun P hP => h P (by simp [hP])
        exact ⟨(c, P) :: cs, by simp [i1], fun p hp => (List.mem_cons.mp hp).elim (fun z => by rw [z]; exact hc) (i2 p)⟩
    exact gen _ fun P hP => (hT P hP).2.2
  have inT : ∀ p ∈ cs, p.2 ∈ tabT.map Prod.fst := fun p hp => by rw [← e1]; exact List.mem_map.mpr ⟨p, hp, rfl⟩
  refine law_callTs (cs := cs) KX G.T.g G.T.b G.T.builtins G.T.nolimit hg (fun p hp => (hT _ (inT p hp)).1) (fun p hp => (hT _ (inT p hp)).2.1) (fun p hp => PySem.W.codeHd_of_K KX (e2 p hp)) G.T.bmain hobj hints (Nat.le_trans hlen (by decide)) hr (fun base KB NB TB => hF base KB NB fun c P hP hc => ?_) hb (fun H hH hS => ?_) fun H e s' h => by
    obtain ⟨_, _, _, _, _, _, _, _, _, _, _, _, z⟩ := h
    exact z
  · rw [← e1] at hP
    obtain ⟨p, hp, rfl⟩ := List.mem_map.mp hP
    have := TB p hp
    exact ⟨PySem.W.codeHd_of_K KB hc, this.bm, this.gP⟩
  · have hHT : ∀ P ∈ tabT.map Prod.fst, H P = some (.tbl #[]) := fun P hP => by
      rw [← e1] at hP
      obtain ⟨p, hp, rfl⟩ := List.mem_map.mp hP
      exact hH p hp
    have mk : ∀ H0 : Hp, Same H0 H → (∀ b ps, H0 b ≠ some (.tbl ps)) → SqL K H0 a (ns.map V.int) → spLaw K [.ref a] H (fun v _ => v = .bl true) fun _ _ _ => False := fun H0 sm nt sq =>
      ⟨ns, H0, ⟨sm, ⟨fun p hp => by
        have h1 := hHT p.1 (List.mem_map.mpr ⟨p, hp, rfl⟩)
        refine ⟨?_, TabN.nil h1⟩
        cases z : H0 p.1 with
        | none => rfl
        | some u =>
          have := sm _ _ z
          rw [h1] at this
          exact absurd (by rw [z, ← Option.some.inj this]) (nt p.1 #[]), nt⟩⟩, .cons (.scr sq (RepA.ofInts ns)) .nil, hlen, fun v H' H0' d _ r e => by subst e; cases r; rfl, fun _ _ _ _ _ _ _ z => z.elim⟩
    have ol : ∀ b o, onlyA H a b = some o → b = a ∧ H b = some o := fun b o e => by
      unfold onlyA at e
      split at e
      · rename_i z; subst z; exact ⟨rfl, e⟩
      · cases e
    have oa : onlyA H a a = H a := by unfold onlyA; rw [if_pos rfl]
    rcases hS with (h1 | ⟨ob, h1⟩) | h1
    · refine mk (onlyA H a) (fun b o e => (ol b o e).2) (fun b ps e => ?_) (.inl (.inl (by rw [oa]; exact h1)))
      obtain ⟨z, e2⟩ := ol b _ e
      rw [z, h1] at e2; cases e2
    · refine mk (onlyA H a) (fun b o e => (ol b o e).2) (fun b ps e => ?_) (.inl (.inr ⟨ob, by rw [oa]; exact h1⟩))
      obtain ⟨z, e2⟩ := ol b _ e
      rw [z, h1] at e2; cases e2
    · exact mk (fun _ => none) (fun _ _ e => by cases e) (fun _ _ e => by cases e) (.inr h1)
end Dl

namespace Lw
open PySem PySem.Spec PyProof.Rows L2 Dl
/-! ### what each def computes -/
def dk_LS (t : List Str) : D := .lst (t.map D.str)
def dk_N (t : Unit) : D := .non
def dk_LI (t : List Int) : D := .lst (t.map D.int)
def dk_T2SB (t : Str × Bool) : D := .tup [.str t.1, .bl t.2]
def dk_LT2SB (t : List (Str × Bool)) : D := .lst (t.map dk_T2SB)
def dk_RI (t : List Int) : D := .scr (t.map D.int)
def dk_RB (t : List Bool) : D := .scr (t.map D.bl)
def dk_T2SRB (t : Str × (List Bool)) : D := .tup [.str t.1, .scr (t.2.map D.bl)]
noncomputable def F_l_cell_at (script1 : List Int) (k2 : Int) : Ex Int := if (decide (k2 < (script1.length : Int))) = true then bindP (ixE script1 k2) fun x4 => .ok x4 else .ok 0
noncomputable def F_l_mixed (draw1 : Int) (k2 : Int) : Ex Int := letE (((((draw1 % 2147483629) + (69621 * k2)) + 1) * 48271) % 2147483629) fun number3 => gd (Dl.MulOk number3 ((number3 / 1009) + 69621)) (.ok ((number3 * ((number3 / 1009) + 69621)) % 2147483629))
noncomputable def F_l_mark (draw1 : Int) (k2 : Int) : Ex Str := letE ("abcdefghijklmnopqrstuvwxyz" : Str) fun some3 => bindP (F_l_mixed draw1 21) fun r5 => letE (r5 % 8) fun length7 => gd (RngOk length7) (gd ((rngD 0 length7.toNat).length ≤ 100000) (bindP (compE (fun (u10 : Int) => .ok true) (fun (u10 : Int) => bindP (F_l_mixed draw1 (23 + u10)) fun r12 => gd (some3.length ≤ 100000) (bindP (ixE some3.cps.toList (r12 % 26)) fun c15 => .ok (sg c15))) (rngD 0 length7.toNat)) fun ys18 => gd ((ys18.map (·.length)).sum + ys18.length * ("" : Str).length ≤ 16777216) (letE (Txt.join ("" : Str) ys18) fun body21 => bindP (F_l_mixed draw1 22) fun r23 => gd (0 < length7 + 1) (letE (r23 % (length7 + 1)) fun at26 => gd (body21.length ≤ 100000) (gd (some3.length ≤ 100000) (bindP (ixE some3.cps.toList (((draw1 / 3) + (7 * k2)) % 26)) fun c30 => gd (((cutS body21 none (some at26)).length + (sg c30).length : Nat) ≤ 100000) (gd (body21.length ≤ 100000) (gd ((((cutS body21 none (some at26)) ++ (sg c30)).length + (cutS body21 (some at26) none).length : Nat) ≤ 100000) (.ok (((cutS body21 none (some at26)) ++ (sg c30)) ++ (cutS body21 (some at26) none)))))))))))
noncomputable def F_l_words (draw1 : Int) : Ex (List Str) := bindP (F_l_mixed draw1 31) fun r3 => gd (RngOk (r3 % 7)) (bindX (foldE (fun (found6 : List Str) (x7 : Int) => bindP (F_l_mixed draw1 (32 + x7)) fun r9 => bindP (F_l_mark draw1 (r9 % 5)) fun r11 => bindP (F_l_mixed draw1 (40 + x7)) fun r13 => bindP (ixE [("" : Str), ("" : Str), ("-" : Str)] (r13 % 3)) fun x15 => gd ((x15.length + r11.length : Nat) ≤ 100000) (gd (found6.length ≤ 100000) (.ok (found6 ++ [x15 ++ r11])))) ([] : List Str) (rngD 0 (r3 % 7).toNat)) (fun (found19 : List Str) => .ok found19))
noncomputable def F_l_spoilt (text1 : Str) (draw2 : Int) : Ex D := bindP (F_l_mixed draw2 50) fun r3 => gd (text1.length ≤ 100000) (gd (0 < (text1.length : Int) + 1) (letE (r3 % ((text1.length : Int) + 1)) fun at7 => bindP (F_l_mixed draw2 51) fun r9 => letE (r9 % 12) fun way11 => if (decide (way11 = 0)) = true then gd (text1.length ≤ 100000) (bindP (F_l_mixed draw2 52) fun r15 => gd ((" -_A1x.\n" : Str).length ≤ 100000) (bindP (ixE (" -_A1x.\n" : Str).cps.toList (r15 % 8)) fun c18 => gd (((cutS text1 none (some at7)).length + (sg c18).length : Nat) ≤ 100000) (gd (text1.length ≤ 100000) (gd ((((cutS text1 none (some at7)) ++ (sg c18)).length + (cutS text1 (some at7) none).length : Nat) ≤ 100000) (.ok (.str (((cutS text1 none (some at7)) ++ (sg c18)) ++ (cutS text1 (some at7) none)) : D)))))) else if (decide (way11 = 1)) = true then gd (text1.length ≤ 100000) (gd (text1.length ≤ 100000) (gd (((cutS text1 none (some at7)).length + (cutS text1 (some (at7 + 1)) none).length : Nat) ≤ 100000) (.ok (.str ((cutS text1 none (some at7)) ++ (cutS text1 (some (at7 + 1)) none)) : D)))) else if (decide (way11 = 2)) = true then bindP (F_l_mixed draw2 52) fun r28 => bindP (ixE [(" " : Str), ("-" : Str), (" -" : Str), (" abcdefghi" : Str)] (r28 % 4)) fun x30 => gd ((text1.length + x30.length : Nat) ≤ 100000) (.ok (.str (text1 ++ x30) : D)) else if (decide (way11 = 3)) = true then bindP (F_l_mixed draw2 52) fun r34 => bindP (ixE [(.non : D), (.int 5 : D), (.lst ([("ab" : Str)].map D.str) : D), (.bl true : D)] (r34 % 4)) fun x36 => .ok x36 else .ok (.str text1 : D)))
noncomputable def F_l_parted (text1 : D) : Ex (Option (List (Str × Bool))) := gd (flatD text1) (if (!(dSel text1 false false false true false false)) = true then .ok none else gd (flatD text1) (gd (flatD (.str ("" : Str) : D)) (if (eqvD text1 (.str ("" : Str) : D)) = true then .ok (some ([] : List (Str × Bool))) else bindP (someE (asS text1)) fun s8 => gd (s8.length ≤ 100000) (bindX (loopE (ρ := Option (List (Str × Bool))) (fun (found11 : List (Str × Bool)) (x12 : Str) => gd (x12.length ≤ 100000) (jpE (fun (mark20 : Str) => bindP (orE (decide (mark20 = ("" : Str))) (gd (mark20.length ≤ 100000) (.ok (decide (8 < (mark20.length : Int)))))) fun b22 => if b22 = true then .ok (.rt none) else bindX (loopE (ρ := Option (List (Str × Bool))) (fun (_ : Unit) (x25 : Str) => gd (oneS x25) (if (!inSg x25 ("abcdefghijklmnopqrstuvwxyz" : Str)) = true then .ok (.rt none) else .ok (.nx ()))) () (sgs mark20)) fun c => ctE c (fun (_ : Unit) => gd (found11.length ≤ 100000) (.ok (.nx (found11 ++ [(mark20, decide (mark20 = x12))])))) (fun r33 => .ok (.rt r33))) fun jk16 => if (decide (cutS x12 none (some 1) = ("-" : Str))) = true then gd (x12.length ≤ 100000) (letE (cutS x12 (some 1) none) fun mark18 => jk16 mark18) else jk16 x12)) ([] : List (Str × Bool)) (Txt.split s8 (" " : Str))) fun c => ctE c (fun (found34 : List (Str × Bool)) => .ok (some found34)) (fun r38 => .ok r38)))))
noncomputable def F_is_word (thing1 : Str) (most2 : Int) : Ex Bool := bindP (orE (!true) (gd (thing1.length ≤ 100000) (.ok (!(decide (1 ≤ (thing1.length : Int)) && decide ((thing1.length : Int) ≤ most2)))))) fun b4 => if b4 = true then .ok false else gd ((sgs thing1).length ≤ 100000) (bindP (compE (fun (u7 : Str) => .ok true) (fun (u7 : Str) => gd (oneS u7) (.ok (inSg u7 ("abcdefghijklmnopqrstuvwxyz" : Str)))) (sgs thing1)) fun ys11 => .ok (ys11.all id))
noncomputable def F_is_mark (thing1 : Str) : Ex Bool := bindP (F_is_word thing1 8) fun r2 => .ok r2
noncomputable def F_sieve (text1 : D) : Ex (List (Str × (List Bool))) := gd (flatD text1) (if (!(dSel text1 false false false true false false)) = true then .exc "NoMark" [] else gd (flatD text1) (gd (flatD (.str ("" : Str) : D)) (jpE (fun (wanted42 : List (Str × (List Bool))) => .ok wanted42) fun jk10 => if (!(eqvD text1 (.str ("" : Str) : D))) = true then bindP (someE (asS text1)) fun s11 => gd (s11.length ≤ 100000) (bindX (foldE (fun (wanted14 : List (Str × List Bool)) (x17 : Str) => jpE (fun (mark24 : Str) => bindP (F_is_mark mark24) fun r25 => if (!r25) = true then .exc "NoMark" [] else gd (wanted14.length ≤ 90000) (bindP (someE (getA (setdA wanted14 mark24 []) mark24)) fun xs31 => gd (xs31.length ≤ 90000) (.ok (putA (setdA wanted14 mark24 []) mark24 (xs31 ++ [decide (mark24 = x17)]))))) fun jk20 => if (Txt.startswith x17 ("-" : Str)) = true then gd (x17.length ≤ 100000) (letE (cutS x17 (some 1) none) fun mark22 => jk20 mark22) else jk20 x17) ([] : List (Str × List Bool)) (Txt.split s11 (" " : Str))) (fun (wanted36 : List (Str × List Bool)) => jk10 wanted36)) else jk10 ([] : List (Str × List Bool)))))
noncomputable def F_l_refused (text1 : D) : Ex Bool := jpE (fun (_ : Unit) => .ok false) fun jk2 => tryE (bindX (F_sieve text1) fun r4 => .ok ()) jk2 [("NoMark", .ok (true && (!false)))]
noncomputable def F_sieve_2 (text1 : Str) : Ex (List (Str × (List Bool))) := if (!true) = true then .exc "NoMark" [] else jpE (fun (wanted37 : List (Str × (List Bool))) => .ok wanted37) fun jk7 => if (!decide (text1 = ("" : Str))) = true then gd (text1.length ≤ 100000) (bindX (foldE (fun (wanted9 : List (Str × List Bool)) (x12 : Str) => jpE (fun (mark19 : Str) => bindP (F_is_mark mark19) fun r20 => if (!r20) = true then .exc "NoMark" [] else gd (wanted9.length ≤ 90000) (bindP (someE (getA (setdA wanted9 mark19 []) mark19)) fun xs26 => gd (xs26.length ≤ 90000) (.ok (putA (setdA wanted9 mark19 []) mark19 (xs26 ++ [decide (mark19 = x12)]))))) fun jk15 => if (Txt.startswith x12 ("-" : Str)) = true then gd (x12.length ≤ 100000) (letE (cutS x12 (some 1) none) fun mark17 => jk15 mark17) else jk15 x12) ([] : List (Str × List Bool)) (Txt.split text1 (" " : Str))) (fun (wanted31 : List (Str × List Bool)) => jk7 wanted31)) else jk7 ([] : List (Str × List Bool))
noncomputable def F_l_marks (draw1 : Int) (one2 : Int) : Ex (List Str) := bindP (F_l_mixed draw1 3) fun r4 => gd (RngOk (r4 % 7)) (bindX (foldE (fun (found7 : List Str) (x8 : Int) => bindP (F_l_mixed draw1 (4 + x8)) fun r10 => bindP (F_l_mark one2 (r10 % 6)) fun r12 => jpE (fun (found17 : List Str) => .ok found17) fun jk15 => if (!decide (r12 ∈ found7)) = true then gd (found7.length ≤ 100000) (jk15 (found7 ++ [r12])) else jk15 found7) ([] : List Str) (rngD 0 (r4 % 7).toNat)) (fun (found18 : List Str) => .ok found18))
noncomputable def F_sieve_lets (marks1 : List Str) (wanted2 : List (Str × (List Bool))) : Ex Bool := bindX (loopE (ρ := Bool) (fun (_ : Unit) (x3 : Str × (List Bool)) => bindX (loopE (ρ := Bool) (fun (_ : Unit) (x5 : Bool) => if (!decide (decide (x3.1 ∈ marks1) = x5)) = true then .ok (.rt false) else .ok (.nx ())) () x3.2) fun c => ctE c (fun (_ : Unit) => .ok (.nx ())) (fun r11 => .ok (.rt r11))) () wanted2) fun c => ctE c (fun (_ : Unit) => .ok true) (fun r15 => .ok r15)
noncomputable def F_l_due (words1 : List (Str × Bool)) (marks2 : List Str) : Ex Bool := gd (words1.length ≤ 100000) (.ok ((words1.map (fun (u3 : Str × Bool) => decide (decide (u3.1 ∈ marks2) = u3.2))).all id))
noncomputable def F_l_same (found1 : Bool) (due2 : Bool) : Ex Bool := .ok (true && (decide (found1 = due2)))
noncomputable def F_l_parted_2 (text1 : Str) : Ex (Option (List (Str × Bool))) := if (!true) = true then .ok none else if (decide (text1 = ("" : Str))) = true then .ok (some ([] : List (Str × Bool))) else gd (text1.length ≤ 100000) (bindX (loopE (ρ := Option (List (Str × Bool))) (fun (found6 : List (Str × Bool)) (x7 : Str) => gd (x7.length ≤ 100000) (jpE (fun (mark15 : Str) => bindP (orE (decide (mark15 = ("" : Str))) (gd (mark15.length ≤ 100000) (.ok (decide (8 < (mark15.length : Int)))))) fun b17 => if b17 = true then .ok (.rt none) else bindX (loopE (ρ := Option (List (Str × Bool))) (fun (_ : Unit) (x20 : Str) => gd (oneS x20) (if (!inSg x20 ("abcdefghijklmnopqrstuvwxyz" : Str)) = true then .ok (.rt none) else .ok (.nx ()))) () (sgs mark15)) fun c => ctE c (fun (_ : Unit) => gd (found6.length ≤ 100000) (.ok (.nx (found6 ++ [(mark15, decide (mark15 = x7))])))) (fun r28 => .ok (.rt r28))) fun jk11 => if (decide (cutS x7 none (some 1) = ("-" : Str))) = true then gd (x7.length ≤ 100000) (letE (cutS x7 (some 1) none) fun mark13 => jk11 mark13) else jk11 x7)) ([] : List (Str × Bool)) (Txt.split text1 (" " : Str))) fun c => ctE c (fun (found29 : List (Str × Bool)) => .ok (some found29)) (fun r33 => .ok r33))
noncomputable def F_law (script1 : List Int) : Ex Bool := bindP (F_l_cell_at script1 0) fun r2 => bindP (F_l_words r2) fun r4 => gd ((r4.map (·.length)).sum + r4.length * (" " : Str).length ≤ 16777216) (bindP (F_l_cell_at script1 1) fun r7 => bindP (F_l_spoilt (Txt.join (" " : Str) r4) r7) fun r9 => bindP (F_l_parted r9) fun r11 => if r11.isNone = true then bindP (F_l_refused r9) fun r14 => .ok r14 else bindP (F_l_cell_at script1 2) fun r16 => bindP (F_l_words r16) fun r18 => bindX (F_sieve r9) fun lets20 => gd ((r18.map (·.length)).sum + r18.length * (" " : Str).length ≤ 16777216) (bindX (F_sieve_2 (Txt.join (" " : Str) r18)) fun beside23 => gd (((cutD' script1 (some 3) (some 13)).length + (cutD' script1 (some 3) (some 4)).length : Nat) ≤ 100000) (bindX (loopE (ρ := Bool) (fun (_ : Unit) (x26 : Int) => bindP (F_l_cell_at script1 2) fun r28 => bindP (ixE [r2, r28] (x26 % 2)) fun x30 => bindP (F_l_marks x26 x30) fun r32 => bindP (F_sieve_lets r32 lets20) fun r34 => bindP (someE r11) fun words36 => bindP (F_l_due words36 r32) fun r38 => bindP (F_l_same r34 r38) fun r40 => bindP (orE (!r40) (gd (layD (.lst (r32.map D.str))) (gd (layD (.lst (r32.map D.str))) (.ok (!decide (r32 = r32)))))) fun b44 => if b44 = true then .ok (.rt false) else bindP (F_sieve_lets r32 beside23) fun r47 => gd ((r18.map (·.length)).sum + r18.length * (" " : Str).length ≤ 16777216) (bindP (F_l_parted_2 (Txt.join (" " : Str) r18)) fun r50 => bindP (someE r50) fun o52 => bindP (F_l_due o52 r32) fun r54 => bindP (F_l_same r47 r54) fun r56 => if (!r56) = true then .ok (.rt false) else .ok (.nx ()))) () ((cutD' script1 (some 3) (some 13)) ++ (cutD' script1 (some 3) (some 4)))) fun c => ctE c (fun (_ : Unit) => bindP (F_sieve_lets ([] : List Str) lets20) fun r59 => bindP (someE r11) fun words61 => bindP (F_l_due words61 ([] : List Str)) fun r63 => bindP (F_l_same r59 r63) fun r65 => .ok r65) (fun r70 => .ok r70))))
end Lw
namespace Lw
open PySem PySem.Spec PyProof.Rows L2 Dl
/-! ### texts that are words of small letters -/
def small : Str := "abcdefghijklmnopqrstuvwxyz"
/-- from one to so many small letters -/
def WordIs (n : Nat) (s : Str) : Prop := 1 ≤ s.length ∧ s.length ≤ n ∧ ∀ c ∈ s.cps.toList, c ∈ small.cps.toList
instance (n : Nat) (s : Str) : Decidable (WordIs n s) := by unfold WordIs; exact inferInstance
theorem is_word_ok {s : Str} {n : Nat} (hl : s.length ≤ 100000) : F_is_word s (n : Int) = .ok (decide (WordIs n s)) := by
  unfold F_is_word
  refine Ret.eq (Ret.eqP (a := !(decide (1 ≤ (s.length : Int)) && decide ((s.length : Int) ≤ (n : Int)))) ?_ ?_)
  · show gd _ _ = _
    rw [gd_ok hl]
  by_cases c : 1 ≤ s.length ∧ s.length ≤ n
  · refine Ret.f (by simp; omega) (Ret.gd (by rw [sgs_len]; exact hl) (Ret.map (fun u => inSg u small) (fun u hu => ?_) (Ret.ok ?_)))
    · obtain ⟨z, hz, rfl⟩ := List.mem_map.mp hu
      rw [gd_ok (oneS_sg z)]; rfl
    · rw [Bool.eq_iff_iff, decide_eq_true_eq]
      unfold WordIs sgs
      simp only [List.all_map, List.all_eq_true, Function.comp_def, id]
      constructor
      · intro h
        exact ⟨c.1, c.2, fun z hz => by have := h z hz; rw [inSg_sg] at this; simpa using this⟩
      · intro h z hz
        rw [inSg_sg]; simpa using h.2.2 z hz
  · refine Ret.t (by simp; omega) (Ret.ok ?_)
    exact (decide_eq_false fun z => c ⟨z.1, z.2.1⟩).symm
theorem is_mark_ok {s : Str} (hl : s.length ≤ 100000) : F_is_mark s = .ok (decide (WordIs 8 s)) := by
  unfold F_is_mark
  exact Ret.eq (Ret.eqP (is_word_ok (n := 8) hl) (Ret.ok rfl))
end Lw

namespace Lw
open PySem PySem.Spec PyProof.Rows L2 Dl
/-! ### sums -/
def sm {α : Type} (f : α → Int) (xs : List α) : Int := (xs.map f).sum
section
variable {α : Type} {f g : α → Int} {xs ys : List α}
end
end Lw

-- use base
namespace Lw
open PySem PySem.Spec PyProof.Rows L2 Dl
/-! ### dicts as lists of pairs -/
section
variable {κ β : Type} [DecidableEq κ]
/-- what stands at a key made anew -/
def upA (xs : List (κ × β)) (k : κ) (f : Option β → β) : List (κ × β) := putA xs k (f (getA xs k))
theorem getA_putA (xs : List (κ × β)) (k : κ) (v : β) (j : κ) : getA (putA xs k v) j = if k = j then some v else getA xs j := by
  have hm : ∀ (xs : List (κ × β)), getA (xs.map fun q => if q.1 = k then (q.1, v) else q) j = if k = j then (getA xs j).map (fun _ => v) else getA xs j := fun xs => by
    induction xs with
    | nil => simp [getA_nil]
    | cons q xs ih =>
      rw [List.map_cons, getA_cons, getA_cons, ih]
      by_cases h : q.1 = k
      · rw [if_pos h]
        dsimp only
        by_cases h2 : k = j
        · rw [if_pos (h.trans h2), if_pos h2, if_pos (h.trans h2)]; rfl
        · rw [if_neg (fun z => h2 (h.symm.trans z)), if_neg h2, if_neg (fun z => h2 (h.symm.trans z)), if_neg h2]
      · rw [if_neg h]
        by_cases h2 : q.1 = j
        · rw [if_pos h2, if_pos h2, if_neg (fun z => h (h2.trans z.symm))]
        · rw [if_neg h2, if_neg h2]
  have ha : ∀ (xs ys : List (κ × β)), getA (xs ++ ys) j = (getA xs j).orElse fun _ => getA ys j := fun xs ys => by
    induction xs with
    | nil => simp [getA_nil]
    | cons q xs ih =>
      rw [List.cons_append, getA_cons, getA_cons, ih]
      by_cases h : q.1 = j
      · rw [if_pos h, if_pos h]; rfl
      · rw [if_neg h, if_neg h]
  unfold putA
  rw [getA_any]
  split
  · rename_i h
    rw [hm]
    split
    · rename_i e
      subst e
      obtain ⟨b, hb⟩ := Option.isSome_iff_exists.mp h
      rw [hb]; rfl
    · rfl
  · rename_i h
    have hn : getA xs k = none := by simpa using h
    rw [ha, getA_cons, getA_nil]
    split
    · rename_i e
      subst e
      rw [hn]; rfl
    · cases getA xs j <;> rfl
theorem keys_putA (xs : List (κ × β)) (k : κ) (v : β) : (putA xs k v).map Prod.fst = if (getA xs k).isSome = true then xs.map Prod.fst else xs.map Prod.fst ++ [k] := by
  unfold putA
  rw [getA_any]
  split
  · rw [List.map_map]
    refine List.map_congr_left fun q _ => ?_
    show (if q.1 = k then (q.1, v) else q).1 = q.1
    split <;> rfl
  · rw [List.map_append]; rfl
theorem getA_none {xs : List (κ × β)} {k : κ} : getA xs k = none ↔ k ∉ xs.map Prod.fst := by
  induction xs with
  | nil => simp [getA_nil]
  | cons q xs ih =>
    rw [getA_cons]
    by_cases h : q.1 = k
    · simp [h]
    · rw [if_neg h, ih]
      simp only [List.map_cons, List.mem_cons, not_or]
      exact ⟨fun z => ⟨fun e => h e.symm, z⟩, fun z => z.2⟩
/-- each key once -/
def Uq (xs : List (κ × β)) : Prop := (xs.map Prod.fst).Nodup
theorem uq_nil : Uq ([] : List (κ × β)) := List.nodup_nil
theorem Uq.put {xs : List (κ × β)} (h : Uq xs) (k : κ) (v : β) : Uq (putA xs k v) := by
  unfold Uq
  rw [keys_putA]
  split
  · exact h
  · rename_i q
    have : getA xs k = none := by simpa using q
    exact List.nodup_append.mpr ⟨h, by simp, fun a ha b hb e => by
      obtain rfl := List.mem_singleton.mp hb
      subst e
      exact (getA_none.mp this) ha⟩
theorem Uq.up {xs : List (κ × β)} (h : Uq xs) (k : κ) (f : Option β → β) : Uq (upA xs k f) := h.put k _
theorem getA_mem {xs : List (κ × β)} (h : Uq xs) {k : κ} {v : β} : getA xs k = some v ↔ (k, v) ∈ xs := by
  induction xs with
  | nil => simp [getA_nil]
  | cons q xs ih =>
    have h' : (q.1 :: xs.map Prod.fst).Nodup := h
    obtain ⟨h1, h2⟩ := List.nodup_cons.mp h'
    rw [getA_cons, List.mem_cons]
    by_cases e : q.1 = k
    · rw [if_pos e]
      constructor
      · intro z; cases z; left; rw [← e]
      · rintro (z | z)
        · rw [← z]
        · exact absurd (List.mem_map.mpr ⟨_, z, rfl⟩) (by rw [← e]; exact h1)
    · rw [if_neg e, ih h2]
      constructor
      · exact .inr
      · rintro (z | z)
        · exact absurd (congrArg Prod.fst z).symm e
        · exact z
theorem Uq.nd {xs : List (κ × β)} (h : Uq xs) : xs.Nodup := (List.pairwise_map.mp h).imp fun h e => h (congrArg Prod.fst e)
/-- first laid with a value, then put -/
theorem put_setd (xs : List (κ × β)) (k : κ) (z v : β) : putA (setdA xs k z) k v = putA xs k v := by
  unfold setdA
  split
  · rfl
  · rename_i h
    have hn : getA xs k = none := by simpa using h
    have e : putA xs k z = xs ++ [(k, z)] := by
      unfold putA; rw [getA_any, hn]; rfl
    have e2 : putA xs k v = xs ++ [(k, v)] := by
      unfold putA; rw [getA_any, hn]; rfl
    rw [e, e2]
    unfold putA
    rw [if_pos (by simp), List.map_append]
    congr 1
    · have hk := getA_none.mp hn
      conv => rhs; rw [← List.map_id xs]
      refine List.map_congr_left fun q hq => ?_
      rw [if_neg (fun e => hk (List.mem_map.mpr ⟨q, hq, e⟩))]; rfl
    · simp
theorem get_setd (xs : List (κ × β)) (k : κ) (z : β) : getA (setdA xs k z) k = some ((getA xs k).getD z) := by
  unfold setdA
  split
  · rename_i h
    obtain ⟨b, hb⟩ := Option.isSome_iff_exists.mp h
    rw [hb]; rfl
  · rename_i h
    have hn : getA xs k = none := by simpa using h
    rw [getA_putA, if_pos rfl, hn]; rfl
end
end Lw

namespace Lw
open PySem PySem.Spec PyProof.Rows L2 Dl
theorem cutS_to {b : List Nat} {i : Int} (h0 : 0 ≤ i) (h : i ≤ b.length) : cutS ⟨b.toArray⟩ none (some i) = ⟨(b.take i.toNat).toArray⟩ := by
  obtain ⟨n, rfl⟩ := Int.eq_ofNat_of_zero_le h0
  unfold cutS
  rw [HT.sIx_nat, HT.sIx_none]
  have l : (⟨b.toArray⟩ : Str).length = b.length := by simp [Str.length]
  rw [l, show min n b.length - 0 = n by omega]
  rfl
theorem cutS_from {b : List Nat} {i : Int} (h0 : 0 ≤ i) (h : i ≤ b.length) : cutS ⟨b.toArray⟩ (some i) none = ⟨(b.drop i.toNat).toArray⟩ := by
  obtain ⟨n, rfl⟩ := Int.eq_ofNat_of_zero_le h0
  unfold cutS
  rw [HT.sIx_nat, HT.sIx_none]
  have l : (⟨b.toArray⟩ : Str).length = b.length := by simp [Str.length]
  rw [l, show min n b.length = n by omega]
  show (⟨(List.take (b.length - n) (List.drop n b)).toArray⟩ : Str) = _
  rw [List.take_of_length_le (by rw [List.length_drop]; omega)]
  rfl
end Lw

-- use cuts
-- use words
namespace Lw
open PySem PySem.Spec PyProof.Rows L2 Dl
/-! ### names and marks as the laws of books draw them -/
def mixN (c k : Int) : Int := (c % 2147483629 + 69621 * k + 1) * 48271 % 2147483629
def mixV (c k : Int) : Int := mixN c k * (mixN c k / 1009 + 69621) % 2147483629
theorem mixV_b (c k : Int) : 0 ≤ mixV c k ∧ mixV c k < 2147483629 := by
  unfold mixV
  generalize mixN c k * (mixN c k / 1009 + 69621) = y
  omega
theorem mixed_eq (c k : Int) : F_l_mixed c k = .ok (mixV c k) := by
  unfold F_l_mixed
  refine Ret.eq (Ret.letE fun n hn => Ret.gd (mok_l (by omega) (by omega)) (Ret.ok ?_))
  rw [hn]; rfl
theorem small_cps : small.cps.toList = [97, 98, 99, 100, 101, 102, 103, 104, 105, 106, 107, 108, 109, 110, 111, 112, 113, 114, 115, 116, 117, 118, 119, 120, 121, 122] := by decide +kernel
theorem small_len : small.length = 26 := by
  have := congrArg List.length small_cps
  simpa [Str.length] using this
def lett (i : Int) : Nat := i.toNat + 97
theorem lett_ok {i : Int} (h0 : 0 ≤ i) (h : i < 26) : ixE small.cps.toList i = .ok (lett i) := by
  refine ixE_nat h0 ?_
  rw [small_cps]
  obtain ⟨n, rfl⟩ := Int.eq_ofNat_of_zero_le h0
  have h' : n < 26 := by omega
  have : ∀ n < 26, ([97, 98, 99, 100, 101, 102, 103, 104, 105, 106, 107, 108, 109, 110, 111, 112, 113, 114, 115, 116, 117, 118, 119, 120, 121, 122] : List Nat)[n]? = some (n + 97) := by decide
  exact this n h'
theorem lett_in {i : Int} (h0 : 0 ≤ i) (h : i < 26) : lett i ∈ small.cps.toList := by
  rw [small_cps]
  obtain ⟨n, rfl⟩ := Int.eq_ofNat_of_zero_le h0
  have h' : n < 26 := by omega
  have : ∀ n < 26, n + 97 ∈ ([97, 98, 99, 100, 101, 102, 103, 104, 105, 106, 107, 108, 109, 110, 111, 112, 113, 114, 115, 116, 117, 118, 119, 120, 121, 122] : List Nat) := by decide
  exact this n h'
def spell (b : List Nat) (at_ : Nat) (x : Nat) : Str := ⟨(b.take at_ ++ [x] ++ b.drop at_).toArray⟩
theorem spell_len {b : List Nat} {p x : Nat} : (spell b p x).length = b.length + 1 := by
  show (b.take p ++ [x] ++ b.drop p).toArray.size = _
  simp; omega
theorem spell_word {b : List Nat} {p : Nat} {x n : Nat} (hb : ∀ u ∈ b, u ∈ small.cps.toList) (hx : x ∈ small.cps.toList) (hl : b.length + 1 ≤ n) : WordIs n (spell b p x) := by
  refine ⟨by rw [spell_len]; omega, by rw [spell_len]; exact hl, fun c hc => ?_⟩
  have hc' : c ∈ b.take p ++ [x] ++ b.drop p := by simpa [spell] using hc
  rcases List.mem_append.mp hc' with h | h
  · rcases List.mem_append.mp h with h | h
    · exact hb c (List.mem_of_mem_take h)
    · obtain rfl : c = x := by simpa using h
      exact hx
  · exact hb c (List.mem_of_mem_drop h)
theorem join_sg (cs : List Nat) : Txt.join ("" : Str) (cs.map sg) = ⟨cs.toArray⟩ := by
  show Builtin.Str.glued _ _ = _
  rw [StrLaws.glued_eq_join]
  have e0 : ("" : Str) = ⟨#[]⟩ := by decide +kernel
  rw [e0]
  induction cs with
  | nil => rfl
  | cons a r ih =>
    cases r with
    | nil => rfl
    | cons b r =>
      show sg a ++ ⟨#[]⟩ ++ Str.join ⟨#[]⟩ ((b :: r).map sg) = _
      rw [ih]
      show (⟨(#[a] ++ #[]) ++ (b :: r).toArray⟩ : Str) = _
      simp
def bodyV (c a n : Int) : List Nat := (rngD 0 n.toNat).map fun j => lett (mixV c (a + j) % 26)
theorem body_in (c a n : Int) : ∀ u ∈ bodyV c a n, u ∈ small.cps.toList := fun u hu => by
  obtain ⟨j, _, rfl⟩ := List.mem_map.mp hu
  exact lett_in (by omega) (by omega)
theorem body_len (c a : Int) {n : Int} (h : 0 ≤ n) : ((bodyV c a n).length : Int) = n := by
  unfold bodyV; rw [List.length_map, rngD_length]; omega
theorem sum_ones (cs : List Nat) : ((cs.map sg).map (·.length)).sum = cs.length := by
  induction cs with
  | nil => rfl
  | cons a r ih =>
    simp only [List.map_cons, List.sum_cons, List.length_cons]
    rw [ih]
    show 1 + r.length = _
    omega
end Lw

-- use names
namespace Lw
open PySem PySem.Spec PyProof.Rows L2 Dl
def markV (c k : Int) : Str := spell (bodyV c 23 (mixV c 21 % 8)) (mixV c 22 % (mixV c 21 % 8 + 1)).toNat (lett ((c / 3 + 7 * k) % 26))
theorem mark_word (c k : Int) : WordIs 8 (markV c k) := by
  have b1 := mixV_b c 21
  have := body_len c 23 (n := mixV c 21 % 8) (by omega)
  exact spell_word (body_in _ _ _) (lett_in (by omega) (by omega)) (by omega)
theorem mark_ok (c k : Int) : F_l_mark c k = .ok (markV c k) := by
  have b1 := mixV_b c 21
  unfold F_l_mark
  have lb := body_len c 23 (n := mixV c 21 % 8) (by omega)
  have b2 := mixV_b c 22
  have h0 := Int.emod_nonneg (mixV c 22) (show mixV c 21 % 8 + 1 ≠ 0 by omega)
  have h1 := Int.emod_lt_of_pos (mixV c 22) (show 0 < mixV c 21 % 8 + 1 by omega)
  refine Ret.eq (Ret.letI (Ret.eqP (mixed_eq c 21) (Ret.letI (Ret.gd ⟨by omega, by omega⟩ (Ret.gd (by rw [rngD_length]; omega) (Ret.map (fun j => sg (lett (mixV c (23 + j) % 26))) (fun j _ => ?_) ?_))))))
  · rw [mixed_eq]
    refine Ret.eq (Ret.gd (by rw [show ("abcdefghijklmnopqrstuvwxyz" : Str).length = 26 from small_len]; omega) (Ret.eqP (lett_ok (by omega) (by omega)) (Ret.ok rfl)))
  · have em : ((rngD 0 (mixV c 21 % 8).toNat).map fun j => sg (lett (mixV c (23 + j) % 26))) = (bodyV c 23 (mixV c 21 % 8)).map sg := by
      unfold bodyV; rw [List.map_map]; rfl
    rw [em]
    have ls : ∀ xs : List Nat, (⟨xs.toArray⟩ : Str).length = xs.length := fun xs => by simp [Str.length]
    have lsg : ∀ n, (sg n).length = 1 := fun _ => rfl
    have la : ∀ a b : Str, (a ++ b).length = a.length + b.length := fun a b => by show (a.cps ++ b.cps).size = _; simp [Str.length]
    have ez : ("" : Str).length = 0 := by decide +kernel
    have e26 : ("abcdefghijklmnopqrstuvwxyz" : Str).length = 26 := small_len
    refine Ret.gd (by rw [sum_ones, ez]; omega) (Ret.letI (Ret.eqP (mixed_eq c 22) (Ret.gd (by omega) (Ret.letI ?_))))
    rw [join_sg]
    have c1 := cutS_to (b := bodyV c 23 (mixV c 21 % 8)) h0 (by omega)
    have c2 := cutS_from (b := bodyV c 23 (mixV c 21 % 8)) h0 (by omega)
    refine Ret.gd (by rw [ls]; omega) (Ret.gd (by rw [e26]; omega) (Ret.eqP (lett_ok (by omega) (by omega)) ?_))
    rw [c1, c2]
    refine Ret.gd (by rw [lsg, ls, List.length_take]; omega) (Ret.gd (by rw [ls]; omega) (Ret.gd (by rw [la, lsg, ls, ls, List.length_take, List.length_drop]; omega) (Ret.ok ?_)))
    show (⟨((bodyV c 23 (mixV c 21 % 8)).take _).toArray ++ #[_] ++ ((bodyV c 23 (mixV c 21 % 8)).drop _).toArray⟩ : Str) = spell _ _ _
    unfold spell
    simp
end Lw

-- use base
namespace Lw
open PySem PySem.Spec PyProof.Rows L2 Dl
theorem cell_at_ret (s : List Int) {k : Int} (h : 0 ≤ k) : Ret (F_l_cell_at s k) fun _ => True := by
  unfold F_l_cell_at
  exact Ret.iteD (fun c => Ret.ix h c fun _ _ => Ret.ok trivial) fun _ => Ret.ok trivial
end Lw

-- use words
-- use assoc
-- use names
-- use marks
-- use cell
namespace Lw
open PySem PySem.Spec PyProof.Rows L2 Dl
/-! ### texts cut at spaces -/
theorem cut_free {c : Nat} : ∀ {a b a' b' : List Nat}, c ∉ a → c ∉ b → a ++ c :: a' = b ++ c :: b' → a = b ∧ a' = b'
  | [], [], _, _, _, _, h => ⟨rfl, by simpa using h⟩
  | [], y :: b, _, _, _, hb, h => by
    simp only [List.nil_append, List.cons_append, List.cons.injEq] at h
    exact absurd (by rw [h.1]; simp) hb
  | x :: a, [], _, _, ha, _, h => by
    simp only [List.nil_append, List.cons_append, List.cons.injEq] at h
    exact absurd (by rw [← h.1]; simp) ha
  | x :: a, y :: b, _, _, ha, hb, h => by
    simp only [List.cons_append, List.cons.injEq] at h
    obtain ⟨e1, e2⟩ := cut_free (fun z => ha (List.mem_cons_of_mem _ z)) (fun z => hb (List.mem_cons_of_mem _ z)) h.2
    exact ⟨by rw [h.1, e1], e2⟩
def jl (c : Nat) : List (List Nat) → List Nat
  | [] => []
  | [x] => x
  | x :: y :: r => x ++ c :: jl c (y :: r)
theorem jl_inj {c : Nat} : ∀ {xs ys : List (List Nat)}, xs ≠ [] → ys ≠ [] → (∀ x ∈ xs, c ∉ x) → (∀ y ∈ ys, c ∉ y) → jl c xs = jl c ys → xs = ys
  | [], _, h, _, _, _, _ => absurd rfl h
  | _ :: _, [], _, h, _, _, _ => absurd rfl h
  | [x], [y], _, _, _, _, e => by
    have : x = y := e
    rw [this]
  | [x], y :: y' :: r, _, _, hx, _, e => by
    have e' : x = y ++ c :: jl c (y' :: r) := e
    exact absurd (by rw [e']; simp) (hx x (by simp))
  | x :: x' :: r, [y], _, _, _, hy, e => by
    have e' : x ++ c :: jl c (x' :: r) = y := e
    exact absurd (by rw [← e']; simp) (hy y (by simp))
  | x :: x' :: r, y :: y' :: s, _, _, hx, hy, e => by
    obtain ⟨e1, e2⟩ := cut_free (hx x (by simp)) (hy y (by simp)) (show x ++ c :: jl c (x' :: r) = y ++ c :: jl c (y' :: s) from e)
    have := jl_inj (xs := x' :: r) (ys := y' :: s) (by simp) (by simp) (fun z hz => hx z (List.mem_cons_of_mem _ hz)) (fun z hz => hy z (List.mem_cons_of_mem _ hz)) e2
    rw [e1, this]
theorem join_jl (c : Nat) : ∀ xs : List Str, (Str.join ⟨#[c]⟩ xs).cps.toList = jl c (xs.map fun x => x.cps.toList)
  | [] => rfl
  | [x] => rfl
  | x :: y :: r => by
    have ih := join_jl c (y :: r)
    show ((x.cps ++ #[c]) ++ (Str.join ⟨#[c]⟩ (y :: r)).cps).toList = _
    rw [Array.toList_append, Array.toList_append, ih]
    show x.cps.toList ++ [c] ++ jl c _ = x.cps.toList ++ c :: jl c _
    simp
theorem sp_eq : (" " : Str) = ⟨#[32]⟩ := by decide +kernel
theorem txt_join (s : Str) (ws : List Str) : Txt.join s ws = Str.join s ws := by
  show Builtin.Str.glued _ _ = _
  rw [StrLaws.glued_eq_join]
theorem split_join {ws : List Str} (h : ws ≠ []) (hf : ∀ w ∈ ws, 32 ∉ w.cps.toList) : Txt.split (Txt.join (" " : Str) ws) (" " : Str) = ws := by
  rw [sp_eq, txt_join]
  have e3 := congrArg (fun s : Str => s.cps.toList) (StrLaws.join_split (Str.join ⟨#[32]⟩ ws) ⟨#[32]⟩)
  have e3' : (Str.join ⟨#[32]⟩ (Txt.split (Str.join ⟨#[32]⟩ ws) ⟨#[32]⟩)).cps.toList = (Str.join ⟨#[32]⟩ ws).cps.toList := e3
  rw [join_jl, join_jl] at e3'
  have ne : Txt.split (Str.join ⟨#[32]⟩ ws) ⟨#[32]⟩ ≠ [] := fun z => by
    have := split_pos (Str.join ⟨#[32]⟩ ws) ⟨#[32]⟩
    rw [z] at this; simp at this
  have e4 := jl_inj (by simpa using ne) (by simpa using h) (fun x hx => by
    obtain ⟨w, hw, rfl⟩ := List.mem_map.mp hx
    exact StrLaws.split_free _ _ w hw) (fun x hx => by
    obtain ⟨w, hw, rfl⟩ := List.mem_map.mp hx
    exact hf w hw) e3'
  exact (List.map_inj_right fun x y h => by cases x; cases y; exact congrArg Str.mk (Array.toList_inj.mp h)).mp e4
theorem part_len {s w : Str} (h : w ∈ Txt.split s (" " : Str)) : w.length ≤ s.length := part_short h
theorem parts_len (s : Str) : (Txt.split s (" " : Str)).length ≤ s.length + 2 := split_le _ _
/-! ### a word's mark -/
theorem dash_eq : ("-" : Str) = ⟨#[45]⟩ := by decide +kernel
theorem starts_iff (w : Str) : Txt.startswith w ("-" : Str) = decide (w.cps.toList[0]? = some 45) := by
  rw [dash_eq]
  unfold Txt.startswith
  rw [Bool.eq_iff_iff, Bool.and_eq_true, decide_eq_true_eq, decide_eq_true_eq]
  exact StrLaws.subAt_one w 45 0
theorem cut_iff (w : Str) : decide (cutS w none (some 1) = ("-" : Str)) = Txt.startswith w ("-" : Str) := by
  rw [starts_iff, dash_eq]
  obtain ⟨b, rfl⟩ : ∃ b : List Nat, w = ⟨b.toArray⟩ := ⟨w.cps.toList, by cases w; rfl⟩
  refine decide_eq_decide.mpr ?_
  cases b with
  | nil =>
    refine ⟨fun h => ?_, fun h => by cases h⟩
    revert h; decide +kernel
  | cons x t =>
    rw [cutS_to (i := 1) (by decide) (by simp only [List.length_cons]; omega)]
    show (⟨[x].toArray⟩ : Str) = ⟨#[45]⟩ ↔ some x = some 45
    constructor
    · intro h
      have := congrArg (fun s : Str => s.cps.toList) h
      simpa using this
    · intro h
      cases h; rfl
def mkOf (w : Str) : Str := if Txt.startswith w ("-" : Str) = true then cutS w (some 1) none else w
def wayOf (w : Str) : Bool := decide (mkOf w = w)
theorem cutS1_len (w : Str) : (cutS w (some 1) none).length ≤ w.length := by
  obtain ⟨b, rfl⟩ : ∃ b : List Nat, w = ⟨b.toArray⟩ := ⟨w.cps.toList, by cases w; rfl⟩
  cases b with
  | nil => decide +kernel
  | cons x t =>
    rw [cutS_from (i := 1) (by decide) (by simp only [List.length_cons]; omega)]
    show (((x :: t).drop 1).toArray).size ≤ (x :: t).toArray.size
    simp
theorem mkOf_len (w : Str) : (mkOf w).length ≤ w.length := by
  unfold mkOf
  split
  · exact cutS1_len w
  · exact Nat.le_refl _
def okWs (ws : List Str) : Prop := ∀ w ∈ ws, WordIs 8 (mkOf w)
instance (ws : List Str) : Decidable (okWs ws) := by unfold okWs; exact inferInstance
theorem okWs_nil : okWs [] := fun w h => by cases h
theorem okWs_cons {w : Str} {ws : List Str} (h : WordIs 8 (mkOf w)) (h2 : okWs ws) : okWs (w :: ws) := fun x hx => (List.mem_cons.mp hx).elim (fun z => by rw [z]; exact h) (h2 x)
def mwOf (ws : List Str) : List (Str × Bool) := ws.map fun w => (mkOf w, wayOf w)
/-! ### parted -/
noncomputable def partF (found : List (Str × Bool)) (x : Str) : Ex (Ct (List (Str × Bool)) (Option (List (Str × Bool)))) := gd (x.length ≤ 100000) (jpE (fun (mark : Str) => Dl.bindP (orE (decide (mark = ("" : Str))) (gd (mark.length ≤ 100000) (.ok (decide (8 < (mark.length : Int)))))) fun b => if b = true then .ok (.rt none) else Dl.bindX (loopE (ρ := Option (List (Str × Bool))) (fun (_ : Unit) (u : Str) => gd (oneS u) (if (!inSg u ("abcdefghijklmnopqrstuvwxyz" : Str)) = true then .ok (.rt none) else .ok (.nx ()))) () (sgs mark)) fun c => ctE c (fun (_ : Unit) => gd (found.length ≤ 100000) (.ok (.nx (found ++ [(mark, decide (mark = x))])))) (fun r => .ok (.rt r))) fun jk => if (decide (cutS x none (some 1) = ("-" : Str))) = true then gd (x.length ≤ 100000) (letE (cutS x (some 1) none) fun mark => jk mark) else jk x)
theorem empty_len {s : Str} : s = ("" : Str) ↔ s.length = 0 := by
  have e : ("" : Str) = ⟨#[]⟩ := by decide +kernel
  rw [e]
  constructor
  · intro h; subst h; rfl
  · intro h
    cases s with
    | mk a => exact congrArg Str.mk (Array.eq_empty_of_size_eq_zero h)
theorem signs_loop {ρ : Type} (r0 : ρ) : ∀ cs : List Nat, loopE (ρ := ρ) (fun (_ : Unit) (u : Str) => gd (oneS u) (if (!inSg u ("abcdefghijklmnopqrstuvwxyz" : Str)) = true then .ok (.rt r0) else .ok (.nx ()))) () (cs.map sg) = .ok (if ∀ c ∈ cs, c ∈ small.cps.toList then .nx () else .rt r0)
  | [] => by rw [if_pos (by simp)]; rfl
  | c :: cs => by
    have ih := signs_loop r0 cs
    rw [List.map_cons, loopE_cons, gd_ok (oneS_sg c), inSg_sg]
    by_cases h : c ∈ small.cps.toList
    · rw [if_neg (by rw [show decide (c ∈ (("abcdefghijklmnopqrstuvwxyz" : Str)).cps.toList) = true from decide_eq_true h]; decide)]
      show loopE _ () _ = _
      rw [ih]
      by_cases h2 : ∀ c ∈ cs, c ∈ small.cps.toList
      · rw [if_pos h2, if_pos (fun x hx => (List.mem_cons.mp hx).elim (fun z => by rw [z]; exact h) (h2 x))]
      · rw [if_neg h2, if_neg (fun z => h2 fun x hx => z x (List.mem_cons_of_mem _ hx))]
    · rw [if_pos (by rw [show decide (c ∈ (("abcdefghijklmnopqrstuvwxyz" : Str)).cps.toList) = false from decide_eq_false h]; decide)]
      rw [if_neg (fun z => h (z c (by simp)))]
      rfl
theorem partF_ok {found : List (Str × Bool)} {x : Str} (hx : x.length ≤ 100000) (hf : found.length ≤ 100000) : partF found x = .ok (if WordIs 8 (mkOf x) then .nx (found ++ [(mkOf x, wayOf x)]) else .rt none) := by
  have key : ∀ m : Str, m = mkOf x → (Dl.bindP (orE (decide (m = ("" : Str))) (gd (m.length ≤ 100000) (.ok (decide (8 < (m.length : Int)))))) fun b => if b = true then (.ok (.rt none) : Ex (Ct (List (Str × Bool)) (Option (List (Str × Bool))))) else Dl.bindX (loopE (ρ := Option (List (Str × Bool))) (fun (_ : Unit) (u : Str) => gd (oneS u) (if (!inSg u ("abcdefghijklmnopqrstuvwxyz" : Str)) = true then .ok (.rt none) else .ok (.nx ()))) () (sgs m)) fun c => ctE c (fun (_ : Unit) => gd (found.length ≤ 100000) (.ok (.nx (found ++ [(m, decide (m = x))])))) (fun r => .ok (.rt r))) = .ok (if WordIs 8 (mkOf x) then .nx (found ++ [(mkOf x, wayOf x)]) else .rt none) := fun m e => by
    have lm := mkOf_len x
    rw [← e] at lm
    unfold wayOf
    rw [← e]
    by_cases h0 : m = ("" : Str)
    · rw [decide_eq_true h0, if_neg (fun w => by have := w.1; rw [empty_len.mp h0] at this; omega)]
      rfl
    · have l1 : m.length ≠ 0 := fun z => h0 (empty_len.mpr z)
      rw [decide_eq_false h0]
      show Dl.bindP (gd _ _) _ = _
      rw [gd_ok (by omega)]
      by_cases h8 : m.length ≤ 8
      · rw [decide_eq_false (by omega)]
        show Dl.bindX (loopE _ () (m.cps.toList.map sg)) _ = _
        rw [signs_loop]
        by_cases hs : ∀ c ∈ m.cps.toList, c ∈ small.cps.toList
        · rw [if_pos hs, if_pos ⟨by omega, h8, hs⟩]
          show gd _ _ = _
          rw [gd_ok hf]
        · rw [if_neg hs, if_neg (fun w => hs w.2.2)]
          rfl
      · rw [decide_eq_true (by omega), if_neg (fun w => h8 w.2.1)]
        rfl
  unfold partF
  rw [gd_ok hx]
  show (if _ then _ else _) = _
  rw [cut_iff]
  by_cases hs : Txt.startswith x ("-" : Str) = true
  · rw [if_pos hs, gd_ok hx]
    exact key _ (by unfold mkOf; rw [if_pos hs])
  · rw [if_neg hs]
    exact key _ (by unfold mkOf; rw [if_neg hs])
theorem parts_ok : ∀ (ws : List Str) (found : List (Str × Bool)), (∀ w ∈ ws, w.length ≤ 100000) → found.length + ws.length ≤ 100000 → loopE partF found ws = .ok (if okWs ws then .nx (found ++ mwOf ws) else .rt none)
  | [], found, _, _ => by
    rw [if_pos okWs_nil]
    show _ = Ex.ok (Ct.nx (found ++ []))
    rw [List.append_nil]; rfl
  | w :: ws, found, h1, h2 => by
    have l2 : found.length + (ws.length + 1) ≤ 100000 := h2
    rw [loopE_cons, partF_ok (h1 w (by simp)) (by omega)]
    by_cases h : WordIs 8 (mkOf w)
    · rw [if_pos h]
      show loopE partF _ ws = _
      rw [parts_ok ws _ (fun x hx => h1 x (List.mem_cons_of_mem _ hx)) (by rw [List.length_append]; simp only [List.length_cons, List.length_nil]; omega)]
      by_cases h2 : okWs ws
      · rw [if_pos h2, if_pos (okWs_cons h h2)]
        show Ex.ok (Ct.nx (found ++ [(mkOf w, wayOf w)] ++ mwOf ws)) = Ex.ok (Ct.nx (found ++ (mkOf w, wayOf w) :: mwOf ws))
        rw [List.append_assoc]; rfl
      · rw [if_neg h2, if_neg (fun z => h2 fun x hx => z x (List.mem_cons_of_mem _ hx))]
    · rw [if_neg h, if_neg (fun z => h (z w (by simp)))]
      rfl
def partV (s : Str) : Option (List (Str × Bool)) := if s = ("" : Str) then some [] else if okWs (Txt.split s (" " : Str)) then some (mwOf (Txt.split s (" " : Str))) else none
/-! ### sieve -/
noncomputable def sieveF (wanted : List (Str × List Bool)) (x : Str) : Ex (List (Str × List Bool)) := jpE (fun (mark : Str) => Dl.bindP (F_is_mark mark) fun r => if (!r) = true then .exc "NoMark" [] else gd (wanted.length ≤ 90000) (Dl.bindP (someE (getA (setdA wanted mark []) mark)) fun xs => gd (xs.length ≤ 90000) (.ok (putA (setdA wanted mark []) mark (xs ++ [decide (mark = x)]))))) fun jk => if (Txt.startswith x ("-" : Str)) = true then gd (x.length ≤ 100000) (letE (cutS x (some 1) none) fun mark => jk mark) else jk x
def grpF (w : List (Str × List Bool)) (x : Str) : List (Str × List Bool) := putA w (mkOf x) ((getA w (mkOf x)).getD [] ++ [wayOf x])
structure GrH (n : Nat) (w : List (Str × List Bool)) : Prop where
  u : Uq w
  l : w.length ≤ n
  e : ∀ p ∈ w, p.2.length ≤ n
theorem GrH.get {n : Nat} {w : List (Str × List Bool)} (h : GrH n w) (k : Str) : ((getA w k).getD []).length ≤ n := by
  cases e : getA w k with
  | none => simp
  | some v => exact h.e _ ((getA_mem h.u).mp e)
theorem GrH.put {n : Nat} {w : List (Str × List Bool)} (h : GrH n w) (x : Str) : GrH (n + 1) (grpF w x) := by
  refine ⟨h.u.put _ _, ?_, fun p hp => ?_⟩
  · have := putA_len w (mkOf x) ((getA w (mkOf x)).getD [] ++ [wayOf x])
    have := h.l
    unfold grpF
    omega
  · have hp' := (getA_mem (h.u.put _ _)).mpr (show (p.1, p.2) ∈ grpF w x from hp)
    unfold grpF at hp'
    rw [getA_putA] at hp'
    split at hp'
    · rw [← Option.some.inj hp']
      have := h.get (mkOf x)
      rw [List.length_append]
      simp only [List.length_cons, List.length_nil]
      omega
    · have : p.2.length ≤ n := h.e _ ((getA_mem h.u).mp hp')
      omega
theorem sieveF_ok {n : Nat} {w : List (Str × List Bool)} {x : Str} (h : GrH n w) (hn : n ≤ 90000) (hx : x.length ≤ 100000) : sieveF w x = if WordIs 8 (mkOf x) then .ok (grpF w x) else .exc "NoMark" [] := by
  have key : ∀ m : Str, m = mkOf x → (Dl.bindP (F_is_mark m) fun r => if (!r) = true then (.exc "NoMark" [] : Ex (List (Str × List Bool))) else gd (w.length ≤ 90000) (Dl.bindP (someE (getA (setdA w m []) m)) fun xs => gd (xs.length ≤ 90000) (.ok (putA (setdA w m []) m (xs ++ [decide (m = x)]))))) = if WordIs 8 (mkOf x) then .ok (grpF w x) else .exc "NoMark" [] := fun m e => by
    have lm := mkOf_len x
    rw [← e] at lm
    unfold grpF wayOf
    rw [← e, is_mark_ok (by omega)]
    by_cases hw : WordIs 8 m
    · rw [if_pos hw]
      show (if (!decide (WordIs 8 m)) = true then _ else _) = _
      rw [decide_eq_true hw]
      show gd _ _ = _
      have := h.l
      have := h.get m
      rw [gd_ok (by omega), get_setd]
      show gd _ _ = _
      rw [gd_ok (by omega), put_setd]
    · rw [if_neg hw]
      show (if (!decide (WordIs 8 m)) = true then _ else _) = _
      rw [decide_eq_false hw]
      rfl
  unfold sieveF
  show (if _ then _ else _) = _
  by_cases hs : Txt.startswith x ("-" : Str) = true
  · rw [if_pos hs, gd_ok hx]
    exact key _ (by unfold mkOf; rw [if_pos hs])
  · rw [if_neg hs]
    exact key _ (by unfold mkOf; rw [if_neg hs])
theorem sieve_loop : ∀ (ws : List Str) (w : List (Str × List Bool)) (n : Nat), GrH n w → n + ws.length ≤ 90000 → (∀ x ∈ ws, x.length ≤ 100000) → foldE sieveF w ws = if okWs ws then .ok (ws.foldl grpF w) else .exc "NoMark" []
  | [], w, n, _, _, _ => by rw [if_pos okWs_nil]; rfl
  | x :: ws, w, n, h, hn, hl => by
    have hn' : n + (ws.length + 1) ≤ 90000 := hn
    rw [foldE_cons, sieveF_ok h (by omega) (hl x (by simp))]
    by_cases hx : WordIs 8 (mkOf x)
    · rw [if_pos hx]
      show foldE sieveF _ ws = _
      rw [sieve_loop ws _ (n + 1) (h.put x) (by omega) fun y hy => hl y (List.mem_cons_of_mem _ hy)]
      by_cases h2 : okWs ws
      · rw [if_pos h2, if_pos (okWs_cons hx h2)]
        rfl
      · rw [if_neg h2, if_neg (fun z => h2 fun y hy => z y (List.mem_cons_of_mem _ hy))]
    · rw [if_neg hx, if_neg (fun z => hx (z x (by simp)))]
      rfl
def grp (s : Str) : List (Str × List Bool) := if s = ("" : Str) then [] else (Txt.split s (" " : Str)).foldl grpF []
/-- what a sieve lets -/
def letsV (G : List (Str × List Bool)) (ms : List Str) : Bool := decide (∀ p ∈ G, ∀ b ∈ p.2, decide (p.1 ∈ ms) = b)
def dueV (ws : List (Str × Bool)) (ms : List Str) : Bool := decide (∀ p ∈ ws, decide (p.1 ∈ ms) = p.2)
theorem grp_all (ms : List Str) : ∀ (ws : List Str) (w : List (Str × List Bool)), Uq w → ((∀ p ∈ ws.foldl grpF w, ∀ b ∈ p.2, decide (p.1 ∈ ms) = b) ↔ (∀ p ∈ w, ∀ b ∈ p.2, decide (p.1 ∈ ms) = b) ∧ ∀ p ∈ mwOf ws, decide (p.1 ∈ ms) = p.2)
  | [], w, _ => by simp [mwOf]
  | x :: ws, w, u => by
    have u2 : Uq (grpF w x) := u.put _ _
    show (∀ p ∈ ws.foldl grpF (grpF w x), _) ↔ _ ∧ ∀ p ∈ (mkOf x, wayOf x) :: mwOf ws, _
    rw [grp_all ms ws _ u2, List.forall_mem_cons]
    have one : (∀ p ∈ grpF w x, ∀ b ∈ p.2, decide (p.1 ∈ ms) = b) ↔ (∀ p ∈ w, ∀ b ∈ p.2, decide (p.1 ∈ ms) = b) ∧ decide (mkOf x ∈ ms) = wayOf x := by
      constructor
      · intro h
        have hm := h (mkOf x, (getA w (mkOf x)).getD [] ++ [wayOf x]) ((getA_mem u2).mp (by unfold grpF; rw [getA_putA, if_pos rfl]))
        refine ⟨fun p hp b hb => ?_, hm _ (by simp)⟩
        by_cases e : mkOf x = p.1
        · rw [← e]
          have g : getA w p.1 = some p.2 := (getA_mem u).mpr hp
          refine hm b (List.mem_append_left _ ?_)
          rw [e, g]; exact hb
        · exact h p ((getA_mem u2).mp (by unfold grpF; rw [getA_putA, if_neg e]; exact (getA_mem u).mpr hp)) b hb
      · intro ⟨h1, h2⟩ p hp b hb
        have g := (getA_mem u2).mpr (show (p.1, p.2) ∈ grpF w x from hp)
        unfold grpF at g
        rw [getA_putA] at g
        split at g
        · rename_i e
          have g' := Option.some.inj g
          rw [← g'] at hb
          rcases List.mem_append.mp hb with z | z
          · cases y : getA w (mkOf x) with
            | none => rw [y] at z; cases z
            | some v =>
              rw [y] at z
              have := h1 _ ((getA_mem u).mp y) b z
              rw [← e]; exact this
          · obtain rfl : b = wayOf x := by simpa using z
            rw [← e]; exact h2
        · exact h1 p ((getA_mem u).mp g) b hb
    rw [one, and_assoc]
theorem lets_due {s : Str} (ms : List Str) : letsV (grp s) ms = dueV (if s = ("" : Str) then [] else mwOf (Txt.split s (" " : Str))) ms := by
  unfold letsV dueV grp
  by_cases h : s = ("" : Str)
  · rw [if_pos h, if_pos h]; simp
  · rw [if_neg h, if_neg h]
    refine decide_eq_decide.mpr ?_
    rw [grp_all ms _ _ (by unfold Uq; simp)]
    simp
end Lw

-- use words
namespace Lw
open PySem PySem.Spec PyProof.Rows L2 Dl
theorem word_strOk {n : Nat} {s : Str} (h : WordIs n s) : PyData.strOk s = true := by
  show s.cps.all (fun x => decide (x < 0x110000)) = true
  rw [← Array.all_toList, List.all_eq_true]
  intro c hc
  have := h.2.2 c hc
  rw [show small.cps.toList = [97, 98, 99, 100, 101, 102, 103, 104, 105, 106, 107, 108, 109, 110, 111, 112, 113, 114, 115, 116, 117, 118, 119, 120, 121, 122] by decide +kernel] at this
  have k : ∀ c ∈ ([97, 98, 99, 100, 101, 102, 103, 104, 105, 106, 107, 108, 109, 110, 111, 112, 113, 114, 115, 116, 117, 118, 119, 120, 121, 122] : List Nat), decide (c < 0x110000) = true := by decide
  exact k c this
theorem lay_words {n : Nat} {xs : List Str} (h : ∀ x ∈ xs, WordIs n x) : layD (.lst (xs.map D.str)) := by
  unfold layD
  have k : PyData.canLayAll0 (D.pyA (xs.map D.str)) = true := by
    induction xs with
    | nil => simp [D.pyA, PyData.canLayAll0]
    | cons x xs ih =>
      simp only [List.map_cons, D.pyA, PyData.canLayAll0, D.py, PyData.canLay0, Bool.and_eq_true]
      exact ⟨word_strOk (h x (by simp)), ih fun y hy => h y (by simp [hy])⟩
  simp only [D.py, PyData.canLay0]
  exact k
end Lw

-- use sieves
-- use lays
namespace Lw
open PySem PySem.Spec PyProof.Rows L2 Dl
/-! ### texts of few plain characters -/
def Few (n : Nat) (s : Str) : Prop := s.length ≤ n ∧ ∀ c ∈ s.cps.toList, c < 128
theorem Few.flat {n : Nat} {s : Str} (h : Few n s) : Dl.flatD (.str s) := by
  refine ⟨by simp [D.flat], ?_⟩
  unfold SeqAt.shaped
  have e : PyData.canLay0 (D.py (.str s)) = true := by
    show s.cps.all (fun x => decide (x < 0x110000)) = true
    rw [← Array.all_toList, List.all_eq_true]
    intro c hc
    have := h.2 c hc
    exact decide_eq_true (by omega)
  rw [e, Bool.true_and]
  simp [D.py, PyData.depth]
theorem eqv_strS (a b : Str) : eqvD (.str a) (.str b) = decide (a = b) := by
  show PyData.eqv (D.py (.str a)) (D.py (.str b)) = _
  simp only [D.py, PyData.eqv]
  by_cases h : a = b
  · simp [h]
  · simp [h]
theorem Few.mono {n m : Nat} {s : Str} (h : Few n s) (l : n ≤ m) : Few m s := ⟨by have := h.1; omega, h.2⟩
theorem app_lenS (a b : Str) : (a ++ b).length = a.length + b.length := by show (a.cps ++ b.cps).size = _; simp [Str.length]
theorem Few.app {n m k : Nat} {s t : Str} (h : Few n s) (g : Few m t) (l : n + m ≤ k) : Few k (s ++ t) := by
  refine ⟨by rw [app_lenS]; have := h.1; have := g.1; omega, fun c hc => ?_⟩
  have hc' : c ∈ (s.cps ++ t.cps).toList := hc
  rw [Array.toList_append] at hc'
  exact (List.mem_append.mp hc').elim (h.2 c) (g.2 c)
theorem Few.cut {n : Nat} {s : Str} (h : Few n s) (a b : Option Int) : Few n (cutS s a b) := by
  unfold cutS
  refine ⟨?_, fun c hc => ?_⟩
  · show ((List.take _ (List.drop _ s.cps.toList)).toArray).size ≤ n
    have := h.1
    unfold Str.length at this
    rw [List.size_toArray, List.length_take, List.length_drop, Array.length_toList]
    omega
  · have hc' : c ∈ List.take (HT.sIx s.length s.length b - HT.sIx s.length 0 a) (List.drop (HT.sIx s.length 0 a) s.cps.toList) := by simpa using hc
    exact h.2 c (List.mem_of_mem_drop (List.mem_of_mem_take hc'))
theorem Few.sg {c : Nat} (h : c < 128) : Few 1 (sg c) := ⟨Nat.le_refl _, fun x hx => by
  obtain rfl : x = c := by simpa [Dl.sg] using hx
  exact h⟩
theorem few_empty : Few 0 ("" : Str) := ⟨by decide +kernel, by decide +kernel⟩
theorem small_in {c : Nat} (h : c ∈ small.cps.toList) : 97 ≤ c ∧ c ≤ 122 := by
  rw [small_cps] at h
  simp only [List.mem_cons, List.not_mem_nil, or_false] at h
  omega
structure WdOk (w : Str) : Prop where
  f : Few 9 w
  s : 32 ∉ w.cps.toList
  m : WordIs 8 (mkOf w)
theorem wd_plain {m : Str} (h : WordIs 8 m) : WdOk m := by
  refine ⟨⟨by have := h.2.1; omega, fun c hc => by have := small_in (h.2.2 c hc); omega⟩, fun z => by have := small_in (h.2.2 _ z); omega, ?_⟩
  unfold mkOf
  rw [if_neg (fun z => ?_)]
  · exact h
  · rw [starts_iff, decide_eq_true_eq] at z
    have := small_in (h.2.2 _ (List.mem_of_getElem? z))
    omega
theorem dash_app (m : Str) : ("-" : Str) ++ m = ⟨(45 :: m.cps.toList).toArray⟩ := by
  rw [dash_eq]
  refine congrArg Str.mk (Array.toList_inj.mp ?_)
  rw [Array.toList_append]
  rfl
theorem wd_dash {m : Str} (h : WordIs 8 m) : WdOk (("-" : Str) ++ m) := by
  have e := dash_app m
  have k : mkOf (("-" : Str) ++ m) = m := by
    unfold mkOf
    rw [if_pos (by rw [starts_iff, e]; rfl), e, cutS_from (i := 1) (by decide) (by simp only [List.length_cons]; omega)]
    cases m; rfl
  refine ⟨?_, ?_, by rw [k]; exact h⟩
  · refine Few.app (n := 1) (m := 8) ⟨by decide +kernel, by decide +kernel⟩ ⟨h.2.1, fun c hc => by have := small_in (h.2.2 c hc); omega⟩ (by omega)
  · rw [e]
    intro z
    have z' : 32 ∈ 45 :: m.cps.toList := z
    rcases List.mem_cons.mp z' with y | y
    · cases y
    · have := small_in (h.2.2 _ y); omega
theorem nil_app (m : Str) : ("" : Str) ++ m = m := by
  have e0 : ("" : Str) = ⟨#[]⟩ := by decide +kernel
  rw [e0]
  cases m with
  | mk a =>
    show (⟨#[] ++ a⟩ : Str) = _
    simp
theorem words_ret (c : Int) : Ret (F_l_words c) fun ws => ws.length ≤ 6 ∧ ∀ w ∈ ws, WdOk w := by
  unfold F_l_words
  have b := mixV_b c 31
  refine Ret.eqP (mixed_eq c 31) (Ret.gd ⟨by omega, by omega⟩ (Ret.fold (fun j ws => ws.length = j ∧ ∀ w ∈ ws, WdOk w) ⟨rfl, by simp⟩ (fun j z x hx ⟨l, hz⟩ => ?_) fun z ⟨l, hz⟩ => Ret.ok ⟨by rw [rngD_length] at l; omega, hz⟩))
  have hj : j < (rngD 0 (mixV c 31 % 7).toNat).length := (List.getElem?_eq_some_iff.mp hx).1
  rw [rngD_length] at hj
  have b2 := mixV_b c (40 + x)
  have hm := mark_word c (mixV c (32 + x) % 5)
  refine Ret.eqP (mixed_eq c _) (Ret.eqP (mark_ok c _) (Ret.eqP (mixed_eq c _) (Ret.ixM (by omega) (by simp only [List.length_cons, List.length_nil]; omega) fun y hy => ?_)))
  have hd : WdOk (y ++ markV c (mixV c (32 + x) % 5)) := by
    simp only [List.mem_cons, List.not_mem_nil, or_false] at hy
    rcases hy with rfl | rfl | rfl
    · rw [nil_app]; exact wd_plain hm
    · rw [nil_app]; exact wd_plain hm
    · exact wd_dash hm
  have l9 := hd.f.1
  rw [app_lenS] at l9
  refine Ret.gd (by omega) (Ret.gd (by omega) (Ret.ok ⟨by rw [List.length_append]; simp [l], fun w hw => ?_⟩))
  rcases List.mem_append.mp hw with hw | hw
  · exact hz w hw
  · rw [List.mem_singleton.mp hw]; exact hd
theorem few_join {ws : List Str} (l : ws.length ≤ 6) (h : ∀ w ∈ ws, WdOk w) : Few 60 (Txt.join (" " : Str) ws) ∧ (ws.map (·.length)).sum + ws.length * (" " : Str).length ≤ 60 := by
  have e1 : (" " : Str).length = 1 := by decide +kernel
  have b : (ws.map (·.length)).sum ≤ ws.length * 9 := StrLaws.sumLen_le ws fun y hy => (h y hy).f.1
  have s : (ws.map (·.length)).sum + ws.length * (" " : Str).length ≤ 60 := by rw [e1]; omega
  refine ⟨⟨?_, fun c hc => ?_⟩, s⟩
  · rw [txt_join]
    have := StrLaws.join_length_le (" " : Str) ws
    omega
  · rw [txt_join, sp_eq, join_jl] at hc
    have gen : ∀ xs : List (List Nat), (∀ x ∈ xs, ∀ c ∈ x, c < 128) → ∀ c ∈ jl 32 xs, c < 128 := fun xs => by
      induction xs with
      | nil => intro _ c hc; cases hc
      | cons x xs ih =>
        intro hx c hc
        cases xs with
        | nil => exact hx x (by simp) c hc
        | cons y r =>
          have hc' : c ∈ x ++ 32 :: jl 32 (y :: r) := hc
          rcases List.mem_append.mp hc' with z | z
          · exact hx x (by simp) c z
          · rcases List.mem_cons.mp z with z | z
            · omega
            · exact ih (fun w hw => hx w (List.mem_cons_of_mem _ hw)) c z
    refine gen _ (fun x hx => ?_) c hc
    obtain ⟨w, hw, rfl⟩ := List.mem_map.mp hx
    exact (h w hw).f.2
/-! ### the texts that are handed on -/
def Spo (d : D) : Prop := (∃ t, d = .str t ∧ Few 80 t) ∨ (Dl.flatD d ∧ dSel d false false false true false false = false)
theorem spo_str {t : Str} (h : Few 80 t) : Spo (.str t) := .inl ⟨t, rfl, h⟩
theorem few_lit {n : Nat} {s : Str} (h : decide (s.length ≤ n ∧ ∀ c ∈ s.cps.toList, c < 128) = true) : Few n s := of_decide_eq_true (p := s.length ≤ n ∧ ∀ c ∈ s.cps.toList, c < 128) h
theorem few_signs {c : Nat} (h : c ∈ (" -_A1x.\n" : Str).cps.toList) : Few 1 (sg c) := Few.sg ((by decide +kernel : ∀ c ∈ (" -_A1x.\n" : Str).cps.toList, c < 128) c h)
theorem spoilt_ret {s : Str} (h : Few 60 s) (c : Int) : Ret (F_l_spoilt s c) Spo := by
  have hl := h.1
  have b0 := mixV_b c 50
  have b1 := mixV_b c 51
  have b2 := mixV_b c 52
  have k8 : (" -_A1x.\n" : Str).cps.toList.length = 8 := by decide +kernel
  have k8' : (" -_A1x.\n" : Str).length = 8 := by decide +kernel
  have c60 : ∀ a b, (cutS s a b).length ≤ 60 := fun a b => (h.cut a b).1
  unfold F_l_spoilt
  refine Ret.eqP (mixed_eq c 50) (Ret.gd (by omega) (Ret.gd (by omega) (Ret.letE fun at_ hat => Ret.eqP (mixed_eq c 51) (Ret.letE fun way hway => Ret.iteD (fun _ => ?_) fun _ => Ret.iteD (fun _ => ?_) fun _ => Ret.iteD (fun _ => ?_) fun _ => Ret.iteD (fun _ => ?_) fun _ => Ret.ok (spo_str (h.mono (by omega)))))))
  · refine Ret.gd (by omega) (Ret.eqP (mixed_eq c 52) (Ret.gd (by omega) (Ret.ixM (by omega) (by rw [k8]; omega) fun u hu => ?_)))
    have f1 := few_signs hu
    have g1 : Few 61 (cutS s none (some at_) ++ sg u) := (h.cut _ _).app f1 (by omega)
    have lu : (sg u).length = 1 := rfl
    have := c60 none (some at_)
    have := c60 (some at_) none
    have := g1.1
    refine Ret.gd (by omega) (Ret.gd (by omega) (Ret.gd (by omega) (Ret.ok (.inl ⟨_, rfl, ?_⟩))))
    have e : cutS s none (some at_) ++ sg u ++ cutS s (some at_) none = cutS s none (some at_) ++ sg u ++ cutS s (some at_) none := rfl
    by_cases q : (cutS s none (some at_)).length + (cutS s (some at_) none).length ≤ 60
    · refine ⟨?_, ((h.cut _ _).app f1 (Nat.le_refl _) |>.app (h.cut _ _) (Nat.le_refl _)).2⟩
      rw [app_lenS, app_lenS]; omega
    · exfalso
      apply q
      have h0 := Int.emod_nonneg (mixV c 50) (show (s.length : Int) + 1 ≠ 0 by omega)
      have h1 := Int.emod_lt_of_pos (mixV c 50) (show 0 < (s.length : Int) + 1 by omega)
      obtain ⟨b, rfl⟩ : ∃ b : List Nat, s = ⟨b.toArray⟩ := ⟨s.cps.toList, by cases s; rfl⟩
      have lb : (⟨b.toArray⟩ : Str).length = b.length := by simp [Str.length]
      rw [lb] at h0 h1 hl hat
      rw [cutS_to (by omega) (by omega), cutS_from (by omega) (by omega)]
      show (List.take _ b).toArray.size + (List.drop _ b).toArray.size ≤ 60
      rw [List.size_toArray, List.size_toArray, List.length_take, List.length_drop]
      omega
  · have := c60 none (some at_)
    have := c60 (some (at_ + 1)) none
    refine Ret.gd (by omega) (Ret.gd (by omega) (Ret.gd (by omega) (Ret.ok (.inl ⟨_, rfl, ?_⟩))))
    refine ⟨?_, ((h.cut none (some at_)).app (h.cut (some (at_ + 1)) none) (Nat.le_refl _)).2⟩
    have h0 := Int.emod_nonneg (mixV c 50) (show (s.length : Int) + 1 ≠ 0 by omega)
    have h1 := Int.emod_lt_of_pos (mixV c 50) (show 0 < (s.length : Int) + 1 by omega)
    rw [app_lenS]
    have q : (cutS s (some (at_ + 1)) none).length ≤ 60 - at_.toNat := by
      unfold cutS
      show ((List.take _ (List.drop _ s.cps.toList)).toArray).size ≤ _
      obtain ⟨n, hn⟩ := Int.eq_ofNat_of_zero_le (show 0 ≤ at_ + 1 by omega)
      rw [List.size_toArray, List.length_take, List.length_drop, Array.length_toList, hn, HT.sIx_nat, HT.sIx_none]
      unfold Str.length at *
      omega
    have q2 : (cutS s none (some at_)).length ≤ at_.toNat := by
      unfold cutS
      show ((List.take _ (List.drop _ s.cps.toList)).toArray).size ≤ _
      obtain ⟨n, hn⟩ := Int.eq_ofNat_of_zero_le (show 0 ≤ at_ by omega)
      rw [List.size_toArray, List.length_take, List.length_drop, Array.length_toList, hn, HT.sIx_nat, HT.sIx_none]
      unfold Str.length at *
      omega
    omega
  · refine Ret.eqP (mixed_eq c 52) (Ret.ixM (by omega) (by simp only [List.length_cons, List.length_nil]; omega) fun x hx => ?_)
    have fx : Few 10 x := by
      have k : ∀ x ∈ [(" " : Str), ("-" : Str), (" -" : Str), (" abcdefghi" : Str)], decide (x.length ≤ 10 ∧ ∀ c ∈ x.cps.toList, c < 128) = true := by decide +kernel
      exact few_lit (k x hx)
    have := fx.1
    exact Ret.gd (by omega) (Ret.ok (.inl ⟨_, rfl, h.app fx (by omega)⟩))
  · refine Ret.eqP (mixed_eq c 52) (Ret.ixM (by omega) (by simp only [List.length_cons, List.length_nil]; omega) fun x hx => Ret.ok (.inr ?_))
    simp only [List.mem_cons, List.not_mem_nil, or_false] at hx
    rcases hx with rfl | rfl | rfl | rfl <;> exact ⟨⟨by decide +kernel, by decide +kernel⟩, rfl⟩
/-! ### parted and sieved -/
theorem parted_str {s : Str} (h : Few 80 s) : F_l_parted (.str s) = .ok (partV s) := by
  have hl := h.1
  have pl := parts_len s
  unfold F_l_parted partV
  rw [gd_ok h.flat, if_neg (by simp [dSel]), gd_ok h.flat, gd_ok few_empty.flat, eqv_strS]
  by_cases e : s = ("" : Str)
  · rw [if_pos (decide_eq_true e), if_pos e]
  · rw [if_neg (by rw [decide_eq_false e]; decide), if_neg e]
    show gd _ _ = _
    rw [gd_ok (by omega)]
    show Dl.bindX (loopE partF [] _) _ = _
    rw [parts_ok _ _ (fun w hw => by have := part_len hw; omega) (by simp only [List.length_nil]; omega)]
    by_cases o : okWs (Txt.split s (" " : Str))
    · rw [if_pos o, if_pos o]; rfl
    · rw [if_neg o, if_neg o]; rfl
theorem parted2_ok {s : Str} (h : Few 80 s) : F_l_parted_2 s = .ok (partV s) := by
  have hl := h.1
  have pl := parts_len s
  unfold F_l_parted_2 partV
  rw [if_neg (by decide)]
  by_cases e : s = ("" : Str)
  · rw [if_pos (decide_eq_true e), if_pos e]
  · rw [if_neg (by rw [decide_eq_false e]; decide), if_neg e, gd_ok (by omega)]
    show Dl.bindX (loopE partF [] _) _ = _
    rw [parts_ok _ _ (fun w hw => by have := part_len hw; omega) (by simp only [List.length_nil]; omega)]
    by_cases o : okWs (Txt.split s (" " : Str))
    · rw [if_pos o, if_pos o]; rfl
    · rw [if_neg o, if_neg o]; rfl
theorem parted_no {d : D} (f : Dl.flatD d) (h : dSel d false false false true false false = false) : F_l_parted d = .ok none := by
  unfold F_l_parted
  rw [gd_ok f, if_pos (by rw [h]; rfl)]
theorem gr0 : GrH 0 [] := ⟨uq_nil, Nat.le_refl _, fun p hp => by cases hp⟩
theorem sieve_str {s : Str} (h : Few 80 s) : F_sieve (.str s) = if (partV s).isSome = true then .ok (grp s) else .exc "NoMark" [] := by
  have hl := h.1
  have pl := parts_len s
  unfold F_sieve partV grp
  rw [gd_ok h.flat, if_neg (by simp [dSel]), gd_ok h.flat, gd_ok few_empty.flat, eqv_strS]
  by_cases e : s = ("" : Str)
  · rw [decide_eq_true e, if_pos e, if_pos e]
    rfl
  · rw [decide_eq_false e, if_neg e, if_neg e]
    show gd _ _ = _
    rw [gd_ok (by omega)]
    show Dl.bindX (foldE sieveF [] _) _ = _
    rw [sieve_loop _ _ 0 gr0 (by omega) fun w hw => by have := part_len hw; omega]
    by_cases o : okWs (Txt.split s (" " : Str))
    · rw [if_pos o, if_pos o]; rfl
    · rw [if_neg o, if_neg o]; rfl
theorem sieve2_ok {s : Str} (h : Few 80 s) : F_sieve_2 s = if (partV s).isSome = true then .ok (grp s) else .exc "NoMark" [] := by
  have hl := h.1
  have pl := parts_len s
  unfold F_sieve_2 partV grp
  rw [if_neg (by decide)]
  by_cases e : s = ("" : Str)
  · rw [decide_eq_true e, if_pos e, if_pos e]
    rfl
  · rw [decide_eq_false e, if_neg e, if_neg e]
    show gd _ _ = _
    rw [gd_ok (by omega)]
    show Dl.bindX (foldE sieveF [] _) _ = _
    rw [sieve_loop _ _ 0 gr0 (by omega) fun w hw => by have := part_len hw; omega]
    by_cases o : okWs (Txt.split s (" " : Str))
    · rw [if_pos o, if_pos o]; rfl
    · rw [if_neg o, if_neg o]; rfl
theorem sieve_no {d : D} (f : Dl.flatD d) (h : dSel d false false false true false false = false) : F_sieve d = .exc "NoMark" [] := by
  unfold F_sieve
  rw [gd_ok f, if_pos (by rw [h]; rfl)]
theorem refused_ok {d : D} (h : F_sieve d = .exc "NoMark" []) : F_l_refused d = .ok true := by
  unfold F_l_refused
  rw [h]
  refine Ret.eq (Ret.jpE (Ret.tryX rfl (Ret.excHd (Ret.ok rfl))))
theorem ways_loop (m : Str) (ms : List Str) : ∀ bs : List Bool, loopE (ρ := Bool) (fun (_ : Unit) (x5 : Bool) => if (!decide (decide (m ∈ ms) = x5)) = true then .ok (.rt false) else .ok (.nx ())) () bs = .ok (if ∀ b ∈ bs, decide (m ∈ ms) = b then .nx () else .rt false)
  | [] => by rw [if_pos (by simp)]; rfl
  | b :: bs => by
    have ih := ways_loop m ms bs
    rw [loopE_cons]
    by_cases h : decide (m ∈ ms) = b
    · rw [if_neg (by rw [decide_eq_true h]; decide)]
      show loopE _ () _ = _
      rw [ih]
      by_cases h2 : ∀ b ∈ bs, decide (m ∈ ms) = b
      · rw [if_pos h2, if_pos (List.forall_mem_cons.mpr ⟨h, h2⟩)]
      · rw [if_neg h2, if_neg (fun z => h2 (List.forall_mem_cons.mp z).2)]
    · rw [if_pos (by rw [decide_eq_false h]; rfl), if_neg (fun z => h (List.forall_mem_cons.mp z).1)]
      rfl
theorem lets_loop (ms : List Str) : ∀ G : List (Str × List Bool), loopE (ρ := Bool) (fun (_ : Unit) (x3 : Str × (List Bool)) => Dl.bindX (loopE (ρ := Bool) (fun (_ : Unit) (x5 : Bool) => if (!decide (decide (x3.1 ∈ ms) = x5)) = true then .ok (.rt false) else .ok (.nx ())) () x3.2) fun c => ctE c (fun (_ : Unit) => .ok (.nx ())) (fun r11 => .ok (.rt r11))) () G = .ok (if ∀ p ∈ G, ∀ b ∈ p.2, decide (p.1 ∈ ms) = b then .nx () else .rt false)
  | [] => by rw [if_pos (by simp)]; rfl
  | p :: G => by
    have ih := lets_loop ms G
    rw [loopE_cons, ways_loop]
    by_cases h : ∀ b ∈ p.2, decide (p.1 ∈ ms) = b
    · rw [if_pos h]
      show loopE _ () _ = _
      rw [ih]
      by_cases h2 : ∀ p ∈ G, ∀ b ∈ p.2, decide (p.1 ∈ ms) = b
      · rw [if_pos h2, if_pos (List.forall_mem_cons.mpr ⟨h, h2⟩)]
      · rw [if_neg h2, if_neg (fun z => h2 (List.forall_mem_cons.mp z).2)]
    · rw [if_neg h, if_neg (fun z => h (List.forall_mem_cons.mp z).1)]
      rfl
theorem lets_ok (ms : List Str) (G : List (Str × List Bool)) : F_sieve_lets ms G = .ok (letsV G ms) := by
  unfold F_sieve_lets letsV
  rw [lets_loop]
  by_cases h : ∀ p ∈ G, ∀ b ∈ p.2, decide (p.1 ∈ ms) = b
  · rw [if_pos h, decide_eq_true h]; rfl
  · rw [if_neg h, decide_eq_false h]; rfl
theorem due_ok {ws : List (Str × Bool)} (ms : List Str) (l : ws.length ≤ 100000) : F_l_due ws ms = .ok (dueV ws ms) := by
  unfold F_l_due dueV
  rw [gd_ok l]
  congr 1
  rw [Bool.eq_iff_iff]
  simp [List.all_map]
theorem same_ok (a b : Bool) : F_l_same a b = .ok (decide (a = b)) := by
  unfold F_l_same
  rw [Bool.true_and]
theorem marks_ret (c one : Int) : Ret (F_l_marks c one) fun ms => ms.length ≤ 6 ∧ ∀ m ∈ ms, WordIs 8 m := by
  unfold F_l_marks
  have b := mixV_b c 3
  refine Ret.eqP (mixed_eq c 3) (Ret.gd ⟨by omega, by omega⟩ (Ret.fold (fun j ms => ms.length ≤ j ∧ ∀ m ∈ ms, WordIs 8 m) ⟨Nat.le_refl _, by simp⟩ (fun j z x hx ⟨l, hz⟩ => ?_) fun z ⟨l, hz⟩ => Ret.ok ⟨by rw [rngD_length] at l; omega, hz⟩))
  have hj : j < (rngD 0 (mixV c 3 % 7).toNat).length := (List.getElem?_eq_some_iff.mp hx).1
  rw [rngD_length] at hj
  refine Ret.eqP (mixed_eq c _) (Ret.eqP (mark_ok one _) (Ret.jpE (Ret.iteN (fun _ => Ret.gd (by omega) (Ret.ok ⟨by rw [List.length_append]; simp only [List.length_cons, List.length_nil]; omega, fun m hm => ?_⟩)) fun _ => Ret.ok ⟨by omega, hz⟩)))
  rcases List.mem_append.mp hm with hm | hm
  · exact hz m hm
  · rw [List.mem_singleton.mp hm]; exact mark_word _ _
theorem part_of {s : Str} {W : List (Str × Bool)} (h : partV s = some W) : W = (if s = ("" : Str) then [] else mwOf (Txt.split s (" " : Str))) := by
  unfold partV at h
  split at h
  · rename_i e; rw [if_pos e]; exact (Option.some.inj h).symm
  · rename_i e
    rw [if_neg e]
    split at h
    · exact (Option.some.inj h).symm
    · cases h
theorem part_lens {s : Str} {W : List (Str × Bool)} (h : partV s = some W) : W.length ≤ s.length + 2 := by
  rw [part_of h]
  split
  · simp
  · unfold mwOf
    rw [List.length_map]; exact parts_len s
theorem part_words {ws : List Str} (h : ∀ w ∈ ws, WdOk w) : ∃ W, partV (Txt.join (" " : Str) ws) = some W := by
  unfold partV
  by_cases e : Txt.join (" " : Str) ws = ("" : Str)
  · exact ⟨[], by rw [if_pos e]⟩
  · rw [if_neg e]
    have ne : ws ≠ [] := fun z => e (by rw [z]; decide +kernel)
    rw [split_join ne fun w hw => (h w hw).s]
    rw [if_pos (show okWs ws from fun w hw => (h w hw).m)]
    exact ⟨_, rfl⟩
theorem both_ok {s : Str} {W : List (Str × Bool)} (h : partV s = some W) (ms : List Str) : letsV (grp s) ms = dueV W ms := by
  rw [lets_due, part_of h]
theorem law_ok (script : List Int) (h : script.length ≤ 63) : F_law script = .ok true := by
  unfold F_law
  refine Ret.eq (Ret.bindP (cell_at_ret script (k := 0) (by decide)) fun one _ => Ret.bindP (words_ret one) fun w1 ⟨l1, h1⟩ => Ret.gd (by have := (few_join l1 h1).2; omega) (Ret.bindP (cell_at_ret script (k := 1) (by decide)) fun c1 _ => Ret.bindP (spoilt_ret (few_join l1 h1).1 c1) fun d hd => ?_))
  rcases hd with ⟨s, rfl, hs⟩ | ⟨f, hn⟩
  · refine Ret.eqP (parted_str hs) ?_
    have sv := sieve_str hs
    have sl := hs.1
    cases hp : partV s with
    | none =>
      rw [hp] at sv
      exact Ret.t rfl (Ret.eqP (refused_ok sv) (Ret.ok rfl))
    | some W =>
      rw [hp] at sv
      have lW := part_lens hp
      have bo := both_ok hp
      refine Ret.f rfl (Ret.bindP (cell_at_ret script (k := 2) (by decide)) fun c2 _ => Ret.bindP (words_ret c2) fun w2 ⟨l2, h2⟩ => Ret.eqX sv (Ret.gd (by have := (few_join l2 h2).2; omega) ?_))
      have hj := (few_join l2 h2).1.mono (show 60 ≤ 80 by decide)
      obtain ⟨W2, hp2⟩ := part_words h2
      have sv2 := sieve2_ok hj
      rw [hp2] at sv2
      have lW2 := part_lens hp2
      have lj := hj.1
      have lc : ∀ a b : Option Int, (cutD' script a b).length ≤ 63 := fun a b => by
        unfold cutD'
        rw [List.length_take, List.length_drop]
        omega
      have lc1 := lc (some 3) (some 13)
      have lc2 := lc (some 3) (some 4)
      refine Ret.eqX sv2 (Ret.gd (by omega) (Ret.loop (fun _ _ => True) trivial (fun j z x hx _ => ?_) fun z _ => ?_))
      · refine Ret.bindP (cell_at_ret script (k := 2) (by decide)) fun c3 _ => Ret.ixM (by omega) (by simp only [List.length_cons, List.length_nil]; omega) fun y hy => Ret.bindP (marks_ret x y) fun ms ⟨lm, hm⟩ => Ret.eqP (lets_ok ms _) (Ret.someE rfl (Ret.eqP (due_ok ms (by omega)) (Ret.eqP (same_ok _ _) ?_)))
        rw [bo ms, decide_eq_true rfl]
        refine Ret.eqP (a := false) ?_ (Ret.f rfl (Ret.eqP (lets_ok ms _) (Ret.gd (by have := (few_join l2 h2).2; omega) (Ret.eqP (parted2_ok hj) ?_))))
        · show gd _ (gd _ _) = _
          rw [gd_ok (lay_words hm), gd_ok (lay_words hm), decide_eq_true rfl]
          rfl
        · rw [hp2]
          refine Ret.someE rfl (Ret.eqP (due_ok ms (by omega)) (Ret.eqP (same_ok _ _) ?_))
          rw [both_ok hp2 ms, decide_eq_true rfl]
          exact Ret.f rfl (Ret.ok ⟨(), rfl, trivial⟩)
      · refine Ret.eqP (lets_ok _ _) (Ret.someE rfl (Ret.eqP (due_ok _ (by omega)) (Ret.eqP (same_ok _ _) ?_)))
        rw [bo, decide_eq_true rfl]
        exact Ret.ok rfl
  · exact Ret.eqP (parted_no f hn) (Ret.t rfl (Ret.eqP (refused_ok (sieve_no f hn)) (Ret.ok rfl)))
end Lw
namespace Lw
open PySem PySem.Spec PyProof.Rows L2 Dl
def topS (i : Nat) : Stmt := PySem.Challenge.pw_thinbook_k62_sieves.main.body.getD i (.Pass ⟨0, 0, 0, 0⟩)
abbrev s_l_cell_at : Stmt := topS 11
abbrev s_l_mixed : Stmt := topS 12
abbrev s_l_mark : Stmt := topS 14
abbrev s_l_words : Stmt := topS 15
abbrev s_l_spoilt : Stmt := topS 16
abbrev s_l_parted : Stmt := topS 17
abbrev s_is_word : Stmt := topS 7
abbrev s_is_mark : Stmt := topS 8
abbrev s_sieve : Stmt := topS 9
abbrev s_l_refused : Stmt := topS 18
abbrev s_l_marks : Stmt := topS 19
abbrev s_sieve_lets : Stmt := nthS (defBody (topS 9)) 3 (topS 9)
abbrev s_l_due : Stmt := topS 21
abbrev s_l_same : Stmt := topS 20
abbrev s_law : Stmt := topS 22
/-! ### what the top has written -/
structure Adr where
  none_ : Addr
  a_NoMark : Addr
  n_NoName : Addr
  n_BookError : Addr
def ek_S (k : Str) : Key := .inr k
theorem ij_S : ∀ a b, ek_S a = ek_S b → a = b := fun a b h => by
  simp only [ek_S, Sum.inl.injEq, Sum.inr.injEq] at h
  exact h
def G_sieve_lets : NdefX.NF := NdefX.NF.of s_sieve_lets "lets" ((envOfC "sieve" (defScope s_sieve) 0 0 .none).qual ++ "lets") [] 0
def dks_FN_sieveMSRB (t : List (Str × (List Bool))) : List D := [.dK (t.map fun q => ek_S q.1) (t.map fun q => dk_RB q.2)]
def dk_FN_sieveMSRB (t : List (Str × (List Bool))) : D := .clo G_sieve_lets ["wanted"] (dks_FN_sieveMSRB t)
theorem en_LS : EnS 1 (fun t : List Str => D.lst (t.map D.str)) := enS_lst enS_str
structure Txt (K : Frag) (mg : Str → Option Value) (A : Adr) : Prop where
  x_NoMark : ExT K mg "NoMark" A.a_NoMark
  n_NoMark : mg "NoMark" = some (.ref A.a_NoMark)
  n_NoName : mg "NoName" = some (.ref A.n_NoName)
  n_BookError : mg "BookError" = some (.ref A.n_BookError)
  i_NoMark_NoMark : PySem.W.kitOne K (.ref A.a_NoMark) (.ref A.a_NoMark) = some true
  i_NoMark_NoName : PySem.W.kitOne K (.ref A.a_NoMark) (.ref A.n_NoName) = some false
  e_NoMark_BookError : PySem.W.exmOne K (.ref A.a_NoMark) (.ref A.n_BookError) = some true
  f_l_cell_at : FunT K mg "_law_cell_at" s_l_cell_at ["_law_script", "_law_k"]
  f_l_mixed : FunT K mg "_law_mixed" s_l_mixed ["_law_draw", "_law_k"]
  f_l_mark : FunT K mg "_law_mark" s_l_mark ["_law_draw", "_law_k"]
  f_l_words : FunT K mg "_law_words" s_l_words ["_law_draw"]
  f_l_spoilt : FunT K mg "_law_spoilt" s_l_spoilt ["_law_text", "_law_draw"]
  f_l_parted : FunT K mg "_law_parted" s_l_parted ["_law_text"]
  f_is_word : FunT K mg "is_word" s_is_word ["thing", "most"]
  f_is_mark : FunT K mg "is_mark" s_is_mark ["thing"]
  f_sieve : FunT K mg "sieve" s_sieve ["text"]
  f_l_refused : FunT K mg "_law_refused" s_l_refused ["_law_text"]
  f_l_marks : FunT K mg "_law_marks" s_l_marks ["_law_draw", "_law_one"]
  f_l_due : FunT K mg "_law_due" s_l_due ["_law_words_here", "_law_marks_here"]
  f_l_same : FunT K mg "_law_same" s_l_same ["_law_found", "_law_due_here"]
  b_len : mg "len" = none
  b_range : mg "range" = none
  b_isinstance : mg "isinstance" = none
  b_str : mg "str" = none
  b_all : mg "all" = none
  b_list : mg "list" = none
  b_bool : mg "bool" = none
  k_MOST_OF_MARK : ∃ t, mg "MOST_OF_MARK" = some (.int 8 t)
  k_SMALL : ∃ t, mg "SMALL" = some (.str ("abcdefghijklmnopqrstuvwxyz" : Str) t)
  ct_sieve : ∀ f, mg "sieve" = some (.ref f) → codeTab K f 65 = true
structure TxtT (K : Frag) (mg : Str → Option Value) (A : Adr) (base : Heap) : Prop extends Txt K mg A where
  tbs : TabsB K base mg
section
variable {P : Program} {w : World} {K : Frag} {mg : Str → Option Value} {base : Heap} {A : Adr}
theorem sc_l_cell_at : FnScope ["_law_script", "_law_k"] ["_law_script", "_law_k"] (defScope s_l_cell_at) := fscope (by decide +kernel)
theorem g_l_cell_at (T : TxtT K mg A base) : GF P w K mg base 1 "_law_cell_at" [] (spE K mg (fun q : (List Int) × Int => [.scr (q.1.map D.int), .int q.2]) (fun q => F_l_cell_at q.1 q.2) D.int) := by
  refine T.f_l_cell_at.gf fun f fd F => fn_e F sc_l_cell_at (fun _ => rfl) fun X e1 e2 e3 e4 e5 B Fz q out hF hne => ?_
  subst e1 e2 e3 e4 e5
  have v0 : Ns X 0 "_law_script" := B.ns rfl rfl
  have v1 : Ns X 1 "_law_k" := B.ns rfl rfl
  obtain ⟨script1, k2⟩ := q
  replace hF : F_l_cell_at script1 k2 = out := hF
  unfold F_l_cell_at at hF
  change DS _ _ _ [some (.scr (script1.map D.int)), some (.int k2)] [] _
  refine ds_cons (ds1_if (dt_lt (dv_var v1.toNm rfl) (dv_lenM (g := D.int) (B.bn (x := "len") rfl T.b_len bt_len) (dv_var v0.toNm rfl) (.scr _))) (fun hh3 => ?_) (fun hh3 => ?_))
  ·
    replace hF := ite_t hF hh3
    obtain ⟨x4, hh5, hF⟩ := bindP_out hF hne
    refine ds_cons (ds1_retV (dv_ixS (dv_var v0.toNm rfl) (.scr _) (dv_var v1.toNm rfl) (ixE_out hh5 D.int)) ?_)
    exact ret_mk (enc := D.int) (M := []) hF
  ·
    replace hF := ite_f hF hh3
    refine ds_nil ?_
    refine ds_cons (ds1_retV dv_int ?_)
    exact ret_mk (enc := D.int) (M := []) hF
theorem c_l_cell_at {X : Cx} {kx : XD} {ρ : Ro} {M : Mem} {pos p : Pos} {e0 e1 : Expr} {script1 : List Int} {k2 : Int} {r : Int} (T : TxtT X.K X.mg A X.base) (hr : Room 1 X.A) (hg : Gl X "_law_cell_at") (h0 : DV X kx e0 ρ M (.scr (script1.map D.int))) (h1 : DV X kx e1 ρ M (.int k2)) (hF : F_l_cell_at script1 k2 = .ok r) (he0 : starEach [e0, e1] X.env = (false, eval e0 X.env) :: starEach [e1] X.env := by rfl) (he1 : starEach [e1] X.env = (false, eval e1 X.env) :: starEach [] X.env := by rfl) (hpl : (backTo pos (starEach [e1] X.env)).any (·.1) = false := by rfl) : DV X kx (.Call (.Name "_law_cell_at" p) [e0, e1] [] pos) ρ M (.int r) :=
  dv_call (g_l_cell_at T) hr hg (da_cons h0 (da_cons h1 da_nil he1) he0) (script1, k2) rfl (fun h => Ex.ok_ne r (hF.symm.trans h)) (fun d ⟨r', a1, a2⟩ => by cases hF.symm.trans a1; exact a2) (fun cls fs ⟨n, a1, _⟩ => by cases hF.symm.trans a1) (by decide) he0 hpl
theorem sc_l_mixed : FnScope ["_law_draw", "_law_k", "_law_number"] ["_law_draw", "_law_k"] (defScope s_l_mixed) := fscope (by decide +kernel)
theorem g_l_mixed (T : TxtT K mg A base) : GF P w K mg base 1 "_law_mixed" [] (spE K mg (fun q : Int × Int => [.int q.1, .int q.2]) (fun q => F_l_mixed q.1 q.2) D.int) := by
  refine T.f_l_mixed.gf fun f fd F => fn_e F sc_l_mixed (fun _ => rfl) fun X e1 e2 e3 e4 e5 B Fz q out hF hne => ?_
  subst e1 e2 e3 e4 e5
  have v0 : Ns X 0 "_law_draw" := B.ns rfl rfl
  have v1 : Ns X 1 "_law_k" := B.ns rfl rfl
  have v2 : Ns X 2 "_law_number" := B.ns rfl rfl
  obtain ⟨draw1, k2⟩ := q
  replace hF : F_l_mixed draw1 k2 = out := hF
  unfold F_l_mixed at hF
  change DS _ _ _ [some (.int draw1), some (.int k2), none] [] _
  obtain ⟨number3, hh4, hF⟩ := letE_out hF
  refine ds_cons (ds1_set v2 (dv_isE (enc := D.int) (dv_mod (dv_mulX (dv_add (dv_add (dv_mod (dv_var v0.toNm rfl) dv_int (by decide)) (dv_mulX dv_int (dv_var v1.toNm rfl) (mok_c (.inl ⟨by decide, by decide⟩)))) dv_int) dv_int (mok_c (.inr ⟨by decide, by decide⟩))) dv_int (by decide)) hh4) ?_)
  change DS _ _ _ [some (.int draw1), some (.int k2), some (.int number3)] [] _
  obtain ⟨hh5, hF⟩ := gd_out hF hne
  refine ds_cons (ds1_retV (dv_mod (dv_mulX (dv_var v2.toNm rfl) (dv_add (dv_fdiv (dv_var v2.toNm rfl) dv_int (div_c (by decide) (by decide))) dv_int) hh5) dv_int (by decide)) ?_)
  exact ret_mk (enc := D.int) (M := []) hF
theorem c_l_mixed {X : Cx} {kx : XD} {ρ : Ro} {M : Mem} {pos p : Pos} {e0 e1 : Expr} {draw1 : Int} {k2 : Int} {r : Int} (T : TxtT X.K X.mg A X.base) (hr : Room 1 X.A) (hg : Gl X "_law_mixed") (h0 : DV X kx e0 ρ M (.int draw1)) (h1 : DV X kx e1 ρ M (.int k2)) (hF : F_l_mixed draw1 k2 = .ok r) (he0 : starEach [e0, e1] X.env = (false, eval e0 X.env) :: starEach [e1] X.env := by rfl) (he1 : starEach [e1] X.env = (false, eval e1 X.env) :: starEach [] X.env := by rfl) (hpl : (backTo pos (starEach [e1] X.env)).any (·.1) = false := by rfl) : DV X kx (.Call (.Name "_law_mixed" p) [e0, e1] [] pos) ρ M (.int r) :=
  dv_call (g_l_mixed T) hr hg (da_cons h0 (da_cons h1 da_nil he1) he0) (draw1, k2) rfl (fun h => Ex.ok_ne r (hF.symm.trans h)) (fun d ⟨r', a1, a2⟩ => by cases hF.symm.trans a1; exact a2) (fun cls fs ⟨n, a1, _⟩ => by cases hF.symm.trans a1) (by decide) he0 hpl
theorem sc_l_mark : FnScope ["_law_draw", "_law_k", "_law_some", "_law_length", "_law_body", "_law_at", "_law_j"] ["_law_draw", "_law_k"] (defScope s_l_mark) := fscope (by decide +kernel)
theorem g_l_mark (T : TxtT K mg A base) : GF P w K mg base 2 "_law_mark" [] (spE K mg (fun q : Int × Int => [.int q.1, .int q.2]) (fun q => F_l_mark q.1 q.2) D.str) := by
  refine T.f_l_mark.gf fun f fd F => fn_e F sc_l_mark (fun _ => rfl) fun X e1 e2 e3 e4 e5 B Fz q out hF hne => ?_
  subst e1 e2 e3 e4 e5
  have v0 : Ns X 0 "_law_draw" := B.nc Fz rfl rfl
  have v1 : Ns X 1 "_law_k" := B.ns rfl rfl
  have v2 : Ns X 2 "_law_some" := B.nc Fz rfl rfl
  have v3 : Ns X 3 "_law_length" := B.ns rfl rfl
  have v4 : Ns X 4 "_law_body" := B.ns rfl rfl
  have v5 : Ns X 5 "_law_at" := B.ns rfl rfl
  obtain ⟨draw1, k2⟩ := q
  replace hF : F_l_mark draw1 k2 = out := hF
  unfold F_l_mark at hF
  change DS _ _ _ [some (.int draw1), some (.int k2), none, none, none, none, none] [] _
  obtain ⟨some3, hh4, hF⟩ := letE_out hF
  refine ds_cons (ds1_set v2 (dv_isE (enc := D.str) dv_str hh4) ?_)
  change DS _ _ _ [some (.int draw1), some (.int k2), some (.str some3), none, none, none, none] [] _
  obtain ⟨r5, hh6, hF⟩ := bindP_out hF hne
  obtain ⟨length7, hh8, hF⟩ := letE_out hF
  refine ds_cons (ds1_set v3 (dv_isE (enc := D.int) (dv_mod (c_l_mixed T (B.room.mono (by decide)) (B.gl (x := "_law_mixed") rfl) (dv_var v0.toNm rfl) dv_int hh6) dv_int (by decide)) hh8) ?_)
  change DS _ _ _ [some (.int draw1), some (.int k2), some (.str some3), some (.int length7), none, none, none] [] _
  obtain ⟨hh9, hF⟩ := gd_out hF hne
  obtain ⟨hh17, hF⟩ := gd_out hF hne
  obtain ⟨ys18, hh19, hF⟩ := bindP_out hF hne
  obtain ⟨hh20, hF⟩ := gd_out hF hne
  obtain ⟨body21, hh22, hF⟩ := letE_out hF
  refine ds_cons (ds1_set v4 (dv_isE (enc := D.str) (dv_join dv_str (dv_lcE (own := [("_law_j", 6)]) B  (di_range1 (B.bn (x := "range") rfl T.b_range bt_range) (dv_var v3.toNm rfl) hh9.1 hh9.2) (blkOk_by (by decide +kernel)) (sz_lt hh17) (fun u10 hx => ⟨_, _, fun _ h => h, fun _ _ _ _ _ _ _ B11 => ⟨(dg_name (B11.ns (i := 6) rfl rfl)), lcb_E (enc := D.str) ((compE_out hh19).2 u10 hx) (fun _ hF => (by cases hF; exact dts_nil)) fun _ hF => (by obtain ⟨r12, hh13, hF⟩ := bindP_out hF (Ex.ok_ne _); obtain ⟨hh14, hF⟩ := gd_out hF (Ex.ok_ne _); obtain ⟨c15, hh16, hF⟩ := bindP_out hF (Ex.ok_ne _); cases hF; exact (dv_ixSg (dv_var (B11.nm (i := 2) rfl (vcel rfl)) rfl) (dv_mod (c_l_mixed T (B11.room.mono (by decide)) (B11.gl (x := "_law_mixed") rfl) (dv_var (B11.nm (i := 0) rfl (vcel rfl)) rfl) (dv_add dv_int (dv_var (B11.nm (i := 6) rfl (vloc rfl)) rfl)) hh13) dv_int (by decide)) hh14 hh16))⟩⟩) (outs_E D.str (compE_out hh19).1)) (.lst _) hh20) hh22) ?_)
  change DS _ _ _ [some (.int draw1), some (.int k2), some (.str some3), some (.int length7), some (.str body21), none, none] [] _
  obtain ⟨r23, hh24, hF⟩ := bindP_out hF hne
  obtain ⟨hh25, hF⟩ := gd_out hF hne
  obtain ⟨at26, hh27, hF⟩ := letE_out hF
  refine ds_cons (ds1_set v5 (dv_isE (enc := D.int) (dv_mod (c_l_mixed T (B.room.mono (by decide)) (B.gl (x := "_law_mixed") rfl) (dv_var v0.toNm rfl) dv_int hh24) (dv_add (dv_var v3.toNm rfl) dv_int) hh25) hh27) ?_)
  change DS _ _ _ [some (.int draw1), some (.int k2), some (.str some3), some (.int length7), some (.str body21), some (.int at26), none] [] _
  obtain ⟨hh28, hF⟩ := gd_out hF hne
  obtain ⟨hh29, hF⟩ := gd_out hF hne
  obtain ⟨c30, hh31, hF⟩ := bindP_out hF hne
  obtain ⟨hh32, hF⟩ := gd_out hF hne
  obtain ⟨hh33, hF⟩ := gd_out hF hne
  obtain ⟨hh34, hF⟩ := gd_out hF hne
  refine ds_cons (ds1_retV (dv_addS (dv_addS (dv_slT' (dv_var v4.toNm rfl) hh28 do_none (do_some (dv_var v5.toNm rfl))) (dv_ixSg (dv_var v2.toNm rfl) (dv_mod (dv_add (dv_fdiv (dv_var v0.toNm rfl) dv_int (div_c (by decide) (by decide))) (dv_mulX dv_int (dv_var v1.toNm rfl) (mok_c (.inl ⟨by decide, by decide⟩)))) dv_int (by decide)) hh29 hh31) hh32) (dv_slT' (dv_var v4.toNm rfl) hh33 (do_some (dv_var v5.toNm rfl)) do_none) hh34) ?_)
  exact ret_mk (enc := D.str) (M := []) hF
theorem c_l_mark {X : Cx} {kx : XD} {ρ : Ro} {M : Mem} {pos p : Pos} {e0 e1 : Expr} {draw1 : Int} {k2 : Int} {r : Str} (T : TxtT X.K X.mg A X.base) (hr : Room 2 X.A) (hg : Gl X "_law_mark") (h0 : DV X kx e0 ρ M (.int draw1)) (h1 : DV X kx e1 ρ M (.int k2)) (hF : F_l_mark draw1 k2 = .ok r) (he0 : starEach [e0, e1] X.env = (false, eval e0 X.env) :: starEach [e1] X.env := by rfl) (he1 : starEach [e1] X.env = (false, eval e1 X.env) :: starEach [] X.env := by rfl) (hpl : (backTo pos (starEach [e1] X.env)).any (·.1) = false := by rfl) : DV X kx (.Call (.Name "_law_mark" p) [e0, e1] [] pos) ρ M (.str r) :=
  dv_call (g_l_mark T) hr hg (da_cons h0 (da_cons h1 da_nil he1) he0) (draw1, k2) rfl (fun h => Ex.ok_ne r (hF.symm.trans h)) (fun d ⟨r', a1, a2⟩ => by cases hF.symm.trans a1; exact a2) (fun cls fs ⟨n, a1, _⟩ => by cases hF.symm.trans a1) (by decide) he0 hpl
theorem sc_l_words : FnScope ["_law_draw", "_law_found", "_law_k", "_law_mark_here"] ["_law_draw"] (defScope s_l_words) := fscope (by decide +kernel)
theorem g_l_words (T : TxtT K mg A base) : GF P w K mg base 3 "_law_words" [] (spE K mg (fun q : Int => [.int q]) (fun q => F_l_words q) dk_LS) := by
  refine T.f_l_words.gf fun f fd F => fn_e F sc_l_words (fun _ => rfl) fun X e1 e2 e3 e4 e5 B Fz draw1 out hF hne => ?_
  subst e1 e2 e3 e4 e5
  have v0 : Ns X 0 "_law_draw" := B.ns rfl rfl
  have v1 : Ns X 1 "_law_found" := B.ns rfl rfl
  have v2 : Ns X 2 "_law_k" := B.ns rfl rfl
  have v3 : Ns X 3 "_law_mark_here" := B.ns rfl rfl
  replace hF : F_l_words draw1 = out := hF
  unfold F_l_words at hF
  change DS _ _ _ [some (.int draw1), none, none, none] [] _
  refine ds_cons (ds1_newL v1 da_nil (szN 0 rfl) fun w2 n_w2 => ?_)
  change DS _ _ _ [some (.int draw1), some (.adr w2), none, none] [(w2, Mu.lst (([] : List Str).map D.str))] _
  obtain ⟨r3, hh4, hF⟩ := bindP_out hF hne
  obtain ⟨hh5, hF⟩ := gd_out hF hne
  obtain ⟨o20, hh21, hh22, hF⟩ := bindX_cut hF hne
  refine ds_cons (ds1_foldE (enc := D.int) B (fun (z : List Str) => [some (.int draw1), some (.adr w2), none, none]) (fun (z : List Str) => [(w2, Mu.lst (z.map D.str))]) hh21 hh22 (di_range1 (B.bn (x := "range") rfl T.b_range bt_range) (dv_mod (c_l_mixed T (B.room.mono (by decide)) (B.gl (x := "_law_mixed") rfl) (dv_var v0.toNm rfl) dv_int hh4) dv_int (by decide)) hh5.1 hh5.2) ⟨.inr rfl, .inr rfl, .inl rfl, .inl rfl, trivial⟩ rfl ?hso20 ?hdo20 ?hxo20 then_fgt)
  case hso20 =>
    clear hF
    rintro found6 x7 o8 _ hF hne
    refine ⟨_, _, (dg_name v2), ?_⟩
    change DS _ _ _ [some (.int draw1), some (.adr w2), some (.int x7), none] [(w2, Mu.lst (found6.map D.str))] _
    obtain ⟨r9, hh10, hF⟩ := bindP_out hF hne
    obtain ⟨r11, hh12, hF⟩ := bindP_out hF hne
    refine ds_cons (ds1_set v3 (c_l_mark T (B.room.mono (by decide)) (B.gl (x := "_law_mark") rfl) (dv_var v0.toNm rfl) (dv_mod (c_l_mixed T (B.room.mono (by decide)) (B.gl (x := "_law_mixed") rfl) (dv_var v0.toNm rfl) (dv_add dv_int (dv_var v2.toNm rfl)) hh10) dv_int (by decide)) hh12) ?_)
    change DS _ _ _ [some (.int draw1), some (.adr w2), some (.int x7), some (.str r11)] [(w2, Mu.lst (found6.map D.str))] _
    obtain ⟨r13, hh14, hF⟩ := bindP_out hF hne
    obtain ⟨x15, hh16, hF⟩ := bindP_out hF hne
    obtain ⟨hh17, hF⟩ := gd_out hF hne
    obtain ⟨hh18, hF⟩ := gd_out hF hne
    refine ds_cons (ds1_appM (g := D.str) (xs := found6) (v := x15 ++ r11) 0 (dv_var v1.toNm rfl) (dv_addS (dv_ixS (show DV _ _ _ _ _ (.lst ([("" : Str), ("" : Str), ("-" : Str)].map D.str)) from dv_lst (da_cons dv_str (da_cons dv_str (da_cons dv_str da_nil))) (szN 3 rfl)) (.lst _) (dv_mod (c_l_mixed T (B.room.mono (by decide)) (B.gl (x := "_law_mixed") rfl) (dv_var v0.toNm rfl) (dv_add dv_int (dv_var v2.toNm rfl)) hh14) dv_int (by decide)) (ixE_out hh16 D.str)) (dv_var v3.toNm rfl) hh17) rfl hh18 ?_)
    change DS _ _ _ [some (.int draw1), some (.adr w2), some (.int x7), some (.str r11)] [(w2, Mu.lst ((found6 ++ [x15 ++ r11]).map D.str))] _
    refine ds_nil ?_
    exact fold_nx hF ⟨.inr rfl, .inr rfl, .inl rfl, .inl rfl, trivial⟩ rfl
  case hdo20 =>
    rintro found19 rfl
    replace hF := okE hF
    change DS _ _ _ [some (.int draw1), some (.adr w2), none, none] [(w2, Mu.lst (found19.map D.str))] _
    refine ds_frz 0 1 rfl rfl ?_
    change DS _ _ _ [some (.int draw1), some (.lst (found19.map D.str)), none, none] [] _
    refine ds_cons (ds1_retV (dv_var v1.toNm rfl) ?_)
    exact ret_mk (enc := dk_LS) (M := []) hF
  case hxo20 =>
    rintro cls fs _ _ ⟨n, rfl, e2⟩
    exact kx_exc hF e2
theorem c_l_words {X : Cx} {kx : XD} {ρ : Ro} {M : Mem} {pos p : Pos} {e0 : Expr} {draw1 : Int} {r : List Str} (T : TxtT X.K X.mg A X.base) (hr : Room 3 X.A) (hg : Gl X "_law_words") (h0 : DV X kx e0 ρ M (.int draw1)) (hF : F_l_words draw1 = .ok r) (he0 : starEach [e0] X.env = (false, eval e0 X.env) :: starEach [] X.env := by rfl) (hpl : (backTo pos (starEach [] X.env)).any (·.1) = false := by rfl) : DV X kx (.Call (.Name "_law_words" p) [e0] [] pos) ρ M (.lst (r.map D.str)) :=
  dv_call (g_l_words T) hr hg (da_cons h0 da_nil he0) draw1 rfl (fun h => Ex.ok_ne r (hF.symm.trans h)) (fun d ⟨r', a1, a2⟩ => by cases hF.symm.trans a1; exact a2) (fun cls fs ⟨n, a1, _⟩ => by cases hF.symm.trans a1) (by decide) he0 hpl
theorem sc_l_spoilt : FnScope ["_law_text", "_law_draw", "_law_at", "_law_way"] ["_law_text", "_law_draw"] (defScope s_l_spoilt) := fscope (by decide +kernel)
theorem g_l_spoilt (T : TxtT K mg A base) : GF P w K mg base 2 "_law_spoilt" [] (spE K mg (fun q : Str × Int => [.str q.1, .int q.2]) (fun q => F_l_spoilt q.1 q.2) dD) := by
  refine T.f_l_spoilt.gf fun f fd F => fn_e F sc_l_spoilt (fun _ => rfl) fun X e1 e2 e3 e4 e5 B Fz q out hF hne => ?_
  subst e1 e2 e3 e4 e5
  have v0 : Ns X 0 "_law_text" := B.ns rfl rfl
  have v1 : Ns X 1 "_law_draw" := B.ns rfl rfl
  have v2 : Ns X 2 "_law_at" := B.ns rfl rfl
  have v3 : Ns X 3 "_law_way" := B.ns rfl rfl
  obtain ⟨text1, draw2⟩ := q
  replace hF : F_l_spoilt text1 draw2 = out := hF
  unfold F_l_spoilt at hF
  change DS _ _ _ [some (.str text1), some (.int draw2), none, none] [] _
  obtain ⟨r3, hh4, hF⟩ := bindP_out hF hne
  obtain ⟨hh5, hF⟩ := gd_out hF hne
  obtain ⟨hh6, hF⟩ := gd_out hF hne
  obtain ⟨at7, hh8, hF⟩ := letE_out hF
  refine ds_cons (ds1_set v2 (dv_isE (enc := D.int) (dv_mod (c_l_mixed T (B.room.mono (by decide)) (B.gl (x := "_law_mixed") rfl) (dv_var v1.toNm rfl) dv_int hh4) (dv_add (dv_lenS (B.bn (x := "len") rfl T.b_len bt_len) (dv_var v0.toNm rfl) (sz_le hh5)) dv_int) hh6) hh8) ?_)
  change DS _ _ _ [some (.str text1), some (.int draw2), some (.int at7), none] [] _
  obtain ⟨r9, hh10, hF⟩ := bindP_out hF hne
  obtain ⟨way11, hh12, hF⟩ := letE_out hF
  refine ds_cons (ds1_set v3 (dv_isE (enc := D.int) (dv_mod (c_l_mixed T (B.room.mono (by decide)) (B.gl (x := "_law_mixed") rfl) (dv_var v1.toNm rfl) dv_int hh10) dv_int (by decide)) hh12) ?_)
  change DS _ _ _ [some (.str text1), some (.int draw2), some (.int at7), some (.int way11)] [] _
  refine ds_cons (ds1_if (dt_eqi (dv_var v3.toNm rfl) dv_int) (fun hh13 => ?_) (fun hh13 => ?_))
  ·
    replace hF := ite_t hF hh13
    obtain ⟨hh14, hF⟩ := gd_out hF hne
    obtain ⟨r15, hh16, hF⟩ := bindP_out hF hne
    obtain ⟨hh17, hF⟩ := gd_out hF hne
    obtain ⟨c18, hh19, hF⟩ := bindP_out hF hne
    obtain ⟨hh20, hF⟩ := gd_out hF hne
    obtain ⟨hh21, hF⟩ := gd_out hF hne
    obtain ⟨hh22, hF⟩ := gd_out hF hne
    refine ds_cons (ds1_retV (DV.is (dv_addS (dv_addS (dv_slT' (dv_var v0.toNm rfl) hh14 do_none (do_some (dv_var v2.toNm rfl))) (dv_ixSg dv_str (dv_mod (c_l_mixed T (B.room.mono (by decide)) (B.gl (x := "_law_mixed") rfl) (dv_var v1.toNm rfl) dv_int hh16) dv_int (by decide)) hh17 hh19) hh20) (dv_slT' (dv_var v0.toNm rfl) hh21 (do_some (dv_var v2.toNm rfl)) do_none) hh22) (show _ = dD (.str (((cutS text1 none (some at7)) ++ (sg c18)) ++ (cutS text1 (some at7) none)) : D) from rfl)) ?_)
    exact ret_mk (enc := dD) (M := []) hF
  ·
    replace hF := ite_f hF hh13
    refine ds_nil ?_
    refine ds_cons (ds1_if (dt_eqi (dv_var v3.toNm rfl) dv_int) (fun hh23 => ?_) (fun hh23 => ?_))
    ·
      replace hF := ite_t hF hh23
      obtain ⟨hh24, hF⟩ := gd_out hF hne
      obtain ⟨hh25, hF⟩ := gd_out hF hne
      obtain ⟨hh26, hF⟩ := gd_out hF hne
      refine ds_cons (ds1_retV (DV.is (dv_addS (dv_slT' (dv_var v0.toNm rfl) hh24 do_none (do_some (dv_var v2.toNm rfl))) (dv_slT' (dv_var v0.toNm rfl) hh25 (do_some (dv_add (dv_var v2.toNm rfl) dv_int)) do_none) hh26) (show _ = dD (.str ((cutS text1 none (some at7)) ++ (cutS text1 (some (at7 + 1)) none)) : D) from rfl)) ?_)
      exact ret_mk (enc := dD) (M := []) hF
    ·
      replace hF := ite_f hF hh23
      refine ds_nil ?_
      refine ds_cons (ds1_if (dt_eqi (dv_var v3.toNm rfl) dv_int) (fun hh27 => ?_) (fun hh27 => ?_))
      ·
        replace hF := ite_t hF hh27
        obtain ⟨r28, hh29, hF⟩ := bindP_out hF hne
        obtain ⟨x30, hh31, hF⟩ := bindP_out hF hne
        obtain ⟨hh32, hF⟩ := gd_out hF hne
        refine ds_cons (ds1_retV (DV.is (dv_addS (dv_var v0.toNm rfl) (dv_ixS (show DV _ _ _ _ _ (.lst ([(" " : Str), ("-" : Str), (" -" : Str), (" abcdefghi" : Str)].map D.str)) from dv_lst (da_cons dv_str (da_cons dv_str (da_cons dv_str (da_cons dv_str da_nil)))) (szN 4 rfl)) (.lst _) (dv_mod (c_l_mixed T (B.room.mono (by decide)) (B.gl (x := "_law_mixed") rfl) (dv_var v1.toNm rfl) dv_int hh29) dv_int (by decide)) (ixE_out hh31 D.str)) hh32) (show _ = dD (.str (text1 ++ x30) : D) from rfl)) ?_)
        exact ret_mk (enc := dD) (M := []) hF
      ·
        replace hF := ite_f hF hh27
        refine ds_nil ?_
        refine ds_cons (ds1_if (dt_eqi (dv_var v3.toNm rfl) dv_int) (fun hh33 => ?_) (fun hh33 => ?_))
        ·
          replace hF := ite_t hF hh33
          obtain ⟨r34, hh35, hF⟩ := bindP_out hF hne
          obtain ⟨x36, hh37, hF⟩ := bindP_out hF hne
          refine ds_cons (ds1_retV (dv_ixS (show DV _ _ _ _ _ (.lst ([(.non : D), (.int 5 : D), (.lst ([("ab" : Str)].map D.str) : D), (.bl true : D)].map dD)) from dv_lst (da_cons (DV.is dv_non (show _ = dD (.non : D) from rfl)) (da_cons (DV.is dv_int (show _ = dD (.int 5 : D) from rfl)) (da_cons (DV.is (show DV _ _ _ _ _ (.lst ([("ab" : Str)].map D.str)) from dv_lst (da_cons dv_str da_nil) (szN 1 rfl)) (show _ = dD (.lst ([("ab" : Str)].map D.str) : D) from rfl)) (da_cons (DV.is dv_bl (show _ = dD (.bl true : D) from rfl)) da_nil)))) (szN 4 rfl)) (.lst _) (dv_mod (c_l_mixed T (B.room.mono (by decide)) (B.gl (x := "_law_mixed") rfl) (dv_var v1.toNm rfl) dv_int hh35) dv_int (by decide)) (ixE_out hh37 dD)) ?_)
          exact ret_mk (enc := dD) (M := []) hF
        ·
          replace hF := ite_f hF hh33
          refine ds_nil ?_
          refine ds_cons (ds1_retV (DV.is (dv_var v0.toNm rfl) (show _ = dD (.str text1 : D) from rfl)) ?_)
          exact ret_mk (enc := dD) (M := []) hF
theorem c_l_spoilt {X : Cx} {kx : XD} {ρ : Ro} {M : Mem} {pos p : Pos} {e0 e1 : Expr} {text1 : Str} {draw2 : Int} {r : D} (T : TxtT X.K X.mg A X.base) (hr : Room 2 X.A) (hg : Gl X "_law_spoilt") (h0 : DV X kx e0 ρ M (.str text1)) (h1 : DV X kx e1 ρ M (.int draw2)) (hF : F_l_spoilt text1 draw2 = .ok r) (he0 : starEach [e0, e1] X.env = (false, eval e0 X.env) :: starEach [e1] X.env := by rfl) (he1 : starEach [e1] X.env = (false, eval e1 X.env) :: starEach [] X.env := by rfl) (hpl : (backTo pos (starEach [e1] X.env)).any (·.1) = false := by rfl) : DV X kx (.Call (.Name "_law_spoilt" p) [e0, e1] [] pos) ρ M (dD r) :=
  dv_call (g_l_spoilt T) hr hg (da_cons h0 (da_cons h1 da_nil he1) he0) (text1, draw2) rfl (fun h => Ex.ok_ne r (hF.symm.trans h)) (fun d ⟨r', a1, a2⟩ => by cases hF.symm.trans a1; exact a2) (fun cls fs ⟨n, a1, _⟩ => by cases hF.symm.trans a1) (by decide) he0 hpl
theorem sc_l_parted : FnScope ["_law_text", "_law_found", "_law_word", "_law_mark_here", "_law_sign"] ["_law_text"] (defScope s_l_parted) := fscope (by decide +kernel)
theorem g_l_parted (T : TxtT K mg A base) : GF P w K mg base 1 "_law_parted" [] (spE K mg (fun q : D => [dD q]) (fun q => F_l_parted q) (dOpt dk_LT2SB)) := by
  refine T.f_l_parted.gf fun f fd F => fn_e F sc_l_parted (fun _ => rfl) fun X e1 e2 e3 e4 e5 B Fz text1 out hF hne => ?_
  subst e1 e2 e3 e4 e5
  have v0 : Ns X 0 "_law_text" := B.ns rfl rfl
  have v1 : Ns X 1 "_law_found" := B.ns rfl rfl
  have v2 : Ns X 2 "_law_word" := B.ns rfl rfl
  have v3 : Ns X 3 "_law_mark_here" := B.ns rfl rfl
  have v4 : Ns X 4 "_law_sign" := B.ns rfl rfl
  replace hF : F_l_parted text1 = out := hF
  unfold F_l_parted at hF
  change DS _ _ _ [some (dD text1), none, none, none, none] [] _
  obtain ⟨hh2, hF⟩ := gd_out hF hne
  refine ds_cons (ds1_if (dt_not (dt_val (dv_isiD (S := "str") (k1 := false) (k2 := false) (k3 := false) (k4 := true) (k5 := false) (k6 := false) (B.bn (x := "isinstance") rfl T.b_isinstance bt_isinstance) (B.bn (x := "str") rfl T.b_str bt_str) (dv_var v0.toNm rfl) hh2.1 (by decide +kernel) (by decide +kernel) (by decide +kernel) (by decide +kernel) (by decide +kernel) (by decide +kernel)))) (fun hh3 => ?_) (fun hh3 => ?_))
  ·
    replace hF := ite_t hF hh3
    refine ds_cons (ds1_retV (DV.is dv_non (show _ = dOpt dk_LT2SB none from rfl)) ?_)
    exact ret_mk (enc := (dOpt dk_LT2SB)) (M := []) hF
  ·
    replace hF := ite_f hF hh3
    refine ds_nil ?_
    obtain ⟨hh4, hF⟩ := gd_out hF hne
    obtain ⟨hh5, hF⟩ := gd_out hF hne
    refine ds_cons (ds1_if (dt_eqD B.hu (dv_var v0.toNm rfl) (DV.is dv_str (show _ = dD (.str ("" : Str) : D) from rfl)) (eqs_D hh4 hh5)) (fun hh6 => ?_) (fun hh6 => ?_))
    ·
      replace hF := ite_t hF hh6
      refine ds_cons (ds1_retV (DV.is (show DV _ _ _ _ _ (.lst (([] : List (Str × Bool)).map dk_T2SB)) from dv_lst da_nil (szN 0 rfl)) (show _ = dOpt dk_LT2SB (some ([] : List (Str × Bool))) from rfl)) ?_)
      exact ret_mk (enc := (dOpt dk_LT2SB)) (M := []) hF
    ·
      replace hF := ite_f hF hh6
      refine ds_nil ?_
      refine ds_cons (ds1_newL v1 da_nil (szN 0 rfl) fun w7 n_w7 => ?_)
      change DS _ _ _ [some (dD text1), some (.adr w7), none, none, none] [(w7, Mu.lst (([] : List (Str × Bool)).map dk_T2SB))] _
      obtain ⟨s8, hh9, hF⟩ := bindP_out hF hne
      obtain ⟨hh10, hF⟩ := gd_out hF hne
      obtain ⟨o35, hh36, hh37, hF⟩ := bindX_cut hF hne
      refine ds_cons (ds1_loopE (enc := D.str) (enr := (dOpt dk_LT2SB)) B (fun (z : List (Str × Bool)) => [some (dD text1), some (.adr w7), none, none, none]) (fun (z : List (Str × Bool)) => [(w7, Mu.lst (z.map dk_T2SB))]) hh36 hh37 (di_list (dv_split (dv_asS (dv_var v0.toNm rfl) hh9) dv_str (by decide) hh10)) ⟨.inr rfl, .inr rfl, .inl rfl, .inl rfl, .inl rfl, trivial⟩ rfl ?hso35 ?hdo35 ?hro35 ?hxo35 then_fgt)
      case hso35 =>
        clear hF
        rintro found11 x12 o13 _ hF hne
        refine ⟨_, _, (dg_name v2), ?_⟩
        change DS _ _ _ [some (dD text1), some (.adr w7), some (.str x12), none, none] [(w7, Mu.lst (found11.map dk_T2SB))] _
        refine ds_cons (ds1_set v3 (dv_var v2.toNm rfl) ?_)
        change DS _ _ _ [some (dD text1), some (.adr w7), some (.str x12), some (.str x12), none] [(w7, Mu.lst (found11.map dk_T2SB))] _
        obtain ⟨hh14, hF⟩ := gd_out hF hne
        obtain ⟨jk16, hjk16, hF⟩ := jpE_out hF
        refine ds_cons (ds1_ifJ (kf := jk16) (out := o13) (fun (a : Unit) (z : Str) => [some (dD text1), some (.adr w7), some (.str x12), some (.str z), none]) (fun (a : Unit) (z : Str) => [(w7, Mu.lst (found11.map dk_T2SB))]) (dt_eqs (dv_slT' (dv_var v2.toNm rfl) hh14 do_none (do_some dv_int)) dv_str) (fun hh15 => ?_) (fun hh15 => ?_) ?_ then_fgt)
        ·
          replace hF := ite_t hF hh15
          obtain ⟨hh17, hF⟩ := gd_out hF hne
          obtain ⟨mark18, hh19, hF⟩ := letE_out hF
          refine ds_cons (ds1_set v3 (dv_isE (enc := D.str) (dv_slT' (dv_var v2.toNm rfl) hh17 (do_some dv_int) do_none) hh19) ?_)
          change DS _ _ _ [some (dD text1), some (.adr w7), some (.str x12), some (.str mark18), none] [(w7, Mu.lst (found11.map dk_T2SB))] _
          refine ds_nil ?_
          exact join_nx () mark18 hF ⟨.inr rfl, .inr rfl, .inr rfl, .inr rfl, .inl rfl, trivial⟩ rfl
        ·
          replace hF := ite_f hF hh15
          refine ds_nil ?_
          exact join_nx () x12 hF ⟨.inr rfl, .inr rfl, .inr rfl, .inr rfl, .inl rfl, trivial⟩ rfl
        ·
          rintro ⟨⟩ mark20 hF
          subst hjk16
          change DS _ _ _ [some (dD text1), some (.adr w7), some (.str x12), some (.str mark20), none] [(w7, Mu.lst (found11.map dk_T2SB))] _
          obtain ⟨b22, hh23, hF⟩ := bindP_out hF hne
          refine ds_cons (ds1_if (DW.t (dw_orE hh23 (dt_eqs (dv_var v3.toNm rfl) dv_str) fun _ _ hF => (by obtain ⟨hh21, hF⟩ := gd_out hF (Ex.ok_ne _); cases hF; exact (dw_or1 (dt_gt (dv_lenS (B.bn (x := "len") rfl T.b_len bt_len) (dv_var v3.toNm rfl) (sz_le hh21)) dv_int))))) (fun hh24 => ?_) (fun hh24 => ?_))
          ·
            replace hF := ite_t hF hh24
            refine ds_frz 0 1 rfl rfl ?_
            change DS _ _ _ [some (dD text1), some (.lst (found11.map dk_T2SB)), some (.str x12), some (.str mark20), none] [] _
            refine ds_cons (ds1_retV (DV.is dv_non (show _ = dOpt dk_LT2SB none from rfl)) ?_)
            exact loop_rt (R := fun _ => []) (Mf := fun _ => []) (enr := (dOpt dk_LT2SB)) (M := []) hF
          ·
            replace hF := ite_f hF hh24
            refine ds_nil ?_
            obtain ⟨o30, hh31, hh32, hF⟩ := bindX_cut hF hne
            refine ds_cons (ds1_loopE (enc := D.str) (enr := (dOpt dk_LT2SB)) B (fun (z : Unit) => [some (dD text1), some (.adr w7), some (.str x12), some (.str mark20), none]) (fun (z : Unit) => [(w7, Mu.lst (found11.map dk_T2SB))]) hh31 hh32 (di_str (dv_var v3.toNm rfl)) ⟨.inr rfl, .inr rfl, .inr rfl, .inr rfl, .inl rfl, trivial⟩ rfl ?hso30 ?hdo30 ?hro30 ?hxo30 then_fgt)
            case hso30 =>
              clear hF
              rintro ⟨⟩ x25 o26 _ hF hne
              refine ⟨_, _, (dg_name v4), ?_⟩
              change DS _ _ _ [some (dD text1), some (.adr w7), some (.str x12), some (.str mark20), some (.str x25)] [(w7, Mu.lst (found11.map dk_T2SB))] _
              obtain ⟨hh27, hF⟩ := gd_out hF hne
              refine ds_cons (ds1_if (dt_ninSg hh27 (dv_var v4.toNm rfl) dv_str) (fun hh28 => ?_) (fun hh28 => ?_))
              ·
                replace hF := ite_t hF hh28
                refine ds_frz 0 1 rfl rfl ?_
                change DS _ _ _ [some (dD text1), some (.lst (found11.map dk_T2SB)), some (.str x12), some (.str mark20), some (.str x25)] [] _
                refine ds_cons (ds1_retV (DV.is dv_non (show _ = dOpt dk_LT2SB none from rfl)) ?_)
                exact loop_rt (R := fun _ => []) (Mf := fun _ => []) (enr := (dOpt dk_LT2SB)) (M := []) hF
              ·
                replace hF := ite_f hF hh28
                refine ds_nil ?_
                refine ds_nil ?_
                exact loop_nx (enr := (dOpt dk_LT2SB)) hF ⟨.inr rfl, .inr rfl, .inr rfl, .inr rfl, .inl rfl, trivial⟩ rfl
            case hdo30 =>
              rintro ⟨⟩ rfl
              replace hF := okE hF
              replace hF := nxE hF
              change DS _ _ _ [some (dD text1), some (.adr w7), some (.str x12), some (.str mark20), none] [(w7, Mu.lst (found11.map dk_T2SB))] _
              obtain ⟨hh29, hF⟩ := gd_out hF hne
              refine ds_cons (ds1_appM (g := dk_T2SB) (xs := found11) (v := (mark20, decide (mark20 = x12))) 0 (dv_var v1.toNm rfl) (show DV _ _ _ _ _ (dk_T2SB (mark20, decide (mark20 = x12))) from dv_tup (da_cons (dv_var v3.toNm rfl) (da_cons (dv_eqs (dv_var v3.toNm rfl) (dv_var v2.toNm rfl)) da_nil)) (szN 2 rfl)) rfl hh29 ?_)
              change DS _ _ _ [some (dD text1), some (.adr w7), some (.str x12), some (.str mark20), none] [(w7, Mu.lst ((found11 ++ [(mark20, decide (mark20 = x12))]).map dk_T2SB))] _
              refine ds_nil ?_
              exact loop_nx (enr := (dOpt dk_LT2SB)) hF ⟨.inr rfl, .inr rfl, .inl rfl, .inl rfl, .inl rfl, trivial⟩ rfl
            case hro30 =>
              rintro r33 _ rfl
              exact loop_rt (R := fun _ => []) (Mf := fun _ => []) (enr := (dOpt dk_LT2SB)) (M := []) hF
            case hxo30 =>
              rintro cls fs _ _ ⟨n, rfl, e2⟩
              exact kx_exc hF e2
      case hdo35 =>
        rintro found34 rfl
        replace hF := okE hF
        replace hF := nxE hF
        change DS _ _ _ [some (dD text1), some (.adr w7), none, none, none] [(w7, Mu.lst (found34.map dk_T2SB))] _
        refine ds_frz 0 1 rfl rfl ?_
        change DS _ _ _ [some (dD text1), some (.lst (found34.map dk_T2SB)), none, none, none] [] _
        refine ds_cons (ds1_retV (DV.is (dv_var v1.toNm rfl) (show _ = dOpt dk_LT2SB (some found34) from rfl)) ?_)
        exact ret_mk (enc := (dOpt dk_LT2SB)) (M := []) hF
      case hro35 =>
        rintro r38 _ rfl
        exact ret_mk (enc := (dOpt dk_LT2SB)) (M := []) hF
      case hxo35 =>
        rintro cls fs _ _ ⟨n, rfl, e2⟩
        exact kx_exc hF e2
theorem c_l_parted {X : Cx} {kx : XD} {ρ : Ro} {M : Mem} {pos p : Pos} {e0 : Expr} {text1 : D} {r : Option (List (Str × Bool))} (T : TxtT X.K X.mg A X.base) (hr : Room 1 X.A) (hg : Gl X "_law_parted") (h0 : DV X kx e0 ρ M (dD text1)) (hF : F_l_parted text1 = .ok r) (he0 : starEach [e0] X.env = (false, eval e0 X.env) :: starEach [] X.env := by rfl) (hpl : (backTo pos (starEach [] X.env)).any (·.1) = false := by rfl) : DV X kx (.Call (.Name "_law_parted" p) [e0] [] pos) ρ M (dOpt dk_LT2SB r) :=
  dv_call (g_l_parted T) hr hg (da_cons h0 da_nil he0) text1 rfl (fun h => Ex.ok_ne r (hF.symm.trans h)) (fun d ⟨r', a1, a2⟩ => by cases hF.symm.trans a1; exact a2) (fun cls fs ⟨n, a1, _⟩ => by cases hF.symm.trans a1) (by decide) he0 hpl
theorem sc_is_word : FnScope ["thing", "most", "sign"] ["thing", "most"] (defScope s_is_word) := fscope (by decide +kernel)
theorem g_is_word (T : TxtT K mg A base) : GF P w K mg base 1 "is_word" [] (spE K mg (fun q : Str × Int => [.str q.1, .int q.2]) (fun q => F_is_word q.1 q.2) D.bl) := by
  refine T.f_is_word.gf fun f fd F => fn_e F sc_is_word (fun _ => rfl) fun X e1 e2 e3 e4 e5 B Fz q out hF hne => ?_
  subst e1 e2 e3 e4 e5
  have v0 : Ns X 0 "thing" := B.ns rfl rfl
  have v1 : Ns X 1 "most" := B.ns rfl rfl
  obtain ⟨thing1, most2⟩ := q
  replace hF : F_is_word thing1 most2 = out := hF
  unfold F_is_word at hF
  change DS _ _ _ [some (.str thing1), some (.int most2), none] [] _
  obtain ⟨b4, hh5, hF⟩ := bindP_out hF hne
  refine ds_cons (ds1_if (DW.t (dw_orE hh5 (dt_not (dt_val (dv_isi (T := "str") (k := true) (B.bn (x := "isinstance") rfl T.b_isinstance bt_isinstance) (B.bn (x := "str") rfl T.b_str bt_str) (dv_var v0.toNm rfl) (by first | exact .non | exact .int _ | exact .bl _ | exact .str _ | exact .lst _ | exact .tup _ | exact .scr _) (by decide +kernel)))) fun _ _ hF => (by obtain ⟨hh3, hF⟩ := gd_out hF (Ex.ok_ne _); cases hF; exact (dw_or1 (dt_not (dt_chain op_le op_le dv_int (dv_lenS (B.bn (x := "len") rfl T.b_len bt_len) (dv_var v0.toNm rfl) (sz_le hh3)) (dv_var v1.toNm rfl))))))) (fun hh6 => ?_) (fun hh6 => ?_))
  ·
    replace hF := ite_t hF hh6
    refine ds_cons (ds1_retV dv_bl ?_)
    exact ret_mk (enc := D.bl) (M := []) hF
  ·
    replace hF := ite_f hF hh6
    refine ds_nil ?_
    obtain ⟨hh10, hF⟩ := gd_out hF hne
    obtain ⟨ys11, hh12, hF⟩ := bindP_out hF hne
    refine ds_cons (ds1_retV (dv_all B.calm (B.bn (x := "all") rfl T.b_all bt_all) (dv_lcE (own := [("sign", 2)]) B  (di_str (dv_var v0.toNm rfl)) (blkOk_by (by decide +kernel)) (sz_lt hh10) (fun u7 hx => ⟨_, _, fun _ h => h, fun _ _ _ _ _ _ _ B8 => ⟨(dg_name (B8.ns (i := 2) rfl rfl)), lcb_E (enc := D.bl) ((compE_out hh12).2 u7 hx) (fun _ hF => (by cases hF; exact dts_nil)) fun _ hF => (by obtain ⟨hh9, hF⟩ := gd_out hF (Ex.ok_ne _); cases hF; exact (dv_inSg hh9 (dv_var (B8.nm (i := 2) rfl (vloc rfl)) rfl) (T.k_SMALL.elim fun _ h => dv_gstr (B8.gl (x := "SMALL") rfl) h ⟨_, rfl⟩)))⟩⟩) (outs_E D.bl (compE_out hh12).1)) (.lst _)) ?_)
    exact ret_mk (enc := D.bl) (M := []) hF
theorem c_is_word {X : Cx} {kx : XD} {ρ : Ro} {M : Mem} {pos p : Pos} {e0 e1 : Expr} {thing1 : Str} {most2 : Int} {r : Bool} (T : TxtT X.K X.mg A X.base) (hr : Room 1 X.A) (hg : Gl X "is_word") (h0 : DV X kx e0 ρ M (.str thing1)) (h1 : DV X kx e1 ρ M (.int most2)) (hF : F_is_word thing1 most2 = .ok r) (he0 : starEach [e0, e1] X.env = (false, eval e0 X.env) :: starEach [e1] X.env := by rfl) (he1 : starEach [e1] X.env = (false, eval e1 X.env) :: starEach [] X.env := by rfl) (hpl : (backTo pos (starEach [e1] X.env)).any (·.1) = false := by rfl) : DV X kx (.Call (.Name "is_word" p) [e0, e1] [] pos) ρ M (.bl r) :=
  dv_call (g_is_word T) hr hg (da_cons h0 (da_cons h1 da_nil he1) he0) (thing1, most2) rfl (fun h => Ex.ok_ne r (hF.symm.trans h)) (fun d ⟨r', a1, a2⟩ => by cases hF.symm.trans a1; exact a2) (fun cls fs ⟨n, a1, _⟩ => by cases hF.symm.trans a1) (by decide) he0 hpl
theorem sc_is_mark : FnScope ["thing"] ["thing"] (defScope s_is_mark) := fscope (by decide +kernel)
theorem g_is_mark (T : TxtT K mg A base) : GF P w K mg base 2 "is_mark" [] (spE K mg (fun q : Str => [.str q]) (fun q => F_is_mark q) D.bl) := by
  refine T.f_is_mark.gf fun f fd F => fn_e F sc_is_mark (fun _ => rfl) fun X e1 e2 e3 e4 e5 B Fz thing1 out hF hne => ?_
  subst e1 e2 e3 e4 e5
  have v0 : Ns X 0 "thing" := B.ns rfl rfl
  replace hF : F_is_mark thing1 = out := hF
  unfold F_is_mark at hF
  change DS _ _ _ [some (.str thing1)] [] _
  obtain ⟨r2, hh3, hF⟩ := bindP_out hF hne
  refine ds_cons (ds1_retV (c_is_word T (B.room.mono (by decide)) (B.gl (x := "is_word") rfl) (dv_var v0.toNm rfl) (T.k_MOST_OF_MARK.elim fun _ h => dv_gint (B.gl (x := "MOST_OF_MARK") rfl) h ⟨_, rfl⟩) hh3) ?_)
  exact ret_mk (enc := D.bl) (M := []) hF
theorem c_is_mark {X : Cx} {kx : XD} {ρ : Ro} {M : Mem} {pos p : Pos} {e0 : Expr} {thing1 : Str} {r : Bool} (T : TxtT X.K X.mg A X.base) (hr : Room 2 X.A) (hg : Gl X "is_mark") (h0 : DV X kx e0 ρ M (.str thing1)) (hF : F_is_mark thing1 = .ok r) (he0 : starEach [e0] X.env = (false, eval e0 X.env) :: starEach [] X.env := by rfl) (hpl : (backTo pos (starEach [] X.env)).any (·.1) = false := by rfl) : DV X kx (.Call (.Name "is_mark" p) [e0] [] pos) ρ M (.bl r) :=
  dv_call (g_is_mark T) hr hg (da_cons h0 da_nil he0) thing1 rfl (fun h => Ex.ok_ne r (hF.symm.trans h)) (fun d ⟨r', a1, a2⟩ => by cases hF.symm.trans a1; exact a2) (fun cls fs ⟨n, a1, _⟩ => by cases hF.symm.trans a1) (by decide) he0 hpl
theorem sc_sieve : FnScope ["text", "wanted", "word", "mark", "lets"] ["text"] (defScope s_sieve) := fscope (by decide +kernel)
theorem look_sieve : CloLook s_sieve s_sieve_lets ((defBody s_sieve).take 3) "lets" (defP s_sieve_lets) (retP1 (defBody s_sieve)) (retP2 (defBody s_sieve)) ["text", "wanted", "word", "mark", "lets"] ["wanted"] [1] 4 := by
  refine ⟨?_, rfl, ?_, rfl, rfl, fun _ => rfl, rfl, rfl, rfl, ?_, by decide, fun _ => rfl, by decide, by decide⟩
  · rfl
  · decide +kernel
  · decide +kernel
theorem g_sieve (T : TxtT K mg A base) : GF P w K mg base 3 "sieve" [] (spE K mg (fun q : D => [dD q]) (fun q => F_sieve q) dk_FN_sieveMSRB) := by
  refine T.f_sieve.gfM fun f fd hm F => fn_cloE (encs := dks_FN_sieveMSRB) F sc_sieve (fun _ => rfl) look_sieve T.tbs (T.ct_sieve f hm) (nm := fun _ _ => "sieve.<locals>.lets") (by simp [Dl.tabT]) (by simp [Dl.tabT]) (by rfl) (fun _ => rfl) fun X e1 e2 e3 e4 e5 B Fz text1 out hF hne => ?_
  subst e1 e2 e3 e4 e5
  have v0 : Ns X 0 "text" := B.ns rfl rfl
  have v1 : Ns X 1 "wanted" := B.nc Fz rfl rfl
  have v2 : Ns X 2 "word" := B.ns rfl rfl
  have v3 : Ns X 3 "mark" := B.ns rfl rfl
  have v4 : Ns X 4 "lets" := B.ns rfl rfl
  replace hF : F_sieve text1 = out := hF
  unfold F_sieve at hF
  change DS _ _ _ [some (dD text1), none, none, none, none] [] _
  obtain ⟨hh2, hF⟩ := gd_out hF hne
  refine ds_cons (ds1_if (dt_not (dt_val (dv_isiD (S := "str") (k1 := false) (k2 := false) (k3 := false) (k4 := true) (k5 := false) (k6 := false) (B.bn (x := "isinstance") rfl T.b_isinstance bt_isinstance) (B.bn (x := "str") rfl T.b_str bt_str) (dv_var v0.toNm rfl) hh2.1 (by decide +kernel) (by decide +kernel) (by decide +kernel) (by decide +kernel) (by decide +kernel) (by decide +kernel)))) (fun hh3 => ?_) (fun hh3 => ?_))
  ·
    replace hF := ite_t hF hh3
    exact ds_cons (ds1_raise B.calm T.x_NoMark (B.gl (x := "NoMark") rfl) fun cls hm => (kx_exc hF hm))
  ·
    replace hF := ite_f hF hh3
    refine ds_nil ?_
    refine ds_cons (ds1_newG ek_S D.bl v1 fun d4 m5 hh6 => ?_)
    change DS _ _ _ [some (dD text1), some (d4), none, none, none] (m5 ++ []) _
    obtain ⟨hh7, hF⟩ := gd_out hF hne
    obtain ⟨hh8, hF⟩ := gd_out hF hne
    obtain ⟨jk10, hjk10, hF⟩ := jpE_out hF
    refine ds_cons (ds1_ifJ (kf := jk10) (out := out) (fun (a : Unit) (z : List (Str × (List Bool))) => [some (dD text1), some (.dK (z.map fun q => ek_S q.1) (z.map fun q => dk_RB q.2)), none, none, none]) (fun (a : Unit) (z : List (Str × (List Bool))) => []) (dt_neD B.hu (dv_var v0.toNm rfl) (DV.is dv_str (show _ = dD (.str ("" : Str) : D) from rfl)) (eqs_D hh7 hh8)) (fun hh9 => ?_) (fun hh9 => ?_) ?_ then_fgt)
    ·
      replace hF := ite_t hF hh9
      obtain ⟨s11, hh12, hF⟩ := bindP_out hF hne
      obtain ⟨hh13, hF⟩ := gd_out hF hne
      obtain ⟨o39, hh40, hh41, hF⟩ := bindX_cut hF hne
      refine ds_cons (ds1_foldO (enc := D.str) m5 B (fun (a : Mem) (z : List (Str × List Bool)) => [some (dD text1), some (d4), none, none, none]) (fun (a : Mem) (z : List (Str × List Bool)) => a ++ []) (fun (a : Mem) (z : List (Str × List Bool)) => OwR (isDKL ek_S D.bl) z d4 a) hh40 hh41 (di_list (dv_split (dv_asS (dv_var v0.toNm rfl) hh12) dv_str (by decide) hh13)) hh6 ⟨.inr rfl, .inr rfl, .inl rfl, .inl rfl, .inl rfl, trivial⟩ rfl ?hso39 ?hdo39 ?hxo39 then_fgt)
      case hso39 =>
        clear hF
        rintro m15 wanted14 x17 o18 hh16 _ hF hne
        refine ⟨_, _, (dg_name v2), ?_⟩
        change DS _ _ _ [some (dD text1), some (d4), some (.str x17), none, none] (m15 ++ []) _
        refine ds_cons (ds1_set v3 (dv_var v2.toNm rfl) ?_)
        change DS _ _ _ [some (dD text1), some (d4), some (.str x17), some (.str x17), none] (m15 ++ []) _
        obtain ⟨jk20, hjk20, hF⟩ := jpE_out hF
        refine ds_cons (ds1_ifJ (kf := jk20) (out := o18) (fun (a : Unit) (z : Str) => [some (dD text1), some (d4), some (.str x17), some (.str z), none]) (fun (a : Unit) (z : Str) => m15 ++ []) (dt_val (dv_startswith (dv_var v2.toNm rfl) dv_str)) (fun hh19 => ?_) (fun hh19 => ?_) ?_ then_fgt)
        ·
          replace hF := ite_t hF hh19
          obtain ⟨hh21, hF⟩ := gd_out hF hne
          obtain ⟨mark22, hh23, hF⟩ := letE_out hF
          refine ds_cons (ds1_set v3 (dv_isE (enc := D.str) (dv_slT' (dv_var v2.toNm rfl) hh21 (do_some dv_int) do_none) hh23) ?_)
          change DS _ _ _ [some (dD text1), some (d4), some (.str x17), some (.str mark22), none] (m15 ++ []) _
          refine ds_nil ?_
          exact join_nx () mark22 hF ⟨.inr rfl, .inr rfl, .inr rfl, .inr rfl, .inl rfl, trivial⟩ rfl
        ·
          replace hF := ite_f hF hh19
          refine ds_nil ?_
          exact join_nx () x17 hF ⟨.inr rfl, .inr rfl, .inr rfl, .inr rfl, .inl rfl, trivial⟩ rfl
        ·
          rintro ⟨⟩ mark24 hF
          subst hjk20
          change DS _ _ _ [some (dD text1), some (d4), some (.str x17), some (.str mark24), none] (m15 ++ []) _
          obtain ⟨r25, hh26, hF⟩ := bindP_out hF hne
          refine ds_cons (ds1_if (dt_not (dt_val (c_is_mark T (B.room.mono (by decide)) (B.gl (x := "is_mark") rfl) (dv_var v3.toNm rfl) hh26))) (fun hh27 => ?_) (fun hh27 => ?_))
          ·
            replace hF := ite_t hF hh27
            refine ds_frzO (ok_dkl (ek := ek_S) (f := D.bl)) hh16 1 (.refl _) rfl ?_
            change DS _ _ _ [some (dD text1), some (.dK (wanted14.map fun q => ek_S q.1) (wanted14.map fun q => dk_RB q.2)), some (.str x17), some (.str mark24), none] [] _
            exact ds_cons (ds1_raise B.calm T.x_NoMark (B.gl (x := "NoMark") rfl) fun cls hm => (kx_exc hF hm))
          ·
            replace hF := ite_f hF hh27
            refine ds_nil ?_
            obtain ⟨hh28, hF⟩ := gd_out hF hne
            refine ds_cons (ds1_setdG hh16 (.refl _) B ij_S (dv_var v1.toNm rfl) (dv_var v3.toNm rfl) hh28 fun m29 hh30 => ?_)
            change DS _ _ _ [some (dD text1), some (d4), some (.str x17), some (.str mark24), none] (m29 ++ []) _
            obtain ⟨xs31, hh32, hF⟩ := bindP_out hF hne
            obtain ⟨hh33, hF⟩ := gd_out hF hne
            refine ds_cons (ds1_appG hh30 (.refl _) B ij_S (fun _ _ => dv_var v1.toNm rfl) (fun _ _ => (dv_var v3.toNm rfl)) (fun _ _ => (dv_eqs (dv_var v3.toNm rfl) (dv_var v2.toNm rfl))) hh32 hh33 fun m34 hh35 => ?_)
            change DS _ _ _ [some (dD text1), some (d4), some (.str x17), some (.str mark24), none] (m34 ++ []) _
            refine ds_nil ?_
            exact foldO_nx m34 (putA (setdA wanted14 mark24 []) mark24 (xs31 ++ [decide (mark24 = x17)])) hF hh35 ⟨.inr rfl, .inr rfl, .inl rfl, .inl rfl, .inl rfl, trivial⟩ rfl
      case hdo39 =>
        rintro m37 wanted36 hh38 rfl
        replace hF := okE hF
        change DS _ _ _ [some (dD text1), some (d4), none, none, none] (m37 ++ []) _
        refine ds_frzO (ok_dkl (ek := ek_S) (f := D.bl)) hh38 1 (.refl _) rfl ?_
        change DS _ _ _ [some (dD text1), some (.dK (wanted36.map fun q => ek_S q.1) (wanted36.map fun q => dk_RB q.2)), none, none, none] [] _
        refine ds_nil ?_
        exact join_nx () wanted36 hF ⟨.inr rfl, .inr rfl, .inl rfl, .inl rfl, .inl rfl, trivial⟩ rfl
      case hxo39 =>
        rintro cls fs _ _ ⟨n, rfl, e2⟩
        exact kx_exc hF e2
    ·
      replace hF := ite_f hF hh9
      refine ds_frzO (ok_dkl (ek := ek_S) (f := D.bl)) hh6 1 (.refl _) rfl ?_
      change DS _ _ _ [some (dD text1), some (.dK (([] : List (Str × List Bool)).map fun q => ek_S q.1) (([] : List (Str × List Bool)).map fun q => dk_RB q.2)), none, none, none] [] _
      refine ds_nil ?_
      exact join_nx () ([] : List (Str × List Bool)) hF ⟨.inr rfl, .inr rfl, .inl rfl, .inl rfl, .inl rfl, trivial⟩ rfl
    ·
      rintro ⟨⟩ wanted42 hF
      subst hjk10
      change DS _ _ _ [some (dD text1), some (.dK (wanted42.map fun q => ek_S q.1) (wanted42.map fun q => dk_RB q.2)), none, none, none] [] _
      refine ds_nil ?_
      exact end1 rfl ⟨_, hF.symm, rfl⟩
theorem x_sieve {X : Cx} {kx : XD} {ρ : Ro} {M : Mem} {pos p : Pos} {e0 : Expr} {text1 : D} {n : Str} {fs : List (Str × D)} (T : TxtT X.K X.mg A X.base) (hr : Room 3 X.A) (hg : Gl X "sieve") (h0 : DV X kx e0 ρ M (dD text1)) (hF : F_sieve text1 = .exc n fs) (hk : ∀ cls, X.mg n = some cls → kx cls fs ρ M) (he0 : starEach [e0] X.env = (false, eval e0 X.env) :: starEach [] X.env := by rfl) (hpl : (backTo pos (starEach [] X.env)).any (·.1) = false := by rfl) : DE X kx (.Call (.Name "sieve" p) [e0] [] pos) ρ M fun _ _ => False :=
  de_exc (g_sieve T) hr hg (da_cons h0 da_nil he0) text1 rfl hF hk (by decide) he0 hpl
theorem c_sieve {X : Cx} {kx : XD} {ρ : Ro} {M : Mem} {pos p : Pos} {e0 : Expr} {text1 : D} {r : List (Str × (List Bool))} (T : TxtT X.K X.mg A X.base) (hr : Room 3 X.A) (hg : Gl X "sieve") (h0 : DV X kx e0 ρ M (dD text1)) (hF : F_sieve text1 = .ok r) (he0 : starEach [e0] X.env = (false, eval e0 X.env) :: starEach [] X.env := by rfl) (hpl : (backTo pos (starEach [] X.env)).any (·.1) = false := by rfl) : DV X kx (.Call (.Name "sieve" p) [e0] [] pos) ρ M (dk_FN_sieveMSRB r) :=
  dv_call (g_sieve T) hr hg (da_cons h0 da_nil he0) text1 rfl (fun h => Ex.ok_ne r (hF.symm.trans h)) (fun d ⟨r', a1, a2⟩ => by cases hF.symm.trans a1; exact a2) (fun cls fs ⟨n, a1, _⟩ => by cases hF.symm.trans a1) (by decide) he0 hpl
theorem sc_l_refused : FnScope ["_law_text", "e"] ["_law_text"] (defScope s_l_refused) := fscope (by decide +kernel)
theorem g_l_refused (T : TxtT K mg A base) : GF P w K mg base 4 "_law_refused" [] (spE K mg (fun q : D => [dD q]) (fun q => F_l_refused q) D.bl) := by
  refine T.f_l_refused.gf fun f fd F => fn_e F sc_l_refused (fun _ => rfl) fun X e1 e2 e3 e4 e5 B Fz text1 out hF hne => ?_
  subst e1 e2 e3 e4 e5
  have v0 : Ns X 0 "_law_text" := B.ns rfl rfl
  have v1 : Ns X 1 "e" := B.ns rfl rfl
  replace hF : F_l_refused text1 = out := hF
  unfold F_l_refused at hF
  change DS _ _ _ [some (dD text1), none] [] _
  obtain ⟨jk2, hjk2, hF⟩ := jpE_out hF
  refine ds_cons (ds1_tryJ (kf := jk2) (out := out) (fun (a : Unit) (z : Unit) => [some (dD text1), none]) (fun (a : Unit) (z : Unit) => []) ([some (dD text1), none]) B Fz (i := 1) rfl rfl (B.gl (x := "BookError") rfl) T.n_BookError hF hne ?hbo3 ?hho3 ?hko3 then_fgt)
  case hbo3 =>
    clear hF hne
    intro pn xe B Fz o3 hF hne
    have v0 : Ns _ 0 "_law_text" := B.ns rfl rfl
    have v1 : Ns _ 1 "e" := B.ns rfl rfl
    rcases bindX_out hF hne with ⟨r4, hh5, hF⟩ | ⟨n, fs, hh5, hF⟩
    rotate_left
    · exact ds_cons (ds1_void (x_sieve T (B.room.mono (by decide)) (B.gl (x := "sieve") rfl) (dv_var v0.toNm rfl) hh5 fun cls hm => ⟨(kx_exc hF.symm hm), ⟨.inr rfl, .inl rfl, trivial⟩, rfl⟩))
    refine ds_cons (ds1_exprV (c_sieve T (B.room.mono (by decide)) (B.gl (x := "sieve") rfl) (dv_var v0.toNm rfl) hh5) ?_)
    refine ds_nil ?_
    exact (join_nx () () hF ⟨.inr rfl, .inl rfl, trivial⟩ rfl)
  case hho3 =>
    intro nm _ hF
    have hF2 := excE_hd hF
    clear hF
    rcases hF2 with ⟨rfl, hF⟩ | hF
    · refine ⟨A.a_NoMark, T.x_NoMark.gC, T.e_NoMark_BookError, fun a6 l B hd7 => ?_⟩
      have v0 : Ns _ 0 "_law_text" := B.ns rfl rfl
      have v1 : Ns _ 1 "e" := B.ns rfl rfl
      change DS _ _ _ [some (dD text1), some (.adr a6)] [] _
      refine ds_cons (ds1_retV (dv_and (dv_isXC (B.bn (x := "isinstance") rfl T.b_isinstance bt_isinstance) hd7 T.x_NoMark.toExcC (dv_var v1.toNm rfl) (dv_cls (B.gl (x := "NoMark") rfl) T.n_NoMark) T.i_NoMark_NoMark) fun _ => (dv_one (dv_not (dv_isXC (B.bn (x := "isinstance") rfl T.b_isinstance bt_isinstance) hd7 T.x_NoMark.toExcC (dv_var v1.toNm rfl) (dv_cls (B.gl (x := "NoName") rfl) T.n_NoName) T.i_NoMark_NoName)))) ?_)
      exact ret_mk (enc := D.bl) (M := []) hF
    ·
      exact (excE_nil hF hne).elim
  case hko3 =>
    rintro ⟨⟩ ⟨⟩ hF
    subst hjk2
    change DS _ _ _ [some (dD text1), none] [] _
    refine ds_cons (ds1_retV dv_bl ?_)
    exact ret_mk (enc := D.bl) (M := []) hF
theorem c_l_refused {X : Cx} {kx : XD} {ρ : Ro} {M : Mem} {pos p : Pos} {e0 : Expr} {text1 : D} {r : Bool} (T : TxtT X.K X.mg A X.base) (hr : Room 4 X.A) (hg : Gl X "_law_refused") (h0 : DV X kx e0 ρ M (dD text1)) (hF : F_l_refused text1 = .ok r) (he0 : starEach [e0] X.env = (false, eval e0 X.env) :: starEach [] X.env := by rfl) (hpl : (backTo pos (starEach [] X.env)).any (·.1) = false := by rfl) : DV X kx (.Call (.Name "_law_refused" p) [e0] [] pos) ρ M (.bl r) :=
  dv_call (g_l_refused T) hr hg (da_cons h0 da_nil he0) text1 rfl (fun h => Ex.ok_ne r (hF.symm.trans h)) (fun d ⟨r', a1, a2⟩ => by cases hF.symm.trans a1; exact a2) (fun cls fs ⟨n, a1, _⟩ => by cases hF.symm.trans a1) (by decide) he0 hpl
theorem sc_sieve_2 : FnScope ["text", "wanted", "word", "mark", "lets"] ["text"] (defScope s_sieve) := fscope (by decide +kernel)
theorem look_sieve_2 : CloLook s_sieve s_sieve_lets ((defBody s_sieve).take 3) "lets" (defP s_sieve_lets) (retP1 (defBody s_sieve)) (retP2 (defBody s_sieve)) ["text", "wanted", "word", "mark", "lets"] ["wanted"] [1] 4 := by
  refine ⟨?_, rfl, ?_, rfl, rfl, fun _ => rfl, rfl, rfl, rfl, ?_, by decide, fun _ => rfl, by decide, by decide⟩
  · rfl
  · decide +kernel
  · decide +kernel
theorem g_sieve_2 (T : TxtT K mg A base) : GF P w K mg base 3 "sieve" [] (spE K mg (fun q : Str => [.str q]) (fun q => F_sieve_2 q) dk_FN_sieveMSRB) := by
  refine T.f_sieve.gfM fun f fd hm F => fn_cloE (encs := dks_FN_sieveMSRB) F sc_sieve_2 (fun _ => rfl) look_sieve_2 T.tbs (T.ct_sieve f hm) (nm := fun _ _ => "sieve.<locals>.lets") (by simp [Dl.tabT]) (by simp [Dl.tabT]) (by rfl) (fun _ => rfl) fun X e1 e2 e3 e4 e5 B Fz text1 out hF hne => ?_
  subst e1 e2 e3 e4 e5
  have v0 : Ns X 0 "text" := B.ns rfl rfl
  have v1 : Ns X 1 "wanted" := B.nc Fz rfl rfl
  have v2 : Ns X 2 "word" := B.ns rfl rfl
  have v3 : Ns X 3 "mark" := B.ns rfl rfl
  have v4 : Ns X 4 "lets" := B.ns rfl rfl
  replace hF : F_sieve_2 text1 = out := hF
  unfold F_sieve_2 at hF
  change DS _ _ _ [some (.str text1), none, none, none, none] [] _
  refine ds_cons (ds1_if (dt_not (dt_val (dv_isi (T := "str") (k := true) (B.bn (x := "isinstance") rfl T.b_isinstance bt_isinstance) (B.bn (x := "str") rfl T.b_str bt_str) (dv_var v0.toNm rfl) (by first | exact .non | exact .int _ | exact .bl _ | exact .str _ | exact .lst _ | exact .tup _ | exact .scr _) (by decide +kernel)))) (fun hh2 => ?_) (fun hh2 => ?_))
  ·
    replace hF := ite_t hF hh2
    exact ds_cons (ds1_raise B.calm T.x_NoMark (B.gl (x := "NoMark") rfl) fun cls hm => (kx_exc hF hm))
  ·
    replace hF := ite_f hF hh2
    refine ds_nil ?_
    refine ds_cons (ds1_newG ek_S D.bl v1 fun d3 m4 hh5 => ?_)
    change DS _ _ _ [some (.str text1), some (d3), none, none, none] (m4 ++ []) _
    obtain ⟨jk7, hjk7, hF⟩ := jpE_out hF
    refine ds_cons (ds1_ifJ (kf := jk7) (out := out) (fun (a : Unit) (z : List (Str × (List Bool))) => [some (.str text1), some (.dK (z.map fun q => ek_S q.1) (z.map fun q => dk_RB q.2)), none, none, none]) (fun (a : Unit) (z : List (Str × (List Bool))) => []) (dt_nes (dv_var v0.toNm rfl) dv_str) (fun hh6 => ?_) (fun hh6 => ?_) ?_ then_fgt)
    ·
      replace hF := ite_t hF hh6
      obtain ⟨hh8, hF⟩ := gd_out hF hne
      obtain ⟨o34, hh35, hh36, hF⟩ := bindX_cut hF hne
      refine ds_cons (ds1_foldO (enc := D.str) m4 B (fun (a : Mem) (z : List (Str × List Bool)) => [some (.str text1), some (d3), none, none, none]) (fun (a : Mem) (z : List (Str × List Bool)) => a ++ []) (fun (a : Mem) (z : List (Str × List Bool)) => OwR (isDKL ek_S D.bl) z d3 a) hh35 hh36 (di_list (dv_split (dv_var v0.toNm rfl) dv_str (by decide) hh8)) hh5 ⟨.inr rfl, .inr rfl, .inl rfl, .inl rfl, .inl rfl, trivial⟩ rfl ?hso34 ?hdo34 ?hxo34 then_fgt)
      case hso34 =>
        clear hF
        rintro m10 wanted9 x12 o13 hh11 _ hF hne
        refine ⟨_, _, (dg_name v2), ?_⟩
        change DS _ _ _ [some (.str text1), some (d3), some (.str x12), none, none] (m10 ++ []) _
        refine ds_cons (ds1_set v3 (dv_var v2.toNm rfl) ?_)
        change DS _ _ _ [some (.str text1), some (d3), some (.str x12), some (.str x12), none] (m10 ++ []) _
        obtain ⟨jk15, hjk15, hF⟩ := jpE_out hF
        refine ds_cons (ds1_ifJ (kf := jk15) (out := o13) (fun (a : Unit) (z : Str) => [some (.str text1), some (d3), some (.str x12), some (.str z), none]) (fun (a : Unit) (z : Str) => m10 ++ []) (dt_val (dv_startswith (dv_var v2.toNm rfl) dv_str)) (fun hh14 => ?_) (fun hh14 => ?_) ?_ then_fgt)
        ·
          replace hF := ite_t hF hh14
          obtain ⟨hh16, hF⟩ := gd_out hF hne
          obtain ⟨mark17, hh18, hF⟩ := letE_out hF
          refine ds_cons (ds1_set v3 (dv_isE (enc := D.str) (dv_slT' (dv_var v2.toNm rfl) hh16 (do_some dv_int) do_none) hh18) ?_)
          change DS _ _ _ [some (.str text1), some (d3), some (.str x12), some (.str mark17), none] (m10 ++ []) _
          refine ds_nil ?_
          exact join_nx () mark17 hF ⟨.inr rfl, .inr rfl, .inr rfl, .inr rfl, .inl rfl, trivial⟩ rfl
        ·
          replace hF := ite_f hF hh14
          refine ds_nil ?_
          exact join_nx () x12 hF ⟨.inr rfl, .inr rfl, .inr rfl, .inr rfl, .inl rfl, trivial⟩ rfl
        ·
          rintro ⟨⟩ mark19 hF
          subst hjk15
          change DS _ _ _ [some (.str text1), some (d3), some (.str x12), some (.str mark19), none] (m10 ++ []) _
          obtain ⟨r20, hh21, hF⟩ := bindP_out hF hne
          refine ds_cons (ds1_if (dt_not (dt_val (c_is_mark T (B.room.mono (by decide)) (B.gl (x := "is_mark") rfl) (dv_var v3.toNm rfl) hh21))) (fun hh22 => ?_) (fun hh22 => ?_))
          ·
            replace hF := ite_t hF hh22
            refine ds_frzO (ok_dkl (ek := ek_S) (f := D.bl)) hh11 1 (.refl _) rfl ?_
            change DS _ _ _ [some (.str text1), some (.dK (wanted9.map fun q => ek_S q.1) (wanted9.map fun q => dk_RB q.2)), some (.str x12), some (.str mark19), none] [] _
            exact ds_cons (ds1_raise B.calm T.x_NoMark (B.gl (x := "NoMark") rfl) fun cls hm => (kx_exc hF hm))
          ·
            replace hF := ite_f hF hh22
            refine ds_nil ?_
            obtain ⟨hh23, hF⟩ := gd_out hF hne
            refine ds_cons (ds1_setdG hh11 (.refl _) B ij_S (dv_var v1.toNm rfl) (dv_var v3.toNm rfl) hh23 fun m24 hh25 => ?_)
            change DS _ _ _ [some (.str text1), some (d3), some (.str x12), some (.str mark19), none] (m24 ++ []) _
            obtain ⟨xs26, hh27, hF⟩ := bindP_out hF hne
            obtain ⟨hh28, hF⟩ := gd_out hF hne
            refine ds_cons (ds1_appG hh25 (.refl _) B ij_S (fun _ _ => dv_var v1.toNm rfl) (fun _ _ => (dv_var v3.toNm rfl)) (fun _ _ => (dv_eqs (dv_var v3.toNm rfl) (dv_var v2.toNm rfl))) hh27 hh28 fun m29 hh30 => ?_)
            change DS _ _ _ [some (.str text1), some (d3), some (.str x12), some (.str mark19), none] (m29 ++ []) _
            refine ds_nil ?_
            exact foldO_nx m29 (putA (setdA wanted9 mark19 []) mark19 (xs26 ++ [decide (mark19 = x12)])) hF hh30 ⟨.inr rfl, .inr rfl, .inl rfl, .inl rfl, .inl rfl, trivial⟩ rfl
      case hdo34 =>
        rintro m32 wanted31 hh33 rfl
        replace hF := okE hF
        change DS _ _ _ [some (.str text1), some (d3), none, none, none] (m32 ++ []) _
        refine ds_frzO (ok_dkl (ek := ek_S) (f := D.bl)) hh33 1 (.refl _) rfl ?_
        change DS _ _ _ [some (.str text1), some (.dK (wanted31.map fun q => ek_S q.1) (wanted31.map fun q => dk_RB q.2)), none, none, none] [] _
        refine ds_nil ?_
        exact join_nx () wanted31 hF ⟨.inr rfl, .inr rfl, .inl rfl, .inl rfl, .inl rfl, trivial⟩ rfl
      case hxo34 =>
        rintro cls fs _ _ ⟨n, rfl, e2⟩
        exact kx_exc hF e2
    ·
      replace hF := ite_f hF hh6
      refine ds_frzO (ok_dkl (ek := ek_S) (f := D.bl)) hh5 1 (.refl _) rfl ?_
      change DS _ _ _ [some (.str text1), some (.dK (([] : List (Str × List Bool)).map fun q => ek_S q.1) (([] : List (Str × List Bool)).map fun q => dk_RB q.2)), none, none, none] [] _
      refine ds_nil ?_
      exact join_nx () ([] : List (Str × List Bool)) hF ⟨.inr rfl, .inr rfl, .inl rfl, .inl rfl, .inl rfl, trivial⟩ rfl
    ·
      rintro ⟨⟩ wanted37 hF
      subst hjk7
      change DS _ _ _ [some (.str text1), some (.dK (wanted37.map fun q => ek_S q.1) (wanted37.map fun q => dk_RB q.2)), none, none, none] [] _
      refine ds_nil ?_
      exact end1 rfl ⟨_, hF.symm, rfl⟩
theorem x_sieve_2 {X : Cx} {kx : XD} {ρ : Ro} {M : Mem} {pos p : Pos} {e0 : Expr} {text1 : Str} {n : Str} {fs : List (Str × D)} (T : TxtT X.K X.mg A X.base) (hr : Room 3 X.A) (hg : Gl X "sieve") (h0 : DV X kx e0 ρ M (.str text1)) (hF : F_sieve_2 text1 = .exc n fs) (hk : ∀ cls, X.mg n = some cls → kx cls fs ρ M) (he0 : starEach [e0] X.env = (false, eval e0 X.env) :: starEach [] X.env := by rfl) (hpl : (backTo pos (starEach [] X.env)).any (·.1) = false := by rfl) : DE X kx (.Call (.Name "sieve" p) [e0] [] pos) ρ M fun _ _ => False :=
  de_exc (g_sieve_2 T) hr hg (da_cons h0 da_nil he0) text1 rfl hF hk (by decide) he0 hpl
theorem c_sieve_2 {X : Cx} {kx : XD} {ρ : Ro} {M : Mem} {pos p : Pos} {e0 : Expr} {text1 : Str} {r : List (Str × (List Bool))} (T : TxtT X.K X.mg A X.base) (hr : Room 3 X.A) (hg : Gl X "sieve") (h0 : DV X kx e0 ρ M (.str text1)) (hF : F_sieve_2 text1 = .ok r) (he0 : starEach [e0] X.env = (false, eval e0 X.env) :: starEach [] X.env := by rfl) (hpl : (backTo pos (starEach [] X.env)).any (·.1) = false := by rfl) : DV X kx (.Call (.Name "sieve" p) [e0] [] pos) ρ M (dk_FN_sieveMSRB r) :=
  dv_call (g_sieve_2 T) hr hg (da_cons h0 da_nil he0) text1 rfl (fun h => Ex.ok_ne r (hF.symm.trans h)) (fun d ⟨r', a1, a2⟩ => by cases hF.symm.trans a1; exact a2) (fun cls fs ⟨n, a1, _⟩ => by cases hF.symm.trans a1) (by decide) he0 hpl
theorem sc_l_marks : FnScope ["_law_draw", "_law_one", "_law_found", "_law_k", "_law_mark_here"] ["_law_draw", "_law_one"] (defScope s_l_marks) := fscope (by decide +kernel)
theorem g_l_marks (T : TxtT K mg A base) : GF P w K mg base 3 "_law_marks" [] (spE K mg (fun q : Int × Int => [.int q.1, .int q.2]) (fun q => F_l_marks q.1 q.2) dk_LS) := by
  refine T.f_l_marks.gf fun f fd F => fn_e F sc_l_marks (fun _ => rfl) fun X e1 e2 e3 e4 e5 B Fz q out hF hne => ?_
  subst e1 e2 e3 e4 e5
  have v0 : Ns X 0 "_law_draw" := B.ns rfl rfl
  have v1 : Ns X 1 "_law_one" := B.ns rfl rfl
  have v2 : Ns X 2 "_law_found" := B.ns rfl rfl
  have v3 : Ns X 3 "_law_k" := B.ns rfl rfl
  have v4 : Ns X 4 "_law_mark_here" := B.ns rfl rfl
  obtain ⟨draw1, one2⟩ := q
  replace hF : F_l_marks draw1 one2 = out := hF
  unfold F_l_marks at hF
  change DS _ _ _ [some (.int draw1), some (.int one2), none, none, none] [] _
  refine ds_cons (ds1_newL v2 da_nil (szN 0 rfl) fun w3 n_w3 => ?_)
  change DS _ _ _ [some (.int draw1), some (.int one2), some (.adr w3), none, none] [(w3, Mu.lst (([] : List Str).map D.str))] _
  obtain ⟨r4, hh5, hF⟩ := bindP_out hF hne
  obtain ⟨hh6, hF⟩ := gd_out hF hne
  obtain ⟨o19, hh20, hh21, hF⟩ := bindX_cut hF hne
  refine ds_cons (ds1_foldE (enc := D.int) B (fun (z : List Str) => [some (.int draw1), some (.int one2), some (.adr w3), none, none]) (fun (z : List Str) => [(w3, Mu.lst (z.map D.str))]) hh20 hh21 (di_range1 (B.bn (x := "range") rfl T.b_range bt_range) (dv_mod (c_l_mixed T (B.room.mono (by decide)) (B.gl (x := "_law_mixed") rfl) (dv_var v0.toNm rfl) dv_int hh5) dv_int (by decide)) hh6.1 hh6.2) ⟨.inr rfl, .inr rfl, .inr rfl, .inl rfl, .inl rfl, trivial⟩ rfl ?hso19 ?hdo19 ?hxo19 then_fgt)
  case hso19 =>
    clear hF
    rintro found7 x8 o9 _ hF hne
    refine ⟨_, _, (dg_name v3), ?_⟩
    change DS _ _ _ [some (.int draw1), some (.int one2), some (.adr w3), some (.int x8), none] [(w3, Mu.lst (found7.map D.str))] _
    obtain ⟨r10, hh11, hF⟩ := bindP_out hF hne
    obtain ⟨r12, hh13, hF⟩ := bindP_out hF hne
    refine ds_cons (ds1_set v4 (c_l_mark T (B.room.mono (by decide)) (B.gl (x := "_law_mark") rfl) (dv_var v1.toNm rfl) (dv_mod (c_l_mixed T (B.room.mono (by decide)) (B.gl (x := "_law_mixed") rfl) (dv_var v0.toNm rfl) (dv_add dv_int (dv_var v3.toNm rfl)) hh11) dv_int (by decide)) hh13) ?_)
    change DS _ _ _ [some (.int draw1), some (.int one2), some (.adr w3), some (.int x8), some (.str r12)] [(w3, Mu.lst (found7.map D.str))] _
    obtain ⟨jk15, hjk15, hF⟩ := jpE_out hF
    refine ds_cons (ds1_ifJ (kf := jk15) (out := o9) (fun (a : Unit) (z : List Str) => [some (.int draw1), some (.int one2), some (.adr w3), some (.int x8), some (.str r12)]) (fun (a : Unit) (z : List Str) => [(w3, Mu.lst (z.map D.str))]) (dt_ninLS (dv_var v4.toNm rfl) (dv_var v2.toNm rfl) (.adr (List.mem_of_getElem? (i := 0) (show _ = some (w3, Mu.lst (found7.map D.str)) from rfl)))) (fun hh14 => ?_) (fun hh14 => ?_) ?_ then_fgt)
    ·
      replace hF := ite_t hF hh14
      obtain ⟨hh16, hF⟩ := gd_out hF hne
      refine ds_cons (ds1_appM (g := D.str) (xs := found7) (v := r12) 0 (dv_var v2.toNm rfl) (dv_var v4.toNm rfl) rfl hh16 ?_)
      change DS _ _ _ [some (.int draw1), some (.int one2), some (.adr w3), some (.int x8), some (.str r12)] [(w3, Mu.lst ((found7 ++ [r12]).map D.str))] _
      refine ds_nil ?_
      exact join_nx () (found7 ++ [r12]) hF ⟨.inr rfl, .inr rfl, .inr rfl, .inr rfl, .inr rfl, trivial⟩ rfl
    ·
      replace hF := ite_f hF hh14
      refine ds_nil ?_
      exact join_nx () found7 hF ⟨.inr rfl, .inr rfl, .inr rfl, .inr rfl, .inr rfl, trivial⟩ rfl
    ·
      rintro ⟨⟩ found17 hF
      subst hjk15
      change DS _ _ _ [some (.int draw1), some (.int one2), some (.adr w3), some (.int x8), some (.str r12)] [(w3, Mu.lst (found17.map D.str))] _
      refine ds_nil ?_
      exact fold_nx hF ⟨.inr rfl, .inr rfl, .inr rfl, .inl rfl, .inl rfl, trivial⟩ rfl
  case hdo19 =>
    rintro found18 rfl
    replace hF := okE hF
    change DS _ _ _ [some (.int draw1), some (.int one2), some (.adr w3), none, none] [(w3, Mu.lst (found18.map D.str))] _
    refine ds_frz 0 2 rfl rfl ?_
    change DS _ _ _ [some (.int draw1), some (.int one2), some (.lst (found18.map D.str)), none, none] [] _
    refine ds_cons (ds1_retV (dv_var v2.toNm rfl) ?_)
    exact ret_mk (enc := dk_LS) (M := []) hF
  case hxo19 =>
    rintro cls fs _ _ ⟨n, rfl, e2⟩
    exact kx_exc hF e2
theorem c_l_marks {X : Cx} {kx : XD} {ρ : Ro} {M : Mem} {pos p : Pos} {e0 e1 : Expr} {draw1 : Int} {one2 : Int} {r : List Str} (T : TxtT X.K X.mg A X.base) (hr : Room 3 X.A) (hg : Gl X "_law_marks") (h0 : DV X kx e0 ρ M (.int draw1)) (h1 : DV X kx e1 ρ M (.int one2)) (hF : F_l_marks draw1 one2 = .ok r) (he0 : starEach [e0, e1] X.env = (false, eval e0 X.env) :: starEach [e1] X.env := by rfl) (he1 : starEach [e1] X.env = (false, eval e1 X.env) :: starEach [] X.env := by rfl) (hpl : (backTo pos (starEach [e1] X.env)).any (·.1) = false := by rfl) : DV X kx (.Call (.Name "_law_marks" p) [e0, e1] [] pos) ρ M (.lst (r.map D.str)) :=
  dv_call (g_l_marks T) hr hg (da_cons h0 (da_cons h1 da_nil he1) he0) (draw1, one2) rfl (fun h => Ex.ok_ne r (hF.symm.trans h)) (fun d ⟨r', a1, a2⟩ => by cases hF.symm.trans a1; exact a2) (fun cls fs ⟨n, a1, _⟩ => by cases hF.symm.trans a1) (by decide) he0 hpl
theorem sc_sieve_lets : NdefX.NScope ["marks", "wanted", "mark", "ways", "way"] ["marks"] ["wanted"] G_sieve_lets.scope := NdefX.nscope_by (by decide +kernel)
theorem n_sieve_lets (T : TxtT K mg A base) : GClo P w K mg base 1 G_sieve_lets ["marks"] ["wanted"] (nspE K (fun q : (List Str) × (List (Str × (List Bool))) => [.lst (q.1.map D.str)]) (fun q : (List Str) × (List (Str × (List Bool))) => [.dK (q.2.map fun q => ek_S q.1) (q.2.map fun q => dk_RB q.2)]) (fun q => F_sieve_lets q.1 q.2) D.bl) := by
  refine fn_nE sc_sieve_lets (fun _ _ _ _ _ us hl => match us, hl with | [_], _ => rfl) (fun _ => rfl) fun X e1 e2 e3 e4 e5 B q out hF hne => ?_
  subst e1 e2 e3 e4 e5
  have v0 : Ns X 0 "marks" := B.ns rfl rfl
  have v1 : Fre X 1 "wanted" := B.fre rfl rfl
  have v2 : Ns X 2 "mark" := B.ns rfl rfl
  have v3 : Ns X 3 "ways" := B.ns rfl rfl
  have v4 : Ns X 4 "way" := B.ns rfl rfl
  obtain ⟨marks1, wanted2⟩ := q
  replace hF : F_sieve_lets marks1 wanted2 = out := hF
  unfold F_sieve_lets at hF
  change DS _ _ _ [some (.lst (marks1.map D.str)), some (.dK (wanted2.map fun q => ek_S q.1) (wanted2.map fun q => dk_RB q.2)), none, none, none] [] _
  obtain ⟨o12, hh13, hh14, hF⟩ := bindX_cut hF hne
  refine ds_cons (ds1_loopE (enc := dk_T2SRB) (enr := D.bl) B (fun (z : Unit) => [some (.lst (marks1.map D.str)), some (.dK (wanted2.map fun q => ek_S q.1) (wanted2.map fun q => dk_RB q.2)), none, none, none]) (fun (z : Unit) => []) hh13 hh14 (di_itemsKF (eK := ek_S) (f := dk_RB) (enp := dk_T2SRB) (fun _ => rfl) wanted2 rfl (dv_var v1.toNm rfl)) ⟨.inr rfl, .inr rfl, .inl rfl, .inl rfl, .inl rfl, trivial⟩ rfl ?hso12 ?hdo12 ?hro12 ?hxo12 then_fgt)
  case hso12 =>
    clear hF
    rintro ⟨⟩ x3 o4 _ hF hne
    refine ⟨_, _, (dg_tup B.calm (dgs_cons (dg_name v2) (dgs_cons (dg_name v3) dgs_nil))), ?_⟩
    change DS _ _ _ [some (.lst (marks1.map D.str)), some (.dK (wanted2.map fun q => ek_S q.1) (wanted2.map fun q => dk_RB q.2)), some (.str x3.1), some (.scr (x3.2.map D.bl)), none] [] _
    obtain ⟨o8, hh9, hh10, hF⟩ := bindX_cut hF hne
    refine ds_cons (ds1_loopE (enc := D.bl) (enr := D.bl) B (fun (z : Unit) => [some (.lst (marks1.map D.str)), some (.dK (wanted2.map fun q => ek_S q.1) (wanted2.map fun q => dk_RB q.2)), some (.str x3.1), some (.scr (x3.2.map D.bl)), none]) (fun (z : Unit) => []) hh9 hh10 (di_scr (dv_var v3.toNm rfl)) ⟨.inr rfl, .inr rfl, .inr rfl, .inr rfl, .inl rfl, trivial⟩ rfl ?hso8 ?hdo8 ?hro8 ?hxo8 then_fgt)
    case hso8 =>
      clear hF
      rintro ⟨⟩ x5 o6 _ hF hne
      refine ⟨_, _, (dg_name v4), ?_⟩
      change DS _ _ _ [some (.lst (marks1.map D.str)), some (.dK (wanted2.map fun q => ek_S q.1) (wanted2.map fun q => dk_RB q.2)), some (.str x3.1), some (.scr (x3.2.map D.bl)), some (.bl x5)] [] _
      refine ds_cons (ds1_if (dt_neb (dv_inLS (dv_var v2.toNm rfl) (dv_var v0.toNm rfl) (.lst _)) (dv_var v4.toNm rfl)) (fun hh7 => ?_) (fun hh7 => ?_))
      ·
        replace hF := ite_t hF hh7
        refine ds_cons (ds1_retV dv_bl ?_)
        exact loop_rt (R := fun _ => []) (Mf := fun _ => []) (enr := D.bl) (M := []) hF
      ·
        replace hF := ite_f hF hh7
        refine ds_nil ?_
        refine ds_nil ?_
        exact loop_nx (enr := D.bl) hF ⟨.inr rfl, .inr rfl, .inr rfl, .inr rfl, .inl rfl, trivial⟩ rfl
    case hdo8 =>
      rintro ⟨⟩ rfl
      replace hF := okE hF
      replace hF := nxE hF
      change DS _ _ _ [some (.lst (marks1.map D.str)), some (.dK (wanted2.map fun q => ek_S q.1) (wanted2.map fun q => dk_RB q.2)), some (.str x3.1), some (.scr (x3.2.map D.bl)), none] [] _
      refine ds_nil ?_
      exact loop_nx (enr := D.bl) hF ⟨.inr rfl, .inr rfl, .inl rfl, .inl rfl, .inl rfl, trivial⟩ rfl
    case hro8 =>
      rintro r11 _ rfl
      exact loop_rt (R := fun _ => []) (Mf := fun _ => []) (enr := D.bl) (M := []) hF
    case hxo8 =>
      rintro cls fs _ _ ⟨n, rfl, e2⟩
      exact kx_exc hF e2
  case hdo12 =>
    rintro ⟨⟩ rfl
    replace hF := okE hF
    replace hF := nxE hF
    change DS _ _ _ [some (.lst (marks1.map D.str)), some (.dK (wanted2.map fun q => ek_S q.1) (wanted2.map fun q => dk_RB q.2)), none, none, none] [] _
    refine ds_cons (ds1_retV dv_bl ?_)
    exact ret_mk (enc := D.bl) (M := []) hF
  case hro12 =>
    rintro r15 _ rfl
    exact ret_mk (enc := D.bl) (M := []) hF
  case hxo12 =>
    rintro cls fs _ _ ⟨n, rfl, e2⟩
    exact kx_exc hF e2
theorem cn_sieve_lets {X : Cx} {kx : XD} {ρ : Ro} {M : Mem} {pos p : Pos} {i : Nat} {x : Str} {e0 : Expr} {marks1 : List Str} {wanted2 : List (Str × (List Bool))} {r : Bool} (T : TxtT X.K X.mg A X.base) (hr : Room 1 X.A) (n : Nm X i x) (hs : ρ[i]? = some (some (dk_FN_sieveMSRB wanted2))) (h0 : DV X kx e0 ρ M (.lst (marks1.map D.str))) (hF : F_sieve_lets marks1 wanted2 = .ok r) (he0 : starEach [e0] X.env = (false, eval e0 X.env) :: starEach [] X.env := by rfl) (hpl : (backTo pos (starEach [] X.env)).any (·.1) = false := by rfl) : DV X kx (.Call (.Name x p) [e0] [] pos) ρ M (.bl r) :=
  dv_callN (n_sieve_lets T) hr n hs (da_cons h0 da_nil he0) (marks1, wanted2) rfl rfl (nce_cons ((nce_lst nce_str) _) nce_nil) (nce_cons ((fun t => nce_dK (f := fun (q : Str × (List Bool)) => dk_RB q.2) (fun q => (nce_scr nce_bl) _) t) _) nce_nil) ⟨r, hF⟩ (fun d M' ⟨r', a1, a2⟩ => by cases hF.symm.trans a1; exact a2) he0 hpl
theorem sc_l_due : FnScope ["_law_words_here", "_law_marks_here", "_law_mark_here", "_law_way"] ["_law_words_here", "_law_marks_here"] (defScope s_l_due) := fscope (by decide +kernel)
theorem g_l_due (T : TxtT K mg A base) : GF P w K mg base 1 "_law_due" [] (spE K mg (fun q : (List (Str × Bool)) × (List Str) => [.lst (q.1.map dk_T2SB), .lst (q.2.map D.str)]) (fun q => F_l_due q.1 q.2) D.bl) := by
  refine T.f_l_due.gf fun f fd F => fn_e F sc_l_due (fun _ => rfl) fun X e1 e2 e3 e4 e5 B Fz q out hF hne => ?_
  subst e1 e2 e3 e4 e5
  have v0 : Ns X 0 "_law_words_here" := B.ns rfl rfl
  have v1 : Ns X 1 "_law_marks_here" := B.nc Fz rfl rfl
  obtain ⟨words1, marks2⟩ := q
  replace hF : F_l_due words1 marks2 = out := hF
  unfold F_l_due at hF
  change DS _ _ _ [some (.lst (words1.map dk_T2SB)), some (.lst (marks2.map D.str)), none, none] [] _
  obtain ⟨hh5, hF⟩ := gd_out hF hne
  refine ds_cons (ds1_retV (dv_all B.calm (B.bn (x := "all") rfl T.b_all bt_all) (dv_lcE (own := [("_law_mark_here", 2), ("_law_way", 3)]) B  (di_list (dv_var v0.toNm rfl)) (blkOk_by (by decide +kernel)) (sz_lt hh5) (fun u3 _ => ⟨_, _, fun _ h => h, fun _ _ _ _ _ _ _ B4 => ⟨(dg_tup B4.calm (dgs_cons (dg_name (B4.ns (i := 2) rfl rfl)) (dgs_cons (dg_name (B4.ns (i := 3) rfl rfl)) dgs_nil))), dts_nil, fun _ => (dv_eqb (dv_inLS (dv_var (B4.nm (i := 2) rfl (vloc rfl)) rfl) (dv_var (B4.nm (i := 1) rfl (vcel rfl)) rfl) (.lst _)) (dv_var (B4.nm (i := 3) rfl (vloc rfl)) rfl))⟩⟩) (outs_M _ (fun (u3 : Str × Bool) => decide (decide (u3.1 ∈ marks2) = u3.2)) D.bl)) (.lst _)) ?_)
  exact ret_mk (enc := D.bl) (M := []) hF
theorem c_l_due {X : Cx} {kx : XD} {ρ : Ro} {M : Mem} {pos p : Pos} {e0 e1 : Expr} {words1 : List (Str × Bool)} {marks2 : List Str} {r : Bool} (T : TxtT X.K X.mg A X.base) (hr : Room 1 X.A) (hg : Gl X "_law_due") (h0 : DV X kx e0 ρ M (.lst (words1.map dk_T2SB))) (h1 : DV X kx e1 ρ M (.lst (marks2.map D.str))) (hF : F_l_due words1 marks2 = .ok r) (he0 : starEach [e0, e1] X.env = (false, eval e0 X.env) :: starEach [e1] X.env := by rfl) (he1 : starEach [e1] X.env = (false, eval e1 X.env) :: starEach [] X.env := by rfl) (hpl : (backTo pos (starEach [e1] X.env)).any (·.1) = false := by rfl) : DV X kx (.Call (.Name "_law_due" p) [e0, e1] [] pos) ρ M (.bl r) :=
  dv_call (g_l_due T) hr hg (da_cons h0 (da_cons h1 da_nil he1) he0) (words1, marks2) rfl (fun h => Ex.ok_ne r (hF.symm.trans h)) (fun d ⟨r', a1, a2⟩ => by cases hF.symm.trans a1; exact a2) (fun cls fs ⟨n, a1, _⟩ => by cases hF.symm.trans a1) (by decide) he0 hpl
theorem sc_l_same : FnScope ["_law_found", "_law_due_here"] ["_law_found", "_law_due_here"] (defScope s_l_same) := fscope (by decide +kernel)
theorem g_l_same (T : TxtT K mg A base) : GF P w K mg base 1 "_law_same" [] (spE K mg (fun q : Bool × Bool => [.bl q.1, .bl q.2]) (fun q => F_l_same q.1 q.2) D.bl) := by
  refine T.f_l_same.gf fun f fd F => fn_e F sc_l_same (fun _ => rfl) fun X e1 e2 e3 e4 e5 B Fz q out hF hne => ?_
  subst e1 e2 e3 e4 e5
  have v0 : Ns X 0 "_law_found" := B.ns rfl rfl
  have v1 : Ns X 1 "_law_due_here" := B.ns rfl rfl
  obtain ⟨found1, due2⟩ := q
  replace hF : F_l_same found1 due2 = out := hF
  unfold F_l_same at hF
  change DS _ _ _ [some (.bl found1), some (.bl due2)] [] _
  refine ds_cons (ds1_retV (dv_and (dv_isi (T := "bool") (k := true) (B.bn (x := "isinstance") rfl T.b_isinstance bt_isinstance) (B.bn (x := "bool") rfl T.b_bool bt_bool) (dv_var v0.toNm rfl) (by first | exact .non | exact .int _ | exact .bl _ | exact .str _ | exact .lst _ | exact .tup _ | exact .scr _) (by decide +kernel)) fun _ => (dv_one (dv_eqb (dv_var v0.toNm rfl) (dv_var v1.toNm rfl)))) ?_)
  exact ret_mk (enc := D.bl) (M := []) hF
theorem c_l_same {X : Cx} {kx : XD} {ρ : Ro} {M : Mem} {pos p : Pos} {e0 e1 : Expr} {found1 : Bool} {due2 : Bool} {r : Bool} (T : TxtT X.K X.mg A X.base) (hr : Room 1 X.A) (hg : Gl X "_law_same") (h0 : DV X kx e0 ρ M (.bl found1)) (h1 : DV X kx e1 ρ M (.bl due2)) (hF : F_l_same found1 due2 = .ok r) (he0 : starEach [e0, e1] X.env = (false, eval e0 X.env) :: starEach [e1] X.env := by rfl) (he1 : starEach [e1] X.env = (false, eval e1 X.env) :: starEach [] X.env := by rfl) (hpl : (backTo pos (starEach [e1] X.env)).any (·.1) = false := by rfl) : DV X kx (.Call (.Name "_law_same" p) [e0, e1] [] pos) ρ M (.bl r) :=
  dv_call (g_l_same T) hr hg (da_cons h0 (da_cons h1 da_nil he1) he0) (found1, due2) rfl (fun h => Ex.ok_ne r (hF.symm.trans h)) (fun d ⟨r', a1, a2⟩ => by cases hF.symm.trans a1; exact a2) (fun cls fs ⟨n, a1, _⟩ => by cases hF.symm.trans a1) (by decide) he0 hpl
theorem sc_l_parted_2 : FnScope ["_law_text", "_law_found", "_law_word", "_law_mark_here", "_law_sign"] ["_law_text"] (defScope s_l_parted) := fscope (by decide +kernel)
theorem g_l_parted_2 (T : TxtT K mg A base) : GF P w K mg base 1 "_law_parted" [] (spE K mg (fun q : Str => [.str q]) (fun q => F_l_parted_2 q) (dOpt dk_LT2SB)) := by
  refine T.f_l_parted.gf fun f fd F => fn_e F sc_l_parted_2 (fun _ => rfl) fun X e1 e2 e3 e4 e5 B Fz text1 out hF hne => ?_
  subst e1 e2 e3 e4 e5
  have v0 : Ns X 0 "_law_text" := B.ns rfl rfl
  have v1 : Ns X 1 "_law_found" := B.ns rfl rfl
  have v2 : Ns X 2 "_law_word" := B.ns rfl rfl
  have v3 : Ns X 3 "_law_mark_here" := B.ns rfl rfl
  have v4 : Ns X 4 "_law_sign" := B.ns rfl rfl
  replace hF : F_l_parted_2 text1 = out := hF
  unfold F_l_parted_2 at hF
  change DS _ _ _ [some (.str text1), none, none, none, none] [] _
  refine ds_cons (ds1_if (dt_not (dt_val (dv_isi (T := "str") (k := true) (B.bn (x := "isinstance") rfl T.b_isinstance bt_isinstance) (B.bn (x := "str") rfl T.b_str bt_str) (dv_var v0.toNm rfl) (by first | exact .non | exact .int _ | exact .bl _ | exact .str _ | exact .lst _ | exact .tup _ | exact .scr _) (by decide +kernel)))) (fun hh2 => ?_) (fun hh2 => ?_))
  ·
    replace hF := ite_t hF hh2
    refine ds_cons (ds1_retV (DV.is dv_non (show _ = dOpt dk_LT2SB none from rfl)) ?_)
    exact ret_mk (enc := (dOpt dk_LT2SB)) (M := []) hF
  ·
    replace hF := ite_f hF hh2
    refine ds_nil ?_
    refine ds_cons (ds1_if (dt_eqs (dv_var v0.toNm rfl) dv_str) (fun hh3 => ?_) (fun hh3 => ?_))
    ·
      replace hF := ite_t hF hh3
      refine ds_cons (ds1_retV (DV.is (show DV _ _ _ _ _ (.lst (([] : List (Str × Bool)).map dk_T2SB)) from dv_lst da_nil (szN 0 rfl)) (show _ = dOpt dk_LT2SB (some ([] : List (Str × Bool))) from rfl)) ?_)
      exact ret_mk (enc := (dOpt dk_LT2SB)) (M := []) hF
    ·
      replace hF := ite_f hF hh3
      refine ds_nil ?_
      refine ds_cons (ds1_newL v1 da_nil (szN 0 rfl) fun w4 n_w4 => ?_)
      change DS _ _ _ [some (.str text1), some (.adr w4), none, none, none] [(w4, Mu.lst (([] : List (Str × Bool)).map dk_T2SB))] _
      obtain ⟨hh5, hF⟩ := gd_out hF hne
      obtain ⟨o30, hh31, hh32, hF⟩ := bindX_cut hF hne
      refine ds_cons (ds1_loopE (enc := D.str) (enr := (dOpt dk_LT2SB)) B (fun (z : List (Str × Bool)) => [some (.str text1), some (.adr w4), none, none, none]) (fun (z : List (Str × Bool)) => [(w4, Mu.lst (z.map dk_T2SB))]) hh31 hh32 (di_list (dv_split (dv_var v0.toNm rfl) dv_str (by decide) hh5)) ⟨.inr rfl, .inr rfl, .inl rfl, .inl rfl, .inl rfl, trivial⟩ rfl ?hso30 ?hdo30 ?hro30 ?hxo30 then_fgt)
      case hso30 =>
        clear hF
        rintro found6 x7 o8 _ hF hne
        refine ⟨_, _, (dg_name v2), ?_⟩
        change DS _ _ _ [some (.str text1), some (.adr w4), some (.str x7), none, none] [(w4, Mu.lst (found6.map dk_T2SB))] _
        refine ds_cons (ds1_set v3 (dv_var v2.toNm rfl) ?_)
        change DS _ _ _ [some (.str text1), some (.adr w4), some (.str x7), some (.str x7), none] [(w4, Mu.lst (found6.map dk_T2SB))] _
        obtain ⟨hh9, hF⟩ := gd_out hF hne
        obtain ⟨jk11, hjk11, hF⟩ := jpE_out hF
        refine ds_cons (ds1_ifJ (kf := jk11) (out := o8) (fun (a : Unit) (z : Str) => [some (.str text1), some (.adr w4), some (.str x7), some (.str z), none]) (fun (a : Unit) (z : Str) => [(w4, Mu.lst (found6.map dk_T2SB))]) (dt_eqs (dv_slT' (dv_var v2.toNm rfl) hh9 do_none (do_some dv_int)) dv_str) (fun hh10 => ?_) (fun hh10 => ?_) ?_ then_fgt)
        ·
          replace hF := ite_t hF hh10
          obtain ⟨hh12, hF⟩ := gd_out hF hne
          obtain ⟨mark13, hh14, hF⟩ := letE_out hF
          refine ds_cons (ds1_set v3 (dv_isE (enc := D.str) (dv_slT' (dv_var v2.toNm rfl) hh12 (do_some dv_int) do_none) hh14) ?_)
          change DS _ _ _ [some (.str text1), some (.adr w4), some (.str x7), some (.str mark13), none] [(w4, Mu.lst (found6.map dk_T2SB))] _
          refine ds_nil ?_
          exact join_nx () mark13 hF ⟨.inr rfl, .inr rfl, .inr rfl, .inr rfl, .inl rfl, trivial⟩ rfl
        ·
          replace hF := ite_f hF hh10
          refine ds_nil ?_
          exact join_nx () x7 hF ⟨.inr rfl, .inr rfl, .inr rfl, .inr rfl, .inl rfl, trivial⟩ rfl
        ·
          rintro ⟨⟩ mark15 hF
          subst hjk11
          change DS _ _ _ [some (.str text1), some (.adr w4), some (.str x7), some (.str mark15), none] [(w4, Mu.lst (found6.map dk_T2SB))] _
          obtain ⟨b17, hh18, hF⟩ := bindP_out hF hne
          refine ds_cons (ds1_if (DW.t (dw_orE hh18 (dt_eqs (dv_var v3.toNm rfl) dv_str) fun _ _ hF => (by obtain ⟨hh16, hF⟩ := gd_out hF (Ex.ok_ne _); cases hF; exact (dw_or1 (dt_gt (dv_lenS (B.bn (x := "len") rfl T.b_len bt_len) (dv_var v3.toNm rfl) (sz_le hh16)) dv_int))))) (fun hh19 => ?_) (fun hh19 => ?_))
          ·
            replace hF := ite_t hF hh19
            refine ds_frz 0 1 rfl rfl ?_
            change DS _ _ _ [some (.str text1), some (.lst (found6.map dk_T2SB)), some (.str x7), some (.str mark15), none] [] _
            refine ds_cons (ds1_retV (DV.is dv_non (show _ = dOpt dk_LT2SB none from rfl)) ?_)
            exact loop_rt (R := fun _ => []) (Mf := fun _ => []) (enr := (dOpt dk_LT2SB)) (M := []) hF
          ·
            replace hF := ite_f hF hh19
            refine ds_nil ?_
            obtain ⟨o25, hh26, hh27, hF⟩ := bindX_cut hF hne
            refine ds_cons (ds1_loopE (enc := D.str) (enr := (dOpt dk_LT2SB)) B (fun (z : Unit) => [some (.str text1), some (.adr w4), some (.str x7), some (.str mark15), none]) (fun (z : Unit) => [(w4, Mu.lst (found6.map dk_T2SB))]) hh26 hh27 (di_str (dv_var v3.toNm rfl)) ⟨.inr rfl, .inr rfl, .inr rfl, .inr rfl, .inl rfl, trivial⟩ rfl ?hso25 ?hdo25 ?hro25 ?hxo25 then_fgt)
            case hso25 =>
              clear hF
              rintro ⟨⟩ x20 o21 _ hF hne
              refine ⟨_, _, (dg_name v4), ?_⟩
              change DS _ _ _ [some (.str text1), some (.adr w4), some (.str x7), some (.str mark15), some (.str x20)] [(w4, Mu.lst (found6.map dk_T2SB))] _
              obtain ⟨hh22, hF⟩ := gd_out hF hne
              refine ds_cons (ds1_if (dt_ninSg hh22 (dv_var v4.toNm rfl) dv_str) (fun hh23 => ?_) (fun hh23 => ?_))
              ·
                replace hF := ite_t hF hh23
                refine ds_frz 0 1 rfl rfl ?_
                change DS _ _ _ [some (.str text1), some (.lst (found6.map dk_T2SB)), some (.str x7), some (.str mark15), some (.str x20)] [] _
                refine ds_cons (ds1_retV (DV.is dv_non (show _ = dOpt dk_LT2SB none from rfl)) ?_)
                exact loop_rt (R := fun _ => []) (Mf := fun _ => []) (enr := (dOpt dk_LT2SB)) (M := []) hF
              ·
                replace hF := ite_f hF hh23
                refine ds_nil ?_
                refine ds_nil ?_
                exact loop_nx (enr := (dOpt dk_LT2SB)) hF ⟨.inr rfl, .inr rfl, .inr rfl, .inr rfl, .inl rfl, trivial⟩ rfl
            case hdo25 =>
              rintro ⟨⟩ rfl
              replace hF := okE hF
              replace hF := nxE hF
              change DS _ _ _ [some (.str text1), some (.adr w4), some (.str x7), some (.str mark15), none] [(w4, Mu.lst (found6.map dk_T2SB))] _
              obtain ⟨hh24, hF⟩ := gd_out hF hne
              refine ds_cons (ds1_appM (g := dk_T2SB) (xs := found6) (v := (mark15, decide (mark15 = x7))) 0 (dv_var v1.toNm rfl) (show DV _ _ _ _ _ (dk_T2SB (mark15, decide (mark15 = x7))) from dv_tup (da_cons (dv_var v3.toNm rfl) (da_cons (dv_eqs (dv_var v3.toNm rfl) (dv_var v2.toNm rfl)) da_nil)) (szN 2 rfl)) rfl hh24 ?_)
              change DS _ _ _ [some (.str text1), some (.adr w4), some (.str x7), some (.str mark15), none] [(w4, Mu.lst ((found6 ++ [(mark15, decide (mark15 = x7))]).map dk_T2SB))] _
              refine ds_nil ?_
              exact loop_nx (enr := (dOpt dk_LT2SB)) hF ⟨.inr rfl, .inr rfl, .inl rfl, .inl rfl, .inl rfl, trivial⟩ rfl
            case hro25 =>
              rintro r28 _ rfl
              exact loop_rt (R := fun _ => []) (Mf := fun _ => []) (enr := (dOpt dk_LT2SB)) (M := []) hF
            case hxo25 =>
              rintro cls fs _ _ ⟨n, rfl, e2⟩
              exact kx_exc hF e2
      case hdo30 =>
        rintro found29 rfl
        replace hF := okE hF
        replace hF := nxE hF
        change DS _ _ _ [some (.str text1), some (.adr w4), none, none, none] [(w4, Mu.lst (found29.map dk_T2SB))] _
        refine ds_frz 0 1 rfl rfl ?_
        change DS _ _ _ [some (.str text1), some (.lst (found29.map dk_T2SB)), none, none, none] [] _
        refine ds_cons (ds1_retV (DV.is (dv_var v1.toNm rfl) (show _ = dOpt dk_LT2SB (some found29) from rfl)) ?_)
        exact ret_mk (enc := (dOpt dk_LT2SB)) (M := []) hF
      case hro30 =>
        rintro r33 _ rfl
        exact ret_mk (enc := (dOpt dk_LT2SB)) (M := []) hF
      case hxo30 =>
        rintro cls fs _ _ ⟨n, rfl, e2⟩
        exact kx_exc hF e2
theorem c_l_parted_2 {X : Cx} {kx : XD} {ρ : Ro} {M : Mem} {pos p : Pos} {e0 : Expr} {text1 : Str} {r : Option (List (Str × Bool))} (T : TxtT X.K X.mg A X.base) (hr : Room 1 X.A) (hg : Gl X "_law_parted") (h0 : DV X kx e0 ρ M (.str text1)) (hF : F_l_parted_2 text1 = .ok r) (he0 : starEach [e0] X.env = (false, eval e0 X.env) :: starEach [] X.env := by rfl) (hpl : (backTo pos (starEach [] X.env)).any (·.1) = false := by rfl) : DV X kx (.Call (.Name "_law_parted" p) [e0] [] pos) ρ M (dOpt dk_LT2SB r) :=
  dv_call (g_l_parted_2 T) hr hg (da_cons h0 da_nil he0) text1 rfl (fun h => Ex.ok_ne r (hF.symm.trans h)) (fun d ⟨r', a1, a2⟩ => by cases hF.symm.trans a1; exact a2) (fun cls fs ⟨n, a1, _⟩ => by cases hF.symm.trans a1) (by decide) he0 hpl
theorem sc_law : FnScope ["_law_script", "_law_one", "_law_text", "_law_words_here", "_law_other", "_law_lets", "_law_beside", "_law_draw", "_law_marks_here", "_law_handed"] ["_law_script"] (defScope s_law) := fscope (by decide +kernel)
theorem g_law (T : TxtT K mg A base) {f : Addr} {fd : FuncData} (F : Fun K "law" "law" s_law f fd) : FnOk P w K mg base (L2.CX P w) 5 f fd ["_law_script"] (spE K mg (fun q : List Int => [.scr (q.map D.int)]) (fun q => F_law q) D.bl) := by
  refine fn_e F sc_law (fun _ => rfl) fun X e1 e2 e3 e4 e5 B Fz script1 out hF hne => ?_
  subst e1 e2 e3 e4 e5
  have v0 : Ns X 0 "_law_script" := B.ns rfl rfl
  have v1 : Ns X 1 "_law_one" := B.ns rfl rfl
  have v2 : Ns X 2 "_law_text" := B.ns rfl rfl
  have v3 : Ns X 3 "_law_words_here" := B.ns rfl rfl
  have v4 : Ns X 4 "_law_other" := B.ns rfl rfl
  have v5 : Ns X 5 "_law_lets" := B.ns rfl rfl
  have v6 : Ns X 6 "_law_beside" := B.ns rfl rfl
  have v7 : Ns X 7 "_law_draw" := B.ns rfl rfl
  have v8 : Ns X 8 "_law_marks_here" := B.ns rfl rfl
  have v9 : Ns X 9 "_law_handed" := B.ns rfl rfl
  replace hF : F_law script1 = out := hF
  unfold F_law at hF
  change DS _ _ _ [some (.scr (script1.map D.int)), none, none, none, none, none, none, none, none, none] [] _
  obtain ⟨r2, hh3, hF⟩ := bindP_out hF hne
  refine ds_cons (ds1_set v1 (c_l_cell_at T (B.room.mono (by decide)) (B.gl (x := "_law_cell_at") rfl) (dv_var v0.toNm rfl) dv_int hh3) ?_)
  change DS _ _ _ [some (.scr (script1.map D.int)), some (.int r2), none, none, none, none, none, none, none, none] [] _
  obtain ⟨r4, hh5, hF⟩ := bindP_out hF hne
  obtain ⟨hh6, hF⟩ := gd_out hF hne
  obtain ⟨r7, hh8, hF⟩ := bindP_out hF hne
  obtain ⟨r9, hh10, hF⟩ := bindP_out hF hne
  refine ds_cons (ds1_set v2 (c_l_spoilt T (B.room.mono (by decide)) (B.gl (x := "_law_spoilt") rfl) (dv_join dv_str (c_l_words T (B.room.mono (by decide)) (B.gl (x := "_law_words") rfl) (dv_var v1.toNm rfl) hh5) (.lst _) hh6) (c_l_cell_at T (B.room.mono (by decide)) (B.gl (x := "_law_cell_at") rfl) (dv_var v0.toNm rfl) dv_int hh8) hh10) ?_)
  change DS _ _ _ [some (.scr (script1.map D.int)), some (.int r2), some (dD r9), none, none, none, none, none, none, none] [] _
  obtain ⟨r11, hh12, hF⟩ := bindP_out hF hne
  refine ds_cons (ds1_set v3 (c_l_parted T (B.room.mono (by decide)) (B.gl (x := "_law_parted") rfl) (dv_var v2.toNm rfl) hh12) ?_)
  change DS _ _ _ [some (.scr (script1.map D.int)), some (.int r2), some (dD r9), some (dOpt dk_LT2SB r11), none, none, none, none, none, none] [] _
  refine ds_cons (ds1_if (dt_isNO (fun _ => rfl) (dv_var v3.toNm rfl)) (fun hh13 => ?_) (fun hh13 => ?_))
  ·
    replace hF := ite_t hF hh13
    obtain ⟨r14, hh15, hF⟩ := bindP_out hF hne
    refine ds_cons (ds1_retV (c_l_refused T (B.room.mono (by decide)) (B.gl (x := "_law_refused") rfl) (dv_var v2.toNm rfl) hh15) ?_)
    exact ret_mk (enc := D.bl) (M := []) hF
  ·
    replace hF := ite_f hF hh13
    refine ds_nil ?_
    obtain ⟨r16, hh17, hF⟩ := bindP_out hF hne
    obtain ⟨r18, hh19, hF⟩ := bindP_out hF hne
    refine ds_cons (ds1_set v4 (c_l_words T (B.room.mono (by decide)) (B.gl (x := "_law_words") rfl) (c_l_cell_at T (B.room.mono (by decide)) (B.gl (x := "_law_cell_at") rfl) (dv_var v0.toNm rfl) dv_int hh17) hh19) ?_)
    change DS _ _ _ [some (.scr (script1.map D.int)), some (.int r2), some (dD r9), some (dOpt dk_LT2SB r11), some (.lst (r18.map D.str)), none, none, none, none, none] [] _
    rcases bindX_out hF hne with ⟨lets20, hh21, hF⟩ | ⟨n, fs, hh21, hF⟩
    rotate_left
    · exact ds_cons (ds1_setE v5 (x_sieve T (B.room.mono (by decide)) (B.gl (x := "sieve") rfl) (dv_var v2.toNm rfl) hh21 fun cls hm => (kx_exc hF.symm hm)) (fun _ _ z => z.elim))
    refine ds_cons (ds1_set v5 (c_sieve T (B.room.mono (by decide)) (B.gl (x := "sieve") rfl) (dv_var v2.toNm rfl) hh21) ?_)
    change DS _ _ _ [some (.scr (script1.map D.int)), some (.int r2), some (dD r9), some (dOpt dk_LT2SB r11), some (.lst (r18.map D.str)), some (dk_FN_sieveMSRB lets20), none, none, none, none] [] _
    obtain ⟨hh22, hF⟩ := gd_out hF hne
    rcases bindX_out hF hne with ⟨beside23, hh24, hF⟩ | ⟨n, fs, hh24, hF⟩
    rotate_left
    · exact ds_cons (ds1_setE v6 (x_sieve_2 T (B.room.mono (by decide)) (B.gl (x := "sieve") rfl) (dv_join dv_str (dv_var v4.toNm rfl) (.lst _) hh22) hh24 fun cls hm => (kx_exc hF.symm hm)) (fun _ _ z => z.elim))
    refine ds_cons (ds1_set v6 (c_sieve_2 T (B.room.mono (by decide)) (B.gl (x := "sieve") rfl) (dv_join dv_str (dv_var v4.toNm rfl) (.lst _) hh22) hh24) ?_)
    change DS _ _ _ [some (.scr (script1.map D.int)), some (.int r2), some (dD r9), some (dOpt dk_LT2SB r11), some (.lst (r18.map D.str)), some (dk_FN_sieveMSRB lets20), some (dk_FN_sieveMSRB beside23), none, none, none] [] _
    obtain ⟨hh25, hF⟩ := gd_out hF hne
    obtain ⟨o67, hh68, hh69, hF⟩ := bindX_cut hF hne
    refine ds_cons (ds1_loopE (enc := D.int) (enr := D.bl) B (fun (z : Unit) => [some (.scr (script1.map D.int)), some (.int r2), some (dD r9), some (dOpt dk_LT2SB r11), some (.lst (r18.map D.str)), some (dk_FN_sieveMSRB lets20), some (dk_FN_sieveMSRB beside23), none, none, none]) (fun (z : Unit) => []) hh68 hh69 (di_list (dv_catM (g := D.int) (dv_slM (g := D.int) (dv_var v0.toNm rfl) (.scr _) (do_some dv_int) (do_some dv_int)) (dv_slM (g := D.int) (dv_var v0.toNm rfl) (.scr _) (do_some dv_int) (do_some dv_int)) (.lst _) (.lst _) (sz_le hh25))) ⟨.inr rfl, .inr rfl, .inr rfl, .inr rfl, .inr rfl, .inr rfl, .inr rfl, .inl rfl, .inl rfl, .inl rfl, trivial⟩ rfl ?hso67 ?hdo67 ?hro67 ?hxo67 then_fgt)
    case hso67 =>
      clear hF
      rintro ⟨⟩ x26 o27 _ hF hne
      refine ⟨_, _, (dg_name v7), ?_⟩
      change DS _ _ _ [some (.scr (script1.map D.int)), some (.int r2), some (dD r9), some (dOpt dk_LT2SB r11), some (.lst (r18.map D.str)), some (dk_FN_sieveMSRB lets20), some (dk_FN_sieveMSRB beside23), some (.int x26), none, none] [] _
      obtain ⟨r28, hh29, hF⟩ := bindP_out hF hne
      obtain ⟨x30, hh31, hF⟩ := bindP_out hF hne
      obtain ⟨r32, hh33, hF⟩ := bindP_out hF hne
      refine ds_cons (ds1_set v8 (c_l_marks T (B.room.mono (by decide)) (B.gl (x := "_law_marks") rfl) (dv_var v7.toNm rfl) (dv_ixS (show DV _ _ _ _ _ (.lst ([r2, r28].map D.int)) from dv_lst (da_cons (dv_var v1.toNm rfl) (da_cons (c_l_cell_at T (B.room.mono (by decide)) (B.gl (x := "_law_cell_at") rfl) (dv_var v0.toNm rfl) dv_int hh29) da_nil)) (szN 2 rfl)) (.lst _) (dv_mod (dv_var v7.toNm rfl) dv_int (by decide)) (ixE_out hh31 D.int)) hh33) ?_)
      change DS _ _ _ [some (.scr (script1.map D.int)), some (.int r2), some (dD r9), some (dOpt dk_LT2SB r11), some (.lst (r18.map D.str)), some (dk_FN_sieveMSRB lets20), some (dk_FN_sieveMSRB beside23), some (.int x26), some (.lst (r32.map D.str)), none] [] _
      refine ds_cons (ds1_set v9 (dv_list (B.bn (x := "list") rfl T.b_list bt_list) (dv_var v8.toNm rfl) (.lst _)) ?_)
      change DS _ _ _ [some (.scr (script1.map D.int)), some (.int r2), some (dD r9), some (dOpt dk_LT2SB r11), some (.lst (r18.map D.str)), some (dk_FN_sieveMSRB lets20), some (dk_FN_sieveMSRB beside23), some (.int x26), some (.lst (r32.map D.str)), some (.lst (r32.map D.str))] [] _
      obtain ⟨r34, hh35, hF⟩ := bindP_out hF hne
      obtain ⟨words36, hh37, hF⟩ := bindP_out hF hne
      obtain ⟨r38, hh39, hF⟩ := bindP_out hF hne
      obtain ⟨r40, hh41, hF⟩ := bindP_out hF hne
      obtain ⟨b44, hh45, hF⟩ := bindP_out hF hne
      refine ds_cons (ds1_if (DW.t (dw_orE hh45 (dt_not (dt_val (c_l_same T (B.room.mono (by decide)) (B.gl (x := "_law_same") rfl) (cn_sieve_lets T (B.room.mono (by decide)) v5.toNm rfl (dv_var v9.toNm rfl) hh35) (c_l_due T (B.room.mono (by decide)) (B.gl (x := "_law_due") rfl) (dv_un (enc := dk_LT2SB) (dv_var v3.toNm rfl) hh37) (dv_var v8.toNm rfl) hh39) hh41))) fun _ _ hF => (by obtain ⟨hh42, hF⟩ := gd_out hF (Ex.ok_ne _); obtain ⟨hh43, hF⟩ := gd_out hF (Ex.ok_ne _); cases hF; exact (dw_or1 (dt_neD B.hu (dv_var v9.toNm rfl) (dv_var v8.toNm rfl) (en_LS.eqs r32 r32 hh42 hh43)))))) (fun hh46 => ?_) (fun hh46 => ?_))
      ·
        replace hF := ite_t hF hh46
        refine ds_cons (ds1_retV dv_bl ?_)
        exact loop_rt (R := fun _ => []) (Mf := fun _ => []) (enr := D.bl) (M := []) hF
      ·
        replace hF := ite_f hF hh46
        refine ds_nil ?_
        obtain ⟨r47, hh48, hF⟩ := bindP_out hF hne
        obtain ⟨hh49, hF⟩ := gd_out hF hne
        obtain ⟨r50, hh51, hF⟩ := bindP_out hF hne
        obtain ⟨o52, hh53, hF⟩ := bindP_out hF hne
        obtain ⟨r54, hh55, hF⟩ := bindP_out hF hne
        obtain ⟨r56, hh57, hF⟩ := bindP_out hF hne
        refine ds_cons (ds1_if (dt_not (dt_val (c_l_same T (B.room.mono (by decide)) (B.gl (x := "_law_same") rfl) (cn_sieve_lets T (B.room.mono (by decide)) v6.toNm rfl (dv_var v9.toNm rfl) hh48) (c_l_due T (B.room.mono (by decide)) (B.gl (x := "_law_due") rfl) (dv_un (enc := dk_LT2SB) (c_l_parted_2 T (B.room.mono (by decide)) (B.gl (x := "_law_parted") rfl) (dv_join dv_str (dv_var v4.toNm rfl) (.lst _) hh49) hh51) hh53) (dv_var v8.toNm rfl) hh55) hh57))) (fun hh58 => ?_) (fun hh58 => ?_))
        ·
          replace hF := ite_t hF hh58
          refine ds_cons (ds1_retV dv_bl ?_)
          exact loop_rt (R := fun _ => []) (Mf := fun _ => []) (enr := D.bl) (M := []) hF
        ·
          replace hF := ite_f hF hh58
          refine ds_nil ?_
          refine ds_nil ?_
          exact loop_nx (enr := D.bl) hF ⟨.inr rfl, .inr rfl, .inr rfl, .inr rfl, .inr rfl, .inr rfl, .inr rfl, .inl rfl, .inl rfl, .inl rfl, trivial⟩ rfl
    case hdo67 =>
      rintro ⟨⟩ rfl
      replace hF := okE hF
      replace hF := nxE hF
      change DS _ _ _ [some (.scr (script1.map D.int)), some (.int r2), some (dD r9), some (dOpt dk_LT2SB r11), some (.lst (r18.map D.str)), some (dk_FN_sieveMSRB lets20), some (dk_FN_sieveMSRB beside23), none, none, none] [] _
      obtain ⟨r59, hh60, hF⟩ := bindP_out hF hne
      obtain ⟨words61, hh62, hF⟩ := bindP_out hF hne
      obtain ⟨r63, hh64, hF⟩ := bindP_out hF hne
      obtain ⟨r65, hh66, hF⟩ := bindP_out hF hne
      refine ds_cons (ds1_retV (c_l_same T (B.room.mono (by decide)) (B.gl (x := "_law_same") rfl) (cn_sieve_lets T (B.room.mono (by decide)) v5.toNm rfl (show DV _ _ _ _ _ (.lst (([] : List Str).map D.str)) from dv_lst da_nil (szN 0 rfl)) hh60) (c_l_due T (B.room.mono (by decide)) (B.gl (x := "_law_due") rfl) (dv_un (enc := dk_LT2SB) (dv_var v3.toNm rfl) hh62) (show DV _ _ _ _ _ (.lst (([] : List Str).map D.str)) from dv_lst da_nil (szN 0 rfl)) hh64) hh66) ?_)
      exact ret_mk (enc := D.bl) (M := []) hF
    case hro67 =>
      rintro r70 _ rfl
      exact ret_mk (enc := D.bl) (M := []) hF
    case hxo67 =>
      rintro cls fs _ _ ⟨n, rfl, e2⟩
      exact kx_exc hF e2
end
end Lw
namespace Lw
open PySem PySem.Spec PyProof.Rows L2 Dl
/-! ### the head: one run of the top -/
def hd_l_cell_at : He.DefD := ⟨("_law_cell_at", none), "_law_cell_at", "_law_cell_at", defArgs s_l_cell_at, defBody s_l_cell_at, defScope s_l_cell_at, [], []⟩
def hd_l_mixed : He.DefD := ⟨("_law_mixed", none), "_law_mixed", "_law_mixed", defArgs s_l_mixed, defBody s_l_mixed, defScope s_l_mixed, [], []⟩
def hd_l_mark : He.DefD := ⟨("_law_mark", none), "_law_mark", "_law_mark", defArgs s_l_mark, defBody s_l_mark, defScope s_l_mark, [], []⟩
def hd_l_words : He.DefD := ⟨("_law_words", none), "_law_words", "_law_words", defArgs s_l_words, defBody s_l_words, defScope s_l_words, [], []⟩
def hd_l_spoilt : He.DefD := ⟨("_law_spoilt", none), "_law_spoilt", "_law_spoilt", defArgs s_l_spoilt, defBody s_l_spoilt, defScope s_l_spoilt, [], []⟩
def hd_l_parted : He.DefD := ⟨("_law_parted", none), "_law_parted", "_law_parted", defArgs s_l_parted, defBody s_l_parted, defScope s_l_parted, [], []⟩
def hd_is_word : He.DefD := ⟨("is_word", none), "is_word", "is_word", defArgs s_is_word, defBody s_is_word, defScope s_is_word, [], []⟩
def hd_is_mark : He.DefD := ⟨("is_mark", none), "is_mark", "is_mark", defArgs s_is_mark, defBody s_is_mark, defScope s_is_mark, [], []⟩
def hd_sieve : He.DefD := ⟨("sieve", none), "sieve", "sieve", defArgs s_sieve, defBody s_sieve, defScope s_sieve, [], []⟩
def hd_l_refused : He.DefD := ⟨("_law_refused", none), "_law_refused", "_law_refused", defArgs s_l_refused, defBody s_l_refused, defScope s_l_refused, [], []⟩
def hd_l_marks : He.DefD := ⟨("_law_marks", none), "_law_marks", "_law_marks", defArgs s_l_marks, defBody s_l_marks, defScope s_l_marks, [], []⟩
def hd_l_due : He.DefD := ⟨("_law_due", none), "_law_due", "_law_due", defArgs s_l_due, defBody s_l_due, defScope s_l_due, [], []⟩
def hd_l_same : He.DefD := ⟨("_law_same", none), "_law_same", "_law_same", defArgs s_l_same, defBody s_l_same, defScope s_l_same, [], []⟩
def hd_law : He.DefD := ⟨("law", none), "law", "law", defArgs s_law, defBody s_law, defScope s_law, [], []⟩
def hfn_0 : List He.DefD := [hd_l_cell_at, hd_l_mixed, hd_l_mark, hd_l_words, hd_l_spoilt, hd_l_parted, hd_is_word, hd_is_mark, hd_sieve, hd_l_refused, hd_l_marks, hd_l_due, hd_l_same, hd_law]
def hfn : List He.DefD := hfn_0
def hck_0 : List Dl.Chk := [Dl.extB "NoMark", Dl.gloB "NoMark", Dl.gloB "NoName", Dl.gloB "BookError", Dl.kitB "NoMark" "NoMark" true, Dl.kitB "NoMark" "NoName" false, Dl.exmB "NoMark" "BookError" true, Dl.gloB "_law_cell_at", Dl.gloB "_law_mixed", Dl.gloB "_law_mark", Dl.gloB "_law_words", Dl.gloB "_law_spoilt", Dl.gloB "_law_parted", Dl.gloB "is_word", Dl.gloB "is_mark", Dl.gloB "sieve", Dl.tabB "sieve" 65, Dl.gloB "_law_refused", Dl.gloB "_law_marks", Dl.gloB "_law_due"]
def hck_1 : List Dl.Chk := [Dl.gloB "_law_same", Dl.freB "len", Dl.freB "range", Dl.freB "isinstance", Dl.freB "str", Dl.freB "all", Dl.freB "list", Dl.freB "bool", Dl.intB "MOST_OF_MARK" (8), Dl.strB "SMALL" "abcdefghijklmnopqrstuvwxyz", Dl.gloB "law"]
def hck : List Dl.Chk := hck_0 ++ (hck_1)
def hcl_0 : List Str := ["BookError", "NoName", "NoMark"]
def hcl : List Str := hcl_0
def hnm_0 : List Str := ["BookError", "NoName", "NoMark", "SMALL", "MOST_OF_MARK", "is_word", "is_mark", "sieve", "_law_cell_at", "_law_mixed", "_law_name", "_law_mark", "_law_words", "_law_spoilt", "_law_parted", "_law_refused", "_law_marks", "_law_same", "_law_due"]
def hnm : List Str := hnm_0
def hts : List Addr := [65]
abbrev hR : PySem.W.OpenRow := PySem.W.OpenLaw.row PySem.Challenge.rw_thinbook_k62_sieves
abbrev hk : PySem.W.Hook := Dl.hookT hcl hck hfn hts
def hob (s : PySem.W.SharedT) : He.AlD × Bool := Dl.obsHT hcl hck hfn hts (HandSHeadRun.getT s)
theorem hob_eq (s : PySem.W.SharedT) : hob s = hk.obs s.abs := Dl.obsHT_eq (HandSHeadRun.getT_eq s)
theorem hrun (w : World) : HandSHeadRun.RunEq hR (PySem.W.view hR.prog [22]) hk hob 30000 hnm w := by
  intro os
  kernel_rfl
def hA (K : Frag) : Adr := { none_ := 0, a_NoMark := He.ga K "NoMark", n_NoName := He.ga K "NoName", n_BookError := He.ga K "BookError" }
theorem htxt {K : Frag} {mg : Str → Option Value} {h : Heap} (KX : K.In h) (G : h.Ns mainGlobals mg) (c : Dl.SaysH hck hfn K) : Txt K mg (hA K) where
  x_NoMark := Dl.extB_ok KX G (c.fact 0 (f := Dl.extB "NoMark"))
  n_NoMark := Dl.gloB_ok KX G (c.fact 1 (f := Dl.gloB "NoMark"))
  n_NoName := Dl.gloB_ok KX G (c.fact 2 (f := Dl.gloB "NoName"))
  n_BookError := Dl.gloB_ok KX G (c.fact 3 (f := Dl.gloB "BookError"))
  i_NoMark_NoMark := Dl.dec_ok (c.fact 4 (f := Dl.kitB "NoMark" "NoMark" true))
  i_NoMark_NoName := Dl.dec_ok (c.fact 5 (f := Dl.kitB "NoMark" "NoName" false))
  e_NoMark_BookError := Dl.dec_ok (c.fact 6 (f := Dl.exmB "NoMark" "BookError" true))
  f_l_cell_at := Dl.funT_of (st := s_l_cell_at) KX G (c.def_ 0 (d := hd_l_cell_at)) (c.fact 7 (f := Dl.gloB "_law_cell_at")) (fun _ _ _ _ _ _ us hl => match us, hl with | [_, _], _ => rfl)
  f_l_mixed := Dl.funT_of (st := s_l_mixed) KX G (c.def_ 1 (d := hd_l_mixed)) (c.fact 8 (f := Dl.gloB "_law_mixed")) (fun _ _ _ _ _ _ us hl => match us, hl with | [_, _], _ => rfl)
  f_l_mark := Dl.funT_of (st := s_l_mark) KX G (c.def_ 2 (d := hd_l_mark)) (c.fact 9 (f := Dl.gloB "_law_mark")) (fun _ _ _ _ _ _ us hl => match us, hl with | [_, _], _ => rfl)
  f_l_words := Dl.funT_of (st := s_l_words) KX G (c.def_ 3 (d := hd_l_words)) (c.fact 10 (f := Dl.gloB "_law_words")) (fun _ _ _ _ _ _ us hl => match us, hl with | [_], _ => rfl)
  f_l_spoilt := Dl.funT_of (st := s_l_spoilt) KX G (c.def_ 4 (d := hd_l_spoilt)) (c.fact 11 (f := Dl.gloB "_law_spoilt")) (fun _ _ _ _ _ _ us hl => match us, hl with | [_, _], _ => rfl)
  f_l_parted := Dl.funT_of (st := s_l_parted) KX G (c.def_ 5 (d := hd_l_parted)) (c.fact 12 (f := Dl.gloB "_law_parted")) (fun _ _ _ _ _ _ us hl => match us, hl with | [_], _ => rfl)
  f_is_word := Dl.funT_of (st := s_is_word) KX G (c.def_ 6 (d := hd_is_word)) (c.fact 13 (f := Dl.gloB "is_word")) (fun _ _ _ _ _ _ us hl => match us, hl with | [_, _], _ => rfl)
  f_is_mark := Dl.funT_of (st := s_is_mark) KX G (c.def_ 7 (d := hd_is_mark)) (c.fact 14 (f := Dl.gloB "is_mark")) (fun _ _ _ _ _ _ us hl => match us, hl with | [_], _ => rfl)
  ct_sieve := fun f hf => by
    have e := hf.symm.trans (Dl.gloB_ok KX G (c.fact 15 (f := Dl.gloB "sieve")))
    cases e
    exact (c.fact 16 (f := Dl.tabB "sieve" 65))
  f_sieve := Dl.funT_of (st := s_sieve) KX G (c.def_ 8 (d := hd_sieve)) (c.fact 15 (f := Dl.gloB "sieve")) (fun _ _ _ _ _ _ us hl => match us, hl with | [_], _ => rfl)
  f_l_refused := Dl.funT_of (st := s_l_refused) KX G (c.def_ 9 (d := hd_l_refused)) (c.fact 17 (f := Dl.gloB "_law_refused")) (fun _ _ _ _ _ _ us hl => match us, hl with | [_], _ => rfl)
  f_l_marks := Dl.funT_of (st := s_l_marks) KX G (c.def_ 10 (d := hd_l_marks)) (c.fact 18 (f := Dl.gloB "_law_marks")) (fun _ _ _ _ _ _ us hl => match us, hl with | [_, _], _ => rfl)
  f_l_due := Dl.funT_of (st := s_l_due) KX G (c.def_ 11 (d := hd_l_due)) (c.fact 19 (f := Dl.gloB "_law_due")) (fun _ _ _ _ _ _ us hl => match us, hl with | [_, _], _ => rfl)
  f_l_same := Dl.funT_of (st := s_l_same) KX G (c.def_ 12 (d := hd_l_same)) (c.fact 20 (f := Dl.gloB "_law_same")) (fun _ _ _ _ _ _ us hl => match us, hl with | [_, _], _ => rfl)
  b_len := Dl.freB_ok KX G (c.fact 21 (f := Dl.freB "len"))
  b_range := Dl.freB_ok KX G (c.fact 22 (f := Dl.freB "range"))
  b_isinstance := Dl.freB_ok KX G (c.fact 23 (f := Dl.freB "isinstance"))
  b_str := Dl.freB_ok KX G (c.fact 24 (f := Dl.freB "str"))
  b_all := Dl.freB_ok KX G (c.fact 25 (f := Dl.freB "all"))
  b_list := Dl.freB_ok KX G (c.fact 26 (f := Dl.freB "list"))
  b_bool := Dl.freB_ok KX G (c.fact 27 (f := Dl.freB "bool"))
  k_MOST_OF_MARK := Dl.intB_ok KX G (c.fact 28 (f := Dl.intB "MOST_OF_MARK" (8)))
  k_SMALL := Dl.strB_ok KX G (c.fact 29 (f := Dl.strB "SMALL" "abcdefghijklmnopqrstuvwxyz"))
theorem hfin {P : Program} {w : World} {K : Frag} {mg : Str → Option Value} {h : Heap} {fa : Addr} (X : K.In h) (G : h.Ns mainGlobals mg) (c : Dl.SaysH hck hfn K) (hfa : mg "law" = some (.ref fa)) :
    ∃ fd : FuncData, (∀ (s : Shared) (u : Value), BindsTo s fd ⟨[u], []⟩ [("_law_script", u)]) ∧ ∀ base : Heap, K.In base → base.Ns mainGlobals mg → TabsB K base mg → FnOk P w K mg base (L2.CX P w) 5 fa fd ["_law_script"] (spLaw K) := by
  have T0 := htxt X G c
  obtain ⟨fd, F⟩ := (show ∃ fd, FunD K "law" "law" (defArgs s_law) (defBody s_law) (defScope s_law) [] [] (He.ga K "law") fd from c.def_ 13 (d := hd_law))
  have e := hfa.symm.trans (Dl.gloB_ok X G (c.fact 30 (f := Dl.gloB "law")))
  cases e
  have b := FunD.bindsA (ps := ["_law_script"]) F fun _ _ _ _ _ _ us hl => match us, hl with | [_], _ => rfl
  refine ⟨fd, fun s v => b s [v] rfl, fun base _ _ TB => fnok_imp (g_law ⟨T0, TB⟩ (Dl.fun_of F)) fun vs H Q E ⟨q, H0, b1, b2, b3, b4, b5⟩ => ⟨q, H0, b1, b2, fun z => Ex.ok_ne true ((law_ok q b3).symm.trans z), fun v H' H0' d c1 c2 ⟨r, c3, c4⟩ => b4 v H' H0' d c1 c2 (by cases (law_ok q b3).symm.trans c3; exact c4), fun cls dd H' H0' fs c1 c2 ⟨n, c3, _⟩ => (by cases (law_ok q b3).symm.trans c3)⟩⟩
end Lw
open PySem PySem.W PyProof.Rows
set_option maxRecDepth 100000 in
set_option maxHeartbeats 0 in
theorem PySem.Challenge.cw_thinbook_k62_sieves_holds : PySem.Challenge.rw_thinbook_k62_sieves.Holds := by
  w_on; o_law
  refine HandSHeadRun.head_any (r := OpenLaw.row PySem.Challenge.rw_thinbook_k62_sieves) (q := view (OpenLaw.row PySem.Challenge.rw_thinbook_k62_sieves).prog [22]) (H := Lw.hk) (ob := Lw.hob) (M := 30000) (loose := Lw.hnm) (d := HandSHeadRun.topDef (OpenLaw.row PySem.Challenge.rw_thinbook_k62_sieves).prog 22) (kwd := []) Lw.hob_eq
    (by kernel_rfl) (fun s => by kernel_rfl) Lw.hrun (by kernel_rfl) (by kernel_rfl) (by kernel_rfl) (by rfl) (by first | assumption | decide +kernel) (by decide +kernel) ⟨rfl, rfl, rfl, rfl, rfl, by decide +kernel⟩ ?hw ?hc
  case hw => w_witness2
  case hc =>
    refine Dl.walkHT (l := PySem.Challenge.rw_thinbook_k62_sieves) (k := 5) (x := "_law_script") rfl (by kernel_rfl) ⟨rfl, by decide, by decide⟩ ?F
    intro w mg fa h Y G hmg0
    obtain ⟨K, KX, c, tabs⟩ := Y
    have hmg : mg ("law" : PySem.Str) = some (.ref fa) := by
      have e : (HandSHeadRun.topDef (OpenLaw.row PySem.Challenge.rw_thinbook_k62_sieves).prog 22).name = ("law" : PySem.Str) := by kernel_rfl
      rw [← e]
      exact hmg0
    obtain ⟨fd, hb, hF⟩ := Lw.hfin KX G c hmg
    have ht := Lw.htxt KX G c
    refine ⟨K, fd, KX, fun P hP => ⟨(tabs P hP).1, (tabs P hP).2, ?_⟩, hb, hF⟩
    simp only [Dl.tabT, List.map_cons, List.map_nil, List.mem_cons, List.not_mem_nil, or_false] at hP
    rcases hP with rfl
    · obtain ⟨st, fdx, Fx, gx, bx⟩ := ht.f_sieve
      exact Dl.codeTab_ex (ht.ct_sieve _ gx)
