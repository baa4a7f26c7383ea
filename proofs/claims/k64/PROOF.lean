import PyProof.Rows.All
import Wide.All
import HandS.Nested
import OpenK.AllK
import Wide.FinOn
import HandS.ForMost
import HandS.ForExc
import HandS.Wide
import HandS.Walk
import HandS.Zip
import HandS.NestedK
import HandS.IsInst
import HandS.SortKw
import HandS.CallSlots
import HandS.Rev
import KE.KDictList
import HandS.WideBits
import HandS.TupLe
import HandS.ExcIs
import HandS.Defaults
import KE.DatumOrd
import HandS.Style
import HandS.TryOnly
import HandS.Iter
import HandS.Dict
import HandS.DictTup
import HandS.SetKeys
import HandS.TupLen
import KE.KDictWalk
import PyProof.DictMoreH
import HandS.SortInts
import HandS.ExcValue
import HandS.ExcField
import HandS.ExcInit
import KE.KExcIs
import HandS.ClsMeth
import HandS.Text
import HandS.StrMore
import HandS.More
import KE.GoesMore
import KE.GoesEnum
import HandS.Head0
import HandS.Head1
import HandS.Head2
import HandS.HeadHook1
import HandS.HeadHook2
import HandS.EndTab
import HandS.ListItems
import HandS.Deep
import PySem.Challenge.RW_thinbook_k64_names_chosen
set_option Elab.async false
set_option synthInstance.maxHeartbeats 400000
set_option synthInstance.maxSize 2000
set_option linter.all false
set_option maxRecDepth 100000
set_option maxHeartbeats 4000000
/-! the tables of code objects that may grow: which there are -/
namespace Dl
def tabT : List NdefX.NTab := [(252, fun _ _ => "sieve.<locals>.lets"), (480, fun _ _ => "_law_own.<locals>._law_lets")]
end Dl

namespace Dl
open PySem PySem.Spec PyProof.Rows L2

/-! ### data -/
inductive D where
  | non | bl (b : Bool) | int (i : Int) | str (x : Str) | ty (n : String)
  | lst (xs : List D) | scr (xs : List D) | tup (xs : List D) | ins (C : Addr) (ns : List Str) (xs : List D) | adr (a : Addr)
  | dK (ks : List Key) (xs : List D) | dT (ks : List (List Key)) (xs : List D) | exn (C : Addr) (ns : List Str) (xs : List D)
  | clo (G : NdefX.NF) (fr : List Str) (xs : List D)
instance : Inhabited D := ⟨.non⟩
abbrev Frag := PySem.W.Frag
/-- an exception that was caught, of the class at C, its dict at d -/
def exT (a C : Addr) (d : Option Addr) : HO := .ext fun h => ∃ oe : PySem.Obj, h.get? a = some oe ∧ (oe.cls = .ref C ∧ oe.dict = d) ∧ ∃ vs, oe.data = .fields vs
/-- the cell at c, v in it -/
def CellO (c : Addr) (v : V) : HO := .ext fun h => ∃ u, RelV v u ∧ h.IsCell c (some u)
/-- a made function's cells and code object put in -/
def cloF (G : NdefX.NF) (cl : List (Str × Addr)) (c : Addr) : NdefX.NF := { G with cl := cl, c := c }
/-- the cells of a made function -/
def Cells (H : Hp) (fr : List Str) (cl : List (Str × Addr)) (vs : List V) : Prop := cl.map Prod.fst = fr ∧ fr.Nodup ∧ (cl.map Prod.snd).Nodup ∧ vs.length = cl.length ∧ ∀ (i : Nat) (q : Str × Addr) (v : V), cl[i]? = some q → vs[i]? = some v → H q.2 = some (CellO q.2 v)

mutual
inductive Rep (K : Frag) (H : Hp) : V → D → Prop
  | non : Rep K H .non .non
  | bl (b : Bool) : Rep K H (.bl b) (.bl b)
  | int (i : Int) : Rep K H (.int i) (.int i)
  | str (x : Str) : Rep K H (.str x) (.str x)
  | ty (n : String) : Rep K H (.ty n) (.ty n)
  | lst {a : Addr} {xs : List V} {ds : List D} : H a = some (.lst xs) → RepA K H xs ds → Rep K H (.ref a) (.lst ds)
  | scr {a : Addr} {xs : List V} {ds : List D} : SqL K H a xs → RepA K H xs ds → Rep K H (.ref a) (.scr ds)
  | tup {a : Addr} {xs : List V} {ds : List D} : H a = some (.tup xs) → RepA K H xs ds → Rep K H (.ref a) (.tup ds)
  | ins {a C dx : Addr} {vs : List (Str × V)} {ns : List Str} {xs : List V} {ds : List D} : H a = some (.ins C dx vs) → vs.map Prod.fst = ns → vs.map Prod.snd = xs → RepA K H xs ds → Rep K H (.ref a) (.ins C ns ds)
  | adr (a : Addr) : Rep K H (.ref a) (.adr a)
  | dK {a : Addr} {o : PySem.Obj} {vs : List (Key × V)} {ks : List Key} {xs : List V} {ds : List D} : H a = some (.frz o (.dK vs)) → vs.map Prod.fst = ks → vs.map Prod.snd = xs → RepA K H xs ds → Rep K H (.ref a) (.dK ks ds)
  | dT {a : Addr} {o : PySem.Obj} {vs : List (List Key × V)} {ks : List (List Key)} {xs : List V} {ds : List D} : H a = some (.frz o (.dT vs)) → vs.map Prod.fst = ks → vs.map Prod.snd = xs → RepA K H xs ds → Rep K H (.ref a) (.dT ks ds)
  | exn0 {a C : Addr} : H a = some (exT a C none) → Rep K H (.ref a) (.exn C [] [])
  | exn1 {a C d : Addr} {vs : List (Str × V)} {ns : List Str} {xs : List V} {ds : List D} : H a = some (exT a C (some d)) → H d = some (.xd vs) → vs.map Prod.fst = ns → vs.map Prod.snd = xs → RepA K H xs ds → Rep K H (.ref a) (.exn C ns ds)
  | clo {f c : Addr} {G : NdefX.NF} {cl : List (Str × Addr)} {fr : List Str} {vs : List V} {ds : List D} : H f = some (NdefX.FnO f (cloF G cl c)) → H c = some (LamX.CodeO c G.qual) → Cells H fr cl vs → RepA K H vs ds → Rep K H (.ref f) (.clo G fr ds)
inductive RepA (K : Frag) (H : Hp) : List V → List D → Prop
  | nil : RepA K H [] []
  | cons {v : V} {vs : List V} {d : D} {ds : List D} : Rep K H v d → RepA K H vs ds → RepA K H (v :: vs) (d :: ds)
end

theorem same_new {H : Hp} {p : Addr} {o : HO} (h : H p = none) : Same H (upd H p o) := fun b x e => by
  rw [upd_ne (ne_of_none e h)]
  exact e
mutual
theorem Rep.mono {K : Frag} {H H' : Hp} (e : Same H H') : ∀ (d : D) (v : V), Rep K H v d → Rep K H' v d
  | .non, _, h => by cases h; exact .non
  | .bl b, _, h => by cases h; exact .bl b
  | .int b, _, h => by cases h; exact .int b
  | .str b, _, h => by cases h; exact .str b
  | .ty b, _, h => by cases h; exact .ty b
  | .lst ds, _, h => by
    cases h with
    | lst a b => exact .lst (e _ _ a) (RepA.mono e ds _ b)
  | .scr ds, _, h => by
    cases h with
    | scr a b => exact .scr (e.seq a) (RepA.mono e ds _ b)
  | .tup ds, _, h => by
    cases h with
    | tup a b => exact .tup (e _ _ a) (RepA.mono e ds _ b)
  | .ins C ns ds, _, h => by
    cases h with
    | ins a b c d => exact .ins (e _ _ a) b c (RepA.mono e ds _ d)
  | .adr a, _, h => by cases h; exact .adr a
  | .dK ks ds, _, h => by
    cases h with
    | dK a b c d => exact .dK (e _ _ a) b c (RepA.mono e ds _ d)
  | .dT ks ds, _, h => by
    cases h with
    | dT a b c d => exact .dT (e _ _ a) b c (RepA.mono e ds _ d)
  | .exn C ns ds, _, h => by
    cases h with
    | exn0 a => exact .exn0 (e _ _ a)
    | exn1 a b c d f => exact .exn1 (e _ _ a) (e _ _ b) c d (RepA.mono e ds _ f)
  | .clo G fr ds, _, h => by
    cases h with
    | clo a b c d => exact .clo (e _ _ a) (e _ _ b) ⟨c.1, c.2.1, c.2.2.1, c.2.2.2.1, fun i q v h1 h2 => e _ _ (c.2.2.2.2 i q v h1 h2)⟩ (RepA.mono e ds _ d)
theorem RepA.mono {K : Frag} {H H' : Hp} (e : Same H H') : ∀ (ds : List D) (vs : List V), RepA K H vs ds → RepA K H' vs ds
  | [], _, h => by cases h; exact .nil
  | d :: ds, _, h => by
    cases h with
    | cons a b => exact .cons (Rep.mono e d _ a) (RepA.mono e ds _ b)
end
section
variable {K : Frag} {H H' : Hp} {v : V} {d : D} {vs : List V} {ds : List D}
theorem Rep.mo (h : Rep K H v d) (e : Same H H') : Rep K H' v d := Rep.mono e d v h
theorem RepA.mo (h : RepA K H vs ds) (e : Same H H') : RepA K H' vs ds := RepA.mono e ds vs h
theorem RepA.length : ∀ {ds : List D} {vs : List V}, RepA K H vs ds → vs.length = ds.length
  | [], _, h => by cases h; rfl
  | d :: ds, _, h => by
    cases h with
    | cons a b => rw [List.length_cons, List.length_cons, b.length]
theorem RepA.get : ∀ {ds : List D} {vs : List V} {i : Nat} {d : D}, RepA K H vs ds → ds[i]? = some d → ∃ v, vs[i]? = some v ∧ Rep K H v d
  | [], _, _, _, _, h => by simp at h
  | d :: ds, _, 0, _, h, e => by
    cases h with
    | cons a b =>
      simp at e; subst e
      exact ⟨_, rfl, a⟩
  | d :: ds, _, i + 1, _, h, e => by
    cases h with
    | cons a b =>
      obtain ⟨v, h1, h2⟩ := RepA.get (i := i) b (by simpa using e)
      exact ⟨v, by simpa using h1, h2⟩
theorem RepA.getV : ∀ {ds : List D} {vs : List V} {i : Nat} {v : V}, RepA K H vs ds → vs[i]? = some v → ∃ d, ds[i]? = some d ∧ Rep K H v d
  | [], _, _, _, h, e => by cases h; simp at e
  | d :: ds, _, 0, _, h, e => by
    cases h with
    | cons a b =>
      simp at e; subst e
      exact ⟨_, rfl, a⟩
  | d :: ds, _, i + 1, _, h, e => by
    cases h with
    | cons a b =>
      obtain ⟨d', h1, h2⟩ := RepA.getV (i := i) b (by simpa using e)
      exact ⟨d', by simpa using h1, h2⟩
theorem RepA.app : ∀ {ds es : List D} {vs us : List V}, RepA K H vs ds → RepA K H us es → RepA K H (vs ++ us) (ds ++ es)
  | [], _, _, _, h, g => by cases h; exact g
  | d :: ds, _, _, _, h, g => by
    cases h with
    | cons a b => exact .cons a (b.app g)
theorem RepA.one (h : Rep K H v d) : RepA K H [v] [d] := .cons h .nil
theorem RepA.take : ∀ {ds : List D} {vs : List V} (n : Nat), RepA K H vs ds → RepA K H (vs.take n) (ds.take n)
  | _, _, 0, _ => .nil
  | [], _, _ + 1, h => by cases h; exact .nil
  | d :: ds, _, n + 1, h => by
    cases h with
    | cons a b => exact .cons a (b.take n)
theorem RepA.drop : ∀ {ds : List D} {vs : List V} (n : Nat), RepA K H vs ds → RepA K H (vs.drop n) (ds.drop n)
  | _, _, 0, h => h
  | [], _, _ + 1, h => by cases h; exact .nil
  | d :: ds, _, n + 1, h => by
    cases h with
    | cons a b => exact b.drop n
theorem RepA.set : ∀ {ds : List D} {vs : List V} (n : Nat), RepA K H vs ds → Rep K H v d → RepA K H (vs.set n v) (ds.set n d)
  | [], _, _, h, g => by cases h; exact .nil
  | d :: ds, _, 0, h, g => by
    cases h with
    | cons a b => exact .cons g b
  | d :: ds, _, n + 1, h, g => by
    cases h with
    | cons a b => exact .cons a (b.set n g)
theorem RepA.rev : ∀ {ds : List D} {vs : List V}, RepA K H vs ds → RepA K H vs.reverse ds.reverse
  | [], _, h => by cases h; exact .nil
  | d :: ds, _, h => by
    cases h with
    | cons a b =>
      rw [List.reverse_cons, List.reverse_cons]
      exact b.rev.app (.one a)
theorem RepA.bls : ∀ {is : List Bool} {vs : List V}, RepA K H vs (is.map D.bl) → vs = is.map V.bl
  | [], _, h => by cases h; rfl
  | i :: is, _, h => by
    have h' : RepA K H _ (D.bl i :: is.map D.bl) := h
    cases h' with
    | cons a b =>
      cases a
      rw [b.bls]; rfl
theorem RepA.strs : ∀ {is : List Str} {vs : List V}, RepA K H vs (is.map D.str) → vs = is.map V.str
  | [], _, h => by cases h; rfl
  | i :: is, _, h => by
    have h' : RepA K H _ (D.str i :: is.map D.str) := h
    cases h' with
    | cons a b =>
      cases a
      rw [b.strs]; rfl
theorem RepA.ofInts (is : List Int) : RepA K H (is.map V.int) (is.map D.int) := by
  induction is with
  | nil => exact .nil
  | cons i is ih => exact .cons (.int i) ih
end

/-! ### what may change -/
inductive Mu where
  | lst (ds : List D) | ins (C : Addr) (ns : List Str) (ds : List D) | dK (kvs : List (Key × D)) | dT (kvs : List (List Key × D)) | fK (kvs : List (Key × D)) | fT (kvs : List (List Key × D)) | fL (ds : List D)
abbrev Mem := List (Addr × Mu)
abbrev Mem.dom (M : Mem) : List Addr := M.map Prod.fst
/-- no table of code objects -/
def NTb (o : HO) : Prop := ∀ ps, o ≠ .tbl ps
theorem NTb.of {o : HO} (h : ∀ ps, o ≠ .tbl ps := by intro _ z; cases z) : NTb o := h
def MuRep (K : Frag) (H0 H : Hp) (a : Addr) : Mu → Prop
  | .lst ds => ∃ vs, H a = some (.lst vs) ∧ RepA K H0 vs ds
  | .fL ds => ∃ (o : PySem.Obj) (vs : List V), H a = some (.frz o (.lst vs)) ∧ RepA K H0 vs ds
  | .ins C ns ds => ∃ dx vs xs, H a = some (.ins C dx vs) ∧ vs.map Prod.fst = ns ∧ vs.map Prod.snd = xs ∧ RepA K H0 xs ds
  | .dK kvs => ∃ (vs : List (Key × V)) (xs : List V), H a = some (.dK vs) ∧ vs.map Prod.fst = kvs.map Prod.fst ∧ vs.map Prod.snd = xs ∧ RepA K H0 xs (kvs.map Prod.snd)
  | .dT kvs => ∃ (vs : List (List Key × V)) (xs : List V), H a = some (.dT vs) ∧ vs.map Prod.fst = kvs.map Prod.fst ∧ vs.map Prod.snd = xs ∧ RepA K H0 xs (kvs.map Prod.snd)
  | .fK kvs => ∃ (o : PySem.Obj) (vs : List (Key × V)) (xs : List V), H a = some (.frz o (.dK vs)) ∧ vs.map Prod.fst = kvs.map Prod.fst ∧ vs.map Prod.snd = xs ∧ RepA K H0 xs (kvs.map Prod.snd)
  | .fT kvs => ∃ (o : PySem.Obj) (vs : List (List Key × V)) (xs : List V), H a = some (.frz o (.dT vs)) ∧ vs.map Prod.fst = kvs.map Prod.fst ∧ vs.map Prod.snd = xs ∧ RepA K H0 xs (kvs.map Prod.snd)
theorem MuRep.mono {K : Frag} {H0 H0' H H' : Hp} {a : Addr} : ∀ {m : Mu}, MuRep K H0 H a m → Same H0 H0' → (∀ o, H a = some o → NTb o → H' a = some o) → MuRep K H0' H' a m
  | .lst ds, ⟨vs, h, r⟩, e, k => ⟨vs, k _ h NTb.of, r.mo e⟩
  | .fL ds, ⟨o, vs, h, r⟩, e, k => ⟨o, vs, k _ h NTb.of, r.mo e⟩
  | .ins C ns ds, ⟨dx, vs, xs, h, h2, h3, r⟩, e, k => ⟨dx, vs, xs, k _ h NTb.of, h2, h3, r.mo e⟩
  | .dK kvs, ⟨vs, xs, h, h2, h3, r⟩, e, k => ⟨vs, xs, k _ h NTb.of, h2, h3, r.mo e⟩
  | .dT kvs, ⟨vs, xs, h, h2, h3, r⟩, e, k => ⟨vs, xs, k _ h NTb.of, h2, h3, r.mo e⟩
  | .fK kvs, ⟨o, vs, xs, h, h2, h3, r⟩, e, k => ⟨o, vs, xs, k _ h NTb.of, h2, h3, r.mo e⟩
  | .fT kvs, ⟨o, vs, xs, h, h2, h3, r⟩, e, k => ⟨o, vs, xs, k _ h NTb.of, h2, h3, r.mo e⟩
theorem MuRep.there {K : Frag} {H0 H : Hp} {a : Addr} : ∀ {m : Mu}, MuRep K H0 H a m → ∃ o, H a = some o
  | .lst ds, ⟨vs, h, _⟩ => ⟨_, h⟩
  | .fL ds, ⟨o, vs, h, _⟩ => ⟨_, h⟩
  | .ins C ns ds, ⟨dx, vs, xs, h, _⟩ => ⟨_, h⟩
  | .dK kvs, ⟨vs, xs, h, _⟩ => ⟨_, h⟩
  | .dT kvs, ⟨vs, xs, h, _⟩ => ⟨_, h⟩
  | .fK kvs, ⟨o, vs, xs, h, _⟩ => ⟨_, h⟩
  | .fT kvs, ⟨o, vs, xs, h, _⟩ => ⟨_, h⟩
/-- a thing, and no tuple (these never change) -/
def NT : Option HO → Prop
  | none => False
  | some (.tup _) => False
  | some (.tbl _) => False
  | some (.ext _) => False
  | some _ => True
theorem NT.ex {o : Option HO} (h : NT o) : ∃ u, o = some u := by
  cases o with
  | none => exact h.elim
  | some u => exact ⟨u, rfl⟩
theorem NT.ntb {o : HO} (h : NT (some o)) : NTb o := fun ps z => by subst z; exact h
theorem MuRep.nt {K : Frag} {H0 H : Hp} {a : Addr} : ∀ {m : Mu}, MuRep K H0 H a m → NT (H a)
  | .lst ds, ⟨vs, h, _⟩ => by rw [h]; exact trivial
  | .fL ds, ⟨o, vs, h, _⟩ => by rw [h]; exact trivial
  | .ins C ns ds, ⟨dx, vs, xs, h, _⟩ => by rw [h]; exact trivial
  | .dK kvs, ⟨vs, xs, h, _⟩ => by rw [h]; exact trivial
  | .dT kvs, ⟨vs, xs, h, _⟩ => by rw [h]; exact trivial
  | .fK kvs, ⟨o, vs, xs, h, _⟩ => by rw [h]; exact trivial
  | .fT kvs, ⟨o, vs, xs, h, _⟩ => by rw [h]; exact trivial
/-- what stood stays, but for the tables -/
def Sm (H H' : Hp) : Prop := ∀ b o, H b = some o → NTb o → H' b = some o
def Tb (H H' : Hp) : Prop := ∀ b ps, H b = some (.tbl ps) → H' b = some (.tbl ps)
def TB (H0 H : Hp) : Prop := (∀ p ∈ tabT, H0 p.1 = none ∧ NdefX.TabN H p.1 p.2) ∧ ∀ b ps, H0 b ≠ some (.tbl ps)
theorem Same.sm {H H' : Hp} (e : ∀ b o, H b = some o → H' b = some o) : Sm H H' := fun b o h _ => e b o h
theorem Sm.refl (H : Hp) : Sm H H := fun _ _ h _ => h
theorem Sm.trans {H H1 H2 : Hp} (a : Sm H H1) (b : Sm H1 H2) : Sm H H2 := fun c o h n => b c o (a c o h n) n
/-- what is known by what is true of its object stays -/
def Xt (H H' : Hp) : Prop := ∀ c φ, H c = some (.ext φ) → H' c = some (.ext φ)
theorem Sm.xt {H H' : Hp} (e : Sm H H') : Xt H H' := fun c φ h => e c _ h .of
theorem tabn_keep {H H' : Hp} {P : Addr} {nm : Nat → Nat → Str} (t : NdefX.TabN H P nm) (k : ∀ ps, H P = some (.tbl ps) → H' P = some (.tbl ps)) (e : Xt H H') : NdefX.TabN H' P nm := by
  obtain ⟨ps, h1, h2, h3⟩ := t
  refine ⟨ps, k _ h1, h2, fun pos cv hc => ?_⟩
  obtain ⟨c, e1, e2⟩ := h3 pos cv hc
  exact ⟨c, e1, e _ _ e2⟩
theorem TB.keep {H0 H H0' H' : Hp} (t : TB H0 H) (n : ∀ b ps, H0 b = none → H b = some (.tbl ps) → H0' b = none) (k : ∀ b ps, H b = some (.tbl ps) → H' b = some (.tbl ps)) (e : Xt H H') (z : ∀ b ps, H0' b = some (.tbl ps) → H0 b = some (.tbl ps)) : TB H0' H' := ⟨fun p hp => by
  obtain ⟨a, b⟩ := t.1 p hp
  obtain ⟨ps, h1, _⟩ := id b
  exact ⟨n _ ps a h1, tabn_keep b (k p.1) e⟩, fun b ps y => t.2 b ps (z b ps y)⟩
/-- neither a table nor known by what is true -/
def NX (o : Option HO) : Prop := (∀ ps, o ≠ some (.tbl ps)) ∧ ∀ φ, o ≠ some (.ext φ)
theorem NX.of {o : Option HO} {u : HO} (h : o = some u) (n : ∀ ps, u ≠ .tbl ps := by intro _ z; cases z) (m : ∀ φ, u ≠ .ext φ := by intro _ z; cases z) : NX o := ⟨fun ps z => n ps (by rw [h] at z; exact Option.some.inj z), fun φ z => m φ (by rw [h] at z; exact Option.some.inj z)⟩
theorem TB.chg {H0 H : Hp} (t : TB H0 H) {a : Addr} (h : NX (H a)) (o : HO) : TB H0 (upd H a o) :=
  t.keep (fun _ _ n _ => n) (fun b ps e => by rw [upd_ne (fun z => h.1 ps (by rw [← z]; exact e))]; exact e) (fun c φ e => by rw [upd_ne (fun z => h.2 φ (by rw [← z]; exact e))]; exact e) fun _ _ z => z
theorem upd_self {H : Hp} {a : Addr} {o : HO} (h : H a = some o) : upd H a o = H := by
  funext b
  unfold upd
  by_cases e : b = a
  · rw [if_pos e, e, h]
  · rw [if_neg e]
theorem TB.back {H0 H : Hp} {a : Addr} {o u : HO} (t : TB H0 (upd H a u)) (h : H a = some o) (n : ∀ ps, u ≠ .tbl ps := by intro _ z; cases z) (m : ∀ φ, u ≠ .ext φ := by intro _ z; cases z) : TB H0 H := by
  have := t.chg (a := a) (NX.of upd_same n m) o
  rw [upd_upd, upd_self h] at this
  exact this
theorem upd_tb {H : Hp} {a b : Addr} {o : HO} {ps : Array Value} (n : ∀ ps, o ≠ .tbl ps) (z : upd H a o b = some (.tbl ps)) : H b = some (.tbl ps) := by
  unfold upd at z
  split at z
  · exact absurd (Option.some.inj z) (n ps)
  · exact z
theorem TB.same {H0 H H2 : Hp} (t : TB H0 H) (e : ∀ b o, H b = some o → H2 b = some o) : TB H0 H2 := t.keep (fun _ _ n _ => n) (fun b ps h => e _ _ h) (Same.sm e).xt fun _ _ z => z
theorem TB.all {H0 H H0' : Hp} (t : TB H0 H) (n : ∀ b, H0 b = none → (∃ ps, H b = some (.tbl ps)) → H0' b = none) (z : ∀ b ps, H0' b = some (.tbl ps) → H0 b = some (.tbl ps)) : TB H0' H := t.keep (fun b ps a e => n b a ⟨ps, e⟩) (fun _ _ e => e) (fun _ _ e => e) z
theorem TB.frz {H0 H : Hp} (t : TB H0 H) {w : Addr} {u u' : HO} (h : H w = some u) (n : ∀ ps, u ≠ .tbl ps := by intro _ z; cases z) (n' : ∀ ps, u' ≠ .tbl ps := by intro _ z; cases z) : TB (upd H0 w u') H := t.all (fun b nn ⟨ps, e⟩ => by
  rw [upd_ne (fun z => n ps (by rw [z, h] at e; exact Option.some.inj e))]; exact nn) fun b ps z => upd_tb n' z
theorem NX.stay {H : Hp} {a b : Addr} (n : NX (H a)) {ps : Array Value} (e : H b = some (.tbl ps)) (o : HO) : upd H a o b = some (.tbl ps) := by
  rw [upd_ne (fun z => n.1 ps (by rw [← z]; exact e))]; exact e
theorem MuRep.nx {K : Frag} {H0 H : Hp} {a : Addr} : ∀ {m : Mu}, MuRep K H0 H a m → NX (H a)
  | .lst ds, ⟨vs, h, _⟩ => .of h
  | .fL ds, ⟨o, vs, h, _⟩ => .of h
  | .ins C ns ds, ⟨dx, vs, xs, h, _⟩ => .of h
  | .dK kvs, ⟨vs, xs, h, _⟩ => .of h
  | .dT kvs, ⟨vs, xs, h, _⟩ => .of h
  | .fK kvs, ⟨o, vs, xs, h, _⟩ => .of h
  | .fT kvs, ⟨o, vs, xs, h, _⟩ => .of h
/-- the heap: H0 what never changes again, M what may -/
structure Ht (K : Frag) (H0 H : Hp) (M : Mem) : Prop where
  ex : Same H0 H
  nd : M.dom.Nodup
  mem : ∀ p ∈ M, H0 p.1 = none ∧ MuRep K H0 H p.1 p.2
  tb : TB H0 H
/-- pure steps -/
structure Pu (H0 H H0' H' : Hp) : Prop where
  e0 : Same H0 H0'
  e : Sm H H'
  ex : Same H0' H'
  new : ∀ a, H0 a = none → NT (H a) → H0' a = none
  there : ∀ b, H' b = none → H b = none
  tb : TB H0 H → TB H0' H'
/-- any steps -/
structure Go (H0 H : Hp) (M : Mem) (H0' H' : Hp) (M' : Mem) : Prop where
  e0 : Same H0 H0'
  e : ∀ b o, H b = some o → b ∉ M.dom → NTb o → H' b = some o
  new : ∀ a, H0 a = none → NT (H a) → a ∉ M.dom → H0' a = none
  dom : ∀ a ∈ M'.dom, a ∈ M.dom ∨ H a = none
  there : ∀ b, H' b = none → H b = none
section
variable {K : Frag} {H0 H H0' H' H0s Hs : Hp} {M M' Ms : Mem}
theorem Pu.refl (h : Same H0 H) : Pu H0 H H0 H := ⟨Same.refl _, Sm.refl _, h, fun _ h _ => h, fun _ e => e, id⟩
theorem NT.keep {H H' : Hp} {a : Addr} (h : NT (H a)) (k : ∀ o, H a = some o → NTb o → H' a = some o) : NT (H' a) := by
  obtain ⟨u, e⟩ := h.ex
  have n : NTb u := NT.ntb (by rw [← e]; exact h)
  rw [k _ e n, ← e]; exact h
theorem Pu.free (p : Pu H0 H H0' H') {a : Addr} (h : H' a = none) : H a = none := p.there a h
theorem Go.free (p : Go H0 H M H0' H' M') {a : Addr} (hm : a ∉ M.dom) (h : H' a = none) : H a = none := p.there a h
theorem Pu.k (p : Pu H0 H H0' H') {a : Addr} {o : HO} (h : H a = some o) (n : ∀ ps, o ≠ .tbl ps := by intro _ z; cases z) : H' a = some o := p.e _ _ h n
theorem Pu.trans (p : Pu H0 H H0' H') (q : Pu H0' H' H0s Hs) : Pu H0 H H0s Hs :=
  ⟨p.e0.trans q.e0, p.e.trans q.e, q.ex, fun a h1 h2 => q.new a (p.new a h1 h2) (h2.keep fun o e n => p.e a o e n), fun b e => p.there b (q.there b e), fun t => q.tb (p.tb t)⟩
theorem Ht.pu (h : Ht K H0 H M) (p : Pu H0 H H0' H') : Ht K H0' H' M := ⟨p.ex, h.nd, fun q hq => by
  obtain ⟨h1, h2⟩ := h.mem q hq
  exact ⟨p.new _ h1 h2.nt, h2.mono p.e0 fun o e n => p.e _ _ e n⟩, p.tb h.tb⟩
theorem Go.refl : Go H0 H M H0 H M := ⟨Same.refl _, fun _ _ e _ _ => e, fun _ h _ _ => h, fun _ h => .inl h, fun _ e => e⟩
theorem Pu.go (p : Pu H0 H H0' H') : Go H0 H M H0' H' M := ⟨p.e0, fun b o e _ n => p.e b o e n, fun a h1 h2 _ => p.new a h1 h2, fun _ h => .inl h, p.there⟩
theorem Go.trans (p : Go H0 H M H0' H' M') (q : Go H0' H' M' H0s Hs Ms) : Go H0 H M H0s Hs Ms where
  e0 := p.e0.trans q.e0
  e := fun b o e hb n => q.e b o (p.e b o e hb n) (fun z => (p.dom b z).elim hb fun z => by rw [e] at z; cases z) n
  new := fun a h1 h2 h3 => by
    obtain ⟨o, e⟩ := h2.ex
    exact q.new a (p.new a h1 h2 h3) (h2.keep fun o e n => p.e a o e h3 n) fun z => (p.dom a z).elim h3 fun z => by rw [e] at z; cases z
  dom := fun a ha => by
    rcases q.dom a ha with h | h
    · exact p.dom a h
    · by_cases hm : a ∈ M.dom
      · exact .inl hm
      · exact .inr (p.free hm h)
  there := fun b e => p.there b (q.there b e)
theorem Go.pu (g : Go H0 H [] H0' H' M') (h : Ht K H0' H' M') : Pu H0 H H0' H' := ⟨g.e0, fun b o e n => g.e b o e (by simp) n, h.ex, fun a h1 h2 => g.new a h1 h2 (by simp), g.there, fun _ => h.tb⟩
theorem Ht.emp (h : Same H0 H) (t : TB H0 H) : Ht K H0 H [] := ⟨h, List.nodup_nil, fun _ z => absurd z (by simp), t⟩
/-- a step that leaves the tables as they are -/
theorem TB.new {H0 H : Hp} (t : TB H0 H) {p : Addr} {o : HO} (hp : H p = none) : TB H0 (upd H p o) := t.keep (fun _ _ n _ => n) (fun b ps e => same_new hp _ _ e) (Same.sm (same_new hp)).xt fun _ _ z => z
theorem TB.new2 {H0 H : Hp} (t : TB H0 H) {p : Addr} {o o' : HO} (hp : H p = none) (n' : ∀ ps, o' ≠ .tbl ps := by intro _ z; cases z) : TB (upd H0 p o') (upd H p o) := t.keep (fun b ps n e => by rw [upd_ne (fun z => by rw [z, hp] at e; cases e)]; exact n) (fun b ps e => same_new hp _ _ e) (Same.sm (same_new hp)).xt fun b ps z => upd_tb n' z
theorem Ht.free (h : Ht K H0 H M) {p : Addr} (hp : H p = none) : H0 p = none ∧ p ∉ M.dom := by
  refine ⟨h.ex.free hp, fun z => ?_⟩
  obtain ⟨q, hq, rfl⟩ := List.mem_map.mp z
  obtain ⟨o, ho⟩ := (h.mem q hq).2.there
  rw [hp] at ho; cases ho
/-- a new thing that will not change -/
theorem Pu.new1 (h : Same H0 H) {p : Addr} (hp : H p = none) (o : HO) (n' : ∀ ps, o ≠ .tbl ps := by intro _ z; cases z) : Pu H0 H (upd H0 p o) (upd H p o) := by
  have h0 := h.free hp
  refine ⟨same_new h0, (Same.sm (same_new hp)), fun b u e => ?_, fun a h1 h2 => ?_, fun b e => NdefX.upd_none e, fun t => t.new2 hp n'⟩
  · by_cases hb : b = p
    · subst hb; rw [upd_same] at e ⊢; exact e
    · rw [upd_ne hb] at e ⊢; exact h _ _ e
  · obtain ⟨u, e⟩ := h2.ex
    rw [upd_ne (fun z => by rw [z, hp] at e; cases e)]; exact h1
/-- a new thing that may change -/
theorem Go.new1 {p : Addr} (hp : H p = none) (o : HO) {m : Mu} : Go H0 H M H0 (upd H p o) ((p, m) :: M) := by
  refine ⟨Same.refl _, fun b u e _ _ => same_new hp b u e, fun _ h _ _ => h, fun a ha => ?_, fun b e => NdefX.upd_none e⟩
  rcases List.mem_cons.mp (show a ∈ p :: M.dom from ha) with rfl | ha
  · exact .inr hp
  · exact .inl ha
theorem Ht.new1 (h : Ht K H0 H M) {p : Addr} (hp : H p = none) {o : HO} {m : Mu} (hm : ∀ H', H' p = some o → MuRep K H0 H' p m) : Ht K H0 (upd H p o) ((p, m) :: M) := by
  obtain ⟨h0, hd⟩ := h.free hp
  refine ⟨h.ex.trans (same_new hp), ?_, fun q hq => ?_, h.tb.new hp⟩
  · show (p :: M.dom).Nodup
    exact List.nodup_cons.mpr ⟨hd, h.nd⟩
  · rcases List.mem_cons.mp hq with rfl | hq
    · exact ⟨h0, hm _ upd_same⟩
    · obtain ⟨h1, h2⟩ := h.mem q hq
      exact ⟨h1, h2.mono (Same.refl _) fun o e _ => same_new hp _ _ e⟩
/-- the thing at a changes -/
def Mem.put (M : Mem) (a : Addr) (m : Mu) : Mem := M.map fun p => if p.1 = a then (a, m) else p
end
end Dl

namespace Dl
open PySem PySem.Spec PyProof.Rows L2
/-! ### slots, exceptions, what is wanted -/
abbrev Ro := List (Option D)
def Sl (K : Frag) (H0 : Hp) (σ : L2.St) (ρ : Ro) : Prop := σ.length = ρ.length ∧ ∀ (i : Nat) (d : D), ρ[i]? = some (some d) → ∃ v, σ[i]? = some (some v) ∧ Rep K H0 v d
abbrev XD := Value → List (Str × D) → Ro → Mem → Prop
abbrev kx0 : XD := fun _ _ _ _ => False
def XRep (K : Frag) (H0 H : Hp) (dd : Option Addr) (fs : List (Str × D)) : Prop :=
  (dd = none ∧ fs = []) ∨ fs ≠ [] ∧ ∃ (d : Addr) (vs : List (Str × V)) (xs : List V), dd = some d ∧ H0 d = some (.xd vs) ∧ vs.map Prod.fst = fs.map Prod.fst ∧ vs.map Prod.snd = xs ∧ RepA K H0 xs (fs.map Prod.snd)
inductive Out where
  | nx (ρ : Ro) | bk (ρ : Ro) | ct (ρ : Ro) | rt (d : D)
section
variable {K : Frag} {H0 H0' : Hp} {σ : L2.St} {ρ : Ro}
theorem Sl.mo (h : Sl K H0 σ ρ) (e : Same H0 H0') : Sl K H0' σ ρ := ⟨h.1, fun i d q => let ⟨v, a, b⟩ := h.2 i d q; ⟨v, a, b.mo e⟩⟩
theorem Sl.set (h : Sl K H0 σ ρ) {v : V} {d : D} (r : Rep K H0 v d) (i : Nat) : Sl K H0 (σ.set i (some v)) (ρ.set i (some d)) := by
  refine ⟨by rw [List.length_set, List.length_set]; exact h.1, fun j d' e => ?_⟩
  by_cases hj : i = j
  · subst hj
    by_cases hi : i < ρ.length
    · rw [List.getElem?_set_self hi] at e
      cases e
      exact ⟨v, List.getElem?_set_self (by rw [h.1]; exact hi), r⟩
    · rw [List.getElem?_eq_none (by rw [List.length_set]; omega)] at e
      cases e
  · rw [List.getElem?_set_ne hj] at e ⊢
    exact h.2 j d' e
/-- slots forgotten -/
def Fgt (ρ ρ' : Ro) : Prop := ρ.length = ρ'.length ∧ ∀ (i : Nat) (d : D), ρ'[i]? = some (some d) → ρ[i]? = some (some d)
theorem Sl.fgt {ρ' : Ro} (h : Sl K H0 σ ρ) (f : Fgt ρ ρ') : Sl K H0 σ ρ' := ⟨h.1.trans f.1, fun i d e => h.2 i d (f.2 i d e)⟩
end
section
variable (X : Cx)
def sE (e : Expr) : TE := fun σ H Q => ∀ pins s, Inv X pins σ H s → wpAny (model X.prog X.w) X.A (eval e X.env) (EP X pins σ Q) X.xe s
def sT (e : Expr) : TT := fun σ H Q => ∀ pins s, Inv X pins σ H s → wpAny (model X.prog X.w) X.A (isTrue e X.env (eval e X.env)) (TP X pins σ Q) X.xe s
def sW (e : Expr) : TT := fun σ H Q => ∀ whole pins s, Inv X pins σ H s → wpAny (model X.prog X.w) X.A (isTrue e X.env whole) (TP X pins σ Q) X.xe s
def sA (es : List Expr) : TA := fun σ H Q => ∀ pos pins s, Inv X pins σ H s → wpAny (model X.prog X.w) X.A (spliced (backTo pos (starEach es X.env))) (AP X pins σ Q) X.xe s
def sS (st : Stmt) : TS := fun D σ H => ∀ pins s, Inv X pins σ H s → wpAny (model X.prog X.w) X.A (exec st X.env) (SP X pins D) X.xe s
def sSs (sts : List Stmt) : TS := fun D σ H => ∀ pins s, Inv X pins σ H s → wpAny (model X.prog X.w) X.A (execs sts X.env) (SP X pins D) X.xe s
def sG (tg : Expr) : TG := fun v σ H Q => ∀ pins s u, Inv X pins σ H s → RelV v u → wpAny (model X.prog X.w) X.A (assign tg X.env u) (fun _ s' => ∃ σ' H', Inv X pins σ' H' s' ∧ Q σ' H') X.xe s
def sGs (ts : List Expr) : TGs := fun vs σ H Q => ∀ pins s us, Inv X pins σ H s → Vals vs us → wpAny (model X.prog X.w) X.A (assignInOrder ((assignEach ts X.env).map (·.2)) us) (fun _ s' => ∃ σ' H', Inv X pins σ' H' s' ∧ Q σ' H') X.xe s
def sI (tg it : Expr) : TI := fun σ H R => ∀ pins s, Inv X pins σ H s → wpAny (model X.prog X.w) X.A (eval it X.env) (fun v s1 => wpAny (model X.prog X.w) X.A (pyIter v) (PIE X pins σ tg R) X.xe s1) X.xe s
def sTs (ifs : List Expr) : TT := fun σ H Q => ∀ pins s, Inv X pins σ H s → wpAny (model X.prog X.w) X.A (forIn ifs true fun c r => if r = true then do let ok ← isTrue c X.env (eval c X.env); pure (ForInStep.yield ok) else pure (ForInStep.yield r)) (TP X pins σ Q) X.xe s
end
section
variable {X : Cx}
theorem pe_s (e : Expr) : PE X e (sE X e) := ⟨fun pins s _ _ _ I h => h pins s I⟩
theorem pt_s (e : Expr) : PT X e (sT X e) := ⟨fun pins s _ _ _ I h => h pins s I⟩
theorem pw_s (e : Expr) : PW X e (sW X e) := ⟨fun w pins s _ _ _ I h => h w pins s I⟩
theorem pa_s (e : List Expr) : PA X e (sA X e) := ⟨fun pos pins s _ _ _ I h => h pos pins s I⟩
theorem ps_s (e : Stmt) : PS X e (sS X e) := ⟨fun pins s _ _ _ I h => h pins s I⟩
theorem pss_s (e : List Stmt) : PSs X e (sSs X e) := ⟨fun pins s _ _ _ I h => h pins s I⟩
theorem pg_s (e : Expr) : PG X e (sG X e) := ⟨fun pins s _ _ _ u _ I r h => h pins s u I r⟩
theorem pgs_s (e : List Expr) : PGs X e (sGs X e) := ⟨fun pins s _ _ _ u _ I r h => h pins s u I r⟩
theorem pi_s (tg it : Expr) : PI X tg it (sI X tg it) := ⟨fun pins s _ _ _ I h => h pins s I⟩
variable {σ : L2.St} {H : Hp}
theorem sE.by {e : Expr} {t : TE} {Q : VK} (p : PE X e t) (h : t σ H Q) : sE X e σ H Q := fun pins s I => p.run pins s σ H Q I h
theorem sT.by {e : Expr} {t : TT} {Q : Bool → Hp → Prop} (p : PT X e t) (h : t σ H Q) : sT X e σ H Q := fun pins s I => p.run pins s σ H Q I h
theorem sW.by {e : Expr} {t : TT} {Q : Bool → Hp → Prop} (p : PW X e t) (h : t σ H Q) : sW X e σ H Q := fun w pins s I => p.run w pins s σ H Q I h
theorem sA.by {e : List Expr} {t : TA} {Q : List V → Hp → Prop} (p : PA X e t) (h : t σ H Q) : sA X e σ H Q := fun pos pins s I => p.run pos pins s σ H Q I h
theorem sS.by {e : Stmt} {t : TS} {D : Ends} (p : PS X e t) (h : t D σ H) : sS X e D σ H := fun pins s I => p.run pins s σ H D I h
theorem sSs.by {e : List Stmt} {t : TS} {D : Ends} (p : PSs X e t) (h : t D σ H) : sSs X e D σ H := fun pins s I => p.run pins s σ H D I h
theorem sG.by {e : Expr} {t : TG} {v : V} {Q : L2.St → Hp → Prop} (p : PG X e t) (h : t v σ H Q) : sG X e v σ H Q := fun pins s u I r => p.run pins s σ H v u Q I r h
theorem sGs.by {e : List Expr} {t : TGs} {v : List V} {Q : L2.St → Hp → Prop} (p : PGs X e t) (h : t v σ H Q) : sGs X e v σ H Q := fun pins s u I r => p.run pins s σ H v u Q I r h
theorem sI.by {tg it : Expr} {t : TI} {R : It → Hp → Prop} (p : PI X tg it t) (h : t σ H R) : sI X tg it σ H R := fun pins s I => p.run pins s σ H R I h
theorem sTs.by {e : List Expr} {t : TT} {Q : Bool → Hp → Prop} (p : PTs X e t) (h : t σ H Q) : sTs X e σ H Q := fun pins s I => p.run pins s σ H Q I h
/-- what is wanted of an exception -/
def Hx (X : Cx) (W : WX) (H0 H : Hp) (M : Mem) (kx : XD) : Prop :=
  ∀ cls dd σ' H' H0' fs ρ' M', Go H0 H M H0' H' M' → Ht X.K H0' H' M' → Sl X.K H0' σ' ρ' → XRep X.K H0' H' dd fs → kx cls fs ρ' M' → W cls dd σ' H'
theorem Hx.step {W : WX} {H0 H H0' H' : Hp} {M M' : Mem} {kx : XD} (h : Hx X W H0 H M kx) (g : Go H0 H M H0' H' M') : Hx X W H0' H' M' kx :=
  fun cls dd σ' H2 H02 fs ρ' M2 g2 => h cls dd σ' H2 H02 fs ρ' M2 (g.trans g2)
theorem Hx.pu {W : WX} {H0 H H0' H' : Hp} {M : Mem} {kx : XD} (h : Hx X W H0 H M kx) (p : Pu H0 H H0' H') : Hx X W H0' H' M kx := h.step p.go
theorem Hx.none {W : WX} {H0 H : Hp} {M : Mem} : Hx X W H0 H M kx0 := fun _ _ _ _ _ _ _ _ _ _ _ _ z => z.elim
end
/-! ### the judgements -/
/-- a value, nothing changed -/
def DV (X : Cx) (kx : XD) (e : Expr) (ρ : Ro) (M : Mem) (d : D) : Prop :=
  ∀ (σ : L2.St) (H H0 : Hp), Ht X.K H0 H M → Sl X.K H0 σ ρ → ∀ (W : WX), Takes X W → Hx X W H0 H M kx → ∀ (Q : VK), (∀ v H' H0', Pu H0 H H0' H' → Rep X.K H0' v d → Q v H') → sE X e σ H Q
/-- a value, something changed perhaps -/
def DE (X : Cx) (kx : XD) (e : Expr) (ρ : Ro) (M : Mem) (k : D → Mem → Prop) : Prop :=
  ∀ (σ : L2.St) (H H0 : Hp), Ht X.K H0 H M → Sl X.K H0 σ ρ → ∀ (W : WX), Takes X W → Hx X W H0 H M kx → ∀ (Q : VK), (∀ v H' H0' d M', Go H0 H M H0' H' M' → Ht X.K H0' H' M' → Rep X.K H0' v d → k d M' → Q v H') → sE X e σ H Q
def DA (X : Cx) (kx : XD) (es : List Expr) (ρ : Ro) (M : Mem) (ds : List D) : Prop :=
  ∀ (σ : L2.St) (H H0 : Hp), Ht X.K H0 H M → Sl X.K H0 σ ρ → ∀ (W : WX), Takes X W → Hx X W H0 H M kx → ∀ (Q : List V → Hp → Prop), (∀ vs H' H0', Pu H0 H H0' H' → RepA X.K H0' vs ds → Q vs H') → sA X es σ H Q
def DT (X : Cx) (kx : XD) (e : Expr) (ρ : Ro) (M : Mem) (b : Bool) : Prop :=
  ∀ (σ : L2.St) (H H0 : Hp), Ht X.K H0 H M → Sl X.K H0 σ ρ → ∀ (W : WX), Takes X W → Hx X W H0 H M kx → ∀ (Q : Bool → Hp → Prop), (∀ H' H0', Pu H0 H H0' H' → Q b H') → sT X e σ H Q
def DW (X : Cx) (kx : XD) (e : Expr) (ρ : Ro) (M : Mem) (b : Bool) : Prop :=
  ∀ (σ : L2.St) (H H0 : Hp), Ht X.K H0 H M → Sl X.K H0 σ ρ → ∀ (W : WX), Takes X W → Hx X W H0 H M kx → ∀ (Q : Bool → Hp → Prop), (∀ H' H0', Pu H0 H H0' H' → Q b H') → sW X e σ H Q
def DTs (X : Cx) (kx : XD) (e : List Expr) (ρ : Ro) (M : Mem) (b : Bool) : Prop :=
  ∀ (σ : L2.St) (H H0 : Hp), Ht X.K H0 H M → Sl X.K H0 σ ρ → ∀ (W : WX), Takes X W → Hx X W H0 H M kx → ∀ (Q : Bool → Hp → Prop), (∀ H' H0', Pu H0 H H0' H' → Q b H') → sTs X e σ H Q
/-- the slots ts alone differ -/
def But (ts : List Nat) (σ σ' : L2.St) : Prop := ∀ vs : List Nat, (∀ i ∈ ts, i ∈ vs) → wipe σ' vs = wipe σ vs
theorem But.refl {ts : List Nat} {σ : L2.St} : But ts σ σ := fun _ _ => rfl
theorem But.mono {ts us : List Nat} {σ σ' : L2.St} (h : But ts σ σ') (i : ∀ x ∈ ts, x ∈ us) : But us σ σ' := fun vs q => h vs fun x hx => q x (i x hx)
theorem But.trans {ts : List Nat} {σ σ' τ : L2.St} (h : But ts σ σ') (g : But ts σ' τ) : But ts σ τ := fun vs q => (g vs q).trans (h vs q)
theorem wipe_at (σ : L2.St) : ∀ (vs : List Nat) (j : Nat), (wipe σ vs)[j]? = if j ∈ vs ∧ j < σ.length then some none else σ[j]?
  | [], j => by simp [wipe]
  | v :: vs, j => by
    unfold wipe
    by_cases hj : v = j
    · subst hj
      by_cases hl : v < σ.length
      · rw [List.getElem?_set_self (by rw [wipe_length]; exact hl), if_pos ⟨List.mem_cons_self, hl⟩]
      · rw [if_neg (fun z => hl z.2), List.getElem?_eq_none (by rw [List.length_set, wipe_length]; omega), List.getElem?_eq_none (by omega)]
    · rw [List.getElem?_set_ne hj, wipe_at σ vs j]
      by_cases h : j ∈ vs ∧ j < σ.length
      · rw [if_pos h, if_pos ⟨List.mem_cons_of_mem _ h.1, h.2⟩]
      · rw [if_neg h, if_neg fun z => h ⟨(List.mem_cons.mp z.1).resolve_left (Ne.symm hj), z.2⟩]
theorem But.set {ts : List Nat} {σ : L2.St} {i : Nat} {y : Option V} (h : i ∈ ts) : But ts σ (σ.set i y) := fun vs q => by
  refine List.ext_getElem? fun j => ?_
  rw [wipe_at, wipe_at, List.length_set]
  by_cases hj : j ∈ vs ∧ j < σ.length
  · rw [if_pos hj, if_pos hj]
  · rw [if_neg hj, if_neg hj]
    by_cases e : i = j
    · subst e
      have hl : ¬ i < σ.length := fun z => hj ⟨q i h, z⟩
      rw [List.getElem?_eq_none (by rw [List.length_set]; omega), List.getElem?_eq_none (by omega)]
    · rw [List.getElem?_set_ne e]
/-- a target takes a value -/
def DG (X : Cx) (tg : Expr) (ts : List Nat) (d : D) (ρ ρ' : Ro) : Prop :=
  ∀ (σ : L2.St) (H H0 : Hp) (v : V), Same H0 H → Sl X.K H0 σ ρ → Rep X.K H0 v d → ∀ (Q : L2.St → Hp → Prop), (∀ σ', Sl X.K H0 σ' ρ' → But ts σ σ' → Q σ' H) → sG X tg v σ H Q
def DGs (X : Cx) (tgs : List Expr) (ts : List Nat) (ds : List D) (ρ ρ' : Ro) : Prop :=
  ∀ (σ : L2.St) (H H0 : Hp) (vs : List V), Same H0 H → Sl X.K H0 σ ρ → RepA X.K H0 vs ds → ∀ (Q : L2.St → Hp → Prop), (∀ σ', Sl X.K H0 σ' ρ' → But ts σ σ' → Q σ' H) → sGs X tgs vs σ H Q
/-- what is walked: the things that come, nothing changed but new pairs -/
def WkD (K : Frag) (J : It) (H0 : Hp) (ds : List D) : Prop :=
  ∃ (G : Hp → Prop) (Y : Nat → Hp → V → Hp → Prop), Walk J ds.length G Y ∧ (∀ H, Same H0 H → G H) ∧
    ∀ i H1 x H2 H01 d, Same H0 H01 → Same H01 H1 → ds[i]? = some d → Y i H1 x H2 → ∃ H02, Pu H01 H1 H02 H2 ∧ Rep K H02 x d
def DI (X : Cx) (kx : XD) (tg it : Expr) (ρ : Ro) (M : Mem) (ds : List D) : Prop :=
  ∀ (σ : L2.St) (H H0 : Hp), Ht X.K H0 H M → Sl X.K H0 σ ρ → ∀ (W : WX), Takes X W → Hx X W H0 H M kx → ∀ (R : It → Hp → Prop), (∀ J H' H0', Pu H0 H H0' H' → WkD X.K J H0' ds → R J H') → sI X tg it σ H R
structure Cn (X : Cx) (D : Ends) (H0 H : Hp) (M : Mem) (P : Out → Mem → Prop) : Prop where
  nx : ∀ σ' H' H0' ρ' M', Go H0 H M H0' H' M' → Ht X.K H0' H' M' → Sl X.K H0' σ' ρ' → P (.nx ρ') M' → D.nx σ' H'
  bk : ∀ σ' H' H0' ρ' M', Go H0 H M H0' H' M' → Ht X.K H0' H' M' → Sl X.K H0' σ' ρ' → P (.bk ρ') M' → D.bk σ' H'
  ct : ∀ σ' H' H0' ρ' M', Go H0 H M H0' H' M' → Ht X.K H0' H' M' → Sl X.K H0' σ' ρ' → P (.ct ρ') M' → D.ct σ' H'
  rt : ∀ v H' H0' d M', Go H0 H M H0' H' M' → Ht X.K H0' H' M' → Rep X.K H0' v d → P (.rt d) M' → D.rt v H'
def DS (X : Cx) (kx : XD) (sts : List Stmt) (ρ : Ro) (M : Mem) (P : Out → Mem → Prop) : Prop :=
  ∀ (σ : L2.St) (H H0 : Hp), Ht X.K H0 H M → Sl X.K H0 σ ρ → ∀ (W : WX), Takes X W → Hx X W H0 H M kx → ∀ (D : Ends), Cn X D H0 H M P → sSs X sts D σ H
def DS1 (X : Cx) (kx : XD) (st : Stmt) (ρ : Ro) (M : Mem) (P : Out → Mem → Prop) : Prop :=
  ∀ (σ : L2.St) (H H0 : Hp), Ht X.K H0 H M → Sl X.K H0 σ ρ → ∀ (W : WX), Takes X W → Hx X W H0 H M kx → ∀ (D : Ends), Cn X D H0 H M P → sS X st D σ H
def thenP (X : Cx) (kx : XD) (rest : List Stmt) (P : Out → Mem → Prop) : Out → Mem → Prop
  | .nx ρ, M => DS X kx rest ρ M P
  | o, M => P o M
section
variable {X : Cx} {kx : XD} {ρ ρ' ρ'' : Ro} {M M' : Mem} {P : Out → Mem → Prop}
theorem Cn.step {D : Ends} {H0 H H0' H' : Hp} (c : Cn X D H0 H M P) (g : Go H0 H M H0' H' M') : Cn X D H0' H' M' P :=
  ⟨fun σ' H2 H02 ρ' M2 g2 => c.nx σ' H2 H02 ρ' M2 (g.trans g2), fun σ' H2 H02 ρ' M2 g2 => c.bk σ' H2 H02 ρ' M2 (g.trans g2),
    fun σ' H2 H02 ρ' M2 g2 => c.ct σ' H2 H02 ρ' M2 (g.trans g2), fun v H2 H02 d M2 g2 => c.rt v H2 H02 d M2 (g.trans g2)⟩
theorem Cn.imp {D : Ends} {H0 H : Hp} {P' : Out → Mem → Prop} (c : Cn X D H0 H M P) (h : ∀ o m, P' o m → P o m) : Cn X D H0 H M P' :=
  ⟨fun σ' H2 H02 ρ' M2 g t s p => c.nx σ' H2 H02 ρ' M2 g t s (h _ _ p), fun σ' H2 H02 ρ' M2 g t s p => c.bk σ' H2 H02 ρ' M2 g t s (h _ _ p),
    fun σ' H2 H02 ρ' M2 g t s p => c.ct σ' H2 H02 ρ' M2 g t s (h _ _ p), fun v H2 H02 d M2 g t s p => c.rt v H2 H02 d M2 g t s (h _ _ p)⟩
theorem DS.imp {sts : List Stmt} {P' : Out → Mem → Prop} (h : DS X kx sts ρ M P') (i : ∀ o m, P' o m → P o m) : DS X kx sts ρ M P :=
  fun σ H H0 t s W tk hx D c => h σ H H0 t s W tk hx D (c.imp i)
theorem DS.fgt {sts : List Stmt} (h : DS X kx sts ρ' M P) (f : Fgt ρ ρ') : DS X kx sts ρ M P :=
  fun σ H H0 t s W tk hx D c => h σ H H0 t (s.fgt f) W tk hx D c
theorem DV.de {e : Expr} {d : D} {k : D → Mem → Prop} (h : DV X kx e ρ M d) (hk : k d M) : DE X kx e ρ M k :=
  fun σ H H0 t s W tk hx Q q => h σ H H0 t s W tk hx Q fun v H' H0' p r => q v H' H0' d M p.go (t.pu p) r hk
theorem DV.is {e : Expr} {d d' : D} (h : DV X kx e ρ M d) (e' : d = d') : DV X kx e ρ M d' := e' ▸ h
theorem DT.is {e : Expr} {d d' : Bool} (h : DT X kx e ρ M d) (e' : d = d') : DT X kx e ρ M d' := e' ▸ h
theorem DA.is {e : List Expr} {d d' : List D} (h : DA X kx e ρ M d) (e' : d = d') : DA X kx e ρ M d' := e' ▸ h
/-! ### statements -/
theorem ds_nil (h : P (.nx ρ) M) : DS X kx [] ρ M P := fun σ H H0 t s W tk hx D c => sSs.by pss_nil (c.nx σ H H0 ρ M Go.refl t s h)
theorem ds_cons {st : Stmt} {rest : List Stmt} (h : DS1 X kx st ρ M (thenP X kx rest P)) : DS X kx (st :: rest) ρ M P := fun σ H H0 t s W tk hx D c =>
  sSs.by (pss_cons (ps_s st) (pss_s rest)) (h σ H H0 t s W tk hx { D with nx := sSs X rest D }
    ⟨fun σ' H' H0' ρ' M' g t' s' p => p σ' H' H0' t' s' W tk (hx.step g) D (c.step g), c.bk, c.ct, c.rt⟩)
theorem ds1_ret {e : Expr} {pos : Pos} {k : D → Mem → Prop} (h : DE X kx e ρ M k) (hk : ∀ d m, k d m → P (.rt d) m) : DS1 X kx (.Return (some e) pos) ρ M P := fun σ H H0 t s W tk hx D c =>
  sS.by (ps_ret (pe_s e)) (h σ H H0 t s W tk hx D.rt fun v H' H0' d M' g t' r p => c.rt v H' H0' d M' g t' r (hk d M' p))
theorem ds1_retV {e : Expr} {pos : Pos} {d : D} (h : DV X kx e ρ M d) (hk : P (.rt d) M) : DS1 X kx (.Return (some e) pos) ρ M P :=
  ds1_ret (h.de (k := fun d' m => d' = d ∧ m = M) ⟨rfl, rfl⟩) fun d' m ⟨a, b⟩ => by subst a; subst b; exact hk
theorem ds1_expr {e : Expr} {pos : Pos} {k : D → Mem → Prop} (h : DE X kx e ρ M k) (hk : ∀ d m, k d m → P (.nx ρ) m) (hs : swapsWith e none pos.line X.env = pure false := by rfl) : DS1 X kx (.Expr e pos) ρ M P := fun σ H H0 t s W tk hx D c =>
  sS.by (ps_expr (pe_s e) hs) (h σ H H0 t s W tk hx (fun _ H1 => D.nx σ H1) fun v H' H0' d M' g t' r p => c.nx σ H' H0' ρ M' g t' (s.mo g.e0) (hk d M' p))
theorem ds1_brk {pos : Pos} (h : P (.bk ρ) M) : DS1 X kx (.Break pos) ρ M P := fun σ H H0 t s W tk hx D c => sS.by ps_break (c.bk σ H H0 ρ M Go.refl t s h)
theorem ds1_if {c : Expr} {A B : List Stmt} {pos : Pos} {b : Bool} (hc : DT X kx c ρ M b) (h1 : b = true → DS X kx A ρ M P) (h2 : b = false → DS X kx B ρ M P) : DS1 X kx (.If c A B pos) ρ M P := fun σ H H0 t s W tk hx D cn =>
  sS.by (ps_if (pt_s c) (pss_s A) (pss_s B)) (hc σ H H0 t s W tk hx _ fun H' H0' p => by
    cases b with
    | true => exact h1 rfl σ H' H0' (t.pu p) (s.mo p.e0) W tk (hx.pu p) D (cn.step p.go)
    | false => exact h2 rfl σ H' H0' (t.pu p) (s.mo p.e0) W tk (hx.pu p) D (cn.step p.go))
/-- target = e -/
theorem ds1_asg {tg e : Expr} {pos : Pos} {k : D → Mem → Prop} (h : DE X kx e ρ M k) (hg : ∀ d m, k d m → ∃ ts ρ', DG X tg ts d ρ ρ' ∧ P (.nx ρ') m) (hs : swapsWithSole [tg] e pos.line X.env = pure false := by rfl) (hw : swappedStores [tg] e X.env = pure none := by rfl)
    (h1 : (assignEach [tg] X.env).map (·.2) = [assign tg X.env] := by rfl) : DS1 X kx (.Assign [tg] e pos) ρ M P := fun σ H H0 t s W tk hx D c =>
  sS.by (ps_asg (pe_s e) (pg_s tg) hs hw h1) (h σ H H0 t s W tk hx _ fun v H' H0' d M' g t' r p => by
    obtain ⟨ts, ρ', g1, p1⟩ := hg d M' p
    exact g1 σ H' H0' v t'.ex (s.mo g.e0) r _ fun σ' s' _ => c.nx σ' H' H0' ρ' M' g t' s' p1)
end
/-! ### names -/
structure Nm (X : Cx) (i : Nat) (x : Str) : Prop where
  get : X.N[i]? = some x
  vis : Vis X.env.scope x
  d1 : (x == ("__debug__" : Str)) = false
  d2 : (x == ("__classdict__" : Str)) = false
structure Ns (X : Cx) (i : Nat) (x : Str) : Prop extends Nm X i x where
  nd : X.N.Nodup
  loc : Loc X.env.scope x
  fn : X.fn x = true ∨ X.env.scope.names.lookup x = some .local
section
variable {X : Cx} {kx : XD} {ρ ρ' ρ'' : Ro} {M M' : Mem} {P : Out → Mem → Prop} {pos : Pos}
theorem dv_var {i : Nat} {x : Str} {d : D} (n : Nm X i x) (h : ρ[i]? = some (some d) := by rfl) : DV X kx (.Name x pos) ρ M d := fun σ H H0 t s W tk hx Q q =>
  let ⟨v, a, r⟩ := s.2 i d h
  sE.by (pe_var n.get n.vis n.d1 n.d2) ⟨v, a, q v H H0 (Pu.refl t.ex) r⟩
theorem dg_name {i : Nat} {x : Str} {d : D} (n : Ns X i x) : DG X (.Name x pos) [i] d ρ (ρ.set i (some d)) := fun σ H H0 v e s r Q q =>
  sG.by (pg_name n.nd n.get n.loc n.fn) (q _ (s.set r i) (But.set (by simp)))
theorem dgs_nil : DGs X [] [] [] ρ ρ := fun σ H H0 vs e s r Q q => sGs.by pgs_nil ⟨by cases r; rfl, q σ s But.refl⟩
theorem dgs_cons {tg : Expr} {tgs : List Expr} {ts us : List Nat} {d : D} {ds : List D} (h1 : DG X tg ts d ρ ρ') (h2 : DGs X tgs us ds ρ' ρ'') (hs : (assignEach (tg :: tgs) X.env).map (·.2) = assign tg X.env :: (assignEach tgs X.env).map (·.2) := by rfl) :
    DGs X (tg :: tgs) (ts ++ us) (d :: ds) ρ ρ'' := fun σ H H0 vs e s r Q q => by
  cases r with
  | cons a b => exact sGs.by (pgs_cons (pg_s tg) (pgs_s tgs) hs) ⟨_, _, rfl, h1 σ H H0 _ e s a _ fun σ' s' b1 => h2 σ' H H0 _ e s' b _ fun σ'' s'' b2 => q σ'' s'' ((b1.mono fun x h => List.mem_append_left _ h).trans (b2.mono fun x h => List.mem_append_right _ h))⟩
theorem dg_tup {es : List Expr} {ts : List Nat} {k : Nat} {ds : List D} (hc : X.calm = true) (h : DGs X es ts ds ρ ρ') (hn : (assignEach es X.env).length = ds.length := by rfl) (hst : (assignEach es X.env).findIdx? (·.1) = none := by rfl) : DG X (.Tuple es k pos) ts (.tup ds) ρ ρ' := fun σ H H0 v e s r Q q => by
  cases r with
  | tup a b => exact sG.by (pg_tup hc (pgs_s es) hn hst) ⟨_, _, rfl, SqT.of (e _ _ a), b.length, h σ H H0 _ e s b Q q⟩
theorem ds1_set {i : Nat} {x : Str} {e : Expr} {pos' : Pos} {d : D} (n : Ns X i x) (h : DV X kx e ρ M d) (hp : P (.nx (ρ.set i (some d))) M) (hs : swapsWithSole [.Name x pos'] e pos.line X.env = pure false := by rfl) (hw : swappedStores [.Name x pos'] e X.env = pure none := by rfl) :
    DS1 X kx (.Assign [.Name x pos'] e pos) ρ M P :=
  ds1_asg (h.de (k := fun d' m => d' = d ∧ m = M) ⟨rfl, rfl⟩) (fun d' m ⟨a, b⟩ => ⟨_, _, dg_name n, by subst a; subst b; exact hp⟩) hs hw
theorem ds1_setE {i : Nat} {x : Str} {e : Expr} {pos' : Pos} {k : D → Mem → Prop} (n : Ns X i x) (h : DE X kx e ρ M k) (hp : ∀ d m, k d m → P (.nx (ρ.set i (some d))) m) (hs : swapsWithSole [.Name x pos'] e pos.line X.env = pure false := by rfl) (hw : swappedStores [.Name x pos'] e X.env = pure none := by rfl) :
    DS1 X kx (.Assign [.Name x pos'] e pos) ρ M P :=
  ds1_asg h (fun d' m q => ⟨_, _, dg_name n, hp d' m q⟩) hs hw
theorem ds1_unp {tg e : Expr} {ts : List Nat} {d : D} (h : DV X kx e ρ M d) (hg : DG X tg ts d ρ ρ') (hp : P (.nx ρ') M) (hs : swapsWithSole [tg] e pos.line X.env = pure false := by rfl) (hw : swappedStores [tg] e X.env = pure none := by rfl)
    (h1 : (assignEach [tg] X.env).map (·.2) = [assign tg X.env] := by rfl) : DS1 X kx (.Assign [tg] e pos) ρ M P :=
  ds1_asg (h.de (k := fun d' m => d' = d ∧ m = M) ⟨rfl, rfl⟩) (fun d' m ⟨a, b⟩ => ⟨_, _, by subst a; exact hg, by subst b; exact hp⟩) hs hw h1
theorem dv_int {i j} : DV X kx (.Constant (.int i) j pos) ρ M (.int i) := fun σ H H0 t s W tk hx Q q => sE.by pe_int (q _ H H0 (Pu.refl t.ex) (.int i))
theorem dv_bl {i j} : DV X kx (.Constant (.bool i) j pos) ρ M (.bl i) := fun σ H H0 t s W tk hx Q q => sE.by pe_bl (q _ H H0 (Pu.refl t.ex) (.bl i))
theorem dv_non {j} : DV X kx (.Constant .none j pos) ρ M .non := fun σ H H0 t s W tk hx Q q => sE.by pe_non (q _ H H0 (Pu.refl t.ex) .non)
theorem dv_str {i j} : DV X kx (.Constant (.str i) j pos) ρ M (.str i) := fun σ H H0 t s W tk hx Q q => sE.by pe_str (q _ H H0 (Pu.refl t.ex) (.str i))
theorem da_nil : DA X kx [] ρ M [] := fun σ H H0 t s W tk hx Q q => sA.by pa_nil (q [] H H0 (Pu.refl t.ex) .nil)
theorem da_cons {e : Expr} {es : List Expr} {d : D} {ds : List D} (h1 : DV X kx e ρ M d) (h2 : DA X kx es ρ M ds) (hs : starEach (e :: es) X.env = (false, eval e X.env) :: starEach es X.env := by rfl) : DA X kx (e :: es) ρ M (d :: ds) := fun σ H H0 t s W tk hx Q q =>
  sA.by (pa_cons (pe_s e) (pa_s es) hs) (h1 σ H H0 t s W tk hx _ fun v H1 H01 p1 r1 => h2 σ H1 H01 (t.pu p1) (s.mo p1.e0) W tk (hx.pu p1) _ fun vs H2 H02 p2 r2 => q _ H2 H02 (p1.trans p2) (.cons (r1.mo p2.e0) r2))
/-! ### operators -/
def R2D (K : Frag) (r : R2) (M : Mem) (x y z : D) : Prop := ∀ (v u : V) (H H0 : Hp), Ht K H0 H M → Rep K H0 v x → Rep K H0 u y → ∀ (Q : VK), (∀ w H' H0', Pu H0 H H0' H' → Rep K H0' w z → Q w H') → r v u H Q
theorem dv_op {op : Operator} {r : R2} {a b : Expr} {x y z : D} (ho : OpR X (binaryOp op) r) (hr : R2D X.K r M x y z) (ha : DV X kx a ρ M x) (hb : DV X kx b ρ M y) : DV X kx (.BinOp a op b pos) ρ M z := fun σ H H0 t s W tk hx Q q =>
  sE.by (pe_op ho (pe_s a) (pe_s b)) (ha σ H H0 t s W tk hx _ fun v H1 H01 p1 r1 => hb σ H1 H01 (t.pu p1) (s.mo p1.e0) W tk (hx.pu p1) _ fun u H2 H02 p2 r2 =>
    hr v u H2 H02 (t.pu (p1.trans p2)) (r1.mo p2.e0) r2 Q fun w H3 H03 p3 r3 => q w H3 H03 ((p1.trans p2).trans p3) r3)
theorem dv_cmp {op : CmpOp} {r : R2} {a b : Expr} {x y z : D} (ho : OpR X (compareOp op) r) (hr : R2D X.K r M x y z) (ha : DV X kx a ρ M x) (hb : DV X kx b ρ M y) (hm : behindInMarks op b = false) : DV X kx (.Compare a [op] [b] pos) ρ M z := fun σ H H0 t s W tk hx Q q =>
  sE.by (pe_cmpR ho (pe_s a) (pe_s b) hm) (ha σ H H0 t s W tk hx _ fun v H1 H01 p1 r1 => hb σ H1 H01 (t.pu p1) (s.mo p1.e0) W tk (hx.pu p1) _ fun u H2 H02 p2 r2 =>
    hr v u H2 H02 (t.pu (p1.trans p2)) (r1.mo p2.e0) r2 Q fun w H3 H03 p3 r3 => q w H3 H03 ((p1.trans p2).trans p3) r3)
theorem dt_cmp {op : CmpOp} {r : R2} {a b : Expr} {x y : D} {z : Bool} (ho : OpR X (compareOp op) r) (hr : R2D X.K r M x y (.bl z)) (ha : DV X kx a ρ M x) (hb : DV X kx b ρ M y) (hm : behindInMarks op b = false) : DT X kx (.Compare a [op] [b] pos) ρ M z := fun σ H H0 t s W tk hx Q q =>
  sT.by (pt_cmpR ho (pe_s a) (pe_s b) hm) (ha σ H H0 t s W tk hx _ fun v H1 H01 p1 r1 => hb σ H1 H01 (t.pu p1) (s.mo p1.e0) W tk (hx.pu p1) _ fun u H2 H02 p2 r2 =>
    hr v u H2 H02 (t.pu (p1.trans p2)) (r1.mo p2.e0) r2 _ fun w H3 H03 p3 r3 => by cases r3; exact ⟨z, rfl, q H3 H03 ((p1.trans p2).trans p3)⟩)
theorem r2_ii {g : Int → Int → Int} {i j : Int} : R2D X.K (rI0 fun i j => .int (g i j)) M (.int i) (.int j) (.int (g i j)) := fun v u H H0 t r1 r2 Q q => by
  cases r1; cases r2; exact ⟨i, j, rfl, rfl, q _ H H0 (Pu.refl t.ex) (.int _)⟩
theorem r2_ib {g : Int → Int → Bool} {i j : Int} : R2D X.K (rI0 fun i j => .bl (g i j)) M (.int i) (.int j) (.bl (g i j)) := fun v u H H0 t r1 r2 Q q => by
  cases r1; cases r2; exact ⟨i, j, rfl, rfl, q _ H H0 (Pu.refl t.ex) (.bl _)⟩
theorem r2_iC {C : Int → Int → Prop} {g : Int → Int → Int} {i j : Int} (h : C i j) : R2D X.K (rI C fun i j => .int (g i j)) M (.int i) (.int j) (.int (g i j)) := fun v u H H0 t r1 r2 Q q => by
  cases r1; cases r2; exact ⟨i, j, rfl, rfl, h, q _ H H0 (Pu.refl t.ex) (.int _)⟩
variable {a b : Expr} {i j : Int}
theorem dv_add (ha : DV X kx a ρ M (.int i)) (hb : DV X kx b ρ M (.int j)) : DV X kx (.BinOp a .Add b pos) ρ M (.int (i + j)) := dv_op op_add r2_ii ha hb
theorem dv_sub (ha : DV X kx a ρ M (.int i)) (hb : DV X kx b ρ M (.int j)) : DV X kx (.BinOp a .Sub b pos) ρ M (.int (i - j)) := dv_op op_sub r2_ii ha hb
theorem dv_mul (ha : DV X kx a ρ M (.int i)) (hb : DV X kx b ρ M (.int j)) (h : CMul i j) : DV X kx (.BinOp a .Mult b pos) ρ M (.int (i * j)) := dv_op op_mul (r2_iC h) ha hb
theorem dv_mulW (ha : DV X kx a ρ M (.int i)) (hb : DV X kx b ρ M (.int j)) (h : CMulW i j) : DV X kx (.BinOp a .Mult b pos) ρ M (.int (i * j)) := dv_op op_mulW (r2_iC h) ha hb
theorem dv_fdiv (ha : DV X kx a ρ M (.int i)) (hb : DV X kx b ρ M (.int j)) (h : CDivW i j) : DV X kx (.BinOp a .FloorDiv b pos) ρ M (.int (i / j)) := dv_op op_fdivW (r2_iC h) ha hb
theorem dv_mod (ha : DV X kx a ρ M (.int i)) (hb : DV X kx b ρ M (.int j)) (h : 0 < j) : DV X kx (.BinOp a .Mod b pos) ρ M (.int (i % j)) := dv_op op_mod (r2_iC (C := fun _ j => 0 < j) h) ha hb
theorem dv_pow (ha : DV X kx a ρ M (.int i)) (hb : DV X kx b ρ M (.int j)) (h : CPow i j) : DV X kx (.BinOp a .Pow b pos) ρ M (.int (i ^ j.toNat)) := dv_op op_pow (r2_iC h) ha hb
theorem dv_neg (ha : DV X kx a ρ M (.int i)) : DV X kx (.UnaryOp .USub a pos) ρ M (.int (-i)) := fun σ H H0 t s W tk hx Q q =>
  sE.by (pe_un un_neg (pe_s a)) (ha σ H H0 t s W tk hx _ fun v H1 H01 p1 r1 => by cases r1; exact ⟨i, rfl, q _ H1 H01 p1 (.int _)⟩)
theorem dv_ge (ha : DV X kx a ρ M (.int i)) (hb : DV X kx b ρ M (.int j)) : DV X kx (.Compare a [.GtE] [b] pos) ρ M (.bl (decide (j ≤ i))) := dv_cmp op_ge r2_ib ha hb (nomark _)
theorem dt_lt (ha : DV X kx a ρ M (.int i)) (hb : DV X kx b ρ M (.int j)) : DT X kx (.Compare a [.Lt] [b] pos) ρ M (decide (i < j)) := dt_cmp op_lt r2_ib ha hb (nomark _)
theorem dt_gt (ha : DV X kx a ρ M (.int i)) (hb : DV X kx b ρ M (.int j)) : DT X kx (.Compare a [.Gt] [b] pos) ρ M (decide (j < i)) := dt_cmp op_gt r2_ib ha hb (nomark _)
theorem dt_ge (ha : DV X kx a ρ M (.int i)) (hb : DV X kx b ρ M (.int j)) : DT X kx (.Compare a [.GtE] [b] pos) ρ M (decide (j ≤ i)) := dt_cmp op_ge r2_ib ha hb (nomark _)
theorem r2_eqi {i j : Int} : R2D X.K rEq M (.int i) (.int j) (.bl (decide (i = j))) := fun v u H H0 t r1 r2 Q q => by
  cases r1; cases r2
  refine ⟨rfl, ?_⟩
  rw [dec_int, Bool.beq_eq_decide_eq]
  exact q _ H H0 (Pu.refl t.ex) (.bl _)
theorem r2_nei {i j : Int} : R2D X.K rNe M (.int i) (.int j) (.bl (!decide (i = j))) := fun v u H H0 t r1 r2 Q q => by
  cases r1; cases r2
  refine ⟨rfl, ?_⟩
  rw [dec_int, Bool.beq_eq_decide_eq]
  exact q _ H H0 (Pu.refl t.ex) (.bl _)
theorem dt_eqi (ha : DV X kx a ρ M (.int i)) (hb : DV X kx b ρ M (.int j)) : DT X kx (.Compare a [.Eq] [b] pos) ρ M (decide (i = j)) := dt_cmp op_eq r2_eqi ha hb (nomark _)
theorem dt_nei (ha : DV X kx a ρ M (.int i)) (hb : DV X kx b ρ M (.int j)) : DT X kx (.Compare a [.NotEq] [b] pos) ρ M (!decide (i = j)) := dt_cmp op_ne r2_nei ha hb (nomark _)
end
end Dl

namespace Dl
open PySem PySem.Spec PyProof.Rows L2
section
variable {X : Cx} {kx : XD} {ρ ρ' ρ'' : Ro} {M M' : Mem} {P : Out → Mem → Prop} {pos : Pos} {a b c e : Expr} {es : List Expr} {x y z : D} {k l : Bool}
/-! ### tests -/
theorem dt_val (h : DV X kx e ρ M (.bl k)) (he : ∀ whole, isTrue e X.env whole = (do let v ← whole; standAt e.pos; holding [v] (truthy v)) := by intro _; rfl) : DT X kx e ρ M k := fun σ H H0 t s W tk hx Q q =>
  sT.by (pt_val (pe_s e) he) (h σ H H0 t s W tk hx _ fun v H' H0' p r => by cases r; exact ⟨k, rfl, q H' H0' p⟩)
theorem dt_not (h : DT X kx a ρ M k) : DT X kx (.UnaryOp .Not a pos) ρ M (!k) := fun σ H H0 t s W tk hx Q q =>
  sT.by (pt_not (pt_s a)) (h σ H H0 t s W tk hx _ fun H' H0' p => q H' H0' p)
theorem DW.t (h : DW X kx e ρ M k) : DT X kx e ρ M k := fun σ H H0 t s W tk hx Q q => sT.by (pw_s e).pt (h σ H H0 t s W tk hx Q q)
theorem dw_and1 (h : DT X kx a ρ M k) : DW X kx (.BoolOp .And [a] pos) ρ M k := fun σ H H0 t s W tk hx Q q => sW.by (pw_and1 (pt_s a)) (h σ H H0 t s W tk hx Q q)
theorem dw_or1 (h : DT X kx a ρ M k) : DW X kx (.BoolOp .Or [a] pos) ρ M k := fun σ H H0 t s W tk hx Q q => sW.by (pw_or1 (pt_s a)) (h σ H H0 t s W tk hx Q q)
theorem dw_and {rest : List Expr} (h1 : DT X kx a ρ M k) (h2 : k = true → DW X kx (.BoolOp .And (b :: rest) pos) ρ M l) : DW X kx (.BoolOp .And (a :: b :: rest) pos) ρ M (k && l) := fun σ H H0 t s W tk hx Q q =>
  sW.by (pw_and (pt_s a) (pw_s _)) (h1 σ H H0 t s W tk hx _ fun H' H0' p => by
    cases k with
    | true => exact iteT (h2 rfl σ H' H0' (t.pu p) (s.mo p.e0) W tk (hx.pu p) Q fun H2 H02 p2 => q H2 H02 (p.trans p2))
    | false => exact iteF (q H' H0' p))
theorem dw_or {rest : List Expr} (h1 : DT X kx a ρ M k) (h2 : k = false → DW X kx (.BoolOp .Or (b :: rest) pos) ρ M l) : DW X kx (.BoolOp .Or (a :: b :: rest) pos) ρ M (k || l) := fun σ H H0 t s W tk hx Q q =>
  sW.by (pw_or (pt_s a) (pw_s _)) (h1 σ H H0 t s W tk hx _ fun H' H0' p => by
    cases k with
    | true => exact iteT (q H' H0' p)
    | false => exact iteF (h2 rfl σ H' H0' (t.pu p) (s.mo p.e0) W tk (hx.pu p) Q fun H2 H02 p2 => q H2 H02 (p.trans p2)))
/-! the same as values -/
theorem dv_one {op} (h : DV X kx a ρ M x) : DV X kx (.BoolOp op [a] pos) ρ M x := fun σ H H0 t s W tk hx Q q => sE.by (pe_one (pe_s a)) (h σ H H0 t s W tk hx Q q)
theorem dv_and {rest : List Expr} (h1 : DV X kx a ρ M (.bl k)) (h2 : k = true → DV X kx (.BoolOp .And (b :: rest) pos) ρ M (.bl l)) : DV X kx (.BoolOp .And (a :: b :: rest) pos) ρ M (.bl (k && l)) := fun σ H H0 t s W tk hx Q q =>
  sE.by (pe_and (pe_s a) (pe_s _)) (h1 σ H H0 t s W tk hx _ fun v H' H0' p r => by
    cases r
    refine ⟨k, rfl, ?_⟩
    cases k with
    | true => exact iteT (h2 rfl σ H' H0' (t.pu p) (s.mo p.e0) W tk (hx.pu p) Q fun v H2 H02 p2 r2 => q v H2 H02 (p.trans p2) r2)
    | false => exact iteF (q _ H' H0' p (.bl false)))
/-! ### None -/
def D.isNon : D → Bool
  | .non => true
  | _ => false
theorem rep_non {K : Frag} {H : Hp} {v : V} {d : D} (r : Rep K H v d) : decide (v = .non) = d.isNon := by
  cases r <;> rfl
theorem r2_isN : R2D X.K (fun x y H Q => y = .non ∧ Q (.bl (decide (x = .non))) H) M x .non (.bl x.isNon) := fun v u H H0 t r1 r2 Q q => by
  cases r2
  refine ⟨rfl, ?_⟩
  rw [rep_non r1]
  exact q _ H H0 (Pu.refl t.ex) (.bl _)
theorem r2_notN : R2D X.K (fun x y H Q => y = .non ∧ Q (.bl (!decide (x = .non))) H) M x .non (.bl (!x.isNon)) := fun v u H H0 t r1 r2 Q q => by
  cases r2
  refine ⟨rfl, ?_⟩
  rw [rep_non r1]
  exact q _ H H0 (Pu.refl t.ex) (.bl _)
theorem dt_isN {j p2} (h : DV X kx a ρ M x) : DT X kx (.Compare a [.Is] [.Constant .none j p2] pos) ρ M x.isNon := dt_cmp op_isN r2_isN h dv_non (nomark _)
theorem dt_notN {j p2} (h : DV X kx a ρ M x) : DT X kx (.Compare a [.IsNot] [.Constant .none j p2] pos) ρ M (!x.isNon) := dt_cmp op_notN r2_notN h dv_non (nomark _)
end
/-! ### data that compares -/
mutual
def D.py : D → PyData
  | .non => .none
  | .bl b => .bool b
  | .int i => .int i
  | .str x => .str x
  | .ty _ => .none
  | .lst xs => .list (D.pyA xs)
  | .scr xs => .list (D.pyA xs)
  | .tup xs => .tuple (D.pyA xs)
  | .ins _ _ _ => .none
  | .adr _ => .none
  | .dK _ _ => .none
  | .dT _ _ => .none
  | .exn _ _ _ => .none
  | .clo _ _ _ => .none
def D.pyA : List D → List PyData
  | [] => []
  | d :: ds => d.py :: D.pyA ds
end
mutual
/-- no objects within -/
def D.flat : D → Bool
  | .non => true
  | .bl _ => true
  | .int _ => true
  | .str _ => true
  | .ty _ => false
  | .lst xs => D.flatA xs
  | .scr xs => D.flatA xs
  | .tup xs => D.flatA xs
  | .ins _ _ _ => false
  | .adr _ => false
  | .dK _ _ => false
  | .dT _ _ => false
  | .exn _ _ _ => false
  | .clo _ _ _ => false
def D.flatA : List D → Bool
  | [] => true
  | d :: ds => d.flat && D.flatA ds
end
mutual
theorem Rep.dp {K : Frag} {H : Hp} : ∀ (d : D) (v : V), d.flat = true → Rep K H v d → Dp K H v d.py
  | .non, _, f, h => by cases h; simp only [D.py]; exact .non
  | .bl b, _, f, h => by cases h; simp only [D.py]; exact .bl b
  | .int b, _, f, h => by cases h; simp only [D.py]; exact .int b
  | .str b, _, f, h => by cases h; simp only [D.py]; exact .str b
  | .ty b, _, f, h => by simp [D.flat] at f
  | .lst ds, _, f, h => by
    cases h with
    | lst a b =>
      simp only [D.py]
      exact .lst (SqL.of a) (RepA.dp ds _ (by simpa [D.flat] using f) b)
  | .scr ds, _, f, h => by
    cases h with
    | scr a b =>
      simp only [D.py]
      exact .lst a (RepA.dp ds _ (by simpa [D.flat] using f) b)
  | .tup ds, _, f, h => by
    cases h with
    | tup a b =>
      simp only [D.py]
      exact .tup (SqT.of a) (RepA.dp ds _ (by simpa [D.flat] using f) b)
  | .ins C ns ds, _, f, h => by simp [D.flat] at f
  | .adr a, _, f, h => by simp [D.flat] at f
  | .dK _ _, _, f, h => by simp [D.flat] at f
  | .dT _ _, _, f, h => by simp [D.flat] at f
  | .exn _ _ _, _, f, h => by simp [D.flat] at f
  | .clo _ _ _, _, f, h => by simp [D.flat] at f
theorem RepA.dp {K : Frag} {H : Hp} : ∀ (ds : List D) (vs : List V), D.flatA ds = true → RepA K H vs ds → DpAll K H vs (D.pyA ds)
  | [], _, f, h => by cases h; simp only [D.pyA]; exact .nil
  | d :: ds, _, f, h => by
    simp only [D.flatA, Bool.and_eq_true] at f
    cases h with
    | cons a b =>
      simp only [D.pyA]
      exact .cons (Rep.dp d _ f.1 a) (RepA.dp ds _ f.2 b)
end
/-- a thing's data: it is flat, of small depth; == of two such things is k -/
structure Eqs (x y : D) (k : Bool) : Prop where
  fx : x.flat = true
  fy : y.flat = true
  sx : SeqAt.shaped x.py = true
  sy : SeqAt.shaped y.py = true
  eq : PyData.eqv x.py y.py = k
section
variable {X : Cx} {kx : XD} {ρ ρ' ρ'' : Ro} {M M' : Mem} {P : Out → Mem → Prop} {pos : Pos} {a b c e : Expr} {es : List Expr} {x y z : D} {k l : Bool}
theorem r2_eqD (h : Eqs x y k) : R2D X.K (rEqD X.K) M x y (.bl k) := fun v u H H0 t r1 r2 Q q =>
  ⟨x.py, y.py, Rep.dp _ _ h.fx (r1.mo t.ex), Rep.dp _ _ h.fy (r2.mo t.ex), h.sx, h.sy, by rw [h.eq]; exact q _ H H0 (Pu.refl t.ex) (.bl _)⟩
theorem r2_neD (h : Eqs x y k) : R2D X.K (rNeD X.K) M x y (.bl (!k)) := fun v u H H0 t r1 r2 Q q =>
  ⟨x.py, y.py, Rep.dp _ _ h.fx (r1.mo t.ex), Rep.dp _ _ h.fy (r2.mo t.ex), h.sx, h.sy, by rw [h.eq]; exact q _ H H0 (Pu.refl t.ex) (.bl _)⟩
theorem dv_eqD (hu : X.A.units + 64 < cLine) (ha : DV X kx a ρ M x) (hb : DV X kx b ρ M y) (h : Eqs x y k) : DV X kx (.Compare a [.Eq] [b] pos) ρ M (.bl k) := dv_cmp (op_eqD hu) (r2_eqD h) ha hb (nomark _)
theorem dt_neD (hu : X.A.units + 64 < cLine) (ha : DV X kx a ρ M x) (hb : DV X kx b ρ M y) (h : Eqs x y k) : DT X kx (.Compare a [.NotEq] [b] pos) ρ M (!k) := dt_cmp (op_neD hu) (r2_neD h) ha hb (nomark _)
/-! ### displays -/
theorem dv_tup {n} {ds : List D} (h : DA X kx es ρ M ds) (hl : ds.length ≤ sizeLine) : DV X kx (.Tuple es n pos) ρ M (.tup ds) := fun σ H H0 t s W tk hx Q q =>
  sE.by (pe_tup (pa_s es)) (h σ H H0 t s W tk hx _ fun vs H' H0' p r => ⟨by rw [r.length]; exact hl, fun w hw =>
    let g := Pu.new1 p.ex hw (.tup vs)
    q (.ref w) _ _ (p.trans g) (.tup upd_same (r.mo g.e0))⟩)
theorem dv_lst {ds : List D} (h : DA X kx es ρ M ds) (hl : ds.length ≤ sizeLine) : DV X kx (.List es pos) ρ M (.lst ds) := fun σ H H0 t s W tk hx Q q =>
  sE.by (pe_lst (pa_s es)) (h σ H H0 t s W tk hx _ fun vs H' H0' p r => ⟨by rw [r.length]; exact hl, fun w hw =>
    let g := Pu.new1 p.ex hw (.lst vs)
    q (.ref w) _ _ (p.trans g) (.lst upd_same (r.mo g.e0))⟩)
/-- a list that will change -/
theorem de_lst {ds : List D} {k : D → Mem → Prop} (h : DA X kx es ρ M ds) (hl : ds.length ≤ sizeLine) (hk : ∀ w, w ∉ M.dom → k (.adr w) ((w, .lst ds) :: M)) : DE X kx (.List es pos) ρ M k := fun σ H H0 t s W tk hx Q q =>
  sE.by (pe_lst (pa_s es)) (h σ H H0 t s W tk hx _ fun vs H' H0' p r => ⟨by rw [r.length]; exact hl, fun w hw =>
    q (.ref w) _ H0' _ _ (p.go.trans (Go.new1 hw (.lst vs))) ((t.pu p).new1 (m := .lst ds) hw fun H2 e2 => ⟨vs, e2, r⟩) (.adr w) (hk w ((t.pu p).free hw).2)⟩)
/-- a row that is a list -/
inductive SeqL (M : Mem) : D → List D → Prop
  | lst (ds : List D) : SeqL M (.lst ds) ds
  | scr (ds : List D) : SeqL M (.scr ds) ds
  | adr {p : Addr} {ds : List D} : (p, Mu.lst ds) ∈ M → SeqL M (.adr p) ds
theorem SeqL.rep {x : D} {ds : List D} {v : V} {H H0 : Hp} (h : SeqL M x ds) (t : Ht X.K H0 H M) (r : Rep X.K H0 v x) : ∃ p vs, v = .ref p ∧ SqL X.K H p vs ∧ RepA X.K H0 vs ds := by
  cases h with
  | lst ds => cases r with | lst a b => exact ⟨_, _, rfl, SqL.of (t.ex _ _ a), b⟩
  | scr ds => cases r with | scr a b => exact ⟨_, _, rfl, t.ex.seq a, b⟩
  | adr hm =>
    cases r
    obtain ⟨_, vs, h1, h2⟩ := t.mem _ hm
    exact ⟨_, vs, rfl, SqL.of h1, h2⟩
/-- a list by itself: it may be put together with another one -/
inductive SeqO (M : Mem) : D → List D → Prop
  | lst (ds : List D) : SeqO M (.lst ds) ds
  | adr {p : Addr} {ds : List D} : (p, Mu.lst ds) ∈ M → SeqO M (.adr p) ds
theorem SeqO.rep {x : D} {ds : List D} {v : V} {H H0 : Hp} (h : SeqO M x ds) (t : Ht X.K H0 H M) (r : Rep X.K H0 v x) : ∃ p vs, v = .ref p ∧ H p = some (.lst vs) ∧ RepA X.K H0 vs ds := by
  cases h with
  | lst ds => cases r with | lst a b => exact ⟨_, _, rfl, t.ex _ _ a, b⟩
  | adr hm =>
    cases r
    obtain ⟨_, vs, h1, h2⟩ := t.mem _ hm
    exact ⟨_, vs, rfl, h1, h2⟩
/-! ### subscripts -/
theorem rep_ix {K : Frag} {H : Hp} {vs : List V} {ds : List D} {i : Int} {d : D} (r : RepA K H vs ds) (h : atI ds i = some d) : ∃ v, atI vs i = some v ∧ Rep K H v d := by
  unfold atI at h ⊢
  rw [r.length]
  cases e : ixN ds.length i with
  | none => rw [e] at h; cases h
  | some j =>
    rw [e] at h
    exact r.get h
theorem r2_ixL {ds : List D} {i : Int} {d : D} (hq : SeqL M x ds) (h : atI ds i = some d) : R2D X.K (rIxL X.K) M x (.int i) d := fun v u H H0 t r1 r2 Q q => by
  cases r2
  obtain ⟨p, vs, rfl, h1, h2⟩ := hq.rep t r1
  obtain ⟨w, h3, h4⟩ := rep_ix h2 h
  exact ⟨p, vs, i, w, rfl, rfl, h1, h3, q _ H H0 (Pu.refl t.ex) h4⟩
theorem r2_ixT {ds : List D} {i : Int} {d : D} (h : atI ds i = some d) : R2D X.K (rIxT X.K) M (.tup ds) (.int i) d := fun v u H H0 t r1 r2 Q q => by
  cases r2
  cases r1 with
  | tup a b =>
    obtain ⟨w, h1, h2⟩ := rep_ix b h
    exact ⟨_, _, i, w, rfl, rfl, SqT.of (t.ex _ _ a), h1, q _ H H0 (Pu.refl t.ex) h2⟩
theorem dv_ix {r : R2} (hr : IxR X r) (h : R2D X.K r M x y z) (ha : DV X kx a ρ M x) (hb : DV X kx b ρ M y) (hs : PlainIx b) : DV X kx (.Subscript a b pos) ρ M z := fun σ H H0 t s W tk hx Q q =>
  sE.by (pe_ix hr (pe_s a) (pe_s b) hs) (ha σ H H0 t s W tk hx _ fun v H1 H01 p1 r1 => hb σ H1 H01 (t.pu p1) (s.mo p1.e0) W tk (hx.pu p1) _ fun u H2 H02 p2 r2 =>
    h v u H2 H02 (t.pu (p1.trans p2)) (r1.mo p2.e0) r2 Q fun w H3 H03 p3 r3 => q w H3 H03 ((p1.trans p2).trans p3) r3)
theorem dv_ixS {ds : List D} {i : Int} {d : D} (ha : DV X kx a ρ M x) (hq : SeqL M x ds) (hb : DV X kx b ρ M (.int i)) (h : atI ds i = some d) (hs : PlainIx b := by intro _ _; rfl) : DV X kx (.Subscript a b pos) ρ M d := dv_ix ix_list (r2_ixL hq h) ha hb hs
theorem dv_ixT {ds : List D} {i : Int} {d : D} (ha : DV X kx a ρ M (.tup ds)) (hb : DV X kx b ρ M (.int i)) (h : atI ds i = some d) (hs : PlainIx b := by intro _ _; rfl) : DV X kx (.Subscript a b pos) ρ M d := dv_ix ix_tup (r2_ixT h) ha hb hs
/-! ### slices -/
def DO (X : Cx) (kx : XD) (e : Option Expr) (ρ : Ro) (M : Mem) (o : Option Int) : Prop :=
  match e with
  | none => o = none
  | some e => ∃ i, o = some i ∧ DV X kx e ρ M (.int i)
theorem do_none : DO X kx none ρ M none := rfl
theorem do_some {i : Int} (h : DV X kx e ρ M (.int i)) : DO X kx (some e) ρ M (some i) := ⟨i, rfl, h⟩
def sO (X : Cx) : Option Expr → TO
  | none => tNoPart
  | some e => tPart (sE X e)
theorem po_s : ∀ e : Option Expr, PO X e (sO X e)
  | none => po_none
  | some e => po_some (pe_s e)
theorem DO.run {o : Option Expr} {i : Option Int} (h : DO X kx o ρ M i) {σ : L2.St} {H H0 : Hp} (t : Ht X.K H0 H M) (s : Sl X.K H0 σ ρ) {W : WX} (tk : Takes X W) (hx : Hx X W H0 H M kx) {Q : Option Int → Hp → Prop} (q : ∀ H' H0', Pu H0 H H0' H' → Q i H') : sO X o σ H Q := by
  cases o with
  | none =>
    have e : i = none := h
    subst e
    exact q H H0 (Pu.refl t.ex)
  | some e =>
    obtain ⟨j, rfl, h⟩ := h
    exact h σ H H0 t s W tk hx _ fun v H' H0' p r => by cases r; exact ⟨j, rfl, q H' H0' p⟩
def cutD (xs : List D) (lo hi : Option Int) : List D := (xs.drop (HT.sIx xs.length 0 lo)).take (HT.sIx xs.length xs.length hi - HT.sIx xs.length 0 lo)
theorem rep_cut {K : Frag} {H : Hp} {vs : List V} {ds : List D} (r : RepA K H vs ds) (lo hi : Option Int) : RepA K H (cutV vs lo hi) (cutD ds lo hi) := by
  unfold cutV cutD
  rw [r.length]
  exact (r.drop _).take _
theorem dv_slS {lo hi : Option Expr} {p2} {i j : Option Int} {ds : List D} (ha : DV X kx a ρ M x) (hq : SeqL M x ds) (hl : DO X kx lo ρ M i) (hh : DO X kx hi ρ M j) : DV X kx (.Subscript a (.Slice lo hi none p2) pos) ρ M (.lst (cutD ds i j)) := fun σ H H0 t s W tk hx Q q =>
  sE.by (pe_slice sl_list (pe_s a) (po_s lo) (po_s hi)) (ha σ H H0 t s W tk hx _ fun v H1 H01 p1 r1 => hl.run (t.pu p1) (s.mo p1.e0) tk (hx.pu p1) fun H2 H02 p2 => hh.run (t.pu (p1.trans p2)) (s.mo (p1.trans p2).e0) tk (hx.pu (p1.trans p2)) fun H3 H03 p3 => by
    have p123 := (p1.trans p2).trans p3
    obtain ⟨p, vs, rfl, h1, h2⟩ := hq.rep (t.pu p123) (r1.mo (p2.trans p3).e0)
    refine ⟨_, vs, rfl, h1, fun w hw => ?_⟩
    have g := Pu.new1 p123.ex hw (.lst (cutV vs i j))
    exact q (.ref w) _ _ (p123.trans g) (.lst upd_same (rep_cut (h2.mo g.e0) i j)))
/-! ### built-ins called -/
/-- a global name that is a built-in's -/
structure Bn (X : Cx) (x : Str) (u : Value) : Prop where
  gl : Gl X x
  mg : X.mg x = none
  bt : bootBuiltins x = some u
  n : x ≠ "__name__"
  d : (x == ("__debug__" : Str)) = false
def RCD (K : Frag) (r : List V → Hp → VK → Prop) (M : Mem) (ds : List D) (z : D) : Prop := ∀ (vs : List V) (H H0 : Hp), Ht K H0 H M → RepA K H0 vs ds → ∀ (Q : VK), (∀ w H' H0', Pu H0 H H0' H' → Rep K H0' w z → Q w H') → r vs H Q
theorem dv_callB {id : String} {x : Str} {p : Pos} {r : List V → Hp → VK → Prop} {ds : List D} {z : D} (n : Bn X x (.builtin id)) (hc : CallR X (.builtin id) r) (hr : RCD X.K r M ds z) (ha : DA X kx (e :: es) ρ M ds)
    (he : starEach (e :: es) X.env = (false, eval e X.env) :: starEach es X.env := by rfl) (hpl : (backTo pos (starEach es X.env)).any (·.1) = false := by rfl) : DV X kx (.Call (.Name x p) (e :: es) [] pos) ρ M z := fun σ H H0 t s W tk hx Q q =>
  sE.by (pe_callB hc n.gl n.mg n.bt (pa_s _) n.n n.d he hpl) (ha σ H H0 t s W tk hx _ fun vs H1 H01 p1 r1 => hr vs H1 H01 (t.pu p1) r1 Q fun w H2 H02 p2 r2 => q w H2 H02 (p1.trans p2) r2)
theorem dv_callT {T : String} {x : Str} {p : Pos} {r : List V → Hp → VK → Prop} {ds : List D} {z : D} (n : Bn X x (.type T)) (hc : CallR X (.type T) r) (hr : RCD X.K r M ds z) (ha : DA X kx (e :: es) ρ M ds)
    (he : starEach (e :: es) X.env = (false, eval e X.env) :: starEach es X.env := by rfl) (hpl : (backTo pos (starEach es X.env)).any (·.1) = false := by rfl) : DV X kx (.Call (.Name x p) (e :: es) [] pos) ρ M z := fun σ H H0 t s W tk hx Q q =>
  sE.by (pe_callTy hc n.gl n.mg n.bt (pa_s _) n.n n.d he hpl) (ha σ H H0 t s W tk hx _ fun vs H1 H01 p1 r1 => hr vs H1 H01 (t.pu p1) r1 Q fun w H2 H02 p2 r2 => q w H2 H02 (p1.trans p2) r2)
theorem dv_bn {x : Str} {T : String} (n : Bn X x (.type T)) : DV X kx (.Name x pos) ρ M (.ty T) := fun σ H H0 t s W tk hx Q q =>
  sE.by (pe_bltn n.gl n.mg n.bt (v := .ty T) rfl n.n n.d) (q _ H H0 (Pu.refl t.ex) (.ty T))
theorem repA1 {K : Frag} {H : Hp} {vs : List V} {d : D} (r : RepA K H vs [d]) : ∃ v, vs = [v] ∧ Rep K H v d := by
  cases r with
  | cons a b => cases b; exact ⟨_, rfl, a⟩
theorem repA2 {K : Frag} {H : Hp} {vs : List V} {d d' : D} (r : RepA K H vs [d, d']) : ∃ v v', vs = [v, v'] ∧ Rep K H v d ∧ Rep K H v' d' := by
  cases r with
  | cons a b =>
    obtain ⟨v, rfl, r⟩ := repA1 b
    exact ⟨_, _, rfl, a, r⟩
/-- a thing of things in a row: a list, a tuple, a list that may change -/
inductive Seq (M : Mem) : D → List D → Prop
  | lst (ds : List D) : Seq M (.lst ds) ds
  | scr (ds : List D) : Seq M (.scr ds) ds
  | tup (ds : List D) : Seq M (.tup ds) ds
  | adr {p : Addr} {ds : List D} : (p, Mu.lst ds) ∈ M → Seq M (.adr p) ds
theorem Seq.rep {x : D} {ds : List D} {v : V} {H H0 : Hp} (h : Seq M x ds) (t : Ht X.K H0 H M) (r : Rep X.K H0 v x) : ∃ p vs, v = .ref p ∧ (SqL X.K H p vs ∨ SqT X.K H p vs) ∧ RepA X.K H0 vs ds := by
  cases h with
  | lst ds => cases r with | lst a b => exact ⟨_, _, rfl, .inl (SqL.of (t.ex _ _ a)), b⟩
  | scr ds => cases r with | scr a b => exact ⟨_, _, rfl, .inl (t.ex.seq a), b⟩
  | tup ds => cases r with | tup a b => exact ⟨_, _, rfl, .inr (SqT.of (t.ex _ _ a)), b⟩
  | adr hm =>
    cases r
    obtain ⟨_, vs, h1, h2⟩ := t.mem _ hm
    exact ⟨_, vs, rfl, .inl (SqL.of h1), h2⟩
variable {p : Pos}
theorem dv_len {ds : List D} {f : Str} (n : Bn X f (.builtin "len")) (ha : DV X kx e ρ M x) (h : Seq M x ds) (he : starEach [e] X.env = (false, eval e X.env) :: starEach [] X.env := by rfl) : DV X kx (.Call (.Name f p) [e] [] pos) ρ M (.int (ds.length : Int)) :=
  dv_callB n call_len_seq (fun vs H H0 t r Q q => by
    obtain ⟨v, rfl, r1⟩ := repA1 r
    obtain ⟨p, vs, rfl, h1, h2⟩ := h.rep t r1
    exact ⟨p, vs, rfl, h1, by rw [h2.length]; exact q _ H H0 (Pu.refl t.ex) (.int _)⟩) (da_cons ha da_nil he) he
theorem dv_lenS {z : Str} {f : Str} (n : Bn X f (.builtin "len")) (ha : DV X kx e ρ M (.str z)) (h : z.length ≤ sizeLine) (he : starEach [e] X.env = (false, eval e X.env) :: starEach [] X.env := by rfl) : DV X kx (.Call (.Name f p) [e] [] pos) ρ M (.int (z.length : Int)) :=
  dv_callB n call_len_str (fun vs H H0 t r Q q => by
    obtain ⟨v, rfl, r1⟩ := repA1 r
    cases r1
    exact ⟨z, rfl, h, q _ H H0 (Pu.refl t.ex) (.int _)⟩) (da_cons ha da_nil he) he
/-- list(xs): a new list that never changes | that may -/
theorem dv_list {ds : List D} {f : Str} (n : Bn X f (.type "list")) (ha : DV X kx e ρ M x) (h : Seq M x ds) (he : starEach [e] X.env = (false, eval e X.env) :: starEach [] X.env := by rfl) : DV X kx (.Call (.Name f p) [e] [] pos) ρ M (.lst ds) :=
  dv_callT n call_list_of (fun vs H H0 t r Q q => by
    obtain ⟨v, rfl, r1⟩ := repA1 r
    obtain ⟨p, vs, rfl, h1, h2⟩ := h.rep t r1
    exact ⟨p, vs, rfl, h1, fun w hw => let g := Pu.new1 t.ex hw (.lst vs); q _ _ _ g (.lst upd_same (h2.mo g.e0))⟩) (da_cons ha da_nil he) he
theorem de_list {ds : List D} {f : Str} {k : D → Mem → Prop} (n : Bn X f (.type "list")) (ha : DV X kx e ρ M x) (h : Seq M x ds) (hk : ∀ w, w ∉ M.dom → k (.adr w) ((w, .lst ds) :: M)) (he : starEach [e] X.env = (false, eval e X.env) :: starEach [] X.env := by rfl) :
    DE X kx (.Call (.Name f p) [e] [] pos) ρ M k := fun σ H H0 t s W tk hx Q q =>
  sE.by (pe_callTy call_list_of n.gl n.mg n.bt (pa_s [e]) n.n n.d he) ((da_cons ha da_nil he : DA X kx [e] ρ M [x]) σ H H0 t s W tk hx _ fun vs H1 H01 p1 r1 => by
    obtain ⟨v, rfl, r2⟩ := repA1 r1
    obtain ⟨p, vs, rfl, h1, h2⟩ := h.rep (t.pu p1) r2
    exact ⟨p, vs, rfl, h1, fun w hw => q (.ref w) _ H01 _ _ (p1.go.trans (Go.new1 hw (.lst vs))) ((t.pu p1).new1 (m := .lst ds) hw fun H2 e2 => ⟨vs, e2, h2⟩) (.adr w) (hk w ((t.pu p1).free hw).2)⟩)
theorem dv_max2 {i j : Int} {f : Str} (hc : X.calm = true) (n : Bn X f (.builtin "max")) (ha : DV X kx a ρ M (.int i)) (hb : DV X kx b ρ M (.int j)) (he : starEach [a, b] X.env = (false, eval a X.env) :: starEach [b] X.env := by rfl) (he2 : starEach [b] X.env = (false, eval b X.env) :: starEach [] X.env := by rfl)
    (hpl : (backTo pos (starEach [b] X.env)).any (·.1) = false := by rfl) : DV X kx (.Call (.Name f p) [a, b] [] pos) ρ M (.int (max i j)) :=
  dv_callB n (call_max2 hc) (fun vs H H0 t r Q q => by
    obtain ⟨v, u, rfl, r1, r2⟩ := repA2 r
    cases r1; cases r2
    refine ⟨i, j, rfl, ?_⟩
    have e : (if j > i then j else i) = max i j := by split <;> omega
    rw [e]
    exact q _ H H0 (Pu.refl t.ex) (.int _)) (da_cons ha (da_cons hb da_nil he2) he) he hpl
theorem dv_min2 {i j : Int} {f : Str} (hc : X.calm = true) (n : Bn X f (.builtin "min")) (ha : DV X kx a ρ M (.int i)) (hb : DV X kx b ρ M (.int j)) (he : starEach [a, b] X.env = (false, eval a X.env) :: starEach [b] X.env := by rfl) (he2 : starEach [b] X.env = (false, eval b X.env) :: starEach [] X.env := by rfl)
    (hpl : (backTo pos (starEach [b] X.env)).any (·.1) = false := by rfl) : DV X kx (.Call (.Name f p) [a, b] [] pos) ρ M (.int (min i j)) :=
  dv_callB n (call_min2 hc) (fun vs H H0 t r Q q => by
    obtain ⟨v, u, rfl, r1, r2⟩ := repA2 r
    cases r1; cases r2
    refine ⟨i, j, rfl, ?_⟩
    have e : (if j < i then j else i) = min i j := by split <;> omega
    rw [e]
    exact q _ H H0 (Pu.refl t.ex) (.int _)) (da_cons ha (da_cons hb da_nil he2) he) he hpl
theorem SeqL.seq {ds : List D} (h : SeqL M x ds) : Seq M x ds := by
  cases h with
  | lst ds => exact .lst ds
  | scr ds => exact .scr ds
  | adr h => exact .adr h
theorem dv_all {bs : List Bool} {f : Str} (hc : X.calm = true) (n : Bn X f (.builtin "all")) (ha : DV X kx e ρ M x) (h : SeqL M x (bs.map D.bl)) (he : starEach [e] X.env = (false, eval e X.env) :: starEach [] X.env := by rfl) : DV X kx (.Call (.Name f p) [e] [] pos) ρ M (.bl (bs.all id)) :=
  dv_callB n (cr_all hc) (fun vs H H0 t r Q q => by
    obtain ⟨v, rfl, r1⟩ := repA1 r
    obtain ⟨p, vs, rfl, h1, h2⟩ := h.rep t r1
    have e := h2.bls
    subst e
    exact ⟨p, bs, rfl, h1, q _ H H0 (Pu.refl t.ex) (.bl _)⟩) (da_cons ha da_nil he) he
/-! isinstance of data, built-in classes -/
inductive TyN (M : Mem) : D → String → Prop
  | non : TyN M .non "NoneType"
  | bl (b : Bool) : TyN M (.bl b) "bool"
  | int (i : Int) : TyN M (.int i) "int"
  | str (s : Str) : TyN M (.str s) "str"
  | lst (ds : List D) : TyN M (.lst ds) "list"
  | scr (ds : List D) : TyN M (.scr ds) "list"
  | tup (ds : List D) : TyN M (.tup ds) "tuple"
  | adr {p : Addr} {ds : List D} : (p, Mu.lst ds) ∈ M → TyN M (.adr p) "list"
theorem tyx_L {K : Frag} {H : Hp} {a : Addr} {xs : List V} (h : SqL K H a xs) : TyX K H (.ref a) (.type "list") := by
  rcases h with (h | ⟨o, h⟩) | ⟨o, its, n, h1, h2, _⟩
  · exact .base (.lst h)
  · exact .base (.frz h)
  · exact .kList h1 h2
theorem tyx_T {K : Frag} {H : Hp} {a : Addr} {xs : List V} (h : SqT K H a xs) : TyX K H (.ref a) (.type "tuple") := by
  rcases h with (h | ⟨o, h⟩) | ⟨o, its, n, h1, h2, _⟩
  · exact .base (.tup h)
  · exact .fTuple h
  · exact .kTuple h1 h2
theorem TyN.tyx {T : String} {v : V} {H H0 : Hp} (h : TyN M x T) (t : Ht X.K H0 H M) (r : Rep X.K H0 v x) : TyX X.K H v (.type T) := by
  cases h with
  | non => cases r; exact .base .non
  | bl b => cases r; exact .base (.bl b)
  | int b => cases r; exact .base (.int b)
  | str b => cases r; exact .base (.str b)
  | lst ds => cases r with | lst a b => exact .base (.lst (t.ex _ _ a))
  | scr ds => cases r with | scr a b => exact tyx_L (t.ex.seq a)
  | tup ds => cases r with | tup a b => exact tyx_T (SqT.of (t.ex _ _ a))
  | adr hm =>
    cases r
    obtain ⟨_, vs, h1, h2⟩ := t.mem _ hm
    exact .base (.lst h1)
theorem dv_isi {T S : String} {f g : Str} {p2 : Pos} {k : Bool} (n : Bn X f (.builtin "isinstance")) (n2 : Bn X g (.type S)) (ha : DV X kx a ρ M x) (h : TyN M x T) (hk : kitB T S = some k)
    (he : starEach [a, .Name g p2] X.env = (false, eval a X.env) :: starEach [.Name g p2] X.env := by rfl) : DV X kx (.Call (.Name f p) [a, .Name g p2] [] pos) ρ M (.bl k) :=
  dv_callB n call_isi (fun vs H H0 t r Q q => by
    obtain ⟨v, u, rfl, r1, r2⟩ := repA2 r
    cases r2
    exact ⟨v, .ty S, .type T, .type S, k, rfl, .ty S, h.tyx t r1, kit_ty hk, q _ H H0 (Pu.refl t.ex) (.bl _)⟩) (da_cons ha (da_cons (dv_bn n2) da_nil) he) he
end
end Dl

namespace Dl
open PySem PySem.Spec PyProof.Rows L2
/-! ### where one stands -/
structure Bd (X : Cx) (N : List Str) (sc : Scope) (k : Nat) : Prop where
  hN : X.N = N
  hnd : N.Nodup
  hsc : X.env.scope = sc
  calm : X.calm = true
  room : Room k X.A
  po : PassesOwn (model X.prog X.w) X.A X.env X.xe
structure Bf (X : Cx) : Prop where
  fn : ∀ x, X.fn x = true
  stk : X.stack = X.env :: X.outer
  fr : X.env.frame = some X.env.locals
section
variable {X : Cx} {N : List Str} {sc : Scope} {k : Nat}
theorem Bd.hu (B : Bd X N sc k) : X.A.units + 64 < cLine := B.room.units
theorem Bd.nm (B : Bd X N sc k) {i : Nat} {x : Str} (h : N[i]? = some x) (v : Vis sc x) (d1 : (x == ("__debug__" : Str)) = false := by decide) (d2 : (x == ("__classdict__" : Str)) = false := by decide) : Nm X i x :=
  ⟨by rw [B.hN]; exact h, by rw [B.hsc]; exact v, d1, d2⟩
theorem Bd.ns (B : Bd X N sc k) {i : Nat} {x : Str} (h : N[i]? = some x) (v : sc.names.lookup x = some .local) (d1 : (x == ("__debug__" : Str)) = false := by decide) (d2 : (x == ("__classdict__" : Str)) = false := by decide) : Ns X i x :=
  { B.nm h (.inl v) d1 d2 with nd := by rw [B.hN]; exact B.hnd, loc := by rw [B.hsc]; exact .inl v, fn := .inr (by rw [B.hsc]; exact v) }
theorem Bd.nc (B : Bd X N sc k) (F : Bf X) {i : Nat} {x : Str} (h : N[i]? = some x) (v : sc.names.lookup x = some .cell) (d1 : (x == ("__debug__" : Str)) = false := by decide) (d2 : (x == ("__classdict__" : Str)) = false := by decide) : Ns X i x :=
  { B.nm h (.inr (.inl v)) d1 d2 with nd := by rw [B.hN]; exact B.hnd, loc := by rw [B.hsc]; exact .inr v, fn := .inl (F.fn x) }
theorem Bd.gl (B : Bd X N sc k) {x : Str} (h : sc.names.lookup x = some .globalImplicit) : Gl X x := by
  show X.env.scope.names.lookup x = some .globalImplicit
  rw [B.hsc]; exact h
theorem Bd.bn (B : Bd X N sc k) {x : Str} {u : Value} (h : sc.names.lookup x = some .globalImplicit) (m : X.mg x = none) (b : bootBuiltins x = some u) (n : x ≠ "__name__" := by decide) (d : (x == ("__debug__" : Str)) = false := by decide) : Bn X x u :=
  ⟨B.gl h, m, b, n, d⟩
end
/-! ### what is walked -/
section
variable {X : Cx} {kx : XD} {ρ ρ' ρ'' : Ro} {M M' : Mem} {P : Out → Mem → Prop} {pos p : Pos} {tg a b c e : Expr} {es : List Expr} {x y z : D}
theorem wk_same {K : Frag} {J : It} {H0 : Hp} {ds : List D} {vs : List V} {G : Hp → Prop} (r : RepA K H0 vs ds) (hG : ∀ H, Same H0 H → G H) (w : Walk J vs.length G (YAt vs)) : WkD K J H0 ds :=
  ⟨G, YAt vs, by rw [← r.length]; exact w, hG, fun i H1 x H2 H01 d e0 e1 hd y => by
    obtain ⟨rfl, hx⟩ := y
    obtain ⟨v, hv, rv⟩ := r.get hd
    rw [hx] at hv; cases hv
    exact ⟨H01, Pu.refl e1, rv.mo e0⟩⟩
theorem di_list {ds : List D} (h : DV X kx e ρ M (.lst ds)) : DI X kx tg e ρ M ds := fun σ H H0 t s W tk hx R q =>
  sI.by (pi_list (pe_s e)) (h σ H H0 t s W tk hx _ fun v H' H0' p r => by
    cases r with
    | @lst a xs _ c d => exact ⟨a, rfl, ⟨xs, SqL.of (p.ex _ _ c)⟩, q _ H' H0' p (wk_same d (fun H e => SqL.of (e _ _ c)) walk_list)⟩)
theorem di_scr {ds : List D} (h : DV X kx e ρ M (.scr ds)) : DI X kx tg e ρ M ds := fun σ H H0 t s W tk hx R q =>
  sI.by (pi_list (pe_s e)) (h σ H H0 t s W tk hx _ fun v H' H0' p r => by
    cases r with
    | @scr a xs _ c d => exact ⟨a, rfl, ⟨xs, p.ex.seq c⟩, q _ H' H0' p (wk_same d (fun H e => e.seq c) walk_list)⟩)
/-- the numbers from lo on, n of them -/
def rngD (lo : Int) (n : Nat) : List Int := (List.range n).map fun i => lo + (i : Nat)
theorem rngD_length (lo : Int) (n : Nat) : (rngD lo n).length = n := by simp [rngD]
theorem rngD_get {lo : Int} {n i : Nat} {j : Int} (h : (rngD lo n)[i]? = some j) : i < n ∧ j = lo + (i : Nat) := by
  obtain ⟨h1, h2⟩ := List.getElem?_eq_some_iff.mp h
  rw [rngD_length] at h1
  refine ⟨h1, ?_⟩
  rw [← h2]
  simp [rngD]
theorem wk_range {K : Frag} {H0 : Hp} {lo : Int} {n : Nat} : WkD K (Itr lo n) H0 ((rngD lo n).map D.int) :=
  ⟨fun _ => True, _, by rw [List.length_map, rngD_length]; exact walk_range, fun _ _ => trivial, fun i H1 x H2 H01 d e0 e1 hd y => by
    obtain ⟨rfl, rfl⟩ := y
    rw [List.getElem?_map] at hd
    cases q : (rngD lo n)[i]? with
    | none => rw [q] at hd; cases hd
    | some j =>
      rw [q] at hd
      obtain ⟨_, rfl⟩ := rngD_get q
      cases hd
      exact ⟨H01, Pu.refl e1, .int _⟩⟩
theorem di_range1 {n : Int} (hg : Bn X "range" (.type "range")) (h : DV X kx e ρ M (.int n)) (h1 : -(2 ^ 62) ≤ n) (h2 : n < 2 ^ 62) (hs : starEach [e] X.env = [(false, eval e X.env)] := by rfl) : DI X kx tg (.Call (.Name "range" p) [e] [] pos) ρ M ((rngD 0 n.toNat).map D.int) := fun σ H H0 t s W tk hx R q =>
  sI.by (pi_range1 hg.gl hg.mg (pa_s [e]) hs) ((da_cons h da_nil hs : DA X kx [e] ρ M [.int n]) σ H H0 t s W tk hx _ fun vs H' H0' p r => by
    obtain ⟨v, rfl, r1⟩ := repA1 r
    cases r1
    exact ⟨n, rfl, h1, h2, q _ H' H0' p wk_range⟩)
/-- pairs that are made while they are walked -/
theorem wk_pair {K : Frag} {J : It} {H0 : Hp} {n : Nat} {ds : List (D × D)} {xs ys : Nat → Option V} {G : Hp → Prop} (hG : ∀ H, Same H0 H → G H) (w : Walk J n G (YPair xs ys)) (hn : ds.length = n)
    (h : ∀ i d v u, ds[i]? = some d → xs i = some v → ys i = some u → Rep K H0 v d.1 ∧ Rep K H0 u d.2) : WkD K J H0 (ds.map fun q => .tup [q.1, q.2]) :=
  ⟨G, _, by rw [List.length_map, hn]; exact w, hG, fun i H1 x H2 H01 d e0 e1 hd y => by
    obtain ⟨T, v, u, rfl, nT, rfl, h1, h2⟩ := y
    rw [List.getElem?_map] at hd
    cases q : ds[i]? with
    | none => rw [q] at hd; cases hd
    | some dd =>
      rw [q] at hd
      obtain ⟨r1, r2⟩ := h i dd v u q h1 h2
      cases hd
      have g := Pu.new1 e1 nT (.tup [v, u])
      exact ⟨_, g, .tup upd_same (.cons (r1.mo (e0.trans g.e0)) (.cons (r2.mo (e0.trans g.e0)) .nil))⟩⟩
theorem zip_get {α β : Type} : ∀ {xs : List α} {ys : List β} {i : Nat} {d : α × β}, (xs.zip ys)[i]? = some d → xs[i]? = some d.1 ∧ ys[i]? = some d.2
  | [], _, _, _, h => by simp at h
  | _ :: _, [], _, _, h => by simp at h
  | x :: xs, y :: ys, 0, d, h => by
    simp at h; subst h; exact ⟨rfl, rfl⟩
  | x :: xs, y :: ys, i + 1, d, h => by
    simp only [List.zip_cons_cons, List.getElem?_cons_succ] at h ⊢
    exact zip_get h
theorem di_zip {ds us : List D} {elts : List Expr} {kk : Nat} {tpos : Pos} (hg : Bn X "zip" (.type "zip")) (ha : DV X kx a ρ M (.lst ds)) (hb : DV X kx b ρ M (.lst us))
    (hs : starEach [a, b] X.env = (false, eval a X.env) :: starEach [b] X.env := by rfl) (hs2 : starEach [b] X.env = (false, eval b X.env) :: starEach [] X.env := by rfl) : DI X kx (.Tuple elts kk tpos) (.Call (.Name "zip" p) [a, b] [] pos) ρ M ((ds.zip us).map fun q => .tup [q.1, q.2]) := fun σ H H0 t s W tk hx R q =>
  sI.by (pi_zip hg.gl hg.mg (pa_s [a, b]) hs (by rw [hs2]; rfl)) ((da_cons ha (da_cons hb da_nil hs2) hs : DA X kx [a, b] ρ M [.lst ds, .lst us]) σ H H0 t s W tk hx _ fun vs H' H0' p r => by
    obtain ⟨v, u, rfl, r1, r2⟩ := repA2 r
    cases r1 with
    | @lst a1 xs _ c1 d1 =>
      cases r2 with
      | @lst a2 ys _ c2 d2 =>
        refine ⟨a1, a2, xs, ys, rfl, SqL.of (p.ex _ _ c1), SqL.of (p.ex _ _ c2), q _ H' H0' p (wk_pair (G := fun H => SqL X.K H a1 xs ∧ SqL X.K H a2 ys) (fun H e => ⟨SqL.of (e _ _ c1), SqL.of (e _ _ c2)⟩) (walk_zip rfl) (by rw [List.length_zip, d1.length, d2.length]) fun i d v u hd hv hu => ?_)⟩
        obtain ⟨g1, g2⟩ := zip_get hd
        obtain ⟨v', e1, f1⟩ := d1.get g1
        obtain ⟨u', e2, f2⟩ := d2.get g2
        rw [hv] at e1; cases e1
        rw [hu] at e2; cases e2
        exact ⟨f1, f2⟩)
theorem di_zipM {α β : Type} {xs : List α} {ys : List β} {f : α → D} {g : β → D} {elts : List Expr} {kk : Nat} {tpos : Pos} (hg : Bn X "zip" (.type "zip")) (ha : DV X kx a ρ M (.lst (xs.map f))) (hb : DV X kx b ρ M (.lst (ys.map g)))
    (hs : starEach [a, b] X.env = (false, eval a X.env) :: starEach [b] X.env := by rfl) (hs2 : starEach [b] X.env = (false, eval b X.env) :: starEach [] X.env := by rfl) : DI X kx (.Tuple elts kk tpos) (.Call (.Name "zip" p) [a, b] [] pos) ρ M ((xs.zip ys).map fun q => .tup [f q.1, g q.2]) := by
  have h := di_zip (elts := elts) (kk := kk) (tpos := tpos) (p := p) (pos := pos) hg ha hb hs hs2
  have e : ((xs.map f).zip (ys.map g)).map (fun q => D.tup [q.1, q.2]) = (xs.zip ys).map fun q => .tup [f q.1, g q.2] := by
    rw [List.zip_map, List.map_map]; rfl
  rw [← e]
  exact h
/-! ### for -/
def forP (Inv : Nat → Ro → Mem → Prop) (i : Nat) (P : Out → Mem → Prop) : Out → Mem → Prop
  | .nx ρ, M => Inv (i + 1) ρ M
  | .ct ρ, M => Inv (i + 1) ρ M
  | .bk ρ, M => P (.nx ρ) M
  | .rt d, M => P (.rt d) M
theorem ds1_for {N : List Str} {sc : Scope} {k : Nat} {body : List Stmt} {ds : List D} (B : Bd X N sc k) (Inv : Nat → Ro → Mem → Prop) (hi : DI X kx tg e ρ M ds) (h0 : Inv 0 ρ M)
    (hs : ∀ (i : Nat) d ρ1 M1, ds[i]? = some d → Inv i ρ1 M1 → ∃ ts ρ2, DG X tg ts d ρ1 ρ2 ∧ DS X kx body ρ2 M1 (forP Inv i P)) (hd : ∀ ρ1 M1, Inv ds.length ρ1 M1 → P (.nx ρ1) M1)
    (hf : ∀ x, foldedSetIterable e X.env x = pure x := by intro _; rfl) : DS1 X kx (.For tg e body [] pos) ρ M P := fun σ H H0 t s W tk hx D cn =>
  sS.by (ps_for B.po B.calm (pi_s tg e) (pg_s tg) (pss_s body) hf) (hi σ H H0 t s W tk hx _ fun J HJ H0J pJ w => by
    obtain ⟨G, Y, w, hG, hY⟩ := w
    have tJ := t.pu pJ
    refine for_it w (fun i σ' H' => ∃ H0' ρ' M', Go H0J HJ M H0' H' M' ∧ Ht X.K H0' H' M' ∧ Sl X.K H0' σ' ρ' ∧ Inv i ρ' M') ⟨H0J, ρ, M, Go.refl, tJ, s.mo pJ.e0, h0⟩ (fun i σ' H' _ ⟨H0', ρ', M', g, t', _, _⟩ => hG H' (g.e0.trans t'.ex)) ?_ ?_
    · rintro i x σ1 H1 H2 hi ⟨H01, ρ1, M1, g1, t1, s1, inv⟩ y
      have hdd : ds[i]? = some ds[i] := List.getElem?_eq_getElem hi
      obtain ⟨H02, p2, r2⟩ := hY i H1 x H2 H01 _ g1.e0 t1.ex hdd y
      obtain ⟨ts, ρ2, hg, hb⟩ := hs i _ ρ1 M1 hdd inv
      have t2 := t1.pu p2
      have g2 := pJ.go.trans (g1.trans p2.go)
      refine hg σ1 H2 H02 x t2.ex (s1.mo p2.e0) r2 _ fun σ2 s2 _ => hb σ2 H2 H02 t2 s2 W tk (hx.step g2) _ ?_
      have gJ := g1.trans p2.go
      exact ⟨fun σ' H' H0' ρ' M' g t' s' q => ⟨H0', ρ', M', gJ.trans g, t', s', q⟩, fun σ' H' H0' ρ' M' g t' s' q => cn.nx σ' H' H0' ρ' M' (g2.trans g) t' s' q,
        fun σ' H' H0' ρ' M' g t' s' q => ⟨H0', ρ', M', gJ.trans g, t', s', q⟩, fun v H' H0' d M' g t' r q => cn.rt v H' H0' d M' (g2.trans g) t' r q⟩
    · rintro σ1 H1 ⟨H01, ρ1, M1, g1, t1, s1, inv⟩
      exact cn.nx σ1 H1 H01 ρ1 M1 (pJ.go.trans g1) t1 s1 (hd ρ1 M1 inv))
/-- a walk over typed things -/
theorem ds1_forT {α : Type} {xs : List α} {enc : α → D} {N : List Str} {sc : Scope} {k : Nat} {body : List Stmt} (B : Bd X N sc k) (Inv : Nat → Ro → Mem → Prop) (hi : DI X kx tg e ρ M (xs.map enc)) (h0 : Inv 0 ρ M)
    (hs : ∀ (i : Nat) x ρ1 M1, xs[i]? = some x → Inv i ρ1 M1 → ∃ ts ρ2, DG X tg ts (enc x) ρ1 ρ2 ∧ DS X kx body ρ2 M1 (forP Inv i P)) (hd : ∀ ρ1 M1, Inv xs.length ρ1 M1 → P (.nx ρ1) M1)
    (hf : ∀ x, foldedSetIterable e X.env x = pure x := by intro _; rfl) : DS1 X kx (.For tg e body [] pos) ρ M P :=
  ds1_for B Inv hi h0 (fun i d ρ1 M1 h inv => by
    rw [List.getElem?_map] at h
    cases q : xs[i]? with
    | none => rw [q] at h; cases h
    | some x =>
      rw [q] at h
      cases h
      exact hs i x ρ1 M1 q inv) (fun ρ1 M1 inv => hd ρ1 M1 (by rw [List.length_map] at inv; exact inv)) hf
/-- slots forgotten, place by place -/
def FgtL : Ro → Ro → Prop
  | [], [] => True
  | x :: xs, y :: ys => (y = none ∨ x = y) ∧ FgtL xs ys
  | _, _ => False
theorem FgtL.fgt : ∀ {ρ ρ' : Ro}, FgtL ρ ρ' → Fgt ρ ρ'
  | [], [], _ => ⟨rfl, fun i d h => by simp at h⟩
  | x :: xs, y :: ys, ⟨h, r⟩ => by
    obtain ⟨h1, h2⟩ := FgtL.fgt r
    refine ⟨by rw [List.length_cons, List.length_cons, h1], fun i d e => ?_⟩
    cases i with
    | zero =>
      rcases h with h | h
      · subst h; simp at e
      · subst h; exact e
    | succ i => exact h2 i d (by simpa using e)
  | [], _ :: _, h => h.elim
  | _ :: _, [], h => h.elim
/-- a loop that carries a state: the slots R, what may change Mf -/
def foldP {β : Type} (R : β → Ro) (Mf : β → Mem) (J : Nat → β → Prop) (i : Nat) (st : β) (P : Out → Mem → Prop) : Out → Mem → Prop
  | .nx ρ, M => FgtL ρ (R st) ∧ M = Mf st ∧ J (i + 1) st
  | .ct ρ, M => FgtL ρ (R st) ∧ M = Mf st ∧ J (i + 1) st
  | .bk ρ, M => P (.nx ρ) M
  | .rt d, M => P (.rt d) M
theorem then_fgt {rest : List Stmt} : ∀ ρ1 ρ2 M1, Fgt ρ1 ρ2 → thenP X kx rest P (.nx ρ2) M1 → thenP X kx rest P (.nx ρ1) M1 := fun ρ1 ρ2 M1 f h => DS.fgt h f
/-! ### while -/
def whP (Inv : Nat → Ro → Mem → Prop) (m : Nat) (P : Out → Mem → Prop) : Out → Mem → Prop
  | .nx ρ, M => ∃ m', m' < m ∧ Inv m' ρ M
  | .ct ρ, M => ∃ m', m' < m ∧ Inv m' ρ M
  | .bk ρ, M => P (.nx ρ) M
  | .rt d, M => P (.rt d) M
/-! ### comprehensions -/
theorem dts_nil : DTs X kx [] ρ M true := fun σ H H0 t s W tk hx Q q => sTs.by pts_nil (q H H0 (Pu.refl t.ex))
theorem dts_one {k : Bool} (h : DT X kx c ρ M k) : DTs X kx [c] ρ M k := fun σ H H0 t s W tk hx Q q => sTs.by (pts_one (pt_s c)) (h σ H H0 t s W tk hx Q q)
def wipeD (ρ : Ro) : List Nat → Ro
  | [] => ρ
  | v :: vs => (wipeD ρ vs).set v none
theorem Sl.clr {K : Frag} {H0 : Hp} {σ : L2.St} {ρ : Ro} (h : Sl K H0 σ ρ) (i : Nat) : Sl K H0 (σ.set i none) (ρ.set i none) := by
  refine ⟨by rw [List.length_set, List.length_set]; exact h.1, fun j d' e => ?_⟩
  by_cases hj : i = j
  · subst hj
    by_cases hi : i < ρ.length
    · rw [List.getElem?_set_self hi] at e; cases e
    · rw [List.getElem?_eq_none (by rw [List.length_set]; omega)] at e; cases e
  · rw [List.getElem?_set_ne hj] at e ⊢
    exact h.2 j d' e
theorem Sl.wipe {K : Frag} {H0 : Hp} {σ : L2.St} {ρ : Ro} (h : Sl K H0 σ ρ) : ∀ vs, Sl K H0 (L2.wipe σ vs) (wipeD ρ vs)
  | [] => h
  | v :: vs => (Sl.wipe h vs).clr v
theorem takesN {X : Cx} : Takes X (fun _ _ _ _ => False) := fun _ _ x => by
  obtain ⟨_, _, _, _, _, _, _, _, _, _, _, _, _, _, _, _, z⟩ := x
  exact z.elim
/-- a block's own place -/
abbrev Cx.bk (X : Cx) (csc : Scope) (s : Shared) (H : Hp) (C : Addr) (cl : List (Str × Addr)) (fp : List Addr) : Cx := X.blk s H csc (compEnvC csc cl C X.env) fp
theorem Bd.blk {N : List Str} {sc csc : Scope} {k : Nat} (B : Bd X N sc k) (s : Shared) (H : Hp) (C : Addr) (cl : List (Str × Addr)) (fp : List Addr) : Bd (Cx.bk X csc s H C cl fp) N (relS csc sc) k where
  hN := B.hN
  hnd := B.hnd
  hsc := by
    rw [← B.hsc]
    rfl
  calm := B.calm
  room := B.room
  po := PassesOwn.never
theorem wipe_wipe (σ : L2.St) (vs : List Nat) : L2.wipe (L2.wipe σ vs) vs = L2.wipe σ vs := by
  refine List.ext_getElem? fun j => ?_
  rw [wipe_at, wipe_at, wipe_length]
  by_cases hj : j ∈ vs ∧ j < σ.length
  · rw [if_pos hj, if_pos hj]
  · rw [if_neg hj]
def uG (X : Cx) (csc : Scope) (tg : Expr) : TG := fun v σ H Q => ∀ s H' C cl fp, sG (Cx.bk X csc s H' C cl fp) tg v σ H Q
def uT (X : Cx) (csc : Scope) (ifs : List Expr) : TT := fun σ H Q => ∀ s H' C cl fp, sTs (Cx.bk X csc s H' C cl fp) ifs σ H Q
def uE (X : Cx) (csc : Scope) (elt : Expr) : TE := fun σ H Q => ∀ s H' C cl fp, sE (Cx.bk X csc s H' C cl fp) elt σ H Q
section
variable {α : Type} {N : List Str} {sc csc : Scope} {k : Nat}
def outs (xs : List α) (cnd : α → Bool) (f : α → D) : List D := (xs.filter cnd).map f
theorem outs_yes {xs : List α} {cnd : α → Bool} {f : α → D} {i : Nat} {x : α} (h : xs[i]? = some x) (hc : cnd x = true) : outs (xs.take (i + 1)) cnd f = outs (xs.take i) cnd f ++ [f x] := by
  unfold outs
  rw [List.take_add_one, h, Option.toList_some, List.filter_append, List.map_append, List.filter_cons, if_pos hc] <;> rfl
theorem outs_no {xs : List α} {cnd : α → Bool} {f : α → D} {i : Nat} {x : α} (h : xs[i]? = some x) (hc : cnd x = false) : outs (xs.take (i + 1)) cnd f = outs (xs.take i) cnd f := by
  unfold outs
  rw [List.take_add_one, h, Option.toList_some, List.filter_append, List.map_append, List.filter_cons, if_neg (by rw [hc]; decide)]
  show _ ++ [] = _
  rw [List.append_nil]
theorem outs_len (xs : List α) (cnd : α → Bool) (f : α → D) : (outs xs cnd f).length ≤ xs.length := by
  unfold outs
  rw [List.length_map]
  exact List.length_filter_le _ _
/-- what a clause does, for every place it may stand at -/
def LcB (X : Cx) (N : List Str) (sc csc : Scope) (k : Nat) (own : List (Str × Nat)) (tg elt : Expr) (ifs : List Expr) (ρ : Ro) (M : Mem) (d : D) (b : Bool) (z : D) : Prop :=
  ∃ ts ρ2, (∀ i ∈ ts, i ∈ own.map (·.2)) ∧ ∀ s H C cl fp w acc, Bd (Cx.bk X csc s H C cl fp) N (relS csc sc) k → DG (Cx.bk X csc s H C cl fp) tg ts d (wipeD ρ (own.map (·.2))) ρ2 ∧ DTs (Cx.bk X csc s H C cl fp) kx0 ifs ρ2 ((w, .lst acc) :: M) b ∧
    (b = true → DV (Cx.bk X csc s H C cl fp) kx0 elt ρ2 ((w, .lst acc) :: M) z)
/-- the reading of a block, uniform -/
theorem lc_read {own : List (Str × Nat)} {elt : Expr} {ifs : List Expr} {xs : List α} {enc : α → D} {cnd : α → Bool} {f : α → D} {σ : L2.St} {H H0 : Hp} {W : WX} {Q : VK}
    (hi : DI X kx tg e ρ M (xs.map enc)) (B : Bd X N sc k) (hl : xs.length < sizeLine) (h : ∀ x, x ∈ xs → LcB X N sc csc k own tg elt ifs ρ M (enc x) (cnd x) (f x))
    (t : Ht X.K H0 H M) (s : Sl X.K H0 σ ρ) (tk : Takes X W) (hx : Hx X W H0 H M kx) (q : ∀ w H' H0', Go H0 H M H0' H' ((w, .lst (outs xs cnd f)) :: M) → Ht X.K H0' H' ((w, .lst (outs xs cnd f)) :: M) → w ∉ M.dom → Sm H H' → Q (.ref w) H') :
    tLc (sI X tg e) (uG X csc tg) (uT X csc ifs) (uE X csc elt) (own.map (·.2)) σ H Q := by
  refine hi σ H H0 t s W tk hx _ fun J HJ H0J pJ w => ?_
  intro L hL
  obtain ⟨G, Y, w, hG, hY⟩ := w
  rw [List.length_map] at w
  have tJ := t.pu pJ
  have hL0 := tJ.free hL
  refine lc_it (g := uG X csc tg) (tt := uT X csc ifs) (te := uE X csc elt) (vs := own.map (·.2)) (σ := σ) (D := L) (H1 := HJ) (Qd := fun H' => Q (.ref L) H') w (fun i H' => ∃ H0' acc, Pu H0J HJ H0' (upd H' L (.lst [])) ∧ H0' L = none ∧ H' L = some (.lst acc) ∧ RepA X.K H0' acc (outs (xs.take i) cnd f) ∧ Same H0' H' ∧ Sm HJ H') ?_ ?_ ?_ ?_
  · refine ⟨H0J, [], ?_, hL0.1, upd_same, .nil, pJ.ex.trans (same_new hL), Same.sm (same_new hL)⟩
    rw [upd_upd]
    exact ⟨Same.refl _, Same.sm (same_new hL), pJ.ex.trans (same_new hL), fun _ h _ => h, fun b e => NdefX.upd_none e, fun t => t.new hL⟩
  · rintro i H' _ ⟨H0', acc, p, _, _, _, e, _⟩
    exact hG H' (p.e0.trans e)
  · rintro i x H1 H2 hi2 ⟨H01, acc, p1, n1, l1, r1, e1, k1⟩ y
    have hx2 : xs[i]? = some xs[i] := List.getElem?_eq_getElem hi2
    have hdd : (xs.map enc)[i]? = some (enc xs[i]) := by rw [List.getElem?_map, hx2]; rfl
    obtain ⟨H02, p2, r2⟩ := hY i H1 x H2 H01 _ p1.e0 e1 hdd y
    obtain ⟨ts, ρ2, hts, hb⟩ := h xs[i] (List.getElem_mem hi2)
    have l2 : H2 L = some (.lst acc) := p2.k l1
    have n2 : H02 L = none := p2.new L n1 (by rw [l1]; exact trivial)
    have tb1 : TB H01 H1 := (p1.tb tJ.tb).back l1
    -- the state within: the list among what may change
    have tt : ∀ {Ha H0a : Hp}, Pu H02 H2 H0a Ha → Ht X.K H0a Ha ((L, .lst (outs (xs.take i) cnd f)) :: M) := fun {Ha H0a} pa => by
      have lA : Ha L = some (.lst acc) := pa.k l2
      refine ⟨pa.ex, List.nodup_cons.mpr ⟨hL0.2, t.nd⟩, fun m hm => ?_, pa.tb (p2.tb tb1)⟩
      rcases List.mem_cons.mp hm with rfl | hm
      · exact ⟨pa.new L n2 (by rw [l2]; exact trivial), acc, lA, r1.mo (p2.e0.trans pa.e0)⟩
      · obtain ⟨m1, m2⟩ := tJ.mem m hm
        obtain ⟨o, ho⟩ := m2.there
        have nb : NTb o := NT.ntb (by rw [← ho]; exact m2.nt)
        have o1 := k1 _ _ ho nb
        have o2 := p2.e _ _ o1 nb
        have z1 : H01 m.1 = none := p1.new _ m1 m2.nt
        refine ⟨pa.new _ (p2.new _ z1 (m2.nt.keep fun o e n => k1 _ _ e n)) ((m2.nt.keep fun o e n => k1 _ _ e n).keep fun o e n => p2.e _ _ e n), m2.mono (p1.e0.trans (p2.e0.trans pa.e0)) fun o' e' n => ?_⟩
        exact pa.e _ _ (p2.e _ _ (k1 _ _ e' n) n) n
    have sw : Sl X.K H02 (L2.wipe σ (own.map (·.2))) (wipeD ρ (own.map (·.2))) := (s.wipe _).mo (pJ.e0.trans (p1.e0.trans p2.e0))
    intro s' H' C cl fp
    refine (hb s' H' C cl fp L (outs (xs.take i) cnd f) (B.blk s' H' C cl fp)).1 _ H2 H02 x p2.ex sw r2 _ fun σ2 s2 bt => ⟨(bt _ hts).trans (wipe_wipe σ _), ?_⟩
    intro s'' H'' C' cl' fp'
    refine (hb s'' H'' C' cl' fp' L (outs (xs.take i) cnd f) (B.blk s'' H'' C' cl' fp')).2.1 σ2 H2 H02 (tt (Pu.refl p2.ex)) s2 _ takesN Hx.none _ fun H3 H03 p3 => ?_
    have p13 := p2.trans p3
    have back : ∀ {Ha H0a : Hp} {l : List V}, Pu H01 H1 H0a Ha → Pu H0J HJ H0a (upd (upd Ha L (.lst l)) L (.lst [])) := fun {Ha H0a l} pa => by
      have na : H0a L = none := pa.new L n1 (by rw [l1]; exact trivial)
      rw [upd_upd]
      refine ⟨p1.e0.trans pa.e0, fun b o eb n => ?_, fun b o eb => ?_, fun b h1 h2 => ?_, fun b eb => ?_, fun t => ((pa.tb tb1).chg (NX.of (pa.k l1)) _)⟩
      · rw [upd_ne (ne_of_none eb hL)]; exact pa.e _ _ (k1 _ _ eb n) n
      · rw [upd_ne (ne_of_none eb na)]; exact pa.ex _ _ eb
      · exact pa.new b (p1.new b h1 h2) (h2.keep fun o e n => k1 _ _ e n)
      · have z := pa.there b (NdefX.upd_none eb)
        refine p1.there b ?_
        have bl : b ≠ L := fun y => by rw [y, l1] at z; cases z
        rw [upd_ne bl]; exact z
    have keep : ∀ {Ha H0a : Hp} {l : List V}, Pu H01 H1 H0a Ha → Sm HJ (upd Ha L (.lst l)) := fun {Ha H0a l} pa a o ea n => by
      rw [upd_ne (ne_of_none ea hL)]; exact pa.e _ _ (k1 _ _ ea n) n
    have same : ∀ {Ha H0a : Hp} {l : List V}, Pu H01 H1 H0a Ha → Same H0a (upd Ha L (.lst l)) := fun {Ha H0a l} pa b o eb => by
      have na : H0a L = none := pa.new L n1 (by rw [l1]; exact trivial)
      rw [upd_ne (ne_of_none eb na)]; exact pa.ex _ _ eb
    have nl : ∀ {Ha H0a : Hp}, Pu H01 H1 H0a Ha → H0a L = none := fun {Ha H0a} pa => pa.new L n1 (by rw [l1]; exact trivial)
    cases hc : cnd xs[i] with
    | true =>
      refine iteT ?_
      intro s3 H3' C3 cl3 fp3
      refine (hb s3 H3' C3 cl3 fp3 L (outs (xs.take i) cnd f) (B.blk s3 H3' C3 cl3 fp3)).2.2 hc σ2 H3 H03 (tt p3) (s2.mo p3.e0) _ takesN Hx.none _ fun v H4 H04 p4 r4 => ?_
      have p14 := p13.trans p4
      refine ⟨acc, p14.k l1, ?_, H04, acc ++ [v], back p14, nl p14, upd_same, ?_, same p14, keep p14⟩
      · have e2 := r1.length
        have e3 := outs_len (xs.take i) cnd f
        rw [List.length_take] at e3
        omega
      · rw [outs_yes hx2 hc]
        exact (r1.mo p14.e0).app (.one r4)
    | false =>
      refine iteF ⟨H03, acc, ?_, nl p13, p13.k l1, ?_, p13.ex, fun a o ea n => p13.e _ _ (k1 _ _ ea n) n⟩
      · have z := back (l := acc) p13
        rw [upd_upd] at z
        exact z
      · rw [outs_no hx2 hc]
        exact r1.mo p13.e0
  · rintro H' ⟨H0', acc, p, n, l, r, e, kk⟩
    rw [List.take_length] at r
    have g : Go H0J HJ M H0' H' ((L, .lst (outs xs cnd f)) :: M) := by
      refine ⟨p.e0, fun b o eb _ n => kk _ _ eb n, fun b h1 h2 _ => p.new b h1 h2, fun b hb => ?_, fun b eb => ?_⟩
      · rcases List.mem_cons.mp (show b ∈ L :: M.dom from hb) with rfl | hb
        · exact .inr hL
        · exact .inl hb
      · refine p.there b ?_
        have bl : b ≠ L := fun y => by rw [y, l] at eb; cases eb
        rw [upd_ne bl]; exact eb
    refine q L H' H0' (pJ.go.trans g) ⟨e, List.nodup_cons.mpr ⟨hL0.2, t.nd⟩, fun m hm => ?_, (p.tb tJ.tb).back l⟩ hL0.2 (pJ.e.trans kk)
    rcases List.mem_cons.mp hm with rfl | hm
    · exact ⟨n, acc, l, r⟩
    · obtain ⟨m1, m2⟩ := tJ.mem m hm
      obtain ⟨o, ho⟩ := m2.there
      exact ⟨p.new _ m1 m2.nt, m2.mono p.e0 fun o' e' n => kk _ _ e' n⟩
/-- [elt for tg in e if ..], a new list that may change -/
theorem de_lc {own : List (Str × Nat)} {elt : Expr} {ifs : List Expr} {xs : List α} {enc : α → D} {cnd : α → Bool} {f : α → D} {k2 : D → Mem → Prop} (B : Bd X N sc k) (hi : DI X kx tg e ρ M (xs.map enc)) (ok : BlkOk N sc csc own) (hl : xs.length < sizeLine)
    (h : ∀ x, x ∈ xs → LcB X N sc csc k own tg elt ifs ρ M (enc x) (cnd x) (f x)) (hk : ∀ w, w ∉ M.dom → k2 (.adr w) ((w, .lst (outs xs cnd f)) :: M)) (hs : ∀ x, foldedSetIterable e X.env x = pure x := by intro _; rfl) :
    DE X kx (.ListComp elt [⟨tg, e, ifs, 0⟩] csc pos) ρ M k2 := fun σ H H0 t s W tk hx Q q => by
  refine sE.by (pe_lc (g := uG X csc tg) (tt := uT X csc ifs) (te := uE X csc elt)
    B.calm (by rw [B.hN]; exact B.hnd) (pi_s tg e) (by rw [B.hN, B.hsc]; exact ok) (fun s H C cl fp => ?_) (fun s H C cl fp => ?_) (fun s H C cl fp => ?_) hs)
    (lc_read (cnd := cnd) (f := f) hi B hl h t s tk hx fun w H' H0' g t' hw _ => q (.ref w) H' H0' _ _ g t' (.adr w) (hk w hw))
  · exact ⟨fun pins s' σ' H' v u Q' I r h => h s H C cl fp pins s' u I r⟩
  · exact ⟨fun pins s' σ' H' Q' I h => h s H C cl fp pins s' I⟩
  · exact ⟨fun pins s' σ' H' Q' I h => h s H C cl fp pins s' I⟩
end
end
/-! ### what may change no more -/
section
variable {K : Frag} {H0 H : Hp} {M : Mem}
theorem Ht.frz (t : Ht K H0 H M) {w : Addr} {ds : List D} (h : (w, Mu.lst ds) ∈ M) : ∃ H0', Same H0 H0' ∧ Ht K H0' H (M.filter fun p => decide (p.1 ≠ w)) ∧ Rep K H0' (.ref w) (.lst ds) ∧ Go H0 H M H0' H (M.filter fun p => decide (p.1 ≠ w)) := by
  obtain ⟨h0, vs, h1, h2⟩ := t.mem _ h
  have sm : Same H0 (upd H0 w (.lst vs)) := same_new h0
  have sub : ∀ q ∈ M.filter fun p => decide (p.1 ≠ w), q ∈ M ∧ q.1 ≠ w := fun q hq => by
    obtain ⟨a, b⟩ := List.mem_filter.mp hq
    exact ⟨a, of_decide_eq_true b⟩
  refine ⟨_, sm, ⟨fun b o e => ?_, ?_, fun q hq => ?_, t.tb.frz h1⟩, .lst upd_same (h2.mo sm), ⟨sm, fun _ _ e _ _ => e, fun a a1 a2 a3 => ?_, fun a ha => ?_, fun _ e => e⟩⟩
  · by_cases hb : b = w
    · subst hb; rw [upd_same] at e; cases e; exact h1
    · rw [upd_ne hb] at e; exact t.ex _ _ e
  · exact t.nd.sublist (List.Sublist.map _ List.filter_sublist)
  · obtain ⟨a, b⟩ := sub q hq
    obtain ⟨c, d⟩ := t.mem q a
    exact ⟨by rw [upd_ne b]; exact c, d.mono sm fun _ e _ => e⟩
  · rw [upd_ne (fun z => a3 (by rw [z]; exact List.mem_map.mpr ⟨_, h, rfl⟩))]; exact a1
  · obtain ⟨q, hq, rfl⟩ := List.mem_map.mp ha
    exact .inl (List.mem_map.mpr ⟨q, (sub q hq).1, rfl⟩)
end
end Dl

namespace Dl
open PySem PySem.Spec PyProof.Rows L2
/-! ### promises -/
/-- a def that changes nothing of what stood -/
def spP (K : Frag) {α : Type} (args : α → List D) (pre : α → Prop) (post : α → D → Prop) (ex : α → Value → List (Str × D) → Prop) : Sp := fun vs H Q E =>
  ∃ x H0, (Same H0 H ∧ TB H0 H) ∧ RepA K H0 vs (args x) ∧ pre x ∧ (∀ v H' H0' d, Pu H0 H H0' H' → Rep K H0' v d → post x d → Q v H') ∧
    (∀ cls dd H' H0' fs, Pu H0 H H0' H' → XRep K H0' H' dd fs → ex x cls fs → E cls dd H')
/-- a def that changes what stands at Mi -/
def spM (K : Frag) {α : Type} (args : α → List D) (Mi : α → Mem) (pre : α → Prop) (post : α → D → Mem → Prop) (ex : α → Value → List (Str × D) → Mem → Prop) : Sp := fun vs H Q E =>
  ∃ x H0, Ht K H0 H (Mi x) ∧ RepA K H0 vs (args x) ∧ pre x ∧ (∀ v H' H0' d M', Go H0 H (Mi x) H0' H' M' → Ht K H0' H' M' → Rep K H0' v d → post x d M' → Q v H') ∧
    (∀ cls dd H' H0' fs M', Go H0 H (Mi x) H0' H' M' → Ht K H0' H' M' → XRep K H0' H' dd fs → ex x cls fs M' → E cls dd H')
def startD (N : List Str) (ds : List D) : Ro := ds.map some ++ List.replicate (N.length - ds.length) none
def retP (post : D → Mem → Prop) : Out → Mem → Prop
  | .rt d, M => post d M
  | .nx _, M => post .non M
  | .bk _, _ => False
  | .ct _, _ => False
theorem start_rep {K : Frag} {H0 : Hp} {N : List Str} {vs : List V} {ds : List D} (r : RepA K H0 vs ds) : Sl K H0 (L2.start N vs) (startD N ds) := by
  unfold L2.start startD
  refine ⟨by simp [r.length], fun i d h => ?_⟩
  by_cases hi : i < ds.length
  · rw [List.getElem?_append_left (by simpa using hi), List.getElem?_map] at h
    rw [List.getElem?_append_left (by rw [List.length_map, r.length]; exact hi), List.getElem?_map]
    cases e : ds[i]? with
    | none => rw [e] at h; cases h
    | some d' =>
      rw [e] at h
      cases h
      obtain ⟨v, h1, h2⟩ := r.get e
      exact ⟨v, by rw [h1]; rfl, h2⟩
  · rw [List.getElem?_append_right (by simpa using hi)] at h
    have h2 := List.mem_of_getElem? h
    have h3 := List.eq_of_mem_replicate h2
    cases h3
section
variable {P : Program} {w : World} {K : Frag} {mg : Str → Option Value} {base : Heap} {α : Type}
theorem bd_of {qual : Str} {sc : Scope} {N ps : List Str} {k : Nat} {f : Addr} {cd : Value} {A : Around} {outer : List Env} {s : Shared} {H : Hp} {E : XK} (S : FnScope N ps sc) (hr : Room k (A.deeper (envOfC qual sc s.heap.objs.size f cd))) :
    Bd (cxOf (L2.CX P w) P w K mg base N qual sc f cd A outer s H E) N sc k ∧ Bf (cxOf (L2.CX P w) P w K mg base N qual sc f cd A outer s H E) :=
  ⟨⟨rfl, S.nd, rfl, rfl, hr, passes_of rfl⟩, ⟨fun _ => rfl, rfl, rfl⟩⟩
theorem fn_p {x qual : Str} {st : Stmt} {f : Addr} {fd : FuncData} {N ps : List Str} {k : Nat} {args : α → List D} {pre : α → Prop} {post : α → D → Prop} {ex : α → Value → List (Str × D) → Prop} (F : Fun K x qual st f fd) (S : FnScope N ps (defScope st)) (hl : ∀ a, (args a).length = ps.length)
    (body : ∀ X : Cx, X.prog = P → X.w = w → X.K = K → X.mg = mg → X.base = base → Bd X N (defScope st) k → Bf X → ∀ a, pre a → DS X (fun cls fs _ _ => ex a cls fs) (defBody st) (startD N (args a)) [] (retP fun d _ => post a d)) :
    FnOk P w K mg base (L2.CX P w) (k + 1) f fd ps (spP K args pre post ex) := by
  refine F.okX S (fun vs H Q E h => ?_) (fun cdv A outer s H vs Q E hr hsp => ?_)
  · obtain ⟨x, H0, _, r, _⟩ := h
    rw [r.length, hl]
  · obtain ⟨x, H0, hs, r, hp, hq, he⟩ := hsp
    obtain ⟨B, Fz⟩ := bd_of (P := P) (w := w) (K := K) (mg := mg) (base := base) (outer := outer) (H := H) (E := E) S hr
    refine ⟨_, pss_s _, body _ rfl rfl rfl rfl rfl B Fz x hp (L2.start N vs) H H0 (Ht.emp hs.1 hs.2) (start_rep r) (fun cls d _ H => E cls d H) (takes_of rfl rfl rfl rfl) (fun cls dd σ' H' H0' fs ρ' M' g t s' xr e => he cls dd H' H0' fs (g.pu t) xr e) _ ?_⟩
    exact ⟨fun σ' H' H0' ρ' M' g t _ p => hq .non H' H0' .non (g.pu t) .non p, fun _ _ _ _ _ _ _ _ p => p.elim, fun _ _ _ _ _ _ _ _ p => p.elim, fun v H' H0' d M' g t r p => hq v H' H0' d (g.pu t) r p⟩
theorem fn_m {x qual : Str} {st : Stmt} {f : Addr} {fd : FuncData} {N ps : List Str} {k : Nat} {args : α → List D} {Mi : α → Mem} {pre : α → Prop} {post : α → D → Mem → Prop} {ex : α → Value → List (Str × D) → Mem → Prop} (F : Fun K x qual st f fd) (S : FnScope N ps (defScope st)) (hl : ∀ a, (args a).length = ps.length)
    (body : ∀ X : Cx, X.prog = P → X.w = w → X.K = K → X.mg = mg → X.base = base → Bd X N (defScope st) k → Bf X → ∀ a, pre a → DS X (fun cls fs _ M' => ex a cls fs M') (defBody st) (startD N (args a)) (Mi a) (retP (post a))) :
    FnOk P w K mg base (L2.CX P w) (k + 1) f fd ps (spM K args Mi pre post ex) := by
  refine F.okX S (fun vs H Q E h => ?_) (fun cdv A outer s H vs Q E hr hsp => ?_)
  · obtain ⟨x, H0, _, r, _⟩ := h
    rw [r.length, hl]
  · obtain ⟨x, H0, hs, r, hp, hq, he⟩ := hsp
    obtain ⟨B, Fz⟩ := bd_of (P := P) (w := w) (K := K) (mg := mg) (base := base) (outer := outer) (H := H) (E := E) S hr
    refine ⟨_, pss_s _, body _ rfl rfl rfl rfl rfl B Fz x hp (L2.start N vs) H H0 hs (start_rep r) (fun cls d _ H => E cls d H) (takes_of rfl rfl rfl rfl) (fun cls dd σ' H' H0' fs ρ' M' g t s' xr e => he cls dd H' H0' fs M' g t xr e) _ ?_⟩
    exact ⟨fun σ' H' H0' ρ' M' g t _ p => hq .non H' H0' .non M' g t .non p, fun _ _ _ _ _ _ _ _ p => p.elim, fun _ _ _ _ _ _ _ _ p => p.elim, fun v H' H0' d M' g t r p => hq v H' H0' d M' g t r p⟩
end
/-- a global def, with the values dvs for its last parameters -/
def GF (P : Program) (w : World) (K : Frag) (mg : Str → Option Value) (base : Heap) (k : Nat) (x : Str) (dvs : List D) (sp : Sp) : Prop :=
  ∃ (f : Addr) (fd : FuncData) (ps : List Str) (ds : List Value) (vs : List V), mg x = some (.ref f) ∧ PySem.W.keepIn K (.ref f) = true ∧ FnOk P w K mg base (L2.CX P w) k f fd ps sp ∧ Binds K fd ps ds ∧ Vals vs ds ∧ ∀ H, RepA K H vs dvs
def GM (P : Program) (w : World) (K : Frag) (mg : Str → Option Value) (base : Heap) (k : Nat) (C : Addr) (m : Str) (dvs : List D) (sp : Sp) : Prop :=
  ∃ (f : Addr) (fd : FuncData) (ps : List Str) (ds : List Value) (vs : List V), Meth K C m f ∧ FnOk P w K mg base (L2.CX P w) k f fd ps sp ∧ Binds K fd ps ds ∧ Vals vs ds ∧ ∀ H, RepA K H vs dvs
def GC (P : Program) (w : World) (K : Frag) (mg : Str → Option Value) (base : Heap) (k : Nat) (C : Addr) (dvs : List D) (sp : Sp) : Prop :=
  ∃ (f : Addr) (fd : FuncData) (ps : List Str) (ds : List Value) (vs : List V), Mk K C f ∧ FnOk P w K mg base (L2.CX P w) k f fd ps sp ∧ Binds K fd ps ds ∧ Vals vs ds ∧ ∀ H, RepA K H vs dvs
section
variable {P : Program} {w : World} {K : Frag} {mg : Str → Option Value} {base : Heap} {j k : Nat} {x : Str} {dvs : List D} {sp sp' : Sp}
theorem GF.imp (g : GF P w K mg base k x dvs sp) (h : ∀ vs H Q E, sp' vs H Q E → sp vs H Q E) : GF P w K mg base k x dvs sp' :=
  let ⟨f, fd, ps, ds, vs, h1, h2, h3, h4⟩ := g
  ⟨f, fd, ps, ds, vs, h1, h2, h3.imp h, h4⟩
end
section
variable {X : Cx} {kx : XD} {ρ ρ' ρ'' : Ro} {M M' : Mem} {Pp : Out → Mem → Prop} {pos p apos : Pos} {e o : Expr} {es : List Expr} {y z : D} {α : Type} {k : Nat} {x m : Str} {C : Addr} {dvs ds : List D}
  {args : α → List D} {pre : α → Prop} {post : α → D → Prop} {ex : α → Value → List (Str × D) → Prop} {Mi : α → Mem} {postM : α → D → Mem → Prop} {exM : α → Value → List (Str × D) → Mem → Prop}
/-- what a promise gives to a caller at its slots -/
theorem spP_use {σ : L2.St} {H H0 : Hp} {vs us : List V} {W : WX} {Q : VK} (t : Ht X.K H0 H M) (s : Sl X.K H0 σ ρ) (hx : Hx X W H0 H M kx) (r : RepA X.K H0 vs ds) (ru : RepA X.K H0 us dvs) (a : α) (ha : args a = ds ++ dvs) (hp : pre a)
    (hex : ∀ cls fs, ex a cls fs → kx cls fs ρ M) (q : ∀ v H' H0' d, Pu H0 H H0' H' → Rep X.K H0' v d → post a d → Q v H') : spP X.K args pre post ex (vs ++ us) H Q (WE W σ) :=
  ⟨a, H0, ⟨t.ex, t.tb⟩, by rw [ha]; exact r.app ru, hp, fun v H' H0' d p rr pp => q v H' H0' d p rr pp, fun cls dd H' H0' fs p xr e => hx cls dd σ H' H0' fs ρ M p.go (t.pu p) (s.mo p.e0) xr (hex cls fs e)⟩
/-- the frame: what a callee leaves alone -/
theorem frame_of {K : Frag} {H0 H H0' H' : Hp} {Ma Mb F : Mem} (t : Ht K H0 H (Ma ++ F)) (g : Go H0 H Ma H0' H' Mb) (t' : Ht K H0' H' Mb) : Go H0 H (Ma ++ F) H0' H' (Mb ++ F) ∧ Ht K H0' H' (Mb ++ F) := by
  have nd := t.nd
  have dd : Mem.dom (Ma ++ F) = Mem.dom Ma ++ Mem.dom F := by simp [Mem.dom]
  have dd2 : Mem.dom (Mb ++ F) = Mem.dom Mb ++ Mem.dom F := by simp [Mem.dom]
  rw [dd] at nd
  obtain ⟨n1, n2, n3⟩ := List.nodup_append.mp nd
  have there : ∀ q ∈ F, ∃ o, H q.1 = some o := fun q hq => (t.mem q (List.mem_append_right _ hq)).2.there
  have out : ∀ q ∈ F, q.1 ∉ Ma.dom := fun q hq h => n3 q.1 h q.1 (List.mem_map.mpr ⟨q, hq, rfl⟩) rfl
  refine ⟨⟨g.e0, fun b o e hb n => g.e b o e (fun z => hb (by rw [dd]; exact List.mem_append_left _ z)) n, fun a h1 h2 h3 => g.new a h1 h2 fun z => h3 (by rw [dd]; exact List.mem_append_left _ z), fun a ha => ?_, g.there⟩, ⟨t'.ex, ?_, fun q hq => ?_, t'.tb⟩⟩
  · rw [dd2] at ha
    rw [dd]
    rcases List.mem_append.mp ha with ha | ha
    · exact (g.dom a ha).imp (List.mem_append_left _) id
    · exact .inl (List.mem_append_right _ ha)
  · rw [dd2]
    refine List.nodup_append.mpr ⟨t'.nd, n2, fun a ha b hb e => ?_⟩
    subst e
    rcases g.dom a ha with z | z
    · exact n3 a z a hb rfl
    · obtain ⟨q, hq, rfl⟩ := List.mem_map.mp hb
      obtain ⟨o, ho⟩ := there q hq
      rw [z] at ho; cases ho
  · rcases List.mem_append.mp hq with hq | hq
    · exact t'.mem q hq
    · obtain ⟨m1, m2⟩ := t.mem q (List.mem_append_right _ hq)
      obtain ⟨o, ho⟩ := there q hq
      exact ⟨g.new _ m1 m2.nt (out q hq), m2.mono g.e0 fun o e n => g.e _ _ e (out q hq) n⟩
theorem Ht.left {K : Frag} {H0 H : Hp} {Ma F : Mem} (t : Ht K H0 H (Ma ++ F)) : Ht K H0 H Ma :=
  ⟨t.ex, by
    have h := t.nd
    rw [show Mem.dom (Ma ++ F) = Mem.dom Ma ++ Mem.dom F by simp [Mem.dom]] at h
    exact (List.nodup_append.mp h).1, fun q hq => t.mem q (List.mem_append_left _ hq), t.tb⟩
/-! ### f(e, ..) -/
theorem call_e {n : Nat} {sp : Sp} (G : GF X.prog X.w X.K X.mg X.base k x dvs sp) (hr : Room k X.A) (hg : Gl X x) {σ : L2.St} {H H0 : Hp} {Q : VK} {W : WX} (t : Ht X.K H0 H M) (s : Sl X.K H0 σ ρ) (tk : Takes X W) (hx : Hx X W H0 H M kx) (ha : DA X kx (e :: es) ρ M ds)
    (h : ∀ vs us H1 H01, Pu H0 H H01 H1 → RepA X.K H01 vs ds → RepA X.K H01 us dvs → sp (vs ++ us) H1 Q (WE W σ)) (hdb : (x == ("__debug__" : Str)) = false := by decide)
    (he : starEach (e :: es) X.env = (false, eval e X.env) :: starEach es X.env := by rfl) (hpl : (backTo pos (starEach es X.env)).any (·.1) = false := by rfl) : sE X (.Call (.Name x p) (e :: es) [] pos) σ H Q := by
  obtain ⟨f, fd, ps, dv, vd, g1, g2, g3, g4, g5, g6⟩ := G
  refine fun pins st I => wpAny_Call_Name_kw (ld_glob I hg g1 ?_ hdb)
  refine PySem.W.callWith_K (h₀ := X.base) I.ok.mod.kin g2 (thn ((pa_s (e :: es)).run pos pins st σ H (fun vs H' => ∃ H01, Pu H0 H H01 H' ∧ RepA X.K H01 vs ds) I (ha σ H H0 t s W tk hx _ fun vs H' H0' p r => ⟨H0', p, r⟩)) fun us s1 ⟨vs, H1, I1, r, H01, p1, q1⟩ => ⟨I1.kIn, ?_⟩) he hpl
  exact run_fnSD (E := WE W) g3 hr g4 g5 (passAt tk σ) I1 r (h vs vd H1 H01 p1 q1 (g6 _))
theorem dv_call (G : GF X.prog X.w X.K X.mg X.base k x dvs (spP X.K args pre post ex)) (hr : Room k X.A) (hg : Gl X x) (ha : DA X kx (e :: es) ρ M ds) (a : α) (hargs : args a = ds ++ dvs) (hp : pre a) (hz : ∀ d, post a d → d = z) (hex : ∀ cls fs, ex a cls fs → kx cls fs ρ M)
    (hdb : (x == ("__debug__" : Str)) = false := by decide) (he : starEach (e :: es) X.env = (false, eval e X.env) :: starEach es X.env := by rfl) (hpl : (backTo pos (starEach es X.env)).any (·.1) = false := by rfl) : DV X kx (.Call (.Name x p) (e :: es) [] pos) ρ M z := fun σ H H0 t s W tk hx Q q =>
  call_e (n := 0) G hr hg t s tk hx ha (fun vs us H1 H01 p1 r ru => spP_use (t.pu p1) (s.mo p1.e0) (hx.pu p1) r ru a hargs hp hex fun v H' H0' d p2 rr pp => q v H' H0' (p1.trans p2) (by rw [← hz d pp]; exact rr)) hdb he hpl
/-- one of the answers that may be -/
theorem de_call {kk : D → Mem → Prop} (G : GF X.prog X.w X.K X.mg X.base k x dvs (spP X.K args pre post ex)) (hr : Room k X.A) (hg : Gl X x) (ha : DA X kx (e :: es) ρ M ds) (a : α) (hargs : args a = ds ++ dvs) (hp : pre a) (hz : ∀ d, post a d → kk d M) (hex : ∀ cls fs, ex a cls fs → kx cls fs ρ M)
    (hdb : (x == ("__debug__" : Str)) = false := by decide) (he : starEach (e :: es) X.env = (false, eval e X.env) :: starEach es X.env := by rfl) (hpl : (backTo pos (starEach es X.env)).any (·.1) = false := by rfl) : DE X kx (.Call (.Name x p) (e :: es) [] pos) ρ M kk := fun σ H H0 t s W tk hx Q q =>
  call_e (n := 0) G hr hg t s tk hx ha (fun vs us H1 H01 p1 r ru => spP_use (t.pu p1) (s.mo p1.e0) (hx.pu p1) r ru a hargs hp hex fun v H' H0' d p2 rr pp => q v H' H0' d M (p1.trans p2).go (t.pu (p1.trans p2)) rr (hz d pp)) hdb he hpl
/-! ### objects -/
/-- an object of the class C with the fields ns -/
inductive Obj (M : Mem) : D → Addr → List Str → List D → Prop
  | ins (C : Addr) (ns : List Str) (ds : List D) : Obj M (.ins C ns ds) C ns ds
  | adr {a C : Addr} {ns : List Str} {ds : List D} : (a, Mu.ins C ns ds) ∈ M → Obj M (.adr a) C ns ds
theorem Obj.rep {H H0 : Hp} {v : V} {ns : List Str} (h : Obj M y C ns ds) (t : Ht X.K H0 H M) (r : Rep X.K H0 v y) : ∃ (a dx : Addr) (vs : List (Str × V)) (xs : List V), v = .ref a ∧ H a = some (.ins C dx vs) ∧ vs.map Prod.fst = ns ∧ vs.map Prod.snd = xs ∧ RepA X.K H0 xs ds := by
  cases h with
  | ins C ns ds => cases r with | ins a b c d => exact ⟨_, _, _, _, rfl, t.ex _ _ a, b, c, d⟩
  | adr hm =>
    cases r
    obtain ⟨_, dx, vs, xs, h1, h2, h3, h4⟩ := t.mem _ hm
    exact ⟨_, dx, vs, xs, rfl, h1, h2, h3, h4⟩
theorem lookup_rep {K : Frag} {H : Hp} {f : Str} : ∀ {ns : List Str} {vs : List (Str × V)} {xs : List V} {ds : List D}, vs.map Prod.fst = ns → vs.map Prod.snd = xs → RepA K H xs ds →
    (∀ d, (ns.zip ds).lookup f = some d → ∃ v, vs.lookup f = some v ∧ Rep K H v d) ∧ ((ns.zip ds).lookup f = none → vs.lookup f = none)
  | _, [], _, ds, h1, h2, r => by
    subst h1
    exact ⟨fun d h => by simp at h, fun _ => rfl⟩
  | _, (n, v) :: vs, _, ds, h1, h2, r => by
    subst h1; subst h2
    cases r with
    | @cons _ _ d ds r1 r2 =>
      have ih := lookup_rep (f := f) (ns := vs.map Prod.fst) (vs := vs) rfl rfl r2
      simp only [List.map_cons, List.zip_cons_cons, List.lookup_cons]
      cases hf : f == n with
      | true => exact ⟨fun d' h => by cases h; exact ⟨v, rfl, r1⟩, fun h => by cases h⟩
      | false => exact ih
theorem dv_fld {f : Str} {ns : List Str} (cl : Cls X.K C) (na : NoAttr X.K C f) (h : DV X kx o ρ M y) (ho : Obj M y C ns ds) (hl : (ns.zip ds).lookup f = some z) (hb : attributeBase o f X.env (eval o X.env) = eval o X.env := by rfl) : DV X kx (.Attribute o f pos) ρ M z := fun σ H H0 t s W tk hx Q q =>
  sE.by (pe_fld (pe_s o) hb) (h σ H H0 t s W tk hx _ fun v H' H0' p r => by
    obtain ⟨a, dx, vs, xs, rfl, h1, h2, h3, h4⟩ := ho.rep (t.pu p) r
    obtain ⟨v, h5, h6⟩ := (lookup_rep (f := f) h2 h3 h4).1 z hl
    exact ⟨a, C, dx, vs, v, rfl, h1, cl, na, h5, q v H' H0' p h6⟩)
/-- o.m(e, ..) | o.m() -/
theorem meth_e {ns : List Str} {sp : Sp} {pl : Sem Bool} (cl : Cls X.K C) (G : GM X.prog X.w X.K X.mg X.base k C m dvs sp) (hr : Room k X.A) {σ : L2.St} {H H0 : Hp} {Q : VK} {W : WX} {fs : List D} (t : Ht X.K H0 H M) (s : Sl X.K H0 σ ρ) (tk : Takes X W) (hx : Hx X W H0 H M kx)
    (h : DV X kx o ρ M y) (ho : Obj M y C ns fs) (hl : (ns.zip fs).lookup m = none) (ha : DA X kx (e :: es) ρ M ds)
    (hh : ∀ vs us H1 H01, Pu H0 H H01 H1 → RepA X.K H01 vs (y :: ds) → RepA X.K H01 us dvs → sp (vs ++ us) H1 Q (WE W σ))
    (he : starEach (e :: es) X.env = (false, eval e X.env) :: starEach es X.env) (hpl : (backTo pos (starEach es X.env)).any (·.1) = false)
    (ht : eval (.Call (.Attribute o m apos) (e :: es) [] pos) X.env = (do
      let ov ← eval o X.env
      standAt apos.atName
      let (f, first) ← holding [ov] (getMethod ov m pl)
      callWith pos f first (backTo pos (starEach (e :: es) X.env)) (backToKw pos (keywordEach [] X.env)))) : sE X (.Call (.Attribute o m apos) (e :: es) [] pos) σ H Q := by
  obtain ⟨f, fd, ps, dv, vd, g1, g3, g4, g5, g6⟩ := G
  refine fun pins st I => PySem.W.methodCall_KW (pl := pl) (thn (h σ H H0 t s W tk hx (fun v H' => ∃ H01, Pu H0 H H01 H' ∧ Rep X.K H01 v y) (fun v H' H0' p r => ⟨H0', p, r⟩) pins st I) fun u s1 ⟨v, H1, I1, rx, H01, p1, r1⟩ => ?_) ht
  obtain ⟨a, dx, vs, xs, rfl, h1, h2, h3, h4⟩ := ho.rep (t.pu p1) r1
  obtain rfl : u = Value.ref a := rx
  refine getmeth_ok I1 h1 cl g1 ((lookup_rep (f := m) h2 h3 h4).2 hl) ?_
  refine PySem.W.callWith_K (first := [.ref a]) (h₀ := X.base) I.ok.mod.kin g1.kp (thn ((pa_s (e :: es)).run pos pins s1 σ H1 (fun vs H' => ∃ H02, Pu H01 H1 H02 H' ∧ RepA X.K H02 vs ds) I1 (ha σ H1 H01 (t.pu p1) (s.mo p1.e0) W tk (hx.pu p1) _ fun vs H' H0' p r => ⟨H0', p, r⟩)) fun us s2 ⟨vs2, H2, I2, r2, H02, p2, q2⟩ => ⟨I2.kIn, ?_⟩) he hpl
  exact run_fnSD (us := .ref a :: us) (vs := .ref a :: vs2) (E := WE W) g3 hr g4 g5 (passAt tk σ) I2 (.cons rfl r2) (hh _ vd H2 H02 (p1.trans p2) (.cons (r1.mo p2.e0) q2) (g6 _))
theorem meth_e0 {ns : List Str} {sp : Sp} {pl : Sem Bool} (cl : Cls X.K C) (G : GM X.prog X.w X.K X.mg X.base k C m dvs sp) (hr : Room k X.A) {σ : L2.St} {H H0 : Hp} {Q : VK} {W : WX} {fs : List D} (t : Ht X.K H0 H M) (s : Sl X.K H0 σ ρ) (tk : Takes X W) (hx : Hx X W H0 H M kx)
    (h : DV X kx o ρ M y) (ho : Obj M y C ns fs) (hl : (ns.zip fs).lookup m = none)
    (hh : ∀ vs us H1 H01, Pu H0 H H01 H1 → RepA X.K H01 vs [y] → RepA X.K H01 us dvs → sp (vs ++ us) H1 Q (WE W σ))
    (ht : eval (.Call (.Attribute o m apos) [] [] pos) X.env = (do
      let ov ← eval o X.env
      standAt apos.atName
      let (f, first) ← holding [ov] (getMethod ov m pl)
      callWith pos f first (backTo pos (starEach [] X.env)) (backToKw pos (keywordEach [] X.env)))) : sE X (.Call (.Attribute o m apos) [] [] pos) σ H Q := by
  obtain ⟨f, fd, ps, dv, vd, g1, g3, g4, g5, g6⟩ := G
  refine fun pins st I => PySem.W.methodCall_KW (pl := pl) (thn (h σ H H0 t s W tk hx (fun v H' => ∃ H01, Pu H0 H H01 H' ∧ Rep X.K H01 v y) (fun v H' H0' p r => ⟨H0', p, r⟩) pins st I) fun u s1 ⟨v, H1, I1, rx, H01, p1, r1⟩ => ?_) ht
  obtain ⟨a, dx, vs, xs, rfl, h1, h2, h3, h4⟩ := ho.rep (t.pu p1) r1
  obtain rfl : u = Value.ref a := rx
  refine getmeth_ok I1 h1 cl g1 ((lookup_rep (f := m) h2 h3 h4).2 hl) ?_
  exact PySem.W.callWith_K0 (first := [.ref a]) I1.kIn g1.kp (run_fnSD (us := [.ref a]) (vs := [.ref a]) (E := WE W) g3 hr g4 g5 (passAt tk σ) I1 (.cons rfl .nil) (hh [.ref a] vd H1 H01 p1 (.cons r1 .nil) (g6 _)))
section
variable {ns : List Str} {fs : List D} {pl : Sem Bool}
theorem dv_meth (cl : Cls X.K C) (G : GM X.prog X.w X.K X.mg X.base k C m dvs (spP X.K args pre post ex)) (hr : Room k X.A) (h : DV X kx o ρ M y) (ho : Obj M y C ns fs) (ha : DA X kx (e :: es) ρ M ds) (a : α) (hargs : args a = (y :: ds) ++ dvs) (hp : pre a) (hz : ∀ d, post a d → d = z)
    (hex : ∀ cls fs, ex a cls fs → kx cls fs ρ M) (hl : (ns.zip fs).lookup m = none := by rfl) (he : starEach (e :: es) X.env = (false, eval e X.env) :: starEach es X.env := by rfl) (hpl : (backTo pos (starEach es X.env)).any (·.1) = false := by rfl)
    (ht : eval (.Call (.Attribute o m apos) (e :: es) [] pos) X.env = (do
      let ov ← eval o X.env
      standAt apos.atName
      let (f, first) ← holding [ov] (getMethod ov m pl)
      callWith pos f first (backTo pos (starEach (e :: es) X.env)) (backToKw pos (keywordEach [] X.env))) := by rfl) : DV X kx (.Call (.Attribute o m apos) (e :: es) [] pos) ρ M z := fun σ H H0 t s W tk hx Q q =>
  meth_e cl G hr t s tk hx h ho hl ha (fun vs us H1 H01 p1 r ru => spP_use (t.pu p1) (s.mo p1.e0) (hx.pu p1) r ru a hargs hp hex fun v H' H0' d p2 rr pp => q v H' H0' (p1.trans p2) (by rw [← hz d pp]; exact rr)) he hpl ht
theorem dv_meth0 (cl : Cls X.K C) (G : GM X.prog X.w X.K X.mg X.base k C m dvs (spP X.K args pre post ex)) (hr : Room k X.A) (h : DV X kx o ρ M y) (ho : Obj M y C ns fs) (a : α) (hargs : args a = [y] ++ dvs) (hp : pre a) (hz : ∀ d, post a d → d = z)
    (hex : ∀ cls fs, ex a cls fs → kx cls fs ρ M) (hl : (ns.zip fs).lookup m = none := by rfl)
    (ht : eval (.Call (.Attribute o m apos) [] [] pos) X.env = (do
      let ov ← eval o X.env
      standAt apos.atName
      let (f, first) ← holding [ov] (getMethod ov m pl)
      callWith pos f first (backTo pos (starEach [] X.env)) (backToKw pos (keywordEach [] X.env))) := by rfl) : DV X kx (.Call (.Attribute o m apos) [] [] pos) ρ M z := fun σ H H0 t s W tk hx Q q =>
  meth_e0 cl G hr t s tk hx h ho hl (fun vs us H1 H01 p1 r ru => spP_use (t.pu p1) (s.mo p1.e0) (hx.pu p1) r ru a hargs hp hex fun v H' H0' d p2 rr pp => q v H' H0' (p1.trans p2) (by rw [← hz d pp]; exact rr)) ht
end
/-- C(e, ..) -/
theorem run_mk {f : Addr} {fd : FuncData} {ps : List Str} {sp : Sp} {dv : List Value} {vd : List V} {E : L2.St → XK} {pins : List (Addr × PySem.Obj)} {σ : L2.St} {H : Hp} {s : Shared} {Q : VK} {us : List Value} {vs : List V} (Mz : Mk X.K C f) (F : FnOk X.prog X.w X.K X.mg X.base (L2.CX X.prog X.w) k f fd ps sp)
    (hr : Room (k + 1) X.A) (hb : Binds X.K fd ps dv) (hd : Vals vd dv) (hx : PassesAt (L2.CX X.prog X.w) X σ (E σ)) (I : Inv X pins σ H s) (r : Vals vs us)
    (h : ∀ x dx, H x = none → H dx = none → dx ≠ x → sp (.ref x :: (vs ++ vd)) (upd (upd H dx (.own x)) x (.ins C dx [])) (fun v H2 => v = .non ∧ Q (.ref x) H2) (E σ)) : wpAny (model X.prog X.w) X.A (call (.ref C) us) (EP X pins σ Q) X.xe s := by
  have nn : ∀ i, H (s.heap.objs.size + i) = none := fun i => I.hok.fresh (Nat.le_add_right _ _)
  have hq := h (s.heap.objs.size + 1) s.heap.objs.size (nn 1) (nn 0) (Nat.ne_of_lt (Nat.lt_succ_self _))
  have J := Inv.made (C := C) I
  have rr : Vals (V.ref (s.heap.objs.size + 1) :: (vs ++ vd)) (Value.ref (s.heap.objs.size + 1) :: (us ++ dv)) := .cons rfl (r.append hd)
  have e : (Value.ref (s.heap.objs.size + 1) :: us ++ dv).length = ps.length := (F.len _ _ _ _ hq) ▸ rr.length.symm
  refine wpAny_call (make_map (f := f) I.kIn Mz.makes Mz.init (beq_iff_eq.mp Mz.fn) (codeAny_mono (F.run _ X.stack _ _ ⟨.ref (s.heap.objs.size + 1) :: us, []⟩ _ _ _ (E σ) (hr.make C us []) (J.env0.make C us [])
    (hb _ (Value.ref (s.heap.objs.size + 1) :: us) J.kIn e) rr hq) fun z s' hz => ?_))
  match z, hz with
  | .error e, hz => exact hx pins _ _ e s' J hz
  | .ok (.ret u), hz =>
    obtain ⟨v, H', J', rv, ev, q⟩ := J.after hz
    subst ev
    exact ⟨rv, V.ref (s.heap.objs.size + 1), H', J', rfl, q⟩
theorem make_e {sp : Sp} (G : GC X.prog X.w X.K X.mg X.base k C dvs sp) (hr : Room (k + 1) X.A) (hg : Gl X x) (hm : X.mg x = some (.ref C)) {σ : L2.St} {H H0 : Hp} {Q : VK} {W : WX} (t : Ht X.K H0 H M) (s : Sl X.K H0 σ ρ) (tk : Takes X W) (hx : Hx X W H0 H M kx) (ha : DA X kx (e :: es) ρ M ds)
    (h : ∀ vs us H1 H01 a dx, Pu H0 H H01 H1 → RepA X.K H01 vs ds → RepA X.K H01 us dvs → H1 a = none → H1 dx = none → dx ≠ a → sp (.ref a :: (vs ++ us)) (upd (upd H1 dx (.own a)) a (.ins C dx [])) (fun v H2 => v = .non ∧ Q (.ref a) H2) (WE W σ))
    (hdb : (x == ("__debug__" : Str)) = false := by decide) (he : starEach (e :: es) X.env = (false, eval e X.env) :: starEach es X.env := by rfl) (hpl : (backTo pos (starEach es X.env)).any (·.1) = false := by rfl) : sE X (.Call (.Name x p) (e :: es) [] pos) σ H Q := by
  obtain ⟨f, fd, ps, dv, vd, g1, g3, g4, g5, g6⟩ := G
  refine fun pins st I => wpAny_Call_Name_kw (ld_glob I hg hm ?_ hdb)
  refine PySem.W.callWith_K (h₀ := X.base) I.ok.mod.kin g1.kp (thn ((pa_s (e :: es)).run pos pins st σ H (fun vs H' => ∃ H01, Pu H0 H H01 H' ∧ RepA X.K H01 vs ds) I (ha σ H H0 t s W tk hx _ fun vs H' H0' p r => ⟨H0', p, r⟩)) fun us s1 ⟨vs, H1, I1, r, H01, p1, q1⟩ => ⟨I1.kIn, ?_⟩) he hpl
  exact run_mk (E := WE W) g1 g3 hr g4 g5 (passAt tk σ) I1 r fun a dx h1 h2 h3 => h vs vd H1 H01 a dx p1 q1 (g6 _) h1 h2 h3
/-- a new instance, tracked as one that may change -/
theorem ht_make {K : Frag} {H0 H : Hp} {M : Mem} (t : Ht K H0 H M) {a dx : Addr} (h1 : H a = none) (h2 : H dx = none) (h3 : dx ≠ a) : Go H0 H M H0 (upd (upd H dx (.own a)) a (.ins C dx [])) ((a, .ins C [] []) :: M) ∧ Ht K H0 (upd (upd H dx (.own a)) a (.ins C dx [])) ((a, .ins C [] []) :: M) := by
  have sm : Same H (upd (upd H dx (.own a)) a (.ins C dx [])) := (same_new h2).trans (same_new (by rw [upd_ne (Ne.symm h3)]; exact h1))
  have f := t.free h1
  refine ⟨⟨Same.refl _, fun b o e _ _ => sm _ _ e, fun _ h _ _ => h, fun b hb => ?_, fun b e => NdefX.upd_none (NdefX.upd_none e)⟩, ⟨t.ex.trans sm, List.nodup_cons.mpr ⟨f.2, t.nd⟩, fun q hq => ?_, t.tb.same sm⟩⟩
  · rcases List.mem_cons.mp (show b ∈ a :: M.dom from hb) with rfl | hb
    · exact .inr h1
    · exact .inl hb
  · rcases List.mem_cons.mp hq with rfl | hq
    · exact ⟨f.1, dx, [], [], upd_same, rfl, rfl, .nil⟩
    · obtain ⟨m1, m2⟩ := t.mem q hq
      exact ⟨m1, m2.mono (Same.refl _) fun o e _ => sm _ _ e⟩
end
end Dl

namespace Dl
open PySem PySem.Spec PyProof.Rows L2
section
variable {K : Frag} {H0 H : Hp} {M : Mem}
theorem set_dom {M : Mem} {i : Nat} {p : Addr} {m m' : Mu} (h : M[i]? = some (p, m)) : Mem.dom (M.set i (p, m')) = M.dom := by
  refine List.ext_getElem? fun j => ?_
  rw [List.getElem?_map, List.getElem?_map]
  by_cases e : i = j
  · subst e
    rw [List.getElem?_set_self (List.getElem?_eq_some_iff.mp h).1, h]; rfl
  · rw [List.getElem?_set_ne e]
theorem Ht.setM (t : Ht K H0 H M) {i : Nat} {p : Addr} {o : HO} {m m' : Mu} (h : M[i]? = some (p, m)) (hm : ∀ H', H' p = some o → MuRep K H0 H' p m') : Ht K H0 (upd H p o) (M.set i (p, m')) ∧ Go H0 H M H0 (upd H p o) (M.set i (p, m')) := by
  have hp : p ∈ M.dom := List.mem_map.mpr ⟨_, List.mem_of_getElem? h, rfl⟩
  have h0 : H0 p = none := (t.mem _ (List.mem_of_getElem? h)).1
  have nx := (t.mem _ (List.mem_of_getElem? h)).2.nx
  refine ⟨⟨fun b u e => ?_, by rw [set_dom h]; exact t.nd, fun q hq => ?_, t.tb.chg nx _⟩, ⟨Same.refl _, fun b u e hb _ => ?_, fun _ h _ _ => h, fun b hb => .inl (by rw [set_dom h] at hb; exact hb), fun b e => NdefX.upd_none e⟩⟩
  · rw [upd_ne (fun z => by rw [z, h0] at e; cases e)]; exact t.ex _ _ e
  · obtain ⟨j, hj⟩ := List.mem_iff_getElem?.mp hq
    by_cases e : i = j
    · subst e
      rw [List.getElem?_set_self (List.getElem?_eq_some_iff.mp h).1] at hj
      cases hj
      exact ⟨h0, hm _ upd_same⟩
    · rw [List.getElem?_set_ne e] at hj
      have hq2 := List.mem_of_getElem? hj
      obtain ⟨a, b⟩ := t.mem q hq2
      refine ⟨a, b.mono (Same.refl _) fun o' q' _ => ?_⟩
      rw [upd_ne (fun z => ?_)]
      · exact q'
      · -- two places of one address
        have d1 : (M.dom)[i]? = some p := by rw [List.getElem?_map, h]; rfl
        have d2 : (M.dom)[j]? = some p := by rw [List.getElem?_map, hj]; show some q.1 = some p; rw [z]
        exact e (nodup_at t.nd d1 d2)
  · rw [upd_ne (fun z => hb (by rw [z]; exact hp))]; exact e
where
  nodup_at {l : List Addr} (n : l.Nodup) {i j : Nat} {p : Addr} (a : l[i]? = some p) (b : l[j]? = some p) : i = j := by
    obtain ⟨h1, e1⟩ := List.getElem?_eq_some_iff.mp a
    obtain ⟨h2, e2⟩ := List.getElem?_eq_some_iff.mp b
    exact (List.getElem_inj n).mp (e1.trans e2.symm)
end
section
variable {X : Cx} {kx : XD} {ρ ρ' ρ'' : Ro} {M M' : Mem} {P : Out → Mem → Prop} {pos p apos tpos : Pos} {a b c e o : Expr} {es : List Expr} {x y z d : D} {ds : List D} {w : Addr}
/-- xs.append(e) -/
theorem de_app {i : Nat} {k : D → Mem → Prop} (ho : DV X kx o ρ M (.adr w)) (hv : DV X kx e ρ M d) (hm : M[i]? = some (w, .lst ds)) (hl : ds.length < sizeLine) (hk : k .non (M.set i (w, .lst (ds ++ [d]))))
    (hb : attributeBase o "append" X.env (eval o X.env) = eval o X.env := by rfl)
    (hfew : ((backTo pos (starEach [e] X.env)).all (fun x => !x.1) && (backToKw pos (keywordEach [] X.env)).all (fun x => x.1.isSome) && decide ([e].length + ([] : List Keyword).length + (if ([] : List Keyword).isEmpty then 0 else 1) < 30)) = true := by rfl)
    (hline : (apos.endLine == pos.line) = true := by rfl) (hs : starEach [e] X.env = (false, eval e X.env) :: starEach [] X.env := by rfl) : DE X kx (.Call (.Attribute o "append" apos) [e] [] pos) ρ M k := fun σ H H0 t s W tk hx Q q =>
  sE.by (pe_bm PySem.F.plainAttrs_list PySem.F.slot_list_append PySem.F.type_list_append mt_append (pe_s o) (pa_s [e]) hb hfew hline hs rfl) (ho σ H H0 t s W tk hx _ fun v H1 H01 p1 r1 => by
    cases r1
    obtain ⟨_, vs, h1, h2⟩ := (t.pu p1).mem _ (List.mem_of_getElem? hm)
    refine ⟨.inl ⟨rfl, vs, SqL.of h1⟩, (da_cons hv da_nil hs : DA X kx [e] ρ M [d]) σ H1 H01 (t.pu p1) (s.mo p1.e0) W tk (hx.pu p1) _ fun us H2 H02 p2 r2 => ?_⟩
    obtain ⟨u, rfl, ru⟩ := repA1 r2
    have g1 := p2.k h1
    obtain ⟨t3, g3⟩ := (t.pu (p1.trans p2)).setM (o := .lst (vs ++ [u])) (m' := .lst (ds ++ [d])) hm fun H' e => ⟨vs ++ [u], e, (h2.mo p2.e0).app (.one ru)⟩
    exact ⟨w, vs, u, rfl, rfl, g1, by rw [h2.length]; exact hl, q .non _ H02 _ _ ((p1.trans p2).go.trans g3) t3 .non hk⟩)
theorem ds1_app {i : Nat} (ho : DV X kx o ρ M (.adr w)) (hv : DV X kx e ρ M d) (hm : M[i]? = some (w, .lst ds)) (hl : ds.length < sizeLine) (hk : P (.nx ρ) (M.set i (w, .lst (ds ++ [d]))))
    (hb : attributeBase o "append" X.env (eval o X.env) = eval o X.env := by rfl)
    (hfew : ((backTo pos (starEach [e] X.env)).all (fun x => !x.1) && (backToKw pos (keywordEach [] X.env)).all (fun x => x.1.isSome) && decide ([e].length + ([] : List Keyword).length + (if ([] : List Keyword).isEmpty then 0 else 1) < 30)) = true := by rfl)
    (hline : (apos.endLine == pos.line) = true := by rfl) (hs : starEach [e] X.env = (false, eval e X.env) :: starEach [] X.env := by rfl)
    (hs2 : swapsWith (.Call (.Attribute o "append" apos) [e] [] pos) none tpos.line X.env = pure false := by rfl) : DS1 X kx (.Expr (.Call (.Attribute o "append" apos) [e] [] pos) tpos) ρ M P :=
  ds1_expr (de_app (k := fun d' m => d' = .non ∧ m = M.set i (w, .lst (ds ++ [d]))) ho hv hm hl ⟨rfl, rfl⟩ hb hfew hline hs) (fun d' m ⟨_, e⟩ => by rw [e]; exact hk) hs2
/-- the list at w, in the slot j, will not change any more -/
theorem ds_frz {sts : List Stmt} (i j : Nat) (hm : M[i]? = some (w, .lst ds)) (hj : ρ[j]? = some (some (.adr w))) (h : DS X kx sts (ρ.set j (some (.lst ds))) (M.eraseIdx i) P) : DS X kx sts ρ M P := fun σ H H0 t s W tk hx D c => by
  obtain ⟨h0, vs, h1, h2⟩ := t.mem _ (List.mem_of_getElem? hm)
  have sm : Same H0 (upd H0 w (.lst vs)) := same_new h0
  have nd : (M.dom)[i]? = some w := by rw [List.getElem?_map, hm]; rfl
  have t' : Ht X.K (upd H0 w (.lst vs)) H (M.eraseIdx i) := by
    refine ⟨fun b o e => ?_, ?_, fun q hq => ?_, t.tb.frz h1⟩
    · by_cases hb : b = w
      · subst hb; rw [upd_same] at e; cases e; exact h1
      · rw [upd_ne hb] at e; exact t.ex _ _ e
    · exact t.nd.sublist (List.Sublist.map _ (List.eraseIdx_sublist _ _))
    · have hq1 : q ∈ M := List.mem_of_mem_eraseIdx hq
      have ne : q.1 ≠ w := fun z => by
        obtain ⟨j', hj', e1⟩ := List.mem_eraseIdx_iff_getElem?.mp hq
        have d2 : (M.dom)[j']? = some w := by rw [List.getElem?_map, e1]; show some q.1 = some w; rw [z]
        exact hj' (Ht.setM.nodup_at t.nd d2 nd)
      obtain ⟨a, b⟩ := t.mem q hq1
      exact ⟨by rw [upd_ne ne]; exact a, b.mono sm fun _ e _ => e⟩
  have g : Go H0 H M (upd H0 w (.lst vs)) H (M.eraseIdx i) := by
    refine ⟨sm, fun _ _ e _ _ => e, fun a a1 a2 a3 => ?_, fun a ha => ?_, fun _ e => e⟩
    · rw [upd_ne (fun z => a3 (by rw [z]; exact List.mem_map.mpr ⟨_, List.mem_of_getElem? hm, rfl⟩))]; exact a1
    · obtain ⟨q, hq, rfl⟩ := List.mem_map.mp ha
      exact .inl (List.mem_map.mpr ⟨q, List.mem_of_mem_eraseIdx hq, rfl⟩)
  obtain ⟨v, e1, r1⟩ := s.2 j _ hj
  cases r1
  have s' : Sl X.K (upd H0 w (.lst vs)) σ (ρ.set j (some (.lst ds))) := by
    have z := (s.mo sm).set (v := .ref w) (d := .lst ds) (.lst upd_same (h2.mo sm)) j
    have e2 : σ.set j (some (.ref w)) = σ := by
      refine List.ext_getElem? fun k => ?_
      by_cases hk : j = k
      · subst hk; rw [List.getElem?_set_self (List.getElem?_eq_some_iff.mp e1).1, e1]
      · rw [List.getElem?_set_ne hk]
    rw [e2] at z
    exact z
  exact h σ H _ t' s' W tk (hx.step g) D (c.step g)
/-! ### o.f = e -/
def putD (f : Str) (d : D) : List Str → List D → List Str × List D
  | n :: ns, x :: xs => if n = f then (n :: ns, d :: xs) else ((n :: (putD f d ns xs).1), (x :: (putD f d ns xs).2))
  | _, _ => ([f], [d])
theorem putD_rep {K : Frag} {H : Hp} {f : Str} {v : V} {d : D} (r : Rep K H v d) : ∀ {vs : List (Str × V)} {ds : List D}, RepA K H (vs.map Prod.snd) ds →
    (putF f v vs).map Prod.fst = (putD f d (vs.map Prod.fst) ds).1 ∧ RepA K H ((putF f v vs).map Prod.snd) (putD f d (vs.map Prod.fst) ds).2
  | [], ds, h => by
    cases h
    exact ⟨rfl, .one r⟩
  | (n, u) :: vs, _, h => by
    have h' : RepA K H (u :: vs.map Prod.snd) _ := h
    cases h' with
    | @cons _ _ x xs h1 h2 =>
      obtain ⟨i1, i2⟩ := putD_rep (f := f) r h2
      show (if n = f then (n, v) :: vs else (n, u) :: putF f v vs).map Prod.fst = (if n = f then (n :: vs.map Prod.fst, d :: xs) else ((n :: (putD f d (vs.map Prod.fst) xs).1), (x :: (putD f d (vs.map Prod.fst) xs).2))).1 ∧
        RepA K H ((if n = f then (n, v) :: vs else (n, u) :: putF f v vs).map Prod.snd) (if n = f then (n :: vs.map Prod.fst, d :: xs) else ((n :: (putD f d (vs.map Prod.fst) xs).1), (x :: (putD f d (vs.map Prod.fst) xs).2))).2
      by_cases e : n = f
      · rw [if_pos e, if_pos e]
        exact ⟨rfl, .cons r h2⟩
      · rw [if_neg e, if_neg e]
        exact ⟨by rw [List.map_cons, i1], .cons h1 i2⟩
theorem ds1_fld {i : Nat} {f : Str} {C : Addr} {ns ns' : List Str} {ds' : List D} (cl : Cls X.K C) (na : NoAttr X.K C f) (hv : DV X kx e ρ M d) (ho : DV X kx o ρ M (.adr w)) (hm : M[i]? = some (w, .ins C ns ds)) (hl : ns.length < 1000) (hp : putD f d ns ds = (ns', ds')) (hk : P (.nx ρ) (M.set i (w, .ins C ns' ds')))
    (hs : swapsWith e (some (.Attribute o f apos)) pos.line X.env = pure false := by rfl) : DS1 X kx (.Assign [.Attribute o f apos] e pos) ρ M P := fun σ H H0 t s W tk hx D c =>
  sS.by (ps_fld (pe_s o) (pe_s e) hs) (hv σ H H0 t s W tk hx _ fun v H1 H01 p1 r1 => ho σ H1 H01 (t.pu p1) (s.mo p1.e0) W tk (hx.pu p1) _ fun u H2 H02 p2 r2 => by
    cases r2
    have p12 := p1.trans p2
    obtain ⟨_, dx, vs, xs, h1, rfl, rfl, h4⟩ := (t.pu p12).mem _ (List.mem_of_getElem? hm)
    obtain ⟨i1, i2⟩ := putD_rep (f := f) (r1.mo p2.e0) h4
    rw [hp] at i1 i2
    obtain ⟨t3, g3⟩ := (t.pu p12).setM (o := .ins C dx (putF f v vs)) (m' := .ins C ns' ds') hm fun H' e => ⟨dx, putF f v vs, _, e, i1, rfl, i2⟩
    exact ⟨w, C, dx, vs, rfl, h1, cl, na, by rw [List.length_map] at hl; exact hl, c.nx σ _ H02 ρ _ (p12.go.trans g3) t3 (s.mo p12.e0) hk⟩)
end
/-! ### what is left behind a def: that it never changes any more -/
section
variable {K : Frag} {H0 H : Hp} {M : Mem}
theorem Ht.frz1 (t : Ht K H0 H M) {i : Nat} {w : Addr} {ds : List D} (hm : M[i]? = some (w, .lst ds)) : ∃ H0', Same H0 H0' ∧ Ht K H0' H (M.eraseIdx i) ∧ Rep K H0' (.ref w) (.lst ds) ∧ Go H0 H M H0' H (M.eraseIdx i) := by
  obtain ⟨h0, vs, h1, h2⟩ := t.mem _ (List.mem_of_getElem? hm)
  have sm : Same H0 (upd H0 w (.lst vs)) := same_new h0
  have nd : (M.dom)[i]? = some w := by rw [List.getElem?_map, hm]; rfl
  refine ⟨_, sm, ⟨fun b o e => ?_, t.nd.sublist (List.Sublist.map _ (List.eraseIdx_sublist _ _)), fun q hq => ?_, t.tb.frz h1⟩, .lst upd_same (h2.mo sm), ⟨sm, fun _ _ e _ _ => e, fun a a1 a2 a3 => ?_, fun a ha => ?_, fun _ e => e⟩⟩
  · by_cases hb : b = w
    · subst hb; rw [upd_same] at e; cases e; exact h1
    · rw [upd_ne hb] at e; exact t.ex _ _ e
  · have ne : q.1 ≠ w := fun z => by
      obtain ⟨j', hj', e1⟩ := List.mem_eraseIdx_iff_getElem?.mp hq
      have d2 : (M.dom)[j']? = some w := by rw [List.getElem?_map, e1]; show some q.1 = some w; rw [z]
      exact hj' (Ht.setM.nodup_at t.nd d2 nd)
    obtain ⟨a, b⟩ := t.mem q (List.mem_of_mem_eraseIdx hq)
    exact ⟨by rw [upd_ne ne]; exact a, b.mono sm fun _ e _ => e⟩
  · rw [upd_ne (fun z => a3 (by rw [z]; exact List.mem_map.mpr ⟨_, List.mem_of_getElem? hm, rfl⟩))]; exact a1
  · obtain ⟨q, hq, rfl⟩ := List.mem_map.mp ha
    exact .inl (List.mem_map.mpr ⟨q, List.mem_of_mem_eraseIdx hq, rfl⟩)
/-- an object that never changes any more -/
theorem Ht.frzI (t : Ht K H0 H M) {i : Nat} {w C : Addr} {ns : List Str} {ds : List D} (hm : M[i]? = some (w, .ins C ns ds)) : ∃ H0', Same H0 H0' ∧ Ht K H0' H (M.eraseIdx i) ∧ Rep K H0' (.ref w) (.ins C ns ds) ∧ Go H0 H M H0' H (M.eraseIdx i) := by
  obtain ⟨h0, dx, vs, xs, h1, h2, h3, h4⟩ := t.mem _ (List.mem_of_getElem? hm)
  have sm : Same H0 (upd H0 w (.ins C dx vs)) := same_new h0
  have nd : (M.dom)[i]? = some w := by rw [List.getElem?_map, hm]; rfl
  refine ⟨_, sm, ⟨fun b o e => ?_, t.nd.sublist (List.Sublist.map _ (List.eraseIdx_sublist _ _)), fun q hq => ?_, t.tb.frz h1⟩, .ins upd_same h2 h3 (h4.mo sm), ⟨sm, fun _ _ e _ _ => e, fun a a1 a2 a3 => ?_, fun a ha => ?_, fun _ e => e⟩⟩
  · by_cases hb : b = w
    · subst hb; rw [upd_same] at e; cases e; exact h1
    · rw [upd_ne hb] at e; exact t.ex _ _ e
  · have ne : q.1 ≠ w := fun z => by
      obtain ⟨j', hj', e1⟩ := List.mem_eraseIdx_iff_getElem?.mp hq
      have d2 : (M.dom)[j']? = some w := by rw [List.getElem?_map, e1]; show some q.1 = some w; rw [z]
      exact hj' (Ht.setM.nodup_at t.nd d2 nd)
    obtain ⟨a, b⟩ := t.mem q (List.mem_of_mem_eraseIdx hq)
    exact ⟨by rw [upd_ne ne]; exact a, b.mono sm fun _ e _ => e⟩
  · rw [upd_ne (fun z => a3 (by rw [z]; exact List.mem_map.mpr ⟨_, List.mem_of_getElem? hm, rfl⟩))]; exact a1
  · obtain ⟨q, hq, rfl⟩ := List.mem_map.mp ha
    exact .inl (List.mem_map.mpr ⟨q, List.mem_of_mem_eraseIdx hq, rfl⟩)
variable {X : Cx} {kx : XD} {ρ : Ro} {e : Expr}
/-- what an expression made and may change, is laid for ever -/
theorem DE.frz {k k' : D → Mem → Prop} (h : DE X kx e ρ M k') (hk : ∀ d m, k' d m → ∃ w ds i, d = .adr w ∧ m[i]? = some (w, .lst ds) ∧ k (.lst ds) (m.eraseIdx i)) : DE X kx e ρ M k := fun σ H H0 t s W tk hx Q q =>
  h σ H H0 t s W tk hx Q fun v H' H0' d M' g t' r kk => by
    obtain ⟨w, ds, i, rfl, hm, k2⟩ := hk d M' kk
    cases r
    obtain ⟨H0s, sm, t2, r2, g2⟩ := t'.frz1 hm
    exact q _ H' H0s _ _ (g.trans g2) t2 r2 k2
/-- a list that is made and never changed: a value -/
theorem DE.dv {d : D} (h : DE X kx e ρ M fun d' m => d' = d ∧ m = M) (hp : ∀ (H0 H H0' H' : Hp), Ht X.K H0 H M → Go H0 H M H0' H' M → Ht X.K H0' H' M → Pu H0 H H0' H') : DV X kx e ρ M d := fun σ H H0 t s W tk hx Q q =>
  h σ H H0 t s W tk hx Q fun v H' H0' d' M' g t' r ⟨e1, e2⟩ => by subst e1; subst e2; exact q v H' H0' (hp _ _ _ _ t g t') r
end
section
variable {X : Cx} {kx : XD} {ρ : Ro} {M : Mem} {pos : Pos} {α : Type} {N : List Str} {sc csc : Scope} {k : Nat} {tg e : Expr}
/-- [elt for tg in e if ..], a list that never changes -/
theorem dv_lc {own : List (Str × Nat)} {elt : Expr} {ifs : List Expr} {xs : List α} {enc : α → D} {cnd : α → Bool} {f : α → D} (B : Bd X N sc k) (hi : DI X kx tg e ρ M (xs.map enc)) (ok : BlkOk N sc csc own) (hl : xs.length < sizeLine)
    (h : ∀ x, x ∈ xs → LcB X N sc csc k own tg elt ifs ρ M (enc x) (cnd x) (f x)) (hs : ∀ x, foldedSetIterable e X.env x = pure x := by intro _; rfl) : DV X kx (.ListComp elt [⟨tg, e, ifs, 0⟩] csc pos) ρ M (.lst (outs xs cnd f)) := fun σ H H0 t s W tk hx Q q => by
  refine sE.by (pe_lc (g := uG X csc tg) (tt := uT X csc ifs) (te := uE X csc elt) B.calm (by rw [B.hN]; exact B.hnd) (pi_s tg e) (by rw [B.hN, B.hsc]; exact ok) (fun s H C cl fp => ?_) (fun s H C cl fp => ?_) (fun s H C cl fp => ?_) hs) ?_
  · exact ⟨fun pins s' σ' H' v u Q' I r h => h s H C cl fp pins s' u I r⟩
  · exact ⟨fun pins s' σ' H' Q' I h => h s H C cl fp pins s' I⟩
  · exact ⟨fun pins s' σ' H' Q' I h => h s H C cl fp pins s' I⟩
  · refine lc_read (cnd := cnd) (f := f) hi B hl h t s tk hx fun w H' H0' g t' hw hk => ?_
    obtain ⟨H0s, sm, t2, r2, g2⟩ := t'.frz1 (i := 0) rfl
    have g3 := g.trans g2
    refine q (.ref w) H' H0s ⟨g3.e0, hk, t2.ex, fun a h1 h2 => ?_, g3.there, fun _ => t2.tb⟩ r2
    by_cases ha : a ∈ M.dom
    · obtain ⟨m, hm, rfl⟩ := List.mem_map.mp ha
      exact (t2.mem m hm).1
    · exact g3.new a h1 h2 ha
end
end Dl

namespace Dl
open PySem PySem.Spec PyProof.Rows L2
/-! ### built-ins by name -/
theorem bt_len : bootBuiltins "len" = some (.builtin "len") := by first | exact PySem.boot_len | exact PyProof.Rows.boot_len | exact PySem.W.boot_len | exact PySem.Calls.boot_len | decide +kernel
theorem bt_min : bootBuiltins "min" = some (.builtin "min") := by first | exact PySem.boot_min | exact PyProof.Rows.boot_min | exact PySem.W.boot_min | exact PySem.Calls.boot_min | decide +kernel
theorem bt_max : bootBuiltins "max" = some (.builtin "max") := by first | exact PySem.boot_max | exact PyProof.Rows.boot_max | exact PySem.W.boot_max | exact PySem.Calls.boot_max | decide +kernel
theorem bt_all : bootBuiltins "all" = some (.builtin "all") := by first | exact PySem.boot_all | exact PyProof.Rows.boot_all | exact PySem.W.boot_all | exact PySem.Calls.boot_all | decide +kernel
theorem bt_sorted : bootBuiltins "sorted" = some (.builtin "sorted") := by first | exact PySem.boot_sorted | exact PyProof.Rows.boot_sorted | exact PySem.W.boot_sorted | exact PySem.Calls.boot_sorted | decide +kernel
theorem bt_isinstance : bootBuiltins "isinstance" = some (.builtin "isinstance") := by first | exact PySem.boot_isinstance | exact PyProof.Rows.boot_isinstance | exact PySem.W.boot_isinstance | exact PySem.Calls.boot_isinstance | decide +kernel
theorem bt_list : bootBuiltins "list" = some (.type "list") := by first | exact PySem.boot_list | exact PyProof.Rows.boot_list | exact PySem.W.boot_list | exact PySem.Calls.boot_list | decide +kernel
theorem bt_str : bootBuiltins "str" = some (.type "str") := by first | exact PySem.boot_str | exact PyProof.Rows.boot_str | exact PySem.W.boot_str | exact PySem.Calls.boot_str | decide +kernel
theorem bt_range : bootBuiltins "range" = some (.type "range") := by first | exact PySem.boot_range | exact PyProof.Rows.boot_range | exact PySem.W.boot_range | exact PySem.Calls.boot_range | decide +kernel
theorem bt_zip : bootBuiltins "zip" = some (.type "zip") := by first | exact PySem.boot_zip | exact PyProof.Rows.boot_zip | exact PySem.W.boot_zip | exact PySem.Calls.boot_zip | decide +kernel
/-! ### a def of the top -/
/-- the def st stands at the name x with all its parameters given -/
def FunT (K : Frag) (mg : Str → Option Value) (x : Str) (st : Stmt) (ps : List Str) : Prop := ∃ f fd, Fun K x x st f fd ∧ mg x = some (.ref f) ∧ Binds K fd ps []
theorem FunT.gf {P : Program} {w : World} {K : Frag} {mg : Str → Option Value} {base : Heap} {x : Str} {st : Stmt} {ps : List Str} {k : Nat} {sp : Sp} (T : FunT K mg x st ps) (h : ∀ f fd, Fun K x x st f fd → FnOk P w K mg base (L2.CX P w) k f fd ps sp) : GF P w K mg base k x [] sp := by
  obtain ⟨f, fd, F, g, b⟩ := T
  exact ⟨f, fd, ps, [], [], g, F.kp, h f fd F, b, .nil, fun _ => .nil⟩
theorem fscope {N ps : List Str} {sc : Scope} (h : (match sc.kind with | .function => true | _ => false) && !sc.isCoroutine && !sc.isGenerator && decide N.Nodup && decide (N.take ps.length = ps) &&
    (ps.all fun x => match sc.names.lookup x with | some .local => true | some .cell => true | _ => false) && (sc.names.all fun y => match y.2 with | .free => false | _ => true)) : FnScope N ps sc := by
  simp only [Bool.and_eq_true, List.all_eq_true, decide_eq_true_eq, Bool.not_eq_true'] at h
  obtain ⟨⟨⟨⟨⟨⟨h1, h2⟩, h3⟩, h4⟩, h5⟩, h6⟩, h7⟩ := h
  refine ⟨?_, h2, h3, h4, h5, fun x hx => ?_, fun y hy e => ?_⟩
  · split at h1
    · assumption
    · cases h1
  · have q := h6 x hx
    split at q
    · exact .inl (by assumption)
    · exact .inr (by assumption)
    · cases q
  · have q := h7 y hy
    rw [e] at q; cases q
theorem vloc {sc : Scope} {x : Str} (h : sc.names.lookup x = some .local) : Vis sc x := .inl h
theorem vcel {sc : Scope} {x : Str} (h : sc.names.lookup x = some .cell) : Vis sc x := .inr (.inl h)
/-! ### least and greatest -/
def minI (l : List Int) : Int := (l.min?).getD 0
def maxI (l : List Int) : Int := (l.max?).getD 0
section
variable {X : Cx} {kx : XD} {ρ ρ' ρ'' : Ro} {M M' : Mem} {P : Out → Mem → Prop} {pos p : Pos} {tg a b c e : Expr} {es : List Expr} {x y z : D} {f : Str}
/-- an item at an open place -/
theorem atI_map {α : Type} {xs : List α} {f : α → D} {i : Int} {v : α} (h0 : 0 ≤ i) (h : xs[i.toNat]? = some v) : atI (xs.map f) i = some (f v) := by
  have e : i = ((i.toNat : Nat) : Int) := by omega
  rw [e]
  exact atI_nat (by rw [List.getElem?_map, h]; rfl)
theorem atI_neg {α : Type} {xs : List α} {f : α → D} {i : Int} (v : α) (h0 : i < 0) (h : -(xs.length : Int) ≤ i) : atI (xs.map f) i = some (f (xs.getD (i + xs.length).toNat v)) := by
  unfold atI ixN
  rw [List.length_map, if_neg (by omega), if_pos h, Option.bind_some, List.getElem?_map, List.getD_eq_getElem?_getD, List.getElem?_eq_getElem (by omega)]; rfl
/-- a menu of numbers -/
def menu (l : List Int) (i : Int) : Int := l.getD i.toNat 0
/-! ### lists put together -/
theorem r2_cat {ds us : List D} (h1 : SeqO M x ds) (h2 : SeqO M y us) (hl : ds.length + us.length ≤ sizeLine) : R2D X.K rCat M x y (.lst (ds ++ us)) := fun v u H H0 t r1 r2 Q q => by
  obtain ⟨p1, xs, rfl, a1, b1⟩ := h1.rep t r1
  obtain ⟨p2, ys, rfl, a2, b2⟩ := h2.rep t r2
  refine ⟨p1, p2, xs, ys, rfl, rfl, a1, a2, by rw [b1.length, b2.length]; exact hl, fun w hw => ?_⟩
  have g := Pu.new1 t.ex hw (.lst (xs ++ ys))
  exact q _ _ _ g (.lst upd_same ((b1.app b2).mo g.e0))
theorem dv_cat {ds us : List D} (ha : DV X kx a ρ M x) (hb : DV X kx b ρ M y) (h1 : SeqO M x ds) (h2 : SeqO M y us) (hl : ds.length + us.length ≤ sizeLine) : DV X kx (.BinOp a .Add b pos) ρ M (.lst (ds ++ us)) := dv_op op_cat (r2_cat h1 h2 hl) ha hb
end
/-! ### side conditions -/
theorem szN {α : Type} {l : List α} (n : Nat) (h : l.length = n) (h2 : n ≤ 1000 := by decide) : l.length ≤ sizeLine := by
  rw [h, sizeLine_eq]; omega
theorem sz_le {n : Nat} (h : n ≤ 100000) : n ≤ sizeLine := by rw [sizeLine_eq]; omega
theorem sz_lt {n : Nat} (h : n ≤ 100000) : n < sizeLine := by rw [sizeLine_eq]; omega
/-- a product that is not too great -/
def MulOk (i j : Int) : Prop := CMul i j ∨ CMulW i j
theorem mok_l {i j : Int} (h1 : -(2 ^ 64) < i) (h2 : i < 2 ^ 64) : MulOk i j := .inl (.inl ⟨h1, h2⟩)
theorem mok_w {i j : Int} {a b : Nat} (ha : i.natAbs < 2 ^ a) (hb : j.natAbs < 2 ^ b) (h : a + b ≤ 900000) : MulOk i j :=
  .inr (wide_mul (a := a + 1) (b := b + 1) (Nat.lt_of_lt_of_le ha (Nat.pow_le_pow_right (by decide) (by omega))) (Nat.lt_of_lt_of_le hb (Nat.pow_le_pow_right (by decide) (by omega))) (by omega) (by omega) (by omega))
/-- below 2 ^ 300 either way -/
def Big (i : Int) : Prop := -(2 ^ 300) < i ∧ i < 2 ^ 300
theorem mok_b {i j : Int} (ha : Big i) (hb : Big j) : MulOk i j := by
  have h : ∀ {i : Int}, Big i → i.natAbs < 2 ^ 300 := fun {i} h => by
    obtain ⟨h1, h2⟩ := h
    omega
  exact mok_w (h ha) (h hb) (by omega)
theorem mok_c {i j : Int} (h : -(2 ^ 64) < i ∧ i < 2 ^ 64 ∨ -(2 ^ 64) < j ∧ j < 2 ^ 64) : MulOk i j := .inl h
theorem div_c {i j : Int} (h1 : 0 < j) (h2 : j < 2 ^ 300) : CDivW i j := wide_div (b := 300) h1 (by omega) (by decide) (by decide)
section
variable {X : Cx} {kx : XD} {ρ : Ro} {M : Mem} {P : Out → Mem → Prop} {pos p tpos : Pos} {a b c e : Expr} {i j : Int} {x d : D} {k : Bool}
theorem dv_mulX (ha : DV X kx a ρ M (.int i)) (hb : DV X kx b ρ M (.int j)) (h : MulOk i j) : DV X kx (.BinOp a .Mult b pos) ρ M (.int (i * j)) := by
  rcases h with h | h
  · exact dv_mul ha hb h
  · exact dv_mulW ha hb h
/-- x = [..], a list that will change -/
theorem ds1_newL {s : Nat} {v : Str} {p2 : Pos} {es : List Expr} {ds : List D} (nn : Ns X s v) (h : DA X kx es ρ M ds) (hl : ds.length ≤ sizeLine) (hp : ∀ w, w ∉ M.dom → P (.nx (ρ.set s (some (.adr w)))) ((w, .lst ds) :: M))
    (hs : swapsWithSole [.Name v p2] (.List es p) pos.line X.env = pure false := by rfl) (hw : swappedStores [.Name v p2] (.List es p) X.env = pure none := by rfl) : DS1 X kx (.Assign [.Name v p2] (.List es p) pos) ρ M P :=
  ds1_setE (k := fun d m => ∃ w, w ∉ M.dom ∧ d = .adr w ∧ m = (w, .lst ds) :: M) nn (de_lst h hl fun w hw => ⟨w, hw, rfl, rfl⟩) (fun d m ⟨w, h1, h2, h3⟩ => by subst h2; subst h3; exact hp w h1) hs hw
/-- x = e, where e makes a list that will change -/
theorem ds1_newE {s : Nat} {v : Str} {p2 : Pos} {ds : List D} (nn : Ns X s v) (h : DE X kx e ρ M fun d m => ∃ w, w ∉ M.dom ∧ d = .adr w ∧ m = (w, .lst ds) :: M) (hp : ∀ w, w ∉ M.dom → P (.nx (ρ.set s (some (.adr w)))) ((w, .lst ds) :: M))
    (hs : swapsWithSole [.Name v p2] e pos.line X.env = pure false := by rfl) (hw : swappedStores [.Name v p2] e X.env = pure none := by rfl) : DS1 X kx (.Assign [.Name v p2] e pos) ρ M P :=
  ds1_setE (k := fun d m => ∃ w, w ∉ M.dom ∧ d = .adr w ∧ m = (w, .lst ds) :: M) nn h (fun d m ⟨w, h1, h2, h3⟩ => by subst h2; subst h3; exact hp w h1) hs hw
end
/-! ### the end of a law -/
theorem FunT.mk {K : Frag} {h : Heap} {mg : Str → Option Value} (X : K.In h) (G : h.Ns mainGlobals mg) {x : Str} {st : Stmt} {ps : List Str} {f : Addr} {od an : Option Addr} {sl : Array (Option Value)} {oc kV dc pm cd ct : Value}
    (a : PySem.W.nsIn K mainGlobals x = some (some (.ref f))) (l : K.lookup f = some ⟨oc, od, .func (PySem.W.fnOf x x (defArgs st) (defBody st) (defScope st) .none kV dc pm an cd ct), sl⟩) (c : PySem.W.codeIn K cd x = true) (k : PySem.W.keepIn K (.ref f) = true)
    (b : ∀ (kV doc pm : Value) (an : Option Addr) (cdv ct : Value) (us : List Value), us.length = ps.length → bindArgs (PySem.W.fnOf x x (defArgs st) (defBody st) (defScope st) .none kV doc pm an cdv ct) ⟨us, []⟩ = pure (ps.zip us)) : FunT K mg x st ps :=
  have F := fun_mk (st := st) l c k
  ⟨f, _, F, PySem.W.mg_of X G a, F.binds b⟩
/-- the promise of the law itself -/
def spLaw (K : Frag) : Sp := spP K (fun q : List Int => [.scr (q.map D.int)]) (fun q => q.length ≤ 63) (fun _ d => d = .bl true) (fun _ _ _ => False)
end Dl

namespace Dl
open PySem PySem.Spec PyProof.Rows L2
/-! ### encodings by which == is = -/
theorem pyA_map : ∀ xs : List D, D.pyA xs = xs.map D.py
  | [] => by simp [D.pyA]
  | x :: xs => by simp [D.pyA, pyA_map xs]
theorem flatA_all : ∀ xs : List D, D.flatA xs = xs.all D.flat
  | [] => by simp [D.flatA]
  | x :: xs => by simp [D.flatA, flatA_all xs]
theorem depth_all : ∀ (xs : List PyData) (n : Nat), (∀ x ∈ xs, x.depth ≤ n) → PyData.depthAll xs ≤ n
  | [], n, _ => by simp [PyData.depthAll]
  | x :: xs, n, h => by
    simp only [PyData.depthAll]
    have h1 := h x List.mem_cons_self
    have h2 := depth_all xs n fun y hy => h y (List.mem_cons_of_mem _ hy)
    omega
/-- an encoding: clean, of small depth, one to one -/
structure En {α : Type} (n : Nat) (f : α → D) : Prop where
  flat : ∀ x, (f x).flat = true
  lay : ∀ x, PyData.canLay0 (f x).py = true
  depth : ∀ x, (f x).py.depth ≤ n
  eqv : ∀ x y, PyData.eqv (f x).py (f y).py = true ↔ x = y
/-- the same of a row of things -/
structure EnL {α : Type} (n : Nat) (F : α → List D) : Prop where
  flat : ∀ x, D.flatA (F x) = true
  lay : ∀ x, PyData.canLayAll0 (D.pyA (F x)) = true
  depth : ∀ x, PyData.depthAll (D.pyA (F x)) ≤ n
  eqv : ∀ x y, PyData.eqvAll (D.pyA (F x)) (D.pyA (F y)) = true ↔ x = y
section
variable {α β : Type} {n m : Nat} {f : α → D} {F : α → List D} {G : β → List D}
theorem En.mono (h : En n f) (l : n ≤ m) : En m f := ⟨h.flat, h.lay, fun x => Nat.le_trans (h.depth x) l, h.eqv⟩
theorem En.eqs [DecidableEq α] (h : En n f) (x y : α) (hn : n ≤ 64 := by decide) : Eqs (f x) (f y) (decide (x = y)) := by
  refine ⟨h.flat x, h.flat y, ?_, ?_, ?_⟩
  · have := h.depth x
    unfold SeqAt.shaped; rw [h.lay, Bool.true_and, decide_eq_true_eq]; omega
  · have := h.depth y
    unfold SeqAt.shaped; rw [h.lay, Bool.true_and, decide_eq_true_eq]; omega
  · refine Bool.eq_iff_iff.mpr ?_
    rw [decide_eq_true_iff]; exact h.eqv x y
theorem En.refl [DecidableEq α] (h : En n f) (x : α) (hn : n ≤ 64 := by decide) : Eqs (f x) (f x) true := by
  have := h.eqs x x hn
  rw [decide_eq_true rfl] at this
  exact this
end
def dOpt {α : Type} (f : α → D) : Option α → D
  | none => .non
  | some x => f x
theorem isNon_opt {α : Type} {f : α → D} (hn : ∀ x, (f x).isNon = false) (o : Option α) : (dOpt f o).isNon = o.isNone := by
  cases o with
  | none => rfl
  | some x => exact hn x
end Dl

/-! ### list(reversed(a list)), at the library's level -/
namespace RT
open PySem PySem.Spec PySem.W PyProof.Rows PySem.Calls
section
variable {prog : Program} {w : World} {A : Around} {E : Value → Shared → Prop} {s : Shared}
end
end RT
namespace Dl
open PySem PySem.Spec PyProof.Rows L2
def cutD' {α : Type} (xs : List α) (lo hi : Option Int) : List α := (xs.drop (HT.sIx xs.length 0 lo)).take (HT.sIx xs.length xs.length hi - HT.sIx xs.length 0 lo)
theorem cutD_map {α : Type} (xs : List α) (f : α → D) (lo hi : Option Int) : cutD (xs.map f) lo hi = (cutD' xs lo hi).map f := by
  unfold cutD cutD'
  rw [List.length_map, ← List.map_drop, ← List.map_take]
section
variable {X : Cx} {kx : XD} {ρ ρ' ρ'' : Ro} {M M' : Mem} {P : Out → Mem → Prop} {pos p : Pos} {tg a b c e : Expr} {es : List Expr} {x y z : D} {f : Str} {α : Type} {xs : List α}
theorem dt_chain {op op' : CmpOp} {g g' : Int → Int → Bool} {i j k : Int} (ho : OpR X (compareOp op) (rI0 fun i j => .bl (g i j))) (ho' : OpR X (compareOp op') (rI0 fun i j => .bl (g' i j))) (ha : DV X kx a ρ M (.int i)) (hb : DV X kx b ρ M (.int j)) (hc : DV X kx c ρ M (.int k))
    (hm : lastMarks [op, op'] [b, c] = false := by with_unfolding_all rfl) : DT X kx (.Compare a [op, op'] [b, c] pos) ρ M (g i j && g' j k) := fun σ H H0 t s W tk hx Q q =>
  sT.by (pt_chain ho ho' (pe_s a) (pe_s b) (pe_s c) hm) (ha σ H H0 t s W tk hx _ fun v H1 H01 p1 r1 => hb σ H1 H01 (t.pu p1) (s.mo p1.e0) W tk (hx.pu p1) _ fun u H2 H02 p2 r2 => by
    cases r1; cases r2
    have p12 := p1.trans p2
    refine ⟨i, j, rfl, rfl, g i j, rfl, ?_⟩
    cases hg : g i j with
    | true => exact iteT (hc σ H2 H02 (t.pu p12) (s.mo p12.e0) W tk (hx.pu p12) _ fun w H3 H03 p3 r3 => by cases r3; exact ⟨j, k, rfl, rfl, _, rfl, by rw [hg, Bool.true_and] at q; exact q H3 H03 (p12.trans p3)⟩)
    | false => exact iteF ⟨false, rfl, by rw [hg, Bool.false_and] at q; exact q H2 H02 p12⟩)
end
end Dl

namespace Dl
open PySem PySem.Spec PyProof.Rows L2
section
variable {X : Cx} {kx : XD} {ρ ρ' ρ'' : Ro} {M M' : Mem} {P : Out → Mem → Prop} {pos p : Pos} {tg a b c e : Expr} {es : List Expr} {x y z : D} {f : Str} {α : Type} {xs ys : List α}
theorem dv_slM {g : α → D} {lo hi : Option Expr} {p2} {i j : Option Int} (ha : DV X kx a ρ M x) (hq : SeqL M x (xs.map g)) (hl : DO X kx lo ρ M i) (hh : DO X kx hi ρ M j) : DV X kx (.Subscript a (.Slice lo hi none p2) pos) ρ M (.lst ((cutD' xs i j).map g)) :=
  DV.is (dv_slS ha hq hl hh) (by rw [cutD_map])
theorem dv_lenM {g : α → D} (n : Bn X f (.builtin "len")) (ha : DV X kx e ρ M x) (h : SeqL M x (xs.map g)) (he : starEach [e] X.env = (false, eval e X.env) :: starEach [] X.env := by rfl) : DV X kx (.Call (.Name f p) [e] [] pos) ρ M (.int (xs.length : Int)) := by
  have h' : Seq M x (xs.map g) := by
    cases h with
    | lst _ => exact .lst _
    | scr _ => exact .scr _
    | adr q => exact .adr q
  have r := dv_len (pos := pos) (p := p) n ha h' he
  rw [List.length_map] at r
  exact r
theorem dv_catM {g : α → D} (ha : DV X kx a ρ M x) (hb : DV X kx b ρ M y) (h1 : SeqO M x (xs.map g)) (h2 : SeqO M y (ys.map g)) (hl : xs.length + ys.length ≤ sizeLine) : DV X kx (.BinOp a .Add b pos) ρ M (.lst ((xs ++ ys).map g)) := by
  rw [List.map_append]
  exact dv_cat ha hb h1 h2 (by rw [List.length_map, List.length_map]; exact hl)
end
/-! ### x = [.. for ..] -/
section
variable {X : Cx} {kx : XD} {ρ : Ro} {M : Mem} {P : Out → Mem → Prop} {pos spos py : Pos} {α : Type} {N : List Str} {sc csc : Scope} {k i : Nat} {y : Str} {tg e : Expr}
theorem ds1_setLc0 {own : List (Str × Nat)} {elt : Expr} {ifs : List Expr} {xs : List α} {enc : α → D} {cnd : α → Bool} {f : α → D} {d : D} (B : Bd X N sc k) (n : Ns X i y) (hi : DI X kx tg e ρ M (xs.map enc)) (ok : BlkOk N sc csc own) (hlen : xs.length < sizeLine)
    (h : ∀ x, x ∈ xs → LcB X N sc csc k own tg elt ifs ρ M (enc x) (cnd x) (f x)) (hd : D.lst (outs xs cnd f) = d) (hp : P (.nx (ρ.set i (some d))) M) (hyl : sc.names.lookup y = some .local := by rfl) (hk : sc.kind = .function := by rfl) (hl : (py.line == pos.line) = true := by rfl)
    (ha : (csc.names.any fun (n, k) => n == y && (k == .local || k == .cell)) = false := by rfl) (hs : ∀ x, foldedSetIterable e X.env x = pure x := by intro _; rfl) : DS1 X kx (.Assign [.Name y py] (.ListComp elt [⟨tg, e, ifs, 0⟩] csc pos) spos) ρ M P := fun σ H H0 t s W tk hx D c => by
  subst hd
  have hy2 : X.env.scope.names.lookup y = some .local := by rw [B.hsc]; exact hyl
  refine sS.by (ps_setLc (g := uG X csc tg) (tt := uT X csc ifs) (te := uE X csc elt) B.calm (by rw [B.hN]; exact B.hnd) n.get hy2 (sw_true (by rw [B.hsc]; exact hk) hy2 hl ha) (pi_s tg e) (by rw [B.hN, B.hsc]; exact ok) (fun s H C cl fp => ?_) (fun s H C cl fp => ?_) (fun s H C cl fp => ?_) hs) ?_
  · exact ⟨fun pins s' σ' H' v u Q' I r h => h s H C cl fp pins s' u I r⟩
  · exact ⟨fun pins s' σ' H' Q' I h => h s H C cl fp pins s' I⟩
  · exact ⟨fun pins s' σ' H' Q' I h => h s H C cl fp pins s' I⟩
  · refine lc_read (Q := fun x H1 => gName i x σ H1 D.nx) (cnd := cnd) (f := f) hi B hlen h t s tk hx fun w H' H0' g t' hw hk => ?_
    obtain ⟨H0s, sm, t2, r2, g2⟩ := t'.frz1 (i := 0) rfl
    have g3 := g.trans g2
    exact c.nx _ H' H0s _ M ⟨g3.e0, g3.e, g3.new, fun a ha => .inl ha, g3.there⟩ t2 ((s.mo g3.e0).set r2 i) hp
end
theorem cut_to {α : Type} (xs : List α) {i : Int} (h : 0 ≤ i) : cutD' xs none (some i) = xs.take i.toNat := by
  unfold cutD'
  have e : HT.sIx xs.length xs.length (some i) = min i.toNat xs.length := by
    rw [show (some i : Option Int) = some ((i.toNat : Nat) : Int) by rw [Int.toNat_of_nonneg h]]
    exact HT.sIx_nat _ _ _
  rw [HT.sIx_none, e, List.drop_zero, Nat.sub_zero]
  by_cases q : i.toNat ≤ xs.length
  · rw [Nat.min_eq_left q]
  · rw [Nat.min_eq_right (by omega), List.take_of_length_le (Nat.le_refl _), List.take_of_length_le (by omega)]
theorem big_of {i : Int} (h1 : -1000000000000000000000000000000000000000000000000000000000000000000000000000000000000000000 < i) (h2 : i < 1000000000000000000000000000000000000000000000000000000000000000000000000000000000000000000) : Big i :=
  ⟨Int.lt_of_le_of_lt (by decide +kernel) h1, Int.lt_of_lt_of_le h2 (by decide +kernel)⟩
end Dl

/-! what a def computes, as a plain function: it ends well, it raises, or it is out of what is promised -/
namespace Dl
open PySem PySem.Spec PyProof.Rows L2
inductive Ex (α : Type) where
  | ok (a : α) | exc (n : Str) (fs : List (Str × D)) | bad
section
variable {α β γ ρ : Type}
theorem Ex.ok_ne (a : α) : Ex.ok a ≠ .bad := fun h => by cases h
theorem Ex.ok_inj {a b : α} (h : Ex.ok a = .ok b) : a = b := by cases h; rfl
def Ex.get [Inhabited α] : Ex α → α
  | .ok a => a
  | _ => default
open Classical in
noncomputable def gd (p : Prop) (m : Ex α) : Ex α := if p then m else .bad
def bindP (m : Ex α) (k : α → Ex β) : Ex β := match m with
  | .ok a => k a
  | _ => .bad
def bindX (m : Ex α) (k : α → Ex β) : Ex β := match m with
  | .ok a => k a
  | .exc n fs => .exc n fs
  | .bad => .bad
def letE (a : α) (k : α → β) : β := k a
def jpE (k : α) (f : α → β) : β := f k
def someE (o : Option α) : Ex α := match o with
  | some a => .ok a
  | none => .bad
def andE (a : Bool) (m : Ex Bool) : Ex Bool := if a = true then m else .ok false
def orE (a : Bool) (m : Ex Bool) : Ex Bool := if a = true then .ok true else m
def ixE (xs : List α) (i : Int) : Ex α := if 0 ≤ i then someE xs[i.toNat]? else if 0 ≤ i + xs.length then someE xs[(i + xs.length).toNat]? else .bad
def foldE (f : β → α → Ex β) : β → List α → Ex β
  | z, [] => .ok z
  | z, x :: xs => bindX (f z x) fun z => foldE f z xs
inductive Ct (β ρ : Type) where
  | nx (z : β) | bk (z : β) | rt (r : ρ)
def loopE (f : β → α → Ex (Ct β ρ)) : β → List α → Ex (Ct β ρ)
  | z, [] => .ok (.nx z)
  | z, x :: xs => bindX (f z x) fun c => match c with
    | .nx z => loopE f z xs
    | .bk z => .ok (.nx z)
    | .rt r => .ok (.rt r)
/-- behind a loop -/
def ctE (c : Ct β ρ) (k : β → γ) (r : ρ → γ) : γ := match c with
  | .nx z => k z
  | .bk z => k z
  | .rt x => r x
def whileE (n : Nat) (c : β → Ex Bool) (f : β → Ex β) (z : β) : Ex β := match n with
  | 0 => .bad
  | n + 1 => bindP (c z) fun b => if b = true then bindX (f z) fun z => whileE n c f z else .ok z
def compE (c : α → Ex Bool) (f : α → Ex β) : List α → Ex (List β)
  | [] => .ok []
  | x :: xs => bindP (c x) fun b => if b = true then bindP (f x) fun y => bindP (compE c f xs) fun ys => .ok (y :: ys) else compE c f xs
/-! ### for the mathematics -/
theorem gd_ok {p : Prop} {m : Ex α} (h : p) : gd p m = m := by unfold gd; rw [if_pos h]
theorem bindP_ok {a : α} {k : α → Ex β} : bindP (.ok a) k = k a := rfl
theorem foldE_cons {f : β → α → Ex β} {z : β} {x : α} {xs : List α} : foldE f z (x :: xs) = bindX (f z x) fun z => foldE f z xs := rfl
theorem ixE_nat {xs : List α} {i : Int} {x : α} (h0 : 0 ≤ i) (h : xs[i.toNat]? = some x) : ixE xs i = .ok x := by unfold ixE; rw [if_pos h0, h]; rfl
theorem ixE_neg {xs : List α} {i : Int} {x : α} (h0 : i < 0) (h1 : 0 ≤ i + xs.length) (h : xs[(i + xs.length).toNat]? = some x) : ixE xs i = .ok x := by unfold ixE; rw [if_neg (by omega), if_pos h1, h]; rfl
/-- a loop by an invariant -/
theorem foldE_inv {f : β → α → Ex β} (J : Nat → β → Prop) : ∀ (xs : List α) (i : Nat) (z : β), J i z → (∀ j z x, xs[j]? = some x → J (i + j) z → ∃ z', f z x = .ok z' ∧ J (i + j + 1) z') → ∃ z', foldE f z xs = .ok z' ∧ J (i + xs.length) z'
  | [], i, z, h, _ => ⟨z, rfl, h⟩
  | x :: xs, i, z, h, hs => by
    obtain ⟨z1, e1, h1⟩ := hs 0 z x rfl h
    obtain ⟨z2, e2, h2⟩ := foldE_inv J xs (i + 1) z1 h1 fun j z y hy hj => by
      have e : i + 1 + j = i + (j + 1) := by omega
      rw [e] at hj ⊢
      exact hs (j + 1) z y hy hj
    refine ⟨z2, by rw [foldE_cons, e1]; exact e2, ?_⟩
    rw [List.length_cons, show i + (xs.length + 1) = i + 1 + xs.length by omega]
    exact h2
theorem foldE_inv0 {f : β → α → Ex β} (J : Nat → β → Prop) (xs : List α) (z : β) (h0 : J 0 z) (h : ∀ j z x, xs[j]? = some x → J j z → ∃ z', f z x = .ok z' ∧ J (j + 1) z') : ∃ z', foldE f z xs = .ok z' ∧ J xs.length z' := by
  have r := foldE_inv J xs 0 z h0 (fun j z x hx hj => by rw [Nat.zero_add] at hj ⊢; exact h j z x hx hj)
  rw [Nat.zero_add] at r
  exact r
theorem loopE_cons {f : β → α → Ex (Ct β ρ)} {z : β} {x : α} {xs : List α} : loopE f z (x :: xs) = bindX (f z x) fun c => match c with
    | .nx z => loopE f z xs
    | .bk z => .ok (.nx z)
    | .rt r => .ok (.rt r) := rfl
theorem loopE_inv {f : β → α → Ex (Ct β ρ)} (J : Nat → β → Prop) : ∀ (xs : List α) (i : Nat) (z : β), J i z → (∀ j z x, xs[j]? = some x → J (i + j) z → ∃ z', f z x = .ok (.nx z') ∧ J (i + j + 1) z') → ∃ z', loopE f z xs = .ok (.nx z') ∧ J (i + xs.length) z'
  | [], i, z, h, _ => ⟨z, rfl, h⟩
  | x :: xs, i, z, h, hs => by
    obtain ⟨z1, e1, h1⟩ := hs 0 z x rfl h
    obtain ⟨z2, e2, h2⟩ := loopE_inv J xs (i + 1) z1 h1 fun j z y hy hj => by
      have e : i + 1 + j = i + (j + 1) := by omega
      rw [e] at hj ⊢
      exact hs (j + 1) z y hy hj
    refine ⟨z2, by rw [loopE_cons, e1]; exact e2, ?_⟩
    rw [List.length_cons, show i + (xs.length + 1) = i + 1 + xs.length by omega]
    exact h2
theorem loopE_inv0 {f : β → α → Ex (Ct β ρ)} (J : Nat → β → Prop) (xs : List α) (z : β) (h0 : J 0 z) (h : ∀ j z x, xs[j]? = some x → J j z → ∃ z', f z x = .ok (.nx z') ∧ J (j + 1) z') : ∃ z', loopE f z xs = .ok (.nx z') ∧ J xs.length z' := by
  have r := loopE_inv J xs 0 z h0 (fun j z x hx hj => by rw [Nat.zero_add] at hj ⊢; exact h j z x hx hj)
  rw [Nat.zero_add] at r
  exact r
theorem compE_eq {c : α → Ex Bool} {f : α → Ex β} {p : α → Bool} {g : α → β} : ∀ (xs : List α), (∀ x ∈ xs, c x = .ok (p x)) → (∀ x ∈ xs, p x = true → f x = .ok (g x)) → compE c f xs = .ok ((xs.filter p).map g)
  | [], _, _ => rfl
  | x :: xs, h1, h2 => by
    unfold compE
    rw [h1 x (List.mem_cons_self ..), bindP_ok, compE_eq (p := p) (g := g) xs (fun y hy => h1 y (List.mem_cons_of_mem _ hy)) fun y hy => h2 y (List.mem_cons_of_mem _ hy)]
    cases hp : p x with
    | true => rw [if_pos rfl, h2 x (List.mem_cons_self ..) hp, List.filter_cons, if_pos hp]; rfl
    | false => rw [if_neg (by decide), List.filter_cons, if_neg (by rw [hp]; decide)]
theorem compE_map {f : α → Ex β} {g : α → β} (xs : List α) (h : ∀ x ∈ xs, f x = .ok (g x)) : compE (fun _ => .ok true) f xs = .ok (xs.map g) := by
  have r := compE_eq (p := fun _ => true) (g := g) (c := fun _ => .ok true) xs (fun _ _ => rfl) fun x hx _ => h x hx
  rw [List.filter_eq_self.mpr (fun _ _ => rfl)] at r
  exact r
/-! ### for the walk -/
theorem gd_out {p : Prop} {m out : Ex α} (h : gd p m = out) (ne : out ≠ .bad) : p ∧ m = out := by
  unfold gd at h
  split at h
  · exact ⟨‹p›, h⟩
  · exact absurd h.symm ne
theorem bindP_out {m : Ex α} {k : α → Ex β} {out : Ex β} (h : bindP m k = out) (ne : out ≠ .bad) : ∃ a, m = .ok a ∧ k a = out := by
  cases m with
  | ok a => exact ⟨a, rfl, h⟩
  | exc n fs => exact absurd h.symm ne
  | bad => exact absurd h.symm ne
theorem bindX_out {m : Ex α} {k : α → Ex β} {out : Ex β} (h : bindX m k = out) (ne : out ≠ .bad) : (∃ a, m = .ok a ∧ k a = out) ∨ ∃ n fs, m = .exc n fs ∧ out = .exc n fs := by
  cases m with
  | ok a => exact .inl ⟨a, rfl, h⟩
  | exc n fs => exact .inr ⟨n, fs, rfl, h.symm⟩
  | bad => exact absurd h.symm ne
theorem letE_out {a : α} {k : α → β} {out : β} (h : letE a k = out) : ∃ x, x = a ∧ k x = out := ⟨a, rfl, h⟩
theorem jpE_out {k : α} {f : α → β} {out : β} (h : jpE k f = out) : ∃ x, x = k ∧ f x = out := ⟨k, rfl, h⟩
theorem some_out {o : Option α} {v : α} (h : someE o = .ok v) : o = some v := by
  cases o with
  | none => cases h
  | some a => cases h; rfl
theorem ite_t {c : Bool} {A B out : Ex α} (h : (if c = true then A else B) = out) (e : c = true) : A = out := by rw [if_pos e] at h; exact h
theorem ite_f {c : Bool} {A B out : Ex α} (h : (if c = true then A else B) = out) (e : c = false) : B = out := by rw [if_neg (by rw [e]; decide)] at h; exact h
theorem compE_out [Inhabited β] {c : α → Ex Bool} {f : α → Ex β} : ∀ {xs : List α} {ys : List β}, compE c f xs = .ok ys →
    ys = (xs.filter fun x => (c x).get).map (fun x => (f x).get) ∧ ∀ x ∈ xs, ∃ b, c x = .ok b ∧ (b = true → ∃ v, f x = .ok v)
  | [], ys, h => by cases h; exact ⟨rfl, fun _ z => absurd z (by simp)⟩
  | x :: xs, ys, h => by
    unfold compE at h
    obtain ⟨b, hb, h⟩ := bindP_out h (Ex.ok_ne _)
    cases b with
    | true =>
      obtain ⟨y, hy, h⟩ := bindP_out (ite_t h rfl) (Ex.ok_ne _)
      obtain ⟨zs, hz, h⟩ := bindP_out h (Ex.ok_ne _)
      cases h
      obtain ⟨e, r⟩ := compE_out hz
      refine ⟨?_, fun z hz => ?_⟩
      · have cx : (c x).get = true := by rw [hb]; rfl
        rw [List.filter_cons, if_pos cx, List.map_cons, ← e, hy]; rfl
      · rcases List.mem_cons.mp hz with rfl | hz
        · exact ⟨true, hb, fun _ => ⟨y, hy⟩⟩
        · exact r z hz
    | false =>
      obtain ⟨e, r⟩ := compE_out (ite_f h rfl)
      refine ⟨?_, fun z hz => ?_⟩
      · have cx : ¬ (c x).get = true := by rw [hb]; exact fun z => by cases z
        rw [List.filter_cons, if_neg cx]
        exact e
      · rcases List.mem_cons.mp hz with rfl | hz
        · exact ⟨false, hb, fun z => by cases z⟩
        · exact r z hz
theorem ixE_out {xs : List α} {i : Int} {x : α} (h : ixE xs i = .ok x) (f : α → D) : atI (xs.map f) i = some (f x) := by
  unfold ixE at h
  by_cases c : 0 ≤ i
  · rw [if_pos c] at h
    exact atI_map c (some_out h)
  · rw [if_neg c] at h
    by_cases c2 : 0 ≤ i + xs.length
    · rw [if_pos c2] at h
      have e := some_out h
      have l := (List.getElem?_eq_some_iff.mp e).1
      have r := atI_neg (xs := xs) (f := f) (i := i) x (by omega) (by omega)
      rw [r, List.getD_eq_getElem?_getD, e]; rfl
    · rw [if_neg c2] at h; cases h
end
/-! ### what a def's walk ends with -/
def kxE (mg : Str → Option Value) {α : Type} (out : Ex α) : XD := fun cls fs _ _ => ∃ n, out = .exc n fs ∧ mg n = some cls
def retQ {α : Type} (enc : α → D) (out : Ex α) : Out → Mem → Prop
  | .rt d, _ => ∃ r, out = .ok r ∧ d = enc r
  | .nx _, _ => ∃ r, out = .ok r ∧ D.non = enc r
  | .bk _, _ => False
  | .ct _, _ => False
abbrev spE (K : Frag) (mg : Str → Option Value) {α β : Type} (args : α → List D) (F : α → Ex β) (enc : β → D) : Sp :=
  spP K args (fun q => F q ≠ .bad) (fun q d => ∃ r, F q = .ok r ∧ d = enc r) (fun q cls fs => ∃ n, F q = .exc n fs ∧ mg n = some cls)
section
variable {P : Program} {w : World} {K : Frag} {mg : Str → Option Value} {base : Heap} {α β : Type}
theorem fn_e {x qual : Str} {st : Stmt} {f : Addr} {fd : FuncData} {N ps : List Str} {k : Nat} {args : α → List D} {F : α → Ex β} {enc : β → D} (Fu : Fun K x qual st f fd) (S : FnScope N ps (defScope st)) (hl : ∀ a, (args a).length = ps.length)
    (body : ∀ X : Cx, X.prog = P → X.w = w → X.K = K → X.mg = mg → X.base = base → Bd X N (defScope st) k → Bf X → ∀ a out, F a = out → out ≠ .bad → DS X (kxE mg out) (defBody st) (startD N (args a)) [] (retQ enc out)) :
    FnOk P w K mg base (L2.CX P w) (k + 1) f fd ps (spE K mg args F enc) :=
  fn_p Fu S hl fun X e1 e2 e3 e4 e5 B Fz a ha => (body X e1 e2 e3 e4 e5 B Fz a _ rfl ha).imp fun o m h => by
    cases o with
    | nx ρ => exact h
    | bk ρ => exact h
    | ct ρ => exact h
    | rt d => exact h
end
section
variable {X : Cx} {kx kx' : XD} {ρ ρ' ρ'' : Ro} {M M' : Mem} {P : Out → Mem → Prop} {pos p : Pos} {tg a b c e : Expr} {es : List Expr} {x y z : D} {k l : Bool}
theorem Hx.onX {W : WX} {H0 H : Hp} (h : Hx X W H0 H M kx) (i : ∀ cls fs ρ M, kx' cls fs ρ M → kx cls fs ρ M) : Hx X W H0 H M kx' :=
  fun cls dd σ' H' H0' fs ρ' M' g t s xr q => h cls dd σ' H' H0' fs ρ' M' g t s xr (i _ _ _ _ q)
theorem DS.onX {sts : List Stmt} (h : DS X kx' sts ρ M P) (i : ∀ cls fs ρ M, kx' cls fs ρ M → kx cls fs ρ M) : DS X kx sts ρ M P :=
  fun σ H H0 t s W tk hx D c => h σ H H0 t s W tk (hx.onX i) D c
/-! loops -/
def foldQ {β : Type} (R : β → Ro) (Mf : β → Mem) (o : Ex β) : Out → Mem → Prop
  | .nx ρ, M => ∃ z, o = .ok z ∧ FgtL ρ (R z) ∧ M = Mf z
  | .ct ρ, M => ∃ z, o = .ok z ∧ FgtL ρ (R z) ∧ M = Mf z
  | .bk _, _ => False
  | .rt _, _ => False
theorem drop_get {α : Type} {xs : List α} {i : Nat} {x : α} (h : xs[i]? = some x) : xs.drop i = x :: xs.drop (i + 1) := by
  obtain ⟨h1, h2⟩ := List.getElem?_eq_some_iff.mp h
  rw [← h2]
  exact (List.drop_eq_getElem_cons h1)
theorem ds1_foldE {α β : Type} {xs : List α} {enc : α → D} {N : List Str} {sc : Scope} {k : Nat} {body : List Stmt} {f : β → α → Ex β} {st0 : β} {out : Ex β} (B : Bd X N sc k) (R : β → Ro) (Mf : β → Mem) (hF : foldE f st0 xs = out) (hne : out ≠ .bad)
    (hi : DI X kx tg e ρ M (xs.map enc)) (h0 : FgtL ρ (R st0)) (hM : M = Mf st0)
    (hs : ∀ st x o, x ∈ xs → f st x = o → o ≠ .bad → ∃ ts ρ2, DG X tg ts (enc x) (R st) ρ2 ∧ DS X (kxE X.mg o) body ρ2 (Mf st) (foldQ R Mf o))
    (hd : ∀ st', out = .ok st' → P (.nx (R st')) (Mf st')) (hx : ∀ cls fs ρ' M', kxE X.mg out cls fs ρ' M' → kx cls fs ρ' M')
    (hP : ∀ ρ1 ρ2 M1, Fgt ρ1 ρ2 → P (.nx ρ2) M1 → P (.nx ρ1) M1) (hf : ∀ x, foldedSetIterable e X.env x = pure x := by intro _; rfl) : DS1 X kx (.For tg e body [] pos) ρ M P :=
  ds1_forT B (fun i ρ1 M1 => ∃ st, FgtL ρ1 (R st) ∧ M1 = Mf st ∧ foldE f st (xs.drop i) = out) hi ⟨st0, h0, hM, hF⟩
    (fun i x ρ1 M1 hxi ⟨st, fg, m, hE⟩ => by
      subst m
      rw [drop_get hxi, foldE_cons] at hE
      have nb : f st x ≠ .bad := fun z => hne (by rw [← hE, z]; rfl)
      obtain ⟨ts, ρ2, g, b⟩ := hs st x _ (List.mem_of_getElem? hxi) rfl nb
      refine ⟨ts, ρ2, fun σ H H0 v hs s r Q q => g σ H H0 v hs (s.fgt fg.fgt) r Q q, (b.onX fun cls fs ρ' M' ⟨n, e1, e2⟩ => hx _ _ ρ' M' ⟨n, by rw [← hE, e1]; rfl, e2⟩).imp fun o m q => ?_⟩
      · cases o with
        | nx ρ =>
          obtain ⟨z, e1, e2, e3⟩ := q
          exact ⟨z, e2, e3, by rw [e1] at hE; exact hE⟩
        | ct ρ =>
          obtain ⟨z, e1, e2, e3⟩ := q
          exact ⟨z, e2, e3, by rw [e1] at hE; exact hE⟩
        | bk ρ => exact q.elim
        | rt d => exact q.elim)
    (fun ρ1 M1 ⟨st, fg, m, hE⟩ => by
      rw [List.drop_length] at hE
      subst m
      exact hP _ _ _ fg.fgt (hd st hE.symm)) hf
def loopQ {β γ : Type} (R : β → Ro) (Mf : β → Mem) (enr : γ → D) (o : Ex (Ct β γ)) : Out → Mem → Prop
  | .nx ρ, M => ∃ z, o = .ok (.nx z) ∧ FgtL ρ (R z) ∧ M = Mf z
  | .ct ρ, M => ∃ z, o = .ok (.nx z) ∧ FgtL ρ (R z) ∧ M = Mf z
  | .bk ρ, M => ∃ z, o = .ok (.bk z) ∧ FgtL ρ (R z) ∧ M = Mf z
  | .rt d, _ => ∃ r, o = .ok (.rt r) ∧ d = enr r
theorem ds1_loopE {α β γ : Type} {xs : List α} {enc : α → D} {enr : γ → D} {N : List Str} {sc : Scope} {k : Nat} {body : List Stmt} {f : β → α → Ex (Ct β γ)} {st0 : β} {out : Ex (Ct β γ)} (B : Bd X N sc k) (R : β → Ro) (Mf : β → Mem) (hF : loopE f st0 xs = out) (hne : out ≠ .bad)
    (hi : DI X kx tg e ρ M (xs.map enc)) (h0 : FgtL ρ (R st0)) (hM : M = Mf st0)
    (hs : ∀ st x o, x ∈ xs → f st x = o → o ≠ .bad → ∃ ts ρ2, DG X tg ts (enc x) (R st) ρ2 ∧ DS X (kxE X.mg o) body ρ2 (Mf st) (loopQ R Mf enr o))
    (hd : ∀ st', out = .ok (.nx st') → P (.nx (R st')) (Mf st')) (hr : ∀ r M', out = .ok (.rt r) → P (.rt (enr r)) M') (hx : ∀ cls fs ρ' M', kxE X.mg out cls fs ρ' M' → kx cls fs ρ' M')
    (hP : ∀ ρ1 ρ2 M1, Fgt ρ1 ρ2 → P (.nx ρ2) M1 → P (.nx ρ1) M1) (hf : ∀ x, foldedSetIterable e X.env x = pure x := by intro _; rfl) : DS1 X kx (.For tg e body [] pos) ρ M P :=
  ds1_forT B (fun i ρ1 M1 => ∃ st, FgtL ρ1 (R st) ∧ M1 = Mf st ∧ loopE f st (xs.drop i) = out) hi ⟨st0, h0, hM, hF⟩
    (fun i x ρ1 M1 hxi ⟨st, fg, m, hE⟩ => by
      subst m
      rw [drop_get hxi, loopE_cons] at hE
      have nb : f st x ≠ .bad := fun z => hne (by rw [← hE, z]; rfl)
      obtain ⟨ts, ρ2, g, b⟩ := hs st x _ (List.mem_of_getElem? hxi) rfl nb
      refine ⟨ts, ρ2, fun σ H H0 v hs s r Q q => g σ H H0 v hs (s.fgt fg.fgt) r Q q, (b.onX fun cls fs ρ' M' ⟨n, e1, e2⟩ => hx _ _ ρ' M' ⟨n, by rw [← hE, e1]; rfl, e2⟩).imp fun o m q => ?_⟩
      · cases o with
        | nx ρ =>
          obtain ⟨z, e1, e2, e3⟩ := q
          exact ⟨z, e2, e3, by rw [e1] at hE; exact hE⟩
        | ct ρ =>
          obtain ⟨z, e1, e2, e3⟩ := q
          exact ⟨z, e2, e3, by rw [e1] at hE; exact hE⟩
        | bk ρ =>
          obtain ⟨z, e1, e2, e3⟩ := q
          rw [e1] at hE
          subst e3
          exact hP _ _ _ e2.fgt (hd z hE.symm)
        | rt d =>
          obtain ⟨r, e1, e2⟩ := q
          rw [e1] at hE
          subst e2
          exact hr r m hE.symm)
    (fun ρ1 M1 ⟨st, fg, m, hE⟩ => by
      rw [List.drop_length] at hE
      subst m
      exact hP _ _ _ fg.fgt (hd st hE.symm)) hf
/-! parts that are looked at only if need be -/
theorem dw_andE {rest : List Expr} {m : Ex Bool} {v : Bool} (h : andE k m = .ok v) (h1 : DT X kx a ρ M k) (h2 : k = true → ∀ v, m = .ok v → DW X kx (.BoolOp .And (b :: rest) pos) ρ M v) : DW X kx (.BoolOp .And (a :: b :: rest) pos) ρ M v := by
  cases k with
  | true => exact dw_and h1 fun e => h2 e v h
  | false => cases h; exact dw_and (l := false) h1 fun e => by cases e
theorem dw_orE {rest : List Expr} {m : Ex Bool} {v : Bool} (h : orE k m = .ok v) (h1 : DT X kx a ρ M k) (h2 : k = false → ∀ v, m = .ok v → DW X kx (.BoolOp .Or (b :: rest) pos) ρ M v) : DW X kx (.BoolOp .Or (a :: b :: rest) pos) ρ M v := by
  cases k with
  | false =>
    have h' : m = .ok v := h
    have r := dw_or (l := v) h1 fun e => h2 e v h'
    rw [Bool.false_or] at r
    exact r
  | true =>
    cases h
    have r := dw_or (l := true) (b := b) (rest := rest) (pos := pos) h1 fun e => by cases e
    exact r
/-! == of texts, of truths -/
theorem r2_eqs {i j : Str} : R2D X.K rEq M (.str i) (.str j) (.bl (decide (i = j))) := fun v u H H0 t r1 r2 Q q => by
  cases r1; cases r2
  refine ⟨rfl, ?_⟩
  have e : decide (V.str i = V.str j) = decide (i = j) := decide_eq_decide.mpr ⟨fun h => by injection h, fun h => by rw [h]⟩
  rw [e]
  exact q _ H H0 (Pu.refl t.ex) (.bl _)
theorem r2_nes {i j : Str} : R2D X.K rNe M (.str i) (.str j) (.bl (!decide (i = j))) := fun v u H H0 t r1 r2 Q q => by
  cases r1; cases r2
  refine ⟨rfl, ?_⟩
  have e : decide (V.str i = V.str j) = decide (i = j) := decide_eq_decide.mpr ⟨fun h => by injection h, fun h => by rw [h]⟩
  rw [e]
  exact q _ H H0 (Pu.refl t.ex) (.bl _)
theorem r2_eqb {i j : Bool} : R2D X.K rEq M (.bl i) (.bl j) (.bl (decide (i = j))) := fun v u H H0 t r1 r2 Q q => by
  cases r1; cases r2
  refine ⟨rfl, ?_⟩
  have e : decide (V.bl i = V.bl j) = decide (i = j) := decide_eq_decide.mpr ⟨fun h => by injection h, fun h => by rw [h]⟩
  rw [e]
  exact q _ H H0 (Pu.refl t.ex) (.bl _)
theorem r2_neb {i j : Bool} : R2D X.K rNe M (.bl i) (.bl j) (.bl (!decide (i = j))) := fun v u H H0 t r1 r2 Q q => by
  cases r1; cases r2
  refine ⟨rfl, ?_⟩
  have e : decide (V.bl i = V.bl j) = decide (i = j) := decide_eq_decide.mpr ⟨fun h => by injection h, fun h => by rw [h]⟩
  rw [e]
  exact q _ H H0 (Pu.refl t.ex) (.bl _)
section
variable {s t : Str} {u v : Bool}
theorem dv_eqs (ha : DV X kx a ρ M (.str s)) (hb : DV X kx b ρ M (.str t)) : DV X kx (.Compare a [.Eq] [b] pos) ρ M (.bl (decide (s = t))) := dv_cmp op_eq r2_eqs ha hb (nomark _)
theorem dt_nes (ha : DV X kx a ρ M (.str s)) (hb : DV X kx b ρ M (.str t)) : DT X kx (.Compare a [.NotEq] [b] pos) ρ M (!decide (s = t)) := dt_cmp op_ne r2_nes ha hb (nomark _)
theorem dv_eqb (ha : DV X kx a ρ M (.bl u)) (hb : DV X kx b ρ M (.bl v)) : DV X kx (.Compare a [.Eq] [b] pos) ρ M (.bl (decide (u = v))) := dv_cmp op_eq r2_eqb ha hb (nomark _)
theorem dt_neb (ha : DV X kx a ρ M (.bl u)) (hb : DV X kx b ρ M (.bl v)) : DT X kx (.Compare a [.NotEq] [b] pos) ρ M (!decide (u = v)) := dt_cmp op_ne r2_neb ha hb (nomark _)
end
/-! None of an Option -/
theorem dt_isNO {α : Type} {f : α → D} {o : Option α} {j p2} (hn : ∀ x, (f x).isNon = false) (h : DV X kx a ρ M (dOpt f o)) : DT X kx (.Compare a [.Is] [.Constant .none j p2] pos) ρ M o.isNone := by
  have r := dt_isN (pos := pos) (j := j) (p2 := p2) h; rw [isNon_opt hn] at r; exact r
theorem dt_notNO {α : Type} {f : α → D} {o : Option α} {j p2} (hn : ∀ x, (f x).isNon = false) (h : DV X kx a ρ M (dOpt f o)) : DT X kx (.Compare a [.IsNot] [.Constant .none j p2] pos) ρ M (!o.isNone) := by
  have r := dt_notN (pos := pos) (j := j) (p2 := p2) h; rw [isNon_opt hn] at r; exact r
/-! x in the place of its let -/
theorem dv_isE {α : Type} {enc : α → D} {t v : α} (h : DV X kx e ρ M (enc t)) (hv : v = t) : DV X kx e ρ M (enc v) := hv ▸ h
theorem dv_un {α : Type} {enc : α → D} {o : Option α} {v : α} (h : DV X kx e ρ M (dOpt enc o)) (hv : someE o = .ok v) : DV X kx e ρ M (enc v) := by
  rw [some_out hv] at h; exact h
theorem coeL {α β : Type} {f : α → β} {g : β → D} {h : α → D} (xs : List α) (e : ∀ x, h x = g (f x)) : D.lst (xs.map h) = D.lst ((xs.map f).map g) := by
  rw [List.map_map]; exact congrArg D.lst (List.map_congr_left fun x _ => e x)
theorem ds1_appM {α : Type} {g : α → D} {o e : Expr} {w : Addr} {v : α} {xs : List α} {apos cpos spos : Pos} (i : Nat) (ho : DV X kx o ρ M (.adr w)) (hv : DV X kx e ρ M (g v)) (hm : M[i]? = some (w, .lst (xs.map g))) (hl : xs.length ≤ 100000) (hk : P (.nx ρ) (M.set i (w, .lst ((xs ++ [v]).map g))))
    (hb : attributeBase o "append" X.env (eval o X.env) = eval o X.env := by rfl)
    (hfew : ((backTo cpos (starEach [e] X.env)).all (fun x => !x.1) && (backToKw cpos (keywordEach [] X.env)).all (fun x => x.1.isSome) && decide ([e].length + ([] : List Keyword).length + (if ([] : List Keyword).isEmpty then 0 else 1) < 30)) = true := by rfl)
    (hline : (apos.endLine == cpos.line) = true := by rfl) (hs : starEach [e] X.env = (false, eval e X.env) :: starEach [] X.env := by rfl)
    (hs2 : swapsWith (.Call (.Attribute o "append" apos) [e] [] cpos) none spos.line X.env = pure false := by rfl) : DS1 X kx (.Expr (.Call (.Attribute o "append" apos) [e] [] cpos) spos) ρ M P := by
  have hl' : (xs.map g).length < sizeLine := by rw [List.length_map]; exact sz_lt hl
  rw [List.map_append] at hk
  exact ds1_app (i := i) ho hv hm hl' hk hb hfew hline hs hs2
/-! ways that meet again -/
def joinQ {ι β γ : Type} (R : ι → β → Ro) (Mf : ι → β → Mem) (kf : β → Ex γ) (out : Ex γ) (P : Out → Mem → Prop) : Out → Mem → Prop
  | .nx ρ, M => ∃ a z, kf z = out ∧ FgtL ρ (R a z) ∧ M = Mf a z
  | o, M => P o M
theorem ds1_ifJ {ι β γ : Type} {A B : List Stmt} {kf : β → Ex γ} {out : Ex γ} (R : ι → β → Ro) (Mf : ι → β → Mem) (hc : DT X kx c ρ M k) (h1 : k = true → DS X kx A ρ M (joinQ R Mf kf out P)) (h2 : k = false → DS X kx B ρ M (joinQ R Mf kf out P))
    (hk : ∀ a z, kf z = out → P (.nx (R a z)) (Mf a z)) (hP : ∀ ρ1 ρ2 M1, Fgt ρ1 ρ2 → P (.nx ρ2) M1 → P (.nx ρ1) M1) : DS1 X kx (.If c A B pos) ρ M P := by
  have i : ∀ o m, joinQ R Mf kf out P o m → P o m := fun o m q => by
    cases o with
    | nx ρ1 =>
      obtain ⟨a, z, e1, e2, e3⟩ := q
      subst e3
      exact hP _ _ _ e2.fgt (hk a z e1)
    | bk ρ1 => exact q
    | ct ρ1 => exact q
    | rt d => exact q
  exact ds1_if hc (fun e => (h1 e).imp i) (fun e => (h2 e).imp i)
theorem join_nx {ι β γ : Type} {R : ι → β → Ro} {Mf : ι → β → Mem} {kf : β → Ex γ} {out : Ex γ} {P : Out → Mem → Prop} (a : ι) (z : β) (h : kf z = out) (f : FgtL ρ (R a z)) (m : M = Mf a z) : joinQ R Mf kf out P (.nx ρ) M := ⟨a, z, h, f, m⟩
theorem ret_mk {α : Type} {enc : α → D} {out : Ex α} {r : α} (h : .ok r = out) : retQ enc out (.rt (enc r)) M := ⟨r, h.symm, rfl⟩
theorem fold_nx {β : Type} {R : β → Ro} {Mf : β → Mem} {o : Ex β} {z : β} (h : .ok z = o) (f : FgtL ρ (R z)) (m : M = Mf z) : foldQ R Mf o (.nx ρ) M := ⟨z, h.symm, f, m⟩
theorem loop_nx {β γ : Type} {R : β → Ro} {Mf : β → Mem} {enr : γ → D} {o : Ex (Ct β γ)} {z : β} (h : .ok (.nx z) = o) (f : FgtL ρ (R z)) (m : M = Mf z) : loopQ R Mf enr o (.nx ρ) M := ⟨z, h.symm, f, m⟩
theorem loop_bk {β γ : Type} {R : β → Ro} {Mf : β → Mem} {enr : γ → D} {o : Ex (Ct β γ)} {z : β} (h : .ok (.bk z) = o) (f : FgtL ρ (R z)) (m : M = Mf z) : loopQ R Mf enr o (.bk ρ) M := ⟨z, h.symm, f, m⟩
theorem loop_rt {β γ : Type} {R : β → Ro} {Mf : β → Mem} {enr : γ → D} {o : Ex (Ct β γ)} {r : γ} (h : .ok (.rt r) = o) : loopQ R Mf enr o (.rt (enr r)) M := ⟨r, h.symm, rfl⟩
theorem bindX_cut {α β : Type} {m : Ex α} {k : α → Ex β} {out : Ex β} (h : bindX m k = out) (ne : out ≠ .bad) : ∃ o, m = o ∧ o ≠ .bad ∧ bindX o k = out := ⟨m, rfl, fun z => ne (by rw [← h, z]; rfl), h⟩
theorem okE {α β : Type} {a : α} {k : α → Ex β} {out : Ex β} (h : bindX (.ok a) k = out) : k a = out := h
theorem nxE {α β ρ : Type} {a : α} {k : α → β} {r : ρ → β} {out : β} (h : ctE (.nx a) k r = out) : k a = out := h
theorem kx_exc {α : Type} {mg : Str → Option Value} {out : Ex α} {n : Str} {fs : List (Str × D)} {cls : Value} (h : .exc n fs = out) (e : mg n = some cls) : kxE mg out cls fs ρ M := ⟨n, h.symm, e⟩
/-! comprehensions -/
theorem lcb_E {β : Type} {cM : Ex Bool} {fM : Ex β} [Inhabited β] {ifs : List Expr} {elt : Expr} {enc : β → D} (hb : ∃ b, cM = .ok b ∧ (b = true → ∃ v, fM = .ok v)) (hc : ∀ b, cM = .ok b → DTs X kx ifs ρ M b) (hf : ∀ v, fM = .ok v → DV X kx elt ρ M (enc v)) :
    DTs X kx ifs ρ M cM.get ∧ (cM.get = true → DV X kx elt ρ M (enc fM.get)) := by
  obtain ⟨b, e, h⟩ := hb
  have g : cM.get = b := by rw [e]; rfl
  rw [g]
  refine ⟨hc b e, fun q => ?_⟩
  obtain ⟨v, hv⟩ := h q
  have gv : fM.get = v := by rw [hv]; rfl
  rw [gv]
  exact hf v hv
theorem outs_E {α β : Type} [Inhabited β] {xs : List α} {ys : List β} {c : α → Ex Bool} {f : α → Ex β} (enc : β → D) (h : ys = (xs.filter fun x => (c x).get).map (fun x => (f x).get)) : outs xs (fun x => (c x).get) (fun x => enc (f x).get) = ys.map enc := by
  rw [h, List.map_map]; rfl
theorem ds1_setLcE {α : Type} {N : List Str} {sc csc : Scope} {k i : Nat} {y : Str} {py spos : Pos} {own : List (Str × Nat)} {elt : Expr} {ifs : List Expr} {xs : List α} {enc : α → D} {cnd : α → Bool} {f : α → D} {ds : List D} (B : Bd X N sc k) (n : Ns X i y) (hi : DI X kx tg e ρ M (xs.map enc)) (ok : BlkOk N sc csc own) (hlen : xs.length < sizeLine)
    (h : ∀ x, x ∈ xs → LcB X N sc csc k own tg elt ifs ρ M (enc x) (cnd x) (f x)) (hd : outs xs cnd f = ds) (hp : P (.nx (ρ.set i (some (.lst ds)))) M) (hyl : sc.names.lookup y = some .local := by rfl) (hk : sc.kind = .function := by rfl) (hl : (py.line == pos.line) = true := by rfl)
    (ha : (csc.names.any fun (n, k) => n == y && (k == .local || k == .cell)) = false := by rfl) (hs : ∀ x, foldedSetIterable e X.env x = pure x := by intro _; rfl) : DS1 X kx (.Assign [.Name y py] (.ListComp elt [⟨tg, e, ifs, 0⟩] csc pos) spos) ρ M P :=
  ds1_setLc0 B n hi ok hlen h (by rw [hd]) hp hyl hk hl ha hs
theorem dv_lcE {α : Type} {N : List Str} {sc csc : Scope} {k : Nat} {own : List (Str × Nat)} {elt : Expr} {ifs : List Expr} {xs : List α} {enc : α → D} {cnd : α → Bool} {f : α → D} {ds : List D} (B : Bd X N sc k) (hi : DI X kx tg e ρ M (xs.map enc)) (ok : BlkOk N sc csc own) (hl : xs.length < sizeLine)
    (h : ∀ x, x ∈ xs → LcB X N sc csc k own tg elt ifs ρ M (enc x) (cnd x) (f x)) (hd : outs xs cnd f = ds) (hs : ∀ x, foldedSetIterable e X.env x = pure x := by intro _; rfl) : DV X kx (.ListComp elt [⟨tg, e, ifs, 0⟩] csc pos) ρ M (.lst ds) :=
  (dv_lc B hi ok hl h hs).is (by rw [hd])
theorem de_lcE {α : Type} {N : List Str} {sc csc : Scope} {k : Nat} {k2 : D → Mem → Prop} {own : List (Str × Nat)} {elt : Expr} {ifs : List Expr} {xs : List α} {enc : α → D} {cnd : α → Bool} {f : α → D} {ds : List D} (B : Bd X N sc k) (hi : DI X kx tg e ρ M (xs.map enc)) (ok : BlkOk N sc csc own) (hl : xs.length < sizeLine)
    (h : ∀ x, x ∈ xs → LcB X N sc csc k own tg elt ifs ρ M (enc x) (cnd x) (f x)) (hd : outs xs cnd f = ds) (hk : ∀ w, w ∉ M.dom → k2 (.adr w) ((w, .lst ds) :: M)) (hs : ∀ x, foldedSetIterable e X.env x = pure x := by intro _; rfl) : DE X kx (.ListComp elt [⟨tg, e, ifs, 0⟩] csc pos) ρ M k2 :=
  de_lc B hi ok hl h (fun w hw => by rw [hd]; exact hk w hw) hs
/-! walks -/
def enumL {α : Type} (xs : List α) : List (Int × α) := ((List.range xs.length).zip xs).map fun q => (((q.1 : Nat) : Int), q.2)
/-- a global's number -/
theorem dv_gint {x : Str} {i : Int} {u : Value} (hg : Gl X x) (hm : X.mg x = some u) (r : RelV (.int i) u) (hd : (x == ("__debug__" : Str)) = false := by decide) : DV X kx (.Name x pos) ρ M (.int i) := fun σ H H0 t s W tk hx Q q =>
  sE.by (pe_glob hg hm r hd) (q _ H H0 (Pu.refl t.ex) (.int i))
/-- // by a positive number -/
def DivOk (j : Int) : Prop := 0 < j ∧ j < 2 ^ 300
theorem div_k {i j : Int} (h : DivOk j) : CDivW i j := div_c h.1 h.2
def RngOk (i : Int) : Prop := -(2 ^ 62) ≤ i ∧ i < 2 ^ 62
theorem divOk_of {j : Int} (h1 : 0 < j) (h2 : j < 1000000000000000000000000000000000000000000000000000000000000000000000000000000000000000000) : DivOk j := ⟨h1, (big_of (by omega) h2).2⟩
def DivPOk (i j : Int) : Prop := CDivP i j
end
theorem fnok_imp {P : Program} {w : World} {K : Frag} {mg : Str → Option Value} {base : Heap} {CX : CXT} {k : Nat} {f : Addr} {fd : FuncData} {ps : List Str} {sp sp' : Sp} (g : FnOk P w K mg base CX k f fd ps sp) (h : ∀ vs H Q E, sp' vs H Q E → sp vs H Q E) : FnOk P w K mg base CX k f fd ps sp' := g.imp h
end Dl

/-! what a plain function hands back: small rules for its parts -/
namespace Dl
open PySem PySem.Spec PyProof.Rows L2
/-- it ends well, with a thing of which P holds -/
def Ret {α : Type} (e : Ex α) (P : α → Prop) : Prop := ∃ r, e = .ok r ∧ P r
section
variable {α β γ ρ : Type} {P : α → Prop} {Q : β → Prop}
theorem Ret.ok {a : α} (h : P a) : Ret (.ok a) P := ⟨a, rfl, h⟩
theorem Ret.of {e : Ex α} {a : α} (h : e = .ok a) : Ret e (fun r => r = a) := ⟨a, h, rfl⟩
theorem Ret.eq {e : Ex α} {a : α} (h : Ret e fun r => r = a) : e = .ok a := by
  obtain ⟨r, h, e⟩ := h; rw [h, e]
theorem Ret.imp {e : Ex α} {P' : α → Prop} (h : Ret e P') (i : ∀ a, P' a → P a) : Ret e P := by
  obtain ⟨r, h, p⟩ := h; exact ⟨r, h, i r p⟩
theorem Ret.gd {p : Prop} {m : Ex α} (h : p) (k : Ret m P) : Ret (gd p m) P := by rw [gd_ok h]; exact k
theorem Ret.bindP {m : Ex α} {k : α → Ex β} {R : α → Prop} (h : Ret m R) (i : ∀ a, R a → Ret (k a) Q) : Ret (bindP m k) Q := by
  obtain ⟨r, e, p⟩ := h; rw [e]; exact i r p
theorem Ret.bindX {m : Ex α} {k : α → Ex β} {R : α → Prop} (h : Ret m R) (i : ∀ a, R a → Ret (k a) Q) : Ret (bindX m k) Q := by
  obtain ⟨r, e, p⟩ := h; rw [e]; exact i r p
/-- what is known by an equation -/
theorem Ret.eqP {m : Ex α} {a : α} {k : α → Ex β} (h : m = .ok a) (i : Ret (k a) Q) : Ret (Dl.bindP m k) Q := by rw [h]; exact i
theorem Ret.eqX {m : Ex α} {a : α} {k : α → Ex β} (h : m = .ok a) (i : Ret (k a) Q) : Ret (Dl.bindX m k) Q := by rw [h]; exact i
theorem Ret.letE {a : α} {k : α → Ex β} (h : ∀ x, x = a → Ret (k x) Q) : Ret (letE a k) Q := h a rfl
theorem Ret.letI {a : α} {k : α → Ex β} (h : Ret (k a) Q) : Ret (Dl.letE a k) Q := h
theorem Ret.jpE {k : α} {f : α → Ex β} (h : Ret (f k) Q) : Ret (jpE k f) Q := h
theorem Ret.ite {c : Bool} {m1 m2 : Ex α} (h1 : c = true → Ret m1 P) (h2 : c = false → Ret m2 P) : Ret (if c = true then m1 else m2) P := by
  cases c with
  | true => exact h1 rfl
  | false => exact h2 rfl
theorem Ret.iteD {p : Prop} [Decidable p] {m1 m2 : Ex α} (h1 : p → Ret m1 P) (h2 : ¬ p → Ret m2 P) : Ret (if decide p = true then m1 else m2) P :=
  Ret.ite (fun h => h1 (of_decide_eq_true h)) (fun h => h2 (of_decide_eq_false h))
theorem Ret.iteN {p : Prop} [Decidable p] {m1 m2 : Ex α} (h1 : ¬ p → Ret m1 P) (h2 : p → Ret m2 P) : Ret (if (!decide p) = true then m1 else m2) P :=
  Ret.ite (fun h => h1 (by simpa using h)) (fun h => h2 (by simpa using h))
theorem Ret.t {c : Bool} {m1 m2 : Ex α} (h : c = true) (k : Ret m1 P) : Ret (if c = true then m1 else m2) P := by rw [if_pos h]; exact k
theorem Ret.f {c : Bool} {m1 m2 : Ex α} (h : c = false) (k : Ret m2 P) : Ret (if c = true then m1 else m2) P := by rw [if_neg (by rw [h]; decide)]; exact k
theorem Ret.someE {o : Option α} {a : α} {k : α → Ex β} (h : o = some a) (i : Ret (k a) Q) : Ret (Dl.bindP (someE o) k) Q := by rw [h]; exact i
theorem Ret.ix {xs : List α} {i : Int} {k : α → Ex β} (h0 : 0 ≤ i) (h1 : i < xs.length) (h : ∀ x, xs[i.toNat]? = some x → Ret (k x) Q) : Ret (Dl.bindP (ixE xs i) k) Q := by
  have l : i.toNat < xs.length := by omega
  have e := List.getElem?_eq_getElem l
  rw [ixE_nat h0 e]
  exact h _ e
theorem Ret.ixN {xs : List α} {i : Int} {k : α → Ex β} (h0 : i < 0) (h1 : 0 ≤ i + xs.length) (h : ∀ x, xs[(i + xs.length).toNat]? = some x → Ret (k x) Q) : Ret (Dl.bindP (ixE xs i) k) Q := by
  have l : (i + xs.length).toNat < xs.length := by omega
  have e := List.getElem?_eq_getElem l
  rw [ixE_neg h0 h1 e]
  exact h _ e
theorem Ret.ixM {xs : List α} {i : Int} {k : α → Ex β} (h0 : 0 ≤ i) (h1 : i < xs.length) (h : ∀ x ∈ xs, Ret (k x) Q) : Ret (Dl.bindP (ixE xs i) k) Q :=
  Ret.ix h0 h1 fun x e => h x (List.mem_of_getElem? e)
theorem Ret.andE {a : Bool} {m : Ex Bool} {P : Bool → Prop} (h1 : a = true → Ret m P) (h2 : a = false → P false) : Ret (andE a m) P := by
  cases a with
  | true => exact h1 rfl
  | false => exact ⟨false, rfl, h2 rfl⟩
theorem Ret.orE {a : Bool} {m : Ex Bool} {P : Bool → Prop} (h1 : a = false → Ret m P) (h2 : a = true → P true) : Ret (orE a m) P := by
  cases a with
  | false => exact h1 rfl
  | true => exact ⟨true, rfl, h2 rfl⟩
theorem Ret.fold {f : β → α → Ex β} {k : β → Ex γ} {Q : γ → Prop} {xs : List α} {z : β} (J : Nat → β → Prop) (h0 : J 0 z) (hs : ∀ j z x, xs[j]? = some x → J j z → Ret (f z x) fun z' => J (j + 1) z') (hk : ∀ z, J xs.length z → Ret (k z) Q) : Ret (Dl.bindX (foldE f z xs) k) Q := by
  obtain ⟨z', e, j⟩ := foldE_inv0 J xs z h0 fun j z x hx hj => hs j z x hx hj
  rw [e]; exact hk z' j
/-- a loop that is never left ahead of its end -/
theorem Ret.loop {f : β → α → Ex (Ct β ρ)} {k : β → Ex γ} {r : ρ → Ex γ} {Q : γ → Prop} {xs : List α} {z : β} (J : Nat → β → Prop) (h0 : J 0 z) (hs : ∀ j z x, xs[j]? = some x → J j z → Ret (f z x) fun c => ∃ z', c = .nx z' ∧ J (j + 1) z') (hk : ∀ z, J xs.length z → Ret (k z) Q) :
    Ret (Dl.bindX (loopE f z xs) fun c => ctE c k r) Q := by
  obtain ⟨z', e, j⟩ := loopE_inv0 (f := f) J xs z h0 fun j z x hx hj => by
    obtain ⟨c, e, z', e2, h⟩ := hs j z x hx hj
    exact ⟨z', by rw [e, e2], h⟩
  rw [e]; exact hk z' j
theorem loopE_any {f : β → α → Ex (Ct β ρ)} (J : Nat → β → Prop) (B : β → Prop) (R : ρ → Prop) : ∀ (xs : List α) (i : Nat) (z : β), J i z → (∀ j z x, xs[j]? = some x → J (i + j) z → Ret (f z x) fun c => match c with | .nx z' => J (i + j + 1) z' | .bk z' => B z' | .rt r => R r) →
    Ret (loopE f z xs) fun c => match c with | .nx z' => J (i + xs.length) z' ∨ B z' | .bk _ => False | .rt r => R r
  | [], i, z, h, _ => ⟨.nx z, rfl, .inl h⟩
  | x :: xs, i, z, h, hs => by
    obtain ⟨c, e1, h1⟩ := hs 0 z x rfl h
    rw [loopE_cons, e1]
    cases c with
    | nx z1 =>
      have ih := loopE_any J B R xs (i + 1) z1 h1 fun j z y hy hj => by
        have e : i + 1 + j = i + (j + 1) := by omega
        rw [e] at hj ⊢
        exact hs (j + 1) z y hy hj
      refine ih.imp fun c hc => ?_
      cases c with
      | nx z' =>
        rcases hc with q | q
        · left
          rw [List.length_cons, show i + (xs.length + 1) = i + 1 + xs.length by omega]; exact q
        · exact .inr q
      | bk z' => exact hc
      | rt r => exact hc
    | bk z1 => exact ⟨.nx z1, rfl, .inr h1⟩
    | rt r => exact ⟨.rt r, rfl, h1⟩
/-- a loop that may be left: B where it breaks off, R where it hands back -/
theorem Ret.loopX {f : β → α → Ex (Ct β ρ)} {k : β → Ex γ} {r : ρ → Ex γ} {Q : γ → Prop} {xs : List α} {z : β} (J : Nat → β → Prop) (B : β → Prop) (R : ρ → Prop) (h0 : J 0 z) (hs : ∀ j z x, xs[j]? = some x → J j z → Ret (f z x) fun c => match c with | .nx z' => J (j + 1) z' | .bk z' => B z' | .rt r => R r)
    (hk : ∀ z, J xs.length z → Ret (k z) Q) (hb : ∀ z, B z → Ret (k z) Q) (hr : ∀ x, R x → Ret (r x) Q) : Ret (Dl.bindX (loopE f z xs) fun c => ctE c k r) Q := by
  have q := loopE_any J B R xs 0 z h0 fun j z x hx hj => by rw [Nat.zero_add] at hj ⊢; exact hs j z x hx hj
  rw [Nat.zero_add] at q
  refine q.bindX fun c hc => ?_
  cases c with
  | nx z' => exact hc.elim (hk z') (hb z')
  | bk z' => exact hc.elim
  | rt x => exact hr x hc
theorem Ret.comp {c : α → Ex Bool} {f : α → Ex β} {k : List β → Ex γ} {Q : γ → Prop} {xs : List α} (p : α → Bool) (g : α → β) (hc : ∀ x ∈ xs, c x = .ok (p x)) (hf : ∀ x ∈ xs, p x = true → f x = .ok (g x)) (h : Ret (k ((xs.filter p).map g)) Q) : Ret (Dl.bindP (compE c f xs) k) Q := by
  rw [compE_eq xs hc hf]; exact h
theorem Ret.map {f : α → Ex β} {k : List β → Ex γ} {Q : γ → Prop} {xs : List α} (g : α → β) (hf : ∀ x ∈ xs, f x = .ok (g x)) (h : Ret (k (xs.map g)) Q) : Ret (Dl.bindP (compE (fun _ => .ok true) f xs) k) Q := by
  rw [compE_map xs hf]; exact h
end
end Dl

namespace Dl
open PySem PySem.Spec PyProof.Rows L2
section
variable {X : Cx} {kx kx' : XD} {ρ ρ' ρ'' : Ro} {M M' : Mem} {P : Out → Mem → Prop} {pos p apos tpos : Pos} {tg a b c e o ix : Expr} {es : List Expr} {x y z : D} {k l : Bool} {w : Addr} {α β γ : Type}
/-! ### is True -/
/-! ### xs[i] = e -/
def setE (xs : List α) (i : Int) (v : α) : Ex (List α) := match ixN xs.length i with
  | some j => .ok (xs.set j v)
  | none => .bad
/-! ### raise -/
/-- an own class of exceptions, x at C -/
structure ExT (K : Frag) (mg : Str → Option Value) (x : Str) (C : Addr) : Prop extends ExcC K C where
  gC : mg x = some (.ref C)
  xC : PySem.W.excIn K C [.type "ValueError", .type "Exception", .type "BaseException", .type "object"] "ValueError.__new__" = true
  kC : PySem.W.keepIn K (.ref C) = true
  tC : PySem.W.typeIn K (.ref C) = some (.type "type")
theorem ds1_raise {x m : Str} {C : Addr} {j : Nat} {p2 pos2 : Pos} (hc : X.calm = true) (T : ExT X.K X.mg x C) (hg : Gl X x) (hk : ∀ cls, X.mg x = some cls → kx cls [] ρ M) (hdb : (x == ("__debug__" : Str)) = false := by decide) :
    DS1 X kx (.Raise (some (.Call (.Name x p) [.Constant (.str m) j p2] [] pos)) none pos2) ρ M P := fun σ H H0 t s W tk hx D c =>
  sS.by (ps_raise hc tk (pmk_own PySem.F.excBase_ValueError T.xC T.gC T.kC (raises_own T.hs T.tC) hg hdb)) (hx (.ref C) none σ H H0 [] ρ M Go.refl t s (.inl ⟨rfl, rfl⟩) (hk _ T.gC))
/-! ### f(e), that raises -/
theorem de_exc {α : Type} {x : Str} {args : α → List D} {F : α → Ex β} {enc : β → D} {k : Nat} {dvs ds : List D} {n : Str} {fs : List (Str × D)} (G : GF X.prog X.w X.K X.mg X.base k x dvs (spE X.K X.mg args F enc)) (hr : Room k X.A) (hg : Gl X x) (ha : DA X kx (e :: es) ρ M ds) (a : α) (hargs : args a = ds ++ dvs)
    (hF : F a = .exc n fs) (hk : ∀ cls, X.mg n = some cls → kx cls fs ρ M) (hdb : (x == ("__debug__" : Str)) = false := by decide) (he : starEach (e :: es) X.env = (false, eval e X.env) :: starEach es X.env := by rfl) (hpl : (backTo pos (starEach es X.env)).any (·.1) = false := by rfl) :
    DE X kx (.Call (.Name x p) (e :: es) [] pos) ρ M fun _ _ => False :=
  de_call G hr hg ha a hargs (fun h => by cases hF.symm.trans h) (fun d ⟨r, h, _⟩ => by cases hF.symm.trans h) (fun cls fs' ⟨n', h, hm⟩ => by cases hF.symm.trans h; exact hk cls hm) hdb he hpl
theorem ds1_void {e : Expr} (h : DE X kx e ρ M fun _ _ => False) (hs : swapsWith e none tpos.line X.env = pure false := by rfl) : DS1 X kx (.Expr e tpos) ρ M P := ds1_expr h (fun _ _ z => z.elim) hs
theorem ds1_exprV {e : Expr} {d : D} (h : DV X kx e ρ M d) (hp : P (.nx ρ) M) (hs : swapsWith e none tpos.line X.env = pure false := by rfl) : DS1 X kx (.Expr e tpos) ρ M P :=
  ds1_expr (h.de (k := fun _ m => m = M) rfl) (fun _ m e => by subst e; exact hp) hs
theorem ds1_retX {e : Expr} (h : DE X kx e ρ M fun _ _ => False) : DS1 X kx (.Return (some e) tpos) ρ M P := ds1_ret h fun _ _ z => z.elim
end
end Dl
namespace Dl
open PySem PySem.Spec PyProof.Rows L2
/-! ### classes, methods, defaults: what the top has written -/
/-- an own class, x at C -/
structure ClsT (K : Frag) (mg : Str → Option Value) (x : Str) (C : Addr) (fs : List Str) : Prop where
  gC : mg x = some (.ref C)
  cl : Cls K C
  na : ∀ f ∈ fs, NoAttr K C f
  mks : PySem.W.makesIn K C = true
  kp : PySem.W.keepIn K (.ref C) = true
/-- a def with perhaps defaults, as K holds it: any number of the last arguments may be left out -/
structure DefT (K : Frag) (x qual : Str) (st : Stmt) (ps : List Str) (dvs : List V) (f : Addr) (fd : FuncData) : Prop where
  F : FunD K x qual (defArgs st) (defBody st) (defScope st) dvs [] f fd
  b : ∀ j, j ≤ dvs.length → ∃ ds, Vals (dvs.drop j) ds ∧ Binds K fd ps ds
def MethT (K : Frag) (C : Addr) (m qual : Str) (st : Stmt) (ps : List Str) (dvs : List V) : Prop := ∃ f fd, DefT K m qual st ps dvs f fd ∧ PySem.W.findIn K (.ref C) m = some (some (.ref f)) ∧ PySem.W.isFn K (.ref f) = true
def FunDT (K : Frag) (mg : Str → Option Value) (x : Str) (st : Stmt) (ps : List Str) (dvs : List V) : Prop := ∃ f fd, DefT K x x st ps dvs f fd ∧ mg x = some (.ref f)
section
variable {K : Frag} {x qual : Str} {st : Stmt} {ps : List Str} {dvs : List V} {f : Addr} {fd : FuncData}
end
section
variable {P : Program} {w : World} {K : Frag} {mg : Str → Option Value} {base : Heap} {α β : Type}
theorem fn_pD {x qual : Str} {st : Stmt} {f : Addr} {fd : FuncData} {N ps : List Str} {dv : List V} {k : Nat} {args : α → List D} {pre : α → Prop} {post : α → D → Prop} {ex : α → Value → List (Str × D) → Prop} (F : FunD K x qual (defArgs st) (defBody st) (defScope st) dv [] f fd) (S : FnScope N ps (defScope st)) (hl : ∀ a, (args a).length = ps.length)
    (body : ∀ X : Cx, X.prog = P → X.w = w → X.K = K → X.mg = mg → X.base = base → Bd X N (defScope st) k → Bf X → ∀ a, pre a → DS X (fun cls fs _ _ => ex a cls fs) (defBody st) (startD N (args a)) [] (retP fun d _ => post a d)) :
    FnOk P w K mg base (L2.CX P w) (k + 1) f fd ps (spP K args pre post ex) := by
  refine F.ok S (fun vs H Q E h => ?_) (fun cdv A outer s H vs Q E hr hsp => ?_)
  · obtain ⟨x, H0, _, r, _⟩ := h
    rw [r.length, hl]
  · obtain ⟨x, H0, hs, r, hp, hq, he⟩ := hsp
    obtain ⟨B, Fz⟩ := bd_of (P := P) (w := w) (K := K) (mg := mg) (base := base) (outer := outer) (H := H) (E := E) S hr
    refine ⟨_, pss_s _, body _ rfl rfl rfl rfl rfl B Fz x hp (L2.start N vs) H H0 (Ht.emp hs.1 hs.2) (start_rep r) (fun cls d _ H => E cls d H) (takes_of rfl rfl rfl rfl) (fun cls dd σ' H' H0' fs ρ' M' g t s' xr e => he cls dd H' H0' fs (g.pu t) xr e) _ ?_⟩
    exact ⟨fun σ' H' H0' ρ' M' g t _ p => hq .non H' H0' .non (g.pu t) .non p, fun _ _ _ _ _ _ _ _ p => p.elim, fun _ _ _ _ _ _ _ _ p => p.elim, fun v H' H0' d M' g t r p => hq v H' H0' d (g.pu t) r p⟩
theorem fn_mD {x qual : Str} {st : Stmt} {f : Addr} {fd : FuncData} {N ps : List Str} {dv : List V} {k : Nat} {args : α → List D} {Mi : α → Mem} {pre : α → Prop} {post : α → D → Mem → Prop} {ex : α → Value → List (Str × D) → Mem → Prop} (F : FunD K x qual (defArgs st) (defBody st) (defScope st) dv [] f fd) (S : FnScope N ps (defScope st)) (hl : ∀ a, (args a).length = ps.length)
    (body : ∀ X : Cx, X.prog = P → X.w = w → X.K = K → X.mg = mg → X.base = base → Bd X N (defScope st) k → Bf X → ∀ a, pre a → DS X (fun cls fs _ M' => ex a cls fs M') (defBody st) (startD N (args a)) (Mi a) (retP (post a))) :
    FnOk P w K mg base (L2.CX P w) (k + 1) f fd ps (spM K args Mi pre post ex) := by
  refine F.ok S (fun vs H Q E h => ?_) (fun cdv A outer s H vs Q E hr hsp => ?_)
  · obtain ⟨x, H0, _, r, _⟩ := h
    rw [r.length, hl]
  · obtain ⟨x, H0, hs, r, hp, hq, he⟩ := hsp
    obtain ⟨B, Fz⟩ := bd_of (P := P) (w := w) (K := K) (mg := mg) (base := base) (outer := outer) (H := H) (E := E) S hr
    refine ⟨_, pss_s _, body _ rfl rfl rfl rfl rfl B Fz x hp (L2.start N vs) H H0 hs (start_rep r) (fun cls d _ H => E cls d H) (takes_of rfl rfl rfl rfl) (fun cls dd σ' H' H0' fs ρ' M' g t s' xr e => he cls dd H' H0' fs M' g t xr e) _ ?_⟩
    exact ⟨fun σ' H' H0' ρ' M' g t _ p => hq .non H' H0' .non M' g t .non p, fun _ _ _ _ _ _ _ _ p => p.elim, fun _ _ _ _ _ _ _ _ p => p.elim, fun v H' H0' d M' g t r p => hq v H' H0' d M' g t r p⟩
/-- a method, or a def with defaults, that changes nothing -/
theorem fn_eD {x qual : Str} {st : Stmt} {f : Addr} {fd : FuncData} {N ps : List Str} {dv : List V} {k : Nat} {args : α → List D} {F : α → Ex β} {enc : β → D} (Fu : FunD K x qual (defArgs st) (defBody st) (defScope st) dv [] f fd) (S : FnScope N ps (defScope st)) (hl : ∀ a, (args a).length = ps.length)
    (body : ∀ X : Cx, X.prog = P → X.w = w → X.K = K → X.mg = mg → X.base = base → Bd X N (defScope st) k → Bf X → ∀ a out, F a = out → out ≠ .bad → DS X (kxE mg out) (defBody st) (startD N (args a)) [] (retQ enc out)) :
    FnOk P w K mg base (L2.CX P w) (k + 1) f fd ps (spE K mg args F enc) :=
  fn_pD Fu S hl fun X e1 e2 e3 e4 e5 B Fz a ha => (body X e1 e2 e3 e4 e5 B Fz a _ rfl ha).imp fun o m h => by
    cases o with
    | nx ρ => exact h
    | bk ρ => exact h
    | ct ρ => exact h
    | rt d => exact h
/-- what __init__ leaves: the object at w with the fields ns -/
def initQ (C : Addr) (ns : List Str) (encs : β → List D) (out : Ex β) (w : Addr) : Out → Mem → Prop
  | .nx _, M => ∃ r, out = .ok r ∧ M = [(w, .ins C ns (encs r))]
  | _, _ => False
abbrev spI (K : Frag) (mg : Str → Option Value) (C : Addr) (ns : List Str) (args : α → List D) (F : α → Ex β) (encs : β → List D) : Sp :=
  spM K (fun q : Addr × α => .adr q.1 :: args q.2) (fun q => [(q.1, .ins C [] [])]) (fun q => F q.2 ≠ .bad) (fun q d M' => (∃ r, F q.2 = .ok r ∧ M' = [(q.1, .ins C ns (encs r))]) ∧ d = .non) (fun q cls fs M' => ∃ n, F q.2 = .exc n fs ∧ mg n = some cls)
theorem fn_i {x qual : Str} {st : Stmt} {f C : Addr} {fd : FuncData} {N ps : List Str} {dv : List V} {k : Nat} {ns : List Str} {args : α → List D} {F : α → Ex β} {encs : β → List D} (Fu : FunD K x qual (defArgs st) (defBody st) (defScope st) dv [] f fd) (S : FnScope N ps (defScope st)) (hl : ∀ a, (args a).length + 1 = ps.length)
    (body : ∀ X : Cx, X.prog = P → X.w = w → X.K = K → X.mg = mg → X.base = base → Bd X N (defScope st) k → Bf X → ∀ w a out, F a = out → out ≠ .bad → DS X (kxE mg out) (defBody st) (startD N (.adr w :: args a)) [(w, .ins C [] [])] (initQ C ns encs out w)) :
    FnOk P w K mg base (L2.CX P w) (k + 1) f fd ps (spI K mg C ns args F encs) :=
  fn_mD Fu S (fun a => hl a.2) fun X e1 e2 e3 e4 e5 B Fz a ha => (body X e1 e2 e3 e4 e5 B Fz a.1 a.2 _ rfl ha).imp fun o m h => by
    cases o with
    | nx ρ => exact ⟨h, rfl⟩
    | bk ρ => exact h
    | ct ρ => exact h
    | rt d => exact h.elim
theorem MethT.gm {C : Addr} {m qual : Str} {st : Stmt} {ps : List Str} {dvs : List V} {k : Nat} {sp : Sp} (T : MethT K C m qual st ps dvs) (j : Nat) (hj : j ≤ dvs.length) (ds : List D) (hd : ∀ H vs, vs = dvs.drop j → RepA K H vs ds) (h : ∀ f fd, FunD K m qual (defArgs st) (defBody st) (defScope st) dvs [] f fd → FnOk P w K mg base (L2.CX P w) k f fd ps sp) : GM P w K mg base k C m ds sp := by
  obtain ⟨f, fd, Df, a, i⟩ := T
  obtain ⟨us, v, b⟩ := Df.b j hj
  exact ⟨f, fd, ps, us, _, ⟨a, i, Df.F.kp⟩, h f fd Df.F, b, v, fun H => hd H _ rfl⟩
theorem MethT.gc {C : Addr} {qual : Str} {st : Stmt} {ps : List Str} {dvs : List V} {k : Nat} {sp : Sp} {x : Str} {fs : List Str} (Ct : ClsT K mg x C fs) (T : MethT K C "__init__" qual st ps dvs) (j : Nat) (hj : j ≤ dvs.length) (ds : List D) (hd : ∀ H vs, vs = dvs.drop j → RepA K H vs ds)
    (h : ∀ f fd, FunD K "__init__" qual (defArgs st) (defBody st) (defScope st) dvs [] f fd → FnOk P w K mg base (L2.CX P w) k f fd ps sp) : GC P w K mg base k C ds sp := by
  obtain ⟨f, fd, Df, a, i⟩ := T
  obtain ⟨us, v, b⟩ := Df.b j hj
  exact ⟨f, fd, ps, us, _, ⟨Ct.mks, a, i, Ct.kp⟩, h f fd Df.F, b, v, fun H => hd H _ rfl⟩
theorem FunDT.gf {x : Str} {st : Stmt} {ps : List Str} {dvs : List V} {k : Nat} {sp : Sp} (T : FunDT K mg x st ps dvs) (j : Nat) (hj : j ≤ dvs.length) (ds : List D) (hd : ∀ H vs, vs = dvs.drop j → RepA K H vs ds) (h : ∀ f fd, FunD K x x (defArgs st) (defBody st) (defScope st) dvs [] f fd → FnOk P w K mg base (L2.CX P w) k f fd ps sp) : GF P w K mg base k x ds sp := by
  obtain ⟨f, fd, Df, a⟩ := T
  obtain ⟨us, v, b⟩ := Df.b j hj
  exact ⟨f, fd, ps, us, _, a, Df.F.kp, h f fd Df.F, b, v, fun H => hd H _ rfl⟩
end
section
variable {X : Cx} {kx kx' : XD} {ρ ρ' ρ'' : Ro} {M M' : Mem} {P : Out → Mem → Prop} {pos p apos tpos : Pos} {tg a b c e o ix : Expr} {es : List Expr} {x y z : D} {w C : Addr} {α β γ : Type} {k : Nat} {m : Str} {ns : List Str} {dvs ds fs : List D}
theorem init_nx {encs : β → List D} {out : Ex β} {r : β} (h : .ok r = out) (e : M = [(w, .ins C ns (encs r))]) : initQ C ns encs out w (.nx ρ) M := ⟨r, h.symm, e⟩
/-- C(e, ..), an object that stays as it is -/
theorem dv_make {cx : Str} {args : α → List D} {F : α → Ex β} {encs : β → List D} {r : β} (G : GC X.prog X.w X.K X.mg X.base k C dvs (spI X.K X.mg C ns args F encs)) (hr : Room (k + 1) X.A) (hg : Gl X cx) (hm : X.mg cx = some (.ref C)) (ha : DA X kx (e :: es) ρ M ds) (a : α) (hargs : args a = ds ++ dvs) (hF : F a = .ok r)
    (hdb : (cx == ("__debug__" : Str)) = false := by decide) (he : starEach (e :: es) X.env = (false, eval e X.env) :: starEach es X.env := by rfl) (hpl : (backTo pos (starEach es X.env)).any (·.1) = false := by rfl) : DV X kx (.Call (.Name cx p) (e :: es) [] pos) ρ M (.ins C ns (encs r)) := fun σ H H0 t s W tk hx Q q =>
  make_e G hr hg hm t s tk hx ha (fun vs us H1 H01 w dx p1 rr ru h1 h2 h3 => by
    obtain ⟨g2, t2⟩ := ht_make (C := C) (Ht.emp p1.ex (t.pu p1).tb) h1 h2 h3
    refine ⟨(w, a), H01, t2, .cons (.adr w) (by rw [hargs]; exact rr.app ru), fun h => Ex.ok_ne r (hF.symm.trans h), fun v H' H0' d M' g t' r' ⟨⟨r'', e1, e2⟩, e3⟩ => ?_, fun cls dd H' H0' fs' M' g t' xr ⟨n, e1, _⟩ => by cases hF.symm.trans e1⟩
    cases hF.symm.trans e1
    subst e3
    cases r'
    subst e2
    obtain ⟨H0s, sm, t3, r3, g3⟩ := t'.frzI (i := 0) rfl
    have pz := (g2.trans (g.trans g3)).pu t3
    exact ⟨rfl, q (.ref w) H' H0s (p1.trans pz) r3⟩) hdb he hpl
/-- a list in a field of an object that is tracked will not change any more -/
theorem Ht.frzF {K : Frag} {H0 H : Hp} {M : Mem} (t : Ht K H0 H M) {i j : Nat} {w a C : Addr} {ns : List Str} {ds fs : List D} {n : Nat} (hm : M[i]? = some (w, .lst ds)) (ho : (M.eraseIdx i)[j]? = some (a, .ins C ns fs)) (hf : fs[n]? = some (.adr w)) :
    ∃ H0', Same H0 H0' ∧ Ht K H0' H ((M.eraseIdx i).set j (a, .ins C ns (fs.set n (.lst ds)))) ∧ Go H0 H M H0' H ((M.eraseIdx i).set j (a, .ins C ns (fs.set n (.lst ds)))) := by
  obtain ⟨H0', sm, t2, r2, g2⟩ := t.frz1 hm
  obtain ⟨h0, dx, vs, xs, h1, h2, h3, h4⟩ := t2.mem _ (List.mem_of_getElem? ho)
  obtain ⟨v, hv, rv⟩ := h4.get hf
  cases rv
  have h5 : RepA K H0' xs (fs.set n (.lst ds)) := by
    have z := h4.set n r2
    have e2 : xs.set n (.ref w) = xs := by
      refine List.ext_getElem? fun q => ?_
      by_cases hq : n = q
      · subst hq; rw [List.getElem?_set_self (List.getElem?_eq_some_iff.mp hv).1, hv]
      · rw [List.getElem?_set_ne hq]
    rw [e2] at z
    exact z
  have dm : Mem.dom ((M.eraseIdx i).set j (a, .ins C ns (fs.set n (.lst ds)))) = Mem.dom (M.eraseIdx i) := set_dom ho
  refine ⟨H0', sm, ⟨t2.ex, by rw [dm]; exact t2.nd, fun q hq => ?_, t2.tb⟩, ⟨g2.e0, g2.e, g2.new, fun b hb => by rw [dm] at hb; exact g2.dom b hb, g2.there⟩⟩
  rcases List.mem_or_eq_of_mem_set hq with hq | rfl
  · exact t2.mem q hq
  · exact ⟨h0, dx, vs, xs, h1, h2, h3, h5⟩
theorem ds_frzF {sts : List Stmt} (i j n : Nat) {a : Addr} (hm : M[i]? = some (w, .lst ds)) (ho : (M.eraseIdx i)[j]? = some (a, .ins C ns fs)) (hf : fs[n]? = some (.adr w)) (h : DS X kx sts ρ ((M.eraseIdx i).set j (a, .ins C ns (fs.set n (.lst ds)))) P) : DS X kx sts ρ M P := fun σ H H0 t s W tk hx D c => by
  obtain ⟨H0', sm, t2, g2⟩ := t.frzF hm ho hf
  exact h σ H H0' t2 (s.mo sm) W tk (hx.step g2) D (c.step g2)
/-- o.f = [e, ..], a list that will change -/
theorem ds1_fldL {i : Nat} {f : Str} {ns' : List Str} {D0 : List D} (cl : Cls X.K C) (na : NoAttr X.K C f) (hv : DA X kx es ρ M ds) (hl : ds.length ≤ sizeLine) (ho : ∀ w2, DV X kx o ρ ((w2, .lst ds) :: M) (.adr w)) (hm : M[i]? = some (w, .ins C ns D0)) (hl2 : ns.length < 1000)
    (hk : ∀ w2, w2 ∉ M.dom → ∃ ds', putD f (.adr w2) ns D0 = (ns', ds') ∧ P (.nx ρ) ((w2, .lst ds) :: M.set i (w, .ins C ns' ds')))
    (hs : swapsWith (.List es apos) (some (.Attribute o f tpos)) pos.line X.env = pure false := by rfl) : DS1 X kx (.Assign [.Attribute o f tpos] (.List es apos) pos) ρ M P := fun σ H H0 t s W tk hx D c =>
  sS.by (ps_fld (pe_s o) (pe_s (.List es apos)) hs) ((de_lst (k := fun d m => ∃ w2, w2 ∉ M.dom ∧ d = .adr w2 ∧ m = (w2, .lst ds) :: M) hv hl fun w2 hw2 => ⟨w2, hw2, rfl, rfl⟩) σ H H0 t s W tk hx _ fun v H1 H01 d M1 g1 t1 r1 ⟨w2, hw2, e1, e2⟩ => by
    subst e1 e2
    refine ho w2 σ H1 H01 t1 (s.mo g1.e0) W tk (hx.step g1) _ fun u H2 H02 p2 r2 => ?_
    cases r2
    have t2 := t1.pu p2
    have hm' : ((w2, Mu.lst ds) :: M)[i + 1]? = some (w, .ins C ns D0) := by rw [List.getElem?_cons_succ]; exact hm
    obtain ⟨_, dx, vs, xs, h1, rfl, rfl, h4⟩ := t2.mem _ (List.mem_of_getElem? hm')
    obtain ⟨ds', hp, hk'⟩ := hk w2 hw2
    obtain ⟨i1, i2⟩ := putD_rep (f := f) (r1.mo p2.e0) h4
    rw [hp] at i1 i2
    obtain ⟨t3, g3⟩ := t2.setM (o := .ins C dx (putF f v vs)) (m' := .ins C ns' ds') hm' fun H' e => ⟨dx, putF f v vs, _, e, i1, rfl, i2⟩
    refine ⟨w, C, dx, vs, rfl, h1, cl, na, by rw [List.length_map] at hl2; exact hl2, c.nx σ _ H02 ρ _ (g1.trans (p2.go.trans g3)) t3 (s.mo (g1.e0.trans p2.e0)) ?_⟩
    exact hk')
end
end Dl
namespace Dl
open PySem PySem.Spec PyProof.Rows L2
theorem len1 {α : Type} : ∀ {l : List α}, l.length = 1 → ∃ a, l = [a]
  | [a], _ => ⟨a, rfl⟩
theorem len2 {α : Type} : ∀ {l : List α}, l.length = 2 → ∃ a b, l = [a, b]
  | [a, b], _ => ⟨a, b, rfl⟩
theorem len3 {α : Type} : ∀ {l : List α}, l.length = 3 → ∃ a b c, l = [a, b, c]
  | [a, b, c], _ => ⟨a, b, c, rfl⟩
theorem len4 {α : Type} : ∀ {l : List α}, l.length = 4 → ∃ a b c d, l = [a, b, c, d]
  | [a, b, c, d], _ => ⟨a, b, c, d, rfl⟩
end Dl
namespace Dl
open PySem PySem.Spec PyProof.Rows L2
/-! ### a list that changes, looked at by others meanwhile -/
mutual
/-- no list, no object within -/
def D.plain : D → Bool
  | .non => true
  | .bl _ => true
  | .int _ => true
  | .str _ => true
  | .ty _ => true
  | .lst _ => false
  | .scr _ => false
  | .tup xs => D.plainA xs
  | .ins _ _ _ => false
  | .adr _ => true
  | .dK _ _ => false
  | .dT _ _ => false
  | .exn _ _ xs => D.plainA xs
  | .clo _ _ xs => D.plainA xs
def D.plainA : List D → Bool
  | [] => true
  | d :: ds => d.plain && D.plainA ds
end
def cutH (H : Hp) (w : Addr) : Hp := fun a => if a = w then none else H a
theorem cutH_ne {H : Hp} {w a : Addr} (h : a ≠ w) : cutH H w a = H a := by unfold cutH; rw [if_neg h]
theorem cutH_some {H : Hp} {w b : Addr} {o : HO} (h : cutH H w b = some o) : H b = some o := by
  unfold cutH at h
  split at h
  · cases h
  · exact h
theorem cutH_same {H : Hp} {w : Addr} : cutH H w w = none := by unfold cutH; rw [if_pos rfl]
mutual
theorem Rep.cut {K : Frag} {H : Hp} {w : Addr} {xs : List V} (hw : H w = some (.lst xs)) : ∀ (d : D) (v : V), d.plain = true → Rep K H v d → Rep K (cutH H w) v d
  | .non, _, _, h => by cases h; exact .non
  | .bl b, _, _, h => by cases h; exact .bl b
  | .int b, _, _, h => by cases h; exact .int b
  | .str b, _, _, h => by cases h; exact .str b
  | .ty b, _, _, h => by cases h; exact .ty b
  | .lst ds, _, p, h => by simp [D.plain] at p
  | .scr ds, _, p, h => by simp [D.plain] at p
  | .tup ds, _, p, h => by
    cases h with
    | @tup a xs' _ c d =>
      have q : a ≠ w := fun z => by rw [z, hw] at c; cases c
      exact .tup (by rw [cutH_ne q]; exact c) (RepA.cut hw ds _ (by simpa [D.plain] using p) d)
  | .ins C ns ds, _, p, h => by simp [D.plain] at p
  | .adr a, _, _, h => by cases h; exact .adr a
  | .dK _ _, _, p, h => by simp [D.plain] at p
  | .dT _ _, _, p, h => by simp [D.plain] at p
  | .exn C ns ds, _, p, h => by
    have ne : ∀ {a C : Addr} {d : Option Addr}, H a = some (exT a C d) → a ≠ w := fun {a C d} c z => by rw [z, hw] at c; cases c
    cases h with
    | exn0 c => exact .exn0 (by rw [cutH_ne (ne c)]; exact c)
    | @exn1 a C d vs ns xs' ds c1 c2 c3 c4 c5 =>
      have nd : d ≠ w := fun z => by rw [z, hw] at c2; cases c2
      exact .exn1 (by rw [cutH_ne (ne c1)]; exact c1) (by rw [cutH_ne nd]; exact c2) c3 c4 (RepA.cut hw ds _ (by simpa [D.plain] using p) c5)
  | .clo G fr ds, _, p, h => by
    have ne : ∀ {a : Addr} {φ : Heap → Prop}, H a = some (.ext φ) → a ≠ w := fun {a φ} c z => by rw [z, hw] at c; cases c
    cases h with
    | clo c1 c2 c3 c4 =>
      exact .clo (by rw [cutH_ne (ne c1)]; exact c1) (by rw [cutH_ne (ne c2)]; exact c2)
        ⟨c3.1, c3.2.1, c3.2.2.1, c3.2.2.2.1, fun i q v a b => by have z := c3.2.2.2.2 i q v a b; rw [cutH_ne (ne z)]; exact z⟩ (RepA.cut hw ds _ (by simpa [D.plain] using p) c4)
theorem RepA.cut {K : Frag} {H : Hp} {w : Addr} {xs : List V} (hw : H w = some (.lst xs)) : ∀ (ds : List D) (vs : List V), D.plainA ds = true → RepA K H vs ds → RepA K (cutH H w) vs ds
  | [], _, _, h => by cases h; exact .nil
  | d :: ds, _, p, h => by
    simp only [D.plainA, Bool.and_eq_true] at p
    cases h with
    | cons a b => exact .cons (Rep.cut hw d _ p.1 a) (RepA.cut hw ds _ p.2 b)
end
section
variable {X : Cx} {kx kx' : XD} {ρ ρ' ρ'' : Ro} {M M' : Mem} {P : Out → Mem → Prop} {pos p apos tpos : Pos} {tg a b c e o ix : Expr} {es : List Expr} {x y z d : D} {w C : Addr} {α β γ : Type} {k : Nat} {m : Str} {ns : List Str} {dvs ds fs : List D}
/-- the state in which the list at w stands for good -/
theorem lent {H0 H : Hp} {σ : L2.St} {i j : Nat} (t : Ht X.K H0 H M) (s : Sl X.K H0 σ ρ) (hm : M[i]? = some (w, .lst ds)) (hj : ρ[j]? = some (some (.adr w))) :
    ∃ vs, H w = some (.lst vs) ∧ H0 w = none ∧ Ht X.K (upd H0 w (.lst vs)) H (M.eraseIdx i) ∧ Sl X.K (upd H0 w (.lst vs)) σ (ρ.set j (some (.lst ds))) := by
  obtain ⟨h0, vs, h1, h2⟩ := t.mem _ (List.mem_of_getElem? hm)
  have sm : Same H0 (upd H0 w (.lst vs)) := same_new h0
  have nd : (M.dom)[i]? = some w := by rw [List.getElem?_map, hm]; rfl
  have t' : Ht X.K (upd H0 w (.lst vs)) H (M.eraseIdx i) := by
    refine ⟨fun b o e => ?_, ?_, fun q hq => ?_, t.tb.frz h1⟩
    · by_cases hb : b = w
      · subst hb; rw [upd_same] at e; cases e; exact h1
      · rw [upd_ne hb] at e; exact t.ex _ _ e
    · exact t.nd.sublist (List.Sublist.map _ (List.eraseIdx_sublist _ _))
    · have hq1 : q ∈ M := List.mem_of_mem_eraseIdx hq
      have ne : q.1 ≠ w := fun z => by
        obtain ⟨j', hj', e1⟩ := List.mem_eraseIdx_iff_getElem?.mp hq
        have d2 : (M.dom)[j']? = some w := by rw [List.getElem?_map, e1]; show some q.1 = some w; rw [z]
        exact hj' (Ht.setM.nodup_at t.nd d2 nd)
      obtain ⟨a, b⟩ := t.mem q hq1
      exact ⟨by rw [upd_ne ne]; exact a, b.mono sm fun _ e _ => e⟩
  obtain ⟨v, e1, r1⟩ := s.2 j _ hj
  cases r1
  refine ⟨vs, h1, h0, t', ?_⟩
  have z := (s.mo sm).set (v := .ref w) (d := .lst ds) (.lst upd_same (h2.mo sm)) j
  have e2 : σ.set j (some (.ref w)) = σ := by
    refine List.ext_getElem? fun k => ?_
    by_cases hk : j = k
    · subst hk; rw [List.getElem?_set_self (List.getElem?_eq_some_iff.mp e1).1, e1]
    · rw [List.getElem?_set_ne hk]
  rw [e2] at z
  exact z
theorem lent_back {K : Frag} {H0 H H0' H' : Hp} {vs : List V} (h1 : H w = some (.lst vs)) (h0 : H0 w = none) (p : Pu (upd H0 w (.lst vs)) H H0' H') : Pu H0 H (cutH H0' w) H' ∧ H0' w = some (.lst vs) := by
  have hw : H0' w = some (.lst vs) := p.e0 _ _ upd_same
  refine ⟨⟨fun b o e => ?_, p.e, fun b o e => ?_, fun a a1 a2 => ?_, p.there, fun t => (p.tb (t.frz h1)).all (fun b n _ => by unfold cutH; split <;> first | rfl | exact n) fun b ps z => cutH_some z⟩, hw⟩
  · have q : b ≠ w := fun z => by rw [z, h0] at e; cases e
    rw [cutH_ne q]
    exact p.e0 _ _ (by rw [upd_ne q]; exact e)
  · by_cases q : b = w
    · rw [q, cutH_same] at e; cases e
    · rw [cutH_ne q] at e; exact p.ex _ _ e
  · by_cases q : a = w
    · rw [q]; exact cutH_same
    · rw [cutH_ne q]; exact p.new a (by rw [upd_ne q]; exact a1) a2
theorem DV.lend (i j : Nat) (hm : M[i]? = some (w, .lst ds)) (hj : ρ[j]? = some (some (.adr w))) (h : DV X kx0 e (ρ.set j (some (.lst ds))) (M.eraseIdx i) d) (hd : d.plain = true) : DV X kx e ρ M d := fun σ H H0 t s W tk hx Q q => by
  obtain ⟨vs, h1, h0, t', s'⟩ := lent t s hm hj
  refine h σ H _ t' s' W tk Hx.none Q fun v H' H0' p r => ?_
  obtain ⟨p', hw⟩ := lent_back (K := X.K) h1 h0 p
  exact q v H' _ p' (Rep.cut hw _ _ hd r)
theorem DT.lend {b : Bool} (i j : Nat) (hm : M[i]? = some (w, .lst ds)) (hj : ρ[j]? = some (some (.adr w))) (h : DT X kx0 e (ρ.set j (some (.lst ds))) (M.eraseIdx i) b) : DT X kx e ρ M b := fun σ H H0 t s W tk hx Q q => by
  obtain ⟨vs, h1, h0, t', s'⟩ := lent t s hm hj
  exact h σ H _ t' s' W tk Hx.none Q fun H' H0' p => q H' _ (lent_back (K := X.K) h1 h0 p).1
/-! ### a new list handed back, that may change -/
def retF {β : Type} (g : β → D) (out : Ex (List β)) : Out → Mem → Prop
  | .rt d, M => ∃ r w, out = .ok r ∧ d = .adr w ∧ (w, Mu.lst (r.map g)) ∈ M
  | _, _ => False
theorem retF_mk {g : β → D} {out : Ex (List β)} {r : List β} (h : .ok r = out) (hm : (w, Mu.lst (r.map g)) ∈ M) : retF g out (.rt (.adr w)) M := ⟨r, w, h.symm, rfl, hm⟩
abbrev spF (K : Frag) (mg : Str → Option Value) (args : α → List D) (F : α → Ex (List β)) (g : β → D) : Sp :=
  spM K args (fun _ => []) (fun q => F q ≠ .bad) (fun q d M' => ∃ r w, F q = .ok r ∧ d = .adr w ∧ (w, Mu.lst (r.map g)) ∈ M') (fun q cls fs _ => ∃ n, F q = .exc n fs ∧ mg n = some cls)
end
section
variable {P : Program} {w : World} {K : Frag} {mg : Str → Option Value} {base : Heap} {α β : Type}
theorem fn_fD {x qual : Str} {st : Stmt} {f : Addr} {fd : FuncData} {N ps : List Str} {dv : List V} {k : Nat} {args : α → List D} {F : α → Ex (List β)} {g : β → D} (Fu : FunD K x qual (defArgs st) (defBody st) (defScope st) dv [] f fd) (S : FnScope N ps (defScope st)) (hl : ∀ a, (args a).length = ps.length)
    (body : ∀ X : Cx, X.prog = P → X.w = w → X.K = K → X.mg = mg → X.base = base → Bd X N (defScope st) k → Bf X → ∀ a out, F a = out → out ≠ .bad → DS X (kxE mg out) (defBody st) (startD N (args a)) [] (retF g out)) :
    FnOk P w K mg base (L2.CX P w) (k + 1) f fd ps (spF K mg args F g) :=
  fn_mD Fu S hl fun X e1 e2 e3 e4 e5 B Fz a ha => (body X e1 e2 e3 e4 e5 B Fz a _ rfl ha).imp fun o m h => by
    cases o with
    | nx ρ => exact h.elim
    | bk ρ => exact h
    | ct ρ => exact h
    | rt d => exact h
end
section
variable {X : Cx} {kx kx' : XD} {ρ ρ' ρ'' : Ro} {M M' : Mem} {P : Out → Mem → Prop} {pos p apos tpos : Pos} {tg a b c e o ix : Expr} {es : List Expr} {x y z d : D} {w C : Addr} {α β γ : Type} {k : Nat} {m : Str} {ns : List Str} {dvs ds fs : List D}
theorem new_in {H0 H H0' H' : Hp} {ds : List D} (t : Ht X.K H0 H M) (g : Go H0 H [] H0' H' M') (t' : Ht X.K H0' H' M') (hw : (w, Mu.lst ds) ∈ M') : Go H0 H M H0' H' ((w, .lst ds) :: M) ∧ Ht X.K H0' H' ((w, .lst ds) :: M) ∧ w ∉ M.dom := by
  have p := g.pu t'
  have tp := t.pu p
  have hn : H w = none := (g.dom w (List.mem_map.mpr ⟨_, hw, rfl⟩)).resolve_left (by simp)
  have nm : w ∉ M.dom := (t.free hn).2
  obtain ⟨a1, a2⟩ := t'.mem _ hw
  refine ⟨⟨p.e0, fun b o e _ n => p.e b o e n, fun a h1 h2 _ => p.new a h1 h2, fun b hb => ?_, p.there⟩, ⟨p.ex, List.nodup_cons.mpr ⟨nm, tp.nd⟩, fun q hq => ?_, tp.tb⟩, nm⟩
  · rcases List.mem_cons.mp (show b ∈ w :: M.dom from hb) with rfl | hb
    · exact .inr hn
    · exact .inl hb
  · rcases List.mem_cons.mp hq with rfl | hq
    · exact ⟨a1, a2⟩
    · exact tp.mem q hq
/-- return of an expression that makes a new list -/
theorem ds1_retN2 {e : Expr} {k : D → Mem → Prop} (h : DE X kx e ρ M k) (hk : ∀ d m, k d m → P (.rt d) m) : DS1 X kx (.Return (some e) tpos) ρ M P := ds1_ret h hk
end
end Dl

namespace Dl
open PySem PySem.Spec PyProof.Rows L2
section
variable {X : Cx} {kx kx' : XD} {ρ ρ' ρ'' : Ro} {M M' : Mem} {P : Out → Mem → Prop} {pos p apos tpos kpos : Pos} {tg a b c e o ix dd : Expr} {es : List Expr} {x y z d : D} {w C : Addr} {α β γ : Type} {k : Nat} {ds fs : List D}
/-! ### max(xs, default=None) -/
def maxO (l : List Int) : Option Int := if l = [] then none else some (maxI l)
def minO (l : List Int) : Option Int := if l = [] then none else some (minI l)
def rMaxD (K : PySem.W.Frag) : List V → List V → Hp → VK → Prop := fun vs zs H Q => ∃ (a : Addr) (ns : List Int) (z : V), vs = [V.ref a] ∧ zs = [z] ∧ SqL K H a (ns.map V.int) ∧ Q (match maxO ns with | none => z | some m => .int m) H
/-! ### xs * n -/
def repL (xs : List α) (n : Int) : List α := (List.replicate n.toNat xs).flatten
def RepOk (n : Int) : Prop := -(2 ^ 63) ≤ n ∧ n < 2 ^ 63
/-! ### x in a tuple of numbers -/
/-! ### xs[::-1] -/
theorem dv_rev {g : α → D} {xs : List α} {j : Nat} {p1 p2 p3 : Pos} (ha : DV X kx a ρ M x) (h : SeqL M x (xs.map g)) : DV X kx (.Subscript a (.Slice none none (some (.UnaryOp .USub (.Constant (.int 1) j p1) p2)) p3) pos) ρ M (.lst (xs.reverse.map g)) := fun σ H H0 t s W tk hx Q q =>
  sE.by (pe_revL (pe_s a)) (ha σ H H0 t s W tk hx _ fun v H1 H01 p1 r1 => by
    obtain ⟨l, vs, rfl, h1, h2⟩ := h.rep (t.pu p1) r1
    refine ⟨l, vs, rfl, h1, fun w hw => ?_⟩
    have g2 := Pu.new1 p1.ex hw (.lst vs.reverse)
    exact q _ _ _ (p1.trans g2) (.lst upd_same (by rw [List.map_reverse]; exact h2.rev.mo g2.e0)))
end
end Dl

namespace Dl
open PySem PySem.Spec PyProof.Rows L2
/-! ### the mirror of a try -/
def excE {β : Type} (hs : List (Str × Ex β)) (n : Str) : Ex β := match hs with
  | [] => .bad
  | (m, h) :: t => if n = m then h else excE t n
def tryE {α β : Type} (m : Ex α) (k : α → Ex β) (hs : List (Str × Ex β)) : Ex β := match m with
  | .ok a => k a
  | .exc n fs => if fs.length = 0 then excE hs n else .bad
  | .bad => .bad
/-! ### the walk -/
structure BdS (X : Cx) (N : List Str) (sc : Scope) (k : Nat) : Prop where
  hN : X.N = N
  hnd : N.Nodup
  hsc : X.env.scope = sc
  un : X.A.units + 64 < cLine
section
variable {X : Cx} {N : List Str} {sc : Scope} {k : Nat}
theorem BdS.hu (B : BdS X N sc k) : X.A.units + 64 < cLine := B.un
theorem BdS.nm (B : BdS X N sc k) {i : Nat} {x : Str} (h : N[i]? = some x) (v : Vis sc x) (d1 : (x == ("__debug__" : Str)) = false := by decide) (d2 : (x == ("__classdict__" : Str)) = false := by decide) : Nm X i x :=
  ⟨by rw [B.hN]; exact h, by rw [B.hsc]; exact v, d1, d2⟩
theorem BdS.ns (B : BdS X N sc k) {i : Nat} {x : Str} (h : N[i]? = some x) (v : sc.names.lookup x = some .local) (d1 : (x == ("__debug__" : Str)) = false := by decide) (d2 : (x == ("__classdict__" : Str)) = false := by decide) : Ns X i x :=
  { B.nm h (.inl v) d1 d2 with nd := by rw [B.hN]; exact B.hnd, loc := by rw [B.hsc]; exact .inl v, fn := .inr (by rw [B.hsc]; exact v) }
theorem BdS.gl (B : BdS X N sc k) {x : Str} (h : sc.names.lookup x = some .globalImplicit) : Gl X x := by
  show X.env.scope.names.lookup x = some .globalImplicit
  rw [B.hsc]; exact h
theorem BdS.bn (B : BdS X N sc k) {x : Str} {u : Value} (h : sc.names.lookup x = some .globalImplicit) (m : X.mg x = none) (b : bootBuiltins x = some u) (n : x ≠ "__name__" := by decide) (d : (x == ("__debug__" : Str)) = false := by decide) : Bn X x u :=
  ⟨B.gl h, m, b, n, d⟩
theorem Bd.tr (B : Bd X N sc k) {pn : List (Addr × PySem.Obj)} {xe : Value → Shared → Prop} (po : PassesOwn (model X.prog X.w) X.A X.env xe) : Bd (X.tr pn xe) N sc k := ⟨B.hN, B.hnd, B.hsc, B.calm, B.room, po⟩
theorem Bf.tr (F : Bf X) {pn : List (Addr × PySem.Obj)} {xe : Value → Shared → Prop} : Bf (X.tr pn xe) := ⟨F.fn, F.stk, F.fr⟩
end
/-- the exception that the suite holds, of the class at C -/
def Held (X : Cx) (a C : Addr) : Prop := ∃ (Y : Cx) (oe : PySem.Obj) (l : List (Addr × PySem.Obj)), X = Y.suite a ((a, oe) :: l) ∧ Zc (.ref C) none oe ∧ ∃ vs, oe.data = .fields vs
/-- what follows, once the exception's name is gone -/
def goneP (i : Nat) (P : Out → Mem → Prop) : Out → Mem → Prop
  | .nx ρ, M => P (.nx (ρ.set i none)) M
  | .bk ρ, M => P (.bk (ρ.set i none)) M
  | .ct ρ, M => P (.ct (ρ.set i none)) M
  | .rt d, M => P (.rt d) M
section
variable {X : Cx} {kx kx' : XD} {ρ ρ' ρ'' : Ro} {M M' : Mem} {P : Out → Mem → Prop} {pos p np pos' : Pos} {tg a b c e o ix dd : Expr} {es : List Expr} {x y z d : D} {w C : Addr} {α β γ : Type} {k i : Nat} {ds fs : List D} {N : List Str} {sc : Scope}
theorem Sl.none {K : Frag} {H0 : Hp} {σ : L2.St} (h : Sl K H0 σ ρ) (i : Nat) : Sl K H0 (σ.set i none) (ρ.set i none) := by
  refine ⟨by rw [List.length_set, List.length_set]; exact h.1, fun j d' e => ?_⟩
  by_cases hj : i = j
  · subst hj
    by_cases hi : i < ρ.length
    · rw [List.getElem?_set_self hi] at e
      cases e
    · rw [List.getElem?_eq_none (by rw [List.length_set]; omega)] at e
      cases e
  · rw [List.getElem?_set_ne hj] at e ⊢
    exact h.2 j d' e
/-! ### isinstance(e, D) -/
/-! ### a, b = x, y -/
theorem letJ_out {α β : Type} {a : α} {k : α → β} {out : β} (h : letE a k = out) : ∃ x, x = k ∧ x a = out := ⟨k, rfl, h⟩
end
end Dl

/-! a list that changes, locked while others look at it: what they make of it may be lists, too -/
namespace Dl
open PySem PySem.Spec PyProof.Rows L2
mutual
/-- no list that is read in place within -/
def D.nsc : D → Bool
  | .non => true
  | .bl _ => true
  | .int _ => true
  | .str _ => true
  | .ty _ => true
  | .lst xs => D.nscA xs
  | .scr _ => false
  | .tup xs => D.nscA xs
  | .ins _ _ xs => D.nscA xs
  | .adr _ => true
  | .dK _ xs => D.nscA xs
  | .dT _ xs => D.nscA xs
  | .exn _ _ xs => D.nscA xs
  | .clo _ _ xs => D.nscA xs
def D.nscA : List D → Bool
  | [] => true
  | d :: ds => d.nsc && D.nscA ds
end
mutual
theorem Rep.cutF {K : Frag} {H : Hp} {w : Addr} {o : PySem.Obj} {xs : List V} (hw : H w = some (.frz o (.lst xs))) : ∀ (d : D) (v : V), d.nsc = true → Rep K H v d → Rep K (cutH H w) v d
  | .non, _, _, h => by cases h; exact .non
  | .bl b, _, _, h => by cases h; exact .bl b
  | .int b, _, _, h => by cases h; exact .int b
  | .str b, _, _, h => by cases h; exact .str b
  | .ty b, _, _, h => by cases h; exact .ty b
  | .adr a, _, _, h => by cases h; exact .adr a
  | .scr ds, _, p, h => by simp [D.nsc] at p
  | .lst ds, _, p, h => by
    simp only [D.nsc] at p
    cases h with
    | lst c d => exact .lst (by rw [cutH_ne (fun z => by rw [z, hw] at c; cases c)]; exact c) (RepA.cutF hw ds _ p d)
  | .tup ds, _, p, h => by
    simp only [D.nsc] at p
    cases h with
    | tup c d => exact .tup (by rw [cutH_ne (fun z => by rw [z, hw] at c; cases c)]; exact c) (RepA.cutF hw ds _ p d)
  | .ins C ns ds, _, p, h => by
    simp only [D.nsc] at p
    cases h with
    | ins c d e f => exact .ins (by rw [cutH_ne (fun z => by rw [z, hw] at c; cases c)]; exact c) d e (RepA.cutF hw ds _ p f)
  | .dK ks ds, _, p, h => by
    simp only [D.nsc] at p
    cases h with
    | dK c d e f => exact .dK (by rw [cutH_ne (fun z => by rw [z, hw] at c; cases c)]; exact c) d e (RepA.cutF hw ds _ p f)
  | .dT ks ds, _, p, h => by
    simp only [D.nsc] at p
    cases h with
    | dT c d e f => exact .dT (by rw [cutH_ne (fun z => by rw [z, hw] at c; cases c)]; exact c) d e (RepA.cutF hw ds _ p f)
  | .exn C ns ds, _, p, h => by
    simp only [D.nsc] at p
    cases h with
    | exn0 c => exact .exn0 (by rw [cutH_ne (fun z => by rw [z, hw] at c; cases c)]; exact c)
    | exn1 c1 c2 c3 c4 c5 => exact .exn1 (by rw [cutH_ne (fun z => by rw [z, hw] at c1; cases c1)]; exact c1) (by rw [cutH_ne (fun z => by rw [z, hw] at c2; cases c2)]; exact c2) c3 c4 (RepA.cutF hw ds _ p c5)
  | .clo G fr ds, _, p, h => by
    simp only [D.nsc] at p
    have ne : ∀ {a : Addr} {φ : Heap → Prop}, H a = some (.ext φ) → a ≠ w := fun {a φ} c z => by rw [z, hw] at c; cases c
    cases h with
    | clo c1 c2 c3 c4 =>
      exact .clo (by rw [cutH_ne (ne c1)]; exact c1) (by rw [cutH_ne (ne c2)]; exact c2)
        ⟨c3.1, c3.2.1, c3.2.2.1, c3.2.2.2.1, fun i q v a b => by have z := c3.2.2.2.2 i q v a b; rw [cutH_ne (ne z)]; exact z⟩ (RepA.cutF hw ds _ p c4)
theorem RepA.cutF {K : Frag} {H : Hp} {w : Addr} {o : PySem.Obj} {xs : List V} (hw : H w = some (.frz o (.lst xs))) : ∀ (ds : List D) (vs : List V), D.nscA ds = true → RepA K H vs ds → RepA K (cutH H w) vs ds
  | [], _, _, h => by cases h; exact .nil
  | d :: ds, _, p, h => by
    simp only [D.nscA, Bool.and_eq_true] at p
    cases h with
    | cons a b => exact .cons (Rep.cutF hw d _ p.1 a) (RepA.cutF hw ds _ p.2 b)
end
section
variable {X : Cx} {kx kx' : XD} {ρ ρ' ρ'' : Ro} {M M' : Mem} {e : Expr} {d : D} {w : Addr} {ds : List D}
end
end Dl
namespace Dl
open PySem PySem.Spec PyProof.Rows L2
end Dl

/-! dicts: kept in Mem while they change, locked for good when they don't -/
namespace Dl
open PySem PySem.Spec PyProof.Rows L2
section
variable {κ β γ : Type} [DecidableEq κ]
def getA (xs : List (κ × β)) (k : κ) : Option β := (xs.find? fun q => decide (q.1 = k)).map (·.2)
def putA (xs : List (κ × β)) (k : κ) (v : β) : List (κ × β) := if (xs.any fun q => decide (q.1 = k)) = true then xs.map (fun q => if q.1 = k then (q.1, v) else q) else xs ++ [(k, v)]
def setdA (xs : List (κ × β)) (k : κ) (v : β) : List (κ × β) := if (getA xs k).isSome = true then xs else putA xs k v
theorem getA_nil (k : κ) : getA ([] : List (κ × β)) k = none := rfl
theorem getA_cons (q : κ × β) (xs : List (κ × β)) (k : κ) : getA (q :: xs) k = if q.1 = k then some q.2 else getA xs k := by
  unfold getA
  rw [List.find?_cons]
  by_cases h : q.1 = k
  · rw [if_pos h, decide_eq_true h]; rfl
  · rw [if_neg h, decide_eq_false h]
theorem valV_cons' (q : κ × V) (xs : List (κ × V)) (k : κ) : valV (q :: xs) k = if q.1 = k then some q.2 else valV xs k := by
  by_cases h : q.1 = k
  · rw [if_pos h, valV_pos h]
  · rw [if_neg h, valV_neg h]
theorem getA_any (xs : List (κ × β)) (k : κ) : (xs.any fun q => decide (q.1 = k)) = (getA xs k).isSome := by
  induction xs with
  | nil => rfl
  | cons q xs ih =>
    rw [List.any_cons, getA_cons, ih]
    by_cases h : q.1 = k
    · rw [if_pos h, decide_eq_true h]; rfl
    · rw [if_neg h, decide_eq_false h]; rfl
/-- what a dict's look-up gives, value beside data -/
def Look2 (K : Frag) (H : Hp) : Option V → Option D → Prop
  | none, none => True
  | some v, some d => Rep K H v d
  | _, _ => False
theorem get_rep {K : Frag} {H : Hp} (k : κ) : ∀ {vs : List (κ × V)} {kvs : List (κ × D)}, vs.map Prod.fst = kvs.map Prod.fst → RepA K H (vs.map Prod.snd) (kvs.map Prod.snd) → Look2 K H (valV vs k) (getA kvs k)
  | [], [], _, _ => trivial
  | [], _ :: _, h, _ => by simp at h
  | _ :: _, [], h, _ => by simp at h
  | v :: vs, q :: kvs, h, r => by
    simp only [List.map_cons, List.cons.injEq] at h
    simp only [List.map_cons] at r
    cases r with
    | cons r1 r2 =>
      rw [valV_cons', getA_cons, h.1]
      by_cases e : q.1 = k
      · rw [if_pos e, if_pos e]; exact r1
      · rw [if_neg e, if_neg e]; exact get_rep k h.2 r2
theorem any_fst {κ β γ : Type} [DecidableEq κ] (k : κ) : ∀ {xs : List (κ × β)} {ys : List (κ × γ)}, xs.map Prod.fst = ys.map Prod.fst → (xs.any fun q => decide (q.1 = k)) = (ys.any fun q => decide (q.1 = k))
  | [], [], _ => rfl
  | [], _ :: _, h => by simp at h
  | _ :: _, [], h => by simp at h
  | x :: xs, y :: ys, h => by
    simp only [List.map_cons, List.cons.injEq] at h
    rw [List.any_cons, List.any_cons, any_fst k h.2, h.1]
theorem map_rep {K : Frag} {H : Hp} {k : κ} {v : V} {d : D} (r0 : Rep K H v d) : ∀ {vs : List (κ × V)} {kvs : List (κ × D)}, vs.map Prod.fst = kvs.map Prod.fst → RepA K H (vs.map Prod.snd) (kvs.map Prod.snd) →
    (vs.map fun q => if q.1 = k then (q.1, v) else q).map Prod.fst = (kvs.map fun q => if q.1 = k then (q.1, d) else q).map Prod.fst ∧ RepA K H ((vs.map fun q => if q.1 = k then (q.1, v) else q).map Prod.snd) ((kvs.map fun q => if q.1 = k then (q.1, d) else q).map Prod.snd)
  | [], [], _, _ => ⟨rfl, .nil⟩
  | [], _ :: _, h, _ => by simp at h
  | _ :: _, [], h, _ => by simp at h
  | x :: vs, q :: kvs, h, r => by
    simp only [List.map_cons, List.cons.injEq] at h
    simp only [List.map_cons] at r
    cases r with
    | cons r1 r2 =>
      obtain ⟨i1, i2⟩ := map_rep (k := k) r0 h.2 r2
      simp only [List.map_cons]
      rw [h.1]
      by_cases e : q.1 = k
      · rw [if_pos e, if_pos e]; exact ⟨congrArg (q.1 :: ·) i1, .cons r0 i2⟩
      · rw [if_neg e, if_neg e]; exact ⟨by rw [h.1, i1], .cons r1 i2⟩
theorem put_rep {K : Frag} {H : Hp} {k : κ} {v : V} {d : D} {vs : List (κ × V)} {kvs : List (κ × D)} (h : vs.map Prod.fst = kvs.map Prod.fst) (r : RepA K H (vs.map Prod.snd) (kvs.map Prod.snd)) (r0 : Rep K H v d) :
    (putK vs k v).map Prod.fst = (putA kvs k d).map Prod.fst ∧ RepA K H ((putK vs k v).map Prod.snd) ((putA kvs k d).map Prod.snd) := by
  unfold putK putA
  rw [any_fst k h]
  by_cases e : (kvs.any fun q => decide (q.1 = k)) = true
  · rw [if_pos e, if_pos e]
    exact map_rep r0 h r
  · rw [if_neg e, if_neg e]
    refine ⟨by rw [List.map_append, List.map_append, h]; rfl, ?_⟩
    rw [List.map_append, List.map_append]
    exact r.app (.one r0)
/-! typed -/
theorem getA_map {κ' : Type} [DecidableEq κ'] {ek : κ → κ'} (inj : ∀ a b, ek a = ek b → a = b) {g : β → γ} (k : κ) : ∀ xs : List (κ × β), getA (xs.map fun q => (ek q.1, g q.2)) (ek k) = (getA xs k).map g
  | [] => rfl
  | q :: xs => by
    rw [List.map_cons, getA_cons, getA_cons, getA_map inj k xs]
    dsimp only
    by_cases e : q.1 = k
    · rw [if_pos e, if_pos (congrArg ek e)]; rfl
    · rw [if_neg e, if_neg (fun z => e (inj _ _ z))]
theorem putA_map {κ' : Type} [DecidableEq κ'] {ek : κ → κ'} (inj : ∀ a b, ek a = ek b → a = b) {g : β → γ} (xs : List (κ × β)) (k : κ) (v : β) : putA (xs.map fun q => (ek q.1, g q.2)) (ek k) (g v) = (putA xs k v).map fun q => (ek q.1, g q.2) := by
  unfold putA
  have e : ((xs.map fun q => (ek q.1, g q.2)).any fun q => decide (q.1 = ek k)) = xs.any fun q => decide (q.1 = k) := by
    rw [List.any_map]
    congr 1
    funext q
    exact decide_eq_decide.mpr ⟨fun h => inj _ _ h, fun h => congrArg ek h⟩
  rw [e]
  split
  · rw [List.map_map, List.map_map]
    refine List.map_congr_left fun q _ => ?_
    show (if ek q.1 = ek k then (ek q.1, g v) else (ek q.1, g q.2)) = _
    by_cases h : q.1 = k
    · rw [if_pos (congrArg ek h)]; simp [h]
    · rw [if_neg (fun z => h (inj _ _ z))]; simp [h]
  · rw [List.map_append]; rfl
theorem putA_len (xs : List (κ × β)) (k : κ) (v : β) : (putA xs k v).length ≤ xs.length + 1 := by
  unfold putA
  split
  · rw [List.length_map]; omega
  · rw [List.length_append]; exact Nat.le_refl _
end
/-! ### keys -/
def kD : Key → D
  | .inl i => .int i
  | .inr x => .str x
theorem kD_rep {K : Frag} {H : Hp} {v : V} {k : Key} (r : Rep K H v (kD k)) : v = kV k := by
  cases k with
  | inl i => cases r; rfl
  | inr x => cases r; rfl
theorem kDs_rep {K : Frag} {H : Hp} : ∀ {ks : List Key} {vs : List V}, RepA K H vs (ks.map kD) → vs = ks.map kV
  | [], _, r => by cases r; rfl
  | k :: ks, _, r => by
    have r' : RepA K H _ (kD k :: ks.map kD) := r
    cases r' with
    | cons a b => rw [kD_rep a, kDs_rep b]; rfl
theorem rep_kD {K : Frag} {H : Hp} : ∀ (k : Key), Rep K H (kV k) (kD k)
  | .inl i => .int i
  | .inr x => .str x
/-- a dict with tuples as keys, that changes or doesn't -/
inductive DctT (M : Mem) : D → List (List Key × D) → Prop
  | adr {w : Addr} {kvs : List (List Key × D)} : (w, Mu.dT kvs) ∈ M → DctT M (.adr w) kvs
  | frz (kvs : List (List Key × D)) : DctT M (.dT (kvs.map Prod.fst) (kvs.map Prod.snd)) kvs
inductive DctK (M : Mem) : D → List (Key × D) → Prop
  | adr {w : Addr} {kvs : List (Key × D)} : (w, Mu.dK kvs) ∈ M → DctK M (.adr w) kvs
  | frz (kvs : List (Key × D)) : DctK M (.dK (kvs.map Prod.fst) (kvs.map Prod.snd)) kvs
theorem DctT.rep {K : Frag} {M : Mem} {H H0 : Hp} {v : V} {d : D} {kvs : List (List Key × D)} (h : DctT M d kvs) (t : Ht K H0 H M) (r : Rep K H0 v d) : ∃ (a : Addr) (vs : List (List Key × V)), v = .ref a ∧ Rd H a (.dT vs) ∧ vs.map Prod.fst = kvs.map Prod.fst ∧ RepA K H0 (vs.map Prod.snd) (kvs.map Prod.snd) := by
  cases h with
  | adr hm =>
    cases r
    obtain ⟨_, vs, xs, h1, h2, h3, h4⟩ := t.mem _ hm
    subst h3
    exact ⟨_, vs, rfl, .inl h1, h2, h4⟩
  | frz kvs =>
    cases r with
    | @dT a o vs ks xs ds h1 h2 h3 h4 =>
      subst h3
      exact ⟨_, vs, rfl, .inr ⟨o, t.ex _ _ h1⟩, h2, h4⟩
theorem DctK.rep {K : Frag} {M : Mem} {H H0 : Hp} {v : V} {d : D} {kvs : List (Key × D)} (h : DctK M d kvs) (t : Ht K H0 H M) (r : Rep K H0 v d) : ∃ (a : Addr) (vs : List (Key × V)), v = .ref a ∧ Rd H a (.dK vs) ∧ vs.map Prod.fst = kvs.map Prod.fst ∧ RepA K H0 (vs.map Prod.snd) (kvs.map Prod.snd) := by
  cases h with
  | adr hm =>
    cases r
    obtain ⟨_, vs, xs, h1, h2, h3, h4⟩ := t.mem _ hm
    subst h3
    exact ⟨_, vs, rfl, .inl h1, h2, h4⟩
  | frz kvs =>
    cases r with
    | @dK a o vs ks xs ds h1 h2 h3 h4 =>
      subst h3
      exact ⟨_, vs, rfl, .inr ⟨o, t.ex _ _ h1⟩, h2, h4⟩
/-- either kind of dict, with a key: what a look-up gives -/
inductive DKey (M : Mem) (x y : D) : Option D → Prop
  | t {kvs : List (List Key × D)} {k : List Key} : DctT M x kvs → y = .tup (k.map kD) → DKey M x y (getA kvs k)
  | k {kvs : List (Key × D)} {k : Key} : DctK M x kvs → y = kD k → DKey M x y (getA kvs k)
theorem DKey.isD {K : Frag} {M : Mem} {H H0 : Hp} {v : V} {x y : D} {o : Option D} (h : DKey M x y o) (t : Ht K H0 H M) (r : Rep K H0 v x) : ∃ a, v = .ref a ∧ IsD H a := by
  cases h with
  | t h e =>
    obtain ⟨a, vs, h1, h2, _⟩ := h.rep t r
    exact ⟨a, h1, .inr ⟨vs, h2⟩⟩
  | k h e =>
    obtain ⟨a, vs, h1, h2, _⟩ := h.rep t r
    exact ⟨a, h1, .inl ⟨vs, h2⟩⟩
theorem DKey.get {K : Frag} {M : Mem} {H H0 : Hp} {v u : V} {x y : D} {o : Option D} (h : DKey M x y o) (t : Ht K H0 H M) (r : Rep K H0 v x) (ru : Rep K H0 u y) : ∃ a q, v = .ref a ∧ DGet H a u q ∧ Look2 K H0 q o := by
  cases h with
  | @t kvs k h e =>
    obtain ⟨a, vs, h1, h2, h3, h4⟩ := h.rep t r
    subst e
    cases ru with
    | @tup b xs _ c d =>
      have ek := kDs_rep d
      subst ek
      exact ⟨a, valV vs k, h1, .inr ⟨vs, k, b, h2, rfl, t.ex _ _ c, rfl⟩, get_rep k h3 h4⟩
  | @k kvs k h e =>
    obtain ⟨a, vs, h1, h2, h3, h4⟩ := h.rep t r
    subst e
    rw [kD_rep ru]
    exact ⟨a, valV vs k, h1, .inl ⟨vs, k, h2, rfl, rfl⟩, get_rep k h3 h4⟩
section
variable {X : Cx} {kx kx' : XD} {ρ ρ' ρ'' : Ro} {M M' : Mem} {P : Out → Mem → Prop} {pos p apos cpos tpos : Pos} {tg a b c e o ix f : Expr} {es : List Expr} {x y z d : D} {w C : Addr} {α β κ : Type} {k : Nat} {op : Option D} {N : List Str} {sc : Scope}
theorem m1 (base : attributeBase o "get" X.env (eval o X.env) = eval o X.env := by rfl)
    (few : ((backTo cpos (starEach [e] X.env)).all (fun x => !x.1) && (backToKw cpos (keywordEach [] X.env)).all (fun x => x.1.isSome) && decide (([e] : List Expr).length + ([] : List Keyword).length + (if ([] : List Keyword).isEmpty then 0 else 1) < 30)) = true := by rfl)
    (line : (apos.endLine == cpos.line) = true := by rfl) (trees : backTo cpos (starEach [e] X.env) = [(false, eval e X.env)] := by rfl) : M1 X o "get" apos e cpos := ⟨base, few, line, trees⟩
theorem m2 {m : Str} (base : attributeBase o m X.env (eval o X.env) = eval o X.env := by rfl)
    (few : ((backTo cpos (starEach [e, f] X.env)).all (fun x => !x.1) && (backToKw cpos (keywordEach [] X.env)).all (fun x => x.1.isSome) && decide (([e, f] : List Expr).length + ([] : List Keyword).length + (if ([] : List Keyword).isEmpty then 0 else 1) < 30)) = true := by rfl)
    (line : (apos.endLine == cpos.line) = true := by rfl) (trees : backTo cpos (starEach [e, f] X.env) = [(false, eval e X.env), (false, eval f X.env)] := by rfl) : M2 X o m apos e f cpos := ⟨base, few, line, trees⟩
/-- d.get(k) -/
theorem dv_dget1 (B : Bd X N sc k) (ho : DV X kx o ρ M x) (he : DV X kx e ρ M y) (hd : DKey M x y op) (m : M1 X o "get" apos e cpos) : DV X kx (.Call (.Attribute o "get" apos) [e] [] cpos) ρ M (op.getD .non) := fun σ H H0 t s W tk hx Q q =>
  sE.by (pe_dget1 (by have := B.hu; omega) (pe_s o) (pe_s e) m) (ho σ H H0 t s W tk hx _ fun v H1 H01 p1 r1 => by
    obtain ⟨a, e1, e2⟩ := hd.isD (t.pu p1) r1
    refine ⟨a, e1, e2, he σ H1 H01 (t.pu p1) (s.mo p1.e0) W tk (hx.pu p1) _ fun u H2 H02 p2 r2 => ?_⟩
    obtain ⟨a', qv, e3, e4, e5⟩ := hd.get (t.pu (p1.trans p2)) (r1.mo p2.e0) r2
    rw [e1] at e3
    cases e3
    refine ⟨qv, e4, q _ H2 H02 (p1.trans p2) ?_⟩
    cases qv with
    | none =>
      cases op with
      | none => exact .non
      | some d => exact e5.elim
    | some v =>
      cases op with
      | none => exact e5.elim
      | some d => exact e5)
/-- d[k], there -/
theorem dv_dix (B : Bd X N sc k) (ho : DV X kx o ρ M x) (he : DV X kx e ρ M y) (hd : DKey M x y (some d)) (hs : NoSl e := by exact ⟨rfl, rfl⟩) : DV X kx (.Subscript o e pos) ρ M d := fun σ H H0 t s W tk hx Q q =>
  sE.by (pe_dget (by have := B.hu; omega) (pe_s o) (pe_s e) hs) (ho σ H H0 t s W tk hx _ fun v H1 H01 p1 r1 => he σ H1 H01 (t.pu p1) (s.mo p1.e0) W tk (hx.pu p1) _ fun u H2 H02 p2 r2 => by
    obtain ⟨a', qv, e3, e4, e5⟩ := hd.get (t.pu (p1.trans p2)) (r1.mo p2.e0) r2
    cases qv with
    | none => exact e5.elim
    | some v' => exact ⟨a', v', e3, e4, q _ H2 H02 (p1.trans p2) e5⟩)
theorem look_some {K : Frag} {H : Hp} {q : Option V} (h : Look2 K H q op) : q.isSome = op.isSome := by
  cases q with
  | none =>
    cases op with
    | none => rfl
    | some d => exact h.elim
  | some v =>
    cases op with
    | none => exact h.elim
    | some d => rfl
/-- {}, that will change -/
theorem de_newT {kk : D → Mem → Prop} (hk : ∀ w, w ∉ M.dom → kk (.adr w) ((w, .dT []) :: M)) : DE X kx (.Dict [] [] pos) ρ M kk := fun σ H H0 t s W tk hx Q q =>
  sE.by pe_dnewT fun p hp => q (.ref p) _ H0 (.adr p) _ (Go.new1 hp (.dT [])) (t.new1 (m := .dT []) hp fun H' e => ⟨[], [], e, rfl, rfl, .nil⟩) (.adr p) (hk p (t.free hp).2)
theorem de_newK {kk : D → Mem → Prop} (hk : ∀ w, w ∉ M.dom → kk (.adr w) ((w, .dK []) :: M)) : DE X kx (.Dict [] [] pos) ρ M kk := fun σ H H0 t s W tk hx Q q =>
  sE.by pe_dnewK fun p hp => q (.ref p) _ H0 (.adr p) _ (Go.new1 hp (.dK [])) (t.new1 (m := .dK []) hp fun H' e => ⟨[], [], e, rfl, rfl, .nil⟩) (.adr p) (hk p (t.free hp).2)
/-- d[k] = v -/
theorem ds1_dputT {i : Nat} {kvs : List (List Key × D)} {ks : List Key} (B : Bd X N sc k) (hv : DV X kx e ρ M d) (ho : DV X kx o ρ M (.adr w)) (hi : DV X kx ix ρ M (.tup (ks.map kD))) (hm : M[i]? = some (w, .dT kvs)) (hl : kvs.length ≤ 100000) (hk : P (.nx ρ) (M.set i (w, .dT (putA kvs ks d))))
    (hs : swapsWith e (some (.Subscript o ix apos)) pos.line X.env = pure false := by rfl) : DS1 X kx (.Assign [.Subscript o ix apos] e pos) ρ M P := fun σ H H0 t s W tk hx D c =>
  sS.by (ps_dput (by have := B.hu; omega) (pe_s o) (pe_s ix) (pe_s e) hs) (hv σ H H0 t s W tk hx _ fun v H1 H01 p1 r1 => ho σ H1 H01 (t.pu p1) (s.mo p1.e0) W tk (hx.pu p1) _ fun u H2 H02 p2 r2 => hi σ H2 H02 (t.pu (p1.trans p2)) (s.mo (p1.trans p2).e0) W tk (hx.pu (p1.trans p2)) _ fun iv H3 H03 p3 r3 => by
    cases r2
    have p13 := (p1.trans p2).trans p3
    obtain ⟨_, vs, xs, h1, h2, h3, h4⟩ := (t.pu p13).mem _ (List.mem_of_getElem? hm)
    subst h3
    cases r3 with
    | @tup b ys _ c1 c2 =>
      have ek := kDs_rep c2
      subst ek
      have lv : vs.length = kvs.length := by have := congrArg List.length h2; simpa using this
      obtain ⟨i1, i2⟩ := put_rep (k := ks) h2 h4 (r1.mo (p2.trans p3).e0)
      obtain ⟨t3, g3⟩ := (t.pu p13).setM (o := .dT (putK vs ks v)) (m' := .dT (putA kvs ks d)) hm fun H' e => ⟨_, _, e, i1, rfl, i2⟩
      exact ⟨w, _, rfl, .inr ⟨vs, ks, b, h1, rfl, (t.pu p13).ex _ _ c1, by rw [sizeLine_eq]; omega, rfl⟩, c.nx σ _ H03 ρ _ (p13.go.trans g3) t3 (s.mo p13.e0) hk⟩)
theorem ds1_dputK {i : Nat} {kvs : List (Key × D)} {ks : Key} (B : Bd X N sc k) (hv : DV X kx e ρ M d) (ho : DV X kx o ρ M (.adr w)) (hi : DV X kx ix ρ M (kD ks)) (hm : M[i]? = some (w, .dK kvs)) (hl : kvs.length ≤ 100000) (hk : P (.nx ρ) (M.set i (w, .dK (putA kvs ks d))))
    (hs : swapsWith e (some (.Subscript o ix apos)) pos.line X.env = pure false := by rfl) : DS1 X kx (.Assign [.Subscript o ix apos] e pos) ρ M P := fun σ H H0 t s W tk hx D c =>
  sS.by (ps_dput (by have := B.hu; omega) (pe_s o) (pe_s ix) (pe_s e) hs) (hv σ H H0 t s W tk hx _ fun v H1 H01 p1 r1 => ho σ H1 H01 (t.pu p1) (s.mo p1.e0) W tk (hx.pu p1) _ fun u H2 H02 p2 r2 => hi σ H2 H02 (t.pu (p1.trans p2)) (s.mo (p1.trans p2).e0) W tk (hx.pu (p1.trans p2)) _ fun iv H3 H03 p3 r3 => by
    cases r2
    have p13 := (p1.trans p2).trans p3
    obtain ⟨_, vs, xs, h1, h2, h3, h4⟩ := (t.pu p13).mem _ (List.mem_of_getElem? hm)
    subst h3
    rw [kD_rep r3]
    have lv : vs.length = kvs.length := by have := congrArg List.length h2; simpa using this
    obtain ⟨i1, i2⟩ := put_rep (k := ks) h2 h4 (r1.mo (p2.trans p3).e0)
    obtain ⟨t3, g3⟩ := (t.pu p13).setM (o := .dK (putK vs ks v)) (m' := .dK (putA kvs ks d)) hm fun H' e => ⟨_, _, e, i1, rfl, i2⟩
    exact ⟨w, _, rfl, .inl ⟨vs, ks, h1, rfl, by rw [sizeLine_eq]; omega, rfl⟩, c.nx σ _ H03 ρ _ (p13.go.trans g3) t3 (s.mo p13.e0) hk⟩)
/-- d[k] += n -/
theorem ds1_daddT {i : Nat} {kvs : List (List Key × D)} {ks : List Key} {m n : Int} (B : Bd X N sc k) (ho : DV X kx o ρ M (.adr w)) (hi : DV X kx ix ρ M (.tup (ks.map kD))) (hg : getA kvs ks = some (.int m)) (hv : DV X kx e ρ M (.int n)) (hm : M[i]? = some (w, .dT kvs)) (hl : kvs.length ≤ 100000) (hk : P (.nx ρ) (M.set i (w, .dT (putA kvs ks (.int (m + n))))))
    (ha : ∀ ov iv new, augStore ix ov iv new = (do holding [new, ov, iv] (setItem ov iv new); release [new, ov, iv] []; pure .next) := by intro _ _ _; rfl) : DS1 X kx (.AugAssign (.Subscript o ix tpos) .Add e pos) ρ M P := fun σ H H0 t s W tk hx D c =>
  sS.by (ps_daug (by have := B.hu; omega) (pe_s o) (pe_s ix) (pe_s e) in_add ha) (ho σ H H0 t s W tk hx _ fun u H1 H01 p1 r1 => hi σ H1 H01 (t.pu p1) (s.mo p1.e0) W tk (hx.pu p1) _ fun iv H2 H02 p2 r2 => by
    cases r1
    have p12 := p1.trans p2
    obtain ⟨_, vs, xs, h1, h2, h3, h4⟩ := (t.pu p12).mem _ (List.mem_of_getElem? hm)
    subst h3
    cases r2 with
    | @tup b ys _ c1 c2 =>
      have ek := kDs_rep c2
      subst ek
      have lk := get_rep (K := X.K) (H := H02) ks h2 h4
      rw [hg] at lk
      cases hq : valV vs ks with
      | none => rw [hq] at lk; exact lk.elim
      | some v0 =>
        rw [hq] at lk
        have lk' : Rep X.K H02 v0 (.int m) := lk
        cases lk'
        refine ⟨w, .int m, rfl, .inr ⟨vs, ks, b, .inl h1, rfl, (t.pu p12).ex _ _ c1, hq.symm⟩, hv σ H2 H02 (t.pu p12) (s.mo p12.e0) W tk (hx.pu p12) _ fun y2 H3 H03 p3 r3 => ?_⟩
        cases r3
        have p13 := p12.trans p3
        obtain ⟨_, vs', xs', h1', h2', h3', h4'⟩ := (t.pu p13).mem _ (List.mem_of_getElem? hm)
        subst h3'
        have lv : vs'.length = kvs.length := by have := congrArg List.length h2'; simpa using this
        obtain ⟨i1, i2⟩ := put_rep (K := X.K) (H := H03) (k := ks) (v := .int (m + n)) (d := .int (m + n)) h2' h4' (.int _)
        obtain ⟨t3, g3⟩ := (t.pu p13).setM (o := .dT (putK vs' ks (.int (m + n)))) (m' := .dT (putA kvs ks (.int (m + n)))) hm fun H' e => ⟨_, _, e, i1, rfl, i2⟩
        refine ⟨m, n, rfl, rfl, _, .inr ⟨vs', ks, b, h1', rfl, (t.pu p13).ex _ _ (p3.e0 _ _ c1), by rw [sizeLine_eq]; omega, rfl⟩, c.nx σ _ H03 ρ _ (p13.go.trans g3) t3 (s.mo p13.e0) hk⟩)
end
/-! ### setdefault of a dict with tuples as keys -/
def rSetdT : V → List V → Hp → VK → Prop := fun x xs H Q => ∃ (a : Addr) (vs : List (List Key × V)) (k : List Key) (b : Addr) (dv : V), x = .ref a ∧ xs = [.ref b, dv] ∧ H a = some (.dT vs) ∧ H b = some (.tup (k.map kV)) ∧ vs.length < sizeLine ∧
  (∀ v, valV vs k = some v → Q v H) ∧ (valV vs k = none → Q dv (upd H a (.dT (putK vs k dv))))
theorem mt_setdT {X : Cx} (hu : X.A.units + 1 < cLine) : MtR X "dict.setdefault" rSetdT := by
  intro pins s σ H x xs v us Q I rx rxs h
  obtain ⟨a, vs, k, b, dv, rfl, rfl, ha, hb, hlt, q1, q2⟩ := h
  cases rx
  obtain ⟨u1, u2, rfl, r1, r2⟩ := vals2 rxs
  cases r1
  obtain ⟨z, hd, ws, rel, dd⟩ := dt_of I.hok ha
  have hz : ws.length ≤ sizeLine := by rw [← Paired.length rel]; exact z
  refine call_setdefault_heap (knd := tupleKind (mixKind X.prog X.w)) (k := k) (tupleKind_room_in1 hu) (key_of I.hok hb) hd dd (fun p hp => ?_) (fun hn h' dd' hs => ?_) hz
  · have r := rel.val k
    rw [hp] at r
    cases ev : valV vs k with
    | none => rw [ev] at r; exact (show False from r).elim
    | some v0 =>
      rw [ev] at r
      show EP X pins σ Q p.2 _
      exact ⟨v0, H, I.tok _, r, q1 v0 ev⟩
  · have r := rel.val k
    rw [hn] at r
    cases ev : valV vs k with
    | some v0 => rw [ev] at r; exact (show False from r).elim
    | none =>
      have hl2 : (putK vs k dv).length ≤ sizeLine := by have := length_putK vs k dv; omega
      obtain ⟨ob, es, ep, hq, h2, h3, h4, _, h5⟩ := dd'
      have I2 := d_write (t' := s.toks + (tupleKind (mixKind X.prog X.w)).draws k) (ob := .dT (putK vs k dv)) I (by rw [ha]; exact True.intro) hs ⟨ob, hq⟩ ⟨hl2, hd, _, (rel.put k hb r2).keeps (fun c ys ec => (by rw [upd_ne (ne_of ec ha (fun z => nomatch z))]; exact ec)), ob, es, ep, hq, h2, h3, h4, h5⟩
      show EP X pins σ Q u2 _
      exact ⟨dv, _, I2, r2, q2 ev⟩
section
variable {X : Cx} {kx kx' : XD} {ρ ρ' ρ'' : Ro} {M M' : Mem} {P : Out → Mem → Prop} {pos p apos cpos spos : Pos} {tg a b c e o ix f : Expr} {x y z d : D} {w C : Addr} {k : Nat} {N : List Str} {sc : Scope}
/-- d.setdefault(k, v), what it hands back let go -/
theorem ds1_setdT {i : Nat} {kvs : List (List Key × D)} {ks : List Key} (B : Bd X N sc k) (ho : DV X kx o ρ M (.adr w)) (he : DV X kx e ρ M (.tup (ks.map kD))) (hf : DV X kx f ρ M d) (hm : M[i]? = some (w, .dT kvs)) (hl : kvs.length ≤ 100000) (hk : P (.nx ρ) (M.set i (w, .dT (setdA kvs ks d))))
    (hb : attributeBase o "setdefault" X.env (eval o X.env) = eval o X.env := by rfl)
    (hfew : ((backTo cpos (starEach [e, f] X.env)).all (fun x => !x.1) && (backToKw cpos (keywordEach [] X.env)).all (fun x => x.1.isSome) && decide (([e, f] : List Expr).length + ([] : List Keyword).length + (if ([] : List Keyword).isEmpty then 0 else 1) < 30)) = true := by rfl)
    (hline : (apos.endLine == cpos.line) = true := by rfl) (hs1 : starEach [e, f] X.env = (false, eval e X.env) :: starEach [f] X.env := by rfl) (hs2 : starEach [f] X.env = (false, eval f X.env) :: starEach [] X.env := by rfl) (hpl : (backTo cpos (starEach [f] X.env)).any (·.1) = false := by rfl)
    (hs : swapsWith (.Call (.Attribute o "setdefault" apos) [e, f] [] cpos) none spos.line X.env = pure false := by rfl) : DS1 X kx (.Expr (.Call (.Attribute o "setdefault" apos) [e, f] [] cpos) spos) ρ M P := fun σ H H0 t s W tk hx D cn => by
  refine sS.by (ps_expr (pe_bm PySem.F.plainAttrs_dict PySem.F.slot_dict_setdefault PySem.F.type_dict_setdefault (mt_setdT (by have := B.hu; omega)) (pe_s o) (pa_s [e, f]) hb hfew hline hs1 hpl) hs) ?_
  refine ho σ H H0 t s W tk hx _ fun u H1 H01 p1 r1 => ?_
  cases r1
  obtain ⟨_, vs0, xs0, h10, _⟩ := (t.pu p1).mem _ (List.mem_of_getElem? hm)
  refine ⟨Or.inr (.inr (.inl ⟨rfl, .inr ⟨vs0, h10⟩⟩)), (da_cons he (da_cons hf da_nil hs2) hs1 : DA X kx [e, f] ρ M [.tup (ks.map kD), d]) σ H1 H01 (t.pu p1) (s.mo p1.e0) W tk (hx.pu p1) _ fun us H2 H02 p2 r2 => ?_⟩
  have p12 := p1.trans p2
  obtain ⟨_, vs, xs, h1, h2, h3, h4⟩ := (t.pu p12).mem _ (List.mem_of_getElem? hm)
  subst h3
  obtain ⟨v1, v2, rfl, q1, q2⟩ := repA2 r2
  cases q1 with
  | @tup b ys _ c1 c2 =>
    have ek := kDs_rep c2
    subst ek
    have lv : vs.length = kvs.length := by have := congrArg List.length h2; simpa using this
    have lk := get_rep (K := X.K) (H := H02) ks h2 h4
    refine ⟨w, vs, ks, b, v2, rfl, rfl, h1, (t.pu p12).ex _ _ c1, by rw [sizeLine_eq]; omega, fun v hv => ?_, fun hn => ?_⟩
    · rw [hv] at lk
      cases hg : getA kvs ks with
      | none => rw [hg] at lk; exact lk.elim
      | some d0 =>
        refine cn.nx σ _ H02 ρ _ p12.go (t.pu p12) (s.mo p12.e0) ?_
        unfold setdA at hk
        rw [hg, if_pos (show (some d0).isSome = true from rfl)] at hk
        have e : M.set i (w, .dT kvs) = M := by
          refine List.ext_getElem? fun j => ?_
          by_cases hj : i = j
          · subst hj; rw [List.getElem?_set_self (List.getElem?_eq_some_iff.mp hm).1, hm]
          · rw [List.getElem?_set_ne hj]
        rw [e] at hk
        exact hk
    · rw [hn] at lk
      cases hg : getA kvs ks with
      | some d0 => rw [hg] at lk; exact lk.elim
      | none =>
        obtain ⟨i1, i2⟩ := put_rep (k := ks) h2 h4 q2
        obtain ⟨t3, g3⟩ := (t.pu p12).setM (o := .dT (putK vs ks v2)) (m' := .dT (putA kvs ks d)) hm fun H' e => ⟨_, _, e, i1, rfl, i2⟩
        refine cn.nx σ _ H02 ρ _ (p12.go.trans g3) t3 (s.mo p12.e0) ?_
        unfold setdA at hk
        rw [hg, if_neg (show ¬ ((none : Option Dl.D).isSome = true) by decide)] at hk
        exact hk
end
end Dl

/-! walks over dicts that are locked -/
namespace Dl
open PySem PySem.Spec PyProof.Rows L2
/-- the pairs of a locked dict whose keys are tuples, each pair a new tuple -/
def ItiT (d : Addr) (o : PySem.Obj) (kvs : List (List Key × V)) : It :=
  ⟨fun i H => H d = some (.frz o (.dT kvs)) ∧ i < kvs.length,
    fun i H x H' => ∃ T k v q, kvs[i]? = some (k, v) ∧ x = .ref T ∧ H T = none ∧ H q = some (.tup (k.map kV)) ∧ H' = upd H T (.tup [.ref q, v]),
    fun i H => H d = some (.frz o (.dT kvs)) ∧ kvs.length ≤ i⟩
section
variable {P : Program} {w : World} {K : PySem.W.Frag} {d : Addr} {o : PySem.Obj} {es : Array DictEntry} {ep : Nat}
end
def iItemsT (td : TE) : TI := fun σ H R => td σ H fun x H1 => ∃ d o kvs, x = .ref d ∧ H1 d = some (.frz o (.dT kvs)) ∧ R (ItiT d o kvs) H1
section
variable {X : Cx} {kx kx' : XD} {ρ ρ' ρ'' : Ro} {M M' : Mem} {P : Out → Mem → Prop} {pos p apos cpos tpos : Pos} {tg a b c e o ix f : Expr} {es elts : List Expr} {kk : Nat} {x y z d : D} {w C : Addr} {α β κ : Type} {k : Nat}
/-- .. keys being numbers or texts -/
theorem di_itemsK {kvs : List (Key × D)} (h : DV X kx e ρ M (.dK (kvs.map Prod.fst) (kvs.map Prod.snd))) (hbase : attributeBase e "items" X.env (eval e X.env) = eval e X.env := by rfl) (hline : (apos.endLine == cpos.line) = true := by rfl) :
    DI X kx (.Tuple elts kk tpos) (.Call (.Attribute e "items" apos) [] [] cpos) ρ M (kvs.map fun q => .tup [kD q.1, q.2]) := fun σ H H0 t s W tk hx R q =>
  sI.by (pi_items (pe_s e) hbase hline) (h σ H H0 t s W tk hx _ fun v H' H0' p r => by
    cases r with
    | @dK a ob vs ks xs ds h1 h2 h3 h4 =>
      subst h3
      have lv : vs.length = kvs.length := by have := congrArg List.length h2; simpa using this
      refine ⟨a, ob, vs, rfl, p.ex _ _ h1, q _ H' H0' p ⟨_, _, by rw [List.length_map, ← lv]; exact walk_items, fun H e => e _ _ h1, ?_⟩⟩
      rintro i H1 x H2 H01 d e0 e1 hd ⟨T, y, u, rfl, nT, rfl, hy, hu⟩
      rw [List.getElem?_map] at hd
      cases hk : kvs[i]? with
      | none => rw [hk] at hd; cases hd
      | some kv =>
        rw [hk] at hd
        cases hd
        have hy : (vs[i]?).map (fun kv => kV kv.1) = some y := hy
        have hu : (vs[i]?).map Prod.snd = some u := hu
        cases hv : vs[i]? with
        | none => rw [hv] at hy; cases hy
        | some kw =>
          rw [hv] at hy hu
          cases hy; cases hu
          have hs : (vs.map Prod.snd)[i]? = some kw.2 := by rw [List.getElem?_map, hv]; rfl
          obtain ⟨d', hd', rv⟩ := h4.getV hs
          rw [List.getElem?_map, hk] at hd'
          cases hd'
          have hf : (vs.map Prod.fst)[i]? = (kvs.map Prod.fst)[i]? := by rw [h2]
          rw [List.getElem?_map, List.getElem?_map, hv, hk] at hf
          have ek : kw.1 = kv.1 := by simpa using hf
          have g := Pu.new1 e1 nT (.tup [kV kw.1, kw.2])
          refine ⟨_, g, .tup upd_same (.cons ?_ (.cons (rv.mo (e0.trans g.e0)) .nil))⟩
          rw [ek]; exact rep_kD _)
/-- d.values() -/
theorem di_valuesK {kvs : List (Key × D)} (h : DV X kx e ρ M (.dK (kvs.map Prod.fst) (kvs.map Prod.snd))) (hbase : attributeBase e "values" X.env (eval e X.env) = eval e X.env := by rfl) (hline : (apos.endLine == cpos.line) = true := by rfl) :
    DI X kx tg (.Call (.Attribute e "values" apos) [] [] cpos) ρ M (kvs.map Prod.snd) := fun σ H H0 t s W tk hx R q =>
  sI.by (pi_values (pe_s e) hbase hline) (h σ H H0 t s W tk hx _ fun v H' H0' p r => by
    cases r with
    | @dK a ob vs ks xs ds h1 h2 h3 h4 =>
      subst h3
      have lv : vs.length = kvs.length := by have := congrArg List.length h2; simpa using this
      refine ⟨a, ob, vs, rfl, p.ex _ _ h1, q _ H' H0' p ⟨_, _, by rw [List.length_map, ← lv]; exact walk_values, fun H e => e _ _ h1, ?_⟩⟩
      rintro i H1 x H2 H01 d e0 e1 hd ⟨rfl, k, hv⟩
      have hs : (vs.map Prod.snd)[i]? = some x := by rw [List.getElem?_map, hv]; rfl
      obtain ⟨d', hd', rv⟩ := h4.getV hs
      rw [hd] at hd'
      cases hd'
      exact ⟨H01, Pu.refl e1, rv.mo e0⟩)
end
end Dl

/-! things that own what they are made of: trees of lists, objects, dicts -/
namespace Dl
open PySem PySem.Spec PyProof.Rows L2
inductive Ow where
  | fr (d : D) | lst (a : Addr) (xs : List Ow) | ins (a C : Addr) (ns : List Str) (xs : List Ow) | dK (a : Addr) (ks : List Key) (xs : List Ow) | dT (a : Addr) (ks : List (List Key)) (xs : List Ow) | tup (xs : List Ow) | seq (xs : List Ow)
mutual
def Ow.root : Ow → D
  | .fr d => d
  | .lst a _ => .adr a
  | .ins a _ _ _ => .adr a
  | .dK a _ _ => .adr a
  | .dT a _ _ => .adr a
  | .tup xs => .tup (Ow.rootA xs)
  | .seq xs => .lst (Ow.rootA xs)
def Ow.rootA : List Ow → List D
  | [] => []
  | o :: os => o.root :: Ow.rootA os
end
mutual
def Ow.mem : Ow → Mem
  | .fr _ => []
  | .lst a xs => (a, .lst (Ow.rootA xs)) :: Ow.memA xs
  | .ins a C ns xs => (a, .ins C ns (Ow.rootA xs)) :: Ow.memA xs
  | .dK a ks xs => (a, .dK (ks.zip (Ow.rootA xs))) :: Ow.memA xs
  | .dT a ks xs => (a, .dT (ks.zip (Ow.rootA xs))) :: Ow.memA xs
  | .tup xs => Ow.memA xs
  | .seq xs => Ow.memA xs
def Ow.memA : List Ow → Mem
  | [] => []
  | o :: os => o.mem ++ Ow.memA os
end
mutual
def Ow.frz : Ow → D
  | .fr d => d
  | .lst _ xs => .scr (Ow.frzA xs)
  | .ins _ C ns xs => .ins C ns (Ow.frzA xs)
  | .dK _ ks xs => .dK ks (Ow.frzA xs)
  | .dT _ ks xs => .dT ks (Ow.frzA xs)
  | .tup xs => .tup (Ow.frzA xs)
  | .seq xs => .lst (Ow.frzA xs)
def Ow.frzA : List Ow → List D
  | [] => []
  | o :: os => o.frz :: Ow.frzA os
end
mutual
/-- keys and values are as many -/
def Ow.fit : Ow → Prop
  | .fr _ => True
  | .lst _ xs => Ow.fitA xs
  | .ins _ _ _ xs => Ow.fitA xs
  | .dK _ ks xs => ks.length = xs.length ∧ Ow.fitA xs
  | .dT _ ks xs => ks.length = xs.length ∧ Ow.fitA xs
  | .tup xs => Ow.fitA xs
  | .seq xs => Ow.fitA xs
def Ow.fitA : List Ow → Prop
  | [] => True
  | o :: os => o.fit ∧ Ow.fitA os
end
theorem rootA_map : ∀ os : List Ow, Ow.rootA os = os.map Ow.root
  | [] => by simp [Ow.rootA]
  | o :: os => by simp [Ow.rootA, rootA_map os]
theorem frzA_map : ∀ os : List Ow, Ow.frzA os = os.map Ow.frz
  | [] => by simp [Ow.frzA]
  | o :: os => by simp [Ow.frzA, frzA_map os]
theorem memA_map : ∀ os : List Ow, Ow.memA os = (os.map Ow.mem).flatten
  | [] => by simp [Ow.memA]
  | o :: os => by simp [Ow.memA, memA_map os]
theorem memA_fr {α : Type} (f : α → D) : ∀ xs : List α, Ow.memA (xs.map fun x => .fr (f x)) = []
  | [] => by simp [Ow.memA]
  | x :: xs => by simp [Ow.memA, Ow.mem, memA_fr f xs]
theorem fitA_fr {α : Type} (f : α → D) : ∀ xs : List α, Ow.fitA (xs.map fun x => .fr (f x))
  | [] => by simp [Ow.fitA]
  | x :: xs => by simp [Ow.fitA, Ow.fit, fitA_fr f xs]
theorem rootA_fr {α : Type} (f : α → D) (xs : List α) : Ow.rootA (xs.map fun x => .fr (f x)) = xs.map f := by
  rw [rootA_map, List.map_map]
  refine List.map_congr_left fun x _ => ?_
  simp [Ow.root]
theorem frzA_fr {α : Type} (f : α → D) (xs : List α) : Ow.frzA (xs.map fun x => .fr (f x)) = xs.map f := by
  rw [frzA_map, List.map_map]
  refine List.map_congr_left fun x _ => ?_
  simp [Ow.frz]
/-! ### order in Mem is of no matter -/
section
variable {K : Frag} {H0 H H0' H' : Hp} {M M2 M' N : Mem}
theorem Ht.perm (t : Ht K H0 H M) (p : M.Perm M2) : Ht K H0 H M2 :=
  ⟨t.ex, (p.map Prod.fst).nodup_iff.mp t.nd, fun q hq => t.mem q (p.mem_iff.mpr hq), t.tb⟩
theorem dom_perm (p : M.Perm M2) (a : Addr) : a ∈ M.dom ↔ a ∈ M2.dom := (p.map Prod.fst).mem_iff
theorem Go.permL (g : Go H0 H M H0' H' M') (p : M.Perm M2) : Go H0 H M2 H0' H' M' :=
  ⟨g.e0, fun b o e hb n => g.e b o e (fun z => hb ((dom_perm p b).mp z)) n, fun a h1 h2 h3 => g.new a h1 h2 fun z => h3 ((dom_perm p a).mp z), fun a ha => (g.dom a ha).imp (dom_perm p a).mp id, g.there⟩
theorem Go.permR (g : Go H0 H M H0' H' M') (p : M'.Perm N) : Go H0 H M H0' H' N := ⟨g.e0, g.e, g.new, fun a ha => g.dom a ((dom_perm p a).mpr ha), g.there⟩
/-- a part of Mem -/
theorem Ht.sub (t : Ht K H0 H M) (s : M2.Sublist M) : Ht K H0 H M2 := ⟨t.ex, t.nd.sublist (s.map Prod.fst), fun q hq => t.mem q (s.subset hq), t.tb⟩
theorem Go.subL (g : Go H0 H M2 H0' H' M') (s : M2.Sublist M) : Go H0 H M H0' H' M' :=
  ⟨g.e0, fun b o e hb n => g.e b o e (fun z => hb ((s.map Prod.fst).subset z)) n, fun a h1 h2 h3 => g.new a h1 h2 fun z => h3 ((s.map Prod.fst).subset z), fun a ha => (g.dom a ha).imp (fun z => (s.map Prod.fst).subset z) id, g.there⟩
theorem Go.subR (g : Go H0 H M H0' H' M') (s : N.Sublist M') : Go H0 H M H0' H' N := ⟨g.e0, g.e, g.new, fun a ha => g.dom a ((s.map Prod.fst).subset ha), g.there⟩
end
section
variable {X : Cx} {kx kx' : XD} {ρ ρ' ρ'' : Ro} {M M2 M' : Mem} {P : Out → Mem → Prop} {e : Expr} {sts : List Stmt}
theorem Hx.perm {W : WX} {H0 H : Hp} (hx : Hx X W H0 H M kx) (p : M.Perm M2) (i : ∀ cls fs ρ' m, kx' cls fs ρ' m → ∃ m', m.Perm m' ∧ kx cls fs ρ' m') : Hx X W H0 H M2 kx' :=
  fun cls dd σ' H' H0' fs ρ' m g t s xr q => by
    obtain ⟨m', p', q'⟩ := i _ _ _ _ q
    exact hx cls dd σ' H' H0' fs ρ' m' ((g.permL p.symm).permR p') (t.perm p') s xr q'
theorem DE.perm {k k' : D → Mem → Prop} (p : M.Perm M2) (h : DE X kx' e ρ M2 k') (hk : ∀ d m, k' d m → ∃ m', m.Perm m' ∧ k d m') (i : ∀ cls fs ρ' m, kx' cls fs ρ' m → ∃ m', m.Perm m' ∧ kx cls fs ρ' m') : DE X kx e ρ M k :=
  fun σ H H0 t s W tk hx Q q => h σ H H0 (t.perm p) s W tk (hx.perm p i) Q fun v H' H0' d m g t' r kk => by
    obtain ⟨m', p', k2⟩ := hk d m kk
    exact q v H' H0' d m' ((g.permL p.symm).permR p') (t'.perm p') r k2
theorem DS.forget (s : M2.Sublist M) (h : DS X kx sts ρ M2 P) : DS X kx sts ρ M P := fun σ H H0 t sl W tk hx D c =>
  h σ H H0 (t.sub s) sl W tk (fun cls dd σ' H' H0' fs ρ' m g t' s' xr q => hx cls dd σ' H' H0' fs ρ' m (g.subL s) t' s' xr q) D
    ⟨fun σ' H' H0' ρ' M' g t' s' p => c.nx σ' H' H0' ρ' M' (g.subL s) t' s' p, fun σ' H' H0' ρ' M' g t' s' p => c.bk σ' H' H0' ρ' M' (g.subL s) t' s' p, fun σ' H' H0' ρ' M' g t' s' p => c.ct σ' H' H0' ρ' M' (g.subL s) t' s' p, fun v H' H0' d M' g t' r p => c.rt v H' H0' d M' (g.subL s) t' r p⟩
theorem DS.perm (p : M.Perm M2) (h : DS X kx sts ρ M2 P) (i : ∀ cls fs ρ' m, kx cls fs ρ' m → kx cls fs ρ' m := fun _ _ _ _ h => h) : DS X kx sts ρ M P := fun σ H H0 t sl W tk hx D c =>
  h σ H H0 (t.perm p) sl W tk (fun cls dd σ' H' H0' fs ρ' m g t' s' xr q => hx cls dd σ' H' H0' fs ρ' m (g.permL p.symm) t' s' xr q) D
    ⟨fun σ' H' H0' ρ' M' g t' s' q => c.nx σ' H' H0' ρ' M' (g.permL p.symm) t' s' q, fun σ' H' H0' ρ' M' g t' s' q => c.bk σ' H' H0' ρ' M' (g.permL p.symm) t' s' q, fun σ' H' H0' ρ' M' g t' s' q => c.ct σ' H' H0' ρ' M' (g.permL p.symm) t' s' q, fun v H' H0' d M' g t' r q => c.rt v H' H0' d M' (g.permL p.symm) t' r q⟩
end
/-! ### locks -/
def Mu.dict : Mu → Bool
  | .lst _ => true
  | .dK _ => true
  | .dT _ => true
  | _ => false
def Mu.lock : Mu → Mu
  | .lst ds => .fL ds
  | .dK kvs => .fK kvs
  | .dT kvs => .fT kvs
  | m => m
def lockM (c : Mem) : Mem := c.map fun p => (p.1, p.2.lock)
def locksOf (c : Mem) : List Addr := (c.filter fun p => p.2.dict).map Prod.fst
def lockL (H : Hp) (od : Addr → PySem.Obj) (L : List Addr) : Hp := fun b => if b ∈ L then (H b).map fun u => .frz (od b) u else H b
theorem lockL_nil {H : Hp} {od : Addr → PySem.Obj} : lockL H od [] = H := by funext b; unfold lockL; rw [if_neg (by simp)]
theorem lockL_ne {H : Hp} {od : Addr → PySem.Obj} {L : List Addr} {b : Addr} (h : b ∉ L) : lockL H od L b = H b := by unfold lockL; rw [if_neg h]
theorem lockL_in {H : Hp} {od : Addr → PySem.Obj} {L : List Addr} {b : Addr} (h : b ∈ L) : lockL H od L b = (H b).map fun u => .frz (od b) u := by unfold lockL; rw [if_pos h]
theorem lockL_cons {H : Hp} {od : Addr → PySem.Obj} {L : List Addr} {a : Addr} {u : HO} {o : PySem.Obj} (ha : H a = some u) (hn : a ∉ L) : lockL (upd H a (.frz o u)) od L = lockL H (fun b => if b = a then o else od b) (a :: L) := by
  funext b
  by_cases hb : b = a
  · subst hb
    rw [lockL_ne hn, upd_same, lockL_in (by simp), ha]
    simp
  · by_cases hl : b ∈ L
    · rw [lockL_in hl, lockL_in (List.mem_cons_of_mem _ hl), upd_ne hb]
      simp [hb]
    · rw [lockL_ne hl, upd_ne hb, lockL_ne (by simp [hb, hl])]
theorem inv_locks {X : Cx} {pins : List (Addr × PySem.Obj)} {σ : L2.St} {s : Shared} : ∀ (L : List Addr) (H : Hp), Inv X pins σ H s → L.Nodup → (∀ a ∈ L, ∃ u, H a = some u ∧ Mut (some u)) → ∃ od, Inv X pins σ (lockL H od L) s
  | [], H, I, _, _ => ⟨fun _ => default, by rw [lockL_nil]; exact I⟩
  | a :: L, H, I, nd, h => by
    obtain ⟨n1, n2⟩ := List.nodup_cons.mp nd
    obtain ⟨u, hu, mu⟩ := h a (by simp)
    obtain ⟨o, I1⟩ := I.lock hu mu
    obtain ⟨od, I2⟩ := inv_locks L _ I1 n2 fun b hb => by
      obtain ⟨v, hv, mv⟩ := h b (List.mem_cons_of_mem _ hb)
      exact ⟨v, by rw [upd_ne (fun z => n1 (by rw [← z]; exact hb))]; exact hv, mv⟩
    rw [lockL_cons hu n1] at I2
    exact ⟨_, I2⟩
theorem lock_none {H : Hp} {od : Addr → PySem.Obj} {L : List Addr} {b : Addr} (e : lockL H od L b = none) : H b = none := by
  unfold lockL at e
  split at e
  · cases z : H b with
    | none => rfl
    | some u => rw [z] at e; cases e
  · exact e
def unlockL (H H' : Hp) (L : List Addr) : Hp := fun b => if b ∈ L then H b else H' b
theorem TB.lock {H0 H : Hp} {od : Addr → PySem.Obj} {L : List Addr} (t : TB H0 H) (h : ∀ a ∈ L, NX (H a)) : TB H0 (lockL H od L) :=
  t.keep (fun _ _ n _ => n) (fun b ps e => by rw [lockL_ne (fun z => (h b z).1 ps e)]; exact e) (fun c φ e => by rw [lockL_ne (fun z => (h c z).2 φ e)]; exact e) fun _ _ z => z
theorem TB.unlock {H0 H H2 : Hp} {L : List Addr} (t : TB H0 H2) (h : ∀ a ∈ L, NX (H2 a)) : TB H0 (unlockL H H2 L) :=
  t.keep (fun _ _ n _ => n) (fun b ps e => by unfold unlockL; rw [if_neg (fun z => (h b z).1 ps e)]; exact e) (fun c φ e => by unfold unlockL; rw [if_neg (fun z => (h c z).2 φ e)]; exact e) fun _ _ z => z
theorem inv_unlocks {X : Cx} {pins : List (Addr × PySem.Obj)} {σ σ' : L2.St} {s s' : Shared} {H : Hp} (I : Inv X pins σ H s) {od : Addr → PySem.Obj} : ∀ (L L' : List Addr) (H' : Hp), (∀ a ∈ L, ∃ u, H a = some u ∧ Mut (some u)) → (∀ a ∈ L', ∃ u, H a = some u ∧ Mut (some u)) → L'.Nodup → (∀ a ∈ L', H' a = (H a).map fun u => .frz (od a) u) →
    Inv X pins σ' H' s' → Inv X pins σ' (unlockL H H' L') s'
  | L, [], H', _, _, _, _, J => by
    have e : unlockL H H' [] = H' := by funext b; unfold unlockL; rw [if_neg (by simp)]
    rw [e]; exact J
  | L, a :: L', H', hL, hL', nd, hf, J => by
    obtain ⟨n1, n2⟩ := List.nodup_cons.mp nd
    obtain ⟨u, hu, mu⟩ := hL' a (by simp)
    have ha := hf a (by simp)
    rw [hu] at ha
    have J1 := J.unlock (show H' a = some (.frz (od a) u) from ha) (I.nofrz hu mu)
    have J2 := inv_unlocks I (od := od) L L' _ hL (fun b hb => hL' b (List.mem_cons_of_mem _ hb)) n2 (fun b hb => by
      rw [upd_ne (fun z => n1 (by rw [← z]; exact hb))]
      exact hf b (List.mem_cons_of_mem _ hb)) J1
    have e : unlockL H (upd H' a u) L' = unlockL H H' (a :: L') := by
      funext b
      unfold unlockL
      by_cases hb : b = a
      · subst hb; rw [if_neg n1, upd_same, if_pos (by simp), hu]
      · by_cases hl : b ∈ L'
        · rw [if_pos hl, if_pos (List.mem_cons_of_mem _ hl)]
        · rw [if_neg hl, if_neg (by simp [hb, hl]), upd_ne hb]
    rw [e] at J2
    exact J2
section
variable {X : Cx} {σ : L2.St} {H : Hp} {L : List Addr}
/-- the expression runs while these are locked -/
theorem sE_lend {e : Expr} {Q : VK} (nd : L.Nodup) (hL : ∀ a ∈ L, ∃ u, H a = some u ∧ Mut (some u)) (h : ∀ od, sE X e σ (lockL H od L) fun v H' => (∀ a ∈ L, H' a = lockL H od L a) ∧ Q v (unlockL H H' L)) : sE X e σ H Q := fun pins s I => by
  obtain ⟨od, I1⟩ := inv_locks L H I nd hL
  refine thn (h od pins s I1) fun u s1 ⟨v, H', J, r, k, q⟩ => ?_
  exact ⟨v, _, inv_unlocks I L L H' hL hL nd (fun a ha => by rw [k a ha, lockL_in ha]) J, r, q⟩
theorem sT_lend {e : Expr} {Q : Bool → Hp → Prop} (nd : L.Nodup) (hL : ∀ a ∈ L, ∃ u, H a = some u ∧ Mut (some u)) (h : ∀ od, sT X e σ (lockL H od L) fun v H' => (∀ a ∈ L, H' a = lockL H od L a) ∧ Q v (unlockL H H' L)) : sT X e σ H Q := fun pins s I => by
  obtain ⟨od, I1⟩ := inv_locks L H I nd hL
  refine thn (h od pins s I1) fun u s1 ⟨H', J, k, q⟩ => ?_
  exact ⟨_, inv_unlocks I L L H' hL hL nd (fun a ha => by rw [k a ha, lockL_in ha]) J, q⟩
theorem sSs_pre {sts : List Stmt} {D : Ends} (nd : L.Nodup) (hL : ∀ a ∈ L, ∃ u, H a = some u ∧ Mut (some u)) (h : ∀ od, sSs X sts D σ (lockL H od L)) : sSs X sts D σ H := fun pins s I => by
  obtain ⟨od, I1⟩ := inv_locks L H I nd hL
  exact h od pins s I1
theorem sE_post {e : Expr} {Q : VK} (h : sE X e σ H fun v H1 => ∃ L : List Addr, L.Nodup ∧ (∀ a ∈ L, ∃ u, H1 a = some u ∧ Mut (some u)) ∧ ∀ od, Q v (lockL H1 od L)) : sE X e σ H Q := fun pins s I => by
  refine thn (h pins s I) fun u s1 ⟨v, H1, J, r, L, nd, hL, q⟩ => ?_
  obtain ⟨od, J1⟩ := inv_locks L H1 J nd hL
  exact ⟨v, _, J1, r, q od⟩
end
theorem MuRep.mut {K : Frag} {H0 H : Hp} {a : Addr} {m : Mu} (h : MuRep K H0 H a m) (d : m.dict = true) : ∃ u, H a = some u ∧ Mut (some u) := by
  cases m with
  | lst ds => obtain ⟨vs, h, _⟩ := h; exact ⟨_, h, trivial⟩
  | fL ds => cases d
  | ins C ns ds => cases d
  | dK kvs => obtain ⟨vs, xs, h, _⟩ := h; exact ⟨_, h, trivial⟩
  | dT kvs => obtain ⟨vs, xs, h, _⟩ := h; exact ⟨_, h, trivial⟩
  | fK kvs => cases d
  | fT kvs => cases d
theorem locks_sub (c : Mem) : (locksOf c).Sublist c.dom := List.Sublist.map _ List.filter_sublist
theorem locks_mem {c : Mem} {a : Addr} (h : a ∈ locksOf c) : ∃ p ∈ c, p.1 = a ∧ p.2.dict = true := by
  obtain ⟨p, hp, rfl⟩ := List.mem_map.mp h
  obtain ⟨a, b⟩ := List.mem_filter.mp hp
  exact ⟨p, a, rfl, b⟩
section
variable {K : Frag} {H0 H : Hp} {c R : Mem}
theorem Ht.lockable (t : Ht K H0 H (c ++ R)) : (locksOf c).Nodup ∧ ∀ a ∈ locksOf c, ∃ u, H a = some u ∧ Mut (some u) := by
  have tl := t.left
  refine ⟨tl.nd.sublist (locks_sub c), fun a ha => ?_⟩
  obtain ⟨p, hp, rfl, hd⟩ := locks_mem ha
  exact (tl.mem p hp).2.mut hd
theorem lockM_dom (c : Mem) : (lockM c).dom = c.dom := by
  unfold lockM Mem.dom
  rw [List.map_map]; rfl
theorem in_one {M : Mem} (nd : M.dom.Nodup) {p q : Addr × Mu} (hp : p ∈ M) (hq : q ∈ M) (e : p.1 = q.1) : p = q := by
  induction M with
  | nil => simp at hp
  | cons x M ih =>
    have nd' : (x.1 :: Mem.dom M).Nodup := nd
    obtain ⟨n1, n2⟩ := List.nodup_cons.mp nd'
    rcases List.mem_cons.mp hp with hp1 | hp1
    · rcases List.mem_cons.mp hq with hq1 | hq1
      · rw [hp1, hq1]
      · exact absurd (show x.1 ∈ Mem.dom M from List.mem_map.mpr ⟨q, hq1, by rw [← e, hp1]⟩) n1
    · rcases List.mem_cons.mp hq with hq1 | hq1
      · exact absurd (show x.1 ∈ Mem.dom M from List.mem_map.mpr ⟨p, hp1, by rw [e, hq1]⟩) n1
      · exact ih n2 hp1 hq1
theorem Ht.lnx (t : Ht K H0 H (c ++ R)) : ∀ a ∈ locksOf c, NX (H a) := fun a ha => by
  obtain ⟨p, hp, rfl, _⟩ := locks_mem ha
  exact (t.mem p (List.mem_append_left _ hp)).2.nx
/-- the heap with the dicts of c locked -/
theorem Ht.locked (t : Ht K H0 H (c ++ R)) (od : Addr → PySem.Obj) : Ht K H0 (lockL H od (locksOf c)) (lockM c ++ R) ∧ Go H0 H (c ++ R) H0 (lockL H od (locksOf c)) (lockM c ++ R) := by
  have dd : Mem.dom (lockM c ++ R) = Mem.dom (c ++ R) := by
    have h1 : Mem.dom (lockM c ++ R) = Mem.dom (lockM c) ++ Mem.dom R := by simp [Mem.dom]
    have h2 : Mem.dom (c ++ R) = Mem.dom c ++ Mem.dom R := by simp [Mem.dom]
    rw [h1, h2, lockM_dom]
  have inM : ∀ a ∈ locksOf c, a ∈ Mem.dom (c ++ R) := fun a ha => by
    obtain ⟨p, hp, rfl, _⟩ := locks_mem ha
    exact List.mem_map.mpr ⟨p, List.mem_append_left _ hp, rfl⟩
  have z0 : ∀ a ∈ locksOf c, H0 a = none := fun a ha => by
    obtain ⟨p, hp, rfl, _⟩ := locks_mem ha
    exact (t.mem p (List.mem_append_left _ hp)).1
  refine ⟨⟨fun b o e => ?_, by rw [dd]; exact t.nd, fun q hq => ?_, t.tb.lock t.lnx⟩, ⟨Same.refl _, fun b o e hb _ => ?_, fun _ h _ _ => h, fun a ha => by rw [dd] at ha; exact .inl ha, fun b e => lock_none e⟩⟩
  · rw [lockL_ne (fun z => by rw [z0 b z] at e; cases e)]; exact t.ex _ _ e
  · rcases List.mem_append.mp hq with hq | hq
    · obtain ⟨p, hp, rfl⟩ := List.mem_map.mp hq
      obtain ⟨m1, m2⟩ := t.mem p (List.mem_append_left _ hp)
      refine ⟨m1, ?_⟩
      obtain ⟨a, m⟩ := p
      have no : m.dict = false → a ∉ locksOf c := fun hd z => by
        obtain ⟨p', hp', e, hd'⟩ := locks_mem z
        have := in_one t.left.nd hp hp' e.symm
        subst this
        have hd : m.dict = false := hd
        have hd' : m.dict = true := hd'
        rw [hd] at hd'; cases hd'
      have yes : m.dict = true → a ∈ locksOf c := fun hd => List.mem_map.mpr ⟨(a, m), List.mem_filter.mpr ⟨hp, hd⟩, rfl⟩
      cases m with
      | fL ds => exact m2.mono (Same.refl _) fun o e _ => by rw [lockL_ne (no rfl)]; exact e
      | lst ds =>
        obtain ⟨vs, h1, h2⟩ := m2
        exact ⟨od a, vs, by rw [lockL_in (yes rfl)]; show (H a).map _ = _; rw [h1]; rfl, h2⟩
      | ins C ns ds => exact m2.mono (Same.refl _) fun o e _ => by rw [lockL_ne (no rfl)]; exact e
      | fK kvs => exact m2.mono (Same.refl _) fun o e _ => by rw [lockL_ne (no rfl)]; exact e
      | fT kvs => exact m2.mono (Same.refl _) fun o e _ => by rw [lockL_ne (no rfl)]; exact e
      | dK kvs =>
        obtain ⟨vs, xs, h1, h2⟩ := m2
        exact ⟨od a, vs, xs, by rw [lockL_in (yes rfl)]; show (H a).map _ = _; rw [h1]; rfl, h2⟩
      | dT kvs =>
        obtain ⟨vs, xs, h1, h2⟩ := m2
        exact ⟨od a, vs, xs, by rw [lockL_in (yes rfl)]; show (H a).map _ = _; rw [h1]; rfl, h2⟩
    · obtain ⟨m1, m2⟩ := t.mem q (List.mem_append_right _ hq)
      refine ⟨m1, m2.mono (Same.refl _) fun o e _ => ?_⟩
      rw [lockL_ne fun z => ?_]
      · exact e
      · obtain ⟨p', hp', e', _⟩ := locks_mem z
        have nd := t.nd
        rw [show Mem.dom (c ++ R) = Mem.dom c ++ Mem.dom R by simp [Mem.dom]] at nd
        exact (List.nodup_append.mp nd).2.2 p'.1 (List.mem_map.mpr ⟨p', hp', rfl⟩) q.1 (List.mem_map.mpr ⟨q, hq, rfl⟩) e'
  · rw [lockL_ne (fun z => hb (inM b z))]; exact e
end
/-! ### laid for good -/
theorem lockM_app (a b : Mem) : lockM (a ++ b) = lockM a ++ lockM b := by unfold lockM; rw [List.map_append]
section
variable {K : Frag}
/-- one thing more that never changes -/
theorem Ht.lay {H0 H : Hp} {a : Addr} {m : Mu} {R : Mem} (t : Ht K H0 H ((a, m) :: R)) {o : HO} (ho : H a = some o) : Ht K (upd H0 a o) H R ∧ Same H0 (upd H0 a o) ∧ Go H0 H ((a, m) :: R) (upd H0 a o) H R := by
  have nd : (a :: R.dom).Nodup := t.nd
  obtain ⟨n1, n2⟩ := List.nodup_cons.mp nd
  have h0 := (t.mem (a, m) List.mem_cons_self).1
  have sm : Same H0 (upd H0 a o) := same_new h0
  refine ⟨⟨fun b u e => ?_, n2, fun q hq => ?_, t.tb.frz ho (fun ps z => (t.mem (a, m) List.mem_cons_self).2.nx.1 ps (by rw [ho, z])) fun ps z => (t.mem (a, m) List.mem_cons_self).2.nx.1 ps (by rw [ho, z])⟩, sm, ⟨sm, fun _ _ e _ _ => e, fun b b1 b2 b3 => ?_, fun b hb => .inl (List.mem_cons_of_mem _ hb), fun _ e => e⟩⟩
  · by_cases hb : b = a
    · subst hb; rw [upd_same] at e; cases e; exact ho
    · rw [upd_ne hb] at e; exact t.ex _ _ e
  · obtain ⟨m1, m2⟩ := t.mem q (List.mem_cons_of_mem _ hq)
    have ne : q.1 ≠ a := fun z => n1 (by rw [← z]; exact List.mem_map.mpr ⟨q, hq, rfl⟩)
    exact ⟨by rw [upd_ne ne]; exact m1, m2.mono sm fun _ e _ => e⟩
  · rw [upd_ne (fun z => b3 (by rw [z]; exact List.mem_cons_self))]; exact b1
theorem zip_fst {α β : Type} : ∀ {xs : List α} {ys : List β}, xs.length = ys.length → (xs.zip ys).map Prod.fst = xs
  | [], [], _ => rfl
  | [], _ :: _, h => by simp at h
  | _ :: _, [], h => by simp at h
  | x :: xs, y :: ys, h => by
    simp only [List.zip_cons_cons, List.map_cons]
    rw [zip_fst (by simpa using h)]
theorem zip_snd {α β : Type} : ∀ {xs : List α} {ys : List β}, xs.length = ys.length → (xs.zip ys).map Prod.snd = ys
  | [], [], _ => rfl
  | [], _ :: _, h => by simp at h
  | _ :: _, [], h => by simp at h
  | x :: xs, y :: ys, h => by
    simp only [List.zip_cons_cons, List.map_cons]
    rw [zip_snd (by simpa using h)]
mutual
theorem frz_ok : ∀ (o : Ow) {H0 H : Hp} {R : Mem} {v : V}, o.fit → Ht K H0 H (lockM o.mem ++ R) → Rep K H0 v o.root → ∃ H0', Ht K H0' H R ∧ Rep K H0' v o.frz ∧ Same H0 H0' ∧ Go H0 H (lockM o.mem ++ R) H0' H R
  | .fr d, H0, H, R, v, _, t, r => by
    simp only [Ow.mem, Ow.root, Ow.frz] at *
    exact ⟨H0, t, r, Same.refl _, Go.refl⟩
  | .lst a xs, H0, H, R, v, f, t, r => by
    simp only [Ow.mem, Ow.root, Ow.frz, Ow.fit] at *
    have p : (lockM ((a, .lst (Ow.rootA xs)) :: Ow.memA xs) ++ R).Perm (lockM (Ow.memA xs) ++ ((a, .fL (Ow.rootA xs)) :: R)) := (List.perm_middle).symm
    have t2 := t.perm p
    obtain ⟨_, ob, vs, h1, h2⟩ := t2.mem (a, .fL (Ow.rootA xs)) (by simp)
    obtain ⟨H0', t3, r3, sm, g3⟩ := frzA_ok xs f t2 h2
    obtain ⟨t4, sm4, g4⟩ := t3.lay h1
    cases r
    exact ⟨_, t4, .scr (.inl (.inr ⟨ob, upd_same⟩)) (r3.mo sm4), sm.trans sm4, (g3.permL p.symm).trans g4⟩
  | .ins a C ns xs, H0, H, R, v, f, t, r => by
    simp only [Ow.mem, Ow.root, Ow.frz, Ow.fit] at *
    have p : (lockM ((a, .ins C ns (Ow.rootA xs)) :: Ow.memA xs) ++ R).Perm (lockM (Ow.memA xs) ++ ((a, .ins C ns (Ow.rootA xs)) :: R)) := (List.perm_middle).symm
    have t2 := t.perm p
    obtain ⟨_, dx, vs, ys, h1, h2, h3, h4⟩ := t2.mem (a, .ins C ns (Ow.rootA xs)) (by simp)
    obtain ⟨H0', t3, r3, sm, g3⟩ := frzA_ok xs f t2 h4
    obtain ⟨t4, sm4, g4⟩ := t3.lay h1
    cases r
    exact ⟨_, t4, .ins upd_same h2 h3 (r3.mo sm4), sm.trans sm4, (g3.permL p.symm).trans g4⟩
  | .dK a ks xs, H0, H, R, v, f, t, r => by
    simp only [Ow.mem, Ow.root, Ow.frz, Ow.fit] at *
    have p : (lockM ((a, .dK (ks.zip (Ow.rootA xs))) :: Ow.memA xs) ++ R).Perm (lockM (Ow.memA xs) ++ ((a, .fK (ks.zip (Ow.rootA xs))) :: R)) := (List.perm_middle).symm
    have t2 := t.perm p
    obtain ⟨_, ob, vs, ys, h1, h2, h3, h4⟩ := t2.mem (a, .fK (ks.zip (Ow.rootA xs))) (by simp)
    have lx : ks.length = (Ow.rootA xs).length := by rw [rootA_map, List.length_map]; exact f.1
    rw [zip_snd lx] at h4
    rw [zip_fst lx] at h2
    obtain ⟨H0', t3, r3, sm, g3⟩ := frzA_ok xs f.2 t2 h4
    obtain ⟨t4, sm4, g4⟩ := t3.lay h1
    cases r
    exact ⟨_, t4, .dK upd_same h2 h3 (r3.mo sm4), sm.trans sm4, (g3.permL p.symm).trans g4⟩
  | .dT a ks xs, H0, H, R, v, f, t, r => by
    simp only [Ow.mem, Ow.root, Ow.frz, Ow.fit] at *
    have p : (lockM ((a, .dT (ks.zip (Ow.rootA xs))) :: Ow.memA xs) ++ R).Perm (lockM (Ow.memA xs) ++ ((a, .fT (ks.zip (Ow.rootA xs))) :: R)) := (List.perm_middle).symm
    have t2 := t.perm p
    obtain ⟨_, ob, vs, ys, h1, h2, h3, h4⟩ := t2.mem (a, .fT (ks.zip (Ow.rootA xs))) (by simp)
    have lx : ks.length = (Ow.rootA xs).length := by rw [rootA_map, List.length_map]; exact f.1
    rw [zip_snd lx] at h4
    rw [zip_fst lx] at h2
    obtain ⟨H0', t3, r3, sm, g3⟩ := frzA_ok xs f.2 t2 h4
    obtain ⟨t4, sm4, g4⟩ := t3.lay h1
    cases r
    exact ⟨_, t4, .dT upd_same h2 h3 (r3.mo sm4), sm.trans sm4, (g3.permL p.symm).trans g4⟩
  | .tup xs, H0, H, R, v, f, t, r => by
    simp only [Ow.mem, Ow.root, Ow.frz, Ow.fit] at *
    cases r with
    | tup h1 h2 =>
      obtain ⟨H0', t3, r3, sm, g3⟩ := frzA_ok xs f t h2
      exact ⟨_, t3, .tup (sm _ _ h1) r3, sm, g3⟩
  | .seq xs, H0, H, R, v, f, t, r => by
    simp only [Ow.mem, Ow.root, Ow.frz, Ow.fit] at *
    cases r with
    | lst h1 h2 =>
      obtain ⟨H0', t3, r3, sm, g3⟩ := frzA_ok xs f t h2
      exact ⟨_, t3, .lst (sm _ _ h1) r3, sm, g3⟩
theorem frzA_ok : ∀ (os : List Ow) {H0 H : Hp} {R : Mem} {vs : List V}, Ow.fitA os → Ht K H0 H (lockM (Ow.memA os) ++ R) → RepA K H0 vs (Ow.rootA os) → ∃ H0', Ht K H0' H R ∧ RepA K H0' vs (Ow.frzA os) ∧ Same H0 H0' ∧ Go H0 H (lockM (Ow.memA os) ++ R) H0' H R
  | [], H0, H, R, vs, _, t, r => by
    simp only [Ow.memA, Ow.rootA, Ow.frzA] at *
    exact ⟨H0, t, r, Same.refl _, Go.refl⟩
  | o :: os, H0, H, R, vs, f, t, r => by
    simp only [Ow.memA, Ow.rootA, Ow.frzA, Ow.fitA] at *
    rw [lockM_app, List.append_assoc] at t
    cases r with
    | cons r1 r2 =>
      obtain ⟨H1, t1, q1, sm1, g1⟩ := frz_ok o f.1 t r1
      obtain ⟨H2, t2, q2, sm2, g2⟩ := frzA_ok os f.2 t1 (r2.mo sm1)
      exact ⟨H2, t2, .cons (q1.mo sm2) q2, sm1.trans sm2, by rw [lockM_app, List.append_assoc]; exact g1.trans g2⟩
end
end
/-! ### what a value owns, by its kind -/
section
variable {α β γ κ : Type}
/-- r is owned as d, by what stands at m -/
def OwR (E : β → Ow → Prop) (r : β) (d : D) (m : Mem) : Prop := ∃ o, E r o ∧ d = o.root ∧ m = o.mem
/-- a kind of owned things, and how they look when laid for good -/
structure OwK (E : β → Ow → Prop) (enc : β → D) : Prop where
  frz : ∀ r o, E r o → o.frz = enc r
  fit : ∀ r o, E r o → o.fit
def isFr (f : β → D) (r : β) (o : Ow) : Prop := o = .fr (f r)
inductive All2 (E : β → Ow → Prop) : List β → List Ow → Prop
  | nil : All2 E [] []
  | cons {r : β} {rs : List β} {o : Ow} {os : List Ow} : E r o → All2 E rs os → All2 E (r :: rs) (o :: os)
theorem All2.frz {E : β → Ow → Prop} {enc : β → D} (k : OwK E enc) {rs : List β} {os : List Ow} (h : All2 E rs os) : Ow.frzA os = rs.map enc ∧ Ow.fitA os := by
  induction h with
  | nil => exact ⟨by simp [Ow.frzA], by simp [Ow.fitA]⟩
  | cons a b ih => exact ⟨by simp [Ow.frzA, k.frz _ _ a, ih.1], by simp [Ow.fitA, k.fit _ _ a, ih.2]⟩
theorem All2.len {E : β → Ow → Prop} {rs : List β} {os : List Ow} (h : All2 E rs os) : os.length = rs.length := by
  induction h with
  | nil => rfl
  | cons a b ih => rw [List.length_cons, List.length_cons, ih]
theorem All2.get {E : β → Ow → Prop} {rs : List β} {os : List Ow} (h : All2 E rs os) : ∀ {i : Nat} {r : β}, rs[i]? = some r → ∃ o, os[i]? = some o ∧ E r o := by
  induction h with
  | nil => intro i r e; simp at e
  | cons a b ih =>
    intro i r e
    cases i with
    | zero => simp at e; subst e; exact ⟨_, rfl, a⟩
    | succ i => simpa using ih (by simpa using e)
theorem All2.set {E : β → Ow → Prop} {rs : List β} {os : List Ow} {r : β} {o : Ow} (h : All2 E rs os) (e : E r o) : ∀ (i : Nat), All2 E (rs.set i r) (os.set i o) := by
  induction h with
  | nil => intro i; exact .nil
  | cons a b ih =>
    intro i
    cases i with
    | zero => exact .cons e b
    | succ i => exact .cons a (ih i)
theorem All2.app {E : β → Ow → Prop} {rs : List β} {os : List Ow} {rs' : List β} {os' : List Ow} (h : All2 E rs os) (g : All2 E rs' os') : All2 E (rs ++ rs') (os ++ os') := by
  induction h with
  | nil => exact g
  | cons a b ih => exact .cons a ih
/-- a list that owns its things -/
def isLst (E : β → Ow → Prop) (rs : List β) (o : Ow) : Prop := ∃ a os, o = .lst a os ∧ All2 E rs os
/-- a list of things that never change -/
def isLstF (f : β → D) (rs : List β) (o : Ow) : Prop := ∃ a, o = .lst a (rs.map fun r => .fr (f r))
theorem okLstF (f : β → D) : OwK (isLstF f) fun rs => .scr (rs.map f) :=
  ⟨fun r o ⟨a, e⟩ => by subst e; simp only [Ow.frz, frzA_fr], fun r o ⟨a, e⟩ => by subst e; simp only [Ow.fit]; exact fitA_fr _ _⟩
/-- dicts of things that never change -/
def isDTF (ek : κ → List Key) (f : β → D) (xs : List (κ × β)) (o : Ow) : Prop := ∃ a, o = .dT a (xs.map fun q => ek q.1) (xs.map fun q => .fr (f q.2))
def isDKF (ek : κ → Key) (f : β → D) (xs : List (κ × β)) (o : Ow) : Prop := ∃ a, o = .dK a (xs.map fun q => ek q.1) (xs.map fun q => .fr (f q.2))
theorem okDKF (ek : κ → Key) (f : β → D) : OwK (isDKF ek f) fun xs => .dK (xs.map fun q => ek q.1) (xs.map fun q => f q.2) :=
  ⟨fun r o ⟨a, e⟩ => by subst e; simp only [Ow.frz, frzA_fr (fun q : κ × β => f q.2)], fun r o ⟨a, e⟩ => by subst e; simp only [Ow.fit]; exact ⟨by simp, fitA_fr (fun q : κ × β => f q.2) _⟩⟩
/-- a dict that owns its values -/
def isDK (ek : κ → Key) (E : β → Ow → Prop) (xs : List (κ × β)) (o : Ow) : Prop := ∃ a os, o = .dK a (xs.map fun q => ek q.1) os ∧ All2 E (xs.map Prod.snd) os
end
section
variable {X : Cx} {kx kx' : XD} {ρ ρ' ρ'' : Ro} {M M' R : Mem} {P : Out → Mem → Prop} {e : Expr} {sts : List Stmt} {β : Type} {E : β → Ow → Prop} {enc : β → D} {r : β} {d : D} {m : Mem}
/-- a slot's thing laid for good -/
theorem ds_frzO (k : OwK E enc) (h : OwR E r d m) (j : Nat) (p : M.Perm (m ++ R)) (hj : ρ[j]? = some (some d)) (hd : DS X kx sts (ρ.set j (some (enc r))) R P) : DS X kx sts ρ M P := fun σ H H0 t s W tk hx D c => by
  obtain ⟨o, he, rfl, rfl⟩ := h
  have t1 := t.perm p
  obtain ⟨nd, lk⟩ := t1.lockable
  refine sSs_pre nd lk fun od => ?_
  obtain ⟨t2, g2⟩ := t1.locked od
  obtain ⟨v, hv, rv⟩ := s.2 j _ hj
  obtain ⟨H0', t3, r3, sm, g3⟩ := frz_ok o (k.fit _ _ he) t2 rv
  rw [k.frz _ _ he] at r3
  have g := (g2.trans g3).permL p.symm
  have s' := (s.mo sm).set r3 j
  have e : σ.set j (some v) = σ := by
    refine List.ext_getElem? fun i => ?_
    by_cases hi : j = i
    · subst hi; rw [List.getElem?_set_self (List.getElem?_eq_some_iff.mp hv).1, hv]
    · rw [List.getElem?_set_ne hi]
  rw [e] at s'
  exact hd σ _ H0' t3 s' W tk (hx.step g) D (c.step g)
/-- what an expression makes, laid for good at once -/
theorem DE.lay (k : OwK E enc) (h : DE X kx0 e ρ [] fun d' m' => OwR E r d' m') : DV X kx e ρ M (enc r) := fun σ H H0 t s W tk hx Q q =>
  sE_post (h σ H H0 (Ht.emp t.ex t.tb) s W tk Hx.none _ fun v H1 H01 d' M1 g1 t1 r1 ho => by
    obtain ⟨o, he, rfl, rfl⟩ := ho
    obtain ⟨gf, tf⟩ := frame_of (Ma := []) (F := M) t g1 t1
    obtain ⟨nd, lk⟩ := tf.lockable
    refine ⟨_, nd, lk, fun od => ?_⟩
    obtain ⟨t3, g3⟩ := tf.locked od
    obtain ⟨H0', t4, r4, sm, g4⟩ := frz_ok o (k.fit _ _ he) t3 r1
    rw [k.frz _ _ he] at r4
    have g := gf.trans (g3.trans g4)
    refine q v _ H0' ⟨g.e0, fun b u eb n => ?_, t4.ex, fun a h1 h2 => ?_, g.there, fun _ => t4.tb⟩ r4
    · have e1 := g1.e b u eb (by simp) n
      rw [lockL_ne]
      · exact e1
      · intro z
        obtain ⟨pp, hp, e2, _⟩ := locks_mem z
        rcases g1.dom b (List.mem_map.mpr ⟨pp, hp, e2⟩) with z | z
        · simp at z
        · rw [eb] at z; cases z
    · by_cases ha : a ∈ M.dom
      · obtain ⟨mm, hm, rfl⟩ := List.mem_map.mp ha
        exact (t4.mem mm hm).1
      · exact g.new a h1 h2 (by simpa using ha))
end
end Dl

/-! things that change, looked at by others meanwhile; what is made new -/
namespace Dl
open PySem PySem.Spec PyProof.Rows L2
/-- which things are lent: objects with these fields, lists, dicts -/
structure Shp where
  ns : List (List Str)
  l : Bool
  d : Bool
mutual
/-- nothing of the kind within -/
def D.off (S : Shp) : D → Bool
  | .non => true
  | .bl _ => true
  | .int _ => true
  | .str _ => true
  | .ty _ => true
  | .lst xs => D.offA S xs
  | .scr xs => !S.l && D.offA S xs
  | .tup xs => D.offA S xs
  | .ins _ ns xs => !S.ns.contains ns && D.offA S xs
  | .adr _ => true
  | .dK _ xs => !S.d && D.offA S xs
  | .dT _ xs => !S.d && D.offA S xs
  | .exn _ _ xs => D.offA S xs
  | .clo _ _ xs => D.offA S xs
def D.offA (S : Shp) : List D → Bool
  | [] => true
  | d :: ds => d.off S && D.offA S ds
end
theorem offA_all (S : Shp) : ∀ xs : List D, D.offA S xs = xs.all (D.off S)
  | [] => by simp [D.offA]
  | x :: xs => by simp [D.offA, offA_all S xs]
theorem offA_map {α : Type} {S : Shp} {f : α → D} (h : ∀ x, (f x).off S = true) (xs : List α) : D.offA S (xs.map f) = true := by
  rw [offA_all, List.all_map, List.all_eq_true]; exact fun x _ => h x
/-- how a thing looks -/
def MSh (S : Shp) : Mu → Option HO → Prop
  | .lst _, o => S.l = true ∧ ∃ ob vs, o = some (.frz ob (.lst vs))
  | .fL _, o => S.l = true ∧ ∃ ob vs, o = some (.frz ob (.lst vs))
  | .ins C ns _, o => ns ∈ S.ns ∧ ∃ dx vs, o = some (.ins C dx vs) ∧ vs.map Prod.fst = ns
  | .dK _, o => S.d = true ∧ ∃ ob vs, o = some (.frz ob (.dK vs))
  | .dT _, o => S.d = true ∧ ∃ ob vs, o = some (.frz ob (.dT vs))
  | .fK _, o => S.d = true ∧ ∃ ob vs, o = some (.frz ob (.dK vs))
  | .fT _, o => S.d = true ∧ ∃ ob vs, o = some (.frz ob (.dT vs))
/-- what Mem says of how things look -/
def MuSh (S : Shp) : Mu → Bool
  | .lst _ => S.l
  | .fL _ => S.l
  | .ins _ ns _ => S.ns.contains ns
  | _ => S.d
def cutL (H : Hp) (L : List Addr) : Hp := fun b => if b ∈ L then none else H b
theorem cutL_ne {H : Hp} {L : List Addr} {b : Addr} (h : b ∉ L) : cutL H L b = H b := by unfold cutL; rw [if_neg h]
theorem cutL_some {H : Hp} {L : List Addr} {b : Addr} {o : HO} (h : cutL H L b = some o) : H b = some o := by
  unfold cutL at h
  split at h
  · cases h
  · exact h
theorem cutL_in {H : Hp} {L : List Addr} {b : Addr} (h : b ∈ L) : cutL H L b = none := by unfold cutL; rw [if_pos h]
theorem shNo {H : Hp} {S : Shp} {c : Mem} {a : Addr} {u : HO} (hc : ∀ p ∈ c, ∀ o, H p.1 = some o → MSh S p.2 (some o)) (h : H a = some u) (no : ∀ {m : Mu}, MSh S m (some u) → False) : a ∉ c.dom := fun z => by
  obtain ⟨m, hm, rfl⟩ := List.mem_map.mp z
  exact no (hc m hm _ h)
theorem sh_lstX {S : Shp} {vs : List V} : ∀ {m : Mu}, MSh S m (some (.lst vs)) → False
  | .lst _, ⟨_, _, _, e⟩ => by cases e
  | .fL _, ⟨_, _, _, e⟩ => by cases e
  | .ins _ _ _, ⟨_, _, _, e, _⟩ => by cases e
  | .dK _, ⟨_, _, _, e⟩ => by cases e
  | .dT _, ⟨_, _, _, e⟩ => by cases e
  | .fK _, ⟨_, _, _, e⟩ => by cases e
  | .fT _, ⟨_, _, _, e⟩ => by cases e
theorem sh_tupX {S : Shp} {vs : List V} : ∀ {m : Mu}, MSh S m (some (.tup vs)) → False
  | .lst _, ⟨_, _, _, e⟩ => by cases e
  | .fL _, ⟨_, _, _, e⟩ => by cases e
  | .ins _ _ _, ⟨_, _, _, e, _⟩ => by cases e
  | .dK _, ⟨_, _, _, e⟩ => by cases e
  | .dT _, ⟨_, _, _, e⟩ => by cases e
  | .fK _, ⟨_, _, _, e⟩ => by cases e
  | .fT _, ⟨_, _, _, e⟩ => by cases e
theorem sh_xdX {S : Shp} {vs : List (Str × V)} : ∀ {m : Mu}, MSh S m (some (.xd vs)) → False
  | .lst _, ⟨_, _, _, e⟩ => by cases e
  | .fL _, ⟨_, _, _, e⟩ => by cases e
  | .ins _ _ _, ⟨_, _, _, e, _⟩ => by cases e
  | .dK _, ⟨_, _, _, e⟩ => by cases e
  | .dT _, ⟨_, _, _, e⟩ => by cases e
  | .fK _, ⟨_, _, _, e⟩ => by cases e
  | .fT _, ⟨_, _, _, e⟩ => by cases e
theorem sh_exX {S : Shp} {a C : Addr} {d : Option Addr} : ∀ {m : Mu}, MSh S m (some (exT a C d)) → False
  | .lst _, ⟨_, _, _, e⟩ => by cases e
  | .fL _, ⟨_, _, _, e⟩ => by cases e
  | .ins _ _ _, ⟨_, _, _, e, _⟩ => by cases e
  | .dK _, ⟨_, _, _, e⟩ => by cases e
  | .dT _, ⟨_, _, _, e⟩ => by cases e
  | .fK _, ⟨_, _, _, e⟩ => by cases e
  | .fT _, ⟨_, _, _, e⟩ => by cases e
theorem sh_extX {S : Shp} {φ : Heap → Prop} : ∀ {m : Mu}, MSh S m (some (.ext φ)) → False
  | .lst _, ⟨_, _, _, e⟩ => by cases e
  | .fL _, ⟨_, _, _, e⟩ => by cases e
  | .ins _ _ _, ⟨_, _, _, e, _⟩ => by cases e
  | .dK _, ⟨_, _, _, e⟩ => by cases e
  | .dT _, ⟨_, _, _, e⟩ => by cases e
  | .fK _, ⟨_, _, _, e⟩ => by cases e
  | .fT _, ⟨_, _, _, e⟩ => by cases e
theorem sh_flX {S : Shp} {o : PySem.Obj} {vs : List V} (h : S.l = false) : ∀ {m : Mu}, MSh S m (some (.frz o (.lst vs))) → False
  | .lst _, ⟨q, _, _, _⟩ => by rw [h] at q; cases q
  | .fL _, ⟨q, _, _, _⟩ => by rw [h] at q; cases q
  | .ins _ _ _, ⟨_, _, _, e, _⟩ => by cases e
  | .dK _, ⟨_, _, _, e⟩ => by cases e
  | .dT _, ⟨_, _, _, e⟩ => by cases e
  | .fK _, ⟨_, _, _, e⟩ => by cases e
  | .fT _, ⟨_, _, _, e⟩ => by cases e
theorem sh_insX {S : Shp} {C dx : Addr} {ns : List Str} {vs : List (Str × V)} (h : S.ns.contains ns = false) (h2 : vs.map Prod.fst = ns) : ∀ {m : Mu}, MSh S m (some (.ins C dx vs)) → False
  | .lst _, ⟨_, _, _, e⟩ => by cases e
  | .fL _, ⟨_, _, _, e⟩ => by cases e
  | .ins _ _ _, ⟨i, _, _, e, f⟩ => by
    cases e
    rw [h2] at f
    subst f
    have := List.contains_iff_mem.mpr i
    rw [h] at this; cases this
  | .dK _, ⟨_, _, _, e⟩ => by cases e
  | .dT _, ⟨_, _, _, e⟩ => by cases e
  | .fK _, ⟨_, _, _, e⟩ => by cases e
  | .fT _, ⟨_, _, _, e⟩ => by cases e
theorem sh_fkX {S : Shp} {o : PySem.Obj} {vs : List (Key × V)} (h : S.d = false) : ∀ {m : Mu}, MSh S m (some (.frz o (.dK vs))) → False
  | .lst _, ⟨_, _, _, e⟩ => by cases e
  | .fL _, ⟨_, _, _, e⟩ => by cases e
  | .ins _ _ _, ⟨_, _, _, e, _⟩ => by cases e
  | .dK _, ⟨q, _⟩ => by rw [h] at q; cases q
  | .dT _, ⟨q, _⟩ => by rw [h] at q; cases q
  | .fK _, ⟨q, _⟩ => by rw [h] at q; cases q
  | .fT _, ⟨q, _⟩ => by rw [h] at q; cases q
theorem sh_ftX {S : Shp} {o : PySem.Obj} {vs : List (List Key × V)} (h : S.d = false) : ∀ {m : Mu}, MSh S m (some (.frz o (.dT vs))) → False
  | .lst _, ⟨_, _, _, e⟩ => by cases e
  | .fL _, ⟨_, _, _, e⟩ => by cases e
  | .ins _ _ _, ⟨_, _, _, e, _⟩ => by cases e
  | .dK _, ⟨q, _⟩ => by rw [h] at q; cases q
  | .dT _, ⟨q, _⟩ => by rw [h] at q; cases q
  | .fK _, ⟨q, _⟩ => by rw [h] at q; cases q
  | .fT _, ⟨q, _⟩ => by rw [h] at q; cases q
mutual
theorem Rep.cutL {K : Frag} {H : Hp} {S : Shp} {c : Mem} (hc : ∀ p ∈ c, ∀ o, H p.1 = some o → MSh S p.2 (some o)) : ∀ (d : D) (v : V), d.off S = true → Rep K H v d → Rep K (cutL H c.dom) v d
  | .non, _, _, h => by cases h; exact .non
  | .bl b, _, _, h => by cases h; exact .bl b
  | .int b, _, _, h => by cases h; exact .int b
  | .str b, _, _, h => by cases h; exact .str b
  | .ty b, _, _, h => by cases h; exact .ty b
  | .adr a, _, _, h => by cases h; exact .adr a
  | .lst ds, _, p, h => by
    simp only [D.off] at p
    cases h with
    | @lst a xs _ h1 h2 => exact .lst (by rw [cutL_ne (shNo hc h1 sh_lstX)]; exact h1) (RepA.cutL hc ds _ p h2)
  | .scr ds, _, p, h => by
    simp only [D.off, Bool.and_eq_true, Bool.not_eq_true'] at p
    cases h with
    | @scr a xs _ h1 h2 =>
      refine .scr ?_ (RepA.cutL hc ds _ p.2 h2)
      rcases h1 with (h1 | ⟨o, h1⟩) | h1
      · exact .inl (.inl (by rw [cutL_ne (shNo hc h1 sh_lstX)]; exact h1))
      · exact .inl (.inr ⟨o, by rw [cutL_ne (shNo hc h1 (sh_flX p.1))]; exact h1⟩)
      · exact .inr h1
  | .tup ds, _, p, h => by
    simp only [D.off] at p
    cases h with
    | @tup a xs _ h1 h2 => exact .tup (by rw [cutL_ne (shNo hc h1 sh_tupX)]; exact h1) (RepA.cutL hc ds _ p h2)
  | .ins C ns ds, _, p, h => by
    simp only [D.off, Bool.and_eq_true, Bool.not_eq_true'] at p
    cases h with
    | @ins a _ dx vs _ xs _ h1 h2 h3 h4 =>
      exact .ins (by rw [cutL_ne (shNo hc h1 (sh_insX p.1 h2))]; exact h1) h2 h3 (RepA.cutL hc ds _ p.2 h4)
  | .dK ks ds, _, p, h => by
    simp only [D.off, Bool.and_eq_true, Bool.not_eq_true'] at p
    cases h with
    | @dK a ob vs _ xs _ h1 h2 h3 h4 => exact .dK (by rw [cutL_ne (shNo hc h1 (sh_fkX p.1))]; exact h1) h2 h3 (RepA.cutL hc ds _ p.2 h4)
  | .dT ks ds, _, p, h => by
    simp only [D.off, Bool.and_eq_true, Bool.not_eq_true'] at p
    cases h with
    | @dT a ob vs _ xs _ h1 h2 h3 h4 => exact .dT (by rw [cutL_ne (shNo hc h1 (sh_ftX p.1))]; exact h1) h2 h3 (RepA.cutL hc ds _ p.2 h4)
  | .exn C ns ds, _, p, h => by
    simp only [D.off] at p
    cases h with
    | exn0 h1 => exact .exn0 (by rw [cutL_ne (shNo hc h1 sh_exX)]; exact h1)
    | exn1 h1 h2 h3 h4 h5 => exact .exn1 (by rw [cutL_ne (shNo hc h1 sh_exX)]; exact h1) (by rw [cutL_ne (shNo hc h2 sh_xdX)]; exact h2) h3 h4 (RepA.cutL hc ds _ p h5)
  | .clo G fr ds, _, p, h => by
    simp only [D.off] at p
    cases h with
    | clo h1 h2 h3 h4 =>
      exact .clo (by rw [cutL_ne (shNo hc h1 sh_extX)]; exact h1) (by rw [cutL_ne (shNo hc h2 sh_extX)]; exact h2)
        ⟨h3.1, h3.2.1, h3.2.2.1, h3.2.2.2.1, fun i q v a b => by have z := h3.2.2.2.2 i q v a b; rw [cutL_ne (shNo hc z sh_extX)]; exact z⟩ (RepA.cutL hc ds _ p h4)
theorem RepA.cutL {K : Frag} {H : Hp} {S : Shp} {c : Mem} (hc : ∀ p ∈ c, ∀ o, H p.1 = some o → MSh S p.2 (some o)) : ∀ (ds : List D) (vs : List V), D.offA S ds = true → RepA K H vs ds → RepA K (cutL H c.dom) vs ds
  | [], _, _, h => by cases h; exact .nil
  | d :: ds, _, p, h => by
    simp only [D.offA, Bool.and_eq_true] at p
    cases h with
    | cons a b => exact .cons (Rep.cutL hc d _ p.1 a) (RepA.cutL hc ds _ p.2 b)
end
theorem MuRep.sh {K : Frag} {H0 H : Hp} {a : Addr} {S : Shp} : ∀ {m : Mu}, MuSh S m = true → MuRep K H0 H a m.lock → ∀ o, H a = some o → MSh S m (some o)
  | .lst ds, h, ⟨ob, vs, e, _⟩, o, ho => by
    have e' : H a = some (.frz ob (.lst vs)) := e
    exact ⟨h, ob, vs, by rw [← ho, e']⟩
  | .fL ds, h, ⟨ob, vs, e, _⟩, o, ho => by
    have e' : H a = some (.frz ob (.lst vs)) := e
    exact ⟨h, ob, vs, by rw [← ho, e']⟩
  | .ins C ns ds, h, ⟨dx, vs, xs, e, e2, _⟩, o, ho => by
    have e' : H a = some (.ins C dx vs) := e
    exact ⟨List.contains_iff_mem.mp h, dx, vs, by rw [← ho, e'], e2⟩
  | .dK kvs, h, ⟨ob, vs, xs, e, _⟩, o, ho => by
    have e' : H a = some (.frz ob (.dK vs)) := e
    exact ⟨h, ob, vs, by rw [← ho, e']⟩
  | .dT kvs, h, ⟨ob, vs, xs, e, _⟩, o, ho => by
    have e' : H a = some (.frz ob (.dT vs)) := e
    exact ⟨h, ob, vs, by rw [← ho, e']⟩
  | .fK kvs, h, ⟨ob, vs, xs, e, _⟩, o, ho => by
    have e' : H a = some (.frz ob (.dK vs)) := e
    exact ⟨h, ob, vs, by rw [← ho, e']⟩
  | .fT kvs, h, ⟨ob, vs, xs, e, _⟩, o, ho => by
    have e' : H a = some (.frz ob (.dT vs)) := e
    exact ⟨h, ob, vs, by rw [← ho, e']⟩
/-- back from the state in which c stood for good -/
theorem lend_back {K : Frag} {H0 H H0' : Hp} {c R R' : Mem} {S : Shp} {od : Addr → PySem.Obj} (t : Ht K H0 H (c ++ R)) (hS : ∀ p ∈ c, MuSh S p.2 = true) (t3 : Ht K H0' (lockL H od (locksOf c)) R) (sm : Same H0 H0') (g3 : Go H0 (lockL H od (locksOf c)) (lockM c ++ R) H0' (lockL H od (locksOf c)) R)
    {H2 H02 : Hp} (p2 : Pu H0' (lockL H od (locksOf c)) H02 H2) :
    (∀ a ∈ locksOf c, H2 a = lockL H od (locksOf c) a) ∧ Pu H0 H (cutL H02 c.dom) (unlockL H H2 (locksOf c)) ∧ (∀ p ∈ c, ∀ o, H02 p.1 = some o → MSh S p.2 (some o)) := by
  have t2 := (t.locked od).1
  have sub : ∀ a ∈ locksOf c, a ∈ c.dom := fun a ha => (locks_sub c).subset ha
  have z0 : ∀ a ∈ c.dom, H0 a = none := fun a ha => by
    obtain ⟨p, hp, rfl⟩ := List.mem_map.mp ha
    exact (t.mem p (List.mem_append_left _ hp)).1
  have hlk : ∀ a ∈ locksOf c, H2 a = lockL H od (locksOf c) a := fun a ha => by
    obtain ⟨u, hu, _⟩ := t.lockable.2 a ha
    have e : lockL H od (locksOf c) a = some (.frz (od a) u) := by rw [lockL_in ha, hu]; rfl
    rw [e]; exact p2.k e
  have hn2 : ∀ a ∈ locksOf c, NX (H2 a) := fun a ha => by
    obtain ⟨u, hu, _⟩ := t.lockable.2 a ha
    have e : lockL H od (locksOf c) a = some (.frz (od a) u) := by rw [lockL_in ha, hu]; rfl
    exact NX.of (p2.k e)
  refine ⟨hlk, ⟨fun b u e => ?_, fun b u e n => ?_, fun b u e => ?_, fun a h1 h2 => ?_, fun b e => ?_, fun _ => ((p2.tb t3.tb).unlock hn2).all (fun b n _ => by unfold cutL; split <;> first | rfl | exact n) fun b ps z => cutL_some z⟩, fun p hp o ho => ?_⟩
  · have nb : b ∉ c.dom := fun z => by rw [z0 b z] at e; cases e
    rw [cutL_ne nb]; exact p2.e0 _ _ (sm _ _ e)
  · unfold unlockL
    by_cases hb : b ∈ locksOf c
    · rw [if_pos hb]; exact e
    · rw [if_neg hb]; exact p2.e _ _ (by rw [lockL_ne hb]; exact e) n
  · by_cases hb : b ∈ c.dom
    · rw [cutL_in hb] at e; cases e
    · rw [cutL_ne hb] at e
      unfold unlockL
      rw [if_neg (fun z => hb (sub b z))]
      exact p2.ex _ _ e
  · by_cases ha : a ∈ c.dom
    · exact cutL_in ha
    · rw [cutL_ne ha]
      have h2' : NT (lockL H od (locksOf c) a) := by rw [lockL_ne (fun z => ha (sub a z))]; exact h2
      refine p2.new a ?_ h2'
      by_cases hr : a ∈ R.dom
      · obtain ⟨q, hq, rfl⟩ := List.mem_map.mp hr
        exact (t3.mem q hq).1
      · refine g3.new a h1 h2' fun z => ?_
        have z' : a ∈ Mem.dom (lockM c) ++ Mem.dom R := by
          have e : Mem.dom (lockM c ++ R) = Mem.dom (lockM c) ++ Mem.dom R := by simp [Mem.dom]
          rw [e] at z; exact z
        rw [lockM_dom] at z'
        exact (List.mem_append.mp z').elim ha hr
  · unfold unlockL at e
    split at e
    · exact e
    · exact lock_none (p2.there b e)
  · have e2 := p2.ex _ _ ho
    obtain ⟨_, m2⟩ := t2.mem (p.1, p.2.lock) (List.mem_append_left _ (List.mem_map.mpr ⟨p, hp, rfl⟩))
    obtain ⟨u, hu⟩ := m2.there
    have nu : NTb u := fun ps z => m2.nx.1 ps (by rw [← z]; exact hu)
    have e3 := p2.e _ _ hu nu
    have eu : u = o := by
      have e3' : H2 p.1 = some u := e3
      rw [e2] at e3'; cases e3'; rfl
    exact MuRep.sh (hS p hp) m2 o (by rw [← eu]; exact hu)
/-- slots whose things are laid for good -/
def setAll (ρ : Ro) (sl : List (Nat × D × D)) : Ro := sl.foldl (fun ρ q => ρ.set q.1 (some q.2.2)) ρ
theorem slots_laid {K : Frag} {H0 H0' : Hp} {σ : L2.St} (sm : Same H0 H0') : ∀ (sl : List (Nat × D × D)) (ρ : Ro), Sl K H0' σ ρ → (∀ q ∈ sl, ∃ v, σ[q.1]? = some (some v) ∧ Rep K H0' v q.2.2) → Sl K H0' σ (setAll ρ sl)
  | [], ρ, s, _ => s
  | q :: sl, ρ, s, h => by
    obtain ⟨v, hv, rv⟩ := h q (by simp)
    have s' := s.set rv q.1
    have e : σ.set q.1 (some v) = σ := by
      refine List.ext_getElem? fun i => ?_
      by_cases hi : q.1 = i
      · subst hi; rw [List.getElem?_set_self (List.getElem?_eq_some_iff.mp hv).1, hv]
      · rw [List.getElem?_set_ne hi]
    rw [e] at s'
    exact slots_laid sm sl _ s' fun p hp => h p (List.mem_cons_of_mem _ hp)
/-- the things at these slots, one by one: what they are, what they look like laid for good -/
inductive Lends (S : Shp) : List (Nat × D × D) → List Ow → Prop
  | nil : Lends S [] []
  | cons {β : Type} {E : β → Ow → Prop} {enc : β → D} {j : Nat} {r : β} {d : D} {o : Ow} {sl : List (Nat × D × D)} {os : List Ow} (k : OwK E enc) (h : E r o) (hd : d = o.root) (hS : ∀ p ∈ o.mem, MuSh S p.2 = true) (t : Lends S sl os) : Lends S ((j, d, enc r) :: sl) (o :: os)
theorem Lends.facts {S : Shp} {sl : List (Nat × D × D)} {os : List Ow} (h : Lends S sl os) : Ow.fitA os ∧ Ow.rootA os = sl.map (fun q => q.2.1) ∧ Ow.frzA os = sl.map (fun q => q.2.2) ∧ ∀ p ∈ Ow.memA os, MuSh S p.2 = true := by
  induction h with
  | nil => exact ⟨by simp [Ow.fitA], by simp [Ow.rootA], by simp [Ow.frzA], by simp [Ow.memA]⟩
  | cons k h hd hS t ih =>
    obtain ⟨i1, i2, i3, i4⟩ := ih
    refine ⟨by simp only [Ow.fitA]; exact ⟨k.fit _ _ h, i1⟩, by simp only [Ow.rootA, List.map_cons, i2, hd], by simp only [Ow.frzA, List.map_cons, i3, k.frz _ _ h], fun p hp => ?_⟩
    simp only [Ow.memA] at hp
    exact (List.mem_append.mp hp).elim (hS p) (i4 p)
section
variable {X : Cx} {kx kx' : XD} {ρ ρ' ρ'' : Ro} {M M' R : Mem} {P : Out → Mem → Prop} {e : Expr} {sts : List Stmt} {β : Type} {E : β → Ow → Prop} {enc : β → D} {r : β} {d : D} {m : Mem} {S : Shp} {sl : List (Nat × D × D)} {os : List Ow}
/-- a new thing, that may change: nothing that stood is changed -/
def DN (X : Cx) (kx : XD) (e : Expr) (ρ : Ro) (M : Mem) (k : D → Mem → Prop) : Prop :=
  ∀ (σ : L2.St) (H H0 : Hp), Ht X.K H0 H M → Sl X.K H0 σ ρ → ∀ (W : WX), Takes X W → Hx X W H0 H M kx → ∀ (Q : VK), (∀ v H' H0' d m, Pu H0 H H0' H' → Ht X.K H0' H' (m ++ M) → (∀ a ∈ m.dom, H a = none) → Rep X.K H0' v d → k d m → Q v H') → sE X e σ H Q
theorem DN.de {k kk : D → Mem → Prop} (h : DN X kx e ρ M k) (hk : ∀ d m, k d m → kk d (m ++ M)) : DE X kx e ρ M kk := fun σ H H0 t s W tk hx Q q =>
  h σ H H0 t s W tk hx Q fun v H' H0' d m p t' hn r kd => q v H' H0' d _ ⟨p.e0, fun b o e _ n => p.e b o e n, fun a h1 h2 _ => p.new a h1 h2, (fun a ha => by
    have e : Mem.dom (m ++ M) = Mem.dom m ++ Mem.dom M := by simp [Mem.dom]
    rw [e] at ha
    exact (List.mem_append.mp ha).elim (fun z => .inr (hn a z)) .inl), p.there⟩ t' r (hk d m kd)
theorem DV.dn {k : D → Mem → Prop} (h : DV X kx e ρ M d) (hk : k d []) : DN X kx e ρ M k := fun σ H H0 t s W tk hx Q q =>
  h σ H H0 t s W tk hx Q fun v H' H0' p r => q v H' H0' d [] p (t.pu p) (by simp [Mem.dom]) r hk
theorem DN.imp {k k' : D → Mem → Prop} (h : DN X kx e ρ M k) (i : ∀ d m, k d m → k' d m) : DN X kx e ρ M k' := fun σ H H0 t s W tk hx Q q =>
  h σ H H0 t s W tk hx Q fun v H' H0' d m p t' hn r kd => q v H' H0' d m p t' hn r (i d m kd)
/-- laid for good at once -/
theorem DN.lay (k : OwK E enc) (h : DN X kx e ρ M (OwR E r)) : DV X kx e ρ M (enc r) := fun σ H H0 t s W tk hx Q q =>
  sE_post (h σ H H0 t s W tk hx _ fun v H1 H01 d' m1 p1 t1 hn r1 ho => by
    obtain ⟨o, he, rfl, rfl⟩ := ho
    obtain ⟨nd, lk⟩ := t1.lockable
    refine ⟨_, nd, lk, fun od => ?_⟩
    obtain ⟨t3, g3⟩ := t1.locked od
    obtain ⟨H0', t4, r4, sm, g4⟩ := frz_ok o (k.fit _ _ he) t3 r1
    rw [k.frz _ _ he] at r4
    have nl : ∀ b, H b ≠ none → b ∉ locksOf o.mem := fun b hb z => hb (hn b ((locks_sub _).subset z))
    refine q v _ H0' ⟨p1.e0.trans sm, fun b u eb n => ?_, t4.ex, fun a h1 h2 => ?_, fun b eb => ?_, fun _ => t4.tb⟩ r4
    · rw [lockL_ne (nl b (by rw [eb]; exact fun z => by cases z))]
      exact p1.e _ _ eb n
    · by_cases ha : a ∈ M.dom
      · obtain ⟨mm, hm, rfl⟩ := List.mem_map.mp ha
        exact (t4.mem mm hm).1
      · obtain ⟨u, hu⟩ := h2.ex
        have z1 := p1.new a h1 h2
        have hne : a ∉ locksOf o.mem := nl a (by rw [hu]; exact fun z => by cases z)
        refine g4.new a z1 ?_ fun z => ?_
        · rw [lockL_ne hne]; exact h2.keep fun o e n => p1.e _ _ e n
        · have e : Mem.dom (lockM o.mem ++ M) = Mem.dom (lockM o.mem) ++ Mem.dom M := by simp [Mem.dom]
          rw [e, lockM_dom] at z
          rcases List.mem_append.mp z with z | z
          · have := hn a z; rw [hu] at this; cases this
          · exact ha z
    · exact p1.there b (lock_none eb))
/-- the state in which the things at the slots stand for good -/
theorem lend_in (L : Lends S sl os) {σ : L2.St} {H H0 : Hp} (t : Ht X.K H0 H (Ow.memA os ++ R)) (s : Sl X.K H0 σ ρ) (hj : ∀ q ∈ sl, ρ[q.1]? = some (some q.2.1)) (od : Addr → PySem.Obj) :
    ∃ H0', Ht X.K H0' (lockL H od (locksOf (Ow.memA os))) R ∧ Sl X.K H0' σ (setAll ρ sl) ∧ Same H0 H0' ∧ Go H0 (lockL H od (locksOf (Ow.memA os))) (lockM (Ow.memA os) ++ R) H0' (lockL H od (locksOf (Ow.memA os))) R := by
  obtain ⟨f1, f2, f3, f4⟩ := L.facts
  have t2 := (t.locked od).1
  have vals : ∀ (sl : List (Nat × D × D)), (∀ q ∈ sl, ρ[q.1]? = some (some q.2.1)) → ∃ vs, RepA X.K H0 vs (sl.map fun q => q.2.1) ∧ ∀ (i : Nat) (q : Nat × D × D), sl[i]? = some q → ∃ v, vs[i]? = some v ∧ σ[q.1]? = some (some v) := fun sl => by
    induction sl with
    | nil => intro _; exact ⟨[], .nil, fun i q h => by simp at h⟩
    | cons q sl ih =>
      intro h
      obtain ⟨vs, r, a⟩ := ih fun p hp => h p (List.mem_cons_of_mem _ hp)
      obtain ⟨v, hv, rv⟩ := s.2 q.1 _ (h q (by simp))
      refine ⟨v :: vs, .cons rv r, fun i p hp => ?_⟩
      cases i with
      | zero => simp at hp; subst hp; exact ⟨v, rfl, hv⟩
      | succ i => simpa using a i p (by simpa using hp)
  obtain ⟨vs, rv, av⟩ := vals sl hj
  rw [← f2] at rv
  obtain ⟨H0', t3, r3, sm, g3⟩ := frzA_ok os f1 t2 rv
  refine ⟨H0', t3, slots_laid sm sl ρ (s.mo sm) fun q hq => ?_, sm, g3⟩
  obtain ⟨i, hi⟩ := List.getElem?_of_mem hq
  obtain ⟨v, h1, h2⟩ := av i q hi
  refine ⟨v, h2, ?_⟩
  rw [f3] at r3
  obtain ⟨v', h3, h4⟩ := r3.get (i := i) (d := q.2.2) (by rw [List.getElem?_map, hi]; rfl)
  rw [h1] at h3
  cases h3
  exact h4
theorem DV.lendO (L : Lends S sl os) (p : M.Perm (Ow.memA os ++ R)) (hj : ∀ q ∈ sl, ρ[q.1]? = some (some q.2.1)) (h : DV X kx0 e (setAll ρ sl) R d) (ho : d.off S = true) : DV X kx e ρ M d := fun σ H H0 t s W tk hx Q q => by
  have t1 := t.perm p
  obtain ⟨nd, lk⟩ := t1.lockable
  refine sE_lend nd lk fun od => ?_
  obtain ⟨H0', t3, s3, sm, g3⟩ := lend_in L t1 s hj od
  refine h σ _ H0' t3 s3 W tk Hx.none _ fun v H2 H02 p2 r2 => ?_
  obtain ⟨b1, b2, b3⟩ := lend_back (R' := R) t1 L.facts.2.2.2 t3 sm g3 p2
  exact ⟨b1, q v _ _ b2 (Rep.cutL b3 d v ho r2)⟩
theorem DT.lendO {b : Bool} (L : Lends S sl os) (p : M.Perm (Ow.memA os ++ R)) (hj : ∀ q ∈ sl, ρ[q.1]? = some (some q.2.1)) (h : DT X kx0 e (setAll ρ sl) R b) : DT X kx e ρ M b := fun σ H H0 t s W tk hx Q q => by
  have t1 := t.perm p
  obtain ⟨nd, lk⟩ := t1.lockable
  refine sT_lend nd lk fun od => ?_
  obtain ⟨H0', t3, s3, sm, g3⟩ := lend_in L t1 s hj od
  refine h σ _ H0' t3 s3 W tk Hx.none _ fun H2 H02 p2 => ?_
  obtain ⟨b1, b2, b3⟩ := lend_back (R' := R) t1 L.facts.2.2.2 t3 sm g3 p2
  exact ⟨b1, q _ _ b2⟩
/-- what is owned is nothing of the kind -/
def Mu.offM (S : Shp) : Mu → Bool
  | .lst ds => D.offA S ds
  | .fL ds => D.offA S ds
  | .ins _ _ ds => D.offA S ds
  | .dK kvs => D.offA S (kvs.map Prod.snd)
  | .dT kvs => D.offA S (kvs.map Prod.snd)
  | .fK kvs => D.offA S (kvs.map Prod.snd)
  | .fT kvs => D.offA S (kvs.map Prod.snd)
theorem MuRep.cutL {K : Frag} {H H0 Hs : Hp} {c : Mem} {a : Addr} (hc : ∀ p ∈ c, ∀ o, H0 p.1 = some o → MSh S p.2 (some o)) (k : ∀ o, H a = some o → Hs a = some o) : ∀ {m : Mu}, m.offM S = true → MuRep K H0 H a m → MuRep K (Dl.cutL H0 c.dom) Hs a m
  | .lst ds, f, ⟨vs, h, r⟩ => ⟨vs, k _ h, RepA.cutL hc _ _ f r⟩
  | .fL ds, f, ⟨o, vs, h, r⟩ => ⟨o, vs, k _ h, RepA.cutL hc _ _ f r⟩
  | .ins C ns ds, f, ⟨dx, vs, xs, h, h2, h3, r⟩ => ⟨dx, vs, xs, k _ h, h2, h3, RepA.cutL hc _ _ f r⟩
  | .dK kvs, f, ⟨vs, xs, h, h2, h3, r⟩ => ⟨vs, xs, k _ h, h2, h3, RepA.cutL hc _ _ f r⟩
  | .dT kvs, f, ⟨vs, xs, h, h2, h3, r⟩ => ⟨vs, xs, k _ h, h2, h3, RepA.cutL hc _ _ f r⟩
  | .fK kvs, f, ⟨o, vs, xs, h, h2, h3, r⟩ => ⟨o, vs, xs, k _ h, h2, h3, RepA.cutL hc _ _ f r⟩
  | .fT kvs, f, ⟨o, vs, xs, h, h2, h3, r⟩ => ⟨o, vs, xs, k _ h, h2, h3, RepA.cutL hc _ _ f r⟩
theorem back_new {K : Frag} {H0 H H2 H02 : Hp} {c m : Mem} {L : List Addr} (t : Ht K H0 H M) (b2 : Pu H0 H (Dl.cutL H02 c.dom) (unlockL H H2 L)) (b3 : ∀ p ∈ c, ∀ o, H02 p.1 = some o → MSh S p.2 (some o)) (t' : Ht K H02 H2 (m ++ R)) (hn : ∀ a ∈ m.dom, H a = none) (hl : ∀ a ∈ L, H a ≠ none) (hm : ∀ p ∈ m, p.2.offM S = true) : Ht K (Dl.cutL H02 c.dom) (unlockL H H2 L) (m ++ M) := by
  have tM := t.pu b2
  have e1 : Mem.dom (m ++ M) = Mem.dom m ++ Mem.dom M := by simp [Mem.dom]
  refine ⟨tM.ex, ?_, fun q hq => ?_, tM.tb⟩
  · rw [e1]
    refine List.nodup_append.mpr ⟨t'.left.nd, t.nd, fun a ha b hb z => ?_⟩
    subst z
    obtain ⟨p, hp, rfl⟩ := List.mem_map.mp hb
    obtain ⟨o, ho⟩ := (t.mem p hp).2.there
    rw [hn _ ha] at ho; cases ho
  · rcases List.mem_append.mp hq with hq | hq
    · obtain ⟨m1, m2⟩ := t'.mem q (List.mem_append_left _ hq)
      refine ⟨?_, MuRep.cutL b3 (fun o e => ?_) (hm q hq) m2⟩
      · unfold Dl.cutL
        split
        · rfl
        · exact m1
      · unfold unlockL
        rw [if_neg (fun z => hl _ z (hn _ (List.mem_map.mpr ⟨q, hq, rfl⟩)))]
        exact e
    · exact tM.mem q hq
theorem DN.lendO {k : D → Mem → Prop} (L : Lends S sl os) (p : M.Perm (Ow.memA os ++ R)) (hj : ∀ q ∈ sl, ρ[q.1]? = some (some q.2.1)) (h : DN X kx0 e (setAll ρ sl) R k) (ho : ∀ d m, k d m → d.off S = true ∧ ∀ p ∈ m, p.2.offM S = true) : DN X kx e ρ M k := fun σ H H0 t s W tk hx Q q => by
  have t1 := t.perm p
  obtain ⟨nd, lk⟩ := t1.lockable
  refine sE_lend nd lk fun od => ?_
  obtain ⟨H0', t3, s3, sm, g3⟩ := lend_in L t1 s hj od
  refine h σ _ H0' t3 s3 W tk Hx.none _ fun v H2 H02 d m p2 t4 hn r2 kd => ?_
  obtain ⟨b1, b2, b3⟩ := lend_back (R' := R) t1 L.facts.2.2.2 t3 sm g3 p2
  obtain ⟨o1, o2⟩ := ho d m kd
  have hn' : ∀ a ∈ m.dom, H a = none := fun a ha => by
    have z := hn a ha
    unfold lockL at z
    split at z
    · cases q : H a with
      | none => rfl
      | some u => rw [q] at z; cases z
    · exact z
  exact ⟨b1, q v _ _ d m b2 (back_new t b2 b3 t4 hn' (fun a ha => by obtain ⟨u, hu, _⟩ := lk a ha; rw [hu]; exact fun z => by cases z) o2) hn' (Rep.cutL b3 d v o1 r2) kd⟩
end
end Dl

/-! promises of defs that change what is handed to them, or hand back what is owned -/
namespace Dl
open PySem PySem.Spec PyProof.Rows L2
abbrev spR (K : Frag) (mg : Str → Option Value) {α β : Type} (args : α → List D) (Mi : α → Mem) (pre : α → Prop) (F : α → Ex β) (res : α → β → D → Mem → Prop) : Sp :=
  spM K args Mi (fun q => pre q ∧ F q ≠ .bad) (fun q d M' => ∃ r m N, F q = .ok r ∧ res q r d m ∧ M'.Perm (m ++ N)) (fun q cls fs M' => ∃ n N, F q = .exc n fs ∧ mg n = some cls ∧ M'.Perm (Mi q ++ N))
/-- .. where nothing is said of what was handed in, if it raises -/
abbrev spRw (K : Frag) (mg : Str → Option Value) {α β : Type} (args : α → List D) (Mi : α → Mem) (pre : α → Prop) (F : α → Ex β) (res : α → β → D → Mem → Prop) : Sp :=
  spM K args Mi (fun q => pre q ∧ F q ≠ .bad) (fun q d M' => ∃ r m N, F q = .ok r ∧ res q r d m ∧ M'.Perm (m ++ N)) (fun q cls fs M' => ∃ n, F q = .exc n fs ∧ mg n = some cls)
def kxR (mg : Str → Option Value) {β : Type} (out : Ex β) (Mi : Mem) : XD := fun cls fs _ M' => ∃ n N, out = .exc n fs ∧ mg n = some cls ∧ M'.Perm (Mi ++ N)
def retR {β : Type} (res : β → D → Mem → Prop) (out : Ex β) : Out → Mem → Prop
  | .rt d, M => ∃ r m N, out = .ok r ∧ res r d m ∧ M.Perm (m ++ N)
  | .nx _, M => ∃ r m N, out = .ok r ∧ res r .non m ∧ M.Perm (m ++ N)
  | .bk _, _ => False
  | .ct _, _ => False
section
variable {P : Program} {w : World} {K : Frag} {mg : Str → Option Value} {base : Heap} {α β : Type}
theorem fn_rD {x qual : Str} {st : Stmt} {f : Addr} {fd : FuncData} {N ps : List Str} {dv : List V} {k : Nat} {args : α → List D} {Mi : α → Mem} {pre : α → Prop} {F : α → Ex β} {res : α → β → D → Mem → Prop} (Fu : FunD K x qual (defArgs st) (defBody st) (defScope st) dv [] f fd) (S : FnScope N ps (defScope st)) (hl : ∀ a, (args a).length = ps.length)
    (body : ∀ X : Cx, X.prog = P → X.w = w → X.K = K → X.mg = mg → X.base = base → Bd X N (defScope st) k → Bf X → ∀ a out, pre a → F a = out → out ≠ .bad → DS X (kxR mg out (Mi a)) (defBody st) (startD N (args a)) (Mi a) (retR (res a) out)) :
    FnOk P w K mg base (L2.CX P w) (k + 1) f fd ps (spR K mg args Mi pre F res) :=
  fn_mD Fu S hl fun X e1 e2 e3 e4 e5 B Fz a ha => (body X e1 e2 e3 e4 e5 B Fz a _ ha.1 rfl ha.2).imp fun o m h => by
    cases o <;> exact h
theorem fn_rw {x qual : Str} {st : Stmt} {f : Addr} {fd : FuncData} {N ps : List Str} {k : Nat} {args : α → List D} {Mi : α → Mem} {pre : α → Prop} {F : α → Ex β} {res : α → β → D → Mem → Prop} (Fu : Fun K x qual st f fd) (S : FnScope N ps (defScope st)) (hl : ∀ a, (args a).length = ps.length)
    (body : ∀ X : Cx, X.prog = P → X.w = w → X.K = K → X.mg = mg → X.base = base → Bd X N (defScope st) k → Bf X → ∀ a out, pre a → F a = out → out ≠ .bad → DS X (kxE mg out) (defBody st) (startD N (args a)) (Mi a) (retR (res a) out)) :
    FnOk P w K mg base (L2.CX P w) (k + 1) f fd ps (spRw K mg args Mi pre F res) :=
  fn_m Fu S hl fun X e1 e2 e3 e4 e5 B Fz a ha => (body X e1 e2 e3 e4 e5 B Fz a _ ha.1 rfl ha.2).imp fun o m h => by
    cases o <;> exact h
theorem fn_rwD {x qual : Str} {st : Stmt} {f : Addr} {fd : FuncData} {N ps : List Str} {dv : List V} {k : Nat} {args : α → List D} {Mi : α → Mem} {pre : α → Prop} {F : α → Ex β} {res : α → β → D → Mem → Prop} (Fu : FunD K x qual (defArgs st) (defBody st) (defScope st) dv [] f fd) (S : FnScope N ps (defScope st)) (hl : ∀ a, (args a).length = ps.length)
    (body : ∀ X : Cx, X.prog = P → X.w = w → X.K = K → X.mg = mg → X.base = base → Bd X N (defScope st) k → Bf X → ∀ a out, pre a → F a = out → out ≠ .bad → DS X (kxE mg out) (defBody st) (startD N (args a)) (Mi a) (retR (res a) out)) :
    FnOk P w K mg base (L2.CX P w) (k + 1) f fd ps (spRw K mg args Mi pre F res) :=
  fn_mD Fu S hl fun X e1 e2 e3 e4 e5 B Fz a ha => (body X e1 e2 e3 e4 e5 B Fz a _ ha.1 rfl ha.2).imp fun o m h => by
    cases o <;> exact h
/-- __init__ of a class whose objects own what they are made of -/
abbrev spJ (K : Frag) (mg : Str → Option Value) (C : Addr) (args : α → List D) (F : α → Ex β) (E : β → Ow → Prop) : Sp :=
  spM K (fun q : Addr × α => .adr q.1 :: args q.2) (fun q => [(q.1, .ins C [] [])]) (fun q => F q.2 ≠ .bad) (fun q d M' => (∃ r m N, F q.2 = .ok r ∧ OwR E r (.adr q.1) m ∧ M'.Perm (m ++ N)) ∧ d = .non) (fun q cls fs M' => ∃ n, F q.2 = .exc n fs ∧ mg n = some cls)
def initR (E : β → Ow → Prop) (out : Ex β) (w : Addr) : Out → Mem → Prop
  | .nx _, M => ∃ r m N, out = .ok r ∧ OwR E r (.adr w) m ∧ M.Perm (m ++ N)
  | _, _ => False
theorem fn_j {x qual : Str} {st : Stmt} {f C : Addr} {fd : FuncData} {N ps : List Str} {dv : List V} {k : Nat} {args : α → List D} {F : α → Ex β} {E : β → Ow → Prop} (Fu : FunD K x qual (defArgs st) (defBody st) (defScope st) dv [] f fd) (S : FnScope N ps (defScope st)) (hl : ∀ a, (args a).length + 1 = ps.length)
    (body : ∀ X : Cx, X.prog = P → X.w = w → X.K = K → X.mg = mg → X.base = base → Bd X N (defScope st) k → Bf X → ∀ w a out, F a = out → out ≠ .bad → DS X (kxE mg out) (defBody st) (startD N (.adr w :: args a)) [(w, .ins C [] [])] (initR E out w)) :
    FnOk P w K mg base (L2.CX P w) (k + 1) f fd ps (spJ K mg C args F E) :=
  fn_mD Fu S (fun a => hl a.2) fun X e1 e2 e3 e4 e5 B Fz a ha => (body X e1 e2 e3 e4 e5 B Fz a.1 a.2 _ rfl ha).imp fun o m h => by
    cases o with
    | nx ρ => exact ⟨h, rfl⟩
    | bk ρ => exact h
    | ct ρ => exact h
    | rt d => exact h.elim
end
/-- the kind's things are objects of the class at C with these fields -/
def ClsK {β : Type} (E : β → Ow → Prop) (C : Addr) (ns : List Str) : Prop := ∀ r o, E r o → ∃ a xs, o = .ins a C ns xs
theorem ClsK.obj {β : Type} {E : β → Ow → Prop} {C : Addr} {ns : List Str} (h : ClsK E C ns) {r : β} {d : D} {m : Mem} (o : OwR E r d m) : ∃ fs, Obj m d C ns fs := by
  obtain ⟨o, he, rfl, rfl⟩ := o
  obtain ⟨a, xs, rfl⟩ := h r o he
  refine ⟨Ow.rootA xs, ?_⟩
  simp only [Ow.root, Ow.mem]
  exact .adr List.mem_cons_self
theorem Obj.more {M M' : Mem} {y : D} {C : Addr} {ns : List Str} {fs : List D} (h : Obj M y C ns fs) (s : ∀ p ∈ M, p ∈ M') : Obj M' y C ns fs := by
  cases h with
  | ins => exact .ins _ _ _
  | adr h => exact .adr (s _ h)
theorem lookup_no {m : Str} : ∀ {ns : List Str} {fs : List D}, m ∉ ns → (ns.zip fs).lookup m = none
  | [], _, _ => rfl
  | _ :: _, [], _ => rfl
  | n :: ns, f :: fs, h => by
    have h1 : (m == n) = false := by
      refine Bool.eq_false_iff.mpr fun z => h ?_
      rw [eq_of_beq z]; exact List.mem_cons_self
    rw [List.zip_cons_cons, List.lookup_cons, h1]
    exact lookup_no fun z => h (List.mem_cons_of_mem _ z)
section
variable {X : Cx} {kx kx' : XD} {ρ ρ' ρ'' : Ro} {M M' R : Mem} {P : Out → Mem → Prop} {pos p apos : Pos} {e o : Expr} {es : List Expr} {y z : D} {α β : Type} {k : Nat} {x m : Str} {C : Addr} {dvs ds : List D} {ns : List Str}
  {args : α → List D} {Mi : α → Mem} {pre : α → Prop} {F : α → Ex β} {res : α → β → D → Mem → Prop} {r : β} {kk : D → Mem → Prop} {n : Str} {fs : List (Str × D)}
theorem perm_rest {M' m N F0 : Mem} (h : M'.Perm (m ++ N)) : (m ++ F0).Sublist (m ++ F0) ∧ (M' ++ F0).Perm ((m ++ F0) ++ N) := by
  refine ⟨List.Sublist.refl _, (h.append_right F0).trans ?_⟩
  rw [List.append_assoc, List.append_assoc]
  exact List.Perm.append_left m List.perm_append_comm
/-- what a promise gives at the caller's place -/
theorem spR_use {σ : L2.St} {H H0 : Hp} {vs us : List V} {W : WX} {Q : VK} {ds dvs : List D} (t : Ht X.K H0 H M) (s : Sl X.K H0 σ ρ) (hx : Hx X W H0 H M kx) (rr : RepA X.K H0 vs ds) (ru : RepA X.K H0 us dvs) (q : α) (ha : args q = ds ++ dvs) (pm : M.Perm (Mi q ++ R)) (hp : pre q) (hF : F q = .ok r)
    (h : ∀ v H' H0' d m, Go H0 H M H0' H' (m ++ R) → Ht X.K H0' H' (m ++ R) → (∀ a ∈ m.dom, a ∈ (Mi q).dom ∨ H a = none) → (∀ b o, H b = some o → b ∉ (Mi q).dom → NTb o → H' b = some o) → (∀ a, H0 a = none → NT (H a) → a ∉ (Mi q).dom → H0' a = none) → Rep X.K H0' v d → res q r d m → Q v H') : spR X.K X.mg args Mi pre F res (vs ++ us) H Q (WE W σ) := by
  have t1 := t.perm pm
  refine ⟨q, H0, t1.left, by rw [ha]; exact rr.app ru, ⟨hp, fun z => Ex.ok_ne r (hF.symm.trans z)⟩, fun v H' H0' d M' g t' r2 ⟨r', m, N, e1, e2, e3⟩ => ?_, fun cls dd H' H0' fs M' g t' xr ⟨n, N, e1, _⟩ => by cases hF.symm.trans e1⟩
  cases hF.symm.trans e1
  obtain ⟨g2, t2⟩ := frame_of t1 g t'
  have s2 : (m ++ R).Sublist ((m ++ R) ++ N) := List.sublist_append_left _ _
  exact h v H' H0' d m (((g2.permL pm.symm).permR (perm_rest e3).2).subR s2) ((t2.perm (perm_rest e3).2).sub s2) (fun a ha => g.dom a ((dom_perm e3 a).mpr (by rw [show Mem.dom (m ++ N) = Mem.dom m ++ Mem.dom N by simp [Mem.dom]]; exact List.mem_append_left _ ha))) g.e g.new r2 e2
theorem spRw_use {σ : L2.St} {H H0 : Hp} {vs us : List V} {W : WX} {Q : VK} {ds dvs : List D} (t : Ht X.K H0 H M) (s : Sl X.K H0 σ ρ) (hx : Hx X W H0 H M kx) (rr : RepA X.K H0 vs ds) (ru : RepA X.K H0 us dvs) (q : α) (ha : args q = ds ++ dvs) (pm : M.Perm (Mi q ++ R)) (hp : pre q) (hF : F q = .ok r)
    (h : ∀ v H' H0' d m, Go H0 H M H0' H' (m ++ R) → Ht X.K H0' H' (m ++ R) → (∀ a ∈ m.dom, a ∈ (Mi q).dom ∨ H a = none) → (∀ b o, H b = some o → b ∉ (Mi q).dom → NTb o → H' b = some o) → (∀ a, H0 a = none → NT (H a) → a ∉ (Mi q).dom → H0' a = none) → Rep X.K H0' v d → res q r d m → Q v H') : spRw X.K X.mg args Mi pre F res (vs ++ us) H Q (WE W σ) := by
  have t1 := t.perm pm
  refine ⟨q, H0, t1.left, by rw [ha]; exact rr.app ru, ⟨hp, fun z => Ex.ok_ne r (hF.symm.trans z)⟩, fun v H' H0' d M' g t' r2 ⟨r', m, N, e1, e2, e3⟩ => ?_, fun cls dd H' H0' fs M' g t' xr ⟨n, e1, _⟩ => by cases hF.symm.trans e1⟩
  cases hF.symm.trans e1
  obtain ⟨g2, t2⟩ := frame_of t1 g t'
  have s2 : (m ++ R).Sublist ((m ++ R) ++ N) := List.sublist_append_left _ _
  exact h v H' H0' d m (((g2.permL pm.symm).permR (perm_rest e3).2).subR s2) ((t2.perm (perm_rest e3).2).sub s2) (fun a ha => g.dom a ((dom_perm e3 a).mpr (by rw [show Mem.dom (m ++ N) = Mem.dom m ++ Mem.dom N by simp [Mem.dom]]; exact List.mem_append_left _ ha))) g.e g.new r2 e2
theorem spR_useX {σ : L2.St} {H H0 : Hp} {vs us : List V} {W : WX} {Q : VK} {ds dvs : List D} (t : Ht X.K H0 H M) (s : Sl X.K H0 σ ρ) (hx : Hx X W H0 H M kx) (rr : RepA X.K H0 vs ds) (ru : RepA X.K H0 us dvs) (q : α) (ha : args q = ds ++ dvs) (pm : M.Perm (Mi q ++ R)) (hp : pre q) (hF : F q = .exc n fs)
    (hk : ∀ cls, X.mg n = some cls → kx cls fs ρ M) : spR X.K X.mg args Mi pre F res (vs ++ us) H Q (WE W σ) := by
  have t1 := t.perm pm
  refine ⟨q, H0, t1.left, by rw [ha]; exact rr.app ru, ⟨hp, fun z => by cases hF.symm.trans z⟩, fun v H' H0' d M' g t' r2 ⟨r', m, N, e1, e2, e3⟩ => (by cases hF.symm.trans e1), fun cls dd H' H0' fs M' g t' xr ⟨n, N, e1, e2, e3⟩ => ?_⟩
  cases hF.symm.trans e1
  obtain ⟨g2, t2⟩ := frame_of t1 g t'
  have s2 : (Mi q ++ R).Sublist ((Mi q ++ R) ++ N) := List.sublist_append_left _ _
  exact hx cls dd σ H' H0' _ ρ M ((((g2.permL pm.symm).permR (perm_rest e3).2).subR s2).permR pm.symm) (((t2.perm (perm_rest e3).2).sub s2).perm pm.symm) (s.mo g2.e0) xr (hk cls e2)
/-! ### f(e, ..) -/
theorem dn_of {sp : Sp} {H H0 H1 H01 : Hp} {q : α} {M : Mem} (hM : Mi q = []) (t : Ht X.K H0 H M) (p1 : Pu H0 H H01 H1) {v : V} {H' H0' : Hp} {m : Mem} (t' : Ht X.K H0' H' (m ++ M)) (g : Go H01 H1 M H0' H' (m ++ M)) (hd : ∀ a ∈ m.dom, a ∈ (Mi q).dom ∨ H1 a = none) (he : ∀ b o, H1 b = some o → b ∉ (Mi q).dom → NTb o → H' b = some o) (hn : ∀ a, H01 a = none → NT (H1 a) → a ∉ (Mi q).dom → H0' a = none) :
    Pu H0 H H0' H' ∧ ∀ a ∈ m.dom, H a = none := by
  rw [hM] at hd he hn
  refine ⟨p1.trans ⟨g.e0, fun b o e n => he b o e (by simp [Mem.dom]) n, t'.ex, fun a h1 h2 => hn a h1 h2 (by simp [Mem.dom]), g.there, fun _ => t'.tb⟩, fun a ha => ?_⟩
  rcases hd a ha with z | z
  · simp [Mem.dom] at z
  · exact p1.free z
theorem dn_callRw (G : GF X.prog X.w X.K X.mg X.base k x dvs (spRw X.K X.mg args Mi pre F res)) (hr : Room k X.A) (hg : Gl X x) (ha : DA X kx (e :: es) ρ M ds) (q : α) (hargs : args q = ds ++ dvs) (hM : Mi q = []) (hp : pre q) (hF : F q = .ok r) (hk : ∀ d m, res q r d m → kk d m)
    (hdb : (x == ("__debug__" : Str)) = false := by decide) (he : starEach (e :: es) X.env = (false, eval e X.env) :: starEach es X.env := by rfl) (hpl : (backTo pos (starEach es X.env)).any (·.1) = false := by rfl) : DN X kx (.Call (.Name x p) (e :: es) [] pos) ρ M kk := fun σ H H0 t s W tk hx Q qq =>
  call_e (n := 0) G hr hg t s tk hx ha (fun vs us H1 H01 p1 r1 ru => spRw_use (R := M) (t.pu p1) (s.mo p1.e0) (hx.pu p1) r1 ru q hargs (by rw [hM]; exact List.Perm.refl _) hp hF fun v H' H0' d m g t' g1 g2 g3 r2 rs => by
    obtain ⟨a, b⟩ := dn_of (X := X) (sp := fun _ _ _ _ => True) (v := v) hM t p1 t' g g1 g2 g3
    exact qq v H' H0' d m a t' b r2 (hk d m rs)) hdb he hpl
/-! ### o.m(e, ..) -/
section
variable {pl : Sem Bool} {gs : List D}
theorem de_methR (cl : Cls X.K C) (G : GM X.prog X.w X.K X.mg X.base k C m dvs (spR X.K X.mg args Mi pre F res)) (hr : Room k X.A) (h : DV X kx o ρ M y) (ho : Obj M y C ns gs) (ha : DA X kx (e :: es) ρ M ds) (q : α) (hargs : args q = (y :: ds) ++ dvs) (pm : M.Perm (Mi q ++ R)) (hp : pre q) (hF : F q = .ok r) (hk : ∀ d m, res q r d m → kk d (m ++ R))
    (hl : m ∉ ns) (he : starEach (e :: es) X.env = (false, eval e X.env) :: starEach es X.env) (hpl : (backTo pos (starEach es X.env)).any (·.1) = false)
    (ht : eval (.Call (.Attribute o m apos) (e :: es) [] pos) X.env = (do
      let ov ← eval o X.env
      standAt apos.atName
      let (f, first) ← holding [ov] (getMethod ov m pl)
      callWith pos f first (backTo pos (starEach (e :: es) X.env)) (backToKw pos (keywordEach [] X.env)))) : DE X kx (.Call (.Attribute o m apos) (e :: es) [] pos) ρ M kk := fun σ H H0 t s W tk hx Q qq =>
  meth_e cl G hr t s tk hx h ho (lookup_no hl) ha (fun vs us H1 H01 p1 r1 ru => spR_use (t.pu p1) (s.mo p1.e0) (hx.pu p1) r1 ru q hargs pm hp hF fun v H' H0' d m g t' _ _ _ r2 rs => qq v H' H0' d _ (p1.go.trans g) t' r2 (hk d m rs)) he hpl ht
theorem de_methRX (cl : Cls X.K C) (G : GM X.prog X.w X.K X.mg X.base k C m dvs (spR X.K X.mg args Mi pre F res)) (hr : Room k X.A) (h : DV X kx o ρ M y) (ho : Obj M y C ns gs) (ha : DA X kx (e :: es) ρ M ds) (q : α) (hargs : args q = (y :: ds) ++ dvs) (pm : M.Perm (Mi q ++ R)) (hp : pre q) (hF : F q = .exc n fs) (hk : ∀ cls, X.mg n = some cls → kx cls fs ρ M)
    (hl : m ∉ ns) (he : starEach (e :: es) X.env = (false, eval e X.env) :: starEach es X.env) (hpl : (backTo pos (starEach es X.env)).any (·.1) = false)
    (ht : eval (.Call (.Attribute o m apos) (e :: es) [] pos) X.env = (do
      let ov ← eval o X.env
      standAt apos.atName
      let (f, first) ← holding [ov] (getMethod ov m pl)
      callWith pos f first (backTo pos (starEach (e :: es) X.env)) (backToKw pos (keywordEach [] X.env)))) : DE X kx (.Call (.Attribute o m apos) (e :: es) [] pos) ρ M fun _ _ => False := fun σ H H0 t s W tk hx Q qq =>
  meth_e cl G hr t s tk hx h ho (lookup_no hl) ha (fun vs us H1 H01 p1 r1 ru => spR_useX (t.pu p1) (s.mo p1.e0) (hx.pu p1) r1 ru q hargs pm hp hF hk) he hpl ht
/-- o.m(), that makes something new -/
theorem dn_methR0 (cl : Cls X.K C) (G : GM X.prog X.w X.K X.mg X.base k C m dvs (spRw X.K X.mg args Mi pre F res)) (hr : Room k X.A) (h : DV X kx o ρ M y) (ho : Obj M y C ns gs) (q : α) (hargs : args q = [y] ++ dvs) (hM : Mi q = []) (hp : pre q) (hF : F q = .ok r) (hk : ∀ d m, res q r d m → kk d m)
    (hl : m ∉ ns)
    (ht : eval (.Call (.Attribute o m apos) [] [] pos) X.env = (do
      let ov ← eval o X.env
      standAt apos.atName
      let (f, first) ← holding [ov] (getMethod ov m pl)
      callWith pos f first (backTo pos (starEach [] X.env)) (backToKw pos (keywordEach [] X.env)))) : DN X kx (.Call (.Attribute o m apos) [] [] pos) ρ M kk := fun σ H H0 t s W tk hx Q qq =>
  meth_e0 cl G hr t s tk hx h ho (lookup_no hl) (fun vs us H1 H01 p1 r1 ru => spRw_use (R := M) (t.pu p1) (s.mo p1.e0) (hx.pu p1) r1 ru q hargs (by rw [hM]; exact List.Perm.refl _) hp hF fun v H' H0' d m g t' g1 g2 g3 r2 rs => by
    obtain ⟨a, b⟩ := dn_of (X := X) (sp := fun _ _ _ _ => True) (v := v) hM t p1 t' g g1 g2 g3
    exact qq v H' H0' d m a t' b r2 (hk d m rs)) ht
end
/-! ### C(e, ..) -/
theorem dn_makeJ {cx : Str} {E : β → Ow → Prop} (G : GC X.prog X.w X.K X.mg X.base k C dvs (spJ X.K X.mg C args F E)) (hr : Room (k + 1) X.A) (hg : Gl X cx) (hm : X.mg cx = some (.ref C)) (ha : DA X kx (e :: es) ρ M ds) (q : α) (hargs : args q = ds ++ dvs) (hF : F q = .ok r)
    (hdb : (cx == ("__debug__" : Str)) = false := by decide) (he : starEach (e :: es) X.env = (false, eval e X.env) :: starEach es X.env := by rfl) (hpl : (backTo pos (starEach es X.env)).any (·.1) = false := by rfl) : DN X kx (.Call (.Name cx p) (e :: es) [] pos) ρ M (OwR E r) := fun σ H H0 t s W tk hx Q qq =>
  make_e G hr hg hm t s tk hx ha (fun vs us H1 H01 w dx p1 rr ru h1 h2 h3 => by
    obtain ⟨g2, t2⟩ := ht_make (C := C) (Ht.emp p1.ex (t.pu p1).tb) h1 h2 h3
    refine ⟨(w, q), H01, t2, .cons (.adr w) (by rw [hargs]; exact rr.app ru), fun h => Ex.ok_ne r (hF.symm.trans h), fun v H' H0' d M' g t' r' ⟨⟨r'', m, N, e1, e2, e3⟩, e4⟩ => ?_, fun cls dd H' H0' fs' M' g t' xr ⟨n, e1, _⟩ => by cases hF.symm.trans e1⟩
    cases hF.symm.trans e1
    subst e4
    cases r'
    have gg : Go H01 H1 [] H0' H' M' := g2.trans g
    obtain ⟨gf, tf⟩ := frame_of (Ma := []) (F := M) (t.pu p1) gg t'
    have pz := p1.trans (gg.pu t')
    have tm : Ht X.K H0' H' (m ++ M) := (tf.perm (perm_rest e3).2).sub (List.sublist_append_left _ _)
    refine ⟨rfl, qq (.ref w) H' H0' (.adr w) m pz tm (fun a ha => ?_) (.adr w) e2⟩
    have hd : a ∈ M'.dom := (dom_perm e3 a).mpr (by rw [show Mem.dom (m ++ N) = Mem.dom m ++ Mem.dom N by simp [Mem.dom]]; exact List.mem_append_left _ ha)
    rcases gg.dom a hd with z | z
    · simp [Mem.dom] at z
    · exact p1.free z) hdb he hpl
end
end Dl

/-! loops and ways that meet, with owned things carried along: ι tells where they stand, J that they do -/
namespace Dl
open PySem PySem.Spec PyProof.Rows L2
section
variable {X : Cx} {kx kx' : XD} {ρ ρ' ρ'' : Ro} {M M' : Mem} {P : Out → Mem → Prop} {pos p np pos' tpos spos : Pos} {tg a b c e : Expr} {es : List Expr} {k : Bool} {ι β γ : Type}
def foldO (R : ι → β → Ro) (Mf : ι → β → Mem) (J : ι → β → Prop) (o : Ex β) : Out → Mem → Prop
  | .nx ρ, M => ∃ i z, o = .ok z ∧ J i z ∧ FgtL ρ (R i z) ∧ M = Mf i z
  | .ct ρ, M => ∃ i z, o = .ok z ∧ J i z ∧ FgtL ρ (R i z) ∧ M = Mf i z
  | .bk _, _ => False
  | .rt _, _ => False
theorem ds1_foldO {α : Type} {xs : List α} {enc : α → D} {N : List Str} {sc : Scope} {k : Nat} {body : List Stmt} {f : β → α → Ex β} {st0 : β} {out : Ex β} (i0 : ι) (B : Bd X N sc k) (R : ι → β → Ro) (Mf : ι → β → Mem) (J : ι → β → Prop) (hF : foldE f st0 xs = out) (hne : out ≠ .bad)
    (hi : DI X kx tg e ρ M (xs.map enc)) (hJ : J i0 st0) (h0 : FgtL ρ (R i0 st0)) (hM : M = Mf i0 st0)
    (hs : ∀ i st x o, J i st → x ∈ xs → f st x = o → o ≠ .bad → ∃ ts ρ2, DG X tg ts (enc x) (R i st) ρ2 ∧ DS X (kxE X.mg o) body ρ2 (Mf i st) (foldO R Mf J o))
    (hd : ∀ i st', J i st' → out = .ok st' → P (.nx (R i st')) (Mf i st')) (hx : ∀ cls fs ρ' M', kxE X.mg out cls fs ρ' M' → kx cls fs ρ' M')
    (hP : ∀ ρ1 ρ2 M1, Fgt ρ1 ρ2 → P (.nx ρ2) M1 → P (.nx ρ1) M1) (hf : ∀ x, foldedSetIterable e X.env x = pure x := by intro _; rfl) : DS1 X kx (.For tg e body [] pos) ρ M P :=
  ds1_forT B (fun n ρ1 M1 => ∃ i st, J i st ∧ FgtL ρ1 (R i st) ∧ M1 = Mf i st ∧ foldE f st (xs.drop n) = out) hi ⟨i0, st0, hJ, h0, hM, hF⟩
    (fun n x ρ1 M1 hxi ⟨i, st, j, fg, m, hE⟩ => by
      subst m
      rw [drop_get hxi, foldE_cons] at hE
      have nb : f st x ≠ .bad := fun z => hne (by rw [← hE, z]; rfl)
      obtain ⟨ts, ρ2, g, b⟩ := hs i st x _ j (List.mem_of_getElem? hxi) rfl nb
      refine ⟨ts, ρ2, fun σ H H0 v hs s r Q q => g σ H H0 v hs (s.fgt fg.fgt) r Q q, (b.onX fun cls fs ρ' M' ⟨n, e1, e2⟩ => hx _ _ ρ' M' ⟨n, by rw [← hE, e1]; rfl, e2⟩).imp fun o m q => ?_⟩
      · cases o with
        | nx ρ =>
          obtain ⟨i, z, e1, j, e2, e3⟩ := q
          exact ⟨i, z, j, e2, e3, by rw [e1] at hE; exact hE⟩
        | ct ρ =>
          obtain ⟨i, z, e1, j, e2, e3⟩ := q
          exact ⟨i, z, j, e2, e3, by rw [e1] at hE; exact hE⟩
        | bk ρ => exact q.elim
        | rt d => exact q.elim)
    (fun ρ1 M1 ⟨i, st, j, fg, m, hE⟩ => by
      rw [List.drop_length] at hE
      subst m
      exact hP _ _ _ fg.fgt (hd i st j hE.symm)) hf
theorem foldO_nx {R : ι → β → Ro} {Mf : ι → β → Mem} {J : ι → β → Prop} {o : Ex β} (i : ι) (z : β) (h : .ok z = o) (j : J i z) (f : FgtL ρ (R i z)) (m : M = Mf i z) : foldO R Mf J o (.nx ρ) M := ⟨i, z, h.symm, j, f, m⟩
/-- a loop that may be left: what it hands back is told by Rt -/
def loopO (R : ι → β → Ro) (Mf : ι → β → Mem) (J : ι → β → Prop) (Rt : γ → D → Mem → Prop) (o : Ex (Ct β γ)) : Out → Mem → Prop
  | .nx ρ, M => ∃ i z, o = .ok (.nx z) ∧ J i z ∧ FgtL ρ (R i z) ∧ M = Mf i z
  | .ct ρ, M => ∃ i z, o = .ok (.nx z) ∧ J i z ∧ FgtL ρ (R i z) ∧ M = Mf i z
  | .bk ρ, M => ∃ i z, o = .ok (.bk z) ∧ J i z ∧ FgtL ρ (R i z) ∧ M = Mf i z
  | .rt d, M => ∃ r m N, o = .ok (.rt r) ∧ Rt r d m ∧ M.Perm (m ++ N)
/-! ways that meet again -/
def joinO (R : ι → β → Ro) (Mf : ι → β → Mem) (J : ι → β → Prop) (kf : β → Ex γ) (out : Ex γ) (P : Out → Mem → Prop) : Out → Mem → Prop
  | .nx ρ, M => ∃ a z, kf z = out ∧ J a z ∧ FgtL ρ (R a z) ∧ M = Mf a z
  | o, M => P o M
theorem joinO_imp {R : ι → β → Ro} {Mf : ι → β → Mem} {J : ι → β → Prop} {kf : β → Ex γ} {out : Ex γ} (hk : ∀ a z, J a z → kf z = out → P (.nx (R a z)) (Mf a z)) (hP : ∀ ρ1 ρ2 M1, Fgt ρ1 ρ2 → P (.nx ρ2) M1 → P (.nx ρ1) M1) (o : Out) (m : Mem) (q : joinO R Mf J kf out P o m) : P o m := by
  cases o with
  | nx ρ1 =>
    obtain ⟨a, z, e1, j, e2, e3⟩ := q
    subst e3
    exact hP _ _ _ e2.fgt (hk a z j e1)
  | bk ρ1 => exact q
  | ct ρ1 => exact q
  | rt d => exact q
theorem ds1_ifO {A B : List Stmt} {kf : β → Ex γ} {out : Ex γ} (R : ι → β → Ro) (Mf : ι → β → Mem) (J : ι → β → Prop) (hc : DT X kx c ρ M k) (h1 : k = true → DS X kx A ρ M (joinO R Mf J kf out P)) (h2 : k = false → DS X kx B ρ M (joinO R Mf J kf out P))
    (hk : ∀ a z, J a z → kf z = out → P (.nx (R a z)) (Mf a z)) (hP : ∀ ρ1 ρ2 M1, Fgt ρ1 ρ2 → P (.nx ρ2) M1 → P (.nx ρ1) M1) : DS1 X kx (.If c A B pos) ρ M P :=
  ds1_if hc (fun e => (h1 e).imp (joinO_imp hk hP)) (fun e => (h2 e).imp (joinO_imp hk hP))
theorem joinO_nx {R : ι → β → Ro} {Mf : ι → β → Mem} {J : ι → β → Prop} {kf : β → Ex γ} {out : Ex γ} (a : ι) (z : β) (h : kf z = out) (j : J a z) (f : FgtL ρ (R a z)) (m : M = Mf a z) : joinO R Mf J kf out P (.nx ρ) M := ⟨a, z, h, j, f, m⟩
/-! while -/
end
end Dl

/-! sorted of tuples of ints, any number of them, of any ints; of ints -/
namespace Dl
open PySem PySem.Spec PyProof.Rows L2
def lexLt : List Int → List Int → Bool
  | [], [] => false
  | [], _ :: _ => true
  | _ :: _, [] => false
  | x :: xs, y :: ys => if x = y then lexLt xs ys else decide (x < y)
/-- the list, sorted -/
def sortL {α : Type} (g : α → List Int) (xs : List α) : List α := xs.mergeSort fun a b => !lexLt (g b) (g a)
/-! ### the rule -/
section
open PySem PyProof.Rows Srt SrtO
variable {prog : Program} {w : World} {A : Around} {E : Value → Shared → Prop} {s : Shared}
/-- each is a tuple of d ints, k says which -/
def TupsK (h : Heap) (d : Nat) (k : Value → List Int) (vs : List Value) : Prop := ∀ v, v ∈ vs → TS.TupInts h v (k v) ∧ (k v).length = d
end
def rSortedL (K : PySem.W.Frag) : List V → Hp → VK → Prop := fun vs H Q => ∃ (a : Addr) (xs : List V) (k : V → List Int) (d : Nat), vs = [V.ref a] ∧ SqL K H a xs ∧ 1 ≤ d ∧ (∀ x ∈ xs, ∃ t, x = V.ref t ∧ SqT K H t ((k x).map V.int) ∧ (k x).length = d) ∧
  ∀ ys p, ys.Pairwise (fun x y => lexLt (k y) (k x) = false) → ys.Perm xs → H p = none → Q (.ref p) (upd H p (.lst ys))
/-! ### typed -/
/-- the ints of a tuple -/
noncomputable def intsV (H : Hp) : V → List Int
  | .ref a => match H a with
    | some (.tup xs) => xs.map fun v => match v with | .int i => i | _ => 0
    | _ => []
  | _ => []
section
variable {X : Cx} {kx : XD} {ρ : Ro} {M : Mem} {pos p : Pos} {e : Expr} {x : D} {α : Type}
/-- sorted(xs), ints -/
def sortI (xs : List Int) : List Int := xs.mergeSort fun a b => decide (a ≤ b)
end
end Dl

/-! sorted(xs), sorted(xs, reverse=True): ints, tuples of ints -/
namespace Dl
open PySem PySem.Spec PyProof.Rows L2
def sortIR (xs : List Int) : List Int := (sortI xs).reverse
section
variable {X : Cx} {kx : XD} {ρ : Ro} {M : Mem} {pos p kpos : Pos} {e : Expr} {x : D} {α : Type} {f : Str}
end
/-! tuples, reversed -/
def rSortedLR (K : PySem.W.Frag) : List V → List V → Hp → VK → Prop := fun vs zs H Q => ∃ (a : Addr) (xs : List V) (k : V → List Int) (d : Nat), vs = [V.ref a] ∧ zs = [.bl true] ∧ SqL K H a xs ∧ 1 ≤ d ∧ (∀ x ∈ xs, ∃ t, x = V.ref t ∧ SqT K H t ((k x).map V.int) ∧ (k x).length = d) ∧
  ∀ ys p, ys.Pairwise (fun x y => lexLt (k x) (k y) = false) → ys.Perm xs → H p = none → Q (.ref p) (upd H p (.lst ys))
/-- the list, sorted the other way about -/
def sortLR {α : Type} (g : α → List Int) (xs : List α) : List α := (sortL g xs).reverse
section
variable {X : Cx} {kx : XD} {ρ : Ro} {M : Mem} {pos p kpos : Pos} {e : Expr} {x : D} {α : Type} {f : Str}
end
end Dl

/-! owned things at work: what the printed walks stand on -/
namespace Dl
open PySem PySem.Spec PyProof.Rows L2
/-! ### a part of Mem taken to the front -/
theorem pl_c {T T' m : Mem} {e : Addr × Mu} (h : T.Perm (m ++ T')) : (e :: T).Perm (m ++ (e :: T')) := (h.cons e).trans List.perm_middle.symm
theorem pl_a {T T' m c : Mem} (h : T.Perm (m ++ T')) : (c ++ T).Perm (m ++ (c ++ T')) := by
  refine (List.Perm.append_left c h).trans ?_
  rw [← List.append_assoc, ← List.append_assoc]
  exact List.Perm.append_right T' List.perm_append_comm
theorem pl_2 {T T1 T2 m1 m2 : Mem} (h : T.Perm (m1 ++ T1)) (h2 : T1.Perm (m2 ++ T2)) : T.Perm ((m1 ++ m2) ++ T2) := by
  rw [List.append_assoc]
  exact h.trans (List.Perm.append_left m1 h2)
/-! ### lent -/
def ShK {β : Type} (S : Shp) (E : β → Ow → Prop) : Prop := ∀ r o, E r o → ∀ p ∈ o.mem, MuSh S p.2 = true
section
variable {X : Cx} {kx kx' : XD} {ρ ρ' ρ'' : Ro} {M M' R : Mem} {P : Out → Mem → Prop} {e : Expr} {sts : List Stmt} {β : Type} {E : β → Ow → Prop} {enc : β → D} {r : β} {d d' : D} {m : Mem} {S : Shp}
theorem lends1 (hS : ShK S E) (k : OwK E enc) (h : OwR E r d m) (j : Nat) : ∃ o, Lends S [(j, d, enc r)] [o] ∧ m = o.mem := by
  obtain ⟨o, he, rfl, rfl⟩ := h
  exact ⟨o, .cons k he rfl (hS r o he) .nil, rfl⟩
theorem memA1 (o : Ow) : Ow.memA [o] = o.mem := by simp [Ow.memA]
theorem DV.lend1 (hS : ShK S E) (k : OwK E enc) (h : OwR E r d m) (j : Nat) (p : M.Perm (m ++ R)) (hj : ρ[j]? = some (some d)) (hd : DV X kx0 e (ρ.set j (some (enc r))) R d') (ho : d'.off S = true) : DV X kx e ρ M d' := by
  obtain ⟨o, L, rfl⟩ := lends1 hS k h j
  exact DV.lendO L (by rw [memA1]; exact p) (fun q hq => by simp at hq; subst hq; exact hj) hd ho
theorem DT.lend1 {b : Bool} (hS : ShK S E) (k : OwK E enc) (h : OwR E r d m) (j : Nat) (p : M.Perm (m ++ R)) (hj : ρ[j]? = some (some d)) (hd : DT X kx0 e (ρ.set j (some (enc r))) R b) : DT X kx e ρ M b := by
  obtain ⟨o, L, rfl⟩ := lends1 hS k h j
  exact DT.lendO L (by rw [memA1]; exact p) (fun q hq => by simp at hq; subst hq; exact hj) hd
theorem DN.lend1 {kk : D → Mem → Prop} (hS : ShK S E) (k : OwK E enc) (h : OwR E r d m) (j : Nat) (p : M.Perm (m ++ R)) (hj : ρ[j]? = some (some d)) (hd : DN X kx0 e (ρ.set j (some (enc r))) R kk) (ho : ∀ d m, kk d m → d.off S = true ∧ ∀ p ∈ m, p.2.offM S = true) : DN X kx e ρ M kk := by
  obtain ⟨o, L, rfl⟩ := lends1 hS k h j
  exact DN.lendO L (by rw [memA1]; exact p) (fun q hq => by simp at hq; subst hq; exact hj) hd ho
/-- what a kind's things own is nothing of the kind -/
def OffK (S : Shp) (E : β → Ow → Prop) : Prop := ∀ r d m, OwR E r d m → d.off S = true ∧ ∀ p ∈ m, p.2.offM S = true
end
/-! ### nothing of the kind -/
theorem off_nil {S : Shp} : D.offA S [] = true := by simp [D.offA]
theorem off_cons {S : Shp} {d : D} {ds : List D} (h : d.off S = true) (t : D.offA S ds = true) : D.offA S (d :: ds) = true := by simp [D.offA, h, t]
theorem off_tup {S : Shp} {ds : List D} (h : D.offA S ds = true) : (D.tup ds).off S = true := by simp [D.off, h]
theorem off_opt {S : Shp} {α : Type} {f : α → D} (h : ∀ x, (f x).off S = true) (o : Option α) : (dOpt f o).off S = true := by
  cases o with
  | none => simp [dOpt, D.off]
  | some x => exact h x
theorem off_ins {S : Shp} {C : Addr} {ns : List Str} {ds : List D} (hn : S.ns.contains ns = false) (h : D.offA S ds = true) : (D.ins C ns ds).off S = true := by simp only [D.off, hn, h, Bool.not_false, Bool.true_and]
theorem offM_dT {S : Shp} {α : Type} {ek : α → List Key} {f : α → D} (h : ∀ x, (f x).off S = true) (xs : List α) : (Mu.dT (xs.map fun q => (ek q, f q))).offM S = true := by
  show D.offA S ((xs.map fun q => (ek q, f q)).map Prod.snd) = true
  rw [List.map_map]
  exact offA_map (f := fun x => f x) h xs
theorem zip_fr {κ κ' β : Type} (ek : κ → κ') (f : β → D) (xs : List (κ × β)) : (xs.map fun q => ek q.1).zip (Ow.rootA (xs.map fun q => .fr (f q.2))) = xs.map fun q => (ek q.1, f q.2) := by
  rw [rootA_fr (fun q : κ × β => f q.2), List.zip_map']
/-! ### a dict or a list on its own, owned -/
section
variable {κ β : Type}
theorem own_dK {ek : κ → Key} {f : β → D} {xs : List (κ × β)} {d : D} {m : Mem} : OwR (isDKF ek f) xs d m ↔ ∃ w, d = .adr w ∧ m = [(w, Mu.dK (xs.map fun q => (ek q.1, f q.2)))] := by
  constructor
  · rintro ⟨o, ⟨a, rfl⟩, rfl, rfl⟩
    exact ⟨a, by simp only [Ow.root], by simp only [Ow.mem, zip_fr, memA_fr (fun q : κ × β => f q.2)]⟩
  · rintro ⟨w, rfl, rfl⟩
    exact ⟨_, ⟨w, rfl⟩, by simp only [Ow.root], by simp only [Ow.mem, zip_fr, memA_fr (fun q : κ × β => f q.2)]⟩
end
/-! ### what is handed back, or raised -/
section
variable {mg : Str → Option Value} {α β γ : Type} {res : β → D → Mem → Prop} {out : Ex β} {d : D} {m N M Mi : Mem} {ρ : Ro}
theorem retR_mk {r : β} (h : .ok r = out) (q : res r d m) (p : M.Perm (m ++ N)) : retR res out (.rt d) M := ⟨r, m, N, h.symm, q, p⟩
theorem retR_nx {r : β} (h : .ok r = out) (q : res r .non m) (p : M.Perm (m ++ N)) : retR res out (.nx ρ) M := ⟨r, m, N, h.symm, q, p⟩
theorem kxR_exc {n : Str} {fs : List (Str × D)} {cls : Value} (h : .exc n fs = out) (e : mg n = some cls) (p : M.Perm (Mi ++ N)) : kxR mg out Mi cls fs ρ M := ⟨n, N, h.symm, e, p⟩
theorem initR_nx {E : β → Ow → Prop} {w : Addr} {r : β} (h : .ok r = out) (q : OwR E r (.adr w) M) : initR E out w (.nx ρ) M := ⟨r, M, [], h.symm, q, by rw [List.append_nil]⟩
end
section
variable {X : Cx} {kx kx' : XD} {ρ ρ' ρ'' : Ro} {M M' R : Mem} {P : Out → Mem → Prop} {pos p pos' apos cpos tpos : Pos} {e o ix a b : Expr} {es : List Expr} {x y z d : D} {w C : Addr} {α β κ : Type} {k : Nat} {N : List Str} {sc : Scope} {E : β → Ow → Prop} {enc : β → D} {r : β}
/-- x = what is made new -/
theorem ds1_setN {i : Nat} {v : Str} {k : D → Mem → Prop} (n : Ns X i v) (h : DN X kx e ρ M k) (hp : ∀ d m, k d m → P (.nx (ρ.set i (some d))) (m ++ M)) (hs : swapsWithSole [.Name v pos'] e pos.line X.env = pure false := by rfl) (hw : swappedStores [.Name v pos'] e X.env = pure none := by rfl) :
    DS1 X kx (.Assign [.Name v pos'] e pos) ρ M P := ds1_setE n (h.de (kk := fun d m' => ∃ m, m' = m ++ M ∧ k d m) fun d m kd => ⟨m, rfl, kd⟩) (fun d m' ⟨m, e, kd⟩ => by subst e; exact hp d m kd) hs hw
theorem ds1_retD {k : D → Mem → Prop} (h : DN X kx e ρ M k) (hp : ∀ d m, k d m → P (.rt d) (m ++ M)) : DS1 X kx (.Return (some e) pos) ρ M P := ds1_ret (h.de (kk := fun d m' => ∃ m, m' = m ++ M ∧ k d m) fun d m kd => ⟨m, rfl, kd⟩) (fun d m' ⟨m, e, kd⟩ => by subst e; exact hp d m kd)
theorem DE.to {kk k2 : D → Mem → Prop} (h : DE X kx e ρ M kk) (hk : ∀ d m, kk d m → k2 d m) : DE X kx e ρ M k2 := fun σ H H0 t s W tk hx Q q =>
  h σ H H0 t s W tk hx Q fun v H' H0' d m g t' r kd => q v H' H0' d m g t' r (hk d m kd)
/-! dicts with typed keys -/
variable {xs : List (κ × β)} {ek : κ → List Key} {eK : κ → Key} {f : β → D} {kk : κ}
theorem getA_mapT [DecidableEq κ] (inj : ∀ a b, ek a = ek b → a = b) (xs : List (κ × β)) (kk : κ) : getA (xs.map fun q => (ek q.1, f q.2)) (ek kk) = (getA xs kk).map f := getA_map inj kk xs
theorem dk_tF [DecidableEq κ] (inj : ∀ a b, ek a = ek b → a = b) (xs : List (κ × β)) (hy : y = .tup ((ek kk).map kD)) : DKey M (.dT (xs.map fun q => ek q.1) (xs.map fun q => f q.2)) y ((getA xs kk).map f) := by
  rw [← getA_mapT inj]
  have e1 : (xs.map fun q => ek q.1) = (xs.map fun q => (ek q.1, f q.2)).map Prod.fst := by rw [List.map_map]; rfl
  have e2 : (xs.map fun q => f q.2) = (xs.map fun q => (ek q.1, f q.2)).map Prod.snd := by rw [List.map_map]; rfl
  rw [e1, e2]; exact .t (.frz _) hy
theorem dk_kA [DecidableEq κ] (inj : ∀ a b, eK a = eK b → a = b) (hm : (w, Mu.dK (xs.map fun q => (eK q.1, f q.2))) ∈ M) (hy : y = kD (eK kk)) : DKey M (.adr w) y ((getA xs kk).map f) := by
  rw [← getA_map inj (g := f) kk xs]; exact .k (.adr hm) hy
theorem dk_kF [DecidableEq κ] (inj : ∀ a b, eK a = eK b → a = b) (xs : List (κ × β)) (hy : y = kD (eK kk)) : DKey M (.dK (xs.map fun q => eK q.1) (xs.map fun q => f q.2)) y ((getA xs kk).map f) := by
  rw [← getA_map inj (g := f) kk xs]
  have e1 : (xs.map fun q => eK q.1) = (xs.map fun q => (eK q.1, f q.2)).map Prod.fst := by rw [List.map_map]; rfl
  have e2 : (xs.map fun q => f q.2) = (xs.map fun q => (eK q.1, f q.2)).map Prod.snd := by rw [List.map_map]; rfl
  rw [e1, e2]; exact .k (.frz _) hy
theorem dv_dgetO {q : Option β} (B : Bd X N sc k) (ho : DV X kx o ρ M x) (he : DV X kx e ρ M y) (hd : DKey M x y (q.map f)) (m : M1 X o "get" apos e cpos := by exact m1) : DV X kx (.Call (.Attribute o "get" apos) [e] [] cpos) ρ M (dOpt f q) := by
  have h := dv_dget1 B ho he hd m
  cases q <;> exact h
theorem dv_dixE {q : Option β} {v : β} (B : Bd X N sc k) (hq : someE q = .ok v) (ho : DV X kx o ρ M x) (he : DV X kx e ρ M y) (hd : DKey M x y (q.map f)) (hs : NoSl e := by first | exact ⟨rfl, rfl⟩ | exact fun _ _ => rfl) : DV X kx (.Subscript o e pos) ρ M (f v) := by
  cases q with
  | none => cases hq
  | some u => cases hq; exact dv_dix B ho he hd hs
theorem ds1_dputTM [DecidableEq κ] {v : β} (i : Nat) (B : Bd X N sc k) (inj : ∀ a b, ek a = ek b → a = b) (xs : List (κ × β)) (hv : DV X kx e ρ M (f v)) (ho : DV X kx o ρ M (.adr w)) (hi : DV X kx ix ρ M (.tup ((ek kk).map kD))) (hm : M[i]? = some (w, .dT (xs.map fun q => (ek q.1, f q.2)))) (hl : xs.length ≤ 100000) (hk : P (.nx ρ) (M.set i (w, .dT ((putA xs kk v).map fun q => (ek q.1, f q.2)))))
    (hs : swapsWith e (some (.Subscript o ix apos)) pos.line X.env = pure false := by rfl) : DS1 X kx (.Assign [.Subscript o ix apos] e pos) ρ M P :=
  ds1_dputT B hv ho hi hm (by rw [List.length_map]; exact hl) (by rw [putA_map inj]; exact hk) hs
theorem ds1_dputKM [DecidableEq κ] {v : β} (i : Nat) (B : Bd X N sc k) (inj : ∀ a b, eK a = eK b → a = b) (xs : List (κ × β)) (hv : DV X kx e ρ M (f v)) (ho : DV X kx o ρ M (.adr w)) (hi : DV X kx ix ρ M (kD (eK kk))) (hm : M[i]? = some (w, .dK (xs.map fun q => (eK q.1, f q.2)))) (hl : xs.length ≤ 100000) (hk : P (.nx ρ) (M.set i (w, .dK ((putA xs kk v).map fun q => (eK q.1, f q.2)))))
    (hs : swapsWith e (some (.Subscript o ix apos)) pos.line X.env = pure false := by rfl) : DS1 X kx (.Assign [.Subscript o ix apos] e pos) ρ M P :=
  ds1_dputK B hv ho hi hm (by rw [List.length_map]; exact hl) (by rw [putA_map inj]; exact hk) hs
theorem ds1_daddTM [DecidableEq κ] {xs : List (κ × Int)} {m n : Int} (i : Nat) (B : Bd X N sc k) (inj : ∀ a b, ek a = ek b → a = b) (ho : DV X kx o ρ M (.adr w)) (hi : DV X kx ix ρ M (.tup ((ek kk).map kD))) (hg : someE (getA xs kk) = .ok m) (hv : DV X kx e ρ M (.int n)) (hm : M[i]? = some (w, .dT (xs.map fun q => (ek q.1, D.int q.2)))) (hl : xs.length ≤ 100000) (hk : P (.nx ρ) (M.set i (w, .dT ((putA xs kk (m + n)).map fun q => (ek q.1, D.int q.2)))))
    (ha : ∀ ov iv new, augStore ix ov iv new = (do holding [new, ov, iv] (setItem ov iv new); release [new, ov, iv] []; pure .next) := by intro _ _ _; rfl) : DS1 X kx (.AugAssign (.Subscript o ix apos) .Add e pos) ρ M P :=
  ds1_daddT B ho hi (m := m) (by
    rw [getA_mapT inj]
    cases q : getA xs kk with
    | none => rw [q] at hg; cases hg
    | some u => rw [q] at hg; cases hg; rfl) hv hm (by rw [List.length_map]; exact hl) (by rw [putA_map inj (g := D.int)]; exact hk) ha
theorem setdA_map [DecidableEq κ] {κ' : Type} [DecidableEq κ'] {ek : κ → κ'} (inj : ∀ a b, ek a = ek b → a = b) (xs : List (κ × β)) (kk : κ) (v : β) : setdA (xs.map fun q => (ek q.1, f q.2)) (ek kk) (f v) = (setdA xs kk v).map fun q => (ek q.1, f q.2) := by
  unfold setdA
  rw [getA_map inj, putA_map inj]
  cases getA xs kk with
  | none => rfl
  | some u => rfl
theorem ds1_setdTM [DecidableEq κ] {v : β} (i : Nat) (B : Bd X N sc k) (inj : ∀ a b, ek a = ek b → a = b) (xs : List (κ × β)) (ho : DV X kx o ρ M (.adr w)) (he : DV X kx e ρ M (.tup ((ek kk).map kD))) (hf : DV X kx a ρ M (f v)) (hm : M[i]? = some (w, .dT (xs.map fun q => (ek q.1, f q.2)))) (hl : xs.length ≤ 100000) (hk : P (.nx ρ) (M.set i (w, .dT ((setdA xs kk v).map fun q => (ek q.1, f q.2)))))
    (hb : attributeBase o "setdefault" X.env (eval o X.env) = eval o X.env := by rfl)
    (hfew : ((backTo cpos (starEach [e, a] X.env)).all (fun x => !x.1) && (backToKw cpos (keywordEach [] X.env)).all (fun x => x.1.isSome) && decide (([e, a] : List Expr).length + ([] : List Keyword).length + (if ([] : List Keyword).isEmpty then 0 else 1) < 30)) = true := by rfl)
    (hline : (apos.endLine == cpos.line) = true := by rfl) (hs1 : starEach [e, a] X.env = (false, eval e X.env) :: starEach [a] X.env := by rfl) (hs2 : starEach [a] X.env = (false, eval a X.env) :: starEach [] X.env := by rfl) (hpl : (backTo cpos (starEach [a] X.env)).any (·.1) = false := by rfl)
    (hs : swapsWith (.Call (.Attribute o "setdefault" apos) [e, a] [] cpos) none pos.line X.env = pure false := by rfl) : DS1 X kx (.Expr (.Call (.Attribute o "setdefault" apos) [e, a] [] cpos) pos) ρ M P :=
  ds1_setdT B ho he hf hm (by rw [List.length_map]; exact hl) (by rw [setdA_map inj]; exact hk) hb hfew hline hs1 hs2 hpl hs
theorem di_itemsKF {elts : List Expr} {kk : Nat} {enp : κ × β → D} (hp : ∀ q : κ × β, enp q = .tup [kD (eK q.1), f q.2]) (xs : List (κ × β)) {tg : Expr} (ht : tg = .Tuple elts kk tpos) (h : DV X kx e ρ M (.dK (xs.map fun q => eK q.1) (xs.map fun q => f q.2))) (hbase : attributeBase e "items" X.env (eval e X.env) = eval e X.env := by rfl) (hline : (apos.endLine == cpos.line) = true := by rfl) :
    DI X kx tg (.Call (.Attribute e "items" apos) [] [] cpos) ρ M (xs.map enp) := by
  subst ht
  have e0 : xs.map enp = (xs.map fun q => (eK q.1, f q.2)).map fun q => .tup [kD q.1, q.2] := by
    rw [List.map_map]; exact List.map_congr_left fun q _ => hp q
  rw [e0]
  refine di_itemsK ?_ hbase hline
  rw [List.map_map, List.map_map]
  exact h
/-- o.f = {} -/
theorem ds1_fldD {i : Nat} {fl : Str} {ns ns' : List Str} {D0 : List D} {mu : Mu} (hmu : mu = .dT [] ∨ mu = .dK []) (cl : Cls X.K C) (na : NoAttr X.K C fl) (ho : ∀ w2, DV X kx o ρ ((w2, mu) :: M) (.adr w)) (hm : M[i]? = some (w, .ins C ns D0)) (hl2 : ns.length < 1000)
    (hk : ∀ w2, w2 ∉ M.dom → ∃ ds', putD fl (.adr w2) ns D0 = (ns', ds') ∧ P (.nx ρ) ((w2, mu) :: M.set i (w, .ins C ns' ds')))
    (hs : swapsWith (.Dict [] [] apos) (some (.Attribute o fl tpos)) pos.line X.env = pure false := by rfl) : DS1 X kx (.Assign [.Attribute o fl tpos] (.Dict [] [] apos) pos) ρ M P := fun σ H H0 t s W tk hx D c =>
  have hde : DE X kx (.Dict [] [] apos) ρ M (fun d m => ∃ w2, w2 ∉ M.dom ∧ d = .adr w2 ∧ m = (w2, mu) :: M) := by
    rcases hmu with e | e
    · subst e; exact de_newT fun w2 hw2 => ⟨w2, hw2, rfl, rfl⟩
    · subst e; exact de_newK fun w2 hw2 => ⟨w2, hw2, rfl, rfl⟩
  sS.by (ps_fld (pe_s o) (pe_s (.Dict [] [] apos)) hs) (hde σ H H0 t s W tk hx _ fun v H1 H01 d M1 g1 t1 r1 ⟨w2, hw2, e1, e2⟩ => by
    subst e1 e2
    refine ho w2 σ H1 H01 t1 (s.mo g1.e0) W tk (hx.step g1) _ fun u H2 H02 p2 r2 => ?_
    cases r2
    have t2 := t1.pu p2
    have hm' : ((w2, mu) :: M)[i + 1]? = some (w, .ins C ns D0) := by rw [List.getElem?_cons_succ]; exact hm
    obtain ⟨_, dx, vs, xs, h1, rfl, rfl, h4⟩ := t2.mem _ (List.mem_of_getElem? hm')
    obtain ⟨ds', hp, hk'⟩ := hk w2 hw2
    obtain ⟨i1, i2⟩ := putD_rep (f := fl) (r1.mo p2.e0) h4
    rw [hp] at i1 i2
    obtain ⟨t3, g3⟩ := t2.setM (o := .ins C dx (putF fl v vs)) (m' := .ins C ns' ds') hm' fun H' e => ⟨dx, putF fl v vs, _, e, i1, rfl, i2⟩
    refine ⟨w, C, dx, vs, rfl, h1, cl, na, by rw [List.length_map] at hl2; exact hl2, c.nx σ _ H02 ρ _ (g1.trans (p2.go.trans g3)) t3 (s.mo (g1.e0.trans p2.e0)) ?_⟩
    exact hk')
end
section
open L2
variable {X : Cx} {kx kx' : XD} {ρ ρ' ρ'' : Ro} {M M' : Mem} {P : Out → Mem → Prop} {pos p np pos' tpos spos : Pos} {N : List Str} {sc : Scope} {k i : Nat}
end
end Dl

/-! what follows an expression that changes something, told by what is wanted behind it -/
namespace Dl
open PySem PySem.Spec PyProof.Rows L2
section
variable {X : Cx} {kx kx' : XD} {ρ ρ' ρ'' : Ro} {M M' R : Mem} {P : Out → Mem → Prop} {pos p pos' apos cpos tpos spos : Pos} {tg e o ix a b : Expr} {es : List Expr} {x y z d : D} {w C : Addr} {α β κ : Type} {k : Nat} {N : List Str} {sc : Scope}
theorem ds1_setK {i : Nat} {v : Str} (n : Ns X i v) (h : DE X kx e ρ M fun d m => P (.nx (ρ.set i (some d))) m) (hs : swapsWithSole [.Name v pos'] e pos.line X.env = pure false := by rfl) (hw : swappedStores [.Name v pos'] e X.env = pure none := by rfl) : DS1 X kx (.Assign [.Name v pos'] e pos) ρ M P :=
  ds1_setE n h (fun _ _ q => q) hs hw
theorem ds1_exprK (h : DE X kx e ρ M fun _ m => P (.nx ρ) m) (hs : swapsWith e none pos.line X.env = pure false := by rfl) : DS1 X kx (.Expr e pos) ρ M P := ds1_expr h (fun _ _ q => q) hs
theorem pl_nil {T : Mem} : T.Perm ([] ++ T) := .refl _
theorem pe_c {T T' : Mem} {e x : Addr × Mu} (h : T.Perm (x :: T')) : (e :: T).Perm (x :: e :: T') := (h.cons e).trans (List.Perm.swap ..)
theorem pe_a {T T' c : Mem} {x : Addr × Mu} (h : T.Perm (x :: T')) : (c ++ T).Perm (x :: (c ++ T')) := (List.Perm.append_left c h).trans List.perm_middle
theorem pi_e {T T1 m2 T2 : Mem} {e : Addr × Mu} (h : T.Perm (e :: T1)) (h2 : T1.Perm (m2 ++ T2)) : T.Perm ((e :: m2) ++ T2) := h.trans (h2.cons e)
theorem pm_c {T T' : Mem} {e : Addr × Mu} (h : T.Perm T') : (e :: T).Perm (e :: T') := h.cons e
end
/-! ### range with a step -/
def rgN (i j c : Int) : Nat := (Builtin.Range.rangeSize i j c).toNat
def rngC (lo c : Int) (n : Nat) : List Int := (List.range n).map fun k => lo + ((k : Nat) : Int) * c
section
variable {X : Cx} {kx : XD} {ρ : Ro} {M : Mem} {pos p : Pos} {tg a b c : Expr}
end
/-! ### nothing of the kind, by kinds -/
section
variable {S : Shp} {α : Type}
theorem o_int : ∀ i : Int, (D.int i).off S = true := fun i => by simp [D.off]
theorem o_adr {a : Addr} : (D.adr a).off S = true := by simp [D.off]
theorem o_lst {f : α → D} (h : ∀ x, (f x).off S = true) (xs : List α) : (D.lst (xs.map f)).off S = true := by simp [D.off, offA_map h]
end
end Dl
namespace Dl
open PySem PySem.Spec PyProof.Rows L2
section
variable {X : Cx} {kx kx' : XD} {ρ : Ro} {M : Mem} {P : Out → Mem → Prop} {pos apos : Pos} {o e : Expr} {f : Str}
theorem ds1_fldX (h : DE X kx e ρ M fun _ _ => False) (hs : swapsWith e (some (.Attribute o f apos)) pos.line X.env = pure false := by rfl) : DS1 X kx (.Assign [.Attribute o f apos] e pos) ρ M P := fun σ H H0 t s W tk hx D c =>
  sS.by (ps_fld (pe_s o) (pe_s e) hs) (h σ H H0 t s W tk hx _ fun v H' H0' d m g t' r z => z.elim)
end
end Dl

/-! a try of any clauses; what is caught stays known -/
namespace Dl
open PySem PySem.Spec PyProof.Rows L2
/-- what is caught, at a -/
abbrev exV (a : Addr) (cls : Value) (d : Option Addr) : HO := .ext fun h => ∃ oe : PySem.Obj, h.get? a = some oe ∧ (oe.cls = cls ∧ oe.dict = d) ∧ ∃ vs, oe.data = .fields vs
abbrev Clause := Value × Option Nat × (Addr → Value → Option Addr → TS)
/-- the name's slot is set; gone again -/
def bdO (oi : Option Nat) (a : Addr) (σ : L2.St) : L2.St := match oi with
  | none => σ
  | some i => σ.set i (some (.ref a))
def unO (oi : Option Nat) (σ : L2.St) : L2.St := match oi with
  | none => σ
  | some i => σ.set i none
def endsO (oi : Option Nat) (D : Ends) : Ends := { nx := fun σ H => D.nx (unO oi σ) H, bk := fun σ H => D.bk (unO oi σ) H, ct := fun σ H => D.ct (unO oi σ) H, rt := D.rt }
def hsW (K : PySem.W.Frag) (Wout : WX) (D : Ends) : List Clause → WX
  | [] => Wout
  | (c, oi, ts) :: l => fun cls d σ H => ∃ b, PySem.W.exmOne K cls c = some b ∧ (b = true → ∀ a, H a = none → ts a cls d (endsO oi D) (bdO oi a σ) (upd H a (exV a cls d))) ∧ (b = false → hsW K Wout D l cls d σ H)
def NmO (X : Cx) : Option Str → Option Nat → Prop
  | none, none => True
  | some n, some i => X.N[i]? = some n ∧ X.env.kindOf n = some .local
  | _, _ => False
inductive HsOk (X : Cx) : List ExceptHandler → List Clause → Prop
  | nil : HsOk X [] []
  | cons {x : Str} {c : Value} {ts : Addr → Value → Option Addr → TS} {b0 : Stmt} {suite : List Stmt} {on : Option Str} {oi : Option Nat} {np pos : Pos} {hds : List ExceptHandler} {l : List Clause} (hc : Names X x c) (hn : NmO X on oi)
      (hsu : ∀ (a : Addr) (cls : Value) (d : Option Addr) (pn : List (Addr × PySem.Obj)), PSs (X.suite a pn) (b0 :: suite) (ts a cls d)) (r : HsOk X hds l) :
      HsOk X (.ExceptHandler (some (.Name x np)) on (b0 :: suite) pos :: hds) ((c, oi, ts) :: l)
section
variable {X : Cx} {pins : List (Addr × PySem.Obj)} {σ : L2.St} {H : Hp} {s : Shared}
end
section
variable {X : Cx} {body : List Stmt} {h0 : ExceptHandler} {hds : List ExceptHandler} {l : List Clause} {pos : Pos} {tb : WX → TS} {Wout : WX}
end
/-! ### at the level of data -/
def NmS (N : List Str) (sc : Scope) : Option Str → Option Nat → Prop
  | none, none => True
  | some n, some i => N[i]? = some n ∧ sc.names.lookup n = some .local
  | _, _ => False
inductive HdD (X : Cx) (N : List Str) (sc : Scope) : List ExceptHandler → List (Value × Option Nat × List Stmt) → Prop
  | nil : HdD X N sc [] []
  | cons {xx : Str} {cv : Value} {on : Option Str} {oi : Option Nat} {b0 : Stmt} {suite : List Stmt} {np pos : Pos} {hds : List ExceptHandler} {l : List (Value × Option Nat × List Stmt)} (hg : Gl X xx) (hm : X.mg xx = some cv) (hn : NmS N sc on oi) (r : HdD X N sc hds l)
      (hdb : (xx == ("__debug__" : Str)) = false := by decide) : HdD X N sc (.ExceptHandler (some (.Name xx np)) on (b0 :: suite) pos :: hds) ((cv, oi, b0 :: suite) :: l)
def setO (oi : Option Nat) (d : D) (ρ : Ro) : Ro := match oi with
  | none => ρ
  | some i => ρ.set i (some d)
def goneO (oi : Option Nat) (P : Out → Mem → Prop) : Out → Mem → Prop := match oi with
  | none => P
  | some i => goneP i P
def hdQ (X : Cx) (N : List Str) (sc : Scope) (k : Nat) (kx : XD) (P : Out → Mem → Prop) : List (Value × Option Nat × List Stmt) → XD
  | [] => kx
  | (cv, oi, st) :: t => fun cls fs ρ M => ∃ b, PySem.W.exmOne X.K cls cv = some b ∧ (b = true → ∃ C, cls = .ref C ∧ ∀ a l, BdS (X.suite a l) N sc k → DS (X.suite a l) kx0 st (setO oi (.exn C (fs.map Prod.fst) (fs.map Prod.snd)) ρ) M (goneO oi P)) ∧ (b = false → hdQ X N sc k kx P t cls fs ρ M)
section
variable {X : Cx} {kx kx' : XD} {ρ ρ' ρ'' : Ro} {M M' : Mem} {P : Out → Mem → Prop} {pos p np pos' : Pos} {e c : Expr} {w C : Addr} {k i : Nat} {N : List Str} {sc : Scope}
end
end Dl

/-! exceptions kept: what is asked of them, the mirror of a try -/
namespace Dl
open PySem PySem.Spec PyProof.Rows L2
/-- what is kept of an exception: its class's name, its fields -/
abbrev Xn := Str × List (Str × D)
def hdF {β : Type} : List (List Str × (Xn → Ex β)) → Xn → Ex β
  | [], e => .exc e.1 e.2
  | (ns, h) :: t, e => if e.1 ∈ ns then h e else hdF t e
/-- try: m, else what follows; the first clause that names the exception -/
def tryF {α β : Type} (names : List Str) (m : Ex α) (k : α → Ex β) (hs : List (List Str × (Xn → Ex β))) : Ex β := match m with
  | .ok a => k a
  | .exc n fs => if n ∈ names then hdF hs (n, fs) else .bad
  | .bad => .bad
/-- isinstance of what may be an exception -/
def isEO (ns : List Str) (o : Option Xn) : Bool := match o with
  | none => false
  | some e => decide (e.1 ∈ ns)
def fldE (e : Xn) (f : Str) : Ex Int := match e.2.lookup f with
  | some (.int v) => .ok v
  | _ => .bad
/-- is each name in a clause -/
def covB (names : List Str) (ls : List (List Str)) : Bool := names.all fun n => ls.any fun l => decide (n ∈ l)
/-! ### for the mathematics -/
section
variable {α β : Type} {names : List Str} {m : Ex α} {k : α → Ex β} {hs : List (List Str × (Xn → Ex β))} {Q : β → Prop}
end
/-! ### the walk -/
/-- isinstance(e, c), e an exception that stands in the heap -/
def rIsX (K : PySem.W.Frag) (C a : Addr) : List V → Hp → VK → Prop := fun xs H Q => ∃ (c : V) (cv : Value) (b : Bool) (d : Option Addr), xs = [.ref a, c] ∧ (∀ u, RelV c u → u = cv) ∧ PySem.W.kitOne K (.ref C) cv = some b ∧
  H a = some (exT a C d) ∧ (d = none ∨ ∃ dd vs, d = some dd ∧ H dd = some (.xd vs)) ∧ Q (.bl b) H
section
variable {X : Cx} {kx kx' : XD} {ρ ρ' ρ'' : Ro} {M M' : Mem} {P : Out → Mem → Prop} {pos p np pos' tpos spos : Pos} {e c : Expr} {C : Addr} {N : List Str} {sc : Scope} {k i : Nat} {x : D} {ns : List Str} {ds : List D}
/-- e.f of an exception -/
def tXe (C : Addr) (f : Str) (te : TE) : TE := fun σ H Q => te σ H fun x H1 => ∃ (a dd : Addr) (fs : List (Str × V)) (v : V), x = .ref a ∧ H1 a = some (exT a C (some dd)) ∧ H1 dd = some (.xd fs) ∧ fs.lookup f = some v ∧ Q v H1
/-! ### what is asked of one that may be there -/
section
variable {ad : Str → Addr} {names subs : List Str} {o : Option Xn} {e0 : Xn}
def dExn (ad : Str → Addr) (e : Xn) : D := .exn (ad e.1) (e.2.map Prod.fst) (e.2.map Prod.snd)
end
/-! ### try -/
section
variable {α γ : Type} {ad : Str → Addr} {names : List Str} {m : Ex α} {kf : α → Ex γ} {hs : List (List Str × (Xn → Ex γ))} {out : Ex γ}
/-- the clauses and their mirrors -/
inductive HdF (X : Cx) (N : List Str) (sc : Scope) (k : Nat) (ad : Str → Addr) (names : List Str) (ρE : Ro) (M : Mem) (P : Out → Mem → Prop) (out : Ex γ) : List (Value × Option Nat × List Stmt) → List (List Str × (Xn → Ex γ)) → Prop
  | nil : HdF X N sc k ad names ρE M P out [] []
  | cons {cv : Value} {oi : Option Nat} {st : List Stmt} {l : List (Value × Option Nat × List Stmt)} {ns : List Str} {h : Xn → Ex γ} {hs : List (List Str × (Xn → Ex γ))} (e1 : ∀ n ∈ names, PySem.W.exmOne X.K (.ref (ad n)) cv = some (decide (n ∈ ns)))
      (b : ∀ e0 : Xn, h e0 = out → ∀ a l, BdS (X.suite a l) N sc k → DS (X.suite a l) kx0 st (setO oi (dExn ad e0) ρE) M (goneO oi P)) (r : HdF X N sc k ad names ρE M P out l hs) : HdF X N sc k ad names ρE M P out ((cv, oi, st) :: l) ((ns, h) :: hs)
end
end
end Dl

/-! raising an exception of an own class that keeps a field: its __init__ calls the base's, stores the field -/
namespace Dl
open PySem PySem.Spec PyProof.Rows L2
section
variable {X : Cx} {o e : Expr} {es : List Expr} {to te : TE} {ta : TA} {f : Str} {p p' p1 p2 pos : Pos}
end
/-- what such an __init__ does -/
def spX (K : Frag) (C : Addr) (fl : Str) : Sp := fun xs H Q E => ∃ (a : Addr) (v : V), xs = [.ref a, v] ∧ OexC K C ∧ PySem.W.findIn K (.ref C) fl = some none ∧ H a = some (exo a C none) ∧
  ∀ dx, H dx = none → dx ≠ a → Q .non (upd (upd H dx (exd dx [(fl, v)])) a (exo a C (some dx)))
/-- an own class of exceptions with one field -/
structure XFT (K : Frag) (mg : Str → Option Value) (x : Str) (C : Addr) (fl : Str) (st : Stmt) (CB : Addr) : Prop where
  gC : mg x = some (.ref C)
  oex : OexC K C
  fno : PySem.W.findIn K (.ref C) fl = some none
  gB : mg "BookError" = some (.ref CB)
  rB : ClX.CRead K CB (.type "type")
  vB : PySem.W.findCls K (.ref CB) (.type "type") "__init__" = some (.val (.builtin "ValueError.__init__"))
  ini : ∃ f fd, FunD K "__init__" (x ++ ".__init__") (defArgs st) (defBody st) (defScope st) [] [] f fd ∧ Binds K fd ["self", fl] [] ∧ PySem.W.findIn K (.ref C) "__init__" = some (some (.ref f)) ∧ PySem.W.typeIn K (.ref f) = some (.type "function")
section
variable {P : Program} {w : World} {K : Frag} {mg : Str → Option Value} {base : Heap}
end
section
variable {X : Cx} {kx : XD} {ρ : Ro} {M : Mem} {P : Out → Mem → Prop} {pos p pos2 : Pos} {e : Expr} {d : D}
end
/-! ### what the top has written -/
/-- an own class of exceptions that has its own __init__ -/
structure ExF (K : Frag) (mg : Str → Option Value) (x : Str) (C : Addr) : Prop extends ExcC K C where
  gC : mg x = some (.ref C)
/-- an exception's own __init__, as K holds it -/
def XIni (K : Frag) (C : Addr) (x : String) (fl : Str) (st : Stmt) : Prop := ∃ f fd, FunD K "__init__" (x ++ ".__init__") (defArgs st) (defBody st) (defScope st) [] [] f fd ∧ Binds K fd ["self", fl] [] ∧ PySem.W.findIn K (.ref C) "__init__" = some (some (.ref f)) ∧ PySem.W.typeIn K (.ref f) = some (.type "function")
theorem XIni.mk {K : Frag} {C f : Addr} {x : String} {fl : Str} {st : Stmt} {od an : Option Addr} {sl : Array (Option Value)} {oc kV dc pm cd ct : Value} (a : PySem.W.findIn K (.ref C) "__init__" = some (some (.ref f))) (i : PySem.W.typeIn K (.ref f) = some (.type "function"))
    (l : K.lookup f = some ⟨oc, od, .func (PySem.W.fnOf "__init__" (x ++ ".__init__") (defArgs st) (defBody st) (defScope st) .none kV dc pm an cd ct), sl⟩) (c : PySem.W.codeIn K cd (x ++ ".__init__") = true) (k : PySem.W.keepIn K (.ref f) = true)
    (b : ∀ (kV doc pm : Value) (an : Option Addr) (cdv ct : Value) (us : List Value), us.length = 2 → bindArgs (PySem.W.fnOf "__init__" (x ++ ".__init__") (defArgs st) (defBody st) (defScope st) .none kV doc pm an cdv ct) ⟨us, []⟩ = pure ((["self", fl] : List Str).zip us)) : XIni K C x fl st := by
  have F : FunD K "__init__" (x ++ ".__init__") (defArgs st) (defBody st) (defScope st) [] [] f (PySem.W.fnOf "__init__" (x ++ ".__init__") (defArgs st) (defBody st) (defScope st) .none kV dc pm an cd ct) := ⟨⟨oc, od, .none, kV, dc, pm, an, cd, ct, sl, rfl, l, c, .inl ⟨rfl, rfl⟩, .inl rfl⟩, k⟩
  exact ⟨f, _, F, F.bindsN b, a, i⟩
section
variable {X : Cx} {kx : XD} {ρ : Ro} {M : Mem} {P : Out → Mem → Prop} {pos p pos2 : Pos} {e : Expr} {d : D}
end
end Dl

/-! slices of tuples; lists of owned things -/
namespace Dl
open PySem PySem.Spec PyProof.Rows L2
section
variable {X : Cx} {kx kx' : XD} {ρ ρ' ρ'' : Ro} {M M' : Mem} {P : Out → Mem → Prop} {pos p np pos' tpos spos : Pos} {a e c : Expr} {C : Addr} {N : List Str} {sc : Scope} {k i : Nat} {x : D} {ns : List Str} {ds : List D}
theorem dt_dinO {β : Type} {f : β → D} {q : Option β} {o : Expr} {x y : D} (B : Bd X N sc k) (he : DV X kx e ρ M y) (ho : DV X kx o ρ M x) (hd : DKey M x y (q.map f)) (hb : behindInMarks .In o = false := by rfl) : DT X kx (.Compare e [.In] [o] pos) ρ M q.isSome := fun σ H H0 t s W tk hx Q qq =>
  sT.by (pt_cmp (pc_din (by have := B.hu; omega) (pe_s e) (pe_s o)) hb) (he σ H H0 t s W tk hx _ fun u H1 H01 p1 r1 => ho σ H1 H01 (t.pu p1) (s.mo p1.e0) W tk (hx.pu p1) _ fun v H2 H02 p2 r2 => by
    obtain ⟨a', qv, e3, e4, e5⟩ := hd.get (t.pu (p1.trans p2)) r2 (r1.mo p2.e0)
    have e6 : qv.isSome = q.isSome := by rw [look_some e5]; cases q <;> rfl
    refine ⟨a', qv, e3, e4, _, rfl, ?_⟩
    rw [e6]
    exact qq H2 H02 (p1.trans p2))
theorem dt_dninO {β : Type} {f : β → D} {q : Option β} {o : Expr} {x y : D} (B : Bd X N sc k) (he : DV X kx e ρ M y) (ho : DV X kx o ρ M x) (hd : DKey M x y (q.map f)) (hb : behindInMarks .NotIn o = false := by rfl) : DT X kx (.Compare e [.NotIn] [o] pos) ρ M (!q.isSome) := fun σ H H0 t s W tk hx Q qq =>
  sT.by (pt_cmp (pc_dnotin (by have := B.hu; omega) (pe_s e) (pe_s o)) hb) (he σ H H0 t s W tk hx _ fun u H1 H01 p1 r1 => ho σ H1 H01 (t.pu p1) (s.mo p1.e0) W tk (hx.pu p1) _ fun v H2 H02 p2 r2 => by
    obtain ⟨a', qv, e3, e4, e5⟩ := hd.get (t.pu (p1.trans p2)) r2 (r1.mo p2.e0)
    have e6 : qv.isSome = q.isSome := by rw [look_some e5]; cases q <;> rfl
    refine ⟨a', qv, e3, e4, _, rfl, ?_⟩
    rw [e6]
    exact qq H2 H02 (p1.trans p2))
end
/-! ### == of things with texts within -/
/-- an encoding: clean, of small depth, one to one -/
structure EnS {α : Type} (n : Nat) (f : α → D) : Prop where
  flat : ∀ x, (f x).flat = true
  depth : ∀ x, (f x).py.depth ≤ n
  eqv : ∀ x y, PyData.eqv (f x).py (f y).py = true ↔ x = y
structure EnSL {α : Type} (n : Nat) (F : α → List D) : Prop where
  flat : ∀ x, D.flatA (F x) = true
  depth : ∀ x, PyData.depthAll (D.pyA (F x)) ≤ n
  eqv : ∀ x y, PyData.eqvAll (D.pyA (F x)) (D.pyA (F y)) = true ↔ x = y
/-- the texts within are texts -/
def layD (d : D) : Prop := PyData.canLay0 d.py = true
section
variable {α β : Type} {n m : Nat} {f : α → D} {F : α → List D} {G : β → List D}
theorem EnS.mono (h : EnS n f) (l : n ≤ m) : EnS m f := ⟨h.flat, fun x => Nat.le_trans (h.depth x) l, h.eqv⟩
theorem En.s (h : En n f) : EnS n f := ⟨h.flat, h.depth, h.eqv⟩
theorem EnS.eqs [DecidableEq α] (h : EnS n f) (x y : α) (lx : layD (f x)) (ly : layD (f y)) (hn : n ≤ 64 := by decide) : Eqs (f x) (f y) (decide (x = y)) := by
  refine ⟨h.flat x, h.flat y, ?_, ?_, ?_⟩
  · have := h.depth x
    unfold SeqAt.shaped; rw [lx, Bool.true_and, decide_eq_true_eq]; omega
  · have := h.depth y
    unfold SeqAt.shaped; rw [ly, Bool.true_and, decide_eq_true_eq]; omega
  · refine Bool.eq_iff_iff.mpr ?_
    rw [decide_eq_true_iff]; exact h.eqv x y
theorem enS_str : EnS 0 D.str := ⟨fun x => by simp [D.flat], fun x => by simp [D.py, PyData.depth], fun x y => by simp [D.py, PyData.eqv]⟩
theorem eqvAllS_map (h : EnS n f) : ∀ xs ys : List α, PyData.eqvAll ((xs.map f).map D.py) ((ys.map f).map D.py) = true ↔ xs = ys
  | [], [] => by simp [PyData.eqvAll]
  | [], y :: ys => by simp [PyData.eqvAll]
  | x :: xs, [] => by simp [PyData.eqvAll]
  | x :: xs, y :: ys => by
    have ih := eqvAllS_map h xs ys
    simp only [List.map_cons, PyData.eqvAll, Bool.and_eq_true, h.eqv, ih, List.cons.injEq]
theorem enS_lst (h : EnS n f) : EnS (n + 1) fun xs : List α => D.lst (xs.map f) :=
  ⟨fun xs => by simp only [D.flat, flatA_all, List.all_map, List.all_eq_true]; exact fun x _ => h.flat x,
    fun xs => by
      have z := depth_all ((xs.map f).map D.py) n fun y hy => by
        obtain ⟨d, hd, rfl⟩ := List.mem_map.mp hy
        obtain ⟨x, hx, rfl⟩ := List.mem_map.mp hd
        exact h.depth x
      simp only [D.py, PyData.depth, pyA_map]; omega,
    fun xs ys => by simp only [D.py, PyData.eqv, pyA_map]; exact eqvAllS_map h xs ys⟩
end
end Dl

/-! lists of things that change: one of them taken out to be changed; comprehensions that change, or make, things -/
namespace Dl
open PySem PySem.Spec PyProof.Rows L2
/-! ### one of a list -/
def updI {α : Type} (xs : List α) (i : Int) (v : α) : List α := match ixN xs.length i with
  | some j => xs.set j v
  | none => xs
section
variable {α β : Type} {E : β → Ow → Prop}
theorem updI_at {xs : List α} {i : Int} {j : Nat} (h : ixN xs.length i = some j) (v : α) : updI xs i v = xs.set j v := by unfold updI; rw [h]
theorem ixE_ixN {xs : List α} {i : Int} {x : α} (h : ixE xs i = .ok x) : ∃ j, ixN xs.length i = some j ∧ xs[j]? = some x := by
  unfold ixE at h
  unfold ixN
  by_cases c : 0 ≤ i
  · rw [if_pos c] at h
    have e := some_out h
    have l := (List.getElem?_eq_some_iff.mp e).1
    exact ⟨i.toNat, by rw [if_pos c, if_pos (by omega)], e⟩
  · rw [if_neg c] at h
    by_cases c2 : 0 ≤ i + xs.length
    · rw [if_pos c2] at h
      have e := some_out h
      refine ⟨(i + xs.length).toNat, ?_, e⟩
      rw [if_neg c, if_pos (by omega)]
    · rw [if_neg c2] at h; cases h
theorem memA_split {os : List Ow} {j : Nat} {o : Ow} (h : os[j]? = some o) : Ow.memA os = Ow.memA (os.take j) ++ (o.mem ++ Ow.memA (os.drop (j + 1))) := by
  have e : os = os.take j ++ o :: os.drop (j + 1) := by
    rw [← drop_get h, List.take_append_drop]
  conv => lhs; rw [e]
  rw [memA_map, List.map_append, List.flatten_append, List.map_cons, List.flatten_cons, ← memA_map, ← memA_map]
theorem foc0 {rs : List β} {d : D} {m : Mem} {i : Int} {r : β} (h : OwR (isLst E) rs d m) (hi : ixE rs i = .ok r) :
    ∃ (w : Addr) (ds : List D) (dr : D) (mr mx : Mem), d = .adr w ∧ m.Perm ((w, .lst ds) :: (mr ++ mx)) ∧ atI ds i = some dr ∧ ds.length = rs.length ∧ OwR E r dr mr ∧
      ∀ r' dr' mr', OwR E r' dr' mr' → ∃ m', OwR (isLst E) (updI rs i r') (.adr w) m' ∧ m'.Perm ((w, .lst (updI ds i dr')) :: (mr' ++ mx)) := by
  obtain ⟨o, ⟨a, os, rfl, al⟩, rfl, rfl⟩ := h
  obtain ⟨j, hj, hr⟩ := ixE_ixN hi
  obtain ⟨oj, ho, hE⟩ := al.get hr
  have ln := al.len
  have lr : (Ow.rootA os).length = rs.length := by rw [rootA_map, List.length_map, ln]
  refine ⟨a, Ow.rootA os, oj.root, oj.mem, Ow.memA (os.take j) ++ Ow.memA (os.drop (j + 1)), by simp only [Ow.root], ?_, ?_, lr, ⟨oj, hE, rfl, rfl⟩, ?_⟩
  · simp only [Ow.mem]
    rw [memA_split ho]
    refine List.Perm.cons _ ?_
    rw [← List.append_assoc, ← List.append_assoc]
    exact List.Perm.append_right _ List.perm_append_comm
  · unfold atI
    rw [lr, hj, rootA_map]
    show (os.map Ow.root)[j]? = _
    rw [List.getElem?_map, ho]; rfl
  · rintro r' dr' mr' ⟨o', hE', rfl, rfl⟩
    have lj := (List.getElem?_eq_some_iff.mp ho).1
    refine ⟨_, ⟨.lst a (os.set j o'), ⟨a, _, rfl, ?_⟩, by simp only [Ow.root], rfl⟩, ?_⟩
    · rw [updI_at hj]; exact al.set hE' j
    · simp only [Ow.mem]
      have e1 : Ow.rootA (os.set j o') = updI (Ow.rootA os) i o'.root := by
        rw [updI_at (by rw [lr]; exact hj), rootA_map, rootA_map, List.map_set]
      rw [e1]
      refine List.Perm.cons _ ?_
      rw [memA_split (os := os.set j o') (j := j) (o := o') (List.getElem?_set_self lj), List.take_set_of_le (Nat.le_refl _), List.drop_set_of_lt (by omega)]
      rw [← List.append_assoc, ← List.append_assoc]
      exact List.Perm.append_right _ List.perm_append_comm
theorem updI_id {xs : List α} {i : Int} {x : α} (h : atI xs i = some x) : updI xs i x = xs := by
  unfold updI
  unfold atI at h
  cases e : ixN xs.length i with
  | none => rfl
  | some j =>
    rw [e] at h
    dsimp only
    have h' : xs[j]? = some x := h
    obtain ⟨l, e2⟩ := List.getElem?_eq_some_iff.mp h'
    rw [← e2]; exact List.set_getElem_self l
/-- taken out; put back, at the same place -/
theorem foc {rs : List β} {d : D} {m : Mem} {i : Int} {r : β} (h : OwR (isLst E) rs d m) (hi : ixE rs i = .ok r) :
    ∃ (w : Addr) (ds : List D) (dr : D) (mr mx : Mem), d = .adr w ∧ m.Perm ((w, .lst ds) :: (mr ++ mx)) ∧ atI ds i = some dr ∧ OwR E r dr mr ∧
      ∀ r' mr', OwR E r' dr mr' → ∃ m', OwR (isLst E) (updI rs i r') (.adr w) m' ∧ m'.Perm ((w, .lst ds) :: (mr' ++ mx)) := by
  obtain ⟨w, ds, dr, mr, mx, h1, h2, h3, _, h4, h5⟩ := foc0 h hi
  refine ⟨w, ds, dr, mr, mx, h1, h2, h3, h4, fun r' mr' h6 => ?_⟩
  obtain ⟨m', a, b⟩ := h5 r' dr mr' h6
  rw [updI_id h3] at b
  exact ⟨m', a, b⟩
/-- several, each owned -/
inductive OwA (E : β → Ow → Prop) : List β → List D → Mem → Prop
  | nil : OwA E [] [] []
  | cons {r : β} {rs : List β} {d : D} {ds : List D} {m1 m2 : Mem} : OwR E r d m1 → OwA E rs ds m2 → OwA E (r :: rs) (d :: ds) (m1 ++ m2)
theorem OwA.all {rs : List β} {ds : List D} {m : Mem} (h : OwA E rs ds m) : ∃ os, All2 E rs os ∧ ds = Ow.rootA os ∧ m = Ow.memA os := by
  induction h with
  | nil => exact ⟨[], .nil, by simp [Ow.rootA], by simp [Ow.memA]⟩
  | cons h _ ih =>
    obtain ⟨o, h1, rfl, rfl⟩ := h
    obtain ⟨os, h2, rfl, rfl⟩ := ih
    exact ⟨o :: os, .cons h1 h2, by simp [Ow.rootA], by simp [Ow.memA]⟩
theorem All2.mem {rs : List β} {os : List Ow} (h : All2 E rs os) {o : Ow} (ho : o ∈ os) : ∃ r, E r o := by
  induction h with
  | nil => cases ho
  | cons a _ ih =>
    rcases List.mem_cons.mp ho with rfl | ho
    · exact ⟨_, a⟩
    · exact ih ho
end
/-! ### comprehensions that change things, or make them -/
section
variable {X : Cx} {kx kx' : XD} {ρ ρ' ρ'' : Ro} {M M' : Mem} {P : Out → Mem → Prop} {pos p np pos' tpos spos : Pos} {tg a e c elt : Expr} {N : List Str} {sc csc : Scope} {k i : Nat} {ds : List D} {own : List (Str × Nat)}
/-- [elt for tg in e], J what stands as the walk goes on -/
def LcX (X : Cx) (N : List Str) (sc csc : Scope) (k : Nat) (own : List (Str × Nat)) (tg elt : Expr) (ρ : Ro) (ds : List D) (J : Nat → List D → Mem → Prop) : Prop :=
  ∀ i d acc m, ds[i]? = some d → J i acc m → ∃ ts ρ2, (∀ i ∈ ts, i ∈ own.map (·.2)) ∧ ∀ s H C cl fp w, Bd (Cx.bk X csc s H C cl fp) N (relS csc sc) k → DG (Cx.bk X csc s H C cl fp) tg ts d (wipeD ρ (own.map (·.2))) ρ2 ∧
    DE (Cx.bk X csc s H C cl fp) kx0 elt ρ2 ((w, .lst acc) :: m) fun d' m' => ∃ m2, m' = (w, .lst acc) :: m2 ∧ J (i + 1) (acc ++ [d']) m2
end
end Dl
namespace Dl
open PySem PySem.Spec PyProof.Rows L2
section
variable {X : Cx} {kx kx' : XD} {ρ ρ' ρ'' : Ro} {M M' : Mem} {P : Out → Mem → Prop} {pos p np pos' tpos spos apos : Pos} {tg a b e c o ix elt : Expr} {es : List Expr} {N : List Str} {sc csc : Scope} {k i n : Nat} {ds : List D} {own : List (Str × Nat)} {w : Addr} {x y : D}
/-! ### several things, each of which may change something -/
def DAE (X : Cx) (kx : XD) (es : List Expr) (ρ : Ro) (M : Mem) (k : List D → Mem → Prop) : Prop :=
  ∀ (σ : L2.St) (H H0 : Hp), Ht X.K H0 H M → Sl X.K H0 σ ρ → ∀ (W : WX), Takes X W → Hx X W H0 H M kx → ∀ (Q : List V → Hp → Prop), (∀ vs H' H0' ds M', Go H0 H M H0' H' M' → Ht X.K H0' H' M' → RepA X.K H0' vs ds → k ds M' → Q vs H') → sA X es σ H Q
theorem dae_nil {k : List D → Mem → Prop} (h : k [] M) : DAE X kx [] ρ M k := fun σ H H0 t s W tk hx Q q => sA.by pa_nil (q [] H H0 [] M Go.refl t .nil h)
theorem dae_cons {k : List D → Mem → Prop} (h : DE X kx e ρ M fun d m => DAE X kx es ρ m fun ds m' => k (d :: ds) m') (hs : starEach (e :: es) X.env = (false, eval e X.env) :: starEach es X.env := by rfl) : DAE X kx (e :: es) ρ M k := fun σ H H0 t s W tk hx Q q =>
  sA.by (pa_cons (pe_s e) (pa_s es) hs) (h σ H H0 t s W tk hx _ fun v H1 H01 d m g t1 r kd => kd σ H1 H01 t1 (s.mo g.e0) W tk (hx.step g) _ fun vs H2 H02 ds m2 g2 t2 r2 k2 => q _ H2 H02 _ m2 (g.trans g2) t2 (.cons (r.mo g2.e0) r2) k2)
/-! ### tests that change something -/
def DTE (X : Cx) (kx : XD) (e : Expr) (ρ : Ro) (M : Mem) (k : Bool → Mem → Prop) : Prop :=
  ∀ (σ : L2.St) (H H0 : Hp), Ht X.K H0 H M → Sl X.K H0 σ ρ → ∀ (W : WX), Takes X W → Hx X W H0 H M kx → ∀ (Q : Bool → Hp → Prop), (∀ H' H0' b M', Go H0 H M H0' H' M' → Ht X.K H0' H' M' → k b M' → Q b H') → sT X e σ H Q
theorem ds1_ifK {c : Expr} {A B : List Stmt} {pos : Pos} (hc : DTE X kx c ρ M fun b m => (b = true → DS X kx A ρ m P) ∧ (b = false → DS X kx B ρ m P)) : DS1 X kx (.If c A B pos) ρ M P := fun σ H H0 t s W tk hx D cn =>
  sS.by (ps_if (pt_s c) (pss_s A) (pss_s B)) (hc σ H H0 t s W tk hx _ fun H' H0' b m g t' hb => by
    cases b with
    | true => exact hb.1 rfl σ H' H0' t' (s.mo g.e0) W tk (hx.step g) D (cn.step g)
    | false => exact hb.2 rfl σ H' H0' t' (s.mo g.e0) W tk (hx.step g) D (cn.step g))
theorem dte_cmp {op : CmpOp} {r : R2} {kk : Bool → Mem → Prop} (ho : OpR X (compareOp op) r) (ha : DE X kx a ρ M fun x m => ∃ y z, DV X kx b ρ m y ∧ R2D X.K r m x y (.bl z) ∧ kk z m) (hm : behindInMarks op b = false := by rfl) : DTE X kx (.Compare a [op] [b] pos) ρ M kk := fun σ H H0 t s W tk hx Q q =>
  sT.by (pt_cmpR ho (pe_s a) (pe_s b) hm) (ha σ H H0 t s W tk hx _ fun v H1 H01 d m g t1 r1 ⟨y, z, hb, hr, hk⟩ => hb σ H1 H01 t1 (s.mo g.e0) W tk (hx.step g) _ fun u H2 H02 p2 r2 =>
    hr v u H2 H02 (t1.pu p2) (r1.mo p2.e0) r2 _ fun w H3 H03 p3 r3 => by cases r3; exact ⟨z, rfl, q H3 H03 z m (g.trans (p2.trans p3).go) (t1.pu (p2.trans p3)) hk⟩)
end
end Dl
namespace Dl
open PySem PySem.Spec PyProof.Rows L2
section
variable {X : Cx} {kx kx' : XD} {ρ ρ' ρ'' : Ro} {M M' : Mem} {P : Out → Mem → Prop} {pos p np pos' tpos spos apos : Pos} {tg a b e c o ix elt : Expr} {es : List Expr} {N : List Str} {sc csc : Scope} {k i n : Nat} {ds : List D} {own : List (Str × Nat)} {w : Addr} {x y : D} {α β : Type} {E : β → Ow → Prop}
/-- [elt for tg in e], each elt a new thing -/
def LcN (X : Cx) (N : List Str) (sc csc : Scope) (k : Nat) (own : List (Str × Nat)) (tg elt : Expr) (ρ : Ro) (xs : List α) (enc : α → D) (fm : α → Ex β) (E : β → Ow → Prop) : Prop :=
  ∀ x, x ∈ xs → ∃ ts ρ2, (∀ i ∈ ts, i ∈ own.map (·.2)) ∧ ∀ s H C cl fp M1, Bd (Cx.bk X csc s H C cl fp) N (relS csc sc) k → DG (Cx.bk X csc s H C cl fp) tg ts (enc x) (wipeD ρ (own.map (·.2))) ρ2 ∧ ∀ v, fm x = .ok v → DN (Cx.bk X csc s H C cl fp) kx0 elt ρ2 M1 (OwR E v)
end
end Dl
namespace Dl
open PySem PySem.Spec PyProof.Rows L2
section
variable {α : Type} {xs : List α}
def unp2E (xs : List α) : Ex (α × α) := match xs with
  | [a, b] => .ok (a, b)
  | _ => .bad
def unp3E (xs : List α) : Ex (α × α × α) := match xs with
  | [a, b, c] => .ok (a, b, c)
  | _ => .bad
def unp4E (xs : List α) : Ex (α × α × α × α) := match xs with
  | [a, b, c, d] => .ok (a, b, c, d)
  | _ => .bad
variable {X : Cx} {kx : XD} {ρ : Ro} {M : Mem} {e : Expr} {enc : α → D}
end
end Dl
namespace Dl
open PySem PySem.Spec PyProof.Rows L2
section
variable {α β : Type} {E : β → Ow → Prop}
end
end Dl

/-! tests that change something; lists of new things written out -/
namespace Dl
open PySem PySem.Spec PyProof.Rows L2
section
variable {X : Cx} {kx kx' : XD} {ρ ρ' ρ'' : Ro} {M M' M2 : Mem} {P : Out → Mem → Prop} {pos p np pos' tpos spos apos : Pos} {tg a b c e o ix elt : Expr} {es : List Expr} {N : List Str} {sc csc : Scope} {k i n : Nat} {ds : List D} {own : List (Str × Nat)} {w : Addr} {x y : D} {α β : Type} {E : β → Ow → Prop} {A B : Mem → Prop}
/-- a test that may change something, and what follows either way -/
def DTT (X : Cx) (kx : XD) (e : Expr) (ρ : Ro) (M : Mem) (A B : Mem → Prop) : Prop := DTE X kx e ρ M fun b m => (b = true → A m) ∧ (b = false → B m)
def DWT (X : Cx) (kx : XD) (e : Expr) (ρ : Ro) (M : Mem) (A B : Mem → Prop) : Prop :=
  ∀ (σ : L2.St) (H H0 : Hp), Ht X.K H0 H M → Sl X.K H0 σ ρ → ∀ (W : WX), Takes X W → Hx X W H0 H M kx → ∀ (Q : Bool → Hp → Prop), (∀ H' H0' b M', Go H0 H M H0' H' M' → Ht X.K H0' H' M' → (b = true → A M') ∧ (b = false → B M') → Q b H') → sW X e σ H Q
theorem ds1_ifT {sA sB : List Stmt} {pos : Pos} (h : DTT X kx c ρ M (fun m => DS X kx sA ρ m P) (fun m => DS X kx sB ρ m P)) : DS1 X kx (.If c sA sB pos) ρ M P := ds1_ifK h
theorem DWT.t (h : DWT X kx e ρ M A B) : DTT X kx e ρ M A B := fun σ H H0 t s W tk hx Q q => sT.by (pw_s e).pt (h σ H H0 t s W tk hx Q q)
theorem dwt_or1 (h : DTT X kx a ρ M A B) : DWT X kx (.BoolOp .Or [a] pos) ρ M A B := fun σ H H0 t s W tk hx Q q => sW.by (pw_or1 (pt_s a)) (h σ H H0 t s W tk hx Q q)
theorem dwt_or {rest : List Expr} (h : DTT X kx a ρ M A fun m => DWT X kx (.BoolOp .Or (b :: rest) pos) ρ m A B) : DWT X kx (.BoolOp .Or (a :: b :: rest) pos) ρ M A B := fun σ H H0 t s W tk hx Q q =>
  sW.by (pw_or (pt_s a) (pw_s _)) (h σ H H0 t s W tk hx _ fun H' H0' z m g t' hb => by
    cases z with
    | true => exact iteT (q H' H0' true m g t' ⟨hb.1, fun z => by cases z⟩)
    | false => exact iteF (hb.2 rfl σ H' H0' t' (s.mo g.e0) W tk (hx.step g) Q fun H2 H02 b2 m2 g2 t2 h2 => q H2 H02 b2 m2 (g.trans g2) t2 h2))
theorem dtt_cmp {op : CmpOp} {r : R2} (ho : OpR X (compareOp op) r) (ha : DE X kx a ρ M fun x m => ∃ y z, DV X kx b ρ m y ∧ R2D X.K r m x y (.bl z) ∧ (z = true → A m) ∧ (z = false → B m)) (hm : behindInMarks op b = false := by rfl) : DTT X kx (.Compare a [op] [b] pos) ρ M A B := dte_cmp ho ha hm
theorem DTT.perm (p : M.Perm M2) (h : DTT X kx e ρ M2 A B) : DTT X kx e ρ M A B := fun σ H H0 t s W tk hx Q q =>
  h σ H H0 (t.perm p) s W tk (hx.perm p fun _ _ _ m hk => ⟨m, .refl _, hk⟩) Q fun H' H0' b m g t' hb => q H' H0' b m (g.permL p.symm) t' hb
theorem DWT.perm (p : M.Perm M2) (h : DWT X kx e ρ M2 A B) : DWT X kx e ρ M A B := fun σ H H0 t s W tk hx Q q =>
  h σ H H0 (t.perm p) s W tk (hx.perm p fun _ _ _ m hk => ⟨m, .refl _, hk⟩) Q fun H' H0' b m g t' hb => q H' H0' b m (g.permL p.symm) t' hb
/-! ### lists written out -/
theorem DAE.perm {kk : List D → Mem → Prop} (p : M.Perm M2) (h : DAE X kx es ρ M2 kk) : DAE X kx es ρ M kk := fun σ H H0 t s W tk hx Q q =>
  h σ H H0 (t.perm p) s W tk (hx.perm p fun _ _ _ m hk => ⟨m, .refl _, hk⟩) Q fun vs H' H0' ds m g t' r hk => q vs H' H0' ds m (g.permL p.symm) t' r hk
theorem dae_consN {kd : D → Mem → Prop} {kk : List D → Mem → Prop} (h : DN X kx e ρ M kd) (hk : ∀ d m, kd d m → DAE X kx es ρ (m ++ M) fun ds m' => kk (d :: ds) m') (hs : starEach (e :: es) X.env = (false, eval e X.env) :: starEach es X.env := by rfl) : DAE X kx (e :: es) ρ M kk := dae_cons (h.de fun d m z => hk d m z) hs
theorem dae_consV {kk : List D → Mem → Prop} {d : D} (h : DV X kx e ρ M d) (hk : DAE X kx es ρ M fun ds m' => kk (d :: ds) m') (hs : starEach (e :: es) X.env = (false, eval e X.env) :: starEach es X.env := by rfl) : DAE X kx (e :: es) ρ M kk := dae_cons (h.de hk) hs
/-! ### comprehensions that change one thing at each turn -/
theorem foldE_split {S : Type} {g : S → α → Ex S} : ∀ (ys zs : List α) (q z' : S), foldE g q (ys ++ zs) = .ok z' → ∃ q', foldE g q ys = .ok q' ∧ foldE g q' zs = .ok z'
  | [], zs, q, z', hq => ⟨q, rfl, hq⟩
  | y :: ys, zs, q, z', hq => by
    rw [List.cons_append, foldE_cons] at hq
    cases e1 : g q y with
    | ok q2 =>
      rw [e1] at hq
      obtain ⟨q', h1, h2⟩ := foldE_split ys zs q2 z' hq
      exact ⟨q', by rw [foldE_cons, e1]; exact h1, h2⟩
    | exc n fs => rw [e1] at hq; cases hq
    | bad => rw [e1] at hq; cases hq
end
section
variable {X : Cx} {σ : L2.St} {H : Hp} {L : List Addr}
end
section
variable {X : Cx} {kx kx' : XD} {ρ ρ' ρ'' : Ro} {M M' M2 R m : Mem} {P : Out → Mem → Prop} {pos p np pos' tpos spos apos : Pos} {tg a b c e o ix elt : Expr} {es : List Expr} {N : List Str} {sc csc : Scope} {k i n : Nat} {ds : List D} {own : List (Str × Nat)} {w : Addr} {x y d dd : D} {α β : Type} {E : β → Ow → Prop} {enc0 : β → D} {r : β} {S : Shp} {sl : List (Nat × D × D)} {os : List Ow}
end
end Dl

/-! more rules -/
namespace Dl
open PySem PySem.Spec PyProof.Rows L2
section
variable {X : Cx} {kx kx' : XD} {ρ ρ' ρ'' : Ro} {M M' M2 R m : Mem} {P : Out → Mem → Prop} {pos p np pos' tpos spos apos : Pos} {tg a b c e o ix elt : Expr} {es : List Expr} {N : List Str} {sc csc : Scope} {k n : Nat} {ds : List D} {own : List (Str × Nat)} {w : Addr} {x y d dd : D} {α β : Type} {E : β → Ow → Prop}
/-! ### x in a list of numbers -/
/-- the context of a block, by what is known of it -/
abbrev bX {X : Cx} {N : List Str} {sc : Scope} {k : Nat} (_ : Bd X N sc k) : Cx := X
/-! ### tuples of things that change -/
/-- two lists in a tuple -/
def isTup2 (f : α → D) (g : β → D) (r : List α × List β) (o : Ow) : Prop := ∃ a b, o = .tup [.lst a (r.1.map fun x => .fr (f x)), .lst b (r.2.map fun x => .fr (g x))]
theorem Eqs.l {x x' y : D} {k : Bool} (h : Eqs x y k) (e : x'.py = x.py) (f : x'.flat = x.flat) : Eqs x' y k := ⟨f.trans h.fx, h.fy, by rw [e]; exact h.sx, h.sy, by rw [e]; exact h.eq⟩
theorem Eqs.r {x y y' : D} {k : Bool} (h : Eqs x y k) (e : y'.py = y.py) (f : y'.flat = y.flat) : Eqs x y' k := ⟨h.fx, f.trans h.fy, h.sx, by rw [e]; exact h.sy, by rw [e]; exact h.eq⟩
/-! ### zip of lists, locked ones too -/
inductive SeqC : D → List D → Prop
  | lst (ds : List D) : SeqC (.lst ds) ds
  | scr (ds : List D) : SeqC (.scr ds) ds
theorem SeqC.rep {K : Frag} {H0 : Hp} {v : V} (h : SeqC x ds) (r : Rep K H0 v x) : ∃ p vs, v = .ref p ∧ (∀ H, Same H0 H → SqL K H p vs) ∧ RepA K H0 vs ds := by
  cases h with
  | lst ds => cases r with | lst a b => exact ⟨_, _, rfl, fun H e => SqL.of (e _ _ a), b⟩
  | scr ds => cases r with | scr a b => exact ⟨_, _, rfl, fun H e => e.seq a, b⟩
end
end Dl

/-! an exception while things are lent; what is owned, or None; an owned thing moved into a list -/
namespace Dl
open PySem PySem.Spec PyProof.Rows L2
section
variable {X : Cx} {kx kx' : XD} {ρ ρ' ρ'' : Ro} {M M' M2 R m : Mem} {P : Out → Mem → Prop} {pos p np pos' tpos spos apos : Pos} {tg a b c e o ix elt : Expr} {es : List Expr} {N : List Str} {sc csc : Scope} {k n : Nat} {ds dvs : List D} {own : List (Str × Nat)} {w : Addr} {x y d dd : D} {α β : Type} {E : β → Ow → Prop} {enc0 : β → D} {r : β} {S : Shp} {sl : List (Nat × D × D)} {os : List Ow}
/-! ### owned, or None -/
def isOpt (E : β → Ow → Prop) (r : Option β) (o : Ow) : Prop := match r with
  | none => o = .fr .non
  | some x => E x o
end
end Dl

/-! objects without fields; what is None, a number or a pair -/
namespace Dl
open PySem PySem.Spec PyProof.Rows L2
section
variable {X : Cx} {kx kx' : XD} {ρ ρ' ρ'' : Ro} {M M' M2 R m : Mem} {P : Out → Mem → Prop} {pos p np pos' tpos spos apos : Pos} {tg a b c e o ix elt : Expr} {es : List Expr} {N : List Str} {sc csc : Scope} {k n : Nat} {ds : List D} {own : List (Str × Nat)} {w C : Addr} {x y d dd : D} {α β : Type} {E : β → Ow → Prop}
/-! ### C(), there being no __init__ -/
/-! ### isinstance(x, C), x an object without fields that change -/
structure InsT (K : Frag) (C : Addr) : Prop where
  cl : Cls K C
  ha : PySem.W.findIn K (.ref C) "__class__" = some (some (.builtin "object.__class__"))
  hn : PySem.W.specialIn K (.builtin "object.__class__") "__get__" = some (some (.builtin "getset_descriptor.__get__"))
  ht : PySem.W.takesIn K (.builtin "object.__class__") = some true
  hm : PySem.W.mroIn K C (.type "object") = some true
/-! ### a method that raises, of an object that stays as it is -/
/-! ### None, a number, or a pair of numbers -/
inductive Zv where
  | n
  | i (k : Int)
  | p (a b : Int)
  deriving DecidableEq
instance : Inhabited Zv := ⟨.n⟩
def dZ : Zv → D
  | .n => .non
  | .i k => .int k
  | .p a b => .tup [.int a, .int b]
def zSel {γ : Type} (z : Zv) (a b c : γ) : γ := match z with
  | .n => a
  | .i _ => b
  | .p _ _ => c
def zI : Zv → Ex Int
  | .i k => .ok k
  | _ => .bad
def zP : Zv → Ex (Int × Int)
  | .p a b => .ok (a, b)
  | _ => .bad
def zO : Option Int → Zv
  | none => .n
  | some k => .i k
def zOP : Option (Int × Int) → Zv
  | none => .n
  | some q => .p q.1 q.2
end
/-! ### more of what is None, a number or a pair; extend; sorted of locked lists -/
section
variable {X : Cx} {kx kx' : XD} {ρ ρ' ρ'' : Ro} {M M' M2 R m : Mem} {P : Out → Mem → Prop} {pos p np pos' tpos spos apos cpos : Pos} {tg a b c e o ix elt : Expr} {es : List Expr} {ds zs : List D} {w C : Addr} {x y d dd : D} {α β : Type}
end
/-! ### lists of lists that change -/
section
variable {α : Type} {f : α → D} {rs : List α} {d : D} {m : Mem}
theorem own_lstF : OwR (isLstF f) rs d m ↔ ∃ w, d = .adr w ∧ m = [(w, Mu.lst (rs.map f))] := by
  constructor
  · rintro ⟨o, ⟨a, rfl⟩, rfl, rfl⟩
    exact ⟨a, by simp only [Ow.root], by simp only [Ow.mem, rootA_fr, memA_fr]⟩
  · rintro ⟨a, rfl, rfl⟩
    exact ⟨_, ⟨a, rfl⟩, by simp only [Ow.root], by simp only [Ow.mem, rootA_fr, memA_fr]⟩
end
end Dl

/-! texts -/
namespace Dl
open PySem PySem.Spec PyProof.Rows L2
section
variable {X : Cx} {kx kx' : XD} {ρ ρ' ρ'' : Ro} {M M' M2 R m : Mem} {P : Out → Mem → Prop} {pos p np pos' tpos spos apos cpos : Pos} {tg a b c e o ix elt : Expr} {es : List Expr} {ds zs : List D} {w C : Addr} {x y d dd : D} {α β : Type} {s t : Str}
theorem dv_addS (ha : DV X kx a ρ M (.str s)) (hb : DV X kx b ρ M (.str t)) (hl : s.length + t.length ≤ 100000) : DV X kx (.BinOp a .Add b pos) ρ M (.str (s ++ t)) := dv_op op_add_str (fun v u H H0 t r1 r2 Q q => by cases r1; cases r2; exact ⟨_, _, rfl, rfl, sz_le hl, q _ H H0 (Pu.refl t.ex) (.str _)⟩) ha hb
theorem dv_slT' {lo hi : Option Expr} {p2} {i j : Option Int} (ha : DV X kx a ρ M (.str s)) (hz : s.length ≤ 100000) (hl : DO X kx lo ρ M i) (hh : DO X kx hi ρ M j) : DV X kx (.Subscript a (.Slice lo hi none p2) pos) ρ M (.str (cutS s i j)) := fun σ H H0 t s W tk hx Q q =>
  sE.by (pe_slice sl_str (pe_s a) (po_s lo) (po_s hi)) (ha σ H H0 t s W tk hx _ fun v H1 H01 p1 r1 => hl.run (t.pu p1) (s.mo p1.e0) tk (hx.pu p1) fun H2 H02 p2 => hh.run (t.pu (p1.trans p2)) (s.mo (p1.trans p2).e0) tk (hx.pu (p1.trans p2)) fun H3 H03 p3 => by
    have p123 := (p1.trans p2).trans p3
    cases r1
    exact ⟨_, rfl, sz_le hz, q _ _ _ p123 (.str _)⟩)
end
end Dl

/-! a list beside an empty one; more calls of types -/
namespace Dl
open PySem PySem.Spec PyProof.Rows L2
section
variable {X : Cx} {kx kx' : XD} {ρ ρ' ρ'' : Ro} {M M' M2 R m : Mem} {P : Out → Mem → Prop} {pos p np pos' tpos spos apos cpos : Pos} {tg a b c e o ix elt : Expr} {es : List Expr} {ds zs : List D} {w C : Addr} {x y d dd : D} {α β : Type}
def rEqNil (K : Frag) : R2 := fun x y H Q => ∃ a b xs, x = .ref a ∧ y = .ref b ∧ SqL K H a xs ∧ SqL K H b [] ∧ Q (.bl xs.isEmpty) H
def rNeNil (K : Frag) : R2 := fun x y H Q => ∃ a b xs, x = .ref a ∧ y = .ref b ∧ SqL K H a xs ∧ SqL K H b [] ∧ Q (.bl (!xs.isEmpty)) H
/-! ### dict(pairs) -/
def mergeA (xs : List (Int × Int)) : List (Int × Int) := xs.foldl (fun acc q => putA acc q.1 q.2) []
def kvI (q : Int × Int) : Key × D := (.inl q.1, .int q.2)
end
end Dl

/-! texts: signs, walks, join, split, order, lists of texts -/
namespace Dl
open PySem PySem.Spec PyProof.Rows L2
/-- a text of one sign; a text's signs -/
def sg (c : Nat) : Str := ⟨#[c]⟩
def sgs (s : Str) : List Str := s.cps.toList.map sg
def oneS (s : Str) : Prop := s.cps.size = 1
theorem oneS_sg (c : Nat) : oneS (sg c) := rfl
theorem oneS_out {s : Str} (h : oneS s) : s = sg (s.cps.getD 0 0) := by
  obtain ⟨a⟩ := s
  have h : a.size = 1 := h
  show Str.mk a = Str.mk #[a.getD 0 0]
  congr 1
  apply Array.ext
  · simpa using h
  · intro i h1 h2
    have : i = 0 := by omega
    subst this
    simp [h]
/-- one sign among a text's -/
def inSg (s z : Str) : Bool := decide (s.cps.getD 0 0 ∈ z.cps.toList)
theorem inSg_sg (c : Nat) (z : Str) : inSg (sg c) z = decide (c ∈ z.cps.toList) := rfl
theorem sgs_len (s : Str) : (sgs s).length = s.length := by simp [sgs, Str.length]
section
variable {K : Frag} {H : Hp}
theorem RepA.ofStrs (is : List Str) : RepA K H (is.map V.str) (is.map D.str) := by
  induction is with
  | nil => exact .nil
  | cons i is ih => exact .cons (.str i) ih
end
section
variable {X : Cx} {kx kx' : XD} {ρ ρ' ρ'' : Ro} {M M' M2 R m : Mem} {P : Out → Mem → Prop} {pos p np pos' tpos spos apos cpos : Pos} {tg a b c e o ix elt : Expr} {es : List Expr} {ds zs : List D} {w C : Addr} {x y d dd : D} {α β : Type} {s t : Str}
theorem SeqL.strs {is : List Str} {v : V} {H H0 : Hp} (h : SeqL M x (is.map D.str)) (t : Ht X.K H0 H M) (r : Rep X.K H0 v x) : ∃ p, v = .ref p ∧ SqL X.K H p (is.map V.str) := by
  obtain ⟨p, vs, rfl, h1, h2⟩ := h.rep t r
  have e := h2.strs
  subst e
  exact ⟨p, rfl, h1⟩
/-- text[i] -/
theorem dv_ixSg {i : Int} {c : Nat} (ha : DV X kx a ρ M (.str s)) (hb : DV X kx b ρ M (.int i)) (hl : s.length ≤ 100000) (h : ixE s.cps.toList i = .ok c) (hs : PlainIx b := by intro _ _; rfl) : DV X kx (.Subscript a b pos) ρ M (.str (sg c)) :=
  dv_ix ix_str (fun v u H H0 t r1 r2 Q q => by
    cases r1; cases r2
    refine ⟨s, i, c, rfl, rfl, sz_le hl, ?_, q _ H H0 (Pu.refl t.ex) (.str _)⟩
    obtain ⟨j, e1, e2⟩ := ixE_ixN h
    show (ixN s.cps.toList.length i).bind (fun j => s.cps.toList[j]?) = some c
    rw [e1]; exact e2) ha hb hs
/-- for sign in text -/
theorem wk_str {K : Frag} {H0 : Hp} : WkD K (Its s) H0 ((sgs s).map D.str) := by
  refine ⟨fun _ => True, fun i H v H' => H' = H ∧ ∃ c, s.cps[i]? = some c ∧ v = .str ⟨#[c]⟩, ?_, fun _ _ => trivial, ?_⟩
  · rw [show ((sgs s).map D.str).length = s.cps.size by simp [sgs]]
    exact walk_str
  · intro i H1 x H2 H01 d e1 e2 hd h
    obtain ⟨rfl, c, hc, rfl⟩ := h
    refine ⟨H01, Pu.refl e2, ?_⟩
    rw [List.getElem?_map, sgs, List.getElem?_map, Array.getElem?_toList, hc] at hd
    cases hd
    exact .str _
theorem di_str (h : DV X kx e ρ M (.str s)) : DI X kx tg e ρ M ((sgs s).map D.str) := fun σ H H0 t s' W tk hx R q =>
  sI.by (pi_str (pe_s e)) (h σ H H0 t s' W tk hx _ fun v H' H0' p r => by
    cases r
    exact ⟨s, rfl, q _ H' H0' p wk_str⟩)
/-- a sign in a text -/
theorem r2_inSg (h1 : oneS s) : R2D X.K (fun x y H Q => ∃ (c : Nat) (z : Str), x = .str ⟨#[c]⟩ ∧ y = .str z ∧ Q (.bl (decide (c ∈ z.cps.toList))) H) M (.str s) (.str t) (.bl (inSg s t)) := fun v u H H0 tt r1 r2 Q q => by
  cases r1; cases r2
  exact ⟨s.cps.getD 0 0, t, by rw [show (⟨#[s.cps.getD 0 0]⟩ : Str) = sg (s.cps.getD 0 0) from rfl, ← oneS_out h1], rfl, q _ H H0 (Pu.refl tt.ex) (.bl _)⟩
theorem dv_inSg (h1 : oneS s) (ha : DV X kx a ρ M (.str s)) (hb : DV X kx b ρ M (.str t)) (hm : behindInMarks .In b = false := by rfl) : DV X kx (.Compare a [.In] [b] pos) ρ M (.bl (inSg s t)) := dv_cmp op_in_sign (r2_inSg h1) ha hb hm
/-- a text in a list of texts -/
theorem inV_strs (xs : List Str) : inV (.str s) (xs.map V.str) = decide (s ∈ xs) := by
  unfold inV
  rw [List.any_map, Bool.eq_iff_iff, List.any_eq_true, decide_eq_true_eq]
  constructor
  · rintro ⟨y, hy, h⟩
    have : y = s := by simpa [eqV] using h
    exact this ▸ hy
  · exact fun h => ⟨s, h, by simp [eqV]⟩
theorem flat_strs (xs : List Str) : (xs.map V.str).all flatV = true := by
  rw [List.all_eq_true]; intro y hy; obtain ⟨z, _, rfl⟩ := List.mem_map.mp hy; rfl
theorem r2_inLS {xs : List Str} (hq : SeqL M y (xs.map D.str)) : R2D X.K (rIn X.K false) M (.str s) y (.bl (decide (s ∈ xs))) := fun v u H H0 t r1 r2 Q q => by
  cases r1
  obtain ⟨p, rfl, h1⟩ := hq.strs t r2
  refine ⟨p, _, rfl, .inl h1, rfl, flat_strs xs, ?_⟩
  rw [if_neg (by decide), inV_strs]
  exact q _ H H0 (Pu.refl t.ex) (.bl _)
theorem r2_ninLS {xs : List Str} (hq : SeqL M y (xs.map D.str)) : R2D X.K (rIn X.K true) M (.str s) y (.bl (!decide (s ∈ xs))) := fun v u H H0 t r1 r2 Q q => by
  cases r1
  obtain ⟨p, rfl, h1⟩ := hq.strs t r2
  refine ⟨p, _, rfl, .inl h1, rfl, flat_strs xs, ?_⟩
  rw [if_pos rfl, inV_strs]
  exact q _ H H0 (Pu.refl t.ex) (.bl _)
theorem dv_inLS {xs : List Str} (ha : DV X kx a ρ M (.str s)) (hb : DV X kx b ρ M y) (hq : SeqL M y (xs.map D.str)) (hm : behindInMarks .In b = false := by rfl) : DV X kx (.Compare a [.In] [b] pos) ρ M (.bl (decide (s ∈ xs))) := dv_cmp op_in_seq (r2_inLS hq) ha hb hm
theorem dv_ninLS {xs : List Str} (ha : DV X kx a ρ M (.str s)) (hb : DV X kx b ρ M y) (hq : SeqL M y (xs.map D.str)) (hm : behindInMarks .NotIn b = false := by rfl) : DV X kx (.Compare a [.NotIn] [b] pos) ρ M (.bl (!decide (s ∈ xs))) := dv_cmp op_notIn_seq (r2_ninLS hq) ha hb hm
theorem dt_ninLS {xs : List Str} (ha : DV X kx a ρ M (.str s)) (hb : DV X kx b ρ M y) (hq : SeqL M y (xs.map D.str)) (hm : behindInMarks .NotIn b = false := by rfl) : DT X kx (.Compare a [.NotIn] [b] pos) ρ M (!decide (s ∈ xs)) := dt_cmp op_notIn_seq (r2_ninLS hq) ha hb hm
/-! a text in a tuple of texts -/
/-! order -/
def ltS (s t : Str) : Bool := decide (s.cps.toList < t.cps.toList)
def sortS (xs : List Str) : List Str := xs.mergeSort fun a b => !ltS b a
theorem sortS_perm (xs : List Str) : (sortS xs).Perm xs := List.mergeSort_perm _ _
theorem ltS_total (a b : Str) : (!ltS b a || !ltS a b) = true := by
  unfold ltS
  by_cases h : b.cps.toList < a.cps.toList
  · have : ¬ a.cps.toList < b.cps.toList := List.lt_asymm h
    simp [h, this]
  · simp [h]
theorem ltS_trans (a b c : Str) (h1 : (!ltS b a) = true) (h2 : (!ltS c b) = true) : (!ltS c a) = true := by
  unfold ltS at *
  simp only [Bool.not_eq_true', decide_eq_false_iff_not] at *
  exact List.le_trans (α := Nat) h1 h2
theorem ltS_anti {a b : Str} (h1 : ltS b a = false) (h2 : ltS a b = false) : a = b := by
  unfold ltS at *
  simp only [decide_eq_false_iff_not] at *
  have e : a.cps.toList = b.cps.toList := List.le_antisymm (α := Nat) h1 h2
  exact Str.ext' (Array.toList_inj.mp e)
theorem sortS_asc (xs : List Str) : (sortS xs).Pairwise fun a b => ltS b a = false := by
  have h := List.pairwise_mergeSort (le := fun a b : Str => !ltS b a) ltS_trans ltS_total xs
  exact h.imp fun h => by simpa using h
theorem ascS_one {l m : List Str} (p : l.Perm m) (h1 : l.Pairwise fun a b => ltS b a = false) (h2 : m.Pairwise fun a b => ltS b a = false) : l = m :=
  p.eq_of_pairwise (le := fun a b => ltS b a = false) (fun a b _ _ h1 h2 => ltS_anti h1 h2) h1 h2
theorem rising_pw : ∀ (xs : List Str) (p : Str), PyProof.Rows.risingS p xs = true → (p :: xs).Pairwise fun a b => ltS b a = false
  | [], p, _ => by simp
  | x :: r, p, h => by
    simp only [PyProof.Rows.risingS, Bool.and_eq_true, Bool.not_eq_true'] at h
    have ih := rising_pw r x h.2
    have h1 : ltS x p = false := by have := h.1; rw [ltCps_eq] at this; exact this
    refine List.pairwise_cons.mpr ⟨fun y hy => ?_, ih⟩
    rcases List.mem_cons.mp hy with rfl | hy
    · exact h1
    · have h2 := (List.pairwise_cons.mp ih).1 y hy
      have := ltS_trans p x y (by simp [h1]) (by simp [h2])
      simpa using this
theorem sortedS_pw {xs : List Str} (h : PyProof.Rows.sortedS xs = true) : xs.Pairwise fun a b => ltS b a = false := by
  cases xs with
  | nil => simp
  | cons x r => exact rising_pw r x h
theorem sortedS_one {ys xs : List Str} (p : ys.Perm xs) (h : PyProof.Rows.sortedS ys = true) : ys = sortS xs := ascS_one (p.trans (sortS_perm xs).symm) (sortedS_pw h) (sortS_asc xs)
theorem dv_sortedS {xs : List Str} {f : Str} (n : Bn X f (.builtin "sorted")) (hl : xs.length < 64) (ha : DV X kx e ρ M x) (h : SeqL M x (xs.map D.str))
    (hs : starEach [e] X.env = (false, eval e X.env) :: starEach [] X.env := by rfl) : DV X kx (.Call (.Name f p) [e] [] pos) ρ M (.lst ((sortS xs).map D.str)) :=
  dv_callB n cr_sortedS (fun vs H H0 t r Q q => by
    obtain ⟨v, rfl, r1⟩ := repA1 r
    obtain ⟨l, rfl, h1⟩ := h.strs t r1
    refine ⟨l, xs, rfl, h1, hl, fun ns' pp pm pw hp => ?_⟩
    have e1 := sortedS_one pm pw
    subst e1
    have gp := Pu.new1 t.ex hp (.lst ((sortS xs).map V.str))
    exact q _ _ _ gp (.lst upd_same (RepA.ofStrs _))) (da_cons ha da_nil hs) hs
/-! methods of texts -/
theorem dv_join {ys : List Str} (ho : DV X kx o ρ M (.str s)) (he : DV X kx e ρ M y) (hq : SeqL M y (ys.map D.str)) (hl : (ys.map (·.length)).sum + ys.length * s.length ≤ 16777216) (hs : starEach [e] X.env = [(false, eval e X.env)] := by rfl) (hbase : attributeBase o "join" X.env (eval o X.env) = eval o X.env := by rfl) (hline : (apos.endLine == pos.line) = true := by rfl) :
    DV X kx (.Call (.Attribute o "join" apos) [e] [] pos) ρ M (.str (Txt.join s ys)) := fun σ H H0 t s' W tk hx Q q =>
  sE.by (pe_join (pe_s o) (pe_s e) hs hbase hline) (ho σ H H0 t s' W tk hx _ fun v H1 H01 p1 r1 => by
    cases r1
    exact ⟨⟨_, rfl⟩, he σ H1 H01 (t.pu p1) (s'.mo p1.e0) W tk (hx.pu p1) _ fun u H2 H02 p2 r2 => by
      obtain ⟨l, rfl, h1⟩ := hq.strs (t.pu (p1.trans p2)) r2
      exact ⟨s, l, ys, rfl, rfl, .inl h1, hl, q _ _ _ (p1.trans p2) (.str _)⟩⟩)
theorem dv_split (ho : DV X kx o ρ M (.str s)) (he : DV X kx e ρ M (.str t)) (hb : (t.length == 0) = false) (hl : s.length ≤ 100000) (hs : starEach [e] X.env = [(false, eval e X.env)] := by rfl) (hbase : attributeBase o "split" X.env (eval o X.env) = eval o X.env := by rfl) (hline : (apos.endLine == pos.line) = true := by rfl) :
    DV X kx (.Call (.Attribute o "split" apos) [e] [] pos) ρ M (.lst ((Txt.split s t).map D.str)) := fun σ H H0 tt s' W tk hx Q q =>
  sE.by (pe_split (pe_s o) (pe_s e) hs hbase hline) (ho σ H H0 tt s' W tk hx _ fun v H1 H01 p1 r1 => by
    cases r1
    exact ⟨⟨_, rfl⟩, he σ H1 H01 (tt.pu p1) (s'.mo p1.e0) W tk (hx.pu p1) _ fun u H2 H02 p2 r2 => by
      cases r2
      refine ⟨s, t, rfl, rfl, hb, Nat.le_trans (Nat.add_le_add_right hl 2) (by rw [sizeLine_eq]; decide), fun w hw => ?_⟩
      have gp := Pu.new1 (tt.pu (p1.trans p2)).ex hw (.lst ((Txt.split s t).map V.str))
      exact q _ _ _ ((p1.trans p2).trans gp) (.lst upd_same (RepA.ofStrs _))⟩)
theorem dv_startswith (ho : DV X kx o ρ M (.str s)) (he : DV X kx e ρ M (.str t)) (hs : starEach [e] X.env = [(false, eval e X.env)] := by rfl) (hbase : attributeBase o "startswith" X.env (eval o X.env) = eval o X.env := by rfl) (hline : (apos.endLine == pos.line) = true := by rfl) :
    DV X kx (.Call (.Attribute o "startswith" apos) [e] [] pos) ρ M (.bl (Txt.startswith s t)) := fun σ H H0 tt s' W tk hx Q q =>
  sE.by (pe_m1 F.slot_str_startswith F.type_str_startswith mt_startswith (pe_s o) (pe_s e) hs hbase hline) (ho σ H H0 tt s' W tk hx _ fun v H1 H01 p1 r1 => by
    cases r1
    exact ⟨⟨_, rfl⟩, he σ H1 H01 (tt.pu p1) (s'.mo p1.e0) W tk (hx.pu p1) _ fun u H2 H02 p2 r2 => by
      cases r2
      exact ⟨s, t, rfl, rfl, q _ _ _ (p1.trans p2) (.bl _)⟩⟩)
/-! str(i), int(text), text constants of the module -/
theorem dv_gstr {x : Str} {i : Str} {u : Value} (hg : Gl X x) (hm : X.mg x = some u) (r : RelV (.str i) u) (hd : (x == ("__debug__" : Str)) = false := by decide) : DV X kx (.Name x pos) ρ M (.str i) := fun σ H H0 t s W tk hx Q q =>
  sE.by (pe_glob hg hm r hd) (q _ H H0 (Pu.refl t.ex) (.str i))
/-! a dict that stands for good: its keys sorted, its values walked -/
theorem dv_sortedDK {ek : Str → Key} {f : β → D} {g : Str} {xs : List (Str × β)} (hc : X.calm = true) (n : Bn X g (.builtin "sorted")) (ha : DV X kx e ρ M (.dK (xs.map fun q => ek q.1) (xs.map fun q => f q.2))) (hl : xs.length < 64) (hek : ∀ k, ek k = .inr k := by intro _; rfl)
    (hs : starEach [e] X.env = (false, eval e X.env) :: starEach [] X.env := by rfl) : DV X kx (.Call (.Name g p) [e] [] pos) ρ M (.lst ((sortS (xs.map Prod.fst)).map D.str)) :=
  dv_callB n (call_sortedD hc) (fun vs H H0 t r Q q => by
    obtain ⟨v, rfl, r1⟩ := repA1 r
    cases r1 with
    | @dK a o vs _ ys _ h1 h2 h3 h4 =>
      refine ⟨a, vs, xs.map Prod.fst, rfl, .inr ⟨o, t.ex _ _ h1⟩, ?_, by rw [List.length_map]; exact hl, fun ns' pp pm pw hp => ?_⟩
      · have e1 : vs.map (fun q => q.1) = xs.map fun q => ek q.1 := h2
        rw [e1, List.map_map]
        exact List.map_congr_left fun q _ => hek q.1
      have e1 := sortedS_one pm pw
      subst e1
      have gp := Pu.new1 t.ex hp (.lst ((sortS (xs.map Prod.fst)).map V.str))
      exact q _ _ _ gp (.lst upd_same (RepA.ofStrs _))) (da_cons ha da_nil hs) hs
theorem di_valuesKF {ek : α → Key} {f : β → D} (xs : List (α × β)) (h : DV X kx e ρ M (.dK (xs.map fun q => ek q.1) (xs.map fun q => f q.2))) (hbase : attributeBase e "values" X.env (eval e X.env) = eval e X.env := by rfl) (hline : (apos.endLine == cpos.line) = true := by rfl) : DI X kx tg (.Call (.Attribute e "values" apos) [] [] cpos) ρ M ((xs.map Prod.snd).map f) := by
  have e0 : (xs.map Prod.snd).map f = (xs.map fun q => (ek q.1, f q.2)).map Prod.snd := by rw [List.map_map, List.map_map]; rfl
  rw [e0]
  refine di_valuesK ?_ hbase hline
  rw [List.map_map, List.map_map]
  exact h
end
end Dl

/-! things of any kind -/
namespace Dl
open PySem PySem.Spec PyProof.Rows L2
abbrev dD (d : D) : D := d
def asS : D → Option Str
  | .str s => some s
  | _ => none
def asI : D → Option Int
  | .int s => some s
  | _ => none
def asB : D → Option Bool
  | .bl s => some s
  | _ => none
/-- all of them texts -/
def asSs : List D → Option (List Str)
  | [] => some []
  | d :: ds => match asS d, asSs ds with
    | some s, some ss => some (s :: ss)
    | _, _ => none
def flatD (d : D) : Prop := d.flat = true ∧ SeqAt.shaped d.py = true
def eqvD (x y : D) : Bool := PyData.eqv x.py y.py
/-- by kind: None, truth, int, text, list, tuple -/
def dSel (d : D) (n b i s l t : Bool) : Bool := match d with
  | .non => n
  | .bl _ => b
  | .int _ => i
  | .str _ => s
  | .lst _ => l
  | .scr _ => l
  | .tup _ => t
  | _ => false
section
variable {X : Cx} {kx kx' : XD} {ρ ρ' ρ'' : Ro} {M M' M2 R m : Mem} {P : Out → Mem → Prop} {pos p np pos' tpos spos apos cpos : Pos} {tg a b c e o ix elt : Expr} {es : List Expr} {ds zs : List D} {w C : Addr} {x y d dd : D} {α β : Type} {s t : Str}
end
end Dl

/-! what raises, nothing being changed; things lent meanwhile; calls whose arguments change something -/
namespace Dl
open PySem PySem.Spec PyProof.Rows L2
theorem inv_unlocks3 {X : Cx} {pins pins' : List (Addr × PySem.Obj)} {σ σ' : L2.St} {s s' : Shared} {H : Hp} (I : Inv X pins σ H s) {od : Addr → PySem.Obj} : ∀ (L' : List Addr) (H' : Hp), (∀ a ∈ L', ∃ u, H a = some u ∧ Mut (some u)) → L'.Nodup → (∀ a ∈ L', H' a = (H a).map fun u => .frz (od a) u) →
    Inv X pins' σ' H' s' → Inv X pins' σ' (unlockL H H' L') s'
  | [], H', _, _, _, J => by
    have e : unlockL H H' [] = H' := by funext b; unfold unlockL; rw [if_neg (by simp)]
    rw [e]; exact J
  | a :: L', H', hL', nd, hf, J => by
    obtain ⟨n1, n2⟩ := List.nodup_cons.mp nd
    obtain ⟨u, hu, mu⟩ := hL' a (by simp)
    have ha := hf a (by simp)
    rw [hu] at ha
    have J1 := J.unlock (show H' a = some (.frz (od a) u) from ha) (I.nofrz hu mu)
    have J2 := inv_unlocks3 I (od := od) L' _ (fun b hb => hL' b (List.mem_cons_of_mem _ hb)) n2 (fun b hb => by
      rw [upd_ne (fun z => n1 (by rw [← z]; exact hb))]
      exact hf b (List.mem_cons_of_mem _ hb)) J1
    have e : unlockL H (upd H' a u) L' = unlockL H H' (a :: L') := by
      funext b
      unfold unlockL
      by_cases hb : b = a
      · subst hb; rw [if_neg n1, upd_same, if_pos (by simp), hu]
      · by_cases hl : b ∈ L'
        · rw [if_pos hl, if_pos (List.mem_cons_of_mem _ hl)]
        · rw [if_neg hl, if_neg (by simp [hb, hl]), upd_ne hb]
    rw [e] at J2
    exact J2
theorem XRep.cutL {K : Frag} {H H2 H2' : Hp} {S : Shp} {c : Mem} {dd : Option Addr} {fs : List (Str × D)} (hc : ∀ p ∈ c, ∀ o, H p.1 = some o → MSh S p.2 (some o)) (ho : D.offA S (fs.map Prod.snd) = true) (x : XRep K H H2 dd fs) : XRep K (cutL H c.dom) H2' dd fs := by
  rcases x with x | ⟨h1, d, vs, xs, h2, h3, h4, h5, h6⟩
  · exact .inl x
  · exact .inr ⟨h1, d, vs, xs, h2, by rw [cutL_ne (shNo hc h3 sh_xdX)]; exact h3, h4, h5, RepA.cutL hc _ _ ho h6⟩
section
variable {X : Cx} {kx kx' : XD} {ρ ρ' ρ'' : Ro} {M M' M2 R m : Mem} {P : Out → Mem → Prop} {pos p np pos' tpos spos apos cpos : Pos} {tg a b c e o ix elt : Expr} {es : List Expr} {ds zs dvs gs : List D} {w C : Addr} {x y d dd : D} {α β : Type} {s t : Str} {k : Nat} {n f mn : Str} {fs : List (Str × D)} {S : Shp} {sl : List (Nat × D × D)} {os : List Ow} {E : β → Ow → Prop} {enc : β → D} {r : β}
def DX (X : Cx) (e : Expr) (ρ : Ro) (M : Mem) (n : Str) (fs : List (Str × D)) : Prop :=
  ∀ (σ : L2.St) (H H0 : Hp), Ht X.K H0 H M → Sl X.K H0 σ ρ → ∀ (W : WX), Takes X W → (∀ cls dd H' H0', Pu H0 H H0' H' → XRep X.K H0' H' dd fs → X.mg n = some cls → W cls dd σ H') → ∀ (Q : VK), sE X e σ H Q
def DXA (X : Cx) (es : List Expr) (ρ : Ro) (M : Mem) (n : Str) (fs : List (Str × D)) : Prop :=
  ∀ (σ : L2.St) (H H0 : Hp), Ht X.K H0 H M → Sl X.K H0 σ ρ → ∀ (W : WX), Takes X W → (∀ cls dd H' H0', Pu H0 H H0' H' → XRep X.K H0' H' dd fs → X.mg n = some cls → W cls dd σ H') → ∀ (Q : List V → Hp → Prop), sA X es σ H Q
theorem DX.de (h : DX X e ρ M n fs) (hk : ∀ cls, X.mg n = some cls → kx cls fs ρ M) : DE X kx e ρ M fun _ _ => False := fun σ H H0 t s W tk hx Q q =>
  h σ H H0 t s W tk (fun cls dd H' H0' p xr hm => hx cls dd σ H' H0' fs ρ M p.go (t.pu p) (s.mo p.e0) xr (hk cls hm)) Q
theorem DX.lendO (L : Lends S sl os) (p : M.Perm (Ow.memA os ++ R)) (hj : ∀ q ∈ sl, ρ[q.1]? = some (some q.2.1)) (h : DX X e (setAll ρ sl) R n fs) (ho : D.offA S (fs.map Prod.snd) = true) : DX X e ρ M n fs := fun σ H H0 t s W tk hw Q => by
  have t1 := t.perm p
  obtain ⟨nd, lk⟩ := t1.lockable
  intro pins st I
  obtain ⟨od, I1⟩ := inv_locks _ H I nd lk
  obtain ⟨H0', t3, s3, sm, g3⟩ := lend_in L t1 s hj od
  refine h σ _ H0' t3 s3 (fun cls dd σ' H' => (∀ a ∈ locksOf (Ow.memA os), H' a = lockL H od (locksOf (Ow.memA os)) a) ∧ W cls dd σ' (unlockL H H' (locksOf (Ow.memA os)))) ?_ ?_ Q pins st I1
  · rintro u s' ⟨a, B, sI, pins', σ', H', cls, d, e, I', nb, up, sky, na, os', ag, k, w⟩
    refine tk u s' ⟨a, B, sI, pins', σ', _, cls, d, e, inv_unlocks3 I _ _ lk nd (fun a ha => by rw [k a ha, lockL_in ha]) I', nb, up, sky, ?_, os', ag, w⟩
    unfold unlockL
    rw [if_neg ?_]
    · exact na
    · intro z
      obtain ⟨u', hu, _⟩ := lk a z
      have := k a z
      rw [lockL_in z, hu, na] at this
      cases this
  · intro cls dd H' H0'' p2 xr hm
    obtain ⟨b1, b2, b3⟩ := lend_back (R' := R) t1 L.facts.2.2.2 t3 sm g3 p2
    exact ⟨b1, hw cls dd _ _ b2 (xr.cutL b3 ho) hm⟩
theorem DX.lend1 (hS : ShK S E) (k : OwK E enc) (h : OwR E r d m) (j : Nat) (p : M.Perm (m ++ R)) (hj : ρ[j]? = some (some d)) (hd : DX X e (ρ.set j (some (enc r))) R n fs) (ho : D.offA S (fs.map Prod.snd) = true) : DX X e ρ M n fs := by
  obtain ⟨o, L, rfl⟩ := lends1 hS k h j
  exact DX.lendO L (by rw [memA1]; exact p) (fun q hq => by simp at hq; subst hq; exact hj) hd ho
/-! calls -/
theorem dxa_hd (h : DX X e ρ M n fs) (hs : starEach (e :: es) X.env = (false, eval e X.env) :: starEach es X.env := by rfl) : DXA X (e :: es) ρ M n fs := fun σ H H0 t s W tk hw Q =>
  sA.by (pa_cons (pe_s e) (pa_s es) hs) (h σ H H0 t s W tk hw _)
theorem dxa_tl (hv : DV X kx0 e ρ M d) (h : DXA X es ρ M n fs) (hs : starEach (e :: es) X.env = (false, eval e X.env) :: starEach es X.env := by rfl) : DXA X (e :: es) ρ M n fs := fun σ H H0 t s W tk hw Q =>
  sA.by (pa_cons (pe_s e) (pa_s es) hs) (hv σ H H0 t s W tk Hx.none _ fun v H1 H01 p1 r1 => h σ H1 H01 (t.pu p1) (s.mo p1.e0) W tk (fun cls dd H' H0' p xr hm => hw cls dd H' H0' (p1.trans p) xr hm) _)
theorem dxE_use {args : α → List D} {F : α → Ex β} {vs us : List V} {W : WX} {Q : VK} {σ : L2.St} {H H0 : Hp} {q : α} (hF : F q = .exc n fs) (t : Ht X.K H0 H M) (r : RepA X.K H0 vs ds) (ru : RepA X.K H0 us dvs) (ha : args q = ds ++ dvs)
    (hw : ∀ cls dd H' H0', Pu H0 H H0' H' → XRep X.K H0' H' dd fs → X.mg n = some cls → W cls dd σ H') : spE X.K X.mg args F enc (vs ++ us) H Q (WE W σ) := by
  refine ⟨q, H0, ⟨t.ex, t.tb⟩, by rw [ha]; exact r.app ru, ?_, ?_, ?_⟩
  · intro h; cases hF.symm.trans h
  · rintro v H' H0' d p2 rr ⟨r', h, _⟩; cases hF.symm.trans h
  · rintro cls dd H' H0' fs' p2 xr ⟨n', h, hm⟩; cases hF.symm.trans h; exact hw cls dd H' H0' p2 xr hm
theorem dx_call {args : α → List D} {F : α → Ex β} (G : GF X.prog X.w X.K X.mg X.base k f dvs (spE X.K X.mg args F enc)) (hr : Room k X.A) (hg : Gl X f) (ha : DA X kx0 (e :: es) ρ M ds) (q : α) (hargs : args q = ds ++ dvs)
    (hF : F q = .exc n fs) (hdb : (f == ("__debug__" : Str)) = false := by decide) (he : starEach (e :: es) X.env = (false, eval e X.env) :: starEach es X.env := by rfl) (hpl : (backTo pos (starEach es X.env)).any (·.1) = false := by rfl) : DX X (.Call (.Name f p) (e :: es) [] pos) ρ M n fs := fun σ H H0 t s W tk hw Q =>
  call_e (n := 0) (sp := spE X.K X.mg args F enc) G hr hg t s tk Hx.none ha (fun vs us H1 H01 p1 r ru => dxE_use hF (t.pu p1) r ru hargs fun cls dd H' H0' p2 xr hm => hw cls dd H' H0' (p1.trans p2) xr hm) hdb he hpl
theorem dx_meth {args : α → List D} {F : α → Ex β} {ns : List Str} {pl : Sem Bool} (cl : Cls X.K C) (G : GM X.prog X.w X.K X.mg X.base k C mn dvs (spE X.K X.mg args F enc)) (hr : Room k X.A) (h : DV X kx0 o ρ M y) (ho : Obj M y C ns gs) (ha : DA X kx0 (e :: es) ρ M ds) (q : α) (hargs : args q = (y :: ds) ++ dvs) (hF : F q = .exc n fs)
    (hl : (ns.zip gs).lookup mn = none := by rfl) (he : starEach (e :: es) X.env = (false, eval e X.env) :: starEach es X.env := by rfl) (hpl : (backTo pos (starEach es X.env)).any (·.1) = false := by rfl)
    (ht : eval (.Call (.Attribute o mn apos) (e :: es) [] pos) X.env = (do
      let ov ← eval o X.env
      standAt apos.atName
      let (f, first) ← holding [ov] (getMethod ov mn pl)
      callWith pos f first (backTo pos (starEach (e :: es) X.env)) (backToKw pos (keywordEach [] X.env))) := by rfl) : DX X (.Call (.Attribute o mn apos) (e :: es) [] pos) ρ M n fs := fun σ H H0 t s W tk hw Q =>
  meth_e (sp := spE X.K X.mg args F enc) cl G hr t s tk Hx.none h ho hl ha (fun vs us H1 H01 p1 r ru => dxE_use hF (t.pu p1) r ru hargs fun cls dd H' H0' p2 xr hm => hw cls dd H' H0' (p1.trans p2) xr hm) he hpl ht
theorem dx_methA {ns : List Str} {sp : Sp} {pl : Sem Bool} (cl : Cls X.K C) (G : GM X.prog X.w X.K X.mg X.base k C mn dvs sp) (h : DV X kx0 o ρ M y) (ho : Obj M y C ns gs) (ha : DXA X (e :: es) ρ M n fs) (hl : mn ∉ ns)
    (he : starEach (e :: es) X.env = (false, eval e X.env) :: starEach es X.env := by rfl) (hpl : (backTo pos (starEach es X.env)).any (·.1) = false := by rfl)
    (ht : eval (.Call (.Attribute o mn apos) (e :: es) [] pos) X.env = (do
      let ov ← eval o X.env
      standAt apos.atName
      let (f, first) ← holding [ov] (getMethod ov mn pl)
      callWith pos f first (backTo pos (starEach (e :: es) X.env)) (backToKw pos (keywordEach [] X.env))) := by rfl) : DX X (.Call (.Attribute o mn apos) (e :: es) [] pos) ρ M n fs := fun σ H H0 t s W tk hw Q => by
  obtain ⟨f, fd, ps, dv, vd, g1, g3, g4, g5, g6⟩ := G
  refine fun pins st I => PySem.W.methodCall_KW (pl := pl) (thn (h σ H H0 t s W tk Hx.none (fun v H' => ∃ H01, Pu H0 H H01 H' ∧ Rep X.K H01 v y) (fun v H' H0' p r => ⟨H0', p, r⟩) pins st I) fun u s1 ⟨v, H1, I1, rx, H01, p1, r1⟩ => ?_) ht
  obtain ⟨a, dx, vs, xs, rfl, h1, h2, h3, h4⟩ := ho.rep (t.pu p1) r1
  obtain rfl : u = Value.ref a := rx
  refine getmeth_ok I1 h1 cl g1 ((lookup_rep (f := mn) h2 h3 h4).2 (lookup_no hl)) ?_
  refine PySem.W.callWith_K (first := [.ref a]) (h₀ := X.base) I.ok.mod.kin g1.kp (thn ((pa_s (e :: es)).run pos pins s1 σ H1 (fun vs H' => False) I1 (ha σ H1 H01 (t.pu p1) (s.mo p1.e0) W tk (fun cls dd H' H0' p xr hm => hw cls dd H' H0' (p1.trans p) xr hm) _)) fun us s2 ⟨vs2, H2, I2, r2, z⟩ => z.elim) he hpl
/-! calls whose arguments change something -/
theorem meth_eE {kA : List D → Mem → Prop} {ns : List Str} {sp : Sp} {pl : Sem Bool} (cl : Cls X.K C) (G : GM X.prog X.w X.K X.mg X.base k C mn dvs sp) (hr : Room k X.A) {σ : L2.St} {H H0 : Hp} {Q : VK} {W : WX} (t : Ht X.K H0 H M) (s : Sl X.K H0 σ ρ) (tk : Takes X W) (hx : Hx X W H0 H M kx)
    (h : DV X kx o ρ M y) (ho : Obj M y C ns gs) (hl : (ns.zip gs).lookup mn = none) (ha : DAE X kx (e :: es) ρ M kA)
    (hh : ∀ vs us H1 H01 ds M1, Go H0 H M H01 H1 M1 → Ht X.K H01 H1 M1 → RepA X.K H01 vs (y :: ds) → RepA X.K H01 us dvs → kA ds M1 → sp (vs ++ us) H1 Q (WE W σ))
    (he : starEach (e :: es) X.env = (false, eval e X.env) :: starEach es X.env) (hpl : (backTo pos (starEach es X.env)).any (·.1) = false)
    (ht : eval (.Call (.Attribute o mn apos) (e :: es) [] pos) X.env = (do
      let ov ← eval o X.env
      standAt apos.atName
      let (f, first) ← holding [ov] (getMethod ov mn pl)
      callWith pos f first (backTo pos (starEach (e :: es) X.env)) (backToKw pos (keywordEach [] X.env))) := by rfl) : sE X (.Call (.Attribute o mn apos) (e :: es) [] pos) σ H Q := by
  obtain ⟨f, fd, ps, dv, vd, g1, g3, g4, g5, g6⟩ := G
  refine fun pins st I => PySem.W.methodCall_KW (pl := pl) (thn (h σ H H0 t s W tk hx (fun v H' => ∃ H01, Pu H0 H H01 H' ∧ Rep X.K H01 v y) (fun v H' H0' p r => ⟨H0', p, r⟩) pins st I) fun u s1 ⟨v, H1, I1, rx, H01, p1, r1⟩ => ?_) ht
  obtain ⟨a, dx, vs, xs, rfl, h1, h2, h3, h4⟩ := ho.rep (t.pu p1) r1
  obtain rfl : u = Value.ref a := rx
  refine getmeth_ok I1 h1 cl g1 ((lookup_rep (f := mn) h2 h3 h4).2 hl) ?_
  refine PySem.W.callWith_K (first := [.ref a]) (h₀ := X.base) I.ok.mod.kin g1.kp (thn ((pa_s (e :: es)).run pos pins s1 σ H1 (fun vs H' => ∃ H02 ds M1, Go H01 H1 M H02 H' M1 ∧ Ht X.K H02 H' M1 ∧ RepA X.K H02 vs ds ∧ kA ds M1) I1 (ha σ H1 H01 (t.pu p1) (s.mo p1.e0) W tk (hx.pu p1) _ fun vs H' H0' ds M1 g t' r kd => ⟨H0', ds, M1, g, t', r, kd⟩)) fun us s2 ⟨vs2, H2, I2, r2, H02, ds, M1, g, t', q2, kd⟩ => ⟨I2.kIn, ?_⟩) he hpl
  exact run_fnSD (us := .ref a :: us) (vs := .ref a :: vs2) (E := WE W) g3 hr g4 g5 (passAt tk σ) I2 (.cons rfl r2) (hh _ vd H2 H02 ds M1 (p1.go.trans g) t' (.cons (r1.mo g.e0) q2) (g6 _) kd)
theorem de_methRE {args : α → List D} {Mi : α → Mem} {pre : α → Prop} {F : α → Ex β} {res : α → β → D → Mem → Prop} {kk : D → Mem → Prop} {ns : List Str} {pl : Sem Bool} (cl : Cls X.K C) (G : GM X.prog X.w X.K X.mg X.base k C mn dvs (spR X.K X.mg args Mi pre F res)) (hr : Room k X.A) (h : DV X kx o ρ M y) (ho : Obj M y C ns gs)
    (ha : DAE X kx (e :: es) ρ M fun ds M1 => ∃ q R r, args q = (y :: ds) ++ dvs ∧ M1.Perm (Mi q ++ R) ∧ pre q ∧ F q = .ok r ∧ ∀ d m, res q r d m → kk d (m ++ R))
    (hl : mn ∉ ns) (he : starEach (e :: es) X.env = (false, eval e X.env) :: starEach es X.env := by rfl) (hpl : (backTo pos (starEach es X.env)).any (·.1) = false := by rfl) (ht : eval (.Call (.Attribute o mn apos) (e :: es) [] pos) X.env = (do
      let ov ← eval o X.env
      standAt apos.atName
      let (f, first) ← holding [ov] (getMethod ov mn pl)
      callWith pos f first (backTo pos (starEach (e :: es) X.env)) (backToKw pos (keywordEach [] X.env))) := by rfl) : DE X kx (.Call (.Attribute o mn apos) (e :: es) [] pos) ρ M kk := fun σ H H0 t s W tk hx Q qq =>
  meth_eE cl G hr t s tk hx h ho (lookup_no hl) ha (fun vs us H1 H01 ds M1 g0 t1 r1 ru ⟨q, R, r, hargs, pm, hp, hF, hk⟩ => spR_use t1 (s.mo g0.e0) (hx.step g0) r1 ru q hargs pm hp hF fun v H' H0' d m g t' _ _ _ r2 rs => qq v H' H0' d _ (g0.trans g) t' r2 (hk d m rs)) he hpl ht
end
/-! ### dicts of owned things: what stands at the keys -/
section
variable {κ β : Type} [DecidableEq κ] {E : β → Ow → Prop}
inductive OwD (E : β → Ow → Prop) : List (κ × β) → List (κ × D) → Mem → Prop
  | nil : OwD E [] [] []
  | cons {k : κ} {r : β} {d : D} {xs : List (κ × β)} {rs : List (κ × D)} {m1 m2 : Mem} : OwR E r d m1 → OwD E xs rs m2 → OwD E ((k, r) :: xs) ((k, d) :: rs) (m1 ++ m2)
theorem OwD.keys {xs : List (κ × β)} {rs : List (κ × D)} {m : Mem} (h : OwD E xs rs m) : rs.map Prod.fst = xs.map Prod.fst := by
  induction h with
  | nil => rfl
  | cons a b ih => simp [ih]
theorem OwD.len {xs : List (κ × β)} {rs : List (κ × D)} {m : Mem} (h : OwD E xs rs m) : rs.length = xs.length := by
  have := congrArg List.length h.keys
  simpa using this
theorem OwD.get {xs : List (κ × β)} {rs : List (κ × D)} {m : Mem} (h : OwD E xs rs m) (k : κ) : (getA rs k).isSome = (getA xs k).isSome := by
  induction h with
  | nil => rfl
  | @cons k' r d xs rs m1 m2 a b ih =>
    unfold getA at *
    by_cases e : k' = k
    · simp [e]
    · simp [e, ih]
theorem putA_cons_eq {k : κ} {r v : β} {xs : List (κ × β)} (h : k ∉ xs.map Prod.fst) : putA ((k, r) :: xs) k v = (k, v) :: xs := by
  unfold putA
  rw [if_pos (by simp)]
  simp only [List.map_cons, if_true, List.cons.injEq, true_and]
  conv => rhs; rw [← List.map_id xs]
  refine List.map_congr_left fun q hq => ?_
  rw [if_neg (fun e => h (List.mem_map.mpr ⟨q, hq, e⟩))]; rfl
theorem putA_cons_ne {k k' : κ} {r v : β} {xs : List (κ × β)} (h : k' ≠ k) : putA ((k', r) :: xs) k v = (k', r) :: putA xs k v := by
  unfold putA
  simp only [List.any_cons, h, decide_false, Bool.false_or]
  split
  · simp [h]
  · simp
theorem putA_nil (k : κ) (v : β) : putA ([] : List (κ × β)) k v = [(k, v)] := by unfold putA; simp
theorem putA_keys (xs : List (κ × β)) (k : κ) (v : β) (nd : (xs.map Prod.fst).Nodup) : ((putA xs k v).map Prod.fst).Nodup := by
  induction xs with
  | nil => rw [putA_nil]; simp
  | cons q xs ih =>
    obtain ⟨k', r⟩ := q
    obtain ⟨n1, n2⟩ := List.nodup_cons.mp nd
    by_cases e : k' = k
    · subst e; rw [putA_cons_eq n1]; exact nd
    · rw [putA_cons_ne e]
      refine List.nodup_cons.mpr ⟨fun z => ?_, ih n2⟩
      have : ∀ (ys : List (κ × β)), k' ∈ (putA ys k v).map Prod.fst → k' ∈ ys.map Prod.fst := fun ys hy => by
        unfold putA at hy
        split at hy
        · rw [List.map_map] at hy
          obtain ⟨q, hq, e2⟩ := List.mem_map.mp hy
          refine List.mem_map.mpr ⟨q, hq, ?_⟩
          rw [← e2]
          by_cases c : q.1 = k <;> simp [c]
        · rw [List.map_append, List.mem_append] at hy
          rcases hy with hy | hy
          · exact hy
          · exact absurd (by simpa using hy) e
      exact n1 (this xs z)
theorem getA_cons' {k k' : κ} {r : β} {xs : List (κ × β)} : getA ((k', r) :: xs) k = if k' = k then some r else getA xs k := by
  unfold getA
  by_cases e : k' = k <;> simp [e]
theorem OwD.foc {xs : List (κ × β)} {rs : List (κ × D)} {m : Mem} (h : OwD E xs rs m) (nd : (xs.map Prod.fst).Nodup) {k : κ} {r : β} (hg : getA xs k = some r) :
    ∃ d mr mx, getA rs k = some d ∧ OwR E r d mr ∧ m.Perm (mr ++ mx) ∧ ∀ r' mr', OwR E r' d mr' → ∃ m', OwD E (putA xs k r') rs m' ∧ (mr' ++ mx).Perm m' := by
  induction h with
  | nil => cases hg
  | @cons k' r0 d xs rs m1 m2 a b ih =>
    obtain ⟨n1, n2⟩ := List.nodup_cons.mp nd
    rw [getA_cons'] at hg
    by_cases e : k' = k
    · subst e
      rw [if_pos rfl] at hg
      cases hg
      refine ⟨d, m1, m2, by rw [getA_cons', if_pos rfl], a, .refl _, fun r' mr' h' => ⟨mr' ++ m2, ?_, .refl _⟩⟩
      rw [putA_cons_eq n1]
      exact .cons h' b
    · rw [if_neg e] at hg
      obtain ⟨d', mr, mx, i1, i2, i3, i4⟩ := ih n2 hg
      refine ⟨d', mr, m1 ++ mx, by rw [getA_cons', if_neg e]; exact i1, i2, ?_, fun r' mr' h' => ?_⟩
      · refine (List.Perm.append_left m1 i3).trans ?_
        rw [← List.append_assoc, ← List.append_assoc]
        exact List.Perm.append_right mx List.perm_append_comm
      · obtain ⟨m', j1, j2⟩ := i4 r' mr' h'
        refine ⟨m1 ++ m', ?_, ?_⟩
        · rw [putA_cons_ne e]; exact .cons a j1
        · refine List.Perm.trans ?_ (List.Perm.append_left m1 j2)
          rw [← List.append_assoc, ← List.append_assoc]
          exact List.Perm.append_right mx List.perm_append_comm
theorem OwD.put {xs : List (κ × β)} {rs : List (κ × D)} {m : Mem} (h : OwD E xs rs m) (nd : (xs.map Prod.fst).Nodup) (k : κ) {r : β} {d : D} {mr : Mem} (hr : OwR E r d mr) : ∃ m' old, OwD E (putA xs k r) (putA rs k d) m' ∧ (mr ++ m).Perm (m' ++ old) := by
  induction h with
  | nil => exact ⟨mr ++ [], [], by rw [putA_nil, putA_nil]; exact .cons hr .nil, by simp⟩
  | @cons k' r0 d0 xs rs m1 m2 a b ih =>
    obtain ⟨n1, n2⟩ := List.nodup_cons.mp nd
    by_cases e : k' = k
    · subst e
      refine ⟨mr ++ m2, m1, ?_, ?_⟩
      · rw [putA_cons_eq n1, putA_cons_eq (by rw [b.keys]; exact n1)]
        exact .cons hr b
      · rw [List.append_assoc]
        exact List.Perm.append_left mr List.perm_append_comm
    · obtain ⟨m', old, i1, i2⟩ := ih n2
      refine ⟨m1 ++ m', old, ?_, ?_⟩
      · rw [putA_cons_ne e, putA_cons_ne e]; exact .cons a i1
      · rw [List.append_assoc]
        refine List.Perm.trans ?_ (List.Perm.append_left m1 i2)
        rw [← List.append_assoc, ← List.append_assoc]
        exact List.Perm.append_right m2 List.perm_append_comm
theorem OwD.all {xs : List (κ × β)} {rs : List (κ × D)} {m : Mem} (h : OwD E xs rs m) : ∃ os, All2 E (xs.map Prod.snd) os ∧ rs.map Prod.fst = xs.map Prod.fst ∧ rs.map Prod.snd = Ow.rootA os ∧ m = Ow.memA os := by
  induction h with
  | nil => exact ⟨[], .nil, rfl, by simp [Ow.rootA], by simp [Ow.memA]⟩
  | cons a b ih =>
    obtain ⟨o, h1, rfl, rfl⟩ := a
    obtain ⟨os, h2, e1, e2, rfl⟩ := ih
    exact ⟨o :: os, .cons h1 h2, by simp [e1], by simp [Ow.rootA, e2], by simp [Ow.memA]⟩
theorem All2.owD {E : β → Ow → Prop} : ∀ {xs : List (κ × β)} {os : List Ow}, All2 E (xs.map Prod.snd) os → OwD E xs ((xs.map Prod.fst).zip (Ow.rootA os)) (Ow.memA os)
  | [], _, h => by cases h; simp [Ow.rootA, Ow.memA]; exact .nil
  | (k, r) :: xs, _, h => by
    have h' : All2 E (r :: xs.map Prod.snd) _ := h
    cases h' with
    | cons a b =>
      simp only [Ow.rootA, Ow.memA, List.map_cons, List.zip_cons_cons]
      exact .cons ⟨_, a, rfl, rfl⟩ (All2.owD b)
theorem zip_of {α γ : Type} : ∀ (rs : List (α × γ)), rs = (rs.map Prod.fst).zip (rs.map Prod.snd)
  | [] => rfl
  | q :: rs => by simp [← zip_of rs]
theorem sh_all2 {γ : Type} {S : Shp} {E : γ → Ow → Prop} (hS : ShK S E) {rs : List γ} {os : List Ow} (h : All2 E rs os) : ∀ p ∈ Ow.memA os, MuSh S p.2 = true := by
  induction h with
  | nil => intro p hp; simp [Ow.memA] at hp
  | cons a b ih =>
    intro p hp
    simp only [Ow.memA, List.mem_append] at hp
    exact hp.elim (hS _ _ a p) (ih p)
theorem OwD.off {S : Shp} (hE : OffK S E) {xs : List (κ × β)} {rs : List (κ × D)} {m : Mem} (h : OwD E xs rs m) : (∀ p ∈ m, p.2.offM S = true) ∧ ∀ q ∈ rs, q.2.off S = true := by
  induction h with
  | nil => exact ⟨fun p hp => by simp at hp, fun q hq => by simp at hq⟩
  | cons a b ih =>
    obtain ⟨h1, h2⟩ := hE _ _ _ a
    refine ⟨fun p hp => (List.mem_append.mp hp).elim (h2 p) (ih.1 p), fun q hq => ?_⟩
    rcases List.mem_cons.mp hq with rfl | hq
    · exact h1
    · exact ih.2 q hq
theorem zip_keys {α : Type} {ek : κ → α} {xs : List (κ × β)} {ds : List D} : ((xs.map Prod.fst).zip ds).map (fun q => (ek q.1, dD q.2)) = (xs.map fun q => ek q.1).zip ds := by
  induction xs generalizing ds with
  | nil => simp
  | cons x xs ih => cases ds with
    | nil => simp
    | cons d ds => simp [ih]
theorem pm_two {T m m1 m2 R : Mem} (p : T.Perm (m ++ R)) (q : m.Perm (m1 ++ m2)) : T.Perm (m1 ++ (m2 ++ R)) := by
  refine p.trans ((List.Perm.append_right R q).trans ?_)
  rw [List.append_assoc]
theorem pm_cls {T m1 m2 m' R : Mem} (p : T.Perm ((m1 ++ (m2 ++ [])) ++ R)) (q : (m1 ++ m2).Perm m') : T.Perm (m' ++ R) := by
  rw [List.append_nil] at p
  exact p.trans (List.Perm.append_right R q)
theorem pm_put {T m1 m2 m' old R : Mem} (p : T.Perm ((m1 ++ (m2 ++ [])) ++ R)) (q : (m1 ++ m2).Perm (m' ++ old)) : T.Perm (m' ++ (old ++ R)) := by
  have := pm_cls p q
  rwa [List.append_assoc] at this
theorem mem_sub {T m R : Mem} (p : T.Perm (m ++ R)) : ∀ q ∈ m, q ∈ T := fun q hq => p.mem_iff.mpr (List.mem_append_left _ hq)
theorem sub_mid {m old R : Mem} : (m ++ R).Sublist (m ++ (old ++ R)) := List.Sublist.append_left (List.sublist_append_right _ _) _
end
/-! ### how often a text is in a list -/
def eqks (k : Str) (v : Value) : Bool := match v with
  | .str n _ => n == k
  | _ => false
theorem eqks_at {k : Str} {t : Tok} {A : Around} {s : Shared} : ∀ {xs : List Str} {us : List Value}, Vals (xs.map V.str) us → ∀ y ∈ us, SeqAt.EqAt A s y (.str k t) (eqks k y)
  | [], _, h, y, hy => by cases h; simp at hy
  | x :: xs, _, h, y, hy => by
    have h' : Vals (V.str x :: xs.map V.str) _ := h
    cases h' with
    | cons a b =>
      obtain ⟨u, rfl⟩ := a
      rcases List.mem_cons.mp hy with rfl | hy
      · exact SeqAt.EqAt.str_str x u k t
      · exact eqks_at b y hy
theorem eqks_count {k : Str} : ∀ {xs : List Str} {us : List Value}, Vals (xs.map V.str) us → us.countP (eqks k) = xs.count k
  | [], _, h => by cases h; rfl
  | x :: xs, _, h => by
    have h' : Vals (V.str x :: xs.map V.str) _ := h
    cases h' with
    | cons a b =>
      obtain ⟨u, rfl⟩ := a
      have ih := eqks_count (k := k) b
      rw [List.countP_cons, List.count_cons, ih] <;> rfl
def rCntS (K : PySem.W.Frag) : V → List V → Hp → VK → Prop := fun x xs H Q => ∃ (p : Addr) (ns : List Str) (k : Str), x = .ref p ∧ xs = [.str k] ∧ SqL K H p (ns.map V.str) ∧ Q (.int (ns.count k : Nat)) H
section
variable {X : Cx} {kx : XD} {ρ : Ro} {M : Mem} {pos apos cpos : Pos} {e o : Expr} {y : D}
theorem mt_lcountS : MtR X "list.count" (rCntS X.K) := by
  intro pins s σ H x xs v us Q I rx rxs h
  obtain ⟨p, ns, k, rfl, rfl, hs, q⟩ := h
  cases rx
  obtain ⟨u, rfl, ru⟩ := rxs.one
  obtain ⟨t, rfl⟩ := ru
  obtain ⟨its, rv, ⟨⟨cls, dd, data, sl⟩, n, ho, hc, hdn, hd⟩, hlen⟩ := I.list hs
  simp only at hc hd
  subst hc hd
  refine call_meets PySem.F.slot_list_count ⟨_, ho, rfl⟩ PySem.F.entry_list_count (PySem.F.args_list_count_2 _ _)
    (SeqAt.list_countAt p its.toArray n dd sl (.str k t) (eqks k)) ⟨ho, fun y hy => eqks_at rv y (by simpa using hy), ?_⟩
  have ec : its.toArray.toList.countP (eqks k) = ns.count k := eqks_count rv
  refine ⟨.int (ns.count k : Nat), H, I.tok _, ⟨s.toks, ?_⟩, q⟩
  show Value.int ((its.toArray.toList.countP (eqks k) : Nat) : Int) s.toks = Value.int ((ns.count k : Nat) : Int) s.toks
  rw [ec]
theorem tyV_list {K : Frag} {H : Hp} {p : Addr} {xs : List V} (h : SqL K H p xs) : tyV K "list" (.ref p) H := by
  exact .inl ⟨rfl, xs, h⟩
theorem dv_lcountS {xs : List Str} {k : Str} (ho : DV X kx o ρ M y) (hq : SeqL M y (xs.map D.str)) (he : DV X kx e ρ M (.str k)) (hb : attributeBase o "count" X.env (eval o X.env) = eval o X.env := by rfl)
    (hfew : ((backTo cpos (starEach [e] X.env)).all (fun x => !x.1) && (backToKw cpos (keywordEach [] X.env)).all (fun x => x.1.isSome) && decide (([e] : List Expr).length + ([] : List Keyword).length + (if ([] : List Keyword).isEmpty then 0 else 1) < 30)) = true := by rfl)
    (hline : (apos.endLine == cpos.line) = true := by rfl) (hs : starEach [e] X.env = (false, eval e X.env) :: starEach [] X.env := by rfl) : DV X kx (.Call (.Attribute o "count" apos) [e] [] cpos) ρ M (.int ((xs.count k : Nat) : Int)) := fun σ H H0 t s' W tk hx Q q =>
  sE.by (pe_bm PySem.F.plainAttrs_list PySem.F.slot_list_count PySem.F.type_list_count mt_lcountS (pe_s o) (pa_s [e]) hb hfew hline hs rfl) (ho σ H H0 t s' W tk hx _ fun v H1 H01 p1 r1 => by
    obtain ⟨p, rfl, h1⟩ := hq.strs (t.pu p1) r1
    refine ⟨tyV_list h1, (da_cons he da_nil hs : DA X kx [e] ρ M [.str k]) σ H1 H01 (t.pu p1) (s'.mo p1.e0) W tk (hx.pu p1) _ fun us H2 H02 p2 r2 => ?_⟩
    obtain ⟨u, rfl, r3⟩ := repA1 r2
    cases r3
    obtain ⟨p', e1, h2⟩ := hq.strs (t.pu (p1.trans p2)) (r1.mo p2.e0)
    cases e1
    exact ⟨p, xs, k, rfl, rfl, h2, q _ _ _ (p1.trans p2) (.int _)⟩)
end
/-- None or something that is not None -/
def noN (o : Option D) : Prop := ∀ d, o = some d → d.isNon = false
section
variable {X : Cx} {kx : XD} {ρ : Ro} {M : Mem} {pos p2 : Pos} {a : Expr} {o : Option D} {j : Nat}
end
end Dl

/-! zip of three lists; lists of things that change, laid open while they are walked -/
namespace Dl
open PySem PySem.Spec PyProof.Rows L2
/-! ### zip of three lists -/
def Itz3 (K : PySem.W.Frag) (a b c : Addr) : It :=
  ⟨fun i H => ∃ (xs ys zs : List V) (x y u : V), SqL K H a xs ∧ SqL K H b ys ∧ SqL K H c zs ∧ xs[i]? = some x ∧ ys[i]? = some y ∧ zs[i]? = some u,
    fun i H v H' => ∃ T x y u, v = .ref T ∧ H T = none ∧ H' = upd H T (.tup [x, y, u]) ∧ (∀ xs, SqL K H a xs → xs[i]? = some x) ∧ (∀ ys, SqL K H b ys → ys[i]? = some y) ∧ ∀ zs, SqL K H c zs → zs[i]? = some u,
    fun i H => ∃ xs ys zs : List V, SqL K H a xs ∧ SqL K H b ys ∧ SqL K H c zs ∧ i ≤ xs.length ∧ i ≤ ys.length ∧ i ≤ zs.length ∧ (i = xs.length ∨ i = ys.length ∨ i = zs.length)⟩
def iZip3 (K : PySem.W.Frag) (ta : TA) : TI := fun σ H R => ta σ H fun vs H1 => ∃ a b c xs ys zs, vs = [.ref a, .ref b, .ref c] ∧ SqL K H1 a xs ∧ SqL K H1 b ys ∧ SqL K H1 c zs ∧ R (Itz3 K a b c) H1
def YTrip (xs ys zs : Nat → Option V) : Nat → Hp → V → Hp → Prop := fun i H v H' => ∃ T x y u, v = .ref T ∧ H T = none ∧ H' = upd H T (.tup [x, y, u]) ∧ xs i = some x ∧ ys i = some y ∧ zs i = some u
section
variable {X : Cx} {kx : XD} {ρ : Ro} {M : Mem} {a b c : Expr} {p pos : Pos} {α β γ : Type} {x y z : D}
end
section
variable {X : Cx} {kx : XD} {ρ : Ro} {M : Mem} {a b : Expr} {pos : Pos} {k : Bool} {kk : D → Mem → Prop}
end
/-! ### a list of things that change, laid open: the list stands for good, the things do not -/
section
variable {β : Type} {E : β → Ow → Prop} {f : Int → D} {n : Nat}
def isOpn (f : Int → D) (n : Nat) (E : β → Ow → Prop) (rs : List β) (o : Ow) : Prop := ∃ os, o = .tup os ∧ All2 E rs os ∧ Ow.rootA os = (rngD 0 n).map f
/-- a list that stands for good, of things that change -/
def isSeq (E : β → Ow → Prop) (rs : List β) (o : Ow) : Prop := ∃ os, o = .seq os ∧ All2 E rs os
end
end Dl

/-! a method that only hands something back, called while an exception is handled -/
namespace Dl
open PySem PySem.Spec PyProof.Rows L2
structure RoomQ (k : Nat) (A : Around) : Prop where
  dp : A.depth + 3 * k + 5 < recursionLimit
  un : A.units + 16 * k + 200 < cLine
theorem RoomQ.deeper {k : Nat} {A : Around} (r : RoomQ (k + 1) A) (env : Env) : RoomQ k (A.deeper env) :=
  ⟨by have := r.dp; show A.depth + 1 + 3 * k + 5 < _; omega, by have := r.un; show A.units + 3 + 16 * k + 200 < _; omega⟩
structure FnQ (P : Program) (w : World) (K : Frag) (mg : Str → Option Value) (base : Heap) (CX : CXT) (k : Nat) (f : Addr) (fd : FuncData) (ps : List Str) (sp : Sp) : Prop where
  len : ∀ vs H Q E, sp vs H Q E → vs.length = ps.length
  run : ∀ (A : Around) (outer : List Env) (s : Shared) (H : Hp) (args : Args) (us : List Value) (vs : List V) (Q : VK) (E : XK), RoomQ k A → Env0 P w K mg base A outer s H → BindsTo s fd args (ps.zip us) → Vals vs us → sp vs H Q E →
    codeAny (model P w) A (.call (.ref f) args) (CR CX outer P w H s Q E) s
def cxQ (CX : CXT) (P : Program) (w : World) (K : Frag) (mg : Str → Option Value) (base : Heap) (N : List Str) (qual : Str) (scope : Scope) (f : Addr) (cd : Value) (A : Around) (outer : List Env) (s : Shared) (H : Hp) (E : XK) : Cx :=
  { cxOf CX P w K mg base N qual scope f cd A outer s H E with calm := false }
section
variable {CX : CXT} {P : Program} {w : World} {K : Frag} {mg : Str → Option Value} {base : Heap}
/-- a getter: what it promises -/
abbrev spQ (K : Frag) {α β : Type} (args : α → List D) (F : α → Ex β) (enc : β → D) : Sp := spP K args (fun a => ∃ r, F a = .ok r) (fun a d => ∃ r, F a = .ok r ∧ d = enc r) fun _ _ _ => False
def GMQ (P : Program) (w : World) (K : Frag) (mg : Str → Option Value) (base : Heap) (k : Nat) (C : Addr) (m : Str) (sp : Sp) : Prop :=
  ∃ (f : Addr) (fd : FuncData) (ps : List Str), Meth K C m f ∧ FnQ P w K mg base (L2.CX P w) k f fd ps sp ∧ Binds K fd ps []
end
section
variable {X : Cx} {kx : XD} {ρ : Ro} {M : Mem} {pos apos : Pos} {o : Expr} {y z : D} {α β : Type} {k : Nat} {m : Str} {C : Addr} {args : α → List D} {F : α → Ex β} {enc : β → D} {ns : List Str} {fs : List D} {pl : Sem Bool}
end
end Dl

/-! shifts to the right, masks -/
namespace Dl
open PySem PySem.Spec PyProof.Rows L2
section
variable {X : Cx} {kx : XD} {ρ : Ro} {M : Mem} {a b : Expr} {pos : Pos} {i j : Int}
end
end Dl

/-! what the top has written, read off the end of one run: the law's head by HandSHeadRun.head_any -/
namespace Dl
open PySem PySem.Spec PyProof.Rows L2 He
abbrev Chk : Type := Frag → Bool
/-! ### the part of the heap that is looked at -/
def gVal (g : Addr → Option PySem.Obj) (ns : Addr) (x : Str) : Option Addr := match g ns with
  | some ⟨_, _, .dict es _, _⟩ => (match es.toList.find? (·.key.isStr x) with
    | some e => (match e.val with
      | .ref a => some a
      | _ => none)
    | none => none)
  | _ => none
def gFn (g : Addr → Option PySem.Obj) : Option Addr → List Addr
  | none => []
  | some f => (match g f with
    | some ⟨_, _, .func fd, _⟩ => f :: (refV fd.code ++ refV fd.defaults)
    | _ => [f])
def gCls (g : Addr → Option PySem.Obj) (x : Str) : List Addr := match gVal g mainGlobals x with
  | some C => (match g C with
    | some ⟨_, _, .cls cd, _⟩ => [C, cd.ns]
    | _ => [C])
  | none => []
def gDef (g : Addr → Option PySem.Obj) (p : Str × Option Str) : List Addr := match p.2 with
  | none => gFn g (gVal g mainGlobals p.1)
  | some m => (match gVal g mainGlobals p.1 with
    | some C => (match g C with
      | some ⟨_, _, .cls cd, _⟩ => gFn g (gVal g cd.ns m)
      | _ => [])
    | none => [])
def gAll (g : Addr → Option PySem.Obj) (cl : List Str) (fn : List DefD) : List Addr := mainGlobals :: cStatics :: (cl.flatMap (gCls g) ++ fn.flatMap fun d => gDef g d.at_)
/-! ### the Hook -/
def obsH (cs : List Chk) (fn : List DefD) (K : Frag) : AlD := ((cs.all fun f => f K) && fn.all fun d => d.ok K, fn.map fun d => fnW K d.at_)
def SaysH (cs : List Chk) (fn : List DefD) (K : Frag) : Prop := obsH cs fn K = valD fn
def obsHG (cl : List Str) (cs : List Chk) (fn : List DefD) (g : Addr → Option PySem.Obj) : AlD := obsH cs fn (frG g (gAll g cl fn))
def hookH (cl : List Str) (cs : List Chk) (fn : List DefD) : PySem.W.Hook where
  α := AlD
  obs := fun s => obsHG cl cs fn s.heap.get?
  val := fun _ => valD fn
  says := fun _ h => ∃ K : Frag, K.In h ∧ SaysH cs fn K
  of := fun _ _ e => ⟨_, frG_in, e⟩
  keeps := fun _ _ _ ⟨K, hK, c⟩ k => ⟨K, PySem.W.Frag.In.keeps hK k, c⟩
section
variable {cs : List Chk} {fn : List DefD} {K : Frag}
theorem SaysH.fact (c : SaysH cs fn K) (i : Nat) {f : Chk} (h : cs[i]? = some f := by rfl) : f K = true := by
  have c1 := (ba (show ((cs.all fun f => f K) && fn.all fun d => d.ok K) = true from congrArg (fun z : AlD => z.1) c)).1
  exact List.all_eq_true.mp c1 f (List.mem_of_getElem? h)
theorem SaysH.def_ (c : SaysH cs fn K) (i : Nat) {d : DefD} (h : fn[i]? = some d := by rfl) : ∃ fd, FunD K d.name d.qual d.params d.body d.scope (d.dvs K) (d.kws K) (fAd K d.at_) fd := by
  have c2 := (ba (show ((cs.all fun f => f K) && fn.all fun d => d.ok K) = true from congrArg (fun z : AlD => z.1) c)).2
  have e : fn.map (fun d => fnW K d.at_) = fn.map DefD.val := congrArg (fun z : AlD => z.2) c
  have e2 : (fn.map fun d => fnW K d.at_)[i]? = (fn.map DefD.val)[i]? := by rw [e]
  rw [List.getElem?_map, List.getElem?_map, h] at e2
  exact DefD.funD (Option.some.inj e2) (List.all_eq_true.mp c2 d (List.mem_of_getElem? h))
end
/-! ### checks -/
def excCB (K : Frag) (C : Addr) : Bool := eqO (PySem.W.findIn K (.ref C) "__getattribute__") (some (some (.builtin "BaseException.__getattribute__"))) && (eqO (PySem.W.findIn K (.ref C) "__getattr__") (some none) && (decide (PySem.W.subIn K (.ref C) (.type "BaseException") = some true) && (PySem.W.hasDictIn K C &&
  (eqO (PySem.W.findIn K (.ref C) "__class__") (some (some (.builtin "object.__class__"))) && (eqO (PySem.W.specialIn K (.builtin "object.__class__") "__get__") (some (some (.builtin "getset_descriptor.__get__"))) && (decide (PySem.W.takesIn K (.builtin "object.__class__") = some true) && decide (PySem.W.mroIn K C (.type "object") = some true)))))))
theorem excCB_ok {K : Frag} {C : Addr} (h : excCB K C = true) : ExcC K C := by
  obtain ⟨h1, h⟩ := ba h
  obtain ⟨h2, h⟩ := ba h
  obtain ⟨h3, h⟩ := ba h
  obtain ⟨h4, h⟩ := ba h
  obtain ⟨h5, h⟩ := ba h
  obtain ⟨h6, h⟩ := ba h
  obtain ⟨h7, h8⟩ := ba h
  exact ⟨eqO_ok h1, eqO_ok h2, of_decide_eq_true h3, h4, eqO_ok h5, eqO_ok h6, of_decide_eq_true h7, of_decide_eq_true h8⟩
def gloB (x : Str) : Chk := fun K => (Fa.glo x).ok K
def freB (x : Str) : Chk := fun K => (Fa.free x).ok K
def extB (x : Str) : Chk := fun K => gloB x K && (excCB K (ga K x) && (PySem.W.excIn K (ga K x) veBase "ValueError.__new__" && (PySem.W.keepIn K (.ref (ga K x)) && decide (PySem.W.typeIn K (.ref (ga K x)) = some (.type "type")))))
def exfB (x : Str) : Chk := fun K => gloB x K && excCB K (ga K x)
def clsB (x : Str) (fs : List Str) : Chk := fun K => gloB x K && ((Fa.cls x).ok K && (PySem.W.makesIn K (ga K x) && (PySem.W.keepIn K (.ref (ga K x)) && fs.all fun f => (Fa.noat x f).ok K)))
def oexC (K : Frag) (C : Addr) : Bool := match K.lookup C with
  | some ⟨.type "type", _, .cls cd, sl⟩ => (match cd.mro, sl.toList with
    | .ref C' :: bm, [_, _, _, _, some (.builtin n), _] => C' == C && (n == "ValueError.__new__" && (!cd.hasDel && (cd.hasDict && PySem.HandSPX.refsVE bm)))
    | _, _ => false)
  | _ => false
def oexB (x : Str) : Chk := fun K => oexC K (ga K x) && (eqO (PySem.W.findIn K (.ref (ga K x)) "__setattr__") (some (some (.builtin "object.__setattr__"))) && (decide (PySem.W.subIn K (.ref (ga K x)) (.type "BaseException") = some true) && (decide (PySem.W.typeIn K (.ref (ga K x)) = some (.type "type")) && PySem.W.keepIn K (.ref (ga K x)))))
/-- x.f is not written in the class -/
def natB (x f : Str) : Chk := fun K => eqO (PySem.W.findIn K (.ref (ga K x)) f) (some none)
/-- x.m is the def at p -/
def metB (x m : Str) (p : Str × Option Str) : Chk := fun K => eqO (PySem.W.findIn K (.ref (ga K x)) m) (some (some (.ref (fAd K p)))) && PySem.W.isFn K (.ref (fAd K p))
def iniB (x m : Str) (p : Str × Option Str) : Chk := fun K => eqO (PySem.W.findIn K (.ref (ga K x)) m) (some (some (.ref (fAd K p)))) && decide (PySem.W.typeIn K (.ref (fAd K p)) = some (.type "function"))
def bltB (x f : Str) (b : String) : Chk := fun K => eqO (PySem.W.findIn K (.ref (ga K x)) f) (some (some (.builtin b)))
def kitB (a b : Str) (r : Bool) : Chk := fun K => decide (PySem.W.kitOne K (.ref (ga K a)) (.ref (ga K b)) = some r)
def kitT (a : Str) (t : String) (r : Bool) : Chk := fun K => decide (PySem.W.kitOne K (.ref (ga K a)) (.type t) = some r)
def kitN (t : String) (b : Str) (r : Bool) : Chk := fun K => decide (PySem.W.kitOne K (.type t) (.ref (ga K b)) = some r)
def exmB (a b : Str) (r : Bool) : Chk := fun K => decide (PySem.W.exmOne K (.ref (ga K a)) (.ref (ga K b)) = some r)
def exmT (a : Str) (t : String) (r : Bool) : Chk := fun K => decide (PySem.W.exmOne K (.ref (ga K a)) (.type t) = some r)
def xfcB (x f : Str) : Chk := fun K => xfB K (ga K x) && natB x f K
def insB (x : Str) : Chk := fun K => (Fa.cls x).ok K && (eqO (PySem.W.findIn K (.ref (ga K x)) "__class__") (some (some (.builtin "object.__class__"))) && (eqO (PySem.W.specialIn K (.builtin "object.__class__") "__get__") (some (some (.builtin "getset_descriptor.__get__"))) && (decide (PySem.W.takesIn K (.builtin "object.__class__") = some true) && decide (PySem.W.mroIn K (ga K x) (.type "object") = some true))))
/-- BookError's own reads -/
def rbeB (x : Str) : Chk := fun K => PySem.W.readsIn K (ga K x) (.type "type") && (eqO (PySem.W.specialIn K (.ref (ga K x)) "__getattribute__") (some (some (.builtin "type.__getattribute__"))) && (match PySem.W.findCls K (.ref (ga K x)) (.type "type") "__init__" with
  | some (.val (.builtin n)) => decide (n = "ValueError.__init__")
  | _ => false))
section
variable {K : Frag} {h : Heap} {mg : Str → Option Value}
theorem gloB_ok (X : K.In h) (G : h.Ns mainGlobals mg) {x : Str} (c : gloB x K = true) : mg x = some (.ref (ga K x)) := glo_ok X G c
theorem freB_ok (X : K.In h) (G : h.Ns mainGlobals mg) {x : Str} (c : freB x K = true) : mg x = none := free_ok X G c
theorem extB_ok (X : K.In h) (G : h.Ns mainGlobals mg) {x : Str} (c : extB x K = true) : ExT K mg x (ga K x) := by
  obtain ⟨h1, c⟩ := ba c
  obtain ⟨h2, c⟩ := ba c
  obtain ⟨h3, c⟩ := ba c
  obtain ⟨h4, h5⟩ := ba c
  exact ⟨excCB_ok h2, gloB_ok X G h1, h3, h4, of_decide_eq_true h5⟩
theorem clsB_ok (X : K.In h) (G : h.Ns mainGlobals mg) {x : Str} {fs : List Str} (c : clsB x fs K = true) : ClsT K mg x (ga K x) fs := by
  obtain ⟨h1, c⟩ := ba c
  obtain ⟨h2, c⟩ := ba c
  obtain ⟨h3, c⟩ := ba c
  obtain ⟨h4, h5⟩ := ba c
  exact ⟨gloB_ok X G h1, cls_ok h2, fun f hf => noat_ok (List.all_eq_true.mp h5 f hf), h3, h4⟩
theorem fun_of {x qual : Str} {st : Stmt} {f : Addr} {fd : FuncData} (F : FunD K x qual (defArgs st) (defBody st) (defScope st) [] [] f fd) : Fun K x qual st f fd := by
  obtain ⟨oc, od, dV, kV, doc, pm, an, cdv, ct, osl, e, lk, hcd, hD, hK⟩ := F.ex
  rcases hD with ⟨_, rfl⟩ | ⟨z, _⟩
  · exact ⟨⟨oc, od, kV, doc, pm, an, cdv, ct, osl, e, lk, hcd⟩, F.kp⟩
  · exact absurd rfl z
theorem funT_of {x : Str} {st : Stmt} {ps : List Str} (X : K.In h) (G : h.Ns mainGlobals mg) (F : ∃ fd, FunD K x x (defArgs st) (defBody st) (defScope st) [] [] (ga K x) fd) (c : gloB x K = true)
    (b : ∀ (kV doc pm : Value) (an : Option Addr) (cdv ct : Value) (us : List Value), us.length = ps.length → bindArgs (PySem.W.fnOf x x (defArgs st) (defBody st) (defScope st) .none kV doc pm an cdv ct) ⟨us, []⟩ = pure (ps.zip us)) : FunT K mg x st ps := by
  obtain ⟨fd, F⟩ := F
  exact ⟨_, fd, fun_of F, gloB_ok X G c, F.bindsN b⟩
theorem defT_of1 {x qual : Str} {st : Stmt} {ps : List Str} {dvs : List V} {f : Addr} {fd : FuncData} (F : FunD K x qual (defArgs st) (defBody st) (defScope st) dvs [] f fd) (hd : dvs ≠ []) (hn : dvs.length ≤ ps.length)
    (b : ∀ j, j ≤ dvs.length → ∀ (T : Addr) (kV doc pm : Value) (an : Option Addr) (cdv ct : Value) (us its : List Value), us.length = ps.length - (dvs.length - j) → its.length = dvs.length →
      ∃ k, bindArgs (PySem.W.fnOf x qual (defArgs st) (defBody st) (defScope st) (.ref T) kV doc pm an cdv ct) ⟨us, []⟩ = seqItems? (.ref T) >>= k ∧ k (some its.toArray) = pure (ps.zip (us ++ its.drop j))) : DefT K x qual st ps dvs f fd :=
  ⟨F, fun j hj => F.binds1 (ps.length - (dvs.length - j)) j hd (by omega) (b j hj)⟩
theorem defT_of0 {x qual : Str} {st : Stmt} {ps : List Str} {f : Addr} {fd : FuncData} (F : FunD K x qual (defArgs st) (defBody st) (defScope st) [] [] f fd)
    (b : ∀ (kV doc pm : Value) (an : Option Addr) (cdv ct : Value) (us : List Value), us.length = ps.length → bindArgs (PySem.W.fnOf x qual (defArgs st) (defBody st) (defScope st) .none kV doc pm an cdv ct) ⟨us, []⟩ = pure (ps.zip us)) : DefT K x qual st ps [] f fd :=
  ⟨F, fun j _ => ⟨[], by rw [List.drop_nil]; exact .nil, F.bindsN b⟩⟩
theorem methT_of0 {C x m qual : Str} {p : Str × Option Str} {st : Stmt} {ps : List Str} (F : ∃ fd, FunD K m qual (defArgs st) (defBody st) (defScope st) [] [] (fAd K p) fd) (c : metB C m p K = true)
    (b : ∀ (kV doc pm : Value) (an : Option Addr) (cdv ct : Value) (us : List Value), us.length = ps.length → bindArgs (PySem.W.fnOf m qual (defArgs st) (defBody st) (defScope st) .none kV doc pm an cdv ct) ⟨us, []⟩ = pure (ps.zip us)) : MethT K (ga K C) m qual st ps [] := by
  obtain ⟨fd, F⟩ := F
  obtain ⟨c1, c2⟩ := ba c
  exact ⟨_, fd, defT_of0 F b, eqO_ok c1, c2⟩
theorem methT_of1 {C m qual : Str} {p : Str × Option Str} {st : Stmt} {ps : List Str} {dvs : List V} (F : ∃ fd, FunD K m qual (defArgs st) (defBody st) (defScope st) dvs [] (fAd K p) fd) (c : metB C m p K = true) (hd : dvs ≠ []) (hn : dvs.length ≤ ps.length)
    (b : ∀ j, j ≤ dvs.length → ∀ (T : Addr) (kV doc pm : Value) (an : Option Addr) (cdv ct : Value) (us its : List Value), us.length = ps.length - (dvs.length - j) → its.length = dvs.length →
      ∃ k, bindArgs (PySem.W.fnOf m qual (defArgs st) (defBody st) (defScope st) (.ref T) kV doc pm an cdv ct) ⟨us, []⟩ = seqItems? (.ref T) >>= k ∧ k (some its.toArray) = pure (ps.zip (us ++ its.drop j))) : MethT K (ga K C) m qual st ps dvs := by
  obtain ⟨fd, F⟩ := F
  obtain ⟨c1, c2⟩ := ba c
  exact ⟨_, fd, defT_of1 F hd hn b, eqO_ok c1, c2⟩
def intB (x : Str) (i : Int) : Chk := fun K => (Fa.int x i).ok K
def strB (x z : Str) : Chk := fun K => (Fa.str x z).ok K
theorem intB_ok (X : K.In h) (G : h.Ns mainGlobals mg) {x : Str} {i : Int} (c : intB x i K = true) : ∃ t, mg x = some (.int i t) := int_ok X G c
theorem strB_ok (X : K.In h) (G : h.Ns mainGlobals mg) {x z : Str} (c : strB x z K = true) : ∃ t, mg x = some (.str z t) := str_ok X G c
end
/-! ### the end -/
end Dl

/-! what may be None and is owned; a bind that lets out exceptions without fields only; list.insert; how often a text is in a list of any things -/
namespace Dl
open PySem PySem.Spec PyProof.Rows L2
section
variable {α β : Type}
def bindX0 (m : Ex α) (k : α → Ex β) : Ex β := match m with
  | .ok a => k a
  | .exc n [] => .exc n []
  | .exc _ (_ :: _) => .bad
  | .bad => .bad
end
section
variable {X : Cx} {kx : XD} {ρ : Ro} {M : Mem} {pos : Pos} {a b : Expr}
end
section
variable {X : Cx} {kx : XD} {ρ : Ro} {M : Mem} {P : Out → Mem → Prop} {pos apos cpos spos : Pos} {e e2 o : Expr} {α : Type} {w : Addr}
end
/-! ### how often a text is in a list of any things -/
def isSV (k : Str) : V → Bool
  | .str s => s == k
  | _ => false
def isSD (k : Str) : D → Bool
  | .str s => s == k
  | _ => false
def simpV (K : Frag) (H : Hp) : V → Prop
  | .non => True
  | .bl _ => True
  | .int _ => True
  | .str _ => True
  | .ref l => ∃ ws, SqL K H l ws
  | _ => False
/-- None, truth, number, text, list -/
def simpD : D → Bool
  | .non => true
  | .bl _ => true
  | .int _ => true
  | .str _ => true
  | .lst _ => true
  | _ => false
def cntD (ds : List D) (k : Str) : Nat := ds.countP (isSD k)
def rCntD (K : PySem.W.Frag) : V → List V → Hp → VK → Prop := fun x xs H Q => ∃ (p : Addr) (vs : List V) (k : Str), x = .ref p ∧ xs = [.str k] ∧ SqL K H p vs ∧ (∀ v ∈ vs, simpV K H v) ∧ Q (.int (vs.countP (isSV k) : Nat)) H
section
variable {X : Cx} {kx : XD} {ρ : Ro} {M : Mem} {pos apos cpos : Pos} {e o : Expr} {y : D}
end
section
variable {X : Cx} {kx : XD} {ρ : Ro} {M : Mem} {pos apos p : Pos} {e o : Expr} {es : List Expr} {ds dvs fs : List D} {y : D} {C : Addr} {ns : List Str} {m : Str} {k : Nat} {α β : Type}
/-- a method with arguments that hands back a new list -/
theorem de_methF {args : α → List D} {F : α → Ex (List β)} {g : β → D} {r : List β} {kk : D → Mem → Prop} {pl : Sem Bool} (cl : Cls X.K C) (G : GM X.prog X.w X.K X.mg X.base k C m dvs (spF X.K X.mg args F g)) (hr : Room k X.A) (h : DV X kx o ρ M y) (ho : Obj M y C ns fs) (ha : DA X kx (e :: es) ρ M ds) (a : α) (hargs : args a = (y :: ds) ++ dvs)
    (hF : F a = .ok r) (hk : ∀ w, w ∉ M.dom → kk (.adr w) ((w, .lst (r.map g)) :: M)) (hl : (ns.zip fs).lookup m = none := by rfl) (he : starEach (e :: es) X.env = (false, eval e X.env) :: starEach es X.env := by rfl) (hpl : (backTo pos (starEach es X.env)).any (·.1) = false := by rfl)
    (ht : eval (.Call (.Attribute o m apos) (e :: es) [] pos) X.env = (do
      let ov ← eval o X.env
      standAt apos.atName
      let (f, first) ← holding [ov] (getMethod ov m pl)
      callWith pos f first (backTo pos (starEach (e :: es) X.env)) (backToKw pos (keywordEach [] X.env))) := by rfl) : DE X kx (.Call (.Attribute o m apos) (e :: es) [] pos) ρ M kk := fun σ H H0 t s W tk hx Q q =>
  meth_e cl G hr t s tk hx h ho hl ha (fun vs us H1 H01 p1 rr ru => by
    refine ⟨a, H01, Ht.emp p1.ex (t.pu p1).tb, by rw [hargs]; exact rr.app ru, fun h => Ex.ok_ne r (hF.symm.trans h), fun v H' H0' d M' g' t' r' ⟨r2, w, e1, e2, hw⟩ => ?_, fun cls dd H' H0' fs M' g' t' xr ⟨n, e1, _⟩ => by cases hF.symm.trans e1⟩
    cases hF.symm.trans e1
    subst e2
    obtain ⟨g2, t2, nw⟩ := new_in (t.pu p1) g' t' hw
    exact q v H' H0' _ _ (p1.go.trans g2) t2 r' (hk w nw)) he hpl ht
end
end Dl

/-! a list of lists that change, new -/
namespace Dl
open PySem PySem.Spec PyProof.Rows L2
section
variable {X : Cx} {kx kx' : XD} {ρ : Ro} {M R : Mem} {P : Out → Mem → Prop} {pos p apos : Pos} {e a b c tg elt : Expr} {d : D} {m : Mem} {α β : Type}
end
end Dl
namespace Dl
open PySem PySem.Spec PyProof.Rows L2
section
variable {X : Cx} {kx kx' : XD} {ρ : Ro} {M R : Mem} {pos p apos : Pos} {e : Expr} {x : D} {α β : Type}
end
end Dl
/-! ### a list of addresses that is walked while it may still be changed: it stands in Mem at each turn -/
namespace Dl
open PySem PySem.Spec PyProof.Rows L2
def WkM (K : Frag) (J : It) (H0 : Hp) (keep : Mem → Prop) (ds : List D) : Prop :=
  ∃ (G : Hp → Prop) (Y : Nat → Hp → V → Hp → Prop), Walk J ds.length G Y ∧ (∀ H H0' M, Same H0 H0' → Ht K H0' H M → keep M → G H) ∧
    ∀ i H1 x H2 H01 d, Same H0 H01 → Same H01 H1 → ds[i]? = some d → Y i H1 x H2 → ∃ H02, Pu H01 H1 H02 H2 ∧ Rep K H02 x d
def DIM (X : Cx) (kx : XD) (tg it : Expr) (ρ : Ro) (M : Mem) (keep : Mem → Prop) (ds : List D) : Prop :=
  ∀ (σ : L2.St) (H H0 : Hp), Ht X.K H0 H M → Sl X.K H0 σ ρ → ∀ (W : WX), Takes X W → Hx X W H0 H M kx → ∀ (R : It → Hp → Prop), (∀ J H' H0', Pu H0 H H0' H' → WkM X.K J H0' keep ds → R J H') → sI X tg it σ H R
/-- all of them addresses -/
def Adrs (ds : List D) : Prop := ∀ d ∈ ds, ∃ a, d = .adr a
def adrV : D → V
  | .adr a => .ref a
  | _ => .non
section
variable {X : Cx} {kx kx' : XD} {ρ ρ' ρ'' : Ro} {M M' : Mem} {P : Out → Mem → Prop} {pos p np pos' tpos spos : Pos} {tg a b c e : Expr} {es : List Expr} {ι α β γ : Type} {w : Addr} {keep : Mem → Prop} {x : D}
end
end Dl

/-! tests that change something, both ways going on; comprehensions that change the things of a list one by one -/
namespace Dl
open PySem PySem.Spec PyProof.Rows L2
section
variable {X : Cx} {kx kx' : XD} {ρ ρ' ρ'' : Ro} {M M' M2 : Mem} {P : Out → Mem → Prop} {pos p np pos' tpos spos apos : Pos} {tg a b c e o ix elt : Expr} {es : List Expr} {N : List Str} {sc csc : Scope} {k i n : Nat} {ds : List D} {own : List (Str × Nat)} {w : Addr} {x y : D} {ι α β γ : Type} {E : β → Ow → Prop} {A B : Mem → Prop}
theorem DTT.imp {A' B' : Mem → Prop} (h : DTT X kx e ρ M A B) (ha : ∀ m, A m → A' m) (hb : ∀ m, B m → B' m) : DTT X kx e ρ M A' B' := fun σ H H0 t s W tk hx Q q =>
  h σ H H0 t s W tk hx Q fun H' H0' b m g t' hh => q H' H0' b m g t' ⟨fun z => ha m (hh.1 z), fun z => hb m (hh.2 z)⟩
/-- a list none of whose things is None -/
def allSome : List (Option α) → Option (List α)
  | [] => some []
  | none :: _ => none
  | some x :: xs => match allSome xs with
    | some ys => some (x :: ys)
    | none => none
end
end Dl

namespace Dl
open PySem PySem.Spec PyProof.Rows L2 NdefX LamX
/-! ### made functions handed on -/
theorem wp_app {M : Model} {Γ : PySem.Ctx} {env : Env} {rest : List Stmt} {Q : Flow → Pos → Shared → Prop} {E : Value → Pos → Shared → Prop} : ∀ (pre : List Stmt) (p : Pos) (s : Shared),
    Sem.wp M Γ (execs pre env) (fun f p' s' => match f with | .next => Sem.wp M Γ (execs rest env) Q E p' s' | f => Q f p' s') E p s → Sem.wp M Γ (execs (pre ++ rest) env) Q E p s
  | [], p, s, h => by
    have h' : Sem.wp M Γ (Pure.pure Flow.next) _ E p s := h
    rw [Sem.wp_pure'] at h'
    exact h'
  | a :: pre, p, s, h => by
    rw [List.cons_append, execs_cons, Sem.wp_bind']
    rw [execs_cons, Sem.wp_bind'] at h
    refine Sem.wp_mono M Γ _ (fun f p' s' h' => ?_) (fun _ _ _ h' => h') p s h
    cases f with
    | next => exact wp_app pre p' s' h'
    | ret v => rw [Sem.wp_pure'] at h' ⊢; exact h'
    | brk => rw [Sem.wp_pure'] at h' ⊢; exact h'
    | cont => rw [Sem.wp_pure'] at h' ⊢; exact h'
theorem execs_app {M : Model} {A : Around} {env : Env} {pre rest : List Stmt} {Q : Flow → Shared → Prop} {E : Value → Shared → Prop} {s : Shared}
    (h : wpAny M A (execs pre env) (fun f s' => match f with | .next => wpAny M A (execs rest env) Q E s' | f => Q f s') E s) : wpAny M A (execs (pre ++ rest) env) Q E s := fun Γ p hΓ => by
  refine wp_app pre p s (Sem.wp_mono M Γ _ (fun f p' s' h' => ?_) (fun _ _ _ h' => h') p s (h Γ p hΓ))
  cases f with
  | next => exact h' Γ p' hΓ
  | ret v => exact h'
  | brk => exact h'
  | cont => exact h'
/-- the cells known from now on -/
def updC (H : Hp) : List (Str × Addr) → List V → Hp
  | q :: cl, v :: vs => upd (updC H cl vs) q.2 (CellO q.2 v)
  | _, _ => H
theorem updC_ne {H : Hp} {b : Addr} : ∀ {cl : List (Str × Addr)} {vs : List V}, b ∉ cl.map Prod.snd → updC H cl vs b = H b
  | [], vs, _ => by cases vs <;> rfl
  | q :: cl, [], _ => rfl
  | q :: cl, v :: vs, h => by
    show upd (updC H cl vs) q.2 _ b = _
    rw [upd_ne (fun z => h (by rw [z]; simp)), updC_ne (fun z => h (List.mem_cons_of_mem _ z))]
theorem updC_at {H : Hp} : ∀ {cl : List (Str × Addr)} {vs : List V} {i : Nat} {q : Str × Addr} {v : V}, (cl.map Prod.snd).Nodup → cl[i]? = some q → vs[i]? = some v → updC H cl vs q.2 = some (CellO q.2 v)
  | [], _, _, _, _, _, h, _ => by simp at h
  | _ :: _, [], _, _, _, _, _, h => by simp at h
  | p :: cl, u :: vs, 0, q, v, nd, h1, h2 => by
    simp at h1 h2; subst h1; subst h2
    exact upd_same
  | p :: cl, u :: vs, i + 1, q, v, nd, h1, h2 => by
    obtain ⟨n1, n2⟩ := List.nodup_cons.mp (show (p.2 :: cl.map Prod.snd).Nodup from nd)
    have h1' : cl[i]? = some q := by simpa using h1
    have h2' : vs[i]? = some v := by simpa using h2
    show upd (updC H cl vs) p.2 _ q.2 = _
    rw [upd_ne (fun z => n1 (by rw [← z]; exact List.mem_map.mpr ⟨q, List.mem_of_getElem? h1', rfl⟩))]
    exact updC_at n2 h1' h2'
theorem updC_cases {H : Hp} {b : Addr} {o : HO} {cl : List (Str × Addr)} {vs : List V} (nd : (cl.map Prod.snd).Nodup) (hl : vs.length = cl.length) (h : updC H cl vs b = some o) : (b ∉ cl.map Prod.snd ∧ H b = some o) ∨ ∃ (i : Nat) (q : Str × Addr) (v : V), cl[i]? = some q ∧ vs[i]? = some v ∧ q.2 = b ∧ o = CellO b v := by
  by_cases hb : b ∈ cl.map Prod.snd
  · obtain ⟨q, hq, rfl⟩ := List.mem_map.mp hb
    obtain ⟨i, hi⟩ := List.getElem?_of_mem hq
    have li : i < vs.length := by rw [hl]; exact (List.getElem?_eq_some_iff.mp hi).1
    have e := updC_at (H := H) nd hi (List.getElem?_eq_getElem li)
    rw [h] at e
    exact .inr ⟨i, q, vs[i], hi, List.getElem?_eq_getElem li, rfl, Option.some.inj e⟩
  · exact .inl ⟨hb, by rw [updC_ne hb] at h; exact h⟩
/-- what the cells hold, in the heap -/
def HasC (h : Heap) (cl : List (Str × Addr)) (vs : List V) : Prop := ∀ (i : Nat) (q : Str × Addr) (v : V), cl[i]? = some q → vs[i]? = some v → ∃ u, RelV v u ∧ h.IsCell q.2 (some u)
theorem hok_updC {P : Program} {w : World} {H : Hp} {h : Heap} {cl : List (Str × Addr)} {vs : List V} (ok : HOk P w H h) (nd : (cl.map Prod.snd).Nodup) (hl : vs.length = cl.length) (nf : ∀ c ∈ cl.map Prod.snd, H c = none) (hc : HasC h cl vs) : HOk P w (updC H cl vs) h := fun a o e => by
  have same : ∀ b u, H b = some u → updC H cl vs b = some u := fun b u e => by rw [updC_ne (fun z => by rw [nf b z] at e; cases e)]; exact e
  rcases updC_cases nd hl e with ⟨h1, h2⟩ | ⟨i, q, v, h1, h2, rfl, rfl⟩
  · exact (ok a o h2).stay (fun _ _ _ r => r) (fun b r => same _ _ r) fun b xs r => same _ _ r
  · obtain ⟨u, ru, hu⟩ := hc i q v h1 h2
    refine ⟨⟨u, ru, hu⟩, ?_, fun h1 h2 ⟨u, r, o, ho, hd⟩ k => ⟨u, r, o, k o ho, hd⟩⟩
    obtain ⟨o, ho, _⟩ := hu
    exact ⟨o, ho⟩
/-- what is wanted of the place ahead of «def f(..): ..; return f» -/
def CloEnd (fr : List Str) (js : List Nat) (G : NF) (σ : L2.St) (H : Hp) (Q : VK) : Prop := TabsN tabT H ∧ ∃ vs : List V, vs.length = js.length ∧ (∀ (n j : Nat) (v : V), js[n]? = some j → vs[n]? = some v → σ[j]? = some (some v)) ∧
  ∀ (f c' : Addr) (cl : List (Str × Addr)) (H1 : Hp), f ≠ c' → Sm H H1 → (∀ b, H1 b = none → H b = none) → TabsN tabT H1 → H f = none → H1 f = some (FnO f (cloF G cl c')) → H1 c' = some (CodeO c' G.qual) → cl.map Prod.fst = fr → (cl.map Prod.snd).Nodup → (∀ c ∈ cl.map Prod.snd, H1 c = none) → Q (.ref f) (updC H1 cl vs)
/-- the end of such a def -/
theorem clo_end {X : Cx} {s : Shared} {σ : L2.St} {H : Hp} {Q : VK} {fr : List Str} {js : List Nat} {ndf : Stmt} {name : Str} {npos rp rpos : Pos} {c P0 : Addr} {nm : Nat → Nat → Str} {i : Nat} (I : Inv X [] σ H s) (h : CloEnd fr js (NF.of ndf name (X.env.qual ++ name) [] 0) σ H Q)
    (hnd : ndf = .FunctionDef name (C8.fnArgs ndf) (C8.fnBody ndf) [] none [] (C8.fnScope ndf) none name npos) (TBl : TabB X.base X.mg c P0) (hcode : X.env.code = .ref c) (hm : (P0, nm) ∈ tabT) (hn : nm npos.line npos.col = X.env.qual ++ name) (hu : ∀ p ∈ tabT, p.1 = P0 → p.2 = nm)
    (hfree : ∀ y ∈ (C8.fnScope ndf).names, y.2 = .free → X.env.scope.names.lookup y.1 = some .cell ∨ X.env.scope.names.lookup y.1 = some .free) (hd0 : (C8.fnArgs ndf).defaults = []) (hk0 : (C8.fnArgs ndf).kw_defaults = []) (ha : annTrees (C8.fnArgs ndf) none X.env = [])
    (hN : X.N.Nodup) (hi : X.N[i]? = some name) (hloc : X.env.scope.names.lookup name = some .local) (hjs : js.map (fun j => X.N[j]?) = fr.map some) (hfr : ∀ y ∈ fr, X.env.scope.names.lookup y = some .cell) (ndr : fr.Nodup)
    (hcl : cloFrom X.env.cells (C8.fnScope ndf).names [] = fr.map fun y => (y, (X.env.cells.lookup y).getD 0)) (hfn : ∀ x, X.fn x = true) (hd1 : (name == ("__debug__" : Str)) = false) (hd2 : (name == ("__classdict__" : Str)) = false) :
    wpAny (model X.prog X.w) X.A (execs [ndf, .Return (some (.Name name rp)) rpos] X.env) (fun fl s' => ∃ u v H', fl = .ret u ∧ s'.os = X.s_0.os ∧ AllBare s'.gens ∧ Un X.fs X.ex X.H_0 H' X.s_0.heap s'.heap ∧ HOk X.prog X.w H' s'.heap ∧ RelV v u ∧ Q v H') X.xe s := by
  obtain ⟨hT, vs, lvs, hvs, hq⟩ := h
  have ij : i ∉ js := fun z => by
    have e : (X.N[i]?) ∈ js.map (fun j => X.N[j]?) := List.mem_map.mpr ⟨i, z, rfl⟩
    rw [hjs, hi] at e
    obtain ⟨y, hy, e2⟩ := List.mem_map.mp e
    have := hfr y hy
    rw [Option.some.inj e2, hloc] at this
    cases this
  -- the cells
  have cell : ∀ y ∈ fr, ∃ c, X.env.cells.lookup y = some c := fun y hy => I.ok.has y (.inl (hfr y hy))
  have clm : (fr.map fun y => (y, (X.env.cells.lookup y).getD 0)).map Prod.fst = fr := by rw [List.map_map]; exact List.map_id fr
  have clnd : ((fr.map fun y => (y, (X.env.cells.lookup y).getD 0)).map Prod.snd).Nodup := by
    rw [List.map_map]
    unfold List.Nodup
    rw [List.pairwise_map]
    refine ndr.imp_of_mem fun {a b} ha hb ne e => ne ?_
    obtain ⟨c1, h1⟩ := cell a ha
    obtain ⟨c2, h2⟩ := cell b hb
    have e' : (X.env.cells.lookup a).getD 0 = (X.env.cells.lookup b).getD 0 := e
    rw [h1, h2] at e'
    have e2 : c1 = c2 := e'
    subst e2
    exact I.ok.inj a b c1 h1 h2
  refine wpAny_execs_cons (thn ((ps_ndefMS (X := X) (i := i) hnd TBl hcode hm hn hu hfree hd0 hk0 ha hN hi (.inl hloc) (.inr hloc)).run [] s σ H
    { nx := fun σ1 H1 => ∃ f c', σ1 = σ.set i (some (.ref f)) ∧ H f = none ∧ Sm H H1 ∧ (∀ b, H1 b = none → H b = none) ∧ TabsN tabT H1 ∧ H1 f = some (FnO f (cloF (NF.of ndf name (X.env.qual ++ name) [] 0) (fr.map fun y => (y, (X.env.cells.lookup y).getD 0)) c')) ∧ H1 c' = some (CodeO c' (X.env.qual ++ name)), rt := fun _ _ => False } I ?_) fun fl s1 q => ?_)
  · refine ⟨hT, fun f c' H1 e nn T1 f0 f1 c1 => ⟨f, c', rfl, f0, e, nn, T1, ?_, c1⟩⟩
    rw [← hcl]; exact f1
  cases fl with
  | ret u => obtain ⟨_, _, _, _, _, z⟩ := q; exact False.elim z
  | brk => obtain ⟨_, _, _, z⟩ := q; exact False.elim z
  | cont => obtain ⟨_, _, _, z⟩ := q; exact False.elim z
  | next =>
    obtain ⟨σ1, H1, I1, f, c', rfl, f0, e, nn, T1, f1, c1⟩ := q
    have li : i < σ.length := by rw [I.len]; exact (List.getElem?_eq_some_iff.mp hi).1
    refine wpAny_execs_cons (wpAny_Return_some (thn ((pe_var (pos := rp) hi (.inl hloc) hd1 hd2).run [] s1 _ H1 (fun v H2 => v = .ref f ∧ H2 = H1) I1 ⟨.ref f, by rw [List.getElem?_set_self li], rfl, rfl⟩) fun u s2 ⟨v, H2, I2, r2, ev, eH⟩ => ?_))
    subst ev
    subst eH
    have nf : ∀ c ∈ ((fr.map fun y => (y, (X.env.cells.lookup y).getD 0)).map Prod.snd), H2 c = none := fun c hc => by
      rw [List.map_map] at hc
      obtain ⟨y, hy, rfl⟩ := List.mem_map.mp hc
      obtain ⟨c1, h1⟩ := cell y hy
      show H2 ((X.env.cells.lookup y).getD 0) = none
      rw [h1]
      exact I2.freeC y c1 h1
    have lv2 : vs.length = (fr.map fun y => (y, (X.env.cells.lookup y).getD 0)).length := by
      rw [lvs, List.length_map]
      have := congrArg List.length hjs
      simpa using this
    have hc : HasC s2.heap (fr.map fun y => (y, (X.env.cells.lookup y).getD 0)) vs := fun n q v h1 h2 => by
      rw [List.getElem?_map] at h1
      cases ey : fr[n]? with
      | none => rw [ey] at h1; cases h1
      | some y =>
        rw [ey] at h1
        cases h1
        have hy := List.mem_of_getElem? ey
        obtain ⟨c1, e1⟩ := cell y hy
        have ejs : (js.map fun j => X.N[j]?)[n]? = some (some y) := by rw [hjs, List.getElem?_map, ey]; rfl
        rw [List.getElem?_map] at ejs
        cases ej : js[n]? with
        | none => rw [ej] at ejs; cases ejs
        | some j =>
          rw [ej] at ejs
          have eN : X.N[j]? = some y := Option.some.inj ejs
          have sj := hvs n j v ej h2
          have sj2 : (σ.set i (some (V.ref f)))[j]? = some (some v) := by
            rw [List.getElem?_set_ne (fun z => ij (by rw [z]; exact List.mem_of_getElem? ej))]; exact sj
          obtain ⟨m, _, hl⟩ := I2.loc
          obtain ⟨u2, ru, lk⟩ := hl j y v eN sj2 (.inr (.inl (hfr y hy)))
          rcases lk with ⟨z, _⟩ | ⟨_, c2, e2, hcell⟩
          · have z' : X.env.scope.names.lookup y = some .local := z
            rw [hfr y hy] at z'; cases z'
          · refine ⟨u2, ru, ?_⟩
            show s2.heap.IsCell ((X.env.cells.lookup y).getD 0) _
            rw [e2]; exact hcell
    refine ⟨u, .ref f, updC H2 _ vs, rfl, I2.os, I2.bare, ?_, hok_updC I2.hok clnd lv2 nf hc, r2, hq f c' _ H2 (fun z => ?_) e nn T1 f0 f1 c1 clm clnd nf⟩
    case refine_2 =>
      subst z
      obtain ⟨od, sl, doc, pm, ctv, e1⟩ := fnO_at I2.hok f1
      obtain ⟨c, oc, vs, t, e2, e3, e4, _⟩ := codeO_at I2.hok c1
      cases e2
      rw [e1] at e3; cases e3; cases e4
    have ub := I2.base
    have new : ∀ c ∈ ((fr.map fun y => (y, (X.env.cells.lookup y).getD 0)).map Prod.snd), X.s_0.heap.get? c = none := fun c hc => by
      rw [List.map_map] at hc
      obtain ⟨y, hy, rfl⟩ := List.mem_map.mp hc
      obtain ⟨c1, h1⟩ := cell y hy
      show X.s_0.heap.get? ((X.env.cells.lookup y).getD 0) = none
      rw [h1]
      exact Heap.get?_none_of_le (I2.ok.cab y c1 (hfn y) h1)
    have same : ∀ b u, H2 b = some u → updC H2 (fr.map fun y => (y, (X.env.cells.lookup y).getD 0)) vs b = some u := fun b u e => by rw [updC_ne (fun z => by rw [nf b z] at e; cases e)]; exact e
    refine ⟨ub.keep, ub.slot, fun b o e n hx => ?_, ub.there, fun b xs e => same _ _ (ub.tups b xs e), fun b o xs e => same _ _ (ub.frzs b o xs e), fun b ps e => ?_⟩
    · rw [updC_ne (fun z => by rw [new b z] at e; cases e)]
      exact ub.free b o e n hx
    · obtain ⟨more, z⟩ := ub.tbls b ps e
      exact ⟨more, same _ _ z⟩

/-- the code object of the def at f has its table at P -/
def codeTab (K : Frag) (f P : Addr) : Bool := match K.lookup f with
  | some ⟨_, _, .func fd, _⟩ => (match fd.code with
    | .ref c => PySem.W.codeHdIn K c P
    | _ => false)
  | _ => false
theorem cd_ref {K : Frag} {P : Addr} {cdv : Value} (h : (match cdv with | .ref c => PySem.W.codeHdIn K c P | _ => false) = true) : ∃ c, cdv = .ref c ∧ PySem.W.codeHdIn K c P = true := by
  cases cdv with
  | ref c => exact ⟨c, rfl, h⟩
  | _ => cases h
/-- where the tables lie -/
def TabsB (K : Frag) (base : Heap) (mg : Str → Option Value) : Prop := ∀ (c P : Addr), P ∈ tabT.map Prod.fst → PySem.W.codeHdIn K c P = true → TabB base mg c P
/-- its looks, by decide -/
structure CloLook (st ndf : Stmt) (prel : List Stmt) (name : Str) (npos rp rpos : Pos) (N fr : List Str) (js : List Nat) (i : Nat) : Prop where
  hbd : defBody st = prel ++ [ndf, .Return (some (.Name name rp)) rpos]
  hnd : ndf = .FunctionDef name (C8.fnArgs ndf) (C8.fnBody ndf) [] none [] (C8.fnScope ndf) none name npos
  hfree : ∀ y ∈ (C8.fnScope ndf).names, y.2 = .free → (defScope st).names.lookup y.1 = some .cell ∨ (defScope st).names.lookup y.1 = some .free
  hd0 : (C8.fnArgs ndf).defaults = []
  hk0 : (C8.fnArgs ndf).kw_defaults = []
  ha : ∀ env, annTrees (C8.fnArgs ndf) none env = []
  hi : N[i]? = some name
  hloc : (defScope st).names.lookup name = some .local
  hjs : js.map (fun j => N[j]?) = fr.map some
  hfr : ∀ y ∈ fr, (defScope st).names.lookup y = some .cell
  ndr : fr.Nodup
  hcl : ∀ cells : List (Str × Addr), cloFrom cells (C8.fnScope ndf).names [] = fr.map fun y => (y, (cells.lookup y).getD 0)
  hd1 : (name == ("__debug__" : Str)) = false
  hd2 : (name == ("__classdict__" : Str)) = false
section
variable {P : Program} {w : World} {K : Frag} {mg : Str → Option Value} {base : Heap} {α : Type}
/-- what the def's captured names hold at its end -/
def endP (js : List Nat) (post : List D → Prop) : Out → Mem → Prop
  | .nx ρ, _ => ∃ ds : List D, ds.length = js.length ∧ (∀ (n j : Nat) (d : D), js[n]? = some j → ds[n]? = some d → ρ[j]? = some (some d)) ∧ post ds
  | _, _ => False
theorem slots_vals {K : Frag} {H0 : Hp} {σ : L2.St} {ρ : Ro} (s : Sl K H0 σ ρ) : ∀ (js : List Nat) (ds : List D), ds.length = js.length → (∀ (n j : Nat) (d : D), js[n]? = some j → ds[n]? = some d → ρ[j]? = some (some d)) → ∃ vs : List V, vs.length = js.length ∧ RepA K H0 vs ds ∧ ∀ (n j : Nat) (v : V), js[n]? = some j → vs[n]? = some v → σ[j]? = some (some v)
  | [], [], _, _ => ⟨[], rfl, .nil, fun n j v h => by simp at h⟩
  | [], _ :: _, h, _ => by simp at h
  | _ :: _, [], h, _ => by simp at h
  | j :: js, d :: ds, hl, h => by
    obtain ⟨vs, l, r, hv⟩ := slots_vals s js ds (by simpa using hl) fun n j' d' h1 h2 => h (n + 1) j' d' (by simpa using h1) (by simpa using h2)
    obtain ⟨v, e, rv⟩ := s.2 j d (h 0 j d rfl rfl)
    refine ⟨v :: vs, by simp [l], .cons rv r, fun n j' v' h1 h2 => ?_⟩
    cases n with
    | zero => simp at h1 h2; subst h1; subst h2; exact e
    | succ n => exact hv n j' v' (by simpa using h1) (by simpa using h2)
theorem fn_clo {x qual : Str} {st ndf : Stmt} {f P0 : Addr} {fd : FuncData} {N ps fr : List Str} {k i : Nat} {js : List Nat} {prel : List Stmt} {name : Str} {npos rp rpos : Pos} {nm : Nat → Nat → Str} {args : α → List D} {pre : α → Prop} {post : α → List D → Prop} {ex : α → Value → List (Str × D) → Prop} (F : Fun K x qual st f fd) (S : FnScope N ps (defScope st)) (hl : ∀ a, (args a).length = ps.length)
    (L : CloLook st ndf prel name npos rp rpos N fr js i) (TBs : TabsB K base mg) (hcd : codeTab K f P0 = true) (hm : (P0, nm) ∈ tabT) (hu : ∀ p ∈ tabT, p.1 = P0 → p.2 = nm) (hn : nm npos.line npos.col = (envOfC qual (defScope st) 0 0 .none).qual ++ name)
    (body : ∀ X : Cx, X.prog = P → X.w = w → X.K = K → X.mg = mg → X.base = base → Bd X N (defScope st) k → Bf X → ∀ a, pre a → DS X (fun cls fs _ _ => ex a cls fs) prel (startD N (args a)) [] (endP js (post a))) :
    FnOk P w K mg base (L2.CX P w) (k + 1) f fd ps (spP K args pre (fun a d => ∃ ds, d = .clo (NF.of ndf name ((envOfC qual (defScope st) 0 0 .none).qual ++ name) [] 0) fr ds ∧ post a ds) ex) := by
  have len : ∀ vs H Q E, spP K args pre (fun a d => ∃ ds, d = .clo (NF.of ndf name ((envOfC qual (defScope st) 0 0 .none).qual ++ name) [] 0) fr ds ∧ post a ds) ex vs H Q E → vs.length = ps.length := fun vs H Q E h => by
    obtain ⟨x, H0, _, r, _⟩ := h
    rw [r.length, hl]
  obtain ⟨oc, od, kV, doc, pm, an, cdv, ct, osl, rfl, lk, hcdI⟩ := F.ex
  have hc : ∃ c, cdv = .ref c ∧ PySem.W.codeHdIn K c P0 = true := by
    unfold codeTab at hcd
    rw [lk] at hcd
    exact cd_ref hcd
  obtain ⟨c, rfl, hch⟩ := hc
  have TBl : TabB base mg c P0 := TBs c P0 (List.mem_map.mpr ⟨_, hm, rfl⟩) hch
  refine ⟨len, fun A outer s H args' us vs Q E hr e0 hb r hsp => ?_⟩
  have hlv := len _ _ _ _ hsp
  have KX : K.In s.heap := e0.mod.kin.keeps fun b o e => (e0.bs b o e).1
  have lim : s.heap.NoLimit := e0.mod.nolimit.keeps fun b o e => (e0.bs b o e).1
  have hkind : ∀ y ∈ ps.zip us, (defScope st).names.lookup y.1 = some .local ∨ ((defScope st).names.lookup y.1 = some .cell ∧ ((cellsFrom (s.heap.objs.size + 1) (defScope st).names []).lookup y.1).isSome = true) := fun ⟨n, v⟩ hy => by
    rcases S.par n (List.of_mem_zip hy).1 with q | q
    · exact .inl q
    · exact .inr ⟨q, PySem.W.cellsFrom_some _ _ _ (.inl q)⟩
  refine codeAny_call_function hr.depth (KX _ _ lk) rfl S.co S.gen rfl (PySem.W.codeRec_of KX hcdI) (hb _ _ _ _ ?_)
  refine wpAny_newFunctionEnv_cells S.kind hkind fun env he s1 xx => ?_
  subst he
  refine ⟨lim.keeps xx.toInCall.keep, codeAny_func ?_⟩
  obtain ⟨a, H0, hs, rr, hp, hq, hE⟩ := hsp
  have I : Inv (cxOf (L2.CX P w) P w K mg base N qual (defScope st) f (.ref c) A outer s H E) [] (start N vs) H s1 := inv_start S hr.hd e0 hlv r xx
  obtain ⟨B, Fz⟩ := bd_of (P := P) (w := w) (K := K) (mg := mg) (base := base) (outer := outer) (H := H) (E := E) (qual := qual) (f := f) (cd := .ref c) (s := s) (A := A) S (hr.deeper _)
  have pss := body _ rfl rfl rfl rfl rfl B Fz a hp (start N vs) H H0 (Ht.emp hs.1 hs.2) (start_rep rr) (fun cls d _ H => E cls d H) (takes_of rfl rfl rfl rfl) (fun cls dd σ' H' H0' fs ρ' M' g t s' xr e => hE cls dd H' H0' fs (g.pu t) xr e)
    { nx := fun σ' H' => CloEnd fr js (NF.of ndf name ((cxOf (L2.CX P w) P w K mg base N qual (defScope st) f (.ref c) A outer s H E).env.qual ++ name) [] 0) σ' H' Q, rt := fun _ _ => False }
    ⟨fun σ' H' H0' ρ' M' g t sl ⟨ds, l, hds, hpost⟩ => ?_, fun _ _ _ _ _ _ _ _ z => z.elim, fun _ _ _ _ _ _ _ _ z => z.elim, fun _ _ _ _ _ _ _ _ z => z.elim⟩
  · rw [L.hbd]
    refine execs_app (thn (pss [] s1 I) fun fl s2 q => ?_)
    cases fl with
    | ret u => obtain ⟨_, _, _, _, _, z⟩ := q; exact z.elim
    | brk => obtain ⟨_, _, _, z⟩ := q; exact False.elim z
    | cont => obtain ⟨_, _, _, z⟩ := q; exact False.elim z
    | next =>
      obtain ⟨σ', H', I', q⟩ := q
      refine thn (clo_end I' q L.hnd TBl rfl hm hn hu L.hfree L.hd0 L.hk0 (L.ha _) S.nd L.hi L.hloc L.hjs L.hfr L.ndr (L.hcl _) (fun _ => rfl) L.hd1 L.hd2) fun fl s3 ⟨u, v, H2, e1, e2, e3, e4, e5, e6, e7⟩ => ?_
      subst e1
      exact ⟨v, H2, e2, e3, e4, e5, e6, e7⟩
  · -- the state ahead of the inner def
    obtain ⟨vs', l1, r1, h1⟩ := slots_vals sl js ds l hds
    have pz := g.pu t
    refine ⟨fun p hp => (t.tb.1 p hp).2, vs', l1, h1, fun f' c' cl H1 fc sm nn T1 f0 f1 c1 cl1 nd nf => ?_⟩
    have nf' : ∀ c ∈ cl.map Prod.snd, H0' c = none := fun c hc => t.ex.free (nn c (nf c hc))
    have same1 : ∀ b u, H1 b = some u → updC H1 cl vs' b = some u := fun b u e => by rw [updC_ne (fun z => by rw [nf b z] at e; cases e)]; exact e
    have lcl : vs'.length = cl.length := by
      rw [l1, ← List.length_map (f := Prod.fst) (as := cl), cl1]
      have := congrArg List.length L.hjs
      simpa using this
    have sm0 : Same H0' H1 := fun b o e => sm b o (t.ex b o e) fun ps z => t.tb.2 b ps (by rw [← z]; exact e)
    have samec : ∀ b u, H0' b = some u → updC H0' cl vs' b = some u := fun b u e => by rw [updC_ne (fun z => by rw [nf' b z] at e; cases e)]; exact e
    -- the frozen heap behind the call
    have Z : ∀ b o, (upd (upd (updC H0' cl vs') c' (CodeO c' ((envOfC qual (defScope st) 0 0 .none).qual ++ name))) f' (FnO f' (cloF (NF.of ndf name ((envOfC qual (defScope st) 0 0 .none).qual ++ name) [] 0) cl c'))) b = some o → updC H1 cl vs' b = some o := fun b o e => by
      unfold L2.upd at e
      split at e
      · rename_i q; subst q; rw [← e]; exact same1 _ _ f1
      · split at e
        · rename_i q; subst q; rw [← e]; exact same1 _ _ c1
        · rcases updC_cases nd lcl e with ⟨h1, h2⟩ | ⟨n, q, v, g1, g2, rfl, rfl⟩
          · exact same1 _ _ (sm0 _ _ h2)
          · exact updC_at nd g1 g2
    have f0' : updC H0' cl vs' f' = none := by
      have nin : f' ∉ cl.map Prod.snd := fun z => by rw [nf f' z] at f1; cases f1
      rw [updC_ne nin]; exact t.ex.free f0
    have cne : c' ∉ cl.map Prod.snd := fun z => by rw [nf c' z] at c1; cases c1
    have S0 : Same H0' (upd (upd (updC H0' cl vs') c' (CodeO c' ((envOfC qual (defScope st) 0 0 .none).qual ++ name))) f' (FnO f' (cloF (NF.of ndf name ((envOfC qual (defScope st) 0 0 .none).qual ++ name) [] 0) cl c'))) := fun b o e => by
      have nb : b ≠ f' := fun z => by rw [z, t.ex.free f0] at e; cases e
      rw [upd_ne nb]
      by_cases hb : b = c'
      · subst hb
        rw [upd_same]
        have := sm0 _ _ e
        rw [c1] at this
        exact this
      · rw [upd_ne hb]; exact samec _ _ e
    refine hq (.ref f') (updC H1 cl vs') _ (.clo (NF.of ndf name ((envOfC qual (defScope st) 0 0 .none).qual ++ name) [] 0) fr ds) ?_ (.clo (f := f') (c := c') (cl := cl) (vs := vs') upd_same ?_ ⟨cl1, L.ndr, nd, lcl, fun n q v g1 g2 => ?_⟩ (r1.mo S0)) ⟨ds, rfl, hpost⟩
    · refine pz.trans ⟨S0, fun b o e n => same1 _ _ (sm _ _ e n), Z, fun b b1 b2 => ?_, fun b e => nn b ?_, fun tb => ⟨fun p hp => ⟨?_, ?_⟩, fun b ps e => ?_⟩⟩
      · -- what is known and not for good stays so
        obtain ⟨u, hu⟩ := b2.ex
        have nu : NTb u := NT.ntb (by rw [← hu]; exact b2)
        have hb1 : H1 b = some u := sm _ _ hu nu
        have nbf : b ≠ f' := fun z => by rw [z, f0] at hu; cases hu
        have nbc : b ∉ cl.map Prod.snd := fun z => by rw [nf b z] at hb1; cases hb1
        rw [upd_ne nbf]
        by_cases hb : b = c'
        · rw [hb, c1] at hb1
          rw [hu, ← Option.some.inj hb1] at b2
          exact b2.elim
        · rw [upd_ne hb, updC_ne nbc]; exact b1
      · cases y : H1 b with
        | none => rfl
        | some u => rw [same1 _ _ y] at e; cases e
      · obtain ⟨ps, q1, _⟩ := T1 p hp
        have nf1 : p.1 ≠ f' := fun z => by rw [z, f1] at q1; cases q1
        have nc1 : p.1 ≠ c' := fun z => by rw [z, c1] at q1; cases q1
        have ncl : p.1 ∉ cl.map Prod.snd := fun z => by rw [nf _ z] at q1; cases q1
        rw [upd_ne nf1, upd_ne nc1, updC_ne ncl]
        exact (tb.1 p hp).1
      · exact tabn_keep (T1 p hp) (fun ps e => same1 _ _ e) fun c φ e => same1 _ _ e
      · have z := Z b _ e
        unfold L2.upd at e
        split at e
        · cases e
        · split at e
          · cases e
          · rcases updC_cases nd lcl e with ⟨_, h2⟩ | ⟨n, q, v, _, _, _, y⟩
            · exact tb.2 b ps h2
            · cases y
    · rw [upd_ne (Ne.symm fc)]; exact upd_same
    · have y := updC_at (H := H0') nd g1 g2
      have n1 : q.2 ≠ f' := fun z => by rw [z] at y; rw [f0'] at y; cases y
      have mq : q.2 ∈ cl.map Prod.snd := List.mem_map.mpr ⟨q, List.mem_of_getElem? g1, rfl⟩
      have n2 : q.2 ≠ c' := fun z => cne (by rw [← z]; exact mq)
      rw [upd_ne n1, upd_ne n2]
      exact y
end
end Dl

namespace Dl
open PySem PySem.Spec PyProof.Rows L2 NdefX LamX
/-! ### made functions called -/
mutual
/-- no made function within -/
def D.nce : D → Bool
  | .non => true
  | .bl _ => true
  | .int _ => true
  | .str _ => true
  | .ty _ => true
  | .lst xs => D.nceA xs
  | .scr xs => D.nceA xs
  | .tup xs => D.nceA xs
  | .ins _ _ xs => D.nceA xs
  | .adr _ => true
  | .dK _ xs => D.nceA xs
  | .dT _ xs => D.nceA xs
  | .exn _ _ _ => false
  | .clo _ _ _ => false
def D.nceA : List D → Bool
  | [] => true
  | d :: ds => d.nce && D.nceA ds
end
theorem nceA_all : ∀ xs : List D, D.nceA xs = xs.all D.nce
  | [] => by simp [D.nceA]
  | x :: xs => by simp [D.nceA, nceA_all xs]
theorem nceA_map {α : Type} {f : α → D} (h : ∀ x, (f x).nce = true) (xs : List α) : D.nceA (xs.map f) = true := by
  rw [nceA_all, List.all_map, List.all_eq_true]; exact fun x _ => h x
theorem nce_str (x : Str) : (D.str x).nce = true := by simp [D.nce]
theorem nce_bl (x : Bool) : (D.bl x).nce = true := by simp [D.nce]
theorem nce_int (x : Int) : (D.int x).nce = true := by simp [D.nce]
theorem nce_adr (a : Addr) : (D.adr a).nce = true := by simp [D.nce]
theorem nce_lst {α : Type} {f : α → D} (h : ∀ x, (f x).nce = true) (xs : List α) : (D.lst (xs.map f)).nce = true := by simp only [D.nce]; exact nceA_map h xs
theorem nce_scr {α : Type} {f : α → D} (h : ∀ x, (f x).nce = true) (xs : List α) : (D.scr (xs.map f)).nce = true := by simp only [D.nce]; exact nceA_map h xs
theorem nce_nil : D.nceA [] = true := by simp [D.nceA]
theorem nce_cons {d : D} {ds : List D} (h : d.nce = true) (k : D.nceA ds = true) : D.nceA (d :: ds) = true := by simp [D.nceA, h, k]
/-- these are known by what is true of their objects -/
def ExtAt (H : Hp) (L : List Addr) : Prop := ∀ b ∈ L, ∀ o, H b = some o → ∃ φ, o = .ext φ
theorem ExtAt.ne {H : Hp} {L : List Addr} {a : Addr} {o : HO} (x : ExtAt H L) (h : H a = some o) (n : ∀ φ, o ≠ .ext φ := by intro _ z; cases z) : a ∉ L := fun z => by
  obtain ⟨φ, e⟩ := x a z o h
  exact n φ e
theorem ExtAt.keep {H : Hp} {L : List Addr} {a : Addr} {o : HO} (x : ExtAt H L) (h : H a = some o) (n : ∀ φ, o ≠ .ext φ := by intro _ z; cases z) : cutL H L a = some o := by
  rw [cutL_ne (x.ne h n)]; exact h
mutual
theorem Rep.hide {K : Frag} {H : Hp} {L : List Addr} (x : ExtAt H L) : ∀ (d : D) (v : V), d.nce = true → Rep K H v d → Rep K (cutL H L) v d
  | .non, _, _, h => by cases h; exact .non
  | .bl b, _, _, h => by cases h; exact .bl b
  | .int b, _, _, h => by cases h; exact .int b
  | .str b, _, _, h => by cases h; exact .str b
  | .ty b, _, _, h => by cases h; exact .ty b
  | .adr a, _, _, h => by cases h; exact .adr a
  | .lst ds, _, p, h => by
    simp only [D.nce] at p
    cases h with
    | lst h1 h2 => exact .lst (x.keep h1) (RepA.hide x ds _ p h2)
  | .scr ds, _, p, h => by
    simp only [D.nce] at p
    cases h with
    | scr h1 h2 =>
      refine .scr ?_ (RepA.hide x ds _ p h2)
      rcases h1 with (h1 | ⟨o, h1⟩) | h1
      · exact .inl (.inl (x.keep h1))
      · exact .inl (.inr ⟨o, x.keep h1⟩)
      · exact .inr h1
  | .tup ds, _, p, h => by
    simp only [D.nce] at p
    cases h with
    | tup h1 h2 => exact .tup (x.keep h1) (RepA.hide x ds _ p h2)
  | .ins C ns ds, _, p, h => by
    simp only [D.nce] at p
    cases h with
    | ins h1 h2 h3 h4 => exact .ins (x.keep h1) h2 h3 (RepA.hide x ds _ p h4)
  | .dK ks ds, _, p, h => by
    simp only [D.nce] at p
    cases h with
    | dK h1 h2 h3 h4 => exact .dK (x.keep h1) h2 h3 (RepA.hide x ds _ p h4)
  | .dT ks ds, _, p, h => by
    simp only [D.nce] at p
    cases h with
    | dT h1 h2 h3 h4 => exact .dT (x.keep h1) h2 h3 (RepA.hide x ds _ p h4)
  | .exn _ _ _, _, p, _ => by simp [D.nce] at p
  | .clo _ _ _, _, p, _ => by simp [D.nce] at p
theorem RepA.hide {K : Frag} {H : Hp} {L : List Addr} (x : ExtAt H L) : ∀ (ds : List D) (vs : List V), D.nceA ds = true → RepA K H vs ds → RepA K (cutL H L) vs ds
  | [], _, _, h => by cases h; exact .nil
  | d :: ds, _, p, h => by
    simp only [D.nceA, Bool.and_eq_true] at p
    cases h with
    | cons a b => exact .cons (Rep.hide x d _ p.1 a) (RepA.hide x ds _ p.2 b)
end
def Mu.nce : Mu → Bool
  | .lst ds => D.nceA ds
  | .fL ds => D.nceA ds
  | .ins _ _ ds => D.nceA ds
  | .dK kvs => D.nceA (kvs.map Prod.snd)
  | .dT kvs => D.nceA (kvs.map Prod.snd)
  | .fK kvs => D.nceA (kvs.map Prod.snd)
  | .fT kvs => D.nceA (kvs.map Prod.snd)
theorem MuRep.hide {K : Frag} {H H0 : Hp} {L : List Addr} {a : Addr} (x0 : ExtAt H0 L) (x : ExtAt H L) : ∀ {m : Mu}, m.nce = true → MuRep K H0 H a m → MuRep K (Dl.cutL H0 L) (Dl.cutL H L) a m
  | .lst ds, f, ⟨vs, h, r⟩ => ⟨vs, x.keep h, RepA.hide x0 _ _ f r⟩
  | .fL ds, f, ⟨o, vs, h, r⟩ => ⟨o, vs, x.keep h, RepA.hide x0 _ _ f r⟩
  | .ins C ns ds, f, ⟨dx, vs, xs, h, h2, h3, r⟩ => ⟨dx, vs, xs, x.keep h, h2, h3, RepA.hide x0 _ _ f r⟩
  | .dK kvs, f, ⟨vs, xs, h, h2, h3, r⟩ => ⟨vs, xs, x.keep h, h2, h3, RepA.hide x0 _ _ f r⟩
  | .dT kvs, f, ⟨vs, xs, h, h2, h3, r⟩ => ⟨vs, xs, x.keep h, h2, h3, RepA.hide x0 _ _ f r⟩
  | .fK kvs, f, ⟨o, vs, xs, h, h2, h3, r⟩ => ⟨o, vs, xs, x.keep h, h2, h3, RepA.hide x0 _ _ f r⟩
  | .fT kvs, f, ⟨o, vs, xs, h, h2, h3, r⟩ => ⟨o, vs, xs, x.keep h, h2, h3, RepA.hide x0 _ _ f r⟩
/-! ### its promise -/
/-- a made function that changes what stands at Mi and raises nothing -/
def nspM (K : Frag) {α : Type} (args caps : α → List D) (Mi : α → Mem) (pre : α → Prop) (post : α → D → Mem → Prop) : List (Option V) → Sp := fun ws vs H Q _ =>
  ∃ x H0 us, Ht K H0 H (Mi x) ∧ RepA K H0 vs (args x) ∧ ws = us.map some ∧ RepA K H0 us (caps x) ∧ pre x ∧ (∀ v H' H0' d M', Go H0 H (Mi x) H0' H' M' → Ht K H0' H' M' → Rep K H0' v d → post x d M' → Q v H')
/-- the promise of the made functions of one def -/
def GClo (P : Program) (w : World) (K : Frag) (mg : Str → Option Value) (base : Heap) (k : Nat) (G : NF) (ps fr : List Str) (sp : List (Option V) → Sp) : Prop := ∀ (f : Addr) (cl : List (Str × Addr)) (c : Addr), NOk P w K mg base (L2.CX P w) k f (cloF G cl c) ps fr sp
section
variable {P : Program} {w : World} {K : Frag} {mg : Str → Option Value} {base : Heap} {α : Type}
theorem fn_n {G : NF} {N ps fr : List Str} {k : Nat} {args caps : α → List D} {Mi : α → Mem} {pre : α → Prop} {post : α → D → Mem → Prop} (S : NScope N ps fr G.scope) (hb : ∀ (cl : List (Str × Addr)) (c : Addr) (doc pm ctv : Value) (us : List Value), us.length = ps.length → bindArgs ((cloF G cl c).fd doc pm ctv) ⟨us, []⟩ = pure (ps.zip us))
    (hl : ∀ a, (args a).length = ps.length) (body : ∀ X : Cx, X.prog = P → X.w = w → X.K = K → X.mg = mg → X.base = base → Bd X N G.scope k → ∀ a, pre a → DS X kx0 G.body (startD N (args a ++ caps a)) (Mi a) (retP (post a))) :
    GClo P w K mg base (k + 1) G ps fr (nspM K args caps Mi pre post) := fun f cl c => by
  refine nok_of S (hb cl c) (fun ws vs H Q E h => ?_) (fun A outer s H vs ws Q E hr hf hc lw hsp => ?_)
  · obtain ⟨x, H0, us, _, r, _⟩ := h
    rw [r.length, hl]
  · obtain ⟨x, H0, us, t, r, rfl, ru, hp, hq⟩ := hsp
    have est : startF N vs (us.map some) = L2.start N (vs ++ us) := by
      unfold startF L2.start
      rw [List.map_append, List.append_assoc, List.length_map, List.length_append, Nat.sub_sub]
    refine ⟨_, pss_s _, ?_⟩
    rw [est]
    refine body (ncx (L2.CX P w) P w K mg base N (cloF G cl c) f A outer s H E) rfl rfl rfl rfl rfl ⟨rfl, S.nd, rfl, rfl, hr, passes_of rfl⟩ x hp (L2.start N (vs ++ us)) H H0 t (start_rep (r.app ru)) _ takesN Hx.none _ ?_
    exact ⟨fun σ' H' H0' ρ' M' g t _ p => hq .non H' H0' .non M' g t .non p, fun _ _ _ _ _ _ _ _ p => p.elim, fun _ _ _ _ _ _ _ _ p => p.elim, fun v H' H0' d M' g t r p => hq v H' H0' d M' g t r p⟩
end
theorem cells_ext {H : Hp} {fr : List Str} {cl : List (Str × Addr)} {vs : List V} (C : Cells H fr cl vs) : ∀ c ∈ cl.map Prod.snd, ∃ v, H c = some (CellO c v) := fun c hc => by
  obtain ⟨q, hq, rfl⟩ := List.mem_map.mp hc
  obtain ⟨i, hi⟩ := List.getElem?_of_mem hq
  have li : i < vs.length := by rw [C.2.2.2.1]; exact (List.getElem?_eq_some_iff.mp hi).1
  exact ⟨_, C.2.2.2.2 i q vs[i] hi (List.getElem?_eq_getElem li)⟩
theorem cells_extAt {H : Hp} {fr : List Str} {cl : List (Str × Addr)} {vs : List V} (C : Cells H fr cl vs) : ExtAt H (cl.map Prod.snd) := fun b hb o e => by
  obtain ⟨v, h⟩ := cells_ext C b hb
  rw [h] at e
  exact ⟨_, (Option.some.inj e).symm⟩
theorem lookup_mem {cl : List (Str × Addr)} {y : Str} {c : Addr} (h : cl.lookup y = some c) : (y, c) ∈ cl := PySem.mem_of_lookup h
theorem lookup_nd {cl : List (Str × Addr)} (nd : (cl.map Prod.fst).Nodup) : ∀ {i : Nat} {q : Str × Addr}, cl[i]? = some q → cl.lookup q.1 = some q.2 := fun {i q} h => by
  induction cl generalizing i with
  | nil => simp at h
  | cons p cl ih =>
    obtain ⟨n1, n2⟩ := List.nodup_cons.mp (show (p.1 :: cl.map Prod.fst).Nodup from nd)
    cases i with
    | zero => simp at h; subst h; simp [List.lookup]
    | succ i =>
      have h' : cl[i]? = some q := by simpa using h
      have ne : (q.1 == p.1) = false := by
        have : q.1 ≠ p.1 := fun z => n1 (by rw [← z]; exact List.mem_map.mpr ⟨q, List.mem_of_getElem? h', rfl⟩)
        simpa using this
      show (match q.1 == p.1 with | true => some p.2 | false => cl.lookup q.1) = _
      rw [ne]
      exact ih n2 h'
section
variable {X : Cx} {pins : List (Addr × PySem.Obj)} {σ : L2.St} {H : Hp} {s : Shared}
/-- a made function runs; its cells are out of sight meanwhile -/
theorem run_clo {k : Nat} {G : NF} {ps fr : List Str} {sp : List (Option V) → Sp} {f c : Addr} {cl : List (Str × Addr)} {cvs vs : List V} {us : List Value} {Q : VK} (Fn : GClo X.prog X.w X.K X.mg X.base k G ps fr sp) (hr : Room k X.A) (I : Inv X pins σ H s) (hf : H f = some (FnO f (cloF G cl c))) (hc : H c = some (CodeO c G.qual)) (C : Cells H fr cl cvs) (r : Vals vs us)
    (q : (∀ b ∈ cl.map Prod.snd, b ≠ f ∧ ∀ q, H b ≠ some (CodeO b q)) → sp (cvs.map some) vs (cutL H (cl.map Prod.snd)) (fun v H' => (∀ b ∈ cl.map Prod.snd, H' b = none) → Q v (updC H' cl cvs)) (fun _ _ _ => False)) : wpAny (model X.prog X.w) X.A (call (.ref f) us) (EP X pins σ Q) X.xe s := by
  have xt := cells_extAt C
  have cellAt : ∀ (i : Nat) (p : Str × Addr) (v : V), cl[i]? = some p → cvs[i]? = some v → ∃ u, RelV v u ∧ s.heap.IsCell p.2 (some u) := fun i p v h1 h2 => by
    obtain ⟨z, _, _⟩ := I.hok p.2 _ (C.2.2.2.2 i p v h1 h2)
    exact z
  have cellO : ∀ b ∈ cl.map Prod.snd, ∃ o u, s.heap.get? b = some o ∧ o.data = .cell (some u) := fun b hb => by
    obtain ⟨p, hp, rfl⟩ := List.mem_map.mp hb
    obtain ⟨i, hi⟩ := List.getElem?_of_mem hp
    have li : i < cvs.length := by rw [C.2.2.2.1]; exact (List.getElem?_eq_some_iff.mp hi).1
    obtain ⟨u, _, o, ho, hd⟩ := cellAt i p cvs[i] hi (List.getElem?_eq_getElem li)
    exact ⟨o, u, ho, hd⟩
  have apart : ∀ b ∈ cl.map Prod.snd, b ≠ f ∧ ∀ q, H b ≠ some (CodeO b q) := fun b hb => by
    obtain ⟨o, u, ho, hd⟩ := cellO b hb
    refine ⟨fun z => ?_, fun q z => ?_⟩
    · obtain ⟨od, sl, doc, pm, ctv, e1⟩ := fnO_at I.hok hf
      rw [← z, ho] at e1
      cases e1; cases hd
    · obtain ⟨c2, oc, vs2, t, e2, e3, e4, _⟩ := codeO_at I.hok z
      cases e2
      rw [ho] at e3; cases e3; rw [hd] at e4; cases e4
  have hf' : cutL H (cl.map Prod.snd) f = some (FnO f (cloF G cl c)) := by rw [cutL_ne (fun z => (apart f z).1 rfl)]; exact hf
  have hc' : cutL H (cl.map Prod.snd) c = some (CodeO c G.qual) := by rw [cutL_ne (fun z => (apart c z).2 _ hc)]; exact hc
  have E0 := I.env0
  have hokH : HOk X.prog X.w (cutL H (cl.map Prod.snd)) s.heap := fun a o e => by
    have e' := cutL_some e
    exact (I.hok a o e').stay (fun _ _ _ z => z) (fun b z => xt.keep z) fun b xs z => xt.keep z
  have E1 : Env0 X.prog X.w X.K X.mg X.base X.A X.stack s (cutL H (cl.map Prod.snd)) := ⟨E0.frames, E0.mod, fun b o e => ⟨(E0.bs b o e).1, by
    have := (E0.bs b o e).2
    unfold cutL; split
    · rfl
    · exact this⟩, E0.bsz, E0.funs, fun b hb => by
    have := E0.frf b hb
    unfold cutL; split
    · rfl
    · exact this, hokH, E0.bare⟩
  have ndf : (cl.map Prod.fst).Nodup := by rw [C.1]; exact C.2.1
  have CA : CellsAt cl fr (cvs.map some) s.heap (cutL H (cl.map Prod.snd)) := by
    refine ⟨by rw [List.length_map, C.2.2.2.1, ← C.1, List.length_map], fun y b e => ?_, fun x y b e1 e2 => ?_, fun i y e => ?_⟩
    · have hb : b ∈ cl.map Prod.snd := List.mem_map.mpr ⟨_, lookup_mem e, rfl⟩
      obtain ⟨o, u, ho, hd⟩ := cellO b hb
      exact ⟨cutL_in hb, some u, o, ho, hd⟩
    · obtain ⟨i1, h1⟩ := List.getElem?_of_mem (lookup_mem e1)
      obtain ⟨i2, h2⟩ := List.getElem?_of_mem (lookup_mem e2)
      have l1 := (List.getElem?_eq_some_iff.mp h1).1
      have d1 : (cl.map Prod.snd)[i1]? = some b := by rw [List.getElem?_map, h1]; rfl
      have d2 : (cl.map Prod.snd)[i2]? = some b := by rw [List.getElem?_map, h2]; rfl
      have ei : i1 = i2 := (List.getElem?_inj (by rw [List.length_map]; exact l1) C.2.2.1).mp (d1.trans d2.symm)
      rw [ei, h2] at h1
      cases h1; rfl
    · have e2 : (cl.map Prod.fst)[i]? = some y := by rw [C.1]; exact e
      rw [List.getElem?_map] at e2
      cases ei : cl[i]? with
      | none => rw [ei] at e2; cases e2
      | some p =>
        rw [ei] at e2
        cases e2
        refine ⟨p.2, lookup_nd ndf ei, fun v ev => ?_⟩
        rw [List.getElem?_map] at ev
        cases ec : cvs[i]? with
        | none => rw [ec] at ev; cases ev
        | some v' =>
          rw [ec] at ev
          cases ev
          exact cellAt i p _ ei ec
  refine wpAny_call (codeAny_mono ((Fn f cl c).run X.A X.stack s _ us vs (cvs.map some) _ _ hr E1 hf' hc' CA r (q apart)) fun rr s' hq => ?_)
  cases rr with
  | error e =>
    obtain ⟨_, _, _, _, _, _, _, _, _, _, _, _, z⟩ := hq
    exact False.elim z
  | ok fl =>
    cases fl with
    | next => exact False.elim hq
    | brk => exact False.elim hq
    | cont => exact False.elim hq
    | ret u =>
      obtain ⟨v, H', os, bare, un, hok', rv, q'⟩ := hq
      have nf : ∀ b ∈ cl.map Prod.snd, H' b = none := fun b hb => by
        obtain ⟨o, u, ho, _⟩ := cellO b hb
        exact un.free b o ho (cutL_in hb) (by simp)
      have nfr : ∀ b ∈ cl.map Prod.snd, b ∉ frs X.stack := fun b hb z => by
        obtain ⟨v, h⟩ := cells_ext C b hb
        rw [I.stkFree b z] at h; cases h
      have same : ∀ b u, H' b = some u → updC H' cl cvs b = some u := fun b u e => by rw [updC_ne (fun z => by rw [nf b z] at e; cases e)]; exact e
      have cn : ∀ b, H b = none → cutL H (cl.map Prod.snd) b = none := fun b e => by
        unfold cutL; split
        · rfl
        · exact e
      have hcs : HasC s'.heap cl cvs := fun i p v h1 h2 => by
        obtain ⟨u, ru, o, ho, hd⟩ := cellAt i p v h1 h2
        have hb : p.2 ∈ cl.map Prod.snd := List.mem_map.mpr ⟨p, List.mem_of_getElem? h1, rfl⟩
        exact ⟨u, ru, o, un.keep p.2 o ho (cutL_in hb) (nfr _ hb) (by simp), hd⟩
      refine I.after ⟨v, updC H' cl cvs, os, bare, ⟨fun b o e n => un.keep b o e (cn b n), fun b o e n => un.slot b o e (cn b n), fun b o e n hx => ?_, un.there, fun b xs e => same _ _ (un.tups b xs (xt.keep e)), fun b o xs e => same _ _ (un.frzs b o xs (xt.keep e)), fun b ps e => ?_⟩, hok_updC hok' C.2.2.1 C.2.2.2.1 nf hcs, rv, q' nf⟩
      · rw [updC_ne (fun z => by obtain ⟨v, h⟩ := cells_ext C b z; rw [n] at h; cases h)]
        exact un.free b o e (cn b n) hx
      · obtain ⟨more, z⟩ := un.tbls b ps (xt.keep e)
        exact ⟨more, same _ _ z⟩
end

/-- the state with the cells out of sight -/
theorem Ht.hide {K : Frag} {H0 H : Hp} {M : Mem} {fr : List Str} {cl : List (Str × Addr)} {vs : List V} (t : Ht K H0 H M) (C : Cells H0 fr cl vs) (hn : ∀ b ∈ cl.map Prod.snd, ∀ q, H b ≠ some (CodeO b q)) (nm : ∀ p ∈ M, p.2.nce = true) : Ht K (cutL H0 (cl.map Prod.snd)) (cutL H (cl.map Prod.snd)) M := by
  have x0 := cells_extAt C
  have CH : Cells H fr cl vs := ⟨C.1, C.2.1, C.2.2.1, C.2.2.2.1, fun i q v a b => t.ex _ _ (C.2.2.2.2 i q v a b)⟩
  have x := cells_extAt CH
  have c0 : ∀ b, H0 b = none → cutL H0 (cl.map Prod.snd) b = none := fun b e => by
    unfold cutL; split
    · rfl
    · exact e
  refine ⟨fun b o e => ?_, t.nd, fun p hp => ?_, ⟨fun p hp => ?_, fun b ps e => t.tb.2 b ps (cutL_some e)⟩⟩
  · by_cases hb : b ∈ cl.map Prod.snd
    · rw [cutL_in hb] at e; cases e
    · rw [cutL_ne hb] at e ⊢; exact t.ex _ _ e
  · obtain ⟨m1, m2⟩ := t.mem p hp
    exact ⟨c0 _ m1, m2.hide x0 x (nm p hp)⟩
  · obtain ⟨m1, ps, h1, h2, h3⟩ := t.tb.1 p hp
    refine ⟨c0 _ m1, ps, x.keep h1, h2, fun pos cv hc => ?_⟩
    obtain ⟨c, e1, e2⟩ := h3 pos cv hc
    exact ⟨c, e1, by rw [cutL_ne (fun z => hn c z _ e2)]; exact e2⟩
/-- and back -/
theorem unhide {K : Frag} {H0 H H0' H' : Hp} {M M' : Mem} {fr : List Str} {cl : List (Str × Addr)} {vs : List V} (t : Ht K H0 H M) (C : Cells H0 fr cl vs) (g : Go (cutL H0 (cl.map Prod.snd)) (cutL H (cl.map Prod.snd)) M H0' H' M') (t' : Ht K H0' H' M') (nf : ∀ b ∈ cl.map Prod.snd, H' b = none) :
    Go H0 H M (updC H0' cl vs) (updC H' cl vs) M' ∧ Ht K (updC H0' cl vs) (updC H' cl vs) M' ∧ Same H0' (updC H0' cl vs) := by
  have nf0 : ∀ b ∈ cl.map Prod.snd, H0' b = none := fun b hb => t'.ex.free (nf b hb)
  have same0 : Same H0' (updC H0' cl vs) := fun b u e => by rw [updC_ne (fun z => by rw [nf0 b z] at e; cases e)]; exact e
  have same1 : Same H' (updC H' cl vs) := fun b u e => by rw [updC_ne (fun z => by rw [nf b z] at e; cases e)]; exact e
  have CH : ∀ (i : Nat) (q : Str × Addr) (v : V), cl[i]? = some q → vs[i]? = some v → H q.2 = some (CellO q.2 v) := fun i q v a b => t.ex _ _ (C.2.2.2.2 i q v a b)
  have inc : ∀ {Z : Hp} {b : Addr} {o : HO}, (∀ (i : Nat) (q : Str × Addr) (v : V), cl[i]? = some q → vs[i]? = some v → Z q.2 = some (CellO q.2 v)) → b ∈ cl.map Prod.snd → Z b = some o → ∀ Y : Hp, updC Y cl vs b = some o := fun {Z b o} hZ hb e Y => by
    obtain ⟨q, hq, rfl⟩ := List.mem_map.mp hb
    obtain ⟨i, hi⟩ := List.getElem?_of_mem hq
    have li : i < vs.length := by rw [C.2.2.2.1]; exact (List.getElem?_eq_some_iff.mp hi).1
    have h1 := hZ i q vs[i] hi (List.getElem?_eq_getElem li)
    rw [e] at h1
    rw [h1]
    exact updC_at C.2.2.1 hi (List.getElem?_eq_getElem li)
  have cin : ∀ b ∈ cl.map Prod.snd, H0 b ≠ none ∧ H b ≠ none := fun b hb => by
    obtain ⟨v, h⟩ := cells_ext C b hb
    exact ⟨by rw [h]; exact fun z => (by cases z), by rw [t.ex _ _ h]; exact fun z => (by cases z)⟩
  refine ⟨⟨fun b o e => ?_, fun b o e hm n => ?_, fun b b1 b2 b3 => ?_, fun b hb => ?_, fun b e => ?_⟩, ⟨fun b o e => ?_, t'.nd, fun p hp => ?_, t'.tb.keep (fun b ps a e => ?_) (fun b ps e => same1 _ _ e) (fun c φ e => same1 _ _ e) fun b ps e => ?_⟩, same0⟩
  · by_cases hb : b ∈ cl.map Prod.snd
    · exact inc C.2.2.2.2 hb e _
    · exact same0 _ _ (g.e0 _ _ (by rw [cutL_ne hb]; exact e))
  · by_cases hb : b ∈ cl.map Prod.snd
    · exact inc CH hb e _
    · exact same1 _ _ (g.e _ _ (by rw [cutL_ne hb]; exact e) hm n)
  · have hb : b ∉ cl.map Prod.snd := fun z => (cin b z).1 b1
    rw [updC_ne hb]
    exact g.new b (by rw [cutL_ne hb]; exact b1) (by rw [cutL_ne hb]; exact b2) b3
  · rcases g.dom b hb with z | z
    · exact .inl z
    · by_cases hc : b ∈ cl.map Prod.snd
      · obtain ⟨p, hp, rfl⟩ := List.mem_map.mp hb
        obtain ⟨o, ho⟩ := (t'.mem p hp).2.there
        rw [nf _ hc] at ho; cases ho
      · rw [cutL_ne hc] at z; exact .inr z
  · by_cases hb : b ∈ cl.map Prod.snd
    · obtain ⟨v, h⟩ := cells_ext C b hb
      have := inc (Z := H0) C.2.2.2.2 hb h H'
      rw [this] at e; cases e
    · rw [updC_ne hb] at e
      have := g.there b e
      rw [cutL_ne hb] at this
      exact this
  · rcases updC_cases C.2.2.1 C.2.2.2.1 e with ⟨_, h2⟩ | ⟨i, q, v, h1, h2, rfl, rfl⟩
    · exact same1 _ _ (t'.ex _ _ h2)
    · exact updC_at C.2.2.1 h1 h2
  · obtain ⟨m1, m2⟩ := t'.mem p hp
    obtain ⟨o, ho⟩ := m2.there
    refine ⟨by rw [updC_ne (fun z => by rw [nf _ z] at ho; cases ho)]; exact m1, m2.mono same0 fun o e _ => same1 _ _ e⟩
  · rw [updC_ne (fun z => by rw [nf b z] at e; cases e)]; exact a
  · rcases updC_cases C.2.2.1 C.2.2.2.1 e with ⟨_, h2⟩ | ⟨i, q, v, h1, h2, _, z⟩
    · exact h2
    · cases z
section
variable {X : Cx} {kx : XD} {ρ : Ro} {M F : Mem} {pos p : Pos} {e : Expr} {es : List Expr} {α : Type} {k i : Nat} {x : Str} {G : NF} {ps fr : List Str} {as ds : List D} {args caps : α → List D} {Mi : α → Mem} {pre : α → Prop} {post : α → D → Mem → Prop} {kk : D → Mem → Prop} {z : D}
theorem callN (Fn : GClo X.prog X.w X.K X.mg X.base k G ps fr (nspM X.K args caps Mi pre post)) (hr : Room k X.A) (n : Nm X i x) (hs : ρ[i]? = some (some (.clo G fr ds))) (ha : DA X kx (e :: es) ρ M as) (a : α) (hargs : args a = as) (hcaps : caps a = ds) (na : D.nceA as = true) (nd : D.nceA ds = true) (nm : ∀ p ∈ Mi a, p.2.nce = true) (pm : M.Perm (Mi a ++ F)) (hp : pre a)
    (he : starEach (e :: es) X.env = (false, eval e X.env) :: starEach es X.env := by rfl) (hpl : (backTo pos (starEach es X.env)).any (·.1) = false := by rfl) {σ : L2.St} {H H0 : Hp} (t : Ht X.K H0 H M) (s : Sl X.K H0 σ ρ) {W : WX} (tk : Takes X W) (hx : Hx X W H0 H M kx) {Q : VK}
    (hk : ∀ v H1 H01 H' H0' d M', Pu H0 H H01 H1 → Go H01 H1 (Mi a) H0' H' M' → Ht X.K H0' H' M' → Rep X.K H0' v d → post a d M' → Q v H') : sE X (.Call (.Name x p) (e :: es) [] pos) σ H Q := fun pins st I => by
  obtain ⟨v, e1, r1⟩ := s.2 i _ hs
  cases r1 with
  | @clo f c _ cl _ cvs _ hf hc C rc =>
    refine wpAny_Call_Name_kw (thn ((pe_var (pos := p) n.get n.vis n.d1 n.d2).run pins st σ H (fun v H1 => v = .ref f ∧ H1 = H) I ⟨.ref f, e1, rfl, rfl⟩) fun u s1 ⟨v, H1, I1, r1, ev, eH⟩ => ?_)
    subst ev
    subst eH
    obtain rfl : u = Value.ref f := r1
    refine PySem.W.callWith_F (first := []) (fnAt_of I1 (t.ex _ _ hf)) (thn ((pa_s (e :: es)).run pos pins s1 σ _ (fun vs H' => ∃ H01, Pu H0 _ H01 H' ∧ RepA X.K H01 vs as) I1 (ha σ _ H0 t s W tk hx _ fun vs H' H0' p r => ⟨H0', p, r⟩)) fun us s2 ⟨vs, H2, I2, rv, H01, p1, q1⟩ => ?_) he hpl
    have t2 := t.pu p1
    have up : ∀ {b : Addr} {o : HO}, H0 b = some o → H01 b = some o := fun {b o} e => p1.e0 _ _ e
    have C1 : Cells H01 fr cl cvs := ⟨C.1, C.2.1, C.2.2.1, C.2.2.2.1, fun i q v a b => up (C.2.2.2.2 i q v a b)⟩
    have C2 : Cells H2 fr cl cvs := ⟨C.1, C.2.1, C.2.2.1, C.2.2.2.1, fun i q v a b => t2.ex _ _ (up (C.2.2.2.2 i q v a b))⟩
    refine ⟨fnAt_of I2 (t2.ex _ _ (up hf)), ?_⟩
    show wpAny _ _ (call (.ref f) us) _ _ _
    refine run_clo Fn hr I2 (t2.ex _ _ (up hf)) (t2.ex _ _ (up hc)) C2 rv fun apart => ?_
    have tl := (t2.perm pm).left
    have th := tl.hide C1 (fun b hb => (apart b hb).2) nm
    have x1 := cells_extAt C1
    refine ⟨a, cutL H01 (cl.map Prod.snd), cvs, th, by rw [hargs]; exact RepA.hide x1 _ _ na q1, rfl, by rw [hcaps]; exact RepA.hide x1 _ _ nd (rc.mo p1.e0), hp, fun v H' H0' d M' g t' rr pp nf => ?_⟩
    obtain ⟨g2, t4, sm⟩ := unhide tl C1 g t' nf
    exact hk v H2 H01 _ _ d M' p1 g2 t4 (rr.mo sm) pp
/-- .. that changes nothing -/
theorem dv_callN (Fn : GClo X.prog X.w X.K X.mg X.base k G ps fr (nspM X.K args caps (fun _ => []) pre post)) (hr : Room k X.A) (n : Nm X i x) (hs : ρ[i]? = some (some (.clo G fr ds))) (ha : DA X kx (e :: es) ρ M as) (a : α) (hargs : args a = as) (hcaps : caps a = ds) (na : D.nceA as = true) (nd : D.nceA ds = true) (hp : pre a)
    (hk : ∀ d M', post a d M' → d = z) (he : starEach (e :: es) X.env = (false, eval e X.env) :: starEach es X.env := by rfl) (hpl : (backTo pos (starEach es X.env)).any (·.1) = false := by rfl) : DV X kx (.Call (.Name x p) (e :: es) [] pos) ρ M z := fun σ H H0 t s W tk hx Q q =>
  callN (F := M) Fn hr n hs ha a hargs hcaps na nd (fun p hp => by cases hp) (List.Perm.refl _) hp he hpl t s tk hx fun v H1 H01 H' H0' d M' p1 g t' rr pp => by
    rw [hk d M' pp] at rr
    exact q v _ _ (p1.trans (g.pu t')) rr
end
end Dl

namespace Dl
open PySem PySem.Spec PyProof.Rows L2
/-! ### dicts of lists that change -/
section
variable {κ β : Type} [DecidableEq κ] {ek : κ → Key} {f : β → D} {r : List (κ × List β)} {d : D} {m : Mem}
def isDKL (ek : κ → Key) (f : β → D) (r : List (κ × List β)) (o : Ow) : Prop := ∃ (a : Addr) (os : List Ow), o = .dK a (r.map fun q => ek q.1) os ∧ All2 (isLstF f) (r.map Prod.snd) os ∧ (r.map Prod.fst).Nodup
theorem own_dkl : OwR (isDKL ek f) r d m ↔ ∃ (a : Addr) (rs : List (κ × D)) (m' : Mem), OwD (isLstF f) r rs m' ∧ d = .adr a ∧ m = (a, Mu.dK (rs.map fun q => (ek q.1, q.2))) :: m' ∧ (r.map Prod.fst).Nodup := by
  have e : ∀ os : List Ow, ((r.map Prod.fst).zip (Ow.rootA os)).map (fun q => (ek q.1, q.2)) = (r.map fun q => ek q.1).zip (Ow.rootA os) := fun os => by
    have := zip_keys (ek := ek) (xs := r) (ds := Ow.rootA os)
    exact this
  constructor
  · rintro ⟨o, ⟨a, os, rfl, h, nd⟩, rfl, rfl⟩
    refine ⟨a, _, _, h.owD, by simp only [Ow.root], ?_, nd⟩
    rw [e]
    simp only [Ow.mem]
  · rintro ⟨a, rs, m', h, rfl, rfl, nd⟩
    obtain ⟨os, h1, h2, h3, rfl⟩ := h.all
    refine ⟨_, ⟨a, os, rfl, h1, nd⟩, by simp only [Ow.root], ?_⟩
    simp only [Ow.mem]
    rw [← e os, ← h2, ← h3, ← zip_of rs]
theorem ok_dkl : OwK (isDKL ek f) (fun r => .dK (r.map fun q => ek q.1) (r.map fun q => .scr (q.2.map f))) := by
  have kl : OwK (isLstF f) (fun xs => D.scr (xs.map f)) := okLstF f
  refine ⟨?_, ?_⟩
  · rintro r o ⟨a, os, rfl, h, _⟩
    simp only [Ow.frz]
    rw [(h.frz kl).1, List.map_map]; rfl
  · rintro r o ⟨a, os, rfl, h, _⟩
    simp only [Ow.fit]
    refine ⟨?_, (h.frz kl).2⟩
    have := congrArg List.length (h.frz kl).1
    rw [frzA_map, List.length_map, List.length_map, List.length_map] at this
    rw [List.length_map, this]
end
section
variable {X : Cx} {kx : XD} {ρ : Ro} {M R : Mem} {P : Out → Mem → Prop} {pos p apos cpos spos tpos np xpos : Pos} {e o ix a : Expr} {d y : D} {N : List Str} {sc : Scope} {k : Nat} {κ β : Type} [DecidableEq κ] {ek : κ → Key} {f : β → D} {r : List (κ × List β)} {m : Mem} {kk : κ}
/-- x = {}, a dict of lists -/
theorem ds1_newG {i : Nat} {v : Str} (ek : κ → Key) (f : β → D) (n : Ns X i v) (hp : ∀ d m, OwR (isDKL ek f) [] d m → P (.nx (ρ.set i (some d))) (m ++ M))
    (hs : swapsWithSole [.Name v np] (.Dict [] [] apos) pos.line X.env = pure false := by rfl) (hw : swappedStores [.Name v np] (.Dict [] [] apos) X.env = pure none := by rfl) : DS1 X kx (.Assign [.Name v np] (.Dict [] [] apos) pos) ρ M P :=
  ds1_setE (k := fun d m => ∃ w, w ∉ M.dom ∧ d = .adr w ∧ m = (w, .dK []) :: M) n (de_newK fun w hw => ⟨w, hw, rfl, rfl⟩) (fun d m ⟨w, h1, h2, h3⟩ => by
    subst h2; subst h3
    exact hp _ [(w, Mu.dK [])] (own_dkl.mpr ⟨w, [], [], .nil, rfl, rfl, List.nodup_nil⟩)) hs hw
theorem getA_raw (inj : ∀ a b, ek a = ek b → a = b) (rs : List (κ × D)) (kk : κ) : getA (rs.map fun q => (ek q.1, q.2)) (ek kk) = getA rs kk := by
  have := getA_map inj (g := fun x : D => x) kk rs
  rw [this]
  cases getA rs kk <;> rfl
/-- x.setdefault(k, []) -/
theorem ds1_setdG (h : OwR (isDKL ek f) r d m) (pm : M.Perm (m ++ R)) (B : Bd X N sc k) (inj : ∀ a b, ek a = ek b → a = b) (ho : DV X kx o ρ M d) (he : DV X kx e ρ M (kD (ek kk))) (hl : r.length ≤ 90000) (hk : ∀ m', OwR (isDKL ek f) (setdA r kk []) d m' → P (.nx ρ) (m' ++ R))
    (mm : M2 X o "setdefault" apos e (.List [] p) cpos := by exact m2) (hs : swapsWith (.Call (.Attribute o "setdefault" apos) [e, .List [] p] [] cpos) none spos.line X.env = pure false := by rfl) : DS1 X kx (.Expr (.Call (.Attribute o "setdefault" apos) [e, .List [] p] [] cpos) spos) ρ M P := fun σ H H0 t s W tk hx D cn => by
  obtain ⟨w, rs, m0, hd, rfl, rfl, nd⟩ := own_dkl.mp h
  refine sS.by (ps_expr (pe_dsetd (pe_s o) (pe_s e) (pe_s (.List [] p)) mm) hs) ?_
  refine ho σ H H0 t s W tk hx _ fun u H1 H01 p1 r1 => ?_
  cases r1
  have t1 := (t.pu p1).perm pm
  obtain ⟨_, vs0, xs0, h10, _⟩ := t1.mem (w, Mu.dK (rs.map fun q => (ek q.1, q.2))) (by simp)
  refine ⟨w, rfl, .inl ⟨vs0, .inl h10⟩, he σ H1 H01 (t.pu p1) (s.mo p1.e0) W tk (hx.pu p1) _ fun u2 H2 H02 p2 r2 => ?_⟩
  have ek2 := kD_rep r2
  subst ek2
  have p12 := p1.trans p2
  refine sE.by (pe_lst (pa_s [])) ((da_nil : DA X kx [] ρ M []) σ H2 H02 (t.pu p12) (s.mo p12.e0) W tk (hx.pu p12) _ fun us H3 H03 p3 r3 => ⟨by rw [r3.length]; exact Nat.zero_le _, fun l hl0 => ?_⟩)
  cases r3
  have p13 := p12.trans p3
  have t3 := (t.pu p13).perm pm
  obtain ⟨z0, vs, xs, h1, h2, h3, h4⟩ := t3.mem (w, Mu.dK (rs.map fun q => (ek q.1, q.2))) (by simp)
  subst h3
  have lv : vs.length = rs.length := by have := congrArg List.length h2; simpa using this
  have lr := hd.len
  -- the new list
  have t4 := t3.new1 (p := l) (m := .lst []) hl0 (o := .lst []) fun H' e => ⟨[], e, .nil⟩
  have g4 : Go H03 H3 ((w, Mu.dK (rs.map fun q => (ek q.1, q.2))) :: m0 ++ R) H03 (upd H3 l (.lst [])) ((l, .lst []) :: ((w, Mu.dK (rs.map fun q => (ek q.1, q.2))) :: m0 ++ R)) := Go.new1 hl0 (.lst [])
  have nwl : w ≠ l := fun z => by rw [← z, h1] at hl0; cases hl0
  have h1' : upd H3 l (.lst []) w = some (.dK vs) := by rw [upd_ne nwl]; exact h1
  have lk := get_rep (K := X.K) (H := H03) (ek kk) h2 h4
  rw [getA_raw inj] at lk
  have gs := hd.get kk
  have gg := (p13.go.trans (g4.permL pm.symm))
  refine ⟨vs, ek kk, h1', rfl, by rw [sizeLine_eq]; omega, fun v hv => ?_, fun hn => ?_⟩
  · rw [hv] at lk
    have e1 : (getA rs kk).isSome = true := by
      cases z : getA rs kk with
      | none => rw [z] at lk; exact lk.elim
      | some _ => rfl
    have e2 : setdA r kk [] = r := by unfold setdA; rw [if_pos (by rw [← gs]; exact e1)]
    rw [e2] at hk
    exact cn.nx σ _ H03 ρ _ (gg.subR (List.sublist_cons_self _ _)) (t4.sub (List.sublist_cons_self _ _)) (s.mo p13.e0) (hk _ h)
  · rw [hn] at lk
    have e1 : getA rs kk = none := by
      cases z : getA rs kk with
      | none => rfl
      | some _ => rw [z] at lk; exact lk.elim
    have e0 : getA r kk = none := by
      rw [e1] at gs
      cases z : getA r kk with
      | none => rfl
      | some _ => rw [z] at gs; cases gs
    have e2 : setdA r kk [] = putA r kk [] := by unfold setdA; rw [e0]; rfl
    rw [e2] at hk
    obtain ⟨m', old, j1, j2⟩ := hd.put nd kk (own_lstF.mpr ⟨l, rfl, rfl⟩ : OwR (isLstF f) [] (.adr l) [(l, Mu.lst [])])
    obtain ⟨i1, i2⟩ := put_rep (k := ek kk) (v := .ref l) (d := .adr l) h2 h4 (.adr l)
    have hm1 : ((l, Mu.lst []) :: ((w, Mu.dK (rs.map fun q => (ek q.1, q.2))) :: m0 ++ R))[1]? = some (w, Mu.dK (rs.map fun q => (ek q.1, q.2))) := rfl
    obtain ⟨t5, g5⟩ := t4.setM (o := .dK (putK vs (ek kk) (.ref l))) (m' := .dK (putA (rs.map fun q => (ek q.1, q.2)) (ek kk) (.adr l))) hm1 fun H' e => ⟨_, _, e, i1, rfl, i2⟩
    have ep : putA (rs.map fun q => (ek q.1, q.2)) (ek kk) (Dl.D.adr l) = (putA rs kk (Dl.D.adr l)).map fun q => (ek q.1, q.2) := putA_map inj (g := fun x : Dl.D => x) rs kk (Dl.D.adr l)
    have pf : ((l, Mu.lst []) :: ((w, Mu.dK (rs.map fun q => (ek q.1, q.2))) :: m0 ++ R)).set 1 (w, Mu.dK (putA (rs.map fun q => (ek q.1, q.2)) (ek kk) (.adr l))) = (l, Mu.lst []) :: (w, Mu.dK ((putA rs kk (.adr l)).map fun q => (ek q.1, q.2))) :: (m0 ++ R) := by rw [ep]; rfl
    rw [pf] at t5 g5
    have pq : ((l, Mu.lst []) :: (w, Mu.dK ((putA rs kk (.adr l)).map fun q => (ek q.1, q.2))) :: (m0 ++ R)).Perm (((w, Mu.dK ((putA rs kk (.adr l)).map fun q => (ek q.1, q.2))) :: m' ++ R) ++ old) := by
      refine (List.Perm.swap _ _ _).trans (List.Perm.cons _ ?_)
      refine ((j2.append_right R) : ((l, Mu.lst []) :: (m0 ++ R)).Perm _).trans ?_
      rw [List.append_assoc]
      have z : (m' ++ (old ++ R)).Perm ((m' ++ R) ++ old) := by
        rw [List.append_assoc]
        exact List.Perm.append_left m' List.perm_append_comm
      exact z
    have sub : ((w, Mu.dK ((putA rs kk (.adr l)).map fun q => (ek q.1, q.2))) :: m' ++ R).Sublist (((w, Mu.dK ((putA rs kk (.adr l)).map fun q => (ek q.1, q.2))) :: m' ++ R) ++ old) := List.sublist_append_left _ _
    exact cn.nx σ _ H03 ρ _ (((gg.trans g5).permR pq).subR sub) ((t5.perm pq).sub sub) (s.mo p13.e0) (hk _ (own_dkl.mpr ⟨w, _, m', j1, rfl, rfl, putA_keys _ _ _ nd⟩))
/-- x[k].append(v) -/
theorem ds1_appG {xs : List β} {v : β} (h : OwR (isDKL ek f) r d m) (pm : M.Perm (m ++ R)) (B : Bd X N sc k) (inj : ∀ a b, ek a = ek b → a = b) (ho : ∀ M', M.Perm M' → DV X kx0 o ρ M' d) (hi : ∀ M', M.Perm M' → DV X kx0 ix ρ M' (kD (ek kk))) (hv : ∀ M', M.Perm M' → DV X kx0 e ρ M' (f v)) (hg : someE (getA r kk) = .ok xs) (hl : xs.length ≤ 90000)
    (hk : ∀ m', OwR (isDKL ek f) (putA r kk (xs ++ [v])) d m' → P (.nx ρ) (m' ++ R))
    (hsl : NoSl ix := by first | exact ⟨rfl, rfl⟩ | exact fun _ _ => rfl)
    (hb : attributeBase (.Subscript o ix xpos) "append" X.env (eval (.Subscript o ix xpos) X.env) = eval (.Subscript o ix xpos) X.env := by rfl)
    (hfew : ((backTo cpos (starEach [e] X.env)).all (fun x => !x.1) && (backToKw cpos (keywordEach [] X.env)).all (fun x => x.1.isSome) && decide ([e].length + ([] : List Keyword).length + (if ([] : List Keyword).isEmpty then 0 else 1) < 30)) = true := by rfl)
    (hline : (apos.endLine == cpos.line) = true := by rfl) (hs : starEach [e] X.env = (false, eval e X.env) :: starEach [] X.env := by rfl)
    (hs2 : swapsWith (.Call (.Attribute (.Subscript o ix xpos) "append" apos) [e] [] cpos) none tpos.line X.env = pure false := by rfl) : DS1 X kx (.Expr (.Call (.Attribute (.Subscript o ix xpos) "append" apos) [e] [] cpos) tpos) ρ M P := by
  obtain ⟨w, rs, m0, hd, rfl, rfl, nd⟩ := own_dkl.mp h
  have hg' : getA r kk = some xs := by
    cases z : getA r kk with
    | none => rw [z] at hg; cases hg
    | some u => rw [z] at hg; cases hg; rfl
  obtain ⟨d1, mr, mx, a1, a2, a3, a4⟩ := hd.foc nd hg'
  obtain ⟨l, rfl, rfl⟩ := own_lstF.mp a2
  obtain ⟨m', b1, b2⟩ := a4 (xs ++ [v]) [(l, Mu.lst ((xs ++ [v]).map f))] (own_lstF.mpr ⟨l, rfl, rfl⟩)
  have pq : M.Perm ((l, Mu.lst (xs.map f)) :: (w, Mu.dK (rs.map fun q => (ek q.1, q.2))) :: (mx ++ R)) := by
    refine pm.trans ((List.Perm.cons _ ((a3.append_right R) : (m0 ++ R).Perm ((l, Mu.lst (xs.map f)) :: (mx ++ R)))).trans (List.Perm.swap _ _ _))
  have e1 : ((l, Mu.lst (xs.map f)) :: (w, Mu.dK (rs.map fun q => (ek q.1, q.2))) :: (mx ++ R)).set 0 (l, Mu.lst (xs.map f ++ [f v])) = (l, Mu.lst ((xs ++ [v]).map f)) :: (w, Mu.dK (rs.map fun q => (ek q.1, q.2))) :: (mx ++ R) := by rw [List.map_append]; rfl
  have key : DS1 X kx0 (.Expr (.Call (.Attribute (.Subscript o ix xpos) "append" apos) [e] [] cpos) tpos) ρ ((l, Mu.lst (xs.map f)) :: (w, Mu.dK (rs.map fun q => (ek q.1, q.2))) :: (mx ++ R)) (fun out M' => out = .nx ρ ∧ M' = (l, Mu.lst ((xs ++ [v]).map f)) :: (w, Mu.dK (rs.map fun q => (ek q.1, q.2))) :: (mx ++ R)) := by
    have dk : DKey ((l, Mu.lst (xs.map f)) :: (w, Mu.dK (rs.map fun q => (ek q.1, q.2))) :: (mx ++ R)) (.adr w) (kD (ek kk)) ((getA rs kk).map fun x => x) := dk_kA (f := fun x : D => x) inj (by simp) rfl
    rw [a1] at dk
    exact ds1_app (i := 0) (dv_dixE (q := some (D.adr l)) (f := fun x : D => x) B rfl (ho _ pq) (hi _ pq) dk hsl) (hv _ pq) rfl (by rw [List.length_map, sizeLine_eq]; omega) ⟨rfl, e1⟩ hb hfew hline hs hs2
  have pz : ((l, Mu.lst ((xs ++ [v]).map f)) :: (w, Mu.dK (rs.map fun q => (ek q.1, q.2))) :: (mx ++ R)).Perm ((w, Mu.dK (rs.map fun q => (ek q.1, q.2))) :: m' ++ R) :=
    (List.Perm.swap _ _ _).trans (List.Perm.cons _ ((b2.append_right R) : ((l, Mu.lst ((xs ++ [v]).map f)) :: (mx ++ R)).Perm (m' ++ R)))
  exact fun σ H H0 t s W tk hx D c => key σ H H0 (t.perm pq) s W tk (fun _ _ _ _ _ _ _ _ _ _ _ _ z => z.elim) D
    ⟨fun σ' H' H0' ρ' M' g t' s' ⟨q1, q2⟩ => by
      cases q1; subst q2
      exact c.nx σ' H' H0' ρ _ ((g.permL pq.symm).permR pz) (t'.perm pz) s' (hk _ (own_dkl.mpr ⟨w, rs, m', b1, rfl, rfl, putA_keys _ _ _ nd⟩)),
    fun _ _ _ _ _ _ _ _ z => (by cases z.1), fun _ _ _ _ _ _ _ _ z => (by cases z.1), fun _ _ _ _ _ _ _ _ z => (by cases z.1)⟩
end
end Dl

namespace Dl
open PySem PySem.Spec PyProof.Rows L2 NdefX LamX He
/-! ### for the printed walks -/
def nthS (l : List Stmt) (n : Nat) (d : Stmt) : Stmt := (l[n]?).getD d
/-- the places of «return f» at a suite's end -/
def retP1 (l : List Stmt) : Pos := match l.getLast? with
  | some (.Return (some (.Name _ p)) _) => p
  | _ => ⟨0, 0, 0, 0⟩
def retP2 (l : List Stmt) : Pos := match l.getLast? with
  | some (.Return _ p) => p
  | _ => ⟨0, 0, 0, 0⟩
def defP (s : Stmt) : Pos := match s with
  | .FunctionDef _ _ _ _ _ _ _ _ _ p => p
  | _ => ⟨0, 0, 0, 0⟩
/-- a captured name -/
structure Fre (X : Cx) (i : Nat) (x : Str) : Prop where
  toNm : Nm X i x
theorem Bd.fre {X : Cx} {N : List Str} {sc : Scope} {k i : Nat} {x : Str} (B : Bd X N sc k) (h : N[i]? = some x) (v : sc.names.lookup x = some .free) (d1 : (x == ("__debug__" : Str)) = false := by decide) (d2 : (x == ("__classdict__" : Str)) = false := by decide) : Fre X i x := ⟨B.nm h (.inr (.inr v)) d1 d2⟩
theorem nce_dK {α : Type} {ks : List Key} {f : α → D} (h : ∀ x, (f x).nce = true) (xs : List α) : (D.dK ks (xs.map f)).nce = true := by simp only [D.nce]; exact nceA_map h xs
section
variable {ρ : Ro} {M : Mem} {post : List D → Prop} {j0 j1 j2 : Nat} {d0 d1 d2 : D}
theorem end1 (h0 : ρ[j0]? = some (some d0)) (p : post [d0]) : endP [j0] post (.nx ρ) M := ⟨[d0], rfl, fun n j d a b => by
  match n, a, b with
  | 0, a, b => cases a; cases b; exact h0, p⟩
theorem end3 (h0 : ρ[j0]? = some (some d0)) (h1 : ρ[j1]? = some (some d1)) (h2 : ρ[j2]? = some (some d2)) (p : post [d0, d1, d2]) : endP [j0, j1, j2] post (.nx ρ) M := ⟨[d0, d1, d2], rfl, fun n j d a b => by
  match n, a, b with
  | 0, a, b => cases a; cases b; exact h0
  | 1, a, b => cases a; cases b; exact h1
  | 2, a, b => cases a; cases b; exact h2, p⟩
end
section
variable {P : Program} {w : World} {K : Frag} {mg : Str → Option Value} {base : Heap} {α β : Type}
theorem FunT.gfM {x : Str} {st : Stmt} {ps : List Str} {k : Nat} {sp : Sp} (T : FunT K mg x st ps) (h : ∀ f fd, mg x = some (.ref f) → Fun K x x st f fd → FnOk P w K mg base (L2.CX P w) k f fd ps sp) : GF P w K mg base k x [] sp := by
  obtain ⟨f, fd, F, g, b⟩ := T
  exact ⟨f, fd, ps, [], [], g, F.kp, h f fd g F, b, .nil, fun _ => .nil⟩
/-- where the def hands back its inner def -/
def endE (js : List Nat) (encs : β → List D) (out : Ex β) : Out → Mem → Prop := endP js fun ds => ∃ r, out = .ok r ∧ ds = encs r
theorem fn_cloE {x qual : Str} {st ndf : Stmt} {f P0 : Addr} {fd : FuncData} {N ps fr : List Str} {k i : Nat} {js : List Nat} {prel : List Stmt} {name : Str} {npos rp rpos : Pos} {nm : Nat → Nat → Str} {args : α → List D} {F : α → Ex β} {encs : β → List D} {enc : β → D} (Fu : Fun K x qual st f fd) (S : FnScope N ps (defScope st)) (hl : ∀ a, (args a).length = ps.length)
    (L : CloLook st ndf prel name npos rp rpos N fr js i) (TBs : TabsB K base mg) (hcd : codeTab K f P0 = true) (hm : (P0, nm) ∈ tabT) (hu : ∀ p ∈ tabT, p.1 = P0 → p.2 = nm) (hn : nm npos.line npos.col = (envOfC qual (defScope st) 0 0 .none).qual ++ name)
    (he : ∀ r, enc r = .clo (NF.of ndf name ((envOfC qual (defScope st) 0 0 .none).qual ++ name) [] 0) fr (encs r))
    (body : ∀ X : Cx, X.prog = P → X.w = w → X.K = K → X.mg = mg → X.base = base → Bd X N (defScope st) k → Bf X → ∀ a out, F a = out → out ≠ .bad → DS X (kxE mg out) prel (startD N (args a)) [] (endE js encs out)) :
    FnOk P w K mg base (L2.CX P w) (k + 1) f fd ps (spE K mg args F enc) := by
  have h := fn_clo (ex := fun q cls fs => ∃ n, F q = .exc n fs ∧ mg n = some cls) (pre := fun q => F q ≠ .bad) (post := fun q ds => ∃ r, F q = .ok r ∧ ds = encs r) Fu S hl L TBs hcd hm hu hn fun X e1 e2 e3 e4 e5 B Fz a ha => body X e1 e2 e3 e4 e5 B Fz a _ rfl ha
  refine fnok_imp h fun vs H Q E ⟨q, H0, b1, b2, b3, b4, b5⟩ => ⟨q, H0, b1, b2, b3, fun v H' H0' d c1 c2 ⟨ds, e1, r, e2, e3⟩ => b4 v H' H0' d c1 c2 ⟨r, e2, ?_⟩, b5⟩
  rw [e1, e3, he]
/-- a made function that changes nothing and raises nothing -/
abbrev nspE (K : Frag) (args caps : α → List D) (F : α → Ex β) (enc : β → D) : List (Option V) → Sp := nspM K args caps (fun _ => []) (fun q => ∃ r, F q = .ok r) (fun q d _ => ∃ r, F q = .ok r ∧ d = enc r)
theorem fn_nE {G : NF} {N ps fr : List Str} {k : Nat} {args caps : α → List D} {F : α → Ex β} {enc : β → D} (S : NScope N ps fr G.scope) (hb : ∀ (cl : List (Str × Addr)) (c : Addr) (doc pm ctv : Value) (us : List Value), us.length = ps.length → bindArgs ((cloF G cl c).fd doc pm ctv) ⟨us, []⟩ = pure (ps.zip us))
    (hl : ∀ a, (args a).length = ps.length) (body : ∀ X : Cx, X.prog = P → X.w = w → X.K = K → X.mg = mg → X.base = base → Bd X N G.scope k → ∀ a out, F a = out → out ≠ .bad → DS X (kxE mg out) G.body (startD N (args a ++ caps a)) [] (retQ enc out)) :
    GClo P w K mg base (k + 1) G ps fr (nspE K args caps F enc) :=
  fn_n S hb hl fun X e1 e2 e3 e4 e5 B a ⟨r, hr⟩ => by
    have h := body X e1 e2 e3 e4 e5 B a _ hr (Ex.ok_ne r)
    refine (DS.onX (kx := kx0) h fun cls fs ρ M ⟨n, e, _⟩ => by cases e).imp fun o m hq => ?_
    cases o with
    | nx ρ => obtain ⟨r', h1, h2⟩ := hq; cases h1; exact ⟨r, hr, h2⟩
    | bk ρ => exact hq
    | ct ρ => exact hq
    | rt d => obtain ⟨r', h1, h2⟩ := hq; cases h1; exact ⟨r, hr, h2⟩
end
/-! ### the head with tables -/
def tabE (o : Option PySem.Obj) : Bool := match o with
  | some ⟨.none, none, .fields a, sl⟩ => a.size == 0 && sl.size == 0
  | _ => false
theorem tabE_ok {o : Option PySem.Obj} (h : tabE o = true) : o = some { cls := .none, data := .fields #[] } := by
  unfold tabE at h
  split at h
  · rename_i a sl
    simp only [Bool.and_eq_true, beq_iff_eq] at h
    have e1 : a = #[] := Array.eq_empty_of_size_eq_zero h.1
    have e2 : sl = #[] := Array.eq_empty_of_size_eq_zero h.2
    subst e1; subst e2; rfl
  · cases h
def obsHT (cl : List Str) (cs : List Chk) (fn : List DefD) (ts : List Addr) (g : Addr → Option PySem.Obj) : AlD × Bool := (obsHG cl cs fn g, ts.all fun P => tabE (g P) && ((frG g (gAll g cl fn)).lookup P).isNone)
def hookT (cl : List Str) (cs : List Chk) (fn : List DefD) (ts : List Addr) : PySem.W.Hook where
  α := AlD × Bool
  obs := fun s => obsHT cl cs fn ts s.heap.get?
  val := fun _ => (valD fn, true)
  says := fun _ h => ∃ K : Frag, K.In h ∧ SaysH cs fn K ∧ ∀ P ∈ ts, h.get? P = some { cls := .none, data := .fields #[] } ∧ K.lookup P = none
  of := fun _ _ e => ⟨_, frG_in, congrArg Prod.fst e, fun P hP => by
    have z := List.all_eq_true.mp (congrArg Prod.snd e) P hP
    obtain ⟨z1, z2⟩ := ba z
    exact ⟨tabE_ok z1, by simpa using z2⟩⟩
  keeps := fun _ _ _ ⟨K, hK, c, t⟩ k => ⟨K, PySem.W.Frag.In.keeps hK k, c, fun P hP => ⟨k _ _ (t P hP).1, (t P hP).2⟩⟩
theorem obsHT_eq {cl : List Str} {cs : List Chk} {fn : List DefD} {ts : List Addr} {g : Addr → Option PySem.Obj} {s : Shared} (h : ∀ a, g a = s.heap.get? a) : obsHT cl cs fn ts g = (hookT cl cs fn ts).obs s := by
  have e : g = s.heap.get? := funext h
  rw [e] <;> rfl
/-- the def's code object and its table -/
def tabB (x : Str) (P : Addr) : Chk := fun K => codeTab K (ga K x) P
theorem codeTab_ex {K : Frag} {f P : Addr} (h : codeTab K f P = true) : ∃ c, PySem.W.codeHdIn K c P = true := by
  unfold codeTab at h
  split at h
  · split at h
    · exact ⟨_, h⟩
    · cases h
  · cases h
def onlyA (H : Hp) (a : Addr) : Hp := fun b => if b = a then H a else none
theorem walkHT {l : PySem.W.OpenLaw} {k : Nat} {q : Program} {loose : List Str} {XP : (Str → Option Value) → Heap → Prop} {YP : World → Heap → Prop} {d : DefRec} {x : Str}
    (hn : l.most = some 63) (hdf : d.params.defaults = []) (hr : Room k callerA)
    (F : ∀ (w : World) (mg : Str → Option Value) (fa : Addr) (h : Heap), YP w h → h.Ns mainGlobals mg → mg d.name = some (.ref fa) →
      ∃ (K : Frag) (fd : FuncData), K.In h ∧ (∀ P ∈ tabT.map Prod.fst, h.get? P = some { cls := .none, data := .fields #[] } ∧ K.lookup P = none ∧ ∃ c, PySem.W.codeHdIn K c P = true) ∧ (∀ (s : Shared) (u : Value), BindsTo s fd ⟨[u], []⟩ [(x, u)]) ∧ ∀ base : Heap, K.In base → base.Ns mainGlobals mg → TabsB K base mg → FnOk l.prog w K mg base (L2.CX l.prog w) k fa fd [x] (spLaw K)) :
    PySem.W.WalkO q loose XP YP l.row.toRowW d [] (fun f vs => PySem.call f vs) := by
  refine Att.attach_call hn hdf fun w s₀ s₁ mg mb fa o pm cd doc a vs ns G Y ho hd hcd hmg hobj hints hlen hg => ?_
  obtain ⟨K, fd, KX, hT, hb, hF⟩ := F w mg fa _ Y G.T.g hmg
  obtain ⟨cs, e1, e2⟩ : ∃ cs : List (Addr × Addr), cs.map Prod.snd = tabT.map Prod.fst ∧ ∀ p ∈ cs, PySem.W.codeHdIn K p.1 p.2 = true := by
    have gen : ∀ ts : List Addr, (∀ P ∈ ts, ∃ c, PySem.W.codeHdIn K c P = true) → ∃ cs : List (Addr × Addr), cs.map Prod.snd = ts ∧ ∀ p ∈ cs, PySem.W.codeHdIn K p.1 p.2 = true := fun ts => by
      induction ts with
      | nil => intro _; exact ⟨[], rfl, by simp⟩
      | cons P ts ih =>
        intro h
        obtain ⟨c, hc⟩ := h P (by simp)
        obtain ⟨cs, i1, i2⟩ := ih fun P hP => h P (by simp [hP])
        exact ⟨(c, P) :: cs, by simp [i1], fun p hp => (List.mem_cons.mp hp).elim (fun z => by rw [z]; exact hc) (i2 p)⟩
    exact gen _ fun P hP => (hT P hP).2.2
  have inT : ∀ p ∈ cs, p.2 ∈ tabT.map Prod.fst := fun p hp => by rw [← e1]; exact List.mem_map.mpr ⟨p, hp, rfl⟩
  refine law_callTs (cs := cs) KX G.T.g G.T.b G.T.builtins G.T.nolimit hg (fun p hp => (hT _ (inT p hp)).1) (fun p hp => (hT _ (inT p hp)).2.1) (fun p hp => PySem.W.codeHd_of_K KX (e2 p hp)) G.T.bmain hobj hints (Nat.le_trans hlen (by decide)) hr (fun base KB NB TB => hF base KB NB fun c P hP hc => ?_) hb (fun H hH hS => ?_) fun H e s' h => by
    obtain ⟨_, _, _, _, _, _, _, _, _, _, _, _, z⟩ := h
    exact z
  · rw [← e1] at hP
    obtain ⟨p, hp, rfl⟩ := List.mem_map.mp hP
    have := TB p hp
    exact ⟨PySem.W.codeHd_of_K KB hc, this.bm, this.gP⟩
  · have hHT : ∀ P ∈ tabT.map Prod.fst, H P = some (.tbl #[]) := fun P hP => by
      rw [← e1] at hP
      obtain ⟨p, hp, rfl⟩ := List.mem_map.mp hP
      exact hH p hp
    have mk : ∀ H0 : Hp, Same H0 H → (∀ b ps, H0 b ≠ some (.tbl ps)) → SqL K H0 a (ns.map V.int) → spLaw K [.ref a] H (fun v _ => v = .bl true) fun _ _ _ => False := fun H0 sm nt sq =>
      ⟨ns, H0, ⟨sm, ⟨fun p hp => by
        have h1 := hHT p.1 (List.mem_map.mpr ⟨p, hp, rfl⟩)
        refine ⟨?_, TabN.nil h1⟩
        cases z : H0 p.1 with
        | none => rfl
        | some u =>
          have := sm _ _ z
          rw [h1] at this
          exact absurd (by rw [z, ← Option.some.inj this]) (nt p.1 #[]), nt⟩⟩, .cons (.scr sq (RepA.ofInts ns)) .nil, hlen, fun v H' H0' d _ r e => by subst e; cases r; rfl, fun _ _ _ _ _ _ _ z => z.elim⟩
    have ol : ∀ b o, onlyA H a b = some o → b = a ∧ H b = some o := fun b o e => by
      unfold onlyA at e
      split at e
      · rename_i z; subst z; exact ⟨rfl, e⟩
      · cases e
    have oa : onlyA H a a = H a := by unfold onlyA; rw [if_pos rfl]
    rcases hS with (h1 | ⟨ob, h1⟩) | h1
    · refine mk (onlyA H a) (fun b o e => (ol b o e).2) (fun b ps e => ?_) (.inl (.inl (by rw [oa]; exact h1)))
      obtain ⟨z, e2⟩ := ol b _ e
      rw [z, h1] at e2; cases e2
    · refine mk (onlyA H a) (fun b o e => (ol b o e).2) (fun b ps e => ?_) (.inl (.inr ⟨ob, by rw [oa]; exact h1⟩))
      obtain ⟨z, e2⟩ := ol b _ e
      rw [z, h1] at e2; cases e2
    · exact mk (fun _ => none) (fun _ _ e => by cases e) (fun _ _ e => by cases e) (.inr h1)
end Dl

namespace Dl
open PySem PySem.Spec PyProof.Rows L2
/-! ### comprehensions whose block raises -/
section
variable {M : Model} {A : Around} {env : Env} {E : Value → Shared → Prop} {s : Shared}
/-- what is wanted behind a block -/
def cPost (M : Model) (A : Around) (E : Value → Shared → Prop) (Q : Value → Shared → Prop) (acc : Value) (cenv : Env) (r : Result) (s' : Shared) : Prop :=
  ∃ m, s'.heap.Ns cenv.locals m ∧ ∀ h' m', h'.Ns cenv.locals m' → Heap.SameBut cenv.locals s'.heap h' → match r with
    | .ok _ => Q acc { s' with heap := h' }
    | .error x => wpAny M A (PySem.passOn "comprehension.variables-let-go" x cenv : Sem Value) (fun _ _ => False) E { s' with heap := h' }
end
section
variable {X : Cx} {pins : List (Addr × PySem.Obj)} {σ : L2.St} {H : Hp} {s : Shared}
/-- a block that may raise: xe is what its frame does next -/
abbrev Cx.bx (X : Cx) (s : Shared) (H : Hp) (scope : Scope) (cenv : Env) (fp : List Addr) (xe : Value → Shared → Prop) : Cx := (X.blk s H scope cenv fp).tr [] xe
/-- what is known of such a block -/
def BkT (X : Cx) (W : WX) (σ : L2.St) (Y : Cx) : Prop := Takes Y (fun cls d _ H' => W cls d σ H') ∧ PassesOwn (model X.prog X.w) X.A Y.env Y.xe
end
end Dl
namespace Dl
open PySem PySem.Spec PyProof.Rows L2 NdefX LamX
section
variable {X : Cx} {kx : XD} {ρ : Ro} {M : Mem} {pos p pos' : Pos} {e c elt tg : Expr} {es : List Expr} {α : Type} {k i : Nat} {x : Str} {G : NF} {ps fr : List Str} {ds : List D} {args caps : α → List D} {Mi : α → Mem} {pre : α → Prop} {post : α → D → Mem → Prop} {kk : D → Mem → Prop} {N : List Str} {sc csc : Scope} {own : List (Str × Nat)}
/-- x(e, ..), x a name that holds a made function; the arguments change or make things -/
theorem de_callNX (Fn : GClo X.prog X.w X.K X.mg X.base k G ps fr (nspM X.K args caps Mi pre post)) (hr : Room k X.A) (n : Nm X i x) (hs : ρ[i]? = some (some (.clo G fr ds))) (nd : D.nceA ds = true)
    (ha : DAE X kx (e :: es) ρ M fun as M1 => ∃ a F, args a = as ∧ caps a = ds ∧ D.nceA as = true ∧ (∀ p ∈ Mi a, p.2.nce = true) ∧ M1.Perm (Mi a ++ F) ∧ pre a ∧ ∀ d M', post a d M' → kk d (M' ++ F))
    (he : starEach (e :: es) X.env = (false, eval e X.env) :: starEach es X.env := by rfl) (hpl : (backTo pos (starEach es X.env)).any (·.1) = false := by rfl) : DE X kx (.Call (.Name x p) (e :: es) [] pos) ρ M kk := fun σ H H0 t s W tk hx Q q pins st I => by
  obtain ⟨v, e1, r1⟩ := s.2 i _ hs
  cases r1 with
  | @clo f c _ cl _ cvs _ hf hc C rc =>
    refine wpAny_Call_Name_kw (thn ((pe_var (pos := p) n.get n.vis n.d1 n.d2).run pins st σ H (fun v H1 => v = .ref f ∧ H1 = H) I ⟨.ref f, e1, rfl, rfl⟩) fun u s1 ⟨v, H1, I1, r1, ev, eH⟩ => ?_)
    subst ev
    subst eH
    obtain rfl : u = Value.ref f := r1
    refine PySem.W.callWith_F (first := []) (fnAt_of I1 (t.ex _ _ hf)) (thn ((pa_s (e :: es)).run pos pins s1 σ _ (fun vs H' => ∃ H01 as M1, Go H0 H1 M H01 H' M1 ∧ Ht X.K H01 H' M1 ∧ RepA X.K H01 vs as ∧ (∃ a F, args a = as ∧ caps a = ds ∧ D.nceA as = true ∧ (∀ p ∈ Mi a, p.2.nce = true) ∧ M1.Perm (Mi a ++ F) ∧ pre a ∧ ∀ d M', post a d M' → kk d (M' ++ F))) I1
      (ha σ _ H0 t s W tk hx _ fun vs H' H0' as M1 g t' r kd => ⟨H0', as, M1, g, t', r, kd⟩)) fun us s2 ⟨vs, H2, I2, rv, H01, as, M1, g1, t2, q1, a, F, hargs, hcaps, na, nm, pm, hp, hk⟩ => ?_) he hpl
    have up : ∀ {b : Addr} {o : HO}, H0 b = some o → H01 b = some o := fun {b o} e => g1.e0 _ _ e
    have C1 : Cells H01 fr cl cvs := ⟨C.1, C.2.1, C.2.2.1, C.2.2.2.1, fun i q v a b => up (C.2.2.2.2 i q v a b)⟩
    have C2 : Cells H2 fr cl cvs := ⟨C.1, C.2.1, C.2.2.1, C.2.2.2.1, fun i q v a b => t2.ex _ _ (up (C.2.2.2.2 i q v a b))⟩
    refine ⟨fnAt_of I2 (t2.ex _ _ (up hf)), ?_⟩
    show wpAny _ _ (call (.ref f) us) _ _ _
    refine run_clo Fn hr I2 (t2.ex _ _ (up hf)) (t2.ex _ _ (up hc)) C2 rv fun apart => ?_
    have tl := (t2.perm pm).left
    have th := tl.hide C1 (fun b hb => (apart b hb).2) nm
    have x1 := cells_extAt C1
    refine ⟨a, cutL H01 (cl.map Prod.snd), cvs, th, by rw [hargs]; exact RepA.hide x1 _ _ na q1, rfl, by rw [hcaps]; exact RepA.hide x1 _ _ nd (rc.mo g1.e0), hp, fun v H' H0' d M' g t' rr pp nf => ?_⟩
    obtain ⟨g2, t4, sm⟩ := unhide tl C1 g t' nf
    obtain ⟨g3, t5⟩ := frame_of (t2.perm pm) g2 t4
    exact q v _ _ d _ (g1.trans (g3.permL pm.symm)) t5 (rr.mo sm) (hk d M' pp)
/-- [elt for tg in e if c], c changing things, J what stands as the walk goes on -/
def LcXC (X : Cx) (N : List Str) (sc csc : Scope) (k : Nat) (own : List (Str × Nat)) (tg elt c : Expr) (ρ : Ro) (ds : List D) (J : Nat → List D → Mem → Prop) : Prop :=
  ∀ i d acc m, ds[i]? = some d → J i acc m → ∃ ts ρ2, (∀ i ∈ ts, i ∈ own.map (·.2)) ∧ ∀ s H C cl fp w, Bd (Cx.bk X csc s H C cl fp) N (relS csc sc) k → DG (Cx.bk X csc s H C cl fp) tg ts d (wipeD ρ (own.map (·.2))) ρ2 ∧
    DTE (Cx.bk X csc s H C cl fp) kx0 c ρ2 ((w, .lst acc) :: m) fun b m' => ∃ m2, m' = (w, .lst acc) :: m2 ∧ (b = false → J (i + 1) acc m2) ∧
      (b = true → ∀ s H C cl fp, Bd (Cx.bk X csc s H C cl fp) N (relS csc sc) k → DE (Cx.bk X csc s H C cl fp) kx0 elt ρ2 ((w, .lst acc) :: m2) fun d' m' => ∃ m3, m' = (w, .lst acc) :: m3 ∧ J (i + 1) (acc ++ [d']) m3)
theorem lcXC_read {σ : L2.St} {H H0 : Hp} {W : WX} {Q : VK} (B : Bd X N sc k) (hi : DI X kx tg e ρ M ds) (hl : ds.length < sizeLine) (J : Nat → List D → Mem → Prop) (h0 : J 0 [] M) (h : LcXC X N sc csc k own tg elt c ρ ds J)
    (t : Ht X.K H0 H M) (s : Sl X.K H0 σ ρ) (tk : Takes X W) (hx : Hx X W H0 H M kx) (q : ∀ w acc m H' H0', J ds.length acc m → Go H0 H M H0' H' ((w, .lst acc) :: m) → Ht X.K H0' H' ((w, .lst acc) :: m) → Q (.ref w) H') :
    tLc (sI X tg e) (uG X csc tg) (uT X csc [c]) (uE X csc elt) (own.map (·.2)) σ H Q := by
  refine hi σ H H0 t s W tk hx _ fun J0 HJ H0J pJ w => ?_
  intro L hL
  obtain ⟨G, Y, w, hG, hY⟩ := w
  have tJ := t.pu pJ
  have hL0 := tJ.free hL
  refine lc_it (g := uG X csc tg) (tt := uT X csc [c]) (te := uE X csc elt) (vs := own.map (·.2)) (σ := σ) (D := L) (H1 := HJ) (Qd := fun H' => Q (.ref L) H') w (fun i H' => ∃ H0' acc m, J i acc m ∧ acc.length ≤ i ∧ Ht X.K H0' H' ((L, .lst acc) :: m) ∧ Go H0J HJ M H0' H' ((L, .lst acc) :: m)) ?_ ?_ ?_ ?_
  · exact ⟨H0J, [], M, h0, Nat.le_refl _, tJ.new1 hL fun H' e' => ⟨[], e', .nil⟩, Go.new1 hL _⟩
  · rintro i H' _ ⟨H0', acc, m, _, _, t', g'⟩
    exact hG H' (g'.e0.trans t'.ex)
  · rintro i x H1 H2 hi2 ⟨H01, acc, m, hj, la, t1, g1⟩ y
    have hd : ds[i]? = some ds[i] := List.getElem?_eq_getElem hi2
    obtain ⟨H02, p2, r2⟩ := hY i H1 x H2 H01 _ g1.e0 t1.ex hd y
    obtain ⟨ts, ρ2, hts, hb⟩ := h i ds[i] acc m hd hj
    have t2 := t1.pu p2
    have sw : Sl X.K H02 (L2.wipe σ (own.map (·.2))) (wipeD ρ (own.map (·.2))) := (s.wipe _).mo (pJ.e0.trans (g1.e0.trans p2.e0))
    intro s' H' C cl fp
    refine (hb s' H' C cl fp L (B.blk s' H' C cl fp)).1 _ H2 H02 x p2.ex sw r2 _ fun σ2 s2 bt => ⟨(bt _ hts).trans (wipe_wipe σ _), ?_⟩
    intro s'' H'' C' cl' fp'
    refine sTs.by (pts_one (pt_s c)) ((hb s'' H'' C' cl' fp' L (B.blk s'' H'' C' cl' fp')).2 σ2 H2 H02 t2 s2 _ takesN Hx.none _ fun H3 H03 b m' g3 t3 ⟨m2, em, hn, hy⟩ => ?_)
    subst em
    have gg := (g1.trans p2.go).trans g3
    cases b with
    | false =>
      rw [if_neg (by decide)]
      exact ⟨H03, acc, m2, hn rfl, by omega, t3, gg⟩
    | true =>
      rw [if_pos rfl]
      intro s3 H3' C3 cl3 fp3
      refine hy rfl s3 H3' C3 cl3 fp3 (B.blk s3 H3' C3 cl3 fp3) σ2 H3 H03 t3 (s2.mo g3.e0) _ takesN Hx.none _ fun v H4 H04 d' m' g4 t4 r4 ⟨m3, em, hj2⟩ => ?_
      subst em
      have gg := gg.trans g4
      obtain ⟨h04, vs, h4, ra⟩ := t4.mem (L, .lst acc) List.mem_cons_self
      obtain ⟨t5, g5⟩ := t4.setM (i := 0) (o := .lst (vs ++ [v])) (m' := .lst (acc ++ [d'])) rfl fun H' e' => ⟨vs ++ [v], e', ra.app (.one r4)⟩
      exact ⟨vs, h4, by rw [ra.length]; omega, H04, acc ++ [d'], m3, hj2, by rw [List.length_append]; simp only [List.length_cons, List.length_nil]; omega, t5, gg.trans g5⟩
  · rintro H' ⟨H0', acc, m, hj, la, t', g'⟩
    exact q L acc m H' H0' hj (pJ.go.trans g') t'
theorem de_lcXC {k2 : D → Mem → Prop} (B : Bd X N sc k) (hi : DI X kx tg e ρ M ds) (ok : BlkOk N sc csc own) (hl : ds.length < sizeLine) (J : Nat → List D → Mem → Prop) (h0 : J 0 [] M) (h : LcXC X N sc csc k own tg elt c ρ ds J)
    (hk : ∀ w acc m, J ds.length acc m → k2 (.adr w) ((w, .lst acc) :: m)) (hs : ∀ x, foldedSetIterable e X.env x = pure x := by intro _; rfl) : DE X kx (.ListComp elt [⟨tg, e, [c], 0⟩] csc pos) ρ M k2 := fun σ H H0 t s W tk hx Q q => by
  refine sE.by (pe_lc (g := uG X csc tg) (tt := uT X csc [c]) (te := uE X csc elt)
    B.calm (by rw [B.hN]; exact B.hnd) (pi_s tg e) (by rw [B.hN, B.hsc]; exact ok) (fun s H C cl fp => ?_) (fun s H C cl fp => ?_) (fun s H C cl fp => ?_) hs) ?_
  · exact ⟨fun pins s' σ' H' v u Q' I r h => h s H C cl fp pins s' u I r⟩
  · exact ⟨fun pins s' σ' H' Q' I h => h s H C cl fp pins s' I⟩
  · exact ⟨fun pins s' σ' H' Q' I h => h s H C cl fp pins s' I⟩
  exact lcXC_read B hi hl J h0 h t s tk hx fun w acc m H' H0' hj g' t' => q (.ref w) H' H0' (.adr w) _ g' t' (.adr w) (hk w acc m hj)
end
end Dl
namespace Dl
open PySem PySem.Spec PyProof.Rows L2 NdefX LamX
/-- a made function that changes what is handed to it, or what it has captured -/
abbrev nspR (K : Frag) {α β : Type} (args caps : α → List D) (Mi : α → Mem) (F : α → Ex β) (res : α → β → D → Mem → Prop) : List (Option V) → Sp :=
  nspM K args caps Mi (fun q => ∃ r, F q = .ok r) (fun q d M' => ∃ r m N, F q = .ok r ∧ res q r d m ∧ M'.Perm (m ++ N))
section
variable {P : Program} {w : World} {K : Frag} {mg : Str → Option Value} {base : Heap} {α β : Type}
theorem fn_nR {G : NF} {N ps fr : List Str} {k : Nat} {args caps : α → List D} {Mi : α → Mem} {F : α → Ex β} {res : α → β → D → Mem → Prop} (S : NScope N ps fr G.scope) (hb : ∀ (cl : List (Str × Addr)) (c : Addr) (doc pm ctv : Value) (us : List Value), us.length = ps.length → bindArgs ((cloF G cl c).fd doc pm ctv) ⟨us, []⟩ = pure (ps.zip us))
    (hl : ∀ a, (args a).length = ps.length) (body : ∀ X : Cx, X.prog = P → X.w = w → X.K = K → X.mg = mg → X.base = base → Bd X N G.scope k → ∀ a out, F a = out → out ≠ .bad → DS X (kxE mg out) G.body (startD N (args a ++ caps a)) (Mi a) (retR (res a) out)) :
    GClo P w K mg base (k + 1) G ps fr (nspR K args caps Mi F res) :=
  fn_n S hb hl fun X e1 e2 e3 e4 e5 B a ⟨r, hr⟩ => by
    have h := body X e1 e2 e3 e4 e5 B a _ hr (Ex.ok_ne r)
    refine (DS.onX (kx := kx0) h fun cls fs ρ M ⟨n, e, _⟩ => by cases e).imp fun o m hq => ?_
    cases o with
    | nx ρ => obtain ⟨r', m', N', h1, h2, h3⟩ := hq; cases h1; exact ⟨r, m', N', hr, h2, h3⟩
    | bk ρ => exact hq
    | ct ρ => exact hq
    | rt d => obtain ⟨r', m', N', h1, h2, h3⟩ := hq; cases h1; exact ⟨r, m', N', hr, h2, h3⟩
end
section
variable {X : Cx} {kx : XD} {ρ : Ro} {M R : Mem} {pos p : Pos} {e c elt tg : Expr} {α β S : Type} {k i : Nat} {x : Str} {G : NF} {ps fr : List Str} {ds : List D} {args caps : α → List D} {Mi : α → Mem} {F : α → Ex β} {res : α → β → D → Mem → Prop} {kk : D → Mem → Prop} {N : List Str} {sc csc : Scope} {own : List (Str × Nat)}
/-- a test that is a value -/
theorem dte_val {kb : Bool → Mem → Prop} (h : DE X kx e ρ M fun d m => ∃ b, d = .bl b ∧ kb b m) (pt : ∀ (t : TE), PE X e t → PT X e (fun σ H Q => t σ H fun v H' => ∃ b, v = .bl b ∧ Q b H')) : DTE X kx e ρ M kb := fun σ H H0 t s W tk hx Q q =>
  sT.by (pt _ (pe_s e)) (h σ H H0 t s W tk hx _ fun v H' H0' d m g t' r ⟨b, eb, hb⟩ => by
    subst eb
    cases r
    exact ⟨b, rfl, q H' H0' b m g t' hb⟩)
theorem lcS_X {xs : List α} {enc : α → D} {step : S → α → Ex (Bool × S)} {s0 : S} {z : S × List α} (Rm : S → Mem → Prop)
    (hz : foldE (fun (q : S × List α) x => Dl.bindP (step q.1 x) fun r => .ok (r.2, if r.1 = true then q.2 ++ [x] else q.2)) (s0, []) xs = .ok z)
    (h : ∀ x, x ∈ xs → ∀ s r m, step s x = .ok r → Rm s m → ∃ ts ρ2, (∀ i ∈ ts, i ∈ own.map (·.2)) ∧ (∀ st H C cl fp w acc, Bd (Cx.bk X csc st H C cl fp) N (relS csc sc) k → DG (Cx.bk X csc st H C cl fp) tg ts (enc x) (wipeD ρ (own.map (·.2))) ρ2 ∧
      DTE (Cx.bk X csc st H C cl fp) kx0 c ρ2 ((w, .lst acc) :: m) fun b m' => ∃ m2, m' = (w, .lst acc) :: m2 ∧ b = r.1 ∧ Rm r.2 m2) ∧ ∀ st H C cl fp M', Bd (Cx.bk X csc st H C cl fp) N (relS csc sc) k → DV (Cx.bk X csc st H C cl fp) kx0 elt ρ2 M' (enc x)) :
    LcXC X N sc csc k own tg elt c ρ (xs.map enc) fun i acc m => ∃ q, foldE (fun (q : S × List α) x => Dl.bindP (step q.1 x) fun r => .ok (r.2, if r.1 = true then q.2 ++ [x] else q.2)) (s0, []) (xs.take i) = .ok q ∧ acc = q.2.map enc ∧ Rm q.1 m := by
  rintro i d acc m hd ⟨q, h1, rfl, h3⟩
  rw [List.getElem?_map] at hd
  cases hx : xs[i]? with
  | none => rw [hx] at hd; cases hd
  | some x =>
    rw [hx] at hd
    cases hd
    have e1 : xs = xs.take (i + 1) ++ xs.drop (i + 1) := (List.take_append_drop _ _).symm
    have hz' := hz
    rw [e1] at hz'
    obtain ⟨q1, g1, _⟩ := foldE_split _ _ _ _ hz'
    have g1' := g1
    rw [show xs.take (i + 1) = xs.take i ++ [x] by rw [List.take_add_one, hx]; rfl] at g1'
    obtain ⟨q2, g2, g3⟩ := foldE_split _ _ _ _ g1'
    rw [h1] at g2
    cases g2
    rw [foldE_cons] at g3
    cases es : step q.1 x with
    | exc n fs => rw [es] at g3; cases g3
    | bad => rw [es] at g3; cases g3
    | ok r =>
      rw [es] at g3
      have g4 : (r.2, if r.1 = true then q.2 ++ [x] else q.2) = q1 := by cases g3; rfl
      obtain ⟨ts, ρ2, h4, h5, h6⟩ := h x (List.mem_of_getElem? hx) q.1 r m es h3
      refine ⟨ts, ρ2, h4, fun st H C cl fp w B' => ⟨(h5 st H C cl fp w [] B').1, fun σ H1 H01 t s W tk hx Q qq => (h5 st H C cl fp w (q.2.map enc) B').2 σ H1 H01 t s W tk hx Q fun H' H0' b M' g t' ⟨m2, e3, e4, e5⟩ => qq H' H0' b M' g t' ⟨m2, e3, fun hb => ⟨q1, g1, ?_, ?_⟩, fun hb st' H2 C' cl' fp' B2 => ?_⟩⟩⟩
      · subst hb
        rw [← e4, if_neg (by decide)] at g4
        rw [← g4]
      · rw [← g4]; exact e5
      · subst hb
        rw [← e4, if_pos rfl] at g4
        refine DV.de (h6 st' H2 C' cl' fp' _ B2) ⟨m2, rfl, q1, g1, ?_, ?_⟩
        · rw [← g4, List.map_append]; rfl
        · rw [← g4]; exact e5
/-- [x for x in xs if c], c changing one state at each turn -/
theorem de_lcS {k2 : D → Mem → Prop} {xs : List α} {enc : α → D} {step : S → α → Ex (Bool × S)} {s0 : S} {z : S × List α} (Rm : S → Mem → Prop) (B : Bd X N sc k) (hi : DI X kx tg e ρ M (xs.map enc)) (ok : BlkOk N sc csc own) (hl : xs.length < sizeLine)
    (hz : foldE (fun (q : S × List α) x => Dl.bindP (step q.1 x) fun r => .ok (r.2, if r.1 = true then q.2 ++ [x] else q.2)) (s0, []) xs = .ok z) (h0 : Rm s0 M)
    (h : ∀ x, x ∈ xs → ∀ s r m, step s x = .ok r → Rm s m → ∃ ts ρ2, (∀ i ∈ ts, i ∈ own.map (·.2)) ∧ (∀ st H C cl fp w acc, Bd (Cx.bk X csc st H C cl fp) N (relS csc sc) k → DG (Cx.bk X csc st H C cl fp) tg ts (enc x) (wipeD ρ (own.map (·.2))) ρ2 ∧
      DTE (Cx.bk X csc st H C cl fp) kx0 c ρ2 ((w, .lst acc) :: m) fun b m' => ∃ m2, m' = (w, .lst acc) :: m2 ∧ b = r.1 ∧ Rm r.2 m2) ∧ ∀ st H C cl fp M', Bd (Cx.bk X csc st H C cl fp) N (relS csc sc) k → DV (Cx.bk X csc st H C cl fp) kx0 elt ρ2 M' (enc x))
    (hk : ∀ w m, Rm z.1 m → k2 (.adr w) ((w, .lst (z.2.map enc)) :: m)) (hs : ∀ x, foldedSetIterable e X.env x = pure x := by intro _; rfl) : DE X kx (.ListComp elt [⟨tg, e, [c], 0⟩] csc pos) ρ M k2 := by
  refine de_lcXC B hi ok (by rw [List.length_map]; exact hl) _ ⟨(s0, []), rfl, rfl, h0⟩ (lcS_X Rm hz h) (fun w acc m ⟨q, h1, h2, h3⟩ => ?_) hs
  rw [List.length_map, List.take_length, hz] at h1
  cases h1
  rw [h2]
  exact hk w m h3
/-- a new list, from now on for good -/
theorem DE.frzN (h : DE X kx e ρ M fun d m => ∃ w ds m0, d = .adr w ∧ m = (w, .lst ds) :: m0 ∧ kk (.lst ds) m0) : DE X kx e ρ M kk := fun σ H H0 t s W tk hx Q q =>
  h σ H H0 t s W tk hx Q fun v H' H0' d m g t' r ⟨w, ds, m0, e1, e2, hk⟩ => by
    subst e1
    subst e2
    cases r
    obtain ⟨H02, s2, t2, r2, g2⟩ := t'.frz (w := w) (ds := ds) List.mem_cons_self
    have nd := t'.nd
    have ef : ((w, Mu.lst ds) :: m0).filter (fun p => decide (p.1 ≠ w)) = m0 := by
      rw [List.filter_cons, if_neg (by simp)]
      refine List.filter_eq_self.mpr fun p hp => ?_
      have n1 := (List.nodup_cons.mp (show (w :: Mem.dom m0).Nodup from nd)).1
      simp only [decide_eq_true_eq]
      exact fun z => n1 (by rw [← z]; exact List.mem_map.mpr ⟨p, hp, rfl⟩)
    rw [ef] at t2 g2
    exact q (.ref w) H' H02 _ m0 (g.trans g2) t2 r2 hk
/-- a test's state laid in another order -/
theorem DTE.perm {kb kb' : Bool → Mem → Prop} (h : DTE X kx e ρ M kb) (hk : ∀ b m, kb b m → ∃ m', m.Perm m' ∧ kb' b m') : DTE X kx e ρ M kb' := fun σ H H0 t s W tk hx Q q =>
  h σ H H0 t s W tk hx Q fun H' H0' b m g t' hb => by
    obtain ⟨m', p, hb'⟩ := hk b m hb
    exact q H' H0' b m' (g.permR p) (t'.perm p) hb'
end
end Dl
namespace Dl
open PySem PySem.Spec PyProof.Rows L2 NdefX LamX
section
variable {X : Cx} {kx : XD} {ρ : Ro} {M R : Mem} {pos p pc : Pos} {e e1 elt tg : Expr} {α β γ δ S : Type} {k k' i : Nat} {xl : Str} {G : NF} {ps fr : List Str} {ds : List D} {args caps : α → List D} {Mi : α → Mem} {F : α → Ex β} {res : α → β → D → Mem → Prop} {N : List Str} {sc csc : Scope} {own : List (Str × Nat)}
/-- [x for x in xs if lets(e1)]: lets a made function that changes the list at w, which it has captured, and the new list that it is handed -/
theorem de_lcOwn {k2 : D → Mem → Prop} {w : Addr} {xs : List γ} {enc : γ → D} {fm : γ → Ex δ} {encd : δ → List D} {encS : S → List D} {s0 : S} {z : S × List γ} (mk : Addr → δ → S → α) (ob : β → Bool) (os : β → S)
    (Fn : GClo X.prog X.w X.K X.mg X.base k' G ps fr (nspR X.K args caps Mi F res)) (hF0 : ∀ w2 v s, F (mk w2 v s) = F (mk 0 v s)) (hMi : ∀ w2 v s, Mi (mk w2 v s) = [(w2, Mu.lst (encd v)), (w, Mu.lst (encS s))]) (hargs : ∀ w2 v s, args (mk w2 v s) = [.adr w2]) (hcaps : ∀ w2 v s, caps (mk w2 v s) = ds)
    (hres : ∀ w2 v s r d m, res (mk w2 v s) r d m → d = .bl (ob r) ∧ ∃ u, m = [(w2, u), (w, Mu.lst (encS (os r)))]) (nd : D.nceA ds = true) (n1 : ∀ v, D.nceA (encd v) = true) (n2 : ∀ s, D.nceA (encS s) = true)
    (B : Bd X N sc k) (hi : DI X kx tg e ρ M (xs.map enc)) (ok : BlkOk N sc csc own) (hl : xs.length < sizeLine)
    (hz : foldE (fun (q : S × List γ) x => Dl.bindP (Dl.bindP (fm x) fun v => Dl.bindP (F (mk 0 v q.1)) fun r => .ok (ob r, os r)) fun r => .ok (r.2, if r.1 = true then q.2 ++ [x] else q.2)) (s0, []) xs = .ok z)
    (pm : M.Perm ((w, Mu.lst (encS s0)) :: R))
    (hb : ∀ x, x ∈ xs → ∀ v, fm x = .ok v → ∃ ts ρ2, (∀ i ∈ ts, i ∈ own.map (·.2)) ∧ ρ2[i]? = some (some (.clo G fr ds)) ∧ ∀ st H C cl fp, Bd (Cx.bk X csc st H C cl fp) N (relS csc sc) k → DG (Cx.bk X csc st H C cl fp) tg ts (enc x) (wipeD ρ (own.map (·.2))) ρ2 ∧
      (∀ M', DE (Cx.bk X csc st H C cl fp) kx0 e1 ρ2 M' fun d m => ∃ w2, d = .adr w2 ∧ m = (w2, Mu.lst (encd v)) :: M') ∧ Nm (Cx.bk X csc st H C cl fp) i xl ∧ Room k' (Cx.bk X csc st H C cl fp).A ∧ ∀ M', DV (Cx.bk X csc st H C cl fp) kx0 elt ρ2 M' (enc x))
    (hk : ∀ wn g m, m.Perm ((w, Mu.lst (encS z.1)) :: (g ++ R)) → k2 (.adr wn) ((wn, .lst (z.2.map enc)) :: m))
    (he : ∀ st H C cl fp, starEach [e1] (Cx.bk X csc st H C cl fp).env = (false, eval e1 (Cx.bk X csc st H C cl fp).env) :: starEach [] (Cx.bk X csc st H C cl fp).env := by intros; rfl)
    (hpl : ∀ st H C cl fp, (backTo pc (starEach [] (Cx.bk X csc st H C cl fp).env)).any (·.1) = false := by intros; rfl)
    (ht : ∀ st H C cl fp whole, isTrue (.Call (.Name xl p) [e1] [] pc) (Cx.bk X csc st H C cl fp).env whole = (do let v ← whole; standAt (Expr.Call (.Name xl p) [e1] [] pc).pos; holding [v] (truthy v)) := by intros; rfl)
    (hs : ∀ x, foldedSetIterable e X.env x = pure x := by intro _; rfl) : DE X kx (.ListComp elt [⟨tg, e, [.Call (.Name xl p) [e1] [] pc], 0⟩] csc pos) ρ M k2 := by
  refine de_lcS (step := fun s x => Dl.bindP (fm x) fun v => Dl.bindP (F (mk 0 v s)) fun r => .ok (ob r, os r)) (Rm := fun s m => ∃ g, m.Perm ((w, Mu.lst (encS s)) :: (g ++ R))) B hi ok hl hz ⟨[], pm⟩ (fun x hx s r m hst ⟨g, pg⟩ => ?_) (fun wn m ⟨g, pg⟩ => hk wn g m pg) hs
  obtain ⟨v, e2, hst⟩ := bindP_out hst (Ex.ok_ne _)
  obtain ⟨rr, e3, hst⟩ := bindP_out hst (Ex.ok_ne _)
  cases hst
  obtain ⟨ts, ρ2, hts, hsl, hb⟩ := hb x hx v e2
  refine ⟨ts, ρ2, hts, fun st H C cl fp wa acc B' => ?_, fun st H C cl fp M' B' => (hb st H C cl fp B').2.2.2.2 M'⟩
  obtain ⟨h1, h2, h3, h4, _⟩ := hb st H C cl fp B'
  refine ⟨h1, DTE.perm (kb := fun b m' => b = ob rr ∧ ∃ g, m'.Perm ((wa, Mu.lst acc) :: ((w, Mu.lst (encS (os rr))) :: (g ++ R)))) ?_ fun b m' ⟨eb, g', p'⟩ => ⟨_, p', _, rfl, eb, g', List.Perm.refl _⟩⟩
  refine dte_val (DE.to (kk := fun d m' => ∃ b, d = .bl b ∧ b = ob rr ∧ ∃ g, m'.Perm ((wa, Mu.lst acc) :: ((w, Mu.lst (encS (os rr))) :: (g ++ R)))) ?_ fun d m h => h) fun t pt => pt_val pt (ht st H C cl fp)
  refine de_callNX Fn h4 h3 hsl nd (dae_cons ((h2 _).to fun d m' ⟨w2, ed, em⟩ => dae_nil ?_) (he st H C cl fp)) (he st H C cl fp) (hpl st H C cl fp)
  subst ed
  subst em
  refine ⟨mk w2 v s, (wa, Mu.lst acc) :: (g ++ R), hargs w2 v s, hcaps w2 v s, by simp [D.nceA, D.nce], fun q hq => ?_, ?_, ⟨rr, by rw [hF0]; exact e3⟩, fun d M2 ⟨r', m2, N2, f1, f2, f3⟩ => ?_⟩
  · rw [hMi] at hq
    simp only [List.mem_cons, List.not_mem_nil, or_false] at hq
    rcases hq with rfl | rfl
    · exact n1 v
    · exact n2 s
  · rw [hMi]
    refine List.Perm.cons _ ((List.Perm.cons _ pg).trans ?_)
    exact List.Perm.swap _ _ _
  · have er : r' = rr := by
      rw [hF0] at f1
      exact Ex.ok_inj (f1.symm.trans e3)
    subst er
    obtain ⟨ed, u, em⟩ := hres w2 v s r' d m2 f2
    subst ed
    subst em
    refine ⟨_, rfl, rfl, (w2, u) :: (N2 ++ g), (List.Perm.append_right _ f3).trans ?_⟩
    show ((w2, u) :: (w, Mu.lst (encS (os r'))) :: (N2 ++ (wa, Mu.lst acc) :: (g ++ R))).Perm _
    have a1 : (N2 ++ (wa, Mu.lst acc) :: (g ++ R)).Perm ((wa, Mu.lst acc) :: (N2 ++ (g ++ R))) := List.perm_middle
    refine (List.Perm.cons _ (List.Perm.cons _ a1)).trans ?_
    refine (List.Perm.cons _ (List.Perm.swap _ _ _)).trans ?_
    refine (List.Perm.swap _ _ _).trans (List.Perm.cons _ ?_)
    refine (List.Perm.swap _ _ _).trans (List.Perm.cons _ ?_)
    show ((w2, u) :: (N2 ++ (g ++ R))).Perm ((w2, u) :: (N2 ++ g) ++ R)
    rw [List.cons_append, List.append_assoc]
end
end Dl

namespace Dl
open PySem PySem.Spec PyProof.Rows L2
theorem kv_vals {kvs : List (Key × V)} {vs : List (Key × Value)} (h : KV kvs vs) : Vals (kvs.map Prod.snd) (vs.map Prod.snd) := by
  induction h with
  | nil => exact .nil
  | cons a _ ih => exact .cons a.2 ih
section
variable {X : Cx} {e : Expr} {te : TE} {p apos cpos pos : Pos}
/-- list(e.values()), e a dict for good -/
theorem pe_listVals (hc : X.calm = true) (he : PE X e te) (hg : Gl X "list") (hm : X.mg "list" = none) (hv : bootBuiltins "list" = some (.type "list")) (hbase : attributeBase e "values" X.env (eval e X.env) = eval e X.env := by rfl) (hline : (apos.endLine == cpos.line) = true := by rfl)
    (hs : starEach [.Call (.Attribute e "values" apos) [] [] cpos] X.env = (false, eval (.Call (.Attribute e "values" apos) [] [] cpos) X.env) :: starEach [] X.env := by rfl) :
    PE X (.Call (.Name "list" p) [.Call (.Attribute e "values" apos) [] [] cpos] [] pos) (fun σ H Q => te σ H fun x H1 => ∃ (d : Addr) (o : PySem.Obj) (kvs : List (Key × V)), x = .ref d ∧ H1 d = some (.frz o (.dK kvs)) ∧ kvs.length ≤ sizeLine ∧ ∀ q : Addr, H1 q = none → Q (.ref q) (L2.upd H1 q (.lst (kvs.map Prod.snd)))) := by
  refine ⟨fun pins s σ H Q I hq => ?_⟩
  refine wpAny_Call_Name_kw (ld_blt I hg hm hv ?_)
  refine PyProof.Rows.callWith_type1 ?_ hs rfl
  rw [hs]
  show wpAny _ _ (spliced ((false, eval (.Call (.Attribute e "values" apos) [] [] cpos) X.env) :: backTo pos (starEach [] X.env))) _ _ s
  refine Calls.spliced_cons ?_
  refine wpAny_Call_method (T := "dict") (id := "dict.values") hbase rfl hline F.plainAttrs_dict F.slot_dict_values F.type_dict_values (thn (he.run pins s σ H _ I hq) fun u s1 ⟨x, H1, I1, rx, d, o, kvs, ex, hd, hlen, q⟩ => ?_)
  subst ex
  obtain rfl : u = Value.ref d := rx
  obtain ⟨hs0, hgd, hx, es, ep, vs, hdt, hsz, kv, hdo⟩ := I1.frzK hd
  have hl : kvs.length = vs.length := Paired.length kv
  have I2 : Inv X pins σ H1 { s1 with heap := s1.heap.push { cls := .type "dict_values", data := .fields #[.ref d] } } := I1.kept (t' := s1.toks) fun b ob q => Heap.get?_push_of_some _ q
  refine ⟨hdo.dictOf.typeIs, hdo.dictOf.mapOf.noDict, ?_⟩
  show wpAny _ _ (callWith cpos (.builtin "dict.values") [.ref d] [] []) _ X.xe s1
  refine method_meetsIn F.slot_dict_values F.entry_dict_values rfl (PySem.evalArgs_none ⟨rfl, hdo.dictOf.typeIs, F.args_dict_values_1 _, _, meets_dict_values (mixKind X.prog X.w) d hs0, ⟨vs, hdo.dictOf⟩, ?_⟩)
  refine Calls.spliced_nil ?_
  refine PySem.W.kdl_call (PySem.W.kdl_values (knd := mixKind X.prog X.w) (d := d) (r := s1.heap.objs.size) (kvs := vs) (ep := ep)) (I1.ok.hd hc) ⟨⟨_, Heap.get?_push_size _ rfl, rfl, rfl⟩, hdo.push _⟩ (by omega) fun h' tk acc c hk hS hacc => ?_
  have ea : acc.toList = vs.map (·.2) := PySem.W.kdl_vals_eq acc.toList (by rw [Array.length_toList]; exact hacc.1) fun j v e => hacc.2 j v (by rw [← Array.getElem?_toList]; exact e)
  refine ⟨.ref _, _, I2.laid (t' := tk) (o := .lst (kvs.map Prod.snd)) hk (Nat.le_refl _) ⟨by rw [List.length_map]; omega, acc.toList, c, by rw [ea]; exact kv_vals kv, ?_⟩, rfl, q _ (I2.hok.fresh (Nat.le_refl _))⟩
  rw [Array.toArray_toList]
  exact hS
end
section
variable {X : Cx} {kx : XD} {ρ : Ro} {M : Mem} {e : Expr} {p apos cpos pos : Pos} {α β : Type}
theorem dv_listVals {kvs : List (Key × D)} (n : Bn X "list" (.type "list")) (h : DV X kx e ρ M (.dK (kvs.map Prod.fst) (kvs.map Prod.snd))) (hl : kvs.length ≤ 100000) (hc : X.calm = true) (hbase : attributeBase e "values" X.env (eval e X.env) = eval e X.env := by rfl) (hline : (apos.endLine == cpos.line) = true := by rfl)
    (hs : starEach [.Call (.Attribute e "values" apos) [] [] cpos] X.env = (false, eval (.Call (.Attribute e "values" apos) [] [] cpos) X.env) :: starEach [] X.env := by rfl) :
    DV X kx (.Call (.Name "list" p) [.Call (.Attribute e "values" apos) [] [] cpos] [] pos) ρ M (.lst (kvs.map Prod.snd)) := fun σ H H0 t s W tk hx Q q =>
  sE.by (pe_listVals hc (pe_s e) n.gl n.mg n.bt hbase hline hs) (h σ H H0 t s W tk hx _ fun v H' H0' pu r => by
    cases r with
    | @dK a ob vs ks xs ds h1 h2 h3 h4 =>
      subst h3
      have lv : vs.length = kvs.length := by have := congrArg List.length h2; simpa using this
      refine ⟨a, ob, vs, rfl, pu.ex _ _ h1, by rw [lv, sizeLine_eq]; omega, fun w hw => ?_⟩
      have tp := t.pu pu
      have g := Pu.new1 tp.ex hw (.lst (vs.map Prod.snd))
      exact q _ _ _ (pu.trans g) (.lst upd_same (h4.mo g.e0)))
/-- of a dict by its keys -/
theorem dv_listValsF {ek : α → Key} {f : β → D} (xs : List (α × β)) (n : Bn X "list" (.type "list")) (h : DV X kx e ρ M (.dK (xs.map fun q => ek q.1) (xs.map fun q => f q.2))) (hl : xs.length ≤ 100000) (hc : X.calm = true) (hbase : attributeBase e "values" X.env (eval e X.env) = eval e X.env := by rfl) (hline : (apos.endLine == cpos.line) = true := by rfl)
    (hs : starEach [.Call (.Attribute e "values" apos) [] [] cpos] X.env = (false, eval (.Call (.Attribute e "values" apos) [] [] cpos) X.env) :: starEach [] X.env := by rfl) :
    DV X kx (.Call (.Name "list" p) [.Call (.Attribute e "values" apos) [] [] cpos] [] pos) ρ M (.lst ((xs.map Prod.snd).map f)) := by
  have e0 : (xs.map Prod.snd).map f = (xs.map fun q => (ek q.1, f q.2)).map Prod.snd := by rw [List.map_map, List.map_map]; rfl
  rw [e0]
  refine dv_listVals n ?_ (by rw [List.length_map]; exact hl) hc hbase hline hs
  rw [List.map_map, List.map_map]
  exact h
end
end Dl
namespace Dl
open PySem PySem.Spec PyProof.Rows L2
/-! ### x in a list of lists -/
section
variable {α : Type} [DecidableEq α] {f : α → D}
theorem lay_items : ∀ {xs : List α}, layD (.lst (xs.map f)) → ∀ y ∈ xs, layD (f y)
  | [], _, y, h => by cases h
  | x :: xs, h, y, hy => by
    unfold layD at h
    simp only [List.map_cons, D.py, D.pyA, PyData.canLay0, PyData.canLayAll0, Bool.and_eq_true] at h
    rcases List.mem_cons.mp hy with rfl | hy
    · exact h.1
    · exact lay_items (by unfold layD; simp only [D.py, PyData.canLay0]; exact h.2) y hy
theorem any_eqv {v : α} : ∀ xs : List α, (∀ y ∈ xs, PyData.eqv (f y).py (f v).py = decide (y = v)) → ((D.pyA (xs.map f)).any fun z => PyData.eqv z (f v).py) = decide (v ∈ xs)
  | [], _ => by simp [D.pyA]
  | x :: xs, h => by
    simp only [List.map_cons, D.pyA, List.any_cons]
    rw [h x (by simp), any_eqv xs (fun y hy => h y (List.mem_cons_of_mem _ hy))]
    by_cases e : x = v
    · subst e; simp
    · rw [decide_eq_false e, Bool.false_or]
      exact decide_eq_decide.mpr ⟨fun z => List.mem_cons_of_mem _ z, fun z => (List.mem_cons.mp z).resolve_left fun y => e y.symm⟩
end
section
variable {X : Cx} {kx : XD} {ρ : Ro} {M : Mem} {pos : Pos} {a b : Expr} {α : Type} [DecidableEq α] {f : α → D} {n m : Nat}
theorem r2_inE (en : EnS n f) (enl : EnS m (fun xs : List α => D.lst (xs.map f))) (v : α) (xs : List α) (lv : layD (f v)) (lx : layD (.lst (xs.map f))) (hn : n ≤ 64 := by decide) (hm : m ≤ 64 := by decide) : R2D X.K (rInD X.K) M (f v) (.lst (xs.map f)) (.bl (decide (v ∈ xs))) := fun p q H H0 t r1 r2 Q k => by
  have e1 := en.eqs v v lv lv hn
  have e2 := enl.eqs xs xs lx lx hm
  have d2 := Rep.dp _ _ e2.fx (r2.mo t.ex)
  have s2 := e2.sx
  simp only [D.py] at d2 s2
  refine ⟨(f v).py, D.pyA (xs.map f), Rep.dp _ _ e1.fx (r1.mo t.ex), d2, e1.sx, s2, ?_⟩
  rw [any_eqv xs fun y hy => (en.eqs y v (lay_items lx y hy) lv hn).eq]
  exact k _ H H0 (Pu.refl t.ex) (.bl _)
theorem r2_ninE (en : EnS n f) (enl : EnS m (fun xs : List α => D.lst (xs.map f))) (v : α) (xs : List α) (lv : layD (f v)) (lx : layD (.lst (xs.map f))) (hn : n ≤ 64 := by decide) (hm : m ≤ 64 := by decide) : R2D X.K (rNotInD X.K) M (f v) (.lst (xs.map f)) (.bl (!decide (v ∈ xs))) := fun p q H H0 t r1 r2 Q k => by
  have e1 := en.eqs v v lv lv hn
  have e2 := enl.eqs xs xs lx lx hm
  have d2 := Rep.dp _ _ e2.fx (r2.mo t.ex)
  have s2 := e2.sx
  simp only [D.py] at d2 s2
  refine ⟨(f v).py, D.pyA (xs.map f), Rep.dp _ _ e1.fx (r1.mo t.ex), d2, e1.sx, s2, ?_⟩
  rw [any_eqv xs fun y hy => (en.eqs y v (lay_items lx y hy) lv hn).eq]
  exact k _ H H0 (Pu.refl t.ex) (.bl _)
variable {v : α} {xs : List α} {N : List Str} {sc : Scope} {k : Nat}
theorem dt_ninE [dm : Decidable (v ∈ xs)] (B : Bd X N sc k) (en : EnS n f) (enl : EnS m (fun xs : List α => D.lst (xs.map f))) (ha : DV X kx a ρ M (f v)) (hb : DV X kx b ρ M (.lst (xs.map f))) (lv : layD (f v)) (lx : layD (.lst (xs.map f))) (hn : n ≤ 64 := by decide) (hm : m ≤ 64 := by decide) (hi : behindInMarks .NotIn b = false := by rfl) : DT X kx (.Compare a [.NotIn] [b] pos) ρ M (!decide (v ∈ xs)) := by
  rw [show (@decide (v ∈ xs) dm) = @decide (v ∈ xs) (List.instDecidableMemOfLawfulBEq v xs) from by congr]
  exact dt_cmp (op_notInD (by have := B.room.un; omega)) (r2_ninE en enl v xs lv lx hn hm) ha hb hi
theorem dv_inE [dm : Decidable (v ∈ xs)] (B : Bd X N sc k) (en : EnS n f) (enl : EnS m (fun xs : List α => D.lst (xs.map f))) (ha : DV X kx a ρ M (f v)) (hb : DV X kx b ρ M (.lst (xs.map f))) (lv : layD (f v)) (lx : layD (.lst (xs.map f))) (hn : n ≤ 64 := by decide) (hm : m ≤ 64 := by decide) (hi : behindInMarks .In b = false := by rfl) : DV X kx (.Compare a [.In] [b] pos) ρ M (.bl (decide (v ∈ xs))) := by
  rw [show (@decide (v ∈ xs) dm) = @decide (v ∈ xs) (List.instDecidableMemOfLawfulBEq v xs) from by congr]
  exact dv_cmp (op_inD (by have := B.room.un; omega)) (r2_inE en enl v xs lv lx hn hm) ha hb hi
end
end Dl

namespace Lw
open PySem PySem.Spec PyProof.Rows L2 Dl
/-! ### what each def computes -/
abbrev TRoll := ((List (Int × Int)) × (Option Int)) × Int × (List (Option Int)) × (List ((Int × Int) × Int)) × (List ((Int × Int) × (Int × Int × Int × Int)))
abbrev TBook := ((List (Int × Int)) × (Option Int)) × Int × (List (Option Int)) × (List (Str × TRoll)) × (List (Str × (List Str)))
abbrev TBookR := ((List (Int × Int)) × (Option Int)) × Int × (List (Option Int)) × (List (Str × D)) × (List (Str × (List Str)))
def dk_T2II (t : Int × Int) : D := .tup [.int t.1, .int t.2]
def dk_LT2II (t : List (Int × Int)) : D := .lst (t.map dk_T2II)
def dk_N (t : Unit) : D := .non
def dk_LOI (t : List (Option Int)) : D := .lst (t.map (dOpt D.int))
def dk_LS (t : List Str) : D := .lst (t.map D.str)
def dk_T4IIII (t : Int × Int × Int × Int) : D := .tup [.int t.1, .int t.2.1, .int t.2.2.1, .int t.2.2.2]
def dk_T3III (t : Int × Int × Int) : D := .tup [.int t.1, .int t.2.1, .int t.2.2]
def dk_T2OIOI (t : (Option Int) × (Option Int)) : D := .tup [dOpt D.int t.1, dOpt D.int t.2]
def dk_T2T2IIOI (t : (Int × Int) × (Option Int)) : D := .tup [dk_T2II t.1, dOpt D.int t.2]
def dk_T2SS (t : Str × Str) : D := .tup [.str t.1, .str t.2]
def dk_RI (t : List Int) : D := .scr (t.map D.int)
def dk_RB (t : List Bool) : D := .scr (t.map D.bl)
def dk_T2SRB (t : Str × (List Bool)) : D := .tup [.str t.1, .scr (t.2.map D.bl)]
def dk_T2SLS (t : Str × (List Str)) : D := .tup [.str t.1, .lst (t.2.map D.str)]
noncomputable def F_l_cell_at (script1 : List Int) (k2 : Int) : Ex Int := if (decide (k2 < (script1.length : Int))) = true then bindP (ixE script1 k2) fun x4 => .ok x4 else .ok 0
noncomputable def F_Rule_init (steps1 : List (Int × Int)) (gone2 : Option Int) : Ex ((List (Int × Int)) × (Option Int)) := if (!(decide (1 ≤ (steps1.length : Int)) && decide ((steps1.length : Int) ≤ 5))) = true then .exc "NoRule" [] else bindX (foldE (fun ((old5, broad6, row7) : Int × Int × (List (Int × Int))) (x8 : Int × Int) => bindP (orE (decide (x8.1 < old5)) (bindP (orE (decide (x8.2 < 1)) (gd (0 < broad6) (.ok (!decide (x8.2 % broad6 = 0))))) fun b11 => .ok b11)) fun b13 => if b13 = true then .exc "NoRule" [] else gd (row7.length ≤ 100000) (.ok (x8.1, x8.2, (row7 ++ [(x8.1, x8.2)])))) (0, 1, ([] : List (Int × Int))) steps1) (fun ((old17, broad18, row19) : Int × Int × (List (Int × Int))) => bindP (andE (!gone2.isNone) (bindP (someE gone2) fun gone20 => .ok (decide (gone20 < old17)))) fun b22 => if b22 = true then .exc "NoRule" [] else .ok (row19, gone2))
noncomputable def F_Rule_steps (self1 : (List (Int × Int)) × (Option Int)) : Ex (List (Int × Int)) := .ok self1.1
noncomputable def F_cut_at (age1 : Int) (width2 : Int) (day3 : Int) : Ex Int := gd (DivOk width2) (gd (Dl.MulOk ((day3 - age1) / width2) width2) (.ok (((day3 - age1) / width2) * width2)))
noncomputable def F_Rule_gone (self1 : (List (Int × Int)) × (Option Int)) : Ex (Option Int) := .ok self1.2
noncomputable def F_edges_at (rule1 : (List (Int × Int)) × (Option Int)) (day2 : Int) : Ex (List (Option Int)) := bindP (F_Rule_steps rule1) fun r3 => gd (r3.length ≤ 100000) (bindP (compE (fun (u5 : Int × Int) => .ok true) (fun (u5 : Int × Int) => bindP (F_cut_at u5.1 u5.2 day2) fun r7 => .ok r7) r3) fun ys10 => bindP (F_Rule_gone rule1) fun r12 => if r12.isNone = true then gd (((ys10.map fun x => (some x)).length + ([none] : List (Option Int)).length : Nat) ≤ 100000) (.ok ((ys10.map fun x => (some x)) ++ ([none] : List (Option Int)))) else bindP (F_Rule_gone rule1) fun r16 => bindP (F_Rule_steps rule1) fun r18 => bindP (ixE r18 (-1)) fun x20 => bindP (someE r16) fun o22 => bindP (F_cut_at o22 x20.2 day2) fun r24 => gd ((ys10.length + [r24].length : Nat) ≤ 100000) (.ok ((ys10 ++ [r24]).map fun x => (some x))))
noncomputable def F_Book_init (rule1 : (List (Int × Int)) × (Option Int)) (day2 : Int) : Ex TBook := bindP (F_edges_at rule1 day2) fun r3 => .ok (rule1, day2, r3, ([] : List (Str × TRoll)), ([] : List (Str × (List Str))))
noncomputable def F_l_mixed (draw1 : Int) (k2 : Int) : Ex Int := letE (((((draw1 % 2147483629) + (69621 * k2)) + 1) * 48271) % 2147483629) fun number3 => gd (Dl.MulOk number3 ((number3 / 1009) + 69621)) (.ok ((number3 * ((number3 / 1009) + 69621)) % 2147483629))
noncomputable def F_l_name (draw1 : Int) (k2 : Int) : Ex Str := letE ("abcdefghijklmnopqrstuvwxyz" : Str) fun some3 => bindP (F_l_mixed draw1 1) fun r5 => letE (r5 % 12) fun length7 => gd (RngOk length7) (gd ((rngD 0 length7.toNat).length ≤ 100000) (bindP (compE (fun (u10 : Int) => .ok true) (fun (u10 : Int) => bindP (F_l_mixed draw1 (3 + u10)) fun r12 => gd (some3.length ≤ 100000) (bindP (ixE some3.cps.toList (r12 % 26)) fun c15 => .ok (sg c15))) (rngD 0 length7.toNat)) fun ys18 => gd ((ys18.map (·.length)).sum + ys18.length * ("" : Str).length ≤ 16777216) (letE (Txt.join ("" : Str) ys18) fun body21 => bindP (F_l_mixed draw1 2) fun r23 => gd (0 < length7 + 1) (letE (r23 % (length7 + 1)) fun at26 => gd (body21.length ≤ 100000) (gd (some3.length ≤ 100000) (bindP (ixE some3.cps.toList ((draw1 + (5 * k2)) % 26)) fun c30 => gd (((cutS body21 none (some at26)).length + (sg c30).length : Nat) ≤ 100000) (gd (body21.length ≤ 100000) (gd ((((cutS body21 none (some at26)) ++ (sg c30)).length + (cutS body21 (some at26) none).length : Nat) ≤ 100000) (.ok (((cutS body21 none (some at26)) ++ (sg c30)) ++ (cutS body21 (some at26) none)))))))))))
noncomputable def F_l_mark (draw1 : Int) (k2 : Int) : Ex Str := letE ("abcdefghijklmnopqrstuvwxyz" : Str) fun some3 => bindP (F_l_mixed draw1 21) fun r5 => letE (r5 % 8) fun length7 => gd (RngOk length7) (gd ((rngD 0 length7.toNat).length ≤ 100000) (bindP (compE (fun (u10 : Int) => .ok true) (fun (u10 : Int) => bindP (F_l_mixed draw1 (23 + u10)) fun r12 => gd (some3.length ≤ 100000) (bindP (ixE some3.cps.toList (r12 % 26)) fun c15 => .ok (sg c15))) (rngD 0 length7.toNat)) fun ys18 => gd ((ys18.map (·.length)).sum + ys18.length * ("" : Str).length ≤ 16777216) (letE (Txt.join ("" : Str) ys18) fun body21 => bindP (F_l_mixed draw1 22) fun r23 => gd (0 < length7 + 1) (letE (r23 % (length7 + 1)) fun at26 => gd (body21.length ≤ 100000) (gd (some3.length ≤ 100000) (bindP (ixE some3.cps.toList (((draw1 / 3) + (7 * k2)) % 26)) fun c30 => gd (((cutS body21 none (some at26)).length + (sg c30).length : Nat) ≤ 100000) (gd (body21.length ≤ 100000) (gd ((((cutS body21 none (some at26)) ++ (sg c30)).length + (cutS body21 (some at26) none).length : Nat) ≤ 100000) (.ok (((cutS body21 none (some at26)) ++ (sg c30)) ++ (cutS body21 (some at26) none)))))))))))
noncomputable def F_is_word (thing1 : Str) (most2 : Int) : Ex Bool := bindP (orE (!true) (gd (thing1.length ≤ 100000) (.ok (!(decide (1 ≤ (thing1.length : Int)) && decide ((thing1.length : Int) ≤ most2)))))) fun b4 => if b4 = true then .ok false else gd ((sgs thing1).length ≤ 100000) (bindP (compE (fun (u7 : Str) => .ok true) (fun (u7 : Str) => gd (oneS u7) (.ok (inSg u7 ("abcdefghijklmnopqrstuvwxyz" : Str)))) (sgs thing1)) fun ys11 => .ok (ys11.all id))
noncomputable def F_is_name (thing1 : Str) : Ex Bool := bindP (F_is_word thing1 12) fun r2 => .ok r2
noncomputable def F_Book_adopt (self1 : TBook) (name2 : Str) (marks3 : List Str) (roll4 : TRoll) : Ex (Unit × TBook) := gd (marks3.length < 64) (gd (self1.2.2.2.2.length ≤ 100000) (gd (self1.2.2.2.1.length ≤ 100000) (.ok ((), (self1.1, self1.2.1, self1.2.2.1, (putA self1.2.2.2.1 name2 roll4), (putA self1.2.2.2.2 name2 (sortS marks3)))))))
noncomputable def F_is_mark (thing1 : Str) : Ex Bool := bindP (F_is_word thing1 8) fun r2 => .ok r2
noncomputable def F_marks_looked_at (marks1 : Option (List Str)) : Ex (List Str) := bindP (someE marks1) fun marks2 => if (decide (8 < (marks2.length : Int))) = true then .exc "NoMark" [] else bindX (foldE (fun (_ : Unit) (x5 : Str) => bindP (F_is_mark x5) fun r7 => if ((!r7) || (decide (1 < ((marks2.count x5 : Nat) : Int)))) = true then .exc "NoMark" [] else .ok ()) () marks2) (fun (_ : Unit) => gd (marks2.length < 64) (.ok (sortS marks2)))
noncomputable def F_Roll_init (rule1 : (List (Int × Int)) × (Option Int)) (day2 : Int) : Ex TRoll := bindP (F_edges_at rule1 day2) fun r3 => .ok (rule1, day2, r3, ([] : List ((Int × Int) × Int)), ([] : List ((Int × Int) × (Int × Int × Int × Int))))
noncomputable def F_greater (one1 : List (Option Int)) (other2 : List (Option Int)) : Ex (List (Option Int)) := if (!decide ((one1.length : Int) = (other2.length : Int))) = true then .exc "NoRule" [] else bindX (foldE (fun (found5 : List (Option Int)) (x6 : (Option Int) × (Option Int)) => bindP (orE x6.1.isNone (bindP (andE (!x6.2.isNone) (bindP (someE x6.2) fun there8 => bindP (someE x6.1) fun here10 => .ok (decide (here10 < there8)))) fun b12 => .ok b12)) fun b14 => jpE (fun (found22 : List (Option Int)) => .ok found22) fun jk17 => if b14 = true then gd (found5.length ≤ 100000) (jk17 (found5 ++ [x6.2])) else bindP (someE x6.1) fun here19 => gd (found5.length ≤ 100000) (jk17 (found5 ++ [(some here19)]))) ([] : List (Option Int)) (one1.zip other2)) (fun (found23 : List (Option Int)) => .ok found23)
noncomputable def F_Roll_lift (self1 : TRoll) (edges2 : List (Option Int)) : Ex (Unit × TRoll) := bindX (F_greater self1.2.2.1 edges2) fun limits11 => .ok ((), (self1.1, self1.2.1, limits11, self1.2.2.2.1, self1.2.2.2.2))
noncomputable def F_cell_at (rule1 : (List (Int × Int)) × (Option Int)) (edges2 : List (Option Int)) (time3 : Int) : Ex (Option (Int × Int)) := bindP (ixE edges2 0) fun x4 => bindP (someE x4) fun o6 => if (decide (o6 ≤ time3)) = true then .ok (some (time3, 0)) else bindP (ixE edges2 (-1)) fun x9 => bindP (andE (!x9.isNone) (bindP (ixE edges2 (-1)) fun x11 => bindP (someE x11) fun o13 => .ok (decide (time3 < o13)))) fun b15 => if b15 = true then .ok none else bindP (F_Rule_steps rule1) fun r18 => bindX (loopE (ρ := Option (Int × Int)) (fun (found20 : Int) (x21 : (Int × Int) × (Option Int)) => bindP (someE x21.2) fun edge23 => if (decide (edge23 ≤ time3)) = true then .ok (.bk found20) else .ok (.nx x21.1.2)) 1 (r18.zip edges2)) fun c => ctE c (fun (found26 : Int) => gd (DivOk found26) (gd (Dl.MulOk (time3 / found26) found26) (.ok (some ((time3 / found26) * found26, found26))))) (fun r32 => .ok r32)
noncomputable def F_Roll_cell_of (self1 : TRoll) (time2 : Int) : Ex (Option (Int × Int)) := bindP (F_cell_at self1.1 self1.2.2.1 time2) fun r3 => .ok r3
noncomputable def F_poured (one1 : Int × Int × Int × Int) (other2 : Int × Int × Int × Int) : Ex (Int × Int × Int × Int) := .ok (one1.1 + other2.1, one1.2.1 + other2.2.1, min one1.2.2.1 other2.2.2.1, max one1.2.2.2 other2.2.2.2)
noncomputable def F_heap_of (runs1 : List (Int × Int)) : Ex (Option (Int × Int × Int × Int)) := bindX (foldE (fun (found2 : Option (Int × Int × Int × Int)) (x3 : Int × Int) => gd (Dl.MulOk x3.1 x3.2) (letE (x3.2, x3.1 * x3.2, x3.1, x3.1) fun one6 => jpE (fun (found14 : Int × Int × Int × Int) => Ex.ok (some found14)) fun jk9 => if found2.isNone = true then jk9 one6 else bindP (someE found2) fun found10 => bindP (F_poured found10 one6) fun r12 => jk9 r12)) none runs1) (fun (found15 : Option (Int × Int × Int × Int)) => .ok found15)
noncomputable def F_Roll_pour (self1 : TRoll) (here2 : Int × Int) (heap3 : Option (Int × Int × Int × Int)) : Ex (Unit × TRoll) := letE (getA self1.2.2.2.2 here2) fun kept7 => jpE (fun (heap17 : Option (Int × Int × Int × Int)) => bindP (someE heap17) fun heap23 => gd (self1.2.2.2.2.length ≤ 100000) (.ok ((), (self1.1, self1.2.1, self1.2.2.1, self1.2.2.2.1, (putA self1.2.2.2.2 here2 heap23))))) fun jk10 => if (!kept7.isNone) = true then bindP (someE kept7) fun kept11 => bindP (someE heap3) fun heap13 => bindP (F_poured kept11 heap13) fun r15 => jk10 (some r15) else jk10 heap3
noncomputable def F_Roll_put (self1 : TRoll) (time2 : Int) (value3 : Int) (many4 : Int) : Ex (Bool × TRoll) := if (decide (many4 < 1)) = true then .exc "NoNumber" [] else bindP (F_Roll_cell_of self1 time2) fun r9 => if r9.isNone = true then .ok (false, self1) else bindP (someE r9) fun here12 => jpE (fun (self36 : TRoll) => Ex.ok (true, self36)) fun jk15 => if (decide (here12.2 = 0)) = true then gd (self1.2.2.2.1.length ≤ 100000) (bindP (someE (getA (setdA self1.2.2.2.1 (time2, value3) 0) (time2, value3))) fun x22 => gd ((setdA self1.2.2.2.1 (time2, value3) 0).length ≤ 100000) (jk15 (self1.1, self1.2.1, self1.2.2.1, (putA (setdA self1.2.2.2.1 (time2, value3) 0) (time2, value3) (x22 + many4)), self1.2.2.2.2))) else bindP (F_heap_of [(value3, many4)]) fun r28 => bindP (F_Roll_pour self1 here12 r28) fun r30 => jk15 r30.2
noncomputable def F_roll_of (rule1 : (List (Int × Int)) × (Option Int)) (day2 : Int) (edges3 : List (Option Int)) (readings4 : List (Int × Int × Int)) : Ex TRoll := bindP (F_Roll_init rule1 day2) fun r5 => bindX (F_Roll_lift r5 edges3) fun r10 => bindX (foldE (fun (found14 : TRoll) (x17 : Int × Int × Int) => bindX (F_Roll_put found14 x17.1 x17.2.1 x17.2.2) fun r19 => .ok r19.2) r10.2 readings4) (fun (found23 : TRoll) => .ok found23)
noncomputable def F_Book_bare (self1 : TBook) : Ex TRoll := bindX (F_roll_of self1.1 self1.2.1 self1.2.2.1 ([] : List (Int × Int × Int))) fun r2 => .ok r2
noncomputable def F_Book_enrol (self1 : TBook) (name2 : Str) (marks3 : Option (List Str)) : Ex (Unit × TBook) := bindP (F_is_name name2) fun r7 => if ((!r7) || ((getA self1.2.2.2.1 name2).isSome)) = true then .exc "NoName" [] else letE (if marks3.isNone = true then (some ([] : List Str)) else marks3) (fun (marks12 : Option (List Str)) => bindX (F_marks_looked_at marks12) fun ms13 => bindP (F_Book_bare self1) fun r15 => bindP (F_Book_adopt self1 name2 ms13 r15) fun r17 => .ok ((), r17.2))
noncomputable def F_l_book (script1 : List Int) : Ex (TBook × (List (Str × (List Str)))) := bindP (F_l_cell_at script1 0) fun r2 => bindP (F_Rule_init [(0, 1 + (r2 % 9))] none) fun r4 => bindP (F_Book_init r4 (r2 % 1000000000000000000000000000000)) fun r6 => bindP (F_l_mixed r2 11) fun r13 => gd (RngOk (r13 % 9)) (bindX (foldE (fun ((book16, kept17) : TBook × (List (Str × (List Str)))) (x20 : Int) => bindP (F_l_cell_at script1 (2 + x20)) fun r22 => bindP (F_l_name r2 (((x20 * 7) + r22) % 26)) fun r24 => gd (RngOk 5) (gd ((rngD 0 (5 : Int).toNat).length ≤ 100000) (bindP (compE (fun (u27 : Int) => bindP (F_l_mixed r22 (30 + u27)) fun r29 => .ok (decide (r29 % 3 = 0))) (fun (u27 : Int) => bindP (F_l_mark r2 u27) fun r31 => .ok r31) (rngD 0 (5 : Int).toNat)) fun ys34 => letE (cutD' ys34 none (some 3)) fun marks36 => bindP (F_l_mixed r22 12) fun r38 => letE (if (decide (r38 % 2 = 1)) = true then marks36.reverse else marks36) (fun (marks42 : List Str) => jpE (fun (q0 : TBook × (List (Str × (List Str)))) => Ex.ok q0) fun jk44 => if (!(getA kept17 r24).isSome) = true then gd (marks42.length < 64) (gd (kept17.length ≤ 100000) (bindX (F_Book_enrol book16 r24 (some marks42)) fun r47 => jk44 (r47.2, (putA kept17 r24 (sortS marks42))))) else jk44 (book16, kept17))))) (r6, ([] : List (Str × (List Str)))) (rngD 0 (r13 % 9).toNat)) (fun ((book55, kept56) : TBook × (List (Str × (List Str)))) => .ok (book55, kept56)))
noncomputable def F_sieve (text1 : Str) : Ex (List (Str × (List Bool))) := if (!true) = true then .exc "NoMark" [] else jpE (fun (wanted37 : List (Str × (List Bool))) => .ok wanted37) fun jk7 => if (!decide (text1 = ("" : Str))) = true then gd (text1.length ≤ 100000) (bindX (foldE (fun (wanted9 : List (Str × List Bool)) (x12 : Str) => jpE (fun (mark19 : Str) => bindP (F_is_mark mark19) fun r20 => if (!r20) = true then .exc "NoMark" [] else gd (wanted9.length ≤ 90000) (bindP (someE (getA (setdA wanted9 mark19 []) mark19)) fun xs26 => gd (xs26.length ≤ 90000) (.ok (putA (setdA wanted9 mark19 []) mark19 (xs26 ++ [decide (mark19 = x12)]))))) fun jk15 => if (Txt.startswith x12 ("-" : Str)) = true then gd (x12.length ≤ 100000) (letE (cutS x12 (some 1) none) fun mark17 => jk15 mark17) else jk15 x12) ([] : List (Str × List Bool)) (Txt.split text1 (" " : Str))) (fun (wanted31 : List (Str × List Bool)) => jk7 wanted31)) else jk7 ([] : List (Str × List Bool))
noncomputable def F_Book_names (self1 : TBook) : Ex (List Str) := gd (self1.2.2.2.1.length < 64) (.ok (sortS (self1.2.2.2.1.map Prod.fst)))
noncomputable def F_Book_sought (self1 : TBook) (name2 : Str) : Ex TRoll := letE (getA self1.2.2.2.1 name2) fun roll3 => if roll3.isNone = true then .exc "NoName" [] else bindP (someE roll3) fun roll6 => .ok roll6
noncomputable def F_Book_marks (self1 : TBook) (name2 : Str) : Ex (List Str) := bindX (F_Book_sought self1 name2) fun r3 => bindP (someE (getA self1.2.2.2.2 name2)) fun x5 => .ok x5
noncomputable def F_sieve_lets (marks1 : List Str) (wanted2 : List (Str × (List Bool))) : Ex Bool := bindX (loopE (ρ := Bool) (fun (_ : Unit) (x3 : Str × (List Bool)) => bindX (loopE (ρ := Bool) (fun (_ : Unit) (x5 : Bool) => if (!decide (decide (x3.1 ∈ marks1) = x5)) = true then .ok (.rt false) else .ok (.nx ())) () x3.2) fun c => ctE c (fun (_ : Unit) => .ok (.nx ())) (fun r11 => .ok (.rt r11))) () wanted2) fun c => ctE c (fun (_ : Unit) => .ok true) (fun r15 => .ok r15)
noncomputable def F_Book_chosen (self1 : TBook) (lets2 : List (Str × (List Bool))) : Ex (List Str) := bindP (F_Book_names self1) fun r3 => gd (r3.length ≤ 100000) (bindP (compE (fun (u5 : Str) => bindP (F_Book_marks self1 u5) fun r7 => bindP (F_sieve_lets r7 lets2) fun r9 => .ok r9) (fun (u5 : Str) => .ok u5) r3) fun ys12 => .ok ys12)
noncomputable def F_l_by_text (book1 : TBook) (kept2 : List (Str × (List Str))) (wanted_one3 : List Str) (signs4 : List Str) : Ex Bool := gd ((signs4.zip wanted_one3).length ≤ 100000) (bindP (compE (fun (u5 : Str × Str) => .ok true) (fun (u5 : Str × Str) => gd ((u5.1.length + u5.2.length : Nat) ≤ 100000) (.ok (u5.1 ++ u5.2))) (signs4.zip wanted_one3)) fun ys9 => gd ((ys9.map (·.length)).sum + ys9.length * (" " : Str).length ≤ 16777216) (letE (Txt.join (" " : Str) ys9) fun text12 => gd (kept2.length < 64) (bindX (foldE (fun (due16 : List Str) (x17 : Str) => gd ((signs4.zip wanted_one3).length ≤ 100000) (bindP (compE (fun (u19 : Str × Str) => .ok true) (fun (u19 : Str × Str) => bindP (someE (getA kept2 x17)) fun x21 => .ok (decide (decide (u19.2 ∈ x21) = decide (u19.1 = ("" : Str))))) (signs4.zip wanted_one3)) fun ys24 => jpE (fun (due29 : List Str) => .ok due29) fun jk27 => if (ys24.all id) = true then gd (due16.length ≤ 100000) (jk27 (due16 ++ [x17])) else jk27 due16)) ([] : List Str) (sortS (kept2.map Prod.fst))) (fun (due30 : List Str) => bindP (F_sieve text12) fun r32 => bindP (F_Book_chosen book1 r32) fun found34 => bindP (orE (!true) (gd (layD (.lst (found34.map D.str))) (gd (layD (.lst (due30.map D.str))) (.ok (!decide (found34 = due30)))))) fun b38 => if b38 = true then .ok false else gd (found34.length ≤ 100000) (bindP (F_sieve text12) fun r42 => bindP (F_Book_chosen book1 r42) fun r44 => gd (layD (.lst (r44.map D.str))) (gd (layD (.lst (due30.map D.str))) (.ok (decide (r44 = due30)))))))))
noncomputable def F_l_own (mark1 : Str) (least2 : Int) (heard3 : Addr) : Ex (Str × Int × Addr) := .ok (mark1, least2, heard3)
noncomputable def F_l_own_l_lets (marks1 : List Str) (mark2 : Str) (least3 : Int) (heard4 : List (List Str)) : Ex (Bool × (List Str) × (List (List Str))) := gd (heard4.length ≤ 100000) (letE ((decide (least3 ≤ (marks1.length : Int))) && (!decide (mark2 ∈ marks1))) fun good8 => gd (marks1.length ≤ 100000) (.ok (good8, (marks1 ++ [("x" : Str)]), (heard4 ++ [marks1]))))
noncomputable def F_Book_chosen_2 (self1 : TBook) (lets2 : Str × Int × (List (List Str))) : Ex ((List Str) × (Str × Int × (List (List Str)))) := bindP (F_Book_names self1) fun r4 => gd (r4.length ≤ 100000) (bindP (foldE (fun (q9 : (List (List Str)) × List Str) (u6 : Str) => bindP (bindP (F_Book_marks self1 u6) fun v10 => bindP (F_l_own_l_lets v10 lets2.1 lets2.2.1 q9.1) fun r11 => .ok (r11.1, r11.2.2)) fun r11 => .ok (r11.2, if r11.1 = true then q9.2 ++ [u6] else q9.2)) (lets2.2.2, ([] : List Str)) r4) fun z12 => .ok (z12.2, (lets2.1, lets2.2.1, z12.1)))
noncomputable def F_l_by_own (book1 : TBook) (kept2 : List (Str × (List Str))) (mark3 : Str) (least4 : Int) : Ex Bool := gd (kept2.length < 64) (gd ((sortS (kept2.map Prod.fst)).length ≤ 100000) (bindP (compE (fun (u7 : Str) => bindP (someE (getA kept2 u7)) fun x9 => bindP (andE (decide (least4 ≤ (x9.length : Int))) (bindP (someE (getA kept2 u7)) fun x11 => .ok (!decide (mark3 ∈ x11)))) fun b13 => .ok b13) (fun (u7 : Str) => .ok u7) (sortS (kept2.map Prod.fst))) fun ys16 => bindP (F_Book_chosen_2 book1 (mark3, least4, ([] : List (List Str)))) fun r18 => gd (layD (.lst (r18.1.map D.str))) (gd (layD (.lst (ys16.map D.str))) (if (!decide (r18.1 = ys16)) = true then .ok false else bindP (F_Book_chosen_2 book1 (mark3, least4, r18.2.2.2)) fun r23 => gd (layD (.lst (r23.1.map D.str))) (gd (layD (.lst (ys16.map D.str))) (if (!decide (r23.1 = ys16)) = true then .ok false else bindX (loopE (ρ := Bool) (fun (_ : Unit) (x28 : List Str) => gd (kept2.length ≤ 100000) (gd (layD (.lst (x28.map D.str))) (gd (layD (.lst ((kept2.map Prod.snd).map dk_LS))) (if (!decide (x28 ∈ (kept2.map Prod.snd))) = true then .ok (.rt false) else .ok (.nx ()))))) () r23.2.2.2) fun c => ctE c (fun (_ : Unit) => gd ((kept2.map Prod.snd).length ≤ 100000) (bindP (compE (fun (u34 : List Str) => .ok true) (fun (u34 : List Str) => gd (layD (.lst (u34.map D.str))) (gd (layD (.lst (r23.2.2.2.map dk_LS))) (.ok (decide (u34 ∈ r23.2.2.2))))) (kept2.map Prod.snd)) fun ys39 => .ok (ys39.all id))) (fun r44 => .ok r44)))))))
noncomputable def F_law (script1 : List Int) : Ex Bool := bindP (F_l_book script1) fun r2 => bindP (F_l_cell_at script1 0) fun r4 => gd (RngOk 4) (bindX (loopE (ρ := Bool) (fun (_ : Unit) (x7 : Int) => bindP (F_l_cell_at script1 1) fun r9 => bindP (F_l_mixed r9 x7) fun r11 => bindP (F_l_mark r4 (r11 % 6)) fun r13 => bindP (F_l_mark r4 ((r11 / 6) % 6)) fun r15 => letE (cutD' [r13, r15] none (some ((r11 / 36) % 3))) fun marks17 => bindP (ixE [("" : Str), ("" : Str), ("-" : Str)] ((r11 / 108) % 3)) fun x19 => bindP (ixE [("" : Str), ("-" : Str)] ((r11 / 324) % 2)) fun x21 => letE [x19, x21] fun signs23 => bindP (F_l_by_text r2.1 r2.2 marks17 signs23) fun r25 => if (!r25) = true then .ok (.rt false) else bindP (F_l_mark r4 (r11 % 6)) fun r28 => bindP (F_l_by_own r2.1 r2.2 r28 ((r11 / 648) % 3)) fun r30 => if (!r30) = true then .ok (.rt false) else .ok (.nx ())) () (rngD 0 (4 : Int).toNat)) fun c => ctE c (fun (_ : Unit) => bindX (loopE (ρ := Bool) (fun (_ : Unit) (x33 : Str × (List Str)) => bindP (F_Book_marks r2.1 x33.1) fun r35 => gd (layD (.lst (r35.map D.str))) (gd (layD (.lst (x33.2.map D.str))) (if (!decide (r35 = x33.2)) = true then .ok (.rt false) else .ok (.nx ())))) () r2.2) fun c => ctE c (fun (_ : Unit) => bindP (F_Book_names r2.1) fun r40 => gd (r2.2.length < 64) (gd (layD (.lst (r40.map D.str))) (gd (layD (.lst ((sortS (r2.2.map Prod.fst)).map D.str))) (.ok (decide (r40 = sortS (r2.2.map Prod.fst))))))) (fun r48 => .ok r48)) (fun r52 => .ok r52))
end Lw
namespace Lw
open PySem PySem.Spec PyProof.Rows L2 Dl
/-! ### sums -/
def sm {α : Type} (f : α → Int) (xs : List α) : Int := (xs.map f).sum
section
variable {α : Type} {f g : α → Int} {xs ys : List α}
theorem sm_nil : sm f [] = 0 := rfl
end
end Lw

-- use base
namespace Lw
open PySem PySem.Spec PyProof.Rows L2 Dl
theorem cell_at_ret (s : List Int) {k : Int} (h : 0 ≤ k) : Ret (F_l_cell_at s k) fun _ => True := by
  unfold F_l_cell_at
  exact Ret.iteD (fun c => Ret.ix h c fun _ _ => Ret.ok trivial) fun _ => Ret.ok trivial
end Lw

namespace Lw
open PySem PySem.Spec PyProof.Rows L2 Dl
theorem cutS_to {b : List Nat} {i : Int} (h0 : 0 ≤ i) (h : i ≤ b.length) : cutS ⟨b.toArray⟩ none (some i) = ⟨(b.take i.toNat).toArray⟩ := by
  obtain ⟨n, rfl⟩ := Int.eq_ofNat_of_zero_le h0
  unfold cutS
  rw [HT.sIx_nat, HT.sIx_none]
  have l : (⟨b.toArray⟩ : Str).length = b.length := by simp [Str.length]
  rw [l, show min n b.length - 0 = n by omega]
  rfl
theorem cutS_from {b : List Nat} {i : Int} (h0 : 0 ≤ i) (h : i ≤ b.length) : cutS ⟨b.toArray⟩ (some i) none = ⟨(b.drop i.toNat).toArray⟩ := by
  obtain ⟨n, rfl⟩ := Int.eq_ofNat_of_zero_le h0
  unfold cutS
  rw [HT.sIx_nat, HT.sIx_none]
  have l : (⟨b.toArray⟩ : Str).length = b.length := by simp [Str.length]
  rw [l, show min n b.length = n by omega]
  show (⟨(List.take (b.length - n) (List.drop n b)).toArray⟩ : Str) = _
  rw [List.take_of_length_le (by rw [List.length_drop]; omega)]
  rfl
end Lw

namespace Lw
open PySem PySem.Spec PyProof.Rows L2 Dl
/-! ### texts that are words of small letters -/
def small : Str := "abcdefghijklmnopqrstuvwxyz"
/-- from one to so many small letters -/
def WordIs (n : Nat) (s : Str) : Prop := 1 ≤ s.length ∧ s.length ≤ n ∧ ∀ c ∈ s.cps.toList, c ∈ small.cps.toList
instance (n : Nat) (s : Str) : Decidable (WordIs n s) := by unfold WordIs; exact inferInstance
theorem is_word_ok {s : Str} {n : Nat} (hl : s.length ≤ 100000) : F_is_word s (n : Int) = .ok (decide (WordIs n s)) := by
  unfold F_is_word
  refine Ret.eq (Ret.eqP (a := !(decide (1 ≤ (s.length : Int)) && decide ((s.length : Int) ≤ (n : Int)))) ?_ ?_)
  · show gd _ _ = _
    rw [gd_ok hl]
  by_cases c : 1 ≤ s.length ∧ s.length ≤ n
  · refine Ret.f (by simp; omega) (Ret.gd (by rw [sgs_len]; exact hl) (Ret.map (fun u => inSg u small) (fun u hu => ?_) (Ret.ok ?_)))
    · obtain ⟨z, hz, rfl⟩ := List.mem_map.mp hu
      rw [gd_ok (oneS_sg z)]; rfl
    · rw [Bool.eq_iff_iff, decide_eq_true_eq]
      unfold WordIs sgs
      simp only [List.all_map, List.all_eq_true, Function.comp_def, id]
      constructor
      · intro h
        exact ⟨c.1, c.2, fun z hz => by have := h z hz; rw [inSg_sg] at this; simpa using this⟩
      · intro h z hz
        rw [inSg_sg]; simpa using h.2.2 z hz
  · refine Ret.t (by simp; omega) (Ret.ok ?_)
    exact (decide_eq_false fun z => c ⟨z.1, z.2.1⟩).symm
theorem is_name_ok {s : Str} (hl : s.length ≤ 100000) : F_is_name s = .ok (decide (WordIs 12 s)) := by
  unfold F_is_name
  exact Ret.eq (Ret.eqP (is_word_ok (n := 12) hl) (Ret.ok rfl))
theorem is_mark_ok {s : Str} (hl : s.length ≤ 100000) : F_is_mark s = .ok (decide (WordIs 8 s)) := by
  unfold F_is_mark
  exact Ret.eq (Ret.eqP (is_word_ok (n := 8) hl) (Ret.ok rfl))
end Lw

-- use cuts
-- use words
namespace Lw
open PySem PySem.Spec PyProof.Rows L2 Dl
/-! ### names and marks as the laws of books draw them -/
def mixN (c k : Int) : Int := (c % 2147483629 + 69621 * k + 1) * 48271 % 2147483629
def mixV (c k : Int) : Int := mixN c k * (mixN c k / 1009 + 69621) % 2147483629
theorem mixV_b (c k : Int) : 0 ≤ mixV c k ∧ mixV c k < 2147483629 := by
  unfold mixV
  generalize mixN c k * (mixN c k / 1009 + 69621) = y
  omega
theorem mixed_eq (c k : Int) : F_l_mixed c k = .ok (mixV c k) := by
  unfold F_l_mixed
  refine Ret.eq (Ret.letE fun n hn => Ret.gd (mok_l (by omega) (by omega)) (Ret.ok ?_))
  rw [hn]; rfl
theorem small_cps : small.cps.toList = [97, 98, 99, 100, 101, 102, 103, 104, 105, 106, 107, 108, 109, 110, 111, 112, 113, 114, 115, 116, 117, 118, 119, 120, 121, 122] := by decide +kernel
theorem small_len : small.length = 26 := by
  have := congrArg List.length small_cps
  simpa [Str.length] using this
def lett (i : Int) : Nat := i.toNat + 97
theorem lett_ok {i : Int} (h0 : 0 ≤ i) (h : i < 26) : ixE small.cps.toList i = .ok (lett i) := by
  refine ixE_nat h0 ?_
  rw [small_cps]
  obtain ⟨n, rfl⟩ := Int.eq_ofNat_of_zero_le h0
  have h' : n < 26 := by omega
  have : ∀ n < 26, ([97, 98, 99, 100, 101, 102, 103, 104, 105, 106, 107, 108, 109, 110, 111, 112, 113, 114, 115, 116, 117, 118, 119, 120, 121, 122] : List Nat)[n]? = some (n + 97) := by decide
  exact this n h'
theorem lett_in {i : Int} (h0 : 0 ≤ i) (h : i < 26) : lett i ∈ small.cps.toList := by
  rw [small_cps]
  obtain ⟨n, rfl⟩ := Int.eq_ofNat_of_zero_le h0
  have h' : n < 26 := by omega
  have : ∀ n < 26, n + 97 ∈ ([97, 98, 99, 100, 101, 102, 103, 104, 105, 106, 107, 108, 109, 110, 111, 112, 113, 114, 115, 116, 117, 118, 119, 120, 121, 122] : List Nat) := by decide
  exact this n h'
def spell (b : List Nat) (at_ : Nat) (x : Nat) : Str := ⟨(b.take at_ ++ [x] ++ b.drop at_).toArray⟩
theorem spell_len {b : List Nat} {p x : Nat} : (spell b p x).length = b.length + 1 := by
  show (b.take p ++ [x] ++ b.drop p).toArray.size = _
  simp; omega
theorem spell_word {b : List Nat} {p : Nat} {x n : Nat} (hb : ∀ u ∈ b, u ∈ small.cps.toList) (hx : x ∈ small.cps.toList) (hl : b.length + 1 ≤ n) : WordIs n (spell b p x) := by
  refine ⟨by rw [spell_len]; omega, by rw [spell_len]; exact hl, fun c hc => ?_⟩
  have hc' : c ∈ b.take p ++ [x] ++ b.drop p := by simpa [spell] using hc
  rcases List.mem_append.mp hc' with h | h
  · rcases List.mem_append.mp h with h | h
    · exact hb c (List.mem_of_mem_take h)
    · obtain rfl : c = x := by simpa using h
      exact hx
  · exact hb c (List.mem_of_mem_drop h)
theorem spell_inj {b : List Nat} {p x y : Nat} (h : spell b p x = spell b p y) : x = y := by
  have e : b.take p ++ [x] ++ b.drop p = b.take p ++ [y] ++ b.drop p := by
    have := congrArg (fun s : Str => s.cps.toList) h
    simpa [spell] using this
  have e2 := List.append_cancel_right e
  have e3 := List.append_cancel_left e2
  simpa using e3
theorem join_sg (cs : List Nat) : Txt.join ("" : Str) (cs.map sg) = ⟨cs.toArray⟩ := by
  show Builtin.Str.glued _ _ = _
  rw [StrLaws.glued_eq_join]
  have e0 : ("" : Str) = ⟨#[]⟩ := by decide +kernel
  rw [e0]
  induction cs with
  | nil => rfl
  | cons a r ih =>
    cases r with
    | nil => rfl
    | cons b r =>
      show sg a ++ ⟨#[]⟩ ++ Str.join ⟨#[]⟩ ((b :: r).map sg) = _
      rw [ih]
      show (⟨(#[a] ++ #[]) ++ (b :: r).toArray⟩ : Str) = _
      simp
def bodyV (c a n : Int) : List Nat := (rngD 0 n.toNat).map fun j => lett (mixV c (a + j) % 26)
theorem body_in (c a n : Int) : ∀ u ∈ bodyV c a n, u ∈ small.cps.toList := fun u hu => by
  obtain ⟨j, _, rfl⟩ := List.mem_map.mp hu
  exact lett_in (by omega) (by omega)
theorem body_len (c a : Int) {n : Int} (h : 0 ≤ n) : ((bodyV c a n).length : Int) = n := by
  unfold bodyV; rw [List.length_map, rngD_length]; omega
theorem sum_ones (cs : List Nat) : ((cs.map sg).map (·.length)).sum = cs.length := by
  induction cs with
  | nil => rfl
  | cons a r ih =>
    simp only [List.map_cons, List.sum_cons, List.length_cons]
    rw [ih]
    show 1 + r.length = _
    omega
def nameV (c k : Int) : Str := spell (bodyV c 3 (mixV c 1 % 12)) (mixV c 2 % (mixV c 1 % 12 + 1)).toNat (lett ((c + 5 * k) % 26))
theorem name_word (c k : Int) : WordIs 12 (nameV c k) := by
  have b1 := mixV_b c 1
  have := body_len c 3 (n := mixV c 1 % 12) (by omega)
  exact spell_word (body_in _ _ _) (lett_in (by omega) (by omega)) (by omega)
theorem name_ok (c k : Int) : F_l_name c k = .ok (nameV c k) := by
  have b1 := mixV_b c 1
  unfold F_l_name
  have lb := body_len c 3 (n := mixV c 1 % 12) (by omega)
  have b2 := mixV_b c 2
  have h0 := Int.emod_nonneg (mixV c 2) (show mixV c 1 % 12 + 1 ≠ 0 by omega)
  have h1 := Int.emod_lt_of_pos (mixV c 2) (show 0 < mixV c 1 % 12 + 1 by omega)
  refine Ret.eq (Ret.letI (Ret.eqP (mixed_eq c 1) (Ret.letI (Ret.gd ⟨by omega, by omega⟩ (Ret.gd (by rw [rngD_length]; omega) (Ret.map (fun j => sg (lett (mixV c (3 + j) % 26))) (fun j _ => ?_) ?_))))))
  · rw [mixed_eq]
    refine Ret.eq (Ret.gd (by rw [show ("abcdefghijklmnopqrstuvwxyz" : Str).length = 26 from small_len]; omega) (Ret.eqP (lett_ok (by omega) (by omega)) (Ret.ok rfl)))
  · have em : ((rngD 0 (mixV c 1 % 12).toNat).map fun j => sg (lett (mixV c (3 + j) % 26))) = (bodyV c 3 (mixV c 1 % 12)).map sg := by
      unfold bodyV; rw [List.map_map]; rfl
    rw [em]
    have ls : ∀ xs : List Nat, (⟨xs.toArray⟩ : Str).length = xs.length := fun xs => by simp [Str.length]
    have lsg : ∀ n, (sg n).length = 1 := fun _ => rfl
    have la : ∀ a b : Str, (a ++ b).length = a.length + b.length := fun a b => by show (a.cps ++ b.cps).size = _; simp [Str.length]
    have ez : ("" : Str).length = 0 := by decide +kernel
    have e26 : ("abcdefghijklmnopqrstuvwxyz" : Str).length = 26 := small_len
    refine Ret.gd (by rw [sum_ones, ez]; omega) (Ret.letI (Ret.eqP (mixed_eq c 2) (Ret.gd (by omega) (Ret.letI ?_))))
    rw [join_sg]
    have c1 := cutS_to (b := bodyV c 3 (mixV c 1 % 12)) h0 (by omega)
    have c2 := cutS_from (b := bodyV c 3 (mixV c 1 % 12)) h0 (by omega)
    refine Ret.gd (by rw [ls]; omega) (Ret.gd (by rw [e26]; omega) (Ret.eqP (lett_ok (by omega) (by omega)) ?_))
    rw [c1, c2]
    refine Ret.gd (by rw [lsg, ls, List.length_take]; omega) (Ret.gd (by rw [ls]; omega) (Ret.gd (by rw [la, lsg, ls, ls, List.length_take, List.length_drop]; omega) (Ret.ok ?_)))
    show (⟨((bodyV c 3 (mixV c 1 % 12)).take _).toArray ++ #[_] ++ ((bodyV c 3 (mixV c 1 % 12)).drop _).toArray⟩ : Str) = spell _ _ _
    unfold spell
    simp
end Lw

-- use base
namespace Lw
open PySem PySem.Spec PyProof.Rows L2 Dl
/-! ### rules -/
abbrev RowsT := List (Int × Int)
structure RowsIn (rs : RowsT) : Prop where
  l1 : 1 ≤ rs.length
  l5 : rs.length ≤ 5
  b : ∀ r ∈ rs, 0 ≤ r.1 ∧ r.1 ≤ 10 ^ 23 ∧ 1 ≤ r.2 ∧ r.2 ≤ 10 ^ 36
  asc : ∀ (i : Nat) (x y : Int × Int), rs[i]? = some x → rs[i + 1]? = some y → x.1 ≤ y.1 ∧ x.2 ∣ y.2
def GoneIn (rs : RowsT) (g : Option Int) : Prop := ∀ v, g = some v → v ≤ 10 ^ 24 ∧ ∀ r ∈ rs, r.1 ≤ v
theorem RowsIn.ne {rs : RowsT} (h : RowsIn rs) : rs ≠ [] := List.ne_nil_of_length_pos (by have := h.l1; omega)
/-- the last row -/
def lastR (rs : RowsT) : Int × Int := rs.getLastD (0, 1)
theorem lastR_get {rs : RowsT} (h : rs ≠ []) : rs[rs.length - 1]? = some (lastR rs) := by
  unfold lastR
  rw [← List.getLast?_eq_getElem?, List.getLast?_eq_some_getLast h]
  cases rs with
  | nil => exact absurd rfl h
  | cons a as => simp [List.getLastD]
theorem lastR_mem {rs : RowsT} (h : rs ≠ []) : lastR rs ∈ rs := List.mem_of_getElem? (lastR_get h)
theorem ix_last {rs : RowsT} (h : rs ≠ []) : ixE rs (-1) = .ok (lastR rs) := by
  have l := List.length_pos_iff.mpr h
  refine ixE_neg (by decide) (by omega) ?_
  have e : (-1 + (rs.length : Int)).toNat = rs.length - 1 := by omega
  rw [e]; exact lastR_get h
theorem init_ok {rs : RowsT} {g : Option Int} (h : RowsIn rs) (hg : GoneIn rs g) : F_Rule_init rs g = .ok (rs, g) := by
  unfold F_Rule_init
  have l1 := h.l1
  have l5 := h.l5
  refine Ret.eq (Ret.f ?_ (Ret.fold (fun i z => z.2.2 = rs.take i ∧ (i = 0 → z.1 = 0 ∧ z.2.1 = 1) ∧ (∀ j, i = j + 1 → rs[j]? = some (z.1, z.2.1))) ⟨rfl, fun _ => ⟨rfl, rfl⟩, fun j e => by omega⟩ ?_ ?_))
  · simp; omega
  · rintro j ⟨old, broad, row⟩ x hx ⟨h1, h2, h3⟩
    dsimp only at h1 h2 h3
    have bx := h.b x (List.mem_of_getElem? hx)
    have lt := (List.getElem?_eq_some_iff.mp hx).1
    have key : old ≤ x.1 ∧ broad ∣ x.2 ∧ 0 < broad := by
      cases j with
      | zero =>
        obtain ⟨a, b⟩ := h2 rfl
        subst a b
        exact ⟨bx.1, Int.one_dvd _, by decide⟩
      | succ j =>
        have e := h3 j rfl
        have be := h.b _ (List.mem_of_getElem? e)
        obtain ⟨a, b⟩ := h.asc j _ _ e hx
        exact ⟨a, b, by have := be.2.2.1; exact this⟩
    refine (Ret.orE (P := fun b => b = false) (fun _ => (Ret.orE (P := fun b => b = false) (fun _ => Ret.gd key.2.2 (Ret.ok ?_)) (fun z => absurd (of_decide_eq_true z) (by omega))).bindP fun b hb => Ret.ok hb) (fun z => absurd (of_decide_eq_true z) (by omega))).bindP fun b hb => Ret.f hb (Ret.gd (by rw [h1, List.length_take]; omega) (Ret.ok ⟨?_, ?_, ?_⟩))
    · simp [Int.emod_eq_zero_of_dvd key.2.1]
    · dsimp only
      rw [h1, List.take_add_one, hx]; rfl
    · intro z; omega
    · intro k e
      have : k = j := by omega
      subst this
      exact hx
  · rintro ⟨old, broad, row⟩ ⟨h1, h2, h3⟩
    dsimp only at h1 h2 h3
    have e := h3 (rs.length - 1) (by omega)
    refine (Ret.andE (P := fun b => b = false) (fun z => ?_) (fun _ => rfl)).bindP fun b hb => Ret.f hb (Ret.ok ?_)
    · cases g with
      | none => cases z
      | some v =>
        refine Ret.someE rfl (Ret.ok ?_)
        have := (hg v rfl).2 _ (List.mem_of_getElem? e)
        have q : old ≤ v := this
        simp; omega
    · rw [h1, List.take_length]
/-! ### edges -/
def cutV (a w d : Int) : Int := (d - a) / w * w
theorem cut_spec {a w d : Int} (hw : 0 < w) : w ∣ cutV a w d ∧ cutV a w d ≤ d - a ∧ d - a < cutV a w d + w := by
  unfold cutV
  have h1 := Int.mul_ediv_add_emod (d - a) w
  have h2 := Int.emod_nonneg (d - a) (show w ≠ 0 by omega)
  have h3 := Int.emod_lt_of_pos (d - a) hw
  rw [Int.mul_comm] at h1
  exact ⟨Int.dvd_mul_left _ _, by omega, by omega⟩
theorem cut_abs {a w d : Int} (hw : 1 ≤ w ∧ w ≤ 10 ^ 36) (ha : 0 ≤ a ∧ a ≤ 10 ^ 24) (hd : -(10 ^ 44) ≤ d ∧ d ≤ 10 ^ 44) : -(10 ^ 45) ≤ cutV a w d ∧ cutV a w d ≤ 10 ^ 45 := by
  have := cut_spec (a := a) (d := d) (show 0 < w by omega)
  omega
theorem cut_mono {a w a' w' d : Int} (hw : 0 < w) (hw' : 0 < w') (ha : a ≤ a') (hd : w ∣ w') : cutV a' w' d ≤ cutV a w d := by
  obtain ⟨p1, p2, p3⟩ := cut_spec (a := a) (d := d) hw
  obtain ⟨q1, q2, q3⟩ := cut_spec (a := a') (d := d) hw'
  refine Int.not_lt.mp fun z => ?_
  have dv : w ∣ cutV a' w' d - cutV a w d := Int.dvd_sub (Int.dvd_trans hd q1) p1
  have := Int.le_of_dvd (by omega) dv
  omega
def edgesV (rs : RowsT) (g : Option Int) (d : Int) : List (Option Int) := (rs.map fun r => some (cutV r.1 r.2 d)) ++ [g.map fun v => cutV v (lastR rs).2 d]
theorem edgesV_len (rs : RowsT) (g : Option Int) (d : Int) : (edgesV rs g d).length = rs.length + 1 := by simp [edgesV]
theorem edgesV_at {rs : RowsT} {g : Option Int} {d : Int} {i : Nat} {r : Int × Int} (h : rs[i]? = some r) : (edgesV rs g d)[i]? = some (some (cutV r.1 r.2 d)) := by
  have l := (List.getElem?_eq_some_iff.mp h).1
  unfold edgesV
  rw [List.getElem?_append_left (by simpa using l), List.getElem?_map, h]; rfl
theorem edgesV_last {rs : RowsT} {g : Option Int} {d : Int} : (edgesV rs g d)[rs.length]? = some (g.map fun v => cutV v (lastR rs).2 d) := by
  unfold edgesV
  rw [List.getElem?_append_right (by simp)]; simp
end Lw

-- use rule
namespace Lw
open PySem PySem.Spec PyProof.Rows L2 Dl
/-! ### rules made longer, shorter -/
theorem RowsIn.pre {xs ys : RowsT} (h : RowsIn (xs ++ ys)) (n : xs ≠ []) : RowsIn xs := by
  have l := h.l5
  rw [List.length_append] at l
  have p := List.length_pos_iff.mpr n
  refine ⟨by omega, by omega, fun r hr => h.b r (List.mem_append_left _ hr), fun i x y hx hy => ?_⟩
  have l1 := (List.getElem?_eq_some_iff.mp hx).1
  have l2 := (List.getElem?_eq_some_iff.mp hy).1
  exact h.asc i x y (by rw [List.getElem?_append_left l1]; exact hx) (by rw [List.getElem?_append_left l2]; exact hy)
end Lw

-- use base
namespace Lw
open PySem PySem.Spec PyProof.Rows L2 Dl
end Lw

-- use names
-- use rules2
-- use menu
namespace Lw
open PySem PySem.Spec PyProof.Rows L2 Dl
end Lw

-- use rule
namespace Lw
open PySem PySem.Spec PyProof.Rows L2 Dl
/-! ### edges, one beside another -/
structure EdgeOk (n : Nat) (E : List (Option Int)) : Prop where
  len : E.length = n + 1
  at_ : ∀ i, i < n → ∃ v, E[i]? = some (some v)
  asc : ∀ i a b, i + 1 < n → E[i]? = some (some a) → E[i + 1]? = some (some b) → b ≤ a
  bnd : ∀ v, some v ∈ E → -(10 ^ 45) ≤ v ∧ v ≤ 10 ^ 45
theorem EdgeOk.le {n : Nat} {E : List (Option Int)} (h : EdgeOk n E) : ∀ (k i : Nat) (a b : Int), i + k < n → E[i]? = some (some a) → E[i + k]? = some (some b) → b ≤ a
  | 0, i, a, b, _, ha, hb => by rw [Nat.add_zero, ha] at hb; cases hb; exact Int.le_refl _
  | k + 1, i, a, b, l, ha, hb => by
    obtain ⟨v, hv⟩ := h.at_ (i + k) (by omega)
    have := EdgeOk.le h k i a v (by omega) ha hv
    have := h.asc (i + k) v b (by omega) hv hb
    omega
theorem edgesV_ok {rs : RowsT} {g : Option Int} (h : RowsIn rs) (hg : GoneIn rs g) {d : Int} (hd : -(10 ^ 44) ≤ d ∧ d ≤ 10 ^ 44) : EdgeOk rs.length (edgesV rs g d) := by
  refine ⟨edgesV_len rs g d, fun i hi => ⟨_, edgesV_at (List.getElem?_eq_getElem hi)⟩, fun i a b l ha hb => ?_, fun v hv => ?_⟩
  · have g1 := List.getElem?_eq_getElem (l := rs) (i := i) (by omega)
    have g2 := List.getElem?_eq_getElem (l := rs) (i := i + 1) l
    rw [edgesV_at g1] at ha
    rw [edgesV_at g2] at hb
    cases ha; cases hb
    have q := h.asc i _ _ g1 g2
    have b1 := h.b _ (List.mem_of_getElem? g1)
    have b2 := h.b _ (List.mem_of_getElem? g2)
    exact cut_mono (by omega) (by omega) q.1 q.2
  · unfold edgesV at hv
    rcases List.mem_append.mp hv with q | q
    · obtain ⟨r, hr, e⟩ := List.mem_map.mp q
      cases e
      have b := h.b r hr
      exact cut_abs (by omega) (by omega) hd
    · have q : some v = g.map fun v => cutV v (lastR rs).2 d := by simpa using q
      cases g with
      | none => cases q
      | some x =>
        cases q
        have hx := hg x rfl
        have bl := h.b _ (lastR_mem h.ne)
        have := hx.2 _ (lastR_mem h.ne)
        exact cut_abs (by omega) (by omega) hd
def gr (a b : Option Int) : Option Int := maxO (([a, b].filter fun u => !u.isNone).map fun u => u.getD 0)
theorem gr_some (a b : Int) : gr (some a) (some b) = some (max a b) := rfl
def grV (E F : List (Option Int)) : List (Option Int) := (E.zip F).map fun q => gr q.1 q.2
/-! ### the cell at a time -/
/-- the width of the cell: k edges are ahead of it -/
def CutAt (rs : RowsT) (E : List (Option Int)) (t z : Int) : Prop := ∃ k a, 1 ≤ k ∧ k ≤ rs.length ∧ (∀ i, i < k → ∃ v, E[i]? = some (some v) ∧ t < v) ∧ (k < rs.length → ∃ v, E[k]? = some (some v) ∧ v ≤ t) ∧ rs[k - 1]? = some (a, z)
inductive CellIs (rs : RowsT) (E : List (Option Int)) (t : Int) : Option (Int × Int) → Prop
  | up {v : Int} (h : E[0]? = some (some v)) (hv : v ≤ t) : CellIs rs E t (some (t, 0))
  | gone {v u : Int} (h : E[0]? = some (some v)) (hv : t < v) (h2 : E[rs.length]? = some (some u)) (hu : t < u) : CellIs rs E t none
  | mid {v : Int} {z : Int} (h : E[0]? = some (some v)) (hv : t < v) (h2 : ∀ u, E[rs.length]? = some (some u) → u ≤ t) (c : CutAt rs E t z) (hz : 1 ≤ z ∧ z ≤ 10 ^ 36) : CellIs rs E t (some (t / z * z, z))
theorem ixE_end {n : Nat} {E : List (Option Int)} (h : E.length = n + 1) : ∃ o, E[n]? = some o ∧ ixE E (-1) = .ok o := by
  have g := List.getElem?_eq_getElem (l := E) (i := n) (by omega)
  refine ⟨_, g, ixE_neg (by decide) (by omega) ?_⟩
  have e : (-1 + (E.length : Int)).toNat = n := by omega
  rw [e]; exact g
theorem cell_ok {rs : RowsT} {g : Option Int} {E : List (Option Int)} (h : RowsIn rs) (hE : EdgeOk rs.length E) {t : Int} (ht : -(10 ^ 50) ≤ t ∧ t ≤ 10 ^ 50) : Ret (F_cell_at (rs, g) E t) (CellIs rs E t) := by
  unfold F_cell_at
  have l1 := h.l1
  obtain ⟨v, hv⟩ := hE.at_ 0 (by omega)
  obtain ⟨o, ho, io⟩ := ixE_end hE.len
  refine Ret.eqP (ixE_nat (by decide) hv) (Ret.someE rfl (Ret.iteD (fun q => Ret.ok (.up hv q)) fun q => Ret.eqP io ?_))
  have q' : t < v := by omega
  refine (Ret.andE (P := fun b => b = true ↔ ∃ u, o = some u ∧ t < u) (fun z => Ret.eqP io ?_) (fun z => ?_)).bindP fun b hb => Ret.ite (fun e => Ret.ok ?_) fun e => ?_
  · cases o with
    | none => cases z
    | some u => exact Ret.someE rfl (Ret.ok (by simp))
  · cases o with
    | some u => cases z
    | none => simp
  · obtain ⟨u, rfl, hu⟩ := hb.mp e
    exact .gone hv q' ho hu
  · have no : ∀ u, E[rs.length]? = some (some u) → u ≤ t := fun u hu => by
      rw [ho] at hu; cases hu
      refine Int.not_lt.mp fun z => ?_
      rw [hb.mpr ⟨u, rfl, z⟩] at e; cases e
    have fin : ∀ z, CutAt rs E t z → Ret (gd (DivOk z) (gd (Dl.MulOk (t / z) z) (.ok (some ((t / z) * z, z))))) (CellIs rs E t) := fun z hz => by
      obtain ⟨k, a, k1, k2, _, _, hr⟩ := id hz
      have b := h.b _ (List.mem_of_getElem? hr)
      dsimp only at b
      have h1 : t / z ≤ 10 ^ 50 := by
        refine Int.ediv_le_of_le_mul (by omega) ?_
        have : (10 : Int) ^ 50 * 1 ≤ 10 ^ 50 * z := Int.mul_le_mul_of_nonneg_left (by omega) (by decide)
        omega
      have h2 : -(10 ^ 50) ≤ t / z := by
        refine Int.le_ediv_of_mul_le (by omega) ?_
        have : (10 : Int) ^ 50 * 1 ≤ 10 ^ 50 * z := Int.mul_le_mul_of_nonneg_left (by omega) (by decide)
        omega
      exact Ret.gd (divOk_of (by omega) (by omega)) (Ret.gd (mok_b (big_of (by omega) (by omega)) (big_of (by omega) (by omega))) (Ret.ok (.mid hv q' no hz (by omega))))
    have zl : (rs.zip E).length = rs.length := by rw [List.length_zip, hE.len]; omega
    refine Ret.eqP (a := rs) rfl (Ret.loopX (fun j z => (∀ i, i < j → ∃ v, E[i]? = some (some v) ∧ t < v) ∧ (j = 0 → z = 1) ∧ ∀ i, j = i + 1 → ∃ a, rs[i]? = some (a, z)) (CutAt rs E t) (fun _ => False) ⟨fun i hi => absurd hi (by omega), fun _ => rfl, fun i hi => absurd hi (by omega)⟩ ?_ (fun z hz => fin z ?_) fin fun _ hx => hx.elim)
    · rintro j z ⟨r, e⟩ hx ⟨a1, a2, a3⟩
      obtain ⟨g1, g2⟩ := Dl.zip_get hx
      have lj := (List.getElem?_eq_some_iff.mp g1).1
      obtain ⟨u, hu⟩ := hE.at_ j lj
      rw [hu] at g2
      cases g2
      refine Ret.someE rfl (Ret.iteD (fun q => Ret.ok ?_) fun q => Ret.ok ?_)
      · cases j with
        | zero => rw [hv] at hu; cases hu; exact absurd q (by omega)
        | succ j =>
          obtain ⟨a, ha⟩ := a3 j rfl
          exact ⟨j + 1, a, by omega, by omega, a1, fun _ => ⟨u, hu, q⟩, ha⟩
      · refine ⟨fun i hi => ?_, fun z => by omega, fun i hi => ⟨r.1, ?_⟩⟩
        · by_cases e : i < j
          · exact a1 i e
          · obtain rfl : i = j := by omega
            exact ⟨u, hu, by omega⟩
        · obtain rfl : i = j := by omega
          exact g1
    · obtain ⟨a1, a2, a3⟩ := hz
      rw [zl] at a1 a2 a3
      obtain ⟨a, ha⟩ := a3 (rs.length - 1) (by omega)
      exact ⟨rs.length, a, l1, Nat.le_refl _, a1, fun z => absurd z (by omega), ha⟩
end Lw

-- use cells
namespace Lw
open PySem PySem.Spec PyProof.Rows L2 Dl
/-! ### edges of a rule, and the cell of a time -/
structure EdgeA (rs : RowsT) (E : List (Option Int)) : Prop extends EdgeOk rs.length E where
  dn : ∀ (i : Nat) (a b : Int), E[i]? = some (some a) → E[i + 1]? = some (some b) → b ≤ a
  mul : ∀ (i : Nat) (r : Int × Int) (v : Int), rs[i]? = some r → E[i]? = some (some v) → r.2 ∣ v
  mulG : ∀ v : Int, E[rs.length]? = some (some v) → (lastR rs).2 ∣ v
def Ab (E : List (Option Int)) (t : Int) (i : Nat) : Prop := ∃ v, E[i]? = some (some v) ∧ t < v
def abB (t : Int) (e : Option Int) : Bool := match e with
  | some v => decide (t < v)
  | none => false
def lvl (E : List (Option Int)) (t : Int) : Nat := (E.takeWhile (abB t)).length
def cellV (rs : RowsT) (E : List (Option Int)) (t : Int) : Option (Int × Int) := match lvl E t with
  | 0 => some (t, 0)
  | k + 1 => match rs[k]? with
    | some r => some (t / r.2 * r.2, r.2)
    | none => none
theorem takeWhile_iff {α : Type} {p : α → Bool} : ∀ {xs : List α} {i : Nat}, (∀ j x, j ≤ i → xs[j]? = some x → p x = true) → i < xs.length → i < (xs.takeWhile p).length
  | [], _, _, h => by simp at h
  | x :: xs, i, h, l => by
    have hx := h 0 x (Nat.zero_le _) rfl
    rw [List.takeWhile_cons, if_pos hx, List.length_cons]
    cases i with
    | zero => omega
    | succ i =>
      have := takeWhile_iff (p := p) (xs := xs) (i := i) (fun j y hj e => h (j + 1) y (by omega) (by simpa using e)) (by simpa using l)
      omega
theorem takeWhile_at {α : Type} {p : α → Bool} : ∀ {xs : List α} {i : Nat}, i < (xs.takeWhile p).length → ∃ x, xs[i]? = some x ∧ p x = true
  | [], _, h => by simp at h
  | x :: xs, i, h => by
    rw [List.takeWhile_cons] at h
    by_cases hx : p x = true
    · rw [if_pos hx, List.length_cons] at h
      cases i with
      | zero => exact ⟨x, rfl, hx⟩
      | succ i =>
        obtain ⟨y, e, q⟩ := takeWhile_at (p := p) (xs := xs) (i := i) (by omega)
        exact ⟨y, by simpa using e, q⟩
    · rw [if_neg hx] at h; simp at h
section
variable {rs : RowsT} {E F : List (Option Int)} {t : Int}
theorem Ab.down (h : EdgeA rs E) {i : Nat} (a : Ab E t (i + 1)) : Ab E t i := by
  obtain ⟨v, hv, l⟩ := a
  have li := (List.getElem?_eq_some_iff.mp hv).1
  have le := h.len
  obtain ⟨u, hu⟩ := h.at_ i (by omega)
  have := h.dn i u v hu hv
  exact ⟨u, hu, by omega⟩
theorem Ab.downs (h : EdgeA rs E) : ∀ {k i : Nat}, Ab E t (i + k) → Ab E t i
  | 0, _, a => a
  | k + 1, i, a => Ab.downs h (k := k) (Ab.down h (i := i + k) a)
theorem lvl_iff (h : EdgeA rs E) (i : Nat) : i < lvl E t ↔ Ab E t i := by
  constructor
  · intro l
    obtain ⟨x, e, q⟩ := takeWhile_at l
    cases x with
    | none => cases q
    | some v => exact ⟨v, e, of_decide_eq_true q⟩
  · intro a
    obtain ⟨v, e, q⟩ := id a
    refine takeWhile_iff (fun j x hj hx => ?_) (List.getElem?_eq_some_iff.mp e).1
    obtain ⟨k, rfl⟩ := Nat.le.dest hj
    obtain ⟨u, hu, l⟩ := Ab.downs h a
    rw [hu] at hx; cases hx
    exact decide_eq_true l
theorem lvl_le (h : EdgeA rs E) : lvl E t ≤ rs.length + 1 := by
  refine Nat.not_lt.mp fun z => ?_
  obtain ⟨v, e, _⟩ := (lvl_iff h (rs.length + 1)).mp z
  have := (List.getElem?_eq_some_iff.mp e).1
  have := h.len
  omega
theorem nat_ext {a b : Nat} (h : ∀ i, i < a ↔ i < b) : a = b := by
  have h1 := h a
  have h2 := h b
  omega
/-- young, gone, or in a cell -/
theorem cellV_cases (h : EdgeA rs E) : (lvl E t = 0 ∧ cellV rs E t = some (t, 0)) ∨ (lvl E t = rs.length + 1 ∧ cellV rs E t = none) ∨ ∃ k r, lvl E t = k + 1 ∧ rs[k]? = some r ∧ cellV rs E t = some (t / r.2 * r.2, r.2) := by
  have hl := lvl_le (t := t) h
  unfold cellV
  cases e : lvl E t with
  | zero => exact .inl ⟨rfl, rfl⟩
  | succ k =>
    right
    rw [e] at hl
    by_cases q : k < rs.length
    · right
      have g := List.getElem?_eq_getElem q
      exact ⟨k, _, rfl, g, by dsimp only; rw [g]⟩
    · left
      have g := List.getElem?_eq_none (l := rs) (i := k) (by omega)
      exact ⟨by omega, by dsimp only; rw [g]⟩
theorem cellIs_eq (hr : RowsIn rs) (h : EdgeA rs E) {o : Option (Int × Int)} (c : CellIs rs E t o) : o = cellV rs E t := by
  cases c with
  | @up v e hv =>
    have z : lvl E t = 0 := by
      refine Nat.eq_zero_of_not_pos fun z => ?_
      obtain ⟨u, hu, l⟩ := (lvl_iff h 0).mp z
      rw [e] at hu; cases hu
      omega
    unfold cellV; rw [z]
  | @gone v u e hv e2 hu =>
    have z : lvl E t = rs.length + 1 := by
      have a := (lvl_iff h rs.length).mpr ⟨u, e2, hu⟩
      have := lvl_le (t := t) h
      omega
    unfold cellV; rw [z]
    have g := List.getElem?_eq_none (l := rs) (i := rs.length) (by omega)
    dsimp only; rw [g]
  | @mid v z e hv e2 c hz =>
    obtain ⟨k, a, k1, k2, c1, c2, c3⟩ := c
    have q : lvl E t = (k - 1) + 1 := by
      have : lvl E t = k := nat_ext fun i => by
        rw [lvl_iff h]
        constructor
        · intro a
          refine Nat.not_le.mp fun l => ?_
          obtain ⟨j, rfl⟩ := Nat.le.dest l
          obtain ⟨v', hv', l'⟩ := Ab.downs h a
          by_cases kn : k < rs.length
          · obtain ⟨v2, hv2, l2⟩ := c2 kn
            rw [hv'] at hv2; cases hv2
            omega
          · obtain rfl : k = rs.length := by omega
            have := e2 v' hv'
            omega
        · intro l; exact c1 i l
      omega
    unfold cellV; rw [q]
    dsimp only; rw [c3]
theorem cell_eq {g : Option Int} (hr : RowsIn rs) (h : EdgeA rs E) (ht : -(10 ^ 50) ≤ t ∧ t ≤ 10 ^ 50) : F_cell_at (rs, g) E t = .ok (cellV rs E t) := by
  obtain ⟨o, e, c⟩ := cell_ok (g := g) hr h.toEdgeOk ht
  rw [e, cellIs_eq hr h c]
end
theorem cell_has {w t : Int} (hw : 0 < w) : t / w * w ≤ t ∧ t < t / w * w + w := by
  have e1 := Int.mul_ediv_add_emod t w
  have e2 := Int.emod_nonneg t (show w ≠ 0 by omega)
  have e3 := Int.emod_lt_of_pos t hw
  have c : t / w * w = w * (t / w) := Int.mul_comm _ _
  omega
section
variable {rs : RowsT} {E F : List (Option Int)} {t t' : Int}
theorem RowsIn.wpos (hr : RowsIn rs) {k : Nat} {r : Int × Int} (hk : rs[k]? = some r) : 0 < r.2 := by
  have := hr.b r (List.mem_of_getElem? hk)
  omega
theorem cell_pos (hr : RowsIn rs) (h : EdgeA rs E) {s w : Int} (c : cellV rs E t = some (s, w)) : (w = 0 ∧ s = t) ∨ (0 < w ∧ s ≤ t ∧ t < s + w ∧ s = t / w * w ∧ w ≤ 10 ^ 36) := by
  rcases cellV_cases (t := t) h with ⟨_, e⟩ | ⟨_, e⟩ | ⟨k, r, l, hk, e⟩
  · rw [e] at c; cases c; exact .inl ⟨rfl, rfl⟩
  · rw [e] at c; cases c
  · rw [e] at c
    cases c
    have w := hr.wpos hk
    have a := cell_has (t := t) w
    have := hr.b r (List.mem_of_getElem? hk)
    exact .inr ⟨w, a.1, by omega, rfl, by omega⟩
/-- edges nowhere less -/
def EdgeLe (E F : List (Option Int)) : Prop := ∀ (i : Nat) (v : Int), E[i]? = some (some v) → ∃ u, F[i]? = some (some u) ∧ v ≤ u
theorem EdgeLe.refl : EdgeLe E E := fun i v h => ⟨v, h, Int.le_refl _⟩
theorem EdgeLe.trans {G : List (Option Int)} (a : EdgeLe E F) (b : EdgeLe F G) : EdgeLe E G := fun i v h => by
  obtain ⟨u, hu, l⟩ := a i v h
  obtain ⟨x, hx, l'⟩ := b i u hu
  exact ⟨x, hx, by omega⟩
theorem EdgeLe.ab (le : EdgeLe E F) {i : Nat} (a : Ab E t i) : Ab F t i := by
  obtain ⟨v, hv, l⟩ := a
  obtain ⟨u, hu, l'⟩ := le i v hv
  exact ⟨u, hu, by omega⟩
theorem EdgeLe.lvl (le : EdgeLe E F) (h : EdgeA rs E) (k : EdgeA rs F) : lvl E t ≤ lvl F t := by
  refine Nat.not_lt.mp fun z => ?_
  exact absurd ((lvl_iff k _).mpr (le.ab ((lvl_iff h _).mp z))) (Nat.lt_irrefl _)
/-! the edges of rules, and the greater ones -/
theorem edgesV_A {g : Option Int} (h : RowsIn rs) (hg : GoneIn rs g) {d : Int} (hd : -(10 ^ 44) ≤ d ∧ d ≤ 10 ^ 44) : EdgeA rs (edgesV rs g d) := by
  have bl := h.b _ (lastR_mem h.ne)
  refine { edgesV_ok h hg hd with dn := fun i a b ha hb => ?_, mul := fun i r v hr hv => ?_, mulG := fun v hv => ?_ }
  · have li := (List.getElem?_eq_some_iff.mp hb).1
    rw [edgesV_len] at li
    by_cases q : i + 1 < rs.length
    · exact (edgesV_ok h hg hd).asc i a b q ha hb
    · obtain rfl : i = rs.length - 1 := by omega
      have l1 := h.l1
      rw [edgesV_at (lastR_get h.ne)] at ha
      rw [show rs.length - 1 + 1 = rs.length by omega, edgesV_last] at hb
      cases g with
      | none => cases hb
      | some x =>
        cases ha; cases hb
        exact cut_mono (by omega) (by omega) ((hg x rfl).2 _ (lastR_mem h.ne)) (Int.dvd_refl _)
  · rw [edgesV_at hr] at hv
    cases hv
    have := h.b r (List.mem_of_getElem? hr)
    exact (cut_spec (by omega)).1
  · rw [edgesV_last] at hv
    cases g with
    | none => cases hv
    | some x => cases hv; exact (cut_spec (by omega)).1
end
end Lw

-- use rule
namespace Lw
open PySem PySem.Spec PyProof.Rows L2 Dl
theorem cut_at_ok {a w d : Int} (hw : 1 ≤ w ∧ w ≤ 10 ^ 36) (ha : 0 ≤ a ∧ a ≤ 10 ^ 24) (hd : -(10 ^ 44) ≤ d ∧ d ≤ 10 ^ 44) : F_cut_at a w d = .ok (cutV a w d) := by
  unfold F_cut_at
  rw [gd_ok (divOk_of (by omega) (by omega)), gd_ok (mok_b ?_ (big_of (by omega) (by omega)))]
  · rfl
  · have h1 : (d - a) / w ≤ 10 ^ 45 := by
      refine Int.ediv_le_of_le_mul (by omega) ?_
      have : (10 : Int) ^ 45 * 1 ≤ 10 ^ 45 * w := Int.mul_le_mul_of_nonneg_left (by omega) (by decide)
      omega
    have h2 : -(10 ^ 45) ≤ (d - a) / w := by
      refine Int.le_ediv_of_mul_le (by omega) ?_
      have : (10 : Int) ^ 45 * 1 ≤ 10 ^ 45 * w := Int.mul_le_mul_of_nonneg_left (by omega) (by decide)
      omega
    exact big_of (by omega) (by omega)
theorem edges_ok {rs : RowsT} {g : Option Int} {d : Int} (h : RowsIn rs) (hg : GoneIn rs g) (hd : -(10 ^ 44) ≤ d ∧ d ≤ 10 ^ 44) : F_edges_at (rs, g) d = .ok (edgesV rs g d) := by
  unfold F_edges_at
  have l5 := h.l5
  have bl := h.b _ (lastR_mem h.ne)
  refine Ret.eq (Ret.eqP (a := rs) rfl (Ret.gd (by omega) (Ret.map (fun r => cutV r.1 r.2 d) (fun r hr => ?_) (Ret.eqP (a := g) rfl (Ret.ite (fun c => Ret.gd (by simp; omega) (Ret.ok ?_)) fun c => ?_)))))
  · have := h.b r hr
    rw [cut_at_ok (by omega) (by omega) hd]; rfl
  · cases g with
    | none => simp [edgesV]
    | some v => cases c
  · cases g with
    | none => cases c
    | some v =>
      have hv := hg v rfl
      have := hv.2 _ (lastR_mem h.ne)
      refine Ret.eqP (a := some v) rfl (Ret.eqP (a := rs) rfl (Ret.eqP (ix_last h.ne) (Ret.someE rfl (Ret.eqP (cut_at_ok (by omega) (by omega) hd) (Ret.gd (by simp; omega) (Ret.ok ?_))))))
      simp [edgesV]
end Lw

-- use base
namespace Lw
open PySem PySem.Spec PyProof.Rows L2 Dl
/-! ### dicts as lists of pairs -/
section
variable {κ β : Type} [DecidableEq κ]
/-- what stands at a key made anew -/
def upA (xs : List (κ × β)) (k : κ) (f : Option β → β) : List (κ × β) := putA xs k (f (getA xs k))
theorem getA_putA (xs : List (κ × β)) (k : κ) (v : β) (j : κ) : getA (putA xs k v) j = if k = j then some v else getA xs j := by
  have hm : ∀ (xs : List (κ × β)), getA (xs.map fun q => if q.1 = k then (q.1, v) else q) j = if k = j then (getA xs j).map (fun _ => v) else getA xs j := fun xs => by
    induction xs with
    | nil => simp [getA_nil]
    | cons q xs ih =>
      rw [List.map_cons, getA_cons, getA_cons, ih]
      by_cases h : q.1 = k
      · rw [if_pos h]
        dsimp only
        by_cases h2 : k = j
        · rw [if_pos (h.trans h2), if_pos h2, if_pos (h.trans h2)]; rfl
        · rw [if_neg (fun z => h2 (h.symm.trans z)), if_neg h2, if_neg (fun z => h2 (h.symm.trans z)), if_neg h2]
      · rw [if_neg h]
        by_cases h2 : q.1 = j
        · rw [if_pos h2, if_pos h2, if_neg (fun z => h (h2.trans z.symm))]
        · rw [if_neg h2, if_neg h2]
  have ha : ∀ (xs ys : List (κ × β)), getA (xs ++ ys) j = (getA xs j).orElse fun _ => getA ys j := fun xs ys => by
    induction xs with
    | nil => simp [getA_nil]
    | cons q xs ih =>
      rw [List.cons_append, getA_cons, getA_cons, ih]
      by_cases h : q.1 = j
      · rw [if_pos h, if_pos h]; rfl
      · rw [if_neg h, if_neg h]
  unfold putA
  rw [getA_any]
  split
  · rename_i h
    rw [hm]
    split
    · rename_i e
      subst e
      obtain ⟨b, hb⟩ := Option.isSome_iff_exists.mp h
      rw [hb]; rfl
    · rfl
  · rename_i h
    have hn : getA xs k = none := by simpa using h
    rw [ha, getA_cons, getA_nil]
    split
    · rename_i e
      subst e
      rw [hn]; rfl
    · cases getA xs j <;> rfl
theorem getA_upA (xs : List (κ × β)) (k : κ) (f : Option β → β) (j : κ) : getA (upA xs k f) j = if k = j then some (f (getA xs k)) else getA xs j := getA_putA xs k _ j
theorem keys_putA (xs : List (κ × β)) (k : κ) (v : β) : (putA xs k v).map Prod.fst = if (getA xs k).isSome = true then xs.map Prod.fst else xs.map Prod.fst ++ [k] := by
  unfold putA
  rw [getA_any]
  split
  · rw [List.map_map]
    refine List.map_congr_left fun q _ => ?_
    show (if q.1 = k then (q.1, v) else q).1 = q.1
    split <;> rfl
  · rw [List.map_append]; rfl
theorem getA_none {xs : List (κ × β)} {k : κ} : getA xs k = none ↔ k ∉ xs.map Prod.fst := by
  induction xs with
  | nil => simp [getA_nil]
  | cons q xs ih =>
    rw [getA_cons]
    by_cases h : q.1 = k
    · simp [h]
    · rw [if_neg h, ih]
      simp only [List.map_cons, List.mem_cons, not_or]
      exact ⟨fun z => ⟨fun e => h e.symm, z⟩, fun z => z.2⟩
/-- each key once -/
def Uq (xs : List (κ × β)) : Prop := (xs.map Prod.fst).Nodup
theorem uq_nil : Uq ([] : List (κ × β)) := List.nodup_nil
theorem Uq.put {xs : List (κ × β)} (h : Uq xs) (k : κ) (v : β) : Uq (putA xs k v) := by
  unfold Uq
  rw [keys_putA]
  split
  · exact h
  · rename_i q
    have : getA xs k = none := by simpa using q
    exact List.nodup_append.mpr ⟨h, by simp, fun a ha b hb e => by
      obtain rfl := List.mem_singleton.mp hb
      subst e
      exact (getA_none.mp this) ha⟩
theorem Uq.up {xs : List (κ × β)} (h : Uq xs) (k : κ) (f : Option β → β) : Uq (upA xs k f) := h.put k _
theorem getA_mem {xs : List (κ × β)} (h : Uq xs) {k : κ} {v : β} : getA xs k = some v ↔ (k, v) ∈ xs := by
  induction xs with
  | nil => simp [getA_nil]
  | cons q xs ih =>
    have h' : (q.1 :: xs.map Prod.fst).Nodup := h
    obtain ⟨h1, h2⟩ := List.nodup_cons.mp h'
    rw [getA_cons, List.mem_cons]
    by_cases e : q.1 = k
    · rw [if_pos e]
      constructor
      · intro z; cases z; left; rw [← e]
      · rintro (z | z)
        · rw [← z]
        · exact absurd (List.mem_map.mpr ⟨_, z, rfl⟩) (by rw [← e]; exact h1)
    · rw [if_neg e, ih h2]
      constructor
      · exact .inr
      · rintro (z | z)
        · exact absurd (congrArg Prod.fst z).symm e
        · exact z
theorem Uq.nd {xs : List (κ × β)} (h : Uq xs) : xs.Nodup := (List.pairwise_map.mp h).imp fun h e => h (congrArg Prod.fst e)
/-- the same dict, in another order -/
theorem same_perm {xs ys : List (κ × β)} (hx : Uq xs) (hy : Uq ys) (h : ∀ k, getA xs k = getA ys k) : xs.Perm ys :=
  (List.perm_ext_iff_of_nodup hx.nd hy.nd).mpr fun ⟨k, v⟩ => by rw [← getA_mem hx, ← getA_mem hy, h k]
/-- first laid with a value, then put -/
theorem put_setd (xs : List (κ × β)) (k : κ) (z v : β) : putA (setdA xs k z) k v = putA xs k v := by
  unfold setdA
  split
  · rfl
  · rename_i h
    have hn : getA xs k = none := by simpa using h
    have e : putA xs k z = xs ++ [(k, z)] := by
      unfold putA; rw [getA_any, hn]; rfl
    have e2 : putA xs k v = xs ++ [(k, v)] := by
      unfold putA; rw [getA_any, hn]; rfl
    rw [e, e2]
    unfold putA
    rw [if_pos (by simp), List.map_append]
    congr 1
    · have hk := getA_none.mp hn
      conv => rhs; rw [← List.map_id xs]
      refine List.map_congr_left fun q hq => ?_
      rw [if_neg (fun e => hk (List.mem_map.mpr ⟨q, hq, e⟩))]; rfl
    · simp
theorem get_setd (xs : List (κ × β)) (k : κ) (z : β) : getA (setdA xs k z) k = some ((getA xs k).getD z) := by
  unfold setdA
  split
  · rename_i h
    obtain ⟨b, hb⟩ := Option.isSome_iff_exists.mp h
    rw [hb]; rfl
  · rename_i h
    have hn : getA xs k = none := by simpa using h
    rw [getA_putA, if_pos rfl, hn]; rfl
theorem setd_len (xs : List (κ × β)) (k : κ) (z : β) : (setdA xs k z).length ≤ xs.length + 1 := by
  unfold setdA
  split
  · omega
  · exact putA_len xs k z
end
end Lw

-- use cellv
-- use edges
-- use assoc
namespace Lw
open PySem PySem.Spec PyProof.Rows L2 Dl
/-! ### rolls -/
abbrev K2 := Int × Int
abbrev H4 := Int × Int × Int × Int
abbrev EdT := List (Option Int)
abbrev WhT := List (K2 × Int)
abbrev HpT := List (K2 × H4)
def poured2 (a b : H4) : H4 := (a.1 + b.1, a.2.1 + b.2.1, min a.2.2.1 b.2.2.1, max a.2.2.2 b.2.2.2)
def addO (n : Int) (o : Option Int) : Int := o.getD 0 + n
def pourO (h : H4) (o : Option H4) : H4 := match o with
  | none => h
  | some x => poured2 x h
/-- where a thing of a time goes: young, into a heap, or nowhere -/
def putW (rs : RowsT) (E : EdT) (W : WhT) (t v m : Int) : WhT := match cellV rs E t with
  | none => W
  | some c => if c.2 = 0 then upA W (t, v) (addO m) else W
def putH (rs : RowsT) (E : EdT) (H : HpT) (t v m : Int) : HpT := match cellV rs E t with
  | none => H
  | some c => if c.2 = 0 then H else upA H c (pourO (m, v * m, v, v))
theorem roll_init {rs : RowsT} {g : Option Int} {d : Int} (h : RowsIn rs) (hg : GoneIn rs g) (hd : -(10 ^ 44) ≤ d ∧ d ≤ 10 ^ 44) : F_Roll_init (rs, g) d = .ok ((rs, g), d, edgesV rs g d, [], []) := by
  unfold F_Roll_init
  exact Ret.eq (Ret.eqP (edges_ok h hg hd) (Ret.ok rfl))
theorem heap_one {v m : Int} (hv : Dl.MulOk v m) : F_heap_of [(v, m)] = .ok (some (m, v * m, v, v)) := by
  unfold F_heap_of
  rw [foldE_cons, gd_ok hv]
  rfl
theorem pour_ok {R : (List (Int × Int)) × (Option Int)} {d : Int} {E : EdT} {W : WhT} {H : HpT} {c : K2} {h : H4} (l : H.length ≤ 100000) : F_Roll_pour (R, d, E, W, H) c (some h) = .ok ((), (R, d, E, W, upA H c (pourO h))) := by
  unfold F_Roll_pour
  refine Ret.eq (Ret.letI (Ret.jpE ?_))
  dsimp only
  unfold upA
  cases e : getA H c with
  | none => exact Ret.f rfl (Ret.someE rfl (Ret.gd l (Ret.ok rfl)))
  | some x => exact Ret.t rfl (Ret.someE rfl (Ret.someE rfl (Ret.eqP (a := poured2 x h) rfl (Ret.someE rfl (Ret.gd l (Ret.ok rfl))))))
section
variable {rs : RowsT} {g : Option Int} {d : Int} {E : EdT} {W : WhT} {H : HpT} {t v m : Int}
theorem cell_of_ok (hr : RowsIn rs) (hE : EdgeA rs E) (ht : -(10 ^ 50) ≤ t ∧ t ≤ 10 ^ 50) : F_Roll_cell_of ((rs, g), d, E, W, H) t = .ok (cellV rs E t) := by
  unfold F_Roll_cell_of
  exact Ret.eq (Ret.eqP (cell_eq hr hE ht) (Ret.ok rfl))
theorem put_ok (hr : RowsIn rs) (hE : EdgeA rs E) (ht : -(10 ^ 50) ≤ t ∧ t ≤ 10 ^ 50) (hm : 1 ≤ m) (hv : Dl.MulOk v m) (lW : W.length ≤ 90000) (lH : H.length ≤ 90000) :
    F_Roll_put ((rs, g), d, E, W, H) t v m = .ok ((cellV rs E t).isSome, ((rs, g), d, E, putW rs E W t v m, putH rs E H t v m)) := by
  unfold F_Roll_put
  refine Ret.eq (Ret.iteD (fun q => absurd q (by omega)) fun _ => Ret.eqP (cell_of_ok hr hE ht) ?_)
  unfold putW putH
  cases hc : cellV rs E t with
  | none => exact Ret.t rfl (Ret.ok rfl)
  | some c =>
    refine Ret.f rfl (Ret.someE rfl (Ret.jpE (Ret.iteD (fun q => ?_) fun q => ?_)))
    · refine Ret.gd (by show W.length ≤ _; omega) (Ret.someE (get_setd W (t, v) 0) (Ret.gd ?_ (Ret.ok ?_)))
      · have := setd_len W (t, v) 0
        show (setdA W (t, v) 0).length ≤ _
        omega
      · dsimp only
        rw [put_setd, if_pos q, if_pos q]; rfl
    · refine Ret.eqP (heap_one hv) (Ret.eqP (pour_ok (by omega)) (Ret.ok ?_))
      dsimp only
      rw [if_neg q, if_neg q]; rfl
end
/-- the rows that a roll tells -/
def youngV (W : WhT) : List (Int × Int × Int) := sortL (fun t : Int × Int × Int => [t.1, t.2.1, t.2.2]) (W.map fun u => (u.1.1, u.1.2, u.2))
def heapsV (H : HpT) : List (Int × Int × Int × Int × Int × Int) := sortL (fun t : Int × Int × Int × Int × Int × Int => [t.1, t.2.1, t.2.2.1, t.2.2.2.1, t.2.2.2.2.1, t.2.2.2.2.2]) (H.map fun u => (u.1.1, u.1.2, u.2.1, u.2.2.1, u.2.2.2.1, u.2.2.2.2))
end Lw

-- use assoc
namespace Lw
open PySem PySem.Spec PyProof.Rows L2 Dl
/-! ### things alike put together -/
section
variable {κ β : Type} [DecidableEq κ]
def opO (f : β → β → β) (b : β) (o : Option β) : β := match o with
  | none => b
  | some a => f a b
def joinO' (f : β → β → β) (a b : Option β) : Option β := match a, b with
  | none, b => b
  | some a, none => some a
  | some a, some b => some (f a b)
/-- what comes together at a key -/
def comb (f : β → β → β) (k : κ) (xs : List (κ × β)) : Option β := xs.foldr (fun q o => if q.1 = k then joinO' f (some q.2) o else o) none
/-- an operation that knows no order -/
structure OpC (f : β → β → β) : Prop where
  comm : ∀ a b, f a b = f b a
  assoc : ∀ a b c, f (f a b) c = f a (f b c)
variable {f : β → β → β}
theorem joinO_assoc (h : OpC f) (a b c : Option β) : joinO' f (joinO' f a b) c = joinO' f a (joinO' f b c) := by
  cases a <;> cases b <;> cases c <;> simp [joinO', h.assoc]
theorem joinO_comm (h : OpC f) (a b : Option β) : joinO' f a b = joinO' f b a := by
  cases a <;> cases b <;> simp [joinO', h.comm]
theorem joinO_none (a : Option β) : joinO' f a none = a := by cases a <;> rfl
theorem comb_nil (k : κ) : comb f k ([] : List (κ × β)) = none := rfl
theorem comb_cons (k : κ) (q : κ × β) (xs : List (κ × β)) : comb f k (q :: xs) = if q.1 = k then joinO' f (some q.2) (comb f k xs) else comb f k xs := rfl
theorem comb_app (h : OpC f) (k : κ) (xs ys : List (κ × β)) : comb f k (xs ++ ys) = joinO' f (comb f k xs) (comb f k ys) := by
  induction xs with
  | nil => rfl
  | cons q xs ih =>
    rw [List.cons_append, comb_cons, comb_cons, ih]
    split
    · rw [joinO_assoc h]
    · rfl
theorem comb_one (k : κ) (q : κ × β) : comb f k [q] = if q.1 = k then some q.2 else none := by
  rw [comb_cons, comb_nil, joinO_none]
theorem comb_perm (h : OpC f) (k : κ) {xs ys : List (κ × β)} (p : xs.Perm ys) : comb f k xs = comb f k ys := by
  induction p with
  | nil => rfl
  | cons x _ ih => rw [comb_cons, comb_cons, ih]
  | swap x y l =>
    simp only [comb_cons]
    by_cases a : x.1 = k
    · by_cases b : y.1 = k
      · simp only [if_pos a, if_pos b]
        rw [← joinO_assoc h, ← joinO_assoc h, joinO_comm h (some y.2)]
      · simp only [if_pos a, if_neg b]
    · by_cases b : y.1 = k
      · simp only [if_neg a, if_pos b]
      · simp only [if_neg a, if_neg b]
  | trans _ _ i1 i2 => exact i1.trans i2
theorem comb_none {k : κ} {xs : List (κ × β)} : comb f k xs = none ↔ ∀ q ∈ xs, q.1 ≠ k := by
  induction xs with
  | nil => simp [comb_nil]
  | cons q xs ih =>
    rw [comb_cons]
    by_cases a : q.1 = k
    · rw [if_pos a]
      constructor
      · intro z; cases e : comb f k xs <;> rw [e] at z <;> cases z
      · intro z; exact absurd a (z q (List.mem_cons_self ..))
    · rw [if_neg a, ih]
      simp [a]
/-- a dict that holds what comes together -/
structure Grp (f : β → β → β) (xs A : List (κ × β)) : Prop where
  uq : Uq A
  at_ : ∀ k, getA A k = comb f k xs
theorem Grp.nil : Grp f ([] : List (κ × β)) [] := ⟨uq_nil, fun k => rfl⟩
theorem Grp.up (h : OpC f) {xs A : List (κ × β)} (g : Grp f xs A) (k : κ) (b : β) : Grp f (xs ++ [(k, b)]) (upA A k (opO f b)) := by
  refine ⟨g.uq.up k _, fun j => ?_⟩
  rw [getA_upA, comb_app h, comb_one, g.at_, g.at_]
  dsimp only
  by_cases e : k = j
  · subst e
    rw [if_pos rfl, if_pos rfl]
    cases comb f k xs <;> rfl
  · rw [if_neg e, if_neg e, joinO_none]
theorem Grp.imp (h : OpC f) {xs ys A : List (κ × β)} (g : Grp f xs A) (p : ∀ k, comb f k xs = comb f k ys) : Grp f ys A := ⟨g.uq, fun k => (g.at_ k).trans (p k)⟩
theorem Grp.perm {xs A B : List (κ × β)} (g : Grp f xs A) (g' : Grp f xs B) : A.Perm B := same_perm g.uq g'.uq fun k => (g.at_ k).trans (g'.at_ k).symm
/-- a dict is what comes together of its own pairs -/
theorem comb_self {A : List (κ × β)} (h : Uq A) (k : κ) : comb f k A = getA A k := by
  induction A with
  | nil => rfl
  | cons q xs ih =>
    have h' : (q.1 :: xs.map Prod.fst).Nodup := h
    obtain ⟨h1, h2⟩ := List.nodup_cons.mp h'
    rw [comb_cons, getA_cons, ih h2]
    split
    · rename_i e
      have : getA xs k = none := getA_none.mpr (by rw [← e]; exact h1)
      rw [this, joinO_none]
    · rfl
theorem Grp.self {A : List (κ × β)} (h : Uq A) : Grp f A A := ⟨h, fun k => (comb_self h k).symm⟩
/-- the fold -/
def grp (f : β → β → β) (A xs : List (κ × β)) : List (κ × β) := xs.foldl (fun A q => upA A q.1 (opO f q.2)) A
theorem Grp.fold (h : OpC f) {xs A : List (κ × β)} (g : Grp f xs A) (ys : List (κ × β)) : Grp f (xs ++ ys) (grp f A ys) := by
  induction ys generalizing xs A with
  | nil => rw [List.append_nil]; exact g
  | cons q ys ih =>
    have := ih (g.up h q.1 q.2)
    rw [List.append_assoc] at this
    exact this
theorem grp_ok (h : OpC f) (xs : List (κ × β)) : Grp f xs (grp f [] xs) := by
  have := (Grp.nil (f := f) (κ := κ)).fold h xs
  rwa [List.nil_append] at this
variable {κ' β' : Type} [DecidableEq κ'] {f' : β' → β' → β'} {g : κ → Option κ'} {φ : κ → β → β'}
def reK (g : κ → Option κ') (φ : κ → β → β') (xs : List (κ × β)) : List (κ' × β') := xs.filterMap fun q => (g q.1).map fun k => (k, φ q.1 q.2)
end
end Lw

-- use roll0
-- use group
namespace Lw
open PySem PySem.Spec PyProof.Rows L2 Dl
/-! ### what a roll holds: of readings, and of heaps that are poured in -/
inductive Th where
  | rd (t v m : Int) | hp (s : Int) (h : H4)
def Th.t : Th → Int
  | .rd t _ _ => t
  | .hp s _ => s
def Th.m : Th → Int
  | .rd _ _ m => m
  | .hp _ _ => 0
def addI (a b : Int) : Int := a + b
theorem opc_add : OpC addI := ⟨fun a b => Int.add_comm a b, fun a b c => Int.add_assoc a b c⟩
theorem opc_pour : OpC poured2 := by
  refine ⟨fun a b => ?_, fun a b c => ?_⟩
  · unfold poured2
    rw [Int.add_comm a.1, Int.add_comm a.2.1, Int.min_comm a.2.2.1, Int.max_comm a.2.2.2]
  · unfold poured2
    dsimp only
    rw [Int.add_assoc, Int.add_assoc, Int.min_assoc, Int.max_assoc]
theorem addO_op (m : Int) : addO m = opO addI m := by
  funext o
  cases o <;> simp [addO, opO, addI]
theorem pourO_op (h : H4) : pourO h = opO poured2 h := by
  funext o
  cases o <;> rfl
def yF (rs : RowsT) (E : EdT) (k : K2) : Option K2 := match cellV rs E k.1 with
  | none => none
  | some c => if c.2 = 0 then some k else none
def hF' (rs : RowsT) (E : EdT) (k : K2) : Option K2 := match cellV rs E k.1 with
  | none => none
  | some c => if c.2 = 0 then none else some c
def heap1 (k : K2) (m : Int) : H4 := (m, k.2 * m, k.2, k.2)
def wK (rs : RowsT) (E : EdT) : Th → Option (K2 × Int)
  | .rd t v m => (yF rs E (t, v)).map fun k => (k, m)
  | .hp _ _ => none
def hK (rs : RowsT) (E : EdT) : Th → Option (K2 × H4)
  | .rd t v m => (hF' rs E (t, v)).map fun k => (k, heap1 (t, v) m)
  | .hp s h => (cellV rs E s).map fun c => (c, h)
structure Holds (rs : RowsT) (E : EdT) (L : List Th) (W : WhT) (H : HpT) : Prop where
  w : Grp addI (L.filterMap (wK rs E)) W
  h : Grp poured2 (L.filterMap (hK rs E)) H
section
variable {rs : RowsT} {E F : EdT} {L L' : List Th} {W W' : WhT} {H H' : HpT} {t v m : Int}
theorem Holds.nil : Holds rs E [] [] [] := ⟨Grp.nil, Grp.nil⟩
theorem Holds.put (x : Holds rs E L W H) (t v m : Int) : Holds rs E (L ++ [.rd t v m]) (putW rs E W t v m) (putH rs E H t v m) := by
  unfold putW putH
  have e1 : wK rs E (.rd t v m) = (yF rs E (t, v)).map fun k => (k, m) := rfl
  have e2 : hK rs E (.rd t v m) = (hF' rs E (t, v)).map fun k => (k, heap1 (t, v) m) := rfl
  unfold yF at e1
  unfold hF' at e2
  refine ⟨?_, ?_⟩
  · rw [List.filterMap_append, List.filterMap_cons, List.filterMap_nil, e1]
    cases hc : cellV rs E t with
    | none => simpa using x.w
    | some c =>
      dsimp only
      by_cases q : c.2 = 0
      · rw [if_pos q, if_pos q, addO_op]
        exact x.w.up opc_add _ _
      · rw [if_neg q, if_neg q]
        simpa using x.w
  · rw [List.filterMap_append, List.filterMap_cons, List.filterMap_nil, e2]
    cases hc : cellV rs E t with
    | none => simpa using x.h
    | some c =>
      dsimp only
      by_cases q : c.2 = 0
      · rw [if_pos q, if_pos q]
        simpa using x.h
      · rw [if_neg q, if_neg q, pourO_op]
        exact x.h.up opc_pour _ _
theorem Holds.pour (x : Holds rs E L W H) {s : Int} {c : K2} (hc : cellV rs E s = some c) (h : H4) : Holds rs E (L ++ [.hp s h]) W (upA H c (pourO h)) := by
  refine ⟨?_, ?_⟩
  · rw [List.filterMap_append, List.filterMap_cons, List.filterMap_nil]
    simpa [wK] using x.w
  · rw [List.filterMap_append, List.filterMap_cons, List.filterMap_nil, show hK rs E (.hp s h) = some (c, h) by simp [hK, hc], pourO_op]
    exact x.h.up opc_pour _ _
theorem Holds.drop (x : Holds rs E L W H) {s : Int} (hc : cellV rs E s = none) (h : H4) : Holds rs E (L ++ [.hp s h]) W H := by
  refine ⟨?_, ?_⟩
  · rw [List.filterMap_append, List.filterMap_cons, List.filterMap_nil]
    simpa [wK] using x.w
  · rw [List.filterMap_append, List.filterMap_cons, List.filterMap_nil, show hK rs E (.hp s h) = none by simp [hK, hc]]
    simpa using x.h
/-- the same by what comes together -/
def Alike (rs : RowsT) (E : EdT) (L L' : List Th) : Prop := (∀ k, comb addI k (L.filterMap (wK rs E)) = comb addI k (L'.filterMap (wK rs E))) ∧ ∀ k, comb poured2 k (L.filterMap (hK rs E)) = comb poured2 k (L'.filterMap (hK rs E))
theorem Alike.refl : Alike rs E L L := ⟨fun _ => rfl, fun _ => rfl⟩
theorem Alike.symm (a : Alike rs E L L') : Alike rs E L' L := ⟨fun k => (a.1 k).symm, fun k => (a.2 k).symm⟩
theorem Alike.trans {L'' : List Th} (a : Alike rs E L L') (b : Alike rs E L' L'') : Alike rs E L L'' := ⟨fun k => (a.1 k).trans (b.1 k), fun k => (a.2 k).trans (b.2 k)⟩
theorem Alike.perm (p : L.Perm L') : Alike rs E L L' := ⟨fun k => comb_perm opc_add k (p.filterMap _), fun k => comb_perm opc_pour k (p.filterMap _)⟩
theorem Alike.app {K K' : List Th} (a : Alike rs E L L') (b : Alike rs E K K') : Alike rs E (L ++ K) (L' ++ K') := by
  refine ⟨fun k => ?_, fun k => ?_⟩
  · rw [List.filterMap_append, List.filterMap_append, comb_app opc_add, comb_app opc_add, a.1, b.1]
  · rw [List.filterMap_append, List.filterMap_append, comb_app opc_pour, comb_app opc_pour, a.2, b.2]
theorem Holds.imp (x : Holds rs E L W H) (a : Alike rs E L L') : Holds rs E L' W H := ⟨x.w.imp opc_add a.1, x.h.imp opc_pour a.2⟩
theorem Holds.same (x : Holds rs E L W H) (y : Holds rs E L W' H') : W.Perm W' ∧ H.Perm H' := ⟨x.w.perm y.w, x.h.perm y.h⟩
def rdR (r : Int × Int × Int) : Th := .rd r.1 r.2.1 r.2.2
def hpR (r : Int × Int × Int × Int × Int × Int) : Th := .hp r.1 (r.2.2.1, r.2.2.2.1, r.2.2.2.2.1, r.2.2.2.2.2)
/-- what a roll tells, as things -/
def ths (W : WhT) (H : HpT) : List Th := (youngV W).map rdR ++ (heapsV H).map hpR
end
end Lw

-- use rollg
namespace Lw
open PySem PySem.Spec PyProof.Rows L2 Dl
/-! ### how great the numbers are -/
structure LB (L : List Th) : Prop where
  n : L.length ≤ 1000
  t : ∀ y ∈ L, -(10 ^ 48) ≤ y.t ∧ y.t ≤ 10 ^ 48
  v : ∀ t v m, Th.rd t v m ∈ L → (-(10 ^ 51) ≤ v ∧ v ≤ 10 ^ 51) ∧ 1 ≤ m
  s : sm Th.m L ≤ 10 ^ 44
structure WOk (W : WhT) : Prop where
  n : W.length ≤ 1000
  b : ∀ q ∈ W, (-(10 ^ 48) ≤ q.1.1 ∧ q.1.1 ≤ 10 ^ 48) ∧ (-(10 ^ 51) ≤ q.1.2 ∧ q.1.2 ≤ 10 ^ 51) ∧ 1 ≤ q.2 ∧ q.2 ≤ 10 ^ 44
structure HOkB (H : HpT) : Prop where
  n : H.length ≤ 1000
  b : ∀ q ∈ H, -(10 ^ 49) ≤ q.1.1 ∧ q.1.1 ≤ 10 ^ 49
section
variable {κ β : Type} [DecidableEq κ] {f : β → β → β}
theorem upA_len (A : List (κ × β)) (k : κ) (g : Option β → β) : (upA A k g).length ≤ A.length + 1 := putA_len _ _ _
theorem grp_len : ∀ (xs A : List (κ × β)), (grp f A xs).length ≤ A.length + xs.length
  | [], A => by simp [grp]
  | q :: xs, A => by
    have a := grp_len xs (upA A q.1 (opO f q.2))
    have b := upA_len A q.1 (opO f q.2)
    rw [List.length_cons]
    show (grp f (upA A q.1 (opO f q.2)) xs).length ≤ _
    omega
theorem Grp.len (h : OpC f) {xs A : List (κ × β)} (g : Grp f xs A) : A.length ≤ xs.length := by
  have a := (g.perm (grp_ok h xs)).length_eq
  have b := grp_len (f := f) xs []
  simp only [List.length_nil] at b
  omega
theorem Grp.from_ {xs A : List (κ × β)} (g : Grp f xs A) {q : κ × β} (hq : q ∈ A) : ∃ y ∈ xs, y.1 = q.1 := by
  have e := (getA_mem g.uq).mpr (show (q.1, q.2) ∈ A from hq)
  rw [g.at_] at e
  by_cases z : ∃ y ∈ xs, y.1 = q.1
  · exact z
  · have : comb f q.1 xs = none := comb_none.mpr fun y hy ey => z ⟨y, hy, ey⟩
    rw [this] at e; cases e
end
section
variable {rs : RowsT} {E F : EdT} {L : List Th} {W : WhT} {H : HpT}
theorem LB.m0 (b : LB L) : ∀ y ∈ L, 0 ≤ y.m := fun y hy => by
  cases y with
  | rd t v m => have := (b.v t v m hy).2; show 0 ≤ m; omega
  | hp s h => exact Int.le_refl _
theorem hK_of {y : Th} {q : K2 × H4} (e : hK rs E y = some q) : cellV rs E y.t = some q.1 := by
  cases y with
  | hp s hh =>
    have e' : (cellV rs E s).map (fun c => (c, hh)) = some q := e
    cases z : cellV rs E s with
    | none => rw [z] at e'; cases e'
    | some c => rw [z] at e'; cases e'; exact z
  | rd t v m =>
    have e' : (hF' rs E (t, v)).map (fun k => (k, heap1 (t, v) m)) = some q := e
    unfold hF' at e'
    dsimp only at e'
    cases z : cellV rs E t with
    | none => rw [z] at e'; cases e'
    | some c =>
      rw [z] at e'
      dsimp only at e'
      split at e'
      · cases e'
      · cases e'; exact z
theorem Holds.hok (x : Holds rs E L W H) (hr : RowsIn rs) (hE : EdgeA rs E) (b : LB L) : HOkB H := by
  have l1 := x.h.len opc_pour
  have l2 := List.length_filterMap_le (hK rs E) L
  have n := b.n
  refine ⟨by omega, fun q hq => ?_⟩
  obtain ⟨y, hy, ey⟩ := x.h.from_ hq
  obtain ⟨th, hth, eth⟩ := List.mem_filterMap.mp hy
  have c := hK_of eth
  have bt := b.t _ hth
  rw [← ey]
  rcases cell_pos hr hE (s := y.1.1) (w := y.1.2) c with ⟨_, e⟩ | ⟨_, p2, p3, _, p5⟩
  · omega
  · omega
end
/-! ### lifted, poured in -/
theorem gr_if (a b : Option Int) : gr a b = match a, b with
    | none, b => b
    | some a, none => some a
    | some a, some b => if a < b then some b else some a := by
  cases a with
  | none => cases b <;> rfl
  | some a =>
    cases b with
    | none => rfl
    | some b =>
      rw [gr_some]
      dsimp only
      split
      · congr 1; omega
      · congr 1; omega
theorem fgreater_ok {E F : EdT} (hl : E.length = F.length) (h : E.length ≤ 1000) : F_greater E F = .ok (grV E F) := by
  unfold F_greater
  refine Ret.eq (Ret.iteN (fun z => absurd (by rw [hl]) z) fun _ => Ret.fold (fun i z => z = ((E.zip F).take i).map fun q => gr q.1 q.2) rfl ?_ ?_)
  · rintro j z ⟨a, b⟩ hx rfl
    have lj := (List.getElem?_eq_some_iff.mp hx).1
    rw [List.length_zip] at lj
    have lz : (((E.zip F).take j).map fun q : Option Int × Option Int => gr q.1 q.2).length ≤ 100000 := by rw [List.length_map, List.length_take]; omega
    have en : ∀ c, c = gr a b → (((E.zip F).take j).map fun q : Option Int × Option Int => gr q.1 q.2) ++ [c] = ((E.zip F).take (j + 1)).map fun q => gr q.1 q.2 := fun c hc => by
      rw [List.take_add_one, hx, Option.toList_some, List.map_append, hc]; rfl
    dsimp only
    refine (Ret.orE (P := fun c => c = match a, b with
      | none, _ => true
      | some _, none => false
      | some a, some b => decide (a < b)) (fun z => ?_) (fun z => ?_)).bindP fun c hc => Ret.jpE ?_
    · cases a with
      | none => cases z
      | some a =>
        cases b with
        | none => exact (Ret.andE (P := fun c => c = false) (fun z => by cases z) fun _ => rfl).bindP fun c hc => Ret.ok hc
        | some b => exact (Ret.andE (P := fun c => c = decide (a < b)) (fun _ => Ret.someE rfl (Ret.someE rfl (Ret.ok rfl))) fun z => by cases z).bindP fun c hc => Ret.ok hc
    · cases a with
      | none => rfl
      | some a => cases z
    · have g := gr_if a b
      cases a with
      | none =>
        dsimp only at hc g
        exact Ret.t hc (Ret.gd lz (Ret.ok (en _ g.symm)))
      | some a =>
        cases b with
        | none =>
          dsimp only at hc g
          exact Ret.f hc (Ret.someE rfl (Ret.gd lz (Ret.ok (en _ g.symm))))
        | some b =>
          dsimp only at hc g
          by_cases q : a < b
          · rw [if_pos q] at g
            exact Ret.t (by rw [hc]; exact decide_eq_true q) (Ret.gd lz (Ret.ok (en _ g.symm)))
          · rw [if_neg q] at g
            exact Ret.f (by rw [hc]; exact decide_eq_false q) (Ret.someE rfl (Ret.gd lz (Ret.ok (en _ g.symm))))
  · intro z hz
    rw [List.take_length] at hz
    exact Ret.ok hz
theorem lift_ok {R : (List (Int × Int)) × (Option Int)} {d : Int} {E F : EdT} {W : WhT} {H : HpT} (hl : E.length = F.length) (h : E.length ≤ 1000) : F_Roll_lift (R, d, E, W, H) F = .ok ((), (R, d, grV E F, W, H)) := by
  unfold F_Roll_lift
  exact Ret.eq (Ret.eqX (fgreater_ok hl h) (Ret.ok rfl))
end Lw

-- use roll0
namespace Lw
open PySem PySem.Spec PyProof.Rows L2 Dl
structure RdB (r : Int × Int × Int) : Prop where
  t : -(2 * 10 ^ 47) ≤ r.1 ∧ r.1 ≤ 2 * 10 ^ 47
  v : -(10 ^ 51) ≤ r.2.1 ∧ r.2.1 ≤ 10 ^ 51
  m : 1 ≤ r.2.2 ∧ r.2.2 ≤ 10 ^ 31
end Lw

-- use rollb
-- use rdb
namespace Lw
open PySem PySem.Spec PyProof.Rows L2 Dl
/-- a roll on its way of being filled: i readings at most -/
structure Fl (rs : RowsT) (E : EdT) (i : Nat) (L : List Th) (W : WhT) (H : HpT) : Prop where
  x : Holds rs E L W H
  n : L.length ≤ i
  t : ∀ y ∈ L, -(10 ^ 48) ≤ y.t ∧ y.t ≤ 10 ^ 48
  v : ∀ t v m, Th.rd t v m ∈ L → (-(10 ^ 51) ≤ v ∧ v ≤ 10 ^ 51) ∧ 1 ≤ m
  s : sm Th.m L ≤ i * 10 ^ 31
  r : ∀ y ∈ L, ∃ t v m, y = Th.rd t v m
section
variable {rs : RowsT} {g : Option Int} {d : Int} {E : EdT} {i : Nat} {L : List Th} {W : WhT} {H : HpT}
theorem Fl.nil (x : Holds rs E [] W H) : Fl rs E i [] W H := ⟨x, by simp, by simp, by simp, by
  rw [sm_nil]
  have : (0 : Int) ≤ (i : Int) * 10 ^ 31 := Int.mul_nonneg (by omega) (by decide)
  exact this, by simp⟩
theorem Fl.up (y : Fl rs E i L W H) : Fl rs E (i + 1) L W H := ⟨y.x, by have := y.n; omega, y.t, y.v, by have := y.s; push_cast; omega, y.r⟩
theorem Fl.lb (y : Fl rs E i L W H) (h : i ≤ 1000) : LB L := ⟨by have := y.n; omega, y.t, y.v, by
  have a := y.s
  have b := Int.mul_le_mul_of_nonneg_right (show (i : Int) ≤ 1000 by omega) (show (0 : Int) ≤ 10 ^ 31 by decide)
  omega⟩
theorem Fl.lens (y : Fl rs E i L W H) : W.length ≤ i ∧ H.length ≤ i := by
  have lw := y.x.w.len opc_add
  have lh := y.x.h.len opc_pour
  have lw2 := List.length_filterMap_le (wK rs E) L
  have lh2 := List.length_filterMap_le (hK rs E) L
  have := y.n
  omega
theorem Fl.put (hr : RowsIn rs) (hE : EdgeA rs E) (y : Fl rs E i L W H) (h : i ≤ 1000) {r : Int × Int × Int} (b : RdB r) :
    F_Roll_put ((rs, g), d, E, W, H) r.1 r.2.1 r.2.2 = .ok ((cellV rs E r.1).isSome, ((rs, g), d, E, putW rs E W r.1 r.2.1 r.2.2, putH rs E H r.1 r.2.1 r.2.2)) := by
  have bt := b.t
  have bv := b.v
  have bm := b.m
  have := y.lens
  exact put_ok hr hE (by omega) b.m.1 (mok_b (big_of (by omega) (by omega)) (big_of (by omega) (by omega))) (by omega) (by omega)
end
end Lw

-- use rollb
namespace Lw
open PySem PySem.Spec PyProof.Rows L2 Dl
/-! ### rolls aged -/
end Lw

-- use aged
namespace Lw
open PySem PySem.Spec PyProof.Rows L2 Dl
/-! ### rolls under other rules -/
section
variable {rs rs' : RowsT} {E F : EdT} {L : List Th} {W : WhT} {H : HpT} {t : Int}
end
end Lw

-- use under
namespace Lw
open PySem PySem.Spec PyProof.Rows L2 Dl
/-! ### rolls poured together -/
end Lw

-- use fl0
-- use both
-- use words
namespace Lw
open PySem PySem.Spec PyProof.Rows L2 Dl
/-! ### books: names with their marks and the readings that were put -/
abbrev NT := List (Str × (List Str × List Th))
noncomputable def tellY (rs : RowsT) (E : EdT) (L : List Th) : List (Int × Int × Int) := youngV (grp addI [] (L.filterMap (wK rs E)))
noncomputable def tellH (rs : RowsT) (E : EdT) (L : List Th) : List (Int × Int × Int × Int × Int × Int) := heapsV (grp poured2 [] (L.filterMap (hK rs E)))
section
variable {rs : RowsT} {E : EdT} {L L' : List Th} {W : WhT} {H : HpT}
end
def RollH (rs : RowsT) (g : Option Int) (d : Int) (E : EdT) (c : Nat) (L : List Th) (r : TRoll) : Prop := ∃ W H, r = ((rs, g), d, E, W, H) ∧ Fl rs E c L W H
theorem RollH.up {rs : RowsT} {g : Option Int} {d : Int} {E : EdT} {c : Nat} {L : List Th} {r : TRoll} (h : RollH rs g d E c L r) : RollH rs g d E (c + 1) L r := by
  obtain ⟨W, H, e, y⟩ := h
  exact ⟨W, H, e, y.up⟩
theorem grV_self (E : EdT) : grV E E = E := by
  unfold grV
  induction E with
  | nil => rfl
  | cons a E ih =>
    simp only [List.zip_cons_cons, List.map_cons, ih]
    congr 1
    cases a with
    | none => rfl
    | some v => rw [gr_some, Int.max_self]
theorem sortS_eq {xs ys : List Str} (p : xs.Perm ys) : sortS xs = sortS ys := ascS_one ((sortS_perm xs).trans (p.trans (sortS_perm ys).symm)) (sortS_asc xs) (sortS_asc ys)
theorem sortS_sortS (xs : List Str) : sortS (sortS xs) = sortS xs := sortS_eq (sortS_perm xs)
theorem sortS_len (xs : List Str) : (sortS xs).length = xs.length := (sortS_perm xs).length_eq
structure BkH (rs : RowsT) (g : Option Int) (d : Int) (E : EdT) (c : Nat) (N : NT) (R : List (Str × TRoll)) (S : List (Str × List Str)) : Prop where
  hr : RowsIn rs
  hg : GoneIn rs g
  hd : -(10 ^ 44) ≤ d ∧ d ≤ 10 ^ 44
  hE : EdgeA rs E
  ge : grV (edgesV rs g d) E = E
  cb : c ≤ 900
  l : N.length ≤ 60
  u : Uq N
  kR : R.map Prod.fst = N.map Prod.fst
  kS : S.map Prod.fst = N.map Prod.fst
  r : ∀ n q, getA N n = some q → ∃ r, getA R n = some r ∧ RollH rs g d E c q.2 r
  s : ∀ n q, getA N n = some q → getA S n = some q.1
  m : ∀ n q, getA N n = some q → sortS q.1 = q.1 ∧ q.1.length ≤ 60
section
variable {κ β γ : Type} [DecidableEq κ]
theorem getA_keys {xs : List (κ × β)} {ys : List (κ × γ)} (h : xs.map Prod.fst = ys.map Prod.fst) (k : κ) : (getA xs k).isSome = (getA ys k).isSome := by
  rw [Bool.eq_iff_iff]
  have e1 : ∀ {δ : Type} (zs : List (κ × δ)), (getA zs k).isSome = true ↔ k ∈ zs.map Prod.fst := fun zs => by
    cases e : getA zs k with
    | none => simpa using getA_none.mp e
    | some v =>
      simp only [Option.isSome_some, true_iff]
      exact Classical.byContradiction fun z => by rw [getA_none.mpr z] at e; cases e
  rw [e1, e1, h]
theorem getA_mem_keys {xs : List (κ × β)} {k : κ} : k ∈ xs.map Prod.fst ↔ ∃ v, getA xs k = some v := by
  cases e : getA xs k with
  | none => simpa using getA_none.mp e
  | some v =>
    simp only [Option.some.injEq, exists_eq', iff_true]
    exact Classical.byContradiction fun z => by rw [getA_none.mpr z] at e; cases e
theorem keys_put_both {xs : List (κ × β)} {ys : List (κ × γ)} (h : xs.map Prod.fst = ys.map Prod.fst) (k : κ) (v : β) (w : γ) : (putA xs k v).map Prod.fst = (putA ys k w).map Prod.fst := by
  rw [keys_putA, keys_putA, getA_keys h k, h]
end
section
variable {rs rs' : RowsT} {g g' : Option Int} {d d' : Int} {E E' : EdT} {c : Nat} {N N' : NT} {R R' : List (Str × TRoll)} {S S' : List (Str × List Str)} {n : Str} {q : List Str × List Th} {L : List Th}
theorem BkH.lR (h : BkH rs g d E c N R S) : R.length = N.length := by have := congrArg List.length h.kR; simpa using this
theorem BkH.lS (h : BkH rs g d E c N R S) : S.length = N.length := by have := congrArg List.length h.kS; simpa using this
theorem BkH.noR (h : BkH rs g d E c N R S) (e : getA N n = none) : getA R n = none := by
  have := getA_keys h.kR n
  rw [e] at this
  simpa using this
theorem BkH.up (h : BkH rs g d E c N R S) (hc : c ≤ 899) : BkH rs g d E (c + 1) N R S :=
  ⟨h.hr, h.hg, h.hd, h.hE, h.ge, by omega, h.l, h.u, h.kR, h.kS, fun n q e => by obtain ⟨r, a, b⟩ := h.r n q e; exact ⟨r, a, b.up⟩, h.s, h.m⟩
theorem book_init (hr : RowsIn rs) (hg : GoneIn rs g) (hd : -(10 ^ 44) ≤ d ∧ d ≤ 10 ^ 44) : F_Book_init (rs, g) d = .ok ((rs, g), d, edgesV rs g d, [], []) := by
  unfold F_Book_init
  exact Ret.eq (Ret.eqP (edges_ok hr hg hd) (Ret.ok rfl))
theorem BkH.init (hr : RowsIn rs) (hg : GoneIn rs g) (hd : -(10 ^ 44) ≤ d ∧ d ≤ 10 ^ 44) : BkH rs g d (edgesV rs g d) 0 [] [] [] :=
  ⟨hr, hg, hd, edgesV_A hr hg hd, grV_self _, by omega, by simp, uq_nil, rfl, rfl, fun n q e => (by cases e), fun n q e => (by cases e), fun n q e => (by cases e)⟩
theorem bare_ok (h : BkH rs g d E c N R S) : F_Book_bare ((rs, g), d, E, R, S) = .ok ((rs, g), d, E, [], []) := by
  have l5 := h.hr.l5
  have le1 := (edgesV_A h.hr h.hg h.hd).len
  have le2 := h.hE.len
  unfold F_Book_bare F_roll_of
  dsimp only
  refine Ret.eq (Ret.eqX (Ret.eq (a := ((rs, g), d, E, [], [])) (Ret.eqP (roll_init h.hr h.hg h.hd) (Ret.eqX (lift_ok (by omega) (by omega)) (Ret.ok ?_)))) (Ret.ok rfl))
  rw [h.ge]
theorem adopt_ok {b : (List (Int × Int)) × Option Int} {ms : List Str} {r : TRoll} (hm : ms.length < 64) (lR : R.length ≤ 100000) (lS : S.length ≤ 100000) : F_Book_adopt (b, d, E, R, S) n ms r = .ok ((), (b, d, E, putA R n r, putA S n (sortS ms))) := by
  unfold F_Book_adopt
  exact Ret.eq (Ret.gd hm (Ret.gd (by dsimp only; omega) (Ret.gd (by dsimp only; omega) (Ret.ok rfl))))
theorem BkH.adopt (h : BkH rs g d E c N R S) (e : getA N n = none) (lN : N.length < 60) {ms : List Str} (hm : ms.length ≤ 60) {r : TRoll} (hrl : RollH rs g d E c L r) : BkH rs g d E c (putA N n (sortS ms, L)) (putA R n r) (putA S n (sortS ms)) := by
  refine ⟨h.hr, h.hg, h.hd, h.hE, h.ge, h.cb, ?_, h.u.put _ _, keys_put_both h.kR _ _ _, keys_put_both h.kS _ _ _, fun k q hq => ?_, fun k q hq => ?_, fun k q hq => ?_⟩
  · have := putA_len N n (sortS ms, L); omega
  · rw [getA_putA] at hq ⊢
    split at hq
    · rename_i z; cases hq; rw [if_pos z]; exact ⟨r, rfl, hrl⟩
    · rename_i z; rw [if_neg z]; exact h.r k q hq
  · rw [getA_putA] at hq ⊢
    split at hq
    · rename_i z; cases hq; rw [if_pos z]
    · rename_i z; rw [if_neg z]; exact h.s k q hq
  · rw [getA_putA] at hq
    split at hq
    · cases hq; exact ⟨sortS_sortS _, by rw [sortS_len]; exact hm⟩
    · exact h.m k q hq
theorem BkH.adoptF (h : BkH rs g d E c N R S) (lN : N.length < 60) {ms : List Str} (hm : ms.length ≤ 60) {r : TRoll} : F_Book_adopt ((rs, g), d, E, R, S) n ms r = .ok ((), ((rs, g), d, E, putA R n r, putA S n (sortS ms))) :=
  adopt_ok (by omega) (by rw [h.lR]; omega) (by rw [h.lS]; omega)
theorem sought_ok (h : BkH rs g d E c N R S) (e : getA N n = some q) : ∃ r, getA R n = some r ∧ RollH rs g d E c q.2 r ∧ F_Book_sought ((rs, g), d, E, R, S) n = .ok r := by
  obtain ⟨r, a, b⟩ := h.r n q e
  refine ⟨r, a, b, ?_⟩
  unfold F_Book_sought
  refine Ret.eq (Ret.letI ?_)
  dsimp only
  rw [a]
  exact Ret.f rfl (Ret.someE rfl (Ret.ok rfl))
theorem names_ok (h : BkH rs g d E c N R S) : F_Book_names ((rs, g), d, E, R, S) = .ok (sortS (N.map Prod.fst)) := by
  unfold F_Book_names
  have := h.lR
  have := h.l
  refine Ret.eq (Ret.gd (by dsimp only; omega) (Ret.ok ?_))
  dsimp only
  rw [h.kR]
theorem marks_ok (h : BkH rs g d E c N R S) (e : getA N n = some q) : F_Book_marks ((rs, g), d, E, R, S) n = .ok q.1 := by
  obtain ⟨r, a, _, f⟩ := sought_ok h e
  unfold F_Book_marks
  exact Ret.eq (Ret.eqX f (Ret.someE (h.s n q e) (Ret.ok rfl)))
/-- what a book tells -/
noncomputable def toldV (rs : RowsT) (E : EdT) (N : NT) : List (Str × List Str × List (Int × Int × Int) × List (Int × Int × Int × Int × Int × Int)) :=
  (sortS (N.map Prod.fst)).map fun n => (n, ((getA N n).getD ([], [])).1, tellY rs E ((getA N n).getD ([], [])).2, tellH rs E ((getA N n).getD ([], [])).2)
/-- the same names and marks, readings that come to the same -/
def NAl (rs : RowsT) (E : EdT) (N N' : NT) : Prop := ∀ n, (getA N n = none ∧ getA N' n = none) ∨ ∃ m L L', getA N n = some (m, L) ∧ getA N' n = some (m, L') ∧ Alike rs E L L'
theorem NAl.of (h : ∀ n, getA N n = getA N' n) : NAl rs E N N' := fun n => by
  cases e : getA N n with
  | none => exact .inl ⟨rfl, (h n).symm.trans e⟩
  | some q => exact .inr ⟨q.1, q.2, q.2, rfl, (h n).symm.trans e, Alike.refl⟩
theorem NAl.symm (h : NAl rs E N N') : NAl rs E N' N := fun n => by
  rcases h n with ⟨a, b⟩ | ⟨m, L, L', a, b, k⟩
  · exact .inl ⟨b, a⟩
  · exact .inr ⟨m, L', L, b, a, k.symm⟩
theorem NAl.trans {N'' : NT} (h : NAl rs E N N') (h' : NAl rs E N' N'') : NAl rs E N N'' := fun n => by
  rcases h n with ⟨a, b⟩ | ⟨m, L, L', a, b, k⟩
  · rcases h' n with ⟨a', b'⟩ | ⟨m', L1, L2, a', b', k'⟩
    · exact .inl ⟨a, b'⟩
    · rw [b] at a'; cases a'
  · rcases h' n with ⟨a', b'⟩ | ⟨m', L1, L2, a', b', k'⟩
    · rw [b] at a'; cases a'
    · rw [b] at a'; cases a'
      exact .inr ⟨m, L, L2, a, b', k.trans k'⟩
theorem NAl.names (h : NAl rs E N N') (u : Uq N) (u' : Uq N') : sortS (N.map Prod.fst) = sortS (N'.map Prod.fst) := by
  refine sortS_eq ((List.perm_ext_iff_of_nodup u u').mpr fun n => ?_)
  rw [getA_mem_keys, getA_mem_keys]
  rcases h n with ⟨a, b⟩ | ⟨m, L, L', a, b, k⟩
  · simp [a, b]
  · simp [a, b]
/-! ### deeds -/
end
theorem marks_looked {ms : List Str} (hw : ∀ x ∈ ms, WordIs 8 x) (nd : ms.Nodup) (hl : ms.length ≤ 8) : F_marks_looked_at (some ms) = .ok (sortS ms) := by
  unfold F_marks_looked_at
  refine Ret.eq (Ret.someE rfl (Ret.iteD (fun z => absurd z (by omega)) fun _ => Ret.fold (fun _ _ => True) trivial (fun j z x hx _ => ?_) fun _ _ => Ret.gd (by omega) (Ret.ok rfl)))
  have mx := List.mem_of_getElem? hx
  have w := hw x mx
  have ct : ms.count x = 1 := by
    have h1 : ms.count x ≤ 1 := by first | exact List.nodup_iff_count.mp nd x | exact List.nodup_iff_count_le_one.mp nd x
    have h2 := List.count_pos_iff.mpr mx
    omega
  refine Ret.eqP (is_mark_ok (by have := w.2.1; omega)) (Ret.f ?_ (Ret.ok trivial))
  rw [decide_eq_true w, ct]; rfl
section
variable {rs : RowsT} {g : Option Int} {d : Int} {E : EdT} {c : Nat} {N : NT} {R : List (Str × TRoll)} {S : List (Str × List Str)} {n : Str}
theorem enrol_ok (h : BkH rs g d E c N R S) (e : getA N n = none) (hn : WordIs 12 n) (lN : N.length < 60) {ms : Option (List Str)} (hw : ∀ x ∈ ms.getD [], WordIs 8 x) (nd : (ms.getD []).Nodup) (hl : (ms.getD []).length ≤ 8) :
    ∃ R' S', F_Book_enrol ((rs, g), d, E, R, S) n ms = .ok ((), ((rs, g), d, E, R', S')) ∧ BkH rs g d E c (putA N n (sortS (ms.getD []), [])) R' S' := by
  have key := h.adopt (L := []) e lN (ms := sortS (ms.getD [])) (by rw [sortS_len]; omega) (r := ((rs, g), d, E, [], [])) ⟨[], [], rfl, Fl.nil Holds.nil⟩
  rw [sortS_sortS] at key
  refine ⟨_, _, ?_, key⟩
  unfold F_Book_enrol
  refine Ret.eq (Ret.eqP (is_name_ok (by have := hn.2.1; omega)) (Ret.f ?_ (Ret.letI ?_)))
  · dsimp only; rw [h.noR e, decide_eq_true hn]; rfl
  have em : (if ms.isNone = true then some ([] : List Str) else ms) = some (ms.getD []) := by cases ms <;> rfl
  rw [em]
  refine Ret.eqX (marks_looked hw nd hl) (Ret.eqP (bare_ok h) (Ret.eqP (h.adoptF (ms := sortS (ms.getD [])) lN (by rw [sortS_len]; omega)) (Ret.ok ?_)))
  rw [sortS_sortS]
end
end Lw

-- use words
namespace Lw
open PySem PySem.Spec PyProof.Rows L2 Dl
theorem word_strOk {n : Nat} {s : Str} (h : WordIs n s) : PyData.strOk s = true := by
  show s.cps.all (fun x => decide (x < 0x110000)) = true
  rw [← Array.all_toList, List.all_eq_true]
  intro c hc
  have := h.2.2 c hc
  rw [show small.cps.toList = [97, 98, 99, 100, 101, 102, 103, 104, 105, 106, 107, 108, 109, 110, 111, 112, 113, 114, 115, 116, 117, 118, 119, 120, 121, 122] by decide +kernel] at this
  have k : ∀ c ∈ ([97, 98, 99, 100, 101, 102, 103, 104, 105, 106, 107, 108, 109, 110, 111, 112, 113, 114, 115, 116, 117, 118, 119, 120, 121, 122] : List Nat), decide (c < 0x110000) = true := by decide
  exact k c this
theorem lay_words {n : Nat} {xs : List Str} (h : ∀ x ∈ xs, WordIs n x) : layD (.lst (xs.map D.str)) := by
  unfold layD
  have k : PyData.canLayAll0 (D.pyA (xs.map D.str)) = true := by
    induction xs with
    | nil => simp [D.pyA, PyData.canLayAll0]
    | cons x xs ih =>
      simp only [List.map_cons, D.pyA, PyData.canLayAll0, D.py, PyData.canLay0, Bool.and_eq_true]
      exact ⟨word_strOk (h x (by simp)), ih fun y hy => h y (by simp [hy])⟩
  simp only [D.py, PyData.canLay0]
  exact k
end Lw

-- use bk
-- use lays
namespace Lw
open PySem PySem.Spec PyProof.Rows L2 Dl
/-! ### a book of names and readings -/
abbrev NmT := List (Str × List Str)
abbrev RdT := List (Str × Int × Int × Int)
def rdsOf (n : Str) (rd : RdT) : List Th := (rd.filter fun r => decide (r.1 = n)).map fun r => Th.rd r.2.1 r.2.2.1 r.2.2.2
structure NIs (ys : NmT) (rd : RdT) (N : NT) : Prop where
  e : ∀ n, getA N n = (getA ys n).map fun m => (sortS m, rdsOf n rd)
  l : N.length = ys.length
structure NmOk (ys : NmT) : Prop where
  u : Uq ys
  l : ys.length ≤ 20
  w : ∀ p ∈ ys, WordIs 12 p.1 ∧ (∀ x ∈ p.2, WordIs 8 x) ∧ p.2.Nodup ∧ p.2.length ≤ 8
theorem putA_new {κ β : Type} [DecidableEq κ] {xs : List (κ × β)} {k : κ} {v : β} (h : getA xs k = none) : putA xs k v = xs ++ [(k, v)] := by
  unfold putA
  rw [if_neg (by rw [getA_any, h]; simp)]
section
variable {rs : RowsT} {g : Option Int} {d : Int} {E : EdT} {c : Nat} {N N' : NT} {R R' : List (Str × TRoll)} {S S' : List (Str × List Str)} {ys : NmT} {rd rd' : RdT} {β : Type} {kk : TBook → Ex β} {Q : β → Prop}
theorem NIs.mem (n : NIs ys rd N) {k : Str} {q : List Str × List Th} (e : getA N k = some q) : ∃ m, (k, m) ∈ ys ∧ q = (sortS m, rdsOf k rd) := by
  rw [n.e] at e
  cases e2 : getA ys k with
  | none => rw [e2] at e; cases e
  | some m =>
    rw [e2] at e
    refine ⟨m, ?_, (Option.some.inj e).symm⟩
    unfold getA at e2
    cases q2 : ys.find? (fun q => decide (q.1 = k)) with
    | none => rw [q2] at e2; cases e2
    | some p =>
      rw [q2] at e2
      have h1 := List.mem_of_find?_eq_some q2
      have h2 := List.find?_some q2
      have h3 : p.1 = k := by simpa using h2
      have h4 : p.2 = m := by simpa using e2
      rw [← h3, ← h4]; exact h1
theorem NIs.al {N2 : NT} (n : NIs ys rd N) (n2 : NIs ys rd N2) : NAl rs E N N2 := NAl.of fun k => by rw [n.e, n2.e]
end
end Lw

-- use names
namespace Lw
open PySem PySem.Spec PyProof.Rows L2 Dl
def markV (c k : Int) : Str := spell (bodyV c 23 (mixV c 21 % 8)) (mixV c 22 % (mixV c 21 % 8 + 1)).toNat (lett ((c / 3 + 7 * k) % 26))
theorem mark_word (c k : Int) : WordIs 8 (markV c k) := by
  have b1 := mixV_b c 21
  have := body_len c 23 (n := mixV c 21 % 8) (by omega)
  exact spell_word (body_in _ _ _) (lett_in (by omega) (by omega)) (by omega)
theorem mark_inj {c k l : Int} (hk : 0 ≤ k ∧ k < 26) (hl : 0 ≤ l ∧ l < 26) (h : markV c k = markV c l) : k = l := by
  have e := spell_inj h
  unfold lett at e
  omega
theorem mark_ok (c k : Int) : F_l_mark c k = .ok (markV c k) := by
  have b1 := mixV_b c 21
  unfold F_l_mark
  have lb := body_len c 23 (n := mixV c 21 % 8) (by omega)
  have b2 := mixV_b c 22
  have h0 := Int.emod_nonneg (mixV c 22) (show mixV c 21 % 8 + 1 ≠ 0 by omega)
  have h1 := Int.emod_lt_of_pos (mixV c 22) (show 0 < mixV c 21 % 8 + 1 by omega)
  refine Ret.eq (Ret.letI (Ret.eqP (mixed_eq c 21) (Ret.letI (Ret.gd ⟨by omega, by omega⟩ (Ret.gd (by rw [rngD_length]; omega) (Ret.map (fun j => sg (lett (mixV c (23 + j) % 26))) (fun j _ => ?_) ?_))))))
  · rw [mixed_eq]
    refine Ret.eq (Ret.gd (by rw [show ("abcdefghijklmnopqrstuvwxyz" : Str).length = 26 from small_len]; omega) (Ret.eqP (lett_ok (by omega) (by omega)) (Ret.ok rfl)))
  · have em : ((rngD 0 (mixV c 21 % 8).toNat).map fun j => sg (lett (mixV c (23 + j) % 26))) = (bodyV c 23 (mixV c 21 % 8)).map sg := by
      unfold bodyV; rw [List.map_map]; rfl
    rw [em]
    have ls : ∀ xs : List Nat, (⟨xs.toArray⟩ : Str).length = xs.length := fun xs => by simp [Str.length]
    have lsg : ∀ n, (sg n).length = 1 := fun _ => rfl
    have la : ∀ a b : Str, (a ++ b).length = a.length + b.length := fun a b => by show (a.cps ++ b.cps).size = _; simp [Str.length]
    have ez : ("" : Str).length = 0 := by decide +kernel
    have e26 : ("abcdefghijklmnopqrstuvwxyz" : Str).length = 26 := small_len
    refine Ret.gd (by rw [sum_ones, ez]; omega) (Ret.letI (Ret.eqP (mixed_eq c 22) (Ret.gd (by omega) (Ret.letI ?_))))
    rw [join_sg]
    have c1 := cutS_to (b := bodyV c 23 (mixV c 21 % 8)) h0 (by omega)
    have c2 := cutS_from (b := bodyV c 23 (mixV c 21 % 8)) h0 (by omega)
    refine Ret.gd (by rw [ls]; omega) (Ret.gd (by rw [e26]; omega) (Ret.eqP (lett_ok (by omega) (by omega)) ?_))
    rw [c1, c2]
    refine Ret.gd (by rw [lsg, ls, List.length_take]; omega) (Ret.gd (by rw [ls]; omega) (Ret.gd (by rw [la, lsg, ls, ls, List.length_take, List.length_drop]; omega) (Ret.ok ?_)))
    show (⟨((bodyV c 23 (mixV c 21 % 8)).take _).toArray ++ #[_] ++ ((bodyV c 23 (mixV c 21 % 8)).drop _).toArray⟩ : Str) = spell _ _ _
    unfold spell
    simp
end Lw

-- use words
-- use assoc
-- use names
-- use marks
-- use cell
namespace Lw
open PySem PySem.Spec PyProof.Rows L2 Dl
/-! ### texts cut at spaces -/
theorem cut_free {c : Nat} : ∀ {a b a' b' : List Nat}, c ∉ a → c ∉ b → a ++ c :: a' = b ++ c :: b' → a = b ∧ a' = b'
  | [], [], _, _, _, _, h => ⟨rfl, by simpa using h⟩
  | [], y :: b, _, _, _, hb, h => by
    simp only [List.nil_append, List.cons_append, List.cons.injEq] at h
    exact absurd (by rw [h.1]; simp) hb
  | x :: a, [], _, _, ha, _, h => by
    simp only [List.nil_append, List.cons_append, List.cons.injEq] at h
    exact absurd (by rw [← h.1]; simp) ha
  | x :: a, y :: b, _, _, ha, hb, h => by
    simp only [List.cons_append, List.cons.injEq] at h
    obtain ⟨e1, e2⟩ := cut_free (fun z => ha (List.mem_cons_of_mem _ z)) (fun z => hb (List.mem_cons_of_mem _ z)) h.2
    exact ⟨by rw [h.1, e1], e2⟩
def jl (c : Nat) : List (List Nat) → List Nat
  | [] => []
  | [x] => x
  | x :: y :: r => x ++ c :: jl c (y :: r)
theorem jl_inj {c : Nat} : ∀ {xs ys : List (List Nat)}, xs ≠ [] → ys ≠ [] → (∀ x ∈ xs, c ∉ x) → (∀ y ∈ ys, c ∉ y) → jl c xs = jl c ys → xs = ys
  | [], _, h, _, _, _, _ => absurd rfl h
  | _ :: _, [], _, h, _, _, _ => absurd rfl h
  | [x], [y], _, _, _, _, e => by
    have : x = y := e
    rw [this]
  | [x], y :: y' :: r, _, _, hx, _, e => by
    have e' : x = y ++ c :: jl c (y' :: r) := e
    exact absurd (by rw [e']; simp) (hx x (by simp))
  | x :: x' :: r, [y], _, _, _, hy, e => by
    have e' : x ++ c :: jl c (x' :: r) = y := e
    exact absurd (by rw [← e']; simp) (hy y (by simp))
  | x :: x' :: r, y :: y' :: s, _, _, hx, hy, e => by
    obtain ⟨e1, e2⟩ := cut_free (hx x (by simp)) (hy y (by simp)) (show x ++ c :: jl c (x' :: r) = y ++ c :: jl c (y' :: s) from e)
    have := jl_inj (xs := x' :: r) (ys := y' :: s) (by simp) (by simp) (fun z hz => hx z (List.mem_cons_of_mem _ hz)) (fun z hz => hy z (List.mem_cons_of_mem _ hz)) e2
    rw [e1, this]
theorem join_jl (c : Nat) : ∀ xs : List Str, (Str.join ⟨#[c]⟩ xs).cps.toList = jl c (xs.map fun x => x.cps.toList)
  | [] => rfl
  | [x] => rfl
  | x :: y :: r => by
    have ih := join_jl c (y :: r)
    show ((x.cps ++ #[c]) ++ (Str.join ⟨#[c]⟩ (y :: r)).cps).toList = _
    rw [Array.toList_append, Array.toList_append, ih]
    show x.cps.toList ++ [c] ++ jl c _ = x.cps.toList ++ c :: jl c _
    simp
theorem sp_eq : (" " : Str) = ⟨#[32]⟩ := by decide +kernel
theorem txt_join (s : Str) (ws : List Str) : Txt.join s ws = Str.join s ws := by
  show Builtin.Str.glued _ _ = _
  rw [StrLaws.glued_eq_join]
theorem split_join {ws : List Str} (h : ws ≠ []) (hf : ∀ w ∈ ws, 32 ∉ w.cps.toList) : Txt.split (Txt.join (" " : Str) ws) (" " : Str) = ws := by
  rw [sp_eq, txt_join]
  have e3 := congrArg (fun s : Str => s.cps.toList) (StrLaws.join_split (Str.join ⟨#[32]⟩ ws) ⟨#[32]⟩)
  have e3' : (Str.join ⟨#[32]⟩ (Txt.split (Str.join ⟨#[32]⟩ ws) ⟨#[32]⟩)).cps.toList = (Str.join ⟨#[32]⟩ ws).cps.toList := e3
  rw [join_jl, join_jl] at e3'
  have ne : Txt.split (Str.join ⟨#[32]⟩ ws) ⟨#[32]⟩ ≠ [] := fun z => by
    have := split_pos (Str.join ⟨#[32]⟩ ws) ⟨#[32]⟩
    rw [z] at this; simp at this
  have e4 := jl_inj (by simpa using ne) (by simpa using h) (fun x hx => by
    obtain ⟨w, hw, rfl⟩ := List.mem_map.mp hx
    exact StrLaws.split_free _ _ w hw) (fun x hx => by
    obtain ⟨w, hw, rfl⟩ := List.mem_map.mp hx
    exact hf w hw) e3'
  exact (List.map_inj_right fun x y h => by cases x; cases y; exact congrArg Str.mk (Array.toList_inj.mp h)).mp e4
theorem part_len {s w : Str} (h : w ∈ Txt.split s (" " : Str)) : w.length ≤ s.length := part_short h
theorem parts_len (s : Str) : (Txt.split s (" " : Str)).length ≤ s.length + 2 := split_le _ _
/-! ### a word's mark -/
theorem dash_eq : ("-" : Str) = ⟨#[45]⟩ := by decide +kernel
theorem starts_iff (w : Str) : Txt.startswith w ("-" : Str) = decide (w.cps.toList[0]? = some 45) := by
  rw [dash_eq]
  unfold Txt.startswith
  rw [Bool.eq_iff_iff, Bool.and_eq_true, decide_eq_true_eq, decide_eq_true_eq]
  exact StrLaws.subAt_one w 45 0
def mkOf (w : Str) : Str := if Txt.startswith w ("-" : Str) = true then cutS w (some 1) none else w
def wayOf (w : Str) : Bool := decide (mkOf w = w)
theorem cutS1_len (w : Str) : (cutS w (some 1) none).length ≤ w.length := by
  obtain ⟨b, rfl⟩ : ∃ b : List Nat, w = ⟨b.toArray⟩ := ⟨w.cps.toList, by cases w; rfl⟩
  cases b with
  | nil => decide +kernel
  | cons x t =>
    rw [cutS_from (i := 1) (by decide) (by simp only [List.length_cons]; omega)]
    show (((x :: t).drop 1).toArray).size ≤ (x :: t).toArray.size
    simp
theorem mkOf_len (w : Str) : (mkOf w).length ≤ w.length := by
  unfold mkOf
  split
  · exact cutS1_len w
  · exact Nat.le_refl _
def okWs (ws : List Str) : Prop := ∀ w ∈ ws, WordIs 8 (mkOf w)
instance (ws : List Str) : Decidable (okWs ws) := by unfold okWs; exact inferInstance
theorem okWs_nil : okWs [] := fun w h => by cases h
theorem okWs_cons {w : Str} {ws : List Str} (h : WordIs 8 (mkOf w)) (h2 : okWs ws) : okWs (w :: ws) := fun x hx => (List.mem_cons.mp hx).elim (fun z => by rw [z]; exact h) (h2 x)
def mwOf (ws : List Str) : List (Str × Bool) := ws.map fun w => (mkOf w, wayOf w)
/-! ### parted -/
noncomputable def partF (found : List (Str × Bool)) (x : Str) : Ex (Ct (List (Str × Bool)) (Option (List (Str × Bool)))) := gd (x.length ≤ 100000) (jpE (fun (mark : Str) => Dl.bindP (orE (decide (mark = ("" : Str))) (gd (mark.length ≤ 100000) (.ok (decide (8 < (mark.length : Int)))))) fun b => if b = true then .ok (.rt none) else Dl.bindX (loopE (ρ := Option (List (Str × Bool))) (fun (_ : Unit) (u : Str) => gd (oneS u) (if (!inSg u ("abcdefghijklmnopqrstuvwxyz" : Str)) = true then .ok (.rt none) else .ok (.nx ()))) () (sgs mark)) fun c => ctE c (fun (_ : Unit) => gd (found.length ≤ 100000) (.ok (.nx (found ++ [(mark, decide (mark = x))])))) (fun r => .ok (.rt r))) fun jk => if (decide (cutS x none (some 1) = ("-" : Str))) = true then gd (x.length ≤ 100000) (letE (cutS x (some 1) none) fun mark => jk mark) else jk x)
def partV (s : Str) : Option (List (Str × Bool)) := if s = ("" : Str) then some [] else if okWs (Txt.split s (" " : Str)) then some (mwOf (Txt.split s (" " : Str))) else none
/-! ### sieve -/
noncomputable def sieveF (wanted : List (Str × List Bool)) (x : Str) : Ex (List (Str × List Bool)) := jpE (fun (mark : Str) => Dl.bindP (F_is_mark mark) fun r => if (!r) = true then .exc "NoMark" [] else gd (wanted.length ≤ 90000) (Dl.bindP (someE (getA (setdA wanted mark []) mark)) fun xs => gd (xs.length ≤ 90000) (.ok (putA (setdA wanted mark []) mark (xs ++ [decide (mark = x)]))))) fun jk => if (Txt.startswith x ("-" : Str)) = true then gd (x.length ≤ 100000) (letE (cutS x (some 1) none) fun mark => jk mark) else jk x
def grpF (w : List (Str × List Bool)) (x : Str) : List (Str × List Bool) := putA w (mkOf x) ((getA w (mkOf x)).getD [] ++ [wayOf x])
structure GrH (n : Nat) (w : List (Str × List Bool)) : Prop where
  u : Uq w
  l : w.length ≤ n
  e : ∀ p ∈ w, p.2.length ≤ n
theorem GrH.get {n : Nat} {w : List (Str × List Bool)} (h : GrH n w) (k : Str) : ((getA w k).getD []).length ≤ n := by
  cases e : getA w k with
  | none => simp
  | some v => exact h.e _ ((getA_mem h.u).mp e)
theorem GrH.put {n : Nat} {w : List (Str × List Bool)} (h : GrH n w) (x : Str) : GrH (n + 1) (grpF w x) := by
  refine ⟨h.u.put _ _, ?_, fun p hp => ?_⟩
  · have := putA_len w (mkOf x) ((getA w (mkOf x)).getD [] ++ [wayOf x])
    have := h.l
    unfold grpF
    omega
  · have hp' := (getA_mem (h.u.put _ _)).mpr (show (p.1, p.2) ∈ grpF w x from hp)
    unfold grpF at hp'
    rw [getA_putA] at hp'
    split at hp'
    · rw [← Option.some.inj hp']
      have := h.get (mkOf x)
      rw [List.length_append]
      simp only [List.length_cons, List.length_nil]
      omega
    · have : p.2.length ≤ n := h.e _ ((getA_mem h.u).mp hp')
      omega
theorem sieveF_ok {n : Nat} {w : List (Str × List Bool)} {x : Str} (h : GrH n w) (hn : n ≤ 90000) (hx : x.length ≤ 100000) : sieveF w x = if WordIs 8 (mkOf x) then .ok (grpF w x) else .exc "NoMark" [] := by
  have key : ∀ m : Str, m = mkOf x → (Dl.bindP (F_is_mark m) fun r => if (!r) = true then (.exc "NoMark" [] : Ex (List (Str × List Bool))) else gd (w.length ≤ 90000) (Dl.bindP (someE (getA (setdA w m []) m)) fun xs => gd (xs.length ≤ 90000) (.ok (putA (setdA w m []) m (xs ++ [decide (m = x)]))))) = if WordIs 8 (mkOf x) then .ok (grpF w x) else .exc "NoMark" [] := fun m e => by
    have lm := mkOf_len x
    rw [← e] at lm
    unfold grpF wayOf
    rw [← e, is_mark_ok (by omega)]
    by_cases hw : WordIs 8 m
    · rw [if_pos hw]
      show (if (!decide (WordIs 8 m)) = true then _ else _) = _
      rw [decide_eq_true hw]
      show gd _ _ = _
      have := h.l
      have := h.get m
      rw [gd_ok (by omega), get_setd]
      show gd _ _ = _
      rw [gd_ok (by omega), put_setd]
    · rw [if_neg hw]
      show (if (!decide (WordIs 8 m)) = true then _ else _) = _
      rw [decide_eq_false hw]
      rfl
  unfold sieveF
  show (if _ then _ else _) = _
  by_cases hs : Txt.startswith x ("-" : Str) = true
  · rw [if_pos hs, gd_ok hx]
    exact key _ (by unfold mkOf; rw [if_pos hs])
  · rw [if_neg hs]
    exact key _ (by unfold mkOf; rw [if_neg hs])
theorem sieve_loop : ∀ (ws : List Str) (w : List (Str × List Bool)) (n : Nat), GrH n w → n + ws.length ≤ 90000 → (∀ x ∈ ws, x.length ≤ 100000) → foldE sieveF w ws = if okWs ws then .ok (ws.foldl grpF w) else .exc "NoMark" []
  | [], w, n, _, _, _ => by rw [if_pos okWs_nil]; rfl
  | x :: ws, w, n, h, hn, hl => by
    have hn' : n + (ws.length + 1) ≤ 90000 := hn
    rw [foldE_cons, sieveF_ok h (by omega) (hl x (by simp))]
    by_cases hx : WordIs 8 (mkOf x)
    · rw [if_pos hx]
      show foldE sieveF _ ws = _
      rw [sieve_loop ws _ (n + 1) (h.put x) (by omega) fun y hy => hl y (List.mem_cons_of_mem _ hy)]
      by_cases h2 : okWs ws
      · rw [if_pos h2, if_pos (okWs_cons hx h2)]
        rfl
      · rw [if_neg h2, if_neg (fun z => h2 fun y hy => z y (List.mem_cons_of_mem _ hy))]
    · rw [if_neg hx, if_neg (fun z => hx (z x (by simp)))]
      rfl
def sgrp (s : Str) : List (Str × List Bool) := if s = ("" : Str) then [] else (Txt.split s (" " : Str)).foldl grpF []
/-- what a sieve lets -/
def letsV (G : List (Str × List Bool)) (ms : List Str) : Bool := decide (∀ p ∈ G, ∀ b ∈ p.2, decide (p.1 ∈ ms) = b)
def dueV (ws : List (Str × Bool)) (ms : List Str) : Bool := decide (∀ p ∈ ws, decide (p.1 ∈ ms) = p.2)
theorem grp_all (ms : List Str) : ∀ (ws : List Str) (w : List (Str × List Bool)), Uq w → ((∀ p ∈ ws.foldl grpF w, ∀ b ∈ p.2, decide (p.1 ∈ ms) = b) ↔ (∀ p ∈ w, ∀ b ∈ p.2, decide (p.1 ∈ ms) = b) ∧ ∀ p ∈ mwOf ws, decide (p.1 ∈ ms) = p.2)
  | [], w, _ => by simp [mwOf]
  | x :: ws, w, u => by
    have u2 : Uq (grpF w x) := u.put _ _
    show (∀ p ∈ ws.foldl grpF (grpF w x), _) ↔ _ ∧ ∀ p ∈ (mkOf x, wayOf x) :: mwOf ws, _
    rw [grp_all ms ws _ u2, List.forall_mem_cons]
    have one : (∀ p ∈ grpF w x, ∀ b ∈ p.2, decide (p.1 ∈ ms) = b) ↔ (∀ p ∈ w, ∀ b ∈ p.2, decide (p.1 ∈ ms) = b) ∧ decide (mkOf x ∈ ms) = wayOf x := by
      constructor
      · intro h
        have hm := h (mkOf x, (getA w (mkOf x)).getD [] ++ [wayOf x]) ((getA_mem u2).mp (by unfold grpF; rw [getA_putA, if_pos rfl]))
        refine ⟨fun p hp b hb => ?_, hm _ (by simp)⟩
        by_cases e : mkOf x = p.1
        · rw [← e]
          have g : getA w p.1 = some p.2 := (getA_mem u).mpr hp
          refine hm b (List.mem_append_left _ ?_)
          rw [e, g]; exact hb
        · exact h p ((getA_mem u2).mp (by unfold grpF; rw [getA_putA, if_neg e]; exact (getA_mem u).mpr hp)) b hb
      · intro ⟨h1, h2⟩ p hp b hb
        have g := (getA_mem u2).mpr (show (p.1, p.2) ∈ grpF w x from hp)
        unfold grpF at g
        rw [getA_putA] at g
        split at g
        · rename_i e
          have g' := Option.some.inj g
          rw [← g'] at hb
          rcases List.mem_append.mp hb with z | z
          · cases y : getA w (mkOf x) with
            | none => rw [y] at z; cases z
            | some v =>
              rw [y] at z
              have := h1 _ ((getA_mem u).mp y) b z
              rw [← e]; exact this
          · obtain rfl : b = wayOf x := by simpa using z
            rw [← e]; exact h2
        · exact h1 p ((getA_mem u).mp g) b hb
    rw [one, and_assoc]
theorem lets_due {s : Str} (ms : List Str) : letsV (sgrp s) ms = dueV (if s = ("" : Str) then [] else mwOf (Txt.split s (" " : Str))) ms := by
  unfold letsV dueV sgrp
  by_cases h : s = ("" : Str)
  · rw [if_pos h, if_pos h]; simp
  · rw [if_neg h, if_neg h]
    refine decide_eq_decide.mpr ?_
    rw [grp_all ms _ _ (by unfold Uq; simp)]
    simp
end Lw

-- use sieves
-- use lays
namespace Lw
open PySem PySem.Spec PyProof.Rows L2 Dl
/-! ### texts of few plain characters -/
def Few (n : Nat) (s : Str) : Prop := s.length ≤ n ∧ ∀ c ∈ s.cps.toList, c < 128
theorem Few.flat {n : Nat} {s : Str} (h : Few n s) : Dl.flatD (.str s) := by
  refine ⟨by simp [D.flat], ?_⟩
  unfold SeqAt.shaped
  have e : PyData.canLay0 (D.py (.str s)) = true := by
    show s.cps.all (fun x => decide (x < 0x110000)) = true
    rw [← Array.all_toList, List.all_eq_true]
    intro c hc
    have := h.2 c hc
    exact decide_eq_true (by omega)
  rw [e, Bool.true_and]
  simp [D.py, PyData.depth]
theorem Few.mono {n m : Nat} {s : Str} (h : Few n s) (l : n ≤ m) : Few m s := ⟨by have := h.1; omega, h.2⟩
theorem app_lenS (a b : Str) : (a ++ b).length = a.length + b.length := by show (a.cps ++ b.cps).size = _; simp [Str.length]
theorem Few.app {n m k : Nat} {s t : Str} (h : Few n s) (g : Few m t) (l : n + m ≤ k) : Few k (s ++ t) := by
  refine ⟨by rw [app_lenS]; have := h.1; have := g.1; omega, fun c hc => ?_⟩
  have hc' : c ∈ (s.cps ++ t.cps).toList := hc
  rw [Array.toList_append] at hc'
  exact (List.mem_append.mp hc').elim (h.2 c) (g.2 c)
theorem Few.cut {n : Nat} {s : Str} (h : Few n s) (a b : Option Int) : Few n (cutS s a b) := by
  unfold cutS
  refine ⟨?_, fun c hc => ?_⟩
  · show ((List.take _ (List.drop _ s.cps.toList)).toArray).size ≤ n
    have := h.1
    unfold Str.length at this
    rw [List.size_toArray, List.length_take, List.length_drop, Array.length_toList]
    omega
  · have hc' : c ∈ List.take (HT.sIx s.length s.length b - HT.sIx s.length 0 a) (List.drop (HT.sIx s.length 0 a) s.cps.toList) := by simpa using hc
    exact h.2 c (List.mem_of_mem_drop (List.mem_of_mem_take hc'))
theorem Few.sg {c : Nat} (h : c < 128) : Few 1 (sg c) := ⟨Nat.le_refl _, fun x hx => by
  obtain rfl : x = c := by simpa [Dl.sg] using hx
  exact h⟩
theorem small_in {c : Nat} (h : c ∈ small.cps.toList) : 97 ≤ c ∧ c ≤ 122 := by
  rw [small_cps] at h
  simp only [List.mem_cons, List.not_mem_nil, or_false] at h
  omega
structure WdOk (w : Str) : Prop where
  f : Few 9 w
  s : 32 ∉ w.cps.toList
  m : WordIs 8 (mkOf w)
theorem wd_plain {m : Str} (h : WordIs 8 m) : WdOk m := by
  refine ⟨⟨by have := h.2.1; omega, fun c hc => by have := small_in (h.2.2 c hc); omega⟩, fun z => by have := small_in (h.2.2 _ z); omega, ?_⟩
  unfold mkOf
  rw [if_neg (fun z => ?_)]
  · exact h
  · rw [starts_iff, decide_eq_true_eq] at z
    have := small_in (h.2.2 _ (List.mem_of_getElem? z))
    omega
theorem dash_app (m : Str) : ("-" : Str) ++ m = ⟨(45 :: m.cps.toList).toArray⟩ := by
  rw [dash_eq]
  refine congrArg Str.mk (Array.toList_inj.mp ?_)
  rw [Array.toList_append]
  rfl
theorem wd_dash {m : Str} (h : WordIs 8 m) : WdOk (("-" : Str) ++ m) := by
  have e := dash_app m
  have k : mkOf (("-" : Str) ++ m) = m := by
    unfold mkOf
    rw [if_pos (by rw [starts_iff, e]; rfl), e, cutS_from (i := 1) (by decide) (by simp only [List.length_cons]; omega)]
    cases m; rfl
  refine ⟨?_, ?_, by rw [k]; exact h⟩
  · refine Few.app (n := 1) (m := 8) ⟨by decide +kernel, by decide +kernel⟩ ⟨h.2.1, fun c hc => by have := small_in (h.2.2 c hc); omega⟩ (by omega)
  · rw [e]
    intro z
    have z' : 32 ∈ 45 :: m.cps.toList := z
    rcases List.mem_cons.mp z' with y | y
    · cases y
    · have := small_in (h.2.2 _ y); omega
theorem nil_app (m : Str) : ("" : Str) ++ m = m := by
  have e0 : ("" : Str) = ⟨#[]⟩ := by decide +kernel
  rw [e0]
  cases m with
  | mk a =>
    show (⟨#[] ++ a⟩ : Str) = _
    simp
theorem few_join {ws : List Str} (l : ws.length ≤ 6) (h : ∀ w ∈ ws, WdOk w) : Few 60 (Txt.join (" " : Str) ws) ∧ (ws.map (·.length)).sum + ws.length * (" " : Str).length ≤ 60 := by
  have e1 : (" " : Str).length = 1 := by decide +kernel
  have b : (ws.map (·.length)).sum ≤ ws.length * 9 := StrLaws.sumLen_le ws fun y hy => (h y hy).f.1
  have s : (ws.map (·.length)).sum + ws.length * (" " : Str).length ≤ 60 := by rw [e1]; omega
  refine ⟨⟨?_, fun c hc => ?_⟩, s⟩
  · rw [txt_join]
    have := StrLaws.join_length_le (" " : Str) ws
    omega
  · rw [txt_join, sp_eq, join_jl] at hc
    have gen : ∀ xs : List (List Nat), (∀ x ∈ xs, ∀ c ∈ x, c < 128) → ∀ c ∈ jl 32 xs, c < 128 := fun xs => by
      induction xs with
      | nil => intro _ c hc; cases hc
      | cons x xs ih =>
        intro hx c hc
        cases xs with
        | nil => exact hx x (by simp) c hc
        | cons y r =>
          have hc' : c ∈ x ++ 32 :: jl 32 (y :: r) := hc
          rcases List.mem_append.mp hc' with z | z
          · exact hx x (by simp) c z
          · rcases List.mem_cons.mp z with z | z
            · omega
            · exact ih (fun w hw => hx w (List.mem_cons_of_mem _ hw)) c z
    refine gen _ (fun x hx => ?_) c hc
    obtain ⟨w, hw, rfl⟩ := List.mem_map.mp hx
    exact (h w hw).f.2
end Lw

-- use fews
namespace Lw
open PySem PySem.Spec PyProof.Rows L2 Dl
theorem gr0 : GrH 0 [] := ⟨uq_nil, Nat.le_refl _, fun p hp => by cases hp⟩
theorem sieves_ok {s : Str} (h : Few 80 s) : F_sieve s = if (partV s).isSome = true then .ok (sgrp s) else .exc "NoMark" [] := by
  have hl := h.1
  have pl := parts_len s
  unfold F_sieve partV sgrp
  rw [if_neg (by decide)]
  by_cases e : s = ("" : Str)
  · rw [decide_eq_true e, if_pos e, if_pos e]
    rfl
  · rw [decide_eq_false e, if_neg e, if_neg e]
    show gd _ _ = _
    rw [gd_ok (by omega)]
    show Dl.bindX (foldE sieveF [] _) _ = _
    rw [sieve_loop _ _ 0 gr0 (by omega) fun w hw => by have := part_len hw; omega]
    by_cases o : okWs (Txt.split s (" " : Str))
    · rw [if_pos o, if_pos o]; rfl
    · rw [if_neg o, if_neg o]; rfl
theorem ways_loop (m : Str) (ms : List Str) : ∀ bs : List Bool, loopE (ρ := Bool) (fun (_ : Unit) (x5 : Bool) => if (!decide (decide (m ∈ ms) = x5)) = true then .ok (.rt false) else .ok (.nx ())) () bs = .ok (if ∀ b ∈ bs, decide (m ∈ ms) = b then .nx () else .rt false)
  | [] => by rw [if_pos (by simp)]; rfl
  | b :: bs => by
    have ih := ways_loop m ms bs
    rw [loopE_cons]
    by_cases h : decide (m ∈ ms) = b
    · rw [if_neg (by rw [decide_eq_true h]; decide)]
      show loopE _ () _ = _
      rw [ih]
      by_cases h2 : ∀ b ∈ bs, decide (m ∈ ms) = b
      · rw [if_pos h2, if_pos (List.forall_mem_cons.mpr ⟨h, h2⟩)]
      · rw [if_neg h2, if_neg (fun z => h2 (List.forall_mem_cons.mp z).2)]
    · rw [if_pos (by rw [decide_eq_false h]; rfl), if_neg (fun z => h (List.forall_mem_cons.mp z).1)]
      rfl
theorem lets_loop (ms : List Str) : ∀ G : List (Str × List Bool), loopE (ρ := Bool) (fun (_ : Unit) (x3 : Str × (List Bool)) => Dl.bindX (loopE (ρ := Bool) (fun (_ : Unit) (x5 : Bool) => if (!decide (decide (x3.1 ∈ ms) = x5)) = true then .ok (.rt false) else .ok (.nx ())) () x3.2) fun c => ctE c (fun (_ : Unit) => .ok (.nx ())) (fun r11 => .ok (.rt r11))) () G = .ok (if ∀ p ∈ G, ∀ b ∈ p.2, decide (p.1 ∈ ms) = b then .nx () else .rt false)
  | [] => by rw [if_pos (by simp)]; rfl
  | p :: G => by
    have ih := lets_loop ms G
    rw [loopE_cons, ways_loop]
    by_cases h : ∀ b ∈ p.2, decide (p.1 ∈ ms) = b
    · rw [if_pos h]
      show loopE _ () _ = _
      rw [ih]
      by_cases h2 : ∀ p ∈ G, ∀ b ∈ p.2, decide (p.1 ∈ ms) = b
      · rw [if_pos h2, if_pos (List.forall_mem_cons.mpr ⟨h, h2⟩)]
      · rw [if_neg h2, if_neg (fun z => h2 (List.forall_mem_cons.mp z).2)]
    · rw [if_neg h, if_neg (fun z => h (List.forall_mem_cons.mp z).1)]
      rfl
theorem lets_ok (ms : List Str) (G : List (Str × List Bool)) : F_sieve_lets ms G = .ok (letsV G ms) := by
  unfold F_sieve_lets letsV
  rw [lets_loop]
  by_cases h : ∀ p ∈ G, ∀ b ∈ p.2, decide (p.1 ∈ ms) = b
  · rw [if_pos h, decide_eq_true h]; rfl
  · rw [if_neg h, decide_eq_false h]; rfl
theorem part_of {s : Str} {W : List (Str × Bool)} (h : partV s = some W) : W = (if s = ("" : Str) then [] else mwOf (Txt.split s (" " : Str))) := by
  unfold partV at h
  split at h
  · rename_i e; rw [if_pos e]; exact (Option.some.inj h).symm
  · rename_i e
    rw [if_neg e]
    split at h
    · exact (Option.some.inj h).symm
    · cases h
theorem part_words {ws : List Str} (h : ∀ w ∈ ws, WdOk w) : ∃ W, partV (Txt.join (" " : Str) ws) = some W := by
  unfold partV
  by_cases e : Txt.join (" " : Str) ws = ("" : Str)
  · exact ⟨[], by rw [if_pos e]⟩
  · rw [if_neg e]
    have ne : ws ≠ [] := fun z => e (by rw [z]; decide +kernel)
    rw [split_join ne fun w hw => (h w hw).s]
    rw [if_pos (show okWs ws from fun w hw => (h w hw).m)]
    exact ⟨_, rfl⟩
theorem lets_part {s : Str} {W : List (Str × Bool)} (h : partV s = some W) (ms : List Str) : letsV (sgrp s) ms = dueV W ms := by
  rw [lets_due, part_of h]
end Lw

-- use cell
-- use rulebk
-- use bkof
-- use marks
-- use sievek
namespace Lw
open PySem PySem.Spec PyProof.Rows L2 Dl
/-! ### the book -/
structure KpOk (k : NmT) : Prop where
  ok : NmOk k
  s : ∀ p ∈ k, sortS p.2 = p.2
  l : k.length ≤ 8
theorem marks_some {one : Int} (p : Int → Bool) : (∀ x ∈ ((rngD 0 (5 : Int).toNat).filter p).map (fun u => markV one u), WordIs 8 x) ∧ (((rngD 0 (5 : Int).toNat).filter p).map (fun u => markV one u)).Nodup := by
  refine ⟨fun x hx => ?_, ?_⟩
  · obtain ⟨u, _, rfl⟩ := List.mem_map.mp hx
    exact mark_word one _
  · have nd : ((rngD 0 (5 : Int).toNat).filter p).Nodup := (show (rngD 0 (5 : Int).toNat).Nodup by decide +kernel).filter _
    refine List.pairwise_map.mpr (nd.imp_of_mem fun {a b} ha hb hne e => hne ?_)
    have ra : ∀ a ∈ (rngD 0 (5 : Int).toNat).filter p, 0 ≤ a ∧ a < 26 := fun a h => by
      obtain ⟨i, hi⟩ := List.getElem?_of_mem (List.mem_filter.mp h).1
      have := rngD_get hi
      omega
    exact mark_inj (ra a ha) (ra b hb) e
theorem cut3 (ms : List Str) : cutD' ms none (some 3) = ms.take 3 := by
  have := cut_to ms (i := 3) (by decide)
  simpa using this
theorem book_ret (script : List Int) : Ret (F_l_book script) fun z => ∃ rs g d E N R S, z.1 = ((rs, g), d, E, R, S) ∧ BkH rs g d E 0 N R S ∧ NIs z.2 [] N ∧ KpOk z.2 := by
  unfold F_l_book
  refine Ret.bindP (cell_at_ret script (k := 0) (by decide)) fun one _ => ?_
  have hr : RowsIn [((0 : Int), 1 + one % 9)] := ⟨by simp, by simp, fun r hr => by
    obtain rfl : r = (0, 1 + one % 9) := by simpa using hr
    dsimp only; omega, fun i x y _ hy => by cases i <;> simp at hy⟩
  have hg : GoneIn [((0 : Int), 1 + one % 9)] none := fun v hv => by cases hv
  have hd : -(10 ^ 44) ≤ one % 1000000000000000000000000000000 ∧ one % 1000000000000000000000000000000 ≤ 10 ^ 44 := by omega
  have m11 := mixV_b one 11
  refine Ret.eqP (init_ok hr hg) (Ret.eqP (book_init hr hg hd) (Ret.eqP (mixed_eq one 11) (Ret.gd ⟨by omega, by omega⟩ ?_)))
  have h0 := BkH.init hr hg hd
  generalize [((0 : Int), 1 + one % 9)] = rs at h0 hr hg
  generalize edgesV rs none (one % 1000000000000000000000000000000) = E at h0
  refine Ret.fold (fun i z => ∃ N R S, z.1 = ((rs, none), one % 1000000000000000000000000000000, E, R, S) ∧ BkH rs none (one % 1000000000000000000000000000000) E 0 N R S ∧ NIs z.2 [] N ∧ NmOk z.2 ∧ (∀ p ∈ z.2, sortS p.2 = p.2) ∧ z.2.length ≤ i) ⟨[], [], [], rfl, h0, ⟨fun n => rfl, rfl⟩, ⟨uq_nil, by simp, by simp⟩, by simp, by simp⟩ (fun j z x hx => ?_) fun z => ?_
  · rintro ⟨N, R, S, e1, h, n, ok, so, lz⟩
    obtain ⟨b, kept⟩ := z
    dsimp only at e1 n ok so lz
    subst e1
    have lj := (rngD_get hx).1
    refine Ret.bindP (cell_at_ret script (k := 2 + x) (by have := rngD_get hx; omega)) fun c2 _ => Ret.eqP (name_ok one _) (Ret.gd ⟨by omega, by omega⟩ (Ret.gd (by rw [rngD_length]; decide) ?_))
    refine Ret.comp (fun u => decide (mixV c2 (30 + u) % 3 = 0)) (fun u => markV one u) (fun u _ => Ret.eq (Ret.eqP (mixed_eq c2 _) (Ret.ok rfl))) (fun u _ _ => Ret.eq (Ret.eqP (mark_ok one _) (Ret.ok rfl))) (Ret.letE fun ms hms => Ret.eqP (mixed_eq c2 12) (Ret.letE fun ms2 hms2 => Ret.jpE (Ret.ite (fun t => ?_) fun _ => Ret.ok ⟨N, R, S, rfl, h, n, ok, so, by dsimp only; omega⟩)))
    obtain ⟨w1, w2⟩ := marks_some (one := one) fun u => decide (mixV c2 (30 + u) % 3 = 0)
    rw [cut3] at hms
    have k1 : (∀ y ∈ ms, WordIs 8 y) ∧ ms.Nodup ∧ ms.length ≤ 3 := by
      rw [hms]
      exact ⟨fun y hy => w1 y (List.mem_of_mem_take hy), w2.sublist (List.take_sublist _ _), by rw [List.length_take]; omega⟩
    have k2 : (∀ y ∈ ms2, WordIs 8 y) ∧ ms2.Nodup ∧ ms2.length ≤ 3 := by
      rw [hms2]
      split
      · exact ⟨fun y hy => k1.1 y (List.mem_reverse.mp hy), (List.reverse_perm ms).nodup_iff.mpr k1.2.1, by rw [List.length_reverse]; exact k1.2.2⟩
      · exact k1
    obtain ⟨a1, a2, a3⟩ := k2
    have gx : getA kept (nameV one ((x * 7 + c2) % 26)) = none := by simpa using t
    have gn : getA N (nameV one ((x * 7 + c2) % 26)) = none := by rw [n.e, gx]; rfl
    have lN := n.l
    obtain ⟨R', S', f, h2⟩ := enrol_ok (ms := some ms2) h gn (name_word one _) (by omega) a1 a2 (by rw [Option.getD_some]; omega)
    refine Ret.gd (by omega) (Ret.gd (by omega) (Ret.eqX f (Ret.ok ⟨_, R', S', rfl, h2, ⟨fun m => ?_, ?_⟩, ⟨ok.u.put _ _, ?_, fun p hp => ?_⟩, fun p hp => ?_, ?_⟩)))
    · dsimp only
      rw [getA_putA, getA_putA, n.e]
      by_cases q : nameV one ((x * 7 + c2) % 26) = m
      · rw [if_pos q, if_pos q]
        show some (sortS ms2, []) = some (sortS (sortS ms2), rdsOf m [])
        rw [sortS_sortS]; rfl
      · rw [if_neg q, if_neg q]
    · dsimp only
      rw [putA_new gn, putA_new gx, List.length_append, List.length_append, lN]; rfl
    · dsimp only
      rw [putA_new gx, List.length_append]; simp only [List.length_cons, List.length_nil]; omega
    · dsimp only at hp
      rw [putA_new gx] at hp
      rcases List.mem_append.mp hp with q | q
      · exact ok.w p q
      · obtain rfl : p = _ := by simpa using q
        exact ⟨name_word one _, fun y hy => a1 y ((sortS_perm _).mem_iff.mp hy), (sortS_perm _).nodup_iff.mpr a2, by rw [sortS_len]; omega⟩
    · dsimp only at hp
      rw [putA_new gx] at hp
      rcases List.mem_append.mp hp with q | q
      · exact so p q
      · obtain rfl : p = _ := by simpa using q
        exact sortS_sortS _
    · dsimp only
      rw [putA_new gx, List.length_append]; simp only [List.length_cons, List.length_nil]; omega
  · rintro ⟨N, R, S, e1, h, n, ok, so, lz⟩
    obtain ⟨b, kept⟩ := z
    rw [rngD_length] at lz
    exact Ret.ok ⟨rs, none, _, E, N, R, S, e1, h, n, ok, so, by dsimp only at lz ⊢; omega⟩
section
variable {rs : RowsT} {g : Option Int} {d : Int} {E : EdT} {c : Nat} {N : NT} {R : List (Str × TRoll)} {S : List (Str × List Str)} {kept : NmT}
theorem NIs.names {rd : RdT} (n : NIs kept rd N) (u : Uq N) (u2 : Uq kept) : sortS (N.map Prod.fst) = sortS (kept.map Prod.fst) := by
  refine sortS_eq ((List.perm_ext_iff_of_nodup u u2).mpr fun x => ?_)
  rw [getA_mem_keys, getA_mem_keys, n.e]
  cases getA kept x <;> simp
theorem KpOk.at (k : KpOk kept) {x : Str} {m : List Str} (e : getA kept x = some m) : sortS m = m ∧ m.Nodup ∧ m.length ≤ 8 ∧ WordIs 12 x ∧ ∀ y ∈ m, WordIs 8 y := by
  have hp := (getA_mem k.ok.u).mp e
  obtain ⟨a, b, c, d⟩ := k.ok.w _ hp
  exact ⟨k.s _ hp, c, d, a, b⟩
theorem KpOk.mem (k : KpOk kept) {x : Str} (h : x ∈ sortS (kept.map Prod.fst)) : ∃ m, getA kept x = some m := getA_mem_keys.mp ((sortS_perm _).mem_iff.mp h)
theorem KpOk.len (k : KpOk kept) : (sortS (kept.map Prod.fst)).length ≤ 8 := by rw [sortS_len, List.length_map]; exact k.l
theorem marks_kept {rd : RdT} (h : BkH rs g d E c N R S) (n : NIs kept rd N) (k : KpOk kept) {x : Str} {m : List Str} (e : getA kept x = some m) : F_Book_marks ((rs, g), d, E, R, S) x = .ok m := by
  have := marks_ok (n := x) (q := (sortS m, rdsOf x rd)) h (by rw [n.e, e]; rfl)
  rw [this]
  exact congrArg Ex.ok (k.at e).1
/-- the names that go through -/
def chosenV (kept : NmT) (p : List Str → Bool) : List Str := (sortS (kept.map Prod.fst)).filter fun x => p ((getA kept x).getD [])
theorem lay_chosen (k : KpOk kept) (p : List Str → Bool) : layD (.lst ((chosenV kept p).map D.str)) := by
  refine lay_words (n := 12) fun x hx => ?_
  obtain ⟨m, e⟩ := k.mem (List.mem_filter.mp hx).1
  exact (k.at e).2.2.2.1
theorem chosen_ok {rd : RdT} (h : BkH rs g d E c N R S) (n : NIs kept rd N) (k : KpOk kept) (G : List (Str × List Bool)) : F_Book_chosen ((rs, g), d, E, R, S) G = .ok (chosenV kept (letsV G)) := by
  unfold F_Book_chosen
  have hn := names_ok h
  rw [n.names h.u k.ok.u] at hn
  have kl := k.len
  refine Ret.eq (Ret.eqP hn (Ret.gd (by omega) (Ret.comp (fun x => letsV G ((getA kept x).getD [])) id (fun x hx => ?_) (fun x _ _ => rfl) (Ret.ok ?_))))
  · obtain ⟨m, e⟩ := k.mem hx
    refine Ret.eq (Ret.eqP (marks_kept h n k e) (Ret.eqP (lets_ok _ _) (Ret.ok ?_)))
    rw [e]; rfl
  · rw [List.map_id]; rfl
end
/-! ### by a text -/
theorem word_of {s m : Str} (hs : s = ("" : Str) ∨ s = ("-" : Str)) (hm : WordIs 8 m) : WdOk (s ++ m) ∧ mkOf (s ++ m) = m ∧ wayOf (s ++ m) = decide (s = ("" : Str)) := by
  rcases hs with rfl | rfl
  · have e : mkOf m = m := by
      unfold mkOf
      rw [if_neg (fun z => ?_)]
      rw [starts_iff, decide_eq_true_eq] at z
      have := small_in (hm.2.2 _ (List.mem_of_getElem? z))
      omega
    rw [nil_app]
    exact ⟨wd_plain hm, e, by unfold wayOf; rw [e, decide_eq_true rfl, decide_eq_true rfl]⟩
  · have e := dash_app m
    have k : mkOf (("-" : Str) ++ m) = m := by
      unfold mkOf
      rw [if_pos (by rw [starts_iff, e]; rfl), e, cutS_from (i := 1) (by decide) (by simp only [List.length_cons]; omega)]
      cases m; rfl
    refine ⟨wd_dash hm, k, ?_⟩
    unfold wayOf
    rw [k]
    rw [decide_eq_false, decide_eq_false (by decide +kernel)]
    intro z
    have := congrArg Str.length z
    rw [app_lenS, show ("-" : Str).length = 1 by decide +kernel] at this
    omega
theorem due_zip {ws : List (Str × Str)} (hs : ∀ u ∈ ws, u.1 = ("" : Str) ∨ u.1 = ("-" : Str)) (hm : ∀ u ∈ ws, WordIs 8 u.2) :
    ∃ W, partV (Txt.join (" " : Str) (ws.map fun u => u.1 ++ u.2)) = some W ∧ ∀ ms, dueV W ms = (ws.map fun u => decide (decide (u.2 ∈ ms) = decide (u.1 = ("" : Str)))).all id := by
  have hw : ∀ w ∈ ws.map (fun u => u.1 ++ u.2), WdOk w := fun w hw => by
    obtain ⟨u, hu, rfl⟩ := List.mem_map.mp hw
    exact (word_of (hs u hu) (hm u hu)).1
  obtain ⟨W, hW⟩ := part_words hw
  refine ⟨W, hW, fun ms => ?_⟩
  have e := part_of hW
  have eW : W = mwOf (ws.map fun u => u.1 ++ u.2) := by
    by_cases ne : ws = []
    · subst ne
      rw [e, if_pos (by decide +kernel)]; rfl
    · have ne' : ws.map (fun u => u.1 ++ u.2) ≠ [] := by simpa using ne
      have sj := split_join ne' fun w h => (hw w h).s
      rw [e, if_neg (fun z => ?_), sj]
      obtain ⟨w, hw1⟩ := List.exists_mem_of_ne_nil _ ne'
      have l1 := part_len (s := Txt.join (" " : Str) (ws.map fun u => u.1 ++ u.2)) (w := w) (by rw [sj]; exact hw1)
      have l2 := (hw w hw1).m.1
      have l3 := mkOf_len w
      rw [z, show ("" : Str).length = 0 by decide +kernel] at l1
      omega
  rw [eW, Bool.eq_iff_iff]
  unfold dueV mwOf
  rw [decide_eq_true_eq, List.all_map, List.all_eq_true, List.map_map]
  simp only [List.forall_mem_map, Function.comp_def, id]
  constructor
  · intro h u hu
    have := h u hu
    obtain ⟨_, a, b⟩ := word_of (hs u hu) (hm u hu)
    rw [a, b] at this
    exact decide_eq_true this
  · intro h u hu
    have := of_decide_eq_true (h u hu)
    obtain ⟨_, a, b⟩ := word_of (hs u hu) (hm u hu)
    rw [a, b]
    exact this
section
variable {rs : RowsT} {g : Option Int} {d : Int} {E : EdT} {c : Nat} {N : NT} {R : List (Str × TRoll)} {S : List (Str × List Str)} {kept : NmT}
theorem by_text_ok (h : BkH rs g d E c N R S) (n : NIs kept [] N) (k : KpOk kept) {wanted signs : List Str} (hs : ∀ u ∈ signs, u = ("" : Str) ∨ u = ("-" : Str)) (ls : signs.length ≤ 2) (hm : ∀ u ∈ wanted, WordIs 8 u) : F_l_by_text ((rs, g), d, E, R, S) kept wanted signs = .ok true := by
  have lz : (signs.zip wanted).length ≤ 2 := by rw [List.length_zip]; omega
  have zs : ∀ u ∈ signs.zip wanted, u.1 = ("" : Str) ∨ u.1 = ("-" : Str) := fun u hu => hs _ (List.of_mem_zip (a := u.1) (b := u.2) hu).1
  have zm : ∀ u ∈ signs.zip wanted, WordIs 8 u.2 := fun u hu => hm _ (List.of_mem_zip (a := u.1) (b := u.2) hu).2
  obtain ⟨W, hW, hd⟩ := due_zip zs zm
  have hw : ∀ w ∈ (signs.zip wanted).map (fun u => u.1 ++ u.2), WdOk w := fun w hw => by
    obtain ⟨u, hu, rfl⟩ := List.mem_map.mp hw
    exact (word_of (zs u hu) (zm u hu)).1
  obtain ⟨fj, lj⟩ := few_join (ws := (signs.zip wanted).map fun u => u.1 ++ u.2) (by rw [List.length_map]; omega) hw
  have fj8 := fj.mono (show 60 ≤ 80 by decide)
  have kl := k.len
  have kl2 := k.l
  have sv := sieves_ok fj8
  rw [hW] at sv
  have eq : chosenV kept (letsV (sgrp (Txt.join (" " : Str) ((signs.zip wanted).map fun u => u.1 ++ u.2)))) = chosenV kept fun ms => ((signs.zip wanted).map fun u => decide (decide (u.2 ∈ ms) = decide (u.1 = ("" : Str)))).all id := by
    unfold chosenV
    refine List.filter_congr fun x _ => ?_
    rw [lets_part hW, hd]
  have lch : (chosenV kept fun ms => ((signs.zip wanted).map fun u => decide (decide (u.2 ∈ ms) = decide (u.1 = ("" : Str)))).all id).length ≤ 8 := Nat.le_trans (List.length_filter_le _ _) kl
  unfold F_l_by_text
  refine Ret.eq (Ret.gd (by omega) (Ret.map (fun u => u.1 ++ u.2) (fun u hu => ?_) (Ret.gd (by omega) (Ret.letI (Ret.gd (by omega) ?_)))))
  · have := (word_of (zs u hu) (zm u hu)).1.f.1
    rw [app_lenS] at this
    rw [gd_ok (by omega)]
  refine Ret.fold (fun i z => z = ((sortS (kept.map Prod.fst)).take i).filter (fun x => ((signs.zip wanted).map fun u => decide (decide (u.2 ∈ (getA kept x).getD []) = decide (u.1 = ("" : Str)))).all id)) rfl (fun j z x hx hz => ?_) fun z hz => ?_
  · obtain ⟨m, e⟩ := k.mem (List.mem_of_getElem? hx)
    have lzz : z.length ≤ 8 := by
      rw [hz]
      refine Nat.le_trans (List.length_filter_le _ _) ?_
      rw [List.length_take]; omega
    refine Ret.gd (by omega) (Ret.map (fun u => decide (decide (u.2 ∈ m) = decide (u.1 = ("" : Str)))) (fun u _ => Ret.eq (Ret.someE e (Ret.ok rfl))) (Ret.jpE (Ret.ite (fun t => Ret.gd (by omega) (Ret.ok ?_)) fun t => Ret.ok ?_)))
    · rw [List.take_add_one, hx, List.filter_append, ← hz, Option.toList_some, List.filter_cons_of_pos (by rw [e]; exact t), List.filter_nil]
    · rw [List.take_add_one, hx, List.filter_append, ← hz, Option.toList_some, List.filter_cons_of_neg (by rw [e]; exact fun y => by rw [Option.getD_some, t] at y; cases y), List.filter_nil, List.append_nil]
  · rw [List.take_length] at hz
    have hz' : z = chosenV kept fun ms => ((signs.zip wanted).map fun u => decide (decide (u.2 ∈ ms) = decide (u.1 = ("" : Str)))).all id := hz
    have ch := chosen_ok h n k (sgrp (Txt.join (" " : Str) ((signs.zip wanted).map fun u => u.1 ++ u.2)))
    rw [eq] at ch
    have la := lay_chosen k fun ms => ((signs.zip wanted).map fun u => decide (decide (u.2 ∈ ms) = decide (u.1 = ("" : Str)))).all id
    subst hz'
    refine Ret.eqP sv (Ret.eqP ch (Ret.eqP (a := false) ?_ (Ret.f rfl (Ret.gd (by omega) (Ret.eqP sv (Ret.eqP ch (Ret.gd la (Ret.gd la (Ret.ok (decide_eq_true rfl))))))))))
    show gd _ _ = _
    rw [gd_ok la, gd_ok la, decide_eq_true rfl]; rfl
/-! ### by a def of the law's own -/
def goodV (mark : Str) (least : Int) (ms : List Str) : Bool := decide (least ≤ (ms.length : Int)) && !decide (mark ∈ ms)
theorem own_lets {ms : List Str} {mark : Str} {least : Int} {heard : List (List Str)} (l1 : ms.length ≤ 100000) (l2 : heard.length ≤ 100000) : F_l_own_l_lets ms mark least heard = .ok (goodV mark least ms, ms ++ [("x" : Str)], heard ++ [ms]) := by
  unfold F_l_own_l_lets
  exact Ret.eq (Ret.gd l2 (Ret.letI (Ret.gd l1 (Ret.ok rfl))))
theorem own_fold {rd : RdT} (h : BkH rs g d E c N R S) (n : NIs kept rd N) (k : KpOk kept) (mark : Str) (least : Int) : ∀ (xs : List Str) (heard : List (List Str)) (acc : List Str), (∀ x ∈ xs, x ∈ sortS (kept.map Prod.fst)) → heard.length + xs.length ≤ 100000 →
    foldE (fun (q9 : (List (List Str)) × List Str) (u6 : Str) => bindP (bindP (F_Book_marks ((rs, g), d, E, R, S) u6) fun v10 => bindP (F_l_own_l_lets v10 mark least q9.1) fun r11 => .ok (r11.1, r11.2.2)) fun r11 => .ok (r11.2, if r11.1 = true then q9.2 ++ [u6] else q9.2)) (heard, acc) xs = .ok (heard ++ xs.map (fun x => (getA kept x).getD []), acc ++ xs.filter fun x => goodV mark least ((getA kept x).getD []))
  | [], heard, acc, _, _ => by simp only [List.map_nil, List.filter_nil, List.append_nil]; rfl
  | x :: xs, heard, acc, hx, hl => by
    obtain ⟨m, e⟩ := k.mem (hx x (by simp))
    have lm := (k.at e).2.2.1
    simp only [List.length_cons] at hl
    rw [foldE_cons, marks_kept h n k e]
    show Dl.bindX (Dl.bindP (Dl.bindP (F_l_own_l_lets m mark least heard) _) _) _ = _
    rw [own_lets (by omega) (by omega)]
    show foldE _ (heard ++ [m], if goodV mark least m = true then acc ++ [x] else acc) xs = _
    rw [own_fold h n k mark least xs _ _ (fun y hy => hx y (List.mem_cons_of_mem _ hy)) (by rw [List.length_append]; simp only [List.length_cons, List.length_nil]; omega)]
    rw [List.map_cons, e, Option.getD_some, List.append_assoc]
    by_cases q : goodV mark least m = true
    · rw [if_pos q, List.filter_cons_of_pos (by rw [e]; exact q), List.append_assoc]; rfl
    · rw [if_neg q, List.filter_cons_of_neg (by rw [e]; exact q)]; rfl
theorem chosen2_ok {rd : RdT} (h : BkH rs g d E c N R S) (n : NIs kept rd N) (k : KpOk kept) (mark : Str) (least : Int) {heard : List (List Str)} (hl : heard.length ≤ 1000) : F_Book_chosen_2 ((rs, g), d, E, R, S) (mark, least, heard) = .ok (chosenV kept (goodV mark least), (mark, least, heard ++ (sortS (kept.map Prod.fst)).map fun x => (getA kept x).getD [])) := by
  unfold F_Book_chosen_2
  have hn := names_ok h
  rw [n.names h.u k.ok.u] at hn
  have kl := k.len
  refine Ret.eq (Ret.eqP hn (Ret.gd (by omega) (Ret.eqP (own_fold h n k mark least _ _ _ (fun x hx => hx) (by dsimp only; omega)) (Ret.ok ?_))))
  rw [List.nil_append]; rfl
theorem vals_mem (k : KpOk kept) (m : List Str) : m ∈ kept.map Prod.snd ↔ m ∈ (sortS (kept.map Prod.fst)).map fun x => (getA kept x).getD [] := by
  rw [List.mem_map, List.mem_map]
  constructor
  · rintro ⟨p, hp, rfl⟩
    exact ⟨p.1, (sortS_perm _).mem_iff.mpr (List.mem_map_of_mem hp), by rw [(getA_mem k.ok.u).mpr (show (p.1, p.2) ∈ kept from hp)]; rfl⟩
  · rintro ⟨x, hx, rfl⟩
    obtain ⟨m, e⟩ := k.mem hx
    exact ⟨(x, m), (getA_mem k.ok.u).mp e, by rw [e]; rfl⟩
theorem lay_lists {xs : List (List Str)} (h : ∀ m ∈ xs, ∀ y ∈ m, WordIs 8 y) : layD (.lst (xs.map dk_LS)) := by
  unfold layD
  have k : PyData.canLayAll0 (D.pyA (xs.map dk_LS)) = true := by
    induction xs with
    | nil => simp [D.pyA, PyData.canLayAll0]
    | cons x xs ih =>
      have lm := lay_words (n := 8) (xs := x) (h x (by simp))
      unfold layD at lm
      simp only [List.map_cons, D.pyA, PyData.canLayAll0, Bool.and_eq_true]
      exact ⟨lm, ih fun y hy => h y (by simp [hy])⟩
  simp only [D.py, PyData.canLay0]
  exact k
theorem by_own_ok (h : BkH rs g d E c N R S) (n : NIs kept [] N) (k : KpOk kept) (mark : Str) (least : Int) : F_l_by_own ((rs, g), d, E, R, S) kept mark least = .ok true := by
  have kl := k.len
  have kl2 := k.l
  have la := lay_chosen k (goodV mark least)
  have c1 := chosen2_ok h n k mark least (heard := []) (by simp)
  have c2 := chosen2_ok h n k mark least (heard := [] ++ (sortS (kept.map Prod.fst)).map fun x => (getA kept x).getD []) (by rw [List.nil_append, List.length_map]; omega)
  have wv : ∀ m ∈ kept.map Prod.snd, ∀ y ∈ m, WordIs 8 y := fun m hm => by
    obtain ⟨p, hp, rfl⟩ := List.mem_map.mp hm
    exact (k.ok.w p hp).2.1
  unfold F_l_by_own
  refine Ret.eq (Ret.gd (by omega) (Ret.gd (by omega) (Ret.comp (fun x => goodV mark least ((getA kept x).getD [])) id (fun x hx => ?_) (fun x _ _ => rfl) ?_)))
  · obtain ⟨m, e⟩ := k.mem hx
    refine Ret.eq (Ret.someE e (Ret.eqP (a := goodV mark least m) ?_ (Ret.ok ?_)))
    · unfold goodV
      by_cases q : least ≤ (m.length : Int)
      · rw [decide_eq_true q]
        show Dl.bindP (someE _) _ = _
        rw [e]; rfl
      · rw [decide_eq_false q]; rfl
    · rw [e]; rfl
  rw [List.map_id]
  have ev : ([] : List (List Str)) ++ (sortS (kept.map Prod.fst)).map (fun x => (getA kept x).getD []) = (sortS (kept.map Prod.fst)).map fun x => (getA kept x).getD [] := List.nil_append _
  rw [ev] at c1 c2
  have wh : ∀ m ∈ ((sortS (kept.map Prod.fst)).map fun x => (getA kept x).getD []) ++ (sortS (kept.map Prod.fst)).map fun x => (getA kept x).getD [], m ∈ kept.map Prod.snd := fun m hm => by
    rcases List.mem_append.mp hm with q | q <;> exact (vals_mem k m).mpr q
  have le : ((kept.map Prod.snd).length : Nat) ≤ 100000 := by rw [List.length_map]; omega
  refine Ret.eqP c1 (Ret.gd la (Ret.gd la (Ret.iteN (fun z => absurd rfl z) fun _ => Ret.eqP c2 (Ret.gd la (Ret.gd la (Ret.iteN (fun z => absurd rfl z) fun _ => ?_))))))
  refine Ret.loop (fun _ _ => True) trivial (fun j z x hx _ => ?_) fun _ _ => ?_
  · have mx := wh x (List.mem_of_getElem? hx)
    exact Ret.gd (by omega) (Ret.gd (lay_words (n := 8) (wv x mx)) (Ret.gd (lay_lists wv) (Ret.iteN (fun z => absurd mx z) fun _ => Ret.ok ⟨(), rfl, trivial⟩)))
  · refine Ret.gd le (Ret.map (fun _ => true) (fun m hm => ?_) (Ret.ok ?_))
    · rw [gd_ok (lay_words (n := 8) (wv m hm)), gd_ok (lay_lists fun m' hm' => wv m' (wh m' hm')), decide_eq_true (List.mem_append_left _ ((vals_mem k m).mp hm))]
    · rw [List.all_eq_true]
      intro b hb
      obtain ⟨_, _, rfl⟩ := List.mem_map.mp hb
      rfl
end
theorem law_ok (script : List Int) (h : script.length ≤ 63) : F_law script = .ok true := by
  unfold F_law
  refine Ret.eq (Ret.bindP (book_ret script) ?_)
  rintro ⟨b, kept⟩ ⟨rs, g, d, E, N, R, S, e, hb, n, k⟩
  dsimp only at e n k
  subst e
  have kl := k.l
  refine Ret.bindP (cell_at_ret script (k := 0) (by decide)) fun one _ => Ret.gd ⟨by omega, by omega⟩ (Ret.loop (fun _ _ => True) trivial (fun j z x hx _ => ?_) fun _ _ => ?_)
  · refine Ret.bindP (cell_at_ret script (k := 1) (by decide)) fun c1 _ => Ret.eqP (mixed_eq c1 x) (Ret.eqP (mark_ok one _) (Ret.eqP (mark_ok one _) (Ret.letE fun ms hms => Ret.ixM (by omega) (by simp only [List.length_cons, List.length_nil]; omega) fun s1 h1 => Ret.ixM (by omega) (by simp only [List.length_cons, List.length_nil]; omega) fun s2 h2 => Ret.letI ?_)))
    have m1 := mixV_b c1 x
    have wm : ∀ u ∈ ms, WordIs 8 u := fun u hu => by
      rw [hms] at hu
      unfold cutD' at hu
      have := List.mem_of_mem_drop (List.mem_of_mem_take hu)
      simp only [List.mem_cons, List.not_mem_nil, or_false] at this
      rcases this with rfl | rfl <;> exact mark_word _ _
    have ws : ∀ u ∈ [s1, s2], u = ("" : Str) ∨ u = ("-" : Str) := fun u hu => by
      simp only [List.mem_cons, List.not_mem_nil, or_false] at hu h1 h2
      rcases hu with rfl | rfl
      · rcases h1 with a | a | a
        · exact .inl a
        · exact .inl a
        · exact .inr a
      · exact h2
    refine Ret.eqP (by_text_ok hb n k ws (by simp) wm) (Ret.f rfl (Ret.eqP (mark_ok one _) (Ret.eqP (by_own_ok hb n k _ _) (Ret.f rfl (Ret.ok ⟨(), rfl, trivial⟩)))))
  · refine Ret.loop (fun _ _ => True) trivial (fun j z x hx _ => ?_) fun _ _ => ?_
    · have e := (getA_mem k.ok.u).mpr (show (x.1, x.2) ∈ kept from List.mem_of_getElem? hx)
      have l8 := lay_words (n := 8) (k.at e).2.2.2.2
      exact Ret.eqP (marks_kept hb n k e) (Ret.gd l8 (Ret.gd l8 (Ret.iteN (fun z => absurd rfl z) fun _ => Ret.ok ⟨(), rfl, trivial⟩)))
    · have hn := names_ok hb
      rw [n.names hb.u k.ok.u] at hn
      have la : layD (.lst ((sortS (kept.map Prod.fst)).map D.str)) := lay_words (n := 12) fun x hx => by
        obtain ⟨m, e⟩ := k.mem hx
        exact (k.at e).2.2.2.1
      exact Ret.eqP hn (Ret.gd (by dsimp only; omega) (Ret.gd la (Ret.gd la (Ret.ok (decide_eq_true rfl)))))
end Lw
namespace Lw
open PySem PySem.Spec PyProof.Rows L2 Dl
def topS (i : Nat) : Stmt := PySem.Challenge.pw_thinbook_k64_names_chosen.main.body.getD i (.Pass ⟨0, 0, 0, 0⟩)
abbrev s_l_cell_at : Stmt := topS 38
abbrev s_Rule_init : Stmt := inClass (topS 36) 0
abbrev s_Rule_steps : Stmt := inClass (topS 36) 1
abbrev s_cut_at : Stmt := topS 8
abbrev s_Rule_gone : Stmt := inClass (topS 36) 2
abbrev s_edges_at : Stmt := topS 9
abbrev s_Book_init : Stmt := inClass (topS 33) 0
abbrev s_l_mixed : Stmt := topS 39
abbrev s_l_name : Stmt := topS 40
abbrev s_l_mark : Stmt := topS 41
abbrev s_is_word : Stmt := topS 26
abbrev s_is_name : Stmt := topS 27
abbrev s_Book_adopt : Stmt := inClass (topS 33) 3
abbrev s_is_mark : Stmt := topS 28
abbrev s_marks_looked_at : Stmt := topS 32
abbrev s_Roll_init : Stmt := inClass (topS 16) 0
abbrev s_greater : Stmt := topS 10
abbrev s_Roll_lift : Stmt := inClass (topS 16) 1
abbrev s_cell_at : Stmt := topS 11
abbrev s_Roll_cell_of : Stmt := inClass (topS 16) 2
abbrev s_poured : Stmt := topS 13
abbrev s_heap_of : Stmt := topS 14
abbrev s_Roll_pour : Stmt := inClass (topS 16) 3
abbrev s_Roll_put : Stmt := inClass (topS 16) 4
abbrev s_roll_of : Stmt := topS 21
abbrev s_Book_bare : Stmt := inClass (topS 33) 2
abbrev s_Book_enrol : Stmt := inClass (topS 33) 4
abbrev s_l_book : Stmt := topS 42
abbrev s_sieve : Stmt := topS 29
abbrev s_Book_names : Stmt := inClass (topS 33) 15
abbrev s_Book_sought : Stmt := inClass (topS 33) 5
abbrev s_Book_marks : Stmt := inClass (topS 33) 16
abbrev s_sieve_lets : Stmt := nthS (defBody (topS 29)) 3 (topS 29)
abbrev s_Book_chosen : Stmt := inClass (topS 33) 7
abbrev s_l_by_text : Stmt := topS 44
abbrev s_l_own : Stmt := topS 43
abbrev s_l_own_l_lets : Stmt := nthS (defBody (topS 43)) 0 (topS 43)
abbrev s_l_by_own : Stmt := topS 45
abbrev s_law : Stmt := topS 46
/-! ### what the top has written -/
structure Adr where
  none_ : Addr
  a_NoRule : Addr
  a_NoName : Addr
  a_NoMark : Addr
  a_NoNumber : Addr
  c_Rule : Addr
  c_Book : Addr
  c_Roll : Addr
def dk_CRule (A : Adr) (t : (List (Int × Int)) × (Option Int)) : D := .ins A.c_Rule ["row", "end"] [.lst (t.1.map dk_T2II), dOpt D.int t.2]
def ek_S (k : Str) : Key := .inr k
theorem ij_S : ∀ a b, ek_S a = ek_S b → a = b := fun a b h => by
  simp only [ek_S, Sum.inl.injEq, Sum.inr.injEq] at h
  exact h
def ek_T2II (k : Int × Int) : List Key := [.inl k.1, .inl k.2]
theorem ij_T2II : ∀ a b, ek_T2II a = ek_T2II b → a = b := fun a b h => by
  simp only [ek_T2II, List.cons.injEq, Sum.inl.injEq, Sum.inr.injEq, and_true] at h
  exact Prod.ext_iff.mpr (by simpa [Prod.ext_iff] using h)
def dk_CRoll (A : Adr) (t : TRoll) : D := .ins A.c_Roll ["ruling", "today", "limits", "whole", "heaped"] [(dk_CRule A) t.1, .int t.2.1, .lst (t.2.2.1.map (dOpt D.int)), .dT (t.2.2.2.1.map fun q => ek_T2II q.1) (t.2.2.2.1.map fun q => D.int q.2), .dT (t.2.2.2.2.map fun q => ek_T2II q.1) (t.2.2.2.2.map fun q => dk_T4IIII q.2)]
def is_Roll (A : Adr) (t : TRoll) (o : Ow) : Prop := ∃ w w3 w4 : Addr, o = .ins w A.c_Roll ["ruling", "today", "limits", "whole", "heaped"] [.fr ((dk_CRule A) t.1), .fr (.int t.2.1), .fr (.lst (t.2.2.1.map (dOpt D.int))), .dT w3 (t.2.2.2.1.map fun q => ek_T2II q.1) (t.2.2.2.1.map fun q => .fr (D.int q.2)), .dT w4 (t.2.2.2.2.map fun q => ek_T2II q.1) (t.2.2.2.2.map fun q => .fr (dk_T4IIII q.2))]
theorem own_Roll {A : Adr} {t : TRoll} {d : D} {m : Mem} : OwR (is_Roll A) t d m ↔ ∃ w w3 w4 : Addr, d = .adr w ∧ m = [(w, Mu.ins A.c_Roll ["ruling", "today", "limits", "whole", "heaped"] [(dk_CRule A) t.1, .int t.2.1, .lst (t.2.2.1.map (dOpt D.int)), .adr w3, .adr w4]), (w3, Mu.dT (t.2.2.2.1.map fun q => (ek_T2II q.1, D.int q.2))), (w4, Mu.dT (t.2.2.2.2.map fun q => (ek_T2II q.1, dk_T4IIII q.2)))] := by
  constructor
  · rintro ⟨o, ⟨w, w3, w4, rfl⟩, rfl, rfl⟩
    exact ⟨w, w3, w4, by simp only [Ow.root], by simp [Ow.mem, Ow.memA, Ow.rootA, Ow.root, zip_fr, memA_fr (fun q : (Int × Int) × Int => D.int q.2), memA_fr (fun q : (Int × Int) × (Int × Int × Int × Int) => dk_T4IIII q.2)]⟩
  · rintro ⟨w, w3, w4, rfl, rfl⟩
    exact ⟨_, ⟨w, w3, w4, rfl⟩, by simp only [Ow.root], by simp [Ow.mem, Ow.memA, Ow.rootA, Ow.root, zip_fr, memA_fr (fun q : (Int × Int) × Int => D.int q.2), memA_fr (fun q : (Int × Int) × (Int × Int × Int × Int) => dk_T4IIII q.2)]⟩
theorem ok_Roll (A : Adr) : OwK (is_Roll A) (dk_CRoll A) :=
  ⟨by rintro t o ⟨w, w3, w4, rfl⟩; simp [Ow.frz, Ow.frzA, dk_CRoll, frzA_fr (fun q : (Int × Int) × Int => D.int q.2), frzA_fr (fun q : (Int × Int) × (Int × Int × Int × Int) => dk_T4IIII q.2)], by rintro t o ⟨w, w3, w4, rfl⟩; simp [Ow.fit, Ow.fitA, fitA_fr (fun q : (Int × Int) × Int => D.int q.2), fitA_fr (fun q : (Int × Int) × (Int × Int × Int × Int) => dk_T4IIII q.2)]⟩
theorem sh_Roll (A : Adr) : ShK ⟨[["ruling", "today", "limits", "whole", "heaped"]], false, true⟩ (is_Roll A) := by
  rintro t o ⟨w, w3, w4, rfl⟩ p hp
  simp [Ow.mem, Ow.memA, Ow.rootA, Ow.root, zip_fr, memA_fr (fun q : (Int × Int) × Int => D.int q.2), memA_fr (fun q : (Int × Int) × (Int × Int × Int × Int) => dk_T4IIII q.2)] at hp
  rcases hp with rfl | rfl | rfl <;> rfl
theorem offk_Roll (A : Adr) {S : Shp} (hc : S.ns.contains ["row", "end"] = false) : OffK S (is_Roll A) := by
  rintro r d m h
  obtain ⟨w, w3, w4, rfl, rfl⟩ := own_Roll.mp h
  refine ⟨o_adr, fun p hp => ?_⟩
  simp only [List.mem_cons, List.not_mem_nil, or_false] at hp
  rcases hp with rfl | rfl | rfl
  · exact (off_cons ((fun _ => off_ins hc (off_cons ((fun xs => o_lst (f := dk_T2II) (fun _ => off_tup (off_cons (o_int _) (off_cons (o_int _) off_nil))) xs) _) (off_cons ((fun o => off_opt (f := D.int) o_int o) _) off_nil))) _) (off_cons (o_int _) (off_cons ((fun xs => o_lst (f := (dOpt D.int)) (fun o => off_opt (f := D.int) o_int o) xs) _) (off_cons o_adr (off_cons o_adr off_nil)))))
  · exact offM_dT (ek := fun q : (Int × Int) × Int => ek_T2II q.1) (f := fun q : (Int × Int) × Int => D.int q.2) (fun q : (Int × Int) × Int => o_int q.2) _
  · exact offM_dT (ek := fun q : (Int × Int) × (Int × Int × Int × Int) => ek_T2II q.1) (f := fun q : (Int × Int) × (Int × Int × Int × Int) => dk_T4IIII q.2) (fun q : (Int × Int) × (Int × Int × Int × Int) => (fun _ => off_tup (off_cons (o_int _) (off_cons (o_int _) (off_cons (o_int _) (off_cons (o_int _) off_nil))))) q.2) _
theorem cls_Roll (A : Adr) : ClsK (is_Roll A) A.c_Roll ["ruling", "today", "limits", "whole", "heaped"] := by
  rintro t o ⟨w, w3, w4, rfl⟩
  exact ⟨_, _, rfl⟩
def dk_CBook (A : Adr) (t : TBook) : D := .ins A.c_Book ["ruling", "today", "limits", "rolls", "signs"] [(dk_CRule A) t.1, .int t.2.1, .lst (t.2.2.1.map (dOpt D.int)), .dK (t.2.2.2.1.map fun q => ek_S q.1) (t.2.2.2.1.map fun q => (dk_CRoll A) q.2), .dK (t.2.2.2.2.map fun q => ek_S q.1) (t.2.2.2.2.map fun q => dk_LS q.2)]
def dk_CBookR (A : Adr) (t : TBookR) : D := .ins A.c_Book ["ruling", "today", "limits", "rolls", "signs"] [(dk_CRule A) t.1, .int t.2.1, .lst (t.2.2.1.map (dOpt D.int)), .dK (t.2.2.2.1.map fun q => ek_S q.1) (t.2.2.2.1.map fun q => dD q.2), .dK (t.2.2.2.2.map fun q => ek_S q.1) (t.2.2.2.2.map fun q => dk_LS q.2)]
def is_BookR (A : Adr) (t : TBookR) (o : Ow) : Prop := ∃ w w3 w4 : Addr, o = .ins w A.c_Book ["ruling", "today", "limits", "rolls", "signs"] [.fr ((dk_CRule A) t.1), .fr (.int t.2.1), .fr (.lst (t.2.2.1.map (dOpt D.int))), .dK w3 (t.2.2.2.1.map fun q => ek_S q.1) (t.2.2.2.1.map fun q => .fr (dD q.2)), .dK w4 (t.2.2.2.2.map fun q => ek_S q.1) (t.2.2.2.2.map fun q => .fr (dk_LS q.2))]
theorem own_BookR {A : Adr} {t : TBookR} {d : D} {m : Mem} : OwR (is_BookR A) t d m ↔ ∃ w w3 w4 : Addr, d = .adr w ∧ m = [(w, Mu.ins A.c_Book ["ruling", "today", "limits", "rolls", "signs"] [(dk_CRule A) t.1, .int t.2.1, .lst (t.2.2.1.map (dOpt D.int)), .adr w3, .adr w4]), (w3, Mu.dK (t.2.2.2.1.map fun q => (ek_S q.1, dD q.2))), (w4, Mu.dK (t.2.2.2.2.map fun q => (ek_S q.1, dk_LS q.2)))] := by
  constructor
  · rintro ⟨o, ⟨w, w3, w4, rfl⟩, rfl, rfl⟩
    exact ⟨w, w3, w4, by simp only [Ow.root], by simp [Ow.mem, Ow.memA, Ow.rootA, Ow.root, zip_fr, memA_fr (fun q : Str × D => dD q.2), memA_fr (fun q : Str × (List Str) => dk_LS q.2)]⟩
  · rintro ⟨w, w3, w4, rfl, rfl⟩
    exact ⟨_, ⟨w, w3, w4, rfl⟩, by simp only [Ow.root], by simp [Ow.mem, Ow.memA, Ow.rootA, Ow.root, zip_fr, memA_fr (fun q : Str × D => dD q.2), memA_fr (fun q : Str × (List Str) => dk_LS q.2)]⟩
def is_Book (A : Adr) (t : TBook) (o : Ow) : Prop := ∃ (w w3 w4 : Addr) (os : List Ow), o = .ins w A.c_Book ["ruling", "today", "limits", "rolls", "signs"] [.fr ((dk_CRule A) t.1), .fr (.int t.2.1), .fr (.lst (t.2.2.1.map (dOpt D.int))), .dK w3 (t.2.2.2.1.map fun q => ek_S q.1) os, .dK w4 (t.2.2.2.2.map fun q => ek_S q.1) (t.2.2.2.2.map fun q => .fr (dk_LS q.2))] ∧ All2 (is_Roll A) (t.2.2.2.1.map Prod.snd) os ∧ (t.2.2.2.1.map Prod.fst).Nodup
theorem ok_Book (A : Adr) : OwK (is_Book A) (dk_CBook A) := by
  refine ⟨?_, ?_⟩
  · rintro t o ⟨w, w3, w4, os, rfl, h, nd⟩
    have e := (All2.frz (ok_Roll A) h).1
    simp [Ow.frz, Ow.frzA, dk_CBook, e, frzA_fr (fun q : Str × (List Str) => dk_LS q.2), List.map_map, Function.comp_def]
  · rintro t o ⟨w, w3, w4, os, rfl, h, nd⟩
    have e := (All2.frz (ok_Roll A) h).2
    have l := h.len
    simp [Ow.fit, Ow.fitA, e, fitA_fr (fun q : Str × (List Str) => dk_LS q.2)]
    simpa using l.symm
theorem sh2_Roll (A : Adr) : ShK ⟨[["ruling", "today", "limits", "rolls", "signs"], ["ruling", "today", "limits", "whole", "heaped"]], false, true⟩ (is_Roll A) := by
  rintro t o ⟨w, w3, w4, rfl⟩ p hp
  simp [Ow.mem, Ow.memA, Ow.rootA, Ow.root, zip_fr, memA_fr (fun q : (Int × Int) × Int => D.int q.2), memA_fr (fun q : (Int × Int) × (Int × Int × Int × Int) => dk_T4IIII q.2)] at hp
  rcases hp with rfl | rfl | rfl <;> rfl
theorem sh_Book (A : Adr) : ShK ⟨[["ruling", "today", "limits", "rolls", "signs"], ["ruling", "today", "limits", "whole", "heaped"]], false, true⟩ (is_Book A) := by
  rintro t o ⟨w, w3, w4, os, rfl, h, nd⟩ p hp
  simp only [Ow.mem, Ow.memA, memA_fr (fun q : Str × (List Str) => dk_LS q.2), List.mem_cons, List.mem_append, List.not_mem_nil, or_false, false_or, List.append_nil, List.nil_append] at hp
  rcases hp with rfl | (rfl | hp) | rfl
  · rfl
  · rfl
  · exact sh_all2 (sh2_Roll A) h p hp
  · rfl
theorem open_Book {A : Adr} {t : TBook} {d : D} {m : Mem} (h : OwR (is_Book A) t d m) : ∃ (rs : List (Str × D)) (m1 m2 : Mem), OwR (is_BookR A) (t.1, t.2.1, t.2.2.1, rs, t.2.2.2.2) d m1 ∧ OwD (is_Roll A) t.2.2.2.1 rs m2 ∧ (t.2.2.2.1.map Prod.fst).Nodup ∧ m.Perm (m1 ++ m2) := by
  obtain ⟨o, ⟨w, w3, w4, os, rfl, ha, nd⟩, rfl, rfl⟩ := h
  refine ⟨_, _, _, own_BookR.mpr ⟨w, w3, w4, rfl, rfl⟩, All2.owD ha, nd, ?_⟩
  simp only [Ow.mem, Ow.memA, Ow.rootA, Ow.root, zip_fr, memA_fr (fun q : Str × (List Str) => dk_LS q.2), zip_keys (ek := ek_S), List.append_nil, List.nil_append, List.cons_append]
  refine List.Perm.cons _ (List.Perm.cons _ ?_)
  exact List.perm_append_comm
theorem close_Book {A : Adr} {x0 : (List (Int × Int)) × (Option Int)} {x1 : Int} {x2 : List (Option Int)} {x3 : List (Str × TRoll)} {x4 : List (Str × (List Str))} {rs : List (Str × D)} {d : D} {m1 m2 : Mem} (h1 : OwR (is_BookR A) ((x0, x1, x2, rs, x4) : TBookR) d m1) (h2 : OwD (is_Roll A) x3 rs m2) (nd : (x3.map Prod.fst).Nodup) : ∃ m, OwR (is_Book A) (x0, x1, x2, x3, x4) d m ∧ (m1 ++ m2).Perm m := by
  obtain ⟨w, w3, w4, rfl, rfl⟩ := own_BookR.mp h1
  obtain ⟨os, ha, e1, e2, rfl⟩ := h2.all
  obtain rfl : rs = (x3.map Prod.fst).zip (Ow.rootA os) := by rw [← e1, ← e2]; exact zip_of rs
  refine ⟨_, ⟨_, ⟨w, w3, w4, os, rfl, ha, nd⟩, rfl, rfl⟩, ?_⟩
  simp only [Ow.mem, Ow.memA, Ow.rootA, Ow.root, zip_fr, memA_fr (fun q : Str × (List Str) => dk_LS q.2), zip_keys (ek := ek_S), List.append_nil, List.nil_append, List.cons_append]
  refine List.Perm.cons _ (List.Perm.cons _ ?_)
  exact (List.perm_append_singleton _ _).symm
theorem cls_Book (A : Adr) : ClsK (is_Book A) A.c_Book ["ruling", "today", "limits", "rolls", "signs"] := by
  rintro t o ⟨w, w3, w4, os, rfl, _, _⟩
  exact ⟨_, _, rfl⟩
def dk_T2CBookMSLS (A : Adr) (t : TBook × (List (Str × (List Str)))) : D := .tup [(dk_CBook A) t.1, .dK (t.2.map fun q => ek_S q.1) (t.2.map fun q => dk_LS q.2)]
def G_sieve_lets : NdefX.NF := NdefX.NF.of s_sieve_lets "lets" ((envOfC "sieve" (defScope s_sieve) 0 0 .none).qual ++ "lets") [] 0
def dks_FN_sieveMSRB (t : List (Str × (List Bool))) : List D := [.dK (t.map fun q => ek_S q.1) (t.map fun q => dk_RB q.2)]
def dk_FN_sieveMSRB (t : List (Str × (List Bool))) : D := .clo G_sieve_lets ["wanted"] (dks_FN_sieveMSRB t)
theorem en_LS : EnS 1 (fun t : List Str => D.lst (t.map D.str)) := enS_lst enS_str
def G_l_own_l_lets : NdefX.NF := NdefX.NF.of s_l_own_l_lets "_law_lets" ((envOfC "_law_own" (defScope s_l_own) 0 0 .none).qual ++ "_law_lets") [] 0
def dks_FN_l_ownSIAD (t : Str × Int × Addr) : List D := [.str t.1, .int t.2.1, D.adr t.2.2]
def dk_FN_l_ownSIAD (t : Str × Int × Addr) : D := .clo G_l_own_l_lets ["_law_mark_here", "_law_least", "_law_heard"] (dks_FN_l_ownSIAD t)
theorem en_LLS : EnS 2 (fun t : List (List Str) => D.lst (t.map dk_LS)) := enS_lst en_LS
structure Txt (K : Frag) (mg : Str → Option Value) (A : Adr) : Prop where
  cl_Rule : ClsT K mg "Rule" A.c_Rule ["row", "end"]
  cl_Book : ClsT K mg "Book" A.c_Book ["ruling", "today", "limits", "rolls", "signs"]
  cl_Roll : ClsT K mg "Roll" A.c_Roll ["ruling", "today", "limits", "whole", "heaped"]
  x_NoRule : ExT K mg "NoRule" A.a_NoRule
  x_NoName : ExT K mg "NoName" A.a_NoName
  x_NoMark : ExT K mg "NoMark" A.a_NoMark
  x_NoNumber : ExT K mg "NoNumber" A.a_NoNumber
  f_l_cell_at : FunT K mg "_law_cell_at" s_l_cell_at ["_law_script", "_law_k"]
  m_Rule_init : MethT K A.c_Rule "__init__" "Rule.__init__" s_Rule_init ["self", "steps", "gone"] [V.non]
  m_Rule_steps : MethT K A.c_Rule "steps" "Rule.steps" s_Rule_steps ["self"] []
  f_cut_at : FunT K mg "cut_at" s_cut_at ["age", "width", "day"]
  m_Rule_gone : MethT K A.c_Rule "gone" "Rule.gone" s_Rule_gone ["self"] []
  f_edges_at : FunT K mg "edges_at" s_edges_at ["rule", "day"]
  m_Book_init : MethT K A.c_Book "__init__" "Book.__init__" s_Book_init ["self", "rule", "day"] []
  f_l_mixed : FunT K mg "_law_mixed" s_l_mixed ["_law_draw", "_law_k"]
  f_l_name : FunT K mg "_law_name" s_l_name ["_law_draw", "_law_k"]
  f_l_mark : FunT K mg "_law_mark" s_l_mark ["_law_draw", "_law_k"]
  f_is_word : FunT K mg "is_word" s_is_word ["thing", "most"]
  f_is_name : FunT K mg "is_name" s_is_name ["thing"]
  m_Book_adopt : MethT K A.c_Book "adopt" "Book.adopt" s_Book_adopt ["self", "name", "marks", "roll"] []
  f_is_mark : FunT K mg "is_mark" s_is_mark ["thing"]
  f_marks_looked_at : FunT K mg "marks_looked_at" s_marks_looked_at ["marks"]
  m_Roll_init : MethT K A.c_Roll "__init__" "Roll.__init__" s_Roll_init ["self", "rule", "day"] []
  f_greater : FunT K mg "greater" s_greater ["one", "other"]
  m_Roll_lift : MethT K A.c_Roll "lift" "Roll.lift" s_Roll_lift ["self", "edges"] []
  f_cell_at : FunT K mg "cell_at" s_cell_at ["rule", "edges", "time"]
  m_Roll_cell_of : MethT K A.c_Roll "cell_of" "Roll.cell_of" s_Roll_cell_of ["self", "time"] []
  f_poured : FunT K mg "poured" s_poured ["one", "other"]
  f_heap_of : FunT K mg "heap_of" s_heap_of ["runs"]
  m_Roll_pour : MethT K A.c_Roll "pour" "Roll.pour" s_Roll_pour ["self", "here", "heap"] []
  m_Roll_put : MethT K A.c_Roll "put" "Roll.put" s_Roll_put ["self", "time", "value", "many"] [V.int 1]
  f_roll_of : FunT K mg "roll_of" s_roll_of ["rule", "day", "edges", "readings"]
  m_Book_bare : MethT K A.c_Book "bare" "Book.bare" s_Book_bare ["self"] []
  m_Book_enrol : MethT K A.c_Book "enrol" "Book.enrol" s_Book_enrol ["self", "name", "marks"] [V.non]
  f_l_book : FunT K mg "_law_book" s_l_book ["_law_script"]
  f_sieve : FunT K mg "sieve" s_sieve ["text"]
  m_Book_names : MethT K A.c_Book "names" "Book.names" s_Book_names ["self"] []
  m_Book_sought : MethT K A.c_Book "sought" "Book.sought" s_Book_sought ["self", "name"] []
  m_Book_marks : MethT K A.c_Book "marks" "Book.marks" s_Book_marks ["self", "name"] []
  m_Book_chosen : MethT K A.c_Book "chosen" "Book.chosen" s_Book_chosen ["self", "lets"] []
  f_l_by_text : FunT K mg "_law_by_text" s_l_by_text ["_law_book_here", "_law_kept", "_law_wanted_one", "_law_signs"]
  f_l_own : FunT K mg "_law_own" s_l_own ["_law_mark_here", "_law_least", "_law_heard"]
  f_l_by_own : FunT K mg "_law_by_own" s_l_by_own ["_law_book_here", "_law_kept", "_law_mark_here", "_law_least"]
  b_len : mg "len" = none
  b_list : mg "list" = none
  b_range : mg "range" = none
  b_sorted : mg "sorted" = none
  b_isinstance : mg "isinstance" = none
  b_str : mg "str" = none
  b_all : mg "all" = none
  b_zip : mg "zip" = none
  b_min : mg "min" = none
  b_max : mg "max" = none
  k_MOST_STEPS : ∃ t, mg "MOST_STEPS" = some (.int 5 t)
  k_MOST_OF_NAME : ∃ t, mg "MOST_OF_NAME" = some (.int 12 t)
  k_SMALL : ∃ t, mg "SMALL" = some (.str ("abcdefghijklmnopqrstuvwxyz" : Str) t)
  k_MOST_MARKS : ∃ t, mg "MOST_MARKS" = some (.int 8 t)
  k_MOST_OF_MARK : ∃ t, mg "MOST_OF_MARK" = some (.int 8 t)
  ct_sieve : ∀ f, mg "sieve" = some (.ref f) → codeTab K f 252 = true
  ct_l_own : ∀ f, mg "_law_own" = some (.ref f) → codeTab K f 480 = true
structure TxtT (K : Frag) (mg : Str → Option Value) (A : Adr) (base : Heap) : Prop extends Txt K mg A where
  tbs : TabsB K base mg
section
variable {P : Program} {w : World} {K : Frag} {mg : Str → Option Value} {base : Heap} {A : Adr}
theorem sc_l_cell_at : FnScope ["_law_script", "_law_k"] ["_law_script", "_law_k"] (defScope s_l_cell_at) := fscope (by decide +kernel)
theorem g_l_cell_at (T : TxtT K mg A base) : GF P w K mg base 1 "_law_cell_at" [] (spE K mg (fun q : (List Int) × Int => [.scr (q.1.map D.int), .int q.2]) (fun q => F_l_cell_at q.1 q.2) D.int) := by
  refine T.f_l_cell_at.gf fun f fd F => fn_e F sc_l_cell_at (fun _ => rfl) fun X e1 e2 e3 e4 e5 B Fz q out hF hne => ?_
  subst e1 e2 e3 e4 e5
  have v0 : Ns X 0 "_law_script" := B.ns rfl rfl
  have v1 : Ns X 1 "_law_k" := B.ns rfl rfl
  obtain ⟨script1, k2⟩ := q
  replace hF : F_l_cell_at script1 k2 = out := hF
  unfold F_l_cell_at at hF
  change DS _ _ _ [some (.scr (script1.map D.int)), some (.int k2)] [] _
  refine ds_cons (ds1_if (dt_lt (dv_var v1.toNm rfl) (dv_lenM (g := D.int) (B.bn (x := "len") rfl T.b_len bt_len) (dv_var v0.toNm rfl) (.scr _))) (fun hh3 => ?_) (fun hh3 => ?_))
  ·
    replace hF := ite_t hF hh3
    obtain ⟨x4, hh5, hF⟩ := bindP_out hF hne
    refine ds_cons (ds1_retV (dv_ixS (dv_var v0.toNm rfl) (.scr _) (dv_var v1.toNm rfl) (ixE_out hh5 D.int)) ?_)
    exact ret_mk (enc := D.int) (M := []) hF
  ·
    replace hF := ite_f hF hh3
    refine ds_nil ?_
    refine ds_cons (ds1_retV dv_int ?_)
    exact ret_mk (enc := D.int) (M := []) hF
theorem c_l_cell_at {X : Cx} {kx : XD} {ρ : Ro} {M : Mem} {pos p : Pos} {e0 e1 : Expr} {script1 : List Int} {k2 : Int} {r : Int} (T : TxtT X.K X.mg A X.base) (hr : Room 1 X.A) (hg : Gl X "_law_cell_at") (h0 : DV X kx e0 ρ M (.scr (script1.map D.int))) (h1 : DV X kx e1 ρ M (.int k2)) (hF : F_l_cell_at script1 k2 = .ok r) (he0 : starEach [e0, e1] X.env = (false, eval e0 X.env) :: starEach [e1] X.env := by rfl) (he1 : starEach [e1] X.env = (false, eval e1 X.env) :: starEach [] X.env := by rfl) (hpl : (backTo pos (starEach [e1] X.env)).any (·.1) = false := by rfl) : DV X kx (.Call (.Name "_law_cell_at" p) [e0, e1] [] pos) ρ M (.int r) :=
  dv_call (g_l_cell_at T) hr hg (da_cons h0 (da_cons h1 da_nil he1) he0) (script1, k2) rfl (fun h => Ex.ok_ne r (hF.symm.trans h)) (fun d ⟨r', a1, a2⟩ => by cases hF.symm.trans a1; exact a2) (fun cls fs ⟨n, a1, _⟩ => by cases hF.symm.trans a1) (by decide) he0 hpl
theorem sc_Rule_init : FnScope ["self", "steps", "gone", "old", "broad", "age", "width"] ["self", "steps", "gone"] (defScope s_Rule_init) := fscope (by decide +kernel)
theorem f_Rule_init (T : TxtT K mg A base) {f : Addr} {fd : FuncData} (F : FunD K "__init__" "Rule.__init__" (defArgs s_Rule_init) (defBody s_Rule_init) (defScope s_Rule_init) [V.non] [] f fd) : FnOk P w K mg base (L2.CX P w) 1 f fd ["self", "steps", "gone"] (spI K mg A.c_Rule ["row", "end"] (fun q : (List (Int × Int)) × (Option Int) => [.lst (q.1.map dk_T2II), dOpt D.int q.2]) (fun q => F_Rule_init q.1 q.2) (fun t : (List (Int × Int)) × (Option Int) => [.lst (t.1.map dk_T2II), dOpt D.int t.2])) := by
  refine fn_i F sc_Rule_init (fun _ => rfl) fun X e1 e2 e3 e4 e5 B Fz w1 q out hF hne => ?_
  subst e1 e2 e3 e4 e5
  have v0 : Ns X 0 "self" := B.ns rfl rfl
  have v1 : Ns X 1 "steps" := B.ns rfl rfl
  have v2 : Ns X 2 "gone" := B.ns rfl rfl
  have v3 : Ns X 3 "old" := B.ns rfl rfl
  have v4 : Ns X 4 "broad" := B.ns rfl rfl
  have v5 : Ns X 5 "age" := B.ns rfl rfl
  have v6 : Ns X 6 "width" := B.ns rfl rfl
  obtain ⟨steps1, gone2⟩ := q
  replace hF : F_Rule_init steps1 gone2 = out := hF
  unfold F_Rule_init at hF
  change DS _ _ _ [some (.adr w1), some (.lst (steps1.map dk_T2II)), some (dOpt D.int gone2), none, none, none, none] [(w1, Mu.ins A.c_Rule [] [])] _
  refine ds_cons (ds1_if (dt_not (dt_chain op_le op_le dv_int (dv_lenM (g := dk_T2II) (B.bn (x := "len") rfl T.b_len bt_len) (dv_var v1.toNm rfl) (.lst _)) (T.k_MOST_STEPS.elim fun _ h => dv_gint (B.gl (x := "MOST_STEPS") rfl) h ⟨_, rfl⟩))) (fun hh3 => ?_) (fun hh3 => ?_))
  ·
    replace hF := ite_t hF hh3
    exact ds_cons (ds1_raise B.calm T.x_NoRule (B.gl (x := "NoRule") rfl) fun cls hm => (kx_exc hF hm))
  ·
    replace hF := ite_f hF hh3
    refine ds_nil ?_
    refine ds_cons (ds1_fldL (i := 0) T.cl_Rule.cl (T.cl_Rule.na "row" (by simp)) da_nil (szN 0 rfl) (fun _ => (dv_var v0.toNm rfl)) rfl (by decide) fun w4 n_w4 => ⟨_, rfl, ?_⟩)
    change DS _ _ _ [some (.adr w1), some (.lst (steps1.map dk_T2II)), some (dOpt D.int gone2), none, none, none, none] [(w4, Mu.lst (([] : List (Int × Int)).map dk_T2II)), (w1, Mu.ins A.c_Rule ["row"] [D.adr w4])] _
    refine ds_cons (ds1_set v3 dv_int ?_)
    change DS _ _ _ [some (.adr w1), some (.lst (steps1.map dk_T2II)), some (dOpt D.int gone2), some (.int 0), none, none, none] [(w4, Mu.lst (([] : List (Int × Int)).map dk_T2II)), (w1, Mu.ins A.c_Rule ["row"] [D.adr w4])] _
    refine ds_cons (ds1_set v4 dv_int ?_)
    change DS _ _ _ [some (.adr w1), some (.lst (steps1.map dk_T2II)), some (dOpt D.int gone2), some (.int 0), some (.int 1), none, none] [(w4, Mu.lst (([] : List (Int × Int)).map dk_T2II)), (w1, Mu.ins A.c_Rule ["row"] [D.adr w4])] _
    obtain ⟨o25, hh26, hh27, hF⟩ := bindX_cut hF hne
    refine ds_cons (ds1_foldE (enc := dk_T2II) B (fun (z : Int × Int × (List (Int × Int))) => [some (.adr w1), some (.lst (steps1.map dk_T2II)), some (dOpt D.int gone2), some (.int z.1), some (.int z.2.1), none, none]) (fun (z : Int × Int × (List (Int × Int))) => [(w4, Mu.lst (z.2.2.map dk_T2II)), (w1, Mu.ins A.c_Rule ["row"] [D.adr w4])]) hh26 hh27 (di_list (dv_var v1.toNm rfl)) ⟨.inr rfl, .inr rfl, .inr rfl, .inr rfl, .inr rfl, .inl rfl, .inl rfl, trivial⟩ rfl ?hso25 ?hdo25 ?hxo25 then_fgt)
    case hso25 =>
      clear hF
      rintro ⟨old5, broad6, row7⟩ x8 o9 _ hF hne
      refine ⟨_, _, (dg_tup B.calm (dgs_cons (dg_name v5) (dgs_cons (dg_name v6) dgs_nil))), ?_⟩
      change DS _ _ _ [some (.adr w1), some (.lst (steps1.map dk_T2II)), some (dOpt D.int gone2), some (.int old5), some (.int broad6), some (.int x8.1), some (.int x8.2)] [(w4, Mu.lst (row7.map dk_T2II)), (w1, Mu.ins A.c_Rule ["row"] [D.adr w4])] _
      obtain ⟨b13, hh14, hF⟩ := bindP_out hF hne
      refine ds_cons (ds1_if (DW.t (dw_orE hh14 (dt_lt (dv_var v5.toNm rfl) (dv_var v3.toNm rfl)) fun _ _ hF => (by obtain ⟨b11, hh12, hF⟩ := bindP_out hF (Ex.ok_ne _); cases hF; exact (dw_orE hh12 (dt_lt (dv_var v6.toNm rfl) dv_int) fun _ _ hF => (by obtain ⟨hh10, hF⟩ := gd_out hF (Ex.ok_ne _); cases hF; exact (dw_or1 (dt_nei (dv_mod (dv_var v6.toNm rfl) (dv_var v4.toNm rfl) hh10) dv_int))))))) (fun hh15 => ?_) (fun hh15 => ?_))
      ·
        replace hF := ite_t hF hh15
        exact ds_cons (ds1_raise B.calm T.x_NoRule (B.gl (x := "NoRule") rfl) fun cls hm => (kx_exc hF hm))
      ·
        replace hF := ite_f hF hh15
        refine ds_nil ?_
        refine ds_cons (ds1_set v3 (dv_var v5.toNm rfl) ?_)
        change DS _ _ _ [some (.adr w1), some (.lst (steps1.map dk_T2II)), some (dOpt D.int gone2), some (.int x8.1), some (.int broad6), some (.int x8.1), some (.int x8.2)] [(w4, Mu.lst (row7.map dk_T2II)), (w1, Mu.ins A.c_Rule ["row"] [D.adr w4])] _
        refine ds_cons (ds1_set v4 (dv_var v6.toNm rfl) ?_)
        change DS _ _ _ [some (.adr w1), some (.lst (steps1.map dk_T2II)), some (dOpt D.int gone2), some (.int x8.1), some (.int x8.2), some (.int x8.1), some (.int x8.2)] [(w4, Mu.lst (row7.map dk_T2II)), (w1, Mu.ins A.c_Rule ["row"] [D.adr w4])] _
        obtain ⟨hh16, hF⟩ := gd_out hF hne
        refine ds_cons (ds1_appM (g := dk_T2II) (xs := row7) (v := (x8.1, x8.2)) 0 (dv_fld T.cl_Rule.cl (T.cl_Rule.na "row" (by simp)) (dv_var v0.toNm rfl) (.adr (List.mem_of_getElem? (i := 1) (show _ = some (w1, Mu.ins A.c_Rule ["row"] [D.adr w4]) from rfl))) rfl) (show DV _ _ _ _ _ (dk_T2II (x8.1, x8.2)) from dv_tup (da_cons (dv_var v5.toNm rfl) (da_cons (dv_var v6.toNm rfl) da_nil)) (szN 2 rfl)) rfl hh16 ?_)
        change DS _ _ _ [some (.adr w1), some (.lst (steps1.map dk_T2II)), some (dOpt D.int gone2), some (.int x8.1), some (.int x8.2), some (.int x8.1), some (.int x8.2)] [(w4, Mu.lst ((row7 ++ [(x8.1, x8.2)]).map dk_T2II)), (w1, Mu.ins A.c_Rule ["row"] [D.adr w4])] _
        refine ds_nil ?_
        exact fold_nx hF ⟨.inr rfl, .inr rfl, .inr rfl, .inr rfl, .inr rfl, .inl rfl, .inl rfl, trivial⟩ rfl
    case hdo25 =>
      rintro ⟨old17, broad18, row19⟩ rfl
      replace hF := okE hF
      change DS _ _ _ [some (.adr w1), some (.lst (steps1.map dk_T2II)), some (dOpt D.int gone2), some (.int old17), some (.int broad18), none, none] [(w4, Mu.lst (row19.map dk_T2II)), (w1, Mu.ins A.c_Rule ["row"] [D.adr w4])] _
      obtain ⟨b22, hh23, hF⟩ := bindP_out hF hne
      refine ds_cons (ds1_if (DW.t (dw_andE hh23 (dt_notNO (fun _ => rfl) (dv_var v2.toNm rfl)) fun _ _ hF => (by obtain ⟨gone20, hh21, hF⟩ := bindP_out hF (Ex.ok_ne _); cases hF; exact (dw_and1 (dt_lt (dv_un (enc := D.int) (dv_var v2.toNm rfl) hh21) (dv_var v3.toNm rfl)))))) (fun hh24 => ?_) (fun hh24 => ?_))
      ·
        replace hF := ite_t hF hh24
        exact ds_cons (ds1_raise B.calm T.x_NoRule (B.gl (x := "NoRule") rfl) fun cls hm => (kx_exc hF hm))
      ·
        replace hF := ite_f hF hh24
        refine ds_nil ?_
        refine ds_cons (ds1_fld (i := 1) T.cl_Rule.cl (T.cl_Rule.na "end" (by simp)) (dv_var v2.toNm rfl) (dv_var v0.toNm rfl) rfl (by decide) rfl ?_)
        change DS _ _ _ [some (.adr w1), some (.lst (steps1.map dk_T2II)), some (dOpt D.int gone2), some (.int old17), some (.int broad18), none, none] [(w4, Mu.lst (row19.map dk_T2II)), (w1, Mu.ins A.c_Rule ["row", "end"] [D.adr w4, dOpt D.int gone2])] _
        refine ds_frzF 0 0 0 rfl rfl rfl ?_
        change DS _ _ _ [some (.adr w1), some (.lst (steps1.map dk_T2II)), some (dOpt D.int gone2), some (.int old17), some (.int broad18), none, none] [(w1, Mu.ins A.c_Rule ["row", "end"] [.lst (row19.map dk_T2II), dOpt D.int gone2])] _
        refine ds_nil ?_
        exact init_nx hF rfl
    case hxo25 =>
      rintro cls fs _ _ ⟨n, rfl, e2⟩
      exact kx_exc hF e2
theorem gc_Rule_init_1 (T : TxtT K mg A base) : GC P w K mg base 1 A.c_Rule [D.non] (spI K mg A.c_Rule ["row", "end"] (fun q : (List (Int × Int)) × (Option Int) => [.lst (q.1.map dk_T2II), dOpt D.int q.2]) (fun q => F_Rule_init q.1 q.2) (fun t : (List (Int × Int)) × (Option Int) => [.lst (t.1.map dk_T2II), dOpt D.int t.2])) := T.m_Rule_init.gc T.cl_Rule 0 (by decide) _ (fun _ _ e => by subst e; exact (.cons .non .nil)) fun _ _ F => f_Rule_init T F
theorem k_Rule_init_1 {X : Cx} {kx : XD} {ρ : Ro} {M : Mem} {pos p : Pos} {e0 : Expr} {steps1 : List (Int × Int)} {r : (List (Int × Int)) × (Option Int)} (T : TxtT X.K X.mg A X.base) (hr : Room 2 X.A) (hg : Gl X "Rule") (h0 : DV X kx e0 ρ M (.lst (steps1.map dk_T2II))) (hF : F_Rule_init steps1 none = .ok r) (he0 : starEach [e0] X.env = (false, eval e0 X.env) :: starEach [] X.env := by rfl) (hpl : (backTo pos (starEach [] X.env)).any (·.1) = false := by rfl) : DV X kx (.Call (.Name "Rule" p) [e0] [] pos) ρ M ((dk_CRule A) r) :=
  dv_make (args := (fun q : (List (Int × Int)) × (Option Int) => [.lst (q.1.map dk_T2II), dOpt D.int q.2])) (F := (fun q => F_Rule_init q.1 q.2)) (encs := (fun t : (List (Int × Int)) × (Option Int) => [.lst (t.1.map dk_T2II), dOpt D.int t.2])) (gc_Rule_init_1 T) hr hg T.cl_Rule.gC (da_cons h0 da_nil he0) (steps1, none) rfl hF (by decide) he0 hpl
theorem sc_Rule_steps : FnScope ["self"] ["self"] (defScope s_Rule_steps) := fscope (by decide +kernel)
theorem g_Rule_steps (T : TxtT K mg A base) : GM P w K mg base 1 A.c_Rule "steps" [] (spE K mg (fun q : (List (Int × Int)) × (Option Int) => [(dk_CRule A) q]) (fun q => F_Rule_steps q) dk_LT2II) := by
  refine T.m_Rule_steps.gm 0 (by decide) [] (fun _ _ e => by subst e; exact .nil) fun f fd F => fn_eD F sc_Rule_steps (fun _ => rfl) fun X e1 e2 e3 e4 e5 B Fz self1 out hF hne => ?_
  subst e1 e2 e3 e4 e5
  have v0 : Ns X 0 "self" := B.ns rfl rfl
  replace hF : F_Rule_steps self1 = out := hF
  unfold F_Rule_steps at hF
  change DS _ _ _ [some ((dk_CRule A) self1)] [] _
  refine ds_cons (ds1_retV (dv_list (B.bn (x := "list") rfl T.b_list bt_list) (dv_fld T.cl_Rule.cl (T.cl_Rule.na "row" (by simp)) (dv_var v0.toNm rfl) (.ins _ _ _) rfl) (.lst _)) ?_)
  exact ret_mk (enc := dk_LT2II) (M := []) hF
theorem c_Rule_steps {X : Cx} {kx : XD} {ρ : Ro} {M : Mem} {pos apos : Pos} {pl : Sem Bool} {o  : Expr} {self1 : (List (Int × Int)) × (Option Int)} {r : List (Int × Int)} (T : TxtT X.K X.mg A X.base) (hr : Room 1 X.A) (ho : DV X kx o ρ M ((dk_CRule A) self1))  (hF : F_Rule_steps self1 = .ok r)   (ht : eval (.Call (.Attribute o "steps" apos) [] [] pos) X.env = (do
      let ov ← eval o X.env
      standAt apos.atName
      let (f, first) ← holding [ov] (getMethod ov "steps" pl)
      callWith pos f first (backTo pos (starEach [] X.env)) (backToKw pos (keywordEach [] X.env))) := by rfl) : DV X kx (.Call (.Attribute o "steps" apos) [] [] pos) ρ M (.lst (r.map dk_T2II)) :=
  dv_meth0 T.cl_Rule.cl (g_Rule_steps T) hr ho (.ins _ _ _) self1 rfl (fun h => Ex.ok_ne r (hF.symm.trans h)) (fun d ⟨r', a1, a2⟩ => by cases hF.symm.trans a1; exact a2) (fun cls fs ⟨n, a1, _⟩ => by cases hF.symm.trans a1) rfl ht
theorem sc_cut_at : FnScope ["age", "width", "day"] ["age", "width", "day"] (defScope s_cut_at) := fscope (by decide +kernel)
theorem g_cut_at (T : TxtT K mg A base) : GF P w K mg base 1 "cut_at" [] (spE K mg (fun q : Int × Int × Int => [.int q.1, .int q.2.1, .int q.2.2]) (fun q => F_cut_at q.1 q.2.1 q.2.2) D.int) := by
  refine T.f_cut_at.gf fun f fd F => fn_e F sc_cut_at (fun _ => rfl) fun X e1 e2 e3 e4 e5 B Fz q out hF hne => ?_
  subst e1 e2 e3 e4 e5
  have v0 : Ns X 0 "age" := B.ns rfl rfl
  have v1 : Ns X 1 "width" := B.ns rfl rfl
  have v2 : Ns X 2 "day" := B.ns rfl rfl
  obtain ⟨age1, width2, day3⟩ := q
  replace hF : F_cut_at age1 width2 day3 = out := hF
  unfold F_cut_at at hF
  change DS _ _ _ [some (.int age1), some (.int width2), some (.int day3)] [] _
  obtain ⟨hh4, hF⟩ := gd_out hF hne
  obtain ⟨hh5, hF⟩ := gd_out hF hne
  refine ds_cons (ds1_retV (dv_mulX (dv_fdiv (dv_sub (dv_var v2.toNm rfl) (dv_var v0.toNm rfl)) (dv_var v1.toNm rfl) (div_k hh4)) (dv_var v1.toNm rfl) hh5) ?_)
  exact ret_mk (enc := D.int) (M := []) hF
theorem c_cut_at {X : Cx} {kx : XD} {ρ : Ro} {M : Mem} {pos p : Pos} {e0 e1 e2 : Expr} {age1 : Int} {width2 : Int} {day3 : Int} {r : Int} (T : TxtT X.K X.mg A X.base) (hr : Room 1 X.A) (hg : Gl X "cut_at") (h0 : DV X kx e0 ρ M (.int age1)) (h1 : DV X kx e1 ρ M (.int width2)) (h2 : DV X kx e2 ρ M (.int day3)) (hF : F_cut_at age1 width2 day3 = .ok r) (he0 : starEach [e0, e1, e2] X.env = (false, eval e0 X.env) :: starEach [e1, e2] X.env := by rfl) (he1 : starEach [e1, e2] X.env = (false, eval e1 X.env) :: starEach [e2] X.env := by rfl) (he2 : starEach [e2] X.env = (false, eval e2 X.env) :: starEach [] X.env := by rfl) (hpl : (backTo pos (starEach [e1, e2] X.env)).any (·.1) = false := by rfl) : DV X kx (.Call (.Name "cut_at" p) [e0, e1, e2] [] pos) ρ M (.int r) :=
  dv_call (g_cut_at T) hr hg (da_cons h0 (da_cons h1 (da_cons h2 da_nil he2) he1) he0) (age1, width2, day3) rfl (fun h => Ex.ok_ne r (hF.symm.trans h)) (fun d ⟨r', a1, a2⟩ => by cases hF.symm.trans a1; exact a2) (fun cls fs ⟨n, a1, _⟩ => by cases hF.symm.trans a1) (by decide) he0 hpl
theorem sc_Rule_gone : FnScope ["self"] ["self"] (defScope s_Rule_gone) := fscope (by decide +kernel)
theorem g_Rule_gone (T : TxtT K mg A base) : GM P w K mg base 1 A.c_Rule "gone" [] (spE K mg (fun q : (List (Int × Int)) × (Option Int) => [(dk_CRule A) q]) (fun q => F_Rule_gone q) (dOpt D.int)) := by
  refine T.m_Rule_gone.gm 0 (by decide) [] (fun _ _ e => by subst e; exact .nil) fun f fd F => fn_eD F sc_Rule_gone (fun _ => rfl) fun X e1 e2 e3 e4 e5 B Fz self1 out hF hne => ?_
  subst e1 e2 e3 e4 e5
  have v0 : Ns X 0 "self" := B.ns rfl rfl
  replace hF : F_Rule_gone self1 = out := hF
  unfold F_Rule_gone at hF
  change DS _ _ _ [some ((dk_CRule A) self1)] [] _
  refine ds_cons (ds1_retV (dv_fld T.cl_Rule.cl (T.cl_Rule.na "end" (by simp)) (dv_var v0.toNm rfl) (.ins _ _ _) rfl) ?_)
  exact ret_mk (enc := (dOpt D.int)) (M := []) hF
theorem c_Rule_gone {X : Cx} {kx : XD} {ρ : Ro} {M : Mem} {pos apos : Pos} {pl : Sem Bool} {o  : Expr} {self1 : (List (Int × Int)) × (Option Int)} {r : Option Int} (T : TxtT X.K X.mg A X.base) (hr : Room 1 X.A) (ho : DV X kx o ρ M ((dk_CRule A) self1))  (hF : F_Rule_gone self1 = .ok r)   (ht : eval (.Call (.Attribute o "gone" apos) [] [] pos) X.env = (do
      let ov ← eval o X.env
      standAt apos.atName
      let (f, first) ← holding [ov] (getMethod ov "gone" pl)
      callWith pos f first (backTo pos (starEach [] X.env)) (backToKw pos (keywordEach [] X.env))) := by rfl) : DV X kx (.Call (.Attribute o "gone" apos) [] [] pos) ρ M (dOpt D.int r) :=
  dv_meth0 T.cl_Rule.cl (g_Rule_gone T) hr ho (.ins _ _ _) self1 rfl (fun h => Ex.ok_ne r (hF.symm.trans h)) (fun d ⟨r', a1, a2⟩ => by cases hF.symm.trans a1; exact a2) (fun cls fs ⟨n, a1, _⟩ => by cases hF.symm.trans a1) rfl ht
theorem sc_edges_at : FnScope ["rule", "day", "found", "age", "width"] ["rule", "day"] (defScope s_edges_at) := fscope (by decide +kernel)
theorem g_edges_at (T : TxtT K mg A base) : GF P w K mg base 2 "edges_at" [] (spE K mg (fun q : ((List (Int × Int)) × (Option Int)) × Int => [(dk_CRule A) q.1, .int q.2]) (fun q => F_edges_at q.1 q.2) dk_LOI) := by
  refine T.f_edges_at.gf fun f fd F => fn_e F sc_edges_at (fun _ => rfl) fun X e1 e2 e3 e4 e5 B Fz q out hF hne => ?_
  subst e1 e2 e3 e4 e5
  have v0 : Ns X 0 "rule" := B.ns rfl rfl
  have v1 : Ns X 1 "day" := B.nc Fz rfl rfl
  have v2 : Ns X 2 "found" := B.ns rfl rfl
  obtain ⟨rule1, day2⟩ := q
  replace hF : F_edges_at rule1 day2 = out := hF
  unfold F_edges_at at hF
  change DS _ _ _ [some ((dk_CRule A) rule1), some (.int day2), none, none, none] [] _
  obtain ⟨r3, hh4, hF⟩ := bindP_out hF hne
  obtain ⟨hh9, hF⟩ := gd_out hF hne
  obtain ⟨ys10, hh11, hF⟩ := bindP_out hF hne
  refine ds_cons (ds1_setLcE (own := [("age", 3), ("width", 4)]) B v2 (di_list (c_Rule_steps T (B.room.mono (by decide)) (dv_var v0.toNm rfl) hh4)) (blkOk_by (by decide +kernel)) (sz_lt hh9) (fun u5 hx => ⟨_, _, fun _ h => h, fun _ _ _ _ _ _ _ B6 => ⟨(dg_tup B6.calm (dgs_cons (dg_name (B6.ns (i := 3) rfl rfl)) (dgs_cons (dg_name (B6.ns (i := 4) rfl rfl)) dgs_nil))), lcb_E (enc := D.int) ((compE_out hh11).2 u5 hx) (fun _ hF => (by cases hF; exact dts_nil)) fun _ hF => (by obtain ⟨r7, hh8, hF⟩ := bindP_out hF (Ex.ok_ne _); cases hF; exact (c_cut_at T (B6.room.mono (by decide)) (B6.gl (x := "cut_at") rfl) (dv_var (B6.nm (i := 3) rfl (vloc rfl)) rfl) (dv_var (B6.nm (i := 4) rfl (vloc rfl)) rfl) (dv_var (B6.nm (i := 1) rfl (vcel rfl)) rfl) hh8))⟩⟩) (outs_E D.int (compE_out hh11).1) ?_)
  change DS _ _ _ [some ((dk_CRule A) rule1), some (.int day2), some (.lst (ys10.map D.int)), none, none] [] _
  obtain ⟨r12, hh13, hF⟩ := bindP_out hF hne
  refine ds_cons (ds1_if (dt_isNO (fun _ => rfl) (c_Rule_gone T (B.room.mono (by decide)) (dv_var v0.toNm rfl) hh13)) (fun hh14 => ?_) (fun hh14 => ?_))
  ·
    replace hF := ite_t hF hh14
    obtain ⟨hh15, hF⟩ := gd_out hF hne
    refine ds_cons (ds1_retV (dv_catM (g := (dOpt D.int)) (DV.is (dv_var v2.toNm rfl) (show _ = .lst ((ys10.map fun x => (some x)).map (dOpt D.int)) from (coeL _ fun _ => rfl))) (DV.is (show DV _ _ _ _ _ (.lst ([()].map dk_N)) from dv_lst (da_cons dv_non da_nil) (szN 1 rfl)) (show _ = .lst (([none] : List (Option Int)).map (dOpt D.int)) from rfl)) (.lst _) (.lst _) (sz_le hh15)) ?_)
    exact ret_mk (enc := dk_LOI) (M := []) hF
  ·
    replace hF := ite_f hF hh14
    refine ds_nil ?_
    obtain ⟨r16, hh17, hF⟩ := bindP_out hF hne
    obtain ⟨r18, hh19, hF⟩ := bindP_out hF hne
    obtain ⟨x20, hh21, hF⟩ := bindP_out hF hne
    obtain ⟨o22, hh23, hF⟩ := bindP_out hF hne
    obtain ⟨r24, hh25, hF⟩ := bindP_out hF hne
    obtain ⟨hh26, hF⟩ := gd_out hF hne
    refine ds_cons (ds1_retV (DV.is (dv_catM (g := D.int) (dv_var v2.toNm rfl) (show DV _ _ _ _ _ (.lst ([r24].map D.int)) from dv_lst (da_cons (c_cut_at T (B.room.mono (by decide)) (B.gl (x := "cut_at") rfl) (dv_un (enc := D.int) (c_Rule_gone T (B.room.mono (by decide)) (dv_var v0.toNm rfl) hh17) hh23) (dv_ixT (show DV _ _ _ _ _ (.tup [.int x20.1, .int x20.2]) from (dv_ixS (c_Rule_steps T (B.room.mono (by decide)) (dv_var v0.toNm rfl) hh19) (.lst _) (DV.is (dv_neg dv_int) (show D.int _ = D.int (-1) from congrArg D.int (by decide))) (ixE_out hh21 dk_T2II))) dv_int rfl) (dv_var v1.toNm rfl) hh25) da_nil) (szN 1 rfl)) (.lst _) (.lst _) (sz_le hh26)) (show _ = .lst (((ys10 ++ [r24]).map fun x => (some x)).map (dOpt D.int)) from (coeL _ fun _ => rfl))) ?_)
    exact ret_mk (enc := dk_LOI) (M := []) hF
theorem c_edges_at {X : Cx} {kx : XD} {ρ : Ro} {M : Mem} {pos p : Pos} {e0 e1 : Expr} {rule1 : (List (Int × Int)) × (Option Int)} {day2 : Int} {r : List (Option Int)} (T : TxtT X.K X.mg A X.base) (hr : Room 2 X.A) (hg : Gl X "edges_at") (h0 : DV X kx e0 ρ M ((dk_CRule A) rule1)) (h1 : DV X kx e1 ρ M (.int day2)) (hF : F_edges_at rule1 day2 = .ok r) (he0 : starEach [e0, e1] X.env = (false, eval e0 X.env) :: starEach [e1] X.env := by rfl) (he1 : starEach [e1] X.env = (false, eval e1 X.env) :: starEach [] X.env := by rfl) (hpl : (backTo pos (starEach [e1] X.env)).any (·.1) = false := by rfl) : DV X kx (.Call (.Name "edges_at" p) [e0, e1] [] pos) ρ M (.lst (r.map (dOpt D.int))) :=
  dv_call (g_edges_at T) hr hg (da_cons h0 (da_cons h1 da_nil he1) he0) (rule1, day2) rfl (fun h => Ex.ok_ne r (hF.symm.trans h)) (fun d ⟨r', a1, a2⟩ => by cases hF.symm.trans a1; exact a2) (fun cls fs ⟨n, a1, _⟩ => by cases hF.symm.trans a1) (by decide) he0 hpl
theorem sc_Book_init : FnScope ["self", "rule", "day"] ["self", "rule", "day"] (defScope s_Book_init) := fscope (by decide +kernel)
theorem f_Book_init (T : TxtT K mg A base) {f : Addr} {fd : FuncData} (F : FunD K "__init__" "Book.__init__" (defArgs s_Book_init) (defBody s_Book_init) (defScope s_Book_init) [] [] f fd) : FnOk P w K mg base (L2.CX P w) 3 f fd ["self", "rule", "day"] (spJ K mg A.c_Book (fun q : ((List (Int × Int)) × (Option Int)) × Int => [(dk_CRule A) q.1, .int q.2]) (fun q => F_Book_init q.1 q.2) (is_Book A)) := by
  refine fn_j F sc_Book_init (fun _ => rfl) fun X e1 e2 e3 e4 e5 B Fz w1 q out hF hne => ?_
  subst e1 e2 e3 e4 e5
  have v0 : Ns X 0 "self" := B.ns rfl rfl
  have v1 : Ns X 1 "rule" := B.ns rfl rfl
  have v2 : Ns X 2 "day" := B.ns rfl rfl
  obtain ⟨rule1, day2⟩ := q
  replace hF : F_Book_init rule1 day2 = out := hF
  unfold F_Book_init at hF
  change DS _ _ _ [some (.adr w1), some ((dk_CRule A) rule1), some (.int day2)] [(w1, Mu.ins A.c_Book [] [])] _
  refine ds_cons (ds1_fld (i := 0) T.cl_Book.cl (T.cl_Book.na "ruling" (by simp)) (dv_var v1.toNm rfl) (dv_var v0.toNm rfl) rfl (by decide) rfl ?_)
  change DS _ _ _ [some (.adr w1), some ((dk_CRule A) rule1), some (.int day2)] [(w1, Mu.ins A.c_Book ["ruling"] [(dk_CRule A) rule1])] _
  refine ds_cons (ds1_fld (i := 0) T.cl_Book.cl (T.cl_Book.na "today" (by simp)) (dv_var v2.toNm rfl) (dv_var v0.toNm rfl) rfl (by decide) rfl ?_)
  change DS _ _ _ [some (.adr w1), some ((dk_CRule A) rule1), some (.int day2)] [(w1, Mu.ins A.c_Book ["ruling", "today"] [(dk_CRule A) rule1, .int day2])] _
  obtain ⟨r3, hh4, hF⟩ := bindP_out hF hne
  refine ds_cons (ds1_fld (i := 0) T.cl_Book.cl (T.cl_Book.na "limits" (by simp)) (c_edges_at T (B.room.mono (by decide)) (B.gl (x := "edges_at") rfl) (dv_var v1.toNm rfl) (dv_var v2.toNm rfl) hh4) (dv_var v0.toNm rfl) rfl (by decide) rfl ?_)
  change DS _ _ _ [some (.adr w1), some ((dk_CRule A) rule1), some (.int day2)] [(w1, Mu.ins A.c_Book ["ruling", "today", "limits"] [(dk_CRule A) rule1, .int day2, .lst (r3.map (dOpt D.int))])] _
  refine ds_cons (ds1_fldD (i := 0) (ns' := ["ruling", "today", "limits", "rolls"]) (mu := .dK []) (.inr rfl) T.cl_Book.cl (T.cl_Book.na "rolls" (by simp)) (fun _ => (dv_var v0.toNm rfl)) rfl (by decide) fun w5 hh6 => ⟨[(dk_CRule A) rule1, .int day2, .lst (r3.map (dOpt D.int)), D.adr w5], rfl, ?_⟩)
  change DS _ _ _ [some (.adr w1), some ((dk_CRule A) rule1), some (.int day2)] [(w5, Mu.dK (([] : List (Str × D)).map fun q => (ek_S q.1, dD q.2))), (w1, Mu.ins A.c_Book ["ruling", "today", "limits", "rolls"] [(dk_CRule A) rule1, .int day2, .lst (r3.map (dOpt D.int)), D.adr w5])] _
  refine ds_cons (ds1_fldD (i := 1) (ns' := ["ruling", "today", "limits", "rolls", "signs"]) (mu := .dK []) (.inr rfl) T.cl_Book.cl (T.cl_Book.na "signs" (by simp)) (fun _ => (dv_var v0.toNm rfl)) rfl (by decide) fun w7 hh8 => ⟨[(dk_CRule A) rule1, .int day2, .lst (r3.map (dOpt D.int)), D.adr w5, D.adr w7], rfl, ?_⟩)
  change DS _ _ _ [some (.adr w1), some ((dk_CRule A) rule1), some (.int day2)] [(w7, Mu.dK (([] : List (Str × (List Str))).map fun q => (ek_S q.1, dk_LS q.2))), (w5, Mu.dK (([] : List (Str × D)).map fun q => (ek_S q.1, dD q.2))), (w1, Mu.ins A.c_Book ["ruling", "today", "limits", "rolls", "signs"] [(dk_CRule A) rule1, .int day2, .lst (r3.map (dOpt D.int)), D.adr w5, D.adr w7])] _
  refine DS.perm (List.Perm.trans (pe_c (pe_c (.refl _))) (pm_c (List.Perm.trans (pe_c (.refl _)) (pm_c (.refl _))))) ?_
  change DS _ _ _ [some (.adr w1), some ((dk_CRule A) rule1), some (.int day2)] [(w1, Mu.ins A.c_Book ["ruling", "today", "limits", "rolls", "signs"] [(dk_CRule A) rule1, .int day2, .lst (r3.map (dOpt D.int)), D.adr w5, D.adr w7]), (w5, Mu.dK (([] : List (Str × D)).map fun q => (ek_S q.1, dD q.2))), (w7, Mu.dK (([] : List (Str × (List Str))).map fun q => (ek_S q.1, dk_LS q.2)))] _
  obtain ⟨m9, h9, p9⟩ := close_Book (own_BookR.mpr ⟨w1, w5, w7, rfl, rfl⟩) OwD.nil List.nodup_nil
  refine DS.perm (List.Perm.trans (by rw [List.append_nil]) p9) ?_
  refine ds_nil ?_
  exact initR_nx hF h9
theorem gc_Book_init_0 (T : TxtT K mg A base) : GC P w K mg base 3 A.c_Book [] (spJ K mg A.c_Book (fun q : ((List (Int × Int)) × (Option Int)) × Int => [(dk_CRule A) q.1, .int q.2]) (fun q => F_Book_init q.1 q.2) (is_Book A)) := T.m_Book_init.gc T.cl_Book 0 (by decide) _ (fun _ _ e => by subst e; exact .nil) fun _ _ F => f_Book_init T F
theorem k_Book_init_0 {X : Cx} {kx : XD} {ρ : Ro} {M : Mem} {pos p : Pos} {e0 e1 : Expr} {rule1 : (List (Int × Int)) × (Option Int)} {day2 : Int} {r : TBook} (T : TxtT X.K X.mg A X.base) (hr : Room 4 X.A) (hg : Gl X "Book") (h0 : DV X kx e0 ρ M ((dk_CRule A) rule1)) (h1 : DV X kx e1 ρ M (.int day2)) (hF : F_Book_init rule1 day2 = .ok r) (he0 : starEach [e0, e1] X.env = (false, eval e0 X.env) :: starEach [e1] X.env := by rfl) (he1 : starEach [e1] X.env = (false, eval e1 X.env) :: starEach [] X.env := by rfl) (hpl : (backTo pos (starEach [e1] X.env)).any (·.1) = false := by rfl) : DN X kx (.Call (.Name "Book" p) [e0, e1] [] pos) ρ M (OwR (is_Book A) r) :=
  dn_makeJ (gc_Book_init_0 T) hr hg T.cl_Book.gC (da_cons h0 (da_cons h1 da_nil he1) he0) (rule1, day2) rfl hF (by decide) he0 hpl
theorem sc_l_mixed : FnScope ["_law_draw", "_law_k", "_law_number"] ["_law_draw", "_law_k"] (defScope s_l_mixed) := fscope (by decide +kernel)
theorem g_l_mixed (T : TxtT K mg A base) : GF P w K mg base 1 "_law_mixed" [] (spE K mg (fun q : Int × Int => [.int q.1, .int q.2]) (fun q => F_l_mixed q.1 q.2) D.int) := by
  refine T.f_l_mixed.gf fun f fd F => fn_e F sc_l_mixed (fun _ => rfl) fun X e1 e2 e3 e4 e5 B Fz q out hF hne => ?_
  subst e1 e2 e3 e4 e5
  have v0 : Ns X 0 "_law_draw" := B.ns rfl rfl
  have v1 : Ns X 1 "_law_k" := B.ns rfl rfl
  have v2 : Ns X 2 "_law_number" := B.ns rfl rfl
  obtain ⟨draw1, k2⟩ := q
  replace hF : F_l_mixed draw1 k2 = out := hF
  unfold F_l_mixed at hF
  change DS _ _ _ [some (.int draw1), some (.int k2), none] [] _
  obtain ⟨number3, hh4, hF⟩ := letE_out hF
  refine ds_cons (ds1_set v2 (dv_isE (enc := D.int) (dv_mod (dv_mulX (dv_add (dv_add (dv_mod (dv_var v0.toNm rfl) dv_int (by decide)) (dv_mulX dv_int (dv_var v1.toNm rfl) (mok_c (.inl ⟨by decide, by decide⟩)))) dv_int) dv_int (mok_c (.inr ⟨by decide, by decide⟩))) dv_int (by decide)) hh4) ?_)
  change DS _ _ _ [some (.int draw1), some (.int k2), some (.int number3)] [] _
  obtain ⟨hh5, hF⟩ := gd_out hF hne
  refine ds_cons (ds1_retV (dv_mod (dv_mulX (dv_var v2.toNm rfl) (dv_add (dv_fdiv (dv_var v2.toNm rfl) dv_int (div_c (by decide) (by decide))) dv_int) hh5) dv_int (by decide)) ?_)
  exact ret_mk (enc := D.int) (M := []) hF
theorem c_l_mixed {X : Cx} {kx : XD} {ρ : Ro} {M : Mem} {pos p : Pos} {e0 e1 : Expr} {draw1 : Int} {k2 : Int} {r : Int} (T : TxtT X.K X.mg A X.base) (hr : Room 1 X.A) (hg : Gl X "_law_mixed") (h0 : DV X kx e0 ρ M (.int draw1)) (h1 : DV X kx e1 ρ M (.int k2)) (hF : F_l_mixed draw1 k2 = .ok r) (he0 : starEach [e0, e1] X.env = (false, eval e0 X.env) :: starEach [e1] X.env := by rfl) (he1 : starEach [e1] X.env = (false, eval e1 X.env) :: starEach [] X.env := by rfl) (hpl : (backTo pos (starEach [e1] X.env)).any (·.1) = false := by rfl) : DV X kx (.Call (.Name "_law_mixed" p) [e0, e1] [] pos) ρ M (.int r) :=
  dv_call (g_l_mixed T) hr hg (da_cons h0 (da_cons h1 da_nil he1) he0) (draw1, k2) rfl (fun h => Ex.ok_ne r (hF.symm.trans h)) (fun d ⟨r', a1, a2⟩ => by cases hF.symm.trans a1; exact a2) (fun cls fs ⟨n, a1, _⟩ => by cases hF.symm.trans a1) (by decide) he0 hpl
theorem sc_l_name : FnScope ["_law_draw", "_law_k", "_law_some", "_law_length", "_law_body", "_law_at", "_law_j"] ["_law_draw", "_law_k"] (defScope s_l_name) := fscope (by decide +kernel)
theorem g_l_name (T : TxtT K mg A base) : GF P w K mg base 2 "_law_name" [] (spE K mg (fun q : Int × Int => [.int q.1, .int q.2]) (fun q => F_l_name q.1 q.2) D.str) := by
  refine T.f_l_name.gf fun f fd F => fn_e F sc_l_name (fun _ => rfl) fun X e1 e2 e3 e4 e5 B Fz q out hF hne => ?_
  subst e1 e2 e3 e4 e5
  have v0 : Ns X 0 "_law_draw" := B.nc Fz rfl rfl
  have v1 : Ns X 1 "_law_k" := B.ns rfl rfl
  have v2 : Ns X 2 "_law_some" := B.nc Fz rfl rfl
  have v3 : Ns X 3 "_law_length" := B.ns rfl rfl
  have v4 : Ns X 4 "_law_body" := B.ns rfl rfl
  have v5 : Ns X 5 "_law_at" := B.ns rfl rfl
  obtain ⟨draw1, k2⟩ := q
  replace hF : F_l_name draw1 k2 = out := hF
  unfold F_l_name at hF
  change DS _ _ _ [some (.int draw1), some (.int k2), none, none, none, none, none] [] _
  obtain ⟨some3, hh4, hF⟩ := letE_out hF
  refine ds_cons (ds1_set v2 (dv_isE (enc := D.str) dv_str hh4) ?_)
  change DS _ _ _ [some (.int draw1), some (.int k2), some (.str some3), none, none, none, none] [] _
  obtain ⟨r5, hh6, hF⟩ := bindP_out hF hne
  obtain ⟨length7, hh8, hF⟩ := letE_out hF
  refine ds_cons (ds1_set v3 (dv_isE (enc := D.int) (dv_mod (c_l_mixed T (B.room.mono (by decide)) (B.gl (x := "_law_mixed") rfl) (dv_var v0.toNm rfl) dv_int hh6) dv_int (by decide)) hh8) ?_)
  change DS _ _ _ [some (.int draw1), some (.int k2), some (.str some3), some (.int length7), none, none, none] [] _
  obtain ⟨hh9, hF⟩ := gd_out hF hne
  obtain ⟨hh17, hF⟩ := gd_out hF hne
  obtain ⟨ys18, hh19, hF⟩ := bindP_out hF hne
  obtain ⟨hh20, hF⟩ := gd_out hF hne
  obtain ⟨body21, hh22, hF⟩ := letE_out hF
  refine ds_cons (ds1_set v4 (dv_isE (enc := D.str) (dv_join dv_str (dv_lcE (own := [("_law_j", 6)]) B  (di_range1 (B.bn (x := "range") rfl T.b_range bt_range) (dv_var v3.toNm rfl) hh9.1 hh9.2) (blkOk_by (by decide +kernel)) (sz_lt hh17) (fun u10 hx => ⟨_, _, fun _ h => h, fun _ _ _ _ _ _ _ B11 => ⟨(dg_name (B11.ns (i := 6) rfl rfl)), lcb_E (enc := D.str) ((compE_out hh19).2 u10 hx) (fun _ hF => (by cases hF; exact dts_nil)) fun _ hF => (by obtain ⟨r12, hh13, hF⟩ := bindP_out hF (Ex.ok_ne _); obtain ⟨hh14, hF⟩ := gd_out hF (Ex.ok_ne _); obtain ⟨c15, hh16, hF⟩ := bindP_out hF (Ex.ok_ne _); cases hF; exact (dv_ixSg (dv_var (B11.nm (i := 2) rfl (vcel rfl)) rfl) (dv_mod (c_l_mixed T (B11.room.mono (by decide)) (B11.gl (x := "_law_mixed") rfl) (dv_var (B11.nm (i := 0) rfl (vcel rfl)) rfl) (dv_add dv_int (dv_var (B11.nm (i := 6) rfl (vloc rfl)) rfl)) hh13) dv_int (by decide)) hh14 hh16))⟩⟩) (outs_E D.str (compE_out hh19).1)) (.lst _) hh20) hh22) ?_)
  change DS _ _ _ [some (.int draw1), some (.int k2), some (.str some3), some (.int length7), some (.str body21), none, none] [] _
  obtain ⟨r23, hh24, hF⟩ := bindP_out hF hne
  obtain ⟨hh25, hF⟩ := gd_out hF hne
  obtain ⟨at26, hh27, hF⟩ := letE_out hF
  refine ds_cons (ds1_set v5 (dv_isE (enc := D.int) (dv_mod (c_l_mixed T (B.room.mono (by decide)) (B.gl (x := "_law_mixed") rfl) (dv_var v0.toNm rfl) dv_int hh24) (dv_add (dv_var v3.toNm rfl) dv_int) hh25) hh27) ?_)
  change DS _ _ _ [some (.int draw1), some (.int k2), some (.str some3), some (.int length7), some (.str body21), some (.int at26), none] [] _
  obtain ⟨hh28, hF⟩ := gd_out hF hne
  obtain ⟨hh29, hF⟩ := gd_out hF hne
  obtain ⟨c30, hh31, hF⟩ := bindP_out hF hne
  obtain ⟨hh32, hF⟩ := gd_out hF hne
  obtain ⟨hh33, hF⟩ := gd_out hF hne
  obtain ⟨hh34, hF⟩ := gd_out hF hne
  refine ds_cons (ds1_retV (dv_addS (dv_addS (dv_slT' (dv_var v4.toNm rfl) hh28 do_none (do_some (dv_var v5.toNm rfl))) (dv_ixSg (dv_var v2.toNm rfl) (dv_mod (dv_add (dv_var v0.toNm rfl) (dv_mulX dv_int (dv_var v1.toNm rfl) (mok_c (.inl ⟨by decide, by decide⟩)))) dv_int (by decide)) hh29 hh31) hh32) (dv_slT' (dv_var v4.toNm rfl) hh33 (do_some (dv_var v5.toNm rfl)) do_none) hh34) ?_)
  exact ret_mk (enc := D.str) (M := []) hF
theorem c_l_name {X : Cx} {kx : XD} {ρ : Ro} {M : Mem} {pos p : Pos} {e0 e1 : Expr} {draw1 : Int} {k2 : Int} {r : Str} (T : TxtT X.K X.mg A X.base) (hr : Room 2 X.A) (hg : Gl X "_law_name") (h0 : DV X kx e0 ρ M (.int draw1)) (h1 : DV X kx e1 ρ M (.int k2)) (hF : F_l_name draw1 k2 = .ok r) (he0 : starEach [e0, e1] X.env = (false, eval e0 X.env) :: starEach [e1] X.env := by rfl) (he1 : starEach [e1] X.env = (false, eval e1 X.env) :: starEach [] X.env := by rfl) (hpl : (backTo pos (starEach [e1] X.env)).any (·.1) = false := by rfl) : DV X kx (.Call (.Name "_law_name" p) [e0, e1] [] pos) ρ M (.str r) :=
  dv_call (g_l_name T) hr hg (da_cons h0 (da_cons h1 da_nil he1) he0) (draw1, k2) rfl (fun h => Ex.ok_ne r (hF.symm.trans h)) (fun d ⟨r', a1, a2⟩ => by cases hF.symm.trans a1; exact a2) (fun cls fs ⟨n, a1, _⟩ => by cases hF.symm.trans a1) (by decide) he0 hpl
theorem sc_l_mark : FnScope ["_law_draw", "_law_k", "_law_some", "_law_length", "_law_body", "_law_at", "_law_j"] ["_law_draw", "_law_k"] (defScope s_l_mark) := fscope (by decide +kernel)
theorem g_l_mark (T : TxtT K mg A base) : GF P w K mg base 2 "_law_mark" [] (spE K mg (fun q : Int × Int => [.int q.1, .int q.2]) (fun q => F_l_mark q.1 q.2) D.str) := by
  refine T.f_l_mark.gf fun f fd F => fn_e F sc_l_mark (fun _ => rfl) fun X e1 e2 e3 e4 e5 B Fz q out hF hne => ?_
  subst e1 e2 e3 e4 e5
  have v0 : Ns X 0 "_law_draw" := B.nc Fz rfl rfl
  have v1 : Ns X 1 "_law_k" := B.ns rfl rfl
  have v2 : Ns X 2 "_law_some" := B.nc Fz rfl rfl
  have v3 : Ns X 3 "_law_length" := B.ns rfl rfl
  have v4 : Ns X 4 "_law_body" := B.ns rfl rfl
  have v5 : Ns X 5 "_law_at" := B.ns rfl rfl
  obtain ⟨draw1, k2⟩ := q
  replace hF : F_l_mark draw1 k2 = out := hF
  unfold F_l_mark at hF
  change DS _ _ _ [some (.int draw1), some (.int k2), none, none, none, none, none] [] _
  obtain ⟨some3, hh4, hF⟩ := letE_out hF
  refine ds_cons (ds1_set v2 (dv_isE (enc := D.str) dv_str hh4) ?_)
  change DS _ _ _ [some (.int draw1), some (.int k2), some (.str some3), none, none, none, none] [] _
  obtain ⟨r5, hh6, hF⟩ := bindP_out hF hne
  obtain ⟨length7, hh8, hF⟩ := letE_out hF
  refine ds_cons (ds1_set v3 (dv_isE (enc := D.int) (dv_mod (c_l_mixed T (B.room.mono (by decide)) (B.gl (x := "_law_mixed") rfl) (dv_var v0.toNm rfl) dv_int hh6) dv_int (by decide)) hh8) ?_)
  change DS _ _ _ [some (.int draw1), some (.int k2), some (.str some3), some (.int length7), none, none, none] [] _
  obtain ⟨hh9, hF⟩ := gd_out hF hne
  obtain ⟨hh17, hF⟩ := gd_out hF hne
  obtain ⟨ys18, hh19, hF⟩ := bindP_out hF hne
  obtain ⟨hh20, hF⟩ := gd_out hF hne
  obtain ⟨body21, hh22, hF⟩ := letE_out hF
  refine ds_cons (ds1_set v4 (dv_isE (enc := D.str) (dv_join dv_str (dv_lcE (own := [("_law_j", 6)]) B  (di_range1 (B.bn (x := "range") rfl T.b_range bt_range) (dv_var v3.toNm rfl) hh9.1 hh9.2) (blkOk_by (by decide +kernel)) (sz_lt hh17) (fun u10 hx => ⟨_, _, fun _ h => h, fun _ _ _ _ _ _ _ B11 => ⟨(dg_name (B11.ns (i := 6) rfl rfl)), lcb_E (enc := D.str) ((compE_out hh19).2 u10 hx) (fun _ hF => (by cases hF; exact dts_nil)) fun _ hF => (by obtain ⟨r12, hh13, hF⟩ := bindP_out hF (Ex.ok_ne _); obtain ⟨hh14, hF⟩ := gd_out hF (Ex.ok_ne _); obtain ⟨c15, hh16, hF⟩ := bindP_out hF (Ex.ok_ne _); cases hF; exact (dv_ixSg (dv_var (B11.nm (i := 2) rfl (vcel rfl)) rfl) (dv_mod (c_l_mixed T (B11.room.mono (by decide)) (B11.gl (x := "_law_mixed") rfl) (dv_var (B11.nm (i := 0) rfl (vcel rfl)) rfl) (dv_add dv_int (dv_var (B11.nm (i := 6) rfl (vloc rfl)) rfl)) hh13) dv_int (by decide)) hh14 hh16))⟩⟩) (outs_E D.str (compE_out hh19).1)) (.lst _) hh20) hh22) ?_)
  change DS _ _ _ [some (.int draw1), some (.int k2), some (.str some3), some (.int length7), some (.str body21), none, none] [] _
  obtain ⟨r23, hh24, hF⟩ := bindP_out hF hne
  obtain ⟨hh25, hF⟩ := gd_out hF hne
  obtain ⟨at26, hh27, hF⟩ := letE_out hF
  refine ds_cons (ds1_set v5 (dv_isE (enc := D.int) (dv_mod (c_l_mixed T (B.room.mono (by decide)) (B.gl (x := "_law_mixed") rfl) (dv_var v0.toNm rfl) dv_int hh24) (dv_add (dv_var v3.toNm rfl) dv_int) hh25) hh27) ?_)
  change DS _ _ _ [some (.int draw1), some (.int k2), some (.str some3), some (.int length7), some (.str body21), some (.int at26), none] [] _
  obtain ⟨hh28, hF⟩ := gd_out hF hne
  obtain ⟨hh29, hF⟩ := gd_out hF hne
  obtain ⟨c30, hh31, hF⟩ := bindP_out hF hne
  obtain ⟨hh32, hF⟩ := gd_out hF hne
  obtain ⟨hh33, hF⟩ := gd_out hF hne
  obtain ⟨hh34, hF⟩ := gd_out hF hne
  refine ds_cons (ds1_retV (dv_addS (dv_addS (dv_slT' (dv_var v4.toNm rfl) hh28 do_none (do_some (dv_var v5.toNm rfl))) (dv_ixSg (dv_var v2.toNm rfl) (dv_mod (dv_add (dv_fdiv (dv_var v0.toNm rfl) dv_int (div_c (by decide) (by decide))) (dv_mulX dv_int (dv_var v1.toNm rfl) (mok_c (.inl ⟨by decide, by decide⟩)))) dv_int (by decide)) hh29 hh31) hh32) (dv_slT' (dv_var v4.toNm rfl) hh33 (do_some (dv_var v5.toNm rfl)) do_none) hh34) ?_)
  exact ret_mk (enc := D.str) (M := []) hF
theorem c_l_mark {X : Cx} {kx : XD} {ρ : Ro} {M : Mem} {pos p : Pos} {e0 e1 : Expr} {draw1 : Int} {k2 : Int} {r : Str} (T : TxtT X.K X.mg A X.base) (hr : Room 2 X.A) (hg : Gl X "_law_mark") (h0 : DV X kx e0 ρ M (.int draw1)) (h1 : DV X kx e1 ρ M (.int k2)) (hF : F_l_mark draw1 k2 = .ok r) (he0 : starEach [e0, e1] X.env = (false, eval e0 X.env) :: starEach [e1] X.env := by rfl) (he1 : starEach [e1] X.env = (false, eval e1 X.env) :: starEach [] X.env := by rfl) (hpl : (backTo pos (starEach [e1] X.env)).any (·.1) = false := by rfl) : DV X kx (.Call (.Name "_law_mark" p) [e0, e1] [] pos) ρ M (.str r) :=
  dv_call (g_l_mark T) hr hg (da_cons h0 (da_cons h1 da_nil he1) he0) (draw1, k2) rfl (fun h => Ex.ok_ne r (hF.symm.trans h)) (fun d ⟨r', a1, a2⟩ => by cases hF.symm.trans a1; exact a2) (fun cls fs ⟨n, a1, _⟩ => by cases hF.symm.trans a1) (by decide) he0 hpl
theorem sc_is_word : FnScope ["thing", "most", "sign"] ["thing", "most"] (defScope s_is_word) := fscope (by decide +kernel)
theorem g_is_word (T : TxtT K mg A base) : GF P w K mg base 1 "is_word" [] (spE K mg (fun q : Str × Int => [.str q.1, .int q.2]) (fun q => F_is_word q.1 q.2) D.bl) := by
  refine T.f_is_word.gf fun f fd F => fn_e F sc_is_word (fun _ => rfl) fun X e1 e2 e3 e4 e5 B Fz q out hF hne => ?_
  subst e1 e2 e3 e4 e5
  have v0 : Ns X 0 "thing" := B.ns rfl rfl
  have v1 : Ns X 1 "most" := B.ns rfl rfl
  obtain ⟨thing1, most2⟩ := q
  replace hF : F_is_word thing1 most2 = out := hF
  unfold F_is_word at hF
  change DS _ _ _ [some (.str thing1), some (.int most2), none] [] _
  obtain ⟨b4, hh5, hF⟩ := bindP_out hF hne
  refine ds_cons (ds1_if (DW.t (dw_orE hh5 (dt_not (dt_val (dv_isi (T := "str") (k := true) (B.bn (x := "isinstance") rfl T.b_isinstance bt_isinstance) (B.bn (x := "str") rfl T.b_str bt_str) (dv_var v0.toNm rfl) (by first | exact .non | exact .int _ | exact .bl _ | exact .str _ | exact .lst _ | exact .tup _ | exact .scr _) (by decide +kernel)))) fun _ _ hF => (by obtain ⟨hh3, hF⟩ := gd_out hF (Ex.ok_ne _); cases hF; exact (dw_or1 (dt_not (dt_chain op_le op_le dv_int (dv_lenS (B.bn (x := "len") rfl T.b_len bt_len) (dv_var v0.toNm rfl) (sz_le hh3)) (dv_var v1.toNm rfl))))))) (fun hh6 => ?_) (fun hh6 => ?_))
  ·
    replace hF := ite_t hF hh6
    refine ds_cons (ds1_retV dv_bl ?_)
    exact ret_mk (enc := D.bl) (M := []) hF
  ·
    replace hF := ite_f hF hh6
    refine ds_nil ?_
    obtain ⟨hh10, hF⟩ := gd_out hF hne
    obtain ⟨ys11, hh12, hF⟩ := bindP_out hF hne
    refine ds_cons (ds1_retV (dv_all B.calm (B.bn (x := "all") rfl T.b_all bt_all) (dv_lcE (own := [("sign", 2)]) B  (di_str (dv_var v0.toNm rfl)) (blkOk_by (by decide +kernel)) (sz_lt hh10) (fun u7 hx => ⟨_, _, fun _ h => h, fun _ _ _ _ _ _ _ B8 => ⟨(dg_name (B8.ns (i := 2) rfl rfl)), lcb_E (enc := D.bl) ((compE_out hh12).2 u7 hx) (fun _ hF => (by cases hF; exact dts_nil)) fun _ hF => (by obtain ⟨hh9, hF⟩ := gd_out hF (Ex.ok_ne _); cases hF; exact (dv_inSg hh9 (dv_var (B8.nm (i := 2) rfl (vloc rfl)) rfl) (T.k_SMALL.elim fun _ h => dv_gstr (B8.gl (x := "SMALL") rfl) h ⟨_, rfl⟩)))⟩⟩) (outs_E D.bl (compE_out hh12).1)) (.lst _)) ?_)
    exact ret_mk (enc := D.bl) (M := []) hF
theorem c_is_word {X : Cx} {kx : XD} {ρ : Ro} {M : Mem} {pos p : Pos} {e0 e1 : Expr} {thing1 : Str} {most2 : Int} {r : Bool} (T : TxtT X.K X.mg A X.base) (hr : Room 1 X.A) (hg : Gl X "is_word") (h0 : DV X kx e0 ρ M (.str thing1)) (h1 : DV X kx e1 ρ M (.int most2)) (hF : F_is_word thing1 most2 = .ok r) (he0 : starEach [e0, e1] X.env = (false, eval e0 X.env) :: starEach [e1] X.env := by rfl) (he1 : starEach [e1] X.env = (false, eval e1 X.env) :: starEach [] X.env := by rfl) (hpl : (backTo pos (starEach [e1] X.env)).any (·.1) = false := by rfl) : DV X kx (.Call (.Name "is_word" p) [e0, e1] [] pos) ρ M (.bl r) :=
  dv_call (g_is_word T) hr hg (da_cons h0 (da_cons h1 da_nil he1) he0) (thing1, most2) rfl (fun h => Ex.ok_ne r (hF.symm.trans h)) (fun d ⟨r', a1, a2⟩ => by cases hF.symm.trans a1; exact a2) (fun cls fs ⟨n, a1, _⟩ => by cases hF.symm.trans a1) (by decide) he0 hpl
theorem sc_is_name : FnScope ["thing"] ["thing"] (defScope s_is_name) := fscope (by decide +kernel)
theorem g_is_name (T : TxtT K mg A base) : GF P w K mg base 2 "is_name" [] (spE K mg (fun q : Str => [.str q]) (fun q => F_is_name q) D.bl) := by
  refine T.f_is_name.gf fun f fd F => fn_e F sc_is_name (fun _ => rfl) fun X e1 e2 e3 e4 e5 B Fz thing1 out hF hne => ?_
  subst e1 e2 e3 e4 e5
  have v0 : Ns X 0 "thing" := B.ns rfl rfl
  replace hF : F_is_name thing1 = out := hF
  unfold F_is_name at hF
  change DS _ _ _ [some (.str thing1)] [] _
  obtain ⟨r2, hh3, hF⟩ := bindP_out hF hne
  refine ds_cons (ds1_retV (c_is_word T (B.room.mono (by decide)) (B.gl (x := "is_word") rfl) (dv_var v0.toNm rfl) (T.k_MOST_OF_NAME.elim fun _ h => dv_gint (B.gl (x := "MOST_OF_NAME") rfl) h ⟨_, rfl⟩) hh3) ?_)
  exact ret_mk (enc := D.bl) (M := []) hF
theorem c_is_name {X : Cx} {kx : XD} {ρ : Ro} {M : Mem} {pos p : Pos} {e0 : Expr} {thing1 : Str} {r : Bool} (T : TxtT X.K X.mg A X.base) (hr : Room 2 X.A) (hg : Gl X "is_name") (h0 : DV X kx e0 ρ M (.str thing1)) (hF : F_is_name thing1 = .ok r) (he0 : starEach [e0] X.env = (false, eval e0 X.env) :: starEach [] X.env := by rfl) (hpl : (backTo pos (starEach [] X.env)).any (·.1) = false := by rfl) : DV X kx (.Call (.Name "is_name" p) [e0] [] pos) ρ M (.bl r) :=
  dv_call (g_is_name T) hr hg (da_cons h0 da_nil he0) thing1 rfl (fun h => Ex.ok_ne r (hF.symm.trans h)) (fun d ⟨r', a1, a2⟩ => by cases hF.symm.trans a1; exact a2) (fun cls fs ⟨n, a1, _⟩ => by cases hF.symm.trans a1) (by decide) he0 hpl
theorem sc_Book_adopt : FnScope ["self", "name", "marks", "roll"] ["self", "name", "marks", "roll"] (defScope s_Book_adopt) := fscope (by decide +kernel)
abbrev R_Book_adopt (A : Adr) (q : D × Mem × TBook × Str × (List Str) × D × Mem × TRoll) (r : Unit × TBook) (d : D) (m : Mem) : Prop := ∃ n0 : Mem, m = n0 ++ [] ∧ d = .non ∧ OwR (is_Book A) r.2 q.1 n0
theorem f_Book_adopt (T : TxtT K mg A base) {f : Addr} {fd : FuncData} (F : FunD K "adopt" "Book.adopt" (defArgs s_Book_adopt) (defBody s_Book_adopt) (defScope s_Book_adopt) [] [] f fd) : FnOk P w K mg base (L2.CX P w) 1 f fd ["self", "name", "marks", "roll"] (spR K mg (fun q : D × Mem × TBook × Str × (List Str) × D × Mem × TRoll => [q.1, .str q.2.2.2.1, .lst (q.2.2.2.2.1.map D.str), q.2.2.2.2.2.1]) (fun q : D × Mem × TBook × Str × (List Str) × D × Mem × TRoll => q.2.1 ++ (q.2.2.2.2.2.2.1 ++ [])) (fun q : D × Mem × TBook × Str × (List Str) × D × Mem × TRoll => OwR (is_Book A) q.2.2.1 q.1 q.2.1 ∧ OwR (is_Roll A) q.2.2.2.2.2.2.2 q.2.2.2.2.2.1 q.2.2.2.2.2.2.1) (fun q : D × Mem × TBook × Str × (List Str) × D × Mem × TRoll => F_Book_adopt q.2.2.1 q.2.2.2.1 q.2.2.2.2.1 q.2.2.2.2.2.2.2) (R_Book_adopt A)) := by
  refine fn_rD F sc_Book_adopt (fun _ => rfl) fun X e1 e2 e3 e4 e5 B Fz q out hp hF hne => ?_
  subst e1 e2 e3 e4 e5
  have v0 : Ns X 0 "self" := B.ns rfl rfl
  have v1 : Ns X 1 "name" := B.ns rfl rfl
  have v2 : Ns X 2 "marks" := B.ns rfl rfl
  have v3 : Ns X 3 "roll" := B.ns rfl rfl
  obtain ⟨d5, m6, self1, name2, marks3, d8, m9, roll4⟩ := q
  obtain ⟨hh7, hh10⟩ : OwR (is_Book A) self1 d5 m6 ∧ OwR (is_Roll A) roll4 d8 m9 := hp
  replace hF : F_Book_adopt self1 name2 marks3 roll4 = out := hF
  unfold F_Book_adopt at hF
  change DS _ _ _ [some (d5), some (.str name2), some (.lst (marks3.map D.str)), some (d8)] (m6 ++ (m9 ++ [])) _
  obtain ⟨rs11, m12, m13, hh14, hh15, hh16, hh17⟩ := open_Book hh7
  refine DS.perm (pm_two (.refl _) hh17) ?_
  change DS _ _ _ [some (d5), some (.str name2), some (.lst (marks3.map D.str)), some (d8)] (m12 ++ (m13 ++ (m9 ++ []))) _
  obtain ⟨w18, w19, w20, hh21, hh22⟩ := (own_BookR).mp hh14
  subst hh22
  subst hh21
  change DS _ _ _ [some ((.adr w18)), some (.str name2), some (.lst (marks3.map D.str)), some (d8)] ((w18, Mu.ins A.c_Book ["ruling", "today", "limits", "rolls", "signs"] [(dk_CRule A) self1.1, .int self1.2.1, .lst (self1.2.2.1.map (dOpt D.int)), D.adr w19, D.adr w20]) :: ((w19, Mu.dK (rs11.map fun q => (ek_S q.1, dD q.2))) :: ((w20, Mu.dK (self1.2.2.2.2.map fun q => (ek_S q.1, dk_LS q.2))) :: (m13 ++ (m9 ++ []))))) _
  obtain ⟨hh23, hF⟩ := gd_out hF hne
  obtain ⟨hh24, hF⟩ := gd_out hF hne
  refine ds_cons (ds1_dputKM (f := dk_LS) 2 B ij_S self1.2.2.2.2 (dv_sortedS (B.bn (x := "sorted") rfl T.b_sorted bt_sorted) hh23 (dv_var v2.toNm rfl) (.lst _)) (dv_fld T.cl_Book.cl (T.cl_Book.na "signs" (by simp)) (dv_var v0.toNm rfl) (.adr (List.mem_of_getElem? (i := 0) (show _ = some (w18, Mu.ins A.c_Book ["ruling", "today", "limits", "rolls", "signs"] [(dk_CRule A) self1.1, .int self1.2.1, .lst (self1.2.2.1.map (dOpt D.int)), D.adr w19, D.adr w20]) from rfl))) rfl) (dv_var v1.toNm rfl) rfl hh24 ?_)
  change DS _ _ _ [some ((.adr w18)), some (.str name2), some (.lst (marks3.map D.str)), some (d8)] ((w18, Mu.ins A.c_Book ["ruling", "today", "limits", "rolls", "signs"] [(dk_CRule A) self1.1, .int self1.2.1, .lst (self1.2.2.1.map (dOpt D.int)), D.adr w19, D.adr w20]) :: ((w19, Mu.dK (rs11.map fun q => (ek_S q.1, dD q.2))) :: ((w20, Mu.dK ((putA self1.2.2.2.2 name2 (sortS marks3)).map fun q => (ek_S q.1, dk_LS q.2))) :: (m13 ++ (m9 ++ []))))) _
  obtain ⟨hh25, hF⟩ := gd_out hF hne
  refine ds_cons (ds1_dputKM (f := dD) 1 B ij_S rs11 (dv_var v3.toNm rfl) (dv_fld T.cl_Book.cl (T.cl_Book.na "rolls" (by simp)) (dv_var v0.toNm rfl) (.adr (List.mem_of_getElem? (i := 0) (show _ = some (w18, Mu.ins A.c_Book ["ruling", "today", "limits", "rolls", "signs"] [(dk_CRule A) self1.1, .int self1.2.1, .lst (self1.2.2.1.map (dOpt D.int)), D.adr w19, D.adr w20]) from rfl))) rfl) (dv_var v1.toNm rfl) rfl (by rw [hh15.len]; exact hh25) ?_)
  change DS _ _ _ [some ((.adr w18)), some (.str name2), some (.lst (marks3.map D.str)), some (d8)] ((w18, Mu.ins A.c_Book ["ruling", "today", "limits", "rolls", "signs"] [(dk_CRule A) self1.1, .int self1.2.1, .lst (self1.2.2.1.map (dOpt D.int)), D.adr w19, D.adr w20]) :: ((w19, Mu.dK ((putA rs11 name2 d8).map fun q => (ek_S q.1, dD q.2))) :: ((w20, Mu.dK ((putA self1.2.2.2.2 name2 (sortS marks3)).map fun q => (ek_S q.1, dk_LS q.2))) :: (m13 ++ (m9 ++ []))))) _
  obtain ⟨m26, m27, hh28, hh29⟩ := OwD.put hh15 hh16 name2 hh10
  have hh28n := putA_keys _ name2 roll4 hh16
  refine DS.perm (pm_put (pl_2 (pl_c (pl_c (pl_c (pl_a (.refl _))))) (pl_2 (pl_c (pl_c (pl_c (.refl _)))) pl_nil)) hh29) ?_
  refine DS.forget sub_mid ?_
  change DS _ _ _ [some ((.adr w18)), some (.str name2), some (.lst (marks3.map D.str)), some (dD d8)] (m26 ++ ((w18, Mu.ins A.c_Book ["ruling", "today", "limits", "rolls", "signs"] [(dk_CRule A) self1.1, .int self1.2.1, .lst (self1.2.2.1.map (dOpt D.int)), D.adr w19, D.adr w20]) :: ((w19, Mu.dK ((putA rs11 name2 d8).map fun q => (ek_S q.1, dD q.2))) :: ((w20, Mu.dK ((putA self1.2.2.2.2 name2 (sortS marks3)).map fun q => (ek_S q.1, dk_LS q.2))) :: [])))) _
  refine DS.perm (List.Perm.trans (pe_a (.refl _)) (pm_c (List.Perm.trans (pe_a (.refl _)) (pm_c (List.Perm.trans (pe_a (.refl _)) (pm_c (.refl _))))))) ?_
  change DS _ _ _ [some ((.adr w18)), some (.str name2), some (.lst (marks3.map D.str)), some (dD d8)] ((w18, Mu.ins A.c_Book ["ruling", "today", "limits", "rolls", "signs"] [(dk_CRule A) self1.1, .int self1.2.1, .lst (self1.2.2.1.map (dOpt D.int)), D.adr w19, D.adr w20]) :: ((w19, Mu.dK ((putA rs11 name2 d8).map fun q => (ek_S q.1, dD q.2))) :: ((w20, Mu.dK ((putA self1.2.2.2.2 name2 (sortS marks3)).map fun q => (ek_S q.1, dk_LS q.2))) :: (m26 ++ [])))) _
  have hh30 : OwR (is_BookR A) (self1.1, self1.2.1, self1.2.2.1, (putA rs11 name2 d8), (putA self1.2.2.2.2 name2 (sortS marks3))) (.adr w18) [(w18, Mu.ins A.c_Book ["ruling", "today", "limits", "rolls", "signs"] [(dk_CRule A) self1.1, .int self1.2.1, .lst (self1.2.2.1.map (dOpt D.int)), D.adr w19, D.adr w20]), (w19, Mu.dK ((putA rs11 name2 d8).map fun q => (ek_S q.1, dD q.2))), (w20, Mu.dK ((putA self1.2.2.2.2 name2 (sortS marks3)).map fun q => (ek_S q.1, dk_LS q.2)))] := (own_BookR).mpr ⟨w18, w19, w20, rfl, rfl⟩
  change DS _ _ _ [some ((.adr w18)), some (.str name2), some (.lst (marks3.map D.str)), some (dD d8)] ([(w18, Mu.ins A.c_Book ["ruling", "today", "limits", "rolls", "signs"] [(dk_CRule A) self1.1, .int self1.2.1, .lst (self1.2.2.1.map (dOpt D.int)), D.adr w19, D.adr w20]), (w19, Mu.dK ((putA rs11 name2 d8).map fun q => (ek_S q.1, dD q.2))), (w20, Mu.dK ((putA self1.2.2.2.2 name2 (sortS marks3)).map fun q => (ek_S q.1, dk_LS q.2)))] ++ (m26 ++ [])) _
  generalize hh32 : ([(w18, Mu.ins A.c_Book ["ruling", "today", "limits", "rolls", "signs"] [(dk_CRule A) self1.1, .int self1.2.1, .lst (self1.2.2.1.map (dOpt D.int)), D.adr w19, D.adr w20]), (w19, Mu.dK ((putA rs11 name2 d8).map fun q => (ek_S q.1, dD q.2))), (w20, Mu.dK ((putA self1.2.2.2.2 name2 (sortS marks3)).map fun q => (ek_S q.1, dk_LS q.2)))] : Mem) = m31 at hh30 ⊢
  clear hh32
  obtain ⟨m33, hh34, hh35⟩ := close_Book hh30 hh28 hh28n
  refine DS.perm (pm_cls (pl_2 (.refl _) (pl_2 (.refl _) pl_nil)) hh35) ?_
  change DS _ _ _ [some ((.adr w18)), some (.str name2), some (.lst (marks3.map D.str)), some (dD d8)] (m33 ++ []) _
  refine ds_nil ?_
  exact retR_nx (res := R_Book_adopt A ((.adr w18), _, self1, name2, marks3, _, _, roll4)) hF ⟨m33, rfl, rfl, hh34⟩ (pl_2 (.refl _) pl_nil)
theorem gu_Book_adopt_0 (T : TxtT K mg A base) : GM P w K mg base 1 A.c_Book "adopt" [] (spR K mg (fun q : D × Mem × TBook × Str × (List Str) × D × Mem × TRoll => [q.1, .str q.2.2.2.1, .lst (q.2.2.2.2.1.map D.str), q.2.2.2.2.2.1]) (fun q : D × Mem × TBook × Str × (List Str) × D × Mem × TRoll => q.2.1 ++ (q.2.2.2.2.2.2.1 ++ [])) (fun q : D × Mem × TBook × Str × (List Str) × D × Mem × TRoll => OwR (is_Book A) q.2.2.1 q.1 q.2.1 ∧ OwR (is_Roll A) q.2.2.2.2.2.2.2 q.2.2.2.2.2.1 q.2.2.2.2.2.2.1) (fun q : D × Mem × TBook × Str × (List Str) × D × Mem × TRoll => F_Book_adopt q.2.2.1 q.2.2.2.1 q.2.2.2.2.1 q.2.2.2.2.2.2.2) (R_Book_adopt A)) := T.m_Book_adopt.gm 0 (by decide) _ (fun _ _ e => by subst e; exact .nil) fun _ _ F => f_Book_adopt T F
theorem sc_is_mark : FnScope ["thing"] ["thing"] (defScope s_is_mark) := fscope (by decide +kernel)
theorem g_is_mark (T : TxtT K mg A base) : GF P w K mg base 2 "is_mark" [] (spE K mg (fun q : Str => [.str q]) (fun q => F_is_mark q) D.bl) := by
  refine T.f_is_mark.gf fun f fd F => fn_e F sc_is_mark (fun _ => rfl) fun X e1 e2 e3 e4 e5 B Fz thing1 out hF hne => ?_
  subst e1 e2 e3 e4 e5
  have v0 : Ns X 0 "thing" := B.ns rfl rfl
  replace hF : F_is_mark thing1 = out := hF
  unfold F_is_mark at hF
  change DS _ _ _ [some (.str thing1)] [] _
  obtain ⟨r2, hh3, hF⟩ := bindP_out hF hne
  refine ds_cons (ds1_retV (c_is_word T (B.room.mono (by decide)) (B.gl (x := "is_word") rfl) (dv_var v0.toNm rfl) (T.k_MOST_OF_MARK.elim fun _ h => dv_gint (B.gl (x := "MOST_OF_MARK") rfl) h ⟨_, rfl⟩) hh3) ?_)
  exact ret_mk (enc := D.bl) (M := []) hF
theorem c_is_mark {X : Cx} {kx : XD} {ρ : Ro} {M : Mem} {pos p : Pos} {e0 : Expr} {thing1 : Str} {r : Bool} (T : TxtT X.K X.mg A X.base) (hr : Room 2 X.A) (hg : Gl X "is_mark") (h0 : DV X kx e0 ρ M (.str thing1)) (hF : F_is_mark thing1 = .ok r) (he0 : starEach [e0] X.env = (false, eval e0 X.env) :: starEach [] X.env := by rfl) (hpl : (backTo pos (starEach [] X.env)).any (·.1) = false := by rfl) : DV X kx (.Call (.Name "is_mark" p) [e0] [] pos) ρ M (.bl r) :=
  dv_call (g_is_mark T) hr hg (da_cons h0 da_nil he0) thing1 rfl (fun h => Ex.ok_ne r (hF.symm.trans h)) (fun d ⟨r', a1, a2⟩ => by cases hF.symm.trans a1; exact a2) (fun cls fs ⟨n, a1, _⟩ => by cases hF.symm.trans a1) (by decide) he0 hpl
theorem sc_marks_looked_at : FnScope ["marks", "mark"] ["marks"] (defScope s_marks_looked_at) := fscope (by decide +kernel)
theorem g_marks_looked_at (T : TxtT K mg A base) : GF P w K mg base 3 "marks_looked_at" [] (spE K mg (fun q : Option (List Str) => [dOpt dk_LS q]) (fun q => F_marks_looked_at q) dk_LS) := by
  refine T.f_marks_looked_at.gf fun f fd F => fn_e F sc_marks_looked_at (fun _ => rfl) fun X e1 e2 e3 e4 e5 B Fz marks1 out hF hne => ?_
  subst e1 e2 e3 e4 e5
  have v0 : Ns X 0 "marks" := B.ns rfl rfl
  have v1 : Ns X 1 "mark" := B.ns rfl rfl
  replace hF : F_marks_looked_at marks1 = out := hF
  unfold F_marks_looked_at at hF
  change DS _ _ _ [some (dOpt dk_LS marks1), none] [] _
  obtain ⟨marks2, hh3, hF⟩ := bindP_out hF hne
  refine ds_cons (ds1_if (dt_gt (dv_lenM (g := D.str) (B.bn (x := "len") rfl T.b_len bt_len) (dv_un (enc := dk_LS) (dv_var v0.toNm rfl) hh3) (.lst _)) (T.k_MOST_MARKS.elim fun _ h => dv_gint (B.gl (x := "MOST_MARKS") rfl) h ⟨_, rfl⟩)) (fun hh4 => ?_) (fun hh4 => ?_))
  ·
    replace hF := ite_t hF hh4
    exact ds_cons (ds1_raise B.calm T.x_NoMark (B.gl (x := "NoMark") rfl) fun cls hm => (kx_exc hF hm))
  ·
    replace hF := ite_f hF hh4
    refine ds_nil ?_
    obtain ⟨o11, hh12, hh13, hF⟩ := bindX_cut hF hne
    refine ds_cons (ds1_foldE (enc := D.str) B (fun (z : Unit) => [some (dOpt dk_LS marks1), none]) (fun (z : Unit) => []) hh12 hh13 (di_list (dv_un (enc := dk_LS) (dv_var v0.toNm rfl) hh3)) ⟨.inr rfl, .inl rfl, trivial⟩ rfl ?hso11 ?hdo11 ?hxo11 then_fgt)
    case hso11 =>
      clear hF
      rintro ⟨⟩ x5 o6 _ hF hne
      refine ⟨_, _, (dg_name v1), ?_⟩
      change DS _ _ _ [some (dOpt dk_LS marks1), some (.str x5)] [] _
      obtain ⟨r7, hh8, hF⟩ := bindP_out hF hne
      refine ds_cons (ds1_if (DW.t (dw_or (dt_not (dt_val (c_is_mark T (B.room.mono (by decide)) (B.gl (x := "is_mark") rfl) (dv_var v1.toNm rfl) hh8))) fun _ => (dw_or1 (dt_gt (dv_lcountS (dv_un (enc := dk_LS) (dv_var v0.toNm rfl) hh3) (.lst _) (dv_var v1.toNm rfl)) dv_int)))) (fun hh9 => ?_) (fun hh9 => ?_))
      ·
        replace hF := ite_t hF hh9
        exact ds_cons (ds1_raise B.calm T.x_NoMark (B.gl (x := "NoMark") rfl) fun cls hm => (kx_exc hF hm))
      ·
        replace hF := ite_f hF hh9
        refine ds_nil ?_
        refine ds_nil ?_
        exact fold_nx hF ⟨.inr rfl, .inl rfl, trivial⟩ rfl
    case hdo11 =>
      rintro ⟨⟩ rfl
      replace hF := okE hF
      change DS _ _ _ [some (dOpt dk_LS marks1), none] [] _
      obtain ⟨hh10, hF⟩ := gd_out hF hne
      refine ds_cons (ds1_retV (dv_sortedS (B.bn (x := "sorted") rfl T.b_sorted bt_sorted) hh10 (dv_un (enc := dk_LS) (dv_var v0.toNm rfl) hh3) (.lst _)) ?_)
      exact ret_mk (enc := dk_LS) (M := []) hF
    case hxo11 =>
      rintro cls fs _ _ ⟨n, rfl, e2⟩
      exact kx_exc hF e2
theorem xd_marks_looked_at {X : Cx} {ρ : Ro} {M : Mem} {pos p : Pos} {e0 : Expr} {marks1 : Option (List Str)} {n : Str} {fs : List (Str × D)} (T : TxtT X.K X.mg A X.base) (hr : Room 3 X.A) (hg : Gl X "marks_looked_at") (h0 : DV X kx0 e0 ρ M (dOpt dk_LS marks1)) (hF : F_marks_looked_at marks1 = .exc n fs) (he0 : starEach [e0] X.env = (false, eval e0 X.env) :: starEach [] X.env := by rfl) (hpl : (backTo pos (starEach [] X.env)).any (·.1) = false := by rfl) : DX X (.Call (.Name "marks_looked_at" p) [e0] [] pos) ρ M n fs :=
  dx_call (g_marks_looked_at T) hr hg (da_cons h0 da_nil he0) marks1 rfl hF (by decide) he0 hpl
theorem c_marks_looked_at {X : Cx} {kx : XD} {ρ : Ro} {M : Mem} {pos p : Pos} {e0 : Expr} {marks1 : Option (List Str)} {r : List Str} (T : TxtT X.K X.mg A X.base) (hr : Room 3 X.A) (hg : Gl X "marks_looked_at") (h0 : DV X kx e0 ρ M (dOpt dk_LS marks1)) (hF : F_marks_looked_at marks1 = .ok r) (he0 : starEach [e0] X.env = (false, eval e0 X.env) :: starEach [] X.env := by rfl) (hpl : (backTo pos (starEach [] X.env)).any (·.1) = false := by rfl) : DV X kx (.Call (.Name "marks_looked_at" p) [e0] [] pos) ρ M (.lst (r.map D.str)) :=
  dv_call (g_marks_looked_at T) hr hg (da_cons h0 da_nil he0) marks1 rfl (fun h => Ex.ok_ne r (hF.symm.trans h)) (fun d ⟨r', a1, a2⟩ => by cases hF.symm.trans a1; exact a2) (fun cls fs ⟨n, a1, _⟩ => by cases hF.symm.trans a1) (by decide) he0 hpl
theorem sc_Roll_init : FnScope ["self", "rule", "day"] ["self", "rule", "day"] (defScope s_Roll_init) := fscope (by decide +kernel)
theorem f_Roll_init (T : TxtT K mg A base) {f : Addr} {fd : FuncData} (F : FunD K "__init__" "Roll.__init__" (defArgs s_Roll_init) (defBody s_Roll_init) (defScope s_Roll_init) [] [] f fd) : FnOk P w K mg base (L2.CX P w) 3 f fd ["self", "rule", "day"] (spJ K mg A.c_Roll (fun q : ((List (Int × Int)) × (Option Int)) × Int => [(dk_CRule A) q.1, .int q.2]) (fun q => F_Roll_init q.1 q.2) (is_Roll A)) := by
  refine fn_j F sc_Roll_init (fun _ => rfl) fun X e1 e2 e3 e4 e5 B Fz w1 q out hF hne => ?_
  subst e1 e2 e3 e4 e5
  have v0 : Ns X 0 "self" := B.ns rfl rfl
  have v1 : Ns X 1 "rule" := B.ns rfl rfl
  have v2 : Ns X 2 "day" := B.ns rfl rfl
  obtain ⟨rule1, day2⟩ := q
  replace hF : F_Roll_init rule1 day2 = out := hF
  unfold F_Roll_init at hF
  change DS _ _ _ [some (.adr w1), some ((dk_CRule A) rule1), some (.int day2)] [(w1, Mu.ins A.c_Roll [] [])] _
  refine ds_cons (ds1_fld (i := 0) T.cl_Roll.cl (T.cl_Roll.na "ruling" (by simp)) (dv_var v1.toNm rfl) (dv_var v0.toNm rfl) rfl (by decide) rfl ?_)
  change DS _ _ _ [some (.adr w1), some ((dk_CRule A) rule1), some (.int day2)] [(w1, Mu.ins A.c_Roll ["ruling"] [(dk_CRule A) rule1])] _
  refine ds_cons (ds1_fld (i := 0) T.cl_Roll.cl (T.cl_Roll.na "today" (by simp)) (dv_var v2.toNm rfl) (dv_var v0.toNm rfl) rfl (by decide) rfl ?_)
  change DS _ _ _ [some (.adr w1), some ((dk_CRule A) rule1), some (.int day2)] [(w1, Mu.ins A.c_Roll ["ruling", "today"] [(dk_CRule A) rule1, .int day2])] _
  obtain ⟨r3, hh4, hF⟩ := bindP_out hF hne
  refine ds_cons (ds1_fld (i := 0) T.cl_Roll.cl (T.cl_Roll.na "limits" (by simp)) (c_edges_at T (B.room.mono (by decide)) (B.gl (x := "edges_at") rfl) (dv_var v1.toNm rfl) (dv_var v2.toNm rfl) hh4) (dv_var v0.toNm rfl) rfl (by decide) rfl ?_)
  change DS _ _ _ [some (.adr w1), some ((dk_CRule A) rule1), some (.int day2)] [(w1, Mu.ins A.c_Roll ["ruling", "today", "limits"] [(dk_CRule A) rule1, .int day2, .lst (r3.map (dOpt D.int))])] _
  refine ds_cons (ds1_fldD (i := 0) (ns' := ["ruling", "today", "limits", "whole"]) (mu := .dT []) (.inl rfl) T.cl_Roll.cl (T.cl_Roll.na "whole" (by simp)) (fun _ => (dv_var v0.toNm rfl)) rfl (by decide) fun w5 hh6 => ⟨[(dk_CRule A) rule1, .int day2, .lst (r3.map (dOpt D.int)), D.adr w5], rfl, ?_⟩)
  change DS _ _ _ [some (.adr w1), some ((dk_CRule A) rule1), some (.int day2)] [(w5, Mu.dT (([] : List ((Int × Int) × Int)).map fun q => (ek_T2II q.1, D.int q.2))), (w1, Mu.ins A.c_Roll ["ruling", "today", "limits", "whole"] [(dk_CRule A) rule1, .int day2, .lst (r3.map (dOpt D.int)), D.adr w5])] _
  refine ds_cons (ds1_fldD (i := 1) (ns' := ["ruling", "today", "limits", "whole", "heaped"]) (mu := .dT []) (.inl rfl) T.cl_Roll.cl (T.cl_Roll.na "heaped" (by simp)) (fun _ => (dv_var v0.toNm rfl)) rfl (by decide) fun w7 hh8 => ⟨[(dk_CRule A) rule1, .int day2, .lst (r3.map (dOpt D.int)), D.adr w5, D.adr w7], rfl, ?_⟩)
  change DS _ _ _ [some (.adr w1), some ((dk_CRule A) rule1), some (.int day2)] [(w7, Mu.dT (([] : List ((Int × Int) × (Int × Int × Int × Int))).map fun q => (ek_T2II q.1, dk_T4IIII q.2))), (w5, Mu.dT (([] : List ((Int × Int) × Int)).map fun q => (ek_T2II q.1, D.int q.2))), (w1, Mu.ins A.c_Roll ["ruling", "today", "limits", "whole", "heaped"] [(dk_CRule A) rule1, .int day2, .lst (r3.map (dOpt D.int)), D.adr w5, D.adr w7])] _
  refine DS.perm (List.Perm.trans (pe_c (pe_c (.refl _))) (pm_c (List.Perm.trans (pe_c (.refl _)) (pm_c (.refl _))))) ?_
  change DS _ _ _ [some (.adr w1), some ((dk_CRule A) rule1), some (.int day2)] [(w1, Mu.ins A.c_Roll ["ruling", "today", "limits", "whole", "heaped"] [(dk_CRule A) rule1, .int day2, .lst (r3.map (dOpt D.int)), D.adr w5, D.adr w7]), (w5, Mu.dT (([] : List ((Int × Int) × Int)).map fun q => (ek_T2II q.1, D.int q.2))), (w7, Mu.dT (([] : List ((Int × Int) × (Int × Int × Int × Int))).map fun q => (ek_T2II q.1, dk_T4IIII q.2)))] _
  refine ds_nil ?_
  exact initR_nx hF ((own_Roll).mpr ⟨w1, w5, w7, rfl, rfl⟩)
theorem gc_Roll_init_0 (T : TxtT K mg A base) : GC P w K mg base 3 A.c_Roll [] (spJ K mg A.c_Roll (fun q : ((List (Int × Int)) × (Option Int)) × Int => [(dk_CRule A) q.1, .int q.2]) (fun q => F_Roll_init q.1 q.2) (is_Roll A)) := T.m_Roll_init.gc T.cl_Roll 0 (by decide) _ (fun _ _ e => by subst e; exact .nil) fun _ _ F => f_Roll_init T F
theorem k_Roll_init_0 {X : Cx} {kx : XD} {ρ : Ro} {M : Mem} {pos p : Pos} {e0 e1 : Expr} {rule1 : (List (Int × Int)) × (Option Int)} {day2 : Int} {r : TRoll} (T : TxtT X.K X.mg A X.base) (hr : Room 4 X.A) (hg : Gl X "Roll") (h0 : DV X kx e0 ρ M ((dk_CRule A) rule1)) (h1 : DV X kx e1 ρ M (.int day2)) (hF : F_Roll_init rule1 day2 = .ok r) (he0 : starEach [e0, e1] X.env = (false, eval e0 X.env) :: starEach [e1] X.env := by rfl) (he1 : starEach [e1] X.env = (false, eval e1 X.env) :: starEach [] X.env := by rfl) (hpl : (backTo pos (starEach [e1] X.env)).any (·.1) = false := by rfl) : DN X kx (.Call (.Name "Roll" p) [e0, e1] [] pos) ρ M (OwR (is_Roll A) r) :=
  dn_makeJ (gc_Roll_init_0 T) hr hg T.cl_Roll.gC (da_cons h0 (da_cons h1 da_nil he1) he0) (rule1, day2) rfl hF (by decide) he0 hpl
theorem sc_greater : FnScope ["one", "other", "found", "here", "there"] ["one", "other"] (defScope s_greater) := fscope (by decide +kernel)
theorem g_greater (T : TxtT K mg A base) : GF P w K mg base 1 "greater" [] (spE K mg (fun q : (List (Option Int)) × (List (Option Int)) => [.lst (q.1.map (dOpt D.int)), .lst (q.2.map (dOpt D.int))]) (fun q => F_greater q.1 q.2) dk_LOI) := by
  refine T.f_greater.gf fun f fd F => fn_e F sc_greater (fun _ => rfl) fun X e1 e2 e3 e4 e5 B Fz q out hF hne => ?_
  subst e1 e2 e3 e4 e5
  have v0 : Ns X 0 "one" := B.ns rfl rfl
  have v1 : Ns X 1 "other" := B.ns rfl rfl
  have v2 : Ns X 2 "found" := B.ns rfl rfl
  have v3 : Ns X 3 "here" := B.ns rfl rfl
  have v4 : Ns X 4 "there" := B.ns rfl rfl
  obtain ⟨one1, other2⟩ := q
  replace hF : F_greater one1 other2 = out := hF
  unfold F_greater at hF
  change DS _ _ _ [some (.lst (one1.map (dOpt D.int))), some (.lst (other2.map (dOpt D.int))), none, none, none] [] _
  refine ds_cons (ds1_if (dt_nei (dv_lenM (g := (dOpt D.int)) (B.bn (x := "len") rfl T.b_len bt_len) (dv_var v0.toNm rfl) (.lst _)) (dv_lenM (g := (dOpt D.int)) (B.bn (x := "len") rfl T.b_len bt_len) (dv_var v1.toNm rfl) (.lst _))) (fun hh3 => ?_) (fun hh3 => ?_))
  ·
    replace hF := ite_t hF hh3
    exact ds_cons (ds1_raise B.calm T.x_NoRule (B.gl (x := "NoRule") rfl) fun cls hm => (kx_exc hF hm))
  ·
    replace hF := ite_f hF hh3
    refine ds_nil ?_
    refine ds_cons (ds1_newL v2 da_nil (szN 0 rfl) fun w4 n_w4 => ?_)
    change DS _ _ _ [some (.lst (one1.map (dOpt D.int))), some (.lst (other2.map (dOpt D.int))), some (.adr w4), none, none] [(w4, Mu.lst (([] : List (Option Int)).map (dOpt D.int)))] _
    obtain ⟨o24, hh25, hh26, hF⟩ := bindX_cut hF hne
    refine ds_cons (ds1_foldE (enc := dk_T2OIOI) B (fun (z : List (Option Int)) => [some (.lst (one1.map (dOpt D.int))), some (.lst (other2.map (dOpt D.int))), some (.adr w4), none, none]) (fun (z : List (Option Int)) => [(w4, Mu.lst (z.map (dOpt D.int)))]) hh25 hh26 (show DI _ _ _ _ _ _ (List.map dk_T2OIOI _) from di_zipM (f := (dOpt D.int)) (g := (dOpt D.int)) (B.bn (x := "zip") rfl T.b_zip bt_zip) (dv_var v0.toNm rfl) (dv_var v1.toNm rfl)) ⟨.inr rfl, .inr rfl, .inr rfl, .inl rfl, .inl rfl, trivial⟩ rfl ?hso24 ?hdo24 ?hxo24 then_fgt)
    case hso24 =>
      clear hF
      rintro found5 x6 o7 _ hF hne
      refine ⟨_, _, (dg_tup B.calm (dgs_cons (dg_name v3) (dgs_cons (dg_name v4) dgs_nil))), ?_⟩
      change DS _ _ _ [some (.lst (one1.map (dOpt D.int))), some (.lst (other2.map (dOpt D.int))), some (.adr w4), some (dOpt D.int x6.1), some (dOpt D.int x6.2)] [(w4, Mu.lst (found5.map (dOpt D.int)))] _
      obtain ⟨b14, hh15, hF⟩ := bindP_out hF hne
      obtain ⟨jk17, hjk17, hF⟩ := jpE_out hF
      refine ds_cons (ds1_ifJ (kf := jk17) (out := o7) (fun (a : Unit) (z : List (Option Int)) => [some (.lst (one1.map (dOpt D.int))), some (.lst (other2.map (dOpt D.int))), some (.adr w4), some (dOpt D.int x6.1), some (dOpt D.int x6.2)]) (fun (a : Unit) (z : List (Option Int)) => [(w4, Mu.lst (z.map (dOpt D.int)))]) (DW.t (dw_orE hh15 (dt_isNO (fun _ => rfl) (dv_var v3.toNm rfl)) fun _ _ hF => (by obtain ⟨b12, hh13, hF⟩ := bindP_out hF (Ex.ok_ne _); cases hF; exact (dw_or1 (DW.t (dw_andE hh13 (dt_notNO (fun _ => rfl) (dv_var v4.toNm rfl)) fun _ _ hF => (by obtain ⟨there8, hh9, hF⟩ := bindP_out hF (Ex.ok_ne _); obtain ⟨here10, hh11, hF⟩ := bindP_out hF (Ex.ok_ne _); cases hF; exact (dw_and1 (dt_gt (dv_un (enc := D.int) (dv_var v4.toNm rfl) hh9) (dv_un (enc := D.int) (dv_var v3.toNm rfl) hh11)))))))))) (fun hh16 => ?_) (fun hh16 => ?_) ?_ then_fgt)
      ·
        replace hF := ite_t hF hh16
        obtain ⟨hh18, hF⟩ := gd_out hF hne
        refine ds_cons (ds1_appM (g := (dOpt D.int)) (xs := found5) (v := x6.2) 0 (dv_var v2.toNm rfl) (dv_var v4.toNm rfl) rfl hh18 ?_)
        change DS _ _ _ [some (.lst (one1.map (dOpt D.int))), some (.lst (other2.map (dOpt D.int))), some (.adr w4), some (dOpt D.int x6.1), some (dOpt D.int x6.2)] [(w4, Mu.lst ((found5 ++ [x6.2]).map (dOpt D.int)))] _
        refine ds_nil ?_
        exact join_nx () (found5 ++ [x6.2]) hF ⟨.inr rfl, .inr rfl, .inr rfl, .inr rfl, .inr rfl, trivial⟩ rfl
      ·
        replace hF := ite_f hF hh16
        obtain ⟨here19, hh20, hF⟩ := bindP_out hF hne
        obtain ⟨hh21, hF⟩ := gd_out hF hne
        refine ds_cons (ds1_appM (g := (dOpt D.int)) (xs := found5) (v := (some here19)) 0 (dv_var v2.toNm rfl) (DV.is (dv_un (enc := D.int) (dv_var v3.toNm rfl) hh20) (show _ = dOpt D.int (some here19) from rfl)) rfl hh21 ?_)
        change DS _ _ _ [some (.lst (one1.map (dOpt D.int))), some (.lst (other2.map (dOpt D.int))), some (.adr w4), some (dOpt D.int x6.1), some (dOpt D.int x6.2)] [(w4, Mu.lst ((found5 ++ [(some here19)]).map (dOpt D.int)))] _
        refine ds_nil ?_
        exact join_nx () (found5 ++ [(some here19)]) hF ⟨.inr rfl, .inr rfl, .inr rfl, .inr rfl, .inr rfl, trivial⟩ rfl
      ·
        rintro ⟨⟩ found22 hF
        subst hjk17
        change DS _ _ _ [some (.lst (one1.map (dOpt D.int))), some (.lst (other2.map (dOpt D.int))), some (.adr w4), some (dOpt D.int x6.1), some (dOpt D.int x6.2)] [(w4, Mu.lst (found22.map (dOpt D.int)))] _
        refine ds_nil ?_
        exact fold_nx hF ⟨.inr rfl, .inr rfl, .inr rfl, .inl rfl, .inl rfl, trivial⟩ rfl
    case hdo24 =>
      rintro found23 rfl
      replace hF := okE hF
      change DS _ _ _ [some (.lst (one1.map (dOpt D.int))), some (.lst (other2.map (dOpt D.int))), some (.adr w4), none, none] [(w4, Mu.lst (found23.map (dOpt D.int)))] _
      refine ds_frz 0 2 rfl rfl ?_
      change DS _ _ _ [some (.lst (one1.map (dOpt D.int))), some (.lst (other2.map (dOpt D.int))), some (.lst (found23.map (dOpt D.int))), none, none] [] _
      refine ds_cons (ds1_retV (dv_var v2.toNm rfl) ?_)
      exact ret_mk (enc := dk_LOI) (M := []) hF
    case hxo24 =>
      rintro cls fs _ _ ⟨n, rfl, e2⟩
      exact kx_exc hF e2
theorem x_greater {X : Cx} {kx : XD} {ρ : Ro} {M : Mem} {pos p : Pos} {e0 e1 : Expr} {one1 : List (Option Int)} {other2 : List (Option Int)} {n : Str} {fs : List (Str × D)} (T : TxtT X.K X.mg A X.base) (hr : Room 1 X.A) (hg : Gl X "greater") (h0 : DV X kx e0 ρ M (.lst (one1.map (dOpt D.int)))) (h1 : DV X kx e1 ρ M (.lst (other2.map (dOpt D.int)))) (hF : F_greater one1 other2 = .exc n fs) (hk : ∀ cls, X.mg n = some cls → kx cls fs ρ M) (he0 : starEach [e0, e1] X.env = (false, eval e0 X.env) :: starEach [e1] X.env := by rfl) (he1 : starEach [e1] X.env = (false, eval e1 X.env) :: starEach [] X.env := by rfl) (hpl : (backTo pos (starEach [e1] X.env)).any (·.1) = false := by rfl) : DE X kx (.Call (.Name "greater" p) [e0, e1] [] pos) ρ M fun _ _ => False :=
  de_exc (g_greater T) hr hg (da_cons h0 (da_cons h1 da_nil he1) he0) (one1, other2) rfl hF hk (by decide) he0 hpl
theorem c_greater {X : Cx} {kx : XD} {ρ : Ro} {M : Mem} {pos p : Pos} {e0 e1 : Expr} {one1 : List (Option Int)} {other2 : List (Option Int)} {r : List (Option Int)} (T : TxtT X.K X.mg A X.base) (hr : Room 1 X.A) (hg : Gl X "greater") (h0 : DV X kx e0 ρ M (.lst (one1.map (dOpt D.int)))) (h1 : DV X kx e1 ρ M (.lst (other2.map (dOpt D.int)))) (hF : F_greater one1 other2 = .ok r) (he0 : starEach [e0, e1] X.env = (false, eval e0 X.env) :: starEach [e1] X.env := by rfl) (he1 : starEach [e1] X.env = (false, eval e1 X.env) :: starEach [] X.env := by rfl) (hpl : (backTo pos (starEach [e1] X.env)).any (·.1) = false := by rfl) : DV X kx (.Call (.Name "greater" p) [e0, e1] [] pos) ρ M (.lst (r.map (dOpt D.int))) :=
  dv_call (g_greater T) hr hg (da_cons h0 (da_cons h1 da_nil he1) he0) (one1, other2) rfl (fun h => Ex.ok_ne r (hF.symm.trans h)) (fun d ⟨r', a1, a2⟩ => by cases hF.symm.trans a1; exact a2) (fun cls fs ⟨n, a1, _⟩ => by cases hF.symm.trans a1) (by decide) he0 hpl
theorem sc_Roll_lift : FnScope ["self", "edges"] ["self", "edges"] (defScope s_Roll_lift) := fscope (by decide +kernel)
abbrev R_Roll_lift (A : Adr) (q : D × Mem × TRoll × (List (Option Int))) (r : Unit × TRoll) (d : D) (m : Mem) : Prop := ∃ n0 : Mem, m = n0 ++ [] ∧ d = .non ∧ OwR (is_Roll A) r.2 q.1 n0
theorem f_Roll_lift (T : TxtT K mg A base) {f : Addr} {fd : FuncData} (F : FunD K "lift" "Roll.lift" (defArgs s_Roll_lift) (defBody s_Roll_lift) (defScope s_Roll_lift) [] [] f fd) : FnOk P w K mg base (L2.CX P w) 2 f fd ["self", "edges"] (spR K mg (fun q : D × Mem × TRoll × (List (Option Int)) => [q.1, .lst (q.2.2.2.map (dOpt D.int))]) (fun q : D × Mem × TRoll × (List (Option Int)) => q.2.1 ++ []) (fun q : D × Mem × TRoll × (List (Option Int)) => OwR (is_Roll A) q.2.2.1 q.1 q.2.1) (fun q : D × Mem × TRoll × (List (Option Int)) => F_Roll_lift q.2.2.1 q.2.2.2) (R_Roll_lift A)) := by
  refine fn_rD F sc_Roll_lift (fun _ => rfl) fun X e1 e2 e3 e4 e5 B Fz q out hp hF hne => ?_
  subst e1 e2 e3 e4 e5
  have v0 : Ns X 0 "self" := B.ns rfl rfl
  have v1 : Ns X 1 "edges" := B.ns rfl rfl
  obtain ⟨d3, m4, self1, edges2⟩ := q
  have hh5 : OwR (is_Roll A) self1 d3 m4 := hp
  replace hF : F_Roll_lift self1 edges2 = out := hF
  unfold F_Roll_lift at hF
  change DS _ _ _ [some (d3), some (.lst (edges2.map (dOpt D.int)))] (m4 ++ []) _
  obtain ⟨w6, w7, w8, hh9, hh10⟩ := (own_Roll).mp hh5
  subst hh10
  subst hh9
  change DS _ _ _ [some ((.adr w6)), some (.lst (edges2.map (dOpt D.int)))] [(w6, Mu.ins A.c_Roll ["ruling", "today", "limits", "whole", "heaped"] [(dk_CRule A) self1.1, .int self1.2.1, .lst (self1.2.2.1.map (dOpt D.int)), D.adr w7, D.adr w8]), (w7, Mu.dT (self1.2.2.2.1.map fun q => (ek_T2II q.1, D.int q.2))), (w8, Mu.dT (self1.2.2.2.2.map fun q => (ek_T2II q.1, dk_T4IIII q.2)))] _
  rcases bindX_out hF hne with ⟨limits11, hh12, hF⟩ | ⟨n, fs, hh12, hF⟩
  rotate_left
  · exact ds_cons (ds1_fldX (x_greater T (B.room.mono (by decide)) (B.gl (x := "greater") rfl) (dv_fld T.cl_Roll.cl (T.cl_Roll.na "limits" (by simp)) (dv_var v0.toNm rfl) (.adr (List.mem_of_getElem? (i := 0) (show _ = some (w6, Mu.ins A.c_Roll ["ruling", "today", "limits", "whole", "heaped"] [(dk_CRule A) self1.1, .int self1.2.1, .lst (self1.2.2.1.map (dOpt D.int)), D.adr w7, D.adr w8]) from rfl))) rfl) (dv_var v1.toNm rfl) hh12 fun cls hm => (kxR_exc hF.symm hm (pi_e (.refl _) (pi_e (.refl _) (pi_e (.refl _) pl_nil))))))
  refine ds_cons (ds1_fld (i := 0) T.cl_Roll.cl (T.cl_Roll.na "limits" (by simp)) (c_greater T (B.room.mono (by decide)) (B.gl (x := "greater") rfl) (dv_fld T.cl_Roll.cl (T.cl_Roll.na "limits" (by simp)) (dv_var v0.toNm rfl) (.adr (List.mem_of_getElem? (i := 0) (show _ = some (w6, Mu.ins A.c_Roll ["ruling", "today", "limits", "whole", "heaped"] [(dk_CRule A) self1.1, .int self1.2.1, .lst (self1.2.2.1.map (dOpt D.int)), D.adr w7, D.adr w8]) from rfl))) rfl) (dv_var v1.toNm rfl) hh12) (dv_var v0.toNm rfl) rfl (by decide) rfl ?_)
  change DS _ _ _ [some ((.adr w6)), some (.lst (edges2.map (dOpt D.int)))] [(w6, Mu.ins A.c_Roll ["ruling", "today", "limits", "whole", "heaped"] [(dk_CRule A) self1.1, .int self1.2.1, .lst (limits11.map (dOpt D.int)), D.adr w7, D.adr w8]), (w7, Mu.dT (self1.2.2.2.1.map fun q => (ek_T2II q.1, D.int q.2))), (w8, Mu.dT (self1.2.2.2.2.map fun q => (ek_T2II q.1, dk_T4IIII q.2)))] _
  have hh13 : OwR (is_Roll A) (self1.1, self1.2.1, limits11, self1.2.2.2.1, self1.2.2.2.2) (.adr w6) [(w6, Mu.ins A.c_Roll ["ruling", "today", "limits", "whole", "heaped"] [(dk_CRule A) self1.1, .int self1.2.1, .lst (limits11.map (dOpt D.int)), D.adr w7, D.adr w8]), (w7, Mu.dT (self1.2.2.2.1.map fun q => (ek_T2II q.1, D.int q.2))), (w8, Mu.dT (self1.2.2.2.2.map fun q => (ek_T2II q.1, dk_T4IIII q.2)))] := (own_Roll).mpr ⟨w6, w7, w8, rfl, rfl⟩
  change DS _ _ _ [some ((.adr w6)), some (.lst (edges2.map (dOpt D.int)))] ([(w6, Mu.ins A.c_Roll ["ruling", "today", "limits", "whole", "heaped"] [(dk_CRule A) self1.1, .int self1.2.1, .lst (limits11.map (dOpt D.int)), D.adr w7, D.adr w8]), (w7, Mu.dT (self1.2.2.2.1.map fun q => (ek_T2II q.1, D.int q.2))), (w8, Mu.dT (self1.2.2.2.2.map fun q => (ek_T2II q.1, dk_T4IIII q.2)))] ++ []) _
  generalize hh15 : ([(w6, Mu.ins A.c_Roll ["ruling", "today", "limits", "whole", "heaped"] [(dk_CRule A) self1.1, .int self1.2.1, .lst (limits11.map (dOpt D.int)), D.adr w7, D.adr w8]), (w7, Mu.dT (self1.2.2.2.1.map fun q => (ek_T2II q.1, D.int q.2))), (w8, Mu.dT (self1.2.2.2.2.map fun q => (ek_T2II q.1, dk_T4IIII q.2)))] : Mem) = m14 at hh13 ⊢
  clear hh15
  refine ds_nil ?_
  exact retR_nx (res := R_Roll_lift A ((.adr w6), _, self1, edges2)) hF ⟨m14, rfl, rfl, hh13⟩ (pl_2 (.refl _) pl_nil)
theorem gu_Roll_lift_0 (T : TxtT K mg A base) : GM P w K mg base 2 A.c_Roll "lift" [] (spR K mg (fun q : D × Mem × TRoll × (List (Option Int)) => [q.1, .lst (q.2.2.2.map (dOpt D.int))]) (fun q : D × Mem × TRoll × (List (Option Int)) => q.2.1 ++ []) (fun q : D × Mem × TRoll × (List (Option Int)) => OwR (is_Roll A) q.2.2.1 q.1 q.2.1) (fun q : D × Mem × TRoll × (List (Option Int)) => F_Roll_lift q.2.2.1 q.2.2.2) (R_Roll_lift A)) := T.m_Roll_lift.gm 0 (by decide) _ (fun _ _ e => by subst e; exact .nil) fun _ _ F => f_Roll_lift T F
theorem u_Roll_lift_0 {X : Cx} {kx : XD} {ρ : Ro} {M R : Mem} {pos apos : Pos} {pl : Sem Bool} {o e0 : Expr} {d3 : D} {m4 : Mem} {self1 : TRoll} {edges2 : List (Option Int)} {r : Unit × TRoll} {kk : D → Mem → Prop} (T : TxtT X.K X.mg A X.base) (hr : Room 2 X.A)  (ho : DV X kx o ρ M (d3)) (h0 : DV X kx e0 ρ M (.lst (edges2.map (dOpt D.int)))) (o0 : OwR (is_Roll A) self1 d3 m4) (pm : M.Perm ((m4 ++ []) ++ R)) (hF : F_Roll_lift self1 edges2 = .ok r) (hk : ∀ n0 : Mem, OwR (is_Roll A) r.2 d3 n0 → kk (.non) (n0 ++ R)) (he0 : starEach [e0] X.env = (false, eval e0 X.env) :: starEach [] X.env := by rfl) (hpl : (backTo pos (starEach [] X.env)).any (·.1) = false := by rfl) (ht : eval (.Call (.Attribute o "lift" apos) [e0] [] pos) X.env = (do
      let ov ← eval o X.env
      standAt apos.atName
      let (f, first) ← holding [ov] (getMethod ov "lift" pl)
      callWith pos f first (backTo pos (starEach [e0] X.env)) (backToKw pos (keywordEach [] X.env))) := by rfl) : DE X kx (.Call (.Attribute o "lift" apos) [e0] [] pos) ρ M kk := by
  obtain ⟨gs, hob0⟩ := (cls_Roll A).obj o0
  have hob := hob0.more (M' := M) fun p hp => pm.mem_iff.mpr (by simp [hp])
  refine de_methR T.cl_Roll.cl (gu_Roll_lift_0 T) hr ho hob (da_cons h0 da_nil he0) (d3, m4, self1, edges2) rfl pm o0 hF (fun d m hres => ?_) (by decide) he0 hpl ht
  obtain ⟨n0, rfl, rfl, q0⟩ := hres
  simpa only [List.append_nil, List.append_assoc, List.cons_append, List.nil_append] using hk n0 q0
theorem ux_Roll_lift_0 {X : Cx} {kx : XD} {ρ : Ro} {M R : Mem} {pos apos : Pos} {pl : Sem Bool} {o e0 : Expr} {d3 : D} {m4 : Mem} {self1 : TRoll} {edges2 : List (Option Int)} {n : Str} {fs : List (Str × D)} (T : TxtT X.K X.mg A X.base) (hr : Room 2 X.A)  (ho : DV X kx o ρ M (d3)) (h0 : DV X kx e0 ρ M (.lst (edges2.map (dOpt D.int)))) (o0 : OwR (is_Roll A) self1 d3 m4) (pm : M.Perm ((m4 ++ []) ++ R)) (hF : F_Roll_lift self1 edges2 = .exc n fs) (hk : ∀ cls, X.mg n = some cls → kx cls fs ρ M) (he0 : starEach [e0] X.env = (false, eval e0 X.env) :: starEach [] X.env := by rfl) (hpl : (backTo pos (starEach [] X.env)).any (·.1) = false := by rfl) (ht : eval (.Call (.Attribute o "lift" apos) [e0] [] pos) X.env = (do
      let ov ← eval o X.env
      standAt apos.atName
      let (f, first) ← holding [ov] (getMethod ov "lift" pl)
      callWith pos f first (backTo pos (starEach [e0] X.env)) (backToKw pos (keywordEach [] X.env))) := by rfl) : DE X kx (.Call (.Attribute o "lift" apos) [e0] [] pos) ρ M fun _ _ => False := by
  obtain ⟨gs, hob0⟩ := (cls_Roll A).obj o0
  have hob := hob0.more (M' := M) fun p hp => pm.mem_iff.mpr (by simp [hp])
  exact de_methRX T.cl_Roll.cl (gu_Roll_lift_0 T) hr ho hob (da_cons h0 da_nil he0) (d3, m4, self1, edges2) rfl pm o0 hF hk (by decide) he0 hpl ht
theorem sc_cell_at : FnScope ["rule", "edges", "time", "found", "age", "width", "edge"] ["rule", "edges", "time"] (defScope s_cell_at) := fscope (by decide +kernel)
theorem g_cell_at (T : TxtT K mg A base) : GF P w K mg base 2 "cell_at" [] (spE K mg (fun q : ((List (Int × Int)) × (Option Int)) × (List (Option Int)) × Int => [(dk_CRule A) q.1, .lst (q.2.1.map (dOpt D.int)), .int q.2.2]) (fun q => F_cell_at q.1 q.2.1 q.2.2) (dOpt dk_T2II)) := by
  refine T.f_cell_at.gf fun f fd F => fn_e F sc_cell_at (fun _ => rfl) fun X e1 e2 e3 e4 e5 B Fz q out hF hne => ?_
  subst e1 e2 e3 e4 e5
  have v0 : Ns X 0 "rule" := B.ns rfl rfl
  have v1 : Ns X 1 "edges" := B.ns rfl rfl
  have v2 : Ns X 2 "time" := B.ns rfl rfl
  have v3 : Ns X 3 "found" := B.ns rfl rfl
  have v4 : Ns X 4 "age" := B.ns rfl rfl
  have v5 : Ns X 5 "width" := B.ns rfl rfl
  have v6 : Ns X 6 "edge" := B.ns rfl rfl
  obtain ⟨rule1, edges2, time3⟩ := q
  replace hF : F_cell_at rule1 edges2 time3 = out := hF
  unfold F_cell_at at hF
  change DS _ _ _ [some ((dk_CRule A) rule1), some (.lst (edges2.map (dOpt D.int))), some (.int time3), none, none, none, none] [] _
  obtain ⟨x4, hh5, hF⟩ := bindP_out hF hne
  obtain ⟨o6, hh7, hF⟩ := bindP_out hF hne
  refine ds_cons (ds1_if (dt_ge (dv_var v2.toNm rfl) (dv_un (enc := D.int) (dv_ixS (dv_var v1.toNm rfl) (.lst _) dv_int (ixE_out hh5 (dOpt D.int))) hh7)) (fun hh8 => ?_) (fun hh8 => ?_))
  ·
    replace hF := ite_t hF hh8
    refine ds_cons (ds1_retV (DV.is (show DV _ _ _ _ _ (dk_T2II (time3, 0)) from dv_tup (da_cons (dv_var v2.toNm rfl) (da_cons dv_int da_nil)) (szN 2 rfl)) (show _ = dOpt dk_T2II (some (time3, 0)) from rfl)) ?_)
    exact ret_mk (enc := (dOpt dk_T2II)) (M := []) hF
  ·
    replace hF := ite_f hF hh8
    refine ds_nil ?_
    obtain ⟨x9, hh10, hF⟩ := bindP_out hF hne
    obtain ⟨b15, hh16, hF⟩ := bindP_out hF hne
    refine ds_cons (ds1_if (DW.t (dw_andE hh16 (dt_notNO (fun _ => rfl) (dv_ixS (dv_var v1.toNm rfl) (.lst _) (DV.is (dv_neg dv_int) (show D.int _ = D.int (-1) from congrArg D.int (by decide))) (ixE_out hh10 (dOpt D.int)))) fun _ _ hF => (by obtain ⟨x11, hh12, hF⟩ := bindP_out hF (Ex.ok_ne _); obtain ⟨o13, hh14, hF⟩ := bindP_out hF (Ex.ok_ne _); cases hF; exact (dw_and1 (dt_lt (dv_var v2.toNm rfl) (dv_un (enc := D.int) (dv_ixS (dv_var v1.toNm rfl) (.lst _) (DV.is (dv_neg dv_int) (show D.int _ = D.int (-1) from congrArg D.int (by decide))) (ixE_out hh12 (dOpt D.int))) hh14)))))) (fun hh17 => ?_) (fun hh17 => ?_))
    ·
      replace hF := ite_t hF hh17
      refine ds_cons (ds1_retV (DV.is dv_non (show _ = dOpt dk_T2II none from rfl)) ?_)
      exact ret_mk (enc := (dOpt dk_T2II)) (M := []) hF
    ·
      replace hF := ite_f hF hh17
      refine ds_nil ?_
      refine ds_cons (ds1_set v3 dv_int ?_)
      change DS _ _ _ [some ((dk_CRule A) rule1), some (.lst (edges2.map (dOpt D.int))), some (.int time3), some (.int 1), none, none, none] [] _
      obtain ⟨r18, hh19, hF⟩ := bindP_out hF hne
      obtain ⟨o29, hh30, hh31, hF⟩ := bindX_cut hF hne
      refine ds_cons (ds1_loopE (enc := dk_T2T2IIOI) (enr := (dOpt dk_T2II)) B (fun (z : Int) => [some ((dk_CRule A) rule1), some (.lst (edges2.map (dOpt D.int))), some (.int time3), some (.int z), none, none, none]) (fun (z : Int) => []) hh30 hh31 (show DI _ _ _ _ _ _ (List.map dk_T2T2IIOI _) from di_zipM (f := dk_T2II) (g := (dOpt D.int)) (B.bn (x := "zip") rfl T.b_zip bt_zip) (c_Rule_steps T (B.room.mono (by decide)) (dv_var v0.toNm rfl) hh19) (dv_var v1.toNm rfl)) ⟨.inr rfl, .inr rfl, .inr rfl, .inr rfl, .inl rfl, .inl rfl, .inl rfl, trivial⟩ rfl ?hso29 ?hdo29 ?hro29 ?hxo29 then_fgt)
      case hso29 =>
        clear hF
        rintro found20 x21 o22 _ hF hne
        refine ⟨_, _, (dg_tup B.calm (dgs_cons (dg_tup B.calm (dgs_cons (dg_name v4) (dgs_cons (dg_name v5) dgs_nil))) (dgs_cons (dg_name v6) dgs_nil))), ?_⟩
        change DS _ _ _ [some ((dk_CRule A) rule1), some (.lst (edges2.map (dOpt D.int))), some (.int time3), some (.int found20), some (.int x21.1.1), some (.int x21.1.2), some (dOpt D.int x21.2)] [] _
        obtain ⟨edge23, hh24, hF⟩ := bindP_out hF hne
        refine ds_cons (ds1_if (dt_ge (dv_var v2.toNm rfl) (dv_un (enc := D.int) (dv_var v6.toNm rfl) hh24)) (fun hh25 => ?_) (fun hh25 => ?_))
        ·
          replace hF := ite_t hF hh25
          refine ds_cons (ds1_brk ?_)
          exact loop_bk (enr := (dOpt dk_T2II)) hF ⟨.inr rfl, .inr rfl, .inr rfl, .inr rfl, .inl rfl, .inl rfl, .inl rfl, trivial⟩ rfl
        ·
          replace hF := ite_f hF hh25
          refine ds_nil ?_
          refine ds_cons (ds1_set v3 (dv_var v5.toNm rfl) ?_)
          change DS _ _ _ [some ((dk_CRule A) rule1), some (.lst (edges2.map (dOpt D.int))), some (.int time3), some (.int x21.1.2), some (.int x21.1.1), some (.int x21.1.2), some (dOpt D.int x21.2)] [] _
          refine ds_nil ?_
          exact loop_nx (enr := (dOpt dk_T2II)) hF ⟨.inr rfl, .inr rfl, .inr rfl, .inr rfl, .inl rfl, .inl rfl, .inl rfl, trivial⟩ rfl
      case hdo29 =>
        rintro found26 rfl
        replace hF := okE hF
        replace hF := nxE hF
        change DS _ _ _ [some ((dk_CRule A) rule1), some (.lst (edges2.map (dOpt D.int))), some (.int time3), some (.int found26), none, none, none] [] _
        obtain ⟨hh27, hF⟩ := gd_out hF hne
        obtain ⟨hh28, hF⟩ := gd_out hF hne
        refine ds_cons (ds1_retV (DV.is (show DV _ _ _ _ _ (dk_T2II ((time3 / found26) * found26, found26)) from dv_tup (da_cons (dv_mulX (dv_fdiv (dv_var v2.toNm rfl) (dv_var v3.toNm rfl) (div_k hh27)) (dv_var v3.toNm rfl) hh28) (da_cons (dv_var v3.toNm rfl) da_nil)) (szN 2 rfl)) (show _ = dOpt dk_T2II (some ((time3 / found26) * found26, found26)) from rfl)) ?_)
        exact ret_mk (enc := (dOpt dk_T2II)) (M := []) hF
      case hro29 =>
        rintro r32 _ rfl
        exact ret_mk (enc := (dOpt dk_T2II)) (M := []) hF
      case hxo29 =>
        rintro cls fs _ _ ⟨n, rfl, e2⟩
        exact kx_exc hF e2
theorem c_cell_at {X : Cx} {kx : XD} {ρ : Ro} {M : Mem} {pos p : Pos} {e0 e1 e2 : Expr} {rule1 : (List (Int × Int)) × (Option Int)} {edges2 : List (Option Int)} {time3 : Int} {r : Option (Int × Int)} (T : TxtT X.K X.mg A X.base) (hr : Room 2 X.A) (hg : Gl X "cell_at") (h0 : DV X kx e0 ρ M ((dk_CRule A) rule1)) (h1 : DV X kx e1 ρ M (.lst (edges2.map (dOpt D.int)))) (h2 : DV X kx e2 ρ M (.int time3)) (hF : F_cell_at rule1 edges2 time3 = .ok r) (he0 : starEach [e0, e1, e2] X.env = (false, eval e0 X.env) :: starEach [e1, e2] X.env := by rfl) (he1 : starEach [e1, e2] X.env = (false, eval e1 X.env) :: starEach [e2] X.env := by rfl) (he2 : starEach [e2] X.env = (false, eval e2 X.env) :: starEach [] X.env := by rfl) (hpl : (backTo pos (starEach [e1, e2] X.env)).any (·.1) = false := by rfl) : DV X kx (.Call (.Name "cell_at" p) [e0, e1, e2] [] pos) ρ M (dOpt dk_T2II r) :=
  dv_call (g_cell_at T) hr hg (da_cons h0 (da_cons h1 (da_cons h2 da_nil he2) he1) he0) (rule1, edges2, time3) rfl (fun h => Ex.ok_ne r (hF.symm.trans h)) (fun d ⟨r', a1, a2⟩ => by cases hF.symm.trans a1; exact a2) (fun cls fs ⟨n, a1, _⟩ => by cases hF.symm.trans a1) (by decide) he0 hpl
theorem sc_Roll_cell_of : FnScope ["self", "time"] ["self", "time"] (defScope s_Roll_cell_of) := fscope (by decide +kernel)
theorem g_Roll_cell_of (T : TxtT K mg A base) : GM P w K mg base 3 A.c_Roll "cell_of" [] (spE K mg (fun q : TRoll × Int => [(dk_CRoll A) q.1, .int q.2]) (fun q => F_Roll_cell_of q.1 q.2) (dOpt dk_T2II)) := by
  refine T.m_Roll_cell_of.gm 0 (by decide) [] (fun _ _ e => by subst e; exact .nil) fun f fd F => fn_eD F sc_Roll_cell_of (fun _ => rfl) fun X e1 e2 e3 e4 e5 B Fz q out hF hne => ?_
  subst e1 e2 e3 e4 e5
  have v0 : Ns X 0 "self" := B.ns rfl rfl
  have v1 : Ns X 1 "time" := B.ns rfl rfl
  obtain ⟨self1, time2⟩ := q
  replace hF : F_Roll_cell_of self1 time2 = out := hF
  unfold F_Roll_cell_of at hF
  change DS _ _ _ [some ((dk_CRoll A) self1), some (.int time2)] [] _
  obtain ⟨r3, hh4, hF⟩ := bindP_out hF hne
  refine ds_cons (ds1_retV (c_cell_at T (B.room.mono (by decide)) (B.gl (x := "cell_at") rfl) (dv_fld T.cl_Roll.cl (T.cl_Roll.na "ruling" (by simp)) (dv_var v0.toNm rfl) (.ins _ _ _) rfl) (dv_fld T.cl_Roll.cl (T.cl_Roll.na "limits" (by simp)) (dv_var v0.toNm rfl) (.ins _ _ _) rfl) (dv_var v1.toNm rfl) hh4) ?_)
  exact ret_mk (enc := (dOpt dk_T2II)) (M := []) hF
theorem c_Roll_cell_of {X : Cx} {kx : XD} {ρ : Ro} {M : Mem} {pos apos : Pos} {pl : Sem Bool} {o e0 : Expr} {self1 : TRoll} {time2 : Int} {r : Option (Int × Int)} (T : TxtT X.K X.mg A X.base) (hr : Room 3 X.A) (ho : DV X kx o ρ M ((dk_CRoll A) self1)) (h0 : DV X kx e0 ρ M (.int time2)) (hF : F_Roll_cell_of self1 time2 = .ok r) (he0 : starEach [e0] X.env = (false, eval e0 X.env) :: starEach [] X.env := by rfl) (hpl : (backTo pos (starEach [] X.env)).any (·.1) = false := by rfl) (ht : eval (.Call (.Attribute o "cell_of" apos) [e0] [] pos) X.env = (do
      let ov ← eval o X.env
      standAt apos.atName
      let (f, first) ← holding [ov] (getMethod ov "cell_of" pl)
      callWith pos f first (backTo pos (starEach [e0] X.env)) (backToKw pos (keywordEach [] X.env))) := by rfl) : DV X kx (.Call (.Attribute o "cell_of" apos) [e0] [] pos) ρ M (dOpt dk_T2II r) :=
  dv_meth T.cl_Roll.cl (g_Roll_cell_of T) hr ho (.ins _ _ _) (da_cons h0 da_nil he0) (self1, time2) rfl (fun h => Ex.ok_ne r (hF.symm.trans h)) (fun d ⟨r', a1, a2⟩ => by cases hF.symm.trans a1; exact a2) (fun cls fs ⟨n, a1, _⟩ => by cases hF.symm.trans a1) rfl he0 hpl ht
theorem sc_poured : FnScope ["one", "other"] ["one", "other"] (defScope s_poured) := fscope (by decide +kernel)
theorem g_poured (T : TxtT K mg A base) : GF P w K mg base 1 "poured" [] (spE K mg (fun q : (Int × Int × Int × Int) × (Int × Int × Int × Int) => [dk_T4IIII q.1, dk_T4IIII q.2]) (fun q => F_poured q.1 q.2) dk_T4IIII) := by
  refine T.f_poured.gf fun f fd F => fn_e F sc_poured (fun _ => rfl) fun X e1 e2 e3 e4 e5 B Fz q out hF hne => ?_
  subst e1 e2 e3 e4 e5
  have v0 : Ns X 0 "one" := B.ns rfl rfl
  have v1 : Ns X 1 "other" := B.ns rfl rfl
  obtain ⟨one1, other2⟩ := q
  replace hF : F_poured one1 other2 = out := hF
  unfold F_poured at hF
  change DS _ _ _ [some (dk_T4IIII one1), some (dk_T4IIII other2)] [] _
  refine ds_cons (ds1_retV (show DV _ _ _ _ _ (dk_T4IIII (one1.1 + other2.1, one1.2.1 + other2.2.1, min one1.2.2.1 other2.2.2.1, max one1.2.2.2 other2.2.2.2)) from dv_tup (da_cons (dv_add (dv_ixT (show DV _ _ _ _ _ (.tup [.int one1.1, .int one1.2.1, .int one1.2.2.1, .int one1.2.2.2]) from (dv_var v0.toNm rfl)) dv_int rfl) (dv_ixT (show DV _ _ _ _ _ (.tup [.int other2.1, .int other2.2.1, .int other2.2.2.1, .int other2.2.2.2]) from (dv_var v1.toNm rfl)) dv_int rfl)) (da_cons (dv_add (dv_ixT (show DV _ _ _ _ _ (.tup [.int one1.1, .int one1.2.1, .int one1.2.2.1, .int one1.2.2.2]) from (dv_var v0.toNm rfl)) dv_int rfl) (dv_ixT (show DV _ _ _ _ _ (.tup [.int other2.1, .int other2.2.1, .int other2.2.2.1, .int other2.2.2.2]) from (dv_var v1.toNm rfl)) dv_int rfl)) (da_cons (dv_min2 B.calm (B.bn (x := "min") rfl T.b_min bt_min) (dv_ixT (show DV _ _ _ _ _ (.tup [.int one1.1, .int one1.2.1, .int one1.2.2.1, .int one1.2.2.2]) from (dv_var v0.toNm rfl)) dv_int rfl) (dv_ixT (show DV _ _ _ _ _ (.tup [.int other2.1, .int other2.2.1, .int other2.2.2.1, .int other2.2.2.2]) from (dv_var v1.toNm rfl)) dv_int rfl)) (da_cons (dv_max2 B.calm (B.bn (x := "max") rfl T.b_max bt_max) (dv_ixT (show DV _ _ _ _ _ (.tup [.int one1.1, .int one1.2.1, .int one1.2.2.1, .int one1.2.2.2]) from (dv_var v0.toNm rfl)) dv_int rfl) (dv_ixT (show DV _ _ _ _ _ (.tup [.int other2.1, .int other2.2.1, .int other2.2.2.1, .int other2.2.2.2]) from (dv_var v1.toNm rfl)) dv_int rfl)) da_nil)))) (szN 4 rfl)) ?_)
  exact ret_mk (enc := dk_T4IIII) (M := []) hF
theorem c_poured {X : Cx} {kx : XD} {ρ : Ro} {M : Mem} {pos p : Pos} {e0 e1 : Expr} {one1 : Int × Int × Int × Int} {other2 : Int × Int × Int × Int} {r : Int × Int × Int × Int} (T : TxtT X.K X.mg A X.base) (hr : Room 1 X.A) (hg : Gl X "poured") (h0 : DV X kx e0 ρ M (dk_T4IIII one1)) (h1 : DV X kx e1 ρ M (dk_T4IIII other2)) (hF : F_poured one1 other2 = .ok r) (he0 : starEach [e0, e1] X.env = (false, eval e0 X.env) :: starEach [e1] X.env := by rfl) (he1 : starEach [e1] X.env = (false, eval e1 X.env) :: starEach [] X.env := by rfl) (hpl : (backTo pos (starEach [e1] X.env)).any (·.1) = false := by rfl) : DV X kx (.Call (.Name "poured" p) [e0, e1] [] pos) ρ M (dk_T4IIII r) :=
  dv_call (g_poured T) hr hg (da_cons h0 (da_cons h1 da_nil he1) he0) (one1, other2) rfl (fun h => Ex.ok_ne r (hF.symm.trans h)) (fun d ⟨r', a1, a2⟩ => by cases hF.symm.trans a1; exact a2) (fun cls fs ⟨n, a1, _⟩ => by cases hF.symm.trans a1) (by decide) he0 hpl
theorem sc_heap_of : FnScope ["runs", "found", "value", "many", "one"] ["runs"] (defScope s_heap_of) := fscope (by decide +kernel)
theorem g_heap_of (T : TxtT K mg A base) : GF P w K mg base 2 "heap_of" [] (spE K mg (fun q : List (Int × Int) => [.lst (q.map dk_T2II)]) (fun q => F_heap_of q) (dOpt dk_T4IIII)) := by
  refine T.f_heap_of.gf fun f fd F => fn_e F sc_heap_of (fun _ => rfl) fun X e1 e2 e3 e4 e5 B Fz runs1 out hF hne => ?_
  subst e1 e2 e3 e4 e5
  have v0 : Ns X 0 "runs" := B.ns rfl rfl
  have v1 : Ns X 1 "found" := B.ns rfl rfl
  have v2 : Ns X 2 "value" := B.ns rfl rfl
  have v3 : Ns X 3 "many" := B.ns rfl rfl
  have v4 : Ns X 4 "one" := B.ns rfl rfl
  replace hF : F_heap_of runs1 = out := hF
  unfold F_heap_of at hF
  change DS _ _ _ [some (.lst (runs1.map dk_T2II)), none, none, none, none] [] _
  refine ds_cons (ds1_set v1 dv_non ?_)
  change DS _ _ _ [some (.lst (runs1.map dk_T2II)), some (.non), none, none, none] [] _
  obtain ⟨o16, hh17, hh18, hF⟩ := bindX_cut hF hne
  refine ds_cons (ds1_foldE (enc := dk_T2II) B (fun (z : Option (Int × Int × Int × Int)) => [some (.lst (runs1.map dk_T2II)), some (dOpt dk_T4IIII z), none, none, none]) (fun (z : Option (Int × Int × Int × Int)) => []) hh17 hh18 (di_list (dv_var v0.toNm rfl)) ⟨.inr rfl, .inr rfl, .inl rfl, .inl rfl, .inl rfl, trivial⟩ rfl ?hso16 ?hdo16 ?hxo16 then_fgt)
  case hso16 =>
    clear hF
    rintro found2 x3 o4 _ hF hne
    refine ⟨_, _, (dg_tup B.calm (dgs_cons (dg_name v2) (dgs_cons (dg_name v3) dgs_nil))), ?_⟩
    change DS _ _ _ [some (.lst (runs1.map dk_T2II)), some (dOpt dk_T4IIII found2), some (.int x3.1), some (.int x3.2), none] [] _
    obtain ⟨hh5, hF⟩ := gd_out hF hne
    obtain ⟨one6, hh7, hF⟩ := letE_out hF
    refine ds_cons (ds1_set v4 (dv_isE (enc := dk_T4IIII) (show DV _ _ _ _ _ (dk_T4IIII (x3.2, x3.1 * x3.2, x3.1, x3.1)) from dv_tup (da_cons (dv_var v3.toNm rfl) (da_cons (dv_mulX (dv_var v2.toNm rfl) (dv_var v3.toNm rfl) hh5) (da_cons (dv_var v2.toNm rfl) (da_cons (dv_var v2.toNm rfl) da_nil)))) (szN 4 rfl)) hh7) ?_)
    change DS _ _ _ [some (.lst (runs1.map dk_T2II)), some (dOpt dk_T4IIII found2), some (.int x3.1), some (.int x3.2), some (dk_T4IIII one6)] [] _
    obtain ⟨jk9, hjk9, hF⟩ := jpE_out hF
    refine ds_cons (ds1_ifJ (kf := jk9) (out := o4) (fun (a : Unit) (z : Int × Int × Int × Int) => [some (.lst (runs1.map dk_T2II)), some (dk_T4IIII z), some (.int x3.1), some (.int x3.2), some (dk_T4IIII one6)]) (fun (a : Unit) (z : Int × Int × Int × Int) => []) (dt_isNO (fun _ => rfl) (dv_var v1.toNm rfl)) (fun hh8 => ?_) (fun hh8 => ?_) ?_ then_fgt)
    ·
      replace hF := ite_t hF hh8
      refine ds_cons (ds1_set v1 (dv_var v4.toNm rfl) ?_)
      change DS _ _ _ [some (.lst (runs1.map dk_T2II)), some (dk_T4IIII one6), some (.int x3.1), some (.int x3.2), some (dk_T4IIII one6)] [] _
      refine ds_nil ?_
      exact join_nx () one6 hF ⟨.inr rfl, .inr rfl, .inr rfl, .inr rfl, .inr rfl, trivial⟩ rfl
    ·
      replace hF := ite_f hF hh8
      obtain ⟨found10, hh11, hF⟩ := bindP_out hF hne
      obtain ⟨r12, hh13, hF⟩ := bindP_out hF hne
      refine ds_cons (ds1_set v1 (c_poured T (B.room.mono (by decide)) (B.gl (x := "poured") rfl) (dv_un (enc := dk_T4IIII) (dv_var v1.toNm rfl) hh11) (dv_var v4.toNm rfl) hh13) ?_)
      change DS _ _ _ [some (.lst (runs1.map dk_T2II)), some (dk_T4IIII r12), some (.int x3.1), some (.int x3.2), some (dk_T4IIII one6)] [] _
      refine ds_nil ?_
      exact join_nx () r12 hF ⟨.inr rfl, .inr rfl, .inr rfl, .inr rfl, .inr rfl, trivial⟩ rfl
    ·
      rintro ⟨⟩ found14 hF
      subst hjk9
      change DS _ _ _ [some (.lst (runs1.map dk_T2II)), some (dk_T4IIII found14), some (.int x3.1), some (.int x3.2), some (dk_T4IIII one6)] [] _
      refine ds_nil ?_
      exact fold_nx hF ⟨.inr rfl, .inr rfl, .inl rfl, .inl rfl, .inl rfl, trivial⟩ rfl
  case hdo16 =>
    rintro found15 rfl
    replace hF := okE hF
    change DS _ _ _ [some (.lst (runs1.map dk_T2II)), some (dOpt dk_T4IIII found15), none, none, none] [] _
    refine ds_cons (ds1_retV (dv_var v1.toNm rfl) ?_)
    exact ret_mk (enc := (dOpt dk_T4IIII)) (M := []) hF
  case hxo16 =>
    rintro cls fs _ _ ⟨n, rfl, e2⟩
    exact kx_exc hF e2
theorem c_heap_of {X : Cx} {kx : XD} {ρ : Ro} {M : Mem} {pos p : Pos} {e0 : Expr} {runs1 : List (Int × Int)} {r : Option (Int × Int × Int × Int)} (T : TxtT X.K X.mg A X.base) (hr : Room 2 X.A) (hg : Gl X "heap_of") (h0 : DV X kx e0 ρ M (.lst (runs1.map dk_T2II))) (hF : F_heap_of runs1 = .ok r) (he0 : starEach [e0] X.env = (false, eval e0 X.env) :: starEach [] X.env := by rfl) (hpl : (backTo pos (starEach [] X.env)).any (·.1) = false := by rfl) : DV X kx (.Call (.Name "heap_of" p) [e0] [] pos) ρ M (dOpt dk_T4IIII r) :=
  dv_call (g_heap_of T) hr hg (da_cons h0 da_nil he0) runs1 rfl (fun h => Ex.ok_ne r (hF.symm.trans h)) (fun d ⟨r', a1, a2⟩ => by cases hF.symm.trans a1; exact a2) (fun cls fs ⟨n, a1, _⟩ => by cases hF.symm.trans a1) (by decide) he0 hpl
theorem sc_Roll_pour : FnScope ["self", "here", "heap", "kept"] ["self", "here", "heap"] (defScope s_Roll_pour) := fscope (by decide +kernel)
abbrev R_Roll_pour (A : Adr) (q : D × Mem × TRoll × (Int × Int) × (Option (Int × Int × Int × Int))) (r : Unit × TRoll) (d : D) (m : Mem) : Prop := ∃ n0 : Mem, m = n0 ++ [] ∧ d = .non ∧ OwR (is_Roll A) r.2 q.1 n0
theorem f_Roll_pour (T : TxtT K mg A base) {f : Addr} {fd : FuncData} (F : FunD K "pour" "Roll.pour" (defArgs s_Roll_pour) (defBody s_Roll_pour) (defScope s_Roll_pour) [] [] f fd) : FnOk P w K mg base (L2.CX P w) 2 f fd ["self", "here", "heap"] (spR K mg (fun q : D × Mem × TRoll × (Int × Int) × (Option (Int × Int × Int × Int)) => [q.1, dk_T2II q.2.2.2.1, dOpt dk_T4IIII q.2.2.2.2]) (fun q : D × Mem × TRoll × (Int × Int) × (Option (Int × Int × Int × Int)) => q.2.1 ++ []) (fun q : D × Mem × TRoll × (Int × Int) × (Option (Int × Int × Int × Int)) => OwR (is_Roll A) q.2.2.1 q.1 q.2.1) (fun q : D × Mem × TRoll × (Int × Int) × (Option (Int × Int × Int × Int)) => F_Roll_pour q.2.2.1 q.2.2.2.1 q.2.2.2.2) (R_Roll_pour A)) := by
  refine fn_rD F sc_Roll_pour (fun _ => rfl) fun X e1 e2 e3 e4 e5 B Fz q out hp hF hne => ?_
  subst e1 e2 e3 e4 e5
  have v0 : Ns X 0 "self" := B.ns rfl rfl
  have v1 : Ns X 1 "here" := B.ns rfl rfl
  have v2 : Ns X 2 "heap" := B.ns rfl rfl
  have v3 : Ns X 3 "kept" := B.ns rfl rfl
  obtain ⟨d4, m5, self1, here2, heap3⟩ := q
  have hh6 : OwR (is_Roll A) self1 d4 m5 := hp
  replace hF : F_Roll_pour self1 here2 heap3 = out := hF
  unfold F_Roll_pour at hF
  change DS _ _ _ [some (d4), some (dk_T2II here2), some (dOpt dk_T4IIII heap3), none] (m5 ++ []) _
  obtain ⟨kept7, hh8, hF⟩ := letE_out hF
  refine ds_cons (ds1_set v3 (dv_isE (enc := (dOpt dk_T4IIII)) (DV.lend1 (sh_Roll A) (ok_Roll A) hh6 0 (.refl _) rfl (dv_dgetO (q := getA self1.2.2.2.2 here2) (f := dk_T4IIII) B (dv_fld T.cl_Roll.cl (T.cl_Roll.na "heaped" (by simp)) (dv_var v0.toNm rfl) (.ins _ _ _) rfl) (dv_var v1.toNm rfl) (dk_tF (kk := here2) (f := dk_T4IIII) ij_T2II self1.2.2.2.2 rfl)) ((fun o => off_opt (f := dk_T4IIII) (fun _ => off_tup (off_cons (o_int _) (off_cons (o_int _) (off_cons (o_int _) (off_cons (o_int _) off_nil))))) o) _)) hh8) ?_)
  change DS _ _ _ [some (d4), some (dk_T2II here2), some (dOpt dk_T4IIII heap3), some (dOpt dk_T4IIII kept7)] (m5 ++ []) _
  obtain ⟨jk10, hjk10, hF⟩ := jpE_out hF
  refine ds_cons (ds1_ifJ (kf := jk10) (out := out) (fun (a : Unit) (z : Option (Int × Int × Int × Int)) => [some (d4), some (dk_T2II here2), some (dOpt dk_T4IIII z), some (dOpt dk_T4IIII kept7)]) (fun (a : Unit) (z : Option (Int × Int × Int × Int)) => m5 ++ []) (dt_notNO (fun _ => rfl) (dv_var v3.toNm rfl)) (fun hh9 => ?_) (fun hh9 => ?_) ?_ then_fgt)
  ·
    replace hF := ite_t hF hh9
    obtain ⟨kept11, hh12, hF⟩ := bindP_out hF hne
    obtain ⟨heap13, hh14, hF⟩ := bindP_out hF hne
    obtain ⟨r15, hh16, hF⟩ := bindP_out hF hne
    refine ds_cons (ds1_set v2 (c_poured T (B.room.mono (by decide)) (B.gl (x := "poured") rfl) (dv_un (enc := dk_T4IIII) (dv_var v3.toNm rfl) hh12) (dv_un (enc := dk_T4IIII) (dv_var v2.toNm rfl) hh14) hh16) ?_)
    change DS _ _ _ [some (d4), some (dk_T2II here2), some (dk_T4IIII r15), some (dOpt dk_T4IIII kept7)] (m5 ++ []) _
    refine ds_nil ?_
    exact join_nx () (some r15) hF ⟨.inr rfl, .inr rfl, .inr rfl, .inr rfl, trivial⟩ rfl
  ·
    replace hF := ite_f hF hh9
    refine ds_nil ?_
    exact join_nx () heap3 hF ⟨.inr rfl, .inr rfl, .inr rfl, .inr rfl, trivial⟩ rfl
  ·
    rintro ⟨⟩ heap17 hF
    subst hjk10
    change DS _ _ _ [some (d4), some (dk_T2II here2), some (dOpt dk_T4IIII heap17), some (dOpt dk_T4IIII kept7)] (m5 ++ []) _
    obtain ⟨w18, w19, w20, hh21, hh22⟩ := (own_Roll).mp hh6
    subst hh22
    subst hh21
    change DS _ _ _ [some ((.adr w18)), some (dk_T2II here2), some (dOpt dk_T4IIII heap17), some (dOpt dk_T4IIII kept7)] [(w18, Mu.ins A.c_Roll ["ruling", "today", "limits", "whole", "heaped"] [(dk_CRule A) self1.1, .int self1.2.1, .lst (self1.2.2.1.map (dOpt D.int)), D.adr w19, D.adr w20]), (w19, Mu.dT (self1.2.2.2.1.map fun q => (ek_T2II q.1, D.int q.2))), (w20, Mu.dT (self1.2.2.2.2.map fun q => (ek_T2II q.1, dk_T4IIII q.2)))] _
    obtain ⟨heap23, hh24, hF⟩ := bindP_out hF hne
    obtain ⟨hh25, hF⟩ := gd_out hF hne
    refine ds_cons (ds1_dputTM (f := dk_T4IIII) 2 B ij_T2II self1.2.2.2.2 (dv_un (enc := dk_T4IIII) (dv_var v2.toNm rfl) hh24) (dv_fld T.cl_Roll.cl (T.cl_Roll.na "heaped" (by simp)) (dv_var v0.toNm rfl) (.adr (List.mem_of_getElem? (i := 0) (show _ = some (w18, Mu.ins A.c_Roll ["ruling", "today", "limits", "whole", "heaped"] [(dk_CRule A) self1.1, .int self1.2.1, .lst (self1.2.2.1.map (dOpt D.int)), D.adr w19, D.adr w20]) from rfl))) rfl) (dv_var v1.toNm rfl) rfl hh25 ?_)
    change DS _ _ _ [some ((.adr w18)), some (dk_T2II here2), some (dOpt dk_T4IIII heap17), some (dOpt dk_T4IIII kept7)] [(w18, Mu.ins A.c_Roll ["ruling", "today", "limits", "whole", "heaped"] [(dk_CRule A) self1.1, .int self1.2.1, .lst (self1.2.2.1.map (dOpt D.int)), D.adr w19, D.adr w20]), (w19, Mu.dT (self1.2.2.2.1.map fun q => (ek_T2II q.1, D.int q.2))), (w20, Mu.dT ((putA self1.2.2.2.2 here2 heap23).map fun q => (ek_T2II q.1, dk_T4IIII q.2)))] _
    have hh26 : OwR (is_Roll A) (self1.1, self1.2.1, self1.2.2.1, self1.2.2.2.1, (putA self1.2.2.2.2 here2 heap23)) (.adr w18) [(w18, Mu.ins A.c_Roll ["ruling", "today", "limits", "whole", "heaped"] [(dk_CRule A) self1.1, .int self1.2.1, .lst (self1.2.2.1.map (dOpt D.int)), D.adr w19, D.adr w20]), (w19, Mu.dT (self1.2.2.2.1.map fun q => (ek_T2II q.1, D.int q.2))), (w20, Mu.dT ((putA self1.2.2.2.2 here2 heap23).map fun q => (ek_T2II q.1, dk_T4IIII q.2)))] := (own_Roll).mpr ⟨w18, w19, w20, rfl, rfl⟩
    change DS _ _ _ [some ((.adr w18)), some (dk_T2II here2), some (dOpt dk_T4IIII heap17), some (dOpt dk_T4IIII kept7)] ([(w18, Mu.ins A.c_Roll ["ruling", "today", "limits", "whole", "heaped"] [(dk_CRule A) self1.1, .int self1.2.1, .lst (self1.2.2.1.map (dOpt D.int)), D.adr w19, D.adr w20]), (w19, Mu.dT (self1.2.2.2.1.map fun q => (ek_T2II q.1, D.int q.2))), (w20, Mu.dT ((putA self1.2.2.2.2 here2 heap23).map fun q => (ek_T2II q.1, dk_T4IIII q.2)))] ++ []) _
    generalize hh28 : ([(w18, Mu.ins A.c_Roll ["ruling", "today", "limits", "whole", "heaped"] [(dk_CRule A) self1.1, .int self1.2.1, .lst (self1.2.2.1.map (dOpt D.int)), D.adr w19, D.adr w20]), (w19, Mu.dT (self1.2.2.2.1.map fun q => (ek_T2II q.1, D.int q.2))), (w20, Mu.dT ((putA self1.2.2.2.2 here2 heap23).map fun q => (ek_T2II q.1, dk_T4IIII q.2)))] : Mem) = m27 at hh26 ⊢
    clear hh28
    refine ds_nil ?_
    exact retR_nx (res := R_Roll_pour A ((.adr w18), _, self1, here2, heap3)) hF ⟨m27, rfl, rfl, hh26⟩ (pl_2 (.refl _) pl_nil)
theorem gu_Roll_pour_0 (T : TxtT K mg A base) : GM P w K mg base 2 A.c_Roll "pour" [] (spR K mg (fun q : D × Mem × TRoll × (Int × Int) × (Option (Int × Int × Int × Int)) => [q.1, dk_T2II q.2.2.2.1, dOpt dk_T4IIII q.2.2.2.2]) (fun q : D × Mem × TRoll × (Int × Int) × (Option (Int × Int × Int × Int)) => q.2.1 ++ []) (fun q : D × Mem × TRoll × (Int × Int) × (Option (Int × Int × Int × Int)) => OwR (is_Roll A) q.2.2.1 q.1 q.2.1) (fun q : D × Mem × TRoll × (Int × Int) × (Option (Int × Int × Int × Int)) => F_Roll_pour q.2.2.1 q.2.2.2.1 q.2.2.2.2) (R_Roll_pour A)) := T.m_Roll_pour.gm 0 (by decide) _ (fun _ _ e => by subst e; exact .nil) fun _ _ F => f_Roll_pour T F
theorem u_Roll_pour_0 {X : Cx} {kx : XD} {ρ : Ro} {M R : Mem} {pos apos : Pos} {pl : Sem Bool} {o e0 e1 : Expr} {d4 : D} {m5 : Mem} {self1 : TRoll} {here2 : Int × Int} {heap3 : Option (Int × Int × Int × Int)} {r : Unit × TRoll} {kk : D → Mem → Prop} (T : TxtT X.K X.mg A X.base) (hr : Room 2 X.A)  (ho : DV X kx o ρ M (d4)) (h0 : DV X kx e0 ρ M (dk_T2II here2)) (h1 : DV X kx e1 ρ M (dOpt dk_T4IIII heap3)) (o0 : OwR (is_Roll A) self1 d4 m5) (pm : M.Perm ((m5 ++ []) ++ R)) (hF : F_Roll_pour self1 here2 heap3 = .ok r) (hk : ∀ n0 : Mem, OwR (is_Roll A) r.2 d4 n0 → kk (.non) (n0 ++ R)) (he0 : starEach [e0, e1] X.env = (false, eval e0 X.env) :: starEach [e1] X.env := by rfl) (he1 : starEach [e1] X.env = (false, eval e1 X.env) :: starEach [] X.env := by rfl) (hpl : (backTo pos (starEach [e1] X.env)).any (·.1) = false := by rfl) (ht : eval (.Call (.Attribute o "pour" apos) [e0, e1] [] pos) X.env = (do
      let ov ← eval o X.env
      standAt apos.atName
      let (f, first) ← holding [ov] (getMethod ov "pour" pl)
      callWith pos f first (backTo pos (starEach [e0, e1] X.env)) (backToKw pos (keywordEach [] X.env))) := by rfl) : DE X kx (.Call (.Attribute o "pour" apos) [e0, e1] [] pos) ρ M kk := by
  obtain ⟨gs, hob0⟩ := (cls_Roll A).obj o0
  have hob := hob0.more (M' := M) fun p hp => pm.mem_iff.mpr (by simp [hp])
  refine de_methR T.cl_Roll.cl (gu_Roll_pour_0 T) hr ho hob (da_cons h0 (da_cons h1 da_nil he1) he0) (d4, m5, self1, here2, heap3) rfl pm o0 hF (fun d m hres => ?_) (by decide) he0 hpl ht
  obtain ⟨n0, rfl, rfl, q0⟩ := hres
  simpa only [List.append_nil, List.append_assoc, List.cons_append, List.nil_append] using hk n0 q0
theorem sc_Roll_put : FnScope ["self", "time", "value", "many", "here"] ["self", "time", "value", "many"] (defScope s_Roll_put) := fscope (by decide +kernel)
abbrev R_Roll_put (A : Adr) (q : D × Mem × TRoll × Int × Int × Int) (r : Bool × TRoll) (d : D) (m : Mem) : Prop := ∃ n0 : Mem, m = n0 ++ [] ∧ d = .bl r.1 ∧ OwR (is_Roll A) r.2 q.1 n0
theorem f_Roll_put (T : TxtT K mg A base) {f : Addr} {fd : FuncData} (F : FunD K "put" "Roll.put" (defArgs s_Roll_put) (defBody s_Roll_put) (defScope s_Roll_put) [V.int 1] [] f fd) : FnOk P w K mg base (L2.CX P w) 4 f fd ["self", "time", "value", "many"] (spR K mg (fun q : D × Mem × TRoll × Int × Int × Int => [q.1, .int q.2.2.2.1, .int q.2.2.2.2.1, .int q.2.2.2.2.2]) (fun q : D × Mem × TRoll × Int × Int × Int => q.2.1 ++ []) (fun q : D × Mem × TRoll × Int × Int × Int => OwR (is_Roll A) q.2.2.1 q.1 q.2.1) (fun q : D × Mem × TRoll × Int × Int × Int => F_Roll_put q.2.2.1 q.2.2.2.1 q.2.2.2.2.1 q.2.2.2.2.2) (R_Roll_put A)) := by
  refine fn_rD F sc_Roll_put (fun _ => rfl) fun X e1 e2 e3 e4 e5 B Fz q out hp hF hne => ?_
  subst e1 e2 e3 e4 e5
  have v0 : Ns X 0 "self" := B.ns rfl rfl
  have v1 : Ns X 1 "time" := B.ns rfl rfl
  have v2 : Ns X 2 "value" := B.ns rfl rfl
  have v3 : Ns X 3 "many" := B.ns rfl rfl
  have v4 : Ns X 4 "here" := B.ns rfl rfl
  obtain ⟨d5, m6, self1, time2, value3, many4⟩ := q
  have hh7 : OwR (is_Roll A) self1 d5 m6 := hp
  replace hF : F_Roll_put self1 time2 value3 many4 = out := hF
  unfold F_Roll_put at hF
  change DS _ _ _ [some (d5), some (.int time2), some (.int value3), some (.int many4), none] (m6 ++ []) _
  refine ds_cons (ds1_if (dt_lt (dv_var v3.toNm rfl) dv_int) (fun hh8 => ?_) (fun hh8 => ?_))
  ·
    replace hF := ite_t hF hh8
    exact ds_cons (ds1_raise B.calm T.x_NoNumber (B.gl (x := "NoNumber") rfl) fun cls hm => (kxR_exc hF hm (pl_2 (.refl _) pl_nil)))
  ·
    replace hF := ite_f hF hh8
    refine ds_nil ?_
    obtain ⟨r9, hh10, hF⟩ := bindP_out hF hne
    refine ds_cons (ds1_set v4 (DV.lend1 (sh_Roll A) (ok_Roll A) hh7 0 (.refl _) rfl (c_Roll_cell_of T (B.room.mono (by decide)) (dv_var v0.toNm rfl) (dv_var v1.toNm rfl) hh10) ((fun o => off_opt (f := dk_T2II) (fun _ => off_tup (off_cons (o_int _) (off_cons (o_int _) off_nil))) o) _)) ?_)
    change DS _ _ _ [some (d5), some (.int time2), some (.int value3), some (.int many4), some (dOpt dk_T2II r9)] (m6 ++ []) _
    refine ds_cons (ds1_if (dt_isNO (fun _ => rfl) (dv_var v4.toNm rfl)) (fun hh11 => ?_) (fun hh11 => ?_))
    ·
      replace hF := ite_t hF hh11
      refine ds_cons (ds1_retV dv_bl ?_)
      exact retR_mk (res := R_Roll_put A (d5, _, self1, time2, value3, many4)) hF ⟨m6, rfl, rfl, hh7⟩ (pl_2 (.refl _) pl_nil)
    ·
      replace hF := ite_f hF hh11
      refine ds_nil ?_
      obtain ⟨here12, hh13, hF⟩ := bindP_out hF hne
      obtain ⟨jk15, hjk15, hF⟩ := jpE_out hF
      refine ds_cons (ds1_ifO (kf := jk15) (out := out) (fun (a : Mem) (z : TRoll) => [some (d5), some (.int time2), some (.int value3), some (.int many4), some (dOpt dk_T2II r9)]) (fun (a : Mem) (z : TRoll) => a ++ []) (fun (a : Mem) (z : TRoll) => OwR (is_Roll A) z d5 a) (dt_eqi (dv_ixT (show DV _ _ _ _ _ (.tup [.int here12.1, .int here12.2]) from (dv_un (enc := dk_T2II) (dv_var v4.toNm rfl) hh13)) dv_int rfl) dv_int) (fun hh14 => ?_) (fun hh14 => ?_) ?_ then_fgt)
      ·
        replace hF := ite_t hF hh14
        obtain ⟨w16, w17, w18, hh19, hh20⟩ := (own_Roll).mp hh7
        subst hh20
        subst hh19
        change DS _ _ _ [some ((.adr w16)), some (.int time2), some (.int value3), some (.int many4), some (dOpt dk_T2II r9)] [(w16, Mu.ins A.c_Roll ["ruling", "today", "limits", "whole", "heaped"] [(dk_CRule A) self1.1, .int self1.2.1, .lst (self1.2.2.1.map (dOpt D.int)), D.adr w17, D.adr w18]), (w17, Mu.dT (self1.2.2.2.1.map fun q => (ek_T2II q.1, D.int q.2))), (w18, Mu.dT (self1.2.2.2.2.map fun q => (ek_T2II q.1, dk_T4IIII q.2)))] _
        obtain ⟨hh21, hF⟩ := gd_out hF hne
        refine ds_cons (ds1_setdTM (f := D.int) 1 B ij_T2II self1.2.2.2.1 (dv_fld T.cl_Roll.cl (T.cl_Roll.na "whole" (by simp)) (dv_var v0.toNm rfl) (.adr (List.mem_of_getElem? (i := 0) (show _ = some (w16, Mu.ins A.c_Roll ["ruling", "today", "limits", "whole", "heaped"] [(dk_CRule A) self1.1, .int self1.2.1, .lst (self1.2.2.1.map (dOpt D.int)), D.adr w17, D.adr w18]) from rfl))) rfl) (show DV _ _ _ _ _ (dk_T2II (time2, value3)) from dv_tup (da_cons (dv_var v1.toNm rfl) (da_cons (dv_var v2.toNm rfl) da_nil)) (szN 2 rfl)) dv_int rfl hh21 ?_)
        change DS _ _ _ [some ((.adr w16)), some (.int time2), some (.int value3), some (.int many4), some (dOpt dk_T2II r9)] [(w16, Mu.ins A.c_Roll ["ruling", "today", "limits", "whole", "heaped"] [(dk_CRule A) self1.1, .int self1.2.1, .lst (self1.2.2.1.map (dOpt D.int)), D.adr w17, D.adr w18]), (w17, Mu.dT ((setdA self1.2.2.2.1 (time2, value3) 0).map fun q => (ek_T2II q.1, D.int q.2))), (w18, Mu.dT (self1.2.2.2.2.map fun q => (ek_T2II q.1, dk_T4IIII q.2)))] _
        obtain ⟨x22, hh23, hF⟩ := bindP_out hF hne
        obtain ⟨hh24, hF⟩ := gd_out hF hne
        refine ds_cons (ds1_daddTM 1 B ij_T2II (dv_fld T.cl_Roll.cl (T.cl_Roll.na "whole" (by simp)) (dv_var v0.toNm rfl) (.adr (List.mem_of_getElem? (i := 0) (show _ = some (w16, Mu.ins A.c_Roll ["ruling", "today", "limits", "whole", "heaped"] [(dk_CRule A) self1.1, .int self1.2.1, .lst (self1.2.2.1.map (dOpt D.int)), D.adr w17, D.adr w18]) from rfl))) rfl) (show DV _ _ _ _ _ (dk_T2II (time2, value3)) from dv_tup (da_cons (dv_var v1.toNm rfl) (da_cons (dv_var v2.toNm rfl) da_nil)) (szN 2 rfl)) hh23 (dv_var v3.toNm rfl) rfl hh24 ?_)
        change DS _ _ _ [some ((.adr w16)), some (.int time2), some (.int value3), some (.int many4), some (dOpt dk_T2II r9)] [(w16, Mu.ins A.c_Roll ["ruling", "today", "limits", "whole", "heaped"] [(dk_CRule A) self1.1, .int self1.2.1, .lst (self1.2.2.1.map (dOpt D.int)), D.adr w17, D.adr w18]), (w17, Mu.dT ((putA (setdA self1.2.2.2.1 (time2, value3) 0) (time2, value3) (x22 + many4)).map fun q => (ek_T2II q.1, D.int q.2))), (w18, Mu.dT (self1.2.2.2.2.map fun q => (ek_T2II q.1, dk_T4IIII q.2)))] _
        have hh25 : OwR (is_Roll A) (self1.1, self1.2.1, self1.2.2.1, (putA (setdA self1.2.2.2.1 (time2, value3) 0) (time2, value3) (x22 + many4)), self1.2.2.2.2) (.adr w16) [(w16, Mu.ins A.c_Roll ["ruling", "today", "limits", "whole", "heaped"] [(dk_CRule A) self1.1, .int self1.2.1, .lst (self1.2.2.1.map (dOpt D.int)), D.adr w17, D.adr w18]), (w17, Mu.dT ((putA (setdA self1.2.2.2.1 (time2, value3) 0) (time2, value3) (x22 + many4)).map fun q => (ek_T2II q.1, D.int q.2))), (w18, Mu.dT (self1.2.2.2.2.map fun q => (ek_T2II q.1, dk_T4IIII q.2)))] := (own_Roll).mpr ⟨w16, w17, w18, rfl, rfl⟩
        change DS _ _ _ [some ((.adr w16)), some (.int time2), some (.int value3), some (.int many4), some (dOpt dk_T2II r9)] ([(w16, Mu.ins A.c_Roll ["ruling", "today", "limits", "whole", "heaped"] [(dk_CRule A) self1.1, .int self1.2.1, .lst (self1.2.2.1.map (dOpt D.int)), D.adr w17, D.adr w18]), (w17, Mu.dT ((putA (setdA self1.2.2.2.1 (time2, value3) 0) (time2, value3) (x22 + many4)).map fun q => (ek_T2II q.1, D.int q.2))), (w18, Mu.dT (self1.2.2.2.2.map fun q => (ek_T2II q.1, dk_T4IIII q.2)))] ++ []) _
        generalize hh27 : ([(w16, Mu.ins A.c_Roll ["ruling", "today", "limits", "whole", "heaped"] [(dk_CRule A) self1.1, .int self1.2.1, .lst (self1.2.2.1.map (dOpt D.int)), D.adr w17, D.adr w18]), (w17, Mu.dT ((putA (setdA self1.2.2.2.1 (time2, value3) 0) (time2, value3) (x22 + many4)).map fun q => (ek_T2II q.1, D.int q.2))), (w18, Mu.dT (self1.2.2.2.2.map fun q => (ek_T2II q.1, dk_T4IIII q.2)))] : Mem) = m26 at hh25 ⊢
        clear hh27
        refine ds_nil ?_
        exact joinO_nx m26 (self1.1, self1.2.1, self1.2.2.1, (putA (setdA self1.2.2.2.1 (time2, value3) 0) (time2, value3) (x22 + many4)), self1.2.2.2.2) hF hh25 ⟨.inr rfl, .inr rfl, .inr rfl, .inr rfl, .inr rfl, trivial⟩ rfl
      ·
        replace hF := ite_f hF hh14
        obtain ⟨r28, hh29, hF⟩ := bindP_out hF hne
        obtain ⟨r30, hh31, hF⟩ := bindP_out hF hne
        refine ds_cons (ds1_exprK (u_Roll_pour_0 T (B.room.mono (by decide)) (dv_var v0.toNm rfl) (dv_un (enc := dk_T2II) (dv_var v4.toNm rfl) hh13) (c_heap_of T (B.room.mono (by decide)) (B.gl (x := "heap_of") rfl) (show DV _ _ _ _ _ (.lst ([(value3, many4)].map dk_T2II)) from dv_lst (da_cons (show DV _ _ _ _ _ (dk_T2II (value3, many4)) from dv_tup (da_cons (dv_var v2.toNm rfl) (da_cons (dv_var v3.toNm rfl) da_nil)) (szN 2 rfl)) da_nil) (szN 1 rfl)) hh29) hh7 (pl_2 (.refl _) pl_nil) hh31 fun m32 hh33 => ?_))
        change DS _ _ _ [some (d5), some (.int time2), some (.int value3), some (.int many4), some (dOpt dk_T2II r9)] (m32 ++ []) _
        change DS _ _ _ [some (d5), some (.int time2), some (.int value3), some (.int many4), some (dOpt dk_T2II r9)] (m32 ++ []) _
        refine ds_nil ?_
        exact joinO_nx m32 r30.2 hF hh33 ⟨.inr rfl, .inr rfl, .inr rfl, .inr rfl, .inr rfl, trivial⟩ rfl
      ·
        rintro m34 self36 hh35 hF
        subst hjk15
        change DS _ _ _ [some (d5), some (.int time2), some (.int value3), some (.int many4), some (dOpt dk_T2II r9)] (m34 ++ []) _
        refine ds_cons (ds1_retV dv_bl ?_)
        exact retR_mk (res := R_Roll_put A (d5, _, self1, time2, value3, many4)) hF ⟨m34, rfl, rfl, hh35⟩ (pl_2 (.refl _) pl_nil)
theorem gu_Roll_put_0 (T : TxtT K mg A base) : GM P w K mg base 4 A.c_Roll "put" [] (spR K mg (fun q : D × Mem × TRoll × Int × Int × Int => [q.1, .int q.2.2.2.1, .int q.2.2.2.2.1, .int q.2.2.2.2.2]) (fun q : D × Mem × TRoll × Int × Int × Int => q.2.1 ++ []) (fun q : D × Mem × TRoll × Int × Int × Int => OwR (is_Roll A) q.2.2.1 q.1 q.2.1) (fun q : D × Mem × TRoll × Int × Int × Int => F_Roll_put q.2.2.1 q.2.2.2.1 q.2.2.2.2.1 q.2.2.2.2.2) (R_Roll_put A)) := T.m_Roll_put.gm 1 (by decide) _ (fun _ _ e => by subst e; exact .nil) fun _ _ F => f_Roll_put T F
theorem u_Roll_put_0 {X : Cx} {kx : XD} {ρ : Ro} {M R : Mem} {pos apos : Pos} {pl : Sem Bool} {o e0 e1 e2 : Expr} {d5 : D} {m6 : Mem} {self1 : TRoll} {time2 : Int} {value3 : Int} {many4 : Int} {r : Bool × TRoll} {kk : D → Mem → Prop} (T : TxtT X.K X.mg A X.base) (hr : Room 4 X.A)  (ho : DV X kx o ρ M (d5)) (h0 : DV X kx e0 ρ M (.int time2)) (h1 : DV X kx e1 ρ M (.int value3)) (h2 : DV X kx e2 ρ M (.int many4)) (o0 : OwR (is_Roll A) self1 d5 m6) (pm : M.Perm ((m6 ++ []) ++ R)) (hF : F_Roll_put self1 time2 value3 many4 = .ok r) (hk : ∀ n0 : Mem, OwR (is_Roll A) r.2 d5 n0 → kk (.bl r.1) (n0 ++ R)) (he0 : starEach [e0, e1, e2] X.env = (false, eval e0 X.env) :: starEach [e1, e2] X.env := by rfl) (he1 : starEach [e1, e2] X.env = (false, eval e1 X.env) :: starEach [e2] X.env := by rfl) (he2 : starEach [e2] X.env = (false, eval e2 X.env) :: starEach [] X.env := by rfl) (hpl : (backTo pos (starEach [e1, e2] X.env)).any (·.1) = false := by rfl) (ht : eval (.Call (.Attribute o "put" apos) [e0, e1, e2] [] pos) X.env = (do
      let ov ← eval o X.env
      standAt apos.atName
      let (f, first) ← holding [ov] (getMethod ov "put" pl)
      callWith pos f first (backTo pos (starEach [e0, e1, e2] X.env)) (backToKw pos (keywordEach [] X.env))) := by rfl) : DE X kx (.Call (.Attribute o "put" apos) [e0, e1, e2] [] pos) ρ M kk := by
  obtain ⟨gs, hob0⟩ := (cls_Roll A).obj o0
  have hob := hob0.more (M' := M) fun p hp => pm.mem_iff.mpr (by simp [hp])
  refine de_methR T.cl_Roll.cl (gu_Roll_put_0 T) hr ho hob (da_cons h0 (da_cons h1 (da_cons h2 da_nil he2) he1) he0) (d5, m6, self1, time2, value3, many4) rfl pm o0 hF (fun d m hres => ?_) (by decide) he0 hpl ht
  obtain ⟨n0, rfl, rfl, q0⟩ := hres
  simpa only [List.append_nil, List.append_assoc, List.cons_append, List.nil_append] using hk n0 q0
theorem ux_Roll_put_0 {X : Cx} {kx : XD} {ρ : Ro} {M R : Mem} {pos apos : Pos} {pl : Sem Bool} {o e0 e1 e2 : Expr} {d5 : D} {m6 : Mem} {self1 : TRoll} {time2 : Int} {value3 : Int} {many4 : Int} {n : Str} {fs : List (Str × D)} (T : TxtT X.K X.mg A X.base) (hr : Room 4 X.A)  (ho : DV X kx o ρ M (d5)) (h0 : DV X kx e0 ρ M (.int time2)) (h1 : DV X kx e1 ρ M (.int value3)) (h2 : DV X kx e2 ρ M (.int many4)) (o0 : OwR (is_Roll A) self1 d5 m6) (pm : M.Perm ((m6 ++ []) ++ R)) (hF : F_Roll_put self1 time2 value3 many4 = .exc n fs) (hk : ∀ cls, X.mg n = some cls → kx cls fs ρ M) (he0 : starEach [e0, e1, e2] X.env = (false, eval e0 X.env) :: starEach [e1, e2] X.env := by rfl) (he1 : starEach [e1, e2] X.env = (false, eval e1 X.env) :: starEach [e2] X.env := by rfl) (he2 : starEach [e2] X.env = (false, eval e2 X.env) :: starEach [] X.env := by rfl) (hpl : (backTo pos (starEach [e1, e2] X.env)).any (·.1) = false := by rfl) (ht : eval (.Call (.Attribute o "put" apos) [e0, e1, e2] [] pos) X.env = (do
      let ov ← eval o X.env
      standAt apos.atName
      let (f, first) ← holding [ov] (getMethod ov "put" pl)
      callWith pos f first (backTo pos (starEach [e0, e1, e2] X.env)) (backToKw pos (keywordEach [] X.env))) := by rfl) : DE X kx (.Call (.Attribute o "put" apos) [e0, e1, e2] [] pos) ρ M fun _ _ => False := by
  obtain ⟨gs, hob0⟩ := (cls_Roll A).obj o0
  have hob := hob0.more (M' := M) fun p hp => pm.mem_iff.mpr (by simp [hp])
  exact de_methRX T.cl_Roll.cl (gu_Roll_put_0 T) hr ho hob (da_cons h0 (da_cons h1 (da_cons h2 da_nil he2) he1) he0) (d5, m6, self1, time2, value3, many4) rfl pm o0 hF hk (by decide) he0 hpl ht
theorem sc_roll_of : FnScope ["rule", "day", "edges", "readings", "found", "time", "value", "many"] ["rule", "day", "edges", "readings"] (defScope s_roll_of) := fscope (by decide +kernel)
theorem g_roll_of (T : TxtT K mg A base) : GF P w K mg base 5 "roll_of" [] (spE K mg (fun q : ((List (Int × Int)) × (Option Int)) × Int × (List (Option Int)) × (List (Int × Int × Int)) => [(dk_CRule A) q.1, .int q.2.1, .lst (q.2.2.1.map (dOpt D.int)), .lst (q.2.2.2.map dk_T3III)]) (fun q => F_roll_of q.1 q.2.1 q.2.2.1 q.2.2.2) (dk_CRoll A)) := by
  refine T.f_roll_of.gf fun f fd F => fn_e F sc_roll_of (fun _ => rfl) fun X e1 e2 e3 e4 e5 B Fz q out hF hne => ?_
  subst e1 e2 e3 e4 e5
  have v0 : Ns X 0 "rule" := B.ns rfl rfl
  have v1 : Ns X 1 "day" := B.ns rfl rfl
  have v2 : Ns X 2 "edges" := B.ns rfl rfl
  have v3 : Ns X 3 "readings" := B.ns rfl rfl
  have v4 : Ns X 4 "found" := B.ns rfl rfl
  have v5 : Ns X 5 "time" := B.ns rfl rfl
  have v6 : Ns X 6 "value" := B.ns rfl rfl
  have v7 : Ns X 7 "many" := B.ns rfl rfl
  obtain ⟨rule1, day2, edges3, readings4⟩ := q
  replace hF : F_roll_of rule1 day2 edges3 readings4 = out := hF
  unfold F_roll_of at hF
  change DS _ _ _ [some ((dk_CRule A) rule1), some (.int day2), some (.lst (edges3.map (dOpt D.int))), some (.lst (readings4.map dk_T3III)), none, none, none, none] [] _
  obtain ⟨r5, hh6, hF⟩ := bindP_out hF hne
  refine ds_cons (ds1_setN v4 (k_Roll_init_0 T (B.room.mono (by decide)) (B.gl (x := "Roll") rfl) (dv_var v0.toNm rfl) (dv_var v1.toNm rfl) hh6) fun d7 m8 hh9 => ?_)
  change DS _ _ _ [some ((dk_CRule A) rule1), some (.int day2), some (.lst (edges3.map (dOpt D.int))), some (.lst (readings4.map dk_T3III)), some (d7), none, none, none] (m8 ++ []) _
  rcases bindX_out hF hne with ⟨r10, hh11, hF⟩ | ⟨n, fs, hh11, hF⟩
  rotate_left
  · exact ds_cons (ds1_void (ux_Roll_lift_0 T (B.room.mono (by decide)) (dv_var v4.toNm rfl) (dv_var v2.toNm rfl) hh9 (pl_2 (.refl _) pl_nil) hh11 fun cls hm => (kx_exc hF.symm hm)))
  refine ds_cons (ds1_exprK (u_Roll_lift_0 T (B.room.mono (by decide)) (dv_var v4.toNm rfl) (dv_var v2.toNm rfl) hh9 (pl_2 (.refl _) pl_nil) hh11 fun m12 hh13 => ?_))
  change DS _ _ _ [some ((dk_CRule A) rule1), some (.int day2), some (.lst (edges3.map (dOpt D.int))), some (.lst (readings4.map dk_T3III)), some (d7), none, none, none] (m12 ++ []) _
  change DS _ _ _ [some ((dk_CRule A) rule1), some (.int day2), some (.lst (edges3.map (dOpt D.int))), some (.lst (readings4.map dk_T3III)), some (d7), none, none, none] (m12 ++ []) _
  obtain ⟨o26, hh27, hh28, hF⟩ := bindX_cut hF hne
  refine ds_cons (ds1_foldO (enc := dk_T3III) m12 B (fun (a : Mem) (z : TRoll) => [some ((dk_CRule A) rule1), some (.int day2), some (.lst (edges3.map (dOpt D.int))), some (.lst (readings4.map dk_T3III)), some (d7), none, none, none]) (fun (a : Mem) (z : TRoll) => a ++ []) (fun (a : Mem) (z : TRoll) => OwR (is_Roll A) z d7 a) hh27 hh28 (di_list (dv_var v3.toNm rfl)) hh13 ⟨.inr rfl, .inr rfl, .inr rfl, .inr rfl, .inr rfl, .inl rfl, .inl rfl, .inl rfl, trivial⟩ rfl ?hso26 ?hdo26 ?hxo26 then_fgt)
  case hso26 =>
    clear hF
    rintro m15 found14 x17 o18 hh16 _ hF hne
    refine ⟨_, _, (dg_tup B.calm (dgs_cons (dg_name v5) (dgs_cons (dg_name v6) (dgs_cons (dg_name v7) dgs_nil)))), ?_⟩
    change DS _ _ _ [some ((dk_CRule A) rule1), some (.int day2), some (.lst (edges3.map (dOpt D.int))), some (.lst (readings4.map dk_T3III)), some (d7), some (.int x17.1), some (.int x17.2.1), some (.int x17.2.2)] (m15 ++ []) _
    rcases bindX_out hF hne with ⟨r19, hh20, hF⟩ | ⟨n, fs, hh20, hF⟩
    rotate_left
    · exact ds_cons (ds1_void (ux_Roll_put_0 T (B.room.mono (by decide)) (dv_var v4.toNm rfl) (dv_var v5.toNm rfl) (dv_var v6.toNm rfl) (dv_var v7.toNm rfl) hh16 (pl_2 (.refl _) pl_nil) hh20 fun cls hm => (kx_exc hF.symm hm)))
    refine ds_cons (ds1_exprK (u_Roll_put_0 T (B.room.mono (by decide)) (dv_var v4.toNm rfl) (dv_var v5.toNm rfl) (dv_var v6.toNm rfl) (dv_var v7.toNm rfl) hh16 (pl_2 (.refl _) pl_nil) hh20 fun m21 hh22 => ?_))
    change DS _ _ _ [some ((dk_CRule A) rule1), some (.int day2), some (.lst (edges3.map (dOpt D.int))), some (.lst (readings4.map dk_T3III)), some (d7), some (.int x17.1), some (.int x17.2.1), some (.int x17.2.2)] (m21 ++ []) _
    change DS _ _ _ [some ((dk_CRule A) rule1), some (.int day2), some (.lst (edges3.map (dOpt D.int))), some (.lst (readings4.map dk_T3III)), some (d7), some (.int x17.1), some (.int x17.2.1), some (.int x17.2.2)] (m21 ++ []) _
    refine ds_nil ?_
    exact foldO_nx m21 r19.2 hF hh22 ⟨.inr rfl, .inr rfl, .inr rfl, .inr rfl, .inr rfl, .inl rfl, .inl rfl, .inl rfl, trivial⟩ rfl
  case hdo26 =>
    rintro m24 found23 hh25 rfl
    replace hF := okE hF
    change DS _ _ _ [some ((dk_CRule A) rule1), some (.int day2), some (.lst (edges3.map (dOpt D.int))), some (.lst (readings4.map dk_T3III)), some (d7), none, none, none] (m24 ++ []) _
    refine ds_frzO (ok_Roll A) hh25 4 (.refl _) rfl ?_
    change DS _ _ _ [some ((dk_CRule A) rule1), some (.int day2), some (.lst (edges3.map (dOpt D.int))), some (.lst (readings4.map dk_T3III)), some ((dk_CRoll A) found23), none, none, none] [] _
    refine ds_cons (ds1_retV (dv_var v4.toNm rfl) ?_)
    exact ret_mk (enc := (dk_CRoll A)) (M := []) hF
  case hxo26 =>
    rintro cls fs _ _ ⟨n, rfl, e2⟩
    exact kx_exc hF e2
theorem x_roll_of {X : Cx} {kx : XD} {ρ : Ro} {M : Mem} {pos p : Pos} {e0 e1 e2 e3 : Expr} {rule1 : (List (Int × Int)) × (Option Int)} {day2 : Int} {edges3 : List (Option Int)} {readings4 : List (Int × Int × Int)} {n : Str} {fs : List (Str × D)} (T : TxtT X.K X.mg A X.base) (hr : Room 5 X.A) (hg : Gl X "roll_of") (h0 : DV X kx e0 ρ M ((dk_CRule A) rule1)) (h1 : DV X kx e1 ρ M (.int day2)) (h2 : DV X kx e2 ρ M (.lst (edges3.map (dOpt D.int)))) (h3 : DV X kx e3 ρ M (.lst (readings4.map dk_T3III))) (hF : F_roll_of rule1 day2 edges3 readings4 = .exc n fs) (hk : ∀ cls, X.mg n = some cls → kx cls fs ρ M) (he0 : starEach [e0, e1, e2, e3] X.env = (false, eval e0 X.env) :: starEach [e1, e2, e3] X.env := by rfl) (he1 : starEach [e1, e2, e3] X.env = (false, eval e1 X.env) :: starEach [e2, e3] X.env := by rfl) (he2 : starEach [e2, e3] X.env = (false, eval e2 X.env) :: starEach [e3] X.env := by rfl) (he3 : starEach [e3] X.env = (false, eval e3 X.env) :: starEach [] X.env := by rfl) (hpl : (backTo pos (starEach [e1, e2, e3] X.env)).any (·.1) = false := by rfl) : DE X kx (.Call (.Name "roll_of" p) [e0, e1, e2, e3] [] pos) ρ M fun _ _ => False :=
  de_exc (g_roll_of T) hr hg (da_cons h0 (da_cons h1 (da_cons h2 (da_cons h3 da_nil he3) he2) he1) he0) (rule1, day2, edges3, readings4) rfl hF hk (by decide) he0 hpl
theorem sc_Book_bare : FnScope ["self"] ["self"] (defScope s_Book_bare) := fscope (by decide +kernel)
theorem gw_roll_of (T : TxtT K mg A base) : GF P w K mg base 5 "roll_of" [] (spRw K mg (fun q : ((List (Int × Int)) × (Option Int)) × Int × (List (Option Int)) × (List (Int × Int × Int)) => [(dk_CRule A) q.1, .int q.2.1, .lst (q.2.2.1.map (dOpt D.int)), .lst (q.2.2.2.map dk_T3III)]) (fun _ => []) (fun _ => True) (fun q => F_roll_of q.1 q.2.1 q.2.2.1 q.2.2.2) (fun _ r d m => OwR (is_Roll A) r d m)) := by
  refine T.f_roll_of.gf fun f fd F => fn_rw F sc_roll_of (fun _ => rfl) fun X e1 e2 e3 e4 e5 B Fz q out _ hF hne => ?_
  subst e1 e2 e3 e4 e5
  have v0 : Ns X 0 "rule" := B.ns rfl rfl
  have v1 : Ns X 1 "day" := B.ns rfl rfl
  have v2 : Ns X 2 "edges" := B.ns rfl rfl
  have v3 : Ns X 3 "readings" := B.ns rfl rfl
  have v4 : Ns X 4 "found" := B.ns rfl rfl
  have v5 : Ns X 5 "time" := B.ns rfl rfl
  have v6 : Ns X 6 "value" := B.ns rfl rfl
  have v7 : Ns X 7 "many" := B.ns rfl rfl
  obtain ⟨rule1, day2, edges3, readings4⟩ := q
  replace hF : F_roll_of rule1 day2 edges3 readings4 = out := hF
  unfold F_roll_of at hF
  change DS _ _ _ [some ((dk_CRule A) rule1), some (.int day2), some (.lst (edges3.map (dOpt D.int))), some (.lst (readings4.map dk_T3III)), none, none, none, none] [] _
  obtain ⟨r5, hh6, hF⟩ := bindP_out hF hne
  refine ds_cons (ds1_setN v4 (k_Roll_init_0 T (B.room.mono (by decide)) (B.gl (x := "Roll") rfl) (dv_var v0.toNm rfl) (dv_var v1.toNm rfl) hh6) fun d7 m8 hh9 => ?_)
  change DS _ _ _ [some ((dk_CRule A) rule1), some (.int day2), some (.lst (edges3.map (dOpt D.int))), some (.lst (readings4.map dk_T3III)), some (d7), none, none, none] (m8 ++ []) _
  rcases bindX_out hF hne with ⟨r10, hh11, hF⟩ | ⟨n, fs, hh11, hF⟩
  rotate_left
  · exact ds_cons (ds1_void (ux_Roll_lift_0 T (B.room.mono (by decide)) (dv_var v4.toNm rfl) (dv_var v2.toNm rfl) hh9 (pl_2 (.refl _) pl_nil) hh11 fun cls hm => (kx_exc hF.symm hm)))
  refine ds_cons (ds1_exprK (u_Roll_lift_0 T (B.room.mono (by decide)) (dv_var v4.toNm rfl) (dv_var v2.toNm rfl) hh9 (pl_2 (.refl _) pl_nil) hh11 fun m12 hh13 => ?_))
  change DS _ _ _ [some ((dk_CRule A) rule1), some (.int day2), some (.lst (edges3.map (dOpt D.int))), some (.lst (readings4.map dk_T3III)), some (d7), none, none, none] (m12 ++ []) _
  change DS _ _ _ [some ((dk_CRule A) rule1), some (.int day2), some (.lst (edges3.map (dOpt D.int))), some (.lst (readings4.map dk_T3III)), some (d7), none, none, none] (m12 ++ []) _
  obtain ⟨o26, hh27, hh28, hF⟩ := bindX_cut hF hne
  refine ds_cons (ds1_foldO (enc := dk_T3III) m12 B (fun (a : Mem) (z : TRoll) => [some ((dk_CRule A) rule1), some (.int day2), some (.lst (edges3.map (dOpt D.int))), some (.lst (readings4.map dk_T3III)), some (d7), none, none, none]) (fun (a : Mem) (z : TRoll) => a ++ []) (fun (a : Mem) (z : TRoll) => OwR (is_Roll A) z d7 a) hh27 hh28 (di_list (dv_var v3.toNm rfl)) hh13 ⟨.inr rfl, .inr rfl, .inr rfl, .inr rfl, .inr rfl, .inl rfl, .inl rfl, .inl rfl, trivial⟩ rfl ?hso26 ?hdo26 ?hxo26 then_fgt)
  case hso26 =>
    clear hF
    rintro m15 found14 x17 o18 hh16 _ hF hne
    refine ⟨_, _, (dg_tup B.calm (dgs_cons (dg_name v5) (dgs_cons (dg_name v6) (dgs_cons (dg_name v7) dgs_nil)))), ?_⟩
    change DS _ _ _ [some ((dk_CRule A) rule1), some (.int day2), some (.lst (edges3.map (dOpt D.int))), some (.lst (readings4.map dk_T3III)), some (d7), some (.int x17.1), some (.int x17.2.1), some (.int x17.2.2)] (m15 ++ []) _
    rcases bindX_out hF hne with ⟨r19, hh20, hF⟩ | ⟨n, fs, hh20, hF⟩
    rotate_left
    · exact ds_cons (ds1_void (ux_Roll_put_0 T (B.room.mono (by decide)) (dv_var v4.toNm rfl) (dv_var v5.toNm rfl) (dv_var v6.toNm rfl) (dv_var v7.toNm rfl) hh16 (pl_2 (.refl _) pl_nil) hh20 fun cls hm => (kx_exc hF.symm hm)))
    refine ds_cons (ds1_exprK (u_Roll_put_0 T (B.room.mono (by decide)) (dv_var v4.toNm rfl) (dv_var v5.toNm rfl) (dv_var v6.toNm rfl) (dv_var v7.toNm rfl) hh16 (pl_2 (.refl _) pl_nil) hh20 fun m21 hh22 => ?_))
    change DS _ _ _ [some ((dk_CRule A) rule1), some (.int day2), some (.lst (edges3.map (dOpt D.int))), some (.lst (readings4.map dk_T3III)), some (d7), some (.int x17.1), some (.int x17.2.1), some (.int x17.2.2)] (m21 ++ []) _
    change DS _ _ _ [some ((dk_CRule A) rule1), some (.int day2), some (.lst (edges3.map (dOpt D.int))), some (.lst (readings4.map dk_T3III)), some (d7), some (.int x17.1), some (.int x17.2.1), some (.int x17.2.2)] (m21 ++ []) _
    refine ds_nil ?_
    exact foldO_nx m21 r19.2 hF hh22 ⟨.inr rfl, .inr rfl, .inr rfl, .inr rfl, .inr rfl, .inl rfl, .inl rfl, .inl rfl, trivial⟩ rfl
  case hdo26 =>
    rintro m24 found23 hh25 rfl
    replace hF := okE hF
    change DS _ _ _ [some ((dk_CRule A) rule1), some (.int day2), some (.lst (edges3.map (dOpt D.int))), some (.lst (readings4.map dk_T3III)), some (d7), none, none, none] (m24 ++ []) _
    refine ds_cons (ds1_retV (dv_var v4.toNm rfl) ?_)
    exact retR_mk hF hh25 (.refl _)
  case hxo26 =>
    rintro cls fs _ _ ⟨n, rfl, e2⟩
    exact kx_exc hF e2
theorem kw_roll_of {X : Cx} {kx : XD} {ρ : Ro} {M : Mem} {pos p : Pos} {e0 e1 e2 e3 : Expr} {rule1 : (List (Int × Int)) × (Option Int)} {day2 : Int} {edges3 : List (Option Int)} {readings4 : List (Int × Int × Int)} {r : TRoll} (T : TxtT X.K X.mg A X.base) (hr : Room 5 X.A) (hg : Gl X "roll_of") (h0 : DV X kx e0 ρ M ((dk_CRule A) rule1)) (h1 : DV X kx e1 ρ M (.int day2)) (h2 : DV X kx e2 ρ M (.lst (edges3.map (dOpt D.int)))) (h3 : DV X kx e3 ρ M (.lst (readings4.map dk_T3III))) (hF : F_roll_of rule1 day2 edges3 readings4 = .ok r) (he0 : starEach [e0, e1, e2, e3] X.env = (false, eval e0 X.env) :: starEach [e1, e2, e3] X.env := by rfl) (he1 : starEach [e1, e2, e3] X.env = (false, eval e1 X.env) :: starEach [e2, e3] X.env := by rfl) (he2 : starEach [e2, e3] X.env = (false, eval e2 X.env) :: starEach [e3] X.env := by rfl) (he3 : starEach [e3] X.env = (false, eval e3 X.env) :: starEach [] X.env := by rfl) (hpl : (backTo pos (starEach [e1, e2, e3] X.env)).any (·.1) = false := by rfl) : DN X kx (.Call (.Name "roll_of" p) [e0, e1, e2, e3] [] pos) ρ M (OwR (is_Roll A) r) :=
  dn_callRw (gw_roll_of T) hr hg (da_cons h0 (da_cons h1 (da_cons h2 (da_cons h3 da_nil he3) he2) he1) he0) (rule1, day2, edges3, readings4) rfl rfl trivial hF (fun _ _ h => h) (by decide) he0 hpl
theorem gw_Book_bare (T : TxtT K mg A base) : GM P w K mg base 6 A.c_Book "bare" [] (spRw K mg (fun q : TBook => [(dk_CBook A) q]) (fun _ => []) (fun _ => True) (fun q => F_Book_bare q) (fun _ r d m => OwR (is_Roll A) r d m)) := by
  refine T.m_Book_bare.gm 0 (by decide) [] (fun _ _ e => by subst e; exact .nil) fun f fd F => fn_rwD F sc_Book_bare (fun _ => rfl) fun X e1 e2 e3 e4 e5 B Fz self1 out _ hF hne => ?_
  subst e1 e2 e3 e4 e5
  have v0 : Ns X 0 "self" := B.ns rfl rfl
  replace hF : F_Book_bare self1 = out := hF
  unfold F_Book_bare at hF
  change DS _ _ _ [some ((dk_CBook A) self1)] [] _
  rcases bindX_out hF hne with ⟨r2, hh3, hF⟩ | ⟨n, fs, hh3, hF⟩
  rotate_left
  · exact ds_cons (ds1_retX (x_roll_of T (B.room.mono (by decide)) (B.gl (x := "roll_of") rfl) (dv_fld T.cl_Book.cl (T.cl_Book.na "ruling" (by simp)) (dv_var v0.toNm rfl) (.ins _ _ _) rfl) (dv_fld T.cl_Book.cl (T.cl_Book.na "today" (by simp)) (dv_var v0.toNm rfl) (.ins _ _ _) rfl) (dv_fld T.cl_Book.cl (T.cl_Book.na "limits" (by simp)) (dv_var v0.toNm rfl) (.ins _ _ _) rfl) (show DV _ _ _ _ _ (.lst (([] : List (Int × Int × Int)).map dk_T3III)) from dv_lst da_nil (szN 0 rfl)) hh3 fun cls hm => (kx_exc hF.symm hm)))
  refine ds_cons (ds1_retD (kw_roll_of T (B.room.mono (by decide)) (B.gl (x := "roll_of") rfl) (dv_fld T.cl_Book.cl (T.cl_Book.na "ruling" (by simp)) (dv_var v0.toNm rfl) (.ins _ _ _) rfl) (dv_fld T.cl_Book.cl (T.cl_Book.na "today" (by simp)) (dv_var v0.toNm rfl) (.ins _ _ _) rfl) (dv_fld T.cl_Book.cl (T.cl_Book.na "limits" (by simp)) (dv_var v0.toNm rfl) (.ins _ _ _) rfl) (show DV _ _ _ _ _ (.lst (([] : List (Int × Int × Int)).map dk_T3III)) from dv_lst da_nil (szN 0 rfl)) hh3) fun d4 m5 hh6 => ?_)
  exact retR_mk hF hh6 (.refl _)
theorem kw_Book_bare {X : Cx} {kx : XD} {ρ : Ro} {M : Mem} {pos apos : Pos} {pl : Sem Bool} {o  : Expr} {self1 : TBook} {r : TRoll} (T : TxtT X.K X.mg A X.base) (hr : Room 6 X.A) (ho : DV X kx o ρ M ((dk_CBook A) self1))  (hF : F_Book_bare self1 = .ok r)   (ht : eval (.Call (.Attribute o "bare" apos) [] [] pos) X.env = (do
      let ov ← eval o X.env
      standAt apos.atName
      let (f, first) ← holding [ov] (getMethod ov "bare" pl)
      callWith pos f first (backTo pos (starEach [] X.env)) (backToKw pos (keywordEach [] X.env))) := by rfl) : DN X kx (.Call (.Attribute o "bare" apos) [] [] pos) ρ M (OwR (is_Roll A) r) :=
  dn_methR0 T.cl_Book.cl (gw_Book_bare T) hr ho (.ins _ _ _) self1 rfl rfl trivial hF (fun _ _ h => h) (by decide) ht
theorem sc_Book_enrol : FnScope ["self", "name", "marks"] ["self", "name", "marks"] (defScope s_Book_enrol) := fscope (by decide +kernel)
abbrev R_Book_enrol (A : Adr) (q : D × Mem × TBook × Str × (Option (List Str))) (r : Unit × TBook) (d : D) (m : Mem) : Prop := ∃ n0 : Mem, m = n0 ++ [] ∧ d = .non ∧ OwR (is_Book A) r.2 q.1 n0
theorem f_Book_enrol (T : TxtT K mg A base) {f : Addr} {fd : FuncData} (F : FunD K "enrol" "Book.enrol" (defArgs s_Book_enrol) (defBody s_Book_enrol) (defScope s_Book_enrol) [V.non] [] f fd) : FnOk P w K mg base (L2.CX P w) 7 f fd ["self", "name", "marks"] (spR K mg (fun q : D × Mem × TBook × Str × (Option (List Str)) => [q.1, .str q.2.2.2.1, dOpt dk_LS q.2.2.2.2]) (fun q : D × Mem × TBook × Str × (Option (List Str)) => q.2.1 ++ []) (fun q : D × Mem × TBook × Str × (Option (List Str)) => OwR (is_Book A) q.2.2.1 q.1 q.2.1) (fun q : D × Mem × TBook × Str × (Option (List Str)) => F_Book_enrol q.2.2.1 q.2.2.2.1 q.2.2.2.2) (R_Book_enrol A)) := by
  refine fn_rD F sc_Book_enrol (fun _ => rfl) fun X e1 e2 e3 e4 e5 B Fz q out hp hF hne => ?_
  subst e1 e2 e3 e4 e5
  have v0 : Ns X 0 "self" := B.ns rfl rfl
  have v1 : Ns X 1 "name" := B.ns rfl rfl
  have v2 : Ns X 2 "marks" := B.ns rfl rfl
  obtain ⟨d4, m5, self1, name2, marks3⟩ := q
  have hh6 : OwR (is_Book A) self1 d4 m5 := hp
  replace hF : F_Book_enrol self1 name2 marks3 = out := hF
  unfold F_Book_enrol at hF
  change DS _ _ _ [some (d4), some (.str name2), some (dOpt dk_LS marks3)] (m5 ++ []) _
  obtain ⟨r7, hh8, hF⟩ := bindP_out hF hne
  refine ds_cons (ds1_if (DT.lend1 (sh_Book A) (ok_Book A) hh6 0 (.refl _) rfl (DW.t (dw_or (dt_not (dt_val (c_is_name T (B.room.mono (by decide)) (B.gl (x := "is_name") rfl) (dv_var v1.toNm rfl) hh8))) fun _ => (dw_or1 (dt_dinO (q := getA self1.2.2.2.1 name2) (f := (dk_CRoll A)) B (dv_var v1.toNm rfl) (dv_fld T.cl_Book.cl (T.cl_Book.na "rolls" (by simp)) (dv_var v0.toNm rfl) (.ins _ _ _) rfl) (dk_kF (kk := name2) (f := (dk_CRoll A)) ij_S self1.2.2.2.1 rfl)))))) (fun hh9 => ?_) (fun hh9 => ?_))
  ·
    replace hF := ite_t hF hh9
    exact ds_cons (ds1_raise B.calm T.x_NoName (B.gl (x := "NoName") rfl) fun cls hm => (kxR_exc hF hm (pl_2 (.refl _) pl_nil)))
  ·
    replace hF := ite_f hF hh9
    refine ds_nil ?_
    obtain ⟨jk11, hjk11, hF⟩ := letJ_out hF
    refine ds_cons (ds1_ifJ (kf := jk11) (out := out) (fun (a : Unit) (z : Option (List Str)) => [some (d4), some (.str name2), some (dOpt dk_LS z)]) (fun (a : Unit) (z : Option (List Str)) => m5 ++ []) (dt_isNO (fun _ => rfl) (dv_var v2.toNm rfl)) (fun hh10 => ?_) (fun hh10 => ?_) ?_ then_fgt)
    ·
      rw [if_pos hh10] at hF
      refine ds_cons (ds1_set v2 (show DV _ _ _ _ _ (.lst (([] : List Str).map D.str)) from dv_lst da_nil (szN 0 rfl)) ?_)
      change DS _ _ _ [some (d4), some (.str name2), some (.lst (([] : List Str).map D.str))] (m5 ++ []) _
      refine ds_nil ?_
      exact join_nx () (some ([] : List Str)) hF ⟨.inr rfl, .inr rfl, .inr rfl, trivial⟩ rfl
    ·
      rw [if_neg (by rw [hh10]; decide)] at hF
      refine ds_nil ?_
      exact join_nx () marks3 hF ⟨.inr rfl, .inr rfl, .inr rfl, trivial⟩ rfl
    ·
      rintro ⟨⟩ marks12 hF
      subst hjk11
      change DS _ _ _ [some (d4), some (.str name2), some (dOpt dk_LS marks12)] (m5 ++ []) _
      rcases bindX_out hF hne with ⟨ms13, hh14, hF⟩ | ⟨n, fs, hh14, hF⟩
      rotate_left
      ·
        obtain ⟨gs, hob0⟩ := (cls_Book A).obj hh6
        have hob := hob0.more (M' := m5 ++ []) (mem_sub (.refl _))
        exact ds_cons (ds1_void (DX.de (dx_methA T.cl_Book.cl (gu_Book_adopt_0 T) (dv_var v0.toNm rfl) hob (dxa_tl (dv_var v1.toNm rfl) (dxa_hd (xd_marks_looked_at T (B.room.mono (by decide)) (B.gl (x := "marks_looked_at") rfl) (dv_var v2.toNm rfl) hh14))) (by decide)) fun cls hm => (kxR_exc hF.symm hm (pl_2 (.refl _) pl_nil))))
      obtain ⟨r15, hh16, hF⟩ := bindP_out hF hne
      obtain ⟨r17, hh18, hF⟩ := bindP_out hF hne
      obtain ⟨gs, hob0⟩ := (cls_Book A).obj hh6
      have hob := hob0.more (M' := m5 ++ []) (mem_sub (.refl _))
      refine ds_cons (ds1_exprK (de_methRE T.cl_Book.cl (gu_Book_adopt_0 T) (B.room.mono (by decide)) (dv_var v0.toNm rfl) hob ?_ (by decide)))
      refine dae_consV (dv_var v1.toNm rfl) ?_
      refine dae_consV (c_marks_looked_at T (B.room.mono (by decide)) (B.gl (x := "marks_looked_at") rfl) (dv_var v2.toNm rfl) hh14) ?_
      refine dae_consN (DN.lend1 (sh_Book A) (ok_Book A) hh6 0 (.refl _) rfl (kw_Book_bare T (B.room.mono (by decide)) (dv_var v0.toNm rfl) hh16) ((offk_Roll A (by decide)) _)) fun d19 m20 hh21 => ?_
      change DAE _ _ _ [some (d4), some (.str name2), some (dOpt dk_LS marks12)] (m20 ++ (m5 ++ [])) _
      refine dae_nil ⟨(d4, m5, self1, name2, ms13, d19, m20, r15), _, r17, rfl, (pl_2 (pl_a (.refl _)) (pl_2 (.refl _) pl_nil)), ⟨hh6, hh21⟩, hh18, ?_⟩
      rintro _ _ ⟨m22, rfl, rfl, hh23⟩
      rw [List.append_nil m22]
      change DS _ _ _ [some (d4), some (.str name2), some (dOpt dk_LS marks12)] (m22 ++ []) _
      refine ds_nil ?_
      exact retR_nx (res := R_Book_enrol A (d4, _, self1, name2, marks3)) hF ⟨m22, rfl, rfl, hh23⟩ (pl_2 (.refl _) pl_nil)
theorem gu_Book_enrol_0 (T : TxtT K mg A base) : GM P w K mg base 7 A.c_Book "enrol" [] (spR K mg (fun q : D × Mem × TBook × Str × (Option (List Str)) => [q.1, .str q.2.2.2.1, dOpt dk_LS q.2.2.2.2]) (fun q : D × Mem × TBook × Str × (Option (List Str)) => q.2.1 ++ []) (fun q : D × Mem × TBook × Str × (Option (List Str)) => OwR (is_Book A) q.2.2.1 q.1 q.2.1) (fun q : D × Mem × TBook × Str × (Option (List Str)) => F_Book_enrol q.2.2.1 q.2.2.2.1 q.2.2.2.2) (R_Book_enrol A)) := T.m_Book_enrol.gm 1 (by decide) _ (fun _ _ e => by subst e; exact .nil) fun _ _ F => f_Book_enrol T F
theorem u_Book_enrol_0 {X : Cx} {kx : XD} {ρ : Ro} {M R : Mem} {pos apos : Pos} {pl : Sem Bool} {o e0 e1 : Expr} {d4 : D} {m5 : Mem} {self1 : TBook} {name2 : Str} {marks3 : Option (List Str)} {r : Unit × TBook} {kk : D → Mem → Prop} (T : TxtT X.K X.mg A X.base) (hr : Room 7 X.A)  (ho : DV X kx o ρ M (d4)) (h0 : DV X kx e0 ρ M (.str name2)) (h1 : DV X kx e1 ρ M (dOpt dk_LS marks3)) (o0 : OwR (is_Book A) self1 d4 m5) (pm : M.Perm ((m5 ++ []) ++ R)) (hF : F_Book_enrol self1 name2 marks3 = .ok r) (hk : ∀ n0 : Mem, OwR (is_Book A) r.2 d4 n0 → kk (.non) (n0 ++ R)) (he0 : starEach [e0, e1] X.env = (false, eval e0 X.env) :: starEach [e1] X.env := by rfl) (he1 : starEach [e1] X.env = (false, eval e1 X.env) :: starEach [] X.env := by rfl) (hpl : (backTo pos (starEach [e1] X.env)).any (·.1) = false := by rfl) (ht : eval (.Call (.Attribute o "enrol" apos) [e0, e1] [] pos) X.env = (do
      let ov ← eval o X.env
      standAt apos.atName
      let (f, first) ← holding [ov] (getMethod ov "enrol" pl)
      callWith pos f first (backTo pos (starEach [e0, e1] X.env)) (backToKw pos (keywordEach [] X.env))) := by rfl) : DE X kx (.Call (.Attribute o "enrol" apos) [e0, e1] [] pos) ρ M kk := by
  obtain ⟨gs, hob0⟩ := (cls_Book A).obj o0
  have hob := hob0.more (M' := M) fun p hp => pm.mem_iff.mpr (by simp [hp])
  refine de_methR T.cl_Book.cl (gu_Book_enrol_0 T) hr ho hob (da_cons h0 (da_cons h1 da_nil he1) he0) (d4, m5, self1, name2, marks3) rfl pm o0 hF (fun d m hres => ?_) (by decide) he0 hpl ht
  obtain ⟨n0, rfl, rfl, q0⟩ := hres
  simpa only [List.append_nil, List.append_assoc, List.cons_append, List.nil_append] using hk n0 q0
theorem ux_Book_enrol_0 {X : Cx} {kx : XD} {ρ : Ro} {M R : Mem} {pos apos : Pos} {pl : Sem Bool} {o e0 e1 : Expr} {d4 : D} {m5 : Mem} {self1 : TBook} {name2 : Str} {marks3 : Option (List Str)} {n : Str} {fs : List (Str × D)} (T : TxtT X.K X.mg A X.base) (hr : Room 7 X.A)  (ho : DV X kx o ρ M (d4)) (h0 : DV X kx e0 ρ M (.str name2)) (h1 : DV X kx e1 ρ M (dOpt dk_LS marks3)) (o0 : OwR (is_Book A) self1 d4 m5) (pm : M.Perm ((m5 ++ []) ++ R)) (hF : F_Book_enrol self1 name2 marks3 = .exc n fs) (hk : ∀ cls, X.mg n = some cls → kx cls fs ρ M) (he0 : starEach [e0, e1] X.env = (false, eval e0 X.env) :: starEach [e1] X.env := by rfl) (he1 : starEach [e1] X.env = (false, eval e1 X.env) :: starEach [] X.env := by rfl) (hpl : (backTo pos (starEach [e1] X.env)).any (·.1) = false := by rfl) (ht : eval (.Call (.Attribute o "enrol" apos) [e0, e1] [] pos) X.env = (do
      let ov ← eval o X.env
      standAt apos.atName
      let (f, first) ← holding [ov] (getMethod ov "enrol" pl)
      callWith pos f first (backTo pos (starEach [e0, e1] X.env)) (backToKw pos (keywordEach [] X.env))) := by rfl) : DE X kx (.Call (.Attribute o "enrol" apos) [e0, e1] [] pos) ρ M fun _ _ => False := by
  obtain ⟨gs, hob0⟩ := (cls_Book A).obj o0
  have hob := hob0.more (M' := M) fun p hp => pm.mem_iff.mpr (by simp [hp])
  exact de_methRX T.cl_Book.cl (gu_Book_enrol_0 T) hr ho hob (da_cons h0 (da_cons h1 da_nil he1) he0) (d4, m5, self1, name2, marks3) rfl pm o0 hF hk (by decide) he0 hpl ht
theorem sc_l_book : FnScope ["_law_script", "_law_one", "_law_book_here", "_law_kept", "_law_k", "_law_number", "_law_name_here", "_law_marks", "_law_j"] ["_law_script"] (defScope s_l_book) := fscope (by decide +kernel)
theorem g_l_book (T : TxtT K mg A base) : GF P w K mg base 8 "_law_book" [] (spE K mg (fun q : List Int => [.scr (q.map D.int)]) (fun q => F_l_book q) (dk_T2CBookMSLS A)) := by
  refine T.f_l_book.gf fun f fd F => fn_e F sc_l_book (fun _ => rfl) fun X e1 e2 e3 e4 e5 B Fz script1 out hF hne => ?_
  subst e1 e2 e3 e4 e5
  have v0 : Ns X 0 "_law_script" := B.ns rfl rfl
  have v1 : Ns X 1 "_law_one" := B.nc Fz rfl rfl
  have v2 : Ns X 2 "_law_book_here" := B.ns rfl rfl
  have v3 : Ns X 3 "_law_kept" := B.ns rfl rfl
  have v4 : Ns X 4 "_law_k" := B.ns rfl rfl
  have v5 : Ns X 5 "_law_number" := B.nc Fz rfl rfl
  have v6 : Ns X 6 "_law_name_here" := B.ns rfl rfl
  have v7 : Ns X 7 "_law_marks" := B.ns rfl rfl
  replace hF : F_l_book script1 = out := hF
  unfold F_l_book at hF
  change DS _ _ _ [some (.scr (script1.map D.int)), none, none, none, none, none, none, none, none] [] _
  obtain ⟨r2, hh3, hF⟩ := bindP_out hF hne
  refine ds_cons (ds1_set v1 (c_l_cell_at T (B.room.mono (by decide)) (B.gl (x := "_law_cell_at") rfl) (dv_var v0.toNm rfl) dv_int hh3) ?_)
  change DS _ _ _ [some (.scr (script1.map D.int)), some (.int r2), none, none, none, none, none, none, none] [] _
  obtain ⟨r4, hh5, hF⟩ := bindP_out hF hne
  obtain ⟨r6, hh7, hF⟩ := bindP_out hF hne
  refine ds_cons (ds1_setN v2 (k_Book_init_0 T (B.room.mono (by decide)) (B.gl (x := "Book") rfl) (k_Rule_init_1 T (B.room.mono (by decide)) (B.gl (x := "Rule") rfl) (show DV _ _ _ _ _ (.lst ([(0, 1 + (r2 % 9))].map dk_T2II)) from dv_lst (da_cons (show DV _ _ _ _ _ (dk_T2II (0, 1 + (r2 % 9))) from dv_tup (da_cons dv_int (da_cons (dv_add dv_int (dv_mod (dv_var v1.toNm rfl) dv_int (by decide))) da_nil)) (szN 2 rfl)) da_nil) (szN 1 rfl)) hh5) (dv_mod (dv_var v1.toNm rfl) (DV.is (dv_pow dv_int dv_int ⟨by decide, by decide, by decide⟩) (show D.int _ = D.int (1000000000000000000000000000000) from congrArg D.int (by decide +kernel))) (by decide)) hh7) fun d8 m9 hh10 => ?_)
  change DS _ _ _ [some (.scr (script1.map D.int)), some (.int r2), some (d8), none, none, none, none, none, none] (m9 ++ []) _
  refine ds_cons (ds1_setK v3 (de_newK fun w11 hh12 => ?_))
  change DS _ _ _ [some (.scr (script1.map D.int)), some (.int r2), some (d8), some (.adr w11), none, none, none, none, none] ((w11, Mu.dK (([] : List (Str × (List Str))).map fun q => (ek_S q.1, dk_LS q.2))) :: (m9 ++ [])) _
  obtain ⟨r13, hh14, hF⟩ := bindP_out hF hne
  obtain ⟨hh15, hF⟩ := gd_out hF hne
  obtain ⟨o59, hh60, hh61, hF⟩ := bindX_cut hF hne
  refine ds_cons (ds1_foldO (enc := D.int) m9 B (fun (a : Mem) (z : TBook × (List (Str × (List Str)))) => [some (.scr (script1.map D.int)), some (.int r2), some (d8), some (.adr w11), none, none, none, none, none]) (fun (a : Mem) (z : TBook × (List (Str × (List Str)))) => (w11, Mu.dK (z.2.map fun q => (ek_S q.1, dk_LS q.2))) :: (a ++ [])) (fun (a : Mem) (z : TBook × (List (Str × (List Str)))) => OwR (is_Book A) z.1 d8 a) hh60 hh61 (di_range1 (B.bn (x := "range") rfl T.b_range bt_range) (dv_mod (c_l_mixed T (B.room.mono (by decide)) (B.gl (x := "_law_mixed") rfl) (dv_var v1.toNm rfl) dv_int hh14) dv_int (by decide)) hh15.1 hh15.2) hh10 ⟨.inr rfl, .inr rfl, .inr rfl, .inr rfl, .inl rfl, .inl rfl, .inl rfl, .inl rfl, .inl rfl, trivial⟩ rfl ?hso59 ?hdo59 ?hxo59 then_fgt)
  case hso59 =>
    clear hF
    rintro m18 ⟨book16, kept17⟩ x20 o21 hh19 _ hF hne
    refine ⟨_, _, (dg_name v4), ?_⟩
    change DS _ _ _ [some (.scr (script1.map D.int)), some (.int r2), some (d8), some (.adr w11), some (.int x20), none, none, none, none] ((w11, Mu.dK (kept17.map fun q => (ek_S q.1, dk_LS q.2))) :: (m18 ++ [])) _
    obtain ⟨r22, hh23, hF⟩ := bindP_out hF hne
    refine ds_cons (ds1_set v5 (c_l_cell_at T (B.room.mono (by decide)) (B.gl (x := "_law_cell_at") rfl) (dv_var v0.toNm rfl) (dv_add dv_int (dv_var v4.toNm rfl)) hh23) ?_)
    change DS _ _ _ [some (.scr (script1.map D.int)), some (.int r2), some (d8), some (.adr w11), some (.int x20), some (.int r22), none, none, none] ((w11, Mu.dK (kept17.map fun q => (ek_S q.1, dk_LS q.2))) :: (m18 ++ [])) _
    obtain ⟨r24, hh25, hF⟩ := bindP_out hF hne
    refine ds_cons (ds1_set v6 (c_l_name T (B.room.mono (by decide)) (B.gl (x := "_law_name") rfl) (dv_var v1.toNm rfl) (dv_mod (dv_add (dv_mulX (dv_var v4.toNm rfl) dv_int (mok_c (.inr ⟨by decide, by decide⟩))) (dv_var v5.toNm rfl)) dv_int (by decide)) hh25) ?_)
    change DS _ _ _ [some (.scr (script1.map D.int)), some (.int r2), some (d8), some (.adr w11), some (.int x20), some (.int r22), some (.str r24), none, none] ((w11, Mu.dK (kept17.map fun q => (ek_S q.1, dk_LS q.2))) :: (m18 ++ [])) _
    obtain ⟨hh26, hF⟩ := gd_out hF hne
    obtain ⟨hh33, hF⟩ := gd_out hF hne
    obtain ⟨ys34, hh35, hF⟩ := bindP_out hF hne
    obtain ⟨marks36, hh37, hF⟩ := letE_out hF
    refine ds_cons (ds1_set v7 (dv_isE (enc := dk_LS) (dv_slM (g := D.str) (dv_lcE (own := [("_law_j", 8)]) B  (di_range1 (B.bn (x := "range") rfl T.b_range bt_range) dv_int hh26.1 hh26.2) (blkOk_by (by decide +kernel)) (sz_lt hh33) (fun u27 hx => ⟨_, _, fun _ h => h, fun _ _ _ _ _ _ _ B28 => ⟨(dg_name (B28.ns (i := 8) rfl rfl)), lcb_E (enc := D.str) ((compE_out hh35).2 u27 hx) (fun _ hF => (by obtain ⟨r29, hh30, hF⟩ := bindP_out hF (Ex.ok_ne _); cases hF; exact (dts_one (dt_eqi (dv_mod (c_l_mixed T (B28.room.mono (by decide)) (B28.gl (x := "_law_mixed") rfl) (dv_var (B28.nm (i := 5) rfl (vcel rfl)) rfl) (dv_add dv_int (dv_var (B28.nm (i := 8) rfl (vloc rfl)) rfl)) hh30) dv_int (by decide)) dv_int)))) fun _ hF => (by obtain ⟨r31, hh32, hF⟩ := bindP_out hF (Ex.ok_ne _); cases hF; exact (c_l_mark T (B28.room.mono (by decide)) (B28.gl (x := "_law_mark") rfl) (dv_var (B28.nm (i := 1) rfl (vcel rfl)) rfl) (dv_var (B28.nm (i := 8) rfl (vloc rfl)) rfl) hh32))⟩⟩) (outs_E D.str (compE_out hh35).1)) (.lst _) do_none (do_some dv_int)) hh37) ?_)
    change DS _ _ _ [some (.scr (script1.map D.int)), some (.int r2), some (d8), some (.adr w11), some (.int x20), some (.int r22), some (.str r24), some (.lst (marks36.map D.str)), none] ((w11, Mu.dK (kept17.map fun q => (ek_S q.1, dk_LS q.2))) :: (m18 ++ [])) _
    obtain ⟨r38, hh39, hF⟩ := bindP_out hF hne
    obtain ⟨jk41, hjk41, hF⟩ := letJ_out hF
    refine ds_cons (ds1_ifJ (kf := jk41) (out := o21) (fun (a : Unit) (z : List Str) => [some (.scr (script1.map D.int)), some (.int r2), some (d8), some (.adr w11), some (.int x20), some (.int r22), some (.str r24), some (.lst (z.map D.str)), none]) (fun (a : Unit) (z : List Str) => (w11, Mu.dK (kept17.map fun q => (ek_S q.1, dk_LS q.2))) :: (m18 ++ [])) (dt_eqi (dv_mod (c_l_mixed T (B.room.mono (by decide)) (B.gl (x := "_law_mixed") rfl) (dv_var v5.toNm rfl) dv_int hh39) dv_int (by decide)) dv_int) (fun hh40 => ?_) (fun hh40 => ?_) ?_ then_fgt)
    ·
      rw [if_pos hh40] at hF
      refine ds_cons (ds1_set v7 (dv_rev (g := D.str) (dv_var v7.toNm rfl) (.lst _)) ?_)
      change DS _ _ _ [some (.scr (script1.map D.int)), some (.int r2), some (d8), some (.adr w11), some (.int x20), some (.int r22), some (.str r24), some (.lst (marks36.reverse.map D.str)), none] ((w11, Mu.dK (kept17.map fun q => (ek_S q.1, dk_LS q.2))) :: (m18 ++ [])) _
      refine ds_nil ?_
      exact join_nx () marks36.reverse hF ⟨.inr rfl, .inr rfl, .inr rfl, .inr rfl, .inr rfl, .inr rfl, .inr rfl, .inr rfl, .inl rfl, trivial⟩ rfl
    ·
      rw [if_neg (by rw [hh40]; decide)] at hF
      refine ds_nil ?_
      exact join_nx () marks36 hF ⟨.inr rfl, .inr rfl, .inr rfl, .inr rfl, .inr rfl, .inr rfl, .inr rfl, .inr rfl, .inl rfl, trivial⟩ rfl
    ·
      rintro ⟨⟩ marks42 hF
      subst hjk41
      change DS _ _ _ [some (.scr (script1.map D.int)), some (.int r2), some (d8), some (.adr w11), some (.int x20), some (.int r22), some (.str r24), some (.lst (marks42.map D.str)), none] ((w11, Mu.dK (kept17.map fun q => (ek_S q.1, dk_LS q.2))) :: (m18 ++ [])) _
      obtain ⟨jk44, hjk44, hF⟩ := jpE_out hF
      refine ds_cons (ds1_ifO (kf := jk44) (out := o21) (fun (a : Mem) (z : TBook × (List (Str × (List Str)))) => [some (.scr (script1.map D.int)), some (.int r2), some (d8), some (.adr w11), some (.int x20), some (.int r22), some (.str r24), some (.lst (marks42.map D.str)), none]) (fun (a : Mem) (z : TBook × (List (Str × (List Str)))) => (w11, Mu.dK (z.2.map fun q => (ek_S q.1, dk_LS q.2))) :: (a ++ [])) (fun (a : Mem) (z : TBook × (List (Str × (List Str)))) => OwR (is_Book A) z.1 d8 a) (dt_dninO (q := getA kept17 r24) (f := dk_LS) B (dv_var v6.toNm rfl) (dv_var v3.toNm rfl) (dk_kA (kk := r24) ij_S (List.mem_of_getElem? (i := 0) (show _ = some (w11, Mu.dK (kept17.map fun q => (ek_S q.1, dk_LS q.2))) from rfl)) rfl)) (fun hh43 => ?_) (fun hh43 => ?_) ?_ then_fgt)
      ·
        replace hF := ite_t hF hh43
        obtain ⟨hh45, hF⟩ := gd_out hF hne
        obtain ⟨hh46, hF⟩ := gd_out hF hne
        refine ds_cons (ds1_dputKM (f := dk_LS) 0 B ij_S kept17 (dv_sortedS (B.bn (x := "sorted") rfl T.b_sorted bt_sorted) hh45 (dv_var v7.toNm rfl) (.lst _)) (dv_var v3.toNm rfl) (dv_var v6.toNm rfl) rfl hh46 ?_)
        change DS _ _ _ [some (.scr (script1.map D.int)), some (.int r2), some (d8), some (.adr w11), some (.int x20), some (.int r22), some (.str r24), some (.lst (marks42.map D.str)), none] ((w11, Mu.dK ((putA kept17 r24 (sortS marks42)).map fun q => (ek_S q.1, dk_LS q.2))) :: (m18 ++ [])) _
        rcases bindX_out hF hne with ⟨r47, hh48, hF⟩ | ⟨n, fs, hh48, hF⟩
        rotate_left
        · exact ds_cons (ds1_void (ux_Book_enrol_0 T (B.room.mono (by decide)) (dv_var v2.toNm rfl) (dv_var v6.toNm rfl) (DV.is (dv_var v7.toNm rfl) (show _ = dOpt dk_LS (some marks42) from rfl)) hh19 (pl_2 (pl_c (.refl _)) pl_nil) hh48 fun cls hm => (kx_exc hF.symm hm)))
        refine ds_cons (ds1_exprK (u_Book_enrol_0 T (B.room.mono (by decide)) (dv_var v2.toNm rfl) (dv_var v6.toNm rfl) (DV.is (dv_var v7.toNm rfl) (show _ = dOpt dk_LS (some marks42) from rfl)) hh19 (pl_2 (pl_c (.refl _)) pl_nil) hh48 fun m49 hh50 => ?_))
        change DS _ _ _ [some (.scr (script1.map D.int)), some (.int r2), some (d8), some (.adr w11), some (.int x20), some (.int r22), some (.str r24), some (.lst (marks42.map D.str)), none] (m49 ++ ((w11, Mu.dK ((putA kept17 r24 (sortS marks42)).map fun q => (ek_S q.1, dk_LS q.2))) :: [])) _
        refine DS.perm (List.Perm.trans (pe_a (.refl _)) (pm_c (.refl _))) ?_
        change DS _ _ _ [some (.scr (script1.map D.int)), some (.int r2), some (d8), some (.adr w11), some (.int x20), some (.int r22), some (.str r24), some (.lst (marks42.map D.str)), none] ((w11, Mu.dK ((putA kept17 r24 (sortS marks42)).map fun q => (ek_S q.1, dk_LS q.2))) :: (m49 ++ [])) _
        refine ds_nil ?_
        exact joinO_nx m49 (r47.2, (putA kept17 r24 (sortS marks42))) hF hh50 ⟨.inr rfl, .inr rfl, .inr rfl, .inr rfl, .inr rfl, .inr rfl, .inr rfl, .inr rfl, .inl rfl, trivial⟩ rfl
      ·
        replace hF := ite_f hF hh43
        refine ds_nil ?_
        exact joinO_nx m18 (book16, kept17) hF hh19 ⟨.inr rfl, .inr rfl, .inr rfl, .inr rfl, .inr rfl, .inr rfl, .inr rfl, .inr rfl, .inl rfl, trivial⟩ rfl
      ·
        rintro m51 ⟨book53, kept54⟩ hh52 hF
        subst hjk44
        change DS _ _ _ [some (.scr (script1.map D.int)), some (.int r2), some (d8), some (.adr w11), some (.int x20), some (.int r22), some (.str r24), some (.lst (marks42.map D.str)), none] ((w11, Mu.dK (kept54.map fun q => (ek_S q.1, dk_LS q.2))) :: (m51 ++ [])) _
        refine ds_nil ?_
        exact foldO_nx m51 (book53, kept54) hF hh52 ⟨.inr rfl, .inr rfl, .inr rfl, .inr rfl, .inl rfl, .inl rfl, .inl rfl, .inl rfl, .inl rfl, trivial⟩ rfl
  case hdo59 =>
    rintro m57 ⟨book55, kept56⟩ hh58 rfl
    replace hF := okE hF
    change DS _ _ _ [some (.scr (script1.map D.int)), some (.int r2), some (d8), some (.adr w11), none, none, none, none, none] ((w11, Mu.dK (kept56.map fun q => (ek_S q.1, dk_LS q.2))) :: (m57 ++ [])) _
    refine ds_frzO (okDKF ek_S dk_LS) (own_dK.mpr ⟨w11, rfl, rfl⟩) 3 (.refl _) rfl ?_
    change DS _ _ _ [some (.scr (script1.map D.int)), some (.int r2), some (d8), some (.dK (kept56.map fun q => ek_S q.1) (kept56.map fun q => dk_LS q.2)), none, none, none, none, none] (m57 ++ []) _
    refine ds_frzO (ok_Book A) hh58 2 (.refl _) rfl ?_
    change DS _ _ _ [some (.scr (script1.map D.int)), some (.int r2), some ((dk_CBook A) book55), some (.dK (kept56.map fun q => ek_S q.1) (kept56.map fun q => dk_LS q.2)), none, none, none, none, none] [] _
    refine ds_cons (ds1_retV (show DV _ _ _ _ _ ((dk_T2CBookMSLS A) (book55, kept56)) from dv_tup (da_cons (dv_var v2.toNm rfl) (da_cons (dv_var v3.toNm rfl) da_nil)) (szN 2 rfl)) ?_)
    exact ret_mk (enc := (dk_T2CBookMSLS A)) (M := []) hF
  case hxo59 =>
    rintro cls fs _ _ ⟨n, rfl, e2⟩
    exact kx_exc hF e2
theorem c_l_book {X : Cx} {kx : XD} {ρ : Ro} {M : Mem} {pos p : Pos} {e0 : Expr} {script1 : List Int} {r : TBook × (List (Str × (List Str)))} (T : TxtT X.K X.mg A X.base) (hr : Room 8 X.A) (hg : Gl X "_law_book") (h0 : DV X kx e0 ρ M (.scr (script1.map D.int))) (hF : F_l_book script1 = .ok r) (he0 : starEach [e0] X.env = (false, eval e0 X.env) :: starEach [] X.env := by rfl) (hpl : (backTo pos (starEach [] X.env)).any (·.1) = false := by rfl) : DV X kx (.Call (.Name "_law_book" p) [e0] [] pos) ρ M ((dk_T2CBookMSLS A) r) :=
  dv_call (g_l_book T) hr hg (da_cons h0 da_nil he0) script1 rfl (fun h => Ex.ok_ne r (hF.symm.trans h)) (fun d ⟨r', a1, a2⟩ => by cases hF.symm.trans a1; exact a2) (fun cls fs ⟨n, a1, _⟩ => by cases hF.symm.trans a1) (by decide) he0 hpl
theorem sc_sieve : FnScope ["text", "wanted", "word", "mark", "lets"] ["text"] (defScope s_sieve) := fscope (by decide +kernel)
theorem look_sieve : CloLook s_sieve s_sieve_lets ((defBody s_sieve).take 3) "lets" (defP s_sieve_lets) (retP1 (defBody s_sieve)) (retP2 (defBody s_sieve)) ["text", "wanted", "word", "mark", "lets"] ["wanted"] [1] 4 := by
  refine ⟨?_, rfl, ?_, rfl, rfl, fun _ => rfl, rfl, rfl, rfl, ?_, by decide, fun _ => rfl, by decide, by decide⟩
  · rfl
  · decide +kernel
  · decide +kernel
theorem g_sieve (T : TxtT K mg A base) : GF P w K mg base 3 "sieve" [] (spE K mg (fun q : Str => [.str q]) (fun q => F_sieve q) dk_FN_sieveMSRB) := by
  refine T.f_sieve.gfM fun f fd hm F => fn_cloE (encs := dks_FN_sieveMSRB) F sc_sieve (fun _ => rfl) look_sieve T.tbs (T.ct_sieve f hm) (nm := fun _ _ => "sieve.<locals>.lets") (by simp [Dl.tabT]) (fun p hp h => by simp only [Dl.tabT, List.mem_cons, List.not_mem_nil, or_false] at hp; rcases hp with rfl | rfl <;> first | rfl | exact absurd h (by decide)) (by rfl) (fun _ => rfl) fun X e1 e2 e3 e4 e5 B Fz text1 out hF hne => ?_
  subst e1 e2 e3 e4 e5
  have v0 : Ns X 0 "text" := B.ns rfl rfl
  have v1 : Ns X 1 "wanted" := B.nc Fz rfl rfl
  have v2 : Ns X 2 "word" := B.ns rfl rfl
  have v3 : Ns X 3 "mark" := B.ns rfl rfl
  have v4 : Ns X 4 "lets" := B.ns rfl rfl
  replace hF : F_sieve text1 = out := hF
  unfold F_sieve at hF
  change DS _ _ _ [some (.str text1), none, none, none, none] [] _
  refine ds_cons (ds1_if (dt_not (dt_val (dv_isi (T := "str") (k := true) (B.bn (x := "isinstance") rfl T.b_isinstance bt_isinstance) (B.bn (x := "str") rfl T.b_str bt_str) (dv_var v0.toNm rfl) (by first | exact .non | exact .int _ | exact .bl _ | exact .str _ | exact .lst _ | exact .tup _ | exact .scr _) (by decide +kernel)))) (fun hh2 => ?_) (fun hh2 => ?_))
  ·
    replace hF := ite_t hF hh2
    exact ds_cons (ds1_raise B.calm T.x_NoMark (B.gl (x := "NoMark") rfl) fun cls hm => (kx_exc hF hm))
  ·
    replace hF := ite_f hF hh2
    refine ds_nil ?_
    refine ds_cons (ds1_newG ek_S D.bl v1 fun d3 m4 hh5 => ?_)
    change DS _ _ _ [some (.str text1), some (d3), none, none, none] (m4 ++ []) _
    obtain ⟨jk7, hjk7, hF⟩ := jpE_out hF
    refine ds_cons (ds1_ifJ (kf := jk7) (out := out) (fun (a : Unit) (z : List (Str × (List Bool))) => [some (.str text1), some (.dK (z.map fun q => ek_S q.1) (z.map fun q => dk_RB q.2)), none, none, none]) (fun (a : Unit) (z : List (Str × (List Bool))) => []) (dt_nes (dv_var v0.toNm rfl) dv_str) (fun hh6 => ?_) (fun hh6 => ?_) ?_ then_fgt)
    ·
      replace hF := ite_t hF hh6
      obtain ⟨hh8, hF⟩ := gd_out hF hne
      obtain ⟨o34, hh35, hh36, hF⟩ := bindX_cut hF hne
      refine ds_cons (ds1_foldO (enc := D.str) m4 B (fun (a : Mem) (z : List (Str × List Bool)) => [some (.str text1), some (d3), none, none, none]) (fun (a : Mem) (z : List (Str × List Bool)) => a ++ []) (fun (a : Mem) (z : List (Str × List Bool)) => OwR (isDKL ek_S D.bl) z d3 a) hh35 hh36 (di_list (dv_split (dv_var v0.toNm rfl) dv_str (by decide) hh8)) hh5 ⟨.inr rfl, .inr rfl, .inl rfl, .inl rfl, .inl rfl, trivial⟩ rfl ?hso34 ?hdo34 ?hxo34 then_fgt)
      case hso34 =>
        clear hF
        rintro m10 wanted9 x12 o13 hh11 _ hF hne
        refine ⟨_, _, (dg_name v2), ?_⟩
        change DS _ _ _ [some (.str text1), some (d3), some (.str x12), none, none] (m10 ++ []) _
        refine ds_cons (ds1_set v3 (dv_var v2.toNm rfl) ?_)
        change DS _ _ _ [some (.str text1), some (d3), some (.str x12), some (.str x12), none] (m10 ++ []) _
        obtain ⟨jk15, hjk15, hF⟩ := jpE_out hF
        refine ds_cons (ds1_ifJ (kf := jk15) (out := o13) (fun (a : Unit) (z : Str) => [some (.str text1), some (d3), some (.str x12), some (.str z), none]) (fun (a : Unit) (z : Str) => m10 ++ []) (dt_val (dv_startswith (dv_var v2.toNm rfl) dv_str)) (fun hh14 => ?_) (fun hh14 => ?_) ?_ then_fgt)
        ·
          replace hF := ite_t hF hh14
          obtain ⟨hh16, hF⟩ := gd_out hF hne
          obtain ⟨mark17, hh18, hF⟩ := letE_out hF
          refine ds_cons (ds1_set v3 (dv_isE (enc := D.str) (dv_slT' (dv_var v2.toNm rfl) hh16 (do_some dv_int) do_none) hh18) ?_)
          change DS _ _ _ [some (.str text1), some (d3), some (.str x12), some (.str mark17), none] (m10 ++ []) _
          refine ds_nil ?_
          exact join_nx () mark17 hF ⟨.inr rfl, .inr rfl, .inr rfl, .inr rfl, .inl rfl, trivial⟩ rfl
        ·
          replace hF := ite_f hF hh14
          refine ds_nil ?_
          exact join_nx () x12 hF ⟨.inr rfl, .inr rfl, .inr rfl, .inr rfl, .inl rfl, trivial⟩ rfl
        ·
          rintro ⟨⟩ mark19 hF
          subst hjk15
          change DS _ _ _ [some (.str text1), some (d3), some (.str x12), some (.str mark19), none] (m10 ++ []) _
          obtain ⟨r20, hh21, hF⟩ := bindP_out hF hne
          refine ds_cons (ds1_if (dt_not (dt_val (c_is_mark T (B.room.mono (by decide)) (B.gl (x := "is_mark") rfl) (dv_var v3.toNm rfl) hh21))) (fun hh22 => ?_) (fun hh22 => ?_))
          ·
            replace hF := ite_t hF hh22
            refine ds_frzO (ok_dkl (ek := ek_S) (f := D.bl)) hh11 1 (.refl _) rfl ?_
            change DS _ _ _ [some (.str text1), some (.dK (wanted9.map fun q => ek_S q.1) (wanted9.map fun q => dk_RB q.2)), some (.str x12), some (.str mark19), none] [] _
            exact ds_cons (ds1_raise B.calm T.x_NoMark (B.gl (x := "NoMark") rfl) fun cls hm => (kx_exc hF hm))
          ·
            replace hF := ite_f hF hh22
            refine ds_nil ?_
            obtain ⟨hh23, hF⟩ := gd_out hF hne
            refine ds_cons (ds1_setdG hh11 (.refl _) B ij_S (dv_var v1.toNm rfl) (dv_var v3.toNm rfl) hh23 fun m24 hh25 => ?_)
            change DS _ _ _ [some (.str text1), some (d3), some (.str x12), some (.str mark19), none] (m24 ++ []) _
            obtain ⟨xs26, hh27, hF⟩ := bindP_out hF hne
            obtain ⟨hh28, hF⟩ := gd_out hF hne
            refine ds_cons (ds1_appG hh25 (.refl _) B ij_S (fun _ _ => dv_var v1.toNm rfl) (fun _ _ => (dv_var v3.toNm rfl)) (fun _ _ => (dv_eqs (dv_var v3.toNm rfl) (dv_var v2.toNm rfl))) hh27 hh28 fun m29 hh30 => ?_)
            change DS _ _ _ [some (.str text1), some (d3), some (.str x12), some (.str mark19), none] (m29 ++ []) _
            refine ds_nil ?_
            exact foldO_nx m29 (putA (setdA wanted9 mark19 []) mark19 (xs26 ++ [decide (mark19 = x12)])) hF hh30 ⟨.inr rfl, .inr rfl, .inl rfl, .inl rfl, .inl rfl, trivial⟩ rfl
      case hdo34 =>
        rintro m32 wanted31 hh33 rfl
        replace hF := okE hF
        change DS _ _ _ [some (.str text1), some (d3), none, none, none] (m32 ++ []) _
        refine ds_frzO (ok_dkl (ek := ek_S) (f := D.bl)) hh33 1 (.refl _) rfl ?_
        change DS _ _ _ [some (.str text1), some (.dK (wanted31.map fun q => ek_S q.1) (wanted31.map fun q => dk_RB q.2)), none, none, none] [] _
        refine ds_nil ?_
        exact join_nx () wanted31 hF ⟨.inr rfl, .inr rfl, .inl rfl, .inl rfl, .inl rfl, trivial⟩ rfl
      case hxo34 =>
        rintro cls fs _ _ ⟨n, rfl, e2⟩
        exact kx_exc hF e2
    ·
      replace hF := ite_f hF hh6
      refine ds_frzO (ok_dkl (ek := ek_S) (f := D.bl)) hh5 1 (.refl _) rfl ?_
      change DS _ _ _ [some (.str text1), some (.dK (([] : List (Str × List Bool)).map fun q => ek_S q.1) (([] : List (Str × List Bool)).map fun q => dk_RB q.2)), none, none, none] [] _
      refine ds_nil ?_
      exact join_nx () ([] : List (Str × List Bool)) hF ⟨.inr rfl, .inr rfl, .inl rfl, .inl rfl, .inl rfl, trivial⟩ rfl
    ·
      rintro ⟨⟩ wanted37 hF
      subst hjk7
      change DS _ _ _ [some (.str text1), some (.dK (wanted37.map fun q => ek_S q.1) (wanted37.map fun q => dk_RB q.2)), none, none, none] [] _
      refine ds_nil ?_
      exact end1 rfl ⟨_, hF.symm, rfl⟩
theorem c_sieve {X : Cx} {kx : XD} {ρ : Ro} {M : Mem} {pos p : Pos} {e0 : Expr} {text1 : Str} {r : List (Str × (List Bool))} (T : TxtT X.K X.mg A X.base) (hr : Room 3 X.A) (hg : Gl X "sieve") (h0 : DV X kx e0 ρ M (.str text1)) (hF : F_sieve text1 = .ok r) (he0 : starEach [e0] X.env = (false, eval e0 X.env) :: starEach [] X.env := by rfl) (hpl : (backTo pos (starEach [] X.env)).any (·.1) = false := by rfl) : DV X kx (.Call (.Name "sieve" p) [e0] [] pos) ρ M (dk_FN_sieveMSRB r) :=
  dv_call (g_sieve T) hr hg (da_cons h0 da_nil he0) text1 rfl (fun h => Ex.ok_ne r (hF.symm.trans h)) (fun d ⟨r', a1, a2⟩ => by cases hF.symm.trans a1; exact a2) (fun cls fs ⟨n, a1, _⟩ => by cases hF.symm.trans a1) (by decide) he0 hpl
theorem sc_Book_names : FnScope ["self"] ["self"] (defScope s_Book_names) := fscope (by decide +kernel)
theorem g_Book_names (T : TxtT K mg A base) : GM P w K mg base 1 A.c_Book "names" [] (spE K mg (fun q : TBook => [(dk_CBook A) q]) (fun q => F_Book_names q) dk_LS) := by
  refine T.m_Book_names.gm 0 (by decide) [] (fun _ _ e => by subst e; exact .nil) fun f fd F => fn_eD F sc_Book_names (fun _ => rfl) fun X e1 e2 e3 e4 e5 B Fz self1 out hF hne => ?_
  subst e1 e2 e3 e4 e5
  have v0 : Ns X 0 "self" := B.ns rfl rfl
  replace hF : F_Book_names self1 = out := hF
  unfold F_Book_names at hF
  change DS _ _ _ [some ((dk_CBook A) self1)] [] _
  obtain ⟨hh2, hF⟩ := gd_out hF hne
  refine ds_cons (ds1_retV (dv_sortedDK (f := (dk_CRoll A)) B.calm (B.bn (x := "sorted") rfl T.b_sorted bt_sorted) (dv_fld T.cl_Book.cl (T.cl_Book.na "rolls" (by simp)) (dv_var v0.toNm rfl) (.ins _ _ _) rfl) hh2) ?_)
  exact ret_mk (enc := dk_LS) (M := []) hF
theorem c_Book_names {X : Cx} {kx : XD} {ρ : Ro} {M : Mem} {pos apos : Pos} {pl : Sem Bool} {o  : Expr} {self1 : TBook} {r : List Str} (T : TxtT X.K X.mg A X.base) (hr : Room 1 X.A) (ho : DV X kx o ρ M ((dk_CBook A) self1))  (hF : F_Book_names self1 = .ok r)   (ht : eval (.Call (.Attribute o "names" apos) [] [] pos) X.env = (do
      let ov ← eval o X.env
      standAt apos.atName
      let (f, first) ← holding [ov] (getMethod ov "names" pl)
      callWith pos f first (backTo pos (starEach [] X.env)) (backToKw pos (keywordEach [] X.env))) := by rfl) : DV X kx (.Call (.Attribute o "names" apos) [] [] pos) ρ M (.lst (r.map D.str)) :=
  dv_meth0 T.cl_Book.cl (g_Book_names T) hr ho (.ins _ _ _) self1 rfl (fun h => Ex.ok_ne r (hF.symm.trans h)) (fun d ⟨r', a1, a2⟩ => by cases hF.symm.trans a1; exact a2) (fun cls fs ⟨n, a1, _⟩ => by cases hF.symm.trans a1) rfl ht
theorem sc_Book_sought : FnScope ["self", "name", "roll"] ["self", "name"] (defScope s_Book_sought) := fscope (by decide +kernel)
theorem g_Book_sought (T : TxtT K mg A base) : GM P w K mg base 1 A.c_Book "sought" [] (spE K mg (fun q : TBook × Str => [(dk_CBook A) q.1, .str q.2]) (fun q => F_Book_sought q.1 q.2) (dk_CRoll A)) := by
  refine T.m_Book_sought.gm 0 (by decide) [] (fun _ _ e => by subst e; exact .nil) fun f fd F => fn_eD F sc_Book_sought (fun _ => rfl) fun X e1 e2 e3 e4 e5 B Fz q out hF hne => ?_
  subst e1 e2 e3 e4 e5
  have v0 : Ns X 0 "self" := B.ns rfl rfl
  have v1 : Ns X 1 "name" := B.ns rfl rfl
  have v2 : Ns X 2 "roll" := B.ns rfl rfl
  obtain ⟨self1, name2⟩ := q
  replace hF : F_Book_sought self1 name2 = out := hF
  unfold F_Book_sought at hF
  change DS _ _ _ [some ((dk_CBook A) self1), some (.str name2), none] [] _
  obtain ⟨roll3, hh4, hF⟩ := letE_out hF
  refine ds_cons (ds1_set v2 (dv_isE (enc := (dOpt (dk_CRoll A))) (dv_dgetO (q := getA self1.2.2.2.1 name2) (f := (dk_CRoll A)) B (dv_fld T.cl_Book.cl (T.cl_Book.na "rolls" (by simp)) (dv_var v0.toNm rfl) (.ins _ _ _) rfl) (dv_var v1.toNm rfl) (dk_kF (kk := name2) (f := (dk_CRoll A)) ij_S self1.2.2.2.1 rfl)) hh4) ?_)
  change DS _ _ _ [some ((dk_CBook A) self1), some (.str name2), some (dOpt (dk_CRoll A) roll3)] [] _
  refine ds_cons (ds1_if (dt_isNO (fun _ => rfl) (dv_var v2.toNm rfl)) (fun hh5 => ?_) (fun hh5 => ?_))
  ·
    replace hF := ite_t hF hh5
    exact ds_cons (ds1_raise B.calm T.x_NoName (B.gl (x := "NoName") rfl) fun cls hm => (kx_exc hF hm))
  ·
    replace hF := ite_f hF hh5
    obtain ⟨roll6, hh7, hF⟩ := bindP_out hF hne
    refine ds_nil ?_
    refine ds_cons (ds1_retV (dv_un (enc := (dk_CRoll A)) (dv_var v2.toNm rfl) hh7) ?_)
    exact ret_mk (enc := (dk_CRoll A)) (M := []) hF
theorem x_Book_sought {X : Cx} {kx : XD} {ρ : Ro} {M : Mem} {pos apos : Pos} {pl : Sem Bool} {o e0 : Expr} {self1 : TBook} {name2 : Str} {n : Str} {fs : List (Str × D)} (T : TxtT X.K X.mg A X.base) (hr : Room 1 X.A) (ho : DV X kx0 o ρ M ((dk_CBook A) self1)) (h0 : DV X kx0 e0 ρ M (.str name2)) (hF : F_Book_sought self1 name2 = .exc n fs) (hk : ∀ cls, X.mg n = some cls → kx cls fs ρ M) (he0 : starEach [e0] X.env = (false, eval e0 X.env) :: starEach [] X.env := by rfl) (hpl : (backTo pos (starEach [] X.env)).any (·.1) = false := by rfl) (ht : eval (.Call (.Attribute o "sought" apos) [e0] [] pos) X.env = (do
      let ov ← eval o X.env
      standAt apos.atName
      let (f, first) ← holding [ov] (getMethod ov "sought" pl)
      callWith pos f first (backTo pos (starEach [e0] X.env)) (backToKw pos (keywordEach [] X.env))) := by rfl) : DE X kx (.Call (.Attribute o "sought" apos) [e0] [] pos) ρ M fun _ _ => False :=
  (dx_meth T.cl_Book.cl (g_Book_sought T) hr ho (.ins _ _ _) (da_cons h0 da_nil he0) (self1, name2) rfl hF rfl he0 hpl ht).de hk
theorem c_Book_sought {X : Cx} {kx : XD} {ρ : Ro} {M : Mem} {pos apos : Pos} {pl : Sem Bool} {o e0 : Expr} {self1 : TBook} {name2 : Str} {r : TRoll} (T : TxtT X.K X.mg A X.base) (hr : Room 1 X.A) (ho : DV X kx o ρ M ((dk_CBook A) self1)) (h0 : DV X kx e0 ρ M (.str name2)) (hF : F_Book_sought self1 name2 = .ok r) (he0 : starEach [e0] X.env = (false, eval e0 X.env) :: starEach [] X.env := by rfl) (hpl : (backTo pos (starEach [] X.env)).any (·.1) = false := by rfl) (ht : eval (.Call (.Attribute o "sought" apos) [e0] [] pos) X.env = (do
      let ov ← eval o X.env
      standAt apos.atName
      let (f, first) ← holding [ov] (getMethod ov "sought" pl)
      callWith pos f first (backTo pos (starEach [e0] X.env)) (backToKw pos (keywordEach [] X.env))) := by rfl) : DV X kx (.Call (.Attribute o "sought" apos) [e0] [] pos) ρ M ((dk_CRoll A) r) :=
  dv_meth T.cl_Book.cl (g_Book_sought T) hr ho (.ins _ _ _) (da_cons h0 da_nil he0) (self1, name2) rfl (fun h => Ex.ok_ne r (hF.symm.trans h)) (fun d ⟨r', a1, a2⟩ => by cases hF.symm.trans a1; exact a2) (fun cls fs ⟨n, a1, _⟩ => by cases hF.symm.trans a1) rfl he0 hpl ht
theorem sc_Book_marks : FnScope ["self", "name"] ["self", "name"] (defScope s_Book_marks) := fscope (by decide +kernel)
theorem g_Book_marks (T : TxtT K mg A base) : GM P w K mg base 2 A.c_Book "marks" [] (spE K mg (fun q : TBook × Str => [(dk_CBook A) q.1, .str q.2]) (fun q => F_Book_marks q.1 q.2) dk_LS) := by
  refine T.m_Book_marks.gm 0 (by decide) [] (fun _ _ e => by subst e; exact .nil) fun f fd F => fn_eD F sc_Book_marks (fun _ => rfl) fun X e1 e2 e3 e4 e5 B Fz q out hF hne => ?_
  subst e1 e2 e3 e4 e5
  have v0 : Ns X 0 "self" := B.ns rfl rfl
  have v1 : Ns X 1 "name" := B.ns rfl rfl
  obtain ⟨self1, name2⟩ := q
  replace hF : F_Book_marks self1 name2 = out := hF
  unfold F_Book_marks at hF
  change DS _ _ _ [some ((dk_CBook A) self1), some (.str name2)] [] _
  rcases bindX_out hF hne with ⟨r3, hh4, hF⟩ | ⟨n, fs, hh4, hF⟩
  rotate_left
  · exact ds_cons (ds1_void (x_Book_sought T (B.room.mono (by decide)) (dv_var v0.toNm rfl) (dv_var v1.toNm rfl) hh4 fun cls hm => (kx_exc hF.symm hm)))
  refine ds_cons (ds1_exprV (c_Book_sought T (B.room.mono (by decide)) (dv_var v0.toNm rfl) (dv_var v1.toNm rfl) hh4) ?_)
  obtain ⟨x5, hh6, hF⟩ := bindP_out hF hne
  refine ds_cons (ds1_retV (dv_list (B.bn (x := "list") rfl T.b_list bt_list) (dv_dixE (f := dk_LS) B hh6 (dv_fld T.cl_Book.cl (T.cl_Book.na "signs" (by simp)) (dv_var v0.toNm rfl) (.ins _ _ _) rfl) (dv_var v1.toNm rfl) (dk_kF (kk := name2) (f := dk_LS) ij_S self1.2.2.2.2 rfl)) (.lst _)) ?_)
  exact ret_mk (enc := dk_LS) (M := []) hF
theorem c_Book_marks {X : Cx} {kx : XD} {ρ : Ro} {M : Mem} {pos apos : Pos} {pl : Sem Bool} {o e0 : Expr} {self1 : TBook} {name2 : Str} {r : List Str} (T : TxtT X.K X.mg A X.base) (hr : Room 2 X.A) (ho : DV X kx o ρ M ((dk_CBook A) self1)) (h0 : DV X kx e0 ρ M (.str name2)) (hF : F_Book_marks self1 name2 = .ok r) (he0 : starEach [e0] X.env = (false, eval e0 X.env) :: starEach [] X.env := by rfl) (hpl : (backTo pos (starEach [] X.env)).any (·.1) = false := by rfl) (ht : eval (.Call (.Attribute o "marks" apos) [e0] [] pos) X.env = (do
      let ov ← eval o X.env
      standAt apos.atName
      let (f, first) ← holding [ov] (getMethod ov "marks" pl)
      callWith pos f first (backTo pos (starEach [e0] X.env)) (backToKw pos (keywordEach [] X.env))) := by rfl) : DV X kx (.Call (.Attribute o "marks" apos) [e0] [] pos) ρ M (.lst (r.map D.str)) :=
  dv_meth T.cl_Book.cl (g_Book_marks T) hr ho (.ins _ _ _) (da_cons h0 da_nil he0) (self1, name2) rfl (fun h => Ex.ok_ne r (hF.symm.trans h)) (fun d ⟨r', a1, a2⟩ => by cases hF.symm.trans a1; exact a2) (fun cls fs ⟨n, a1, _⟩ => by cases hF.symm.trans a1) rfl he0 hpl ht
theorem sc_sieve_lets : NdefX.NScope ["marks", "wanted", "mark", "ways", "way"] ["marks"] ["wanted"] G_sieve_lets.scope := NdefX.nscope_by (by decide +kernel)
theorem n_sieve_lets (T : TxtT K mg A base) : GClo P w K mg base 1 G_sieve_lets ["marks"] ["wanted"] (nspE K (fun q : (List Str) × (List (Str × (List Bool))) => [.lst (q.1.map D.str)]) (fun q : (List Str) × (List (Str × (List Bool))) => [.dK (q.2.map fun q => ek_S q.1) (q.2.map fun q => dk_RB q.2)]) (fun q => F_sieve_lets q.1 q.2) D.bl) := by
  refine fn_nE sc_sieve_lets (fun _ _ _ _ _ us hl => match us, hl with | [_], _ => rfl) (fun _ => rfl) fun X e1 e2 e3 e4 e5 B q out hF hne => ?_
  subst e1 e2 e3 e4 e5
  have v0 : Ns X 0 "marks" := B.ns rfl rfl
  have v1 : Fre X 1 "wanted" := B.fre rfl rfl
  have v2 : Ns X 2 "mark" := B.ns rfl rfl
  have v3 : Ns X 3 "ways" := B.ns rfl rfl
  have v4 : Ns X 4 "way" := B.ns rfl rfl
  obtain ⟨marks1, wanted2⟩ := q
  replace hF : F_sieve_lets marks1 wanted2 = out := hF
  unfold F_sieve_lets at hF
  change DS _ _ _ [some (.lst (marks1.map D.str)), some (.dK (wanted2.map fun q => ek_S q.1) (wanted2.map fun q => dk_RB q.2)), none, none, none] [] _
  obtain ⟨o12, hh13, hh14, hF⟩ := bindX_cut hF hne
  refine ds_cons (ds1_loopE (enc := dk_T2SRB) (enr := D.bl) B (fun (z : Unit) => [some (.lst (marks1.map D.str)), some (.dK (wanted2.map fun q => ek_S q.1) (wanted2.map fun q => dk_RB q.2)), none, none, none]) (fun (z : Unit) => []) hh13 hh14 (di_itemsKF (eK := ek_S) (f := dk_RB) (enp := dk_T2SRB) (fun _ => rfl) wanted2 rfl (dv_var v1.toNm rfl)) ⟨.inr rfl, .inr rfl, .inl rfl, .inl rfl, .inl rfl, trivial⟩ rfl ?hso12 ?hdo12 ?hro12 ?hxo12 then_fgt)
  case hso12 =>
    clear hF
    rintro ⟨⟩ x3 o4 _ hF hne
    refine ⟨_, _, (dg_tup B.calm (dgs_cons (dg_name v2) (dgs_cons (dg_name v3) dgs_nil))), ?_⟩
    change DS _ _ _ [some (.lst (marks1.map D.str)), some (.dK (wanted2.map fun q => ek_S q.1) (wanted2.map fun q => dk_RB q.2)), some (.str x3.1), some (.scr (x3.2.map D.bl)), none] [] _
    obtain ⟨o8, hh9, hh10, hF⟩ := bindX_cut hF hne
    refine ds_cons (ds1_loopE (enc := D.bl) (enr := D.bl) B (fun (z : Unit) => [some (.lst (marks1.map D.str)), some (.dK (wanted2.map fun q => ek_S q.1) (wanted2.map fun q => dk_RB q.2)), some (.str x3.1), some (.scr (x3.2.map D.bl)), none]) (fun (z : Unit) => []) hh9 hh10 (di_scr (dv_var v3.toNm rfl)) ⟨.inr rfl, .inr rfl, .inr rfl, .inr rfl, .inl rfl, trivial⟩ rfl ?hso8 ?hdo8 ?hro8 ?hxo8 then_fgt)
    case hso8 =>
      clear hF
      rintro ⟨⟩ x5 o6 _ hF hne
      refine ⟨_, _, (dg_name v4), ?_⟩
      change DS _ _ _ [some (.lst (marks1.map D.str)), some (.dK (wanted2.map fun q => ek_S q.1) (wanted2.map fun q => dk_RB q.2)), some (.str x3.1), some (.scr (x3.2.map D.bl)), some (.bl x5)] [] _
      refine ds_cons (ds1_if (dt_neb (dv_inLS (dv_var v2.toNm rfl) (dv_var v0.toNm rfl) (.lst _)) (dv_var v4.toNm rfl)) (fun hh7 => ?_) (fun hh7 => ?_))
      ·
        replace hF := ite_t hF hh7
        refine ds_cons (ds1_retV dv_bl ?_)
        exact loop_rt (R := fun _ => []) (Mf := fun _ => []) (enr := D.bl) (M := []) hF
      ·
        replace hF := ite_f hF hh7
        refine ds_nil ?_
        refine ds_nil ?_
        exact loop_nx (enr := D.bl) hF ⟨.inr rfl, .inr rfl, .inr rfl, .inr rfl, .inl rfl, trivial⟩ rfl
    case hdo8 =>
      rintro ⟨⟩ rfl
      replace hF := okE hF
      replace hF := nxE hF
      change DS _ _ _ [some (.lst (marks1.map D.str)), some (.dK (wanted2.map fun q => ek_S q.1) (wanted2.map fun q => dk_RB q.2)), some (.str x3.1), some (.scr (x3.2.map D.bl)), none] [] _
      refine ds_nil ?_
      exact loop_nx (enr := D.bl) hF ⟨.inr rfl, .inr rfl, .inl rfl, .inl rfl, .inl rfl, trivial⟩ rfl
    case hro8 =>
      rintro r11 _ rfl
      exact loop_rt (R := fun _ => []) (Mf := fun _ => []) (enr := D.bl) (M := []) hF
    case hxo8 =>
      rintro cls fs _ _ ⟨n, rfl, e2⟩
      exact kx_exc hF e2
  case hdo12 =>
    rintro ⟨⟩ rfl
    replace hF := okE hF
    replace hF := nxE hF
    change DS _ _ _ [some (.lst (marks1.map D.str)), some (.dK (wanted2.map fun q => ek_S q.1) (wanted2.map fun q => dk_RB q.2)), none, none, none] [] _
    refine ds_cons (ds1_retV dv_bl ?_)
    exact ret_mk (enc := D.bl) (M := []) hF
  case hro12 =>
    rintro r15 _ rfl
    exact ret_mk (enc := D.bl) (M := []) hF
  case hxo12 =>
    rintro cls fs _ _ ⟨n, rfl, e2⟩
    exact kx_exc hF e2
theorem cn_sieve_lets {X : Cx} {kx : XD} {ρ : Ro} {M : Mem} {pos p : Pos} {i : Nat} {x : Str} {e0 : Expr} {marks1 : List Str} {wanted2 : List (Str × (List Bool))} {r : Bool} (T : TxtT X.K X.mg A X.base) (hr : Room 1 X.A) (n : Nm X i x) (hs : ρ[i]? = some (some (dk_FN_sieveMSRB wanted2))) (h0 : DV X kx e0 ρ M (.lst (marks1.map D.str))) (hF : F_sieve_lets marks1 wanted2 = .ok r) (he0 : starEach [e0] X.env = (false, eval e0 X.env) :: starEach [] X.env := by rfl) (hpl : (backTo pos (starEach [] X.env)).any (·.1) = false := by rfl) : DV X kx (.Call (.Name x p) [e0] [] pos) ρ M (.bl r) :=
  dv_callN (n_sieve_lets T) hr n hs (da_cons h0 da_nil he0) (marks1, wanted2) rfl rfl (nce_cons ((nce_lst nce_str) _) nce_nil) (nce_cons ((fun t => nce_dK (f := fun (q : Str × (List Bool)) => dk_RB q.2) (fun q => (nce_scr nce_bl) _) t) _) nce_nil) ⟨r, hF⟩ (fun d M' ⟨r', a1, a2⟩ => by cases hF.symm.trans a1; exact a2) he0 hpl
theorem sc_Book_chosen : FnScope ["self", "lets", "name"] ["self", "lets"] (defScope s_Book_chosen) := fscope (by decide +kernel)
theorem g_Book_chosen (T : TxtT K mg A base) : GM P w K mg base 3 A.c_Book "chosen" [] (spE K mg (fun q : TBook × (List (Str × (List Bool))) => [(dk_CBook A) q.1, dk_FN_sieveMSRB q.2]) (fun q => F_Book_chosen q.1 q.2) dk_LS) := by
  refine T.m_Book_chosen.gm 0 (by decide) [] (fun _ _ e => by subst e; exact .nil) fun f fd F => fn_eD F sc_Book_chosen (fun _ => rfl) fun X e1 e2 e3 e4 e5 B Fz q out hF hne => ?_
  subst e1 e2 e3 e4 e5
  have v0 : Ns X 0 "self" := B.nc Fz rfl rfl
  have v1 : Ns X 1 "lets" := B.nc Fz rfl rfl
  obtain ⟨self1, lets2⟩ := q
  replace hF : F_Book_chosen self1 lets2 = out := hF
  unfold F_Book_chosen at hF
  change DS _ _ _ [some ((dk_CBook A) self1), some (dk_FN_sieveMSRB lets2), none] [] _
  obtain ⟨r3, hh4, hF⟩ := bindP_out hF hne
  obtain ⟨hh11, hF⟩ := gd_out hF hne
  obtain ⟨ys12, hh13, hF⟩ := bindP_out hF hne
  refine ds_cons (ds1_retV (dv_lcE (own := [("name", 2)]) B  (di_list (c_Book_names T (B.room.mono (by decide)) (dv_var v0.toNm rfl) hh4)) (blkOk_by (by decide +kernel)) (sz_lt hh11) (fun u5 hx => ⟨_, _, fun _ h => h, fun _ _ _ _ _ _ _ B6 => ⟨(dg_name (B6.ns (i := 2) rfl rfl)), lcb_E (enc := D.str) ((compE_out hh13).2 u5 hx) (fun _ hF => (by obtain ⟨r7, hh8, hF⟩ := bindP_out hF (Ex.ok_ne _); obtain ⟨r9, hh10, hF⟩ := bindP_out hF (Ex.ok_ne _); cases hF; exact (dts_one (dt_val (cn_sieve_lets T (B6.room.mono (by decide)) (B6.nm (i := 1) rfl (vcel rfl)) rfl (c_Book_marks T (B6.room.mono (by decide)) (dv_var (B6.nm (i := 0) rfl (vcel rfl)) rfl) (dv_var (B6.nm (i := 2) rfl (vloc rfl)) rfl) hh8) hh10))))) fun _ hF => (by cases hF; exact (dv_var (B6.nm (i := 2) rfl (vloc rfl)) rfl))⟩⟩) (outs_E D.str (compE_out hh13).1)) ?_)
  exact ret_mk (enc := dk_LS) (M := []) hF
theorem c_Book_chosen {X : Cx} {kx : XD} {ρ : Ro} {M : Mem} {pos apos : Pos} {pl : Sem Bool} {o e0 : Expr} {self1 : TBook} {lets2 : List (Str × (List Bool))} {r : List Str} (T : TxtT X.K X.mg A X.base) (hr : Room 3 X.A) (ho : DV X kx o ρ M ((dk_CBook A) self1)) (h0 : DV X kx e0 ρ M (dk_FN_sieveMSRB lets2)) (hF : F_Book_chosen self1 lets2 = .ok r) (he0 : starEach [e0] X.env = (false, eval e0 X.env) :: starEach [] X.env := by rfl) (hpl : (backTo pos (starEach [] X.env)).any (·.1) = false := by rfl) (ht : eval (.Call (.Attribute o "chosen" apos) [e0] [] pos) X.env = (do
      let ov ← eval o X.env
      standAt apos.atName
      let (f, first) ← holding [ov] (getMethod ov "chosen" pl)
      callWith pos f first (backTo pos (starEach [e0] X.env)) (backToKw pos (keywordEach [] X.env))) := by rfl) : DV X kx (.Call (.Attribute o "chosen" apos) [e0] [] pos) ρ M (.lst (r.map D.str)) :=
  dv_meth T.cl_Book.cl (g_Book_chosen T) hr ho (.ins _ _ _) (da_cons h0 da_nil he0) (self1, lets2) rfl (fun h => Ex.ok_ne r (hF.symm.trans h)) (fun d ⟨r', a1, a2⟩ => by cases hF.symm.trans a1; exact a2) (fun cls fs ⟨n, a1, _⟩ => by cases hF.symm.trans a1) rfl he0 hpl ht
theorem gF_Book_chosen (T : TxtT K mg A base) : GM P w K mg base 3 A.c_Book "chosen" [] (spF K mg (fun q : TBook × (List (Str × (List Bool))) => [(dk_CBook A) q.1, dk_FN_sieveMSRB q.2]) (fun q => F_Book_chosen q.1 q.2) D.str) := by
  refine T.m_Book_chosen.gm 0 (by decide) [] (fun _ _ e => by subst e; exact .nil) fun f fd F => fn_fD F sc_Book_chosen (fun _ => rfl) fun X e1 e2 e3 e4 e5 B Fz q out hF hne => ?_
  subst e1 e2 e3 e4 e5
  have v0 : Ns X 0 "self" := B.nc Fz rfl rfl
  have v1 : Ns X 1 "lets" := B.nc Fz rfl rfl
  obtain ⟨self1, lets2⟩ := q
  replace hF : F_Book_chosen self1 lets2 = out := hF
  unfold F_Book_chosen at hF
  change DS _ _ _ [some ((dk_CBook A) self1), some (dk_FN_sieveMSRB lets2), none] [] _
  obtain ⟨r3, hh4, hF⟩ := bindP_out hF hne
  obtain ⟨hh11, hF⟩ := gd_out hF hne
  obtain ⟨ys12, hh13, hF⟩ := bindP_out hF hne
  refine ds_cons (ds1_retN2 (de_lcE (k2 := fun d m => ∃ w, d = .adr w ∧ m = (w, Mu.lst (ys12.map D.str)) :: []) (own := [("name", 2)]) B  (di_list (c_Book_names T (B.room.mono (by decide)) (dv_var v0.toNm rfl) hh4)) (blkOk_by (by decide +kernel)) (sz_lt hh11) (fun u5 hx => ⟨_, _, fun _ h => h, fun _ _ _ _ _ _ _ B6 => ⟨(dg_name (B6.ns (i := 2) rfl rfl)), lcb_E (enc := D.str) ((compE_out hh13).2 u5 hx) (fun _ hF => (by obtain ⟨r7, hh8, hF⟩ := bindP_out hF (Ex.ok_ne _); obtain ⟨r9, hh10, hF⟩ := bindP_out hF (Ex.ok_ne _); cases hF; exact (dts_one (dt_val (cn_sieve_lets T (B6.room.mono (by decide)) (B6.nm (i := 1) rfl (vcel rfl)) rfl (c_Book_marks T (B6.room.mono (by decide)) (dv_var (B6.nm (i := 0) rfl (vcel rfl)) rfl) (dv_var (B6.nm (i := 2) rfl (vloc rfl)) rfl) hh8) hh10))))) fun _ hF => (by cases hF; exact (dv_var (B6.nm (i := 2) rfl (vloc rfl)) rfl))⟩⟩) (outs_E D.str (compE_out hh13).1) fun w _ => ⟨w, rfl, rfl⟩) ?_)
  rintro d m ⟨w, rfl, rfl⟩
  exact retF_mk hF (List.mem_cons_self ..)
theorem cF_Book_chosen {X : Cx} {kx : XD} {ρ : Ro} {M : Mem} {pos apos : Pos} {pl : Sem Bool} {o e0 : Expr} {self1 : TBook} {lets2 : List (Str × (List Bool))} {r : List Str} {kk : D → Mem → Prop} (T : TxtT X.K X.mg A X.base) (hr : Room 3 X.A) (ho : DV X kx o ρ M ((dk_CBook A) self1)) (h0 : DV X kx e0 ρ M (dk_FN_sieveMSRB lets2)) (hF : F_Book_chosen self1 lets2 = .ok r) (hk : ∀ w, w ∉ M.dom → kk (.adr w) ((w, Mu.lst (r.map D.str)) :: M)) (he0 : starEach [e0] X.env = (false, eval e0 X.env) :: starEach [] X.env := by rfl) (hpl : (backTo pos (starEach [] X.env)).any (·.1) = false := by rfl) (ht : eval (.Call (.Attribute o "chosen" apos) [e0] [] pos) X.env = (do
      let ov ← eval o X.env
      standAt apos.atName
      let (f, first) ← holding [ov] (getMethod ov "chosen" pl)
      callWith pos f first (backTo pos (starEach [e0] X.env)) (backToKw pos (keywordEach [] X.env))) := by rfl) : DE X kx (.Call (.Attribute o "chosen" apos) [e0] [] pos) ρ M kk :=
  de_methF T.cl_Book.cl (gF_Book_chosen T) hr ho (.ins _ _ _) (da_cons h0 da_nil he0) (self1, lets2) rfl hF hk rfl he0 hpl ht
theorem sc_l_by_text : FnScope ["_law_book_here", "_law_kept", "_law_wanted_one", "_law_signs", "_law_text", "_law_due", "_law_name_here", "_law_found", "_law_sign", "_law_mark_here"] ["_law_book_here", "_law_kept", "_law_wanted_one", "_law_signs"] (defScope s_l_by_text) := fscope (by decide +kernel)
theorem g_l_by_text (T : TxtT K mg A base) : GF P w K mg base 4 "_law_by_text" [] (spE K mg (fun q : TBook × (List (Str × (List Str))) × (List Str) × (List Str) => [(dk_CBook A) q.1, .dK (q.2.1.map fun q => ek_S q.1) (q.2.1.map fun q => dk_LS q.2), .lst (q.2.2.1.map D.str), .lst (q.2.2.2.map D.str)]) (fun q => F_l_by_text q.1 q.2.1 q.2.2.1 q.2.2.2) D.bl) := by
  refine T.f_l_by_text.gf fun f fd F => fn_e F sc_l_by_text (fun _ => rfl) fun X e1 e2 e3 e4 e5 B Fz q out hF hne => ?_
  subst e1 e2 e3 e4 e5
  have v0 : Ns X 0 "_law_book_here" := B.ns rfl rfl
  have v1 : Ns X 1 "_law_kept" := B.nc Fz rfl rfl
  have v2 : Ns X 2 "_law_wanted_one" := B.ns rfl rfl
  have v3 : Ns X 3 "_law_signs" := B.ns rfl rfl
  have v4 : Ns X 4 "_law_text" := B.ns rfl rfl
  have v5 : Ns X 5 "_law_due" := B.ns rfl rfl
  have v6 : Ns X 6 "_law_name_here" := B.nc Fz rfl rfl
  have v7 : Ns X 7 "_law_found" := B.ns rfl rfl
  obtain ⟨book1, kept2, wanted_one3, signs4⟩ := q
  replace hF : F_l_by_text book1 kept2 wanted_one3 signs4 = out := hF
  unfold F_l_by_text at hF
  change DS _ _ _ [some ((dk_CBook A) book1), some (.dK (kept2.map fun q => ek_S q.1) (kept2.map fun q => dk_LS q.2)), some (.lst (wanted_one3.map D.str)), some (.lst (signs4.map D.str)), none, none, none, none, none, none] [] _
  obtain ⟨hh8, hF⟩ := gd_out hF hne
  obtain ⟨ys9, hh10, hF⟩ := bindP_out hF hne
  obtain ⟨hh11, hF⟩ := gd_out hF hne
  obtain ⟨text12, hh13, hF⟩ := letE_out hF
  refine ds_cons (ds1_set v4 (dv_isE (enc := D.str) (dv_join dv_str (dv_lcE (own := [("_law_sign", 8), ("_law_mark_here", 9)]) B  (show DI _ _ _ _ _ _ (List.map dk_T2SS _) from di_zipM (f := D.str) (g := D.str) (B.bn (x := "zip") rfl T.b_zip bt_zip) (dv_var v3.toNm rfl) (dv_var v2.toNm rfl)) (blkOk_by (by decide +kernel)) (sz_lt hh8) (fun u5 hx => ⟨_, _, fun _ h => h, fun _ _ _ _ _ _ _ B6 => ⟨(dg_tup B6.calm (dgs_cons (dg_name (B6.ns (i := 8) rfl rfl)) (dgs_cons (dg_name (B6.ns (i := 9) rfl rfl)) dgs_nil))), lcb_E (enc := D.str) ((compE_out hh10).2 u5 hx) (fun _ hF => (by cases hF; exact dts_nil)) fun _ hF => (by obtain ⟨hh7, hF⟩ := gd_out hF (Ex.ok_ne _); cases hF; exact (dv_addS (dv_var (B6.nm (i := 8) rfl (vloc rfl)) rfl) (dv_var (B6.nm (i := 9) rfl (vloc rfl)) rfl) hh7))⟩⟩) (outs_E D.str (compE_out hh10).1)) (.lst _) hh11) hh13) ?_)
  change DS _ _ _ [some ((dk_CBook A) book1), some (.dK (kept2.map fun q => ek_S q.1) (kept2.map fun q => dk_LS q.2)), some (.lst (wanted_one3.map D.str)), some (.lst (signs4.map D.str)), some (.str text12), none, none, none, none, none] [] _
  refine ds_cons (ds1_newL v5 da_nil (szN 0 rfl) fun w14 n_w14 => ?_)
  change DS _ _ _ [some ((dk_CBook A) book1), some (.dK (kept2.map fun q => ek_S q.1) (kept2.map fun q => dk_LS q.2)), some (.lst (wanted_one3.map D.str)), some (.lst (signs4.map D.str)), some (.str text12), some (.adr w14), none, none, none, none] [(w14, Mu.lst (([] : List Str).map D.str))] _
  obtain ⟨hh15, hF⟩ := gd_out hF hne
  obtain ⟨o48, hh49, hh50, hF⟩ := bindX_cut hF hne
  refine ds_cons (ds1_foldE (enc := D.str) B (fun (z : List Str) => [some ((dk_CBook A) book1), some (.dK (kept2.map fun q => ek_S q.1) (kept2.map fun q => dk_LS q.2)), some (.lst (wanted_one3.map D.str)), some (.lst (signs4.map D.str)), some (.str text12), some (.adr w14), none, none, none, none]) (fun (z : List Str) => [(w14, Mu.lst (z.map D.str))]) hh49 hh50 (di_list (dv_sortedDK (f := dk_LS) B.calm (B.bn (x := "sorted") rfl T.b_sorted bt_sorted) (dv_var v1.toNm rfl) hh15)) ⟨.inr rfl, .inr rfl, .inr rfl, .inr rfl, .inr rfl, .inr rfl, .inl rfl, .inl rfl, .inl rfl, .inl rfl, trivial⟩ rfl ?hso48 ?hdo48 ?hxo48 then_fgt)
  case hso48 =>
    clear hF
    rintro due16 x17 o18 _ hF hne
    refine ⟨_, _, (dg_name v6), ?_⟩
    change DS _ _ _ [some ((dk_CBook A) book1), some (.dK (kept2.map fun q => ek_S q.1) (kept2.map fun q => dk_LS q.2)), some (.lst (wanted_one3.map D.str)), some (.lst (signs4.map D.str)), some (.str text12), some (.adr w14), some (.str x17), none, none, none] [(w14, Mu.lst (due16.map D.str))] _
    obtain ⟨hh23, hF⟩ := gd_out hF hne
    obtain ⟨ys24, hh25, hF⟩ := bindP_out hF hne
    obtain ⟨jk27, hjk27, hF⟩ := jpE_out hF
    refine ds_cons (ds1_ifJ (kf := jk27) (out := o18) (fun (a : Unit) (z : List Str) => [some ((dk_CBook A) book1), some (.dK (kept2.map fun q => ek_S q.1) (kept2.map fun q => dk_LS q.2)), some (.lst (wanted_one3.map D.str)), some (.lst (signs4.map D.str)), some (.str text12), some (.adr w14), some (.str x17), none, none, none]) (fun (a : Unit) (z : List Str) => [(w14, Mu.lst (z.map D.str))]) (dt_val (dv_all B.calm (B.bn (x := "all") rfl T.b_all bt_all) (dv_lcE (own := [("_law_sign", 8), ("_law_mark_here", 9)]) B  (show DI _ _ _ _ _ _ (List.map dk_T2SS _) from di_zipM (f := D.str) (g := D.str) (B.bn (x := "zip") rfl T.b_zip bt_zip) (dv_var v3.toNm rfl) (dv_var v2.toNm rfl)) (blkOk_by (by decide +kernel)) (sz_lt hh23) (fun u19 hx => ⟨_, _, fun _ h => h, fun _ _ _ _ _ _ _ B20 => ⟨(dg_tup B20.calm (dgs_cons (dg_name (B20.ns (i := 8) rfl rfl)) (dgs_cons (dg_name (B20.ns (i := 9) rfl rfl)) dgs_nil))), lcb_E (enc := D.bl) ((compE_out hh25).2 u19 hx) (fun _ hF => (by cases hF; exact dts_nil)) fun _ hF => (by obtain ⟨x21, hh22, hF⟩ := bindP_out hF (Ex.ok_ne _); cases hF; exact (dv_eqb (dv_inLS (dv_var (B20.nm (i := 9) rfl (vloc rfl)) rfl) (dv_dixE (f := dk_LS) B20 hh22 (dv_var (B20.nm (i := 1) rfl (vcel rfl)) rfl) (dv_var (B20.nm (i := 6) rfl (vcel rfl)) rfl) (dk_kF (kk := x17) (f := dk_LS) ij_S kept2 rfl)) (.lst _)) (dv_eqs (dv_var (B20.nm (i := 8) rfl (vloc rfl)) rfl) dv_str)))⟩⟩) (outs_E D.bl (compE_out hh25).1)) (.lst _))) (fun hh26 => ?_) (fun hh26 => ?_) ?_ then_fgt)
    ·
      replace hF := ite_t hF hh26
      obtain ⟨hh28, hF⟩ := gd_out hF hne
      refine ds_cons (ds1_appM (g := D.str) (xs := due16) (v := x17) 0 (dv_var v5.toNm rfl) (dv_var v6.toNm rfl) rfl hh28 ?_)
      change DS _ _ _ [some ((dk_CBook A) book1), some (.dK (kept2.map fun q => ek_S q.1) (kept2.map fun q => dk_LS q.2)), some (.lst (wanted_one3.map D.str)), some (.lst (signs4.map D.str)), some (.str text12), some (.adr w14), some (.str x17), none, none, none] [(w14, Mu.lst ((due16 ++ [x17]).map D.str))] _
      refine ds_nil ?_
      exact join_nx () (due16 ++ [x17]) hF ⟨.inr rfl, .inr rfl, .inr rfl, .inr rfl, .inr rfl, .inr rfl, .inr rfl, .inl rfl, .inl rfl, .inl rfl, trivial⟩ rfl
    ·
      replace hF := ite_f hF hh26
      refine ds_nil ?_
      exact join_nx () due16 hF ⟨.inr rfl, .inr rfl, .inr rfl, .inr rfl, .inr rfl, .inr rfl, .inr rfl, .inl rfl, .inl rfl, .inl rfl, trivial⟩ rfl
    ·
      rintro ⟨⟩ due29 hF
      subst hjk27
      change DS _ _ _ [some ((dk_CBook A) book1), some (.dK (kept2.map fun q => ek_S q.1) (kept2.map fun q => dk_LS q.2)), some (.lst (wanted_one3.map D.str)), some (.lst (signs4.map D.str)), some (.str text12), some (.adr w14), some (.str x17), none, none, none] [(w14, Mu.lst (due29.map D.str))] _
      refine ds_nil ?_
      exact fold_nx hF ⟨.inr rfl, .inr rfl, .inr rfl, .inr rfl, .inr rfl, .inr rfl, .inl rfl, .inl rfl, .inl rfl, .inl rfl, trivial⟩ rfl
  case hdo48 =>
    rintro due30 rfl
    replace hF := okE hF
    change DS _ _ _ [some ((dk_CBook A) book1), some (.dK (kept2.map fun q => ek_S q.1) (kept2.map fun q => dk_LS q.2)), some (.lst (wanted_one3.map D.str)), some (.lst (signs4.map D.str)), some (.str text12), some (.adr w14), none, none, none, none] [(w14, Mu.lst (due30.map D.str))] _
    refine ds_frz 0 5 rfl rfl ?_
    change DS _ _ _ [some ((dk_CBook A) book1), some (.dK (kept2.map fun q => ek_S q.1) (kept2.map fun q => dk_LS q.2)), some (.lst (wanted_one3.map D.str)), some (.lst (signs4.map D.str)), some (.str text12), some (.lst (due30.map D.str)), none, none, none, none] [] _
    obtain ⟨r32, hh33, hF⟩ := bindP_out hF hne
    obtain ⟨found34, hh35, hF⟩ := bindP_out hF hne
    refine ds_cons (ds1_newE v7 (cF_Book_chosen T (B.room.mono (by decide)) (dv_var v0.toNm rfl) (c_sieve T (B.room.mono (by decide)) (B.gl (x := "sieve") rfl) (dv_var v4.toNm rfl) hh33) hh35 fun w hw => ⟨w, hw, rfl, rfl⟩) fun w31 n_w31 => ?_)
    change DS _ _ _ [some ((dk_CBook A) book1), some (.dK (kept2.map fun q => ek_S q.1) (kept2.map fun q => dk_LS q.2)), some (.lst (wanted_one3.map D.str)), some (.lst (signs4.map D.str)), some (.str text12), some (.lst (due30.map D.str)), none, some (.adr w31), none, none] [(w31, Mu.lst (found34.map D.str))] _
    obtain ⟨b38, hh39, hF⟩ := bindP_out hF hne
    refine ds_cons (ds1_if (DT.lend 0 7 rfl rfl (DW.t (dw_orE hh39 (dt_not (dt_val (dv_isi (T := "list") (k := true) (B.bn (x := "isinstance") rfl T.b_isinstance bt_isinstance) (B.bn (x := "list") rfl T.b_list bt_list) (dv_var v7.toNm rfl) (by first | exact .non | exact .int _ | exact .bl _ | exact .str _ | exact .lst _ | exact .tup _ | exact .scr _) (by decide +kernel)))) fun _ _ hF => (by obtain ⟨hh36, hF⟩ := gd_out hF (Ex.ok_ne _); obtain ⟨hh37, hF⟩ := gd_out hF (Ex.ok_ne _); cases hF; exact (dw_or1 (dt_neD B.hu (dv_var v7.toNm rfl) (dv_var v5.toNm rfl) (en_LS.eqs found34 due30 hh36 hh37))))))) (fun hh40 => ?_) (fun hh40 => ?_))
    ·
      replace hF := ite_t hF hh40
      refine ds_frz 0 7 rfl rfl ?_
      change DS _ _ _ [some ((dk_CBook A) book1), some (.dK (kept2.map fun q => ek_S q.1) (kept2.map fun q => dk_LS q.2)), some (.lst (wanted_one3.map D.str)), some (.lst (signs4.map D.str)), some (.str text12), some (.lst (due30.map D.str)), none, some (.lst (found34.map D.str)), none, none] [] _
      refine ds_cons (ds1_retV dv_bl ?_)
      exact ret_mk (enc := D.bl) (M := []) hF
    ·
      replace hF := ite_f hF hh40
      refine ds_nil ?_
      obtain ⟨hh41, hF⟩ := gd_out hF hne
      refine ds_cons (ds1_appM (g := D.str) (xs := found34) (v := ("y" : Str)) 0 (dv_var v7.toNm rfl) dv_str rfl hh41 ?_)
      change DS _ _ _ [some ((dk_CBook A) book1), some (.dK (kept2.map fun q => ek_S q.1) (kept2.map fun q => dk_LS q.2)), some (.lst (wanted_one3.map D.str)), some (.lst (signs4.map D.str)), some (.str text12), some (.lst (due30.map D.str)), none, some (.adr w31), none, none] [(w31, Mu.lst ((found34 ++ [("y" : Str)]).map D.str))] _
      refine ds_frz 0 7 rfl rfl ?_
      change DS _ _ _ [some ((dk_CBook A) book1), some (.dK (kept2.map fun q => ek_S q.1) (kept2.map fun q => dk_LS q.2)), some (.lst (wanted_one3.map D.str)), some (.lst (signs4.map D.str)), some (.str text12), some (.lst (due30.map D.str)), none, some (.lst ((found34 ++ [("y" : Str)]).map D.str)), none, none] [] _
      obtain ⟨r42, hh43, hF⟩ := bindP_out hF hne
      obtain ⟨r44, hh45, hF⟩ := bindP_out hF hne
      obtain ⟨hh46, hF⟩ := gd_out hF hne
      obtain ⟨hh47, hF⟩ := gd_out hF hne
      refine ds_cons (ds1_retV (dv_eqD B.hu (c_Book_chosen T (B.room.mono (by decide)) (dv_var v0.toNm rfl) (c_sieve T (B.room.mono (by decide)) (B.gl (x := "sieve") rfl) (dv_var v4.toNm rfl) hh43) hh45) (dv_var v5.toNm rfl) (en_LS.eqs r44 due30 hh46 hh47)) ?_)
      exact ret_mk (enc := D.bl) (M := []) hF
  case hxo48 =>
    rintro cls fs _ _ ⟨n, rfl, e2⟩
    exact kx_exc hF e2
theorem c_l_by_text {X : Cx} {kx : XD} {ρ : Ro} {M : Mem} {pos p : Pos} {e0 e1 e2 e3 : Expr} {book1 : TBook} {kept2 : List (Str × (List Str))} {wanted_one3 : List Str} {signs4 : List Str} {r : Bool} (T : TxtT X.K X.mg A X.base) (hr : Room 4 X.A) (hg : Gl X "_law_by_text") (h0 : DV X kx e0 ρ M ((dk_CBook A) book1)) (h1 : DV X kx e1 ρ M (.dK (kept2.map fun q => ek_S q.1) (kept2.map fun q => dk_LS q.2))) (h2 : DV X kx e2 ρ M (.lst (wanted_one3.map D.str))) (h3 : DV X kx e3 ρ M (.lst (signs4.map D.str))) (hF : F_l_by_text book1 kept2 wanted_one3 signs4 = .ok r) (he0 : starEach [e0, e1, e2, e3] X.env = (false, eval e0 X.env) :: starEach [e1, e2, e3] X.env := by rfl) (he1 : starEach [e1, e2, e3] X.env = (false, eval e1 X.env) :: starEach [e2, e3] X.env := by rfl) (he2 : starEach [e2, e3] X.env = (false, eval e2 X.env) :: starEach [e3] X.env := by rfl) (he3 : starEach [e3] X.env = (false, eval e3 X.env) :: starEach [] X.env := by rfl) (hpl : (backTo pos (starEach [e1, e2, e3] X.env)).any (·.1) = false := by rfl) : DV X kx (.Call (.Name "_law_by_text" p) [e0, e1, e2, e3] [] pos) ρ M (.bl r) :=
  dv_call (g_l_by_text T) hr hg (da_cons h0 (da_cons h1 (da_cons h2 (da_cons h3 da_nil he3) he2) he1) he0) (book1, kept2, wanted_one3, signs4) rfl (fun h => Ex.ok_ne r (hF.symm.trans h)) (fun d ⟨r', a1, a2⟩ => by cases hF.symm.trans a1; exact a2) (fun cls fs ⟨n, a1, _⟩ => by cases hF.symm.trans a1) (by decide) he0 hpl
theorem sc_l_own : FnScope ["_law_mark_here", "_law_least", "_law_heard", "_law_lets"] ["_law_mark_here", "_law_least", "_law_heard"] (defScope s_l_own) := fscope (by decide +kernel)
theorem look_l_own : CloLook s_l_own s_l_own_l_lets ((defBody s_l_own).take 0) "_law_lets" (defP s_l_own_l_lets) (retP1 (defBody s_l_own)) (retP2 (defBody s_l_own)) ["_law_mark_here", "_law_least", "_law_heard", "_law_lets"] ["_law_mark_here", "_law_least", "_law_heard"] [0, 1, 2] 3 := by
  refine ⟨?_, rfl, ?_, rfl, rfl, fun _ => rfl, rfl, rfl, rfl, ?_, by decide, fun _ => rfl, by decide, by decide⟩
  · rfl
  · decide +kernel
  · decide +kernel
theorem g_l_own (T : TxtT K mg A base) : GF P w K mg base 1 "_law_own" [] (spE K mg (fun q : Str × Int × Addr => [.str q.1, .int q.2.1, D.adr q.2.2]) (fun q => F_l_own q.1 q.2.1 q.2.2) dk_FN_l_ownSIAD) := by
  refine T.f_l_own.gfM fun f fd hm F => fn_cloE (encs := dks_FN_l_ownSIAD) F sc_l_own (fun _ => rfl) look_l_own T.tbs (T.ct_l_own f hm) (nm := fun _ _ => "_law_own.<locals>._law_lets") (by simp [Dl.tabT]) (fun p hp h => by simp only [Dl.tabT, List.mem_cons, List.not_mem_nil, or_false] at hp; rcases hp with rfl | rfl <;> first | rfl | exact absurd h (by decide)) (by rfl) (fun _ => rfl) fun X e1 e2 e3 e4 e5 B Fz q out hF hne => ?_
  subst e1 e2 e3 e4 e5
  have v0 : Ns X 0 "_law_mark_here" := B.nc Fz rfl rfl
  have v1 : Ns X 1 "_law_least" := B.nc Fz rfl rfl
  have v2 : Ns X 2 "_law_heard" := B.nc Fz rfl rfl
  have v3 : Ns X 3 "_law_lets" := B.ns rfl rfl
  obtain ⟨mark1, least2, heard3⟩ := q
  replace hF : F_l_own mark1 least2 heard3 = out := hF
  unfold F_l_own at hF
  change DS _ _ _ [some (.str mark1), some (.int least2), some (D.adr heard3), none] [] _
  refine ds_nil ?_
  exact end3 rfl rfl rfl ⟨_, hF.symm, rfl⟩
theorem c_l_own {X : Cx} {kx : XD} {ρ : Ro} {M : Mem} {pos p : Pos} {e0 e1 e2 : Expr} {mark1 : Str} {least2 : Int} {heard3 : Addr} {r : Str × Int × Addr} (T : TxtT X.K X.mg A X.base) (hr : Room 1 X.A) (hg : Gl X "_law_own") (h0 : DV X kx e0 ρ M (.str mark1)) (h1 : DV X kx e1 ρ M (.int least2)) (h2 : DV X kx e2 ρ M (D.adr heard3)) (hF : F_l_own mark1 least2 heard3 = .ok r) (he0 : starEach [e0, e1, e2] X.env = (false, eval e0 X.env) :: starEach [e1, e2] X.env := by rfl) (he1 : starEach [e1, e2] X.env = (false, eval e1 X.env) :: starEach [e2] X.env := by rfl) (he2 : starEach [e2] X.env = (false, eval e2 X.env) :: starEach [] X.env := by rfl) (hpl : (backTo pos (starEach [e1, e2] X.env)).any (·.1) = false := by rfl) : DV X kx (.Call (.Name "_law_own" p) [e0, e1, e2] [] pos) ρ M (dk_FN_l_ownSIAD r) :=
  dv_call (g_l_own T) hr hg (da_cons h0 (da_cons h1 (da_cons h2 da_nil he2) he1) he0) (mark1, least2, heard3) rfl (fun h => Ex.ok_ne r (hF.symm.trans h)) (fun d ⟨r', a1, a2⟩ => by cases hF.symm.trans a1; exact a2) (fun cls fs ⟨n, a1, _⟩ => by cases hF.symm.trans a1) (by decide) he0 hpl
abbrev R_l_own_l_lets (A : Adr) (q : Addr × (List Str) × Str × Int × Addr × (List (List Str))) (r : Bool × (List Str) × (List (List Str))) (d : D) (m : Mem) : Prop := m = [(q.1, Mu.lst (r.2.1.map D.str)), (q.2.2.2.2.1, Mu.lst (r.2.2.map dk_LS))] ∧ d = .bl r.1
theorem sc_l_own_l_lets : NdefX.NScope ["_law_marks", "_law_mark_here", "_law_least", "_law_heard", "_law_good"] ["_law_marks"] ["_law_mark_here", "_law_least", "_law_heard"] G_l_own_l_lets.scope := NdefX.nscope_by (by decide +kernel)
theorem n_l_own_l_lets (T : TxtT K mg A base) : GClo P w K mg base 1 G_l_own_l_lets ["_law_marks"] ["_law_mark_here", "_law_least", "_law_heard"] (nspR K (fun q : Addr × (List Str) × Str × Int × Addr × (List (List Str)) => [.adr q.1]) (fun q : Addr × (List Str) × Str × Int × Addr × (List (List Str)) => [.str q.2.2.1, .int q.2.2.2.1, .adr q.2.2.2.2.1]) (fun q : Addr × (List Str) × Str × Int × Addr × (List (List Str)) => [(q.1, Mu.lst (q.2.1.map D.str)), (q.2.2.2.2.1, Mu.lst (q.2.2.2.2.2.map dk_LS))]) (fun q : Addr × (List Str) × Str × Int × Addr × (List (List Str)) => F_l_own_l_lets q.2.1 q.2.2.1 q.2.2.2.1 q.2.2.2.2.2) (R_l_own_l_lets A)) := by
  refine fn_nR sc_l_own_l_lets (fun _ _ _ _ _ us hl => match us, hl with | [_], _ => rfl) (fun _ => rfl) fun X e1 e2 e3 e4 e5 B q out hF hne => ?_
  subst e1 e2 e3 e4 e5
  have v0 : Ns X 0 "_law_marks" := B.ns rfl rfl
  have v1 : Fre X 1 "_law_mark_here" := B.fre rfl rfl
  have v2 : Fre X 2 "_law_least" := B.fre rfl rfl
  have v3 : Fre X 3 "_law_heard" := B.fre rfl rfl
  have v4 : Ns X 4 "_law_good" := B.ns rfl rfl
  obtain ⟨w5, marks1, mark2, least3, w6, heard4⟩ := q
  replace hF : F_l_own_l_lets marks1 mark2 least3 heard4 = out := hF
  unfold F_l_own_l_lets at hF
  change DS _ _ _ [some (.adr w5), some (.str mark2), some (.int least3), some (.adr w6), none] [(w5, Mu.lst (marks1.map D.str)), (w6, Mu.lst (heard4.map dk_LS))] _
  obtain ⟨hh7, hF⟩ := gd_out hF hne
  refine ds_cons (ds1_appM (g := dk_LS) (xs := heard4) (v := marks1) 1 (dv_var v3.toNm rfl) (dv_list (B.bn (x := "list") rfl T.b_list bt_list) (dv_var v0.toNm rfl) (.adr (List.mem_of_getElem? (i := 0) (show _ = some (w5, Mu.lst (marks1.map D.str)) from rfl)))) rfl hh7 ?_)
  change DS _ _ _ [some (.adr w5), some (.str mark2), some (.int least3), some (.adr w6), none] [(w5, Mu.lst (marks1.map D.str)), (w6, Mu.lst ((heard4 ++ [marks1]).map dk_LS))] _
  obtain ⟨good8, hh9, hF⟩ := letE_out hF
  refine ds_cons (ds1_set v4 (dv_isE (enc := D.bl) (dv_and (dv_ge (dv_lenM (g := D.str) (B.bn (x := "len") rfl T.b_len bt_len) (dv_var v0.toNm rfl) (.adr (List.mem_of_getElem? (i := 0) (show _ = some (w5, Mu.lst (marks1.map D.str)) from rfl)))) (dv_var v2.toNm rfl)) fun _ => (dv_one (dv_ninLS (dv_var v1.toNm rfl) (dv_var v0.toNm rfl) (.adr (List.mem_of_getElem? (i := 0) (show _ = some (w5, Mu.lst (marks1.map D.str)) from rfl)))))) hh9) ?_)
  change DS _ _ _ [some (.adr w5), some (.str mark2), some (.int least3), some (.adr w6), some (.bl good8)] [(w5, Mu.lst (marks1.map D.str)), (w6, Mu.lst ((heard4 ++ [marks1]).map dk_LS))] _
  obtain ⟨hh10, hF⟩ := gd_out hF hne
  refine ds_cons (ds1_appM (g := D.str) (xs := marks1) (v := ("x" : Str)) 0 (dv_var v0.toNm rfl) dv_str rfl hh10 ?_)
  change DS _ _ _ [some (.adr w5), some (.str mark2), some (.int least3), some (.adr w6), some (.bl good8)] [(w5, Mu.lst ((marks1 ++ [("x" : Str)]).map D.str)), (w6, Mu.lst ((heard4 ++ [marks1]).map dk_LS))] _
  refine ds_cons (ds1_retV (dv_var v4.toNm rfl) ?_)
  exact retR_mk (res := R_l_own_l_lets A (w5, marks1, mark2, least3, w6, heard4)) hF ⟨rfl, rfl⟩ (pi_e (.refl _) (pi_e (.refl _) pl_nil))
theorem gF_Book_marks (T : TxtT K mg A base) : GM P w K mg base 2 A.c_Book "marks" [] (spF K mg (fun q : TBook × Str => [(dk_CBook A) q.1, .str q.2]) (fun q => F_Book_marks q.1 q.2) D.str) := by
  refine T.m_Book_marks.gm 0 (by decide) [] (fun _ _ e => by subst e; exact .nil) fun f fd F => fn_fD F sc_Book_marks (fun _ => rfl) fun X e1 e2 e3 e4 e5 B Fz q out hF hne => ?_
  subst e1 e2 e3 e4 e5
  have v0 : Ns X 0 "self" := B.ns rfl rfl
  have v1 : Ns X 1 "name" := B.ns rfl rfl
  obtain ⟨self1, name2⟩ := q
  replace hF : F_Book_marks self1 name2 = out := hF
  unfold F_Book_marks at hF
  change DS _ _ _ [some ((dk_CBook A) self1), some (.str name2)] [] _
  rcases bindX_out hF hne with ⟨r3, hh4, hF⟩ | ⟨n, fs, hh4, hF⟩
  rotate_left
  · exact ds_cons (ds1_void (x_Book_sought T (B.room.mono (by decide)) (dv_var v0.toNm rfl) (dv_var v1.toNm rfl) hh4 fun cls hm => (kx_exc hF.symm hm)))
  refine ds_cons (ds1_exprV (c_Book_sought T (B.room.mono (by decide)) (dv_var v0.toNm rfl) (dv_var v1.toNm rfl) hh4) ?_)
  obtain ⟨x5, hh6, hF⟩ := bindP_out hF hne
  refine ds_cons (ds1_retN2 (de_list (k := fun d m => ∃ w, d = .adr w ∧ m = (w, Mu.lst (x5.map D.str)) :: []) (B.bn (x := "list") rfl T.b_list bt_list) (dv_dixE (f := dk_LS) B hh6 (dv_fld T.cl_Book.cl (T.cl_Book.na "signs" (by simp)) (dv_var v0.toNm rfl) (.ins _ _ _) rfl) (dv_var v1.toNm rfl) (dk_kF (kk := name2) (f := dk_LS) ij_S self1.2.2.2.2 rfl)) (.lst _) fun w _ => ⟨w, rfl, rfl⟩) ?_)
  rintro d m ⟨w, rfl, rfl⟩
  exact retF_mk hF (List.mem_cons_self ..)
theorem cF_Book_marks {X : Cx} {kx : XD} {ρ : Ro} {M : Mem} {pos apos : Pos} {pl : Sem Bool} {o e0 : Expr} {self1 : TBook} {name2 : Str} {r : List Str} {kk : D → Mem → Prop} (T : TxtT X.K X.mg A X.base) (hr : Room 2 X.A) (ho : DV X kx o ρ M ((dk_CBook A) self1)) (h0 : DV X kx e0 ρ M (.str name2)) (hF : F_Book_marks self1 name2 = .ok r) (hk : ∀ w, w ∉ M.dom → kk (.adr w) ((w, Mu.lst (r.map D.str)) :: M)) (he0 : starEach [e0] X.env = (false, eval e0 X.env) :: starEach [] X.env := by rfl) (hpl : (backTo pos (starEach [] X.env)).any (·.1) = false := by rfl) (ht : eval (.Call (.Attribute o "marks" apos) [e0] [] pos) X.env = (do
      let ov ← eval o X.env
      standAt apos.atName
      let (f, first) ← holding [ov] (getMethod ov "marks" pl)
      callWith pos f first (backTo pos (starEach [e0] X.env)) (backToKw pos (keywordEach [] X.env))) := by rfl) : DE X kx (.Call (.Attribute o "marks" apos) [e0] [] pos) ρ M kk :=
  de_methF T.cl_Book.cl (gF_Book_marks T) hr ho (.ins _ _ _) (da_cons h0 da_nil he0) (self1, name2) rfl hF hk rfl he0 hpl ht
theorem sc_Book_chosen_2 : FnScope ["self", "lets", "name"] ["self", "lets"] (defScope s_Book_chosen) := fscope (by decide +kernel)
abbrev R_Book_chosen_2 (A : Adr) (q : TBook × Addr × (Str × Int × (List (List Str)))) (r : (List Str) × (Str × Int × (List (List Str)))) (d : D) (m : Mem) : Prop := m = [(q.2.1, Mu.lst (r.2.2.2.map dk_LS))] ∧ d = .lst (r.1.map D.str)
theorem f_Book_chosen_2 (T : TxtT K mg A base) {f : Addr} {fd : FuncData} (F : FunD K "chosen" "Book.chosen" (defArgs s_Book_chosen) (defBody s_Book_chosen) (defScope s_Book_chosen) [] [] f fd) : FnOk P w K mg base (L2.CX P w) 3 f fd ["self", "lets"] (spR K mg (fun q : TBook × Addr × (Str × Int × (List (List Str))) => [(dk_CBook A) q.1, dk_FN_l_ownSIAD (q.2.2.1, q.2.2.2.1, q.2.1)]) (fun q : TBook × Addr × (Str × Int × (List (List Str))) => [(q.2.1, Mu.lst (q.2.2.2.2.map dk_LS))]) (fun q : TBook × Addr × (Str × Int × (List (List Str))) => True) (fun q : TBook × Addr × (Str × Int × (List (List Str))) => F_Book_chosen_2 q.1 q.2.2) (R_Book_chosen_2 A)) := by
  refine fn_rD F sc_Book_chosen_2 (fun _ => rfl) fun X e1 e2 e3 e4 e5 B Fz q out hp hF hne => ?_
  subst e1 e2 e3 e4 e5
  have v0 : Ns X 0 "self" := B.nc Fz rfl rfl
  have v1 : Ns X 1 "lets" := B.nc Fz rfl rfl
  obtain ⟨self1, w3, lets2⟩ := q
  replace hF : F_Book_chosen_2 self1 lets2 = out := hF
  unfold F_Book_chosen_2 at hF
  change DS _ _ _ [some ((dk_CBook A) self1), some (dk_FN_l_ownSIAD (lets2.1, lets2.2.1, w3)), none] [(w3, Mu.lst (lets2.2.2.map dk_LS))] _
  obtain ⟨r4, hh5, hF⟩ := bindP_out hF hne
  obtain ⟨hh8, hF⟩ := gd_out hF hne
  obtain ⟨z12, hh13, hF⟩ := bindP_out hF hne
  refine ds_cons (ds1_retN2 (DE.frzN (kk := fun d m => d = .lst (z12.2.map D.str) ∧ ∃ g, m.Perm ((w3, Mu.lst (z12.1.map dk_LS)) :: (g ++ []))) (de_lcOwn (w := w3) (R := []) (own := [("name", 2)]) (encd := fun v => v.map D.str) (encS := fun s => s.map dk_LS) (fun w2 v s => (w2, v, lets2.1, lets2.2.1, w3, s)) (fun r => r.1) (fun r => r.2.2) (n_l_own_l_lets T) (fun _ _ _ => rfl) (fun _ _ _ => rfl) (fun _ _ _ => rfl) (fun _ _ _ => rfl) (fun _ _ _ _ _ _ h => ⟨h.2, _, h.1⟩) (nce_cons (nce_str _) (nce_cons (nce_int _) (nce_cons (nce_adr _) nce_nil))) (fun v => nceA_map nce_str v) (fun s => nceA_map (nce_lst nce_str) s) B (di_list (c_Book_names T (B.room.mono (by decide)) (dv_var v0.toNm rfl) hh5)) (blkOk_by (by decide +kernel)) (sz_lt hh8) hh13 (.refl _) (fun u6 hx v10 hF => ⟨_, _, fun _ h => h, rfl, fun _ _ _ _ _ B7 => ⟨(dg_name (B7.ns (i := 2) rfl rfl)), fun M' => cF_Book_marks T (B7.room.mono (by decide)) (dv_var (B7.nm (i := 0) rfl (vcel rfl)) rfl) (dv_var (B7.nm (i := 2) rfl (vloc rfl)) rfl) hF (fun w2 _ => ⟨w2, rfl, rfl⟩), B7.nm (i := 1) rfl (vcel rfl), B7.room.mono (by decide), fun M' => (dv_var (B7.nm (i := 2) rfl (vloc rfl)) rfl)⟩⟩) (fun wn g m p => ⟨wn, _, m, rfl, rfl, rfl, g, p⟩))) ?_)
  rintro d m ⟨rfl, g, p⟩
  exact retR_mk (res := R_Book_chosen_2 A (self1, w3, lets2)) hF ⟨rfl, rfl⟩ p
theorem gu_Book_chosen_2_0 (T : TxtT K mg A base) : GM P w K mg base 3 A.c_Book "chosen" [] (spR K mg (fun q : TBook × Addr × (Str × Int × (List (List Str))) => [(dk_CBook A) q.1, dk_FN_l_ownSIAD (q.2.2.1, q.2.2.2.1, q.2.1)]) (fun q : TBook × Addr × (Str × Int × (List (List Str))) => [(q.2.1, Mu.lst (q.2.2.2.2.map dk_LS))]) (fun q : TBook × Addr × (Str × Int × (List (List Str))) => True) (fun q : TBook × Addr × (Str × Int × (List (List Str))) => F_Book_chosen_2 q.1 q.2.2) (R_Book_chosen_2 A)) := T.m_Book_chosen.gm 0 (by decide) _ (fun _ _ e => by subst e; exact .nil) fun _ _ F => f_Book_chosen_2 T F
theorem u_Book_chosen_2_0 {X : Cx} {kx : XD} {ρ : Ro} {M R : Mem} {pos apos : Pos} {pl : Sem Bool} {o e0 : Expr} {self1 : TBook} {w3 : Addr} {lets2 : Str × Int × (List (List Str))} {r : (List Str) × (Str × Int × (List (List Str)))} {kk : D → Mem → Prop} (T : TxtT X.K X.mg A X.base) (hr : Room 3 X.A)  (ho : DV X kx o ρ M ((dk_CBook A) self1)) (h0 : DV X kx e0 ρ M (dk_FN_l_ownSIAD (lets2.1, lets2.2.1, w3)))  (pm : M.Perm ([(w3, Mu.lst (lets2.2.2.map dk_LS))] ++ R)) (hF : F_Book_chosen_2 self1 lets2 = .ok r) (hk : True → kk (.lst (r.1.map D.str)) ((w3, Mu.lst (r.2.2.2.map dk_LS)) :: R)) (he0 : starEach [e0] X.env = (false, eval e0 X.env) :: starEach [] X.env := by rfl) (hpl : (backTo pos (starEach [] X.env)).any (·.1) = false := by rfl) (ht : eval (.Call (.Attribute o "chosen" apos) [e0] [] pos) X.env = (do
      let ov ← eval o X.env
      standAt apos.atName
      let (f, first) ← holding [ov] (getMethod ov "chosen" pl)
      callWith pos f first (backTo pos (starEach [e0] X.env)) (backToKw pos (keywordEach [] X.env))) := by rfl) : DE X kx (.Call (.Attribute o "chosen" apos) [e0] [] pos) ρ M kk := by
  refine de_methR T.cl_Book.cl (gu_Book_chosen_2_0 T) hr ho (.ins _ _ _) (da_cons h0 da_nil he0) (self1, w3, lets2) rfl pm trivial hF (fun d m hres => ?_) (by decide) he0 hpl ht
  obtain ⟨rfl, rfl⟩ := hres
  simpa only [List.append_nil, List.append_assoc, List.cons_append, List.nil_append] using hk trivial
theorem sc_l_by_own : FnScope ["_law_book_here", "_law_kept", "_law_mark_here", "_law_least", "_law_heard", "_law_lets", "_law_due", "_law_marks", "_law_name_here"] ["_law_book_here", "_law_kept", "_law_mark_here", "_law_least"] (defScope s_l_by_own) := fscope (by decide +kernel)
theorem g_l_by_own (T : TxtT K mg A base) : GF P w K mg base 4 "_law_by_own" [] (spE K mg (fun q : TBook × (List (Str × (List Str))) × Str × Int => [(dk_CBook A) q.1, .dK (q.2.1.map fun q => ek_S q.1) (q.2.1.map fun q => dk_LS q.2), .str q.2.2.1, .int q.2.2.2]) (fun q => F_l_by_own q.1 q.2.1 q.2.2.1 q.2.2.2) D.bl) := by
  refine T.f_l_by_own.gf fun f fd F => fn_e F sc_l_by_own (fun _ => rfl) fun X e1 e2 e3 e4 e5 B Fz q out hF hne => ?_
  subst e1 e2 e3 e4 e5
  have v0 : Ns X 0 "_law_book_here" := B.ns rfl rfl
  have v1 : Ns X 1 "_law_kept" := B.nc Fz rfl rfl
  have v2 : Ns X 2 "_law_mark_here" := B.nc Fz rfl rfl
  have v3 : Ns X 3 "_law_least" := B.nc Fz rfl rfl
  have v4 : Ns X 4 "_law_heard" := B.nc Fz rfl rfl
  have v5 : Ns X 5 "_law_lets" := B.ns rfl rfl
  have v6 : Ns X 6 "_law_due" := B.ns rfl rfl
  have v7 : Ns X 7 "_law_marks" := B.ns rfl rfl
  obtain ⟨book1, kept2, mark3, least4⟩ := q
  replace hF : F_l_by_own book1 kept2 mark3 least4 = out := hF
  unfold F_l_by_own at hF
  change DS _ _ _ [some ((dk_CBook A) book1), some (.dK (kept2.map fun q => ek_S q.1) (kept2.map fun q => dk_LS q.2)), some (.str mark3), some (.int least4), none, none, none, none, none] [] _
  refine ds_cons (ds1_newL v4 da_nil (szN 0 rfl) fun w5 n_w5 => ?_)
  change DS _ _ _ [some ((dk_CBook A) book1), some (.dK (kept2.map fun q => ek_S q.1) (kept2.map fun q => dk_LS q.2)), some (.str mark3), some (.int least4), some (.adr w5), none, none, none, none] [(w5, Mu.lst (([] : List (List Str)).map dk_LS))] _
  refine ds_cons (ds1_set v5 (c_l_own (r := (mark3, least4, w5)) T (B.room.mono (by decide)) (B.gl (x := "_law_own") rfl) (dv_var v2.toNm rfl) (dv_var v3.toNm rfl) (dv_var v4.toNm rfl) rfl) ?_)
  change DS _ _ _ [some ((dk_CBook A) book1), some (.dK (kept2.map fun q => ek_S q.1) (kept2.map fun q => dk_LS q.2)), some (.str mark3), some (.int least4), some (.adr w5), some (dk_FN_l_ownSIAD ((mark3, least4, w5).1, (mark3, least4, w5).2.1, w5)), none, none, none] [(w5, Mu.lst (([] : List (List Str)).map dk_LS))] _
  obtain ⟨hh6, hF⟩ := gd_out hF hne
  obtain ⟨hh15, hF⟩ := gd_out hF hne
  obtain ⟨ys16, hh17, hF⟩ := bindP_out hF hne
  refine ds_cons (ds1_setLcE (own := [("_law_name_here", 8)]) B v6 (di_list (dv_sortedDK (f := dk_LS) B.calm (B.bn (x := "sorted") rfl T.b_sorted bt_sorted) (dv_var v1.toNm rfl) hh6)) (blkOk_by (by decide +kernel)) (sz_lt hh15) (fun u7 hx => ⟨_, _, fun _ h => h, fun _ _ _ _ _ _ _ B8 => ⟨(dg_name (B8.ns (i := 8) rfl rfl)), lcb_E (enc := D.str) ((compE_out hh17).2 u7 hx) (fun _ hF => (by obtain ⟨x9, hh10, hF⟩ := bindP_out hF (Ex.ok_ne _); obtain ⟨b13, hh14, hF⟩ := bindP_out hF (Ex.ok_ne _); cases hF; exact (dts_one (DW.t (dw_andE hh14 (dt_ge (dv_lenM (g := D.str) (B8.bn (x := "len") rfl T.b_len bt_len) (dv_dixE (f := dk_LS) B8 hh10 (dv_var (B8.nm (i := 1) rfl (vcel rfl)) rfl) (dv_var (B8.nm (i := 8) rfl (vloc rfl)) rfl) (dk_kF (kk := u7) (f := dk_LS) ij_S kept2 rfl)) (.lst _)) (dv_var (B8.nm (i := 3) rfl (vcel rfl)) rfl)) fun _ _ hF => (by obtain ⟨x11, hh12, hF⟩ := bindP_out hF (Ex.ok_ne _); cases hF; exact (dw_and1 (dt_ninLS (dv_var (B8.nm (i := 2) rfl (vcel rfl)) rfl) (dv_dixE (f := dk_LS) B8 hh12 (dv_var (B8.nm (i := 1) rfl (vcel rfl)) rfl) (dv_var (B8.nm (i := 8) rfl (vloc rfl)) rfl) (dk_kF (kk := u7) (f := dk_LS) ij_S kept2 rfl)) (.lst _))))))))) fun _ hF => (by cases hF; exact (dv_var (B8.nm (i := 8) rfl (vloc rfl)) rfl))⟩⟩) (outs_E D.str (compE_out hh17).1) ?_)
  change DS _ _ _ [some ((dk_CBook A) book1), some (.dK (kept2.map fun q => ek_S q.1) (kept2.map fun q => dk_LS q.2)), some (.str mark3), some (.int least4), some (.adr w5), some (dk_FN_l_ownSIAD ((mark3, least4, w5).1, (mark3, least4, w5).2.1, w5)), some (.lst (ys16.map D.str)), none, none] [(w5, Mu.lst (([] : List (List Str)).map dk_LS))] _
  refine ds_cons (ds1_ifT ?_)
  refine DWT.t ?_
  refine dwt_or ?_
  obtain ⟨r18, hh19, hF⟩ := bindP_out hF hne
  obtain ⟨hh20, hF⟩ := gd_out hF hne
  obtain ⟨hh21, hF⟩ := gd_out hF hne
  refine dtt_cmp (op_neD B.hu) ((u_Book_chosen_2_0 (lets2 := (mark3, least4, ([] : List (List Str)))) T (B.room.mono (by decide)) (dv_var v0.toNm rfl) (dv_var v5.toNm rfl)  (pi_e (.refl _) pl_nil) hh19 fun _h => ⟨_, _, (dv_var v6.toNm rfl), (r2_neD (en_LS.eqs r18.1 ys16 hh20 hh21)), fun hh22 => ?_, fun hh22 => ?_⟩))
  ·
    change DS _ _ _ [some ((dk_CBook A) book1), some (.dK (kept2.map fun q => ek_S q.1) (kept2.map fun q => dk_LS q.2)), some (.str mark3), some (.int least4), some (.adr w5), some (dk_FN_l_ownSIAD ((mark3, least4, w5).1, (mark3, least4, w5).2.1, w5)), some (.lst (ys16.map D.str)), none, none] ((w5, Mu.lst (r18.2.2.2.map dk_LS)) :: []) _
    change DS _ _ _ [some ((dk_CBook A) book1), some (.dK (kept2.map fun q => ek_S q.1) (kept2.map fun q => dk_LS q.2)), some (.str mark3), some (.int least4), some (.adr w5), some (dk_FN_l_ownSIAD ((mark3, least4, w5).1, (mark3, least4, w5).2.1, w5)), some (.lst (ys16.map D.str)), none, none] [(w5, Mu.lst (r18.2.2.2.map dk_LS))] _
    replace hF := ite_t hF hh22
    refine ds_frz 0 4 rfl rfl ?_
    change DS _ _ _ [some ((dk_CBook A) book1), some (.dK (kept2.map fun q => ek_S q.1) (kept2.map fun q => dk_LS q.2)), some (.str mark3), some (.int least4), some (.lst (r18.2.2.2.map dk_LS)), some (dk_FN_l_ownSIAD ((mark3, least4, w5).1, (mark3, least4, w5).2.1, w5)), some (.lst (ys16.map D.str)), none, none] [] _
    refine ds_cons (ds1_retV dv_bl ?_)
    exact ret_mk (enc := D.bl) (M := []) hF
  ·
    change DWT _ _ _ [some ((dk_CBook A) book1), some (.dK (kept2.map fun q => ek_S q.1) (kept2.map fun q => dk_LS q.2)), some (.str mark3), some (.int least4), some (.adr w5), some (dk_FN_l_ownSIAD ((mark3, least4, w5).1, (mark3, least4, w5).2.1, w5)), some (.lst (ys16.map D.str)), none, none] ((w5, Mu.lst (r18.2.2.2.map dk_LS)) :: []) _ _
    change DWT _ _ _ [some ((dk_CBook A) book1), some (.dK (kept2.map fun q => ek_S q.1) (kept2.map fun q => dk_LS q.2)), some (.str mark3), some (.int least4), some (.adr w5), some (dk_FN_l_ownSIAD ((mark3, least4, w5).1, (mark3, least4, w5).2.1, w5)), some (.lst (ys16.map D.str)), none, none] [(w5, Mu.lst (r18.2.2.2.map dk_LS))] _ _
    replace hF := ite_f hF hh22
    refine dwt_or1 ?_
    obtain ⟨r23, hh24, hF⟩ := bindP_out hF hne
    obtain ⟨hh25, hF⟩ := gd_out hF hne
    obtain ⟨hh26, hF⟩ := gd_out hF hne
    refine dtt_cmp (op_neD B.hu) ((u_Book_chosen_2_0 (lets2 := (mark3, least4, r18.2.2.2)) T (B.room.mono (by decide)) (dv_var v0.toNm rfl) (dv_var v5.toNm rfl)  (pi_e (.refl _) pl_nil) hh24 fun _h => ⟨_, _, (dv_var v6.toNm rfl), (r2_neD (en_LS.eqs r23.1 ys16 hh25 hh26)), fun hh27 => ?_, fun hh27 => ?_⟩))
    ·
      change DS _ _ _ [some ((dk_CBook A) book1), some (.dK (kept2.map fun q => ek_S q.1) (kept2.map fun q => dk_LS q.2)), some (.str mark3), some (.int least4), some (.adr w5), some (dk_FN_l_ownSIAD ((mark3, least4, w5).1, (mark3, least4, w5).2.1, w5)), some (.lst (ys16.map D.str)), none, none] ((w5, Mu.lst (r23.2.2.2.map dk_LS)) :: []) _
      change DS _ _ _ [some ((dk_CBook A) book1), some (.dK (kept2.map fun q => ek_S q.1) (kept2.map fun q => dk_LS q.2)), some (.str mark3), some (.int least4), some (.adr w5), some (dk_FN_l_ownSIAD ((mark3, least4, w5).1, (mark3, least4, w5).2.1, w5)), some (.lst (ys16.map D.str)), none, none] [(w5, Mu.lst (r23.2.2.2.map dk_LS))] _
      replace hF := ite_t hF hh27
      refine ds_frz 0 4 rfl rfl ?_
      change DS _ _ _ [some ((dk_CBook A) book1), some (.dK (kept2.map fun q => ek_S q.1) (kept2.map fun q => dk_LS q.2)), some (.str mark3), some (.int least4), some (.lst (r23.2.2.2.map dk_LS)), some (dk_FN_l_ownSIAD ((mark3, least4, w5).1, (mark3, least4, w5).2.1, w5)), some (.lst (ys16.map D.str)), none, none] [] _
      refine ds_cons (ds1_retV dv_bl ?_)
      exact ret_mk (enc := D.bl) (M := []) hF
    ·
      change DS _ _ _ [some ((dk_CBook A) book1), some (.dK (kept2.map fun q => ek_S q.1) (kept2.map fun q => dk_LS q.2)), some (.str mark3), some (.int least4), some (.adr w5), some (dk_FN_l_ownSIAD ((mark3, least4, w5).1, (mark3, least4, w5).2.1, w5)), some (.lst (ys16.map D.str)), none, none] ((w5, Mu.lst (r23.2.2.2.map dk_LS)) :: []) _
      change DS _ _ _ [some ((dk_CBook A) book1), some (.dK (kept2.map fun q => ek_S q.1) (kept2.map fun q => dk_LS q.2)), some (.str mark3), some (.int least4), some (.adr w5), some (dk_FN_l_ownSIAD ((mark3, least4, w5).1, (mark3, least4, w5).2.1, w5)), some (.lst (ys16.map D.str)), none, none] [(w5, Mu.lst (r23.2.2.2.map dk_LS))] _
      replace hF := ite_f hF hh27
      refine ds_frz 0 4 rfl rfl ?_
      change DS _ _ _ [some ((dk_CBook A) book1), some (.dK (kept2.map fun q => ek_S q.1) (kept2.map fun q => dk_LS q.2)), some (.str mark3), some (.int least4), some (.lst (r23.2.2.2.map dk_LS)), some (dk_FN_l_ownSIAD ((mark3, least4, w5).1, (mark3, least4, w5).2.1, w5)), some (.lst (ys16.map D.str)), none, none] [] _
      refine ds_nil ?_
      obtain ⟨o41, hh42, hh43, hF⟩ := bindX_cut hF hne
      refine ds_cons (ds1_loopE (enc := dk_LS) (enr := D.bl) B (fun (z : Unit) => [some ((dk_CBook A) book1), some (.dK (kept2.map fun q => ek_S q.1) (kept2.map fun q => dk_LS q.2)), some (.str mark3), some (.int least4), some (.lst (r23.2.2.2.map dk_LS)), some (dk_FN_l_ownSIAD ((mark3, least4, w5).1, (mark3, least4, w5).2.1, w5)), some (.lst (ys16.map D.str)), none, none]) (fun (z : Unit) => []) hh42 hh43 (di_list (dv_var v4.toNm rfl)) ⟨.inr rfl, .inr rfl, .inr rfl, .inr rfl, .inr rfl, .inr rfl, .inr rfl, .inl rfl, .inl rfl, trivial⟩ rfl ?hso41 ?hdo41 ?hro41 ?hxo41 then_fgt)
      case hso41 =>
        clear hF
        rintro ⟨⟩ x28 o29 _ hF hne
        refine ⟨_, _, (dg_name v7), ?_⟩
        change DS _ _ _ [some ((dk_CBook A) book1), some (.dK (kept2.map fun q => ek_S q.1) (kept2.map fun q => dk_LS q.2)), some (.str mark3), some (.int least4), some (.lst (r23.2.2.2.map dk_LS)), some (dk_FN_l_ownSIAD ((mark3, least4, w5).1, (mark3, least4, w5).2.1, w5)), some (.lst (ys16.map D.str)), some (.lst (x28.map D.str)), none] [] _
        obtain ⟨hh30, hF⟩ := gd_out hF hne
        obtain ⟨hh31, hF⟩ := gd_out hF hne
        obtain ⟨hh32, hF⟩ := gd_out hF hne
        refine ds_cons (ds1_if (dt_ninE (f := dk_LS) (v := x28) (xs := (kept2.map Prod.snd)) B en_LS en_LLS (dv_var v7.toNm rfl) (dv_listValsF (ek := ek_S) (f := dk_LS) kept2 (B.bn (x := "list") rfl T.b_list bt_list) (dv_var v1.toNm rfl) hh30 B.calm) hh31 hh32) (fun hh33 => ?_) (fun hh33 => ?_))
        ·
          replace hF := ite_t hF hh33
          refine ds_cons (ds1_retV dv_bl ?_)
          exact loop_rt (R := fun _ => []) (Mf := fun _ => []) (enr := D.bl) (M := []) hF
        ·
          replace hF := ite_f hF hh33
          refine ds_nil ?_
          refine ds_nil ?_
          exact loop_nx (enr := D.bl) hF ⟨.inr rfl, .inr rfl, .inr rfl, .inr rfl, .inr rfl, .inr rfl, .inr rfl, .inl rfl, .inl rfl, trivial⟩ rfl
      case hdo41 =>
        rintro ⟨⟩ rfl
        replace hF := okE hF
        replace hF := nxE hF
        change DS _ _ _ [some ((dk_CBook A) book1), some (.dK (kept2.map fun q => ek_S q.1) (kept2.map fun q => dk_LS q.2)), some (.str mark3), some (.int least4), some (.lst (r23.2.2.2.map dk_LS)), some (dk_FN_l_ownSIAD ((mark3, least4, w5).1, (mark3, least4, w5).2.1, w5)), some (.lst (ys16.map D.str)), none, none] [] _
        obtain ⟨hh38, hF⟩ := gd_out hF hne
        obtain ⟨ys39, hh40, hF⟩ := bindP_out hF hne
        refine ds_cons (ds1_retV (dv_all B.calm (B.bn (x := "all") rfl T.b_all bt_all) (dv_lcE (own := [("_law_marks", 7)]) B  (di_valuesKF (ek := ek_S) (f := dk_LS) kept2 (dv_var v1.toNm rfl)) (blkOk_by (by decide +kernel)) (sz_lt hh38) (fun u34 hx => ⟨_, _, fun _ h => h, fun _ _ _ _ _ _ _ B35 => ⟨(dg_name (B35.ns (i := 7) rfl rfl)), lcb_E (enc := D.bl) ((compE_out hh40).2 u34 hx) (fun _ hF => (by cases hF; exact dts_nil)) fun _ hF => (by obtain ⟨hh36, hF⟩ := gd_out hF (Ex.ok_ne _); obtain ⟨hh37, hF⟩ := gd_out hF (Ex.ok_ne _); cases hF; exact (dv_inE (f := dk_LS) (v := u34) (xs := r23.2.2.2) B35 en_LS en_LLS (dv_var (B35.nm (i := 7) rfl (vloc rfl)) rfl) (dv_var (B35.nm (i := 4) rfl (vcel rfl)) rfl) hh36 hh37))⟩⟩) (outs_E D.bl (compE_out hh40).1)) (.lst _)) ?_)
        exact ret_mk (enc := D.bl) (M := []) hF
      case hro41 =>
        rintro r44 _ rfl
        exact ret_mk (enc := D.bl) (M := []) hF
      case hxo41 =>
        rintro cls fs _ _ ⟨n, rfl, e2⟩
        exact kx_exc hF e2
theorem c_l_by_own {X : Cx} {kx : XD} {ρ : Ro} {M : Mem} {pos p : Pos} {e0 e1 e2 e3 : Expr} {book1 : TBook} {kept2 : List (Str × (List Str))} {mark3 : Str} {least4 : Int} {r : Bool} (T : TxtT X.K X.mg A X.base) (hr : Room 4 X.A) (hg : Gl X "_law_by_own") (h0 : DV X kx e0 ρ M ((dk_CBook A) book1)) (h1 : DV X kx e1 ρ M (.dK (kept2.map fun q => ek_S q.1) (kept2.map fun q => dk_LS q.2))) (h2 : DV X kx e2 ρ M (.str mark3)) (h3 : DV X kx e3 ρ M (.int least4)) (hF : F_l_by_own book1 kept2 mark3 least4 = .ok r) (he0 : starEach [e0, e1, e2, e3] X.env = (false, eval e0 X.env) :: starEach [e1, e2, e3] X.env := by rfl) (he1 : starEach [e1, e2, e3] X.env = (false, eval e1 X.env) :: starEach [e2, e3] X.env := by rfl) (he2 : starEach [e2, e3] X.env = (false, eval e2 X.env) :: starEach [e3] X.env := by rfl) (he3 : starEach [e3] X.env = (false, eval e3 X.env) :: starEach [] X.env := by rfl) (hpl : (backTo pos (starEach [e1, e2, e3] X.env)).any (·.1) = false := by rfl) : DV X kx (.Call (.Name "_law_by_own" p) [e0, e1, e2, e3] [] pos) ρ M (.bl r) :=
  dv_call (g_l_by_own T) hr hg (da_cons h0 (da_cons h1 (da_cons h2 (da_cons h3 da_nil he3) he2) he1) he0) (book1, kept2, mark3, least4) rfl (fun h => Ex.ok_ne r (hF.symm.trans h)) (fun d ⟨r', a1, a2⟩ => by cases hF.symm.trans a1; exact a2) (fun cls fs ⟨n, a1, _⟩ => by cases hF.symm.trans a1) (by decide) he0 hpl
theorem sc_law : FnScope ["_law_script", "_law_book_here", "_law_kept", "_law_one", "_law_k", "_law_number", "_law_marks", "_law_signs", "_law_name_here"] ["_law_script"] (defScope s_law) := fscope (by decide +kernel)
theorem g_law (T : TxtT K mg A base) {f : Addr} {fd : FuncData} (F : Fun K "law" "law" s_law f fd) : FnOk P w K mg base (L2.CX P w) 9 f fd ["_law_script"] (spE K mg (fun q : List Int => [.scr (q.map D.int)]) (fun q => F_law q) D.bl) := by
  refine fn_e F sc_law (fun _ => rfl) fun X e1 e2 e3 e4 e5 B Fz script1 out hF hne => ?_
  subst e1 e2 e3 e4 e5
  have v0 : Ns X 0 "_law_script" := B.ns rfl rfl
  have v1 : Ns X 1 "_law_book_here" := B.ns rfl rfl
  have v2 : Ns X 2 "_law_kept" := B.ns rfl rfl
  have v3 : Ns X 3 "_law_one" := B.ns rfl rfl
  have v4 : Ns X 4 "_law_k" := B.ns rfl rfl
  have v5 : Ns X 5 "_law_number" := B.ns rfl rfl
  have v6 : Ns X 6 "_law_marks" := B.ns rfl rfl
  have v7 : Ns X 7 "_law_signs" := B.ns rfl rfl
  have v8 : Ns X 8 "_law_name_here" := B.ns rfl rfl
  replace hF : F_law script1 = out := hF
  unfold F_law at hF
  change DS _ _ _ [some (.scr (script1.map D.int)), none, none, none, none, none, none, none, none] [] _
  obtain ⟨r2, hh3, hF⟩ := bindP_out hF hne
  refine ds_cons (ds1_unp (show DV _ _ _ _ _ (.tup [(dk_CBook A) r2.1, .dK (r2.2.map fun q => ek_S q.1) (r2.2.map fun q => dk_LS q.2)]) from (c_l_book T (B.room.mono (by decide)) (B.gl (x := "_law_book") rfl) (dv_var v0.toNm rfl) hh3)) (dg_tup B.calm (dgs_cons (dg_name v1) (dgs_cons (dg_name v2) dgs_nil))) ?_)
  change DS _ _ _ [some (.scr (script1.map D.int)), some ((dk_CBook A) r2.1), some (.dK (r2.2.map fun q => ek_S q.1) (r2.2.map fun q => dk_LS q.2)), none, none, none, none, none, none] [] _
  obtain ⟨r4, hh5, hF⟩ := bindP_out hF hne
  refine ds_cons (ds1_set v3 (c_l_cell_at T (B.room.mono (by decide)) (B.gl (x := "_law_cell_at") rfl) (dv_var v0.toNm rfl) dv_int hh5) ?_)
  change DS _ _ _ [some (.scr (script1.map D.int)), some ((dk_CBook A) r2.1), some (.dK (r2.2.map fun q => ek_S q.1) (r2.2.map fun q => dk_LS q.2)), some (.int r4), none, none, none, none, none] [] _
  obtain ⟨hh6, hF⟩ := gd_out hF hne
  obtain ⟨o49, hh50, hh51, hF⟩ := bindX_cut hF hne
  refine ds_cons (ds1_loopE (enc := D.int) (enr := D.bl) B (fun (z : Unit) => [some (.scr (script1.map D.int)), some ((dk_CBook A) r2.1), some (.dK (r2.2.map fun q => ek_S q.1) (r2.2.map fun q => dk_LS q.2)), some (.int r4), none, none, none, none, none]) (fun (z : Unit) => []) hh50 hh51 (di_range1 (B.bn (x := "range") rfl T.b_range bt_range) dv_int hh6.1 hh6.2) ⟨.inr rfl, .inr rfl, .inr rfl, .inr rfl, .inl rfl, .inl rfl, .inl rfl, .inl rfl, .inl rfl, trivial⟩ rfl ?hso49 ?hdo49 ?hro49 ?hxo49 then_fgt)
  case hso49 =>
    clear hF
    rintro ⟨⟩ x7 o8 _ hF hne
    refine ⟨_, _, (dg_name v4), ?_⟩
    change DS _ _ _ [some (.scr (script1.map D.int)), some ((dk_CBook A) r2.1), some (.dK (r2.2.map fun q => ek_S q.1) (r2.2.map fun q => dk_LS q.2)), some (.int r4), some (.int x7), none, none, none, none] [] _
    obtain ⟨r9, hh10, hF⟩ := bindP_out hF hne
    obtain ⟨r11, hh12, hF⟩ := bindP_out hF hne
    refine ds_cons (ds1_set v5 (c_l_mixed T (B.room.mono (by decide)) (B.gl (x := "_law_mixed") rfl) (c_l_cell_at T (B.room.mono (by decide)) (B.gl (x := "_law_cell_at") rfl) (dv_var v0.toNm rfl) dv_int hh10) (dv_var v4.toNm rfl) hh12) ?_)
    change DS _ _ _ [some (.scr (script1.map D.int)), some ((dk_CBook A) r2.1), some (.dK (r2.2.map fun q => ek_S q.1) (r2.2.map fun q => dk_LS q.2)), some (.int r4), some (.int x7), some (.int r11), none, none, none] [] _
    obtain ⟨r13, hh14, hF⟩ := bindP_out hF hne
    obtain ⟨r15, hh16, hF⟩ := bindP_out hF hne
    obtain ⟨marks17, hh18, hF⟩ := letE_out hF
    refine ds_cons (ds1_set v6 (dv_isE (enc := dk_LS) (dv_slM (g := D.str) (show DV _ _ _ _ _ (.lst ([r13, r15].map D.str)) from dv_lst (da_cons (c_l_mark T (B.room.mono (by decide)) (B.gl (x := "_law_mark") rfl) (dv_var v3.toNm rfl) (dv_mod (dv_var v5.toNm rfl) dv_int (by decide)) hh14) (da_cons (c_l_mark T (B.room.mono (by decide)) (B.gl (x := "_law_mark") rfl) (dv_var v3.toNm rfl) (dv_mod (dv_fdiv (dv_var v5.toNm rfl) dv_int (div_c (by decide) (by decide))) dv_int (by decide)) hh16) da_nil)) (szN 2 rfl)) (.lst _) do_none (do_some (dv_mod (dv_fdiv (dv_var v5.toNm rfl) dv_int (div_c (by decide) (by decide))) dv_int (by decide)))) hh18) ?_)
    change DS _ _ _ [some (.scr (script1.map D.int)), some ((dk_CBook A) r2.1), some (.dK (r2.2.map fun q => ek_S q.1) (r2.2.map fun q => dk_LS q.2)), some (.int r4), some (.int x7), some (.int r11), some (.lst (marks17.map D.str)), none, none] [] _
    obtain ⟨x19, hh20, hF⟩ := bindP_out hF hne
    obtain ⟨x21, hh22, hF⟩ := bindP_out hF hne
    obtain ⟨signs23, hh24, hF⟩ := letE_out hF
    refine ds_cons (ds1_set v7 (dv_isE (enc := dk_LS) (show DV _ _ _ _ _ (.lst ([x19, x21].map D.str)) from dv_lst (da_cons (dv_ixS (show DV _ _ _ _ _ (.lst ([("" : Str), ("" : Str), ("-" : Str)].map D.str)) from dv_lst (da_cons dv_str (da_cons dv_str (da_cons dv_str da_nil))) (szN 3 rfl)) (.lst _) (dv_mod (dv_fdiv (dv_var v5.toNm rfl) dv_int (div_c (by decide) (by decide))) dv_int (by decide)) (ixE_out hh20 D.str)) (da_cons (dv_ixS (show DV _ _ _ _ _ (.lst ([("" : Str), ("-" : Str)].map D.str)) from dv_lst (da_cons dv_str (da_cons dv_str da_nil)) (szN 2 rfl)) (.lst _) (dv_mod (dv_fdiv (dv_var v5.toNm rfl) dv_int (div_c (by decide) (by decide))) dv_int (by decide)) (ixE_out hh22 D.str)) da_nil)) (szN 2 rfl)) hh24) ?_)
    change DS _ _ _ [some (.scr (script1.map D.int)), some ((dk_CBook A) r2.1), some (.dK (r2.2.map fun q => ek_S q.1) (r2.2.map fun q => dk_LS q.2)), some (.int r4), some (.int x7), some (.int r11), some (.lst (marks17.map D.str)), some (.lst (signs23.map D.str)), none] [] _
    obtain ⟨r25, hh26, hF⟩ := bindP_out hF hne
    refine ds_cons (ds1_if (dt_not (dt_val (c_l_by_text T (B.room.mono (by decide)) (B.gl (x := "_law_by_text") rfl) (dv_var v1.toNm rfl) (dv_var v2.toNm rfl) (dv_var v6.toNm rfl) (dv_var v7.toNm rfl) hh26))) (fun hh27 => ?_) (fun hh27 => ?_))
    ·
      replace hF := ite_t hF hh27
      refine ds_cons (ds1_retV dv_bl ?_)
      exact loop_rt (R := fun _ => []) (Mf := fun _ => []) (enr := D.bl) (M := []) hF
    ·
      replace hF := ite_f hF hh27
      refine ds_nil ?_
      obtain ⟨r28, hh29, hF⟩ := bindP_out hF hne
      obtain ⟨r30, hh31, hF⟩ := bindP_out hF hne
      refine ds_cons (ds1_if (dt_not (dt_val (c_l_by_own T (B.room.mono (by decide)) (B.gl (x := "_law_by_own") rfl) (dv_var v1.toNm rfl) (dv_var v2.toNm rfl) (c_l_mark T (B.room.mono (by decide)) (B.gl (x := "_law_mark") rfl) (dv_var v3.toNm rfl) (dv_mod (dv_var v5.toNm rfl) dv_int (by decide)) hh29) (dv_mod (dv_fdiv (dv_var v5.toNm rfl) dv_int (div_c (by decide) (by decide))) dv_int (by decide)) hh31))) (fun hh32 => ?_) (fun hh32 => ?_))
      ·
        replace hF := ite_t hF hh32
        refine ds_cons (ds1_retV dv_bl ?_)
        exact loop_rt (R := fun _ => []) (Mf := fun _ => []) (enr := D.bl) (M := []) hF
      ·
        replace hF := ite_f hF hh32
        refine ds_nil ?_
        refine ds_nil ?_
        exact loop_nx (enr := D.bl) hF ⟨.inr rfl, .inr rfl, .inr rfl, .inr rfl, .inl rfl, .inl rfl, .inl rfl, .inl rfl, .inl rfl, trivial⟩ rfl
  case hdo49 =>
    rintro ⟨⟩ rfl
    replace hF := okE hF
    replace hF := nxE hF
    change DS _ _ _ [some (.scr (script1.map D.int)), some ((dk_CBook A) r2.1), some (.dK (r2.2.map fun q => ek_S q.1) (r2.2.map fun q => dk_LS q.2)), some (.int r4), none, none, none, none, none] [] _
    obtain ⟨o45, hh46, hh47, hF⟩ := bindX_cut hF hne
    refine ds_cons (ds1_loopE (enc := dk_T2SLS) (enr := D.bl) B (fun (z : Unit) => [some (.scr (script1.map D.int)), some ((dk_CBook A) r2.1), some (.dK (r2.2.map fun q => ek_S q.1) (r2.2.map fun q => dk_LS q.2)), some (.int r4), none, none, none, none, none]) (fun (z : Unit) => []) hh46 hh47 (di_itemsKF (eK := ek_S) (f := dk_LS) (enp := dk_T2SLS) (fun _ => rfl) r2.2 rfl (dv_var v2.toNm rfl)) ⟨.inr rfl, .inr rfl, .inr rfl, .inr rfl, .inl rfl, .inl rfl, .inl rfl, .inl rfl, .inl rfl, trivial⟩ rfl ?hso45 ?hdo45 ?hro45 ?hxo45 then_fgt)
    case hso45 =>
      clear hF
      rintro ⟨⟩ x33 o34 _ hF hne
      refine ⟨_, _, (dg_tup B.calm (dgs_cons (dg_name v8) (dgs_cons (dg_name v6) dgs_nil))), ?_⟩
      change DS _ _ _ [some (.scr (script1.map D.int)), some ((dk_CBook A) r2.1), some (.dK (r2.2.map fun q => ek_S q.1) (r2.2.map fun q => dk_LS q.2)), some (.int r4), none, none, some (.lst (x33.2.map D.str)), none, some (.str x33.1)] [] _
      obtain ⟨r35, hh36, hF⟩ := bindP_out hF hne
      obtain ⟨hh37, hF⟩ := gd_out hF hne
      obtain ⟨hh38, hF⟩ := gd_out hF hne
      refine ds_cons (ds1_if (dt_neD B.hu (c_Book_marks T (B.room.mono (by decide)) (dv_var v1.toNm rfl) (dv_var v8.toNm rfl) hh36) (dv_var v6.toNm rfl) (en_LS.eqs r35 x33.2 hh37 hh38)) (fun hh39 => ?_) (fun hh39 => ?_))
      ·
        replace hF := ite_t hF hh39
        refine ds_cons (ds1_retV dv_bl ?_)
        exact loop_rt (R := fun _ => []) (Mf := fun _ => []) (enr := D.bl) (M := []) hF
      ·
        replace hF := ite_f hF hh39
        refine ds_nil ?_
        refine ds_nil ?_
        exact loop_nx (enr := D.bl) hF ⟨.inr rfl, .inr rfl, .inr rfl, .inr rfl, .inl rfl, .inl rfl, .inl rfl, .inl rfl, .inl rfl, trivial⟩ rfl
    case hdo45 =>
      rintro ⟨⟩ rfl
      replace hF := okE hF
      replace hF := nxE hF
      change DS _ _ _ [some (.scr (script1.map D.int)), some ((dk_CBook A) r2.1), some (.dK (r2.2.map fun q => ek_S q.1) (r2.2.map fun q => dk_LS q.2)), some (.int r4), none, none, none, none, none] [] _
      obtain ⟨r40, hh41, hF⟩ := bindP_out hF hne
      obtain ⟨hh42, hF⟩ := gd_out hF hne
      obtain ⟨hh43, hF⟩ := gd_out hF hne
      obtain ⟨hh44, hF⟩ := gd_out hF hne
      refine ds_cons (ds1_retV (dv_eqD B.hu (c_Book_names T (B.room.mono (by decide)) (dv_var v1.toNm rfl) hh41) (dv_sortedDK (f := dk_LS) B.calm (B.bn (x := "sorted") rfl T.b_sorted bt_sorted) (dv_var v2.toNm rfl) hh42) (en_LS.eqs r40 (sortS (r2.2.map Prod.fst)) hh43 hh44)) ?_)
      exact ret_mk (enc := D.bl) (M := []) hF
    case hro45 =>
      rintro r48 _ rfl
      exact ret_mk (enc := D.bl) (M := []) hF
    case hxo45 =>
      rintro cls fs _ _ ⟨n, rfl, e2⟩
      exact kx_exc hF e2
  case hro49 =>
    rintro r52 _ rfl
    exact ret_mk (enc := D.bl) (M := []) hF
  case hxo49 =>
    rintro cls fs _ _ ⟨n, rfl, e2⟩
    exact kx_exc hF e2
end
end Lw
namespace Lw
open PySem PySem.Spec PyProof.Rows L2 Dl
/-! ### the head: one run of the top -/
def hd_l_cell_at : He.DefD := ⟨("_law_cell_at", none), "_law_cell_at", "_law_cell_at", defArgs s_l_cell_at, defBody s_l_cell_at, defScope s_l_cell_at, [], []⟩
def hd_Rule_init : He.DefD := ⟨("Rule", some "__init__"), "__init__", "Rule.__init__", defArgs s_Rule_init, defBody s_Rule_init, defScope s_Rule_init, [.non], []⟩
def hd_Rule_steps : He.DefD := ⟨("Rule", some "steps"), "steps", "Rule.steps", defArgs s_Rule_steps, defBody s_Rule_steps, defScope s_Rule_steps, [], []⟩
def hd_cut_at : He.DefD := ⟨("cut_at", none), "cut_at", "cut_at", defArgs s_cut_at, defBody s_cut_at, defScope s_cut_at, [], []⟩
def hd_Rule_gone : He.DefD := ⟨("Rule", some "gone"), "gone", "Rule.gone", defArgs s_Rule_gone, defBody s_Rule_gone, defScope s_Rule_gone, [], []⟩
def hd_edges_at : He.DefD := ⟨("edges_at", none), "edges_at", "edges_at", defArgs s_edges_at, defBody s_edges_at, defScope s_edges_at, [], []⟩
def hd_Book_init : He.DefD := ⟨("Book", some "__init__"), "__init__", "Book.__init__", defArgs s_Book_init, defBody s_Book_init, defScope s_Book_init, [], []⟩
def hd_l_mixed : He.DefD := ⟨("_law_mixed", none), "_law_mixed", "_law_mixed", defArgs s_l_mixed, defBody s_l_mixed, defScope s_l_mixed, [], []⟩
def hd_l_name : He.DefD := ⟨("_law_name", none), "_law_name", "_law_name", defArgs s_l_name, defBody s_l_name, defScope s_l_name, [], []⟩
def hd_l_mark : He.DefD := ⟨("_law_mark", none), "_law_mark", "_law_mark", defArgs s_l_mark, defBody s_l_mark, defScope s_l_mark, [], []⟩
def hd_is_word : He.DefD := ⟨("is_word", none), "is_word", "is_word", defArgs s_is_word, defBody s_is_word, defScope s_is_word, [], []⟩
def hd_is_name : He.DefD := ⟨("is_name", none), "is_name", "is_name", defArgs s_is_name, defBody s_is_name, defScope s_is_name, [], []⟩
def hd_Book_adopt : He.DefD := ⟨("Book", some "adopt"), "adopt", "Book.adopt", defArgs s_Book_adopt, defBody s_Book_adopt, defScope s_Book_adopt, [], []⟩
def hd_is_mark : He.DefD := ⟨("is_mark", none), "is_mark", "is_mark", defArgs s_is_mark, defBody s_is_mark, defScope s_is_mark, [], []⟩
def hd_marks_looked_at : He.DefD := ⟨("marks_looked_at", none), "marks_looked_at", "marks_looked_at", defArgs s_marks_looked_at, defBody s_marks_looked_at, defScope s_marks_looked_at, [], []⟩
def hd_Roll_init : He.DefD := ⟨("Roll", some "__init__"), "__init__", "Roll.__init__", defArgs s_Roll_init, defBody s_Roll_init, defScope s_Roll_init, [], []⟩
def hd_greater : He.DefD := ⟨("greater", none), "greater", "greater", defArgs s_greater, defBody s_greater, defScope s_greater, [], []⟩
def hd_Roll_lift : He.DefD := ⟨("Roll", some "lift"), "lift", "Roll.lift", defArgs s_Roll_lift, defBody s_Roll_lift, defScope s_Roll_lift, [], []⟩
def hd_cell_at : He.DefD := ⟨("cell_at", none), "cell_at", "cell_at", defArgs s_cell_at, defBody s_cell_at, defScope s_cell_at, [], []⟩
def hd_Roll_cell_of : He.DefD := ⟨("Roll", some "cell_of"), "cell_of", "Roll.cell_of", defArgs s_Roll_cell_of, defBody s_Roll_cell_of, defScope s_Roll_cell_of, [], []⟩
def hd_poured : He.DefD := ⟨("poured", none), "poured", "poured", defArgs s_poured, defBody s_poured, defScope s_poured, [], []⟩
def hd_heap_of : He.DefD := ⟨("heap_of", none), "heap_of", "heap_of", defArgs s_heap_of, defBody s_heap_of, defScope s_heap_of, [], []⟩
def hd_Roll_pour : He.DefD := ⟨("Roll", some "pour"), "pour", "Roll.pour", defArgs s_Roll_pour, defBody s_Roll_pour, defScope s_Roll_pour, [], []⟩
def hd_Roll_put : He.DefD := ⟨("Roll", some "put"), "put", "Roll.put", defArgs s_Roll_put, defBody s_Roll_put, defScope s_Roll_put, [.int 1], []⟩
def hd_roll_of : He.DefD := ⟨("roll_of", none), "roll_of", "roll_of", defArgs s_roll_of, defBody s_roll_of, defScope s_roll_of, [], []⟩
def hd_Book_bare : He.DefD := ⟨("Book", some "bare"), "bare", "Book.bare", defArgs s_Book_bare, defBody s_Book_bare, defScope s_Book_bare, [], []⟩
def hd_Book_enrol : He.DefD := ⟨("Book", some "enrol"), "enrol", "Book.enrol", defArgs s_Book_enrol, defBody s_Book_enrol, defScope s_Book_enrol, [.non], []⟩
def hd_l_book : He.DefD := ⟨("_law_book", none), "_law_book", "_law_book", defArgs s_l_book, defBody s_l_book, defScope s_l_book, [], []⟩
def hd_sieve : He.DefD := ⟨("sieve", none), "sieve", "sieve", defArgs s_sieve, defBody s_sieve, defScope s_sieve, [], []⟩
def hd_Book_names : He.DefD := ⟨("Book", some "names"), "names", "Book.names", defArgs s_Book_names, defBody s_Book_names, defScope s_Book_names, [], []⟩
def hd_Book_sought : He.DefD := ⟨("Book", some "sought"), "sought", "Book.sought", defArgs s_Book_sought, defBody s_Book_sought, defScope s_Book_sought, [], []⟩
def hd_Book_marks : He.DefD := ⟨("Book", some "marks"), "marks", "Book.marks", defArgs s_Book_marks, defBody s_Book_marks, defScope s_Book_marks, [], []⟩
def hd_Book_chosen : He.DefD := ⟨("Book", some "chosen"), "chosen", "Book.chosen", defArgs s_Book_chosen, defBody s_Book_chosen, defScope s_Book_chosen, [], []⟩
def hd_l_by_text : He.DefD := ⟨("_law_by_text", none), "_law_by_text", "_law_by_text", defArgs s_l_by_text, defBody s_l_by_text, defScope s_l_by_text, [], []⟩
def hd_l_own : He.DefD := ⟨("_law_own", none), "_law_own", "_law_own", defArgs s_l_own, defBody s_l_own, defScope s_l_own, [], []⟩
def hd_l_by_own : He.DefD := ⟨("_law_by_own", none), "_law_by_own", "_law_by_own", defArgs s_l_by_own, defBody s_l_by_own, defScope s_l_by_own, [], []⟩
def hd_law : He.DefD := ⟨("law", none), "law", "law", defArgs s_law, defBody s_law, defScope s_law, [], []⟩
def hfn_0 : List He.DefD := [hd_l_cell_at, hd_Rule_init, hd_Rule_steps, hd_cut_at, hd_Rule_gone, hd_edges_at, hd_Book_init, hd_l_mixed, hd_l_name, hd_l_mark, hd_is_word, hd_is_name, hd_Book_adopt, hd_is_mark, hd_marks_looked_at, hd_Roll_init, hd_greater, hd_Roll_lift, hd_cell_at, hd_Roll_cell_of]
def hfn_1 : List He.DefD := [hd_poured, hd_heap_of, hd_Roll_pour, hd_Roll_put, hd_roll_of, hd_Book_bare, hd_Book_enrol, hd_l_book, hd_sieve, hd_Book_names, hd_Book_sought, hd_Book_marks, hd_Book_chosen, hd_l_by_text, hd_l_own, hd_l_by_own, hd_law]
def hfn : List He.DefD := hfn_0 ++ (hfn_1)
def hck_0 : List Dl.Chk := [Dl.extB "NoRule", Dl.extB "NoName", Dl.extB "NoMark", Dl.extB "NoNumber", Dl.clsB "Rule" ["row", "end"], Dl.clsB "Book" ["ruling", "today", "limits", "rolls", "signs"], Dl.clsB "Roll" ["ruling", "today", "limits", "whole", "heaped"], Dl.gloB "_law_cell_at", Dl.metB "Rule" "__init__" ("Rule", some "__init__"), Dl.metB "Rule" "steps" ("Rule", some "steps"), Dl.gloB "cut_at", Dl.metB "Rule" "gone" ("Rule", some "gone"), Dl.gloB "edges_at", Dl.metB "Book" "__init__" ("Book", some "__init__"), Dl.gloB "_law_mixed", Dl.gloB "_law_name", Dl.gloB "_law_mark", Dl.gloB "is_word", Dl.gloB "is_name", Dl.metB "Book" "adopt" ("Book", some "adopt")]
def hck_1 : List Dl.Chk := [Dl.gloB "is_mark", Dl.gloB "marks_looked_at", Dl.metB "Roll" "__init__" ("Roll", some "__init__"), Dl.gloB "greater", Dl.metB "Roll" "lift" ("Roll", some "lift"), Dl.gloB "cell_at", Dl.metB "Roll" "cell_of" ("Roll", some "cell_of"), Dl.gloB "poured", Dl.gloB "heap_of", Dl.metB "Roll" "pour" ("Roll", some "pour"), Dl.metB "Roll" "put" ("Roll", some "put"), Dl.gloB "roll_of", Dl.metB "Book" "bare" ("Book", some "bare"), Dl.metB "Book" "enrol" ("Book", some "enrol"), Dl.gloB "_law_book", Dl.gloB "sieve", Dl.tabB "sieve" 252, Dl.metB "Book" "names" ("Book", some "names"), Dl.metB "Book" "sought" ("Book", some "sought"), Dl.metB "Book" "marks" ("Book", some "marks")]
def hck_2 : List Dl.Chk := [Dl.metB "Book" "chosen" ("Book", some "chosen"), Dl.gloB "_law_by_text", Dl.gloB "_law_own", Dl.tabB "_law_own" 480, Dl.gloB "_law_by_own", Dl.freB "len", Dl.freB "list", Dl.freB "range", Dl.freB "sorted", Dl.freB "isinstance", Dl.freB "str", Dl.freB "all", Dl.freB "zip", Dl.freB "min", Dl.freB "max", Dl.intB "MOST_STEPS" (5), Dl.intB "MOST_OF_NAME" (12), Dl.strB "SMALL" "abcdefghijklmnopqrstuvwxyz", Dl.intB "MOST_MARKS" (8), Dl.intB "MOST_OF_MARK" (8)]
def hck_3 : List Dl.Chk := [Dl.gloB "law"]
def hck : List Dl.Chk := hck_0 ++ (hck_1 ++ (hck_2 ++ (hck_3)))
def hcl_0 : List Str := ["BookError", "NoNumber", "NoRule", "NoName", "NoMark", "Roll", "Book", "Rule"]
def hcl : List Str := hcl_0
def hnm_0 : List Str := ["_wall", "BookError", "NoNumber", "NoRule", "NoName", "NoMark", "cut_at", "edges_at", "greater", "cell_at", "poured", "heap_of", "Roll", "take_in", "same_rule", "both", "roll_of", "SMALL", "MOST_OF_NAME", "MOST_OF_MARK"]
def hnm_1 : List Str := ["is_word", "is_name", "is_mark", "sieve", "MOST_MARKS", "marks_looked_at", "Book", "MOST_STEPS", "Rule", "_law_cell_at", "_law_mixed", "_law_name", "_law_mark", "_law_book", "_law_own", "_law_by_text", "_law_by_own"]
def hnm : List Str := hnm_0 ++ (hnm_1)
def hts : List Addr := [252, 480]
abbrev hR : PySem.W.OpenRow := PySem.W.OpenLaw.row PySem.Challenge.rw_thinbook_k64_names_chosen
abbrev hk : PySem.W.Hook := Dl.hookT hcl hck hfn hts
def hob (s : PySem.W.SharedT) : He.AlD × Bool := Dl.obsHT hcl hck hfn hts (HandSHeadRun.getT s)
theorem hob_eq (s : PySem.W.SharedT) : hob s = hk.obs s.abs := Dl.obsHT_eq (HandSHeadRun.getT_eq s)
theorem hrun (w : World) : HandSHeadRun.RunEq hR (PySem.W.view hR.prog [46]) hk hob 30000 hnm w := by
  intro os
  kernel_rfl
def hA (K : Frag) : Adr := { none_ := 0, a_NoRule := He.ga K "NoRule", a_NoName := He.ga K "NoName", a_NoMark := He.ga K "NoMark", a_NoNumber := He.ga K "NoNumber", c_Rule := He.ga K "Rule", c_Book := He.ga K "Book", c_Roll := He.ga K "Roll" }
theorem htxt {K : Frag} {mg : Str → Option Value} {h : Heap} (KX : K.In h) (G : h.Ns mainGlobals mg) (c : Dl.SaysH hck hfn K) : Txt K mg (hA K) where
  x_NoRule := Dl.extB_ok KX G (c.fact 0 (f := Dl.extB "NoRule"))
  x_NoName := Dl.extB_ok KX G (c.fact 1 (f := Dl.extB "NoName"))
  x_NoMark := Dl.extB_ok KX G (c.fact 2 (f := Dl.extB "NoMark"))
  x_NoNumber := Dl.extB_ok KX G (c.fact 3 (f := Dl.extB "NoNumber"))
  cl_Rule := Dl.clsB_ok KX G (c.fact 4 (f := Dl.clsB "Rule" ["row", "end"]))
  cl_Book := Dl.clsB_ok KX G (c.fact 5 (f := Dl.clsB "Book" ["ruling", "today", "limits", "rolls", "signs"]))
  cl_Roll := Dl.clsB_ok KX G (c.fact 6 (f := Dl.clsB "Roll" ["ruling", "today", "limits", "whole", "heaped"]))
  f_l_cell_at := Dl.funT_of (st := s_l_cell_at) KX G (c.def_ 0 (d := hd_l_cell_at)) (c.fact 7 (f := Dl.gloB "_law_cell_at")) (fun _ _ _ _ _ _ us hl => match us, hl with | [_, _], _ => rfl)
  m_Rule_init := Dl.methT_of1 (C := "Rule") (p := ("Rule", some "__init__")) (st := s_Rule_init) (c.def_ 1 (d := hd_Rule_init)) (c.fact 8 (f := Dl.metB "Rule" "__init__" ("Rule", some "__init__"))) (by simp) (by decide) (by
      intro j hj T kV doc pm an cdv ct us its hl hi
      have hj2 : j = 0 ∨ j = 1 := by have : j ≤ 1 := hj; omega
      rcases hj2 with rfl | rfl
      · (obtain ⟨u0, u1, rfl⟩ := Dl.len2 hl; obtain ⟨i0, rfl⟩ := Dl.len1 hi; exact ⟨_, rfl, rfl⟩)
      · (obtain ⟨u0, u1, u2, rfl⟩ := Dl.len3 hl; obtain ⟨i0, rfl⟩ := Dl.len1 hi; exact ⟨_, rfl, rfl⟩))
  m_Rule_steps := Dl.methT_of0 (C := "Rule") (x := "") (p := ("Rule", some "steps")) (st := s_Rule_steps) (c.def_ 2 (d := hd_Rule_steps)) (c.fact 9 (f := Dl.metB "Rule" "steps" ("Rule", some "steps"))) (fun _ _ _ _ _ _ us hl => match us, hl with | [_], _ => rfl)
  f_cut_at := Dl.funT_of (st := s_cut_at) KX G (c.def_ 3 (d := hd_cut_at)) (c.fact 10 (f := Dl.gloB "cut_at")) (fun _ _ _ _ _ _ us hl => match us, hl with | [_, _, _], _ => rfl)
  m_Rule_gone := Dl.methT_of0 (C := "Rule") (x := "") (p := ("Rule", some "gone")) (st := s_Rule_gone) (c.def_ 4 (d := hd_Rule_gone)) (c.fact 11 (f := Dl.metB "Rule" "gone" ("Rule", some "gone"))) (fun _ _ _ _ _ _ us hl => match us, hl with | [_], _ => rfl)
  f_edges_at := Dl.funT_of (st := s_edges_at) KX G (c.def_ 5 (d := hd_edges_at)) (c.fact 12 (f := Dl.gloB "edges_at")) (fun _ _ _ _ _ _ us hl => match us, hl with | [_, _], _ => rfl)
  m_Book_init := Dl.methT_of0 (C := "Book") (x := "") (p := ("Book", some "__init__")) (st := s_Book_init) (c.def_ 6 (d := hd_Book_init)) (c.fact 13 (f := Dl.metB "Book" "__init__" ("Book", some "__init__"))) (fun _ _ _ _ _ _ us hl => match us, hl with | [_, _, _], _ => rfl)
  f_l_mixed := Dl.funT_of (st := s_l_mixed) KX G (c.def_ 7 (d := hd_l_mixed)) (c.fact 14 (f := Dl.gloB "_law_mixed")) (fun _ _ _ _ _ _ us hl => match us, hl with | [_, _], _ => rfl)
  f_l_name := Dl.funT_of (st := s_l_name) KX G (c.def_ 8 (d := hd_l_name)) (c.fact 15 (f := Dl.gloB "_law_name")) (fun _ _ _ _ _ _ us hl => match us, hl with | [_, _], _ => rfl)
  f_l_mark := Dl.funT_of (st := s_l_mark) KX G (c.def_ 9 (d := hd_l_mark)) (c.fact 16 (f := Dl.gloB "_law_mark")) (fun _ _ _ _ _ _ us hl => match us, hl with | [_, _], _ => rfl)
  f_is_word := Dl.funT_of (st := s_is_word) KX G (c.def_ 10 (d := hd_is_word)) (c.fact 17 (f := Dl.gloB "is_word")) (fun _ _ _ _ _ _ us hl => match us, hl with | [_, _], _ => rfl)
  f_is_name := Dl.funT_of (st := s_is_name) KX G (c.def_ 11 (d := hd_is_name)) (c.fact 18 (f := Dl.gloB "is_name")) (fun _ _ _ _ _ _ us hl => match us, hl with | [_], _ => rfl)
  m_Book_adopt := Dl.methT_of0 (C := "Book") (x := "") (p := ("Book", some "adopt")) (st := s_Book_adopt) (c.def_ 12 (d := hd_Book_adopt)) (c.fact 19 (f := Dl.metB "Book" "adopt" ("Book", some "adopt"))) (fun _ _ _ _ _ _ us hl => match us, hl with | [_, _, _, _], _ => rfl)
  f_is_mark := Dl.funT_of (st := s_is_mark) KX G (c.def_ 13 (d := hd_is_mark)) (c.fact 20 (f := Dl.gloB "is_mark")) (fun _ _ _ _ _ _ us hl => match us, hl with | [_], _ => rfl)
  f_marks_looked_at := Dl.funT_of (st := s_marks_looked_at) KX G (c.def_ 14 (d := hd_marks_looked_at)) (c.fact 21 (f := Dl.gloB "marks_looked_at")) (fun _ _ _ _ _ _ us hl => match us, hl with | [_], _ => rfl)
  m_Roll_init := Dl.methT_of0 (C := "Roll") (x := "") (p := ("Roll", some "__init__")) (st := s_Roll_init) (c.def_ 15 (d := hd_Roll_init)) (c.fact 22 (f := Dl.metB "Roll" "__init__" ("Roll", some "__init__"))) (fun _ _ _ _ _ _ us hl => match us, hl with | [_, _, _], _ => rfl)
  f_greater := Dl.funT_of (st := s_greater) KX G (c.def_ 16 (d := hd_greater)) (c.fact 23 (f := Dl.gloB "greater")) (fun _ _ _ _ _ _ us hl => match us, hl with | [_, _], _ => rfl)
  m_Roll_lift := Dl.methT_of0 (C := "Roll") (x := "") (p := ("Roll", some "lift")) (st := s_Roll_lift) (c.def_ 17 (d := hd_Roll_lift)) (c.fact 24 (f := Dl.metB "Roll" "lift" ("Roll", some "lift"))) (fun _ _ _ _ _ _ us hl => match us, hl with | [_, _], _ => rfl)
  f_cell_at := Dl.funT_of (st := s_cell_at) KX G (c.def_ 18 (d := hd_cell_at)) (c.fact 25 (f := Dl.gloB "cell_at")) (fun _ _ _ _ _ _ us hl => match us, hl with | [_, _, _], _ => rfl)
  m_Roll_cell_of := Dl.methT_of0 (C := "Roll") (x := "") (p := ("Roll", some "cell_of")) (st := s_Roll_cell_of) (c.def_ 19 (d := hd_Roll_cell_of)) (c.fact 26 (f := Dl.metB "Roll" "cell_of" ("Roll", some "cell_of"))) (fun _ _ _ _ _ _ us hl => match us, hl with | [_, _], _ => rfl)
  f_poured := Dl.funT_of (st := s_poured) KX G (c.def_ 20 (d := hd_poured)) (c.fact 27 (f := Dl.gloB "poured")) (fun _ _ _ _ _ _ us hl => match us, hl with | [_, _], _ => rfl)
  f_heap_of := Dl.funT_of (st := s_heap_of) KX G (c.def_ 21 (d := hd_heap_of)) (c.fact 28 (f := Dl.gloB "heap_of")) (fun _ _ _ _ _ _ us hl => match us, hl with | [_], _ => rfl)
  m_Roll_pour := Dl.methT_of0 (C := "Roll") (x := "") (p := ("Roll", some "pour")) (st := s_Roll_pour) (c.def_ 22 (d := hd_Roll_pour)) (c.fact 29 (f := Dl.metB "Roll" "pour" ("Roll", some "pour"))) (fun _ _ _ _ _ _ us hl => match us, hl with | [_, _, _], _ => rfl)
  m_Roll_put := Dl.methT_of1 (C := "Roll") (p := ("Roll", some "put")) (st := s_Roll_put) (c.def_ 23 (d := hd_Roll_put)) (c.fact 30 (f := Dl.metB "Roll" "put" ("Roll", some "put"))) (by simp) (by decide) (by
      intro j hj T kV doc pm an cdv ct us its hl hi
      have hj2 : j = 0 ∨ j = 1 := by have : j ≤ 1 := hj; omega
      rcases hj2 with rfl | rfl
      · (obtain ⟨u0, u1, u2, rfl⟩ := Dl.len3 hl; obtain ⟨i0, rfl⟩ := Dl.len1 hi; exact ⟨_, rfl, rfl⟩)
      · (obtain ⟨u0, u1, u2, u3, rfl⟩ := Dl.len4 hl; obtain ⟨i0, rfl⟩ := Dl.len1 hi; exact ⟨_, rfl, rfl⟩))
  f_roll_of := Dl.funT_of (st := s_roll_of) KX G (c.def_ 24 (d := hd_roll_of)) (c.fact 31 (f := Dl.gloB "roll_of")) (fun _ _ _ _ _ _ us hl => match us, hl with | [_, _, _, _], _ => rfl)
  m_Book_bare := Dl.methT_of0 (C := "Book") (x := "") (p := ("Book", some "bare")) (st := s_Book_bare) (c.def_ 25 (d := hd_Book_bare)) (c.fact 32 (f := Dl.metB "Book" "bare" ("Book", some "bare"))) (fun _ _ _ _ _ _ us hl => match us, hl with | [_], _ => rfl)
  m_Book_enrol := Dl.methT_of1 (C := "Book") (p := ("Book", some "enrol")) (st := s_Book_enrol) (c.def_ 26 (d := hd_Book_enrol)) (c.fact 33 (f := Dl.metB "Book" "enrol" ("Book", some "enrol"))) (by simp) (by decide) (by
      intro j hj T kV doc pm an cdv ct us its hl hi
      have hj2 : j = 0 ∨ j = 1 := by have : j ≤ 1 := hj; omega
      rcases hj2 with rfl | rfl
      · (obtain ⟨u0, u1, rfl⟩ := Dl.len2 hl; obtain ⟨i0, rfl⟩ := Dl.len1 hi; exact ⟨_, rfl, rfl⟩)
      · (obtain ⟨u0, u1, u2, rfl⟩ := Dl.len3 hl; obtain ⟨i0, rfl⟩ := Dl.len1 hi; exact ⟨_, rfl, rfl⟩))
  f_l_book := Dl.funT_of (st := s_l_book) KX G (c.def_ 27 (d := hd_l_book)) (c.fact 34 (f := Dl.gloB "_law_book")) (fun _ _ _ _ _ _ us hl => match us, hl with | [_], _ => rfl)
  ct_sieve := fun f hf => by
    have e := hf.symm.trans (Dl.gloB_ok KX G (c.fact 35 (f := Dl.gloB "sieve")))
    cases e
    exact (c.fact 36 (f := Dl.tabB "sieve" 252))
  f_sieve := Dl.funT_of (st := s_sieve) KX G (c.def_ 28 (d := hd_sieve)) (c.fact 35 (f := Dl.gloB "sieve")) (fun _ _ _ _ _ _ us hl => match us, hl with | [_], _ => rfl)
  m_Book_names := Dl.methT_of0 (C := "Book") (x := "") (p := ("Book", some "names")) (st := s_Book_names) (c.def_ 29 (d := hd_Book_names)) (c.fact 37 (f := Dl.metB "Book" "names" ("Book", some "names"))) (fun _ _ _ _ _ _ us hl => match us, hl with | [_], _ => rfl)
  m_Book_sought := Dl.methT_of0 (C := "Book") (x := "") (p := ("Book", some "sought")) (st := s_Book_sought) (c.def_ 30 (d := hd_Book_sought)) (c.fact 38 (f := Dl.metB "Book" "sought" ("Book", some "sought"))) (fun _ _ _ _ _ _ us hl => match us, hl with | [_, _], _ => rfl)
  m_Book_marks := Dl.methT_of0 (C := "Book") (x := "") (p := ("Book", some "marks")) (st := s_Book_marks) (c.def_ 31 (d := hd_Book_marks)) (c.fact 39 (f := Dl.metB "Book" "marks" ("Book", some "marks"))) (fun _ _ _ _ _ _ us hl => match us, hl with | [_, _], _ => rfl)
  m_Book_chosen := Dl.methT_of0 (C := "Book") (x := "") (p := ("Book", some "chosen")) (st := s_Book_chosen) (c.def_ 32 (d := hd_Book_chosen)) (c.fact 40 (f := Dl.metB "Book" "chosen" ("Book", some "chosen"))) (fun _ _ _ _ _ _ us hl => match us, hl with | [_, _], _ => rfl)
  f_l_by_text := Dl.funT_of (st := s_l_by_text) KX G (c.def_ 33 (d := hd_l_by_text)) (c.fact 41 (f := Dl.gloB "_law_by_text")) (fun _ _ _ _ _ _ us hl => match us, hl with | [_, _, _, _], _ => rfl)
  ct_l_own := fun f hf => by
    have e := hf.symm.trans (Dl.gloB_ok KX G (c.fact 42 (f := Dl.gloB "_law_own")))
    cases e
    exact (c.fact 43 (f := Dl.tabB "_law_own" 480))
  f_l_own := Dl.funT_of (st := s_l_own) KX G (c.def_ 34 (d := hd_l_own)) (c.fact 42 (f := Dl.gloB "_law_own")) (fun _ _ _ _ _ _ us hl => match us, hl with | [_, _, _], _ => rfl)
  f_l_by_own := Dl.funT_of (st := s_l_by_own) KX G (c.def_ 35 (d := hd_l_by_own)) (c.fact 44 (f := Dl.gloB "_law_by_own")) (fun _ _ _ _ _ _ us hl => match us, hl with | [_, _, _, _], _ => rfl)
  b_len := Dl.freB_ok KX G (c.fact 45 (f := Dl.freB "len"))
  b_list := Dl.freB_ok KX G (c.fact 46 (f := Dl.freB "list"))
  b_range := Dl.freB_ok KX G (c.fact 47 (f := Dl.freB "range"))
  b_sorted := Dl.freB_ok KX G (c.fact 48 (f := Dl.freB "sorted"))
  b_isinstance := Dl.freB_ok KX G (c.fact 49 (f := Dl.freB "isinstance"))
  b_str := Dl.freB_ok KX G (c.fact 50 (f := Dl.freB "str"))
  b_all := Dl.freB_ok KX G (c.fact 51 (f := Dl.freB "all"))
  b_zip := Dl.freB_ok KX G (c.fact 52 (f := Dl.freB "zip"))
  b_min := Dl.freB_ok KX G (c.fact 53 (f := Dl.freB "min"))
  b_max := Dl.freB_ok KX G (c.fact 54 (f := Dl.freB "max"))
  k_MOST_STEPS := Dl.intB_ok KX G (c.fact 55 (f := Dl.intB "MOST_STEPS" (5)))
  k_MOST_OF_NAME := Dl.intB_ok KX G (c.fact 56 (f := Dl.intB "MOST_OF_NAME" (12)))
  k_SMALL := Dl.strB_ok KX G (c.fact 57 (f := Dl.strB "SMALL" "abcdefghijklmnopqrstuvwxyz"))
  k_MOST_MARKS := Dl.intB_ok KX G (c.fact 58 (f := Dl.intB "MOST_MARKS" (8)))
  k_MOST_OF_MARK := Dl.intB_ok KX G (c.fact 59 (f := Dl.intB "MOST_OF_MARK" (8)))
theorem hfin {P : Program} {w : World} {K : Frag} {mg : Str → Option Value} {h : Heap} {fa : Addr} (X : K.In h) (G : h.Ns mainGlobals mg) (c : Dl.SaysH hck hfn K) (hfa : mg "law" = some (.ref fa)) :
    ∃ fd : FuncData, (∀ (s : Shared) (u : Value), BindsTo s fd ⟨[u], []⟩ [("_law_script", u)]) ∧ ∀ base : Heap, K.In base → base.Ns mainGlobals mg → TabsB K base mg → FnOk P w K mg base (L2.CX P w) 9 fa fd ["_law_script"] (spLaw K) := by
  have T0 := htxt X G c
  obtain ⟨fd, F⟩ := (show ∃ fd, FunD K "law" "law" (defArgs s_law) (defBody s_law) (defScope s_law) [] [] (He.ga K "law") fd from c.def_ 36 (d := hd_law))
  have e := hfa.symm.trans (Dl.gloB_ok X G (c.fact 60 (f := Dl.gloB "law")))
  cases e
  have b := FunD.bindsA (ps := ["_law_script"]) F fun _ _ _ _ _ _ us hl => match us, hl with | [_], _ => rfl
  refine ⟨fd, fun s v => b s [v] rfl, fun base _ _ TB => fnok_imp (g_law ⟨T0, TB⟩ (Dl.fun_of F)) fun vs H Q E ⟨q, H0, b1, b2, b3, b4, b5⟩ => ⟨q, H0, b1, b2, fun z => Ex.ok_ne true ((law_ok q b3).symm.trans z), fun v H' H0' d c1 c2 ⟨r, c3, c4⟩ => b4 v H' H0' d c1 c2 (by cases (law_ok q b3).symm.trans c3; exact c4), fun cls dd H' H0' fs c1 c2 ⟨n, c3, _⟩ => (by cases (law_ok q b3).symm.trans c3)⟩⟩
end Lw
open PySem PySem.W PyProof.Rows
set_option maxRecDepth 100000 in
set_option maxHeartbeats 0 in
theorem PySem.Challenge.cw_thinbook_k64_names_chosen_holds : PySem.Challenge.rw_thinbook_k64_names_chosen.Holds := by
  w_on; o_law
  refine HandSHeadRun.head_any (r := OpenLaw.row PySem.Challenge.rw_thinbook_k64_names_chosen) (q := view (OpenLaw.row PySem.Challenge.rw_thinbook_k64_names_chosen).prog [46]) (H := Lw.hk) (ob := Lw.hob) (M := 30000) (loose := Lw.hnm) (d := HandSHeadRun.topDef (OpenLaw.row PySem.Challenge.rw_thinbook_k64_names_chosen).prog 46) (kwd := []) Lw.hob_eq
    (by kernel_rfl) (fun s => by kernel_rfl) Lw.hrun (by kernel_rfl) (by kernel_rfl) (by kernel_rfl) (by rfl) (by first | assumption | decide +kernel) (by decide +kernel) ⟨rfl, rfl, rfl, rfl, rfl, by decide +kernel⟩ ?hw ?hc
  case hw => w_witness2
  case hc =>
    refine Dl.walkHT (l := PySem.Challenge.rw_thinbook_k64_names_chosen) (k := 9) (x := "_law_script") rfl (by kernel_rfl) ⟨rfl, by decide, by decide⟩ ?F
    intro w mg fa h Y G hmg0
    obtain ⟨K, KX, c, tabs⟩ := Y
    have hmg : mg ("law" : PySem.Str) = some (.ref fa) := by
      have e : (HandSHeadRun.topDef (OpenLaw.row PySem.Challenge.rw_thinbook_k64_names_chosen).prog 46).name = ("law" : PySem.Str) := by kernel_rfl
      rw [← e]
      exact hmg0
    obtain ⟨fd, hb, hF⟩ := Lw.hfin KX G c hmg
    have ht := Lw.htxt KX G c
    refine ⟨K, fd, KX, fun P hP => ⟨(tabs P hP).1, (tabs P hP).2, ?_⟩, hb, hF⟩
    simp only [Dl.tabT, List.map_cons, List.map_nil, List.mem_cons, List.not_mem_nil, or_false] at hP
    rcases hP with rfl | rfl
    · obtain ⟨st, fdx, Fx, gx, bx⟩ := ht.f_sieve
      exact Dl.codeTab_ex (ht.ct_sieve _ gx)
    · obtain ⟨st, fdx, Fx, gx, bx⟩ := ht.f_l_own
      exact Dl.codeTab_ex (ht.ct_l_own _ gx)
