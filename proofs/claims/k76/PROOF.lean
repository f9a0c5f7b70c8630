import PyProof.Rows.All
import HandS.ForMost
import HandS.Codes
import HandS.SortInts
import HandS.Zip
import HandS.Wide
import HandS.IsInst
import HandS.Flow
import PyProof.ReprRoads
import HandS.Style
import HandS.TupAny
import HandS.TupMul
import HandS.Deep
import HandS.Conv
import HandS.Walk
import HandS.EndBits
import KE.GoesEnum
import KE.KDictZip
import PySem.Challenge.RW_sortedbynets_k76_whole_steps_stay_sorted
set_option Elab.async false
set_option linter.all false
set_option maxRecDepth 100000
set_option maxHeartbeats 4000000
/-! NV1: pure data in the heap, the state that a body sees, results, readings of expressions -/
namespace NV
open PySem PySem.Spec PyProof.Rows L2

abbrev SS := L2.St

def keyD : Key → PyData
  | .inl i => .int i
  | .inr x => .str x

mutual
inductive Rp (H : Hp) : V → PyData → Prop
  | non : Rp H .non .none
  | bl (b : Bool) : Rp H (.bl b) (.bool b)
  | int (i : Int) : Rp H (.int i) (.int i)
  | str (x : Str) : Rp H (.str x) (.str x)
  | lst {a : Addr} {xs : List V} {ds : List PyData} : H a = some (.lst xs) → RpL H xs ds → Rp H (.ref a) (.list ds)
  | tup {a : Addr} {xs : List V} {ds : List PyData} : H a = some (.tup xs) → RpL H xs ds → Rp H (.ref a) (.tuple ds)
  | dct {a : Addr} {kvs : List (Key × V)} {es : List (PyData × PyData)} : H a = some (.dK kvs) → RpK H kvs es → Rp H (.ref a) (.dict es)
inductive RpL (H : Hp) : List V → List PyData → Prop
  | nil : RpL H [] []
  | cons {v : V} {vs : List V} {d : PyData} {ds : List PyData} : Rp H v d → RpL H vs ds → RpL H (v :: vs) (d :: ds)
inductive RpK (H : Hp) : List (Key × V) → List (PyData × PyData) → Prop
  | nil : RpK H [] []
  | cons {k : Key} {v : V} {vs : List (Key × V)} {d : PyData} {ds : List (PyData × PyData)} : Rp H v d → RpK H vs ds → RpK H ((k, v) :: vs) ((keyD k, d) :: ds)
end

def Sub (H H' : Hp) : Prop := ∀ a o, H a = some o → H' a = some o
theorem Sub.refl {H : Hp} : Sub H H := fun _ _ h => h
theorem Sub.trans {H H' H'' : Hp} (h : Sub H H') (h' : Sub H' H'') : Sub H H'' := fun a o e => h' a o (h a o e)
theorem Sub.nil {H H' : Hp} (h : Sub H H') {a : Addr} (e : H' a = none) : H a = none := by
  cases q : H a with
  | none => rfl
  | some o => rw [h a o q] at e; cases e
theorem Sub.ext {H : Hp} {a : Addr} {o : HO} (h : H a = none) : Sub H (upd H a o) := fun b x e => by
  rw [upd_ne (ne_of_none e h)]; exact e

mutual
theorem Rp.mono {H H' : Hp} (s : Sub H H') : ∀ (d : PyData) (v : V), Rp H v d → Rp H' v d
  | .none, _, h => by cases h; exact .non
  | .bool b, _, h => by cases h; exact .bl b
  | .int i, _, h => by cases h; exact .int i
  | .str x, _, h => by cases h; exact .str x
  | .list ds, _, h => by
    cases h with
    | lst e r => exact .lst (s _ _ e) (RpL.mono s ds _ r)
  | .tuple ds, _, h => by
    cases h with
    | tup e r => exact .tup (s _ _ e) (RpL.mono s ds _ r)
  | .dict es, _, h => by
    cases h with
    | dct e r => exact .dct (s _ _ e) (RpK.mono s es _ r)
theorem RpL.mono {H H' : Hp} (s : Sub H H') : ∀ (ds : List PyData) (vs : List V), RpL H vs ds → RpL H' vs ds
  | [], _, h => by cases h; exact .nil
  | d :: ds, _, h => by
    cases h with
    | cons r rs => exact .cons (Rp.mono s d _ r) (RpL.mono s ds _ rs)
theorem RpK.mono {H H' : Hp} (s : Sub H H') : ∀ (ds : List (PyData × PyData)) (vs : List (Key × V)), RpK H vs ds → RpK H' vs ds
  | [], _, h => by cases h; exact .nil
  | (k, d) :: ds, _, h => by
    cases h with
    | cons r rs => exact .cons (Rp.mono s d _ r) (RpK.mono s ds _ rs)
end
theorem Rp.up {H H' : Hp} (s : Sub H H') {d : PyData} {v : V} (h : Rp H v d) : Rp H' v d := Rp.mono s d v h
theorem RpL.up {H H' : Hp} (s : Sub H H') {ds : List PyData} {vs : List V} (h : RpL H vs ds) : RpL H' vs ds := RpL.mono s ds vs h

section
variable {H : Hp}
theorem RpL.length : ∀ {ds : List PyData} {vs : List V}, RpL H vs ds → vs.length = ds.length
  | [], _, h => by cases h; rfl
  | d :: ds, _, h => by
    cases h with
    | cons r rs => simp [RpL.length rs]
theorem RpL.app : ∀ {ds es : List PyData} {vs ws : List V}, RpL H vs ds → RpL H ws es → RpL H (vs ++ ws) (ds ++ es)
  | [], _, _, _, h, h' => by cases h; exact h'
  | d :: ds, _, _, _, h, h' => by
    cases h with
    | cons r rs => exact .cons r (RpL.app rs h')
theorem RpL.get : ∀ {ds : List PyData} {vs : List V} {i : Nat} {d : PyData}, RpL H vs ds → ds[i]? = some d → ∃ v, vs[i]? = some v ∧ Rp H v d
  | [], _, _, _, h, e => by simp at e
  | d :: ds, _, 0, _, h, e => by
    cases h with
    | cons r rs => simp at e; subst e; exact ⟨_, rfl, r⟩
  | d :: ds, _, i + 1, x, h, e => by
    cases h with
    | cons r rs =>
      obtain ⟨v, h1, h2⟩ := RpL.get (i := i) (d := x) rs (by simpa using e)
      exact ⟨v, by simpa using h1, h2⟩
theorem RpL.getV : ∀ {ds : List PyData} {vs : List V} {i : Nat} {v : V}, RpL H vs ds → vs[i]? = some v → ∃ d, ds[i]? = some d ∧ Rp H v d
  | [], _, _, _, h, e => by cases h; simp at e
  | d :: ds, _, 0, _, h, e => by
    cases h with
    | cons r rs => simp at e; subst e; exact ⟨_, rfl, r⟩
  | d :: ds, _, i + 1, x, h, e => by
    cases h with
    | cons r rs =>
      obtain ⟨v, h1, h2⟩ := RpL.getV (i := i) (v := x) rs (by simpa using e)
      exact ⟨v, by simpa using h1, h2⟩
theorem RpL.take : ∀ {ds : List PyData} {vs : List V} (n : Nat), RpL H vs ds → RpL H (vs.take n) (ds.take n)
  | _, _, 0, _ => by rw [List.take_zero, List.take_zero]; exact .nil
  | [], _, n + 1, h => by cases h; exact .nil
  | d :: ds, _, n + 1, h => by
    cases h with
    | cons r rs => exact .cons r (RpL.take n rs)
theorem RpL.drop : ∀ {ds : List PyData} {vs : List V} (n : Nat), RpL H vs ds → RpL H (vs.drop n) (ds.drop n)
  | _, _, 0, h => h
  | [], _, n + 1, h => by cases h; exact .nil
  | d :: ds, _, n + 1, h => by
    cases h with
    | cons r rs => exact RpL.drop n rs
theorem RpL.rev {ds : List PyData} {vs : List V} (h : RpL H vs ds) : RpL H vs.reverse ds.reverse := by
  induction ds generalizing vs with
  | nil => cases h; exact .nil
  | cons d ds ih =>
    cases h with
    | cons r rs =>
      rw [List.reverse_cons, List.reverse_cons]
      exact RpL.app (ih rs) (.cons r .nil)
theorem RpL.set : ∀ {ds : List PyData} {vs : List V} (i : Nat) {d : PyData} {v : V}, RpL H vs ds → Rp H v d → RpL H (vs.set i v) (ds.set i d)
  | [], _, _, _, _, h, _ => by cases h; exact .nil
  | d :: ds, _, 0, _, _, h, q => by
    cases h with
    | cons r rs => exact .cons q rs
  | d :: ds, _, i + 1, _, _, h, q => by
    cases h with
    | cons r rs => exact .cons r (RpL.set i rs q)
theorem RpL.ints : ∀ {ns : List Int} {vs : List V}, RpL H vs (ns.map PyData.int) → vs = ns.map V.int
  | [], _, h => by cases h; rfl
  | n :: ns, _, h => by
    cases h with
    | cons r rs => cases r; rw [RpL.ints rs]; rfl
theorem RpL.ofInts : ∀ (ns : List Int), RpL H (ns.map V.int) (ns.map PyData.int)
  | [] => .nil
  | n :: ns => .cons (.int n) (RpL.ofInts ns)
theorem RpL.bls : ∀ {ns : List Bool} {vs : List V}, RpL H vs (ns.map PyData.bool) → vs = ns.map V.bl
  | [], _, h => by cases h; rfl
  | n :: ns, _, h => by
    cases h with
    | cons r rs => cases r; rw [RpL.bls rs]; rfl
end

/-! ### what a body sees -/
structure Src where
  cells : List Int
  left : Int
  mixed : Int
  turn : Int
inductive Sl where
  | emp
  | val (d : PyData)
  | own (ds : List PyData)
  | src
def Sl.isOwn : Sl → Prop
  | .own _ => True
  | _ => False
structure Sta where
  e : Nat → Sl
  z : Option Src
def Sta.put (st : Sta) (i : Nat) (x : Sl) : Sta := ⟨fun j => if j = i then x else st.e j, st.z⟩
theorem put_same {st : Sta} {i : Nat} {x : Sl} : (st.put i x).e i = x := if_pos rfl
theorem put_ne {st : Sta} {i j : Nat} {x : Sl} (h : j ≠ i) : (st.put i x).e j = st.e j := if_neg h
theorem put_z {st : Sta} {i : Nat} {x : Sl} : (st.put i x).z = st.z := rfl

structure Lay where
  aD : Addr
  aC : Addr
  pr : Hp

def srcKvs (L : Lay) (z : Src) : List (Key × V) := [(.inr "cells", .ref L.aC), (.inr "left", .int z.left), (.inr "mixed", .int z.mixed), (.inr "turn", .int z.turn)]
def SrcAt (L : Lay) (z : Src) (H : Hp) : Prop := H L.aD = some (.dK (srcKvs L z)) ∧ H L.aC = some (.lst (z.cells.map V.int))

def SlOk (L : Lay) (Hf : Hp) (zs : Bool) (σ : SS) (H : Hp) (i : Nat) : Sl → Prop
  | .emp => True
  | .val d => ∃ v, σ[i]? = some (some v) ∧ Rp Hf v d
  | .own ds => ∃ a vs, σ[i]? = some (some (.ref a)) ∧ H a = some (.lst vs) ∧ RpL Hf vs ds ∧ Hf a = none ∧ L.pr a = none ∧ (zs = true → a ≠ L.aD ∧ a ≠ L.aC)
  | .src => σ[i]? = some (some (.ref L.aD)) ∧ zs = true

structure Cor (L : Lay) (Hf : Hp) (st : Sta) (σ : SS) (H : Hp) : Prop where
  le : Sub Hf H
  pr : ∀ a o, L.pr a = some o → H a = some o ∧ Hf a = none
  sl : ∀ i, SlOk L Hf st.z.isSome σ H i (st.e i)
  dj : ∀ i j a, (st.e i).isOwn → (st.e j).isOwn → σ[i]? = some (some (.ref a)) → σ[j]? = some (some (.ref a)) → i = j
  so : ∀ z, st.z = some z → SrcAt L z H ∧ Hf L.aD = none ∧ Hf L.aC = none ∧ L.pr L.aD = none ∧ L.pr L.aC = none

/-- a result -/
inductive R where
  | dat (d : PyData)
  | fre (ds : List PyData)
  | slt (i : Nat)

/-- v stands free: no slot owns it -/
def Free (L : Lay) (Hf : Hp) (st : Sta) (σ : SS) (a : Addr) : Prop := Hf a = none ∧ L.pr a = none ∧ (st.z.isSome = true → a ≠ L.aD ∧ a ≠ L.aC) ∧ ∀ i, (st.e i).isOwn → σ[i]? ≠ some (some (.ref a))
def ResOk (L : Lay) (Hf : Hp) (st : Sta) (σ : SS) (H : Hp) (v : V) : R → Prop
  | .dat d => Rp Hf v d
  | .fre ds => ∃ a vs, v = .ref a ∧ H a = some (.lst vs) ∧ RpL Hf vs ds ∧ Free L Hf st σ a
  | .slt i => σ[i]? = some (some v) ∧ (st.e i).isOwn

theorem SlOk.mono {L : Lay} {Hf Hf' : Hp} {zs : Bool} {σ : SS} {H : Hp} {i : Nat} {x : Sl} (s : Sub Hf Hf') (h : SlOk L Hf zs σ H i x) (hn : ∀ a, (x.isOwn ∧ σ[i]? = some (some (.ref a))) → Hf' a = none) : SlOk L Hf' zs σ H i x := by
  cases x with
  | emp => trivial
  | val d => obtain ⟨v, e, r⟩ := h; exact ⟨v, e, r.up s⟩
  | own ds => obtain ⟨a, vs, e, ea, r, n, p, q⟩ := h; exact ⟨a, vs, e, ea, r.up s, hn a ⟨trivial, e⟩, p, q⟩
  | src => exact h

section
variable {L : Lay} {Hf : Hp} {st : Sta} {σ : SS} {H : Hp} {a : Addr}
theorem Cor.free_new (c : Cor L Hf st σ H) (h : H a = none) : Free L Hf st σ a := by
  refine ⟨c.le.nil h, ?_, fun hz => ?_, fun i ho e => ?_⟩
  · cases q : L.pr a with
    | none => rfl
    | some o => rw [(c.pr a o q).1] at h; cases h
  · cases q : st.z with
    | none => rw [q] at hz; cases hz
    | some z =>
      obtain ⟨⟨h1, h2⟩, _⟩ := c.so z q
      exact ⟨fun e => (by rw [← e, h] at h1; cases h1), fun e => (by rw [← e, h] at h2; cases h2)⟩
  · have := c.sl i
    cases q : st.e i with
    | emp => rw [q] at ho; exact ho
    | val d => rw [q] at ho; exact ho
    | src => rw [q] at ho; exact ho
    | own ds =>
      rw [q] at this
      obtain ⟨b, vs, e', ea, _⟩ := this
      rw [e] at e'; cases e'
      rw [h] at ea; cases ea
/-- a free object is frozen -/
theorem Cor.freeze (c : Cor L Hf st σ H) {o : HO} (f : Free L Hf st σ a) (h : H a = some o) : Cor L (upd Hf a o) st σ H where
  le := fun b x e => by
    by_cases hb : b = a
    · subst hb; rw [upd_same] at e; cases e; exact h
    · rw [upd_ne hb] at e; exact c.le b x e
  pr := fun b x e => by
    have hb : b ≠ a := fun q => by rw [q, f.2.1] at e; cases e
    rw [upd_ne hb]; exact c.pr b x e
  sl := fun i => (c.sl i).mono (Sub.ext f.1) fun b ⟨ho, e⟩ => by
    have hb : b ≠ a := fun q => f.2.2.2 i ho (by rw [e, q])
    rw [upd_ne hb]
    have := c.sl i
    cases q : st.e i with
    | emp => rw [q] at ho; exact ho.elim
    | val d => rw [q] at ho; exact ho.elim
    | src => rw [q] at ho; exact ho.elim
    | own ds =>
      rw [q] at this
      obtain ⟨b', vs, e', ea, _, n, _⟩ := this
      rw [e] at e'; cases e'
      exact n
  dj := c.dj
  so := fun z hz => by
    obtain ⟨h1, h2, h3, h4⟩ := c.so z hz
    have hz' : st.z.isSome = true := by rw [hz]; rfl
    obtain ⟨n1, n2⟩ := f.2.2.1 hz'
    rw [upd_ne n1.symm, upd_ne n2.symm]
    exact ⟨h1, h2, h3, h4⟩
/-- a new object is laid, tracked but not frozen -/
theorem Cor.laid (c : Cor L Hf st σ H) {o : HO} (h : H a = none) : Cor L Hf st σ (upd H a o) where
  le := fun b x e => by
    have hb : b ≠ a := fun q => by rw [q, c.le.nil h] at e; cases e
    rw [upd_ne hb]; exact c.le b x e
  pr := fun b x e => by
    have hb : b ≠ a := fun q => by rw [q] at e; rw [(c.pr a x e).1] at h; cases h
    rw [upd_ne hb]; exact c.pr b x e
  sl := fun i => by
    have := c.sl i
    cases q : st.e i with
    | emp => trivial
    | val d => rw [q] at this; exact this
    | src => rw [q] at this; exact this
    | own ds =>
      rw [q] at this
      obtain ⟨b, vs, e', ea, r⟩ := this
      exact ⟨b, vs, e', by rw [upd_ne (ne_of_none ea h)]; exact ea, r⟩
  dj := c.dj
  so := fun z hz => by
    obtain ⟨⟨h1, h2⟩, h3⟩ := c.so z hz
    exact ⟨⟨by rw [upd_ne (ne_of_none h1 h)]; exact h1, by rw [upd_ne (ne_of_none h2 h)]; exact h2⟩, h3⟩
end

/-! ### how a step's value comes -/
inductive Grow (Hf H : Hp) : R → V → Hp → Prop
  | old {v : V} {d : PyData} : Rp Hf v d → Grow Hf H (.dat d) v H
  | tup {p : Addr} {vs : List V} {ds : List PyData} : H p = none → RpL Hf vs ds → Grow Hf H (.dat (.tuple ds)) (.ref p) (upd H p (.tup vs))
  | lst {p : Addr} {vs : List V} {ds : List PyData} : H p = none → RpL Hf vs ds → Grow Hf H (.fre ds) (.ref p) (upd H p (.lst vs))
  | dct {p : Addr} {vs : List (Key × V)} {ds : List (PyData × PyData)} : H p = none → RpK Hf vs ds → Grow Hf H (.dat (.dict ds)) (.ref p) (upd H p (.dK vs))
  | tup2 {p q : Addr} {vs : List V} {ds : List PyData} {i : Int} : H p = none → (upd H p (.tup vs)) q = none → RpL Hf vs ds → Grow Hf H (.dat (.tuple [.int i, .tuple ds])) (.ref q) (upd (upd H p (.tup vs)) q (.tup [.int i, .ref p]))
def After (L : Lay) (Hf : Hp) (st : Sta) (σ : SS) (r : R) (Q : VK) : Prop := ∀ v H' Hf', Sub Hf Hf' → Cor L Hf' st σ H' → ResOk L Hf' st σ H' v r → Q v H'
theorem Grow.after {L : Lay} {Hf : Hp} {st : Sta} {σ : SS} {H H' : Hp} {r : R} {v : V} {Q : VK} (g : Grow Hf H r v H') (c : Cor L Hf st σ H) (k : After L Hf st σ r Q) : Q v H' := by
  cases g with
  | old q => exact k v H Hf Sub.refl c q
  | @tup p vs ds hp q =>
    have f := c.free_new hp
    have hs : Sub Hf (upd Hf p (.tup vs)) := Sub.ext f.1
    exact k _ _ _ hs ((c.laid hp).freeze f upd_same) (.tup upd_same (q.up hs))
  | @lst p vs ds hp q =>
    exact k _ _ _ Sub.refl (c.laid hp) ⟨p, vs, rfl, upd_same, q, c.free_new hp⟩
  | @dct p vs ds hp q =>
    have f := c.free_new hp
    have hs : Sub Hf (upd Hf p (.dK vs)) := Sub.ext f.1
    exact k _ _ _ hs ((c.laid hp).freeze f upd_same) (.dct upd_same (RpK.mono hs _ _ q))
  | @tup2 p r vs ds i hp hr q =>
    have f := c.free_new hp
    have hs : Sub Hf (upd Hf p (.tup vs)) := Sub.ext f.1
    have c1 : Cor L (upd Hf p (.tup vs)) st σ (upd H p (.tup vs)) := (c.laid hp).freeze f upd_same
    have f2 := c1.free_new hr
    have hs2 : Sub (upd Hf p (.tup vs)) (upd (upd Hf p (.tup vs)) r (.tup [.int i, .ref p])) := Sub.ext f2.1
    exact k _ _ _ (hs.trans hs2) ((c1.laid hr).freeze f2 upd_same) (.tup upd_same (.cons (.int i) (.cons (Rp.up hs2 (.tup upd_same (q.up hs))) .nil)))

abbrev M := Sta → Option (R × Sta)
def rdE (m : M) : TE := fun σ H Q => ∃ L Hf st r st', Cor L Hf st σ H ∧ m st = some (r, st') ∧ After L Hf st' σ r Q
def EV (X : Cx) (e : Expr) (m : M) : Prop := PE X e (rdE m)
theorem ev_of {X : Cx} {e : Expr} {m : M} (h : ∀ L Hf st r st' σ H Q, Cor L Hf st σ H → m st = some (r, st') → After L Hf st' σ r Q → ∃ t, PE X e t ∧ t σ H Q) : EV X e m :=
  ⟨fun pins s σ H Q I ⟨L, Hf, st, r, st', c, e1, k⟩ => by
    obtain ⟨t, ht, q⟩ := h L Hf st r st' σ H Q c e1 k
    exact ht.run pins s σ H Q I q⟩
/-- an expression's use: the reading of its value -/
theorem ev_use {m : M} {L : Lay} {Hf : Hp} {st : Sta} {σ : SS} {H : Hp} {Q : VK} {r : R} {st' : Sta} (c : Cor L Hf st σ H) (e1 : m st = some (r, st')) (k : After L Hf st' σ r Q) : rdE m σ H Q := ⟨L, Hf, st, r, st', c, e1, k⟩

/-! ### operands -/
@[simp] def res (st : Sta) : R → Option PyData
  | .dat d => some d
  | .fre ds => some (.list ds)
  | .slt i => match st.e i with
    | .own ds => some (.list ds)
    | .val d => some d
    | _ => none
/-- what is known of an operand from its evaluation on -/
def Opd (Hf : Hp) (σ : SS) (v : V) : R → Prop
  | .dat d => Rp Hf v d
  | .fre ds => Rp Hf v (.list ds)
  | .slt i => σ[i]? = some (some v)
theorem Opd.mono {Hf Hf' : Hp} {σ : SS} {v : V} {r : R} (s : Sub Hf Hf') (h : Opd Hf σ v r) : Opd Hf' σ v r := by
  cases r with
  | dat d => exact Rp.up s h
  | fre ds => exact Rp.up s h
  | slt i => exact h
/-- the value of an operand, at the operation -/
def Rq (Hf H : Hp) (v : V) (d : PyData) : Prop := Rp Hf v d ∨ ∃ a vs ds, v = .ref a ∧ d = .list ds ∧ H a = some (.lst vs) ∧ RpL Hf vs ds
theorem ResOk.opd {L : Lay} {Hf : Hp} {st : Sta} {σ : SS} {H : Hp} {v : V} {r : R} (c : Cor L Hf st σ H) (h : ResOk L Hf st σ H v r) : ∃ Hf', Sub Hf Hf' ∧ Cor L Hf' st σ H ∧ Opd Hf' σ v r := by
  cases r with
  | dat d => exact ⟨Hf, Sub.refl, c, h⟩
  | slt i => exact ⟨Hf, Sub.refl, c, h.1⟩
  | fre ds =>
    obtain ⟨a, vs, rfl, ea, q, f⟩ := h
    have hs : Sub Hf (upd Hf a (.lst vs)) := Sub.ext f.1
    exact ⟨_, hs, c.freeze f ea, .lst upd_same (q.up hs)⟩
theorem Opd.rq {L : Lay} {Hf : Hp} {st : Sta} {σ : SS} {H : Hp} {v : V} {r : R} {d : PyData} (c : Cor L Hf st σ H) (h : Opd Hf σ v r) (e : res st r = some d) : Rq Hf H v d := by
  cases r with
  | dat d' => cases e; exact .inl h
  | fre ds => cases e; exact .inl h
  | slt i =>
    have q := c.sl i
    unfold res at e
    cases z : st.e i with
    | emp => simp only [z] at e; cases e
    | src => simp only [z] at e; cases e
    | val d' =>
      simp only [z] at e; cases e
      rw [z] at q
      obtain ⟨w, e1, q⟩ := q
      have h' : σ[i]? = some (some v) := h
      rw [h'] at e1; cases e1
      exact .inl q
    | own ds =>
      simp only [z] at e; cases e
      rw [z] at q
      obtain ⟨a, vs, e1, ea, q, _⟩ := q
      have h' : σ[i]? = some (some v) := h
      rw [h'] at e1; cases e1
      exact .inr ⟨a, vs, ds, rfl, rfl, ea, q⟩
theorem Rq.rp {Hf H : Hp} {v : V} {d : PyData} (s : Sub Hf H) (h : Rq Hf H v d) : Rp H v d := by
  rcases h with h | ⟨a, vs, ds, rfl, rfl, ea, q⟩
  · exact h.up s
  · exact .lst ea (q.up s)
theorem Rq.lst {Hf H : Hp} {v : V} {ds : List PyData} (s : Sub Hf H) (h : Rq Hf H v (.list ds)) : ∃ a vs, v = .ref a ∧ H a = some (.lst vs) ∧ RpL Hf vs ds := by
  rcases h with h | ⟨a, vs, ds', rfl, e, ea, q⟩
  · cases h with
    | lst e r => exact ⟨_, _, rfl, s _ _ e, r⟩
  · cases e; exact ⟨a, vs, rfl, ea, q⟩
theorem Rq.tup {Hf H : Hp} {v : V} {ds : List PyData} (s : Sub Hf H) (h : Rq Hf H v (.tuple ds)) : ∃ a vs, v = .ref a ∧ H a = some (.tup vs) ∧ RpL Hf vs ds := by
  rcases h with h | ⟨a, vs, ds', rfl, e, ea, q⟩
  · cases h with
    | tup e r => exact ⟨_, _, rfl, s _ _ e, r⟩
  · cases e
theorem Rq.int {Hf H : Hp} {v : V} {i : Int} (h : Rq Hf H v (.int i)) : v = .int i := by
  rcases h with h | ⟨a, vs, ds', rfl, e, ea, q⟩
  · cases h; rfl
  · cases e
theorem Rq.str {Hf H : Hp} {v : V} {i : Str} (h : Rq Hf H v (.str i)) : v = .str i := by
  rcases h with h | ⟨a, vs, ds', rfl, e, ea, q⟩
  · cases h; rfl
  · cases e
theorem Rq.bl {Hf H : Hp} {v : V} {i : Bool} (h : Rq Hf H v (.bool i)) : v = .bl i := by
  rcases h with h | ⟨a, vs, ds', rfl, e, ea, q⟩
  · cases h; rfl
  · cases e
theorem Rq.non {Hf H : Hp} {v : V} (h : Rq Hf H v .none) : v = .non := by
  rcases h with h | ⟨a, vs, ds', rfl, e, ea, q⟩
  · cases h; rfl
  · cases e
inductive RqL (Hf H : Hp) : List V → List PyData → Prop
  | nil : RqL Hf H [] []
  | cons {v : V} {d : PyData} {vs : List V} {ds : List PyData} : Rq Hf H v d → RqL Hf H vs ds → RqL Hf H (v :: vs) (d :: ds)
inductive OpdL (Hf : Hp) (σ : SS) : List V → List R → Prop
  | nil : OpdL Hf σ [] []
  | cons {v : V} {d : R} {vs : List V} {ds : List R} : Opd Hf σ v d → OpdL Hf σ vs ds → OpdL Hf σ (v :: vs) (d :: ds)
@[simp] def resL (st : Sta) : List R → Option (List PyData)
  | [] => some []
  | r :: rs => (res st r).bind fun d => (resL st rs).map fun ds => d :: ds
theorem OpdL.mono {Hf Hf' : Hp} {σ : SS} (s : Sub Hf Hf') : ∀ {vs : List V} {rs : List R}, OpdL Hf σ vs rs → OpdL Hf' σ vs rs
  | _, _, .nil => .nil
  | _, _, .cons h t => .cons (h.mono s) (OpdL.mono s t)
theorem OpdL.rq {L : Lay} {Hf : Hp} {st : Sta} {σ : SS} {H : Hp} (c : Cor L Hf st σ H) : ∀ {vs : List V} {rs : List R} {ds : List PyData}, OpdL Hf σ vs rs → resL st rs = some ds → RqL Hf H vs ds
  | _, _, _, .nil, e => by cases e; exact .nil
  | _, _, _, .cons (d := r) (ds := rs) h t, e => by
    unfold resL at e
    cases q : res st r with
    | none => rw [q] at e; cases e
    | some d =>
      cases q' : resL st rs with
      | none => rw [q, q'] at e; cases e
      | some ds' =>
        rw [q, q'] at e; cases e
        exact .cons (h.rq c q) (OpdL.rq c t q')

/-! ### binary operations -/
@[simp] def mBin (f : PyData → PyData → Option R) (a b : M) : M := fun st =>
  (a st).bind fun (r1, st1) => (b st1).bind fun (r2, st2) => (res st2 r1).bind fun d1 => (res st2 r2).bind fun d2 => (f d1 d2).map fun r => (r, st2)
theorem mBin_some {f : PyData → PyData → Option R} {a b : M} {st : Sta} {r : R} {st' : Sta} (h : mBin f a b st = some (r, st')) : ∃ r1 st1 r2 d1 d2, a st = some (r1, st1) ∧ b st1 = some (r2, st') ∧ res st' r1 = some d1 ∧ res st' r2 = some d2 ∧ f d1 d2 = some r := by
  unfold mBin at h
  cases ha : a st with
  | none => rw [ha] at h; cases h
  | some p =>
    obtain ⟨r1, st1⟩ := p
    rw [ha] at h
    simp only [Option.bind_some] at h
    cases hb : b st1 with
    | none => rw [hb] at h; cases h
    | some p =>
      obtain ⟨r2, st2⟩ := p
      rw [hb] at h
      simp only [Option.bind_some] at h
      cases h1 : res st2 r1 with
      | none => rw [h1] at h; cases h
      | some d1 =>
        cases h2 : res st2 r2 with
        | none => rw [h1, h2] at h; cases h
        | some d2 =>
          rw [h1, h2] at h
          simp only [Option.bind_some] at h
          cases h3 : f d1 d2 with
          | none => rw [h3] at h; cases h
          | some r3 =>
            rw [h3] at h
            cases h
            exact ⟨r1, st1, r2, d1, d2, rfl, hb, h1, h2, h3⟩
/-- an operation of two values, by data -/
def DOp (X : Cx) (F : Value → Value → Sem Value) (f : PyData → PyData → Option R) : Prop :=
  ∀ (Hf H : Hp) (x y : V) (d1 d2 : PyData) (r : R) (Q : VK), Sub Hf H → Rq Hf H x d1 → Rq Hf H y d2 → f d1 d2 = some r → (∀ v H', Grow Hf H r v H' → Q v H') → ∃ r2 : R2, OpR X F r2 ∧ r2 x y H Q
theorem DOp.opR {X : Cx} {F : Value → Value → Sem Value} : OpR X F (fun x y H Q => ∃ r2 : R2, OpR X F r2 ∧ r2 x y H Q) := fun pins s σ H x y v u Q I rx ry ⟨r2, h, q⟩ => h pins s σ H x y v u Q I rx ry q
theorem two_use {a b : M} {L : Lay} {Hf : Hp} {st : Sta} {σ : SS} {H : Hp} {r1 r2 : R} {st1 st2 : Sta} {W : V → V → Hp → Prop} (c : Cor L Hf st σ H) (h1 : a st = some (r1, st1)) (h2 : b st1 = some (r2, st2))
    (k : ∀ x y H' Hf', Sub Hf Hf' → Cor L Hf' st2 σ H' → Opd Hf' σ x r1 → Opd Hf' σ y r2 → W x y H') : rdE a σ H fun x H1 => rdE b σ H1 fun y H2 => W x y H2 := by
  refine ev_use c h1 fun x H1 Hf1 s1 c1 q1 => ?_
  obtain ⟨Hf1', s1', c1', o1⟩ := q1.opd c1
  refine ev_use c1' h2 fun y H2 Hf2 s2 c2 q2 => ?_
  obtain ⟨Hf2', s2', c2', o2⟩ := q2.opd c2
  exact k x y H2 Hf2' ((s1.trans s1').trans (s2.trans s2')) c2' (o1.mono (s2.trans s2')) o2
theorem ev_bin {X : Cx} {ea eb : Expr} {op : Operator} {pos : Pos} {a b : M} {f : PyData → PyData → Option R} (ho : DOp X (binaryOp op) f) (ha : EV X ea a) (hb : EV X eb b) : EV X (.BinOp ea op eb pos) (mBin f a b) := by
  refine ev_of fun L Hf st r st' σ H Q c h k => ?_
  obtain ⟨r1, st1, r2, d1, d2, h1, h2, e1, e2, e3⟩ := mBin_some h
  refine ⟨_, pe_op DOp.opR ha hb, ?_⟩
  refine two_use c h1 h2 fun x y H' Hf' s' c' o1 o2 => ?_
  exact ho Hf' H' x y d1 d2 r Q c'.le (o1.rq c' e1) (o2.rq c' e2) e3 fun v H'' g => g.after c' fun v' H3 Hf3 s3 => k v' H3 Hf3 (s'.trans s3)
theorem ev_cmp {X : Cx} {ea eb : Expr} {op : CmpOp} {pos : Pos} {a b : M} {f : PyData → PyData → Option R} (ho : DOp X (compareOp op) f) (ha : EV X ea a) (hb : EV X eb b) (hm : behindInMarks op eb = false) : EV X (.Compare ea [op] [eb] pos) (mBin f a b) := by
  refine ev_of fun L Hf st r st' σ H Q c h k => ?_
  obtain ⟨r1, st1, r2, d1, d2, h1, h2, e1, e2, e3⟩ := mBin_some h
  refine ⟨_, pe_cmpR DOp.opR ha hb hm, ?_⟩
  refine two_use c h1 h2 fun x y H' Hf' s' c' o1 o2 => ?_
  exact ho Hf' H' x y d1 d2 r Q c'.le (o1.rq c' e1) (o2.rq c' e2) e3 fun v H'' g => g.after c' fun v' H3 Hf3 s3 => k v' H3 Hf3 (s'.trans s3)

/-! ### names, constants -/
@[simp] def mVar (i : Nat) : M := fun st => match st.e i with
  | .val d => some (.dat d, st)
  | .own _ => some (.slt i, st)
  | _ => none
@[simp] def mC (d : PyData) : M := fun st => some (.dat d, st)
section
variable {X : Cx}
theorem ev_var {i : Nat} {x : Str} {pos : Pos} (hN : X.N[i]? = some x) (hv : Vis X.env.scope x) (hd : (x == ("__debug__" : Str)) = false := by decide) (hcd : (x == ("__classdict__" : Str)) = false := by decide) : EV X (.Name x pos) (mVar i) := by
  refine ev_of fun L Hf st r st' σ H Q c h k => ⟨_, pe_var hN hv hd hcd, ?_⟩
  have q := c.sl i
  unfold mVar at h
  cases z : st.e i with
  | emp => simp only [z] at h; cases h
  | src => simp only [z] at h; cases h
  | val d =>
    simp only [z] at h; cases h
    rw [z] at q
    obtain ⟨v, e, q⟩ := q
    exact ⟨v, e, k v H Hf Sub.refl c q⟩
  | own ds =>
    simp only [z] at h; cases h
    rw [z] at q
    obtain ⟨a, vs, e, q⟩ := q
    exact ⟨_, e, k _ H Hf Sub.refl c ⟨e, by rw [z]; trivial⟩⟩
theorem ev_const {e : Expr} {v : V} {d : PyData} (h : PE X e (tC v)) (r : ∀ H, Rp H v d) : EV X e (mC d) := by
  refine ev_of fun L Hf st r' st' σ H Q c e1 k => ⟨_, h, ?_⟩
  cases e1
  exact k v H Hf Sub.refl c (r Hf)
theorem ev_int {i j pos} : EV X (.Constant (.int i) j pos) (mC (.int i)) := ev_const pe_int fun _ => .int i
theorem ev_bl {b j pos} : EV X (.Constant (.bool b) j pos) (mC (.bool b)) := ev_const pe_bl fun _ => .bl b
theorem ev_non {j pos} : EV X (.Constant .none j pos) (mC .none) := ev_const pe_non fun _ => .non
theorem ev_str {x j pos} : EV X (.Constant (.str x) j pos) (mC (.str x)) := ev_const pe_str fun _ => .str x
end
end NV
set_option Elab.async false
set_option linter.all false
set_option maxRecDepth 100000
set_option maxHeartbeats 4000000
/-! NV2: operations of data -/
namespace NV
open PySem PySem.Spec PyProof.Rows L2

structure Gd (X : Cx) : Prop where
  calm : X.calm = true
  nd : X.N.Nodup
  un : X.A.units + 150 < cLine
  gu : X.A.guards = some []
  xf : X.xe = fun _ _ => False
theorem Gd.po {X : Cx} (g : Gd X) : PassesOwn (model X.prog X.w) X.A X.env X.xe := by rw [g.xf]; exact PassesOwn.never
theorem Gd.blk {X : Cx} (g : Gd X) (s : Shared) (H : Hp) (scope : Scope) (cenv : Env) (fp : List Addr) : Gd (X.blk s H scope cenv fp) := ⟨g.calm, g.nd, g.un, g.gu, rfl⟩

/-! ### numbers -/
@[simp] def addD : PyData → PyData → Option R
  | .int i, .int j => some (.dat (.int (i + j)))
  | .str a, .str b => if a.length + b.length ≤ sizeLine then some (.dat (.str (a ++ b))) else none
  | .list a, .list b => if a.length + b.length ≤ sizeLine then some (.fre (a ++ b)) else none
  | .tuple a, .tuple b => if a.length + b.length ≤ sizeLine then some (.dat (.tuple (a ++ b))) else none
  | _, _ => none
@[simp] def subD : PyData → PyData → Option R
  | .int i, .int j => some (.dat (.int (i - j)))
  | _, _ => none
def mulOk (i j : Int) : Bool := decide (-(2 ^ 64) < i ∧ i < 2 ^ 64) || decide (-(2 ^ 64) < j ∧ j < 2 ^ 64)
@[simp] def mulD : PyData → PyData → Option R
  | .int i, .int j => if mulOk i j = true then some (.dat (.int (i * j))) else none
  | .list a, .int k => if -(2 ^ 63) ≤ k ∧ k < 2 ^ 63 ∧ a.length * k.toNat ≤ sizeLine then some (.fre (List.replicate k.toNat a).flatten) else none
  | .tuple a, .int k => if a ≠ [] ∧ 2 ≤ k ∧ k ≤ 1000 ∧ a.length ≤ 1000 then some (.dat (.tuple (List.replicate k.toNat a).flatten)) else none
  | _, _ => none
def fdivD : PyData → PyData → Option R
  | .int i, .int j => if 0 < j ∧ j < 1073741824 then some (.dat (.int (i / j))) else none
  | _, _ => none
def modD : PyData → PyData → Option R
  | .int i, .int j => if 0 < j then some (.dat (.int (i % j))) else none
  | _, _ => none
def powD : PyData → PyData → Option R
  | .int i, .int j => if 0 ≤ j ∧ j ≤ 1000000 ∧ i.natAbs < 2 ^ 64 then some (.dat (.int (i ^ j.toNat))) else none
  | _, _ => none
def shlD : PyData → PyData → Option R
  | .int i, .int j => if 0 ≤ j ∧ j ≤ 1000000 ∧ i.natAbs < 2 ^ 64 then some (.dat (.int (i * 2 ^ j.toNat))) else none
  | _, _ => none
@[simp] def ltD : PyData → PyData → Option R
  | .int i, .int j => some (.dat (.bool (decide (i < j))))
  | _, _ => none
@[simp] def leD : PyData → PyData → Option R
  | .int i, .int j => some (.dat (.bool (decide (i ≤ j))))
  | _, _ => none
@[simp] def gtD : PyData → PyData → Option R
  | .int i, .int j => some (.dat (.bool (decide (j < i))))
  | _, _ => none
@[simp] def geD : PyData → PyData → Option R
  | .int i, .int j => some (.dat (.bool (decide (j ≤ i))))
  | _, _ => none
/-- two of a kind, small -/
@[simp] def eqR (d e : PyData) : Option Bool := match d, e with
  | .int i, .int j => some (decide (i = j))
  | .str i, .str j => some (decide (i = j))
  | .bool i, .bool j => some (decide (i = j))
  | d, e => if SeqAt.shaped d = true ∧ SeqAt.shaped e = true then some (PyData.eqv d e) else none
@[simp] def eqD (d e : PyData) : Option R := (eqR d e).map fun b => .dat (.bool b)
@[simp] def neD (d e : PyData) : Option R := (eqR d e).map fun b => .dat (.bool (!b))
@[simp] def isR (d e : PyData) : Option Bool := match d, e with
  | .bool a, .bool b => some (decide (a = b))
  | d, .none => some (match d with | .none => true | _ => false)
  | _, _ => none
@[simp] def isD (d e : PyData) : Option R := (isR d e).map fun b => .dat (.bool b)
@[simp] def isNotD (d e : PyData) : Option R := (isR d e).map fun b => .dat (.bool (!b))
def flatD : PyData → Bool
  | .none | .bool _ | .int _ | .str _ => true
  | _ => false
def inR (d e : PyData) : Option Bool := match e with
  | .list xs => if flatD d = true ∧ xs.all flatD = true then some (xs.any fun y => PyData.eqv y d)
    else if SeqAt.shaped d = true ∧ SeqAt.shaped (.list xs) = true then some (xs.any fun y => PyData.eqv y d) else none
  | .tuple xs => if flatD d = true ∧ xs.all flatD = true then some (xs.any fun y => PyData.eqv y d) else none
  | _ => none
def inD (d e : PyData) : Option R := (inR d e).map fun b => .dat (.bool b)
def notInD (d e : PyData) : Option R := (inR d e).map fun b => .dat (.bool (!b))

section
variable {X : Cx} {F : Value → Value → Sem Value}
/-- of two ints -/
theorem dop_int {f : PyData → PyData → Option R} {C : Int → Int → Prop} {g : Int → Int → PyData} {gv : Int → Int → V} (h : OpR X F (rI C gv)) (hr : ∀ H i j, Rp H (gv i j) (g i j))
    {Hf H : Hp} {x y : V} {i j : Int} {Q : VK} (rx : Rq Hf H x (.int i)) (ry : Rq Hf H y (.int j)) (hc : C i j) (k : ∀ v H', Grow Hf H (.dat (g i j)) v H' → Q v H') : ∃ r2 : R2, OpR X F r2 ∧ r2 x y H Q :=
  ⟨_, h, i, j, rx.int, ry.int, hc, k _ _ (.old (hr Hf i j))⟩
theorem dop_int0 {g : Int → Int → PyData} {gv : Int → Int → V} (h : OpR X F (rI0 gv)) (hr : ∀ H i j, Rp H (gv i j) (g i j))
    {Hf H : Hp} {x y : V} {i j : Int} {Q : VK} (rx : Rq Hf H x (.int i)) (ry : Rq Hf H y (.int j)) (k : ∀ v H', Grow Hf H (.dat (g i j)) v H' → Q v H') : ∃ r2 : R2, OpR X F r2 ∧ r2 x y H Q :=
  ⟨_, h, i, j, rx.int, ry.int, k _ _ (.old (hr Hf i j))⟩
theorem d_add : DOp X (binaryOp .Add) addD := by
  intro Hf H x y d1 d2 r Q s rx ry e k
  unfold addD at e
  split at e
  · cases e; exact dop_int0 op_add (fun _ _ _ => .int _) rx ry k
  · split at e
    · cases e
      rename_i a b h
      exact ⟨_, op_add_str, a, b, rx.str, ry.str, h, k _ _ (.old (.str _))⟩
    · cases e
  · split at e
    · cases e
      rename_i a b h
      obtain ⟨p, vs, rfl, h1, r1⟩ := rx.lst s
      obtain ⟨q, ws, rfl, h2, r2⟩ := ry.lst s
      exact ⟨_, op_cat, p, q, vs, ws, rfl, rfl, h1, h2, by rw [r1.length, r2.length]; exact h, fun l hl => k _ _ (.lst hl (r1.app r2))⟩
    · cases e
  · split at e
    · cases e
      rename_i a b h
      obtain ⟨p, vs, rfl, h1, r1⟩ := rx.tup s
      obtain ⟨q, ws, rfl, h2, r2⟩ := ry.tup s
      refine ⟨_, op_catA, p, q, vs, ws, rfl, rfl, .of h1, .of h2, by rw [r1.length, r2.length]; exact h, fun z => ?_, fun _ z => ?_, fun _ _ l hl => k _ _ (.tup hl (r1.app r2))⟩
      · subst z
        cases r1
        rcases ry with ry | ⟨_, _, _, _, e, _⟩
        · exact k _ _ (.old ry)
        · cases e
      · subst z
        cases r2
        rw [List.append_nil] at k
        rcases rx with rx | ⟨_, _, _, _, e, _⟩
        · exact k _ _ (.old rx)
        · cases e
    · cases e
  · cases e
theorem d_sub : DOp X (binaryOp .Sub) subD := by
  intro Hf H x y d1 d2 r Q s rx ry e k
  unfold subD at e
  split at e
  · cases e; exact dop_int0 op_sub (fun _ _ _ => .int _) rx ry k
  · cases e
theorem d_mul : DOp X (binaryOp .Mult) mulD := by
  intro Hf H x y d1 d2 r Q s rx ry e k
  unfold mulD at e
  split at e
  · split at e
    · cases e
      rename_i i j h
      refine dop_int (f := mulD) op_mul (fun _ _ _ => .int _) rx ry ?_ k
      unfold mulOk at h
      rw [Bool.or_eq_true, decide_eq_true_eq, decide_eq_true_eq] at h
      exact h
    · cases e
  · split at e
    · cases e
      rename_i a i h
      obtain ⟨p, vs, rfl, h1, r1⟩ := rx.lst s
      have z := ry.int
      subst z
      refine ⟨_, op_rep, p, i, vs, rfl, rfl, h1, h.1, h.2.1, by rw [r1.length]; exact h.2.2, fun l hl => k _ _ (.lst hl ?_)⟩
      clear h k
      induction i.toNat with
      | zero => exact .nil
      | succ n ih => rw [List.replicate_succ, List.replicate_succ, List.flatten_cons, List.flatten_cons]; exact r1.app ih
    · cases e
  · split at e
    · cases e
      rename_i a i h
      obtain ⟨p, vs, rfl, h1, r1⟩ := rx.tup s
      have z := ry.int
      subst z
      have hl := r1.length
      refine ⟨_, op_repT, p, i, vs, rfl, rfl, .of h1, fun q => h.1 (by subst q; cases r1; rfl), h.2.1, h.2.2.1, by rw [hl]; exact h.2.2.2, fun l hl => k _ _ (.tup hl ?_)⟩
      clear h k hl
      induction i.toNat with
      | zero => exact .nil
      | succ n ih => rw [List.replicate_succ, List.replicate_succ, List.flatten_cons, List.flatten_cons]; exact r1.app ih
    · cases e
  · cases e
theorem d_fdiv : DOp X (binaryOp .FloorDiv) fdivD := by
  intro Hf H x y d1 d2 r Q s rx ry e k
  unfold fdivD at e
  split at e
  · split at e
    · cases e; rename_i h; exact dop_int (f := fdivD) op_fdiv (fun _ _ _ => .int _) rx ry h k
    · cases e
  · cases e
theorem d_mod : DOp X (binaryOp .Mod) modD := by
  intro Hf H x y d1 d2 r Q s rx ry e k
  unfold modD at e
  split at e
  · split at e
    · cases e; rename_i h; exact dop_int (f := modD) op_mod (fun _ _ _ => .int _) rx ry h k
    · cases e
  · cases e
theorem d_pow : DOp X (binaryOp .Pow) powD := by
  intro Hf H x y d1 d2 r Q s rx ry e k
  unfold powD at e
  split at e
  · split at e
    · cases e; rename_i h; exact dop_int (f := powD) op_pow (fun _ _ _ => .int _) rx ry h k
    · cases e
  · cases e
theorem d_shl : DOp X (binaryOp .LShift) shlD := by
  intro Hf H x y d1 d2 r Q s rx ry e k
  unfold shlD at e
  split at e
  · split at e
    · cases e; rename_i h; exact dop_int (f := shlD) op_shl (fun _ _ _ => .int _) rx ry h k
    · cases e
  · cases e
theorem d_lt : DOp X (compareOp .Lt) ltD := by
  intro Hf H x y d1 d2 r Q s rx ry e k
  unfold ltD at e
  split at e
  · cases e; exact dop_int0 op_lt (fun _ _ _ => .bl _) rx ry k
  · cases e
theorem d_le : DOp X (compareOp .LtE) leD := by
  intro Hf H x y d1 d2 r Q s rx ry e k
  unfold leD at e
  split at e
  · cases e; exact dop_int0 op_le (fun _ _ _ => .bl _) rx ry k
  · cases e
theorem d_gt : DOp X (compareOp .Gt) gtD := by
  intro Hf H x y d1 d2 r Q s rx ry e k
  unfold gtD at e
  split at e
  · cases e; exact dop_int0 op_gt (fun _ _ _ => .bl _) rx ry k
  · cases e
theorem d_ge : DOp X (compareOp .GtE) geD := by
  intro Hf H x y d1 d2 r Q s rx ry e k
  unfold geD at e
  split at e
  · cases e; exact dop_int0 op_ge (fun _ _ _ => .bl _) rx ry k
  · cases e
mutual
theorem Rp.dp {K : PySem.W.Frag} {H : Hp} : ∀ (d : PyData) (v : V), d.canLay0 = true → Rp H v d → Dp K H v d
  | .none, _, _, h => by cases h; exact .non
  | .bool b, _, _, h => by cases h; exact .bl b
  | .int i, _, _, h => by cases h; exact .int i
  | .str x, _, _, h => by cases h; exact .str x
  | .list ds, _, hc, h => by
    cases h with
    | lst e r => exact .lst (.of e) (RpL.dp ds _ (by simpa only [PyData.canLay0] using hc) r)
  | .tuple ds, _, hc, h => by
    cases h with
    | tup e r => exact .tup (.of e) (RpL.dp ds _ (by simpa only [PyData.canLay0] using hc) r)
  | .dict es, _, hc, h => by simp only [PyData.canLay0] at hc; cases hc
theorem RpL.dp {K : PySem.W.Frag} {H : Hp} : ∀ (ds : List PyData) (vs : List V), PyData.canLayAll0 ds = true → RpL H vs ds → DpAll K H vs ds
  | [], _, _, h => by cases h; exact .nil
  | d :: ds, _, hc, h => by
    cases h with
    | cons r rs =>
      simp only [PyData.canLayAll0, Bool.and_eq_true] at hc
      exact .cons (Rp.dp d _ hc.1 r) (RpL.dp ds _ hc.2 rs)
end
theorem eqR_op {op : CmpOp} {n : Bool → Bool} (h1 : OpR X (compareOp op) (fun x y H Q => scal x y = true ∧ Q (.bl (n (decide (x = y)))) H))
    (h2 : OpR X (compareOp op) (fun x y H Q => ∃ d e, Dp X.K H x d ∧ Dp X.K H y e ∧ SeqAt.shaped d = true ∧ SeqAt.shaped e = true ∧ Q (.bl (n (PyData.eqv d e))) H)) :
    DOp X (compareOp op) fun d e => (eqR d e).map fun b => .dat (.bool (n b)) := by
  intro Hf H x y d1 d2 r Q s rx ry e k
  dsimp only at e
  cases hb : eqR d1 d2 with
  | none => rw [hb] at e; cases e
  | some b =>
    rw [hb] at e
    cases e
    have k' : ∀ c, b = c → Q (.bl (n c)) H := fun c hc => k _ _ (by subst hc; exact .old (.bl _))
    unfold eqR at hb
    split at hb
    · cases hb
      rename_i i j
      have z1 := rx.int; have z2 := ry.int
      subst z1; subst z2
      exact ⟨_, h1, rfl, by rw [show (decide (V.int i = V.int j)) = decide (i = j) from by simp]; exact k' _ rfl⟩
    · cases hb
      rename_i i j
      have z1 := rx.str; have z2 := ry.str
      subst z1; subst z2
      exact ⟨_, h1, rfl, by rw [show (decide (V.str i = V.str j)) = decide (i = j) from by simp]; exact k' _ rfl⟩
    · cases hb
      rename_i i j
      have z1 := rx.bl; have z2 := ry.bl
      subst z1; subst z2
      exact ⟨_, h1, rfl, by rw [show (decide (V.bl i = V.bl j)) = decide (i = j) from by simp]; exact k' _ rfl⟩
    · split at hb
      · cases hb
        rename_i h
        exact ⟨_, h2, d1, d2, Rp.dp _ _ (SeqAt.canLay_of_shaped h.1) (rx.rp s), Rp.dp _ _ (SeqAt.canLay_of_shaped h.2) (ry.rp s), h.1, h.2, k' _ rfl⟩
      · cases hb
theorem d_eq (g : Gd X) : DOp X (compareOp .Eq) eqD := eqR_op (n := fun b => b) op_eq (op_eqD (by have := g.un; omega))
theorem d_ne (g : Gd X) : DOp X (compareOp .NotEq) neD := eqR_op (n := fun b => !b) op_ne (op_neD (by have := g.un; omega))
theorem isR_op {op : CmpOp} {n : Bool → Bool} (h1 : OpR X (compareOp op) (fun x y H Q => ∃ a b : Bool, x = .bl a ∧ y = .bl b ∧ Q (.bl (n (decide (a = b)))) H))
    (h2 : OpR X (compareOp op) (fun x y H Q => y = .non ∧ Q (.bl (n (decide (x = .non)))) H)) :
    DOp X (compareOp op) fun d e => (isR d e).map fun b => .dat (.bool (n b)) := by
  intro Hf H x y d1 d2 r Q s rx ry e k
  dsimp only at e
  cases hb : isR d1 d2 with
  | none => rw [hb] at e; cases e
  | some b =>
    rw [hb] at e
    cases e
    have k' : ∀ c, b = c → Q (.bl (n c)) H := fun c hc => k _ _ (by subst hc; exact .old (.bl _))
    unfold isR at hb
    split at hb
    · cases hb
      rename_i i j
      exact ⟨_, h1, i, j, rx.bl, ry.bl, k' _ rfl⟩
    · cases hb
      refine ⟨_, h2, ry.non, k' _ ?_⟩
      have q := rx.rp s
      cases q <;> simp
    · cases hb
theorem d_is : DOp X (compareOp .Is) isD := isR_op (n := fun b => b) op_isBl op_isN
theorem d_isNot : DOp X (compareOp .IsNot) isNotD := isR_op (n := fun b => !b) op_notBl op_notN
theorem flat_eqV {Hf : Hp} {y x : V} {dy dx : PyData} (hy : Rp Hf y dy) (hx : Rp Hf x dx) (fy : flatD dy = true) (fx : flatD dx = true) : eqV y x = PyData.eqv dy dx := by
  cases hy <;> first | (exfalso; simp [flatD] at fy; done) | (cases hx <;> first | (exfalso; simp [flatD] at fx; done) | (simp only [eqV, PyData.eqv]; done))
theorem flat_V {Hf : Hp} {x : V} {dx : PyData} (hx : Rp Hf x dx) (fx : flatD dx = true) : flatV x = true := by
  cases hx <;> first | rfl | (exfalso; simp [flatD] at fx; done)
theorem flat_all {Hf : Hp} : ∀ {ds : List PyData} {vs : List V}, RpL Hf vs ds → ds.all flatD = true → vs.all flatV = true
  | [], _, h, _ => by cases h; rfl
  | d :: ds, _, h, e => by
    cases h with
    | cons r rs =>
      rw [List.all_cons, Bool.and_eq_true] at e
      rw [List.all_cons, flat_V r e.1, flat_all rs e.2]; rfl
theorem flat_any {Hf : Hp} {x : V} {dx : PyData} (hx : Rp Hf x dx) (fx : flatD dx = true) : ∀ {ds : List PyData} {vs : List V}, RpL Hf vs ds → ds.all flatD = true → inV x vs = ds.any fun y => PyData.eqv y dx
  | [], _, h, _ => by cases h; rfl
  | d :: ds, _, h, e => by
    cases h with
    | cons r rs =>
      rw [List.all_cons, Bool.and_eq_true] at e
      have ih := flat_any hx fx rs e.2
      unfold inV at ih ⊢
      rw [List.any_cons, List.any_cons, ih, flat_eqV r hx e.1 fx]
theorem inR_op {op : CmpOp} {n : Bool} (h1 : OpR X (compareOp op) (rIn X.K n))
    (h2 : OpR X (compareOp op) (fun x y H Q => ∃ d ds, Dp X.K H x d ∧ Dp X.K H y (.list ds) ∧ SeqAt.shaped d = true ∧ SeqAt.shaped (.list ds) = true ∧ Q (.bl (if n then !(ds.any fun z => PyData.eqv z d) else ds.any fun z => PyData.eqv z d)) H)) :
    DOp X (compareOp op) fun d e => (inR d e).map fun b => .dat (.bool (if n then !b else b)) := by
  intro Hf H x y d1 d2 r Q s rx ry e k
  dsimp only at e
  cases hb : inR d1 d2 with
  | none => rw [hb] at e; cases e
  | some b =>
    rw [hb] at e
    cases e
    have k' : ∀ c, b = c → Q (.bl (if n then !c else c)) H := fun c hc => k _ _ (by subst hc; exact .old (.bl _))
    unfold inR at hb
    split at hb
    · split at hb
      · cases hb
        rename_i xs h
        obtain ⟨p, vs, rfl, e1, r1⟩ := ry.lst s
        have hx := rx.rp s
        refine ⟨_, h1, p, vs, rfl, .inl (.of e1), flat_V hx h.1, flat_all r1 h.2, ?_⟩
        rw [flat_any hx h.1 (r1.up s) h.2]
        exact k' _ rfl
      · split at hb
        · cases hb
          rename_i xs _ h
          exact ⟨_, h2, d1, xs, Rp.dp _ _ (SeqAt.canLay_of_shaped h.1) (rx.rp s), Rp.dp _ _ (SeqAt.canLay_of_shaped h.2) (ry.rp s), h.1, h.2, k' _ rfl⟩
        · cases hb
    · split at hb
      · cases hb
        rename_i xs h
        obtain ⟨p, vs, rfl, e1, r1⟩ := ry.tup s
        have hx := rx.rp s
        refine ⟨_, h1, p, vs, rfl, .inr (.of e1), flat_V hx h.1, flat_all r1 h.2, ?_⟩
        rw [flat_any hx h.1 (r1.up s) h.2]
        exact k' _ rfl
      · cases hb
    · cases hb
theorem d_in (g : Gd X) : DOp X (compareOp .In) inD := inR_op (n := false) op_in_seq (op_inD (by have := g.un; omega))
theorem d_notIn (g : Gd X) : DOp X (compareOp .NotIn) notInD := inR_op (n := true) op_notIn_seq (op_notInD (by have := g.un; omega))
end
end NV
set_option Elab.async false
set_option linter.all false
set_option maxRecDepth 100000
set_option maxHeartbeats 4000000
/-! NV3: tests, arguments, displays, calls of built-ins, subscripts, slices -/
namespace NV
open PySem PySem.Spec PyProof.Rows L2

/-! ### slots emptied, filled -/
section
variable {L : Lay} {Hf : Hp} {st : Sta} {σ : SS} {H : Hp} {a : Addr} {i : Nat} {v : V} {d : PyData}
theorem isOwn_put {st : Sta} {i j : Nat} {x : Sl} (hx : ¬ x.isOwn) (h : ((st.put i x).e j).isOwn) : j ≠ i ∧ (st.e j).isOwn := by
  by_cases e : j = i
  · subst e; rw [put_same] at h; exact absurd h hx
  · rw [put_ne e] at h; exact ⟨e, h⟩
theorem Cor.set (c : Cor L Hf st σ H) {x : Sl} (hx : ¬ x.isOwn) (h : SlOk L Hf st.z.isSome σ H i x) : Cor L Hf (st.put i x) σ H where
  le := c.le
  pr := c.pr
  sl := fun j => by
    by_cases e : j = i
    · subst e; rw [put_same]; exact h
    · rw [put_ne e]; exact c.sl j
  dj := fun j k a h1 h2 => c.dj j k a (isOwn_put hx h1).2 (isOwn_put hx h2).2
  so := c.so
theorem Cor.drop (c : Cor L Hf st σ H) : Cor L Hf (st.put i .emp) σ H := c.set (fun h => h) trivial
theorem Cor.fill (c : Cor L Hf st σ H) (e : σ[i]? = some (some v)) (r : Rp Hf v d) : Cor L Hf (st.put i (.val d)) σ H := c.set (fun h => h) ⟨v, e, r⟩
theorem Free.drop (f : Free L Hf st σ a) {x : Sl} (hx : ¬ x.isOwn) : Free L Hf (st.put i x) σ a := ⟨f.1, f.2.1, f.2.2.1, fun j h => f.2.2.2 j (isOwn_put hx h).2⟩
/-- what an own slot holds -/
theorem Cor.own (c : Cor L Hf st σ H) {ds : List PyData} (h : st.e i = .own ds) : ∃ a vs, σ[i]? = some (some (.ref a)) ∧ H a = some (.lst vs) ∧ RpL Hf vs ds ∧ Free L Hf (st.put i .emp) σ a := by
  have q := c.sl i
  rw [h] at q
  obtain ⟨a, vs, e, ea, r, n, p, z⟩ := q
  refine ⟨a, vs, e, ea, r, n, p, z, fun j hj e' => ?_⟩
  obtain ⟨h1, h2⟩ := isOwn_put (x := .emp) (fun h => h) hj
  exact h1 (c.dj j i a h2 (by rw [h]; trivial) e' e)
end
theorem put_put {st : Sta} {i : Nat} {x y : Sl} : (st.put i x).put i y = st.put i y := by
  unfold Sta.put
  congr 1
  funext j
  by_cases e : j = i
  · simp only [if_pos e]
  · simp only [if_neg e]

/-! ### a value goes into another object, or into a slot: it is frozen -/
@[simp] def esc (st : Sta) : R → Option (PyData × Sta)
  | .dat d => some (d, st)
  | .fre ds => some (.list ds, st)
  | .slt i => match st.e i with
    | .own ds => some (.list ds, st.put i (.val (.list ds)))
    | .val d => some (d, st)
    | _ => none
theorem esc_ok {L : Lay} {Hf : Hp} {st st' : Sta} {σ : SS} {H : Hp} {v : V} {r : R} {d : PyData} (c : Cor L Hf st σ H) (h : ResOk L Hf st σ H v r) (e : esc st r = some (d, st')) : ∃ Hf', Sub Hf Hf' ∧ Cor L Hf' st' σ H ∧ Rp Hf' v d := by
  cases r with
  | dat d' => cases e; exact ⟨Hf, Sub.refl, c, h⟩
  | fre ds =>
    cases e
    obtain ⟨a, vs, rfl, ea, q, f⟩ := h
    have hs : Sub Hf (upd Hf a (.lst vs)) := Sub.ext f.1
    exact ⟨_, hs, c.freeze f ea, .lst upd_same (q.up hs)⟩
  | slt i =>
    obtain ⟨e1, ho⟩ := h
    unfold esc at e
    cases z : st.e i with
    | emp => rw [z] at ho; exact ho.elim
    | src => rw [z] at ho; exact ho.elim
    | val d' => rw [z] at ho; exact ho.elim
    | own ds =>
      simp only [z] at e
      cases e
      obtain ⟨a, vs, e2, ea, r, f⟩ := c.own z
      rw [e1] at e2; cases e2
      have hs : Sub Hf (upd Hf a (.lst vs)) := Sub.ext f.1
      have c2 := (c.drop (i := i)).freeze f ea
      have rp : Rp (upd Hf a (.lst vs)) (.ref a) (.list ds) := .lst upd_same (r.up hs)
      have c3 := c2.fill e1 rp
      rw [put_put] at c3
      exact ⟨_, hs, c3, rp⟩
theorem ResOk.rq {L : Lay} {Hf : Hp} {st : Sta} {σ : SS} {H : Hp} {v : V} {r : R} {d : PyData} (c : Cor L Hf st σ H) (h : ResOk L Hf st σ H v r) (e : res st r = some d) : Rq Hf H v d := by
  cases r with
  | dat d' => cases e; exact .inl h
  | fre ds => cases e; obtain ⟨a, vs, rfl, ea, q, _⟩ := h; exact .inr ⟨a, vs, ds, rfl, rfl, ea, q⟩
  | slt i => exact Opd.rq (r := .slt i) c h.1 e

/-! ### tests -/
abbrev MT := Sta → Option (Bool × Sta)
def AfterT (L : Lay) (Hf : Hp) (st : Sta) (σ : SS) (b : Bool) (Q : Bool → Hp → Prop) : Prop := ∀ H' Hf', Sub Hf Hf' → Cor L Hf' st σ H' → Q b H'
def rdT (m : MT) : TT := fun σ H Q => ∃ L Hf st b st', Cor L Hf st σ H ∧ m st = some (b, st') ∧ AfterT L Hf st' σ b Q
def TV (X : Cx) (e : Expr) (m : MT) : Prop := PT X e (rdT m)
def TW (X : Cx) (e : Expr) (m : MT) : Prop := PW X e (rdT m)
theorem tv_of {X : Cx} {e : Expr} {m : MT} (h : ∀ L Hf st b st' σ H Q, Cor L Hf st σ H → m st = some (b, st') → AfterT L Hf st' σ b Q → ∃ t, PT X e t ∧ t σ H Q) : TV X e m :=
  ⟨fun pins s σ H Q I ⟨L, Hf, st, b, st', c, e1, k⟩ => by
    obtain ⟨t, ht, q⟩ := h L Hf st b st' σ H Q c e1 k
    exact ht.run pins s σ H Q I q⟩
theorem tw_of {X : Cx} {e : Expr} {m : MT} (h : ∀ L Hf st b st' σ H Q, Cor L Hf st σ H → m st = some (b, st') → AfterT L Hf st' σ b Q → ∃ t, PW X e t ∧ t σ H Q) : TW X e m :=
  ⟨fun wh pins s σ H Q I ⟨L, Hf, st, b, st', c, e1, k⟩ => by
    obtain ⟨t, ht, q⟩ := h L Hf st b st' σ H Q c e1 k
    exact ht.run wh pins s σ H Q I q⟩
theorem TW.tv {X : Cx} {e : Expr} {m : MT} (h : TW X e m) : TV X e m := PW.pt h
theorem rdT.use {m : MT} {L : Lay} {Hf : Hp} {st : Sta} {σ : SS} {H : Hp} {Q : Bool → Hp → Prop} {b : Bool} {st' : Sta} (c : Cor L Hf st σ H) (e1 : m st = some (b, st')) (k : AfterT L Hf st' σ b Q) : rdT m σ H Q := ⟨L, Hf, st, b, st', c, e1, k⟩
theorem AfterT.sub {L : Lay} {Hf Hf' : Hp} {st : Sta} {σ : SS} {b : Bool} {Q : Bool → Hp → Prop} (k : AfterT L Hf st σ b Q) (s : Sub Hf Hf') : AfterT L Hf' st σ b Q := fun H' Hf'' s' => k H' Hf'' (s.trans s')
theorem After.sub {L : Lay} {Hf Hf' : Hp} {st : Sta} {σ : SS} {r : R} {Q : VK} (k : After L Hf st σ r Q) (s : Sub Hf Hf') : After L Hf' st σ r Q := fun v H' Hf'' s' => k v H' Hf'' (s.trans s')

@[simp] def truD : PyData → Option Bool
  | .none => some false
  | .bool b => some b
  | .int i => some (i != 0)
  | .str y => if y.length ≤ sizeLine then some ((y.length : Int) != 0) else none
  | .list xs => some (!xs.isEmpty)
  | .tuple xs => some (!xs.isEmpty)
  | .dict xs => some (!xs.isEmpty)
theorem RpL.empty {H : Hp} {ds : List PyData} {vs : List V} (h : RpL H vs ds) : vs.isEmpty = ds.isEmpty := by cases h <;> rfl
theorem RpK.empty {H : Hp} {ds : List (PyData × PyData)} {vs : List (Key × V)} (h : RpK H vs ds) : vs.isEmpty = ds.isEmpty := by cases h <;> rfl
theorem truV_of {K : PySem.W.Frag} {H : Hp} {v : V} {d : PyData} {b : Bool} (r : Rp H v d) (h : truD d = some b) : TruV K v H b := by
  cases r with
  | non => cases h; rfl
  | bl b => cases h; rfl
  | int i => cases h; rfl
  | str x =>
    have h' : (if x.length ≤ sizeLine then some ((x.length : Int) != 0) else none) = some b := h
    by_cases hx : x.length ≤ sizeLine
    · rw [if_pos hx] at h'; cases h'; exact ⟨hx, rfl⟩
    · rw [if_neg hx] at h'; cases h'
  | lst e q => cases h; exact .inl ⟨_, .of e, by rw [q.empty]⟩
  | tup e q => cases h; exact .inr (.inl ⟨_, .of e, by rw [q.empty]⟩)
  | dct e q => cases h; exact .inr (.inr ⟨_, e, by rw [q.empty]⟩)
@[simp] def mB (m : M) : MT := fun st => match m st with
  | some (.dat (.bool b), st') => some (b, st')
  | _ => none
@[simp] def mTru (m : M) : MT := fun st => (m st).bind fun (r, st1) => (res st1 r).bind fun d => (truD d).map fun b => (b, st1)
theorem mB_some {m : M} {st st' : Sta} {b : Bool} (h : mB m st = some (b, st')) : m st = some (.dat (.bool b), st') := by
  unfold mB at h
  split at h
  · rename_i e; cases h; exact e
  · cases h
theorem mTru_some {m : M} {st st' : Sta} {b : Bool} (h : mTru m st = some (b, st')) : ∃ r d, m st = some (r, st') ∧ res st' r = some d ∧ truD d = some b := by
  unfold mTru at h
  cases ha : m st with
  | none => rw [ha] at h; cases h
  | some p =>
    obtain ⟨r1, st1⟩ := p
    rw [ha] at h
    simp only [Option.bind_some] at h
    cases h1 : res st1 r1 with
    | none => rw [h1] at h; cases h
    | some d1 =>
      rw [h1] at h
      simp only [Option.bind_some] at h
      cases h2 : truD d1 with
      | none => rw [h2] at h; cases h
      | some b1 => rw [h2] at h; cases h; exact ⟨r1, d1, rfl, h1, h2⟩
section
variable {X : Cx} {ea eb ec : Expr} {a b : M} {pos : Pos} {rest : List Expr}
/-- a comparison as a test -/
theorem tv_cmp {op : CmpOp} {f : PyData → PyData → Option R} (ho : DOp X (compareOp op) f) (ha : EV X ea a) (hb : EV X eb b) (hm : behindInMarks op eb = false) : TV X (.Compare ea [op] [eb] pos) (mB (mBin f a b)) := by
  refine tv_of fun L Hf st r st' σ H Q c h k => ?_
  obtain ⟨r1, st1, r2, d1, d2, h1, h2, e1, e2, e3⟩ := mBin_some (mB_some h)
  refine ⟨_, pt_cmpR DOp.opR ha hb hm, ?_⟩
  refine two_use c h1 h2 fun x y H' Hf' s' c' o1 o2 => ?_
  refine ho Hf' H' x y d1 d2 (.dat (.bool r)) _ c'.le (o1.rq c' e1) (o2.rq c' e2) e3 fun v H'' g => ?_
  cases g with
  | old q => cases q; exact ⟨_, rfl, k _ _ s' c'⟩
/-- a name, a call, a subscript: its truth -/
theorem tv_tru (ha : EV X ea a) (he : ∀ whole, isTrue ea X.env whole = (do let v ← whole; standAt ea.pos; holding [v] (truthy v)) := by intro _; rfl) : TV X ea (mTru a) := by
  refine tv_of fun L Hf st r st' σ H Q c h k => ⟨_, pt_truth ha he, ?_⟩
  obtain ⟨r1, d, h1, h2, h3⟩ := mTru_some h
  exact ev_use c h1 fun v H' Hf' s' c' q => ⟨r, truV_of ((q.rq c' h2).rp c'.le) h3, k _ _ s' c'⟩
@[simp] def mNotT (m : MT) : MT := fun st => (m st).map fun (b, st') => (!b, st')
@[simp] def mAndT (m n : MT) : MT := fun st => (m st).bind fun (b, st1) => if b = true then n st1 else some (false, st1)
@[simp] def mOrT (m n : MT) : MT := fun st => (m st).bind fun (b, st1) => if b = true then some (true, st1) else n st1
theorem tv_not {m : MT} (h : TV X ea m) : TV X (.UnaryOp .Not ea pos) (mNotT m) := by
  refine tv_of fun L Hf st r st' σ H Q c e k => ⟨_, pt_not h, ?_⟩
  unfold mNotT at e
  cases q : m st with
  | none => rw [q] at e; cases e
  | some p =>
    obtain ⟨b, st1⟩ := p
    rw [q] at e; cases e
    exact rdT.use c q fun H' Hf' s' c' => k _ _ s' c'
theorem tw_and1 {m : MT} (h : TV X ea m) : TW X (.BoolOp .And [ea] pos) m := pw_and1 h
theorem tw_or1 {m : MT} (h : TV X ea m) : TW X (.BoolOp .Or [ea] pos) m := pw_or1 h
theorem tw_and {m n : MT} (h : TV X ea m) (h' : TW X (.BoolOp .And (eb :: rest) pos) n) : TW X (.BoolOp .And (ea :: eb :: rest) pos) (mAndT m n) := by
  refine tw_of fun L Hf st r st' σ H Q c e k => ⟨_, pw_and h h', ?_⟩
  unfold mAndT at e
  cases q : m st with
  | none => rw [q] at e; cases e
  | some p =>
    obtain ⟨b, st1⟩ := p
    rw [q] at e
    simp only [Option.bind_some] at e
    refine rdT.use c q fun H' Hf' s' c' => ?_
    cases b with
    | true =>
      rw [if_pos rfl] at e ⊢
      exact rdT.use c' e (k.sub s')
    | false => cases e; exact k _ _ s' c'
theorem tw_or {m n : MT} (h : TV X ea m) (h' : TW X (.BoolOp .Or (eb :: rest) pos) n) : TW X (.BoolOp .Or (ea :: eb :: rest) pos) (mOrT m n) := by
  refine tw_of fun L Hf st r st' σ H Q c e k => ⟨_, pw_or h h', ?_⟩
  unfold mOrT at e
  cases q : m st with
  | none => rw [q] at e; cases e
  | some p =>
    obtain ⟨b, st1⟩ := p
    rw [q] at e
    simp only [Option.bind_some] at e
    refine rdT.use c q fun H' Hf' s' c' => ?_
    cases b with
    | false =>
      simp only [Bool.false_eq_true, if_false] at e ⊢
      exact rdT.use c' e (k.sub s')
    | true => cases e; exact k _ _ s' c'
/-- chains -/
def mChain (f f' : PyData → PyData → Option R) (a b c : M) : M := fun st => (a st).bind fun (r1, st1) => (b st1).bind fun (r2, st2) => (res st2 r1).bind fun d1 => (res st2 r2).bind fun d2 => match f d1 d2 with
  | some (.dat (.bool true)) => (c st2).bind fun (r3, st3) => (res st3 r2).bind fun d2 => (res st3 r3).bind fun d3 => (f' d2 d3).map fun r => (r, st3)
  | some (.dat (.bool false)) => some (.dat (.bool false), st2)
  | _ => none
theorem bind_some2 {α β : Type} {x : Option α} {f : α → Option β} {y : β} (h : x.bind f = some y) : ∃ a, x = some a ∧ f a = some y := by
  cases x with
  | none => cases h
  | some a => exact ⟨a, rfl, h⟩
theorem chain_use {f f' : PyData → PyData → Option R} {c' : M} {op op' : CmpOp} (ho : DOp X (compareOp op) f) (ho' : DOp X (compareOp op') f') {L : Lay} {Hf : Hp} {st st' : Sta} {σ : SS} {H : Hp} {r : R} {Q : VK} (c : Cor L Hf st σ H)
    (h : mChain f f' a b c' st = some (r, st')) (k : After L Hf st' σ r Q) : tChain (fun x y H Q => ∃ r2 : R2, OpR X (compareOp op) r2 ∧ r2 x y H Q) (fun x y H Q => ∃ r2 : R2, OpR X (compareOp op') r2 ∧ r2 x y H Q) (rdE a) (rdE b) (rdE c') σ H Q := by
  unfold mChain at h
  obtain ⟨⟨r1, st1⟩, h1, h⟩ := bind_some2 h
  obtain ⟨⟨r2, st2⟩, h2, h⟩ := bind_some2 h
  obtain ⟨d1, e1, h⟩ := bind_some2 h
  obtain ⟨d2, e2, h⟩ := bind_some2 h
  refine two_use c h1 h2 fun x y H' Hf' s' c1 o1 o2 => ?_
  split at h
  · rename_i e3
    obtain ⟨⟨r3, st3⟩, h3, h⟩ := bind_some2 h
    obtain ⟨d2', e2', h⟩ := bind_some2 h
    obtain ⟨d3, e3', h⟩ := bind_some2 h
    refine ho Hf' H' x y d1 d2 _ _ c1.le (o1.rq c1 e1) (o2.rq c1 e2) e3 fun v H'' g => ?_
    cases g with
    | old q =>
      cases q
      refine ⟨true, rfl, ?_⟩
      rw [if_pos rfl]
      refine ev_use c1 h3 fun z H3 Hf3 s3 c3 q3 => ?_
      obtain ⟨Hf4, s4, c4, o4⟩ := q3.opd c3
      cases h5 : f' d2' d3 with
      | none => rw [h5] at h; cases h
      | some r5 =>
        rw [h5] at h; cases h
        exact ho' Hf4 H3 y z d2' d3 _ Q c4.le ((o2.mono (s3.trans s4)).rq c4 e2') (o4.rq c4 e3') h5 fun v H'' g => g.after c4 (k.sub (s'.trans (s3.trans s4)))
  · rename_i e3
    cases h
    refine ho Hf' H' x y d1 d2 _ _ c1.le (o1.rq c1 e1) (o2.rq c1 e2) e3 fun v H'' g => ?_
    cases g with
    | old q =>
      cases q
      refine ⟨false, rfl, ?_⟩
      simp only [Bool.false_eq_true, if_false]
      exact k _ _ _ s' c1 (.bl false)
  · cases h
theorem ev_chain {c' : M} {op op' : CmpOp} {f f' : PyData → PyData → Option R} (ho : DOp X (compareOp op) f) (ho' : DOp X (compareOp op') f') (ha : EV X ea a) (hb : EV X eb b) (hc : EV X ec c')
    (hm : lastMarks [op, op'] [eb, ec] = false := by with_unfolding_all rfl) : EV X (.Compare ea [op, op'] [eb, ec] pos) (mChain f f' a b c') :=
  ev_of fun L Hf st r st' σ H Q c h k => ⟨_, pe_chain DOp.opR DOp.opR ha hb hc hm, chain_use ho ho' c h k⟩
theorem tv_chain {c' : M} {op op' : CmpOp} {f f' : PyData → PyData → Option R} (ho : DOp X (compareOp op) f) (ho' : DOp X (compareOp op') f') (ha : EV X ea a) (hb : EV X eb b) (hc : EV X ec c')
    (hm : lastMarks [op, op'] [eb, ec] = false := by with_unfolding_all rfl) : TV X (.Compare ea [op, op'] [eb, ec] pos) (mB (mChain f f' a b c')) :=
  tv_of fun L Hf st r st' σ H Q c h k => ⟨_, pt_chain DOp.opR DOp.opR ha hb hc hm, chain_use ho ho' c (mB_some h) fun v H' Hf' s' c' q => by
    cases q; exact ⟨r, rfl, k _ _ s' c'⟩⟩

/-! ### and, or, not, if as values -/
@[simp] def mAndV (a b : M) : M := fun st => (a st).bind fun (r1, st1) => (res st1 r1).bind fun d1 => (truD d1).bind fun t => if t = true then b st1 else some (r1, st1)
@[simp] def mOrV (a b : M) : M := fun st => (a st).bind fun (r1, st1) => (res st1 r1).bind fun d1 => (truD d1).bind fun t => if t = true then some (r1, st1) else b st1
@[simp] def mNotV (a : M) : M := fun st => (a st).bind fun (r1, st1) => (res st1 r1).bind fun d1 => (truD d1).map fun t => (.dat (.bool (!t)), st1)
@[simp] def mIf (t : MT) (a b : M) : M := fun st => (t st).bind fun (c, st1) => if c = true then a st1 else b st1
theorem ev_one {op : BoolOp} {m : M} (h : EV X ea m) : EV X (.BoolOp op [ea] pos) m := pe_one h
theorem ev_and (ha : EV X ea a) (hb : EV X (.BoolOp .And (eb :: rest) pos) b) : EV X (.BoolOp .And (ea :: eb :: rest) pos) (mAndV a b) := by
  refine ev_of fun L Hf st r st' σ H Q c h k => ⟨_, pe_andT ha hb, ?_⟩
  unfold mAndV at h
  obtain ⟨⟨r1, st1⟩, h1, h⟩ := bind_some2 h
  obtain ⟨d1, e1, h⟩ := bind_some2 h
  obtain ⟨t, e2, h⟩ := bind_some2 h
  refine ev_use c h1 fun v H' Hf' s' c' q => ⟨t, truV_of ((q.rq c' e1).rp c'.le) e2, ?_⟩
  cases t with
  | true =>
    rw [if_pos rfl] at h ⊢
    exact ev_use c' h (k.sub s')
  | false => cases h; exact k _ _ _ s' c' q
theorem ev_or (ha : EV X ea a) (hb : EV X (.BoolOp .Or (eb :: rest) pos) b) : EV X (.BoolOp .Or (ea :: eb :: rest) pos) (mOrV a b) := by
  refine ev_of fun L Hf st r st' σ H Q c h k => ⟨_, pe_orT ha hb, ?_⟩
  unfold mOrV at h
  obtain ⟨⟨r1, st1⟩, h1, h⟩ := bind_some2 h
  obtain ⟨d1, e1, h⟩ := bind_some2 h
  obtain ⟨t, e2, h⟩ := bind_some2 h
  refine ev_use c h1 fun v H' Hf' s' c' q => ⟨t, truV_of ((q.rq c' e1).rp c'.le) e2, ?_⟩
  cases t with
  | false =>
    simp only [Bool.false_eq_true, if_false] at h ⊢
    exact ev_use c' h (k.sub s')
  | true => cases h; exact k _ _ _ s' c' q
theorem ev_not (ha : EV X ea a) : EV X (.UnaryOp .Not ea pos) (mNotV a) := by
  refine ev_of fun L Hf st r st' σ H Q c h k => ⟨_, pe_notT ha, ?_⟩
  unfold mNotV at h
  obtain ⟨⟨r1, st1⟩, h1, h⟩ := bind_some2 h
  obtain ⟨d1, e1, h⟩ := bind_some2 h
  cases e2 : truD d1 with
  | none => rw [e2] at h; cases h
  | some t =>
    rw [e2] at h; cases h
    exact ev_use c h1 fun v H' Hf' s' c' q => ⟨t, truV_of ((q.rq c' e1).rp c'.le) e2, k _ _ _ s' c' (.bl _)⟩
theorem ev_if {t : MT} (hc : TV X ec t) (ha : EV X ea a) (hb : EV X eb b) : EV X (.IfExp ec ea eb pos) (mIf t a b) := by
  refine ev_of fun L Hf st r st' σ H Q c h k => ⟨_, pe_ifExp hc ha hb, ?_⟩
  unfold mIf at h
  obtain ⟨⟨c1, st1⟩, h1, h⟩ := bind_some2 h
  dsimp only at h
  refine rdT.use c h1 fun H' Hf' s' c' => ?_
  cases c1 with
  | true =>
    rw [if_pos rfl] at h ⊢
    exact ev_use c' h (k.sub s')
  | false =>
    simp only [Bool.false_eq_true, if_false] at h ⊢
    exact ev_use c' h (k.sub s')
/-- -x -/
@[simp] def mNeg (a : M) : M := fun st => (a st).bind fun (r1, st1) => match r1 with
  | .dat (.int i) => some (.dat (.int (-i)), st1)
  | _ => none
theorem ev_neg (ha : EV X ea a) : EV X (.UnaryOp .USub ea pos) (mNeg a) := by
  refine ev_of fun L Hf st r st' σ H Q c h k => ⟨_, pe_un un_neg ha, ?_⟩
  unfold mNeg at h
  obtain ⟨⟨r1, st1⟩, h1, h⟩ := bind_some2 h
  dsimp only at h
  split at h
  · cases h
    exact ev_use c h1 fun v H' Hf' s' c' q => by
      cases q; exact ⟨_, rfl, k _ _ _ s' c' (.int _)⟩
  · cases h
end

/-! ### arguments -/
abbrev MA := Sta → Option (List R × Sta)
def rdA (m : MA) : TA := fun σ H Q => ∃ L Hf st rs st', Cor L Hf st σ H ∧ m st = some (rs, st') ∧ ∀ vs H' Hf', Sub Hf Hf' → Cor L Hf' st' σ H' → OpdL Hf' σ vs rs → Q vs H'
def AV (X : Cx) (es : List Expr) (m : MA) : Prop := PA X es (rdA m)
@[simp] def aNil : MA := fun st => some ([], st)
@[simp] def aCons (a : M) (m : MA) : MA := fun st => (a st).bind fun (r, st1) => (m st1).map fun (rs, st2) => (r :: rs, st2)
abbrev ME := Sta → Option (List PyData × Sta)
def rdF (m : ME) : TA := fun σ H Q => ∃ L Hf st ds st', Cor L Hf st σ H ∧ m st = some (ds, st') ∧ ∀ vs H' Hf', Sub Hf Hf' → Cor L Hf' st' σ H' → RpL Hf' vs ds → Q vs H'
def FV (X : Cx) (es : List Expr) (m : ME) : Prop := PA X es (rdF m)
@[simp] def fNil : ME := fun st => some ([], st)
@[simp] def fCons (a : M) (m : ME) : ME := fun st => (a st).bind fun (r, st1) => (esc st1 r).bind fun (d, st2) => (m st2).map fun (ds, st3) => (d :: ds, st3)
theorem map_some2 {α β : Type} {x : Option α} {f : α → β} {y : β} (h : x.map f = some y) : ∃ a, x = some a ∧ f a = y := by
  cases x with
  | none => cases h
  | some a => exact ⟨a, rfl, Option.some.inj h⟩
section
variable {X : Cx} {ea : Expr} {es : List Expr} {a : M} {pos : Pos}
theorem av_nil : AV X [] aNil := ⟨fun po pins s σ H Q I ⟨L, Hf, st, rs, st', c, e, k⟩ => by
  cases e
  exact (pa_nil (X := X)).run po pins s σ H Q I (k [] H Hf Sub.refl c .nil)⟩
theorem av_cons {m : MA} (ha : EV X ea a) (hr : AV X es m) (hs : starEach (ea :: es) X.env = (false, eval ea X.env) :: starEach es X.env := by rfl) : AV X (ea :: es) (aCons a m) :=
  ⟨fun po pins s σ H Q I ⟨L, Hf, st, rs, st', c, e, k⟩ => by
    unfold aCons at e
    obtain ⟨⟨r1, st1⟩, h1, h⟩ := bind_some2 e
    obtain ⟨⟨rs2, st2⟩, h2, h⟩ := map_some2 h
    cases h
    refine (pa_cons ha hr hs).run po pins s σ H Q I ?_
    refine ev_use c h1 fun v H1 Hf1 s1 c1 q1 => ?_
    obtain ⟨Hf2, s2, c2, o2⟩ := q1.opd c1
    exact ⟨L, Hf2, st1, rs2, _, c2, h2, fun vs H3 Hf3 s3 c3 q3 => k _ _ _ ((s1.trans s2).trans s3) c3 (.cons (o2.mono s3) q3)⟩⟩
theorem fv_nil : FV X [] fNil := ⟨fun po pins s σ H Q I ⟨L, Hf, st, rs, st', c, e, k⟩ => by
  cases e
  exact (pa_nil (X := X)).run po pins s σ H Q I (k [] H Hf Sub.refl c .nil)⟩
theorem fv_cons {m : ME} (ha : EV X ea a) (hr : FV X es m) (hs : starEach (ea :: es) X.env = (false, eval ea X.env) :: starEach es X.env := by rfl) : FV X (ea :: es) (fCons a m) :=
  ⟨fun po pins s σ H Q I ⟨L, Hf, st, rs, st', c, e, k⟩ => by
    unfold fCons at e
    obtain ⟨⟨r1, st1⟩, h1, h⟩ := bind_some2 e
    obtain ⟨⟨d, st1'⟩, h1', h⟩ := bind_some2 h
    obtain ⟨⟨rs2, st2⟩, h2, h⟩ := map_some2 h
    cases h
    refine (pa_cons ha hr hs).run po pins s σ H Q I ?_
    refine ev_use c h1 fun v H1 Hf1 s1 c1 q1 => ?_
    obtain ⟨Hf2, s2, c2, o2⟩ := esc_ok c1 q1 h1'
    exact ⟨L, Hf2, st1', rs2, _, c2, h2, fun vs H3 Hf3 s3 c3 q3 => k _ _ _ ((s1.trans s2).trans s3) c3 (.cons (o2.up s3) q3)⟩⟩
/-- displays -/
@[simp] def mTup (m : ME) : M := fun st => (m st).bind fun (ds, st1) => if ds.length ≤ sizeLine then some (.dat (.tuple ds), st1) else none
@[simp] def mLst (m : ME) : M := fun st => (m st).bind fun (ds, st1) => if ds.length ≤ sizeLine then some (.fre ds, st1) else none
theorem ev_tup {m : ME} {x1} (h : FV X es m) : EV X (.Tuple es x1 pos) (mTup m) := by
  refine ev_of fun L Hf st r st' σ H Q c e k => ⟨_, pe_tup h, ?_⟩
  unfold mTup at e
  obtain ⟨⟨ds, st1⟩, h1, e⟩ := bind_some2 e
  dsimp only at e
  split at e
  · cases e
    rename_i hl
    exact ⟨L, Hf, st, ds, _, c, h1, fun vs H1 Hf1 s1 c1 q1 => ⟨by rw [q1.length]; exact hl, fun p hp => (Grow.tup hp q1).after c1 (k.sub s1)⟩⟩
  · cases e
theorem ev_lst {m : ME} (h : FV X es m) : EV X (.List es pos) (mLst m) := by
  refine ev_of fun L Hf st r st' σ H Q c e k => ⟨_, pe_lst h, ?_⟩
  unfold mLst at e
  obtain ⟨⟨ds, st1⟩, h1, e⟩ := bind_some2 e
  dsimp only at e
  split at e
  · cases e
    rename_i hl
    exact ⟨L, Hf, st, ds, _, c, h1, fun vs H1 Hf1 s1 c1 q1 => ⟨by rw [q1.length]; exact hl, fun p hp => (Grow.lst hp q1).after c1 (k.sub s1)⟩⟩
  · cases e

/-! ### built-ins by their arguments' data -/
def DCall (X : Cx) (f : Value) (g : List PyData → Option R) : Prop :=
  ∀ (Hf H : Hp) (xs : List V) (ds : List PyData) (r : R) (Q : VK), Sub Hf H → RqL Hf H xs ds → g ds = some r → (∀ v H', Grow Hf H r v H' → Q v H') → ∃ rr, CallR X f rr ∧ rr xs H Q
theorem DCall.callR {f : Value} : CallR X f (fun xs H Q => ∃ rr, CallR X f rr ∧ rr xs H Q) := fun pins s σ H xs us Q I r ⟨rr, h, q⟩ => h pins s σ H xs us Q I r q
@[simp] def mCallB (g : List PyData → Option R) (m : MA) : M := fun st => (m st).bind fun (rs, st1) => (resL st1 rs).bind fun ds => (g ds).map fun r => (r, st1)
theorem callB_use {f : Value} {g : List PyData → Option R} {m : MA} (hd : DCall X f g) {L : Lay} {Hf : Hp} {st st' : Sta} {σ : SS} {H : Hp} {r : R} {Q : VK} (c : Cor L Hf st σ H) (e : mCallB g m st = some (r, st')) (k : After L Hf st' σ r Q) :
    tCB (fun xs H Q => ∃ rr, CallR X f rr ∧ rr xs H Q) (rdA m) σ H Q := by
  unfold mCallB at e
  obtain ⟨⟨rs, st1⟩, h1, e⟩ := bind_some2 e
  obtain ⟨ds, h2, e⟩ := bind_some2 e
  obtain ⟨r', h3, e⟩ := map_some2 e
  cases e
  exact ⟨L, Hf, st, rs, _, c, h1, fun vs H1 Hf1 s1 c1 q1 => hd Hf1 H1 vs ds _ _ c1.le (q1.rq c1 h2) h3 fun v H' gr => gr.after c1 (k.sub s1)⟩
theorem ev_callB {id : String} {g : List PyData → Option R} {m : MA} {x : Str} {p : Pos} (hd : DCall X (.builtin id) g) (hg : Gl X x) (hm : X.mg x = none) (hv : bootBuiltins x = some (.builtin id)) (ha : AV X (ea :: es) m) (hn : x ≠ "__name__" := by decide) (hdb : (x == ("__debug__" : Str)) = false := by decide)
    (he : starEach (ea :: es) X.env = (false, eval ea X.env) :: starEach es X.env := by rfl) (hpl : (backTo pos (starEach es X.env)).any (·.1) = false := by rfl) : EV X (.Call (.Name x p) (ea :: es) [] pos) (mCallB g m) :=
  ev_of fun L Hf st r st' σ H Q c e k => ⟨_, pe_callB DCall.callR hg hm hv ha hn hdb he hpl, callB_use hd c e k⟩
theorem ev_callTy {T : String} {g : List PyData → Option R} {m : MA} {x : Str} {p : Pos} (hd : DCall X (.type T) g) (hg : Gl X x) (hm : X.mg x = none) (hv : bootBuiltins x = some (.type T)) (ha : AV X (ea :: es) m) (hn : x ≠ "__name__" := by decide) (hdb : (x == ("__debug__" : Str)) = false := by decide)
    (he : starEach (ea :: es) X.env = (false, eval ea X.env) :: starEach es X.env := by rfl) (hpl : (backTo pos (starEach es X.env)).any (·.1) = false := by rfl) : EV X (.Call (.Name x p) (ea :: es) [] pos) (mCallB g m) :=
  ev_of fun L Hf st r st' σ H Q c e k => ⟨_, pe_callTy DCall.callR hg hm hv ha hn hdb he hpl, callB_use hd c e k⟩

/-! ### subscripts, slices -/
@[simp] def idxD : PyData → PyData → Option R
  | .list xs, .int i => (atI xs i).map .dat
  | .tuple xs, .int i => (atI xs i).map .dat
  | _, _ => none
theorem atI_len {α β : Type} {xs : List α} {ys : List β} (h : xs.length = ys.length) (i : Int) : (ixN xs.length i).bind (fun j => ys[j]?) = atI ys i := by unfold atI; rw [h]
theorem RpL.atI {H : Hp} {ds : List PyData} {vs : List V} {i : Int} {d : PyData} (h : RpL H vs ds) (e : L2.atI ds i = some d) : ∃ v, L2.atI vs i = some v ∧ Rp H v d := by
  unfold L2.atI at e ⊢
  obtain ⟨j, e1, e2⟩ := bind_some2 e
  obtain ⟨v, e3, r⟩ := h.get e2
  refine ⟨v, ?_, r⟩
  rw [h.length, e1]
  exact e3
theorem IxR.un : IxR X (fun x y H Q => ∃ r2 : R2, IxR X r2 ∧ r2 x y H Q) := fun value slice pins s σ H x y v u Q I rx ry ⟨r2, h, q⟩ hs => h value slice pins s σ H x y v u Q I rx ry q hs
theorem ev_ix {eb : Expr} {b : M} (ha : EV X ea a) (hb : EV X eb b) (hs : PlainIx eb := by intro _ _; rfl) : EV X (.Subscript ea eb pos) (mBin idxD a b) := by
  refine ev_of fun L Hf st r st' σ H Q c h k => ⟨_, pe_ix IxR.un ha hb hs, ?_⟩
  obtain ⟨r1, st1, r2, d1, d2, h1, h2, e1, e2, e3⟩ := mBin_some h
  refine two_use c h1 h2 fun x y H' Hf' s' c' o1 o2 => ?_
  have q1 := o1.rq c' e1
  have q2 := o2.rq c' e2
  unfold idxD at e3
  split at e3
  · obtain ⟨d, e4, e5⟩ := map_some2 e3
    cases e5
    obtain ⟨p, vs, rfl, ea, r1⟩ := q1.lst c'.le
    have z := q2.int
    subst z
    obtain ⟨v, e6, r⟩ := r1.atI e4
    exact ⟨_, ix_list, p, vs, _, v, rfl, rfl, .of ea, e6, k _ _ _ s' c' r⟩
  · obtain ⟨d, e4, e5⟩ := map_some2 e3
    cases e5
    obtain ⟨p, vs, rfl, ea, r1⟩ := q1.tup c'.le
    have z := q2.int
    subst z
    obtain ⟨v, e6, r⟩ := r1.atI e4
    exact ⟨_, ix_tup, p, vs, _, v, rfl, rfl, .of ea, e6, k _ _ _ s' c' r⟩
  · cases e3
abbrev MO := Sta → Option (Option Int × Sta)
def rdO (m : MO) : L2.TO := fun σ H Q => ∃ L Hf st i st', Cor L Hf st σ H ∧ m st = some (i, st') ∧ ∀ H' Hf', Sub Hf Hf' → Cor L Hf' st' σ H' → Q i H'
def OV (X : Cx) (e : Option Expr) (m : MO) : Prop := PO X e (rdO m)
@[simp] def oNo : MO := fun st => some (none, st)
@[simp] def oSome (m : M) : MO := fun st => match m st with
  | some (.dat (.int i), st') => some (some i, st')
  | _ => none
theorem ov_no : OV X none oNo := ⟨fun pins s σ H Q I ⟨L, Hf, st, i, st', c, e, k⟩ => by
  cases e
  exact (po_none (X := X)).run pins s σ H Q I (k H Hf Sub.refl c)⟩
theorem ov_some (ha : EV X ea a) : OV X (some ea) (oSome a) := ⟨fun pins s σ H Q I ⟨L, Hf, st, i, st', c, e, k⟩ => by
  unfold oSome at e
  split at e
  · rename_i j st1 h1
    cases e
    exact (po_some ha).run pins s σ H Q I (ev_use c h1 fun v H' Hf' s' c' q => by cases q; exact ⟨j, rfl, k _ _ s' c'⟩)
  · cases e⟩
def cutD (xs : List PyData) (lo hi : Option Int) : List PyData := (xs.drop (HT.sIx xs.length 0 lo)).take (HT.sIx xs.length xs.length hi - HT.sIx xs.length 0 lo)
theorem RpL.cut {H : Hp} {ds : List PyData} {vs : List V} (h : RpL H vs ds) (lo hi : Option Int) : RpL H (cutV vs lo hi) (cutD ds lo hi) := by
  unfold cutV cutD
  rw [h.length]
  exact (h.drop _).take _
@[simp] def slD (d : PyData) (lo hi : Option Int) : Option R := match d with
  | .list xs => some (.fre (cutD xs lo hi))
  | .tuple xs => some (.dat (.tuple (cutD xs lo hi)))
  | _ => none
@[simp] def mSl (a : M) (lo hi : MO) : M := fun st => (a st).bind fun (r1, st1) => (lo st1).bind fun (l, st2) => (hi st2).bind fun (h, st3) => (res st3 r1).bind fun d => (slD d l h).map fun r => (r, st3)
theorem SlR.un : SlR X (fun x lo hi H Q => ∃ r : V → Option Int → Option Int → Hp → VK → Prop, SlR X r ∧ r x lo hi H Q) := fun pins s σ H x v vl vu lo hi sl Q I rx hs pl pu ⟨r, h, q⟩ => h pins s σ H x v vl vu lo hi sl Q I rx hs pl pu q
theorem cutD_all (xs : List PyData) {lo hi : Option Int} (h : HT.sIx xs.length 0 lo = 0 ∧ HT.sIx xs.length xs.length hi = xs.length) : cutD xs lo hi = xs := by
  unfold cutD
  rw [h.1, h.2, List.drop_zero, Nat.sub_zero, List.take_length]
theorem ev_sl {elo ehi : Option Expr} {lo hi : MO} {p2 : Pos} (ha : EV X ea a) (hl : OV X elo lo) (hh : OV X ehi hi) : EV X (.Subscript ea (.Slice elo ehi none p2) pos) (mSl a lo hi) := by
  refine ev_of fun L Hf st r st' σ H Q c h k => ⟨_, pe_slice SlR.un ha hl hh, ?_⟩
  unfold mSl at h
  obtain ⟨⟨r1, st1⟩, h1, h⟩ := bind_some2 h
  obtain ⟨⟨l, st2⟩, h2, h⟩ := bind_some2 h
  obtain ⟨⟨u, st3⟩, h3, h⟩ := bind_some2 h
  obtain ⟨d, e1, h⟩ := bind_some2 h
  obtain ⟨r', e2, h⟩ := map_some2 h
  cases h
  refine ev_use c h1 fun v H1 Hf1 s1 c1 q1 => ?_
  obtain ⟨Hf2, s2, c2, o2⟩ := q1.opd c1
  refine ⟨L, Hf2, st1, l, st2, c2, h2, fun H3 Hf3 s3 c3 => ⟨L, Hf3, st2, u, _, c3, h3, fun H4 Hf4 s4 c4 => ?_⟩⟩
  have q := (o2.mono (s3.trans s4)).rq c4 e1
  have k' := k.sub ((s1.trans s2).trans (s3.trans s4))
  unfold slD at e2
  split at e2
  · cases e2
    obtain ⟨p, vs, rfl, ea, r1⟩ := q.lst c4.le
    exact ⟨_, sl_list, p, vs, rfl, .of ea, fun l hl => (Grow.lst hl (r1.cut _ _)).after c4 k'⟩
  · cases e2
    obtain ⟨p, vs, rfl, ea, r1⟩ := q.tup c4.le
    refine ⟨_, sl_tupA, p, vs, rfl, .of ea, fun hw => ?_, fun _ l hl => (Grow.tup hl (r1.cut _ _)).after c4 k'⟩
    rw [r1.length] at hw
    rw [cutD_all _ hw] at k'
    rcases q with q | ⟨_, _, _, _, z, _⟩
    · exact k' _ _ _ Sub.refl c4 q
    · cases z
  · cases e2
end
end NV
set_option Elab.async false
set_option linter.all false
set_option maxRecDepth 100000
set_option maxHeartbeats 4000000
/-! NV4: built-ins by data, repr, isinstance, methods of lists -/
namespace NV
open PySem PySem.Spec PyProof.Rows L2

/-! ### repr -/
mutual
def nol : PyData → Bool
  | .none | .bool _ | .int _ | .str _ => true
  | .list _ => false
  | .tuple xs => nolA xs
  | .dict kvs => nolK kvs
def nolA : List PyData → Bool
  | [] => true
  | x :: xs => nol x && nolA xs
def nolK : List (PyData × PyData) → Bool
  | [] => true
  | (k, v) :: r => nol v && nolK r
end
section
variable {X : Cx} {pins : List (Addr × Obj)} {σ : SS} {H : Hp} {s : Shared}
theorem keyD_reads {h : Heap} {k : Key} {v : Value} (e : keyIs k v = true) : Reads h v (keyD k) [] := by
  rcases keyIs_shape e with ⟨i, t, rfl, rfl⟩ | ⟨x, t, rfl, rfl⟩
  · exact .int i t
  · exact .str x t
mutual
theorem Rp.reads (I : Inv X pins σ H s) : ∀ (d : PyData) (v : V) (u : Value), Rp H v d → RelV v u → ∃ as, Reads s.heap u d as ∧ (nol d = true → ∀ a ∈ as, (a == sysModules) = false)
  | .none, _, _, h, r => by
    cases h; cases r
    exact ⟨_, Reads.none, fun _ a ha => nomatch ha⟩
  | .bool b, _, _, h, r => by
    cases h; cases r
    exact ⟨_, Reads.bool b, fun _ a ha => nomatch ha⟩
  | .int i, _, _, h, r => by
    cases h
    obtain ⟨t, rfl⟩ := r
    exact ⟨_, Reads.int i t, fun _ a ha => nomatch ha⟩
  | .str x, _, _, h, r => by
    cases h
    obtain ⟨t, rfl⟩ := r
    exact ⟨_, Reads.str x t, fun _ a ha => nomatch ha⟩
  | .list ds, _, _, h, r => by
    cases h with
    | lst e ha =>
      cases r
      obtain ⟨its, rv, ⟨o, n, ho, hc, _, hd⟩, _⟩ := I.list (SqL.of e)
      obtain ⟨as, hr, _⟩ := Rp.readsAll I ds _ its ha rv
      exact ⟨_, Reads.list ho hc hd hr, fun z => by simp only [nol] at z; cases z⟩
  | .tuple ds, _, _, h, r => by
    cases h with
    | tup e ha =>
      cases r
      obtain ⟨its, rv, ⟨o, ho, hc, n, hd⟩, _⟩ := I.tuple (SqT.of e)
      obtain ⟨as, hr, hs⟩ := Rp.readsAll I ds _ its ha rv
      exact ⟨_, Reads.tuple ho hc hd hr, fun z => hs (by simpa only [nol] using z)⟩
  | .dict ks, _, _, h, r => by
    cases h with
    | dct e ha =>
      cases r
      obtain ⟨_, hsys, vs, rv, o, es, ep, ho, hex, hd, _, hp, _⟩ := I.hok _ _ e
      obtain ⟨as, bs, h1, h2, h3⟩ := Rp.readsK I ks _ vs es.toList ha rv hp
      refine ⟨_, Reads.dict ho hex.1 hd h1 h2, fun z a ha => ?_⟩
      have z' : nolK ks = true := by simpa only [nol] using z
      have q := h3 z'
      rw [List.cons_append] at ha
      rcases List.mem_cons.mp ha with rfl | ha
      · exact hsys
      · exact q a ha
theorem Rp.readsAll (I : Inv X pins σ H s) : ∀ (ds : List PyData) (vs : List V) (us : List Value), RpL H vs ds → Vals vs us → ∃ as, ReadsAll s.heap us ds as ∧ (nolA ds = true → ∀ a ∈ as, (a == sysModules) = false)
  | [], _, _, h, r => by
    cases h; cases r
    exact ⟨_, ReadsAll.nil, fun _ a ha => nomatch ha⟩
  | d :: ds, _, _, h, r => by
    cases h with
    | cons h1 h2 =>
      cases r with
      | cons r1 r2 =>
        obtain ⟨as, q1, z1⟩ := Rp.reads I d _ _ h1 r1
        obtain ⟨bs, q2, z2⟩ := Rp.readsAll I ds _ _ h2 r2
        refine ⟨_, ReadsAll.cons q1 q2, fun z a ha => ?_⟩
        simp only [nolA, Bool.and_eq_true] at z
        rcases List.mem_append.mp ha with ha | ha
        · exact z1 z.1 a ha
        · exact z2 z.2 a ha
theorem Rp.readsK (I : Inv X pins σ H s) : ∀ (ds : List (PyData × PyData)) (kvs : List (Key × V)) (vs : List (Key × Value)) (es : List DictEntry), RpK H kvs ds → KV kvs vs → Pairs (mixKind X.prog X.w) es vs →
    ∃ as bs, ReadsAll s.heap (es.map (·.key)) (ds.map (·.1)) as ∧ ReadsAll s.heap (es.map (·.val)) (ds.map (·.2)) bs ∧ (nolK ds = true → ∀ a ∈ as ++ bs, (a == sysModules) = false)
  | [], _, _, _, h, r, p => by
    cases h; cases r; cases p
    exact ⟨_, _, ReadsAll.nil, ReadsAll.nil, fun _ a ha => nomatch ha⟩
  | (k, d) :: ds, _, _, _, h, r, p => by
    cases h with
    | cons h1 h2 =>
      cases r with
      | cons r1 r2 =>
        cases p with
        | cons p1 p2 p3 =>
          obtain ⟨bs, q1, z1⟩ := Rp.reads I d _ _ h1 r1.2
          obtain ⟨as', bs', q2, q3, z2⟩ := Rp.readsK I ds _ _ _ h2 r2 p3
          have e1 := r1.1
          dsimp only at e1
          rw [← e1] at p1
          rw [← p2] at q1
          refine ⟨_, _, ReadsAll.cons (keyD_reads p1) q2, ReadsAll.cons q1 q3, fun z a ha => ?_⟩
          simp only [nolK, Bool.and_eq_true] at z
          rw [List.nil_append] at ha
          rcases List.mem_append.mp ha with ha | ha
          · exact z2 z.2 a (List.mem_append_left _ ha)
          · rcases List.mem_append.mp ha with ha | ha
            · exact z1 z.1 a ha
            · exact z2 z.2 a (List.mem_append_right _ ha)
end
end
def reprOk (d : PyData) : Bool := d.showable && decide (d.shown.length ≤ sizeLine) && decide (d.depth ≤ 64) && (!d.hasDict || nol d)
def reprD : List PyData → Option R
  | [d] => if reprOk d = true then some (.dat (.str d.shown)) else none
  | _ => none
theorem call_reprR {X : Cx} (g : Gd X) : CallR X (.builtin "repr") (fun xs H Q => ∃ v d, xs = [v] ∧ Rp H v d ∧ reprOk d = true ∧ Q (.str d.shown) H) := by
  intro pins s σ H xs us Q I r h
  obtain ⟨v, d, rfl, hr, hok, q⟩ := h
  obtain ⟨u, rfl, ru⟩ := vals1 r
  unfold reprOk at hok
  simp only [Bool.and_eq_true, decide_eq_true_eq, Bool.or_eq_true, Bool.not_eq_true'] at hok
  obtain ⟨⟨⟨h1, h2⟩, h3⟩, h4⟩ := hok
  have hu := g.un
  have fin : ∀ h' u tk, (∀ b o, s.heap.get? b = some o → h'.get? b = some o) → EP X pins σ Q (.str d.shown u) { s with heap := h', toks := tk } := fun h' u tk hk => ⟨.str d.shown, H, I.kept hk, ⟨_, rfl⟩, q⟩
  obtain ⟨as, rd, hsys⟩ := Rp.reads I d v u hr ru
  have big : ∀ a, u = .ref a → wpAny (model X.prog X.w) X.A (call (.builtin "repr") [.ref a]) (EP X pins σ Q) X.xe s := fun a e => by
    subst e
    refine PySem.repr_of_reads' rd h1 (fun hd hm => ?_) g.gu (by omega) (fun _ _ e => e) fin h2
    rcases h4 with h4 | h4
    · rw [h4] at hd; cases hd
    · have := hsys h4 _ hm
      simp at this
  cases hr with
  | non =>
    cases ru
    refine PySem.P.repr_of_none ?_
    simp only [PyData.shown] at fin
    exact fin s.heap _ _ fun _ _ e => e
  | bl b =>
    cases ru
    refine PySem.P.repr_of_bool ?_
    simp only [PyData.shown] at fin
    cases b <;> exact fin s.heap _ _ fun _ _ e => e
  | int i =>
    obtain ⟨t, rfl⟩ := ru
    simp only [PyData.shown] at fin
    exact PySem.P.repr_of_int (by simpa [PyData.showable] using h1) (fin s.heap _ _ fun _ _ e => e)
  | str x =>
    obtain ⟨t, rfl⟩ := ru
    simp only [PyData.shown] at fin h2
    exact PySem.P.repr_of_str (fin s.heap _ _ fun _ _ e => e) h2
  | lst e _ => cases ru; exact big _ rfl
  | tup e _ => cases ru; exact big _ rfl
  | dct e _ => cases ru; exact big _ rfl
section
variable {X : Cx}
theorem RqL.one {Hf H : Hp} {xs : List V} {d : PyData} (h : RqL Hf H xs [d]) : ∃ v, xs = [v] ∧ Rq Hf H v d := by
  cases h with
  | cons r t => cases t; exact ⟨_, rfl, r⟩
theorem RqL.two {Hf H : Hp} {xs : List V} {d e : PyData} (h : RqL Hf H xs [d, e]) : ∃ v w, xs = [v, w] ∧ Rq Hf H v d ∧ Rq Hf H w e := by
  cases h with
  | cons r t => cases t with | cons r' t => cases t; exact ⟨_, _, rfl, r, r'⟩
theorem c_repr (g : Gd X) : DCall X (.builtin "repr") reprD := by
  intro Hf H xs ds r Q s rx e k
  unfold reprD at e
  split at e
  · split at e
    · cases e
      rename_i d h
      obtain ⟨v, rfl, q⟩ := rx.one
      exact ⟨_, call_reprR g, v, d, rfl, q.rp s, h, k _ _ (.old (.str _))⟩
    · cases e
  · cases e

/-! ### len, abs, min, max, int, tuple, list, sorted, sum, all, any -/
@[simp] def lenD : List PyData → Option R
  | [.list xs] => some (.dat (.int xs.length))
  | [.tuple xs] => some (.dat (.int xs.length))
  | [.str x] => if x.length ≤ sizeLine then some (.dat (.int x.length)) else none
  | _ => none
theorem c_len : DCall X (.builtin "len") lenD := by
  intro Hf H xs ds r Q s rx e k
  unfold lenD at e
  split at e
  · cases e
    obtain ⟨v, rfl, q⟩ := rx.one
    obtain ⟨a, vs, rfl, ea, q⟩ := q.lst s
    exact ⟨_, call_len, _, _, rfl, .inl ⟨_, .of ea, rfl⟩, by rw [q.length]; exact k _ _ (.old (.int _))⟩
  · cases e
    obtain ⟨v, rfl, q⟩ := rx.one
    obtain ⟨a, vs, rfl, ea, q⟩ := q.tup s
    exact ⟨_, call_len, _, _, rfl, .inr ⟨_, .of ea, rfl⟩, by rw [q.length]; exact k _ _ (.old (.int _))⟩
  · split at e
    · cases e
      rename_i h
      obtain ⟨v, rfl, q⟩ := rx.one
      have z := q.str
      subst z
      exact ⟨_, call_len, _, _, rfl, ⟨h, rfl⟩, k _ _ (.old (.int _))⟩
    · cases e
  · cases e
@[simp] def absD : List PyData → Option R
  | [.int i] => some (.dat (.int (if i < 0 then -i else i)))
  | _ => none
theorem c_abs : DCall X (.builtin "abs") absD := by
  intro Hf H xs ds r Q s rx e k
  unfold absD at e
  split at e
  · cases e
    obtain ⟨v, rfl, q⟩ := rx.one
    have z := q.int
    subst z
    exact ⟨_, call_abs, _, rfl, k _ _ (.old (.int _))⟩
  · cases e
def intsOf : List PyData → Option (List Int)
  | [] => some []
  | .int i :: r => (intsOf r).map fun l => i :: l
  | _ :: _ => none
theorem intsOf_some : ∀ {ds : List PyData} {ns : List Int}, intsOf ds = some ns → ds = ns.map .int
  | [], _, h => by cases h; rfl
  | .int i :: r, _, h => by
    unfold intsOf at h
    obtain ⟨l, h1, h2⟩ := map_some2 h
    subst h2
    rw [intsOf_some h1]; rfl
  | .none :: _, _, h => by cases h
  | .bool _ :: _, _, h => by cases h
  | .str _ :: _, _, h => by cases h
  | .list _ :: _, _, h => by cases h
  | .tuple _ :: _, _, h => by cases h
  | .dict _ :: _, _, h => by cases h
theorem intsOf_map (ns : List Int) : intsOf (ns.map .int) = some ns := by
  induction ns with
  | nil => rfl
  | cons n ns ih => rw [List.map_cons]; unfold intsOf; rw [ih]; rfl
def blsOf : List PyData → Option (List Bool)
  | [] => some []
  | .bool i :: r => (blsOf r).map fun l => i :: l
  | _ :: _ => none
theorem blsOf_some : ∀ {ds : List PyData} {ns : List Bool}, blsOf ds = some ns → ds = ns.map .bool
  | [], _, h => by cases h; rfl
  | .bool i :: r, _, h => by
    unfold blsOf at h
    obtain ⟨l, h1, h2⟩ := map_some2 h
    subst h2
    rw [blsOf_some h1]; rfl
  | .none :: _, _, h => by cases h
  | .int _ :: _, _, h => by cases h
  | .str _ :: _, _, h => by cases h
  | .list _ :: _, _, h => by cases h
  | .tuple _ :: _, _, h => by cases h
  | .dict _ :: _, _, h => by cases h
theorem blsOf_map (ns : List Bool) : blsOf (ns.map .bool) = some ns := by
  induction ns with
  | nil => rfl
  | cons n ns ih => rw [List.map_cons]; unfold blsOf; rw [ih]; rfl
def minL : List Int → Option Int
  | [] => none
  | x :: xs => some (xs.foldl min x)
def maxL : List Int → Option Int
  | [] => none
  | x :: xs => some (xs.foldl max x)
theorem foldl_min (xs : List Int) : ∀ x : Int, (xs.foldl min x = x ∨ xs.foldl min x ∈ xs) ∧ xs.foldl min x ≤ x ∧ ∀ y ∈ xs, xs.foldl min x ≤ y := by
  induction xs with
  | nil => intro x; exact ⟨.inl rfl, Int.le_refl _, fun y hy => nomatch hy⟩
  | cons z zs ih =>
    intro x
    obtain ⟨h1, h2, h3⟩ := ih (min x z)
    rw [List.foldl_cons]
    refine ⟨?_, by omega, fun y hy => ?_⟩
    · rcases h1 with h1 | h1
      · rw [h1]
        by_cases hx : x ≤ z
        · exact .inl (by omega)
        · exact .inr (by rw [show min x z = z by omega]; exact List.mem_cons_self)
      · exact .inr (List.mem_cons_of_mem _ h1)
    · rcases List.mem_cons.mp hy with rfl | hy
      · omega
      · exact h3 y hy
theorem foldl_max (xs : List Int) : ∀ x : Int, (xs.foldl max x = x ∨ xs.foldl max x ∈ xs) ∧ x ≤ xs.foldl max x ∧ ∀ y ∈ xs, y ≤ xs.foldl max x := by
  induction xs with
  | nil => intro x; exact ⟨.inl rfl, Int.le_refl _, fun y hy => nomatch hy⟩
  | cons z zs ih =>
    intro x
    obtain ⟨h1, h2, h3⟩ := ih (max x z)
    rw [List.foldl_cons]
    refine ⟨?_, by omega, fun y hy => ?_⟩
    · rcases h1 with h1 | h1
      · rw [h1]
        by_cases hx : z ≤ x
        · exact .inl (by omega)
        · exact .inr (by rw [show max x z = z by omega]; exact List.mem_cons_self)
      · exact .inr (List.mem_cons_of_mem _ h1)
    · rcases List.mem_cons.mp hy with rfl | hy
      · omega
      · exact h3 y hy
theorem minL_is {ns : List Int} {m k : Int} (h : minL ns = some k) (h1 : m ∈ ns) (h2 : ∀ y ∈ ns, m ≤ y) : m = k := by
  cases ns with
  | nil => cases h
  | cons x xs =>
    have h' : some (xs.foldl min x) = some k := h
    cases h'
    obtain ⟨a, b, c⟩ := foldl_min xs x
    have le1 : m ≤ xs.foldl min x := by
      rcases a with a | a
      · rw [a]; exact h2 x List.mem_cons_self
      · exact h2 _ (List.mem_cons_of_mem _ a)
    have le2 : xs.foldl min x ≤ m := by
      rcases List.mem_cons.mp h1 with rfl | h1
      · exact b
      · exact c _ h1
    omega
theorem maxL_is {ns : List Int} {m k : Int} (h : maxL ns = some k) (h1 : m ∈ ns) (h2 : ∀ y ∈ ns, y ≤ m) : m = k := by
  cases ns with
  | nil => cases h
  | cons x xs =>
    have h' : some (xs.foldl max x) = some k := h
    cases h'
    obtain ⟨a, b, c⟩ := foldl_max xs x
    have le1 : xs.foldl max x ≤ m := by
      rcases a with a | a
      · rw [a]; exact h2 x List.mem_cons_self
      · exact h2 _ (List.mem_cons_of_mem _ a)
    have le2 : m ≤ xs.foldl max x := by
      rcases List.mem_cons.mp h1 with rfl | h1
      · exact b
      · exact c _ h1
    omega
def minD : List PyData → Option R
  | [.int i, .int j] => some (.dat (.int (if j < i then j else i)))
  | [.list ds] => (intsOf ds).bind fun ns => (minL ns).map fun k => .dat (.int k)
  | _ => none
def maxD : List PyData → Option R
  | [.int i, .int j] => some (.dat (.int (if j > i then j else i)))
  | [.list ds] => (intsOf ds).bind fun ns => (maxL ns).map fun k => .dat (.int k)
  | _ => none
theorem c_min (g : Gd X) : DCall X (.builtin "min") minD := by
  intro Hf H xs ds r Q s rx e k
  unfold minD at e
  split at e
  · cases e
    obtain ⟨v, w, rfl, q1, q2⟩ := rx.two
    have z1 := q1.int; have z2 := q2.int
    subst z1; subst z2
    exact ⟨_, call_min2 g.calm, _, _, rfl, k _ _ (.old (.int _))⟩
  · obtain ⟨ns, e1, e⟩ := bind_some2 e
    obtain ⟨m, e2, e⟩ := map_some2 e
    subst e
    obtain ⟨v, rfl, q⟩ := rx.one
    obtain ⟨a, vs, rfl, ea, q⟩ := q.lst s
    have z := intsOf_some e1
    subst z
    have z := q.ints
    subst z
    refine ⟨_, cr_min g.calm, a, ns, rfl, .of ea, ?_, fun m' h1 h2 => ?_⟩
    · cases ns with
      | nil => cases e2
      | cons x xs => simp
    · rw [minL_is e2 h1 h2]; exact k _ _ (.old (.int _))
  · cases e
theorem c_max (g : Gd X) : DCall X (.builtin "max") maxD := by
  intro Hf H xs ds r Q s rx e k
  unfold maxD at e
  split at e
  · cases e
    obtain ⟨v, w, rfl, q1, q2⟩ := rx.two
    have z1 := q1.int; have z2 := q2.int
    subst z1; subst z2
    exact ⟨_, call_max2 g.calm, _, _, rfl, k _ _ (.old (.int _))⟩
  · obtain ⟨ns, e1, e⟩ := bind_some2 e
    obtain ⟨m, e2, e⟩ := map_some2 e
    subst e
    obtain ⟨v, rfl, q⟩ := rx.one
    obtain ⟨a, vs, rfl, ea, q⟩ := q.lst s
    have z := intsOf_some e1
    subst z
    have z := q.ints
    subst z
    refine ⟨_, cr_max g.calm, a, ns, rfl, .of ea, ?_, fun m' h1 h2 => ?_⟩
    · cases ns with
      | nil => cases e2
      | cons x xs => simp
    · rw [maxL_is e2 h1 h2]; exact k _ _ (.old (.int _))
  · cases e
def intD : List PyData → Option R
  | [.int i] => some (.dat (.int i))
  | [.bool b] => some (.dat (.int (if b then 1 else 0)))
  | _ => none
theorem c_int : DCall X (.type "int") intD := by
  intro Hf H xs ds r Q s rx e k
  unfold intD at e
  split at e
  · cases e
    obtain ⟨v, rfl, q⟩ := rx.one
    have z := q.int
    subst z
    exact ⟨_, call_int1, .inl ⟨_, rfl, k _ _ (.old (.int _))⟩⟩
  · cases e
    obtain ⟨v, rfl, q⟩ := rx.one
    have z := q.bl
    subst z
    exact ⟨_, call_int1, .inr ⟨_, rfl, k _ _ (.old (.int _))⟩⟩
  · cases e
@[simp] def tupleD : List PyData → Option R
  | [.list xs] => some (.dat (.tuple xs))
  | [.tuple xs] => some (.dat (.tuple xs))
  | _ => none
theorem c_tuple : DCall X (.type "tuple") tupleD := by
  intro Hf H xs ds r Q s rx e k
  unfold tupleD at e
  split at e
  · cases e
    obtain ⟨v, rfl, q⟩ := rx.one
    obtain ⟨a, vs, rfl, ea, q⟩ := q.lst s
    exact ⟨_, call_tuple_of, a, vs, rfl, .inl ⟨.of ea, fun l hl => k _ _ (.tup hl q)⟩⟩
  · cases e
    obtain ⟨v, rfl, q0⟩ := rx.one
    obtain ⟨a, vs, rfl, ea, q⟩ := q0.tup s
    rcases q0 with q0 | ⟨_, _, _, _, z, _⟩
    · exact ⟨_, call_tuple_of, a, vs, rfl, .inr ⟨.of ea, k _ _ (.old q0)⟩⟩
    · cases z
  · cases e
@[simp] def listD : List PyData → Option R
  | [.list xs] => some (.fre xs)
  | [.tuple xs] => some (.fre xs)
  | _ => none
theorem c_list : DCall X (.type "list") listD := by
  intro Hf H xs ds r Q s rx e k
  unfold listD at e
  split at e
  · cases e
    obtain ⟨v, rfl, q⟩ := rx.one
    obtain ⟨a, vs, rfl, ea, q⟩ := q.lst s
    exact ⟨_, call_list_of, a, vs, rfl, .inl (.of ea), fun l hl => k _ _ (.lst hl q)⟩
  · cases e
    obtain ⟨v, rfl, q0⟩ := rx.one
    obtain ⟨a, vs, rfl, ea, q⟩ := q0.tup s
    exact ⟨_, call_list_of, a, vs, rfl, .inr (.of ea), fun l hl => k _ _ (.lst hl q)⟩
  · cases e
/-- the ascending one -/
def srt (ns : List Int) : List Int := ns.mergeSort (fun a b => decide (a ≤ b))
theorem srt_perm (ns : List Int) : (srt ns).Perm ns := List.mergeSort_perm ns _
theorem srt_up (ns : List Int) : (srt ns).Pairwise (· ≤ ·) := by
  have h := List.pairwise_mergeSort (le := fun (a b : Int) => decide (a ≤ b)) (fun a b c h1 h2 => by simp at *; omega) (fun a b => by simp; omega) ns
  exact h.imp fun h => by simpa using h
theorem srt_is {ns ms : List Int} (p : ms.Perm ns) (u : ms.Pairwise (· ≤ ·)) : ms = srt ns :=
  (p.trans (srt_perm ns).symm).eq_of_pairwise (fun a b _ _ h1 h2 => by omega) u (srt_up ns)
def sortedD : List PyData → Option R
  | [.list ds] => (intsOf ds).map fun ns => .fre ((srt ns).map .int)
  | _ => none
theorem c_sorted : DCall X (.builtin "sorted") sortedD := by
  intro Hf H xs ds r Q s rx e k
  unfold sortedD at e
  split at e
  · obtain ⟨ns, e1, e⟩ := map_some2 e
    subst e
    obtain ⟨v, rfl, q⟩ := rx.one
    obtain ⟨a, vs, rfl, ea, q⟩ := q.lst s
    have z := intsOf_some e1
    subst z
    have z := q.ints
    subst z
    refine ⟨_, cr_sortedI, a, ns, rfl, .of ea, fun ns' p h1 h2 hp => ?_⟩
    rw [srt_is h1 h2]
    exact k _ _ (.lst hp (RpL.ofInts _))
  · cases e
def sumD : List PyData → Option R
  | [.list ds] => (intsOf ds).map fun ns => .dat (.int ns.sum)
  | _ => none
theorem c_sum (g : Gd X) : DCall X (.builtin "sum") sumD := by
  intro Hf H xs ds r Q s rx e k
  unfold sumD at e
  split at e
  · obtain ⟨ns, e1, e⟩ := map_some2 e
    subst e
    obtain ⟨v, rfl, q⟩ := rx.one
    obtain ⟨a, vs, rfl, ea, q⟩ := q.lst s
    have z := intsOf_some e1
    subst z
    have z := q.ints
    subst z
    exact ⟨_, cr_sum g.calm, a, ns, rfl, .of ea, k _ _ (.old (.int _))⟩
  · cases e
def allD : List PyData → Option R
  | [.list ds] => (blsOf ds).map fun ns => .dat (.bool (ns.all id))
  | _ => none
def anyD : List PyData → Option R
  | [.list ds] => (blsOf ds).map fun ns => .dat (.bool (ns.any id))
  | _ => none
theorem c_all (g : Gd X) : DCall X (.builtin "all") allD := by
  intro Hf H xs ds r Q s rx e k
  unfold allD at e
  split at e
  · obtain ⟨ns, e1, e⟩ := map_some2 e
    subst e
    obtain ⟨v, rfl, q⟩ := rx.one
    obtain ⟨a, vs, rfl, ea, q⟩ := q.lst s
    have z := blsOf_some e1
    subst z
    have z := q.bls
    subst z
    exact ⟨_, cr_all g.calm, a, ns, rfl, .of ea, k _ _ (.old (.bl _))⟩
  · cases e
theorem c_any (g : Gd X) : DCall X (.builtin "any") anyD := by
  intro Hf H xs ds r Q s rx e k
  unfold anyD at e
  split at e
  · obtain ⟨ns, e1, e⟩ := map_some2 e
    subst e
    obtain ⟨v, rfl, q⟩ := rx.one
    obtain ⟨a, vs, rfl, ea, q⟩ := q.lst s
    have z := blsOf_some e1
    subst z
    have z := q.bls
    subst z
    exact ⟨_, cr_any g.calm, a, ns, rfl, .of ea, k _ _ (.old (.bl _))⟩
  · cases e

/-! ### isinstance -/
@[simp] def tyN : PyData → String
  | .none => "NoneType"
  | .bool _ => "bool"
  | .int _ => "int"
  | .str _ => "str"
  | .list _ => "list"
  | .tuple _ => "tuple"
  | .dict _ => "dict"
theorem tyX_of {K : PySem.W.Frag} {H : Hp} {v : V} {d : PyData} (r : Rp H v d) : TyX K H v (.type (tyN d)) := by
  cases r with
  | non => exact .base .non
  | bl b => exact .base (.bl b)
  | int i => exact .base (.int i)
  | str x => exact .base (.str x)
  | lst e _ => exact .base (.lst e)
  | tup e _ => exact .base (.tup e)
  | dct e _ => exact .base (.dK e)
/-- is it of the type: by a table -/
@[simp] def isiD (T : String) (d : PyData) : Bool := tyN d == T || (tyN d == "bool" && T == "int")
theorem kit_isi (T : String) (hT : T = "int" ∨ T = "bool" ∨ T = "tuple" ∨ T = "str" ∨ T = "list") (d : PyData) : kitB (tyN d) T = some (isiD T d) := by
  rcases hT with rfl | rfl | rfl | rfl | rfl <;> cases d <;> simp only [tyN, isiD] <;> decide +kernel
@[simp] def mIsi (T : String) (a : M) : M := fun st => (a st).bind fun (r, st1) => (res st1 r).map fun d => (.dat (.bool (isiD T d)), st1)
theorem ev_isi {ea : Expr} {a : M} {T : String} {x y : Str} {p p2 pos : Pos} (ha : EV X ea a) (hT : T = "int" ∨ T = "bool" ∨ T = "tuple" ∨ T = "str" ∨ T = "list")
    (hg : Gl X x) (hm : X.mg x = none) (hv : bootBuiltins x = some (.builtin "isinstance")) (hg2 : Gl X y) (hm2 : X.mg y = none) (hv2 : bootBuiltins y = some (.type T))
    (hn : x ≠ "__name__" := by decide) (hdb : (x == ("__debug__" : Str)) = false := by decide) (hn2 : y ≠ "__name__" := by decide) (hdb2 : (y == ("__debug__" : Str)) = false := by decide)
    (he : starEach [ea, .Name y p2] X.env = (false, eval ea X.env) :: starEach [.Name y p2] X.env := by rfl) (hpl : (backTo pos (starEach [.Name y p2] X.env)).any (·.1) = false := by rfl)
    (he2 : starEach [.Name y p2] X.env = (false, eval (.Name y p2) X.env) :: starEach [] X.env := by rfl) :
    EV X (.Call (.Name x p) [ea, .Name y p2] [] pos) (mIsi T a) := by
  refine ev_of fun L Hf st r st' σ H Q c e k => ⟨_, pe_callB call_isi hg hm hv (pa_cons ha (pa_cons (pe_bltn hg2 hm2 hv2 (v := .ty T) rfl hn2 hdb2) pa_nil he2) he) hn hdb he hpl, ?_⟩
  unfold mIsi at e
  obtain ⟨⟨r1, st1⟩, h1, e⟩ := bind_some2 e
  obtain ⟨d, h2, e⟩ := map_some2 e
  cases e
  refine ev_use c h1 fun v H' Hf' s' c' q => ⟨v, .ty T, .type (tyN d), .type T, isiD T d, rfl, .ty T, tyX_of ((q.rq c' h2).rp c'.le), kit_ty (kit_isi T hT d), k _ _ _ s' c' (.bl _)⟩
end
end NV
set_option Elab.async false
set_option linter.all false
set_option maxRecDepth 100000
set_option maxHeartbeats 4000000
/-! NV5: statements, walks, loops, comprehensions -/
namespace NV
open PySem PySem.Spec PyProof.Rows L2

/-! ### statements -/
inductive Out where
  | nx | bk | ct
  | rt (d : PyData)
  | rtF (ds : List PyData)
abbrev MS := Sta → Option (Out × Sta)
def OutOk (L : Lay) (Hf : Hp) (st : Sta) (σ : SS) (H : Hp) (D : Ends) : Out → Prop
  | .nx => D.nx σ H
  | .bk => D.bk σ H
  | .ct => D.ct σ H
  | .rt d => ∀ v, Rp Hf v d → D.rt v H
  | .rtF ds => ∀ a vs, H a = some (.lst vs) → RpL Hf vs ds → Hf a = none → L.pr a = none → (st.z.isSome = true → a ≠ L.aD ∧ a ≠ L.aC) → D.rt (.ref a) H
def AfterS (L : Lay) (Hf : Hp) (st : Sta) (o : Out) (D : Ends) : Prop := ∀ σ H' Hf', Sub Hf Hf' → Cor L Hf' st σ H' → OutOk L Hf' st σ H' D o
theorem AfterS.sub {L : Lay} {Hf Hf' : Hp} {st : Sta} {o : Out} {D : Ends} (k : AfterS L Hf st o D) (s : Sub Hf Hf') : AfterS L Hf' st o D := fun σ H' Hf'' s' => k σ H' Hf'' (s.trans s')
def rdS (m : MS) : TS := fun D σ H => ∃ L Hf st o st', Cor L Hf st σ H ∧ m st = some (o, st') ∧ AfterS L Hf st' o D
def SV (X : Cx) (s : Stmt) (m : MS) : Prop := PS X s (rdS m)
def BV (X : Cx) (s : List Stmt) (m : MS) : Prop := PSs X s (rdS m)
theorem sv_of {X : Cx} {e : Stmt} {m : MS} (h : ∀ L Hf st o st' σ H D, σ.length = X.N.length → Cor L Hf st σ H → m st = some (o, st') → AfterS L Hf st' o D → ∃ t, PS X e t ∧ t D σ H) : SV X e m :=
  ⟨fun pins s σ H D I ⟨L, Hf, st, o, st', c, e1, k⟩ => by
    obtain ⟨t, ht, q⟩ := h L Hf st o st' σ H D I.len c e1 k
    exact ht.run pins s σ H D I q⟩
theorem bv_of {X : Cx} {e : List Stmt} {m : MS} (h : ∀ L Hf st o st' σ H D, σ.length = X.N.length → Cor L Hf st σ H → m st = some (o, st') → AfterS L Hf st' o D → ∃ t, PSs X e t ∧ t D σ H) : BV X e m :=
  ⟨fun pins s σ H D I ⟨L, Hf, st, o, st', c, e1, k⟩ => by
    obtain ⟨t, ht, q⟩ := h L Hf st o st' σ H D I.len c e1 k
    exact ht.run pins s σ H D I q⟩
@[simp] def sNil : MS := fun st => some (.nx, st)
@[simp] def sCons (a b : MS) : MS := fun st => (a st).bind fun (o, st1) => match o with
  | .nx => b st1
  | o => some (o, st1)
section
variable {X : Cx} {ea eb ec : Expr} {a b : M} {pos : Pos} {s : Stmt} {ss ss' : List Stmt} {m n : MS}
theorem bv_nil : BV X [] sNil := bv_of fun L Hf st o st' σ H D hl c e k => ⟨_, pss_nil, by cases e; exact k σ H Hf Sub.refl c⟩
theorem bv_one (h : SV X s m) : BV X [s] m := pss_one h
theorem bv_cons (h : SV X s m) (h' : BV X ss n) : BV X (s :: ss) (sCons m n) := by
  refine bv_of fun L Hf st o st' σ H D hl c e k => ⟨_, pss_cons h h', ?_⟩
  unfold sCons at e
  obtain ⟨⟨o1, st1⟩, h1, e⟩ := bind_some2 e
  dsimp only at e
  refine ⟨L, Hf, st, o1, st1, c, h1, fun σ1 H1 Hf1 s1 c1 => ?_⟩
  cases o1 with
  | nx => exact ⟨L, Hf1, st1, o, st', c1, e, k.sub s1⟩
  | bk => cases e; exact k σ1 H1 Hf1 s1 c1
  | ct => cases e; exact k σ1 H1 Hf1 s1 c1
  | rt d => cases e; exact k σ1 H1 Hf1 s1 c1
  | rtF d => cases e; exact k σ1 H1 Hf1 s1 c1
theorem sv_pass : SV X (.Pass pos) sNil := sv_of fun L Hf st o st' σ H D hl c e k => ⟨_, ps_pass, by cases e; exact k σ H Hf Sub.refl c⟩
@[simp] def sBreak : MS := fun st => some (.bk, st)
@[simp] def sCont : MS := fun st => some (.ct, st)
theorem sv_break : SV X (.Break pos) sBreak := sv_of fun L Hf st o st' σ H D hl c e k => ⟨_, ps_break, by cases e; exact k σ H Hf Sub.refl c⟩
theorem sv_continue : SV X (.Continue pos) sCont := sv_of fun L Hf st o st' σ H D hl c e k => ⟨_, ps_continue, by cases e; exact k σ H Hf Sub.refl c⟩
@[simp] def sIf (t : MT) (a b : MS) : MS := fun st => (t st).bind fun (c, st1) => if c = true then a st1 else b st1
theorem sv_if {t : MT} (hc : TV X ec t) (ha : BV X ss m) (hb : BV X ss' n) : SV X (.If ec ss ss' pos) (sIf t m n) := by
  refine sv_of fun L Hf st o st' σ H D hl c e k => ⟨_, ps_if hc ha hb, ?_⟩
  unfold sIf at e
  obtain ⟨⟨c1, st1⟩, h1, e⟩ := bind_some2 e
  dsimp only at e
  refine rdT.use c h1 fun H1 Hf1 s1 c' => ?_
  cases c1 with
  | true =>
    rw [if_pos rfl] at e ⊢
    exact ⟨L, Hf1, st1, o, st', c', e, k.sub s1⟩
  | false =>
    simp only [Bool.false_eq_true, if_false] at e ⊢
    exact ⟨L, Hf1, st1, o, st', c', e, k.sub s1⟩
/-- return e -/
@[simp] def sRet (a : M) : MS := fun st => (a st).bind fun (r, st1) => match r with
  | .dat d => some (.rt d, st1)
  | .fre ds => some (.rtF ds, st1)
  | .slt i => match st1.e i with
    | .own ds => some (.rtF ds, st1.put i .emp)
    | _ => none
theorem sv_ret (ha : EV X ea a) : SV X (.Return (some ea) pos) (sRet a) := by
  refine sv_of fun L Hf st o st' σ H D hl c e k => ⟨_, ps_ret ha, ?_⟩
  unfold sRet at e
  obtain ⟨⟨r, st1⟩, h1, e⟩ := bind_some2 e
  dsimp only at e
  refine ev_use c h1 fun v H' Hf' s' c' q => ?_
  cases r with
  | dat d => cases e; exact k σ H' Hf' s' c' v q
  | fre ds =>
    cases e
    obtain ⟨a, vs, rfl, ea, q, f⟩ := q
    exact k σ H' Hf' s' c' a vs ea q f.1 f.2.1 f.2.2.1
  | slt i =>
    dsimp only at e
    split at e
    · cases e
      rename_i ds z
      obtain ⟨a, vs, e2, ea, r, f⟩ := c'.own z
      rw [q.1] at e2; cases e2
      exact k σ H' Hf' s' c'.drop a vs ea r f.1 f.2.1 f.2.2.1
    · cases e
theorem sv_retN : SV X (.Return none pos) (fun st => some (.rt .none, st)) := sv_of fun L Hf st o st' σ H D hl c e k => ⟨_, ps_retN, by cases e; exact k σ H Hf Sub.refl c .non .non⟩
@[simp] def sDrop (a : M) : MS := fun st => (a st).map fun (_, st1) => (.nx, st1)
theorem sv_drop (ha : EV X ea a) (hs : swapsWith ea none pos.line X.env = pure false := by rfl) : SV X (.Expr ea pos) (sDrop a) := by
  refine sv_of fun L Hf st o st' σ H D hl c e k => ⟨_, ps_expr ha hs, ?_⟩
  unfold sDrop at e
  obtain ⟨⟨r, st1⟩, h1, e⟩ := map_some2 e
  cases e
  exact ev_use c h1 fun v H' Hf' s' c' q => k σ H' Hf' s' c'
end

/-! ### stores to slots -/
section
variable {L : Lay} {Hf : Hp} {st : Sta} {σ : SS} {H : Hp} {i : Nat} {v : V} {d : PyData}
theorem Cor.move (c : Cor L Hf (st.put i .emp) σ H) (hi : i < σ.length) {x : Sl} (h : SlOk L Hf st.z.isSome (σ.set i (some v)) H i x)
    (hd : x.isOwn → ∀ a, v = .ref a → ∀ j, ((st.put i .emp).e j).isOwn → σ[j]? ≠ some (some (.ref a))) : Cor L Hf (st.put i x) (σ.set i (some v)) H where
  le := c.le
  pr := c.pr
  sl := fun j => by
    by_cases e : j = i
    · subst e; rw [put_same]; exact h
    · have q := c.sl j
      rw [put_ne e] at q ⊢
      have hs : (σ.set i (some v))[j]? = σ[j]? := List.getElem?_set_ne (Ne.symm e)
      cases z : st.e j with
      | emp => trivial
      | val d =>
        rw [z] at q
        obtain ⟨w, e1, r⟩ := q
        exact ⟨w, hs.trans e1, r⟩
      | own ds =>
        rw [z] at q
        obtain ⟨a, vs, e1, r⟩ := q
        exact ⟨a, vs, hs.trans e1, r⟩
      | src =>
        rw [z] at q
        exact ⟨hs.trans q.1, q.2⟩
  dj := fun j k a h1 h2 e1 e2 => by
    by_cases ej : j = i
    · by_cases ek : k = i
      · rw [ej, ek]
      · subst ej
        rw [put_same] at h1
        rw [List.getElem?_set_self hi] at e1
        cases e1
        rw [List.getElem?_set_ne (Ne.symm ek)] at e2
        rw [put_ne ek] at h2
        exact absurd e2 (hd h1 a rfl k (by rw [put_ne ek]; exact h2))
    · by_cases ek : k = i
      · subst ek
        rw [put_same] at h2
        rw [List.getElem?_set_self hi] at e2
        cases e2
        rw [List.getElem?_set_ne (Ne.symm ej)] at e1
        rw [put_ne ej] at h1
        exact absurd e1 (hd h2 a rfl j (by rw [put_ne ej]; exact h1))
      · rw [List.getElem?_set_ne (Ne.symm ej)] at e1
        rw [List.getElem?_set_ne (Ne.symm ek)] at e2
        rw [put_ne ej] at h1
        rw [put_ne ek] at h2
        exact c.dj j k a (by rw [put_ne ej]; exact h1) (by rw [put_ne ek]; exact h2) e1 e2
  so := c.so
theorem Cor.store (c : Cor L Hf st σ H) (hi : i < σ.length) (r : Rp Hf v d) : Cor L Hf (st.put i (.val d)) (σ.set i (some v)) H :=
  c.drop.move hi ⟨v, List.getElem?_set_self hi, r⟩ fun h => h.elim
theorem Cor.storeF (c : Cor L Hf st σ H) (hi : i < σ.length) {a : Addr} {vs : List V} {ds : List PyData} (ea : H a = some (.lst vs)) (r : RpL Hf vs ds) (f : Free L Hf st σ a) : Cor L Hf (st.put i (.own ds)) (σ.set i (some (.ref a))) H :=
  c.drop.move hi ⟨a, vs, List.getElem?_set_self hi, ea, r, f.1, f.2.1, f.2.2.1⟩ fun _ b e j hj => by
    cases e
    obtain ⟨_, h2⟩ := isOwn_put (x := .emp) (fun h => h) hj
    exact f.2.2.2 j h2
end
/-- the store of a result -/
@[simp] def sto (i : Nat) (r : R) (st : Sta) : Option Sta := match r with
  | .dat d => some (st.put i (.val d))
  | .fre ds => some (st.put i (.own ds))
  | .slt j => (esc st (.slt j)).map fun (d, st1) => st1.put i (.val d)
theorem sto_ok {L : Lay} {Hf : Hp} {st st' : Sta} {σ : SS} {H : Hp} {v : V} {r : R} {i : Nat} (c : Cor L Hf st σ H) (hi : i < σ.length) (q : ResOk L Hf st σ H v r) (e : sto i r st = some st') : ∃ Hf', Sub Hf Hf' ∧ Cor L Hf' st' (σ.set i (some v)) H := by
  cases r with
  | dat d => cases e; exact ⟨Hf, Sub.refl, c.store hi q⟩
  | fre ds =>
    cases e
    obtain ⟨a, vs, rfl, ea, r, f⟩ := q
    exact ⟨Hf, Sub.refl, c.storeF hi ea r f⟩
  | slt j =>
    have e' : (esc st (.slt j)).map (fun (d, st1) => st1.put i (.val d)) = some st' := e
    obtain ⟨⟨d, st1⟩, h1, h2⟩ := map_some2 e'
    cases h2
    obtain ⟨Hf', s', c', r'⟩ := esc_ok c q h1
    exact ⟨Hf', s', c'.store hi r'⟩
@[simp] def sAsg (i : Nat) (a : M) : MS := fun st => (a st).bind fun (r, st1) => (sto i r st1).map fun st2 => (.nx, st2)
section
variable {X : Cx} {ea eb ec : Expr} {a b : M} {pos : Pos}
theorem lt_of_get {α : Type} {l : List α} {i : Nat} {x : α} (h : l[i]? = some x) : i < l.length := (List.getElem?_eq_some_iff.mp h).1
theorem asg_use {L : Lay} {Hf : Hp} {st1 st' : Sta} {σ : SS} {r : R} {i : Nat} {D : Ends} (hi : i < σ.length) (h : sto i r st1 = some st') (k : AfterS L Hf st' .nx D) : After L Hf st1 σ r fun x H1 => gName i x σ H1 D.nx := fun v H' Hf' s' c' q => by
  obtain ⟨Hf2, s2, c2⟩ := sto_ok c' hi q h
  exact k _ H' Hf2 (s'.trans s2) c2
theorem sv_asg {i : Nat} {x : Str} {pos' : Pos} (g : Gd X) (hi : X.N[i]? = some x) (hx : Loc X.env.scope x) (ha : EV X ea a) (hs : swapsWith ea (some (.Name x pos')) pos.line X.env = pure false := by rfl)
    (hf : X.fn x = true ∨ X.env.scope.names.lookup x = some .local := by first | exact .inl rfl | exact .inr rfl | assumption) : SV X (.Assign [.Name x pos'] ea pos) (sAsg i a) := by
  refine sv_of fun L Hf st o st' σ H D hl c e k => ⟨_, ps_set g.nd hi hx ha hs hf, ?_⟩
  unfold sAsg at e
  obtain ⟨⟨r, st1⟩, h1, e⟩ := bind_some2 e
  obtain ⟨st2, h2, e⟩ := map_some2 e
  cases e
  exact ev_use c h1 (asg_use (by rw [hl]; exact lt_of_get hi) h2 k)

/-! ### targets -/
abbrev MG := PyData → Sta → Option Sta
def rdG (t : MG) (is : List Nat) : TG := fun v σ H Q => ∃ L Hf st d st', Cor L Hf st σ H ∧ Rp Hf v d ∧ t d st = some st' ∧ ∀ σ' H' Hf', Sub Hf Hf' → Cor L Hf' st' σ' H' → (∀ j, j ∉ is → σ'[j]? = σ[j]?) → σ'.length = σ.length → Q σ' H'
def GV (X : Cx) (e : Expr) (t : MG) (is : List Nat) : Prop := PG X e (rdG t is)
@[simp] def tName (i : Nat) : MG := fun d st => some (st.put i (.val d))
theorem gv_name {i : Nat} {x : Str} (g : Gd X) (hi : X.N[i]? = some x) (hx : Loc X.env.scope x) (hf : X.fn x = true ∨ X.env.scope.names.lookup x = some .local := by first | exact .inl rfl | exact .inr rfl | assumption) : GV X (.Name x pos) (tName i) [i] :=
  ⟨fun pins s σ H v u Q I r ⟨L, Hf, st, d, st', c, q, e, k⟩ => by
    cases e
    refine (pg_name g.nd hi hx hf).run pins s σ H v u Q I r ?_
    exact k _ H Hf Sub.refl (c.store (by rw [I.len]; exact lt_of_get hi) q) (fun j hj => List.getElem?_set_ne (fun z => hj (by rw [z]; exact List.mem_cons_self))) (List.length_set)⟩
abbrev MGs := List PyData → Sta → Option Sta
def rdGs (t : MGs) (is : List Nat) : TGs := fun vs σ H Q => ∃ L Hf st ds st', Cor L Hf st σ H ∧ RpL Hf vs ds ∧ t ds st = some st' ∧ ∀ σ' H' Hf', Sub Hf Hf' → Cor L Hf' st' σ' H' → (∀ j, j ∉ is → σ'[j]? = σ[j]?) → σ'.length = σ.length → Q σ' H'
def GVs (X : Cx) (es : List Expr) (t : MGs) (is : List Nat) : Prop := PGs X es (rdGs t is)
@[simp] def tgNil : MGs := fun ds st => match ds with
  | [] => some st
  | _ => none
@[simp] def tgCons (t : MG) (u : MGs) : MGs := fun ds st => match ds with
  | d :: ds => (t d st).bind fun st1 => u ds st1
  | _ => none
theorem gvs_nil : GVs X [] tgNil [] := ⟨fun pins s σ H vs us Q I r ⟨L, Hf, st, ds, st', c, q, e, k⟩ => by
  cases ds with
  | cons d ds => cases e
  | nil => cases e; cases q; exact (pgs_nil (X := X)).run pins s σ H _ us Q I r ⟨rfl, k σ H Hf Sub.refl c (fun _ _ => rfl) rfl⟩⟩
theorem gvs_cons {es : List Expr} {t : MG} {u : MGs} {is js : List Nat} (h1 : GV X ea t is) (h2 : GVs X es u js) (hs : (assignEach (ea :: es) X.env).map (·.2) = assign ea X.env :: (assignEach es X.env).map (·.2) := by rfl) : GVs X (ea :: es) (tgCons t u) (is ++ js) :=
  ⟨fun pins s σ H vs us Q I r ⟨L, Hf, st, ds, st', c, q, e, k⟩ => by
    cases ds with
    | nil => cases e
    | cons d ds =>
      cases q with
      | cons q1 q2 =>
        have e' : (t d st).bind (fun st1 => u ds st1) = some st' := e
        obtain ⟨st1, e1, e2⟩ := bind_some2 e'
        refine (pgs_cons h1 h2 hs).run pins s σ H _ us Q I r ⟨_, _, rfl, ?_⟩
        refine ⟨L, Hf, st, d, st1, c, q1, e1, fun σ1 H1 Hf1 s1 c1 o1 l1 => ?_⟩
        refine ⟨L, Hf1, st1, ds, st', c1, q2.up s1, e2, fun σ2 H2 Hf2 s2 c2 o2 l2 => k σ2 H2 Hf2 (s1.trans s2) c2 (fun j hj => ?_) (l2.trans l1)⟩
        rw [o2 j fun z => hj (List.mem_append_right _ z), o1 j fun z => hj (List.mem_append_left _ z)]⟩
@[simp] def tTupG (n : Nat) (u : MGs) : MG := fun d st => match d with
  | .tuple ds => if ds.length = n then u ds st else none
  | _ => none
theorem gv_tup {es : List Expr} {k0 : Nat} {u : MGs} {is : List Nat} {n : Nat} (g : Gd X) (h : GVs X es u is) (hn : (assignEach es X.env).length = n := by rfl) (hst : (assignEach es X.env).findIdx? (·.1) = none := by rfl) : GV X (.Tuple es k0 pos) (tTupG n u) is :=
  ⟨fun pins s σ H v u' Q I r ⟨L, Hf, st, d, st', c, q, e, k⟩ => by
    unfold tTupG at e
    split at e
    · split at e
      · rename_i ds hl
        cases q with
        | tup ea q =>
          refine (pg_tup g.calm h hn hst).run pins s σ H _ u' Q I r ⟨_, _, rfl, .of (c.le _ _ ea), q.length.trans hl, ?_⟩
          exact ⟨L, Hf, st, ds, st', c, q, e, k⟩
      · cases e
    · cases e⟩
/-- target = e, the value unpacked -/
@[simp] def sAsgT (t : MG) (a : M) : MS := fun st => (a st).bind fun (r, st1) => (esc st1 r).bind fun (d, st2) => (t d st2).map fun st3 => (.nx, st3)
theorem sv_asgT {tg : Expr} {t : MG} {is : List Nat} (hg : GV X tg t is) (ha : EV X ea a) (hs : swapsWithSole [tg] ea pos.line X.env = pure false := by rfl) (hw : swappedStores [tg] ea X.env = pure none := by rfl)
    (h1 : (assignEach [tg] X.env).map (·.2) = [assign tg X.env] := by rfl) : SV X (.Assign [tg] ea pos) (sAsgT t a) := by
  refine sv_of fun L Hf st o st' σ H D hl c e k => ⟨_, ps_asg ha hg hs hw h1, ?_⟩
  unfold sAsgT at e
  obtain ⟨⟨r, st1⟩, h1, e⟩ := bind_some2 e
  obtain ⟨⟨d, st2⟩, h2, e⟩ := bind_some2 e
  obtain ⟨st3, h3, e⟩ := map_some2 e
  cases e
  refine ev_use c h1 fun v H' Hf' s' c' q => ?_
  obtain ⟨Hf2, s2, c2, r2⟩ := esc_ok c' q h2
  exact ⟨L, Hf2, st2, d, _, c2, r2, h3, fun σ' H'' Hf'' s'' c'' _ _ => k σ' H'' Hf'' ((s'.trans s2).trans s'') c''⟩
end

/-! ### x[i] = e; x.append(e); x.extend(e); x.pop(..) : x an own list -/
theorem Cor.setOwn {L : Lay} {Hf : Hp} {st : Sta} {σ : SS} {H : Hp} {i : Nat} {a : Addr} {vs : List V} {ds ds' : List PyData} (c : Cor L Hf st σ H) (h : st.e i = .own ds) (e : σ[i]? = some (some (.ref a))) (r : RpL Hf vs ds') : Cor L Hf (st.put i (.own ds')) σ (upd H a (.lst vs)) := by
  have q := c.sl i
  rw [h] at q
  obtain ⟨b, ws, e1, ea, rb, n, p, z⟩ := q
  rw [e] at e1; cases e1
  have hne : ∀ j, j ≠ i → (st.e j).isOwn → ∀ b, σ[j]? = some (some (.ref b)) → b ≠ a := fun j hj ho b eb z => hj (c.dj j i a ho (by rw [h]; trivial) (by rw [eb, z]) e)
  refine ⟨fun b o eb => ?_, fun b o eb => ?_, fun j => ?_, fun j k b h1 h2 e1 e2 => ?_, fun z' hz => ?_⟩
  · have hb : b ≠ a := fun z => by rw [z, n] at eb; cases eb
    rw [upd_ne hb]; exact c.le b o eb
  · have hb : b ≠ a := fun z => by rw [z, p] at eb; cases eb
    rw [upd_ne hb]; exact c.pr b o eb
  · by_cases ej : j = i
    · subst ej; rw [put_same]; exact ⟨a, vs, e, upd_same, r, n, p, z⟩
    · rw [put_ne ej]
      have q := c.sl j
      cases zj : st.e j with
      | emp => trivial
      | val d => rw [zj] at q; exact q
      | src => rw [zj] at q; exact q
      | own es =>
        rw [zj] at q
        obtain ⟨b, ws, e1, eb, r⟩ := q
        exact ⟨b, ws, e1, by rw [upd_ne (hne j ej (by rw [zj]; trivial) b e1)]; exact eb, r⟩
  · have t : ∀ j, ((st.put i (.own ds')).e j).isOwn → (st.e j).isOwn := fun j hj => by
      by_cases ej : j = i
      · subst ej; rw [h]; trivial
      · rw [put_ne ej] at hj; exact hj
    exact c.dj j k b (t j h1) (t k h2) e1 e2
  · obtain ⟨⟨h1, h2⟩, h3⟩ := c.so z' hz
    obtain ⟨n1, n2⟩ := z (by rw [show st.z = some z' from hz]; rfl)
    exact ⟨⟨by rw [upd_ne n1.symm]; exact h1, by rw [upd_ne n2.symm]; exact h2⟩, h3⟩
@[simp] def ownAt (st : Sta) (i : Nat) : Option (List PyData) := match st.e i with
  | .own ds => some ds
  | _ => none
theorem ownAt_some {st : Sta} {i : Nat} {ds : List PyData} (h : ownAt st i = some ds) : st.e i = .own ds := by
  unfold ownAt at h
  split at h
  · cases h; assumption
  · cases h
@[simp] def sSetIx (i : Nat) (ix a : M) : MS := fun st => (a st).bind fun (r, st1) => (esc st1 r).bind fun (d, st2) => (ownAt st2 i).bind fun _ => (ix st2).bind fun (k, st3) => match k with
  | .dat (.int k) => (ownAt st3 i).bind fun ds => (ixN ds.length k).map fun j => (.nx, st3.put i (.own (ds.set j d)))
  | _ => none
section
variable {X : Cx} {ea eb ec : Expr} {a b : M} {pos : Pos}
theorem sv_setIx {i : Nat} {x : Str} {p1 p2 : Pos} (hi : X.N[i]? = some x) (hv : Vis X.env.scope x) (hb : EV X eb b) (ha : EV X ea a) (hd : (x == ("__debug__" : Str)) = false := by decide) (hcd : (x == ("__classdict__" : Str)) = false := by decide)
    (hs : swapsWithSole [.Subscript (.Name x p1) eb p2] ea pos.line X.env = pure false := by rfl) (hw : swappedStores [.Subscript (.Name x p1) eb p2] ea X.env = pure none := by rfl)
    (h1 : (assignEach [.Subscript (.Name x p1) eb p2] X.env).map (·.2) = [assign (.Subscript (.Name x p1) eb p2) X.env] := by rfl)
    (hg : ∀ v, assign (.Subscript (.Name x p1) eb p2) X.env v = (do
      let ov ← holding [v] (eval (.Name x p1) X.env)
      let iv ← holding [v, ov] (eval eb X.env)
      standAt p2
      holding [v, ov, iv] (setItem ov iv v)
      release [v, ov, iv] []) := by intro _; rfl) : SV X (.Assign [.Subscript (.Name x p1) eb p2] ea pos) (sSetIx i b a) := by
  refine sv_of fun L Hf st o st' σ H D hl c e k => ⟨_, ps_asg ha (pg_sub (pe_var hi hv hd hcd) hb set_list hg) hs hw h1, ?_⟩
  unfold sSetIx at e
  obtain ⟨⟨r, st1⟩, h1, e⟩ := bind_some2 e
  obtain ⟨⟨d, st2⟩, h2, e⟩ := bind_some2 e
  dsimp only at e
  obtain ⟨ds0, h0, e⟩ := bind_some2 e
  obtain ⟨⟨r3, st3⟩, h3, e⟩ := bind_some2 e
  dsimp only at e
  split at e
  · rename_i kk
    obtain ⟨ds, h4, e⟩ := bind_some2 e
    obtain ⟨j, h5, e⟩ := map_some2 e
    cases e
    have h4 := ownAt_some h4
    refine ev_use c h1 fun v H' Hf' s' c' q => ?_
    obtain ⟨Hf2, s2, c2, r2⟩ := esc_ok c' q h2
    have hv2 : ∃ w, σ[i]? = some (some w) := by
      obtain ⟨a, vs, e1, _⟩ := c2.own (ownAt_some h0)
      exact ⟨_, e1⟩
    obtain ⟨w, hw⟩ := hv2
    refine ⟨w, hw, ?_⟩
    refine ev_use c2 h3 fun v3 H3 Hf3 s3 c3 q3 => ?_
    cases q3
    obtain ⟨a, vs, e1, ea, rv, f⟩ := c3.own h4
    rw [hw] at e1; cases e1
    refine ⟨a, vs, kk, j, rfl, rfl, ea, by rw [rv.length]; exact h5, ?_⟩
    exact k σ _ Hf3 ((s'.trans s2).trans s3) (c3.setOwn h4 hw (rv.set j (r2.up s3)))
  · cases e

/-- x.append(e) as a statement -/
@[simp] def sApp (i : Nat) (a : M) : MS := fun st => (ownAt st i).bind fun _ => (a st).bind fun (r, st1) => (esc st1 r).bind fun (d, st2) => (ownAt st2 i).bind fun ds => if ds.length < sizeLine then some (.nx, st2.put i (.own (ds ++ [d]))) else none
theorem own_slot {L : Lay} {Hf : Hp} {st : Sta} {σ : SS} {H : Hp} {i : Nat} {ds : List PyData} (c : Cor L Hf st σ H) (h : ownAt st i = some ds) : ∃ a vs, σ[i]? = some (some (.ref a)) ∧ H a = some (.lst vs) := by
  obtain ⟨a, vs, e1, ea, _⟩ := c.own (ownAt_some h)
  exact ⟨a, vs, e1, ea⟩
theorem sv_app {i : Nat} {x : Str} {p1 p2 p3 : Pos} (hi : X.N[i]? = some x) (hv : Vis X.env.scope x) (ha : EV X ea a) (hd : (x == ("__debug__" : Str)) = false := by decide) (hcd : (x == ("__classdict__" : Str)) = false := by decide)
    (hbase : attributeBase (.Name x p1) "append" X.env (eval (.Name x p1) X.env) = eval (.Name x p1) X.env := by rfl)
    (hfew : ((backTo p3 (starEach [ea] X.env)).all (fun x => !x.1) && (backToKw p3 (keywordEach [] X.env)).all (fun x => x.1.isSome)
      && decide ([ea].length + ([] : List Keyword).length + (if ([] : List Keyword).isEmpty then 0 else 1) < 30)) = true := by rfl)
    (hline : (p2.endLine == p3.line) = true := by rfl) (hs : starEach [ea] X.env = (false, eval ea X.env) :: starEach [] X.env := by rfl) (hplain : (backTo p3 (starEach [] X.env)).any (·.1) = false := by rfl)
    (hsw : swapsWith (.Call (.Attribute (.Name x p1) "append" p2) [ea] [] p3) none pos.line X.env = pure false := by rfl) :
    SV X (.Expr (.Call (.Attribute (.Name x p1) "append" p2) [ea] [] p3) pos) (sApp i a) := by
  refine sv_of fun L Hf st o st' σ H D hl c e k => ⟨_, ps_expr (pe_bm PySem.F.plainAttrs_list PySem.F.slot_list_append PySem.F.type_list_append mt_append (pe_var hi hv hd hcd) (pa_cons ha pa_nil hs) hbase hfew hline hs hplain) hsw, ?_⟩
  unfold sApp at e
  obtain ⟨ds0, h0, e⟩ := bind_some2 e
  obtain ⟨⟨r, st1⟩, h1, e⟩ := bind_some2 e
  obtain ⟨⟨d, st2⟩, h2, e⟩ := bind_some2 e
  dsimp only at e
  obtain ⟨ds, h3, e⟩ := bind_some2 e
  split at e
  · rename_i hz
    cases e
    obtain ⟨a, vs0, e1, ea0⟩ := own_slot c h0
    refine ⟨.ref a, e1, .inl ⟨rfl, _, .of ea0⟩, ?_⟩
    refine ev_use c h1 fun v H' Hf' s' c' q => ?_
    obtain ⟨Hf2, s2, c2, r2⟩ := esc_ok c' q h2
    obtain ⟨b, vs, e2, eb, rv, f⟩ := c2.own (ownAt_some h3)
    rw [e1] at e2; cases e2
    refine ⟨a, vs, v, rfl, rfl, eb, by rw [rv.length]; exact hz, ?_⟩
    exact k σ _ Hf2 (s'.trans s2) (c2.setOwn (ownAt_some h3) e1 (rv.app (.cons r2 .nil)))
  · cases e
/-- x.extend(e), e a list -/
def sExt (i : Nat) (a : M) : MS := fun st => (ownAt st i).bind fun _ => (a st).bind fun (r, st1) => (esc st1 r).bind fun (d, st2) => (ownAt st2 i).bind fun ds => match d with
  | .list es => if ds.length + es.length ≤ sizeLine then some (.nx, st2.put i (.own (ds ++ es))) else none
  | _ => none
theorem sv_ext {i : Nat} {x : Str} {p1 p2 p3 : Pos} (hi : X.N[i]? = some x) (hv : Vis X.env.scope x) (ha : EV X ea a) (hd : (x == ("__debug__" : Str)) = false := by decide) (hcd : (x == ("__classdict__" : Str)) = false := by decide)
    (hbase : attributeBase (.Name x p1) "extend" X.env (eval (.Name x p1) X.env) = eval (.Name x p1) X.env := by rfl)
    (hfew : ((backTo p3 (starEach [ea] X.env)).all (fun x => !x.1) && (backToKw p3 (keywordEach [] X.env)).all (fun x => x.1.isSome)
      && decide ([ea].length + ([] : List Keyword).length + (if ([] : List Keyword).isEmpty then 0 else 1) < 30)) = true := by rfl)
    (hline : (p2.endLine == p3.line) = true := by rfl) (hs : starEach [ea] X.env = (false, eval ea X.env) :: starEach [] X.env := by rfl) (hplain : (backTo p3 (starEach [] X.env)).any (·.1) = false := by rfl)
    (hsw : swapsWith (.Call (.Attribute (.Name x p1) "extend" p2) [ea] [] p3) none pos.line X.env = pure false := by rfl) :
    SV X (.Expr (.Call (.Attribute (.Name x p1) "extend" p2) [ea] [] p3) pos) (sExt i a) := by
  refine sv_of fun L Hf st o st' σ H D hl c e k => ⟨_, ps_expr (pe_bm PySem.F.plainAttrs_list PySem.F.slot_list_extend PySem.F.type_list_extend mt_extend (pe_var hi hv hd hcd) (pa_cons ha pa_nil hs) hbase hfew hline hs hplain) hsw, ?_⟩
  unfold sExt at e
  obtain ⟨ds0, h0, e⟩ := bind_some2 e
  obtain ⟨⟨r, st1⟩, h1, e⟩ := bind_some2 e
  obtain ⟨⟨d, st2⟩, h2, e⟩ := bind_some2 e
  dsimp only at e
  obtain ⟨ds, h3, e⟩ := bind_some2 e
  split at e
  · split at e
    · rename_i hz
      cases e
      obtain ⟨a, vs0, e1, ea0⟩ := own_slot c h0
      refine ⟨.ref a, e1, .inl ⟨rfl, _, .of ea0⟩, ?_⟩
      refine ev_use c h1 fun v H' Hf' s' c' q => ?_
      obtain ⟨Hf2, s2, c2, r2⟩ := esc_ok c' q h2
      obtain ⟨b, vs, e2, eb, rv, f⟩ := c2.own (ownAt_some h3)
      rw [e1] at e2; cases e2
      cases r2 with
      | lst e5 r5 =>
        refine ⟨a, _, vs, _, rfl, rfl, eb, c2.le _ _ e5, by rw [rv.length, r5.length]; exact hz, ?_⟩
        exact k σ _ Hf2 (s'.trans s2) (c2.setOwn (ownAt_some h3) e1 (rv.app r5))
    · cases e
  · cases e
/-- x.pop(e) as a value -/
def mPop (i : Nat) (a : M) : M := fun st => (ownAt st i).bind fun _ => (a st).bind fun (r, st1) => (ownAt st1 i).bind fun ds => match r with
  | .dat (.int k) => if -(2 ^ 63) ≤ k ∧ k < 2 ^ 63 then (seqIndex? k ds.length).bind fun j => (ds[j]?).map fun d => (.dat d, st1.put i (.own (ds.eraseIdx j))) else none
  | _ => none
theorem RpL.erase {H : Hp} : ∀ {ds : List PyData} {vs : List V} (j : Nat), RpL H vs ds → RpL H (vs.eraseIdx j) (ds.eraseIdx j)
  | [], _, _, h => by cases h; exact .nil
  | d :: ds, _, 0, h => by cases h with | cons r rs => exact rs
  | d :: ds, _, j + 1, h => by cases h with | cons r rs => exact .cons r (RpL.erase j rs)
theorem ev_pop {i : Nat} {x : Str} {p1 p2 p3 : Pos} (hi : X.N[i]? = some x) (hv : Vis X.env.scope x) (ha : EV X ea a) (hd : (x == ("__debug__" : Str)) = false := by decide) (hcd : (x == ("__classdict__" : Str)) = false := by decide)
    (hbase : attributeBase (.Name x p1) "pop" X.env (eval (.Name x p1) X.env) = eval (.Name x p1) X.env := by rfl)
    (hfew : ((backTo p3 (starEach [ea] X.env)).all (fun x => !x.1) && (backToKw p3 (keywordEach [] X.env)).all (fun x => x.1.isSome)
      && decide ([ea].length + ([] : List Keyword).length + (if ([] : List Keyword).isEmpty then 0 else 1) < 30)) = true := by rfl)
    (hline : (p2.endLine == p3.line) = true := by rfl) (hs : starEach [ea] X.env = (false, eval ea X.env) :: starEach [] X.env := by rfl) (hplain : (backTo p3 (starEach [] X.env)).any (·.1) = false := by rfl) :
    EV X (.Call (.Attribute (.Name x p1) "pop" p2) [ea] [] p3) (mPop i a) := by
  refine ev_of fun L Hf st r' st' σ H Q c e k => ⟨_, pe_bm PySem.F.plainAttrs_list PySem.F.slot_list_pop PySem.F.type_list_pop mt_popAt (pe_var hi hv hd hcd) (pa_cons ha pa_nil hs) hbase hfew hline hs hplain, ?_⟩
  unfold mPop at e
  obtain ⟨ds0, h0, e⟩ := bind_some2 e
  obtain ⟨⟨r, st1⟩, h1, e⟩ := bind_some2 e
  dsimp only at e
  obtain ⟨ds, h3, e⟩ := bind_some2 e
  split at e
  · split at e
    · rename_i hk
      obtain ⟨j, h4, e⟩ := bind_some2 e
      obtain ⟨d, h5, e⟩ := map_some2 e
      cases e
      obtain ⟨a, vs0, e1, ea0⟩ := own_slot c h0
      refine ⟨.ref a, e1, .inl ⟨rfl, _, .of ea0⟩, ?_⟩
      refine ev_use c h1 fun v H' Hf' s' c' q => ?_
      cases q
      obtain ⟨b, vs, e2, eb, rv, f⟩ := c'.own (ownAt_some h3)
      rw [e1] at e2; cases e2
      obtain ⟨w, hw, rw'⟩ := rv.get h5
      refine ⟨a, vs, _, j, w, rfl, rfl, eb, hk.1, hk.2, by rw [rv.length]; exact h4, hw, ?_⟩
      exact k w _ Hf' s' (c'.setOwn (ownAt_some h3) e1 (rv.erase j)) rw'
    · cases e
  · cases e
/-- x.pop() as a value -/
def mPop0 (i : Nat) : M := fun st => (ownAt st i).bind fun ds => (ds[ds.length - 1]?).map fun d => (.dat d, st.put i (.own ds.dropLast))
theorem RpL.dropLast {H : Hp} {ds : List PyData} {vs : List V} (h : RpL H vs ds) : RpL H vs.dropLast ds.dropLast := by
  rw [List.dropLast_eq_take, List.dropLast_eq_take, h.length]
  exact h.take _
theorem ev_pop0 {i : Nat} {x : Str} {p1 p2 p3 : Pos} (hi : X.N[i]? = some x) (hv : Vis X.env.scope x) (hd : (x == ("__debug__" : Str)) = false := by decide) (hcd : (x == ("__classdict__" : Str)) = false := by decide)
    (hbase : attributeBase (.Name x p1) "pop" X.env (eval (.Name x p1) X.env) = eval (.Name x p1) X.env := by rfl) (hline : (p2.endLine == p3.line) = true := by rfl) :
    EV X (.Call (.Attribute (.Name x p1) "pop" p2) [] [] p3) (mPop0 i) := by
  refine ev_of fun L Hf st r' st' σ H Q c e k => ⟨_, pe_bm0 PySem.F.plainAttrs_list PySem.F.slot_list_pop PySem.F.type_list_pop mt_pop (pe_var hi hv hd hcd) hbase hline, ?_⟩
  unfold mPop0 at e
  obtain ⟨ds, h0, e⟩ := bind_some2 e
  obtain ⟨d, h5, e⟩ := map_some2 e
  cases e
  obtain ⟨b, vs, e2, eb, rv, f⟩ := c.own (ownAt_some h0)
  obtain ⟨w, hw, rw'⟩ := rv.get h5
  rw [← rv.length] at hw
  exact ⟨.ref b, e2, .inl ⟨rfl, _, .of eb⟩, b, vs, w, rfl, rfl, eb, hw, k w _ Hf Sub.refl (c.setOwn (ownAt_some h0) e2 rv.dropLast) rw'⟩
end
end NV
set_option Elab.async false
set_option linter.all false
set_option maxRecDepth 100000
set_option maxHeartbeats 4000000
/-! NV6: a, b = x, y; while; what is walked; for; comprehensions -/
namespace NV
open PySem PySem.Spec PyProof.Rows L2

/-! ### a, b = e1, e2 -/
/-- a result that is a slot's list is frozen -/
@[simp] def unslt (st : Sta) : R → Option (R × Sta)
  | .slt i => (esc st (.slt i)).map fun (d, st1) => (.dat d, st1)
  | r => some (r, st)
theorem unslt_ok {L : Lay} {Hf : Hp} {st st' : Sta} {σ : SS} {H : Hp} {v : V} {r r' : R} (c : Cor L Hf st σ H) (h : ResOk L Hf st σ H v r) (e : unslt st r = some (r', st')) : ∃ Hf', Sub Hf Hf' ∧ Cor L Hf' st' σ H ∧ ResOk L Hf' st' σ H v r' ∧ ∀ i, r' ≠ .slt i := by
  cases r with
  | dat d => cases e; exact ⟨Hf, Sub.refl, c, h, fun i z => nomatch z⟩
  | fre ds => cases e; exact ⟨Hf, Sub.refl, c, h, fun i z => nomatch z⟩
  | slt i =>
    have e' : (esc st (.slt i)).map (fun (d, st1) => (R.dat d, st1)) = some (r', st') := e
    obtain ⟨⟨d, st1⟩, h1, h2⟩ := map_some2 e'
    cases h2
    obtain ⟨Hf', s', c', q⟩ := esc_ok c h h1
    exact ⟨Hf', s', c', q, fun i z => nomatch z⟩
/-- one more protected address -/
def Lay.keep (L : Lay) (a : Addr) (o : HO) : Lay := { L with pr := upd L.pr a o }
theorem Cor.keep {L : Lay} {Hf : Hp} {st : Sta} {σ : SS} {H : Hp} {a : Addr} {o : HO} (c : Cor L Hf st σ H) (f : Free L Hf st σ a) (h : H a = some o) : Cor (L.keep a o) Hf st σ H where
  le := c.le
  pr := fun b x e => by
    by_cases hb : b = a
    · subst hb
      have e' : upd L.pr b o b = some x := e
      rw [upd_same] at e'; cases e'
      exact ⟨h, f.1⟩
    · have e' : upd L.pr a o b = some x := e
      rw [upd_ne hb] at e'
      exact c.pr b x e'
  sl := fun i => by
    have q := c.sl i
    cases z : st.e i with
    | emp => trivial
    | val d => rw [z] at q; exact q
    | src => rw [z] at q; exact q
    | own ds =>
      rw [z] at q
      obtain ⟨b, vs, e1, eb, r, n, p, w⟩ := q
      have hb : b ≠ a := fun q => f.2.2.2 i (by rw [z]; trivial) (by rw [e1, q])
      exact ⟨b, vs, e1, eb, r, n, by show upd L.pr a o b = none; rw [upd_ne hb]; exact p, w⟩
  dj := c.dj
  so := fun z hz => by
    obtain ⟨h1, h2, h3, h4, h5⟩ := c.so z hz
    obtain ⟨n1, n2⟩ := f.2.2.1 (by rw [hz]; rfl)
    exact ⟨h1, h2, h3, by show upd L.pr a o L.aD = none; rw [upd_ne n1.symm]; exact h4, by show upd L.pr a o L.aC = none; rw [upd_ne n2.symm]; exact h5⟩
theorem Cor.unkeep {L : Lay} {Hf : Hp} {st : Sta} {σ : SS} {H : Hp} {a : Addr} {o : HO} (c : Cor (L.keep a o) Hf st σ H) (hp : L.pr a = none) : Cor L Hf st σ H ∧ H a = some o ∧ Free L Hf st σ a := by
  have ha := c.pr a o upd_same
  have hz : st.z.isSome = true → a ≠ L.aD ∧ a ≠ L.aC := fun hz => by
    cases q : st.z with
    | none => rw [q] at hz; cases hz
    | some z =>
      obtain ⟨_, _, _, h4, h5⟩ := c.so z q
      have g4 : upd L.pr a o L.aD = none := h4
      have g5 : upd L.pr a o L.aC = none := h5
      exact ⟨fun q => (by rw [← q, upd_same] at g4; cases g4), fun q => (by rw [← q, upd_same] at g5; cases g5)⟩
  have pr0 : ∀ b, b ≠ a → L.pr b = (L.keep a o).pr b := fun b hb => (upd_ne hb).symm
  refine ⟨⟨c.le, fun b x e => ?_, fun i => ?_, c.dj, fun z hz => ?_⟩, ha.1, ha.2, hp, hz, fun i ho e => ?_⟩
  · have hb : b ≠ a := fun q => by rw [q, hp] at e; cases e
    exact c.pr b x (by rw [← pr0 b hb]; exact e)
  · have q := c.sl i
    cases z : st.e i with
    | emp => trivial
    | val d => rw [z] at q; exact q
    | src => rw [z] at q; exact q
    | own ds =>
      rw [z] at q
      obtain ⟨b, vs, e1, eb, r, n, p, w⟩ := q
      have hb : b ≠ a := fun q => by
        have p' : upd L.pr a o b = none := p
        rw [q, upd_same] at p'; cases p'
      exact ⟨b, vs, e1, eb, r, n, by rw [pr0 b hb]; exact p, w⟩
  · obtain ⟨h1, h2, h3, h4, h5⟩ := c.so z hz
    have g4 : upd L.pr a o L.aD = none := h4
    have g5 : upd L.pr a o L.aC = none := h5
    have n1 : L.aD ≠ a := fun q => by rw [q, upd_same] at g4; cases g4
    have n2 : L.aC ≠ a := fun q => by rw [q, upd_same] at g5; cases g5
    exact ⟨h1, h2, h3, by rw [pr0 _ n1]; exact h4, by rw [pr0 _ n2]; exact h5⟩
  · have q := c.sl i
    cases z : st.e i with
    | emp => rw [z] at ho; exact ho
    | val d => rw [z] at ho; exact ho
    | src => rw [z] at ho; exact ho
    | own ds =>
      rw [z] at q
      obtain ⟨b, vs, e1, eb, r, n, p, w⟩ := q
      rw [e] at e1; cases e1
      have p' : upd L.pr a o a = none := p
      rw [upd_same] at p'; cases p'
theorem Cor.rekeep {L : Lay} {Hf : Hp} {st : Sta} {σ : SS} {H : Hp} {a : Addr} {o o' : HO} (c : Cor (L.keep a o) Hf st σ H) : Cor (L.keep a o') Hf st σ (upd H a o') := by
  have ha := c.pr a o upd_same
  have pq : ∀ b, b ≠ a → (L.keep a o).pr b = (L.keep a o').pr b := fun b hb => (upd_ne hb).trans (upd_ne hb).symm
  have nn : ∀ b, (L.keep a o).pr b = none → b ≠ a := fun b e q => by
    have e' : upd L.pr a o b = none := e
    rw [q, upd_same] at e'; cases e'
  refine ⟨fun b x e => ?_, fun b x e => ?_, fun i => ?_, c.dj, fun z hz => ?_⟩
  · have hb : b ≠ a := fun q => by rw [q, ha.2] at e; cases e
    rw [upd_ne hb]; exact c.le b x e
  · by_cases hb : b = a
    · subst hb
      have e' : upd L.pr b o' b = some x := e
      rw [upd_same] at e'; cases e'
      exact ⟨upd_same, ha.2⟩
    · rw [upd_ne hb]; exact c.pr b x (by rw [pq b hb]; exact e)
  · have q := c.sl i
    cases z : st.e i with
    | emp => trivial
    | val d => rw [z] at q; exact q
    | src => rw [z] at q; exact q
    | own ds =>
      rw [z] at q
      obtain ⟨b, vs, e1, eb, r, n, p, w⟩ := q
      have hb := nn b p
      exact ⟨b, vs, e1, by rw [upd_ne hb]; exact eb, r, n, by rw [← pq b hb]; exact p, w⟩
  · obtain ⟨⟨h1, h2⟩, h3, h3', h4, h5⟩ := c.so z hz
    have n1 := nn _ h4
    have n2 := nn _ h5
    exact ⟨⟨(upd_ne n1).trans h1, (upd_ne n2).trans h2⟩, h3, h3', (pq _ n1).symm.trans h4, (pq _ n2).symm.trans h5⟩
theorem z_some {st st' : Sta} (h : st'.z.isSome = st.z.isSome) : st'.z.isSome = true → st.z.isSome = true := fun e => by rw [← h]; exact e
@[simp] def sPar (i j : Nat) (a b : M) : MS := fun st => (a st).bind fun (r1, st1) => (unslt st1 r1).bind fun (r1, st2) => (b st2).bind fun (r2, st3) => (unslt st3 r2).bind fun (r2, st4) =>
  (sto i r1 st4).bind fun st5 => (sto j r2 st5).map fun st6 => (.nx, st6)
section
variable {X : Cx} {ea eb ec : Expr} {a b : M} {pos : Pos}
theorem sPar_nx {st st' : Sta} {i j : Nat} {o : Out} (e : sPar i j a b st = some (o, st')) : o = .nx := by
  unfold sPar at e
  obtain ⟨⟨r1, st1⟩, h1, e⟩ := bind_some2 e
  obtain ⟨⟨r1', st2⟩, h2, e⟩ := bind_some2 e
  obtain ⟨⟨r2, st3⟩, h3, e⟩ := bind_some2 e
  obtain ⟨⟨r2', st4⟩, h4, e⟩ := bind_some2 e
  obtain ⟨st5, h5, e⟩ := bind_some2 e
  obtain ⟨st6, h6, e⟩ := map_some2 e
  cases e; rfl
/-- the two stores, at the state behind both values -/
theorem par_use {L : Lay} {Hf : Hp} {st st' : Sta} {σ : SS} {H : Hp} {i j : Nat} {o : Out} {W : V → V → Hp → Prop} (c : Cor L Hf st σ H) (hi : i < σ.length) (hj : j < σ.length) (e : sPar i j a b st = some (o, st'))
    (k : ∀ v w H' Hf', Sub Hf Hf' → Cor L Hf' st' ((σ.set i (some v)).set j (some w)) H' → W v w H') :
    rdE a σ H fun v H1 => rdE b σ H1 fun w H2 => W v w H2 := by
  unfold sPar at e
  obtain ⟨⟨r1, st1⟩, h1, e⟩ := bind_some2 e
  obtain ⟨⟨r1', st2⟩, h2, e⟩ := bind_some2 e
  obtain ⟨⟨r2, st3⟩, h3, e⟩ := bind_some2 e
  obtain ⟨⟨r2', st4⟩, h4, e⟩ := bind_some2 e
  · obtain ⟨st5, h5, e⟩ := bind_some2 e
    obtain ⟨st6, h6, e⟩ := map_some2 e
    cases e
    refine ev_use c h1 fun v H1 Hf1 s1 c1 q1 => ?_
    obtain ⟨Hf2, s2, c2, q2, ns⟩ := unslt_ok c1 q1 h2
    cases r1' with
    | slt i => exact absurd rfl (ns i)
    | dat d =>
      refine ev_use c2 h3 fun w H3 Hf3 s3 c3 q3 => ?_
      obtain ⟨Hf4, s4, c4, q4, ns4⟩ := unslt_ok c3 q3 h4
      have q2' : Rp Hf4 v d := Rp.up (s3.trans s4) q2
      obtain ⟨Hf5, s5, c5⟩ := sto_ok c4 hi (v := v) (r := .dat d) q2' h5
      cases r2' with
      | slt i => exact absurd rfl (ns4 i)
      | dat d2 =>
        obtain ⟨Hf6, s6, c6⟩ := sto_ok c5 (by rw [List.length_set]; exact hj) (v := w) (r := .dat d2) (Rp.up s5 q4) h6
        exact k v w H3 Hf6 ((s1.trans s2).trans ((s3.trans s4).trans (s5.trans s6))) c6
      | fre ds =>
        cases h5
        obtain ⟨p, vs, rfl, ep, rp, fp⟩ := q4
        have c5' := c4.store hi q2'
        have f5 : Free L Hf4 (st4.put i (.val d)) (σ.set i (some v)) p := ⟨fp.1, fp.2.1, fp.2.2.1, fun j hj e => by
          obtain ⟨n1, n2⟩ := isOwn_put (x := .val d) (fun h => h) hj
          rw [List.getElem?_set_ne (Ne.symm n1)] at e
          exact fp.2.2.2 j n2 e⟩
        cases h6
        exact k v _ H3 Hf4 ((s1.trans s2).trans (s3.trans s4)) (c5'.storeF (by rw [List.length_set]; exact hj) ep rp f5)
    | fre ds =>
      obtain ⟨p, vs, rfl, ep, rp, fp⟩ := q2
      refine ev_use (c2.keep fp ep) h3 fun w H3 Hf3 s3 c3 q3 => ?_
      obtain ⟨Hf4, s4, c4, q4, ns4⟩ := unslt_ok c3 q3 h4
      obtain ⟨c4', ep4, fp4⟩ := c4.unkeep fp.2.1
      have rp4 : RpL Hf4 vs ds := rp.up (s3.trans s4)
      cases h5
      cases r2' with
      | slt i => exact absurd rfl (ns4 i)
      | dat d2 =>
        have c5 := c4'.storeF hi ep4 rp4 fp4
        obtain ⟨Hf6, s6, c6⟩ := sto_ok c5 (by rw [List.length_set]; exact hj) (v := w) (r := .dat d2) q4 h6
        exact k _ w H3 Hf6 ((s1.trans s2).trans ((s3.trans s4).trans s6)) c6
      | fre es =>
        obtain ⟨p', vs', rfl, ep', rp', fp'⟩ := q4
        have hne : p' ≠ p := fun z => by
          have := fp'.2.1
          rw [z] at this
          have this : upd L.pr p (.lst vs) p = none := this
          rw [upd_same] at this; cases this
        have c5 := c4'.storeF hi ep4 rp4 fp4
        have f5 : Free L Hf4 (st4.put i (.own ds)) (σ.set i (some (.ref p))) p' := ⟨fp'.1, by
            have := fp'.2.1
            have this : upd L.pr p (.lst vs) p' = none := this
            rw [upd_ne hne] at this; exact this, fp'.2.2.1, fun j hj e => by
          by_cases ej : j = i
          · subst ej
            rw [List.getElem?_set_self hi] at e
            cases e; exact hne rfl
          · rw [List.getElem?_set_ne (Ne.symm ej)] at e
            rw [put_ne ej] at hj
            exact fp'.2.2.2 j hj e⟩
        cases h6
        exact k _ _ H3 Hf4 ((s1.trans s2).trans (s3.trans s4)) (c5.storeF (by rw [List.length_set]; exact hj) ep' rp' f5)
theorem pa_two {e1 e2 : Expr} {ta tb : TE} (h1 : PE X e1 ta) (h2 : PE X e2 tb) (hs : starEach [e1, e2] X.env = (false, eval e1 X.env) :: starEach [e2] X.env := by rfl) (hs2 : starEach [e2] X.env = (false, eval e2 X.env) :: starEach [] X.env := by rfl) : PA X [e1, e2] (tCons ta (tCons tb tNil)) := pa_cons h1 (pa_cons h2 pa_nil hs2) hs
/-- both plain locals -/
theorem sv_par {i j : Nat} {x y : Str} {px py pt : Pos} {kt k2 pt2} (g : Gd X) (hi : X.N[i]? = some x) (hj : X.N[j]? = some y) (hij : i ≠ j)
    (hx : X.env.scope.names.lookup x = some .local) (hy : X.env.scope.names.lookup y = some .local) (ha : EV X ea a) (hb : EV X eb b)
    (hw : swappedStores [.Tuple [.Name x px, .Name y py] kt pt] (.Tuple [ea, eb] k2 pt2) X.env = pure (some [x, y]) := by rfl)
    (hs : swapsWithSole [.Tuple [.Name x px, .Name y py] kt pt] (.Tuple [ea, eb] k2 pt2) pos.line X.env = pure false := by rfl)
    (hs1 : starEach [ea, eb] X.env = (false, eval ea X.env) :: starEach [eb] X.env := by rfl) (hs2 : starEach [eb] X.env = (false, eval eb X.env) :: starEach [] X.env := by rfl) :
    SV X (.Assign [.Tuple [.Name x px, .Name y py] kt pt] (.Tuple [ea, eb] k2 pt2) pos) (sPar i j a b) := by
  refine sv_of fun L Hf st o st' σ H D hl c e k => ⟨_, ps_par g.calm g.nd hi hj hij hx hy (pa_two ha hb hs1 hs2) hw hs, ?_⟩
  have li : i < σ.length := by rw [hl]; exact lt_of_get hi
  have lj : j < σ.length := by rw [hl]; exact lt_of_get hj
  cases sPar_nx e
  have q := par_use (W := fun v w H' => D.nx ((σ.set i (some v)).set j (some w)) H') c li lj e (fun v w H' Hf' s' c' => k _ H' Hf' s' c')
  obtain ⟨L1, Hf1, st1, r1, st1', c1, e1, k1⟩ := q
  refine ⟨L1, Hf1, st1, r1, st1', c1, e1, fun v H' Hf' s' c' q => ?_⟩
  obtain ⟨L2, Hf2, st2, r2, st2', c2, e2, k2⟩ := k1 v H' Hf' s' c' q
  exact ⟨L2, Hf2, st2, r2, st2', c2, e2, fun w H'' Hf'' s'' c'' q' => ⟨v, w, rfl, k2 w H'' Hf'' s'' c'' q'⟩⟩
/-- any names: the pair is made and unpacked -/
theorem sv_parC {i j : Nat} {x y : Str} {px py pt : Pos} {kt k2 pt2} (g : Gd X) (hi : X.N[i]? = some x) (hj : X.N[j]? = some y) (hx : Loc X.env.scope x) (hy : Loc X.env.scope y) (ha : EV X ea a) (hb : EV X eb b)
    (hs : swapsWithSole [.Tuple [.Name x px, .Name y py] kt pt] (.Tuple [ea, eb] k2 pt2) pos.line X.env = pure false := by rfl) (hw : swappedStores [.Tuple [.Name x px, .Name y py] kt pt] (.Tuple [ea, eb] k2 pt2) X.env = pure none := by rfl)
    (h1 : (assignEach [.Tuple [.Name x px, .Name y py] kt pt] X.env).map (·.2) = [assign (.Tuple [.Name x px, .Name y py] kt pt) X.env] := by rfl)
    (hn : (assignEach [.Name x px, .Name y py] X.env).length = 2 := by rfl) (hst : (assignEach [.Name x px, .Name y py] X.env).findIdx? (·.1) = none := by rfl)
    (ht1 : (assignEach [.Name x px, .Name y py] X.env).map (·.2) = assign (.Name x px) X.env :: (assignEach [.Name y py] X.env).map (·.2) := by rfl)
    (ht2 : (assignEach [.Name y py] X.env).map (·.2) = assign (.Name y py) X.env :: (assignEach [] X.env).map (·.2) := by rfl)
    (hs1 : starEach [ea, eb] X.env = (false, eval ea X.env) :: starEach [eb] X.env := by rfl) (hs2 : starEach [eb] X.env = (false, eval eb X.env) :: starEach [] X.env := by rfl)
    (hf : X.fn x = true ∨ X.env.scope.names.lookup x = some .local := by first | exact .inl rfl | exact .inr rfl | assumption)
    (hf2 : X.fn y = true ∨ X.env.scope.names.lookup y = some .local := by first | exact .inl rfl | exact .inr rfl | assumption) :
    SV X (.Assign [.Tuple [.Name x px, .Name y py] kt pt] (.Tuple [ea, eb] k2 pt2) pos) (sPar i j a b) := by
  refine sv_of fun L Hf st o st' σ H D hl c e k => ⟨_, ps_asg (pe_tup (pa_two ha hb hs1 hs2)) (pg_tup g.calm (pgs_cons (pg_name g.nd hi hx hf) (pgs_cons (pg_name g.nd hj hy hf2) pgs_nil ht2) ht1) hn hst) hs hw h1, ?_⟩
  have li : i < σ.length := by rw [hl]; exact lt_of_get hi
  have lj : j < σ.length := by rw [hl]; exact lt_of_get hj
  cases sPar_nx e
  have q := par_use (W := fun v w H' => ∀ p, H' p = none → D.nx ((σ.set i (some v)).set j (some w)) (upd H' p (.tup [v, w]))) c li lj e (fun v w H' Hf' s' c' p hp => k _ _ Hf' s' (c'.laid hp))
  obtain ⟨L1, Hf1, st1, r1, st1', c1, e1, k1⟩ := q
  refine ⟨L1, Hf1, st1, r1, st1', c1, e1, fun v H' Hf' s' c' q => ?_⟩
  obtain ⟨L2, Hf2, st2, r2, st2', c2, e2, k2⟩ := k1 v H' Hf' s' c' q
  refine ⟨L2, Hf2, st2, r2, st2', c2, e2, fun w H'' Hf'' s'' c'' q' => ⟨by show 2 ≤ sizeLine; decide, fun p hp => ?_⟩⟩
  exact ⟨p, [v, w], rfl, .of upd_same, rfl, v, [w], rfl, w, [], rfl, rfl, k2 w H'' Hf'' s'' c'' q' p hp⟩

/-! ### while -/
def sWhile : Nat → MT → MS → MS
  | 0, _, _ => fun _ => none
  | n + 1, t, b => fun st => (t st).bind fun (c, st1) => if c = true then (b st1).bind fun (o, st2) => match o with
      | .nx => sWhile n t b st2
      | .ct => sWhile n t b st2
      | .bk => some (.nx, st2)
      | .rt d => some (.rt d, st2)
      | .rtF d => some (.rtF d, st2)
    else some (.nx, st1)
theorem sv_while {t : MT} {ss : List Stmt} {m : MS} (g : Gd X) (hc : TV X ec t) (hb : BV X ss m) (n : Nat) : SV X (.While ec ss [] pos) (sWhile n t m) := by
  refine sv_of fun L Hf st o st' σ H D hl c e k => ⟨_, ps_while g.po hc hb, ?_⟩
  refine ⟨fun n σ H => ∃ Hf' st1, Sub Hf Hf' ∧ Cor L Hf' st1 σ H ∧ sWhile n t m st1 = some (o, st'), ⟨n, Hf, st, Sub.refl, c, e⟩, ?_⟩
  rintro n σ1 H1 ⟨Hf1, st1, s1, c1, e1⟩
  cases n with
  | zero => cases e1
  | succ n =>
    have e1' : ((t st1).bind fun (c, st1) => if c = true then (m st1).bind fun (o, st2) => match o with
      | .nx => sWhile n t m st2
      | .ct => sWhile n t m st2
      | .bk => some (.nx, st2)
      | .rt d => some (.rt d, st2)
      | .rtF d => some (.rtF d, st2)
      else some (.nx, st1)) = some (o, st') := e1
    obtain ⟨⟨b, st2⟩, h2, e2⟩ := bind_some2 e1'
    dsimp only at e2
    refine rdT.use c1 h2 fun H2 Hf2 s2 c2 => ?_
    cases b with
    | false =>
      simp only [Bool.false_eq_true, if_false] at e2 ⊢
      cases e2
      exact k σ1 H2 Hf2 (s1.trans s2) c2
    | true =>
      rw [if_pos rfl] at e2 ⊢
      obtain ⟨⟨o3, st3⟩, h3, e3⟩ := bind_some2 e2
      dsimp only at e3
      refine ⟨fun σ' H' => ∃ Hf' st1, Sub Hf Hf' ∧ Cor L Hf' st1 σ' H' ∧ sWhile n t m st1 = some (o, st'), fun σ' H' w => ⟨n, Nat.lt_succ_self n, w⟩, L, Hf2, st2, o3, st3, c2, h3, fun σ3 H3 Hf3 s3 c3 => ?_⟩
      have s13 := (s1.trans s2).trans s3
      cases o3 with
      | nx => exact ⟨Hf3, st3, s13, c3, e3⟩
      | ct => exact ⟨Hf3, st3, s13, c3, e3⟩
      | bk => cases e3; exact k σ3 H3 Hf3 s13 c3
      | rt d => cases e3; exact k σ3 H3 Hf3 s13 c3
      | rtF d => cases e3; exact k σ3 H3 Hf3 s13 c3
end

/-! ### what is walked -/
def WalkD (J : It) (Hf : Hp) (ds : List PyData) : Prop := ∀ Hf' H, Sub Hf Hf' → Sub Hf' H → (∀ (i : Nat) d, ds[i]? = some d → J.go i H ∧ ∀ x H', J.yld i H x H' → Grow Hf' H (.dat d) x H') ∧ J.stop ds.length H
theorem WalkD.mono {J : It} {Hf Hf' : Hp} {ds : List PyData} (w : WalkD J Hf ds) (s : Sub Hf Hf') : WalkD J Hf' ds := fun Hf'' H s' => w Hf'' H (s.trans s')
def rdI (m : ME) : TI := fun σ H R => ∃ L Hf st ds st', Cor L Hf st σ H ∧ m st = some (ds, st') ∧ ∀ J H' Hf', Sub Hf Hf' → Cor L Hf' st' σ H' → WalkD J Hf' ds → R J H'
def IV (X : Cx) (tg iter : Expr) (m : ME) : Prop := PI X tg iter (rdI m)
theorem iv_of {X : Cx} {tg iter : Expr} {m : ME} (h : ∀ L Hf st ds st' σ H R, Cor L Hf st σ H → m st = some (ds, st') → (∀ J H' Hf', Sub Hf Hf' → Cor L Hf' st' σ H' → WalkD J Hf' ds → R J H') → ∃ wi : TI, PI X tg iter wi ∧ wi σ H R) : IV X tg iter m :=
  ⟨fun pins s σ H R I ⟨L, Hf, st, ds, st', c, e, k⟩ => by
    obtain ⟨wi, hw, q⟩ := h L Hf st ds st' σ H R c e k
    exact hw.run pins s σ H R I q⟩
theorem PI.un {X : Cx} {tg iter : Expr} : PI X tg iter (fun σ H R => ∃ wi : TI, PI X tg iter wi ∧ wi σ H R) := ⟨fun pins s σ H R I ⟨wi, hw, q⟩ => hw.run pins s σ H R I q⟩
section
variable {X : Cx} {ea eb ec tg : Expr} {a b : M} {pos p : Pos} {K : PySem.W.Frag}
theorem walkD_lst {Hf : Hp} {q : Addr} {vs : List V} {ds : List PyData} (e : Hf q = some (.lst vs)) (r : RpL Hf vs ds) : WalkD (Itl K q) Hf ds := fun Hf' H s s' => by
  have e' : SqL K H q vs := .of (s' _ _ (s _ _ e))
  refine ⟨fun i d hd => ?_, ⟨vs, e', by rw [r.length]; exact Nat.le_refl _⟩⟩
  obtain ⟨v, hv, rv⟩ := r.get hd
  refine ⟨⟨vs, v, e', hv⟩, fun x H' y => ?_⟩
  obtain ⟨y1, y2⟩ := y
  subst y1
  have := y2 vs e'
  rw [hv] at this; cases this
  exact .old (rv.up s)
theorem walkD_tup {Hf : Hp} {q : Addr} {vs : List V} {ds : List PyData} (e : Hf q = some (.tup vs)) (r : RpL Hf vs ds) : WalkD (Itt K q) Hf ds := fun Hf' H s s' => by
  have e' : SqT K H q vs := .of (s' _ _ (s _ _ e))
  refine ⟨fun i d hd => ?_, ⟨vs, e', by rw [r.length]; exact Nat.le_refl _⟩⟩
  obtain ⟨v, hv, rv⟩ := r.get hd
  refine ⟨⟨vs, v, e', hv⟩, fun x H' y => ?_⟩
  obtain ⟨y1, y2⟩ := y
  subst y1
  have := y2 vs e'
  rw [hv] at this; cases this
  exact .old (rv.up s)
@[simp] def seqD : PyData → Option (List PyData)
  | .list ds => some ds
  | .tuple ds => some ds
  | _ => none
@[simp] def iSeq (a : M) : ME := fun st => (a st).bind fun (r, st1) => (esc st1 r).bind fun (d, st2) => (seqD d).map fun ds => (ds, st2)
theorem PE.un {e : Expr} : PE X e (fun σ H Q => ∃ t, PE X e t ∧ t σ H Q) := ⟨fun pins s σ H Q I ⟨t, h, q⟩ => h.run pins s σ H Q I q⟩
/-- a list or a tuple -/
theorem iv_seq (ha : EV X ea a) : IV X tg ea (iSeq a) := by
  refine ⟨fun pins s σ H R I ⟨L, Hf, st, ds, st', c, e, k⟩ => ?_⟩
  unfold iSeq at e
  obtain ⟨⟨r, st1⟩, h1, e⟩ := bind_some2 e
  obtain ⟨⟨d, st2⟩, h2, e⟩ := bind_some2 e
  obtain ⟨ds', h3, e⟩ := map_some2 e
  cases e
  -- which it is
  cases d with
  | list ds =>
    cases h3
    refine (pi_list ha).run pins s σ H R I ?_
    refine ev_use c h1 fun v H' Hf' s' c' q => ?_
    obtain ⟨Hf2, s2, c2, r2⟩ := esc_ok c' q h2
    cases r2 with
    | lst e2 r2 => exact ⟨_, rfl, ⟨_, .of (c2.le _ _ e2)⟩, k _ H' Hf2 (s'.trans s2) c2 (walkD_lst e2 r2)⟩
  | tuple ds =>
    cases h3
    refine (pi_tup ha).run pins s σ H R I ?_
    refine ev_use c h1 fun v H' Hf' s' c' q => ?_
    obtain ⟨Hf2, s2, c2, r2⟩ := esc_ok c' q h2
    cases r2 with
    | tup e2 r2 => exact ⟨_, rfl, ⟨_, .of (c2.le _ _ e2)⟩, k _ H' Hf2 (s'.trans s2) c2 (walkD_tup e2 r2)⟩
  | none => cases h3
  | bool _ => cases h3
  | int _ => cases h3
  | str _ => cases h3
  | dict _ => cases h3
/-- ranges -/
def rgD (lo : Int) (n : Nat) : List PyData := (List.range n).map fun (i : Nat) => .int (lo + i)
theorem rgD_len (lo : Int) (n : Nat) : (rgD lo n).length = n := by unfold rgD; rw [List.length_map, List.length_range]
theorem rgD_at {lo : Int} {n i : Nat} {d : PyData} (h : (rgD lo n)[i]? = some d) : i < n ∧ d = .int (lo + i) := by
  unfold rgD at h
  rw [List.getElem?_map] at h
  by_cases hi : i < n
  · rw [List.getElem?_range hi] at h
    cases h; exact ⟨hi, rfl⟩
  · rw [List.getElem?_eq_none (by rw [List.length_range]; omega)] at h
    cases h
theorem walkD_rg {lo : Int} {n : Nat} {Hf : Hp} : WalkD (Itr lo n) Hf (rgD lo n) := fun Hf' H s s' => by
  refine ⟨fun i d hd => ?_, by rw [rgD_len]; exact Nat.le_refl _⟩
  obtain ⟨hi, rfl⟩ := rgD_at hd
  refine ⟨hi, fun x H' y => ?_⟩
  obtain ⟨y1, y2⟩ := y
  subst y1; subst y2
  exact .old (.int _)
def rgC (lo c : Int) (n : Nat) : List PyData := (List.range n).map fun (i : Nat) => .int (lo + (i : Nat) * c)
theorem walkD_rgC {lo c : Int} {n : Nat} {Hf : Hp} : WalkD (Itc lo c n) Hf (rgC lo c n) := fun Hf' H s s' => by
  refine ⟨fun i d hd => ?_, by unfold rgC; rw [List.length_map, List.length_range]; exact Nat.le_refl _⟩
  unfold rgC at hd
  rw [List.getElem?_map] at hd
  have hi : i < n := by
    by_cases hi : i < n
    · exact hi
    · rw [List.getElem?_eq_none (by rw [List.length_range]; omega)] at hd
      cases hd
  rw [List.getElem?_range hi] at hd
  cases hd
  refine ⟨hi, fun x H' y => ?_⟩
  obtain ⟨y1, y2⟩ := y
  subst y1; subst y2
  exact .old (.int _)
@[simp] def mInt (a : M) : Sta → Option (Int × Sta) := fun st => match a st with
  | some (.dat (.int i), st1) => some (i, st1)
  | _ => none
theorem mInt_some {a : M} {st st' : Sta} {i : Int} (h : mInt a st = some (i, st')) : a st = some (.dat (.int i), st') := by
  unfold mInt at h
  split at h
  · cases h; assumption
  · cases h
@[simp] def iRg1 (a : M) : ME := fun st => (mInt a st).bind fun (j, st1) => if -(2 ^ 62) ≤ j ∧ j < 2 ^ 62 then some (rgD 0 j.toNat, st1) else none
@[simp] def iRg2 (a b : M) : ME := fun st => (mInt a st).bind fun (i, st1) => (mInt b st1).bind fun (j, st2) => if -(2 ^ 62) ≤ i ∧ i < 2 ^ 62 ∧ -(2 ^ 62) ≤ j ∧ j < 2 ^ 62 then some (rgD i (j - i).toNat, st2) else none
def iRg3 (a b c : M) : ME := fun st => (mInt a st).bind fun (i, st1) => (mInt b st1).bind fun (j, st2) => (mInt c st2).bind fun (c, st3) => if c ≠ 0 ∧ c.natAbs < 1073741824 ∧ Builtin.Range.small i j c = true ∧ 0 ≤ Builtin.Range.rangeSize i j c then some (rgC i c (Builtin.Range.rangeSize i j c).toNat, st3) else none
theorem iv_range1 (hg : Gl X "range") (hm : X.mg "range" = none) (ha : EV X ea a) (hs : starEach [ea] X.env = [(false, eval ea X.env)] := by rfl) (hs1 : starEach [ea] X.env = (false, eval ea X.env) :: starEach [] X.env := by rfl) : IV X tg (.Call (.Name "range" p) [ea] [] pos) (iRg1 a) := by
  refine iv_of fun L Hf st ds st' σ H R c e k => ⟨_, pi_range1 hg hm (pa_cons ha pa_nil hs1) hs, ?_⟩
  unfold iRg1 at e
  obtain ⟨⟨j, st1⟩, h1, e⟩ := bind_some2 e
  dsimp only at e
  split at e
  · rename_i hj
    cases e
    refine ev_use c (mInt_some h1) fun v H' Hf' s' c' q => ?_
    cases q
    exact ⟨_, rfl, hj.1, hj.2, k _ H' Hf' s' c' walkD_rg⟩
  · cases e
theorem iv_range2 (hg : Gl X "range") (hm : X.mg "range" = none) (ha : EV X ea a) (hb : EV X eb b) (hs : starEach [ea, eb] X.env = [(false, eval ea X.env), (false, eval eb X.env)] := by rfl) (hs2 : starEach [eb] X.env = [(false, eval eb X.env)] := by rfl)
    (hs3 : starEach [ea, eb] X.env = (false, eval ea X.env) :: starEach [eb] X.env := by rfl) (hs4 : starEach [eb] X.env = (false, eval eb X.env) :: starEach [] X.env := by rfl) : IV X tg (.Call (.Name "range" p) [ea, eb] [] pos) (iRg2 a b) := by
  refine iv_of fun L Hf st ds st' σ H R c e k => ⟨_, pi_range2 hg hm (pa_two ha hb hs3 hs4) hs hs2, ?_⟩
  unfold iRg2 at e
  obtain ⟨⟨i, st1⟩, h1, e⟩ := bind_some2 e
  obtain ⟨⟨j, st2⟩, h2, e⟩ := bind_some2 e
  dsimp only at e
  split at e
  · rename_i hj
    cases e
    refine ev_use c (mInt_some h1) fun v H' Hf' s' c' q => ?_
    cases q
    refine ev_use c' (mInt_some h2) fun v H'' Hf'' s'' c'' q => ?_
    cases q
    exact ⟨i, j, rfl, hj, k _ _ _ (s'.trans s'') c'' walkD_rg⟩
  · cases e
theorem iv_range3 {d : M} (hg : Gl X "range") (hm : X.mg "range" = none) (ha : EV X ea a) (hb : EV X eb b) (hc : EV X ec d)
    (hs : starEach [ea, eb, ec] X.env = (false, eval ea X.env) :: starEach [eb, ec] X.env := by rfl) (hs2 : starEach [eb, ec] X.env = (false, eval eb X.env) :: starEach [ec] X.env := by rfl) (hs3 : starEach [ec] X.env = (false, eval ec X.env) :: starEach [] X.env := by rfl)
    (hpl : (backTo pos (starEach [eb, ec] X.env)).any (·.1) = false := by rfl) : IV X tg (.Call (.Name "range" p) [ea, eb, ec] [] pos) (iRg3 a b d) := by
  refine iv_of fun L Hf st ds st' σ H R c e k => ⟨_, pi_range3 hg hm (pa_cons ha (pa_cons hb (pa_cons hc pa_nil hs3) hs2) hs) hs hpl, ?_⟩
  unfold iRg3 at e
  obtain ⟨⟨i, st1⟩, h1, e⟩ := bind_some2 e
  obtain ⟨⟨j, st2⟩, h2, e⟩ := bind_some2 e
  obtain ⟨⟨l, st3⟩, h3, e⟩ := bind_some2 e
  dsimp only at e
  split at e
  · rename_i hj
    cases e
    refine ev_use c (mInt_some h1) fun v H' Hf' s' c' q => ?_
    cases q
    refine ev_use c' (mInt_some h2) fun v H'' Hf'' s'' c'' q => ?_
    cases q
    refine ev_use c'' (mInt_some h3) fun v H3 Hf3 s3 c3 q => ?_
    cases q
    exact ⟨i, j, l, _, rfl, ⟨hj.1, hj.2.1, hj.2.2.1, (Int.toNat_of_nonneg hj.2.2.2).symm⟩, k _ _ _ ((s'.trans s'').trans s3) c3 walkD_rgC⟩
  · cases e
/-- zip(x, y): two lists, or two tuples -/
def pairD (x y : PyData) : PyData := .tuple [x, y]
def zipD : PyData → PyData → Option (List PyData)
  | .list xs, .list ys => some (List.zipWith pairD xs ys)
  | .tuple xs, .tuple ys => some (List.zipWith pairD xs ys)
  | _, _ => none
def iZip (a b : M) : ME := fun st => (a st).bind fun (r1, st1) => (esc st1 r1).bind fun (d1, st2) => (b st2).bind fun (r2, st3) => (esc st3 r2).bind fun (d2, st4) => (zipD d1 d2).map fun ds => (ds, st4)
theorem zip_at {xs ys : List PyData} {i : Nat} {d : PyData} (h : (List.zipWith pairD xs ys)[i]? = some d) : ∃ x y, xs[i]? = some x ∧ ys[i]? = some y ∧ d = .tuple [x, y] := by
  rw [List.getElem?_zipWith] at h
  cases h1 : xs[i]? with
  | none => rw [h1] at h; cases h
  | some x =>
    cases h2 : ys[i]? with
    | none => rw [h1, h2] at h; cases h
    | some y => rw [h1, h2] at h; cases h; exact ⟨x, y, rfl, rfl, rfl⟩
theorem iv_zip {elts : List Expr} {kk : Nat} {tpos : Pos} (hg : Gl X "zip") (hm : X.mg "zip" = none) (ha : EV X ea a) (hb : EV X eb b)
    (hs : starEach [ea, eb] X.env = (false, eval ea X.env) :: starEach [eb] X.env := by rfl) (hs2 : starEach [eb] X.env = (false, eval eb X.env) :: starEach [] X.env := by rfl) (hpl : (backTo pos (starEach [eb] X.env)).any (·.1) = false := by rfl) :
    IV X (.Tuple elts kk tpos) (.Call (.Name "zip" p) [ea, eb] [] pos) (iZip a b) := by
  refine iv_of fun L Hf st ds st' σ H R c e k => ⟨_, RZ.pi_zipA hg hm (pa_two ha hb hs hs2) hs hpl, ?_⟩
  unfold iZip at e
  obtain ⟨⟨r1, st1⟩, h1, e⟩ := bind_some2 e
  obtain ⟨⟨d1, st2⟩, h2, e⟩ := bind_some2 e
  obtain ⟨⟨r2, st3⟩, h3, e⟩ := bind_some2 e
  obtain ⟨⟨d2, st4⟩, h4, e⟩ := bind_some2 e
  obtain ⟨ds', h5, e⟩ := map_some2 e
  cases e
  refine ev_use c h1 fun v H' Hf' s' c' q => ?_
  obtain ⟨Hf2, s2, c2, q2⟩ := esc_ok c' q h2
  refine ev_use c2 h3 fun w H3 Hf3 s3 c3 q3 => ?_
  obtain ⟨Hf4, s4, c4, q4⟩ := esc_ok c3 q3 h4
  have q2' := q2.up (s3.trans s4)
  have sAll := (s'.trans s2).trans (s3.trans s4)
  unfold zipD at h5
  split at h5
  · cases h5
    rename_i xs ys
    cases q2' with
    | @lst pa vs _ ea1 ra =>
      cases q4 with
      | @lst pb ws _ eb1 rb =>
        refine ⟨pa, pb, vs, ws, rfl, .inl ⟨.of (c4.le _ _ ea1), .of (c4.le _ _ eb1), k _ H3 Hf4 sAll c4 fun Hf5 H5 s5 s6 => ⟨fun i d hd => ?_, ?_⟩⟩⟩
        · obtain ⟨x, y, hx, hy, rfl⟩ := zip_at hd
          obtain ⟨v1, hv1, rv1⟩ := ra.get hx
          obtain ⟨v2, hv2, rv2⟩ := rb.get hy
          have e1 : SqL X.K H5 pa vs := .of (s6 _ _ (s5 _ _ ea1))
          have e2 : SqL X.K H5 pb ws := .of (s6 _ _ (s5 _ _ eb1))
          refine ⟨⟨vs, ws, v1, v2, e1, e2, hv1, hv2⟩, fun x' H' y' => ?_⟩
          obtain ⟨T, x1, x2, rfl, nT, rfl, f1, f2⟩ := y'
          have g1 := f1 _ e1; have g2 := f2 _ e2
          rw [hv1] at g1; rw [hv2] at g2
          cases g1; cases g2
          exact .tup nT (.cons (rv1.up s5) (.cons (rv2.up s5) .nil))
        · exact ⟨vs, ws, .of (s6 _ _ (s5 _ _ ea1)), .of (s6 _ _ (s5 _ _ eb1)), by rw [ra.length, rb.length, List.length_zipWith]; omega⟩
  · cases h5
    rename_i xs ys
    cases q2' with
    | @tup pa vs _ ea1 ra =>
      cases q4 with
      | @tup pb ws _ eb1 rb =>
        refine ⟨pa, pb, vs, ws, rfl, .inr ⟨.of (c4.le _ _ ea1), .of (c4.le _ _ eb1), k _ H3 Hf4 sAll c4 fun Hf5 H5 s5 s6 => ⟨fun i d hd => ?_, ?_⟩⟩⟩
        · obtain ⟨x, y, hx, hy, rfl⟩ := zip_at hd
          obtain ⟨v1, hv1, rv1⟩ := ra.get hx
          obtain ⟨v2, hv2, rv2⟩ := rb.get hy
          have e1 : SqT X.K H5 pa vs := .of (s6 _ _ (s5 _ _ ea1))
          have e2 : SqT X.K H5 pb ws := .of (s6 _ _ (s5 _ _ eb1))
          refine ⟨⟨vs, ws, v1, v2, e1, e2, hv1, hv2⟩, fun x' H' y' => ?_⟩
          obtain ⟨T, x1, x2, rfl, nT, rfl, f1, f2⟩ := y'
          have g1 := f1 _ e1; have g2 := f2 _ e2
          rw [hv1] at g1; rw [hv2] at g2
          cases g1; cases g2
          exact .tup nT (.cons (rv1.up s5) (.cons (rv2.up s5) .nil))
        · exact ⟨vs, ws, .of (s6 _ _ (s5 _ _ ea1)), .of (s6 _ _ (s5 _ _ eb1)), by rw [ra.length, rb.length, List.length_zipWith]; omega⟩
  · cases h5
/-- enumerate(x), a list -/
def enumL (xs : List PyData) : List PyData := xs.zipIdx.map fun (x, i) => .tuple [.int (i : Nat), x]
def enumD : PyData → Option (List PyData)
  | .list xs => some (enumL xs)
  | _ => none
def iEnumM (a : M) : ME := fun st => (a st).bind fun (r1, st1) => (esc st1 r1).bind fun (d1, st2) => (enumD d1).map fun ds => (ds, st2)
theorem enum_at {xs : List PyData} {i : Nat} {d : PyData} (h : (enumL xs)[i]? = some d) : ∃ x, xs[i]? = some x ∧ d = .tuple [.int (i : Nat), x] := by
  unfold enumL at h
  rw [List.getElem?_map, List.getElem?_zipIdx] at h
  cases h1 : xs[i]? with
  | none => rw [h1] at h; cases h
  | some x => rw [h1] at h; simp at h; exact ⟨x, rfl, h.symm⟩
theorem iv_enum {elts : List Expr} {kk : Nat} {tpos : Pos} (hg : Gl X "enumerate") (hm : X.mg "enumerate" = none) (ha : EV X ea a)
    (hs : starEach [ea] X.env = [(false, eval ea X.env)] := by rfl) (hs1 : starEach [ea] X.env = (false, eval ea X.env) :: starEach [] X.env := by rfl) : IV X (.Tuple elts kk tpos) (.Call (.Name "enumerate" p) [ea] [] pos) (iEnumM a) := by
  refine iv_of fun L Hf st ds st' σ H R c e k => ⟨_, pi_enum hg hm (pa_cons ha pa_nil hs1) hs, ?_⟩
  unfold iEnumM at e
  obtain ⟨⟨r1, st1⟩, h1, e⟩ := bind_some2 e
  obtain ⟨⟨d1, st2⟩, h2, e⟩ := bind_some2 e
  obtain ⟨ds', h5, e⟩ := map_some2 e
  cases e
  refine ev_use c h1 fun v H' Hf' s' c' q => ?_
  obtain ⟨Hf2, s2, c2, q2⟩ := esc_ok c' q h2
  unfold enumD at h5
  split at h5
  · cases h5
    cases q2 with
    | @lst pa vs _ ea1 ra =>
      refine ⟨pa, vs, rfl, .of (c2.le _ _ ea1), k _ H' Hf2 (s'.trans s2) c2 fun Hf5 H5 s5 s6 => ⟨fun i d hd => ?_, ?_⟩⟩
      · obtain ⟨x, hx, rfl⟩ := enum_at hd
        obtain ⟨v1, hv1, rv1⟩ := ra.get hx
        have e1 : SqL X.K H5 pa vs := .of (s6 _ _ (s5 _ _ ea1))
        refine ⟨⟨vs, v1, e1, hv1⟩, fun x' H' y' => ?_⟩
        obtain ⟨T, x1, rfl, nT, rfl, f1⟩ := y'
        have g1 := f1 _ e1
        rw [hv1] at g1
        cases g1
        exact .tup nT (.cons (.int _) (.cons (rv1.up s5) .nil))
      · exact ⟨vs, .of (s6 _ _ (s5 _ _ ea1)), by rw [ra.length]; unfold enumL; rw [List.length_map, List.length_zipIdx]; exact Nat.le_refl _⟩
  · cases h5

/-! ### for -/
def runFor (t : MG) (b : MS) : List PyData → MS
  | [] => fun st => some (.nx, st)
  | d :: ds => fun st => (t d st).bind fun st1 => (b st1).bind fun (o, st2) => match o with
    | .nx => runFor t b ds st2
    | .ct => runFor t b ds st2
    | .bk => some (.nx, st2)
    | .rt d => some (.rt d, st2)
    | .rtF d => some (.rtF d, st2)
@[simp] def sFor (t : MG) (it : ME) (b : MS) : MS := fun st => (it st).bind fun (ds, st1) => runFor t b ds st1
theorem drop_at {α : Type} {l : List α} {i : Nat} (h : i < l.length) : ∃ x, l[i]? = some x ∧ l.drop i = x :: l.drop (i + 1) := ⟨l[i], List.getElem?_eq_getElem h, List.drop_eq_getElem_cons h⟩
theorem Grow.laid {L : Lay} {Hf H H' : Hp} {st : Sta} {σ : SS} {d : PyData} {v : V} (g : Grow Hf H (.dat d) v H') (c : Cor L Hf st σ H) : ∃ Hf', Sub Hf Hf' ∧ Cor L Hf' st σ H' ∧ Rp Hf' v d := by
  cases g with
  | old q => exact ⟨Hf, Sub.refl, c, q⟩
  | @tup p vs ds hp q =>
    have f := c.free_new hp
    have hs : Sub Hf (upd Hf p (.tup vs)) := Sub.ext f.1
    exact ⟨_, hs, (c.laid hp).freeze f upd_same, .tup upd_same (q.up hs)⟩
  | @dct p vs ds hp q =>
    have f := c.free_new hp
    have hs : Sub Hf (upd Hf p (.dK vs)) := Sub.ext f.1
    exact ⟨_, hs, (c.laid hp).freeze f upd_same, .dct upd_same (RpK.mono hs _ _ q)⟩
  | @tup2 p r vs ds i hp hr q =>
    have f := c.free_new hp
    have hs : Sub Hf (upd Hf p (.tup vs)) := Sub.ext f.1
    have c1 : Cor L (upd Hf p (.tup vs)) st σ (upd H p (.tup vs)) := (c.laid hp).freeze f upd_same
    have f2 := c1.free_new hr
    have hs2 : Sub (upd Hf p (.tup vs)) (upd (upd Hf p (.tup vs)) r (.tup [.int i, .ref p])) := Sub.ext f2.1
    exact ⟨_, hs.trans hs2, (c1.laid hr).freeze f2 upd_same, .tup upd_same (.cons (.int i) (.cons (Rp.up hs2 (.tup upd_same (q.up hs))) .nil))⟩
theorem sv_for {t : MG} {is : List Nat} {it : ME} {ss : List Stmt} {m : MS} (g : Gd X) (hi : IV X tg ea it) (hg : GV X tg t is) (hb : BV X ss m) (hs : ∀ x, foldedSetIterable ea X.env x = pure x := by intro _; rfl) : SV X (.For tg ea ss [] pos) (sFor t it m) := by
  refine sv_of fun L Hf st o st' σ H D hl c e k => ⟨_, ps_for g.po g.calm hi hg hb hs, ?_⟩
  unfold sFor at e
  obtain ⟨⟨ds, st1⟩, h1, e⟩ := bind_some2 e
  refine ⟨L, Hf, st, ds, st1, c, h1, fun J H1 Hf1 s1 c1 wk => ?_⟩
  refine ⟨fun i n σ H => n = ds.length - i ∧ i ≤ ds.length ∧ ∃ Hf' st2, Sub Hf1 Hf' ∧ Cor L Hf' st2 σ H ∧ runFor t m (ds.drop i) st2 = some (o, st'), ⟨ds.length, by simp, Nat.zero_le _, Hf1, st1, Sub.refl, c1, e⟩, ?_⟩
  rintro i n σ2 H2 ⟨rfl, hi, Hf2, st2, s2, c2, e2⟩
  obtain ⟨w1, w2⟩ := wk Hf2 H2 s2 c2.le
  by_cases hlt : i < ds.length
  · obtain ⟨d, hd, hdr⟩ := drop_at hlt
    rw [hdr] at e2
    have e2' : ((t d st2).bind fun st1 => (m st1).bind fun (o, st2) => match o with
      | .nx => runFor t m (ds.drop (i + 1)) st2
      | .ct => runFor t m (ds.drop (i + 1)) st2
      | .bk => some (.nx, st2)
      | .rt d => some (.rt d, st2)
      | .rtF d => some (.rtF d, st2)) = some (o, st') := e2
    obtain ⟨st3, h3, e3⟩ := bind_some2 e2'
    obtain ⟨⟨o4, st4⟩, h4, e4⟩ := bind_some2 e3
    dsimp only at e4
    obtain ⟨wg, wy⟩ := w1 i d hd
    refine .inr ⟨wg, fun σ H => ∃ Hf' st2, Sub Hf1 Hf' ∧ Cor L Hf' st2 σ H ∧ runFor t m (ds.drop (i + 1)) st2 = some (o, st'), fun σ' H' w => ⟨ds.length - (i + 1), by omega, rfl, hlt, w⟩, fun x H' y => ?_⟩
    obtain ⟨Hf3, s3, c3, r3⟩ := (wy x H' y).laid c2
    refine ⟨L, Hf3, st2, d, st3, c3, r3, h3, fun σ5 H5 Hf5 s5 c5 _ _ => ?_⟩
    refine ⟨L, Hf5, st3, o4, st4, c5, h4, fun σ6 H6 Hf6 s6 c6 => ?_⟩
    have sA := ((s2.trans s3).trans s5).trans s6
    cases o4 with
    | nx => exact ⟨Hf6, st4, sA, c6, e4⟩
    | ct => exact ⟨Hf6, st4, sA, c6, e4⟩
    | bk => cases e4; exact k σ6 H6 Hf6 (s1.trans sA) c6
    | rt d => cases e4; exact k σ6 H6 Hf6 (s1.trans sA) c6
    | rtF d => cases e4; exact k σ6 H6 Hf6 (s1.trans sA) c6
  · have e0 : i = ds.length := by omega
    subst e0
    rw [List.drop_length] at e2
    cases e2
    exact .inl ⟨w2, k σ2 H2 Hf2 (s1.trans s2) c2⟩
end
end NV
set_option Elab.async false
set_option linter.all false
set_option maxRecDepth 100000
set_option maxHeartbeats 4000000
/-! NV7: comprehensions; list(range(..)), tuple(range(..)) -/
namespace NV
open PySem PySem.Spec PyProof.Rows L2

/-! ### the slots of a comprehension's block -/
/-- the slots emptied -/
def clr (vs : List Nat) (st : Sta) : Sta := ⟨fun j => if j ∈ vs then .emp else st.e j, st.z⟩
/-- .. and as they were -/
def unclr (vs : List Nat) (st0 st : Sta) : Sta := ⟨fun j => if j ∈ vs then st0.e j else st.e j, st.z⟩
@[simp] def slFree : Sl → Bool
  | .emp => true
  | .val _ => true
  | _ => false
theorem clr_in {vs : List Nat} {st : Sta} {j : Nat} (h : j ∈ vs) : (clr vs st).e j = .emp := if_pos h
theorem clr_out {vs : List Nat} {st : Sta} {j : Nat} (h : j ∉ vs) : (clr vs st).e j = st.e j := if_neg h
theorem clr_own {vs : List Nat} {st : Sta} {j : Nat} (h : ((clr vs st).e j).isOwn) : j ∉ vs ∧ (st.e j).isOwn := by
  by_cases hj : j ∈ vs
  · rw [clr_in hj] at h; exact h.elim
  · rw [clr_out hj] at h; exact ⟨hj, h⟩
theorem SlOk.at {L : Lay} {Hf : Hp} {zs : Bool} {σ σ' : SS} {H : Hp} {i : Nat} {x : Sl} (h : SlOk L Hf zs σ H i x) (e : σ'[i]? = σ[i]?) : SlOk L Hf zs σ' H i x := by
  cases x with
  | emp => trivial
  | val d => obtain ⟨v, e1, r⟩ := h; exact ⟨v, e.trans e1, r⟩
  | own ds => obtain ⟨a, vs, e1, r⟩ := h; exact ⟨a, vs, e.trans e1, r⟩
  | src => exact ⟨e.trans h.1, h.2⟩
/-- emptied slots: the places may hold anything -/
theorem Cor.clr {L : Lay} {Hf : Hp} {st : Sta} {σ σ' : SS} {H : Hp} {vs : List Nat} (c : Cor L Hf st σ H) (h : ∀ j, j ∉ vs → σ'[j]? = σ[j]?) : Cor L Hf (clr vs st) σ' H where
  le := c.le
  pr := c.pr
  sl := fun j => by
    by_cases hj : j ∈ vs
    · rw [clr_in hj]; trivial
    · rw [clr_out hj]; exact (c.sl j).at (h j hj)
  dj := fun j k a h1 h2 e1 e2 => by
    obtain ⟨n1, o1⟩ := clr_own h1
    obtain ⟨n2, o2⟩ := clr_own h2
    rw [h j n1] at e1
    rw [h k n2] at e2
    exact c.dj j k a o1 o2 e1 e2
  so := c.so
theorem Cor.unclr {L : Lay} {Hf0 Hf : Hp} {st0 st : Sta} {σ σ' : SS} {H0 H : Hp} {vs : List Nat} (c : Cor L Hf st σ' H) (c0 : Cor L Hf0 st0 σ H0) (s : Sub Hf0 Hf) (h : ∀ j, j ∉ vs → σ'[j]? = σ[j]?) (hf : ∀ j ∈ vs, slFree (st0.e j) = true) : Cor L Hf (unclr vs st0 st) σ H where
  le := c.le
  pr := c.pr
  sl := fun j => by
    by_cases hj : j ∈ vs
    · rw [show (NV.unclr vs st0 st).e j = st0.e j from if_pos hj]
      have q := c0.sl j
      have f := hf j hj
      cases z : st0.e j with
      | emp => trivial
      | val d =>
        rw [z] at q
        obtain ⟨v, e1, r⟩ := q
        exact ⟨v, e1, r.up s⟩
      | own ds => rw [z] at f; cases f
      | src => rw [z] at f; cases f
    · rw [show (NV.unclr vs st0 st).e j = st.e j from if_neg hj]
      exact (c.sl j).at (h j hj).symm
  dj := fun j k a h1 h2 e1 e2 => by
    have t : ∀ j, ((NV.unclr vs st0 st).e j).isOwn → j ∉ vs ∧ (st.e j).isOwn := fun j hj => by
      by_cases hv : j ∈ vs
      · rw [show (NV.unclr vs st0 st).e j = st0.e j from if_pos hv] at hj
        have f := hf j hv
        cases z : st0.e j with
        | emp => rw [z] at hj; exact hj.elim
        | val d => rw [z] at hj; exact hj.elim
        | own ds => rw [z] at f; cases f
        | src => rw [z] at f; cases f
      · rw [show (NV.unclr vs st0 st).e j = st.e j from if_neg hv] at hj
        exact ⟨hv, hj⟩
    obtain ⟨n1, o1⟩ := t j h1
    obtain ⟨n2, o2⟩ := t k h2
    rw [← h j n1] at e1
    rw [← h k n2] at e2
    exact c.dj j k a o1 o2 e1 e2
  so := c.so

theorem unclr_own {vs : List Nat} {st0 st : Sta} (hf : ∀ j ∈ vs, slFree (st0.e j) = true) {j : Nat} (hj : ((unclr vs st0 st).e j).isOwn) : j ∉ vs ∧ (st.e j).isOwn := by
  by_cases hv : j ∈ vs
  · rw [show (NV.unclr vs st0 st).e j = st0.e j from if_pos hv] at hj
    have f := hf j hv
    cases z : st0.e j with
    | emp => rw [z] at hj; exact hj.elim
    | val d => rw [z] at hj; exact hj.elim
    | own ds => rw [z] at f; cases f
    | src => rw [z] at f; cases f
  · rw [show (NV.unclr vs st0 st).e j = st.e j from if_neg hv] at hj
    exact ⟨hv, hj⟩

/-! ### one clause -/
def runC (vs : List Nat) (t : MG) (tt : MT) (el : M) : List PyData → Sta → List PyData → Option (List PyData × Sta)
  | [], st, acc => some (acc, st)
  | d :: ds, st, acc => (t d st).bind fun st1 => (tt st1).bind fun (b, st2) => if b = true then (el st2).bind fun (r, st3) => (esc st3 r).bind fun (e, st4) => if acc.length < sizeLine then runC vs t tt el ds (clr vs st4) (acc ++ [e]) else none
      else runC vs t tt el ds (clr vs st2) acc
@[simp] def mComp (vs : List Nat) (t : MG) (it : ME) (tt : MT) (el : M) : M := fun st => (it st).bind fun (ds, st1) => if vs.all (fun j => slFree (st1.e j)) = true then (runC vs t tt el ds (clr vs st1) []).map fun (acc, st2) => (.fre acc, unclr vs st1 st2) else none
@[simp] def tYesM : MT := fun st => some (true, st)
def TVs (X : Cx) (ifs : List Expr) (m : MT) : Prop := PTs X ifs (rdT m)
theorem tvs_nil {X : Cx} : TVs X [] tYesM := ⟨fun pins s σ H Q I ⟨L, Hf, st, b, st', c, e, k⟩ => by
  cases e
  exact (pts_nil (X := X)).run pins s σ H Q I (k H Hf Sub.refl c)⟩
theorem tvs_one {X : Cx} {c : Expr} {m : MT} (h : TV X c m) : TVs X [c] m := pts_one h
theorem wipe_at {σ : SS} {vs : List Nat} {j : Nat} (h : j ∉ vs) : (wipe σ vs)[j]? = σ[j]? := wipe_out h
theorem wipe_in {σ : SS} : ∀ {vs : List Nat} {j : Nat}, j ∈ vs → j < σ.length → (wipe σ vs)[j]? = some none
  | [], _, h, _ => nomatch h
  | v :: vs, j, h, hl => by
    unfold wipe
    by_cases e : v = j
    · subst e; exact List.getElem?_set_self (by rw [wipe_length]; exact hl)
    · rw [List.getElem?_set_ne e]
      rcases List.mem_cons.mp h with z | z
      · exact absurd z.symm e
      · exact wipe_in z hl
theorem wipe_eq {σ σ' : SS} {vs : List Nat} (hl : σ'.length = σ.length) (h : ∀ j, j ∉ vs → σ'[j]? = (wipe σ vs)[j]?) : wipe σ' vs = wipe σ vs := by
  apply List.ext_getElem?
  intro j
  by_cases hj : j ∈ vs
  · by_cases hn : j < σ.length
    · rw [wipe_in hj hn, wipe_in hj (by rw [hl]; exact hn)]
    · rw [List.getElem?_eq_none (by rw [wipe_length]; omega), List.getElem?_eq_none (by rw [wipe_length]; omega)]
  · rw [wipe_out hj]; exact h j hj
/-- a comprehension's reading, from its run -/
theorem comp_use {vs : List Nat} {t : MG} {is : List Nat} {it : ME} {tt : MT} {el : M} {L : Lay} {Hf : Hp} {st st' : Sta} {σ : SS} {H : Hp} {r : R} {Q : VK} (his : ∀ j ∈ is, j ∈ vs) (c : Cor L Hf st σ H) (e : mComp vs t it tt el st = some (r, st')) (k : After L Hf st' σ r Q) :
    tLc (rdI it) (rdG t is) (rdT tt) (rdE el) vs σ H Q := by
  unfold mComp at e
  obtain ⟨⟨ds, st1⟩, h1, e⟩ := bind_some2 e
  dsimp only at e
  split at e
  · rename_i hfr
    obtain ⟨⟨res, st2⟩, h2, e⟩ := map_some2 e
    cases e
    have hfr' : ∀ j ∈ vs, slFree (st1.e j) = true := fun j hj => List.all_eq_true.mp hfr j hj
    refine ⟨L, Hf, st, ds, st1, c, h1, fun J H1 Hf1 s1 c1 wk D hD => ?_⟩
    have fD := c1.free_new hD
    have hw : ∀ j, j ∉ vs → (wipe σ vs)[j]? = σ[j]? := fun j hj => wipe_out hj
    refine ⟨fun i n H => n = ds.length - i ∧ i ≤ ds.length ∧ ∃ Hf' st3 acc av, Sub Hf1 Hf' ∧ Cor (L.keep D (.lst av)) Hf' st3 (wipe σ vs) H ∧ RpL Hf' av acc ∧ runC vs t tt el (ds.drop i) st3 acc = some (res, st2), ?_, ?_⟩
    · refine ⟨ds.length, by simp, Nat.zero_le _, Hf1, clr vs st1, [], [], Sub.refl, ?_, .nil, h2⟩
      have cl := c1.laid (o := .lst []) hD
      have fD' : Free L Hf1 st1 σ D := fD
      exact (cl.keep fD' upd_same).clr hw
    · rintro i n H2 ⟨rfl, hi, Hf2, st3, acc, av, s2, c2, ra, e2⟩
      obtain ⟨w1, w2⟩ := wk Hf2 H2 s2 c2.le
      by_cases hlt : i < ds.length
      · obtain ⟨d, hd, hdr⟩ := drop_at hlt
        rw [hdr] at e2
        have e2' : ((t d st3).bind fun st1 => (tt st1).bind fun (b, st2) => if b = true then (el st2).bind fun (r, st3) => (esc st3 r).bind fun (e, st4) => if acc.length < sizeLine then runC vs t tt el (ds.drop (i + 1)) (clr vs st4) (acc ++ [e]) else none
          else runC vs t tt el (ds.drop (i + 1)) (clr vs st2) acc) = some (res, st2) := e2
        obtain ⟨st4, h4, e4⟩ := bind_some2 e2'
        obtain ⟨⟨b, st5⟩, h5, e5⟩ := bind_some2 e4
        dsimp only at e5
        obtain ⟨wg, wy⟩ := w1 i d hd
        have nx : Hp → Prop := fun H => True
        refine .inr ⟨wg, fun H => ∃ Hf' st3 acc av, Sub Hf1 Hf' ∧ Cor (L.keep D (.lst av)) Hf' st3 (wipe σ vs) H ∧ RpL Hf' av acc ∧ runC vs t tt el (ds.drop (i + 1)) st3 acc = some (res, st2), fun H' w => ⟨ds.length - (i + 1), by omega, rfl, hlt, w⟩, fun x H' y => ?_⟩
        obtain ⟨Hf3, s3, c3, r3⟩ := (wy x H' y).laid c2
        refine ⟨L.keep D (.lst av), Hf3, st3, d, st4, c3, r3, h4, fun σ5 H5 Hf5 s5 c5 o5 l5 => ⟨wipe_eq (l5.trans (wipe_length σ vs)) fun j hj => o5 j fun z => hj (his j z), ?_⟩⟩
        have back : ∀ j, j ∉ vs → (wipe σ vs)[j]? = σ5[j]? := fun j hj => (o5 j fun z => hj (his j z)).symm
        refine rdT.use c5 h5 fun H6 Hf6 s6 c6 => ?_
        have sA := ((s2.trans s3).trans s5).trans s6
        cases b with
        | false =>
          simp only [Bool.false_eq_true, if_false] at e5 ⊢
          exact ⟨Hf6, _, acc, av, sA, c6.clr back, ra.up ((s3.trans s5).trans s6), e5⟩
        | true =>
          rw [if_pos rfl] at e5 ⊢
          obtain ⟨⟨r7, st7⟩, h7, e7⟩ := bind_some2 e5
          obtain ⟨⟨d8, st8⟩, h8, e9⟩ := bind_some2 e7
          dsimp only at e9
          split at e9
          · rename_i hz
            refine ev_use c6 h7 fun v H7 Hf7 s7 c7 q7 => ?_
            obtain ⟨Hf8, s8, c8, r8⟩ := esc_ok c7 q7 h8
            refine ⟨av, (c8.pr D _ upd_same).1, by rw [ra.length]; exact hz, Hf8, _, acc ++ [d8], av ++ [v], sA.trans (s7.trans s8), ?_, (ra.up (((s3.trans s5).trans s6).trans (s7.trans s8))).app (.cons r8 .nil), e9⟩
            exact c8.rekeep.clr back
          · cases e9
      · have e0 : i = ds.length := by omega
        subst e0
        rw [List.drop_length] at e2
        cases e2
        refine .inl ⟨w2, ?_⟩
        obtain ⟨c3, e3, f3⟩ := c2.unkeep fD.2.1
        have c4 := c3.unclr c1 s2 hw hfr'
        refine k _ H2 Hf2 (s1.trans s2) c4 ⟨D, av, rfl, e3, ra, f3.1, f3.2.1, f3.2.2.1, fun j hj e => ?_⟩
        obtain ⟨n1, o1⟩ := unclr_own hfr' hj
        exact f3.2.2.2 j o1 (by rw [hw j n1]; exact e)
  · cases e
section
variable {X : Cx} {ea eb ec tg elt iter : Expr} {a b : M} {pos p : Pos}
theorem ev_comp {ifs : List Expr} {scope : Scope} {own : List (Str × Nat)} {vs : List Nat} {t : MG} {is : List Nat} {it : ME} {tt : MT} {el : M} (g : Gd X) (hi : IV X tg iter it) (ok : BlkOk X.N X.env.scope scope own) (hvs : own.map (·.2) = vs) (his : ∀ j ∈ is, j ∈ vs)
    (hg : ∀ (s : Shared) (H : Hp) (C : Addr) (cl : List (Str × Addr)) (fp : List Addr), GV (X.blk s H scope (compEnvC scope cl C X.env) fp) tg t is) (ht : ∀ (s : Shared) (H : Hp) (C : Addr) (cl : List (Str × Addr)) (fp : List Addr), TVs (X.blk s H scope (compEnvC scope cl C X.env) fp) ifs tt)
    (he : ∀ (s : Shared) (H : Hp) (C : Addr) (cl : List (Str × Addr)) (fp : List Addr), EV (X.blk s H scope (compEnvC scope cl C X.env) fp) elt el) (hs : ∀ x, foldedSetIterable iter X.env x = pure x := by intro _; rfl) :
    EV X (.ListComp elt [⟨tg, iter, ifs, 0⟩] scope pos) (mComp vs t it tt el) :=
  ev_of fun L Hf st r st' σ H Q c e k => ⟨_, pe_lc g.calm g.nd hi ok hg ht he hs, by rw [hvs]; exact comp_use his c e k⟩
/-- x = [..], x a plain local, on one line -/
theorem sv_asgLc {i : Nat} {y : Str} {py spos : Pos} {ifs : List Expr} {scope : Scope} {own : List (Str × Nat)} {vs : List Nat} {t : MG} {is : List Nat} {it : ME} {tt : MT} {el : M} (g : Gd X) (hy : X.N[i]? = some y) (hyl : X.env.scope.names.lookup y = some .local)
    (hsw : swapsWith (.ListComp elt [⟨tg, iter, ifs, 0⟩] scope pos) (some (.Name y py)) spos.line X.env = pure true) (hi : IV X tg iter it) (ok : BlkOk X.N X.env.scope scope own) (hvs : own.map (·.2) = vs) (his : ∀ j ∈ is, j ∈ vs)
    (hg : ∀ (s : Shared) (H : Hp) (C : Addr) (cl : List (Str × Addr)) (fp : List Addr), GV (X.blk s H scope (compEnvC scope cl C X.env) fp) tg t is) (ht : ∀ (s : Shared) (H : Hp) (C : Addr) (cl : List (Str × Addr)) (fp : List Addr), TVs (X.blk s H scope (compEnvC scope cl C X.env) fp) ifs tt)
    (he : ∀ (s : Shared) (H : Hp) (C : Addr) (cl : List (Str × Addr)) (fp : List Addr), EV (X.blk s H scope (compEnvC scope cl C X.env) fp) elt el) (hs : ∀ x, foldedSetIterable iter X.env x = pure x := by intro _; rfl) :
    SV X (.Assign [.Name y py] (.ListComp elt [⟨tg, iter, ifs, 0⟩] scope pos) spos) (sAsg i (mComp vs t it tt el)) := by
  refine sv_of fun L Hf st o st' σ H D hl c e k => ⟨_, ps_setLc g.calm g.nd hy hyl hsw hi ok hg ht he hs, ?_⟩
  unfold sAsg at e
  obtain ⟨⟨r, st1⟩, h1, e⟩ := bind_some2 e
  obtain ⟨st2, h2, e⟩ := map_some2 e
  cases e
  show tLc _ _ _ _ _ σ H _
  rw [hvs]
  exact comp_use his c h1 (asg_use (by rw [hl]; exact lt_of_get hy) h2 k)

/-! ### list(range(..)), tuple(range(..)) -/
def RgS (lo hi : Int) : Bool := decide (-(2 ^ 62) ≤ lo ∧ lo < 2 ^ 62 ∧ -(2 ^ 62) ≤ hi ∧ hi < 2 ^ 62 ∧ (hi - lo).toNat ≤ 2 ^ 24)
theorem RgS.ok {lo hi : Int} (h : RgS lo hi = true) : RgOk lo hi := by
  unfold RgS at h
  simpa [RgOk] using h
theorem rgV_rp {Hf : Hp} (lo hi : Int) : RpL Hf (rgV lo hi) (rgD lo (hi - lo).toNat) := by
  unfold rgV rgD
  generalize (hi - lo).toNat = n
  induction n with
  | zero => exact .nil
  | succ n ih =>
    rw [List.range_succ, List.map_append, List.map_append]
    exact ih.app (.cons (.int _) .nil)
abbrev MR := Sta → Option ((Int × Int) × Sta)
def rdR (m : MR) : SS → Hp → (Int → Int → Hp → Prop) → Prop := fun σ H Q => ∃ L Hf st lo hi st', Cor L Hf st σ H ∧ m st = some ((lo, hi), st') ∧ ∀ H' Hf', Sub Hf Hf' → Cor L Hf' st' σ H' → Q lo hi H'
def rRg1 (a : M) : MR := fun st => (mInt a st).map fun (j, st1) => ((0, j), st1)
def rRg2 (a b : M) : MR := fun st => (mInt a st).bind fun (i, st1) => (mInt b st1).map fun (j, st2) => ((i, j), st2)
theorem rv_1 (hg : Gl X "range") (hm : X.mg "range" = none) (ha : EV X ea a) (na : starEach [ea] X.env = (false, eval ea X.env) :: starEach [] X.env := by rfl) : PRg X (.Call (.Name "range" p) [ea] [] pos) (rdR (rRg1 a)) := by
  intro pins s σ H Q I ⟨L, Hf, st, lo, hi, st', c, e, k⟩
  unfold rRg1 at e
  obtain ⟨⟨j, st1⟩, h1, e⟩ := map_some2 e
  cases e
  refine prg_1 hg hm ha na pins s σ H Q I ?_
  exact ev_use c (mInt_some h1) fun v H' Hf' s' c' q => by cases q; exact ⟨_, rfl, k _ _ s' c'⟩
theorem rv_2 (hg : Gl X "range") (hm : X.mg "range" = none) (ha : EV X ea a) (hb : EV X eb b) (na : starEach [ea, eb] X.env = (false, eval ea X.env) :: starEach [eb] X.env := by rfl) (nb : starEach [eb] X.env = (false, eval eb X.env) :: starEach [] X.env := by rfl) (hp : (backTo pos (starEach [eb] X.env)).any (·.1) = false := by rfl) : PRg X (.Call (.Name "range" p) [ea, eb] [] pos) (rdR (rRg2 a b)) := by
  intro pins s σ H Q I ⟨L, Hf, st, lo, hi, st', c, e, k⟩
  unfold rRg2 at e
  obtain ⟨⟨i, st1⟩, h1, e⟩ := bind_some2 e
  obtain ⟨⟨j, st2⟩, h2, e⟩ := map_some2 e
  cases e
  refine prg_2 hg hm ha hb na nb hp pins s σ H Q I ?_
  exact ev_use c (mInt_some h1) fun v H' Hf' s' c' q => by
    cases q
    exact ev_use c' (mInt_some h2) fun v H'' Hf'' s'' c'' q => by cases q; exact ⟨_, _, rfl, rfl, k _ _ (s'.trans s'') c''⟩
def mListRg (m : MR) : M := fun st => (m st).bind fun ((lo, hi), st1) => if RgS lo hi = true then some (.fre (rgD lo (hi - lo).toNat), st1) else none
def mTupRg (m : MR) : M := fun st => (m st).bind fun ((lo, hi), st1) => if RgS lo hi = true then some (.dat (.tuple (rgD lo (hi - lo).toNat)), st1) else none
theorem ev_listRg {m : MR} (g : Gd X) (hg : Gl X "list") (hm : X.mg "list" = none) (he : PRg X ea (rdR m)) (na : starEach [ea] X.env = (false, eval ea X.env) :: starEach [] X.env := by rfl) : EV X (.Call (.Name "list" p) [ea] [] pos) (mListRg m) := by
  refine ev_of fun L Hf st r st' σ H Q c e k => ⟨_, pe_listRg g.calm hg hm he na, ?_⟩
  unfold mListRg at e
  obtain ⟨⟨⟨lo, hi⟩, st1⟩, h1, e⟩ := bind_some2 e
  dsimp only at e
  split at e
  · rename_i hr
    cases e
    exact ⟨L, Hf, st, lo, hi, _, c, h1, fun H' Hf' s' c' => ⟨RgS.ok hr, fun q hq => (Grow.lst hq (rgV_rp lo hi)).after c' (k.sub s')⟩⟩
  · cases e
theorem ev_tupRg {m : MR} (g : Gd X) (hg : Gl X "tuple") (hm : X.mg "tuple" = none) (he : PRg X ea (rdR m)) (na : starEach [ea] X.env = (false, eval ea X.env) :: starEach [] X.env := by rfl) : EV X (.Call (.Name "tuple" p) [ea] [] pos) (mTupRg m) := by
  refine ev_of fun L Hf st r st' σ H Q c e k => ⟨_, pe_tupRg g.calm hg hm he na, ?_⟩
  unfold mTupRg at e
  obtain ⟨⟨⟨lo, hi⟩, st1⟩, h1, e⟩ := bind_some2 e
  dsimp only at e
  split at e
  · rename_i hr
    cases e
    exact ⟨L, Hf, st, lo, hi, _, c, h1, fun H' Hf' s' c' => ⟨RgS.ok hr, fun q hq => (Grow.tup hq (rgV_rp lo hi)).after c' (k.sub s')⟩⟩
  · cases e
end
end NV
set_option Elab.async false
set_option linter.all false
set_option maxRecDepth 100000
set_option maxHeartbeats 4000000
/-! NV8: what a def promises by data; calls; a def by its body -/
namespace NV
open PySem PySem.Spec PyProof.Rows L2

/-- a def's promise, where no repr runs around -/
structure FnG (P : Program) (w : World) (K : PySem.W.Frag) (mg : Str → Option Value) (base : Heap) (k : Nat) (f : Addr) (fd : FuncData) (ps : List Str) (sp : Sp) : Prop where
  len : ∀ vs H Q E, sp vs H Q E → vs.length = ps.length
  run : ∀ (A : Around) (outer : List Env) (s : Shared) (H : Hp) (args : Args) (us : List Value) (vs : List V) (Q : VK) (E : XK), Room k A → A.guards = some [] → Env0 P w K mg base A outer s H → BindsTo s fd args (ps.zip us) → Vals vs us → sp vs H Q E →
    codeAny (model P w) A (.call (.ref f) args) (CR CX0 outer P w H s Q E) s
theorem FnG.mono {P : Program} {w : World} {K : PySem.W.Frag} {mg : Str → Option Value} {base : Heap} {j k : Nat} {f : Addr} {fd : FuncData} {ps : List Str} {sp : Sp} (F : FnG P w K mg base j f fd ps sp) (h : j ≤ k) : FnG P w K mg base k f fd ps sp :=
  ⟨F.len, fun A outer s H args us vs Q E hr => F.run A outer s H args us vs Q E (hr.mono h)⟩
/-- a def by its body -/
theorem fnG_of {P : Program} {w : World} {K : PySem.W.Frag} {mg : Str → Option Value} {base : Heap} {k : Nat} {f : Addr} {name qual : Str} {params : Arguments} {body : List Stmt} {scope : Scope} {dV kV doc pm cdv ct oc : Value} {an od : Option Addr}
    {osl : Array (Option Value)} {N ps : List Str} {sp : Sp} (lk : K.lookup f = some ⟨oc, od, .func (PySem.W.fnOf name qual params body scope dV kV doc pm an cdv ct), osl⟩) (hcd : PySem.W.codeIn K cdv qual = true) (S : FnScope N ps scope)
    (len : ∀ vs H Q E, sp vs H Q E → vs.length = ps.length)
    (hbody : ∀ (A : Around) (outer : List Env) (s : Shared) (H : Hp) (vs : List V) (Q : VK) (E : XK), Room k (A.deeper (envOfC qual scope s.heap.objs.size f cdv)) → A.guards = some [] → sp vs H Q E →
      ∃ t, PSs (cxOf CX0 P w K mg base N qual scope f cdv A outer s H E).nox body t ∧ t { nx := fun _ H' => Q .non H', rt := Q } (start N vs) H) :
    FnG P w K mg base (k + 1) f (PySem.W.fnOf name qual params body scope dV kV doc pm an cdv ct) ps sp := by
  refine ⟨len, fun A outer s H args us vs Q E hr hgu e0 hb r hsp => ?_⟩
  have hl := len _ _ _ _ hsp
  have KX : K.In s.heap := e0.mod.kin.keeps fun b o e => (e0.bs b o e).1
  have lim : s.heap.NoLimit := e0.mod.nolimit.keeps fun b o e => (e0.bs b o e).1
  have hkind : ∀ y ∈ ps.zip us, scope.names.lookup y.1 = some .local ∨ (scope.names.lookup y.1 = some .cell ∧ ((cellsFrom (s.heap.objs.size + 1) scope.names []).lookup y.1).isSome = true) := fun ⟨n, v⟩ hy => by
    rcases S.par n (List.of_mem_zip hy).1 with q | q
    · exact .inl q
    · exact .inr ⟨q, PySem.W.cellsFrom_some _ _ _ (.inl q)⟩
  refine codeAny_call_function hr.depth (KX _ _ lk) rfl S.co S.gen rfl (PySem.W.codeRec_of KX hcd) (hb _ _ _ _ ?_)
  refine wpAny_newFunctionEnv_cells S.kind hkind fun env he s1 x => ?_
  subst he
  refine ⟨lim.keeps x.toInCall.keep, codeAny_func ?_⟩
  obtain ⟨t, ht0, hq⟩ := hbody A outer s H vs Q E (hr.deeper _) hgu hsp
  have ht := ht0.nox
  have I : Inv (cxOf CX0 P w K mg base N qual scope f cdv A outer s H E) [] (start N vs) H s1 := inv_start S hr.hd e0 hl r x
  refine wpAny_mono (ht.run [] s1 (start N vs) H _ I hq) (fun fl s' hs => ?_) fun e s' hs => hs
  have fin : ∀ {σ' : SS} {H' : Hp} {v : V} {u : Value}, Inv (cxOf CX0 P w K mg base N qual scope f cdv A outer s H E) [] σ' H' s' → RelV v u → Q v H' → CE outer P w H s Q u s' :=
    fun {σ' H' v u} J rv q => ⟨v, H', J.os, J.bare, J.base, J.hok, rv, q⟩
  cases fl with
  | ret u =>
    obtain ⟨v, σ', H', J, rv, q⟩ := hs
    exact fin J rv q
  | next =>
    obtain ⟨σ', H', J, q⟩ := hs
    exact fin (v := V.non) (u := Value.none) J rfl q
  | brk =>
    obtain ⟨_, _, _, q⟩ := hs
    exact False.elim q
  | cont =>
    obtain ⟨_, _, _, q⟩ := hs
    exact False.elim q
theorem fnG0 {P : Program} {w : World} {K : PySem.W.Frag} {mg : Str → Option Value} {base : Heap} {x qual : Str} {st : Stmt} {f : Addr} {fd : FuncData} {N ps : List Str} {k : Nat} {sp : Sp} (F : L2.Fun K x qual st f fd) (S : FnScope N ps (defScope st)) (len : ∀ vs H Q E, sp vs H Q E → vs.length = ps.length)
    (hbody : ∀ (cdv : Value) (A : Around) (outer : List Env) (s : Shared) (H : Hp) (vs : List V) (Q : VK) (E : XK), Room k (A.deeper (envOfC qual (defScope st) s.heap.objs.size f cdv)) → A.guards = some [] → sp vs H Q E →
      ∃ t, PSs (cxOf CX0 P w K mg base N qual (defScope st) f cdv A outer s H E).nox (defBody st) t ∧ t { nx := fun _ H' => Q .non H', rt := Q } (start N vs) H) : FnG P w K mg base (k + 1) f fd ps sp := by
  obtain ⟨oc, od, kV, doc, pm, an, cdv, ct, osl, rfl, lk, hcd⟩ := F.ex
  exact fnG_of lk hcd S len fun A outer s H vs Q E hr hg hsp => hbody cdv A outer s H vs Q E hr hg hsp

section
variable {X : Cx} {k : Nat} {f : Addr} {fd : FuncData} {ps : List Str} {sp : Sp} {ds : List Value} {x : Str} {p pos : Pos} {e : Expr} {es : List Expr} {t : TA}
theorem runG {pins : List (Addr × Obj)} {σ : SS} {H : Hp} {s : Shared} {Q : VK} {us : List Value} {vs : List V} (F : FnG X.prog X.w X.K X.mg X.base k f fd ps sp) (hr : Room k X.A) (hgu : X.A.guards = some []) (hb : Binds X.K fd ps [])
    (I : Inv X pins σ H s) (r : Vals vs us) (h : sp vs H Q E0) : wpAny (model X.prog X.w) X.A (call (.ref f) us) (EP X pins σ Q) X.xe s := by
  have hl : (us ++ []).length = ps.length := by rw [List.append_nil, ← r.length]; exact F.len _ _ _ _ h
  have hb' := hb s us I.kIn hl
  rw [List.append_nil] at hb'
  refine wpAny_call (codeAny_mono (F.run X.A X.stack s H ⟨us, []⟩ us vs Q E0 hr hgu I.env0 hb' r h) fun r s' hq => ?_)
  cases r with
  | error e => exact hq.elim
  | ok fl =>
    cases fl with
    | ret u => exact I.after hq
    | next => exact False.elim hq
    | brk => exact False.elim hq
    | cont => exact False.elim hq
theorem pe_callG (F : FnG X.prog X.w X.K X.mg X.base k f fd ps sp) (hr : Room k X.A) (hgu : X.A.guards = some []) (hg : Gl X x) (hm : X.mg x = some (.ref f)) (hk : PySem.W.keepIn X.K (.ref f) = true) (hb : Binds X.K fd ps [])
    (ha : PA X (e :: es) t) (hdb : (x == ("__debug__" : Str)) = false := by decide) (he : starEach (e :: es) X.env = (false, eval e X.env) :: starEach es X.env := by rfl) (hpl : (backTo pos (starEach es X.env)).any (·.1) = false := by rfl) :
    PE X (.Call (.Name x p) (e :: es) [] pos) (fun σ H Q => t σ H fun vs H1 => sp vs H1 Q E0) := by
  refine ⟨fun pins s σ H Q I h => ?_⟩
  refine wpAny_Call_Name_kw (ld_glob I hg hm ?_ hdb)
  refine PySem.W.callWith_K (h₀ := X.base) I.ok.mod.kin hk (thn (ha.run pos pins s σ H _ I h) fun us s1 ⟨vs, H1, I1, r, q⟩ => ⟨I1.kIn, ?_⟩) he hpl
  exact runG F hr hgu hb I1 r q
end

/-! ### promises by data -/
def RetOk (Hf' H H' : Hp) (v : V) : R → Prop
  | .dat d => Rp Hf' v d
  | .fre ds => ∃ a vs, v = .ref a ∧ H' a = some (.lst vs) ∧ RpL Hf' vs ds ∧ Hf' a = none ∧ H a = none
  | .slt _ => False
/-- a def that only reckons -/
def spP (n : Nat) (G : List PyData → Option R) : Sp := fun vs H Q _ => ∃ Hf ds r, vs.length = n ∧ Sub Hf H ∧ RpL Hf vs ds ∧ G ds = some r ∧
  ∀ v H' Hf', Sub Hf Hf' → Sub Hf' H' → (∀ a o, H a = some o → Hf a = none → H' a = some o ∧ Hf' a = none) → RetOk Hf' H H' v r → Q v H'
/-- a def that draws: the source is its first argument -/
def spS (n : Nat) (G : List PyData → Src → Option (R × Src)) : Sp := fun vs H Q _ => ∃ aD aC Hf z ws ds r z', vs.length = n ∧ vs = .ref aD :: ws ∧ Sub Hf H ∧ SrcAt ⟨aD, aC, fun _ => none⟩ z H ∧ Hf aD = none ∧ Hf aC = none ∧ RpL Hf ws ds ∧ G ds z = some (r, z') ∧
  ∀ v H' Hf', Sub Hf Hf' → Sub Hf' H' → SrcAt ⟨aD, aC, fun _ => none⟩ z' H' → Hf' aD = none → Hf' aC = none → (∀ a o, a ≠ aD → a ≠ aC → H a = some o → Hf a = none → H' a = some o ∧ Hf' a = none) → RetOk Hf' H H' v r → Q v H'
/-- what is known of a def by its name -/
structure CalG (P : Program) (w : World) (K : PySem.W.Frag) (mg : Str → Option Value) (base : Heap) (k : Nat) (x : Str) (sp : Sp) : Prop where
  ex : ∃ (f : Addr) (fd : FuncData) (ps : List Str), FnG P w K mg base k f fd ps sp ∧ mg x = some (.ref f) ∧ PySem.W.keepIn K (.ref f) = true ∧ Binds K fd ps []
theorem CalG.mono {P : Program} {w : World} {K : PySem.W.Frag} {mg : Str → Option Value} {base : Heap} {j k : Nat} {x : Str} {sp : Sp} (c : CalG P w K mg base j x sp) (h : j ≤ k) : CalG P w K mg base k x sp := by
  obtain ⟨f, fd, ps, F, r⟩ := c.ex
  exact ⟨f, fd, ps, F.mono h, r⟩
@[simp] def rOk : R → Bool
  | .slt _ => false
  | _ => true
@[simp] def mCall (G : List PyData → Option R) (m : ME) : M := fun st => (m st).bind fun (ds, st1) => (G ds).bind fun r => if rOk r = true then some (r, st1) else none
@[simp] def mCallS (i : Nat) (G : List PyData → Src → Option (R × Src)) (m : ME) : M := fun st => match st.e i with
  | .src => (m st).bind fun (ds, st1) => st1.z.bind fun z => (G ds z).bind fun (r, z') => if rOk r = true then some (r, ⟨st1.e, some z'⟩) else none
  | _ => none
/-- behind a call that kept all but (perhaps) the source -/
theorem Cor.called {L : Lay} {Hf Hf' : Hp} {st : Sta} {z' : Option Src} {σ : SS} {H H' : Hp} (c : Cor L Hf st σ H) (s : Sub Hf Hf') (s' : Sub Hf' H') (hz : z'.isSome = st.z.isSome)
    (fr : ∀ a o, (st.z.isSome = true → a ≠ L.aD ∧ a ≠ L.aC) → H a = some o → Hf a = none → H' a = some o ∧ Hf' a = none) (hs : ∀ z, z' = some z → SrcAt L z H' ∧ Hf' L.aD = none ∧ Hf' L.aC = none) : Cor L Hf' ⟨st.e, z'⟩ σ H' where
  le := s'
  pr := fun a o e => by
    obtain ⟨h1, h2⟩ := c.pr a o e
    refine fr a o (fun hz => ?_) h1 h2
    cases q : st.z with
    | none => rw [q] at hz; cases hz
    | some z =>
      obtain ⟨_, _, _, h4, h5⟩ := c.so z q
      exact ⟨fun w => (by rw [w, h4] at e; cases e), fun w => (by rw [w, h5] at e; cases e)⟩
  sl := fun i => by
    have q := c.sl i
    show SlOk L Hf' z'.isSome σ H' i (st.e i)
    rw [hz]
    cases z : st.e i with
    | emp => trivial
    | val d => rw [z] at q; obtain ⟨v, e, r⟩ := q; exact ⟨v, e, r.up s⟩
    | src => rw [z] at q; exact q
    | own ds =>
      rw [z] at q
      obtain ⟨a, vs, e1, ea, r, n, p, w⟩ := q
      obtain ⟨h1, h2⟩ := fr a _ w ea n
      exact ⟨a, vs, e1, h1, r.up s, h2, p, w⟩
  dj := c.dj
  so := fun z hz' => by
    obtain ⟨h1, h2, h3⟩ := hs z hz'
    have hz2 : st.z.isSome = true := by rw [← hz, show z' = some z from hz']; rfl
    cases q : st.z with
    | none => rw [q] at hz2; cases hz2
    | some z0 =>
      obtain ⟨_, _, _, h4, h5⟩ := c.so z0 q
      exact ⟨h1, h2, h3, h4, h5⟩
theorem RetOk.res {L : Lay} {Hf' : Hp} {st : Sta} {z' : Option Src} {σ : SS} {H H' : Hp} {Hf : Hp} {v : V} {r : R} (c : Cor L Hf st σ H) (h : RetOk Hf' H H' v r) (hz : z'.isSome = st.z.isSome) : ResOk L Hf' ⟨st.e, z'⟩ σ H' v r := by
  cases r with
  | dat d => exact h
  | slt i => exact h.elim
  | fre ds =>
    obtain ⟨a, vs, rfl, ea, r, n, hn⟩ := h
    have f := c.free_new hn
    exact ⟨a, vs, rfl, ea, r, n, f.2.1, fun z => f.2.2.1 (by rw [← hz]; exact z), f.2.2.2⟩
section
variable {X : Cx} {k : Nat} {x y : Str} {p p2 pos : Pos} {e : Expr} {es : List Expr} {m : ME} {n : Nat}
theorem FV.len {Y : Cx} : ∀ {es : List Expr} {m : ME}, True := fun {_ _} => trivial
theorem ev_call {G : List PyData → Option R} (C : CalG X.prog X.w X.K X.mg X.base k x (spP n G)) (g : Gd X) (hr : Room k X.A) (hg : Gl X x) (ha : FV X (e :: es) m) (hlen : ∀ ds r, G ds = some r → ds.length = n) (hdb : (x == ("__debug__" : Str)) = false := by decide)
    (he : starEach (e :: es) X.env = (false, eval e X.env) :: starEach es X.env := by rfl) (hpl : (backTo pos (starEach es X.env)).any (·.1) = false := by rfl) : EV X (.Call (.Name x p) (e :: es) [] pos) (mCall G m) := by
  obtain ⟨f, fd, ps, F, hm, hk, hb⟩ := C.ex
  refine ev_of fun L Hf st r st' σ H Q c e1 k => ⟨_, pe_callG F hr g.gu hg hm hk hb ha hdb he hpl, ?_⟩
  unfold mCall at e1
  obtain ⟨⟨ds, st1⟩, h1, e1⟩ := bind_some2 e1
  obtain ⟨r', h2, e1⟩ := bind_some2 e1
  split at e1
  · cases e1
    refine ⟨L, Hf, st, ds, _, c, h1, fun vs H1 Hf1 s1 c1 q1 => ?_⟩
    refine ⟨Hf1, ds, _, by rw [q1.length]; exact hlen ds _ h2, c1.le, q1, h2, fun v H' Hf' s s' fr ro => ?_⟩
    refine k v H' Hf' (s1.trans s) (c1.called (z' := st'.z) s s' rfl (fun a o _ => fr a o) fun z hz => ?_) (ro.res c1 (z' := st'.z) rfl)
    obtain ⟨⟨g1, g2⟩, g3, g4, _⟩ := c1.so z hz
    obtain ⟨k1, k2⟩ := fr _ _ g1 g3
    obtain ⟨k3, k4⟩ := fr _ _ g2 g4
    exact ⟨⟨k1, k3⟩, k2, k4⟩
  · cases e1
theorem ev_callS {i : Nat} {G : List PyData → Src → Option (R × Src)} (C : CalG X.prog X.w X.K X.mg X.base k x (spS n G)) (g : Gd X) (hr : Room k X.A) (hg : Gl X x) (hi : X.N[i]? = some y) (hv : Vis X.env.scope y) (ha : FV X es m) (hlen : ∀ ds z r, G ds z = some r → ds.length + 1 = n)
    (hd : (y == ("__debug__" : Str)) = false := by decide) (hcd : (y == ("__classdict__" : Str)) = false := by decide) (hdb : (x == ("__debug__" : Str)) = false := by decide)
    (he : starEach (.Name y p2 :: es) X.env = (false, eval (.Name y p2) X.env) :: starEach es X.env := by rfl) (hpl : (backTo pos (starEach es X.env)).any (·.1) = false := by rfl) : EV X (.Call (.Name x p) (.Name y p2 :: es) [] pos) (mCallS i G m) := by
  obtain ⟨f, fd, ps, F, hm, hk, hb⟩ := C.ex
  refine ev_of fun L Hf st r st' σ H Q c e1 k => ⟨_, pe_callG F hr g.gu hg hm hk hb (pa_cons (pe_var hi hv hd hcd) ha he) hdb he hpl, ?_⟩
  unfold mCallS at e1
  split at e1
  · rename_i hsrc
    obtain ⟨⟨ds, st1⟩, h1, e1⟩ := bind_some2 e1
    dsimp only at e1
    obtain ⟨z, hz, e1⟩ := bind_some2 e1
    obtain ⟨⟨r', z'⟩, h2, e1⟩ := bind_some2 e1
    dsimp only at e1
    split at e1
    · cases e1
      have q := c.sl i
      rw [hsrc] at q
      refine ⟨_, q.1, L, Hf, st, ds, _, c, h1, fun vs H1 Hf1 s1 c1 q1 => ?_⟩
      obtain ⟨g1, g2, g3, _⟩ := c1.so z hz
      refine ⟨L.aD, L.aC, Hf1, z, vs, ds, _, z', by rw [List.length_cons, q1.length]; exact hlen ds z _ h2, rfl, c1.le, g1, g2, g3, q1, h2, fun v H' Hf' s s' sa n1 n2 fr ro => ?_⟩
      have hzz : (some z').isSome = st1.z.isSome := by rw [hz]; rfl
      refine k v H' Hf' (s1.trans s) (c1.called (z' := some z') s s' hzz (fun a o hne ho hn => ?_) fun z2 hz2 => ?_) (ro.res c1 hzz)
      · obtain ⟨m1, m2⟩ := hne (by rw [hz]; rfl)
        exact fr a o m1 m2 ho hn
      · cases hz2
        exact ⟨sa, n1, n2⟩
    · cases e1
  · cases e1
end

/-! ### a def by its body's run -/
def argE (ds : List PyData) : Nat → Sl := fun i => match ds[i]? with
  | some d => .val d
  | none => .emp
@[simp] def outR : Out → Option R
  | .nx => some (.dat .none)
  | .rt d => some (.dat d)
  | .rtF ds => some (.fre ds)
  | _ => none
theorem start_at {N : List Str} {vs : List V} {i : Nat} {v : V} (h : vs[i]? = some v) : (start N vs)[i]? = some (some v) := by
  unfold L2.start
  have hi := lt_of_get h
  rw [List.getElem?_append_left (by rw [List.length_map]; exact hi), List.getElem?_map, h]
  rfl
section
variable {P : Program} {w : World} {K : PySem.W.Frag} {mg : Str → Option Value} {base : Heap} {x qual : Str} {st : Stmt} {f : Addr} {fd : FuncData} {N ps : List Str} {k : Nat}
theorem gd_of {A : Around} {outer : List Env} {s : Shared} {H : Hp} {E : XK} {cdv : Value} {scope : Scope} (S : FnScope N ps scope) (hr : Room k (A.deeper (envOfC qual scope s.heap.objs.size f cdv))) (hgu : A.guards = some []) :
    Gd (cxOf CX0 P w K mg base N qual scope f cdv A outer s H E).nox := ⟨rfl, S.nd, by have := hr.un; show (A.deeper _).units + 150 < cLine; omega, hgu, rfl⟩
/-- the end of a body, for its caller -/
theorem end_ok {Hf0 H0 : Hp} {o : Out} {r : R} {L : Lay} {Hf' : Hp} {st' : Sta} {σ' : SS} {H' : Hp} {Q : VK} {D : Ends} (hD : D.nx = fun _ H' => Q .non H') (hD2 : D.rt = Q) (c : Cor L Hf' st' σ' H') (ho : outR o = some r) (hn : ∀ a, L.pr a = none → Hf' a = none → (st'.z.isSome = true → a ≠ L.aD ∧ a ≠ L.aC) → H0 a = none)
    (k : ∀ v, RetOk Hf' H0 H' v r → Q v H') : OutOk L Hf' st' σ' H' D o := by
  cases o with
  | nx =>
    cases ho
    show D.nx σ' H'
    rw [hD]; exact k _ .non
  | bk => cases ho
  | ct => cases ho
  | rt d =>
    cases ho
    intro v hv
    rw [hD2]; exact k v hv
  | rtF ds =>
    cases ho
    intro a vs e1 e2 e3 e4 e5
    rw [hD2]; exact k _ ⟨a, vs, rfl, e1, e2, e3, hn a e4 e3 e5⟩
theorem fnP {G : List PyData → Option R} {body : Nat → MS} (F : L2.Fun K x qual st f fd) (S : FnScope N ps (defScope st))
    (hG : ∀ ds r, G ds = some r → ∃ n o st', body n ⟨argE ds, none⟩ = some (o, st') ∧ outR o = some r)
    (hb : ∀ (cdv : Value) (A : Around) (outer : List Env) (s : Shared) (H : Hp) (E : XK), Room k (A.deeper (envOfC qual (defScope st) s.heap.objs.size f cdv)) → Gd (cxOf CX0 P w K mg base N qual (defScope st) f cdv A outer s H E).nox →
      ∀ n, BV (cxOf CX0 P w K mg base N qual (defScope st) f cdv A outer s H E).nox (defBody st) (body n)) : FnG P w K mg base (k + 1) f fd ps (spP ps.length G) := by
  refine fnG0 F S (fun vs H Q E h => ?_) fun cdv A outer s H vs Q E hr hgu h => ?_
  · obtain ⟨Hf, ds, r, hl, _⟩ := h
    exact hl
  · obtain ⟨Hf, ds, r, hl, s1, q, hg, kk⟩ := h
    obtain ⟨n, o, st', hrun, ho⟩ := hG ds r hg
    refine ⟨_, hb cdv A outer s H E hr (gd_of S hr hgu) n, ?_⟩
    have c0 : Cor ⟨0, 0, fun a => if Hf a = none then H a else none⟩ Hf ⟨argE ds, none⟩ (start N vs) H := by
      refine ⟨s1, fun a o e => ?_, fun i => ?_, fun i j a h1 => ?_, fun z hz => nomatch hz⟩
      · have e' : (if Hf a = none then H a else none) = some o := e
        by_cases hn : Hf a = none
        · rw [if_pos hn] at e'; exact ⟨e', hn⟩
        · rw [if_neg hn] at e'; cases e'
      · show SlOk _ _ _ _ _ i (argE ds i)
        unfold argE
        cases hd : ds[i]? with
        | none => trivial
        | some d =>
          obtain ⟨v, hv, rv⟩ := q.get hd
          exact ⟨v, start_at hv, rv⟩
      · exfalso
        have h1' : (argE ds i).isOwn := h1
        unfold argE at h1'
        cases hd : ds[i]? with
        | none => rw [hd] at h1'; exact h1'
        | some d => rw [hd] at h1'; exact h1'
    refine ⟨_, Hf, _, o, st', c0, hrun, fun σ' H' Hf' s' c' => ?_⟩
    refine end_ok (H0 := H) (Hf0 := Hf) rfl rfl c' ho (fun a e1 e2 _ => ?_) fun v ro => kk v H' Hf' s' c'.le (fun a o e hn => c'.pr a o (by show (if Hf a = none then H a else none) = some o; rw [if_pos hn]; exact e)) ro
    have e1' : (if Hf a = none then H a else none) = none := e1
    have hn : Hf a = none := s'.nil e2
    rw [if_pos hn] at e1'
    exact e1'
theorem fnS {G : List PyData → Src → Option (R × Src)} {body : Nat → MS} (F : L2.Fun K x qual st f fd) (S : FnScope N ps (defScope st))
    (hG : ∀ ds z r z', G ds z = some (r, z') → ∃ n o st', body n ⟨fun i => match i with | 0 => .src | i + 1 => argE ds i, some z⟩ = some (o, st') ∧ outR o = some r ∧ st'.z = some z')
    (hb : ∀ (cdv : Value) (A : Around) (outer : List Env) (s : Shared) (H : Hp) (E : XK), Room k (A.deeper (envOfC qual (defScope st) s.heap.objs.size f cdv)) → Gd (cxOf CX0 P w K mg base N qual (defScope st) f cdv A outer s H E).nox →
      ∀ n, BV (cxOf CX0 P w K mg base N qual (defScope st) f cdv A outer s H E).nox (defBody st) (body n)) : FnG P w K mg base (k + 1) f fd ps (spS ps.length G) := by
  refine fnG0 F S (fun vs H Q E h => ?_) fun cdv A outer s H vs Q E hr hgu h => ?_
  · obtain ⟨aD, aC, Hf, z, ws, ds, r, z', hl, _⟩ := h
    exact hl
  · obtain ⟨aD, aC, Hf, z, ws, ds, r, z', hl, rfl, s1, sa, n1, n2, q, hg, kk⟩ := h
    obtain ⟨n, o, st', hrun, ho, hz'⟩ := hG ds z r z' hg
    refine ⟨_, hb cdv A outer s H E hr (gd_of S hr hgu) n, ?_⟩
    have c0 : Cor ⟨aD, aC, fun a => if Hf a = none ∧ a ≠ aD ∧ a ≠ aC then H a else none⟩ Hf ⟨fun i => match i with | 0 => .src | i + 1 => argE ds i, some z⟩ (start N (.ref aD :: ws)) H := by
      refine ⟨s1, fun a o e => ?_, fun i => ?_, fun i j a h1 => ?_, fun z2 hz => ?_⟩
      · have e' : (if Hf a = none ∧ a ≠ aD ∧ a ≠ aC then H a else none) = some o := e
        by_cases hn : Hf a = none ∧ a ≠ aD ∧ a ≠ aC
        · rw [if_pos hn] at e'; exact ⟨e', hn.1⟩
        · rw [if_neg hn] at e'; cases e'
      · cases i with
        | zero => exact ⟨start_at rfl, rfl⟩
        | succ i =>
          show SlOk _ _ _ _ _ (i + 1) (argE ds i)
          unfold argE
          cases hd : ds[i]? with
          | none => trivial
          | some d =>
            obtain ⟨v, hv, rv⟩ := q.get hd
            exact ⟨v, start_at (by simpa using hv), rv⟩
      · exfalso
        cases i with
        | zero => exact h1
        | succ i =>
          have h1' : (argE ds i).isOwn := h1
          unfold argE at h1'
          cases hd : ds[i]? with
          | none => rw [hd] at h1'; exact h1'
          | some d => rw [hd] at h1'; exact h1'
      · cases hz
        exact ⟨sa, n1, n2, if_neg fun q => q.2.1 rfl, if_neg fun q => q.2.2 rfl⟩
    refine ⟨_, Hf, _, o, st', c0, hrun, fun σ' H' Hf' s' c' => ?_⟩
    obtain ⟨sa', m1, m2, _⟩ := c'.so z' hz'
    refine end_ok (H0 := H) (Hf0 := Hf) rfl rfl c' ho (fun a e1 e2 e3 => ?_) fun v ro => kk v H' Hf' s' c'.le sa' m1 m2 (fun a o d1 d2 e hn => c'.pr a o (by show (if Hf a = none ∧ a ≠ aD ∧ a ≠ aC then H a else none) = some o; rw [if_pos ⟨hn, d1, d2⟩]; exact e)) ro
    have e1' : (if Hf a = none ∧ a ≠ aD ∧ a ≠ aC then H a else none) = none := e1
    have hn : Hf a = none := s'.nil e2
    obtain ⟨d1, d2⟩ := e3 (by rw [hz']; rfl)
    rw [if_pos ⟨hn, d1, d2⟩] at e1'
    exact e1'
end
end NV
set_option Elab.async false
set_option linter.all false
set_option maxRecDepth 100000
set_option maxHeartbeats 4000000
/-! NV9: the source of a law's draws -/
namespace NV
open PySem PySem.Spec PyProof.Rows L2

theorem FnG.of {P : Program} {w : World} {K : PySem.W.Frag} {mg : Str → Option Value} {base : Heap} {k : Nat} {f : Addr} {fd : FuncData} {ps : List Str} {sp : Sp} (F : FnOk P w K mg base CX0 k f fd ps sp) : FnG P w K mg base k f fd ps sp :=
  ⟨F.len, fun A outer s H args us vs Q E hr _ => F.run A outer s H args us vs Q E hr⟩

/-! ### the source's dict -/
section
variable {L : Lay} {z : Src} {H : Hp}
abbrev kCells : Key := .inr "cells"
abbrev kLeft : Key := .inr "left"
abbrev kMixed : Key := .inr "mixed"
abbrev kTurn : Key := .inr "turn"
theorem val_cells : valV (srcKvs L z) kCells = some (.ref L.aC) := valV_pos rfl
theorem val_left : valV (srcKvs L z) kLeft = some (.int z.left) := by
  unfold srcKvs
  rw [valV_neg (show ¬ kCells = kLeft by decide +kernel), valV_pos rfl]
theorem val_mixed : valV (srcKvs L z) kMixed = some (.int z.mixed) := by
  unfold srcKvs
  rw [valV_neg (show ¬ kCells = kMixed by decide +kernel), valV_neg (show ¬ kLeft = kMixed by decide +kernel), valV_pos rfl]
theorem val_turn : valV (srcKvs L z) kTurn = some (.int z.turn) := by
  unfold srcKvs
  rw [valV_neg (show ¬ kCells = kTurn by decide +kernel), valV_neg (show ¬ kLeft = kTurn by decide +kernel), valV_neg (show ¬ kMixed = kTurn by decide +kernel), valV_pos rfl]
theorem put_left {v : Int} : putK (srcKvs L z) kLeft (.int v) = srcKvs L { z with left := v } := by
  unfold putK
  rw [if_pos (by rw [valV_any, val_left]; rfl)]
  rfl
theorem put_turn {v : Int} : putK (srcKvs L z) kTurn (.int v) = srcKvs L { z with turn := v } := by
  unfold putK
  rw [if_pos (by rw [valV_any, val_turn]; rfl)]
  rfl
theorem put_mixed {v : Int} : putK (srcKvs L z) kMixed (.int v) = srcKvs L { z with mixed := v } := by
  unfold putK
  rw [if_pos (by rw [valV_any, val_mixed]; rfl)]
  rfl
theorem SrcAt.ne (h : SrcAt L z H) : L.aC ≠ L.aD := ne_of h.2 h.1 (by intro q; cases q)
theorem SrcAt.get (h : SrcAt L z H) {k : Key} {v : V} (e : valV (srcKvs L z) k = some v) : DGet H L.aD (kV k) (some v) := by
  have q := DGet.k (k := k) h.1
  rw [e] at q
  exact q
/-- like H but at the source -/
def Elsewhere (L : Lay) (H H' : Hp) : Prop := ∀ a, a ≠ L.aD → a ≠ L.aC → H' a = H a
theorem SrcAt.put (h : SrcAt L z H) {k : Key} {v : Int} {z' : Src} (e : putK (srcKvs L z) k (.int v) = srcKvs L z') (ec : z'.cells = z.cells) : DPut H L.aD (kV k) (.int v) (upd H L.aD (.dK (srcKvs L z'))) ∧ SrcAt L z' (upd H L.aD (.dK (srcKvs L z'))) ∧ Elsewhere L H (upd H L.aD (.dK (srcKvs L z'))) := by
  refine ⟨?_, ⟨upd_same, ?_⟩, fun a h1 _ => upd_ne h1⟩
  · have q := DPut.k (k := k) (v := .int v) h.1 (by show 4 < sizeLine; decide)
    rw [e] at q
    exact q
  · rw [upd_ne h.ne, ec]; exact h.2
theorem SrcAt.pop (h : SrcAt L z H) : SrcAt L { z with cells := z.cells.dropLast } (upd H L.aC (.lst (z.cells.map V.int).dropLast)) ∧ Elsewhere L H (upd H L.aC (.lst (z.cells.map V.int).dropLast)) := by
  refine ⟨⟨?_, ?_⟩, fun a _ h2 => upd_ne h2⟩
  · rw [upd_ne h.ne.symm]; exact h.1
  · rw [upd_same, List.map_dropLast]
theorem Elsewhere.trans {H' H'' : Hp} (a : Elsewhere L H H') (b : Elsewhere L H' H'') : Elsewhere L H H'' := fun c h1 h2 => (b c h1 h2).trans (a c h1 h2)
theorem Elsewhere.refl : Elsewhere L H H := fun _ _ _ => rfl
end

theorem merge_src {L : Lay} {z : Src} : mergeK [] (srcKvs L z) = srcKvs L z := by
  have e1 : ¬ kCells = kLeft := by decide +kernel
  have e2 : ¬ kCells = kMixed := by decide +kernel
  have e3 : ¬ kLeft = kMixed := by decide +kernel
  have e4 : ¬ kCells = kTurn := by decide +kernel
  have e5 : ¬ kLeft = kTurn := by decide +kernel
  have e6 : ¬ kMixed = kTurn := by decide +kernel
  unfold mergeK srcKvs
  simp only [List.foldl_cons, List.foldl_nil]
  rw [putK_new (kvs := []) (k := kCells) _ rfl]
  rw [putK_new (k := kLeft) _ (by rw [List.nil_append, valV_neg e1]; rfl)]
  rw [putK_new (k := kMixed) _ (by show valV [_, _] _ = _; rw [valV_neg e2, valV_neg e3]; rfl)]
  rw [putK_new (k := kTurn) _ (by show valV [_, _, _] _ = _; rw [valV_neg e4, valV_neg e5, valV_neg e6]; rfl)]
  rfl

/-! ### a draw -/
def drainN : Nat → List Int → Int → List Int × Int
  | 0, cs, l => (cs, l)
  | n + 1, cs, l => if l < 2 ∧ 0 < cs.length then drainN n cs.dropLast (cs.getLastD 0) else (cs, l)
def pickN (most : Int) (z : Src) : Int × Src :=
  if most < 2 then (0, z) else
    let d := drainN z.cells.length z.cells z.left
    if 1 < d.2 then (d.2 % most, ⟨d.1, d.2 / most, z.mixed, z.turn⟩) else
      let lap := z.turn + 1
      let s1 := (z.mixed + lap * 104729) % 998244353
      let s2 := (s1 * s1 + lap * 17) % 2147483647
      (s2 / 16 % most, ⟨d.1, d.2, z.mixed, lap⟩)
theorem pickN_lo (most : Int) (z : Src) : 0 ≤ (pickN most z).1 := by
  unfold pickN
  split
  · exact Int.le_refl _
  · dsimp only
    split
    · exact Int.emod_nonneg _ (by omega)
    · exact Int.emod_nonneg _ (by omega)
theorem pickN_hi (most : Int) (z : Src) (h : 1 ≤ most) : (pickN most z).1 < most := by
  unfold pickN
  split
  · show 0 < most; omega
  · dsimp only
    split
    · exact Int.emod_lt_of_pos _ (by omega)
    · exact Int.emod_lt_of_pos _ (by omega)
theorem pickN_0 (most : Int) (z : Src) (h : most < 2) : (pickN most z).1 = 0 := by
  unfold pickN
  rw [if_pos h]
def pickG (ds : List PyData) (z : Src) : Option (R × Src) := match ds with
  | [.int most] => if most < 1073741824 then some (.dat (.int (pickN most z).1), (pickN most z).2) else none
  | _ => none
theorem pickG_len : ∀ ds z r, pickG ds z = some r → ds.length + 1 = 2 := by
  intro ds z r h
  unfold pickG at h
  split at h
  · rfl
  · cases h
/-- what a caller wants behind a draw, from the state behind it -/
theorem pick_end {aD aC : Addr} {Hf H H' : Hp} {z' : Src} {v : Int} {Q : VK} (s1 : Sub Hf H) (n1 : Hf aD = none) (n2 : Hf aC = none) (el : Elsewhere ⟨aD, aC, fun _ => none⟩ H H') (sa : SrcAt ⟨aD, aC, fun _ => none⟩ z' H')
    (kk : ∀ v' H' Hf', Sub Hf Hf' → Sub Hf' H' → SrcAt ⟨aD, aC, fun _ => none⟩ z' H' → Hf' aD = none → Hf' aC = none → (∀ a o, a ≠ aD → a ≠ aC → H a = some o → Hf a = none → H' a = some o ∧ Hf' a = none) → RetOk Hf' H H' v' (.dat (.int v)) → Q v' H') : Q (.int v) H' := by
  refine kk _ H' Hf Sub.refl (fun a o e => ?_) sa n1 n2 (fun a o h1 h2 e n => ⟨(el a h1 h2).trans e, n⟩) (.int v)
  have h1 : a ≠ aD := fun q => by rw [q, n1] at e; cases e
  have h2 : a ≠ aC := fun q => by rw [q, n2] at e; cases e
  exact (el a h1 h2).trans (s1 a o e)
theorem getLastD_at {cs : List Int} (h : 0 < cs.length) : (cs.map V.int)[(cs.map V.int).length - 1]? = some (.int (cs.getLastD 0)) := by
  rw [List.length_map, List.getElem?_map]
  cases cs with
  | nil => simp at h
  | cons c cs =>
    rw [List.getLastD_cons, List.getElem?_eq_getElem (by simp)]
    simp only [Option.map_some, Option.some.injEq, V.int.injEq]
    rw [← List.getLast_eq_getElem (List.cons_ne_nil c cs)]
    cases cs with
    | nil => rfl
    | cons d ds => rw [List.getLast_cons (List.cons_ne_nil d ds), List.getLastD_cons]; simp [List.getLast_eq_getLastD]

/-! ### the source at the start -/
def mixA (script : List Int) : Int := script.foldl (fun s c => (s * 69069 + c * 31 + 5) % 2147483629) 11
def openZ (script : List Int) : Src := ⟨(script.map fun c => if c < 0 then -c else c).reverse, 1, mixA script, 0⟩
/-- the promise of what opens the source -/
def spO (K : PySem.W.Frag) : Sp := fun vs H Q _ => ∃ (a : Addr) (ns : List Int), vs = [.ref a] ∧ SqL K H a (ns.map V.int) ∧ ns.length ≤ 63 ∧
  ∀ aD aC H', Sub H H' → H aD = none → H aC = none → SrcAt ⟨aD, aC, fun _ => none⟩ (openZ ns) H' → Q (.ref aD) H'
end NV
set_option Elab.async false
set_option linter.all false
set_option maxRecDepth 100000
set_option maxHeartbeats 4000000
/-! NV10: a law's def, its end -/
namespace NV
open PySem PySem.Spec PyProof.Rows L2

theorem law_callG {P : Program} {w : World} {K : PySem.W.Frag} {mg mb : Str → Option Value} {k : Nat} {fa a : Addr} {fd : FuncData} {x : Str} {sp : Sp} {s₁ : Shared} {vs : List Value} {ns : List Int}
    (KX : K.In s₁.heap) (hns : s₁.heap.Ns mainGlobals mg) (hb : s₁.heap.Ns builtinsNs mb) (hbb : ∀ x : Str, x ≠ "__name__" → mb x = bootBuiltins x) (hlim : s₁.heap.NoLimit) (hg : s₁.gens = #[])
    (ha : s₁.heap.get? a = some { cls := .type "list", data := .seq vs.toArray }) (hi : IntsAre vs ns) (hl : ns.length ≤ sizeLine) (hr : Room k callerA)
    (F : ∀ base : Heap, K.In base → base.Ns mainGlobals mg → FnG P w K mg base k fa fd [x] sp) (hbind : ∀ (s : Shared) (u : Value), BindsTo s fd ⟨[u], []⟩ [(x, u)])
    (hsp : ∀ H : Hp, Only H → SqL K H a (ns.map V.int) → sp [.ref a] H (fun v _ => v = .bl true) E0) :
    codeAny (model P w) callerA (.call (.ref fa) ⟨[.ref a], []⟩) (fun r s' => r = .ok (.ret (.bool true)) ∧ OldK s₁.heap s'.heap ∧ s'.os = s₁.os ∧ AllBare s'.gens) s₁ := by
  have rv := vals_ints hi
  have lenV := hi.length
  -- from an abstract heap in which nothing but the script may be tracked
  have core : ∀ H : Hp, Only H → SqL K H a (ns.map V.int) → HOk P w H s₁.heap → (∀ b, H b ≠ none → b = a) → (H a ≠ none → K.lookup a = none) →
      codeAny (model P w) callerA (.call (.ref fa) ⟨[.ref a], []⟩) (fun r s' => r = .ok (.ret (.bool true)) ∧ OldK s₁.heap s'.heap ∧ s'.os = s₁.os ∧ AllBare s'.gens) s₁ := by
    intro H hO hS hok hA hK
    have base_of : ∀ {b : Addr} {o : Obj}, s₁.heap.get? b = some o → H b = none → (hidT s₁.heap H).get? b = some o := fun e n => hidT_get e n
    have noA : ∀ {b : Addr} {o : Obj} {es : Array DictEntry} {ep : Nat}, s₁.heap.get? b = some o → o.data = .dict es ep → H b = none := fun {b o es ep} e d => by
      cases q : H b with
      | none => rfl
      | some u =>
        have e' : b = a := hA b (by rw [q]; simp)
        subst e'
        rw [ha] at e; cases e
        have d' : Data.seq vs.toArray _ = Data.dict es ep := d
        cases d'
    have nsK : ∀ {b : Addr} {m : Str → Option Value}, s₁.heap.Ns b m → (hidT s₁.heap H).Ns b m := fun {b m} ⟨o, es, ep, e, d, r⟩ => ⟨o, es, ep, base_of e (noA e d), d, r⟩
    have hKb : K.In (hidT s₁.heap H) := fun b o e => base_of (KX b o e) (by
      cases q : H b with
      | none => rfl
      | some u =>
        have e' : b = a := hA b (by rw [q]; simp)
        subst e'
        rw [hK (by rw [q]; simp)] at e; cases e)
    have hM : Mod K mg (hidT s₁.heap H) := ⟨hKb, nsK hns, ⟨mb, nsK hb, hbb⟩, let ⟨mc, h1, h2⟩ := hlim; ⟨mc, nsK h1, h2⟩⟩
    have e0 : Env0 P w K mg (hidT s₁.heap H) callerA [] s₁ H := ⟨rfl, hM, fun b o e => of_hidT e, Nat.le_of_eq (hidT_size _ _), trivial, fun b hb => absurd (show b ∈ ([] : List Addr) from hb) (by simp), hok, .of_eq hg⟩
    refine codeAny_mono ((F _ hKb (nsK hns)).run callerA [] s₁ H ⟨[.ref a], []⟩ [.ref a] [.ref a] _ E0 hr rfl e0 (hbind s₁ (.ref a)) (.cons rfl .nil) (hsp H hO hS)) fun r s' h => ?_
    cases r with
    | error e => exact h.elim
    | ok fl =>
      cases fl with
      | next => exact False.elim h
      | brk => exact False.elim h
      | cont => exact False.elim h
      | ret u =>
        obtain ⟨v, H', os, bare, un, hok', r', q⟩ := h
        have q' : v = .bl true := q
        subst q'
        obtain rfl : u = Value.bool true := r'
        refine ⟨rfl, OldK.of_keep fun b o e => ?_, os, bare⟩
        cases q : H b with
        | none => exact un.keep b o e q (by intro z; exact absurd (show b ∈ ([] : List Addr) from z) (by simp)) (by simp)
        | some u =>
          rcases hO b with z | ⟨ob, xs, z⟩
          · rw [q] at z; cases z
          · have z2 := un.frzs b ob _ z
            obtain ⟨e1, _⟩ := hok b _ z
            obtain ⟨e2, _⟩ := hok' b _ z2
            rw [e] at e1; cases e1
            exact e2
  cases hk : K.lookup a with
  | some o =>
    -- the script is one of the module's own objects
    have e := KX a o hk
    rw [ha] at e
    cases e
    refine core (fun _ => none) (fun _ => .inl rfl) (.inr ⟨_, vs.toArray, _, hk, rfl, rfl, rfl, by rw [List.size_toArray, lenV]; exact hl, by simpa using rv⟩) (fun b u z => by have z' : (none : Option HO) = some u := z; cases z') (fun b z => absurd rfl z) fun z => absurd rfl z
  | none =>
    refine core (fun b => if b = a then some (.frz { cls := .type "list", data := .seq vs.toArray } (.lst (ns.map V.int))) else none) (fun b => ?_) (.inl (.inr ⟨{ cls := .type "list", data := .seq vs.toArray }, if_pos rfl⟩)) (fun b u z => ?_) (fun b z => ?_) fun _ => hk
    · by_cases hb : b = a
      · exact .inr ⟨_, _, if_pos hb⟩
      · exact .inl (if_neg hb)
    · by_cases hb : b = a
      · have z' := (if_pos hb).symm.trans z
        cases z'
        subst hb
        exact ⟨ha, by rw [List.length_map]; exact hl, vs, _, rv, ha⟩
      · have z' := (if_neg hb).symm.trans z
        cases z'
    · by_cases hb : b = a
      · exact hb
      · exact absurd (if_neg hb) z

def spLaw (K : PySem.W.Frag) : Sp := fun vs H Q _ => ∃ (a : Addr) (ns : List Int), vs = [.ref a] ∧ SqL K H a (ns.map V.int) ∧ ns.length ≤ 63 ∧ ∀ H', Q (.bl true) H'
theorem walk_ofG {l : PySem.W.OpenLaw} {k : Nat} {q : Program} {loose : List Str} {XP : (Str → Option Value) → Heap → Prop} {YP : World → Heap → Prop} {d : DefRec} {K : Params → PySem.W.Frag} {x : Str}
    (hn : l.most = some 63) (hdf : d.params.defaults = []) (hr : Room k callerA)
    (hY : ∀ (w : World) (h : Heap), YP w h → (K w.params).In h)
    (F : ∀ (w : World) (mg : Str → Option Value) (fa : Addr) (h : Heap), (K w.params).In h → h.Ns mainGlobals mg → mg d.name = some (.ref fa) →
      ∃ fd : FuncData, (∀ (s : Shared) (u : Value), BindsTo s fd ⟨[u], []⟩ [(x, u)]) ∧
        ∀ base : Heap, (K w.params).In base → base.Ns mainGlobals mg → FnG l.prog w (K w.params) mg base k fa fd [x] (spLaw (K w.params))) :
    PySem.W.WalkO q loose XP YP l.row.toRowW d [] (fun f vs => PySem.call f vs) := by
  refine Att.attach_call hn hdf fun w s₀ s₁ mg mb fa o pm cd doc a vs ns G Y ho hd hcd hmg hobj hints hlen hg => ?_
  have KX := hY w _ Y
  obtain ⟨fd, hb, hF⟩ := F w mg fa _ KX G.T.g hmg
  exact law_callG KX G.T.g G.T.b G.T.builtins G.T.nolimit hg hobj hints (Nat.le_trans hlen (by decide)) hr hF hb fun H hO hS => ⟨a, ns, rfl, hS, hlen, fun _ => rfl⟩
section
variable {P : Program} {w : World} {K : PySem.W.Frag} {mg : Str → Option Value} {base : Heap} {st : Stmt} {f : Addr} {fd : FuncData} {N : List Str} {k j : Nat}
theorem fnLaw {s0 : Stmt} {rest : List Stmt} {body : Nat → MS} (F : L2.Fun K "law" "law" st f fd) (S : FnScope N ["script"] (defScope st)) (hN : 2 ≤ N.length) (hb0 : defBody st = s0 :: rest)
    (hs : ∀ (cdv : Value) (A : Around) (outer : List Env) (s : Shared) (H : Hp) (E : XK), Room k (A.deeper (envOfC "law" (defScope st) s.heap.objs.size f cdv)) → A.guards = some [] →
      PS (cxOf CX0 P w K mg base N "law" (defScope st) f cdv A outer s H E).nox s0 (tAsg (fun σ H Q => tCons (tVar 0) tNil σ H fun vs H1 => spO K vs H1 Q E0) (gName 1)))
    (hb : ∀ (cdv : Value) (A : Around) (outer : List Env) (s : Shared) (H : Hp) (E : XK), Room k (A.deeper (envOfC "law" (defScope st) s.heap.objs.size f cdv)) → Gd (cxOf CX0 P w K mg base N "law" (defScope st) f cdv A outer s H E).nox →
      ∀ n, BV (cxOf CX0 P w K mg base N "law" (defScope st) f cdv A outer s H E).nox rest (body n))
    (hrun : ∀ z : Src, ∃ n st', body n ⟨fun i => if i = 1 then .src else .emp, some z⟩ = some (.rt (.bool true), st')) : FnG P w K mg base (k + 1) f fd ["script"] (spLaw K) := by
  refine fnG0 F S (fun vs H Q E h => ?_) fun cdv A outer s H vs Q E hr hgu h => ?_
  · obtain ⟨a, ns, rfl, _⟩ := h
    rfl
  · obtain ⟨a, ns, rfl, hS, hl, kk⟩ := h
    obtain ⟨n, st', hrun⟩ := hrun (openZ ns)
    rw [hb0]
    refine ⟨_, pss_cons (hs cdv A outer s H E hr hgu) (hb cdv A outer s H E hr (gd_of S hr hgu) n), ?_⟩
    have e0 : (start N [V.ref a])[0]? = some (some (.ref a)) := start_at rfl
    refine ⟨.ref a, e0, a, ns, rfl, hS, hl, fun aD aC H' s' n1 n2 sa => ?_⟩
    have hlen : 1 < (start N [V.ref a]).length := by
      unfold L2.start
      rw [List.length_append, List.length_map, List.length_replicate, List.length_singleton]
      omega
    refine ⟨⟨aD, aC, fun b => if b = aD ∨ b = aC then none else H' b⟩, fun _ => none, _, _, st', ?_, hrun, fun σ' H'' Hf' s'' c' v hv => ?_⟩
    · refine ⟨fun b o e => (nomatch e), fun b o e => ?_, fun i => ?_, fun i j b h1 => ?_, fun z hz => ?_⟩
      · have e' : (if b = aD ∨ b = aC then none else H' b) = some o := e
        by_cases hb : b = aD ∨ b = aC
        · rw [if_pos hb] at e'; cases e'
        · rw [if_neg hb] at e'; exact ⟨e', rfl⟩
      · show SlOk _ _ _ _ _ i (if i = 1 then .src else .emp)
        by_cases hi : i = 1
        · subst hi
          rw [if_pos rfl]
          exact ⟨List.getElem?_set_self hlen, rfl⟩
        · rw [if_neg hi]; trivial
      · exfalso
        have h1' : (if i = 1 then Sl.src else .emp).isOwn := h1
        by_cases hi : i = 1
        · rw [if_pos hi] at h1'; exact h1'
        · rw [if_neg hi] at h1'; exact h1'
      · cases hz
        exact ⟨sa, rfl, rfl, if_pos (.inl rfl), if_pos (.inr rfl)⟩
    · cases hv
      exact kk H''
end
end NV
set_option Elab.async false
set_option linter.all false
set_option maxRecDepth 100000
set_option maxHeartbeats 4000000
/-! NV11: zip and enumerate over lists and tuples of any mix -/
namespace NV
open PySem PySem.Spec PyProof.Rows L2

/-! ### a list or a tuple -/
def SqB (k : Bool) (K : PySem.W.Frag) (H : Hp) (a : Addr) (xs : List V) : Prop := if k = true then SqT K H a xs else SqL K H a xs
def ItB (k : Bool) (h : Heap) (it a : Addr) (i : Nat) : Prop := if k = true then h.IsTupleIter it a i else h.IsListIter it a i
def IsB (k : Bool) (h : Heap) (a : Addr) (xs : Array Value) : Prop := if k = true then h.IsTuple a xs else h.IsList a xs
def itO (k : Bool) (a : Addr) : Obj := if k = true then { cls := .type "tuple_iterator", data := .fields #[.ref a, .int 0 0] } else { cls := .type "list_iterator", data := .fields #[.ref a, .int 0 0] }
theorem begB (k : Bool) (a : Addr) (xs : Array Value) : Begins (.ref a) (itO k a) (fun h => IsB k h a xs) := by
  cases k
  · exact begins_list a xs
  · exact begins_tuple a xs
theorem drawsB {P : Program} {w : World} {A : Around} (k : Bool) (hh : A.handled = none) (it a : Addr) (hne : a ≠ it) (xs : Array Value) :
    Draws P w A it [it, a] xs.size (fun i v => xs[i]? = some v) (fun i h => ItB k h it a i ∧ IsB k h a xs) := by
  cases k
  · exact Draws.list hh it a hne xs
  · exact Draws.tuple hh it a hne xs
theorem ItB.zero {k : Bool} {h : Heap} {it a : Addr} (e : h.get? it = some (itO k a)) : ItB k h it a 0 := by
  cases k
  · exact ⟨_, e, rfl, rfl⟩
  · exact ⟨_, e, rfl, rfl⟩
theorem ItB.at {k : Bool} {h h' : Heap} {it a : Addr} {i : Nat} (t : ItB k h it a i) (e : ∀ o, h.get? it = some o → h'.get? it = some o) : ItB k h' it a i := by
  cases k
  · exact (show h.IsListIter it a i from t).at e
  · exact (show h.IsTupleIter it a i from t).at e
theorem ItB.obj {k : Bool} {h : Heap} {it a : Addr} {i : Nat} (t : ItB k h it a i) : ∃ o, h.get? it = some o ∧ ∀ v, o.data ≠ .cell v := by
  cases k
  · obtain ⟨o, e, _, d⟩ := (show h.IsListIter it a i from t)
    exact ⟨o, e, fun v q => by rw [d] at q; cases q⟩
  · obtain ⟨o, e, _, d⟩ := (show h.IsTupleIter it a i from t)
    exact ⟨o, e, fun v q => by rw [d] at q; cases q⟩
theorem SqB.inv {X : Cx} {pins : List (Addr × Obj)} {σ : SS} {H : Hp} {s : Shared} {k : Bool} {a : Addr} {xs : List V} (I : Inv X pins σ H s) (q : SqB k X.K H a xs) :
    ∃ its : List Value, Vals xs its ∧ IsB k s.heap a its.toArray ∧ a < s.heap.objs.size := by
  cases k
  · obtain ⟨its, rv, p, _⟩ := I.list q
    exact ⟨its, rv, p.isList, p.lt⟩
  · obtain ⟨its, rv, p, _⟩ := I.tuple q
    have p' : s.heap.IsTuple a its.toArray := p
    obtain ⟨o, e, _⟩ := id p'
    exact ⟨its, rv, p', Heap.lt_size e⟩

/-! ### zip -/
def ItZ (K : PySem.W.Frag) (k1 k2 : Bool) (a b : Addr) (xs ys : List V) : It :=
  ⟨fun i H => SqB k1 K H a xs ∧ SqB k2 K H b ys ∧ i < xs.length ∧ i < ys.length,
   fun i H v H' => ∃ T x y, v = .ref T ∧ H T = none ∧ H' = upd H T (.tup [x, y]) ∧ xs[i]? = some x ∧ ys[i]? = some y,
   fun i H => SqB k1 K H a xs ∧ SqB k2 K H b ys ∧ i = min xs.length ys.length⟩
theorem turn_zipB {P : Program} {w : World} {K : PySem.W.Frag} {elts : List Expr} {kk : Nat} {tpos : Pos} {k1 k2 : Bool} {a b z TI TO i1 i2 : Addr} {xs ys : List V} (S : ZipSep2 z TI TO i1 i2 [i1, a] [i2, b]) (na : a ≠ i1) (nb : b ≠ i2) :
    Turn P w K (.Tuple elts kk tpos) (ItZ K k1 k2 a b xs ys) [z, TI, TO, i1, i2] z (fun i h => IsZip h z TI TO .none ∧ IsTupOf2 h TI (.ref i1) (.ref i2) ∧ (∃ x y, IsTupOf2 h TO x y) ∧ ItB k1 h i1 a i ∧ ItB k2 h i2 b i) where
  mem := by simp
  obj := fun i h st c hc => by
    obtain ⟨hz, hTI, ⟨x, y, hTO⟩, h1, h2⟩ := st
    have e' : c = z ∨ c = TI ∨ c = TO ∨ c = i1 ∨ c = i2 := by simpa using hc
    rcases e' with q | q | q | q | q
    · subst q; exact ⟨_, hz, fun v q => nomatch q⟩
    · subst q; exact ⟨_, hTI, fun v q => nomatch q⟩
    · subst q; exact ⟨_, hTO, fun v q => nomatch q⟩
    · subst q; exact h1.obj
    · subst q; exact h2.obj
  keep := fun i h h' st k => by
    obtain ⟨hz, hTI, ⟨x, y, hTO⟩, h1, h2⟩ := st
    exact ⟨k z (by simp) _ hz, k TI (by simp) _ hTI, ⟨x, y, k TO (by simp) _ hTO⟩, h1.at fun o q => k i1 (by simp) o q, h2.at fun o q => k i2 (by simp) o q⟩
  item := by
    intro X hP hw hK hc i pins s σ H E I hf st hg
    subst hP hw hK
    obtain ⟨hz, hTI, ⟨x0, y0, hTO⟩, h1, h2⟩ := st
    obtain ⟨hqx, hqy, hx, hy⟩ := hg
    obtain ⟨its, rv, p, _⟩ := hqx.inv I
    obtain ⟨its2, rv2, p2, _⟩ := hqy.inv I
    have ex : xs[i]? = some xs[i] := List.getElem?_eq_getElem hx
    have ey : ys[i]? = some ys[i] := List.getElem?_eq_getElem hy
    obtain ⟨u, hu, ru⟩ := rv.get ex
    obtain ⟨u2, hu2, ru2⟩ := rv2.get ey
    have l1 := rv.length
    have l2 := rv2.length
    have hzl : z < s.heap.objs.size := Heap.lt_size hz
    have hh : X.A.in1.handled = none := I.ok.hd hc
    refine wpAny_pyNext_zipD2_item S (drawsB k1 hh i1 a na its.toArray) (drawsB k2 hh i2 b nb its2.toArray) hz hTI hTO ⟨h1, p⟩ ⟨h2, p2⟩ (by simp; omega) (by simp; omega) fun x1 x2 h' tk y1 y2 z' TO' h1' h2' hT hsz hk => ?_
    replace h1' : ItB k1 h' i1 a (i + 1) := h1'.1
    replace h2' : ItB k2 h' i2 b (i + 1) := h2'.1
    have y1' : its[i]? = some x1 := by simpa using y1
    have y2' : its2[i]? = some x2 := by simpa using y2
    rw [hu] at y1'; rw [hu2] at y2'
    cases y1'; cases y2'
    refine ⟨_, rfl, wpAny_letOwnedTupleGo_zip (s := { s with heap := h', toks := tk }) z' fun h'' z'' sb => ?_⟩
    have hT2 : h''.get? s.heap.objs.size = some { cls := .type "tuple", data := .seq #[u, u2] } := (sb.2 _ (Nat.ne_of_gt hzl)).trans hT
    have new : ObjOk X.prog X.w (upd H s.heap.objs.size (.tup [xs[i], ys[i]])) h'' s.heap.objs.size (.tup [xs[i], ys[i]]) :=
      ⟨by show 2 ≤ sizeLine; decide, [u, u2], .cons ru (.cons ru2 .nil), ⟨_, hT2, rfl, _, rfl⟩⟩
    have I1 : Inv X pins σ (upd H s.heap.objs.size (.tup [xs[i], ys[i]])) { s with heap := h'', toks := tk } :=
      I.turnedNew (t' := tk) (ch := [z, TI, TO, i1, i2]) (fun c o hb q => (sb.2 c (fun q' => hb (by simp [q']))).trans (hk c o (fun q' => hb (by simp [q'])) (fun q' => hb (by simp [q'])) (fun q' => hb (by simp [q'])) (fun q' => hb (by simp [q'])) q)) hf (Nat.le_refl _) new
    refine ⟨.ref s.heap.objs.size, _, I1, rfl, ⟨_, _, _, rfl, I.hok.fresh (Nat.le_refl _), rfl, ex, ey⟩, ⟨z'', ?_, ⟨u, u2, ?_⟩, ?_, ?_⟩, fun c hcm => ?_⟩
    · exact (sb.2 _ S.TIz).trans (hk _ _ S.TIz S.TITO S.TIi1 S.TIi2 hTI)
    · exact (sb.2 _ S.TOz).trans TO'
    · exact h1'.at fun o q => (sb.2 _ S.zi1.symm).trans q
    · exact h2'.at fun o q => (sb.2 _ S.zi2.symm).trans q
    · have hlt : c < s.heap.objs.size := by
        have e' : c = z ∨ c = TI ∨ c = TO ∨ c = i1 ∨ c = i2 := by simpa using hcm
        rcases e' with q | q | q | q | q
        · rw [q]; exact hzl
        · rw [q]; exact Heap.lt_size hTI
        · rw [q]; exact Heap.lt_size hTO
        · rw [q]; obtain ⟨_, e1, _⟩ := h1.obj; exact Heap.lt_size e1
        · rw [q]; obtain ⟨_, e2, _⟩ := h2.obj; exact Heap.lt_size e2
      rw [upd_ne (Nat.ne_of_lt hlt)]
      exact (hf c hcm).1
  done := by
    intro X hP hw hK hc i pins s σ H E I hf st hg
    subst hP hw hK
    obtain ⟨hz, hTI, ⟨x0, y0, hTO⟩, h1, h2⟩ := st
    obtain ⟨hqx, hqy, hi⟩ := hg
    obtain ⟨its, rv, p, _⟩ := hqx.inv I
    obtain ⟨its2, rv2, p2, _⟩ := hqy.inv I
    have l1 := rv.length
    have l2 := rv2.length
    have hh : X.A.in1.handled = none := I.ok.hd hc
    refine wpAny_pyNext_zipD2_end S (drawsB k1 hh i1 a na its.toArray) (drawsB k2 hh i2 b nb its2.toArray) hz hTI hTO ⟨h1, p⟩ ⟨h2, p2⟩ (by simp; omega) (by simp; omega) (by simp; omega) fun h' tk hk => ⟨rfl, I.turnedL (t' := tk) (ch := [z, TI, TO, i1, i2]) (fun c o hb q =>
      hk c o (fun q' => hb (by simp [q'])) (fun q' => hb (by simp [q'])) (fun q' => hb (by simp [q'])) (fun q' => hb (by simp [q'])) q) hf⟩
  self := fun A i s Q E st h => wpAny_pyIter_zip st.1 h
def iZipQ (K : PySem.W.Frag) (ta : TA) : TI := fun σ H R => ta σ H fun vs H1 => ∃ k1 k2 a b xs ys, vs = [.ref a, .ref b] ∧ SqB k1 K H1 a xs ∧ SqB k2 K H1 b ys ∧ R (ItZ K k1 k2 a b xs ys) H1
theorem pi_zipQ {X : Cx} {e e2 : Expr} {ta : TA} {p pos tpos : Pos} {elts : List Expr} {kk : Nat} (hg : Gl X "zip") (hm : X.mg "zip" = none) (ha : PA X [e, e2] ta)
    (hs : starEach [e, e2] X.env = (false, eval e X.env) :: starEach [e2] X.env := by rfl) (hpl : (backTo pos (starEach [e2] X.env)).any (·.1) = false := by rfl) :
    PI X (.Tuple elts kk tpos) (.Call (.Name "zip" p) [e, e2] [] pos) (iZipQ X.K ta) := by
  refine ⟨fun pins s σ H R I h => ?_⟩
  refine Call_ (ld_blt I hg hm PyProof.Rows.boot_zip (PyProof.Rows.callWith_type1 (thn (ha.run pos pins s σ H _ I h) fun us s1 ⟨vs, H1, I1, r1, q1⟩ => ?_) hs hpl))
  obtain ⟨k1, k2, a, b, xs, ys, ex, hqx, hqy, q⟩ := q1
  subst ex
  cases r1 with
  | cons r rr =>
    cases rr with
    | cons r' rr =>
      cases rr
      cases r
      cases r'
      obtain ⟨its, rv, p1, lt1⟩ := hqx.inv I1
      obtain ⟨its2, rv2, p2, lt2⟩ := hqy.inv I1
      refine zip_begins2 (begB k1 a its.toArray) (begB k2 b its2.toArray) p1 p2 fun h' hz hTI hTO h1 h2 hsz hk => wpAny_pyIter_zip hz ?_
      have I2 : Inv X pins σ H1 { s1 with heap := h' } := I1.kept (t' := s1.toks) hk
      refine ⟨s1.heap.objs.size + 4, [s1.heap.objs.size + 4, s1.heap.objs.size + 2, s1.heap.objs.size + 3, s1.heap.objs.size, s1.heap.objs.size + 1], _, _, H1, rfl, I2,
        turn_zipB (zip_sep2 (fp1 := [a]) (fp2 := [b]) (fun c hc => by simp at hc; rw [hc]; exact lt1) (fun c hc => by simp at hc; rw [hc]; exact lt2)) (Nat.ne_of_lt lt1) (Nat.ne_of_lt (Nat.lt_succ_of_lt lt2)), ⟨hz, hTI, ⟨_, _, hTO⟩, ItB.zero h1, ItB.zero h2⟩, fun c hcm => ?_, q⟩
      have e' : c = s1.heap.objs.size + 4 ∨ c = s1.heap.objs.size + 2 ∨ c = s1.heap.objs.size + 3 ∨ c = s1.heap.objs.size ∨ c = s1.heap.objs.size + 1 := by simpa using hcm
      have hle : s1.heap.objs.size ≤ c := by
        rcases e' with z | z | z | z | z
        · rw [z]; exact Nat.le_add_right _ _
        · rw [z]; exact Nat.le_add_right _ _
        · rw [z]; exact Nat.le_add_right _ _
        · rw [z]; exact Nat.le_refl _
        · rw [z]; exact Nat.le_add_right _ _
      exact I1.fpOk hle (I1.hok.fresh hle)

/-! ### enumerate -/
def ItE (K : PySem.W.Frag) (k : Bool) (a : Addr) (xs : List V) : It :=
  ⟨fun i H => SqB k K H a xs ∧ i < xs.length, fun i H v H' => ∃ T x, v = .ref T ∧ H T = none ∧ H' = upd H T (.tup [.int (i : Nat), x]) ∧ xs[i]? = some x, fun i H => SqB k K H a xs ∧ i = xs.length⟩
theorem turn_enumB {P : Program} {w : World} {K : PySem.W.Frag} {elts : List Expr} {kk : Nat} {tpos : Pos} {k : Bool} {a e it : Addr} {xs : List V} (na : a ≠ it) (nea : e ≠ a) (nei : e ≠ it) :
    Turn P w K (.Tuple elts kk tpos) (ItE K k a xs) [e, it] e (fun i h => (∃ old, IsEnum h e it ((i : Nat) : Int) old) ∧ ItB k h it a i) where
  mem := by simp
  obj := fun i h st b hb => by
    obtain ⟨⟨old, he⟩, hi⟩ := st
    have e' : b = e ∨ b = it := by simpa using hb
    rcases e' with z | z
    · subst z; exact ⟨_, he, fun v q => nomatch q⟩
    · subst z; exact hi.obj
  keep := fun i h h' st k => let ⟨⟨old, he⟩, hi⟩ := st; ⟨⟨old, k e (by simp) _ he⟩, hi.at fun o q => k it (by simp) o q⟩
  item := by
    intro X hP hw hK hc i pins s σ H E I hf st hg
    subst hP hw hK
    obtain ⟨⟨old, he⟩, hit⟩ := st
    obtain ⟨hq, hx⟩ := hg
    obtain ⟨its, rv, p, _⟩ := hq.inv I
    have ex : xs[i]? = some xs[i] := List.getElem?_eq_getElem hx
    obtain ⟨u, hu, ru⟩ := rv.get ex
    have l1 := rv.length
    have hel : e < s.heap.objs.size := Heap.lt_size he
    have hil : it < s.heap.objs.size := by obtain ⟨_, q, _⟩ := hit.obj; exact Heap.lt_size q
    have hh : X.A.in1.handled = none := I.ok.hd hc
    refine wpAny_pyNext_enum_itemD (drawsB k hh it a na its.toArray) he ⟨hit, p⟩ (by simp; omega) nei (by simp; exact ⟨nei, nea⟩) fun x h' tk y1 ho hit' hT hsz hk => ?_
    have y1' : its[i]? = some x := by simpa using y1
    rw [hu] at y1'; cases y1'
    refine ⟨_, rfl, wpAny_letOwnedTupleGo_enum (s := { s with heap := h', toks := tk + 1 }) ho fun h'' he' sb => ?_⟩
    have hT2 : h''.get? s.heap.objs.size = some { cls := .type "tuple", data := .seq #[.int i tk, u] } := (sb.2 _ (Nat.ne_of_gt hel)).trans hT
    have new : ObjOk X.prog X.w (upd H s.heap.objs.size (.tup [.int (i : Nat), xs[i]])) h'' s.heap.objs.size (.tup [.int (i : Nat), xs[i]]) :=
      ⟨by show 2 ≤ sizeLine; decide, [.int i tk, u], .cons ⟨_, rfl⟩ (.cons ru .nil), ⟨_, hT2, rfl, _, rfl⟩⟩
    have I1 : Inv X pins σ (upd H s.heap.objs.size (.tup [.int (i : Nat), xs[i]])) { s with heap := h'', toks := tk + 1 } :=
      I.turnedNew (t' := tk + 1) (ch := [e, it]) (fun b ob hb q => (sb.2 b (fun z => hb (by simp [z]))).trans (hk b ob (fun z => hb (by simp [z])) (fun z => hb (by simp [z])) q)) hf (Nat.le_refl _) new
    refine ⟨.ref s.heap.objs.size, _, I1, rfl, ⟨_, _, rfl, I.hok.fresh (Nat.le_refl _), rfl, ex⟩, ⟨⟨u, ?_⟩, hit'.1.at fun o q => (sb.2 it (Ne.symm nei)).trans q⟩, fun b hb => ?_⟩
    · have e1 : ((i + 1 : Nat) : Int) = (i : Int) + 1 := by omega
      rw [e1]; exact he'
    · have hb' : b < s.heap.objs.size := by
        have e' : b = e ∨ b = it := by simpa using hb
        rcases e' with z | z
        · rw [z]; exact hel
        · rw [z]; exact hil
      rw [upd_ne (Nat.ne_of_lt hb')]
      exact (hf b hb).1
  done := by
    intro X hP hw hK hc i pins s σ H E I hf st hg
    subst hP hw hK
    obtain ⟨⟨old, he⟩, hit⟩ := st
    obtain ⟨hq, hi⟩ := hg
    obtain ⟨its, rv, p, _⟩ := hq.inv I
    obtain ⟨f0, f1, f2, f3, f4, f5⟩ := hf it (by simp)
    have l1 := rv.length
    have hh : X.A.in1.handled = none := I.ok.hd hc
    have hn : i = its.toArray.size := by simp; omega
    exact wpAny_pyNext_enum_endD (drawsB k hh it a na its.toArray) he (by rw [← hn]; exact ⟨hit, p⟩) fun h' eb => ⟨rfl, I.turned (t' := s.toks) (fun b o hb q => eb b o hb q) f0 f1 f3 f4 f5⟩
  self := fun A i s Q E st h => let ⟨⟨_, he⟩, _⟩ := st; wpAny_pyIter_enum he h

set_option maxHeartbeats 4000000 in
theorem meets_enum1 {v : Value} {o : Obj} {Hq : Heap → Prop} (B : Begins v o Hq) :
    Meets (Builtin.«enumerate.__new__» ⟨[.type "enumerate", v], []⟩) (fun _ R s => Hq s.heap ∧
      R (.ok (.ret (.ref (s.heap.push o).objs.size))) { s with heap := (s.heap.push o).push { cls := .type "enumerate", data := .fields #[.none, .bool false, .ref s.heap.objs.size, rawInt 0, .none, .none] } }) :=
  .of_wp fun prog w A R s h => by
    obtain ⟨hp, g, d, tk, os⟩ := s; obtain ⟨h1, h⟩ := h
    have hsub := sub_enumerate
    have q1 : ∀ {A' : Around} {E : Value → Shared → Prop} {Q : Value → Shared → Prop}, Q (.ref hp.objs.size) ⟨hp.push o, g, d, tk, os⟩ → wpAny (model prog w) A' (pyIter v) Q E ⟨hp, g, d, tk, os⟩ :=
      fun q => B.iter prog w _ _ ⟨hp, g, d, tk, os⟩ _ h1 q
    wp_walk using q1
    refine wpAny_stack_any fun st => wpAny_pure ?_
    split
    · rename_i c _ _ _ _ _
      cases (c == Value.type "enumerate")
      · wp_walk using q1
        exact ⟨_, rfl, h⟩
      · wp_walk using q1
        exact ⟨_, rfl, h⟩
    · wp_walk using q1
      exact ⟨_, rfl, h⟩
theorem enum1_begins {prog : Program} {w : World} {A : Around} {E : Value → Shared → Prop} {s : Shared} {v : Value} {o : Obj} {Hq : Heap → Prop} {Q : Value → Shared → Prop} (B : Begins v o Hq) (h1 : Hq s.heap)
    (h : ∀ h', IsEnum h' (s.heap.objs.size + 1) s.heap.objs.size 0 .none → h'.get? s.heap.objs.size = some o → h'.objs.size = s.heap.objs.size + 2 →
      (∀ b o, s.heap.get? b = some o → h'.get? b = some o) → Q (.ref (s.heap.objs.size + 1)) { s with heap := h' }) :
    wpAny (model prog w) A (call (.type "enumerate") [v]) Q E s := by
  refine callType_new F.called_enumerate (by decide) (F.typeCall_enumerate_1 _) (F.newCall_enumerate_1 _) (fun obj => F.args_object_init_2 obj _) F.entry_enumerate_new
    (meets_enum1 B) ⟨h1, ?_⟩
  have hz : (s.heap.push o).objs.size = s.heap.objs.size + 1 := Heap.size_push ..
  show _ ∧ _
  rw [hz]
  have he : IsEnum ((s.heap.push o).push { cls := .type "enumerate", data := .fields #[.none, .bool false, .ref s.heap.objs.size, rawInt 0, .none, .none] }) (s.heap.objs.size + 1) s.heap.objs.size 0 .none := by
    have := Heap.get?_push_size (s.heap.push o) (o := { cls := .type "enumerate", data := .fields #[.none, .bool false, .ref s.heap.objs.size, rawInt 0, .none, .none] }) rfl
    rw [hz] at this; exact this
  refine ⟨⟨_, he, rfl⟩, h _ he (Heap.get?_push_of_some _ (Heap.get?_push_size _ B.free)) (by rw [Heap.size_push, hz]) fun b o x => Heap.get?_push_of_some _ (Heap.get?_push_of_some _ x)⟩
def iEnumQ (K : PySem.W.Frag) (ta : TA) : TI := fun σ H R => ta σ H fun vs H1 => ∃ k a xs, vs = [.ref a] ∧ SqB k K H1 a xs ∧ R (ItE K k a xs) H1
theorem pi_enumQ {X : Cx} {e : Expr} {ta : TA} {p pos tpos : Pos} {elts : List Expr} {kk : Nat} (hg : Gl X "enumerate") (hm : X.mg "enumerate" = none) (ha : PA X [e] ta) (hs : starEach [e] X.env = [(false, eval e X.env)] := by rfl) :
    PI X (.Tuple elts kk tpos) (.Call (.Name "enumerate" p) [e] [] pos) (iEnumQ X.K ta) := by
  refine ⟨fun pins s σ H R I h => ?_⟩
  refine Call_ (ld_blt I hg hm boot_enumerate (PyProof.Rows.callWith_type1 (thn (ha.run pos pins s σ H _ I h) fun us s1 ⟨vs, H1, I1, r1, q1⟩ => ?_) hs rfl))
  obtain ⟨k, a, xs, ex, hq, q⟩ := q1
  subst ex
  cases r1 with
  | cons r rr =>
    cases rr
    cases r
    obtain ⟨its, rv, p', lt⟩ := hq.inv I1
    refine enum1_begins (begB k a its.toArray) p' fun h' he hit hsz hk => wpAny_pyIter_enum he ?_
    have I2 : Inv X pins σ H1 { s1 with heap := h' } := I1.kept (t' := s1.toks) hk
    refine ⟨s1.heap.objs.size + 1, [s1.heap.objs.size + 1, s1.heap.objs.size], _, _, H1, rfl, I2, turn_enumB (Nat.ne_of_lt lt) (Nat.ne_of_gt (Nat.lt_succ_of_lt lt)) (Nat.succ_ne_self _), ⟨⟨.none, he⟩, ItB.zero hit⟩, fun b hb => ?_, q⟩
    have e' : b = s1.heap.objs.size + 1 ∨ b = s1.heap.objs.size := by simpa using hb
    have hle : s1.heap.objs.size ≤ b := by
      rcases e' with z | z
      · rw [z]; exact Nat.le_add_right _ _
      · rw [z]; exact Nat.le_refl _
    exact I1.fpOk hle (I1.hok.fresh hle)

/-! ### what they walk, by data -/
theorem Rp.seqB {Hf : Hp} {v : V} {d : PyData} {ds : List PyData} (r : Rp Hf v d) (h : seqD d = some ds) : ∃ k a vs, v = .ref a ∧ (∀ K H, Sub Hf H → SqB k K H a vs) ∧ RpL Hf vs ds := by
  cases r with
  | @lst a vs _ e q => cases h; exact ⟨false, a, vs, rfl, fun K H s => .of (s _ _ e), q⟩
  | @tup a vs _ e q => cases h; exact ⟨true, a, vs, rfl, fun K H s => .of (s _ _ e), q⟩
  | _ => cases h
@[simp] def zipA (x y : PyData) : Option (List PyData) := (seqD x).bind fun xs => (seqD y).map fun ys => List.zipWith pairD xs ys
@[simp] def iZipA (a b : M) : ME := fun st => (a st).bind fun (r1, st1) => (esc st1 r1).bind fun (d1, st2) => (b st2).bind fun (r2, st3) => (esc st3 r2).bind fun (d2, st4) => (zipA d1 d2).map fun ds => (ds, st4)
@[simp] def iEnumA (a : M) : ME := fun st => (a st).bind fun (r1, st1) => (esc st1 r1).bind fun (d1, st2) => (seqD d1).map fun ds => (enumL ds, st2)
section
variable {X : Cx} {ea eb ec tg : Expr} {a b : M} {pos p : Pos}
theorem iv_zipA {elts : List Expr} {kk : Nat} {tpos : Pos} (hg : Gl X "zip") (hm : X.mg "zip" = none) (ha : EV X ea a) (hb : EV X eb b)
    (hs : starEach [ea, eb] X.env = (false, eval ea X.env) :: starEach [eb] X.env := by rfl) (hs2 : starEach [eb] X.env = (false, eval eb X.env) :: starEach [] X.env := by rfl) (hpl : (backTo pos (starEach [eb] X.env)).any (·.1) = false := by rfl) :
    IV X (.Tuple elts kk tpos) (.Call (.Name "zip" p) [ea, eb] [] pos) (iZipA a b) := by
  refine iv_of fun L Hf st ds st' σ H R c e k => ⟨_, pi_zipQ hg hm (pa_two ha hb hs hs2) hs hpl, ?_⟩
  unfold iZipA at e
  obtain ⟨⟨r1, st1⟩, h1, e⟩ := bind_some2 e
  obtain ⟨⟨d1, st2⟩, h2, e⟩ := bind_some2 e
  obtain ⟨⟨r2, st3⟩, h3, e⟩ := bind_some2 e
  obtain ⟨⟨d2, st4⟩, h4, e⟩ := bind_some2 e
  obtain ⟨ds', h5, e⟩ := map_some2 e
  cases e
  unfold zipA at h5
  obtain ⟨xs, hx, h5⟩ := bind_some2 h5
  obtain ⟨ys, hy, h5⟩ := map_some2 h5
  cases h5
  refine ev_use c h1 fun v H' Hf' s' c' q => ?_
  obtain ⟨Hf2, s2, c2, q2⟩ := esc_ok c' q h2
  refine ev_use c2 h3 fun w H3 Hf3 s3 c3 q3 => ?_
  obtain ⟨Hf4, s4, c4, q4⟩ := esc_ok c3 q3 h4
  have sAll := (s'.trans s2).trans (s3.trans s4)
  obtain ⟨k1, pa, vs, rfl, qa, ra⟩ := (q2.up (s3.trans s4)).seqB hx
  obtain ⟨k2, pb, ws, rfl, qb, rb⟩ := q4.seqB hy
  refine ⟨k1, k2, pa, pb, vs, ws, rfl, qa _ _ c4.le, qb _ _ c4.le, k _ H3 Hf4 sAll c4 fun Hf5 H5 s5 s6 => ⟨fun i d hd => ?_, ?_⟩⟩
  · obtain ⟨x, y, hx, hy, rfl⟩ := zip_at hd
    obtain ⟨v1, hv1, rv1⟩ := ra.get hx
    obtain ⟨v2, hv2, rv2⟩ := rb.get hy
    refine ⟨⟨qa _ _ (s5.trans s6), qb _ _ (s5.trans s6), lt_of_get hv1, lt_of_get hv2⟩, fun x' H' y' => ?_⟩
    obtain ⟨T, x1, x2, rfl, nT, rfl, g1, g2⟩ := y'
    rw [hv1] at g1; rw [hv2] at g2
    cases g1; cases g2
    exact .tup nT (.cons (rv1.up s5) (.cons (rv2.up s5) .nil))
  · exact ⟨qa _ _ (s5.trans s6), qb _ _ (s5.trans s6), by rw [ra.length, rb.length, List.length_zipWith]⟩
theorem iv_enumA {elts : List Expr} {kk : Nat} {tpos : Pos} (hg : Gl X "enumerate") (hm : X.mg "enumerate" = none) (ha : EV X ea a)
    (hs : starEach [ea] X.env = [(false, eval ea X.env)] := by rfl) (hs1 : starEach [ea] X.env = (false, eval ea X.env) :: starEach [] X.env := by rfl) : IV X (.Tuple elts kk tpos) (.Call (.Name "enumerate" p) [ea] [] pos) (iEnumA a) := by
  refine iv_of fun L Hf st ds st' σ H R c e k => ⟨_, pi_enumQ hg hm (pa_cons ha pa_nil hs1) hs, ?_⟩
  unfold iEnumA at e
  obtain ⟨⟨r1, st1⟩, h1, e⟩ := bind_some2 e
  obtain ⟨⟨d1, st2⟩, h2, e⟩ := bind_some2 e
  obtain ⟨xs, hx, e⟩ := map_some2 e
  cases e
  refine ev_use c h1 fun v H' Hf' s' c' q => ?_
  obtain ⟨Hf2, s2, c2, q2⟩ := esc_ok c' q h2
  obtain ⟨k1, pa, vs, rfl, qa, ra⟩ := q2.seqB hx
  refine ⟨k1, pa, vs, rfl, qa _ _ c2.le, k _ H' Hf2 (s'.trans s2) c2 fun Hf5 H5 s5 s6 => ⟨fun i d hd => ?_, ?_⟩⟩
  · obtain ⟨x, hx, rfl⟩ := enum_at hd
    obtain ⟨v1, hv1, rv1⟩ := ra.get hx
    refine ⟨⟨qa _ _ (s5.trans s6), lt_of_get hv1⟩, fun x' H' y' => ?_⟩
    obtain ⟨T, x1, rfl, nT, rfl, g1⟩ := y'
    rw [hv1] at g1
    cases g1
    exact .tup nT (.cons (.int _) (.cons (rv1.up s5) .nil))
  · exact ⟨qa _ _ (s5.trans s6), by rw [ra.length]; unfold enumL; rw [List.length_map, List.length_zipIdx]⟩
end
end NV
set_option Elab.async false
set_option linter.all false
set_option maxRecDepth 100000
set_option maxHeartbeats 4000000
/-! NV12: enumerate(zip(x, y)) -/
namespace NV
open PySem PySem.Spec PyProof.Rows L2

/-- a zip as it stands between two draws: its pair is free, or still out -/
def ZipSt (h : Heap) (z TI TO : Addr) : Prop := IsZip h z TI TO .none ∨ ∃ (T : Addr) (f : Bool), IsZipHeld h z TI TO T f
def ZipF (h : Heap) (z TI TO : Addr) (f0 : Value) (f : Bool) : Prop := h.get? z = some { cls := .type "zip", dict := none, data := .fields #[f0, .bool f, .bool false, .ref TI, .ref TO], slots := #[] }
theorem ZipSt.f {h : Heap} {z TI TO : Addr} (s : ZipSt h z TI TO) : ∃ f0 f, ZipF h z TI TO f0 f := by
  rcases s with q | ⟨T, f, q⟩
  · exact ⟨_, _, q⟩
  · exact ⟨_, _, q⟩
section
variable {prog : Program} {w : World} {A : Around} {E : Value → Shared → Prop} {s : Shared} {z TI TO i1 i2 : Addr} {fp1 fp2 : List Addr} {n1 n2 i : Nat} {P1 P2 : Nat → Value → Prop} {St1 St2 : Nat → Heap → Prop} {a1 a2 : Value}
theorem alive_is {a : Addr} {Q : Option Obj → Shared → Prop} (h : Q (s.heap.get? a) s) : wpAny (model prog w) A (loadIfAlive a) Q E s := fun _ _ _ => h
/-- free, or out and held, or out and gone -/
theorem ZipSt.ask {Q : Bool → Shared → Prop} (hz : ZipSt s.heap z TI TO) (h1 : Q true s) (h2 : ∀ T f h', IsZipHeld s.heap z TI TO T f → IsZipHeld h' z TI TO T true → Heap.SameBut z s.heap h' → Q false { s with heap := h' }) :
    wpAny (model prog w) A (Builtin.SmallTypes.ownedTupleIsFree (.ref z)) Q E s := by
  rcases hz with hz | ⟨T, f, hz⟩
  · unfold Builtin.SmallTypes.ownedTupleIsFree
    exact wpAny_bind (wpAny_field hz rfl (x := .none) rfl (wpAny_pure h1))
  · cases hT : s.heap.get? T with
    | some oT => exact wpAny_tupleHeld_zip hz hT fun h' a b => h2 T f h' hz a b
    | none =>
      unfold Builtin.SmallTypes.ownedTupleIsFree
      refine wpAny_bind (wpAny_field hz rfl (x := rawInt T) rfl ?_)
      show wpAny _ _ (loadIfAlive ((T : Int).toNat) >>= _) _ _ _
      rw [Int.toNat_natCast]
      refine wpAny_bind (alive_is ?_)
      rw [hT]
      exact wpAny_pure h1
theorem zipN_item {Q : Value → Shared → Prop} (S : ZipSep2 z TI TO i1 i2 fp1 fp2) (D1 : Draws prog w A i1 fp1 n1 P1 St1) (D2 : Draws prog w A i2 fp2 n2 P2 St2)
    (hz : ZipSt s.heap z TI TO) (hTI : IsTupOf2 s.heap TI (.ref i1) (.ref i2)) (hTO : IsTupOf2 s.heap TO a1 a2) (st1 : St1 i s.heap) (st2 : St2 i s.heap) (hlt1 : i < n1) (hlt2 : i < n2)
    (hQ : ∀ x1 x2 h' tk, P1 i x1 → P2 i x2 → ZipSt h' z TI TO → (∃ b1 b2, IsTupOf2 h' TO b1 b2) → St1 (i + 1) h' → St2 (i + 1) h' → IsTupOf2 h' s.heap.objs.size x1 x2 → h'.objs.size = s.heap.objs.size + 1 →
      (∀ c o, c ≠ z → c ≠ TO → c ≠ i1 → c ≠ i2 → s.heap.get? c = some o → h'.get? c = some o) → Q (.ref s.heap.objs.size) { s with heap := h', toks := tk }) :
    wpAny (model prog w) A (Builtin.«zip.__next__» ⟨[.ref z], []⟩) (fun fin s' => ∃ v, fin = .done (.ret v) ∧ Q v s') E s := by
  obtain ⟨hp, g, d, tk0, os⟩ := s
  obtain ⟨f0, f, hzf⟩ := hz.f
  show wpAny _ _ (field (.ref z) 2 >>= _) _ _ _
  refine wpAny_bind (wpAny_field hzf rfl (x := .bool false) rfl ?_)
  show wpAny _ _ (field (.ref z) 3 >>= _) _ _ _
  refine wpAny_bind (wpAny_field hzf rfl (x := .ref TI) rfl ?_)
  refine wpAny_bind (wpAny_seqItems hTI rfl ?_)
  show wpAny _ _ (Builtin.SmallTypes.ownedTupleIsFree (.ref z) >>= _) _ _ _
  refine wpAny_bind (hz.ask ?_ fun T f' h₁ _ hz₁ hs₁ => ?_)
  · simp only [if_true]
    refine wpAny_bind (wpAny_rule ?_)
    refine wpAny_bind (wpAny_field hzf rfl (x := .ref TO) rfl ?_)
    refine wpAny_bind (wpAny_setField_rec hzf (by simp) fun g0 hz0 hs0 => ?_)
    replace hz0 : ZipF g0 z TI TO .ellipsis f := hz0
    replace hs0 : Heap.SameBut z hp g0 := hs0
    refine wpAny_bind ?_
    simp only [List.zipIdx_cons, List.zipIdx_nil, List.forIn_cons, List.forIn_nil]
    refine wpAny_bind (wpAny_bind (wpAny_onRaise ?_))
    show wpAny _ _ (Builtin.SmallTypes.nextOf (.ref i1) >>= _) _ _ ⟨g0, g, d, tk0, os⟩
    refine wpAny_bind (D1.item i _ _ _ hlt1 (D1.over st1 hs0 S.zf1) fun x1 p1 tk1 hx1 sn1 hp1 => wpAny_pure ?_)
    replace hp1 : Heap.SameBut i1 g0 p1 := hp1
    have hU1 : IsTupOf2 p1 TO a1 a2 := hp1.extBut _ _ S.Ti1 (hs0.extBut _ _ S.TOz hTO)
    refine wpAny_bind (wpAny_seqItems (s := ⟨p1, g, d, tk1, os⟩) hU1 rfl ?_)
    refine wpAny_bind (updateSeq_IsTupOf2 (s := ⟨p1, g, d, tk1, os⟩) hU1 fun g1 hT1 hs1 => ?_)
    replace hT1 : IsTupOf2 g1 TO x1 a2 := hT1
    replace hs1 : Heap.SameBut TO p1 g1 := hs1
    refine wpAny_bind (wpAny_letGo (wpAny_pure ?_))
    refine wpAny_bind (wpAny_bind (wpAny_onRaise ?_))
    show wpAny _ _ (Builtin.SmallTypes.nextOf (.ref i2) >>= _) _ _ ⟨g1, g, d, tk1, os⟩
    refine wpAny_bind (D2.item i _ _ _ hlt2 (D2.over (D2.over (D2.over st2 hs0 S.zf2) hp1 S.sep1_2) hs1 S.Tf2) fun x2 p2 tk2 hx2 sn2 hp2 => wpAny_pure ?_)
    replace hp2 : Heap.SameBut i2 g1 p2 := hp2
    have hU2 : IsTupOf2 p2 TO x1 a2 := hp2.extBut _ _ S.Ti2 hT1
    refine wpAny_bind (wpAny_seqItems (s := ⟨p2, g, d, tk2, os⟩) hU2 rfl ?_)
    refine wpAny_bind (updateSeq_IsTupOf2 (s := ⟨p2, g, d, tk2, os⟩) hU2 fun g2 hT2 hs2 => ?_)
    replace hT2 : IsTupOf2 g2 TO x1 x2 := hT2
    replace hs2 : Heap.SameBut TO p2 g2 := hs2
    refine wpAny_bind (wpAny_letGo (wpAny_pure (wpAny_pure ?_)))
    refine wpAny_bind (wpAny_seqItems (s := ⟨g2, g, d, tk2, os⟩) hT2 rfl ?_)
    refine wpAny_bind (wpAny_newTuple ?_)
    have hsz : g2.objs.size = hp.objs.size := by rw [hs2.1, hp2.1, hs1.1, hp1.1, hs0.1]
    have hzz : ZipF g2 z TI TO .ellipsis f := (hs2.extBut _ _ S.TOz.symm (hp2.extBut _ _ S.zi2 (hs1.extBut _ _ S.TOz.symm (hp1.extBut _ _ S.zi1 hz0))))
    have hkk : ∀ c o, c ≠ z → c ≠ TO → c ≠ i1 → c ≠ i2 → hp.get? c = some o → g2.get? c = some o := fun c o cz cT c1 c2 e =>
      (hs2.extBut _ _ cT (hp2.extBut _ _ c2 (hs1.extBut _ _ cT (hp1.extBut _ _ c1 (hs0.extBut _ _ cz e)))))
    have hj1 : St1 (i + 1) g2 := (D1.over (D1.over (D1.over sn1 hs1 S.Tf1) hp2 S.sep2_1) hs2 S.Tf1)
    have hj2 : St2 (i + 1) g2 := (D2.over sn2 hs2 S.Tf2)
    have hzlt : z < g2.objs.size := Heap.lt_size hzz
    show wpAny _ _ (Builtin.SmallTypes.ownedTupleHandOut (.ref z) (.ref g2.objs.size) >>= _) _ _ ⟨g2.push { cls := .type "tuple", data := .seq #[x1, x2] }, g, d, tk2, os⟩
    refine wpAny_bind ?_
    unfold Builtin.SmallTypes.ownedTupleHandOut
    have hz₆ : ZipF (g2.push { cls := .type "tuple", data := .seq #[x1, x2] }) z TI TO .ellipsis f := Heap.get?_push_of_some _ hzz
    refine wpAny_bind (wpAny_setField_rec hz₆ (by simp) fun h₇ hz₇ hs₇ => ?_)
    replace hz₇ : ZipF h₇ z TI TO (rawInt g2.objs.size) f := hz₇
    refine wpAny_setField_rec hz₇ (by simp) fun h₈ hz₈ hs₈ => ?_
    replace hz₈ : IsZip h₈ z TI TO (rawInt g2.objs.size) := hz₈
    replace hs₇ : Heap.SameBut z (g2.push { cls := .type "tuple", data := .seq #[x1, x2] }) h₇ := hs₇
    replace hs₈ : Heap.SameBut z h₇ h₈ := hs₈
    have up : ∀ c o, c ≠ z → g2.get? c = some o → h₈.get? c = some o := fun c o c1 e => hs₈.extBut _ _ c1 (hs₇.extBut _ _ c1 (Heap.get?_push_of_some _ e))
    have hT₈ : IsTupOf2 h₈ g2.objs.size x1 x2 := hs₈.extBut _ _ (Nat.ne_of_gt hzlt) (hs₇.extBut _ _ (Nat.ne_of_gt hzlt) (Heap.get?_push_size _ rfl))
    have hz8 : h₈.objs.size = g2.objs.size + 1 := by rw [hs₈.1, hs₇.1, Heap.size_push]
    rw [hsz] at hz₈ hT₈ hz8
    refine wpAny_pure ⟨_, rfl, ?_⟩
    show Q (.ref g2.objs.size) ⟨h₈, g, d, tk2, os⟩
    rw [hsz]
    exact hQ x1 x2 h₈ tk2 hx1 hx2 (.inr ⟨_, false, hz₈⟩) ⟨_, _, up _ _ S.TOz hT2⟩ (D1.frame _ _ _ hj1 fun b hb o e => up b o (fun q => S.zf1 (q ▸ hb)) e) (D2.frame _ _ _ hj2 fun b hb o e => up b o (fun q => S.zf2 (q ▸ hb)) e) hT₈ hz8 fun c o cz cT c1 c2 e => up c o cz (hkk c o cz cT c1 c2 e)
  · replace hs₁ : Heap.SameBut z hp h₁ := hs₁
    simp only [Bool.false_eq_true, if_false]
    refine wpAny_bind ?_
    rw [← Array.forIn_toList]
    simp only [List.forIn_cons, List.forIn_nil]
    refine wpAny_bind (wpAny_bind (wpAny_holding ?_))
    show wpAny _ _ (Builtin.SmallTypes.nextOf (.ref i1) >>= _) _ _ ⟨h₁, g, d, tk0, os⟩
    refine wpAny_bind (D1.item i _ _ _ hlt1 (D1.over st1 hs₁ S.zf1) fun x1 p1 tk1 hx1 sn1 hp1 => wpAny_pure ?_)
    replace hp1 : Heap.SameBut i1 h₁ p1 := hp1
    refine wpAny_pure ?_
    refine wpAny_bind (wpAny_bind (wpAny_holding ?_))
    show wpAny _ _ (Builtin.SmallTypes.nextOf (.ref i2) >>= _) _ _ ⟨p1, g, d, tk1, os⟩
    refine wpAny_bind (D2.item i _ _ _ hlt2 (D2.over (D2.over st2 hs₁ S.zf2) hp1 S.sep1_2) fun x2 p2 tk2 hx2 sn2 hp2 => wpAny_pure ?_)
    replace hp2 : Heap.SameBut i2 p1 p2 := hp2
    refine wpAny_pure (wpAny_pure ?_)
    show wpAny _ _ (newTuple [x1, x2] >>= _) _ _ _
    refine wpAny_bind (wpAny_newTuple ?_)
    have hsz : p2.objs.size = hp.objs.size := by rw [hp2.1, hp1.1, hs₁.1]
    have hz₃ : IsZipHeld p2 z TI TO T true := hp2.extBut _ _ S.zi2 (hp1.extBut _ _ S.zi1 hz₁)
    have hk : ∀ c o, c ≠ z → c ≠ i1 → c ≠ i2 → hp.get? c = some o → p2.get? c = some o := fun c o c1 c2 c3 e => hp2.extBut _ _ c3 (hp1.extBut _ _ c2 (hs₁.extBut _ _ c1 e))
    have hj1 : St1 (i + 1) p2 := D1.over sn1 hp2 S.sep2_1
    refine wpAny_pure ⟨_, rfl, ?_⟩
    show Q (.ref p2.objs.size) ⟨p2.push { cls := .type "tuple", data := .seq #[x1, x2] }, g, d, tk2, os⟩
    have hpr : IsTupOf2 (p2.push { cls := .type "tuple", data := .seq #[x1, x2] }) p2.objs.size x1 x2 := Heap.get?_push_size _ rfl
    have hz4 : (p2.push { cls := .type "tuple", data := .seq #[x1, x2] }).objs.size = p2.objs.size + 1 := Heap.size_push ..
    rw [hsz] at hpr hz4 ⊢
    exact hQ x1 x2 _ tk2 hx1 hx2 (.inr ⟨T, true, Heap.get?_push_of_some _ hz₃⟩) ⟨_, _, Heap.get?_push_of_some _ (hk _ _ S.TOz S.Ti1 S.Ti2 hTO)⟩ (D1.frame _ _ _ hj1 fun b hb o e => Heap.get?_push_of_some _ e) (D2.frame _ _ _ sn2 fun b hb o e => Heap.get?_push_of_some _ e) hpr hz4
      fun c o c1 _ c2 c3 e => Heap.get?_push_of_some _ (hk c o c1 c2 c3 e)
theorem zipN_end {Q : Fin → Shared → Prop} (S : ZipSep2 z TI TO i1 i2 fp1 fp2) (D1 : Draws prog w A i1 fp1 n1 P1 St1) (D2 : Draws prog w A i2 fp2 n2 P2 St2)
    (hz : ZipSt s.heap z TI TO) (hTI : IsTupOf2 s.heap TI (.ref i1) (.ref i2)) (hTO : IsTupOf2 s.heap TO a1 a2) (st1 : St1 i s.heap) (st2 : St2 i s.heap) (hle1 : i ≤ n1) (hle2 : i ≤ n2) (hend : i = n1 ∨ i = n2)
    (hE : ∀ h' tk e, (∀ c o, c ≠ z → c ≠ TO → c ≠ i1 → c ≠ i2 → s.heap.get? c = some o → h'.get? c = some o) → (∃ o, h'.get? e = some o ∧ o.cls = .type "StopIteration") → E (.ref e) { s with heap := h', toks := tk }) :
    wpAny (model prog w) A (Builtin.«zip.__next__» ⟨[.ref z], []⟩) Q E s := by
  obtain ⟨hp, g, d, tk0, os⟩ := s
  obtain ⟨f0, f, hzf⟩ := hz.f
  show wpAny _ _ (field (.ref z) 2 >>= _) _ _ _
  refine wpAny_bind (wpAny_field hzf rfl (x := .bool false) rfl ?_)
  show wpAny _ _ (field (.ref z) 3 >>= _) _ _ _
  refine wpAny_bind (wpAny_field hzf rfl (x := .ref TI) rfl ?_)
  refine wpAny_bind (wpAny_seqItems hTI rfl ?_)
  show wpAny _ _ (Builtin.SmallTypes.ownedTupleIsFree (.ref z) >>= _) _ _ _
  refine wpAny_bind (hz.ask ?_ fun T f' h₁ _ hz₁ hs₁ => ?_)
  · simp only [if_true]
    refine wpAny_bind (wpAny_rule ?_)
    refine wpAny_bind (wpAny_field hzf rfl (x := .ref TO) rfl ?_)
    refine wpAny_bind (wpAny_setField_rec hzf (by simp) fun g0 hz0 hs0 => ?_)
    replace hz0 : ZipF g0 z TI TO .ellipsis f := hz0
    replace hs0 : Heap.SameBut z hp g0 := hs0
    refine wpAny_bind ?_
    simp only [List.zipIdx_cons, List.zipIdx_nil, List.forIn_cons, List.forIn_nil]
    refine wpAny_bind (wpAny_bind (wpAny_onRaise ?_))
    show wpAny _ _ (Builtin.SmallTypes.nextOf (.ref i1) >>= _) _ _ ⟨g0, g, d, tk0, os⟩
    by_cases hlt1 : i < n1
    · refine wpAny_bind (D1.item i _ _ _ hlt1 (D1.over st1 hs0 S.zf1) fun x1 p1 tk1 hx1 sn1 hp1 => wpAny_pure ?_)
      replace hp1 : Heap.SameBut i1 g0 p1 := hp1
      have hU1 : IsTupOf2 p1 TO a1 a2 := hp1.extBut _ _ S.Ti1 (hs0.extBut _ _ S.TOz hTO)
      refine wpAny_bind (wpAny_seqItems (s := ⟨p1, g, d, tk1, os⟩) hU1 rfl ?_)
      refine wpAny_bind (updateSeq_IsTupOf2 (s := ⟨p1, g, d, tk1, os⟩) hU1 fun g1 hT1 hs1 => ?_)
      replace hT1 : IsTupOf2 g1 TO x1 a2 := hT1
      replace hs1 : Heap.SameBut TO p1 g1 := hs1
      refine wpAny_bind (wpAny_letGo (wpAny_pure ?_))
      have hi2 : i = n2 := by omega
      refine wpAny_bind (wpAny_bind (wpAny_onRaise ?_))
      show wpAny _ _ (Builtin.SmallTypes.nextOf (.ref i2) >>= _) _ _ ⟨g1, g, d, tk1, os⟩
      refine wpAny_bind (D2.done ⟨g1, g, d, tk1, os⟩ _ _ (by rw [← hi2]; exact (D2.over (D2.over (D2.over st2 hs0 S.zf2) hp1 S.sep1_2) hs1 S.Tf2)) fun q e hq he => ?_)
      replace hq : Heap.ExtBut i2 g1 q := hq
      obtain ⟨oe, hoe, hce⟩ := he
      replace hoe : q.get? e = some oe := hoe
      have hzq : ZipF q z TI TO .ellipsis f := hq _ _ S.zi2 (hs1.extBut _ _ S.TOz.symm (hp1.extBut _ _ S.zi1 hz0))
      have hez : e ≠ z := fun x => by subst x; rw [hzq] at hoe; cases hoe; simp at hce
      refine wpAny_setField_rec (s := ⟨q, g, d, tk1, os⟩) hzq (by simp) fun q' _ hq' => ?_
      replace hq' : Heap.SameBut z q q' := hq'
      exact hE q' tk1 e (fun c o cz cT c1 c2 x => hq'.extBut _ _ cz (hq _ _ c2 (hs1.extBut _ _ cT (hp1.extBut _ _ c1 (hs0.extBut _ _ cz x))))) ⟨oe, hq'.extBut _ _ hez hoe, hce⟩
    · have hi1 : i = n1 := by omega
      refine wpAny_bind (D1.done ⟨g0, g, d, tk0, os⟩ _ _ (by rw [← hi1]; exact (D1.over st1 hs0 S.zf1)) fun q e hq he => ?_)
      replace hq : Heap.ExtBut i1 g0 q := hq
      obtain ⟨oe, hoe, hce⟩ := he
      replace hoe : q.get? e = some oe := hoe
      have hzq : ZipF q z TI TO .ellipsis f := hq _ _ S.zi1 hz0
      have hez : e ≠ z := fun x => by subst x; rw [hzq] at hoe; cases hoe; simp at hce
      refine wpAny_setField_rec (s := ⟨q, g, d, tk0, os⟩) hzq (by simp) fun q' _ hq' => ?_
      replace hq' : Heap.SameBut z q q' := hq'
      exact hE q' tk0 e (fun c o cz cT c1 c2 x => hq'.extBut _ _ cz (hq _ _ c1 (hs0.extBut _ _ cz x))) ⟨oe, hq'.extBut _ _ hez hoe, hce⟩
  · replace hs₁ : Heap.SameBut z hp h₁ := hs₁
    simp only [Bool.false_eq_true, if_false]
    refine wpAny_bind ?_
    rw [← Array.forIn_toList]
    simp only [List.forIn_cons, List.forIn_nil]
    refine wpAny_bind (wpAny_bind (wpAny_holding ?_))
    show wpAny _ _ (Builtin.SmallTypes.nextOf (.ref i1) >>= _) _ _ ⟨h₁, g, d, tk0, os⟩
    by_cases hlt1 : i < n1
    · refine wpAny_bind (D1.item i _ _ _ hlt1 (D1.over st1 hs₁ S.zf1) fun x1 p1 tk1 hx1 sn1 hp1 => wpAny_pure ?_)
      replace hp1 : Heap.SameBut i1 h₁ p1 := hp1
      have hi2 : i = n2 := by omega
      refine wpAny_pure ?_
      refine wpAny_bind (wpAny_bind (wpAny_holding ?_))
      show wpAny _ _ (Builtin.SmallTypes.nextOf (.ref i2) >>= _) _ _ ⟨p1, g, d, tk1, os⟩
      refine wpAny_bind (D2.done ⟨p1, g, d, tk1, os⟩ _ _ (by rw [← hi2]; exact (D2.over (D2.over st2 hs₁ S.zf2) hp1 S.sep1_2)) fun q e hq he => ?_)
      exact hE q tk1 e (fun c o cz cT c1 c2 x => hq _ _ c2 (hp1.extBut _ _ c1 (hs₁.extBut _ _ cz x))) he
    · have hi1 : i = n1 := by omega
      refine wpAny_bind (D1.done ⟨h₁, g, d, tk0, os⟩ _ _ (by rw [← hi1]; exact (D1.over st1 hs₁ S.zf1)) fun q e hq he => ?_)
      exact hE q tk0 e (fun c o cz cT c1 c2 x => hq _ _ c1 (hs₁.extBut _ _ cz x)) he
/-! ### enumerate over an iterator that may lay new things -/
theorem enumN_item {e it : Addr} {c : Int} {old : Value} {R : Value → Heap → Nat → Prop} {Q : Value → Shared → Prop} (he : IsEnum s.heap e it c old)
    (hn : ∀ (Q1 : Value → Shared → Prop), (∀ x h₁ tk, R x h₁ tk → Q1 x { s with heap := h₁, toks := tk }) → wpAny (model prog w) A (Builtin.SmallTypes.nextOf (.ref it)) Q1 E s) (hR : ∀ x h₁ tk, R x h₁ tk → IsEnum h₁ e it c old)
    (hQ : ∀ x h₁ tk h', R x h₁ tk → IsEnumOut h' e it (c + 1) x h₁.objs.size → h'.get? h₁.objs.size = some { cls := .type "tuple", data := .seq #[.int c tk, x] } → h'.objs.size = h₁.objs.size + 1 →
      (∀ b o, b ≠ e → h₁.get? b = some o → h'.get? b = some o) → Q (.ref h₁.objs.size) { s with heap := h', toks := tk + 1 }) :
    wpAny (model prog w) A (Builtin.«enumerate.__next__» ⟨[.ref e], []⟩) (fun fin s' => ∃ v, fin = .done (.ret v) ∧ Q v s') E s := by
  obtain ⟨hp, g, d, tk₀, os⟩ := s
  show wpAny _ _ (field (.ref e) 2 >>= _) _ _ _
  refine wpAny_bind (wpAny_field he rfl (x := .ref it) rfl ?_)
  refine wpAny_bind (hn _ fun x h₁ tk hr => ?_)
  have he₁ : IsEnum h₁ e it c old := hR x h₁ tk hr
  show wpAny _ _ (field (.ref e) 3 >>= _) _ _ ⟨h₁, g, d, tk, os⟩
  refine wpAny_bind (wpAny_field he₁ rfl (x := rawInt c) rfl ?_)
  show wpAny _ _ (field (.ref e) 4 >>= _) _ _ ⟨h₁, g, d, tk, os⟩
  refine wpAny_bind (wpAny_field he₁ rfl (x := .none) rfl ?_)
  show wpAny _ _ (mkInt c >>= _) _ _ ⟨h₁, g, d, tk, os⟩
  refine wpAny_bind (wpAny_mkInt ?_)
  show wpAny _ _ (setField (.ref e) 3 (rawInt (c + 1)) >>= _) _ _ ⟨h₁, g, d, tk + 1, os⟩
  refine wpAny_bind (wpAny_setField_rec he₁ (by simp) fun h₂ he₂ hs₂ => ?_)
  replace hs₂ : Heap.SameBut e h₁ h₂ := hs₂
  replace he₂ : IsEnum h₂ e it (c + 1) old := he₂
  show wpAny _ _ (setField (.ref e) 4 .none >>= _) _ _ ⟨h₂, g, d, tk + 1, os⟩
  refine wpAny_bind (wpAny_setField_rec he₂ (by simp) fun h₃ he₃ hs₃ => ?_)
  replace hs₃ : Heap.SameBut e h₂ h₃ := hs₃
  replace he₃ : IsEnum h₃ e it (c + 1) old := he₃
  show wpAny _ _ (newTuple [.int c tk, x] >>= _) _ _ ⟨h₃, g, d, tk + 1, os⟩
  refine wpAny_bind (wpAny_newTuple ?_)
  have he₄ : IsEnum (h₃.push { cls := .type "tuple", data := .seq #[.int c tk, x] }) e it (c + 1) old := Heap.get?_push_of_some _ he₃
  generalize hh₄ : h₃.push { cls := .type "tuple", data := .seq #[.int c tk, x] } = h₄ at he₄
  have hsz : h₃.objs.size = h₁.objs.size := by rw [hs₃.1, hs₂.1]
  have hel : e < h₁.objs.size := Heap.lt_size he₁
  have ht₄ : h₄.get? h₁.objs.size = some { cls := .type "tuple", data := .seq #[.int c tk, x] } := by rw [← hh₄, ← hsz]; exact Heap.get?_push_size _ rfl
  have hz₄ : h₄.objs.size = h₁.objs.size + 1 := by rw [← hh₄, Heap.size_push, hsz]
  have hk₄ : ∀ b o, b ≠ e → h₁.get? b = some o → h₄.get? b = some o := fun b o hbe hb => by
    rw [← hh₄]; exact Heap.get?_push_of_some _ (hs₃.extBut b o hbe (hs₂.extBut b o hbe hb))
  show wpAny _ _ (Builtin.SmallTypes.ownedTupleIsFree (.ref e) >>= _) _ _ ⟨h₄, g, d, tk + 1, os⟩
  rw [hsz]
  clear hh₄ he₃ hs₃ he₂ hs₂ hsz h₃ h₂
  refine wpAny_bind ?_
  · unfold Builtin.SmallTypes.ownedTupleIsFree
    refine wpAny_bind (wpAny_field he₄ rfl (x := .none) rfl (wpAny_pure ?_))
    simp only [if_true]
    refine wpAny_bind (wpAny_rule ?_)
    refine wpAny_bind (wpAny_field he₄ rfl (x := old) rfl ?_)
    refine wpAny_bind (wpAny_setField_rec he₄ (by simp) fun h₅ he₅ hs₅ => ?_)
    replace hs₅ : Heap.SameBut e h₄ h₅ := hs₅
    replace he₅ : IsEnum h₅ e it (c + 1) x := he₅
    show wpAny _ _ (Builtin.SmallTypes.ownedTupleHandOut (.ref e) (.ref h₁.objs.size) >>= _) _ _ ⟨h₅, g, d, tk + 1, os⟩
    refine wpAny_bind ?_
    · unfold Builtin.SmallTypes.ownedTupleHandOut
      refine wpAny_bind (wpAny_setField_rec he₅ (by simp) fun h₆ he₆ hs₆ => ?_)
      replace hs₆ : Heap.SameBut e h₅ h₆ := hs₆
      replace he₆ : IsEnumOut h₆ e it (c + 1) x h₁.objs.size := he₆
      refine wpAny_setField_rec he₆ (by simp) fun h₇ he₇ hs₇ => ?_
      replace hs₇ : Heap.SameBut e h₆ h₇ := hs₇
      replace he₇ : IsEnumOut h₇ e it (c + 1) x h₁.objs.size := he₇
      refine wpAny_bind (wpAny_letGo (wpAny_pure ⟨_, rfl, hQ x h₁ tk h₇ hr he₇ ?_ ?_ ?_⟩))
      · exact hs₇.extBut _ _ (Nat.ne_of_gt hel) (hs₆.extBut _ _ (Nat.ne_of_gt hel) (hs₅.extBut _ _ (Nat.ne_of_gt hel) ht₄))
      · rw [hs₇.1, hs₆.1, hs₅.1, hz₄]
      · exact fun b o hbe hb => hs₇.extBut b o hbe (hs₆.extBut b o hbe (hs₅.extBut b o hbe (hk₄ b o hbe hb)))
end
end NV
set_option Elab.async false
set_option linter.all false
set_option maxRecDepth 100000
set_option maxHeartbeats 4000000
/-! NV13: for i, (x, y) in enumerate(zip(a, b)) -/
namespace NV
open PySem PySem.Spec PyProof.Rows L2

def ItEZ (K : PySem.W.Frag) (k1 k2 : Bool) (a b : Addr) (xs ys : List V) : It :=
  ⟨fun i H => SqB k1 K H a xs ∧ SqB k2 K H b ys ∧ i < xs.length ∧ i < ys.length,
   fun i H v H' => ∃ T U x y, v = .ref U ∧ H T = none ∧ (upd H T (.tup [x, y])) U = none ∧ H' = upd (upd H T (.tup [x, y])) U (.tup [.int (i : Nat), .ref T]) ∧ xs[i]? = some x ∧ ys[i]? = some y,
   fun i H => SqB k1 K H a xs ∧ SqB k2 K H b ys ∧ i = min xs.length ys.length⟩
theorem turn_enumZip {P : Program} {w : World} {K : PySem.W.Frag} {elts : List Expr} {kk : Nat} {tpos : Pos} {k1 k2 : Bool} {a b e z TI TO i1 i2 : Addr} {xs ys : List V} (S : ZipSep2 z TI TO i1 i2 [i1, a] [i2, b]) (na : a ≠ i1) (nb : b ≠ i2)
    (ez : e ≠ z) (eI : e ≠ TI) (eO : e ≠ TO) (e1 : e ≠ i1) (e2 : e ≠ i2) :
    Turn P w K (.Tuple elts kk tpos) (ItEZ K k1 k2 a b xs ys) [e, z, TI, TO, i1, i2] e (fun i h => (∃ old, IsEnum h e z ((i : Nat) : Int) old) ∧ ZipSt h z TI TO ∧ IsTupOf2 h TI (.ref i1) (.ref i2) ∧ (∃ x y, IsTupOf2 h TO x y) ∧ ItB k1 h i1 a i ∧ ItB k2 h i2 b i) where
  mem := by simp
  obj := fun i h st c hc => by
    obtain ⟨⟨old, he⟩, hz, hTI, ⟨x, y, hTO⟩, h1, h2⟩ := st
    have e' : c = e ∨ c = z ∨ c = TI ∨ c = TO ∨ c = i1 ∨ c = i2 := by simpa using hc
    rcases e' with q | q | q | q | q | q
    · subst q; exact ⟨_, he, fun v q => nomatch q⟩
    · subst q; obtain ⟨_, _, hf⟩ := hz.f; exact ⟨_, hf, fun v q => nomatch q⟩
    · subst q; exact ⟨_, hTI, fun v q => nomatch q⟩
    · subst q; exact ⟨_, hTO, fun v q => nomatch q⟩
    · subst q; exact h1.obj
    · subst q; exact h2.obj
  keep := fun i h h' st k => by
    obtain ⟨⟨old, he⟩, hz, hTI, ⟨x, y, hTO⟩, h1, h2⟩ := st
    refine ⟨⟨old, k e (by simp) _ he⟩, ?_, k TI (by simp) _ hTI, ⟨x, y, k TO (by simp) _ hTO⟩, h1.at fun o q => k i1 (by simp) o q, h2.at fun o q => k i2 (by simp) o q⟩
    rcases hz with hz | ⟨T, f, hz⟩
    · exact .inl (k z (by simp) _ hz)
    · exact .inr ⟨T, f, k z (by simp) _ hz⟩
  item := by
    intro X hP hw hK hc i pins s σ H E I hf st hg
    subst hP hw hK
    obtain ⟨⟨old, he⟩, hz, hTI, ⟨x0, y0, hTO⟩, h1, h2⟩ := st
    obtain ⟨hqx, hqy, hx, hy⟩ := hg
    obtain ⟨its, rv, p, _⟩ := hqx.inv I
    obtain ⟨its2, rv2, p2, _⟩ := hqy.inv I
    have ex : xs[i]? = some xs[i] := List.getElem?_eq_getElem hx
    have ey : ys[i]? = some ys[i] := List.getElem?_eq_getElem hy
    obtain ⟨u, hu, ru⟩ := rv.get ex
    obtain ⟨u2, hu2, ru2⟩ := rv2.get ey
    have l1 := rv.length
    have l2 := rv2.length
    obtain ⟨_, _, hzf⟩ := hz.f
    have hzl : z < s.heap.objs.size := Heap.lt_size hzf
    have hel : e < s.heap.objs.size := Heap.lt_size he
    have hTe : s.TypeIs (.ref e) "enumerate" := ⟨_, he, rfl⟩
    have hTz : s.TypeIs (.ref z) "zip" := ⟨_, hzf, rfl⟩
    have hh : X.A.in1.in1.handled = none := I.ok.hd hc
    let R : Value → Heap → Nat → Prop := fun v h' tk => v = .ref s.heap.objs.size ∧ ZipSt h' z TI TO ∧ (∃ b1 b2, IsTupOf2 h' TO b1 b2) ∧ ItB k1 h' i1 a (i + 1) ∧ ItB k2 h' i2 b (i + 1) ∧ IsTupOf2 h' s.heap.objs.size u u2 ∧ h'.objs.size = s.heap.objs.size + 1 ∧
      (∀ c o, c ≠ z → c ≠ TO → c ≠ i1 → c ≠ i2 → s.heap.get? c = some o → h'.get? c = some o)
    unfold pyNext
    refine wpAny_bind (wpAny_attempt (wpAny_callSpecial?_slot (name := Str.ofString "__next__") hTe F.slot_enumerate_next
      (wpAny_call_entry F.slot_enumerate_next hTe F.entry_enumerate_next (enumN_item (R := R) he (fun Q1 hQ1 => ?_) (fun x h₁ tk hr => ?_) fun x h₁ tk h' hr ho hT2 hsz2 hk2 => ?_) (F.args_enumerate_next_1 _))))
    · unfold Builtin.SmallTypes.nextOf
      refine wpAny_bind (wpAny_callSpecial?_slot (name := Str.ofString "__next__") hTz F.slot_zip_next
        (wpAny_call_entry F.slot_zip_next hTz F.entry_zip_next (zipN_item S (drawsB k1 hh i1 a na its.toArray) (drawsB k2 hh i2 b nb its2.toArray) hz hTI hTO ⟨h1, p⟩ ⟨h2, p2⟩ (by simp; omega) (by simp; omega)
          fun x1 x2 h' tk y1 y2 z' TO' h1' h2' hT hsz hk => ?_) (F.args_zip_next_1 _)))
      have y1' : its[i]? = some x1 := by simpa using y1
      have y2' : its2[i]? = some x2 := by simpa using y2
      rw [hu] at y1'; rw [hu2] at y2'
      cases y1'; cases y2'
      exact wpAny_pure (hQ1 _ h' tk ⟨rfl, z', TO', h1'.1, h2'.1, hT, hsz, hk⟩)
    · obtain ⟨_, _, _, _, _, _, _, hk⟩ := hr
      exact hk _ _ ez eO e1 e2 he
    · obtain ⟨rfl, z', ⟨b1, b2, TO'⟩, h1', h2', hT, hsz, hk⟩ := hr
      refine wpAny_pure ⟨_, rfl, wpAny_letOwnedTupleGo_enum (s := { s with heap := h', toks := tk + 1 }) ho fun h'' he' sb => ?_⟩
      have ne0 : e ≠ s.heap.objs.size := Nat.ne_of_lt hel
      have ne1 : e ≠ h₁.objs.size := by rw [hsz]; exact Nat.ne_of_lt (Nat.lt_succ_of_lt hel)
      -- the pair
      have newT : ObjOk X.prog X.w (upd H s.heap.objs.size (.tup [xs[i], ys[i]])) h₁ s.heap.objs.size (.tup [xs[i], ys[i]]) :=
        ⟨by show 2 ≤ sizeLine; decide, [u, u2], .cons ru (.cons ru2 .nil), ⟨_, hT, rfl, _, rfl⟩⟩
      have I1 : Inv X pins σ (upd H s.heap.objs.size (.tup [xs[i], ys[i]])) { s with heap := h₁, toks := tk } :=
        I.turnedNew (t' := tk) (ch := [z, TO, i1, i2]) (fun c o hb q => hk c o (fun q' => hb (by simp [q'])) (fun q' => hb (by simp [q'])) (fun q' => hb (by simp [q'])) (fun q' => hb (by simp [q'])) q)
          (fun c hcm => hf c (by simp at hcm ⊢; rcases hcm with q | q | q | q <;> simp [q])) (Nat.le_refl _) newT
      have lt0 : s.heap.objs.size < h₁.objs.size := by rw [hsz]; exact Nat.lt_succ_self _
      have up2 : ∀ c o, c ≠ e → h₁.get? c = some o → h''.get? c = some o := fun c o hc' q => (sb.2 c hc').trans (hk2 c o hc' q)
      have hU : h''.get? h₁.objs.size = some { cls := .type "tuple", data := .seq #[.int i tk, .ref s.heap.objs.size] } := (sb.2 _ ne1.symm).trans hT2
      have newU : ObjOk X.prog X.w (upd (upd H s.heap.objs.size (.tup [xs[i], ys[i]])) h₁.objs.size (.tup [.int (i : Nat), .ref s.heap.objs.size])) h'' h₁.objs.size (.tup [.int (i : Nat), .ref s.heap.objs.size]) :=
        ⟨by show 2 ≤ sizeLine; decide, [.int i tk, .ref s.heap.objs.size], .cons ⟨_, rfl⟩ (.cons rfl .nil), ⟨_, hU, rfl, _, rfl⟩⟩
      have fe := hf e (by simp)
      have I2 : Inv X pins σ (upd (upd H s.heap.objs.size (.tup [xs[i], ys[i]])) h₁.objs.size (.tup [.int (i : Nat), .ref s.heap.objs.size])) { s with heap := h'', toks := tk + 1 } :=
        I1.turnedNew (t' := tk + 1) (ch := [e]) (fun c o hb q => up2 c o (fun q' => hb (by simp [q'])) q)
          (fun c hcm => by
            have : c = e := by simpa using hcm
            subst this
            exact ⟨by rw [upd_ne ne0]; exact fe.1, fe.2⟩) (Nat.le_refl _) newU
      have hn1 : (upd H s.heap.objs.size (.tup [xs[i], ys[i]])) h₁.objs.size = none := I1.hok.fresh (Nat.le_refl _)
      refine ⟨.ref h₁.objs.size, _, I2, rfl, ⟨_, _, _, _, rfl, I.hok.fresh (Nat.le_refl _), hn1, rfl, ex, ey⟩, ⟨⟨.ref s.heap.objs.size, ?_⟩, ?_, ?_, ⟨b1, b2, ?_⟩, ?_, ?_⟩, fun c hcm => ?_⟩
      · have e1 : ((i + 1 : Nat) : Int) = (i : Int) + 1 := by omega
        rw [e1]; exact he'
      · rcases z' with q | ⟨T', f', q⟩
        · exact .inl (up2 _ _ ez.symm q)
        · exact .inr ⟨T', f', up2 _ _ ez.symm q⟩
      · exact up2 _ _ eI.symm (hk _ _ S.TIz S.TITO S.TIi1 S.TIi2 hTI)
      · exact up2 _ _ eO.symm TO'
      · exact h1'.at fun o q => up2 _ o e1.symm q
      · exact h2'.at fun o q => up2 _ o e2.symm q
      · have hlt : c < s.heap.objs.size := by
          have e' : c = e ∨ c = z ∨ c = TI ∨ c = TO ∨ c = i1 ∨ c = i2 := by simpa using hcm
          rcases e' with q | q | q | q | q | q
          · rw [q]; exact hel
          · rw [q]; exact hzl
          · rw [q]; exact Heap.lt_size hTI
          · rw [q]; exact Heap.lt_size hTO
          · rw [q]; obtain ⟨_, e1, _⟩ := h1.obj; exact Heap.lt_size e1
          · rw [q]; obtain ⟨_, e2, _⟩ := h2.obj; exact Heap.lt_size e2
        rw [upd_ne (Nat.ne_of_lt (Nat.lt_trans hlt lt0)), upd_ne (Nat.ne_of_lt hlt)]
        exact (hf c hcm).1
  done := by
    intro X hP hw hK hc i pins s σ H E I hf st hg
    subst hP hw hK
    obtain ⟨⟨old, he⟩, hz, hTI, ⟨x0, y0, hTO⟩, h1, h2⟩ := st
    obtain ⟨hqx, hqy, hi⟩ := hg
    obtain ⟨its, rv, p, _⟩ := hqx.inv I
    obtain ⟨its2, rv2, p2, _⟩ := hqy.inv I
    have l1 := rv.length
    have l2 := rv2.length
    obtain ⟨_, _, hzf⟩ := hz.f
    have hTe : s.TypeIs (.ref e) "enumerate" := ⟨_, he, rfl⟩
    have hTz : s.TypeIs (.ref z) "zip" := ⟨_, hzf, rfl⟩
    have hh : X.A.in1.in1.handled = none := I.ok.hd hc
    unfold pyNext
    refine wpAny_bind (wpAny_attempt (wpAny_callSpecial?_slot (name := Str.ofString "__next__") hTe F.slot_enumerate_next
      (wpAny_call_entry F.slot_enumerate_next hTe F.entry_enumerate_next ?_ (F.args_enumerate_next_1 _))))
    show wpAny _ _ (field (.ref e) 2 >>= _) _ _ _
    refine wpAny_bind (wpAny_field he rfl (x := .ref z) rfl ?_)
    refine wpAny_bind ?_
    unfold Builtin.SmallTypes.nextOf
    refine wpAny_bind (wpAny_callSpecial?_slot (name := Str.ofString "__next__") hTz F.slot_zip_next
      (wpAny_call_entry F.slot_zip_next hTz F.entry_zip_next (zipN_end S (drawsB k1 hh i1 a na its.toArray) (drawsB k2 hh i2 b nb its2.toArray) hz hTI hTO ⟨h1, p⟩ ⟨h2, p2⟩ (by simp; omega) (by simp; omega) (by simp; omega)
        fun h' tk x hk hx' => ?_) (F.args_zip_next_1 _)))
    obtain ⟨o, ho, hcl⟩ := hx'
    refine wpAny_bind (wpAny_isInstance (T := "StopIteration") (b := true) ⟨o, ho, hcl⟩ isSubtype_stop ?_)
    exact wpAny_pure ⟨rfl, I.turnedL (t' := tk) (ch := [z, TO, i1, i2]) (fun c o hb q => hk c o (fun q' => hb (by simp [q'])) (fun q' => hb (by simp [q'])) (fun q' => hb (by simp [q'])) (fun q' => hb (by simp [q'])) q)
      (fun c hcm => hf c (by simp at hcm ⊢; rcases hcm with q | q | q | q <;> simp [q]))⟩
  self := fun A i s Q E st h => let ⟨⟨_, he⟩, _⟩ := st; wpAny_pyIter_enum he h
/-- enumerate(z), z a zip: it is its own iterator -/
theorem meets_enumZ (z TI TO : Addr) :
    Meets (Builtin.«enumerate.__new__» ⟨[.type "enumerate", .ref z], []⟩) (fun _ R s => IsZip s.heap z TI TO .none ∧
      R (.ok (.ret (.ref s.heap.objs.size))) { s with heap := s.heap.push { cls := .type "enumerate", data := .fields #[.none, .bool false, .ref z, rawInt 0, .none, .none] } }) :=
  .of_wp fun prog w A R s h => by
    obtain ⟨hp, g, d, tk, os⟩ := s; obtain ⟨h1, h⟩ := h
    have hsub := sub_enumerate
    have q1 : ∀ {A' : Around} {E : Value → Shared → Prop} {Q : Value → Shared → Prop}, Q (.ref z) ⟨hp, g, d, tk, os⟩ → wpAny (model prog w) A' (pyIter (.ref z)) Q E ⟨hp, g, d, tk, os⟩ :=
      fun q => wpAny_pyIter_zip h1 q
    wp_walk using q1
    refine wpAny_stack_any fun st => wpAny_pure ?_
    split
    · rename_i c _ _ _ _ _
      cases (c == Value.type "enumerate")
      · wp_walk using q1
        exact ⟨_, rfl, h⟩
      · wp_walk using q1
        exact ⟨_, rfl, h⟩
    · wp_walk using q1
      exact ⟨_, rfl, h⟩
theorem enumZ_begins {prog : Program} {w : World} {A : Around} {E : Value → Shared → Prop} {s : Shared} {z TI TO : Addr} {Q : Value → Shared → Prop} (h1 : IsZip s.heap z TI TO .none)
    (h : ∀ h', IsEnum h' s.heap.objs.size z 0 .none → h'.objs.size = s.heap.objs.size + 1 → (∀ b o, s.heap.get? b = some o → h'.get? b = some o) → Q (.ref s.heap.objs.size) { s with heap := h' }) :
    wpAny (model prog w) A (call (.type "enumerate") [.ref z]) Q E s := by
  refine callType_new F.called_enumerate (by decide) (F.typeCall_enumerate_1 _) (F.newCall_enumerate_1 _) (fun obj => F.args_object_init_2 obj _) F.entry_enumerate_new
    (meets_enumZ z TI TO) ⟨h1, ?_⟩
  have he : IsEnum (s.heap.push { cls := .type "enumerate", data := .fields #[.none, .bool false, .ref z, rawInt 0, .none, .none] }) s.heap.objs.size z 0 .none := Heap.get?_push_size _ rfl
  exact ⟨⟨_, he, rfl⟩, h _ he (Heap.size_push ..) fun b o x => Heap.get?_push_of_some _ x⟩
def iEnumZipQ (K : PySem.W.Frag) (ta : TA) : TI := fun σ H R => ta σ H fun vs H1 => ∃ k1 k2 a b xs ys, vs = [.ref a, .ref b] ∧ SqB k1 K H1 a xs ∧ SqB k2 K H1 b ys ∧ R (ItEZ K k1 k2 a b xs ys) H1
theorem pi_enumZip {X : Cx} {e e2 : Expr} {ta : TA} {p pos p2 pos2 tpos : Pos} {elts : List Expr} {kk : Nat} (hg2 : Gl X "enumerate") (hm2 : X.mg "enumerate" = none) (hg : Gl X "zip") (hm : X.mg "zip" = none) (ha : PA X [e, e2] ta)
    (hs : starEach [e, e2] X.env = (false, eval e X.env) :: starEach [e2] X.env := by rfl) (hpl : (backTo pos (starEach [e2] X.env)).any (·.1) = false := by rfl)
    (hs2 : starEach [.Call (.Name "zip" p) [e, e2] [] pos] X.env = (false, eval (.Call (.Name "zip" p) [e, e2] [] pos) X.env) :: starEach [] X.env := by rfl) :
    PI X (.Tuple elts kk tpos) (.Call (.Name "enumerate" p2) [.Call (.Name "zip" p) [e, e2] [] pos] [] pos2) (iEnumZipQ X.K ta) := by
  refine ⟨fun pins s σ H R I h => ?_⟩
  refine Call_ (ld_blt I hg2 hm2 boot_enumerate (PyProof.Rows.callWith_type1 (args_cons ?_ hs2) hs2 rfl))
  refine Call_ (ld_blt I hg hm PyProof.Rows.boot_zip (PyProof.Rows.callWith_type1 (thn (ha.run pos pins s σ H _ I h) fun us s1 ⟨vs, H1, I1, r1, q1⟩ => ?_) hs hpl))
  obtain ⟨k1, k2, a, b, xs, ys, ex, hqx, hqy, q⟩ := q1
  subst ex
  cases r1 with
  | cons r rr =>
    cases rr with
    | cons r' rr =>
      cases rr
      cases r
      cases r'
      obtain ⟨its, rv, p1, lt1⟩ := hqx.inv I1
      obtain ⟨its2, rv2, p2, lt2⟩ := hqy.inv I1
      refine zip_begins2 (begB k1 a its.toArray) (begB k2 b its2.toArray) p1 p2 fun h' hz hTI hTO h1 h2 hsz hk => args_nil ?_
      refine enumZ_begins (s := { s1 with heap := h' }) hz fun h3 he hsz3 hk3 => wpAny_pyIter_enum he ?_
      have I2 : Inv X pins σ H1 { s1 with heap := h3 } := I1.kept (t' := s1.toks) fun b o e => hk3 b o (hk b o e)
      have hsz' : h'.objs.size = s1.heap.objs.size + 5 := hsz
      have he' : IsEnum h3 h'.objs.size (s1.heap.objs.size + 4) 0 .none := he
      refine ⟨h'.objs.size, [h'.objs.size, s1.heap.objs.size + 4, s1.heap.objs.size + 2, s1.heap.objs.size + 3, s1.heap.objs.size, s1.heap.objs.size + 1], _, _, H1, rfl, I2,
        turn_enumZip (zip_sep2 (fp1 := [a]) (fp2 := [b]) (fun c hc => by simp at hc; rw [hc]; exact lt1) (fun c hc => by simp at hc; rw [hc]; exact lt2)) (Nat.ne_of_lt lt1) (Nat.ne_of_lt (Nat.lt_succ_of_lt lt2))
          (by rw [hsz']; exact Nat.succ_ne_self _) (by rw [hsz']; exact Nat.ne_of_gt (Nat.add_lt_add_left (by decide) _)) (by rw [hsz']; exact Nat.ne_of_gt (Nat.add_lt_add_left (by decide) _)) (by rw [hsz']; exact Nat.ne_of_gt (Nat.lt_add_of_pos_right (by decide))) (by rw [hsz']; exact Nat.ne_of_gt (Nat.add_lt_add_left (by decide) _)),
        ⟨⟨.none, he'⟩, .inl (hk3 _ _ hz), hk3 _ _ hTI, ⟨_, _, hk3 _ _ hTO⟩, ItB.zero (hk3 _ _ h1), ItB.zero (hk3 _ _ h2)⟩, fun c hcm => ?_, q⟩
      have e' : c = h'.objs.size ∨ c = s1.heap.objs.size + 4 ∨ c = s1.heap.objs.size + 2 ∨ c = s1.heap.objs.size + 3 ∨ c = s1.heap.objs.size ∨ c = s1.heap.objs.size + 1 := by simpa using hcm
      have hle : s1.heap.objs.size ≤ c := by
        rcases e' with z | z | z | z | z | z
        · rw [z, hsz']; exact Nat.le_add_right _ _
        · rw [z]; exact Nat.le_add_right _ _
        · rw [z]; exact Nat.le_add_right _ _
        · rw [z]; exact Nat.le_add_right _ _
        · rw [z]; exact Nat.le_refl _
        · rw [z]; exact Nat.le_add_right _ _
      exact I1.fpOk hle (I1.hok.fresh hle)
def enumPairs (xs ys : List PyData) : List PyData := enumL (List.zipWith pairD xs ys)
@[simp] def iEnumZip (a b : M) : ME := fun st => (a st).bind fun (r1, st1) => (esc st1 r1).bind fun (d1, st2) => (b st2).bind fun (r2, st3) => (esc st3 r2).bind fun (d2, st4) => (zipA d1 d2).map fun ds => (enumL ds, st4)
section
variable {X : Cx} {ea eb ec tg : Expr} {a b : M} {pos p pos2 p2 : Pos}
theorem iv_enumZip {elts : List Expr} {kk : Nat} {tpos : Pos} (hg2 : Gl X "enumerate") (hm2 : X.mg "enumerate" = none) (hg : Gl X "zip") (hm : X.mg "zip" = none) (ha : EV X ea a) (hb : EV X eb b)
    (hs : starEach [ea, eb] X.env = (false, eval ea X.env) :: starEach [eb] X.env := by rfl) (hs2 : starEach [eb] X.env = (false, eval eb X.env) :: starEach [] X.env := by rfl) (hpl : (backTo pos (starEach [eb] X.env)).any (·.1) = false := by rfl)
    (hs3 : starEach [.Call (.Name "zip" p) [ea, eb] [] pos] X.env = (false, eval (.Call (.Name "zip" p) [ea, eb] [] pos) X.env) :: starEach [] X.env := by rfl) :
    IV X (.Tuple elts kk tpos) (.Call (.Name "enumerate" p2) [.Call (.Name "zip" p) [ea, eb] [] pos] [] pos2) (iEnumZip a b) := by
  refine iv_of fun L Hf st ds st' σ H R c e k => ⟨_, pi_enumZip hg2 hm2 hg hm (pa_two ha hb hs hs2) hs hpl hs3, ?_⟩
  unfold iEnumZip at e
  obtain ⟨⟨r1, st1⟩, h1, e⟩ := bind_some2 e
  obtain ⟨⟨d1, st2⟩, h2, e⟩ := bind_some2 e
  obtain ⟨⟨r2, st3⟩, h3, e⟩ := bind_some2 e
  obtain ⟨⟨d2, st4⟩, h4, e⟩ := bind_some2 e
  obtain ⟨ds', h5, e⟩ := map_some2 e
  cases e
  unfold zipA at h5
  obtain ⟨xs, hx, h5⟩ := bind_some2 h5
  obtain ⟨ys, hy, h5⟩ := map_some2 h5
  cases h5
  refine ev_use c h1 fun v H' Hf' s' c' q => ?_
  obtain ⟨Hf2, s2, c2, q2⟩ := esc_ok c' q h2
  refine ev_use c2 h3 fun w H3 Hf3 s3 c3 q3 => ?_
  obtain ⟨Hf4, s4, c4, q4⟩ := esc_ok c3 q3 h4
  have sAll := (s'.trans s2).trans (s3.trans s4)
  obtain ⟨k1, pa, vs, rfl, qa, ra⟩ := (q2.up (s3.trans s4)).seqB hx
  obtain ⟨k2, pb, ws, rfl, qb, rb⟩ := q4.seqB hy
  refine ⟨k1, k2, pa, pb, vs, ws, rfl, qa _ _ c4.le, qb _ _ c4.le, k _ H3 Hf4 sAll c4 fun Hf5 H5 s5 s6 => ⟨fun i d hd => ?_, ?_⟩⟩
  · obtain ⟨pr, hp, rfl⟩ := enum_at hd
    obtain ⟨x, y, hx, hy, rfl⟩ := zip_at hp
    obtain ⟨v1, hv1, rv1⟩ := ra.get hx
    obtain ⟨v2, hv2, rv2⟩ := rb.get hy
    refine ⟨⟨qa _ _ (s5.trans s6), qb _ _ (s5.trans s6), lt_of_get hv1, lt_of_get hv2⟩, fun x' H' y' => ?_⟩
    obtain ⟨T, U, x1, x2, rfl, nT, nU, rfl, g1, g2⟩ := y'
    rw [hv1] at g1; rw [hv2] at g2
    cases g1; cases g2
    exact .tup2 nT nU (.cons (rv1.up s5) (.cons (rv2.up s5) .nil))
  · exact ⟨qa _ _ (s5.trans s6), qb _ _ (s5.trans s6), by unfold enumL; rw [ra.length, rb.length, List.length_map, List.length_zipIdx, List.length_zipWith]⟩
end
end NV
set_option Elab.async false
set_option linter.all false
set_option maxRecDepth 100000
set_option maxHeartbeats 4000000
/-! NV14: names of built-ins; {}; == over tuples that hold a dict -/
namespace NV
open PySem PySem.Spec PyProof.Rows L2 SeqAt
open AutoSeq1 (wpAny_loadPart')

theorem bt_len : bootBuiltins "len" = some (.builtin "len") := by kernel_rfl
theorem bt_abs : bootBuiltins "abs" = some (.builtin "abs") := by kernel_rfl
theorem bt_min : bootBuiltins "min" = some (.builtin "min") := by kernel_rfl
theorem bt_max : bootBuiltins "max" = some (.builtin "max") := by kernel_rfl
theorem bt_sum : bootBuiltins "sum" = some (.builtin "sum") := by kernel_rfl
theorem bt_all : bootBuiltins "all" = some (.builtin "all") := by kernel_rfl
theorem bt_any : bootBuiltins "any" = some (.builtin "any") := by kernel_rfl
theorem bt_repr : bootBuiltins "repr" = some (.builtin "repr") := by kernel_rfl
theorem bt_sorted : bootBuiltins "sorted" = some (.builtin "sorted") := by kernel_rfl
theorem bt_isinstance : bootBuiltins "isinstance" = some (.builtin "isinstance") := by kernel_rfl
theorem bt_int : bootBuiltins "int" = some (.type "int") := by kernel_rfl
theorem bt_bool : bootBuiltins "bool" = some (.type "bool") := by kernel_rfl
theorem bt_str : bootBuiltins "str" = some (.type "str") := by kernel_rfl
theorem bt_tuple : bootBuiltins "tuple" = some (.type "tuple") := by kernel_rfl
theorem bt_list : bootBuiltins "list" = some (.type "list") := by kernel_rfl

/-! ### {} -/
@[simp] def mDic0 : M := fun st => some (.dat (.dict []), st)
theorem ev_dic0 {X : Cx} {pos : Pos} : EV X (.Dict [] [] pos) mDic0 := by
  refine ev_of fun L Hf st r st' σ H Q c e k => ⟨_, pe_dnewK, ?_⟩
  cases e
  exact fun p hp => (Grow.dct hp .nil).after c k

/-! ### a dict is no text -/
section
variable {A : Around} {s : Shared}
theorem dict_declines (l : Addr) (o : Obj) (hc : o.cls = .type "dict") (b : Str) (u : Tok) :
    Meets (Builtin.«dict.__eq__» ⟨[.ref l, .str b u], []⟩) (fun _ R s => s.heap.get? l = some o ∧ R (.ok (.ret .notImplemented)) s) :=
  .of_wp fun prog w A R s h => by
    obtain ⟨hl, h⟩ := h
    have hT : s.TypeIs (.ref l) "dict" := ⟨o, hl, hc⟩
    show wpAny _ _ (Builtin.Dict.dictSlotArgs "__eq__" ⟨[.ref l, .str b u], []⟩ >>= _) _ _ s
    refine wpAny_bind ?_
    unfold Builtin.Dict.dictSlotArgs
    refine wpAny_bind (wpAny_notOrdered_dict hT ?_)
    show wpAny _ _ (pure (Value.ref l, Value.str b u)) _ _ s
    refine wpAny_pure ?_
    refine wpAny_bind (wpAny_isInstance (T := "str") (b := false) (typeIs_str s b u) F.sub_str_dict ?_)
    simp only [Bool.not_false, if_true]
    refine wpAny_bind (wpAny_rule ?_)
    exact wpAny_pure ⟨_, rfl, h⟩
theorem str_declines_dict (b : Str) (u : Tok) (l : Addr) (o : Obj) (es : Array DictEntry) (ep : Nat) (hd : o.data = .dict es ep) :
    Meets (Builtin.«str.__eq__» ⟨[.str b u, .ref l], []⟩) (fun _ R s => s.heap.get? l = some o ∧ R (.ok (.ret .notImplemented)) s) :=
  .of_wp fun prog w A R s h => by
    obtain ⟨c, dd, dt, sl⟩ := o
    replace hd : dt = .dict es ep := hd
    subst hd
    obtain ⟨hp, g, d, tk, os⟩ := s; obtain ⟨hl, h⟩ := h; wp_walk using wpAny_loadPart' hl, wpAny_load hl; exact ⟨_, rfl, h⟩
theorem rc_dict_str {l : Addr} {o : Obj} {es : Array DictEntry} {ep : Nat} (b : Str) (u : Tok) (hl : s.heap.get? l = some o) (hc : o.cls = .type "dict") (hd : o.data = .dict es ep) (hu : A.units < cLine) : RcAt A s (.ref l) (.str b u) false := fun prog w E Q h => by
  exact rc_eq_decline_or (k := false) ⟨_, hl, hc⟩ (typeIs_str s b u) (by decide) F.sub_str_dict F.slot_dict_eq F.slot_str_eq_refl
    (fun _ hq => call_meets F.slot_dict_eq ⟨_, hl, hc⟩ F.entry_dict_eq (F.args_dict_eq_2 _ _) (dict_declines l o hc b u) ⟨hl, hq⟩)
    (fun _ hq => call_meets F.slot_str_eq_refl (typeIs_str s b u) F.entry_str_eq (F.args_str_eq_2 _ _) (str_declines_dict b u l o es ep hd) ⟨hl, hq⟩)
    (fun _ hq => wpAny_of_eq (rfl : isSame (.ref l) (.str b u) = pure false) hq) (.inr hu) h
theorem eq_dict_str {l : Addr} {o : Obj} {es : Array DictEntry} {ep : Nat} (b : Str) (u : Tok) (hl : s.heap.get? l = some o) (hc : o.cls = .type "dict") (hd : o.data = .dict es ep) (hu : A.units < cLine) : EqAt A s (.ref l) (.str b u) false := fun prog w E Q h => by
  unfold eqBool
  refine wpAny_holding ?_
  refine wpAny_ite_split (fun hab => absurd (eq_of_beq hab) nofun) (fun _ => ?_)
  exact wpAny_bind (rc_dict_str b u hl hc hd hu prog w E _ (wpAny_truthy_bool h))
end
/-! ### == -/
def okP (d e : PyData) : Bool := (SeqAt.shaped d && SeqAt.shaped e) || (match d, e with | .dict _, .str _ => true | _, _ => false)
def pairsOk : List PyData → List PyData → Bool
  | x :: xs, y :: ys => okP x y && pairsOk xs ys
  | _, _ => true
theorem pairsOk_at : ∀ {xs ys : List PyData} {j : Nat} {x y : PyData}, pairsOk xs ys = true → xs[j]? = some x → ys[j]? = some y → okP x y = true
  | [], _, _, _, _, _, h, _ => nomatch h
  | _ :: _, [], _, _, _, _, _, h => nomatch h
  | a :: xs, b :: ys, 0, x, y, h, h1, h2 => by cases h1; cases h2; exact (Bool.and_eq_true_iff.mp h).1
  | a :: xs, b :: ys, j + 1, x, y, h, h1, h2 => pairsOk_at (j := j) (Bool.and_eq_true_iff.mp h).2 h1 h2
@[simp] def eqR2 (d e : PyData) : Option Bool := match d, e with
  | .tuple xs, .tuple ys => if pairsOk xs ys = true then some (PyData.eqvAll xs ys) else none
  | d, e => eqR d e
@[simp] def eqD2 (d e : PyData) : Option R := (eqR2 d e).map fun b => .dat (.bool b)
def rEqT (K : PySem.W.Frag) : R2 := fun x y H Q => ∃ (Hf : Hp) (a b : Addr) (vs ws : List V) (xs ys : List PyData), Sub Hf H ∧ x = .ref a ∧ y = .ref b ∧ H a = some (.tup vs) ∧ H b = some (.tup ws) ∧ RpL Hf vs xs ∧ RpL Hf ws ys ∧ pairsOk xs ys = true ∧ Q (.bl (PyData.eqvAll xs ys)) H
theorem op_eqT {X : Cx} (hu : X.A.units + 80 < cLine) : OpR X (compareOp .Eq) (rEqT X.K) := by
  intro pins s σ H x y v u Q I rx ry h
  obtain ⟨Hf, a, b, vs, ws, xs, ys, sb, rfl, rfl, ha, hb, rv, rw', ok, q⟩ := h
  obtain rfl : v = Value.ref a := rx
  obtain rfl : u = Value.ref b := ry
  obtain ⟨its, vi, p1, _⟩ := I.tuple (SqT.of ha)
  obtain ⟨its2, vi2, p2, _⟩ := I.tuple (SqT.of hb)
  have p1' : s.heap.IsTuple a its.toArray := p1
  have p2' : s.heap.IsTuple b its2.toArray := p2
  have l1 : its.length = xs.length := by rw [← vi.length, rv.length]
  have l2 : its2.length = ys.length := by rw [← vi2.length, rw'.length]
  refine eq_tupleAt (e := pairEq xs ys) p1' p2' (by omega) (fun j h1 h2 => ?_) ?_
  · have j1 : j < xs.length := by simp at h1; omega
    have j2 : j < ys.length := by simp at h2; omega
    have ex : xs[j]? = some xs[j] := List.getElem?_eq_getElem j1
    have ey : ys[j]? = some ys[j] := List.getElem?_eq_getElem j2
    obtain ⟨v1, hv1, rp1⟩ := rv.get ex
    obtain ⟨v2, hv2, rp2⟩ := rw'.get ey
    obtain ⟨u1, hu1, r1⟩ := vi.get hv1
    obtain ⟨u2, hu2, r2⟩ := vi2.get hv2
    have e1 : its.toArray[j] = u1 := by
      have := (List.getElem?_eq_some_iff.mp hu1).2
      simpa using this
    have e2 : its2.toArray[j] = u2 := by
      have := (List.getElem?_eq_some_iff.mp hu2).2
      simpa using this
    have e3 : pairEq xs ys j = PyData.eqv xs[j] ys[j] := by simp only [pairEq, List.getD_eq_getElem?_getD, ex, ey, Option.getD_some]
    rw [e1, e2, e3]
    have hok := pairsOk_at ok ex ey
    unfold okP at hok
    rcases Bool.or_eq_true_iff.mp hok with hs | hs
    · have s1 := (Bool.and_eq_true_iff.mp hs).1
      have s2 := (Bool.and_eq_true_iff.mp hs).2
      obtain ⟨as, q1⟩ := Dp.reads (X := X) I _ _ _ (Rp.dp _ _ (canLay_of_shaped s1) (rp1.up sb)) r1
      obtain ⟨bs, q2⟩ := Dp.reads (X := X) I _ _ _ (Rp.dp _ _ (canLay_of_shaped s2) (rp2.up sb)) r2
      exact eqAt_reads _ _ _ _ _ _ _ _ q1 q2 (canLay_of_shaped s1) (canLay_of_shaped s2) (room_of_shaped s1 (by show X.A.units + 1 + 64 < cLine; omega))
    · split at hs
      · rename_i ks t h1 h2
        rw [h1] at rp1 ⊢
        rw [h2] at rp2 ⊢
        cases rp1 with
        | dct e he =>
          cases rp2
          obtain rfl : u1 = Value.ref _ := r1
          obtain ⟨tk, rfl⟩ := r2
          obtain ⟨_, hsys, vs, rv, o, es, ep, ho, hex, hd, _⟩ := I.hok _ _ (sb _ _ e)
          exact eq_dict_str _ _ ho hex.1 hd (by show X.A.units + 1 < cLine; omega)
      · cases hs
  · refine ⟨.bl _, H, I, rfl, ?_⟩
    have e4 : its.toArray.size = xs.length := by simp; exact l1
    have e5 : its2.toArray.size = ys.length := by simp; exact l2
    rw [e4, e5, eqvAll_eq]
    exact q
theorem d_eq2 {X : Cx} (g : Gd X) : DOp X (compareOp .Eq) eqD2 := by
  intro Hf H x y d1 d2 r Q s rx ry e k
  unfold eqD2 eqR2 at e
  split at e
  · rename_i xs ys
    split at e
    · rename_i hok
      cases e
      obtain ⟨a, vs, rfl, ea, ra⟩ := rx.tup s
      obtain ⟨b, ws, rfl, eb, rb⟩ := ry.tup s
      exact ⟨_, op_eqT (by have := g.un; omega), Hf, a, b, vs, ws, xs, ys, s, rfl, rfl, ea, eb, ra, rb, hok, k _ _ (.old (.bl _))⟩
    · cases e
  · exact d_eq g Hf H x y _ _ r Q s rx ry e k
end NV
set_option Elab.async false
set_option linter.all false
set_option maxRecDepth 100000
set_option maxHeartbeats 4000000
/-! NV15: running the readings -/
namespace NV
open PySem PySem.Spec PyProof.Rows L2

/-- a state by its slots -/
def stL (l : List Sl) (z : Option Src) : Sta := ⟨fun i => l.getD i .emp, z⟩
@[simp] theorem stL_e {l : List Sl} {z : Option Src} {i : Nat} : (stL l z).e i = l.getD i .emp := rfl
@[simp] theorem stL_z {l : List Sl} {z : Option Src} : (stL l z).z = z := rfl
theorem Sta.ext' {a b : Sta} (h : ∀ i, a.e i = b.e i) (hz : a.z = b.z) : a = b := by
  obtain ⟨e, z⟩ := a
  obtain ⟨e', z'⟩ := b
  obtain rfl : z = z' := hz
  obtain rfl : e = e' := funext h
  rfl
@[simp] theorem stL_put {l : List Sl} {z : Option Src} {i : Nat} {x : Sl} (h : i < l.length) : (stL l z).put i x = stL (l.set i x) z := by
  refine Sta.ext' (fun j => ?_) rfl
  show (if j = i then x else l.getD j Sl.emp) = (l.set i x).getD j Sl.emp
  rw [List.getD_eq_getElem?_getD, List.getD_eq_getElem?_getD, List.getElem?_set]
  by_cases hj : j = i
  · subst hj; rw [if_pos rfl, if_pos rfl, if_pos h]; rfl
  · rw [if_neg hj, if_neg fun q => hj q.symm]
@[simp] theorem stL_mk {l : List Sl} {z z' : Option Src} : (⟨(stL l z).e, z'⟩ : Sta) = stL l z' := rfl
@[simp] theorem clr_nil {st : Sta} : clr [] st = st := Sta.ext' (fun j => by show (if j ∈ ([] : List Nat) then Sl.emp else st.e j) = st.e j; rw [if_neg List.not_mem_nil]) rfl
@[simp] theorem clr_cons {i : Nat} {vs : List Nat} {st : Sta} : clr (i :: vs) st = clr vs (st.put i .emp) := by
  refine Sta.ext' (fun j => ?_) rfl
  show (if j ∈ i :: vs then Sl.emp else st.e j) = if j ∈ vs then Sl.emp else if j = i then Sl.emp else st.e j
  by_cases h1 : j = i
  · subst h1; simp
  · by_cases h2 : j ∈ vs <;> simp [h1, h2]
@[simp] theorem unclr_nil {s0 st : Sta} : unclr [] s0 st = st := Sta.ext' (fun j => by show (if j ∈ ([] : List Nat) then s0.e j else st.e j) = st.e j; rw [if_neg List.not_mem_nil]) rfl
@[simp] theorem unclr_cons {i : Nat} {vs : List Nat} {s0 st : Sta} : unclr (i :: vs) s0 st = unclr vs s0 (st.put i (s0.e i)) := by
  refine Sta.ext' (fun j => ?_) rfl
  show (if j ∈ i :: vs then s0.e j else st.e j) = if j ∈ vs then s0.e j else if j = i then s0.e i else st.e j
  by_cases h1 : j = i
  · subst h1; simp
  · by_cases h2 : j ∈ vs <;> simp [h1, h2]
theorem argE_st (m : Nat) (ds : List PyData) (z : Option Src) : (⟨argE ds, z⟩ : Sta) = stL (ds.map Sl.val ++ List.replicate m Sl.emp) z := by
  refine Sta.ext' (fun j => ?_) rfl
  show argE ds j = (ds.map Sl.val ++ List.replicate m Sl.emp).getD j Sl.emp
  unfold argE
  rw [List.getD_eq_getElem?_getD]
  by_cases h : j < ds.length
  · rw [List.getElem?_append_left (by simpa using h), List.getElem?_map, List.getElem?_eq_getElem h]; rfl
  · rw [List.getElem?_eq_none (by omega), List.getElem?_append_right (by simp; omega), List.getElem?_replicate]
    show Sl.emp = _
    by_cases q : j - (List.map Sl.val ds).length < m
    · rw [if_pos q]; rfl
    · rw [if_neg q]; rfl
theorem argS_st (m : Nat) (ds : List PyData) (z : Option Src) : (⟨fun i => match i with | 0 => .src | i + 1 => argE ds i, z⟩ : Sta) = stL (.src :: (ds.map Sl.val ++ List.replicate m Sl.emp)) z := by
  refine Sta.ext' (fun j => ?_) rfl
  cases j with
  | zero => rfl
  | succ j =>
    have := congrArg (fun s : Sta => s.e j) (argE_st m ds z)
    exact this

/-! ### comprehensions -/
@[simp] def stepC (vs : List Nat) (t : MG) (tt : MT) (el : M) (d : PyData) (st : Sta) : Option (Option PyData × Sta) :=
  (t d st).bind fun st1 => (tt st1).bind fun (b, st2) => if b = true then (el st2).bind fun (r, st3) => (esc st3 r).map fun (e, st4) => (some e, clr vs st4) else some (none, clr vs st2)
theorem runC_step {vs : List Nat} {t : MG} {tt : MT} {el : M} {d : PyData} {ds : List PyData} {st st' : Sta} {acc : List PyData} {o : Option PyData} (h : stepC vs t tt el d st = some (o, st')) (hl : acc.length < sizeLine) :
    runC vs t tt el (d :: ds) st acc = runC vs t tt el ds st' (acc ++ o.toList) := by
  unfold stepC at h
  show ((t d st).bind fun st1 => (tt st1).bind fun (b, st2) => if b = true then (el st2).bind fun (r, st3) => (esc st3 r).bind fun (e, st4) => if acc.length < sizeLine then runC vs t tt el ds (clr vs st4) (acc ++ [e]) else none
      else runC vs t tt el ds (clr vs st2) acc) = _
  obtain ⟨st1, h1, h⟩ := bind_some2 h
  obtain ⟨⟨b, st2⟩, h2, h⟩ := bind_some2 h
  rw [h1, Option.bind_some, h2, Option.bind_some]
  dsimp only at h ⊢
  cases b with
  | false =>
    rw [if_neg (by decide)] at h ⊢
    cases h
    simp
  | true =>
    rw [if_pos rfl] at h ⊢
    obtain ⟨⟨r, st3⟩, h3, h⟩ := bind_some2 h
    obtain ⟨⟨e, st4⟩, h4, h⟩ := map_some2 h
    cases h
    rw [h3, Option.bind_some, h4, Option.bind_some]
    dsimp only
    rw [if_pos hl]
    rfl
/-- a comprehension that leaves the state as it was -/
theorem runC_pure {vs : List Nat} {t : MG} {tt : MT} {el : M} {st : Sta} {f : PyData → Option PyData} : ∀ {ds : List PyData} {acc : List PyData}, (∀ d ∈ ds, stepC vs t tt el d st = some (f d, st)) → acc.length + ds.length ≤ sizeLine →
    runC vs t tt el ds st acc = some (acc ++ ds.filterMap f, st)
  | [], acc, _, _ => by rw [List.filterMap_nil, List.append_nil]; rfl
  | d :: ds, acc, h, hl => by
    rw [List.length_cons] at hl
    rw [runC_step (h d (List.mem_cons_self ..)) (by omega), runC_pure (ds := ds) (fun x hx => h x (List.mem_cons_of_mem _ hx)) (by
      rw [List.length_append]
      have : (f d).toList.length ≤ 1 := by cases f d <;> simp
      omega)]
    rw [List.append_assoc]
    congr 2
    rw [List.filterMap_cons]
    cases f d <;> rfl
/-- .. that passes states on -/
theorem runC_thread {α : Type} {vs : List Nat} {t : MG} {tt : MT} {el : M} (S : α → Sta) (f : α → PyData → PyData) (nx : α → PyData → α) : ∀ {ds : List PyData} {a : α} {acc : List PyData}, (∀ a, ∀ d ∈ ds, stepC vs t tt el d (S a) = some (some (f a d), S (nx a d))) → acc.length + ds.length ≤ sizeLine →
    ∃ out : List PyData, out.length = ds.length ∧ runC vs t tt el ds (S a) acc = some (acc ++ out, S (ds.foldl nx a)) ∧ ∀ e ∈ out, ∃ a d, d ∈ ds ∧ e = f a d
  | [], a, acc, _, _ => ⟨[], rfl, by rw [List.append_nil]; rfl, fun e he => nomatch he⟩
  | d :: ds, a, acc, h, hl => by
    rw [List.length_cons] at hl
    obtain ⟨out, h1, h2, h3⟩ := runC_thread S f nx (ds := ds) (a := nx a d) (acc := acc ++ [f a d]) (fun a x hx => h a x (List.mem_cons_of_mem _ hx)) (by rw [List.length_append]; simp; omega)
    refine ⟨f a d :: out, by simp [h1], ?_, fun e he => ?_⟩
    · rw [runC_step (h a d (List.mem_cons_self ..)) (by omega)]
      show runC vs t tt el ds (S (nx a d)) (acc ++ [f a d]) = _
      rw [h2, List.append_assoc]; rfl
    · rcases List.mem_cons.mp he with rfl | he
      · exact ⟨a, d, List.mem_cons_self .., rfl⟩
      · obtain ⟨a', d', hd, rfl⟩ := h3 e he
        exact ⟨a', d', List.mem_cons_of_mem _ hd, rfl⟩

/-! ### for -/
theorem runFor_inv {t : MG} {b : MS} (ds : List PyData) (I : Nat → Sta → Prop) (hs : ∀ k d st, ds[k]? = some d → I k st → ∃ st1 o st2, t d st = some st1 ∧ b st1 = some (o, st2) ∧ (o = .nx ∨ o = .ct) ∧ I (k + 1) st2) :
    ∀ (n k : Nat) (st : Sta), ds.length - k = n → k ≤ ds.length → I k st → ∃ st', runFor t b (ds.drop k) st = some (.nx, st') ∧ I ds.length st'
  | 0, k, st, hn, hk, h => by
    have : k = ds.length := by omega
    subst this
    rw [List.drop_length]
    exact ⟨st, rfl, h⟩
  | n + 1, k, st, hn, hk, h => by
    obtain ⟨x, hx, he⟩ := drop_at (l := ds) (i := k) (by omega)
    obtain ⟨st1, o, st2, h1, h2, ho, hI⟩ := hs k x st hx h
    obtain ⟨st', h3, h4⟩ := runFor_inv ds I hs n (k + 1) st2 (by omega) (by omega) hI
    refine ⟨st', ?_, h4⟩
    rw [he]
    unfold runFor
    rw [h1, Option.bind_some, h2, Option.bind_some]
    rcases ho with rfl | rfl
    · exact h3
    · exact h3
theorem runFor_all {t : MG} {b : MS} {ds : List PyData} (I : Nat → Sta → Prop) {st : Sta} (h0 : I 0 st) (hs : ∀ k d st, ds[k]? = some d → I k st → ∃ st1 o st2, t d st = some st1 ∧ b st1 = some (o, st2) ∧ (o = .nx ∨ o = .ct) ∧ I (k + 1) st2) :
    ∃ st', runFor t b ds st = some (.nx, st') ∧ I ds.length st' := by
  have := runFor_inv ds I hs ds.length 0 st (by omega) (by omega) h0
  rwa [List.drop_zero] at this
/-! ### while -/
theorem sWhile_stop {n : Nat} {t : MT} {b : MS} {st st1 : Sta} (h : t st = some (false, st1)) : sWhile (n + 1) t b st = some (.nx, st1) := by
  unfold sWhile
  rw [h, Option.bind_some]
  rfl
theorem sWhile_turn {n : Nat} {t : MT} {b : MS} {st st1 st2 : Sta} (h : t st = some (true, st1)) (h2 : b st1 = some (.nx, st2)) : sWhile (n + 1) t b st = sWhile n t b st2 := by
  conv => lhs; unfold sWhile
  rw [h, Option.bind_some]
  show ((b st1).bind fun x => _) = _
  rw [h2, Option.bind_some]
end NV
set_option Elab.async false
set_option linter.all false
set_option maxRecDepth 100000
set_option maxHeartbeats 4000000
/-! NV16: plain facts of lists of data, of texts shown -/
namespace NV
open PySem PySem.Spec PyProof.Rows L2

abbrev pI (ns : List Int) : List PyData := ns.map PyData.int
theorem cutD_from (xs : List PyData) (k : Nat) : cutD xs (some (k : Int)) none = xs.drop k := by
  unfold cutD
  rw [HT.sIx_none, HT.sIx_nat]
  by_cases h : k ≤ xs.length
  · rw [Nat.min_eq_left h, List.take_of_length_le (by rw [List.length_drop]; exact Nat.le_refl _)]
  · rw [Nat.min_eq_right (by omega), List.drop_of_length_le (by omega), List.drop_of_length_le (by omega), List.take_nil]
theorem cutD_to (xs : List PyData) (k : Nat) : cutD xs none (some (k : Int)) = xs.take k := by
  unfold cutD
  rw [HT.sIx_none, HT.sIx_nat, List.drop_zero, Nat.sub_zero]
  by_cases h : k ≤ xs.length
  · rw [Nat.min_eq_left h]
  · rw [Nat.min_eq_right (by omega), List.take_length, List.take_of_length_le (by omega)]
theorem atI_nat {α : Type} (xs : List α) (i : Nat) : atI xs (i : Int) = xs[i]? := by
  unfold atI ixN
  by_cases h : i < xs.length
  · simp [h]
  · simp [h]
theorem ixN_nat (n i : Nat) (h : i < n) : ixN n (i : Int) = some i := by
  unfold ixN
  simp [h]
theorem filterMap_if {α β : Type} (p : α → Bool) (g : α → β) : ∀ l : List α, l.filterMap (fun i => if p i = true then some (g i) else none) = (l.filter p).map g
  | [] => rfl
  | a :: l => by
    rw [List.filterMap_cons, List.filter_cons, filterMap_if p g l]
    cases p a <;> rfl
def nth (ns : List Int) (i : Nat) : Int := ns.getD i 0
theorem nth_get {ns : List Int} {i : Nat} (h : i < ns.length) : ns[i]? = some (nth ns i) := by
  unfold nth
  rw [List.getD_eq_getElem?_getD, List.getElem?_eq_getElem h]; rfl
theorem nth_mem {ns : List Int} {i : Nat} (h : i < ns.length) : nth ns i ∈ ns := List.mem_of_getElem? (nth_get h)
theorem pI_get {ns : List Int} {i : Nat} (h : i < ns.length) : (pI ns)[i]? = some (.int (nth ns i)) := by rw [List.getElem?_map, nth_get h]; rfl
theorem pI_at {ns : List Int} {i : Nat} (h : i < ns.length) : atI (pI ns) (i : Int) = some (.int (nth ns i)) := by rw [atI_nat, pI_get h]
theorem pI_set (ns : List Int) (i : Nat) (x : Int) : (pI ns).set i (.int x) = pI (ns.set i x) := by show List.set (List.map PyData.int ns) i (PyData.int x) = List.map PyData.int (ns.set i x); rw [List.map_set]
theorem nth_set {ns : List Int} {i j : Nat} {x : Int} (h : i < ns.length) : nth (ns.set i x) j = if j = i then x else nth ns j := by
  unfold nth
  rw [List.getD_eq_getElem?_getD, List.getElem?_set, List.getD_eq_getElem?_getD]
  by_cases e : j = i
  · subst e; rw [if_pos rfl, if_pos rfl, if_pos h]; rfl
  · rw [if_neg e, if_neg fun q => e q.symm]
@[simp] theorem sizeLine_lit : sizeLine = 16777216 := by decide
@[simp] theorem atI_0 {α : Type} (xs : List α) : atI xs 0 = xs[0]? := atI_nat xs 0
@[simp] theorem atI_1 {α : Type} (xs : List α) : atI xs 1 = xs[1]? := atI_nat xs 1
@[simp] theorem atI_2 {α : Type} (xs : List α) : atI xs 2 = xs[2]? := atI_nat xs 2
@[simp] theorem atI_3 {α : Type} (xs : List α) : atI xs 3 = xs[3]? := atI_nat xs 3
/-- what is shown is short -/
theorem int_leaf {i : Int} (h : i.natAbs < 10 ^ 12) : (PyData.shown (.int i)).length ≤ 13 := PyData.shown_int_le h
theorem int_log {i : Int} (h : i.natAbs < 10 ^ 12) : i.natAbs.log2 < 1920 := by
  by_cases h0 : i.natAbs = 0
  · rw [h0]; decide
  · have : i.natAbs.log2 < 40 := (Nat.log2_lt h0).mpr (Nat.lt_of_lt_of_le h (by decide))
    omega
theorem int_weight {i : Int} (h : i.natAbs < 10 ^ 12) : PyData.weight (.int i) ≤ 40 := by
  unfold PyData.weight
  split
  · omega
  · rename_i h0
    have h1 : i.natAbs ≠ 0 := fun q => h0 (by simpa using q)
    have : i.natAbs.log2 < 40 := (Nat.log2_lt h1).mpr (Nat.lt_of_lt_of_le h (by decide))
    omega
theorem reprOk_of {d : PyData} (h1 : d.leavesShort 13 = true) (h2 : d.showable = true) (h3 : d.weight ≤ 100000) (h4 : d.depth ≤ 64) (h5 : (!d.hasDict || nol d) = true) : reprOk d = true := by
  have h := PyData.shown_le 13 (by decide) d h1
  unfold reprOk
  have e : decide (d.shown.length ≤ sizeLine) = true := decide_eq_true (by rw [sizeLine_eq]; omega)
  rw [h2, e, h5, decide_eq_true h4]; rfl
def small (ns : List Int) : Prop := ∀ n ∈ ns, n.natAbs < 10 ^ 12
theorem ints_short : ∀ {ns : List Int}, small ns → PyData.leavesShortAll 13 (pI ns) = true
  | [], _ => rfl
  | n :: r, h => by
    show (PyData.leavesShort 13 (.int n) && PyData.leavesShortAll 13 (pI r)) = true
    rw [ints_short fun m hm => h m (List.mem_cons_of_mem _ hm), Bool.and_true]
    show decide _ = true
    exact decide_eq_true (int_leaf (h n (List.mem_cons_self ..)))
theorem ints_showable : ∀ {ns : List Int}, small ns → PyData.showableAll (pI ns) = true
  | [], _ => rfl
  | n :: r, h => by
    show (PyData.showable (.int n) && PyData.showableAll (pI r)) = true
    rw [ints_showable fun m hm => h m (List.mem_cons_of_mem _ hm), Bool.and_true]
    exact decide_eq_true (int_log (h n (List.mem_cons_self ..)))
theorem ints_weight : ∀ {ns : List Int}, small ns → PyData.weightAll (pI ns) ≤ 41 * ns.length
  | [], _ => Nat.le_refl _
  | n :: r, h => by
    have h1 := ints_weight fun m hm => h m (List.mem_cons_of_mem _ hm)
    have h2 := int_weight (h n (List.mem_cons_self ..))
    show PyData.weight (.int n) + 1 + PyData.weightAll (pI r) ≤ 41 * (r.length + 1)
    omega
theorem ints_depth : ∀ (ns : List Int), PyData.depthAll (pI ns) ≤ 1
  | [] => Nat.zero_le _
  | n :: r => by
    have h1 := ints_depth r
    show max (PyData.depth (.int n)) (PyData.depthAll (pI r)) ≤ 1
    have : PyData.depth (.int n) ≤ 1 := by unfold PyData.depth; omega
    omega
theorem ints_noDict : ∀ (ns : List Int), PyData.hasDictAll (pI ns) = false
  | [] => rfl
  | n :: r => by
    show (PyData.hasDict (.int n) || PyData.hasDictAll (pI r)) = false
    rw [ints_noDict r]; rfl
theorem repr_ints {ns : List Int} (h : small ns) (hl : ns.length ≤ 1000) : reprOk (.tuple (pI ns)) = true := by
  refine reprOk_of ?_ ?_ ?_ ?_ ?_
  · simp only [PyData.leavesShort]; exact ints_short h
  · simp only [PyData.showable]; exact ints_showable h
  · have := ints_weight h
    simp only [PyData.weight]; omega
  · have := ints_depth ns
    simp only [PyData.depth]; omega
  · simp only [PyData.hasDict]; rw [ints_noDict]; rfl
@[simp] theorem eqv_nil (xs : List PyData) : PyData.eqv (.list xs) (.list []) = xs.isEmpty := by cases xs <;> rfl
@[simp] theorem eqv_tnil (xs : List PyData) : PyData.eqv (.tuple xs) (.tuple []) = xs.isEmpty := by cases xs <;> rfl
@[simp] theorem eqvAll_nil (xs : List PyData) : PyData.eqvAll xs [] = xs.isEmpty := by cases xs <;> rfl
@[simp] theorem shaped_nil : SeqAt.shaped (.list []) = true := by decide
@[simp] theorem shaped_tnil : SeqAt.shaped (.tuple []) = true := by decide
@[simp] theorem pairsOk_nil (xs : List PyData) : pairsOk xs [] = true := by cases xs <;> rfl
theorem canLay_ints : ∀ ns : List Int, PyData.canLayAll0 (pI ns) = true
  | [] => rfl
  | n :: r => by
    show (PyData.canLay0 (.int n) && PyData.canLayAll0 (pI r)) = true
    rw [canLay_ints r]; rfl
theorem shaped_tints (ns : List Int) : SeqAt.shaped (.tuple (pI ns)) = true := by
  have h := ints_depth ns
  unfold SeqAt.shaped
  rw [show PyData.canLay0 (.tuple (pI ns)) = true from canLay_ints ns, Bool.true_and]
  exact decide_eq_true (by simp only [PyData.depth]; omega)
theorem shaped_ints (ns : List Int) : SeqAt.shaped (.list (pI ns)) = true := by
  have h := ints_depth ns
  unfold SeqAt.shaped
  rw [show PyData.canLay0 (.list (pI ns)) = true from canLay_ints ns, Bool.true_and]
  exact decide_eq_true (by simp only [PyData.depth]; omega)
abbrev pN (l : List Nat) : List PyData := l.map fun i => PyData.int (i : Nat)
theorem pN_pI (l : List Nat) : pN l = pI (l.map fun i => ((i : Nat) : Int)) := by
  show _ = List.map PyData.int (List.map _ l)
  rw [List.map_map]; rfl
@[simp] theorem shaped_nats (l : List Nat) : SeqAt.shaped (.list (l.map fun i => PyData.int (i : Nat))) = true := by
  have := pN_pI l
  rw [show (l.map fun i => PyData.int (i : Nat)) = _ from this]
  exact shaped_ints _
end NV
set_option Elab.async false
set_option linter.all false
set_option maxRecDepth 100000
set_option maxHeartbeats 4000000
/-! NV17: draws, told by two functions of which only the bounds are known -/
namespace NV
open PySem PySem.Spec PyProof.Rows L2
def drawL (e : Src → Int) (nx : Src → Src) : Nat → Src → List Int
  | 0, _ => []
  | n + 1, z => e z :: drawL e nx n (nx z)
def drawZ (nx : Src → Src) : Nat → Src → Src
  | 0, z => z
  | n + 1, z => drawZ nx n (nx z)
theorem drawL_len (e : Src → Int) (nx : Src → Src) : ∀ (n : Nat) (z : Src), (drawL e nx n z).length = n
  | 0, _ => rfl
  | n + 1, z => by show (drawL e nx n (nx z)).length + 1 = _; rw [drawL_len e nx n]
theorem drawL_all {P : Int → Prop} (e : Src → Int) (nx : Src → Src) (h : ∀ z, P (e z)) : ∀ (n : Nat) (z : Src), ∀ x ∈ drawL e nx n z, P x
  | 0, _, x, hx => by cases hx
  | n + 1, z, x, hx => by
    rcases List.mem_cons.mp hx with rfl | hx
    · exact h z
    · exact drawL_all e nx h n _ x hx
theorem runC_draw {vs : List Nat} {t : MG} {tt : MT} {el : M} (S : Src → Sta) (e : Src → Int) (nx : Src → Src) : ∀ {ds : List PyData} {z : Src} {acc : List PyData}, (∀ z, ∀ d ∈ ds, stepC vs t tt el d (S z) = some (some (.int (e z)), S (nx z))) → acc.length + ds.length ≤ sizeLine →
    runC vs t tt el ds (S z) acc = some (acc ++ pI (drawL e nx ds.length z), S (drawZ nx ds.length z))
  | [], z, acc, _, _ => by
    show some (acc, S z) = some (acc ++ [], S z)
    rw [List.append_nil]
  | d :: ds, z, acc, h, hl => by
    rw [List.length_cons] at hl
    rw [runC_step (h z d (List.mem_cons_self ..)) (by omega), runC_draw S e nx (fun z x hx => h z x (List.mem_cons_of_mem _ hx)) (by rw [List.length_append]; simp only [Option.toList_some, List.length_cons, List.length_nil]; omega)]
    show some ((acc ++ [.int (e z)]) ++ pI (drawL e nx ds.length (nx z)), _) = some (acc ++ pI (e z :: drawL e nx ds.length (nx z)), _)
    rw [List.append_assoc]; rfl
theorem sCons_nx {a b : MS} {st st1 : Sta} (h : a st = some (.nx, st1)) : sCons a b st = b st1 := by
  unfold sCons
  rw [h]; rfl
theorem sCons_rt {a b : MS} {st st1 : Sta} {d : PyData} (h : a st = some (.rt d, st1)) : sCons a b st = some (.rt d, st1) := by
  unfold sCons
  rw [h]; rfl
theorem sCons_rtF {a b : MS} {st st1 : Sta} {d : List PyData} (h : a st = some (.rtF d, st1)) : sCons a b st = some (.rtF d, st1) := by
  unfold sCons
  rw [h]; rfl
theorem small62 {n : Nat} (hn : n ≤ 16777216) : -(2 ^ 62) ≤ (n : Int) ∧ (n : Int) < 2 ^ 62 := ⟨by omega, by omega⟩
theorem iRg1_is {a : M} {st st' : Sta} {n : Nat} (h : a st = some (.dat (.int n), st')) (hn : n ≤ 16777216) : iRg1 a st = some (rgD 0 n, st') := by
  have c := small62 hn
  have e : mInt a st = some ((n : Int), st') := by unfold mInt; rw [h]
  unfold iRg1
  rw [e, Option.bind_some]
  dsimp only
  rw [if_pos c, Int.toNat_natCast]
theorem iRg1_int {a : M} {st st' : Sta} {j : Int} (h : a st = some (.dat (.int j), st')) (h1 : -16777216 ≤ j) (h2 : j ≤ 16777216) : iRg1 a st = some (rgD 0 j.toNat, st') := by
  have c : -(2 ^ 62) ≤ j ∧ j < 2 ^ 62 := ⟨by omega, by omega⟩
  have e : mInt a st = some (j, st') := by unfold mInt; rw [h]
  unfold iRg1
  rw [e, Option.bind_some]
  dsimp only
  rw [if_pos c]
theorem setIx_int {i j : Nat} {ix a : M} {st : Sta} {L : List Int} {k x : Int} (ha : a st = some (.dat (.int x), st)) (hi : ix st = some (.dat (.int k), st)) (ho : st.e i = .own (pI L)) (hk : ixN L.length k = some j) :
    sSetIx i ix a st = some (.nx, st.put i (.own (pI (L.set j x)))) := by
  have hw : ownAt st i = some (pI L) := by unfold ownAt; rw [ho]
  unfold sSetIx
  rw [ha, Option.bind_some]
  dsimp only [esc]
  rw [Option.bind_some]
  dsimp only
  rw [hw, Option.bind_some, hi, Option.bind_some]
  dsimp only
  rw [hw, Option.bind_some, List.length_map, hk, Option.map_some, pI_set]
/-- the source's draws -/
structure Draw (G : List PyData → Src → Option (R × Src)) where
  p : Int → Src → Int
  nx : Int → Src → Src
  is : ∀ m z, m < 1073741824 → G [.int m] z = some (.dat (.int (p m z)), nx m z)
  lo : ∀ m z, 0 ≤ p m z
  hi : ∀ m z, 1 ≤ m → p m z < m
theorem pickG_is {m : Int} (z : Src) (h : m < 1073741824) : pickG [.int m] z = some (.dat (.int (pickN m z).1), (pickN m z).2) := by
  unfold pickG
  exact if_pos h
def drawPick : Draw pickG := ⟨fun m z => (pickN m z).1, fun m z => (pickN m z).2, fun m z h => pickG_is z h, pickN_lo, pickN_hi⟩
section
variable {G : List PyData → Src → Option (R × Src)} (D : Draw G)
def Draw.at (n : Nat) (z : Src) : Nat := (D.p n z).toNat
theorem Draw.at_is (n : Nat) (z : Src) : D.p n z = ((D.at n z : Nat) : Int) := by
  have h1 := D.lo n z
  unfold Draw.at
  omega
theorem Draw.at_lt {n : Nat} (z : Src) (h : 0 < n) : D.at n z < n := by
  have h1 := D.lo n z
  have h2 := D.hi n z (by omega)
  unfold Draw.at
  omega
def ofG (ds : List PyData) (z : Src) : Option (R × Src) := match ds with
  | [.list xs] => if xs.length < 1073741824 then (xs[D.at xs.length z]?).map fun d => (.dat d, D.nx xs.length z) else none
  | _ => none
theorem ofG_is {xs : List PyData} {z : Src} {d : PyData} (hl : xs.length < 1073741824) (h : xs[D.at xs.length z]? = some d) : ofG D [.list xs] z = some (.dat d, D.nx xs.length z) := by
  unfold ofG
  exact (if_pos hl).trans (by rw [h]; rfl)
theorem ofG_mem {xs : List PyData} {z : Src} (h0 : 0 < xs.length) (hl : xs.length < 1073741824) : ∃ d, d ∈ xs ∧ ofG D [.list xs] z = some (.dat d, D.nx xs.length z) := by
  have h := D.at_lt (n := xs.length) z h0
  exact ⟨xs[D.at xs.length z], List.getElem_mem h, ofG_is D hl (List.getElem?_eq_getElem h)⟩
end
end NV
set_option Elab.async false
set_option linter.all false
set_option maxRecDepth 100000
set_option maxHeartbeats 4000000
/-! NV18: what the module's top has written, def by def -/
namespace NV
open PySem PySem.Spec PyProof.Rows L2
structure DefAt (K : PySem.W.Frag) (x : Str) (st : Stmt) : Prop where
  ex : ∃ (f : Addr) (oc : Value) (od : Option Addr) (kV dc pm : Value) (an : Option Addr) (cd ct : Value) (sl : Array (Option Value)), PySem.W.nsIn K mainGlobals x = some (some (.ref f)) ∧
    K.lookup f = some ⟨oc, od, .func (PySem.W.fnOf x x (defArgs st) (defBody st) (defScope st) .none kV dc pm an cd ct), sl⟩ ∧ PySem.W.codeIn K cd x = true ∧ PySem.W.keepIn K (.ref f) = true
theorem DefAt.of {K : PySem.W.Frag} {x : Str} {st : Stmt} {f : Addr} {oc : Value} {od : Option Addr} {kV dc pm : Value} {an : Option Addr} {cd ct : Value} {sl : Array (Option Value)} (a : PySem.W.nsIn K mainGlobals x = some (some (.ref f)))
    (l : K.lookup f = some ⟨oc, od, .func (PySem.W.fnOf x x (defArgs st) (defBody st) (defScope st) .none kV dc pm an cd ct), sl⟩) (c : PySem.W.codeIn K cd x = true) (k : PySem.W.keepIn K (.ref f) = true) : DefAt K x st :=
  ⟨f, oc, od, kV, dc, pm, an, cd, ct, sl, a, l, c, k⟩
theorem DefAt.get {K : PySem.W.Frag} {x : Str} {st : Stmt} {h : Heap} {mg : Str → Option Value} (d : DefAt K x st) (X : K.In h) (G : h.Ns mainGlobals mg) {ps : List Str}
    (hb : ∀ (kV doc pm : Value) (an : Option Addr) (cdv ct : Value) (us : List Value), us.length = ps.length → bindArgs (PySem.W.fnOf x x (defArgs st) (defBody st) (defScope st) .none kV doc pm an cdv ct) ⟨us, []⟩ = pure (ps.zip us)) :
    ∃ (f : Addr) (fd : FuncData), L2.Fun K x x st f fd ∧ mg x = some (.ref f) ∧ PySem.W.keepIn K (.ref f) = true ∧ Binds K fd ps [] := by
  obtain ⟨f, oc, od, kV, dc, pm, an, cd, ct, sl, a, l, c, k⟩ := d.ex
  have F := fun_mk (st := st) l c k
  exact ⟨f, _, F, PySem.W.mg_of X G a, k, F.binds hb⟩
theorem CalG.mk' {P : Program} {w : World} {K : PySem.W.Frag} {mg : Str → Option Value} {base : Heap} {k : Nat} {x : Str} {sp : Sp} {f : Addr} {fd : FuncData} {ps : List Str} (F : FnG P w K mg base k f fd ps sp) (hm : mg x = some (.ref f)) (hk : PySem.W.keepIn K (.ref f) = true) (hb : Binds K fd ps []) : CalG P w K mg base k x sp :=
  ⟨f, fd, ps, F, hm, hk, hb⟩
end NV
set_option Elab.async false
set_option linter.all false
set_option maxRecDepth 100000
set_option maxHeartbeats 4000000
/-! NV19: tuple(range(a, b, c)) -/
namespace NV
open PySem PySem.Spec PyProof.Rows L2
def rgCV (lo c : Int) (n : Nat) : List V := (List.range n).map fun i => V.int (lo + (i : Nat) * c)
theorem vals_rgC {a c : Int} {n : Nat} {acc : Array Value} (h : ItemsOf (fun i v => ∃ t, v = .int (a + i * c) t) acc n) : Vals (rgCV a c n) acc.toList := by
  have e : acc.toList.length = n := by rw [Array.length_toList]; exact h.1
  unfold rgCV
  rw [← e]
  refine vals_of_get acc.toList _ fun j u hj => ?_
  obtain ⟨t, rfl⟩ := h.2 j u (by rw [← hj, Array.getElem?_toList])
  exact ⟨t, rfl⟩
theorem rgCV_rp {Hf : Hp} (lo c : Int) (n : Nat) : RpL Hf (rgCV lo c n) (rgC lo c n) := by
  unfold rgCV rgC
  have : ∀ l : List Nat, RpL Hf (l.map fun i => V.int (lo + (i : Nat) * c)) (l.map fun i => PyData.int (lo + (i : Nat) * c)) := fun l => by
    induction l with
    | nil => exact .nil
    | cons x l ih => exact .cons (.int _) ih
  exact this _
def Rg3Ok (i j c : Int) : Prop := c ≠ 0 ∧ c.natAbs < 1073741824 ∧ Builtin.Range.small i j c = true ∧ 0 ≤ Builtin.Range.rangeSize i j c ∧ Builtin.Range.rangeSize i j c ≤ 16777216
instance (i j c : Int) : Decidable (Rg3Ok i j c) := by unfold Rg3Ok; exact inferInstance
def tTupRg3 (ta : TA) : TE := fun σ H Q => ta σ H fun vs H1 => ∃ (i j c : Int), vs = [.int i, .int j, .int c] ∧ Rg3Ok i j c ∧ ∀ q, H1 q = none → Q (.ref q) (upd H1 q (.tup (rgCV i c (Builtin.Range.rangeSize i j c).toNat)))
section
variable {X : Cx} {ea eb ec : Expr} {a b c : M} {ta : TA} {p pos p2 pos2 : Pos}
theorem pe_tupRg3 (g : Gd X) (hg2 : Gl X "tuple") (hm2 : X.mg "tuple" = none) (hg : Gl X "range") (hm : X.mg "range" = none) (ha : PA X [ea, eb, ec] ta)
    (hs : starEach [ea, eb, ec] X.env = (false, eval ea X.env) :: starEach [eb, ec] X.env := by rfl) (hpl : (backTo pos (starEach [eb, ec] X.env)).any (·.1) = false := by rfl)
    (hs2 : starEach [.Call (.Name "range" p) [ea, eb, ec] [] pos] X.env = (false, eval (.Call (.Name "range" p) [ea, eb, ec] [] pos) X.env) :: starEach [] X.env := by rfl) :
    PE X (.Call (.Name "tuple" p2) [.Call (.Name "range" p) [ea, eb, ec] [] pos] [] pos2) (tTupRg3 ta) := by
  refine ⟨fun pins s σ H Q I h => ?_⟩
  refine Call_ (ld_blt I hg2 hm2 PyProof.Rows.boot_tuple (PyProof.Rows.callWith_type1 (args_cons ?_ hs2) hs2 rfl))
  refine Call_ (ld_blt I hg hm PyProof.Rows.boot_range (PyProof.Rows.callWith_type1 (thn (ha.run pos pins s σ H _ I h) fun us s1 ⟨vs, H1, I1, r1, q1⟩ => ?_) hs hpl))
  obtain ⟨i, j, k, e, ⟨c0, c1, c2, c3, c4⟩, q⟩ := q1
  subst e
  cases r1 with
  | cons r rr =>
    cases rr with
    | cons r' rr =>
      cases rr with
      | cons r'' rr =>
        cases rr
        obtain ⟨t, rfl⟩ := r
        obtain ⟨t', rfl⟩ := r'
        obtain ⟨t'', rfl⟩ := r''
        refine call_range_3 c0 ?_ (.inl (PyProof.noPylong_small c1))
        refine args_nil ?_
        have I2 : Inv X pins σ H1 { s1 with heap := s1.heap.push { cls := .type "range", data := .fields #[.int i t, .int j t', .int k t''] } } := I1.kept (t' := s1.toks) fun b o e => Heap.get?_push_of_some _ e
        refine call_tuple_range (n := (Builtin.Range.rangeSize i j k).toNat) (I2.ok.hd g.calm) (IsRange.new ..) c2 (by omega) (by omega) fun h' tk acc hk hi => ?_
        have I3 : Inv X pins σ H1 { s1 with heap := h', toks := tk } := I2.kept hk
        refine ⟨.ref h'.objs.size, upd H1 h'.objs.size (.tup (rgCV i k (Builtin.Range.rangeSize i j k).toNat)), I3.laid (t' := tk) (fun c o e => Heap.get?_push_of_some _ e) (Nat.le_refl _) (show ObjOk X.prog X.w _ _ _ (.tup (rgCV i k (Builtin.Range.rangeSize i j k).toNat)) from ⟨?_, acc.toList, vals_rgC hi, ?_⟩), rfl, q _ (I3.hok.fresh (Nat.le_refl _))⟩
        · unfold rgCV; rw [List.length_map, List.length_range, sizeLine_eq]; omega
        · rw [Array.toArray_toList]; exact IsTup.new _ _
def mTupRg3 (a b c : M) : M := fun st => (mInt a st).bind fun (i, st1) => (mInt b st1).bind fun (j, st2) => (mInt c st2).bind fun (k, st3) => if Rg3Ok i j k then some (.dat (.tuple (rgC i k (Builtin.Range.rangeSize i j k).toNat)), st3) else none
theorem ev_tupRg3 (g : Gd X) (hg2 : Gl X "tuple") (hm2 : X.mg "tuple" = none) (hg : Gl X "range") (hm : X.mg "range" = none) (ha : EV X ea a) (hb : EV X eb b) (hc : EV X ec c)
    (hs : starEach [ea, eb, ec] X.env = (false, eval ea X.env) :: starEach [eb, ec] X.env := by rfl) (hsb : starEach [eb, ec] X.env = (false, eval eb X.env) :: starEach [ec] X.env := by rfl) (hsc : starEach [ec] X.env = (false, eval ec X.env) :: starEach [] X.env := by rfl)
    (hpl : (backTo pos (starEach [eb, ec] X.env)).any (·.1) = false := by rfl)
    (hs2 : starEach [.Call (.Name "range" p) [ea, eb, ec] [] pos] X.env = (false, eval (.Call (.Name "range" p) [ea, eb, ec] [] pos) X.env) :: starEach [] X.env := by rfl) :
    EV X (.Call (.Name "tuple" p2) [.Call (.Name "range" p) [ea, eb, ec] [] pos] [] pos2) (mTupRg3 a b c) := by
  refine ev_of fun L Hf st r st' σ H Q cc e k => ⟨_, pe_tupRg3 g hg2 hm2 hg hm (pa_cons ha (pa_cons hb (pa_cons hc pa_nil hsc) hsb) hs) hs hpl hs2, ?_⟩
  unfold mTupRg3 at e
  obtain ⟨⟨i, st1⟩, h1, e⟩ := bind_some2 e
  obtain ⟨⟨j, st2⟩, h2, e⟩ := bind_some2 e
  obtain ⟨⟨l, st3⟩, h3, e⟩ := bind_some2 e
  dsimp only at e
  split at e
  · rename_i ok
    cases e
    refine ev_use cc (mInt_some h1) fun v H' Hf' s' c' q => ?_
    cases q
    refine ev_use c' (mInt_some h2) fun v H'' Hf'' s'' c'' q => ?_
    cases q
    refine ev_use c'' (mInt_some h3) fun v H3 Hf3 s3 c3 q => ?_
    cases q
    exact ⟨i, j, l, rfl, ok, fun q hq => (Grow.tup hq (rgCV_rp i l _)).after c3 (k.sub ((s'.trans s'').trans s3))⟩
  · cases e
end
end NV
set_option Elab.async false
set_option linter.all false
set_option maxRecDepth 100000
set_option maxHeartbeats 4000000
/-! NV20: sorted of a tuple of ints -/
namespace SrtO
open PySem PyProof.Rows Srt
section
variable {prog : Program} {w : World} {A : Around} {E : Value → Shared → Prop} {s : Shared}
theorem sorted_tupN {l : Addr} {vs : List Value} {ltv : Value → Value → Bool} {Q : Value → Shared → Prop} (O : Swo ltv) (hl : s.heap.IsTuple l vs.toArray) (hz : vs.length ≤ sizeLine)
    (hS : 2 ≤ vs.length → ∀ (h₁ : Heap) (a : Addr), h₁.get? a = some (seqObj "list" vs.toArray 0) → (∀ b o, s.heap.get? b = some o → b ≠ a ∧ h₁.get? b = some o) → SortableO prog w A.in1.in1 { s with heap := h₁ } a vs ltv)
    (h : ∀ (out : List Value) (h1 h' : Heap) (e : Nat), Srtd ltv out → Stb ltv out vs → (∀ b o, s.heap.get? b = some o → h1.get? b = some o) → h'.get? h1.objs.size = some (seqObj "list" out.toArray e) → (∀ b o, h1.get? b = some o → h'.get? b = some o) → Q (.ref h1.objs.size) { s with heap := h' }) :
    wpAny (model prog w) A (call (.builtin "sorted") [.ref l]) Q E s := by
  obtain ⟨o, ho, hc, n, hd⟩ := id hl
  refine Calls.call_function_entry kind_sorted plain_sorted entry_sorted (args_sorted1 _) ?_
  unfold Builtin.«sorted»
  refine wpAny_bind (m := checkCount "sorted" 1 1 _) (wpAny_pure ?_)
  refine wpAny_bind (wpAny_collect_seq l (.inr rfl) ho hc hd (fun h1 hk => ?_) (by rw [List.size_toArray]; exact hz))
  have ev : vs.toArray.toList = vs := by simp
  rw [ev]
  refine wpAny_bind (wpAny_newList ?_ hz)
  have hoL : (h1.push (seqObj "list" vs.toArray 0)).get? h1.objs.size = some (seqObj "list" vs.toArray 0) := Heap.get?_push_size _ rfl
  have lt : ∀ b o, s.heap.get? b = some o → b < h1.objs.size := fun b o q => Heap.lt_size (hk b o q)
  have keep : ∀ b o, s.heap.get? b = some o → b ≠ h1.objs.size ∧ (h1.push (seqObj "list" vs.toArray 0)).get? b = some o := fun b o q => ⟨Nat.ne_of_lt (lt b o q), Heap.get?_push_of_some _ (hk b o q)⟩
  show wpAny _ _ _ _ _ { s with heap := h1.push (seqObj "list" vs.toArray 0) }
  refine wpAny_bind (wpAny_holding (wpAny_call_entry slot_list_sort ⟨_, hoL, rfl⟩ entry_list_sort (list_sort_ord O hoL hz (fun h2 => hS h2 _ _ hoL keep) fun out hs hb => ⟨_, rfl, ?_⟩) (args_list_sort _)))
  obtain ⟨e, he⟩ := sortedHeap_at (h := h1.push (seqObj "list" vs.toArray 0)) (vs := vs) (out := out.toArray) hoL
  refine wpAny_pure ⟨_, rfl, h out h1 _ e hs hb hk he fun b o q => ?_⟩
  have hlt : b < h1.objs.size := Heap.lt_size q
  rw [sortedHeap_old (Nat.ne_of_lt hlt) (by rw [size_push']; exact Nat.lt_succ_of_lt hlt)]
  exact Heap.get?_push_of_some _ q
end
end SrtO

namespace NV
open PySem PySem.Spec PyProof.Rows L2
def rSortedT (K : PySem.W.Frag) : List V → Hp → VK → Prop := fun vs H Q => ∃ (a : Addr) (ns : List Int), vs = [V.ref a] ∧ SqT K H a (ns.map V.int) ∧
  ∀ (ns' : List Int) (p : Addr), ns'.Perm ns → ns'.Pairwise (· ≤ ·) → H p = none → Q (.ref p) (upd H p (.lst (ns'.map V.int)))
theorem cr_sortedT {X : Cx} : CallR X (.builtin "sorted") (rSortedT X.K) := by
  intro pins s σ H vs us Q I r h
  obtain ⟨a, ns, rfl, hs, q⟩ := h
  obtain ⟨its, rv, hl, hz⟩ := I.tuple hs
  rw [Vals.ref1 r]
  have hi := rv.ints
  refine SrtO.sorted_tupN SrtO.swo_int (show s.heap.IsTuple a its.toArray from hl) (by rw [← rv.length]; exact hz) (fun h2 h₁ a' _ _ => SrtO.ints_sortable hi h2) fun out hh h' e h1 h2 hk he hk2 => ?_
  obtain ⟨k1, k2, k3⟩ := SrtO.ints_out hi h1 h2
  have hlen : ((out.map SrtO.iv).map V.int).length ≤ sizeLine := by
    rw [List.length_map, k2.length_eq]
    rw [List.length_map] at hz
    exact hz
  have I1 : Inv X pins σ H { s with heap := hh } := I.kept (t' := s.toks) hk
  exact ⟨.ref _, upd H hh.objs.size (.lst ((out.map SrtO.iv).map V.int)), I1.laid (t' := s.toks) hk2 (Nat.le_refl _) ⟨hlen, out, e, vals_of_ints k1, he⟩, rfl, q _ _ k2 k3 (I1.hok.fresh (Nat.le_refl _))⟩
def sortedA : List PyData → Option R
  | [.tuple ds] => (intsOf ds).map fun ns => .fre ((srt ns).map .int)
  | ds => sortedD ds
theorem c_sortedA {X : Cx} : DCall X (.builtin "sorted") sortedA := by
  intro Hf H xs ds r Q s rx e k
  unfold sortedA at e
  split at e
  · obtain ⟨ns, e1, e⟩ := map_some2 e
    subst e
    obtain ⟨v, rfl, q⟩ := rx.one
    obtain ⟨a, vs, rfl, ea, q⟩ := q.tup s
    have z := intsOf_some e1
    subst z
    have z := q.ints
    subst z
    refine ⟨_, cr_sortedT, a, ns, rfl, .of ea, fun ns' p h1 h2 hp => ?_⟩
    rw [srt_is h1 h2]
    exact k _ _ (.lst hp (RpL.ofInts _))
  · exact c_sorted Hf H xs _ r Q s rx e k
end NV
set_option Elab.async false
set_option linter.all false
set_option maxRecDepth 100000
set_option maxHeartbeats 4000000
/-! NV21: promises by the readings themselves; live slots; running by what is wished -/
namespace NV
open PySem PySem.Spec PyProof.Rows L2

/-! ### a def's promise: its reading, run with so much fuel -/
def outZ (p : Out × Sta) : Option (R × Src) := (outR p.1).bind fun r => p.2.z.map fun z' => (r, z')
def GP (B : Nat → MS) (N k : Nat) : List PyData → Option R := fun ds => if ds.length = k then (B N ⟨argE ds, none⟩).bind fun p => outR p.1 else none
def GS (B : Nat → MS) (N k : Nat) : List PyData → Src → Option (R × Src) := fun ds z => if ds.length + 1 = k then (B N ⟨fun i => match i with | 0 => .src | i + 1 => argE ds i, some z⟩).bind outZ else none
theorem GP_len {B : Nat → MS} {N k : Nat} : ∀ ds r, GP B N k ds = some r → ds.length = k := fun ds r e => by
  unfold GP at e
  split at e
  · assumption
  · cases e
theorem GS_len {B : Nat → MS} {N k : Nat} : ∀ ds z r, GS B N k ds z = some r → ds.length + 1 = k := fun ds z r e => by
  unfold GS at e
  split at e
  · assumption
  · cases e
theorem fnGP {P : Program} {w : World} {K : PySem.W.Frag} {mg : Str → Option Value} {base : Heap} {x qual : Str} {st : Stmt} {f : Addr} {fd : FuncData} {N ps : List Str} {k : Nat} (M : Nat) {body : Nat → MS} (F : L2.Fun K x qual st f fd) (S : FnScope N ps (defScope st))
    (hb : ∀ (cdv : Value) (A : Around) (outer : List Env) (s : Shared) (H : Hp) (E : XK), Room k (A.deeper (envOfC qual (defScope st) s.heap.objs.size f cdv)) → Gd (cxOf CX0 P w K mg base N qual (defScope st) f cdv A outer s H E).nox →
      ∀ n, BV (cxOf CX0 P w K mg base N qual (defScope st) f cdv A outer s H E).nox (defBody st) (body n)) : FnG P w K mg base (k + 1) f fd ps (spP ps.length (GP body M ps.length)) :=
  fnP F S (fun ds r e => by
    unfold GP at e
    split at e
    · obtain ⟨⟨o, st'⟩, h1, h2⟩ := bind_some2 e
      exact ⟨M, o, st', h1, h2⟩
    · cases e) hb
theorem fnGS {P : Program} {w : World} {K : PySem.W.Frag} {mg : Str → Option Value} {base : Heap} {x qual : Str} {st : Stmt} {f : Addr} {fd : FuncData} {N ps : List Str} {k : Nat} (M : Nat) {body : Nat → MS} (F : L2.Fun K x qual st f fd) (S : FnScope N ps (defScope st))
    (hb : ∀ (cdv : Value) (A : Around) (outer : List Env) (s : Shared) (H : Hp) (E : XK), Room k (A.deeper (envOfC qual (defScope st) s.heap.objs.size f cdv)) → Gd (cxOf CX0 P w K mg base N qual (defScope st) f cdv A outer s H E).nox →
      ∀ n, BV (cxOf CX0 P w K mg base N qual (defScope st) f cdv A outer s H E).nox (defBody st) (body n)) : FnG P w K mg base (k + 1) f fd ps (spS ps.length (GS body M ps.length)) :=
  fnS F S (fun ds z r z' e => by
    unfold GS at e
    split at e
    · obtain ⟨⟨o, st'⟩, h1, h2⟩ := bind_some2 e
      unfold outZ at h2
      obtain ⟨r2, h3, h4⟩ := bind_some2 h2
      obtain ⟨z2, h5, h6⟩ := map_some2 h4
      cases h6
      exact ⟨M, o, st', h1, h3, h5⟩
    · cases e) hb

/-! ### live slots -/
def keep (ks : List Nat) (st : Sta) : Sta := ⟨fun j => if j ∈ ks then st.e j else .emp, st.z⟩
def keepL (ks : List Nat) : Nat → List Sl → List Sl
  | _, [] => []
  | i, x :: l => (if i ∈ ks then x else .emp) :: keepL ks (i + 1) l
@[simp] theorem keepL_nil {ks : List Nat} {i : Nat} : keepL ks i [] = [] := rfl
@[simp] theorem keepL_cons {ks : List Nat} {i : Nat} {x : Sl} {l : List Sl} : keepL ks i (x :: l) = (if i ∈ ks then x else .emp) :: keepL ks (i + 1) l := rfl
theorem keepL_get {ks : List Nat} : ∀ {l : List Sl} {i j : Nat}, (keepL ks i l).getD j .emp = if i + j ∈ ks then l.getD j .emp else .emp
  | [], i, j => by simp
  | x :: l, i, 0 => by simp
  | x :: l, i, j + 1 => by
    have := keepL_get (ks := ks) (l := l) (i := i + 1) (j := j)
    rw [keepL_cons, List.getD_cons_succ, List.getD_cons_succ, this, show i + 1 + j = i + (j + 1) from by omega]
@[simp] theorem keep_stL {ks : List Nat} {l : List Sl} {z : Option Src} : keep ks (stL l z) = stL (keepL ks 0 l) z := by
  refine Sta.ext' (fun j => ?_) rfl
  show (if j ∈ ks then l.getD j .emp else .emp) = (keepL ks 0 l).getD j .emp
  rw [keepL_get, Nat.zero_add]
theorem Cor.keep' {L : Lay} {Hf : Hp} {st : Sta} {σ : SS} {H : Hp} {ks : List Nat} (c : Cor L Hf st σ H) : Cor L Hf (NV.keep ks st) σ H where
  le := c.le
  pr := c.pr
  sl := fun i => by
    show SlOk L Hf st.z.isSome σ H i (if i ∈ ks then st.e i else .emp)
    split
    · exact c.sl i
    · trivial
  dj := fun i j a hi hj => by
    have hi' : (st.e i).isOwn := by
      have : ((if i ∈ ks then st.e i else .emp) : Sl).isOwn := hi
      split at this
      · exact this
      · exact this.elim
    have hj' : (st.e j).isOwn := by
      have : ((if j ∈ ks then st.e j else .emp) : Sl).isOwn := hj
      split at this
      · exact this
      · exact this.elim
    exact c.dj i j a hi' hj'
  so := c.so
/-- a target, a test, a block, at the live slots alone -/
def tKeep (ks : List Nat) (t : MG) : MG := fun d st => t d (keep ks st)
def qKeep (ks : List Nat) (t : MT) : MT := fun st => t (keep ks st)
def sKeep (ks : List Nat) (b : MS) : MS := fun st => b (keep ks st)
theorem gv_keep {X : Cx} {e : Expr} {t : MG} {is ks : List Nat} (h : GV X e t is) : GV X e (tKeep ks t) is :=
  ⟨fun pins s σ H v u Q I r ⟨L, Hf, st, d, st', c, q, e1, k⟩ => h.run pins s σ H v u Q I r ⟨L, Hf, keep ks st, d, st', c.keep', q, e1, k⟩⟩
theorem tv_keep {X : Cx} {e : Expr} {t : MT} {ks : List Nat} (h : TV X e t) : TV X e (qKeep ks t) := by
  refine tv_of fun L Hf st b st' σ H Q c e1 k => ⟨_, h, ?_⟩
  exact ⟨L, Hf, keep ks st, b, st', c.keep', e1, k⟩
theorem bv_keep {X : Cx} {ss : List Stmt} {m : MS} {ks : List Nat} (h : BV X ss m) : BV X ss (sKeep ks m) := by
  refine bv_of fun L Hf st o st' σ H D hl c e1 k => ⟨_, h, ?_⟩
  exact ⟨L, Hf, keep ks st, o, st', c.keep', e1, k⟩

/-! ### running -/
def Ex (m : MS) (st : Sta) (Q : Out → Sta → Prop) : Prop := ∃ o st', m st = some (o, st') ∧ Q o st'
def NX (m : MS) (st : Sta) (K : Sta → Prop) : Prop := ∃ st', m st = some (.nx, st') ∧ K st'
theorem Ex.imp {m : MS} {st : Sta} {Q Q' : Out → Sta → Prop} (h : Ex m st Q) (k : ∀ o s, Q o s → Q' o s) : Ex m st Q' := by
  obtain ⟨o, s, e, q⟩ := h
  exact ⟨o, s, e, k o s q⟩
theorem ex_nx {a b : MS} {st : Sta} {Q : Out → Sta → Prop} (h : ∀ K : Sta → Prop, (∀ s, Ex b s Q → K s) → NX a st K) : Ex (sCons a b) st Q := by
  obtain ⟨s, e, q⟩ := h (fun s => Ex b s Q) fun s q => q
  obtain ⟨o, s', e', q'⟩ := q
  exact ⟨o, s', by rw [sCons_nx e]; exact e', q'⟩
theorem ex_cons {a b : MS} {st : Sta} {Q : Out → Sta → Prop} (h : Ex a st fun o s => match o with | .nx => Ex b s Q | o => Q o s) : Ex (sCons a b) st Q := by
  obtain ⟨o, s, e, q⟩ := h
  cases o with
  | nx =>
    obtain ⟨o, s', e', q'⟩ := q
    exact ⟨o, s', by rw [sCons_nx e]; exact e', q'⟩
  | bk => exact ⟨.bk, s, by simp [e], q⟩
  | ct => exact ⟨.ct, s, by simp [e], q⟩
  | rt d => exact ⟨.rt d, s, by simp [e], q⟩
  | rtF d => exact ⟨.rtF d, s, by simp [e], q⟩
theorem ex_nil {st : Sta} {Q : Out → Sta → Prop} (h : Q .nx st) : Ex sNil st Q := ⟨.nx, st, rfl, h⟩
theorem ex_keep {ks : List Nat} {b : MS} {st : Sta} {Q : Out → Sta → Prop} (h : Ex b (keep ks st) Q) : Ex (sKeep ks b) st Q := h
/-- a return -/
theorem ex_ret {a : M} {st st' : Sta} {Q : Out → Sta → Prop} {d : PyData} {b : MS} (h : a st = some (.dat d, st')) (q : Q (.rt d) st') : Ex (sCons (sRet a) b) st Q := ⟨.rt d, st', by simp [h], q⟩
theorem ex_retF {a : M} {st st' : Sta} {Q : Out → Sta → Prop} {d : List PyData} {b : MS} (h : a st = some (.fre d, st')) (q : Q (.rtF d) st') : Ex (sCons (sRet a) b) st Q := ⟨.rtF d, st', by simp [h], q⟩
/-- if -/
theorem ex_if {t : MT} {a b : MS} {st st1 : Sta} {c : Bool} {Q : Out → Sta → Prop} (ht : t st = some (c, st1)) (h1 : c = true → Ex a st1 Q) (h2 : c = false → Ex b st1 Q) : Ex (sIf t a b) st Q := by
  cases c with
  | true =>
    obtain ⟨o, s, e, q⟩ := h1 rfl
    exact ⟨o, s, by simp [ht, e], q⟩
  | false =>
    obtain ⟨o, s, e, q⟩ := h2 rfl
    exact ⟨o, s, by simp [ht, e], q⟩
/-- for: all its turns end as nx or continue -/
theorem runFor_ex {t : MG} {b : MS} {Q : Out → Sta → Prop} (I : Nat → Sta → Prop) : ∀ {ds : List PyData} {k : Nat} {st : Sta}, I k st →
    (∀ i d s, ds[i]? = some d → I (k + i) s → ∃ s1, t d s = some s1 ∧ Ex b s1 fun o s2 => match o with
      | .nx => I (k + i + 1) s2
      | .ct => I (k + i + 1) s2
      | .bk => Q .nx s2
      | o => Q o s2) → (∀ s, I (k + ds.length) s → Q .nx s) → Ex (runFor t b ds) st Q
  | [], k, st, h, _, he => ⟨.nx, st, rfl, he st h⟩
  | d :: ds, k, st, h, hs, he => by
    obtain ⟨s1, e1, o, s2, e2, q⟩ := hs 0 d st rfl h
    have go : I (k + 1) s2 → Ex (runFor t b ds) s2 Q := fun h2 => runFor_ex I h2 (fun i d' s hi hI => by
      have := hs (i + 1) d' s (by simpa using hi) (by rw [show k + (i + 1) = k + 1 + i from by omega]; exact hI)
      rw [show k + (i + 1) + 1 = k + 1 + i + 1 from by omega] at this
      exact this) (fun s hI => he s (by rw [List.length_cons, show k + (ds.length + 1) = k + 1 + ds.length from by omega]; exact hI))
    unfold Ex runFor
    rw [e1, Option.bind_some, e2, Option.bind_some]
    cases o with
    | nx => exact go q
    | ct => exact go q
    | bk => exact ⟨_, _, rfl, q⟩
    | rt d => exact ⟨_, _, rfl, q⟩
    | rtF d => exact ⟨_, _, rfl, q⟩
theorem keep_keep {ks js : List Nat} {st : Sta} (h : ∀ j ∈ js, j ∈ ks) : keep js (keep ks st) = keep js st := by
  refine Sta.ext' (fun j => ?_) rfl
  show (if j ∈ js then (if j ∈ ks then st.e j else .emp) else .emp) = if j ∈ js then st.e j else .emp
  by_cases hj : j ∈ js
  · rw [if_pos hj, if_pos hj, if_pos (h j hj)]
  · rw [if_neg hj, if_neg hj]
/-- a for, told at its live slots: I holds of the state cut to them -/
theorem ex_for {ks : List Nat} {t : MG} {it : ME} {b : MS} {st st1 : Sta} {ds : List PyData} {Q : Out → Sta → Prop} (I : Nat → Sta → Prop) (hi : it st = some (ds, st1)) (h0 : I 0 (keep ks st1))
    (hs : ∀ i d s, ds[i]? = some d → I i s → ∃ s1, t d s = some s1 ∧ Ex b s1 fun o s2 => match o with
      | .nx => I (i + 1) (keep ks s2)
      | .ct => I (i + 1) (keep ks s2)
      | .bk => Q .nx s2
      | o => Q o s2) (he : ∀ s, I ds.length (keep ks s) → Q .nx s) : Ex (sFor (tKeep ks t) it b) st Q := by
  have := runFor_ex (t := tKeep ks t) (b := b) (Q := Q) (fun i s => I i (keep ks s)) (ds := ds) (k := 0) (st := st1) h0 (fun i d s hd hI => by
    rw [Nat.zero_add] at hI ⊢
    exact hs i d (keep ks s) hd hI) (fun s hI => he s (by rw [Nat.zero_add] at hI; exact hI))
  obtain ⟨o, s, e, q⟩ := this
  exact ⟨o, s, by simp [hi, e], q⟩
/-- while, told at its live slots, with a measure -/
theorem sWhile_ex {ks : List Nat} {t : MT} {b : MS} {Q : Out → Sta → Prop} (I : Nat → Sta → Prop) : ∀ {n m : Nat} {st : Sta}, m < n → I m (keep ks st) →
    (∀ m s, I m s → ∃ c s1, t s = some (c, s1) ∧ (c = false → Q .nx s1) ∧ (c = true → Ex b s1 fun o s2 => match o with
      | .nx => ∃ m', m' < m ∧ I m' (keep ks s2)
      | .ct => ∃ m', m' < m ∧ I m' (keep ks s2)
      | .bk => Q .nx s2
      | o => Q o s2)) → Ex (sWhile n (qKeep ks t) b) st Q
  | 0, m, st, h, _, _ => absurd h (Nat.not_lt_zero _)
  | n + 1, m, st, h, hI, hs => by
    obtain ⟨c, s1, e1, h1, h2⟩ := hs m (keep ks st) hI
    have e1' : qKeep ks t st = some (c, s1) := e1
    cases c with
    | false => exact ⟨.nx, s1, by unfold sWhile; simp [e1'], h1 rfl⟩
    | true =>
      obtain ⟨o, s2, e2, q⟩ := h2 rfl
      unfold Ex sWhile
      simp only [e1', Option.bind_some, if_true, e2]
      cases o with
      | nx =>
        obtain ⟨m', hm, hI'⟩ := q
        exact sWhile_ex I (n := n) (m := m') (by omega) hI' hs
      | ct =>
        obtain ⟨m', hm, hI'⟩ := q
        exact sWhile_ex I (n := n) (m := m') (by omega) hI' hs
      | bk => exact ⟨_, _, rfl, q⟩
      | rt d => exact ⟨_, _, rfl, q⟩
      | rtF d => exact ⟨_, _, rfl, q⟩
/-- the promise kept -/
theorem GP_of {B : Nat → MS} {N k : Nat} {ds : List PyData} {r : R} (m : Nat) (hl : ds.length = k) (h : Ex (B N) (stL (ds.map Sl.val ++ List.replicate m Sl.emp) none) fun o _ => outR o = some r) : GP B N k ds = some r := by
  obtain ⟨o, s, e, q⟩ := h
  unfold GP
  rw [if_pos hl, argE_st m, e]
  exact q
theorem GS_of {B : Nat → MS} {N k : Nat} {ds : List PyData} {z : Src} {Q : R → Src → Prop} (m : Nat) (hl : ds.length + 1 = k) (h : Ex (B N) (stL (.src :: (ds.map Sl.val ++ List.replicate m Sl.emp)) (some z)) fun o s => ∃ r z', outR o = some r ∧ s.z = some z' ∧ Q r z') :
    ∃ r z', GS B N k ds z = some (r, z') ∧ Q r z' := by
  obtain ⟨o, s, e, r, z', h1, h2, q⟩ := h
  refine ⟨r, z', ?_, q⟩
  unfold GS
  rw [if_pos hl]
  have e' := (congrArg (B N) (argS_st m ds (some z))).trans e
  refine (congrArg (fun x : Option (Out × Sta) => x.bind outZ) e').trans ?_
  show outZ (o, s) = _
  unfold outZ
  rw [h1, Option.bind_some, h2]
  rfl
/-- a thing that nothing unfolds -/
noncomputable def shut {α : Type} (a : α) : α := Classical.choose (⟨a, rfl⟩ : ∃ b, b = a)
theorem shut_eq {α : Type} (a : α) : shut a = a := Classical.choose_spec (⟨a, rfl⟩ : ∃ b, b = a)
theorem ev_shut {X : Cx} {e : Expr} {m : M} (h : EV X e m) : EV X e (shut m) := by rw [shut_eq]; exact h
theorem sv_shutA {X : Cx} {s : Stmt} {i : Nat} {m : M} (h : SV X s (sAsg i m)) : SV X s (sAsg i (shut m)) := by rw [shut_eq]; exact h
theorem bv_shut {X : Cx} {ss : List Stmt} {m : MS} (h : BV X ss m) : BV X ss (shut m) := by rw [shut_eq]; exact h
/-- so much fuel -/
def FUEL : Nat := 10 ^ 40
end NV
set_option Elab.async false
set_option linter.all false
set_option maxRecDepth 100000
set_option maxHeartbeats 4000000
/-! NV22: running comprehensions, draws; small facts -/
namespace NV
open PySem PySem.Spec PyProof.Rows L2
@[simp] theorem NX_is {m : MS} {st : Sta} {K : Sta → Prop} : NX m st K ↔ ∃ st', m st = some (.nx, st') ∧ K st' := Iff.rfl
@[simp] theorem Ex_is {m : MS} {st : Sta} {Q : Out → Sta → Prop} : Ex m st Q ↔ ∃ o st', m st = some (o, st') ∧ Q o st' := Iff.rfl
@[simp] theorem ex2_is {a : Out} {b : Sta} {K : Out → Sta → Prop} : (∃ o st', (a = o ∧ b = st') ∧ K o st') ↔ K a b :=
  ⟨fun ⟨_, _, ⟨h1, h2⟩, k⟩ => h1 ▸ h2 ▸ k, fun k => ⟨a, b, ⟨rfl, rfl⟩, k⟩⟩
/-- a statement's end, whatever is wished -/
theorem ex_fin {m : MS} {st : Sta} {Q : Out → Sta → Prop} (h : ∀ K : Out → Sta → Prop, (∀ o s, Q o s → K o s) → ∃ o st', m st = some (o, st') ∧ K o st') : Ex m st Q := h Q fun _ _ q => q
theorem unclr_clr {vs : List Nat} {st : Sta} : unclr vs st (clr vs st) = st := by
  refine Sta.ext' (fun j => ?_) rfl
  show (if j ∈ vs then st.e j else if j ∈ vs then .emp else st.e j) = st.e j
  split <;> rfl
section
variable {vs : List Nat} {t : MG} {it : ME} {tt : MT} {el : M} {st st1 : Sta}
theorem comp_data {ds : List PyData} {f : PyData → Option PyData} (hi : it st = some (ds, st1)) (hf : vs.all (fun j => slFree (st1.e j)) = true) (hs : ∀ d ∈ ds, stepC vs t tt el d (clr vs st1) = some (f d, clr vs st1)) (hl : ds.length ≤ sizeLine) :
    mComp vs t it tt el st = some (.fre (ds.filterMap f), st1) := by
  unfold mComp
  rw [hi, Option.bind_some]
  dsimp only
  rw [if_pos hf, runC_pure hs (by simpa using hl), Option.map_some]
  simp only [List.nil_append, unclr_clr]
/-- a comprehension over xs, each told by enc -/
theorem comp_fm {α : Type} (xs : List α) (enc : α → PyData) (f : α → Option PyData) (hi : it st = some (xs.map enc, st1)) (hf : vs.all (fun j => slFree (st1.e j)) = true) (hs : ∀ x ∈ xs, stepC vs t tt el (enc x) (clr vs st1) = some (f x, clr vs st1)) (hl : xs.length ≤ sizeLine) :
    mComp vs t it tt el st = some (.fre (xs.filterMap f), st1) := by
  have key : ∀ {xs : List α} {acc : List PyData}, (∀ x ∈ xs, stepC vs t tt el (enc x) (clr vs st1) = some (f x, clr vs st1)) → acc.length + xs.length ≤ sizeLine → runC vs t tt el (xs.map enc) (clr vs st1) acc = some (acc ++ xs.filterMap f, clr vs st1) := by
    intro xs
    induction xs with
    | nil => intro acc _ _; simp [runC]
    | cons x xs ih =>
      intro acc h hl
      rw [List.length_cons] at hl
      rw [List.map_cons, runC_step (h x (List.mem_cons_self ..)) (by omega), ih (fun y hy => h y (List.mem_cons_of_mem _ hy)) (by
        rw [List.length_append]
        have : (f x).toList.length ≤ 1 := by cases f x <;> simp
        omega), List.append_assoc, List.filterMap_cons]
      cases f x <;> rfl
  unfold mComp
  rw [hi, Option.bind_some]
  dsimp only
  rw [if_pos hf, key hs (by simpa using hl), Option.map_some]
  simp only [List.nil_append, unclr_clr]
theorem comp_map {α : Type} (xs : List α) (enc : α → PyData) (g : α → PyData) (hi : it st = some (xs.map enc, st1)) (hf : vs.all (fun j => slFree (st1.e j)) = true) (hs : ∀ x ∈ xs, stepC vs t tt el (enc x) (clr vs st1) = some (some (g x), clr vs st1)) (hl : xs.length ≤ sizeLine) :
    mComp vs t it tt el st = some (.fre (xs.map g), st1) := by
  rw [comp_fm xs enc (fun x => some (g x)) hi hf hs hl, List.filterMap_eq_map']
theorem comp_filter {α : Type} (xs : List α) (enc : α → PyData) (p : α → Bool) (g : α → PyData) (hi : it st = some (xs.map enc, st1)) (hf : vs.all (fun j => slFree (st1.e j)) = true) (hs : ∀ x ∈ xs, stepC vs t tt el (enc x) (clr vs st1) = some (if p x = true then some (g x) else none, clr vs st1)) (hl : xs.length ≤ sizeLine) :
    mComp vs t it tt el st = some (.fre ((xs.filter p).map g), st1) := by
  rw [comp_fm xs enc (fun x => if p x = true then some (g x) else none) hi hf hs hl, filterMap_if]
/-- a comprehension that changes what it sees -/
theorem runC_inv (I : Nat → List PyData → Sta → Prop) : ∀ {ds : List PyData} {k : Nat} {acc : List PyData} {s : Sta}, I k acc s → (∀ i d acc s, ds[i]? = some d → I (k + i) acc s → ∃ o s', stepC vs t tt el d s = some (o, s') ∧ I (k + i + 1) (acc ++ o.toList) s') →
    acc.length + ds.length ≤ sizeLine → ∃ acc' s', runC vs t tt el ds s acc = some (acc', s') ∧ I (k + ds.length) acc' s'
  | [], k, acc, s, h, _, _ => ⟨acc, s, rfl, h⟩
  | d :: ds, k, acc, s, h, hs, hl => by
    rw [List.length_cons] at hl
    obtain ⟨o, s', e, h'⟩ := hs 0 d acc s rfl h
    obtain ⟨a2, s2, e2, h2⟩ := runC_inv I (ds := ds) (k := k + 1) (acc := acc ++ o.toList) (s := s') h' (fun i d acc s hd hI => by
      have := hs (i + 1) d acc s (by simpa using hd) (by rw [show k + (i + 1) = k + 1 + i from by omega]; exact hI)
      rw [show k + (i + 1) + 1 = k + 1 + i + 1 from by omega] at this
      exact this) (by
        rw [List.length_append]
        have : o.toList.length ≤ 1 := by cases o <;> simp
        omega)
    refine ⟨a2, s2, ?_, by rw [List.length_cons, show k + (ds.length + 1) = k + 1 + ds.length from by omega]; exact h2⟩
    rw [runC_step e (by omega), e2]
theorem comp_inv {ds : List PyData} (I : Nat → List PyData → Sta → Prop) (hi : it st = some (ds, st1)) (hf : vs.all (fun j => slFree (st1.e j)) = true) (h0 : I 0 [] (clr vs st1))
    (hs : ∀ i d acc s, ds[i]? = some d → I i acc s → ∃ o s', stepC vs t tt el d s = some (o, s') ∧ I (i + 1) (acc ++ o.toList) s') (hl : ds.length ≤ sizeLine) :
    ∃ acc s, mComp vs t it tt el st = some (.fre acc, unclr vs st1 s) ∧ I ds.length acc s := by
  obtain ⟨acc, s, e, h⟩ := runC_inv (vs := vs) (t := t) (tt := tt) (el := el) I (ds := ds) (k := 0) h0 (fun i d acc s hd hI => by
    rw [Nat.zero_add] at hI ⊢
    exact hs i d acc s hd hI) (by simpa using hl)
  refine ⟨acc, s, ?_, by rwa [Nat.zero_add] at h⟩
  unfold mComp
  rw [hi, Option.bind_some]
  dsimp only
  rw [if_pos hf, e, Option.map_some]
end
/-! ### draws -/
theorem pick_any (m : Int) (z : Src) (h : m < 1073741824) : ∃ (v : Nat) (z' : Src), pickG [.int m] z = some (.dat (.int v), z') ∧ (v : Int) < max 1 m := by
  obtain ⟨v, hv⟩ := Int.eq_ofNat_of_zero_le (pickN_lo m z)
  refine ⟨v, (pickN m z).2, by rw [pickG_is z h, hv], ?_⟩
  by_cases c : 1 ≤ m
  · have := pickN_hi m z c
    omega
  · have := pickN_0 m z (by omega)
    omega
abbrev GF := List PyData → Option R
abbrev GD := List PyData → Src → Option (R × Src)
def Spick (G : GD) : Prop := ∀ (m : Int) (z : Src), m < 1073741824 → ∃ (v : Nat) (z' : Src), G [.int m] z = some (.dat (.int v), z') ∧ (v : Int) < max 1 m
def Sof (G : GD) : Prop := ∀ (xs : List PyData) (z : Src), 0 < xs.length → xs.length < 1000 → ∃ d z', d ∈ xs ∧ G [.list xs] z = some (.dat d, z')
theorem spick : Spick pickG := fun m z h => pick_any m z h
theorem z1000 {n : Nat} (h : n ≤ 1000) : n ≤ sizeLine := Nat.le_of_lt (small1000 (by omega))
/-! ### ranges and places -/
theorem rgD_0 (n : Nat) : rgD 0 n = pN (List.range n) := by
  unfold rgD pN
  exact List.map_congr_left fun i _ => by rw [Int.zero_add]
theorem if62 {α : Type} {j : Int} {x : Option α} (h1 : -16777216 ≤ j) (h2 : j ≤ 16777216) : (if -4611686018427387904 ≤ j ∧ j < 4611686018427387904 then x else none) = x := if_pos ⟨by omega, by omega⟩
theorem atI_z {α : Type} {xs : List α} {i : Int} (h : 0 ≤ i) : atI xs i = xs[i.toNat]? := by
  obtain ⟨n, rfl⟩ := Int.eq_ofNat_of_zero_le h
  rw [atI_nat]; rfl
theorem ixN_z {n : Nat} {i : Int} (h : 0 ≤ i) (h2 : i < n) : ixN n i = some i.toNat := by
  obtain ⟨k, rfl⟩ := Int.eq_ofNat_of_zero_le h
  rw [ixN_nat n k (by omega)]; rfl
theorem law_st (m : Nat) (z : Option Src) : (⟨fun i => if i = 1 then Sl.src else Sl.emp, z⟩ : Sta) = stL (.emp :: .src :: List.replicate m .emp) z := by
  refine Sta.ext' (fun i => ?_) rfl
  show (if i = 1 then Sl.src else Sl.emp) = (Sl.emp :: .src :: List.replicate m .emp).getD i .emp
  match i with
  | 0 => rfl
  | 1 => rfl
  | i + 2 =>
    rw [if_neg (by omega), List.getD_cons_succ, List.getD_cons_succ, List.getD_eq_getElem?_getD, List.getElem?_replicate]
    split <;> rfl
end NV
set_option Elab.async false
set_option linter.all false
set_option maxRecDepth 100000
set_option maxHeartbeats 4000000
/-! NV23: what may be shown; equality of rows; small facts -/
namespace NV
open PySem PySem.Spec PyProof.Rows L2
/-- data that repr may show: of weight at most w, at most n deep -/
structure Okr (w n : Nat) (x : PyData) : Prop where
  s : x.leavesShort 13 = true
  h : x.showable = true
  w : x.weight ≤ w
  d : x.depth ≤ n
  k : x.hasDict = false
theorem Okr.ok {w n : Nat} {d : PyData} (o : Okr w n d) (hw : w ≤ 1000000) (hn : n ≤ 64) : reprOk d = true := by
  have h := PyData.shown_le 13 (by decide) d o.s
  have hw' := o.w
  have hd := o.d
  have h2 : (13 + 2) * d.weight ≤ 15 * 1000000 := Nat.mul_le_mul (by omega) (by omega)
  unfold reprOk
  have e : decide (d.shown.length ≤ sizeLine) = true := decide_eq_true (by rw [sizeLine_eq]; omega)
  rw [o.h, e, o.k, decide_eq_true (show d.depth ≤ 64 by omega)]; rfl
theorem Okr.mono {w n w' n' : Nat} {d : PyData} (o : Okr w n d) (hw : w ≤ w') (hn : n ≤ n') : Okr w' n' d := ⟨o.s, o.h, Nat.le_trans o.w hw, Nat.le_trans o.d hn, o.k⟩
theorem Okr.int {i : Int} (h : i.natAbs < 10 ^ 12) : Okr 40 0 (.int i) := ⟨decide_eq_true (int_leaf h), decide_eq_true (int_log h), int_weight h, Nat.le_refl _, rfl⟩
theorem Okr.nat {i : Nat} (h : i < 10 ^ 12) : Okr 40 0 (.int i) := Okr.int (by omega)
theorem Okr.bool (b : Bool) : Okr 0 0 (.bool b) := ⟨rfl, rfl, Nat.le_refl _, Nat.le_refl _, rfl⟩
theorem Okr.none : Okr 0 0 .none := ⟨rfl, rfl, Nat.le_refl _, Nat.le_refl _, rfl⟩
theorem Okr.all {w n : Nat} : ∀ {xs : List PyData}, (∀ x ∈ xs, Okr w n x) → PyData.leavesShortAll 13 xs = true ∧ PyData.showableAll xs = true ∧ PyData.weightAll xs ≤ (w + 1) * xs.length ∧ PyData.depthAll xs ≤ n ∧ PyData.hasDictAll xs = false
  | [], _ => ⟨rfl, rfl, Nat.zero_le _, Nat.zero_le _, rfl⟩
  | x :: xs, h => by
    obtain ⟨h1, h2, h3, h4, h5⟩ := Okr.all fun y hy => h y (List.mem_cons_of_mem _ hy)
    have o := h x (List.mem_cons_self ..)
    have ow := o.w
    have od := o.d
    refine ⟨?_, ?_, ?_, ?_, ?_⟩
    · show (PyData.leavesShort 13 x && PyData.leavesShortAll 13 xs) = true
      rw [o.s, h1]; rfl
    · show (PyData.showable x && PyData.showableAll xs) = true
      rw [o.h, h2]; rfl
    · show PyData.weight x + 1 + PyData.weightAll xs ≤ (w + 1) * (xs.length + 1)
      rw [Nat.mul_add, Nat.mul_one]; omega
    · show max (PyData.depth x) (PyData.depthAll xs) ≤ n
      omega
    · show (PyData.hasDict x || PyData.hasDictAll xs) = false
      rw [o.k, h5]; rfl
theorem Okr.tup {w n : Nat} {xs : List PyData} (h : ∀ x ∈ xs, Okr w n x) : Okr ((w + 1) * xs.length) (n + 1) (.tuple xs) := by
  obtain ⟨h1, h2, h3, h4, h5⟩ := Okr.all h
  exact ⟨by simp only [PyData.leavesShort]; exact h1, by simp only [PyData.showable]; exact h2, by simp only [PyData.weight]; exact h3, by simp only [PyData.depth]; omega, by simp only [PyData.hasDict]; exact h5⟩
theorem Okr.lst {w n : Nat} {xs : List PyData} (h : ∀ x ∈ xs, Okr w n x) : Okr ((w + 1) * xs.length) (n + 1) (.list xs) := by
  obtain ⟨h1, h2, h3, h4, h5⟩ := Okr.all h
  exact ⟨by simp only [PyData.leavesShort]; exact h1, by simp only [PyData.showable]; exact h2, by simp only [PyData.weight]; exact h3, by simp only [PyData.depth]; omega, by simp only [PyData.hasDict]; exact h5⟩
/-- .. of at most so many -/
theorem Okr.tupM {w n : Nat} {xs : List PyData} (m : Nat) (h : ∀ x ∈ xs, Okr w n x) (hl : xs.length ≤ m) : Okr ((w + 1) * m) (n + 1) (.tuple xs) := (Okr.tup h).mono (Nat.mul_le_mul_left _ hl) (Nat.le_refl _)
theorem Okr.lstM {w n : Nat} {xs : List PyData} (m : Nat) (h : ∀ x ∈ xs, Okr w n x) (hl : xs.length ≤ m) : Okr ((w + 1) * m) (n + 1) (.list xs) := (Okr.lst h).mono (Nat.mul_le_mul_left _ hl) (Nat.le_refl _)
theorem Okr.ints {ns : List Int} (m : Nat) (h : small ns) (hl : ns.length ≤ m) : Okr (41 * m) 1 (.tuple (pI ns)) := Okr.tupM (w := 40) (n := 0) m (fun x hx => by
  obtain ⟨i, hi, rfl⟩ := List.mem_map.mp hx
  exact Okr.int (h i hi)) (by rw [List.length_map]; exact hl)
theorem Okr.nats {ns : List Nat} (m : Nat) (h : ∀ n ∈ ns, n < 10 ^ 12) (hl : ns.length ≤ m) : Okr (41 * m) 1 (.tuple (pN ns)) := Okr.tupM (w := 40) (n := 0) m (fun x hx => by
  obtain ⟨i, hi, rfl⟩ := List.mem_map.mp hx
  exact Okr.nat (h i hi)) (by rw [List.length_map]; exact hl)
theorem bool_ok (b : Bool) : reprOk (.bool b) = true := (Okr.bool b).ok (by decide) (by decide)
/-! ### rows alike -/
theorem eqvAll_ints : ∀ (a b : List Int), PyData.eqvAll (pI a) (pI b) = decide (a = b)
  | [], [] => rfl
  | [], _ :: _ => rfl
  | _ :: _, [] => rfl
  | x :: a, y :: b => by
    show (PyData.eqv (.int x) (.int y) && PyData.eqvAll (pI a) (pI b)) = _
    rw [eqvAll_ints a b]
    show ((x == y) && decide (a = b)) = _
    by_cases h1 : x = y <;> by_cases h2 : a = b <;> simp [h1, h2]
@[simp] theorem eqv_lints (a b : List Int) : PyData.eqv (.list (pI a)) (.list (pI b)) = decide (a = b) := eqvAll_ints a b
@[simp] theorem eqv_tints (a b : List Int) : PyData.eqv (.tuple (pI a)) (.tuple (pI b)) = decide (a = b) := eqvAll_ints a b
mutual
theorem eqv_self : ∀ d : PyData, d.hasDict = false → PyData.eqv d d = true
  | .none, _ => rfl
  | .bool b, _ => by show (b == b) = true; simp
  | .int i, _ => by show (i == i) = true; simp
  | .str x, _ => by show (x == x) = true; simp
  | .list xs, h => eqvAll_self xs (by simpa only [PyData.hasDict] using h)
  | .tuple xs, h => eqvAll_self xs (by simpa only [PyData.hasDict] using h)
  | .dict _, h => by simp [PyData.hasDict] at h
theorem eqvAll_self : ∀ ds : List PyData, PyData.hasDictAll ds = false → PyData.eqvAll ds ds = true
  | [], _ => rfl
  | d :: ds, h => by
    have h' : d.hasDict = false ∧ PyData.hasDictAll ds = false := by simpa [PyData.hasDictAll] using h
    show (PyData.eqv d d && PyData.eqvAll ds ds) = true
    rw [eqv_self d h'.1, eqvAll_self ds h'.2]; rfl
end
/-! ### small facts -/
@[simp] theorem intD_int (i : Int) : NV.intD [.int i] = some (.dat (.int i)) := rfl
@[simp] theorem intD_bool (b : Bool) : NV.intD [.bool b] = some (.dat (.int (if b then 1 else 0))) := rfl
theorem modD_z {a b : Int} (h : 0 < b) : modD (.int a) (.int b) = some (.dat (.int (a % b))) := if_pos h
theorem fdivD_z {a b : Int} (h : 0 < b) (h2 : b < 1073741824) : fdivD (.int a) (.int b) = some (.dat (.int (a / b))) := if_pos ⟨h, h2⟩
theorem reprD_ok {d : PyData} (h : reprOk d = true) : reprD [d] = some (.dat (.str d.shown)) := if_pos h
theorem powD_z {a b : Int} (h : 0 ≤ b) (h2 : b ≤ 1000000) (h3 : a.natAbs < 2 ^ 64) : powD (.int a) (.int b) = some (.dat (.int (a ^ b.toNat))) := if_pos ⟨h, h2, h3⟩
theorem shlD_z {a b : Int} (h : 0 ≤ b) (h2 : b ≤ 1000000) (h3 : a.natAbs < 2 ^ 64) : shlD (.int a) (.int b) = some (.dat (.int (a * 2 ^ b.toNat))) := if_pos ⟨h, h2, h3⟩
theorem mul_ok {a b : Int} (h : -(2 ^ 64) < a) (h2 : a < 2 ^ 64) : mulOk a b = true := by
  unfold mulOk
  rw [Bool.or_eq_true, decide_eq_true_iff, decide_eq_true_iff]
  exact .inl ⟨h, h2⟩
theorem mul_ok2 {a b : Int} (h : -(2 ^ 64) < b) (h2 : b < 2 ^ 64) : mulOk a b = true := by
  unfold mulOk
  rw [Bool.or_eq_true, decide_eq_true_iff, decide_eq_true_iff]
  exact .inr ⟨h, h2⟩
theorem range_at {n i j : Nat} (h : (List.range n)[i]? = some j) : i < n ∧ i = j := by
  have h1 : i < n := by simpa using (List.getElem?_eq_some_iff.mp h).1
  rw [List.getElem?_range h1] at h
  cases h
  exact ⟨h1, rfl⟩
theorem min_z (a b : Int) : minD [.int a, .int b] = some (.dat (.int (min a b))) := by
  show some (R.dat (.int (if b < a then b else a))) = _
  rw [show (if b < a then b else a) = min a b from by split <;> omega]
theorem max_z (a b : Int) : maxD [.int a, .int b] = some (.dat (.int (max a b))) := by
  show some (R.dat (.int (if b > a then b else a))) = _
  rw [show (if b > a then b else a) = max a b from by split <;> omega]
theorem sortedA_l (ns : List Int) : sortedA [.list (pI ns)] = some (.fre (pI (srt ns))) := by
  show ((intsOf _).map _) = _
  rw [intsOf_map]; rfl
theorem sortedA_t (ns : List Int) : sortedA [.tuple (pI ns)] = some (.fre (pI (srt ns))) := by
  show ((intsOf _).map _) = _
  rw [intsOf_map]; rfl
theorem allD_map {α : Type} (xs : List α) (f : α → Bool) : allD [.list (xs.map fun x => .bool (f x))] = some (.dat (.bool (xs.all f))) := by
  have e := blsOf_map (xs.map f)
  rw [List.map_map] at e
  show ((blsOf (List.map (PyData.bool ∘ f) xs)).map _) = _
  rw [e]
  simp [List.all_map, Function.comp_def]
theorem anyD_map {α : Type} (xs : List α) (f : α → Bool) : anyD [.list (xs.map fun x => .bool (f x))] = some (.dat (.bool (xs.any f))) := by
  have e := blsOf_map (xs.map f)
  rw [List.map_map] at e
  show ((blsOf (List.map (PyData.bool ∘ f) xs)).map _) = _
  rw [e]
  simp [List.any_map, Function.comp_def]
end NV
set_option Elab.async false
set_option linter.all false
set_option maxRecDepth 100000
set_option maxHeartbeats 4000000
namespace K76
open PySem PySem.Spec PyProof.Rows L2 NV
def topS (i : Nat) : Stmt := PySem.Challenge.pw_sortedbynets_k76_whole_steps_stay_sorted.main.body.getD i (.Pass ⟨0, 0, 0, 0⟩)
noncomputable def G_law_pick : List PyData → Src → Option (R × Src) := shut pickG
theorem L_law_pick : ∀ ds z r, G_law_pick ds z = some r → ds.length + 1 = 2 := by unfold G_law_pick; rw [shut_eq]; exact pickG_len
theorem s_law_pick : Spick G_law_pick := by unfold G_law_pick; rw [shut_eq]; exact spick
abbrev sPick : Stmt := topS 7
theorem scPick : FnScope ["source", "most", "cells", "others", "lap", "stirred"] ["source", "most"] (defScope sPick) := ⟨rfl, rfl, rfl, by decide +kernel, rfl, by decide +kernel, by decide +kernel⟩
section
variable {P : Program} {w : World} {K : PySem.W.Frag} {mg : Str → Option Value} {base : Heap}
theorem ok_pick0 {f : Addr} {fd : FuncData} {k : Nat} (F : L2.Fun K "_law_pick" "_law_pick" sPick f fd) (ml : mg "len" = none) (mi : mg "int" = none) : FnG P w K mg base (k + 1) f fd ["source", "most"] (spS 2 pickG) := by
  refine FnG.of (F.ok scPick (fun vs H Q E h => ?_) (fun cdv A outer s H vs Q E hr h => ?_))
  · obtain ⟨_, _, _, _, _, _, _, _, hl, _⟩ := h
    exact hl
  · obtain ⟨aD, aC, Hf, z, ws, ds, r, z', hl, rfl, s1, sa, n1, n2, q, hg, kk⟩ := h
    have hu := hu_of hr
    unfold pickG at hg
    split at hg
    · split at hg
      · rename_i most hm
        cases hg
        cases q with
        | cons q1 q2 =>
        cases q2
        cases q1
        refine ⟨_, pss_cons (ps_if (pt_cmpR op_lt (pv 1) pe_int (nomark _)) (pss_one (ps_ret pe_int)) pss_nil)
          (pss_cons (ps_set (i := 2) scPick.nd rfl (.inl rfl) (pe_dget hu (pv 0) pe_str (fun _ _ => rfl)))
          (pss_cons (ps_while PassesOwn.never (PW.pt (pw_and (pt_cmpR op_lt (pe_dget hu (pv 0) pe_str (fun _ _ => rfl)) pe_int (nomark _)) (pw_and1 (pt_cmpR op_gt (pe_callB call_len_seq (by rfl) ml PySem.boot_len (pa_cons (pv 2) pa_nil)) pe_int (nomark _)))))
            (pss_one (ps_dput hu (pv 0) pe_str (pe_bm0 PySem.F.plainAttrs_list PySem.F.slot_list_pop PySem.F.type_list_pop mt_pop (pv 2)) rfl)))
          (pss_cons (ps_set (i := 3) scPick.nd rfl (.inl rfl) (pe_dget hu (pv 0) pe_str (fun _ _ => rfl)))
          (pss_cons (ps_if (pt_cmpR op_gt (pv 3) pe_int (nomark _)) (pss_cons (ps_dput hu (pv 0) pe_str (pe_op op_fdiv (pv 3) (pv 1)) rfl) (pss_one (ps_ret (pe_op op_mod (pe_callTy call_int1 (by rfl) mi PyProof.Rows.boot_int (pa_cons (pv 3) pa_nil)) (pv 1))))) pss_nil)
          (pss_cons (ps_dput hu (pv 0) pe_str (pe_op op_add (pe_dget hu (pv 0) pe_str (fun _ _ => rfl)) pe_int) rfl)
          (pss_cons (ps_set (i := 4) scPick.nd rfl (.inl rfl) (pe_dget hu (pv 0) pe_str (fun _ _ => rfl)))
          (pss_cons (ps_set (i := 5) scPick.nd rfl (.inl rfl) (pe_op op_mod (pe_callTy call_int1 (by rfl) mi PyProof.Rows.boot_int (pa_cons (pe_op op_add (pe_dget hu (pv 0) pe_str (fun _ _ => rfl)) (pe_op op_mul (pv 4) pe_int)) pa_nil)) pe_int))
          (pss_cons (ps_set (i := 5) scPick.nd rfl (.inl rfl) (pe_op op_mod (pe_callTy call_int1 (by rfl) mi PyProof.Rows.boot_int (pa_cons (pe_op op_add (pe_op op_mul (pv 5) (pv 5)) (pe_op op_mul (pv 4) pe_int)) pa_nil)) pe_int))
          (pss_one (ps_ret (pe_op op_mod (pe_callTy call_int1 (by rfl) mi PyProof.Rows.boot_int (pa_cons (pe_op op_fdiv (pv 5) pe_int) pa_nil)) (pv 1)))))))))))), ?_⟩
        -- if most < 2: return 0
        refine ⟨_, rfl, _, _, rfl, rfl, _, rfl, ite2 (fun e => ?_) (fun e => ?_)⟩
        · have e' : most < 2 := of_decide_eq_true e
          have hp : pickN most z = (0, z) := by unfold pickN; rw [if_pos e']
          rw [hp] at kk
          exact pick_end s1 n1 n2 Elsewhere.refl sa kk
        · have e' : ¬ most < 2 := fun q => e (decide_eq_true q)
          have mp : 0 < most := by omega
          -- cells = source["cells"]
          refine ⟨_, rfl, aD, _, rfl, sa.get (k := kCells) val_cells, ?_⟩
          -- while
          refine ⟨fun m σ H1 => ∃ z1 : Src, σ = [some (.ref aD), some (.int most), some (.ref aC), none, none, none] ∧ SrcAt ⟨aD, aC, fun _ => none⟩ z1 H1 ∧ Elsewhere ⟨aD, aC, fun _ => none⟩ H H1 ∧ z1.mixed = z.mixed ∧ z1.turn = z.turn ∧ m = z1.cells.length ∧
            drainN m z1.cells z1.left = drainN z.cells.length z.cells z.left, ⟨_, z, rfl, sa, Elsewhere.refl, rfl, rfl, rfl, rfl⟩, ?_⟩
          rintro m σ H1 ⟨z1, rfl, sa1, el1, em, et, rfl, edr⟩
          have done : ¬ (z1.left < 2 ∧ 0 < z1.cells.length) → drainN z.cells.length z.cells z.left = (z1.cells, z1.left) := fun q => by
            rw [← edr]
            cases hcl : z1.cells.length with
            | zero => rfl
            | succ n => unfold drainN; rw [if_neg q]
          refine ⟨_, rfl, aD, _, rfl, sa1.get (k := kLeft) val_left, _, _, rfl, rfl, _, rfl, ite2 (fun e1 => ?_) (fun e1 => ?_)⟩
          · refine ⟨_, rfl, aC, _, rfl, .inl (.of sa1.2), _, _, rfl, rfl, _, rfl, ite2 (fun e2 => ?_) (fun e2 => ?_)⟩
            · have q1 : z1.left < 2 := of_decide_eq_true e1
              have q2 : 0 < z1.cells.length := by
                have := of_decide_eq_true e2
                rw [List.length_map] at this
                omega
              refine ⟨fun σ' H' => ∃ z2 : Src, σ' = [some (.ref aD), some (.int most), some (.ref aC), none, none, none] ∧ SrcAt ⟨aD, aC, fun _ => none⟩ z2 H' ∧ Elsewhere ⟨aD, aC, fun _ => none⟩ H H' ∧ z2.mixed = z.mixed ∧ z2.turn = z.turn ∧ z2.cells.length < z1.cells.length ∧
                drainN z2.cells.length z2.cells z2.left = drainN z.cells.length z.cells z.left, fun σ' H' ⟨z2, h1, h2, h3, h4, h5, h6, h7⟩ => ⟨_, h6, z2, h1, h2, h3, h4, h5, rfl, h7⟩, ?_⟩
              obtain ⟨sa2, el2⟩ := sa1.pop
              obtain ⟨dp, sa3, el3⟩ := sa2.put (k := kLeft) (v := z1.cells.getLastD 0) put_left rfl
              refine ⟨_, rfl, .inl ⟨rfl, _, .of sa1.2⟩, aC, _, _, rfl, rfl, sa1.2, getLastD_at q2, _, rfl, aD, _, rfl, dp, ?_⟩
              refine ⟨_, rfl, sa3, el1.trans (el2.trans el3), em, et, ?_, ?_⟩
              · show z1.cells.dropLast.length < z1.cells.length
                rw [List.length_dropLast]; omega
              · show drainN z1.cells.dropLast.length z1.cells.dropLast (z1.cells.getLastD 0) = _
                rw [← edr]
                cases hcl : z1.cells.length with
                | zero => omega
                | succ n =>
                  rw [List.length_dropLast, hcl]
                  show _ = (if z1.left < 2 ∧ 0 < z1.cells.length then drainN n z1.cells.dropLast (z1.cells.getLastD 0) else (z1.cells, z1.left))
                  rw [if_pos ⟨q1, q2⟩]; rfl
            · have hd := done fun q => e2 (decide_eq_true (by rw [List.length_map]; omega))
              have hpk : pickN most z = if 1 < z1.left then (z1.left % most, ⟨z1.cells, z1.left / most, z.mixed, z.turn⟩) else
                              (((((z.mixed + (z.turn + 1) * 104729) % 998244353) * ((z.mixed + (z.turn + 1) * 104729) % 998244353) + (z.turn + 1) * 17) % 2147483647) / 16 % most, ⟨z1.cells, z1.left, z.mixed, z.turn + 1⟩) := by
                unfold pickN
                rw [if_neg e']
                dsimp only
                rw [hd]
              refine ⟨_, rfl, aD, _, rfl, sa1.get (k := kLeft) val_left, _, rfl, _, _, rfl, rfl, _, rfl, ite2 (fun e3 => ?_) (fun e3 => ?_)⟩
              · have q3 : 1 < z1.left := of_decide_eq_true e3
                rw [if_pos q3] at hpk
                obtain ⟨dp, sa3, el3⟩ := sa1.put (k := kLeft) (v := z1.left / most) put_left rfl
                refine ⟨_, rfl, _, rfl, _, _, rfl, rfl, ⟨mp, hm⟩, _, rfl, aD, _, rfl, dp, _, rfl, .inl ⟨_, rfl, _, rfl, _, _, rfl, rfl, mp, ?_⟩⟩
                rw [hpk] at kk
                refine pick_end s1 n1 n2 (el1.trans el3) ?_ kk
                rw [← em, ← et]
                exact sa3
              · have q3 : ¬ 1 < z1.left := fun q => e3 (decide_eq_true q)
                rw [if_neg q3] at hpk
                obtain ⟨dp, sa3, el3⟩ := sa1.put (k := kTurn) (v := z1.turn + 1) put_turn rfl
                refine ⟨_, rfl, aD, _, rfl, sa1.get (k := kTurn) val_turn, _, _, rfl, rfl, _, rfl, aD, _, rfl, dp, ?_⟩
                refine ⟨_, rfl, aD, _, rfl, sa3.get (k := kTurn) val_turn, ?_⟩
                refine ⟨_, rfl, aD, _, rfl, sa3.get (k := kMixed) val_mixed, _, rfl, _, _, rfl, rfl, .inr ⟨by decide, by decide⟩, _, _, rfl, rfl, .inl ⟨_, rfl, _, _, rfl, rfl, (by show (0 : Int) < 998244353; decide), ?_⟩⟩
                have b0 : 0 ≤ (z1.mixed + (z1.turn + 1) * 104729) % 998244353 := Int.emod_nonneg _ (by decide)
                have b1 : (z1.mixed + (z1.turn + 1) * 104729) % 998244353 < 998244353 := Int.emod_lt_of_pos _ (by decide)
                refine ⟨_, rfl, _, rfl, _, _, rfl, rfl, .inl ⟨by show -(2 ^ 64) < (z1.mixed + (z1.turn + 1) * 104729) % 998244353; omega, by show (z1.mixed + (z1.turn + 1) * 104729) % 998244353 < 2 ^ 64; omega⟩, _, rfl, _, _, rfl, rfl, .inr ⟨by decide, by decide⟩, _, _, rfl, rfl, .inl ⟨_, rfl, _, _, rfl, rfl, (by show (0 : Int) < 2147483647; decide), ?_⟩⟩
                refine ⟨_, rfl, _, _, rfl, rfl, ⟨by decide, by decide⟩, .inl ⟨_, rfl, _, rfl, _, _, rfl, rfl, mp, ?_⟩⟩
                rw [hpk] at kk
                rw [← em, ← et] at kk
                exact pick_end s1 n1 n2 (el1.trans el3) sa3 kk
          · have hd := done fun q => e1 (decide_eq_true q.1)
            refine iteF ?_
            have hpk : pickN most z = if 1 < z1.left then (z1.left % most, ⟨z1.cells, z1.left / most, z.mixed, z.turn⟩) else
                            (((((z.mixed + (z.turn + 1) * 104729) % 998244353) * ((z.mixed + (z.turn + 1) * 104729) % 998244353) + (z.turn + 1) * 17) % 2147483647) / 16 % most, ⟨z1.cells, z1.left, z.mixed, z.turn + 1⟩) := by
              unfold pickN
              rw [if_neg e']
              dsimp only
              rw [hd]
            refine ⟨_, rfl, aD, _, rfl, sa1.get (k := kLeft) val_left, _, rfl, _, _, rfl, rfl, _, rfl, ite2 (fun e3 => ?_) (fun e3 => ?_)⟩
            · have q3 : 1 < z1.left := of_decide_eq_true e3
              rw [if_pos q3] at hpk
              obtain ⟨dp, sa3, el3⟩ := sa1.put (k := kLeft) (v := z1.left / most) put_left rfl
              refine ⟨_, rfl, _, rfl, _, _, rfl, rfl, ⟨mp, hm⟩, _, rfl, aD, _, rfl, dp, _, rfl, .inl ⟨_, rfl, _, rfl, _, _, rfl, rfl, mp, ?_⟩⟩
              rw [hpk] at kk
              refine pick_end s1 n1 n2 (el1.trans el3) ?_ kk
              rw [← em, ← et]
              exact sa3
            · have q3 : ¬ 1 < z1.left := fun q => e3 (decide_eq_true q)
              rw [if_neg q3] at hpk
              obtain ⟨dp, sa3, el3⟩ := sa1.put (k := kTurn) (v := z1.turn + 1) put_turn rfl
              refine ⟨_, rfl, aD, _, rfl, sa1.get (k := kTurn) val_turn, _, _, rfl, rfl, _, rfl, aD, _, rfl, dp, ?_⟩
              refine ⟨_, rfl, aD, _, rfl, sa3.get (k := kTurn) val_turn, ?_⟩
              refine ⟨_, rfl, aD, _, rfl, sa3.get (k := kMixed) val_mixed, _, rfl, _, _, rfl, rfl, .inr ⟨by decide, by decide⟩, _, _, rfl, rfl, .inl ⟨_, rfl, _, _, rfl, rfl, (by show (0 : Int) < 998244353; decide), ?_⟩⟩
              have b0 : 0 ≤ (z1.mixed + (z1.turn + 1) * 104729) % 998244353 := Int.emod_nonneg _ (by decide)
              have b1 : (z1.mixed + (z1.turn + 1) * 104729) % 998244353 < 998244353 := Int.emod_lt_of_pos _ (by decide)
              refine ⟨_, rfl, _, rfl, _, _, rfl, rfl, .inl ⟨by show -(2 ^ 64) < (z1.mixed + (z1.turn + 1) * 104729) % 998244353; omega, by show (z1.mixed + (z1.turn + 1) * 104729) % 998244353 < 2 ^ 64; omega⟩, _, rfl, _, _, rfl, rfl, .inr ⟨by decide, by decide⟩, _, _, rfl, rfl, .inl ⟨_, rfl, _, _, rfl, rfl, (by show (0 : Int) < 2147483647; decide), ?_⟩⟩
              refine ⟨_, rfl, _, _, rfl, rfl, ⟨by decide, by decide⟩, .inl ⟨_, rfl, _, rfl, _, _, rfl, rfl, mp, ?_⟩⟩
              rw [hpk] at kk
              rw [← em, ← et] at kk
              exact pick_end s1 n1 n2 (el1.trans el3) sa3 kk
      · cases hg
    · cases hg
theorem ok_pick {f : Addr} {fd : FuncData} {k : Nat} (F : L2.Fun K "_law_pick" "_law_pick" sPick f fd) (ml : mg "len" = none) (mi : mg "int" = none) : FnG P w K mg base (k + 1) f fd ["source", "most"] (spS 2 G_law_pick) := by
  unfold G_law_pick
  rw [shut_eq]
  exact ok_pick0 F ml mi
end
abbrev sOpen : Stmt := topS 6
theorem scOpen : FnScope ["script", "stirred", "cell", "cells"] ["script"] (defScope sOpen) := ⟨rfl, rfl, rfl, by decide +kernel, rfl, by decide +kernel, by decide +kernel⟩
section
variable {P : Program} {w : World} {K : PySem.W.Frag} {mg : Str → Option Value} {base : Heap}
theorem ok_open {f : Addr} {fd : FuncData} {k : Nat} (F : L2.Fun K "_law_open_cells" "_law_open_cells" sOpen f fd) (mi : mg "int" = none) (ma : mg "abs" = none) : FnG P w K mg base (k + 1) f fd ["script"] (spO K) := by
  refine FnG.of (F.ok scOpen (fun vs H Q E h => ?_) (fun cdv A outer s H vs Q E hr h => ?_))
  · obtain ⟨a, ns, rfl, _⟩ := h
    rfl
  · obtain ⟨a, ns, rfl, hS, hl, kk⟩ := h
    refine ⟨_, pss_cons (ps_set (i := 1) scOpen.nd rfl (.inl rfl) pe_int)
      (pss_cons (ps_for PassesOwn.never rfl (pi_list (pv 0)) (pg_name (i := 2) scOpen.nd rfl (.inl rfl))
        (pss_one (ps_set (i := 1) scOpen.nd rfl (.inl rfl) (pe_op op_mod (pe_callTy call_int1 (by rfl) mi PyProof.Rows.boot_int (pa_cons (pe_op op_add (pe_op op_add (pe_op op_mul (pv 1) pe_int) (pe_op op_mul (pv 2) pe_int)) pe_int) pa_nil)) pe_int))))
      (pss_cons (ps_setLc (i := 3) (own := [("cell", 2)]) (g := gName 2) (tt := tYes) rfl scOpen.nd rfl rfl (sw_true rfl rfl rfl (by decide +kernel)) (pi_list (pv 0)) (blkOk_by (N := ["script", "stirred", "cell", "cells"]) (own := [("cell", 2)]) (sc := defScope sOpen) (by decide +kernel))
        (fun _ _ _ _ _ => pg_name (i := 2) scOpen.nd rfl (.inl rfl)) (fun _ _ _ _ _ => pts_nil) (fun _ _ _ _ _ => pe_callB call_abs (by rfl) ma PyProof.Rows.boot_abs (pa_cons (pv 2) pa_nil)))
      (pss_one (ps_ret (pe_disp (pps_cons pe_str (pe_revL (pv 3)) (pps_cons pe_str pe_int (pps_cons pe_str (pv 1) (pps_cons pe_str pe_int pps_nil)))) (by rfl) (by rfl) (by intro z; cases z) (by decide)))))), ?_⟩
    refine ⟨_, rfl, a, rfl, ⟨_, hS⟩, for_list (K := K) (a := a) (xs := ns.map V.int) (fun i σ H2 => H2 = H ∧ ∃ y, σ = [some (.ref a), some (.int (mixA (ns.take i))), y, none]) ⟨rfl, none, rfl⟩ (fun i σ H2 _ ⟨e, _⟩ => by rw [e]; exact hS) ?_ ?_⟩
    · rintro i x σ H2 hi ⟨rfl, y, rfl⟩
      obtain ⟨c, hc, rfl⟩ : ∃ c, ns[i]? = some c ∧ x = .int c := by
        rw [List.getElem?_map] at hi
        obtain ⟨c, h1, h2⟩ := map_some2 hi
        exact ⟨c, h1, h2.symm⟩
      refine ⟨_, rfl, _, _, rfl, rfl, .inr ⟨by decide, by decide⟩, _, rfl, _, _, rfl, rfl, .inr ⟨by decide, by decide⟩, _, _, rfl, rfl, _, _, rfl, rfl, .inl ⟨_, rfl, _, _, rfl, rfl, (by show (0 : Int) < 2147483629; decide), rfl, some (.int c), ?_⟩⟩
      show [_, some (V.int _), _, _] = _
      rw [List.take_add_one, hc]
      unfold mixA
      rw [Option.toList_some, List.foldl_append]
      rfl
    · rintro σ H2 ⟨rfl, y, rfl⟩
      refine ⟨_, rfl, a, rfl, ⟨_, hS⟩, fun D hD => lc_list (K := K) (a := a) (xs := ns.map V.int) (fun i H3 => H3 = upd H2 D (.lst ((ns.take i).map fun c => V.int (if c < 0 then -c else c)))) (by rfl) (fun i H3 _ e => by rw [e]; exact (show Same H2 (upd H2 D _) from Sub.ext hD).seq hS) ?_ ?_⟩
      · rintro i x H3 hi rfl
        obtain ⟨c, hc, rfl⟩ : ∃ c, ns[i]? = some c ∧ x = .int c := by
          rw [List.getElem?_map] at hi
          obtain ⟨c, h1, h2⟩ := map_some2 hi
          exact ⟨c, h1, h2.symm⟩
        refine ⟨rfl, ?_⟩
        unfold tYes
        dsimp only
        rw [if_pos rfl]
        refine ⟨_, rfl, c, rfl, _, upd_same, ?_, ?_⟩
        · rw [List.length_map, List.length_take]
          exact Nat.lt_of_le_of_lt (Nat.min_le_right _ _) (small1000 (by omega))
        · rw [upd_upd, List.take_add_one, hc, List.map_append]
          rfl
      · rintro H3 rfl
        rw [List.length_map, List.take_length]
        have e0 : (ns.take (ns.map V.int).length) = ns := by rw [List.length_map, List.take_length]
        refine fun p hp => ⟨_, rfl, D, _, rfl, .of (by rw [upd_ne (ne_of_none upd_same hp)]; exact upd_same), fun q hq => ⟨_, rfl, ?_⟩⟩
        have npq : p ≠ q := ne_of_none upd_same hq
        have hrev : (ns.map fun c => V.int (if c < 0 then -c else c)).reverse = (openZ ns).cells.map V.int := by
          show _ = ((ns.map fun c => if c < 0 then -c else c).reverse).map V.int
          rw [← List.map_reverse, ← List.map_reverse, List.map_map]
          rfl
        have npD : D ≠ p := ne_of_none upd_same hp
        refine ⟨by rw [upd_ne npq]; exact upd_same, srcKvs ⟨p, q, fun _ => none⟩ (openZ ns), ?_, by show 4 ≤ 15; decide, ?_⟩
        · rfl
        · rw [merge_src]
          refine kk p q _ (fun b o e => ?_) ?_ ?_ ⟨upd_same, ?_⟩
          · have b1 : b ≠ D := ne_of_none e hD
            have b2 : b ≠ p := ne_of_none (Sub.ext hD b o e) hp
            have b3 : b ≠ q := ne_of_none (Sub.ext hp b o (Sub.ext hD b o e)) hq
            rw [upd_ne b2, upd_ne b3, upd_ne b2, upd_ne b1]; exact e
          · exact (Sub.ext hD).nil hp
          · exact (Sub.ext hD).nil ((Sub.ext hp).nil hq)
          · rw [upd_ne npq.symm, upd_same, hrev]
end
abbrev sstep_classes : Stmt := topS 1
theorem scstep_classes : FnScope ["n", "h", "start"] ["n", "h"] (defScope sstep_classes) := ⟨rfl, rfl, rfl, by decide +kernel, rfl, by decide +kernel, by decide +kernel⟩
noncomputable def Cstep_classes_1 : M := shut (
    mComp [2] (tName 2) (iRg1 (mCallB minD (aCons (mVar 0) (aCons (mVar 1) (aNil))))) (tYesM) (mTupRg3 (mVar 2) (mVar 0) (mVar 1)))
noncomputable def Bstep_classes (n : Nat) : MS :=
    sCons (sRet (mCallB tupleD (aCons (Cstep_classes_1) (aNil))))
    (sNil)
theorem bvstep_classes {P : Program} {w : World} {K : PySem.W.Frag} {mg : Str → Option Value} {base : Heap} {f : Addr} {k : Nat} (m_min : mg "min" = none) (m_range : mg "range" = none) (m_tuple : mg "tuple" = none) (cdv : Value) (A : Around) (outer : List Env) (s : Shared) (H : Hp) (E : XK)
    (hr : Room k (A.deeper (envOfC "step_classes" (defScope sstep_classes) s.heap.objs.size f cdv))) (g : Gd (cxOf CX0 P w K mg base ["n", "h", "start"] "step_classes" (defScope sstep_classes) f cdv A outer s H E).nox) (n : Nat) :
    BV (cxOf CX0 P w K mg base ["n", "h", "start"] "step_classes" (defScope sstep_classes) f cdv A outer s H E).nox (defBody sstep_classes) (Bstep_classes n) :=
  bv_cons (sv_ret (ev_callTy c_tuple (by rfl) m_tuple bt_tuple (av_cons (ev_shut (ev_comp g (own := [("start", 2)]) (iv_range1 (by rfl) m_range (ev_callB (c_min g) (by rfl) m_min bt_min (av_cons (ev_var (i := 0) rfl (.inr (.inl (by kernel_rfl)))) (av_cons (ev_var (i := 1) rfl (.inr (.inl (by kernel_rfl)))) (av_nil))))) (blkOk_by (N := ["n", "h", "start"]) (own := [("start", 2)]) (sc := defScope sstep_classes) (by decide +kernel)) rfl (by decide) (fun s_ H_ C_ cl_ fp_ => have g1 := (g).blk s_ H_ _ _ fp_; gv_name (i := 2) g1 rfl (.inl rfl)) (fun _ _ _ _ _ => tvs_nil) (fun s_ H_ C_ cl_ fp_ => have g1 := (g).blk s_ H_ _ _ fp_; ev_tupRg3 g1 (by rfl) m_tuple (by rfl) m_range (ev_var (i := 2) rfl (.inl rfl)) (ev_var (i := 0) rfl (.inr (.inl (by kernel_rfl)))) (ev_var (i := 1) rfl (.inr (.inl (by kernel_rfl))))))) (av_nil))))
    (bv_nil)
noncomputable def Gstep_classes : List PyData → Option R := shut (GP (Bstep_classes) 0 2)
theorem Lstep_classes : ∀ ds r, Gstep_classes ds = some r → ds.length = 2 := by unfold Gstep_classes; rw [shut_eq]; exact GP_len
theorem cstep_classes {P : Program} {w : World} {K : PySem.W.Frag} {mg : Str → Option Value} {base : Heap} {f : Addr} {fd : FuncData} (k : Nat) (F : L2.Fun K "step_classes" "step_classes" sstep_classes f fd) (m_min : mg "min" = none) (m_range : mg "range" = none) (m_tuple : mg "tuple" = none) : FnG P w K mg base (k + 1) f fd ["n", "h"] (spP 2 Gstep_classes) := by
  unfold Gstep_classes
  rw [shut_eq]
  exact fnGP (N := ["n", "h", "start"]) (ps := ["n", "h"]) 0 F scstep_classes (fun cdv A outer s H E hr g n => bvstep_classes (k := k) (m_min := m_min) (m_range := m_range) (m_tuple := m_tuple) (cdv := cdv) (A := A) (outer := outer) (s := s) (H := H) (E := E) (hr := hr) (g := g) (n := n))
abbrev sis_sorted_by : Stmt := topS 2
theorem scis_sorted_by : FnScope ["row", "h", "x", "y"] ["row", "h"] (defScope sis_sorted_by) := ⟨rfl, rfl, rfl, by decide +kernel, rfl, by decide +kernel, by decide +kernel⟩
noncomputable def Cis_sorted_by_1 : M := shut (
    mComp [2, 3] (tTupG 2 (tgCons (tName 2) (tgCons (tName 3) (tgNil)))) (iZipA (mVar 0) (mSl (mVar 0) (oSome (mVar 1)) (oNo))) (tYesM) (mBin leD (mVar 2) (mVar 3)))
noncomputable def Bis_sorted_by (n : Nat) : MS :=
    sCons (sRet (mCallB allD (aCons (Cis_sorted_by_1) (aNil))))
    (sNil)
theorem bvis_sorted_by {P : Program} {w : World} {K : PySem.W.Frag} {mg : Str → Option Value} {base : Heap} {f : Addr} {k : Nat} (m_all : mg "all" = none) (m_zip : mg "zip" = none) (cdv : Value) (A : Around) (outer : List Env) (s : Shared) (H : Hp) (E : XK)
    (hr : Room k (A.deeper (envOfC "is_sorted_by" (defScope sis_sorted_by) s.heap.objs.size f cdv))) (g : Gd (cxOf CX0 P w K mg base ["row", "h", "x", "y"] "is_sorted_by" (defScope sis_sorted_by) f cdv A outer s H E).nox) (n : Nat) :
    BV (cxOf CX0 P w K mg base ["row", "h", "x", "y"] "is_sorted_by" (defScope sis_sorted_by) f cdv A outer s H E).nox (defBody sis_sorted_by) (Bis_sorted_by n) :=
  bv_cons (sv_ret (ev_callB (c_all g) (by rfl) m_all bt_all (av_cons (ev_shut (ev_comp g (own := [("x", 2), ("y", 3)]) (iv_zipA (by rfl) m_zip (ev_var (i := 0) rfl (.inl rfl)) (ev_sl (ev_var (i := 0) rfl (.inl rfl)) (ov_some (ev_var (i := 1) rfl (.inl rfl))) (ov_no))) (blkOk_by (N := ["row", "h", "x", "y"]) (own := [("x", 2), ("y", 3)]) (sc := defScope sis_sorted_by) (by decide +kernel)) rfl (by decide) (fun s_ H_ C_ cl_ fp_ => have g1 := (g).blk s_ H_ _ _ fp_; gv_tup (n := 2) g1 (gvs_cons (gv_name (i := 2) g1 rfl (.inl rfl)) (gvs_cons (gv_name (i := 3) g1 rfl (.inl rfl)) (gvs_nil)))) (fun _ _ _ _ _ => tvs_nil) (fun _ _ _ _ _ => ev_cmp d_le (ev_var (i := 2) rfl (.inl rfl)) (ev_var (i := 3) rfl (.inl rfl)) (nomark _)))) (av_nil))))
    (bv_nil)
noncomputable def Gis_sorted_by : List PyData → Option R := shut (GP (Bis_sorted_by) 0 2)
theorem Lis_sorted_by : ∀ ds r, Gis_sorted_by ds = some r → ds.length = 2 := by unfold Gis_sorted_by; rw [shut_eq]; exact GP_len
theorem cis_sorted_by {P : Program} {w : World} {K : PySem.W.Frag} {mg : Str → Option Value} {base : Heap} {f : Addr} {fd : FuncData} (k : Nat) (F : L2.Fun K "is_sorted_by" "is_sorted_by" sis_sorted_by f fd) (m_all : mg "all" = none) (m_zip : mg "zip" = none) : FnG P w K mg base (k + 1) f fd ["row", "h"] (spP 2 Gis_sorted_by) := by
  unfold Gis_sorted_by
  rw [shut_eq]
  exact fnGP (N := ["row", "h", "x", "y"]) (ps := ["row", "h"]) 0 F scis_sorted_by (fun cdv A outer s H E hr g n => bvis_sorted_by (k := k) (m_all := m_all) (m_zip := m_zip) (cdv := cdv) (A := A) (outer := outer) (s := s) (H := H) (E := E) (hr := hr) (g := g) (n := n))
abbrev ssorted_by : Stmt := topS 3
theorem scsorted_by : FnScope ["row", "h", "found", "some", "place", "number", "i"] ["row", "h"] (defScope ssorted_by) := ⟨rfl, rfl, rfl, by decide +kernel, rfl, by decide +kernel, by decide +kernel⟩
noncomputable def Csorted_by_1 (Gstep_classes : List PyData → Option R) : M := shut (
    mComp [6] (tName 6) (iSeq (mVar 3)) (tYesM) (mBin idxD (mVar 0) (mVar 6)))
noncomputable def Ysorted_by_1 (Gstep_classes : List PyData → Option R) (n : Nat) : MS := shut (
    sCons (sSetIx 2 (mVar 4) (mVar 5))
    (sNil))
noncomputable def Ysorted_by_2 (Gstep_classes : List PyData → Option R) (n : Nat) : MS := shut (
    sCons (sFor (tKeep [0, 2] (tTupG 2 (tgCons (tName 4) (tgCons (tName 5) (tgNil))))) (iZipA (mVar 3) (mCallB sortedA (aCons (Csorted_by_1 Gstep_classes) (aNil)))) (Ysorted_by_1 Gstep_classes n))
    (sNil))
noncomputable def Bsorted_by (Gstep_classes : List PyData → Option R) (n : Nat) : MS :=
    sCons (sAsg 2 (mCallB listD (aCons (mVar 0) (aNil))))
    (sCons (sFor (tKeep [0, 2] (tName 3)) (iSeq (mCall Gstep_classes (fCons (mCallB lenD (aCons (mVar 0) (aNil))) (fCons (mVar 1) (fNil))))) (Ysorted_by_2 Gstep_classes n))
    (sKeep [2] (sCons (sRet (mCallB tupleD (aCons (mVar 2) (aNil))))
    (sNil))))
theorem bvsorted_by {P : Program} {w : World} {K : PySem.W.Frag} {mg : Str → Option Value} {base : Heap} {f : Addr} {k : Nat} (Gstep_classes : List PyData → Option R) (m_len : mg "len" = none) (m_list : mg "list" = none) (m_sorted : mg "sorted" = none) (m_tuple : mg "tuple" = none) (m_zip : mg "zip" = none) (Cstep_classes : CalG P w K mg base k "step_classes" (spP 2 Gstep_classes)) (Lstep_classes : ∀ ds r, Gstep_classes ds = some r → ds.length = 2) (cdv : Value) (A : Around) (outer : List Env) (s : Shared) (H : Hp) (E : XK)
    (hr : Room k (A.deeper (envOfC "sorted_by" (defScope ssorted_by) s.heap.objs.size f cdv))) (g : Gd (cxOf CX0 P w K mg base ["row", "h", "found", "some", "place", "number", "i"] "sorted_by" (defScope ssorted_by) f cdv A outer s H E).nox) (n : Nat) :
    BV (cxOf CX0 P w K mg base ["row", "h", "found", "some", "place", "number", "i"] "sorted_by" (defScope ssorted_by) f cdv A outer s H E).nox (defBody ssorted_by) (Bsorted_by Gstep_classes n) :=
  bv_cons (sv_asg (i := 2) g rfl (.inl rfl) (ev_callTy c_list (by rfl) m_list bt_list (av_cons (ev_var (i := 0) rfl (.inr (.inl (by kernel_rfl)))) (av_nil))))
    (bv_cons (sv_for g (iv_seq (ev_call Cstep_classes g hr (by rfl) (fv_cons (ev_callB c_len (by rfl) m_len bt_len (av_cons (ev_var (i := 0) rfl (.inr (.inl (by kernel_rfl)))) (av_nil))) (fv_cons (ev_var (i := 1) rfl (.inl rfl)) (fv_nil))) Lstep_classes)) (gv_keep (gv_name (i := 3) g rfl (.inl rfl))) (bv_shut (bv_cons (sv_for g (iv_zipA (by rfl) m_zip (ev_var (i := 3) rfl (.inl rfl)) (ev_callB c_sortedA (by rfl) m_sorted bt_sorted (av_cons (ev_shut (ev_comp g (own := [("i", 6)]) (iv_seq (ev_var (i := 3) rfl (.inl rfl))) (blkOk_by (N := ["row", "h", "found", "some", "place", "number", "i"]) (own := [("i", 6)]) (sc := defScope ssorted_by) (by decide +kernel)) rfl (by decide) (fun s_ H_ C_ cl_ fp_ => have g1 := (g).blk s_ H_ _ _ fp_; gv_name (i := 6) g1 rfl (.inl rfl)) (fun _ _ _ _ _ => tvs_nil) (fun _ _ _ _ _ => ev_ix (ev_var (i := 0) rfl (.inr (.inl (by kernel_rfl)))) (ev_var (i := 6) rfl (.inl rfl))))) (av_nil)))) (gv_keep (gv_tup (n := 2) g (gvs_cons (gv_name (i := 4) g rfl (.inl rfl)) (gvs_cons (gv_name (i := 5) g rfl (.inl rfl)) (gvs_nil))))) (bv_shut (bv_cons (sv_setIx (i := 2) rfl (.inl rfl) (ev_var (i := 4) rfl (.inl rfl)) (ev_var (i := 5) rfl (.inl rfl)))
    (bv_nil))))
    (bv_nil))))
    (bv_keep (bv_cons (sv_ret (ev_callTy c_tuple (by rfl) m_tuple bt_tuple (av_cons (ev_var (i := 2) rfl (.inl rfl)) (av_nil))))
    (bv_nil))))
noncomputable def Gsorted_by : List PyData → Option R := shut (GP (Bsorted_by Gstep_classes) 0 2)
theorem Lsorted_by : ∀ ds r, Gsorted_by ds = some r → ds.length = 2 := by unfold Gsorted_by; rw [shut_eq]; exact GP_len
theorem csorted_by {P : Program} {w : World} {K : PySem.W.Frag} {mg : Str → Option Value} {base : Heap} {f : Addr} {fd : FuncData} (k : Nat) (F : L2.Fun K "sorted_by" "sorted_by" ssorted_by f fd) (m_len : mg "len" = none) (m_list : mg "list" = none) (m_sorted : mg "sorted" = none) (m_tuple : mg "tuple" = none) (m_zip : mg "zip" = none) (Cstep_classes : CalG P w K mg base k "step_classes" (spP 2 Gstep_classes)) : FnG P w K mg base (k + 1) f fd ["row", "h"] (spP 2 Gsorted_by) := by
  unfold Gsorted_by
  rw [shut_eq]
  exact fnGP (N := ["row", "h", "found", "some", "place", "number", "i"]) (ps := ["row", "h"]) 0 F scsorted_by (fun cdv A outer s H E hr g n => bvsorted_by (k := k) (m_len := m_len) (m_list := m_list) (m_sorted := m_sorted) (m_tuple := m_tuple) (m_zip := m_zip) (Cstep_classes := Cstep_classes) (Lstep_classes := Lstep_classes) (cdv := cdv) (A := A) (outer := outer) (s := s) (H := H) (E := E) (hr := hr) (g := g) (n := n))
abbrev ssorted_by_steps : Stmt := topS 4
theorem scsorted_by_steps : FnScope ["row", "steps", "h"] ["row", "steps"] (defScope ssorted_by_steps) := ⟨rfl, rfl, rfl, by decide +kernel, rfl, by decide +kernel, by decide +kernel⟩
noncomputable def Ysorted_by_steps_1 (Gsorted_by : List PyData → Option R) (n : Nat) : MS := shut (
    sCons (sAsg 0 (mCall Gsorted_by (fCons (mVar 0) (fCons (mVar 2) (fNil)))))
    (sNil))
noncomputable def Bsorted_by_steps (Gsorted_by : List PyData → Option R) (n : Nat) : MS :=
    sCons (sFor (tKeep [0] (tName 2)) (iSeq (mVar 1)) (Ysorted_by_steps_1 Gsorted_by n))
    (sKeep [0] (sCons (sRet (mVar 0))
    (sNil)))
theorem bvsorted_by_steps {P : Program} {w : World} {K : PySem.W.Frag} {mg : Str → Option Value} {base : Heap} {f : Addr} {k : Nat} (Gsorted_by : List PyData → Option R) (Csorted_by : CalG P w K mg base k "sorted_by" (spP 2 Gsorted_by)) (Lsorted_by : ∀ ds r, Gsorted_by ds = some r → ds.length = 2) (cdv : Value) (A : Around) (outer : List Env) (s : Shared) (H : Hp) (E : XK)
    (hr : Room k (A.deeper (envOfC "sorted_by_steps" (defScope ssorted_by_steps) s.heap.objs.size f cdv))) (g : Gd (cxOf CX0 P w K mg base ["row", "steps", "h"] "sorted_by_steps" (defScope ssorted_by_steps) f cdv A outer s H E).nox) (n : Nat) :
    BV (cxOf CX0 P w K mg base ["row", "steps", "h"] "sorted_by_steps" (defScope ssorted_by_steps) f cdv A outer s H E).nox (defBody ssorted_by_steps) (Bsorted_by_steps Gsorted_by n) :=
  bv_cons (sv_for g (iv_seq (ev_var (i := 1) rfl (.inl rfl))) (gv_keep (gv_name (i := 2) g rfl (.inl rfl))) (bv_shut (bv_cons (sv_asg (i := 0) g rfl (.inl rfl) (ev_call Csorted_by g hr (by rfl) (fv_cons (ev_var (i := 0) rfl (.inl rfl)) (fv_cons (ev_var (i := 2) rfl (.inl rfl)) (fv_nil))) Lsorted_by))
    (bv_nil))))
    (bv_keep (bv_cons (sv_ret (ev_var (i := 0) rfl (.inl rfl)))
    (bv_nil)))
noncomputable def Gsorted_by_steps : List PyData → Option R := shut (GP (Bsorted_by_steps Gsorted_by) 0 2)
theorem Lsorted_by_steps : ∀ ds r, Gsorted_by_steps ds = some r → ds.length = 2 := by unfold Gsorted_by_steps; rw [shut_eq]; exact GP_len
theorem csorted_by_steps {P : Program} {w : World} {K : PySem.W.Frag} {mg : Str → Option Value} {base : Heap} {f : Addr} {fd : FuncData} (k : Nat) (F : L2.Fun K "sorted_by_steps" "sorted_by_steps" ssorted_by_steps f fd) (Csorted_by : CalG P w K mg base k "sorted_by" (spP 2 Gsorted_by)) : FnG P w K mg base (k + 1) f fd ["row", "steps"] (spP 2 Gsorted_by_steps) := by
  unfold Gsorted_by_steps
  rw [shut_eq]
  exact fnGP (N := ["row", "steps", "h"]) (ps := ["row", "steps"]) 0 F scsorted_by_steps (fun cdv A outer s H E hr g n => bvsorted_by_steps (k := k) (Csorted_by := Csorted_by) (Lsorted_by := Lsorted_by) (cdv := cdv) (A := A) (outer := outer) (s := s) (H := H) (E := E) (hr := hr) (g := g) (n := n))
abbrev s_law_of : Stmt := topS 8
theorem sc_law_of : FnScope ["source", "some"] ["source", "some"] (defScope s_law_of) := ⟨rfl, rfl, rfl, by decide +kernel, rfl, by decide +kernel, by decide +kernel⟩
noncomputable def B_law_of (G_law_pick : List PyData → Src → Option (R × Src)) (n : Nat) : MS :=
    sCons (sRet (mBin idxD (mVar 1) (mCallS 0 G_law_pick (fCons (mCallB lenD (aCons (mVar 1) (aNil))) (fNil)))))
    (sNil)
theorem bv_law_of {P : Program} {w : World} {K : PySem.W.Frag} {mg : Str → Option Value} {base : Heap} {f : Addr} {k : Nat} (G_law_pick : List PyData → Src → Option (R × Src)) (m_len : mg "len" = none) (C_law_pick : CalG P w K mg base k "_law_pick" (spS 2 G_law_pick)) (L_law_pick : ∀ ds z r, G_law_pick ds z = some r → ds.length + 1 = 2) (cdv : Value) (A : Around) (outer : List Env) (s : Shared) (H : Hp) (E : XK)
    (hr : Room k (A.deeper (envOfC "_law_of" (defScope s_law_of) s.heap.objs.size f cdv))) (g : Gd (cxOf CX0 P w K mg base ["source", "some"] "_law_of" (defScope s_law_of) f cdv A outer s H E).nox) (n : Nat) :
    BV (cxOf CX0 P w K mg base ["source", "some"] "_law_of" (defScope s_law_of) f cdv A outer s H E).nox (defBody s_law_of) (B_law_of G_law_pick n) :=
  bv_cons (sv_ret (ev_ix (ev_var (i := 1) rfl (.inl rfl)) (ev_callS (i := 0) C_law_pick g hr (by rfl) rfl (.inl rfl) (fv_cons (ev_callB c_len (by rfl) m_len bt_len (av_cons (ev_var (i := 1) rfl (.inl rfl)) (av_nil))) (fv_nil)) L_law_pick)))
    (bv_nil)
noncomputable def G_law_of : List PyData → Src → Option (R × Src) := shut (GS (B_law_of G_law_pick) 0 2)
theorem L_law_of : ∀ ds z r, G_law_of ds z = some r → ds.length + 1 = 2 := by unfold G_law_of; rw [shut_eq]; exact GS_len
theorem c_law_of {P : Program} {w : World} {K : PySem.W.Frag} {mg : Str → Option Value} {base : Heap} {f : Addr} {fd : FuncData} (k : Nat) (F : L2.Fun K "_law_of" "_law_of" s_law_of f fd) (m_len : mg "len" = none) (C_law_pick : CalG P w K mg base k "_law_pick" (spS 2 G_law_pick)) : FnG P w K mg base (k + 1) f fd ["source", "some"] (spS 2 G_law_of) := by
  unfold G_law_of
  rw [shut_eq]
  exact fnGS (N := ["source", "some"]) (ps := ["source", "some"]) 0 F sc_law_of (fun cdv A outer s H E hr g n => bv_law_of (k := k) (m_len := m_len) (C_law_pick := C_law_pick) (L_law_pick := L_law_pick) (cdv := cdv) (A := A) (outer := outer) (s := s) (H := H) (E := E) (hr := hr) (g := g) (n := n))
abbrev s_law_row : Stmt := topS 9
theorem sc_law_row : FnScope ["source", "n", "most", "k"] ["source", "n"] (defScope s_law_row) := ⟨rfl, rfl, rfl, by decide +kernel, rfl, by decide +kernel, by decide +kernel⟩
noncomputable def C_law_row_1 (G_law_pick : List PyData → Src → Option (R × Src)) (G_law_of : List PyData → Src → Option (R × Src)) : M := shut (
    mComp [3] (tName 3) (iRg1 (mVar 1)) (tYesM) (mBin subD (mCallS 0 G_law_pick (fCons (mBin mulD (mC (.int 2)) (mVar 2)) (fNil))) (mVar 2)))
noncomputable def B_law_row (G_law_pick : List PyData → Src → Option (R × Src)) (G_law_of : List PyData → Src → Option (R × Src)) (n : Nat) : MS :=
    sCons (sAsg 2 (mCallS 0 G_law_of (fCons (mLst (fCons (mC (.int 2)) (fCons (mC (.int 5)) (fCons (mC (.int 30)) (fCons (mBin powD (mC (.int 10)) (mC (.int 6))) (fNil)))))) (fNil))))
    (sCons (sRet (mCallB tupleD (aCons (C_law_row_1 G_law_pick G_law_of) (aNil))))
    (sNil))
theorem bv_law_row {P : Program} {w : World} {K : PySem.W.Frag} {mg : Str → Option Value} {base : Heap} {f : Addr} {k : Nat} (G_law_pick : List PyData → Src → Option (R × Src)) (G_law_of : List PyData → Src → Option (R × Src)) (m_range : mg "range" = none) (m_tuple : mg "tuple" = none) (C_law_pick : CalG P w K mg base k "_law_pick" (spS 2 G_law_pick)) (L_law_pick : ∀ ds z r, G_law_pick ds z = some r → ds.length + 1 = 2) (C_law_of : CalG P w K mg base k "_law_of" (spS 2 G_law_of)) (L_law_of : ∀ ds z r, G_law_of ds z = some r → ds.length + 1 = 2) (cdv : Value) (A : Around) (outer : List Env) (s : Shared) (H : Hp) (E : XK)
    (hr : Room k (A.deeper (envOfC "_law_row" (defScope s_law_row) s.heap.objs.size f cdv))) (g : Gd (cxOf CX0 P w K mg base ["source", "n", "most", "k"] "_law_row" (defScope s_law_row) f cdv A outer s H E).nox) (n : Nat) :
    BV (cxOf CX0 P w K mg base ["source", "n", "most", "k"] "_law_row" (defScope s_law_row) f cdv A outer s H E).nox (defBody s_law_row) (B_law_row G_law_pick G_law_of n) :=
  bv_cons (sv_asg (i := 2) g rfl (.inr rfl) (ev_callS (i := 0) C_law_of g hr (by rfl) rfl (.inr (.inl (by kernel_rfl))) (fv_cons (ev_lst (fv_cons (ev_int) (fv_cons (ev_int) (fv_cons (ev_int) (fv_cons (ev_bin d_pow (ev_int) (ev_int)) (fv_nil)))))) (fv_nil)) L_law_of))
    (bv_cons (sv_ret (ev_callTy c_tuple (by rfl) m_tuple bt_tuple (av_cons (ev_shut (ev_comp g (own := [("k", 3)]) (iv_range1 (by rfl) m_range (ev_var (i := 1) rfl (.inl rfl))) (blkOk_by (N := ["source", "n", "most", "k"]) (own := [("k", 3)]) (sc := defScope s_law_row) (by decide +kernel)) rfl (by decide) (fun s_ H_ C_ cl_ fp_ => have g1 := (g).blk s_ H_ _ _ fp_; gv_name (i := 3) g1 rfl (.inl rfl)) (fun _ _ _ _ _ => tvs_nil) (fun s_ H_ C_ cl_ fp_ => have g1 := (g).blk s_ H_ _ _ fp_; ev_bin d_sub (ev_callS (i := 0) C_law_pick g1 hr (by rfl) rfl (.inr (.inl (by kernel_rfl))) (fv_cons (ev_bin d_mul (ev_int) (ev_var (i := 2) rfl (.inr (.inl (by kernel_rfl))))) (fv_nil)) L_law_pick) (ev_var (i := 2) rfl (.inr (.inl (by kernel_rfl))))))) (av_nil))))
    (bv_nil))
noncomputable def G_law_row : List PyData → Src → Option (R × Src) := shut (GS (B_law_row G_law_pick G_law_of) 0 2)
theorem L_law_row : ∀ ds z r, G_law_row ds z = some r → ds.length + 1 = 2 := by unfold G_law_row; rw [shut_eq]; exact GS_len
theorem c_law_row {P : Program} {w : World} {K : PySem.W.Frag} {mg : Str → Option Value} {base : Heap} {f : Addr} {fd : FuncData} (k : Nat) (F : L2.Fun K "_law_row" "_law_row" s_law_row f fd) (m_range : mg "range" = none) (m_tuple : mg "tuple" = none) (C_law_pick : CalG P w K mg base k "_law_pick" (spS 2 G_law_pick)) (C_law_of : CalG P w K mg base k "_law_of" (spS 2 G_law_of)) : FnG P w K mg base (k + 1) f fd ["source", "n"] (spS 2 G_law_row) := by
  unfold G_law_row
  rw [shut_eq]
  exact fnGS (N := ["source", "n", "most", "k"]) (ps := ["source", "n"]) 0 F sc_law_row (fun cdv A outer s H E hr g n => bv_law_row (k := k) (m_range := m_range) (m_tuple := m_tuple) (C_law_pick := C_law_pick) (L_law_pick := L_law_pick) (C_law_of := C_law_of) (L_law_of := L_law_of) (cdv := cdv) (A := A) (outer := outer) (s := s) (H := H) (E := E) (hr := hr) (g := g) (n := n))
abbrev s_law_is_by : Stmt := topS 10
theorem sc_law_is_by : FnScope ["row", "h", "i"] ["row", "h"] (defScope s_law_is_by) := ⟨rfl, rfl, rfl, by decide +kernel, rfl, by decide +kernel, by decide +kernel⟩
noncomputable def C_law_is_by_1 : M := shut (
    mComp [2] (tName 2) (iRg1 (mBin subD (mCallB lenD (aCons (mVar 0) (aNil))) (mVar 1))) (mB (mBin gtD (mBin idxD (mVar 0) (mVar 2)) (mBin idxD (mVar 0) (mBin addD (mVar 2) (mVar 1))))) (mVar 2))
noncomputable def B_law_is_by (n : Nat) : MS :=
    sCons (sRet (mBin eqD2 (C_law_is_by_1) (mLst (fNil))))
    (sNil)
theorem bv_law_is_by {P : Program} {w : World} {K : PySem.W.Frag} {mg : Str → Option Value} {base : Heap} {f : Addr} {k : Nat} (m_len : mg "len" = none) (m_range : mg "range" = none) (cdv : Value) (A : Around) (outer : List Env) (s : Shared) (H : Hp) (E : XK)
    (hr : Room k (A.deeper (envOfC "_law_is_by" (defScope s_law_is_by) s.heap.objs.size f cdv))) (g : Gd (cxOf CX0 P w K mg base ["row", "h", "i"] "_law_is_by" (defScope s_law_is_by) f cdv A outer s H E).nox) (n : Nat) :
    BV (cxOf CX0 P w K mg base ["row", "h", "i"] "_law_is_by" (defScope s_law_is_by) f cdv A outer s H E).nox (defBody s_law_is_by) (B_law_is_by n) :=
  bv_cons (sv_ret (ev_cmp (d_eq2 g) (ev_shut (ev_comp g (own := [("i", 2)]) (iv_range1 (by rfl) m_range (ev_bin d_sub (ev_callB c_len (by rfl) m_len bt_len (av_cons (ev_var (i := 0) rfl (.inr (.inl (by kernel_rfl)))) (av_nil))) (ev_var (i := 1) rfl (.inr (.inl (by kernel_rfl)))))) (blkOk_by (N := ["row", "h", "i"]) (own := [("i", 2)]) (sc := defScope s_law_is_by) (by decide +kernel)) rfl (by decide) (fun s_ H_ C_ cl_ fp_ => have g1 := (g).blk s_ H_ _ _ fp_; gv_name (i := 2) g1 rfl (.inl rfl)) (fun _ _ _ _ _ => tvs_one (tv_cmp d_gt (ev_ix (ev_var (i := 0) rfl (.inr (.inl (by kernel_rfl)))) (ev_var (i := 2) rfl (.inl rfl))) (ev_ix (ev_var (i := 0) rfl (.inr (.inl (by kernel_rfl)))) (ev_bin d_add (ev_var (i := 2) rfl (.inl rfl)) (ev_var (i := 1) rfl (.inr (.inl (by kernel_rfl)))))) (nomark _))) (fun _ _ _ _ _ => ev_var (i := 2) rfl (.inl rfl)))) (ev_lst (fv_nil)) (nomark _)))
    (bv_nil)
noncomputable def G_law_is_by : List PyData → Option R := shut (GP (B_law_is_by) 0 2)
theorem L_law_is_by : ∀ ds r, G_law_is_by ds = some r → ds.length = 2 := by unfold G_law_is_by; rw [shut_eq]; exact GP_len
theorem c_law_is_by {P : Program} {w : World} {K : PySem.W.Frag} {mg : Str → Option Value} {base : Heap} {f : Addr} {fd : FuncData} (k : Nat) (F : L2.Fun K "_law_is_by" "_law_is_by" s_law_is_by f fd) (m_len : mg "len" = none) (m_range : mg "range" = none) : FnG P w K mg base (k + 1) f fd ["row", "h"] (spP 2 G_law_is_by) := by
  unfold G_law_is_by
  rw [shut_eq]
  exact fnGP (N := ["row", "h", "i"]) (ps := ["row", "h"]) 0 F sc_law_is_by (fun cdv A outer s H E hr g n => bv_law_is_by (k := k) (m_len := m_len) (m_range := m_range) (cdv := cdv) (A := A) (outer := outer) (s := s) (H := H) (E := E) (hr := hr) (g := g) (n := n))
abbrev s_law_by : Stmt := topS 11
theorem sc_law_by : FnScope ["row", "h", "late", "turned", "i", "x", "y"] ["row", "h"] (defScope s_law_by) := ⟨rfl, rfl, rfl, by decide +kernel, rfl, by decide +kernel, by decide +kernel⟩
noncomputable def Y_law_by_1 (n : Nat) : MS := shut (
    sCons (sPar 5 6 (mBin idxD (mVar 2) (mVar 4)) (mBin idxD (mVar 2) (mBin addD (mVar 4) (mVar 1))))
    (sCons (sSetIx 2 (mVar 4) (mCallB minD (aCons (mVar 5) (aCons (mVar 6) (aNil)))))
    (sCons (sSetIx 2 (mBin addD (mVar 4) (mVar 1)) (mCallB maxD (aCons (mVar 5) (aCons (mVar 6) (aNil)))))
    (sNil))))
noncomputable def C_law_by_1 : M := shut (
    mComp [4] (tName 4) (iRg1 (mBin subD (mCallB lenD (aCons (mVar 2) (aNil))) (mVar 1))) (mB (mBin gtD (mBin idxD (mVar 2) (mVar 4)) (mBin idxD (mVar 2) (mBin addD (mVar 4) (mVar 1))))) (mVar 4))
noncomputable def W_law_by_1 (n : Nat) : MS := shut (
    sCons (sAsg 3 (C_law_by_1))
    (sCons (sFor (tKeep [1, 2, 3] (tName 4)) (iSeq (mVar 3)) (Y_law_by_1 n))
    (sNil)))
noncomputable def B_law_by (n : Nat) : MS :=
    sCons (sPar 2 3 (mCallB listD (aCons (mVar 0) (aNil))) (mLst (fCons (mC (.int 0)) (fNil))))
    (sCons (sWhile n (qKeep [1, 2, 3] (mB (mBin neD (mVar 3) (mLst (fNil))))) (W_law_by_1 n))
    (sKeep [2] (sCons (sRet (mCallB tupleD (aCons (mVar 2) (aNil))))
    (sNil))))
theorem bv_law_by {P : Program} {w : World} {K : PySem.W.Frag} {mg : Str → Option Value} {base : Heap} {f : Addr} {k : Nat} (m_len : mg "len" = none) (m_list : mg "list" = none) (m_max : mg "max" = none) (m_min : mg "min" = none) (m_range : mg "range" = none) (m_tuple : mg "tuple" = none) (cdv : Value) (A : Around) (outer : List Env) (s : Shared) (H : Hp) (E : XK)
    (hr : Room k (A.deeper (envOfC "_law_by" (defScope s_law_by) s.heap.objs.size f cdv))) (g : Gd (cxOf CX0 P w K mg base ["row", "h", "late", "turned", "i", "x", "y"] "_law_by" (defScope s_law_by) f cdv A outer s H E).nox) (n : Nat) :
    BV (cxOf CX0 P w K mg base ["row", "h", "late", "turned", "i", "x", "y"] "_law_by" (defScope s_law_by) f cdv A outer s H E).nox (defBody s_law_by) (B_law_by n) :=
  bv_cons (sv_parC (i := 2) (j := 3) g rfl rfl (.inr rfl) (.inl rfl) (ev_callTy c_list (by rfl) m_list bt_list (av_cons (ev_var (i := 0) rfl (.inl rfl)) (av_nil))) (ev_lst (fv_cons (ev_int) (fv_nil))))
    (bv_cons (sv_while g (tv_keep (tv_cmp (d_ne g) (ev_var (i := 3) rfl (.inl rfl)) (ev_lst (fv_nil)) (nomark _))) (bv_shut (bv_cons (sv_shutA (sv_asgLc (i := 3) g (own := [("i", 4)]) rfl rfl (sw_true rfl rfl rfl (by decide +kernel)) (iv_range1 (by rfl) m_range (ev_bin d_sub (ev_callB c_len (by rfl) m_len bt_len (av_cons (ev_var (i := 2) rfl (.inr (.inl (by kernel_rfl)))) (av_nil))) (ev_var (i := 1) rfl (.inr (.inl (by kernel_rfl)))))) (blkOk_by (N := ["row", "h", "late", "turned", "i", "x", "y"]) (own := [("i", 4)]) (sc := defScope s_law_by) (by decide +kernel)) rfl (by decide) (fun s_ H_ C_ cl_ fp_ => have g1 := (g).blk s_ H_ _ _ fp_; gv_name (i := 4) g1 rfl (.inl rfl)) (fun _ _ _ _ _ => tvs_one (tv_cmp d_gt (ev_ix (ev_var (i := 2) rfl (.inr (.inl (by kernel_rfl)))) (ev_var (i := 4) rfl (.inl rfl))) (ev_ix (ev_var (i := 2) rfl (.inr (.inl (by kernel_rfl)))) (ev_bin d_add (ev_var (i := 4) rfl (.inl rfl)) (ev_var (i := 1) rfl (.inr (.inl (by kernel_rfl)))))) (nomark _))) (fun _ _ _ _ _ => ev_var (i := 4) rfl (.inl rfl))))
    (bv_cons (sv_for g (iv_seq (ev_var (i := 3) rfl (.inl rfl))) (gv_keep (gv_name (i := 4) g rfl (.inl rfl))) (bv_shut (bv_cons (sv_par (i := 5) (j := 6) g rfl rfl (by decide) rfl rfl (ev_ix (ev_var (i := 2) rfl (.inr (.inl (by kernel_rfl)))) (ev_var (i := 4) rfl (.inl rfl))) (ev_ix (ev_var (i := 2) rfl (.inr (.inl (by kernel_rfl)))) (ev_bin d_add (ev_var (i := 4) rfl (.inl rfl)) (ev_var (i := 1) rfl (.inr (.inl (by kernel_rfl)))))))
    (bv_cons (sv_setIx (i := 2) rfl (.inr (.inl (by kernel_rfl))) (ev_var (i := 4) rfl (.inl rfl)) (ev_callB (c_min g) (by rfl) m_min bt_min (av_cons (ev_var (i := 5) rfl (.inl rfl)) (av_cons (ev_var (i := 6) rfl (.inl rfl)) (av_nil)))))
    (bv_cons (sv_setIx (i := 2) rfl (.inr (.inl (by kernel_rfl))) (ev_bin d_add (ev_var (i := 4) rfl (.inl rfl)) (ev_var (i := 1) rfl (.inr (.inl (by kernel_rfl))))) (ev_callB (c_max g) (by rfl) m_max bt_max (av_cons (ev_var (i := 5) rfl (.inl rfl)) (av_cons (ev_var (i := 6) rfl (.inl rfl)) (av_nil)))))
    (bv_nil))))))
    (bv_nil)))) n)
    (bv_keep (bv_cons (sv_ret (ev_callTy c_tuple (by rfl) m_tuple bt_tuple (av_cons (ev_var (i := 2) rfl (.inr (.inl (by kernel_rfl)))) (av_nil))))
    (bv_nil))))
noncomputable def G_law_by : List PyData → Option R := shut (GP (B_law_by) FUEL 2)
theorem L_law_by : ∀ ds r, G_law_by ds = some r → ds.length = 2 := by unfold G_law_by; rw [shut_eq]; exact GP_len
theorem c_law_by {P : Program} {w : World} {K : PySem.W.Frag} {mg : Str → Option Value} {base : Heap} {f : Addr} {fd : FuncData} (k : Nat) (F : L2.Fun K "_law_by" "_law_by" s_law_by f fd) (m_len : mg "len" = none) (m_list : mg "list" = none) (m_max : mg "max" = none) (m_min : mg "min" = none) (m_range : mg "range" = none) (m_tuple : mg "tuple" = none) : FnG P w K mg base (k + 1) f fd ["row", "h"] (spP 2 G_law_by) := by
  unfold G_law_by
  rw [shut_eq]
  exact fnGP (N := ["row", "h", "late", "turned", "i", "x", "y"]) (ps := ["row", "h"]) FUEL F sc_law_by (fun cdv A outer s H E hr g n => bv_law_by (k := k) (m_len := m_len) (m_list := m_list) (m_max := m_max) (m_min := m_min) (m_range := m_range) (m_tuple := m_tuple) (cdv := cdv) (A := A) (outer := outer) (s := s) (H := H) (E := E) (hr := hr) (g := g) (n := n))
abbrev slaw : Stmt := topS 12
theorem sclaw : FnScope ["script", "source", "lap", "n", "h", "k", "classes", "row", "kept", "due", "one", "late", "steps", "told", "step", "r", "i", "some", "turn"] ["script"] (defScope slaw) := ⟨rfl, rfl, rfl, by decide +kernel, rfl, by decide +kernel, by decide +kernel⟩
noncomputable def Claw_1 (Gsorted_by : List PyData → Option R) (Gsorted_by_steps : List PyData → Option R) (G_law_is_by : List PyData → Option R) (G_law_by : List PyData → Option R) (G_law_pick : List PyData → Src → Option (R × Src)) (Gis_sorted_by : List PyData → Option R) (G_law_row : List PyData → Src → Option (R × Src)) (Gstep_classes : List PyData → Option R) : M := shut (
    mComp [14] (tName 14) (iSeq (mVar 12)) (mNotT (mTru (mCall G_law_is_by (fCons (mVar 13) (fCons (mVar 14) (fNil)))))) (mVar 14))
noncomputable def Ylaw_1 (Gsorted_by : List PyData → Option R) (Gsorted_by_steps : List PyData → Option R) (G_law_is_by : List PyData → Option R) (G_law_by : List PyData → Option R) (G_law_pick : List PyData → Src → Option (R × Src)) (Gis_sorted_by : List PyData → Option R) (G_law_row : List PyData → Src → Option (R × Src)) (Gstep_classes : List PyData → Option R) (n : Nat) : MS := shut (
    sCons (sAsg 13 (mCall G_law_by (fCons (mVar 13) (fCons (mVar 14) (fNil)))))
    (sNil))
noncomputable def Claw_2 (Gsorted_by : List PyData → Option R) (Gsorted_by_steps : List PyData → Option R) (G_law_is_by : List PyData → Option R) (G_law_by : List PyData → Option R) (G_law_pick : List PyData → Src → Option (R × Src)) (Gis_sorted_by : List PyData → Option R) (G_law_row : List PyData → Src → Option (R × Src)) (Gstep_classes : List PyData → Option R) : M := shut (
    mComp [18] (tName 18) (iRg1 (mCallS 1 G_law_pick (fCons (mC (.int 5)) (fNil)))) (tYesM) (mBin addD (mC (.int 1)) (mCallS 1 G_law_pick (fCons (mC (.int 9)) (fNil)))))
noncomputable def Claw_3 (Gsorted_by : List PyData → Option R) (Gsorted_by_steps : List PyData → Option R) (G_law_is_by : List PyData → Option R) (G_law_by : List PyData → Option R) (G_law_pick : List PyData → Src → Option (R × Src)) (Gis_sorted_by : List PyData → Option R) (G_law_row : List PyData → Src → Option (R × Src)) (Gstep_classes : List PyData → Option R) : M := shut (
    mComp [17] (tName 17) (iSeq (mVar 6)) (mB (mBin neD (mVar 17) (mTup (fNil)))) (mVar 17))
noncomputable def Claw_4 (Gsorted_by : List PyData → Option R) (Gsorted_by_steps : List PyData → Option R) (G_law_is_by : List PyData → Option R) (G_law_by : List PyData → Option R) (G_law_pick : List PyData → Src → Option (R × Src)) (Gis_sorted_by : List PyData → Option R) (G_law_row : List PyData → Src → Option (R × Src)) (Gstep_classes : List PyData → Option R) : M := shut (
    mComp [16] (tName 16) (iRg1 (mVar 3)) (mB (mBin eqD2 (mBin modD (mCallB intD (aCons (mVar 16) (aNil))) (mVar 4)) (mVar 15))) (mVar 16))
noncomputable def Claw_5 (Gsorted_by : List PyData → Option R) (Gsorted_by_steps : List PyData → Option R) (G_law_is_by : List PyData → Option R) (G_law_by : List PyData → Option R) (G_law_pick : List PyData → Src → Option (R × Src)) (Gis_sorted_by : List PyData → Option R) (G_law_row : List PyData → Src → Option (R × Src)) (Gstep_classes : List PyData → Option R) : M := shut (
    mComp [15] (tName 15) (iRg1 (mVar 4)) (tYesM) (mCallB tupleD (aCons (Claw_4 Gsorted_by Gsorted_by_steps G_law_is_by G_law_by G_law_pick Gis_sorted_by G_law_row Gstep_classes) (aNil))))
noncomputable def Ylaw_2 (Gsorted_by : List PyData → Option R) (Gsorted_by_steps : List PyData → Option R) (G_law_is_by : List PyData → Option R) (G_law_by : List PyData → Option R) (G_law_pick : List PyData → Src → Option (R × Src)) (Gis_sorted_by : List PyData → Option R) (G_law_row : List PyData → Src → Option (R × Src)) (Gstep_classes : List PyData → Option R) (n : Nat) : MS := shut (
    sCons (sAsg 3 (mBin addD (mC (.int 1)) (mCallS 1 G_law_pick (fCons (mBin idxD (mLst (fCons (mC (.int 5)) (fCons (mC (.int 9)) (fCons (mC (.int 15)) (fCons (mC (.int 40)) (fNil)))))) (mCallS 1 G_law_pick (fCons (mC (.int 4)) (fNil)))) (fNil)))))
    (sCons (sPar 4 5 (mBin addD (mC (.int 1)) (mCallS 1 G_law_pick (fCons (mC (.int 12)) (fNil)))) (mBin addD (mC (.int 1)) (mCallS 1 G_law_pick (fCons (mC (.int 12)) (fNil)))))
    (sCons (sAsg 6 (Claw_5 Gsorted_by Gsorted_by_steps G_law_is_by G_law_by G_law_pick Gis_sorted_by G_law_row Gstep_classes))
    (sCons (sIf (mB (mBin neD (mCallB reprD (aCons (mCall Gstep_classes (fCons (mVar 3) (fCons (mVar 4) (fNil)))) (aNil))) (mCallB reprD (aCons (mCallB tupleD (aCons (Claw_3 Gsorted_by Gsorted_by_steps G_law_is_by G_law_by G_law_pick Gis_sorted_by G_law_row Gstep_classes) (aNil))) (aNil))))) (sCons (sRet (mC (.bool false)))
    (sNil)) (sNil))
    (sCons (sAsg 7 (mCallS 1 G_law_row (fCons (mVar 3) (fNil))))
    (sCons (sPar 8 9 (mCallB reprD (aCons (mVar 7) (aNil))) (mCall G_law_by (fCons (mVar 7) (fCons (mVar 4) (fNil)))))
    (sCons (sIf (mOrT (mB (mBin neD (mCallB reprD (aCons (mCall Gsorted_by (fCons (mVar 7) (fCons (mVar 4) (fNil)))) (aNil))) (mCallB reprD (aCons (mVar 9) (aNil))))) (mB (mBin neD (mCallB reprD (aCons (mCall Gis_sorted_by (fCons (mVar 7) (fCons (mVar 4) (fNil)))) (aNil))) (mCallB reprD (aCons (mCall G_law_is_by (fCons (mVar 7) (fCons (mVar 4) (fNil)))) (aNil)))))) (sCons (sRet (mC (.bool false)))
    (sNil)) (sNil))
    (sCons (sIf (mOrT (mB (mBin isNotD (mCall Gis_sorted_by (fCons (mVar 9) (fCons (mVar 4) (fNil)))) (mC (.bool true)))) (mB (mBin neD (mCallB sortedA (aCons (mVar 9) (aNil))) (mCallB sortedA (aCons (mVar 7) (aNil)))))) (sCons (sRet (mC (.bool false)))
    (sNil)) (sNil))
    (sCons (sAsg 10 (mCall Gsorted_by (fCons (mVar 7) (fCons (mVar 5) (fNil)))))
    (sCons (sAsg 11 (mCall Gsorted_by (fCons (mVar 10) (fCons (mVar 4) (fNil)))))
    (sCons (sIf (mOrT (mB (mBin isNotD (mCall Gis_sorted_by (fCons (mVar 11) (fCons (mVar 5) (fNil)))) (mC (.bool true)))) (mOrT (mNotT (mTru (mCall G_law_is_by (fCons (mVar 11) (fCons (mVar 5) (fNil)))))) (mNotT (mTru (mCall G_law_is_by (fCons (mVar 11) (fCons (mVar 4) (fNil)))))))) (sCons (sRet (mC (.bool false)))
    (sNil)) (sNil))
    (sCons (sAsg 12 (mCallB tupleD (aCons (Claw_2 Gsorted_by Gsorted_by_steps G_law_is_by G_law_by G_law_pick Gis_sorted_by G_law_row Gstep_classes) (aNil))))
    (sCons (sAsg 13 (mVar 7))
    (sCons (sFor (tKeep [1, 7, 8, 12, 13] (tName 14)) (iSeq (mVar 12)) (Ylaw_1 Gsorted_by Gsorted_by_steps G_law_is_by G_law_by G_law_pick Gis_sorted_by G_law_row Gstep_classes n))
    (sKeep [1, 7, 8, 12, 13] (sCons (sIf (mB (mBin neD (mCallB reprD (aCons (mCall Gsorted_by_steps (fCons (mVar 7) (fCons (mVar 12) (fNil)))) (aNil))) (mCallB reprD (aCons (mVar 13) (aNil))))) (sCons (sRet (mC (.bool false)))
    (sNil)) (sNil))
    (sCons (sIf (mB (mBin neD (Claw_1 Gsorted_by Gsorted_by_steps G_law_is_by G_law_by G_law_pick Gis_sorted_by G_law_row Gstep_classes) (mLst (fNil)))) (sCons (sRet (mC (.bool false)))
    (sNil)) (sNil))
    (sCons (sIf (mOrT (mB (mBin neD (mCallB listD (aCons (mCall Gsorted_by_steps (fCons (mVar 7) (fCons (mBin addD (mVar 12) (mTup (fCons (mC (.int 1)) (fNil)))) (fNil)))) (aNil))) (mCallB sortedA (aCons (mVar 7) (aNil))))) (mB (mBin neD (mCallB reprD (aCons (mVar 7) (aNil))) (mVar 8)))) (sCons (sRet (mC (.bool false)))
    (sNil)) (sNil))
    (sNil)))))))))))))))))))
noncomputable def Blaw (Gsorted_by : List PyData → Option R) (Gsorted_by_steps : List PyData → Option R) (G_law_is_by : List PyData → Option R) (G_law_by : List PyData → Option R) (G_law_pick : List PyData → Src → Option (R × Src)) (Gis_sorted_by : List PyData → Option R) (G_law_row : List PyData → Src → Option (R × Src)) (Gstep_classes : List PyData → Option R) (n : Nat) : MS :=
    sCons (sFor (tKeep [1] (tName 2)) (iRg1 (mC (.int 6))) (Ylaw_2 Gsorted_by Gsorted_by_steps G_law_is_by G_law_by G_law_pick Gis_sorted_by G_law_row Gstep_classes n))
    (sKeep [] (sCons (sRet (mBin eqD2 (mCall Gsorted_by (fCons (mTup (fCons (mC (.int 3)) (fCons (mC (.int 1)) (fCons (mC (.int 4)) (fCons (mC (.int 0)) (fCons (mC (.int 2)) (fNil))))))) (fCons (mC (.int 2)) (fNil)))) (mTup (fCons (mC (.int 2)) (fCons (mC (.int 0)) (fCons (mC (.int 3)) (fCons (mC (.int 1)) (fCons (mC (.int 4)) (fNil)))))))))
    (sNil)))
theorem bvlaw {P : Program} {w : World} {K : PySem.W.Frag} {mg : Str → Option Value} {base : Heap} {f : Addr} {k : Nat} (Gsorted_by : List PyData → Option R) (Gsorted_by_steps : List PyData → Option R) (G_law_is_by : List PyData → Option R) (G_law_by : List PyData → Option R) (G_law_pick : List PyData → Src → Option (R × Src)) (Gis_sorted_by : List PyData → Option R) (G_law_row : List PyData → Src → Option (R × Src)) (Gstep_classes : List PyData → Option R) (m_int : mg "int" = none) (m_list : mg "list" = none) (m_range : mg "range" = none) (m_repr : mg "repr" = none) (m_sorted : mg "sorted" = none) (m_tuple : mg "tuple" = none) (Csorted_by : CalG P w K mg base k "sorted_by" (spP 2 Gsorted_by)) (Lsorted_by : ∀ ds r, Gsorted_by ds = some r → ds.length = 2) (Csorted_by_steps : CalG P w K mg base k "sorted_by_steps" (spP 2 Gsorted_by_steps)) (Lsorted_by_steps : ∀ ds r, Gsorted_by_steps ds = some r → ds.length = 2) (C_law_is_by : CalG P w K mg base k "_law_is_by" (spP 2 G_law_is_by)) (L_law_is_by : ∀ ds r, G_law_is_by ds = some r → ds.length = 2) (C_law_by : CalG P w K mg base k "_law_by" (spP 2 G_law_by)) (L_law_by : ∀ ds r, G_law_by ds = some r → ds.length = 2) (C_law_pick : CalG P w K mg base k "_law_pick" (spS 2 G_law_pick)) (L_law_pick : ∀ ds z r, G_law_pick ds z = some r → ds.length + 1 = 2) (Cis_sorted_by : CalG P w K mg base k "is_sorted_by" (spP 2 Gis_sorted_by)) (Lis_sorted_by : ∀ ds r, Gis_sorted_by ds = some r → ds.length = 2) (C_law_row : CalG P w K mg base k "_law_row" (spS 2 G_law_row)) (L_law_row : ∀ ds z r, G_law_row ds z = some r → ds.length + 1 = 2) (Cstep_classes : CalG P w K mg base k "step_classes" (spP 2 Gstep_classes)) (Lstep_classes : ∀ ds r, Gstep_classes ds = some r → ds.length = 2) (cdv : Value) (A : Around) (outer : List Env) (s : Shared) (H : Hp) (E : XK)
    (hr : Room k (A.deeper (envOfC "law" (defScope slaw) s.heap.objs.size f cdv))) (g : Gd (cxOf CX0 P w K mg base ["script", "source", "lap", "n", "h", "k", "classes", "row", "kept", "due", "one", "late", "steps", "told", "step", "r", "i", "some", "turn"] "law" (defScope slaw) f cdv A outer s H E).nox) (n : Nat) :
    BV (cxOf CX0 P w K mg base ["script", "source", "lap", "n", "h", "k", "classes", "row", "kept", "due", "one", "late", "steps", "told", "step", "r", "i", "some", "turn"] "law" (defScope slaw) f cdv A outer s H E).nox ((defBody slaw).drop 1) (Blaw Gsorted_by Gsorted_by_steps G_law_is_by G_law_by G_law_pick Gis_sorted_by G_law_row Gstep_classes n) :=
  bv_cons (sv_for g (iv_range1 (by rfl) m_range (ev_int)) (gv_keep (gv_name (i := 2) g rfl (.inl rfl))) (bv_shut (bv_cons (sv_asg (i := 3) g rfl (.inr rfl) (ev_bin d_add (ev_int) (ev_callS (i := 1) C_law_pick g hr (by rfl) rfl (.inr (.inl (by kernel_rfl))) (fv_cons (ev_ix (ev_lst (fv_cons (ev_int) (fv_cons (ev_int) (fv_cons (ev_int) (fv_cons (ev_int) (fv_nil)))))) (ev_callS (i := 1) C_law_pick g hr (by rfl) rfl (.inr (.inl (by kernel_rfl))) (fv_cons (ev_int) (fv_nil)) L_law_pick)) (fv_nil)) L_law_pick)))
    (bv_cons (sv_parC (i := 4) (j := 5) g rfl rfl (.inr rfl) (.inl rfl) (ev_bin d_add (ev_int) (ev_callS (i := 1) C_law_pick g hr (by rfl) rfl (.inr (.inl (by kernel_rfl))) (fv_cons (ev_int) (fv_nil)) L_law_pick)) (ev_bin d_add (ev_int) (ev_callS (i := 1) C_law_pick g hr (by rfl) rfl (.inr (.inl (by kernel_rfl))) (fv_cons (ev_int) (fv_nil)) L_law_pick)))
    (bv_cons (sv_shutA (sv_asgLc (i := 6) g (own := [("r", 15)]) rfl rfl (sw_true rfl rfl rfl (by decide +kernel)) (iv_range1 (by rfl) m_range (ev_var (i := 4) rfl (.inr (.inl (by kernel_rfl))))) (blkOk_by (N := ["script", "source", "lap", "n", "h", "k", "classes", "row", "kept", "due", "one", "late", "steps", "told", "step", "r", "i", "some", "turn"]) (own := [("r", 15)]) (sc := defScope slaw) (by decide +kernel)) rfl (by decide) (fun s_ H_ C_ cl_ fp_ => have g1 := (g).blk s_ H_ _ _ fp_; gv_name (i := 15) g1 rfl (.inr rfl)) (fun _ _ _ _ _ => tvs_nil) (fun s_ H_ C_ cl_ fp_ => have g1 := (g).blk s_ H_ _ _ fp_; ev_callTy c_tuple (by rfl) m_tuple bt_tuple (av_cons (ev_shut (ev_comp g1 (own := [("i", 16)]) (iv_range1 (by rfl) m_range (ev_var (i := 3) rfl (.inr (.inl (by kernel_rfl))))) (blkOk_by (N := ["script", "source", "lap", "n", "h", "k", "classes", "row", "kept", "due", "one", "late", "steps", "told", "step", "r", "i", "some", "turn"]) (own := [("i", 16)]) (by kernel_rfl)) rfl (by decide) (fun s_ H_ C_ cl_ fp_ => have g2 := (g1).blk s_ H_ _ _ fp_; gv_name (i := 16) g2 rfl (.inl rfl)) (fun s_ H_ C_ cl_ fp_ => have g2 := (g1).blk s_ H_ _ _ fp_; tvs_one (tv_cmp (d_eq2 g2) (ev_bin d_mod (ev_callTy c_int (by rfl) m_int bt_int (av_cons (ev_var (i := 16) rfl (.inl rfl)) (av_nil))) (ev_var (i := 4) rfl (.inr (.inl (by kernel_rfl))))) (ev_var (i := 15) rfl (.inr (.inl (by kernel_rfl)))) (nomark _))) (fun _ _ _ _ _ => ev_var (i := 16) rfl (.inl rfl)))) (av_nil)))))
    (bv_cons (sv_if (tv_cmp (d_ne g) (ev_callB (c_repr g) (by rfl) m_repr bt_repr (av_cons (ev_call Cstep_classes g hr (by rfl) (fv_cons (ev_var (i := 3) rfl (.inr (.inl (by kernel_rfl)))) (fv_cons (ev_var (i := 4) rfl (.inr (.inl (by kernel_rfl)))) (fv_nil))) Lstep_classes) (av_nil))) (ev_callB (c_repr g) (by rfl) m_repr bt_repr (av_cons (ev_callTy c_tuple (by rfl) m_tuple bt_tuple (av_cons (ev_shut (ev_comp g (own := [("some", 17)]) (iv_seq (ev_var (i := 6) rfl (.inl rfl))) (blkOk_by (N := ["script", "source", "lap", "n", "h", "k", "classes", "row", "kept", "due", "one", "late", "steps", "told", "step", "r", "i", "some", "turn"]) (own := [("some", 17)]) (sc := defScope slaw) (by decide +kernel)) rfl (by decide) (fun s_ H_ C_ cl_ fp_ => have g1 := (g).blk s_ H_ _ _ fp_; gv_name (i := 17) g1 rfl (.inl rfl)) (fun s_ H_ C_ cl_ fp_ => have g1 := (g).blk s_ H_ _ _ fp_; tvs_one (tv_cmp (d_ne g1) (ev_var (i := 17) rfl (.inl rfl)) (ev_tup (fv_nil)) (nomark _))) (fun _ _ _ _ _ => ev_var (i := 17) rfl (.inl rfl)))) (av_nil))) (av_nil))) (nomark _)) (bv_cons (sv_ret (ev_bl))
    (bv_nil)) (bv_nil))
    (bv_cons (sv_asg (i := 7) g rfl (.inl rfl) (ev_callS (i := 1) C_law_row g hr (by rfl) rfl (.inr (.inl (by kernel_rfl))) (fv_cons (ev_var (i := 3) rfl (.inr (.inl (by kernel_rfl)))) (fv_nil)) L_law_row))
    (bv_cons (sv_par (i := 8) (j := 9) g rfl rfl (by decide) rfl rfl (ev_callB (c_repr g) (by rfl) m_repr bt_repr (av_cons (ev_var (i := 7) rfl (.inl rfl)) (av_nil))) (ev_call C_law_by g hr (by rfl) (fv_cons (ev_var (i := 7) rfl (.inl rfl)) (fv_cons (ev_var (i := 4) rfl (.inr (.inl (by kernel_rfl)))) (fv_nil))) L_law_by))
    (bv_cons (sv_if ((tw_or (tv_cmp (d_ne g) (ev_callB (c_repr g) (by rfl) m_repr bt_repr (av_cons (ev_call Csorted_by g hr (by rfl) (fv_cons (ev_var (i := 7) rfl (.inl rfl)) (fv_cons (ev_var (i := 4) rfl (.inr (.inl (by kernel_rfl)))) (fv_nil))) Lsorted_by) (av_nil))) (ev_callB (c_repr g) (by rfl) m_repr bt_repr (av_cons (ev_var (i := 9) rfl (.inl rfl)) (av_nil))) (nomark _)) (tw_or1 (tv_cmp (d_ne g) (ev_callB (c_repr g) (by rfl) m_repr bt_repr (av_cons (ev_call Cis_sorted_by g hr (by rfl) (fv_cons (ev_var (i := 7) rfl (.inl rfl)) (fv_cons (ev_var (i := 4) rfl (.inr (.inl (by kernel_rfl)))) (fv_nil))) Lis_sorted_by) (av_nil))) (ev_callB (c_repr g) (by rfl) m_repr bt_repr (av_cons (ev_call C_law_is_by g hr (by rfl) (fv_cons (ev_var (i := 7) rfl (.inl rfl)) (fv_cons (ev_var (i := 4) rfl (.inr (.inl (by kernel_rfl)))) (fv_nil))) L_law_is_by) (av_nil))) (nomark _)))).tv) (bv_cons (sv_ret (ev_bl))
    (bv_nil)) (bv_nil))
    (bv_cons (sv_if ((tw_or (tv_cmp d_isNot (ev_call Cis_sorted_by g hr (by rfl) (fv_cons (ev_var (i := 9) rfl (.inl rfl)) (fv_cons (ev_var (i := 4) rfl (.inr (.inl (by kernel_rfl)))) (fv_nil))) Lis_sorted_by) (ev_bl) (nomark _)) (tw_or1 (tv_cmp (d_ne g) (ev_callB c_sortedA (by rfl) m_sorted bt_sorted (av_cons (ev_var (i := 9) rfl (.inl rfl)) (av_nil))) (ev_callB c_sortedA (by rfl) m_sorted bt_sorted (av_cons (ev_var (i := 7) rfl (.inl rfl)) (av_nil))) (nomark _)))).tv) (bv_cons (sv_ret (ev_bl))
    (bv_nil)) (bv_nil))
    (bv_cons (sv_asg (i := 10) g rfl (.inl rfl) (ev_call Csorted_by g hr (by rfl) (fv_cons (ev_var (i := 7) rfl (.inl rfl)) (fv_cons (ev_var (i := 5) rfl (.inl rfl)) (fv_nil))) Lsorted_by))
    (bv_cons (sv_asg (i := 11) g rfl (.inl rfl) (ev_call Csorted_by g hr (by rfl) (fv_cons (ev_var (i := 10) rfl (.inl rfl)) (fv_cons (ev_var (i := 4) rfl (.inr (.inl (by kernel_rfl)))) (fv_nil))) Lsorted_by))
    (bv_cons (sv_if ((tw_or (tv_cmp d_isNot (ev_call Cis_sorted_by g hr (by rfl) (fv_cons (ev_var (i := 11) rfl (.inl rfl)) (fv_cons (ev_var (i := 5) rfl (.inl rfl)) (fv_nil))) Lis_sorted_by) (ev_bl) (nomark _)) (tw_or (tv_not (tv_tru (ev_call C_law_is_by g hr (by rfl) (fv_cons (ev_var (i := 11) rfl (.inl rfl)) (fv_cons (ev_var (i := 5) rfl (.inl rfl)) (fv_nil))) L_law_is_by))) (tw_or1 (tv_not (tv_tru (ev_call C_law_is_by g hr (by rfl) (fv_cons (ev_var (i := 11) rfl (.inl rfl)) (fv_cons (ev_var (i := 4) rfl (.inr (.inl (by kernel_rfl)))) (fv_nil))) L_law_is_by)))))).tv) (bv_cons (sv_ret (ev_bl))
    (bv_nil)) (bv_nil))
    (bv_cons (sv_asg (i := 12) g rfl (.inl rfl) (ev_callTy c_tuple (by rfl) m_tuple bt_tuple (av_cons (ev_shut (ev_comp g (own := [("turn", 18)]) (iv_range1 (by rfl) m_range (ev_callS (i := 1) C_law_pick g hr (by rfl) rfl (.inr (.inl (by kernel_rfl))) (fv_cons (ev_int) (fv_nil)) L_law_pick)) (blkOk_by (N := ["script", "source", "lap", "n", "h", "k", "classes", "row", "kept", "due", "one", "late", "steps", "told", "step", "r", "i", "some", "turn"]) (own := [("turn", 18)]) (sc := defScope slaw) (by decide +kernel)) rfl (by decide) (fun s_ H_ C_ cl_ fp_ => have g1 := (g).blk s_ H_ _ _ fp_; gv_name (i := 18) g1 rfl (.inl rfl)) (fun _ _ _ _ _ => tvs_nil) (fun s_ H_ C_ cl_ fp_ => have g1 := (g).blk s_ H_ _ _ fp_; ev_bin d_add (ev_int) (ev_callS (i := 1) C_law_pick g1 hr (by rfl) rfl (.inr (.inl (by kernel_rfl))) (fv_cons (ev_int) (fv_nil)) L_law_pick)))) (av_nil))))
    (bv_cons (sv_asg (i := 13) g rfl (.inr rfl) (ev_var (i := 7) rfl (.inl rfl)))
    (bv_cons (sv_for g (iv_seq (ev_var (i := 12) rfl (.inl rfl))) (gv_keep (gv_name (i := 14) g rfl (.inl rfl))) (bv_shut (bv_cons (sv_asg (i := 13) g rfl (.inr rfl) (ev_call C_law_by g hr (by rfl) (fv_cons (ev_var (i := 13) rfl (.inr (.inl (by kernel_rfl)))) (fv_cons (ev_var (i := 14) rfl (.inl rfl)) (fv_nil))) L_law_by))
    (bv_nil))))
    (bv_keep (bv_cons (sv_if (tv_cmp (d_ne g) (ev_callB (c_repr g) (by rfl) m_repr bt_repr (av_cons (ev_call Csorted_by_steps g hr (by rfl) (fv_cons (ev_var (i := 7) rfl (.inl rfl)) (fv_cons (ev_var (i := 12) rfl (.inl rfl)) (fv_nil))) Lsorted_by_steps) (av_nil))) (ev_callB (c_repr g) (by rfl) m_repr bt_repr (av_cons (ev_var (i := 13) rfl (.inr (.inl (by kernel_rfl)))) (av_nil))) (nomark _)) (bv_cons (sv_ret (ev_bl))
    (bv_nil)) (bv_nil))
    (bv_cons (sv_if (tv_cmp (d_ne g) (ev_shut (ev_comp g (own := [("step", 14)]) (iv_seq (ev_var (i := 12) rfl (.inl rfl))) (blkOk_by (N := ["script", "source", "lap", "n", "h", "k", "classes", "row", "kept", "due", "one", "late", "steps", "told", "step", "r", "i", "some", "turn"]) (own := [("step", 14)]) (sc := defScope slaw) (by decide +kernel)) rfl (by decide) (fun s_ H_ C_ cl_ fp_ => have g1 := (g).blk s_ H_ _ _ fp_; gv_name (i := 14) g1 rfl (.inl rfl)) (fun s_ H_ C_ cl_ fp_ => have g1 := (g).blk s_ H_ _ _ fp_; tvs_one (tv_not (tv_tru (ev_call C_law_is_by g1 hr (by rfl) (fv_cons (ev_var (i := 13) rfl (.inr (.inl (by kernel_rfl)))) (fv_cons (ev_var (i := 14) rfl (.inl rfl)) (fv_nil))) L_law_is_by)))) (fun _ _ _ _ _ => ev_var (i := 14) rfl (.inl rfl)))) (ev_lst (fv_nil)) (nomark _)) (bv_cons (sv_ret (ev_bl))
    (bv_nil)) (bv_nil))
    (bv_cons (sv_if ((tw_or (tv_cmp (d_ne g) (ev_callTy c_list (by rfl) m_list bt_list (av_cons (ev_call Csorted_by_steps g hr (by rfl) (fv_cons (ev_var (i := 7) rfl (.inl rfl)) (fv_cons (ev_bin d_add (ev_var (i := 12) rfl (.inl rfl)) (ev_tup (fv_cons (ev_int) (fv_nil)))) (fv_nil))) Lsorted_by_steps) (av_nil))) (ev_callB c_sortedA (by rfl) m_sorted bt_sorted (av_cons (ev_var (i := 7) rfl (.inl rfl)) (av_nil))) (nomark _)) (tw_or1 (tv_cmp (d_ne g) (ev_callB (c_repr g) (by rfl) m_repr bt_repr (av_cons (ev_var (i := 7) rfl (.inl rfl)) (av_nil))) (ev_var (i := 8) rfl (.inl rfl)) (nomark _)))).tv) (bv_cons (sv_ret (ev_bl))
    (bv_nil)) (bv_nil))
    (bv_nil)))))))))))))))))))))
    (bv_keep (bv_cons (sv_ret (ev_cmp (d_eq2 g) (ev_call Csorted_by g hr (by rfl) (fv_cons (ev_tup (fv_cons (ev_int) (fv_cons (ev_int) (fv_cons (ev_int) (fv_cons (ev_int) (fv_cons (ev_int) (fv_nil))))))) (fv_cons (ev_int) (fv_nil))) Lsorted_by) (ev_tup (fv_cons (ev_int) (fv_cons (ev_int) (fv_cons (ev_int) (fv_cons (ev_int) (fv_cons (ev_int) (fv_nil))))))) (nomark _)))
    (bv_nil)))
end K76
set_option Elab.async false
set_option linter.all false
set_option maxRecDepth 100000
set_option maxHeartbeats 4000000
/-! M76: what is sorted by k stays so when it is sorted by h -/
namespace M76
open PySem NV
/-- sorted by h -/
def Sb (L : List Int) (h : Nat) : Prop := ∀ i, i + h < L.length → nth L i ≤ nth L (i + h)
theorem mod_cancel {h p q k : Nat} (e : (p + k) % h = (q + k) % h) : p % h = q % h := by
  have e1 : ((p + k : Nat) : Int) % (h : Int) = ((q + k : Nat) : Int) % (h : Int) := by
    rw [← Int.natCast_emod, ← Int.natCast_emod, e]
  have e2 := Int.emod_emod_of_dvd (((p + k : Nat) : Int)) (Int.dvd_refl (h : Int))
  have e3 : ((p : Int)) % (h : Int) = ((q : Int)) % (h : Int) := by
    have a1 : (p : Int) = ((p + k : Nat) : Int) - (k : Int) := by omega
    have a2 : (q : Int) = ((q + k : Nat) : Int) - (k : Int) := by omega
    rw [a1, a2, Int.sub_emod, e1, ← Int.sub_emod]
  have e4 : ((p % h : Nat) : Int) = ((q % h : Nat) : Int) := by rw [Int.natCast_emod, Int.natCast_emod, e3]
  omega
theorem mod_add {h p q k : Nat} (e : p % h = q % h) : (p + k) % h = (q + k) % h := by
  rw [Nat.add_mod, e, ← Nat.add_mod]
/-- within a class the order is whole -/
theorem Sb.le {L : List Int} {h : Nat} (s : Sb L h) (hh : 1 ≤ h) : ∀ (d i j : Nat), j - i ≤ d → i ≤ j → j < L.length → i % h = j % h → nth L i ≤ nth L j
  | 0, i, j, hd, hij, hj, hm => by
    have : i = j := by omega
    subst this; exact Int.le_refl _
  | d + 1, i, j, hd, hij, hj, hm => by
    by_cases e : i = j
    · subst e; exact Int.le_refl _
    · -- i + h ≤ j
      have hdv : h ∣ j - i := Nat.dvd_of_mod_eq_zero (Nat.sub_mod_eq_zero_of_mod_eq hm.symm)
      have hle : h ≤ j - i := Nat.le_of_dvd (by omega) hdv
      have h1 := s i (by omega)
      have h2 := Sb.le s hh d (i + h) j (by omega) (by omega) hj (by rw [Nat.add_mod_right]; exact hm)
      omega
/-- how many of the first n satisfy p -/
abbrev cnt (n : Nat) (p : Nat → Bool) : Nat := (List.range n).countP p
theorem cnt_mono {n : Nat} {p q : Nat → Bool} (h : ∀ i, i < n → p i = true → q i = true) : cnt n p ≤ cnt n q :=
  List.countP_mono_left fun i hi hp => h i (List.mem_range.mp hi) hp
theorem cnt_split (k m : Nat) (p : Nat → Bool) : cnt (k + m) p = cnt k p + cnt m (fun i => p (k + i)) := by
  show (List.range (k + m)).countP p = _
  rw [List.range_add, List.countP_append, List.countP_map]
  rfl
theorem cnt_succ (n : Nat) (p : Nat → Bool) : cnt (n + 1) p = cnt n p + (if p n = true then 1 else 0) := by
  show (List.range (n + 1)).countP p = _
  rw [List.range_succ, List.countP_append, List.countP_singleton]
theorem cnt_le {n m : Nat} (h : n ≤ m) (p : Nat → Bool) : cnt n p ≤ cnt m p := by
  obtain ⟨d, rfl⟩ := Nat.exists_eq_add_of_le h
  rw [cnt_split]
  exact Nat.le_add_right _ _
/-- the two rows have the same members in each class, counted -/
def Same (L F : List Int) (h : Nat) : Prop := ∀ (r : Nat) (b : Int), cnt L.length (fun p => decide (p % h = r ∧ nth L p ≤ b)) = cnt L.length (fun p => decide (p % h = r ∧ nth F p ≤ b))
theorem stays {L F : List Int} {h k : Nat} (hh : 1 ≤ h) (hk : 1 ≤ k) (hl : F.length = L.length) (sk : Sb L k) (sF : Sb F h) (sm : Same L F h) : Sb F k := by
  intro i hi
  rw [hl] at hi
  by_cases hlt : nth F (i + k) < nth F i
  · exfalso
    -- a > b
    have hB := sm ((i + k) % h) (nth F (i + k))
    have hA := sm (i % h) (nth F (i + k))
    generalize hb : nth F (i + k) = b at hB hA hlt
    -- in F all of B up to i + k are at most b
    have c1 : cnt (i + k + 1) (fun q => decide (q % h = (i + k) % h)) ≤ cnt L.length (fun p => decide (p % h = (i + k) % h ∧ nth F p ≤ b)) := by
      refine Nat.le_trans (cnt_mono (q := fun p => decide (p % h = (i + k) % h ∧ nth F p ≤ b)) fun q hq e => ?_) (cnt_le (by omega) _)
      have e' := of_decide_eq_true e
      refine decide_eq_true ⟨e', ?_⟩
      rw [← hb]
      exact Sb.le sF hh _ q (i + k) (Nat.le_refl _) (by omega) (by omega) e'
    -- all of A from i on are above b
    have c2 : cnt L.length (fun p => decide (p % h = i % h ∧ nth F p ≤ b)) ≤ cnt i (fun p => decide (p % h = i % h)) := by
      obtain ⟨d, hd⟩ := Nat.exists_eq_add_of_le (show i ≤ L.length by omega)
      rw [hd, cnt_split]
      have z : cnt d (fun j => decide ((i + j) % h = i % h ∧ nth F (i + j) ≤ b)) = 0 := by
        refine List.countP_eq_zero.mpr fun j hj e => ?_
        have hj' := List.mem_range.mp hj
        have e' := of_decide_eq_true e
        have := Sb.le sF hh _ i (i + j) (Nat.le_refl _) (by omega) (by omega) e'.1.symm
        omega
      rw [z, Nat.add_zero]
      exact cnt_mono fun p hp e => decide_eq_true (of_decide_eq_true e).1
    -- of L: B minus its first k places goes into A
    have c3 : cnt L.length (fun p => decide (p % h = (i + k) % h ∧ nth L p ≤ b)) ≤ cnt k (fun q => decide (q % h = (i + k) % h)) + cnt L.length (fun p => decide (p % h = i % h ∧ nth L p ≤ b)) := by
      obtain ⟨d, hd⟩ := Nat.exists_eq_add_of_le (show k ≤ L.length by omega)
      conv => lhs; rw [hd, cnt_split]
      refine Nat.add_le_add (cnt_mono fun p hp e => decide_eq_true (of_decide_eq_true e).1) ?_
      refine Nat.le_trans (cnt_mono (q := fun p => decide (p % h = i % h ∧ nth L p ≤ b)) fun p hp e => ?_) (cnt_le (by omega) _)
      have e' := of_decide_eq_true e
      refine decide_eq_true ⟨mod_cancel (k := k) (by rw [Nat.add_comm p k]; exact e'.1), ?_⟩
      have := sk p (by omega)
      have e2 := e'.2
      rw [Nat.add_comm k p] at e2
      omega
    have c4 : cnt (i + k + 1) (fun q => decide (q % h = (i + k) % h)) = cnt k (fun q => decide (q % h = (i + k) % h)) + cnt (i + 1) (fun p => decide (p % h = i % h)) := by
      rw [show i + k + 1 = k + (i + 1) from by omega, cnt_split]
      congr 1
      refine List.countP_congr fun p _ => ?_
      rw [decide_eq_true_iff, decide_eq_true_iff, Nat.add_comm k p]
      exact ⟨mod_cancel, mod_add⟩
    have c5 := cnt_succ i (fun p => decide (p % h = i % h))
    rw [if_pos (decide_eq_true rfl)] at c5
    omega
  · omega
theorem cnt_two {n a b : Nat} {p q : Nat → Bool} (hab : a < b) (hb : b < n) (ho : ∀ j, j ≠ a → j ≠ b → p j = q j) (h1 : p a = q b) (h2 : p b = q a) : cnt n p = cnt n q := by
  obtain ⟨d, hd⟩ := Nat.exists_eq_add_of_le (show a + 1 ≤ b by omega)
  obtain ⟨e, he⟩ := Nat.exists_eq_add_of_le (show b + 1 ≤ n by omega)
  have sp : ∀ f : Nat → Bool, cnt n f = cnt a f + (if f a = true then 1 else 0) + cnt d (fun i => f (a + 1 + i)) + (if f b = true then 1 else 0) + cnt e (fun i => f (b + 1 + i)) := fun f => by
    rw [he, cnt_split, cnt_succ]
    have : cnt b f = cnt a f + (if f a = true then 1 else 0) + cnt d (fun i => f (a + 1 + i)) := by
      rw [hd, cnt_split, cnt_succ]
    rw [this]
  rw [sp p, sp q, h1, h2]
  have c1 : cnt a p = cnt a q := List.countP_congr fun j hj => by rw [ho j (Nat.ne_of_lt (List.mem_range.mp hj)) (by have := List.mem_range.mp hj; omega)]
  have c2 : cnt d (fun i => p (a + 1 + i)) = cnt d (fun i => q (a + 1 + i)) := List.countP_congr fun j hj => by
    have := List.mem_range.mp hj
    rw [ho (a + 1 + j) (by omega) (by omega)]
  have c3 : cnt e (fun i => p (b + 1 + i)) = cnt e (fun i => q (b + 1 + i)) := List.countP_congr fun j hj => by
    rw [ho (b + 1 + j) (by omega) (by omega)]
  omega
theorem Same.refl (L : List Int) (h : Nat) : Same L L h := fun r b => rfl
theorem Same.trans {L F G : List Int} {h : Nat} (hl : F.length = L.length) (a : Same L F h) (b : Same F G h) : Same L G h := fun r c => (a r c).trans (by have := b r c; rw [hl] at this; exact this)
theorem Same.symm {L F : List Int} {h : Nat} (hl : F.length = L.length) (a : Same L F h) : Same F L h := fun r b => by rw [hl]; exact (a r b).symm
theorem same_swap {L F : List Int} {h a b : Nat} (hab : a < b) (hb : b < L.length) (hm : a % h = b % h) (ho : ∀ j, j ≠ a → j ≠ b → nth F j = nth L j) (h1 : nth F a = nth L b) (h2 : nth F b = nth L a) : Same L F h := fun r c =>
  cnt_two hab hb (fun j ja jb => by rw [ho j ja jb]) (by rw [h2, hm]) (by rw [h1, hm])
/-- two rows sorted by h with the same members in each class are one -/
theorem only {F G : List Int} {h : Nat} (hh : 1 ≤ h) (hl : G.length = F.length) (sF : Sb F h) (sG : Sb G h) (sm : Same F G h) : ∀ i, i < F.length → nth G i ≤ nth F i := fun i hi => by
  by_cases hlt : nth F i < nth G i
  · exfalso
    have hA := sm (i % h) (nth F i)
    have c1 : cnt (i + 1) (fun q => decide (q % h = i % h)) ≤ cnt F.length (fun p => decide (p % h = i % h ∧ nth F p ≤ nth F i)) := by
      refine Nat.le_trans (cnt_mono (q := fun p => decide (p % h = i % h ∧ nth F p ≤ nth F i)) fun q hq e => ?_) (cnt_le (by omega) _)
      have e' := of_decide_eq_true e
      exact decide_eq_true ⟨e', Sb.le sF hh _ q i (Nat.le_refl _) (by omega) hi e'⟩
    have c2 : cnt F.length (fun p => decide (p % h = i % h ∧ nth G p ≤ nth F i)) ≤ cnt i (fun p => decide (p % h = i % h)) := by
      obtain ⟨d, hd⟩ := Nat.exists_eq_add_of_le (show i ≤ F.length by omega)
      rw [hd, cnt_split]
      have z : cnt d (fun j => decide ((i + j) % h = i % h ∧ nth G (i + j) ≤ nth F i)) = 0 := by
        refine List.countP_eq_zero.mpr fun j hj e => ?_
        have hj' := List.mem_range.mp hj
        have e' := of_decide_eq_true e
        have := Sb.le sG hh _ i (i + j) (Nat.le_refl _) (by omega) (by omega) e'.1.symm
        omega
      rw [z, Nat.add_zero]
      exact cnt_mono fun p hp e => decide_eq_true (of_decide_eq_true e).1
    have c5 := cnt_succ i (fun p => decide (p % h = i % h))
    rw [if_pos (decide_eq_true rfl)] at c5
    omega
  · omega
theorem row_ext {F G : List Int} (hl : G.length = F.length) (h : ∀ i, i < F.length → nth F i = nth G i) : F = G := by
  apply List.ext_getElem?
  intro i
  by_cases hi : i < F.length
  · rw [nth_get hi, nth_get (by omega), h i hi]
  · rw [List.getElem?_eq_none (by omega), List.getElem?_eq_none (by omega)]
theorem the_one {F G : List Int} {h : Nat} (hh : 1 ≤ h) (hl : G.length = F.length) (sF : Sb F h) (sG : Sb G h) (sm : Same F G h) : F = G :=
  row_ext hl fun i hi => Int.le_antisymm (only hh hl.symm sG sF (sm.symm hl) i (by omega)) (only hh hl sF sG sm i hi)
end M76
set_option Elab.async false
set_option linter.all false
set_option maxRecDepth 100000
set_option maxHeartbeats 4000000
namespace K76
open PySem PySem.Spec PyProof.Rows L2 NV M76
/-! sorting by h -/
def T (ns : List Int) (h : Nat) : List Nat := (List.range (ns.length - h)).filter fun i => decide (nth ns (i + h) < nth ns i)
theorem mem_T {ns : List Int} {h i : Nat} : i ∈ T ns h ↔ i + h < ns.length ∧ nth ns (i + h) < nth ns i := by
  unfold T
  rw [List.mem_filter, List.mem_range, decide_eq_true_iff]
  constructor
  · rintro ⟨a, b⟩; exact ⟨by omega, b⟩
  · rintro ⟨a, b⟩; exact ⟨by omega, b⟩
def stepL (h : Nat) (L : List Int) (i : Nat) : List Int := (L.set i (min (nth L i) (nth L (i + h)))).set (i + h) (max (nth L i) (nth L (i + h)))
theorem stepL_len (h : Nat) (L : List Int) (i : Nat) : (stepL h L i).length = L.length := by unfold stepL; rw [List.length_set, List.length_set]
def passL (h : Nat) (L : List Int) (is : List Nat) : List Int := is.foldl (stepL h) L
theorem passL_len (h : Nat) : ∀ (is : List Nat) (L : List Int), (passL h L is).length = L.length
  | [], L => rfl
  | i :: is, L => by
    show (passL h (stepL h L i) is).length = _
    rw [passL_len h is, stepL_len]
/-- the weighted sum -/
def pot : Nat → List Int → Int
  | _, [] => 0
  | k, x :: L => (k : Int) * x + pot (k + 1) L
theorem pot_set : ∀ (L : List Int) (k i : Nat) (x : Int), i < L.length → pot k (L.set i x) = pot k L + ((k + i : Nat) : Int) * (x - nth L i)
  | [], _, _, _, h => by simp at h
  | y :: L, k, 0, x, _ => by
    show (k : Int) * x + pot (k + 1) L = (k : Int) * y + pot (k + 1) L + ((k + 0 : Nat) : Int) * (x - y)
    have e : ((k + 0 : Nat) : Int) = (k : Int) := rfl
    rw [e, Int.mul_sub]; omega
  | y :: L, k, i + 1, x, h => by
    have ih := pot_set L (k + 1) i x (by simpa using h)
    show (k : Int) * y + pot (k + 1) (L.set i x) = (k : Int) * y + pot (k + 1) L + ((k + (i + 1) : Nat) : Int) * (x - nth L i)
    rw [ih, show k + 1 + i = k + (i + 1) from by omega]; omega
theorem pot_step {h : Nat} {L : List Int} {i : Nat} (hh : 1 ≤ h) (hi : i + h < L.length) : pot 0 L ≤ pot 0 (stepL h L i) ∧ (nth L (i + h) < nth L i → pot 0 L < pot 0 (stepL h L i)) := by
  have e1 := pot_set L 0 i (min (nth L i) (nth L (i + h))) (by omega)
  have e2 := pot_set (L.set i (min (nth L i) (nth L (i + h)))) 0 (i + h) (max (nth L i) (nth L (i + h))) (by rw [List.length_set]; omega)
  rw [nth_set (by omega), if_neg (by omega)] at e2
  unfold stepL
  rw [e2, e1]
  have e3 : ((0 + (i + h) : Nat) : Int) = (i : Int) + (h : Int) := by omega
  have e4 : ((0 + i : Nat) : Int) = (i : Int) := by omega
  rw [e3, e4]
  generalize nth L i = a
  generalize nth L (i + h) = b
  by_cases hab : a ≤ b
  · rw [Int.min_eq_left hab, Int.max_eq_right hab, Int.sub_self, Int.sub_self, Int.mul_zero, Int.mul_zero]
    exact ⟨by omega, fun q => by omega⟩
  · rw [Int.min_eq_right (by omega), Int.max_eq_left (by omega), Int.add_mul]
    have h1 : (i : Int) * (b - a) = -((i : Int) * (a - b)) := by rw [← Int.mul_neg]; congr 1; omega
    have h2 : 0 < (h : Int) * (a - b) := Int.mul_pos (by omega) (by omega)
    rw [h1]
    exact ⟨by omega, fun _ => by omega⟩
theorem pot_pass {h : Nat} (hh : 1 ≤ h) : ∀ (is : List Nat) (L : List Int), (∀ i ∈ is, i + h < L.length) → pot 0 L ≤ pot 0 (passL h L is)
  | [], L, _ => Int.le_refl _
  | i :: is, L, hi => by
    have h1 := (pot_step hh (hi i (List.mem_cons_self ..))).1
    have h2 := pot_pass hh is (stepL h L i) (fun j hj => by rw [stepL_len]; exact hi j (List.mem_cons_of_mem _ hj))
    show pot 0 L ≤ pot 0 (passL h (stepL h L i) is)
    omega
theorem pot_turn {h : Nat} {L : List Int} (hh : 1 ≤ h) (hT : T L h ≠ []) : pot 0 L < pot 0 (passL h L (T L h)) := by
  cases e : T L h with
  | nil => exact absurd e hT
  | cons i is =>
    have m : ∀ j ∈ i :: is, j + h < L.length ∧ nth L (j + h) < nth L j := fun j hj => mem_T.mp (by rw [e]; exact hj)
    have h1 := (pot_step hh (m i (List.mem_cons_self ..)).1).2 (m i (List.mem_cons_self ..)).2
    have h2 := pot_pass hh is (stepL h L i) (fun j hj => by rw [stepL_len]; exact (m j (List.mem_cons_of_mem _ hj)).1)
    show pot 0 L < pot 0 (passL h (stepL h L i) is)
    omega
theorem bd_set {M : Nat} {L : List Int} (h : ∀ x ∈ L, x.natAbs ≤ M) {i : Nat} {y : Int} (hy : y.natAbs ≤ M) : ∀ x ∈ L.set i y, x.natAbs ≤ M := fun x hx => by
  rcases List.mem_or_eq_of_mem_set hx with q | q
  · exact h x q
  · rw [q]; exact hy
theorem bd_step {M h : Nat} {L : List Int} {i : Nat} (b : ∀ x ∈ L, x.natAbs ≤ M) (hi : i + h < L.length) : ∀ x ∈ stepL h L i, x.natAbs ≤ M := by
  have b1 := b _ (nth_mem (ns := L) (i := i) (by omega))
  have b2 := b _ (nth_mem (ns := L) (i := i + h) hi)
  unfold stepL
  exact bd_set (bd_set b (by omega)) (by omega)
theorem bd_pass {M h : Nat} : ∀ (is : List Nat) (L : List Int), (∀ i ∈ is, i + h < L.length) → (∀ x ∈ L, x.natAbs ≤ M) → ∀ x ∈ passL h L is, x.natAbs ≤ M
  | [], L, _, b => b
  | i :: is, L, hi, b => bd_pass is (stepL h L i) (fun j hj => by rw [stepL_len]; exact hi j (List.mem_cons_of_mem _ hj)) (bd_step b (hi i (List.mem_cons_self ..)))
theorem pot_le {M : Nat} : ∀ (L : List Int) (k : Nat), (∀ x ∈ L, x.natAbs ≤ M) → pot k L ≤ ((L.length * ((k + L.length) * M) : Nat) : Int)
  | [], k, _ => by show (0 : Int) ≤ _; omega
  | x :: L, k, b => by
    have ih := pot_le L (k + 1) fun y hy => b y (List.mem_cons_of_mem _ hy)
    have bx := b x (List.mem_cons_self ..)
    have h1 : (k : Int) * x ≤ ((k * M : Nat) : Int) := by
      rw [Int.natCast_mul]
      exact Int.mul_le_mul_of_nonneg_left (by omega) (by omega)
    show (k : Int) * x + pot (k + 1) L ≤ (((L.length + 1) * ((k + (L.length + 1)) * M) : Nat) : Int)
    have e : (L.length + 1) * ((k + (L.length + 1)) * M) = L.length * ((k + 1 + L.length) * M) + (k + (L.length + 1)) * M := by
      rw [Nat.add_mul, Nat.one_mul, show k + (L.length + 1) = k + 1 + L.length from by omega]
    have e2 : k * M ≤ (k + (L.length + 1)) * M := Nat.mul_le_mul_right _ (by omega)
    omega
theorem pot_ge {M : Nat} : ∀ (L : List Int) (k : Nat), (∀ x ∈ L, x.natAbs ≤ M) → -((L.length * ((k + L.length) * M) : Nat) : Int) ≤ pot k L
  | [], k, _ => by show _ ≤ (0 : Int); omega
  | x :: L, k, b => by
    have ih := pot_ge L (k + 1) fun y hy => b y (List.mem_cons_of_mem _ hy)
    have bx := b x (List.mem_cons_self ..)
    have h1 : -((k * M : Nat) : Int) ≤ (k : Int) * x := by
      rw [Int.natCast_mul, ← Int.mul_neg]
      exact Int.mul_le_mul_of_nonneg_left (by omega) (by omega)
    show -(((L.length + 1) * ((k + (L.length + 1)) * M) : Nat) : Int) ≤ (k : Int) * x + pot (k + 1) L
    have e : (L.length + 1) * ((k + (L.length + 1)) * M) = L.length * ((k + 1 + L.length) * M) + (k + (L.length + 1)) * M := by
      rw [Nat.add_mul, Nat.one_mul, show k + (L.length + 1) = k + 1 + L.length from by omega]
    have e2 : k * M ≤ (k + (L.length + 1)) * M := Nat.mul_le_mul_right _ (by omega)
    omega
def byL : Nat → Nat → List Int → List Int
  | 0, _, L => L
  | f + 1, h, L => if T L h = [] then L else byL f h (passL h L (T L h))

theorem T_nil {L : List Int} {h : Nat} : T L h = [] ↔ Sb L h := by
  constructor
  · intro e i hi
    by_cases q : nth L (i + h) < nth L i
    · have : i ∈ T L h := mem_T.mpr ⟨hi, q⟩
      rw [e] at this; cases this
    · omega
  · intro s
    cases e : T L h with
    | nil => rfl
    | cons i is =>
      have m := mem_T.mp (by rw [e]; exact List.mem_cons_self .. : i ∈ T L h)
      have := s i m.1
      omega
theorem same_step {h : Nat} {L : List Int} {i : Nat} (hh : 1 ≤ h) (hi : i + h < L.length) : Same L (stepL h L i) h := by
  have n1 : ∀ j, nth (stepL h L i) j = if j = i + h then max (nth L i) (nth L (i + h)) else if j = i then min (nth L i) (nth L (i + h)) else nth L j := fun j => by
    unfold stepL
    rw [nth_set (by rw [List.length_set]; exact hi), nth_set (by omega)]
  by_cases c : nth L i ≤ nth L (i + h)
  · have : stepL h L i = L := by
      refine row_ext (stepL_len h L i).symm fun j hj => ?_
      rw [n1]
      by_cases e1 : j = i + h
      · subst e1; rw [if_pos rfl]; omega
      · rw [if_neg e1]
        by_cases e2 : j = i
        · subst e2; rw [if_pos rfl]; omega
        · rw [if_neg e2]
    rw [this]
    exact Same.refl L h
  · refine same_swap (a := i) (b := i + h) (by omega) hi (by rw [Nat.add_mod_right]) (fun j ja jb => ?_) ?_ ?_
    · rw [n1, if_neg jb, if_neg ja]
    · rw [n1, if_neg (by omega), if_pos rfl]; omega
    · rw [n1, if_pos rfl]; omega
theorem same_pass {h : Nat} (hh : 1 ≤ h) : ∀ (is : List Nat) (L : List Int), (∀ i ∈ is, i + h < L.length) → Same L (passL h L is) h
  | [], L, _ => Same.refl L h
  | i :: is, L, hi => by
    have h1 := same_step hh (hi i (List.mem_cons_self ..))
    have h2 := same_pass hh is (stepL h L i) (fun j hj => by rw [stepL_len]; exact hi j (List.mem_cons_of_mem _ hj))
    exact h1.trans (stepL_len h L i) h2
theorem byL_len (h : Nat) : ∀ (f : Nat) (L : List Int), (byL f h L).length = L.length
  | 0, L => rfl
  | f + 1, L => by
    unfold byL
    split
    · rfl
    · rw [byL_len h f, passL_len]
theorem byL_bd {M h : Nat} : ∀ (f : Nat) (L : List Int), (∀ x ∈ L, x.natAbs ≤ M) → ∀ x ∈ byL f h L, x.natAbs ≤ M
  | 0, L, b => b
  | f + 1, L, b => by
    unfold byL
    split
    · exact b
    · exact byL_bd f _ (bd_pass _ _ (fun j hj => (mem_T.mp hj).1) b)
theorem byL_same {h : Nat} (hh : 1 ≤ h) : ∀ (f : Nat) (L : List Int), Same L (byL f h L) h
  | 0, L => Same.refl L h
  | f + 1, L => by
    unfold byL
    split
    · exact Same.refl L h
    · exact (same_pass hh _ _ fun j hj => (mem_T.mp hj).1).trans (passL_len h _ L) (byL_same hh f _)
theorem byL_sb {M h : Nat} (hh : 1 ≤ h) : ∀ (f : Nat) (L : List Int), (∀ x ∈ L, x.natAbs ≤ M) → ((L.length * (L.length * M) : Nat) : Int) - pot 0 L < f → Sb (byL f h L) h
  | 0, L, b, hm => by
    exfalso
    have := pot_le L 0 b
    rw [Nat.zero_add] at this
    omega
  | f + 1, L, b, hm => by
    unfold byL
    split
    · rename_i e
      exact T_nil.mp e
    · rename_i e
      have hlt := pot_turn hh e
      exact byL_sb hh (M := M) f _ (bd_pass _ _ (fun j hj => (mem_T.mp hj).1) b) (by rw [passL_len]; omega)
/-- so many turns are enough for numbers of at most twelve figures -/
def byN (L : List Int) : Nat := 3 * (L.length * (L.length * 10 ^ 12)) + 1
/-- sorted by h -/
noncomputable def srtBy (h : Nat) (L : List Int) : List Int := NV.shut (byL (byN L) h L)
theorem srtBy_eq (h : Nat) (L : List Int) : srtBy h L = byL (byN L) h L := NV.shut_eq _
theorem srtBy_len (h : Nat) (L : List Int) : (srtBy h L).length = L.length := by rw [srtBy_eq]; exact byL_len _ _ _
theorem srtBy_same {h : Nat} (hh : 1 ≤ h) (L : List Int) : Same L (srtBy h L) h := by rw [srtBy_eq]; exact byL_same hh _ _
theorem srtBy_bd {M h : Nat} {L : List Int} (b : ∀ x ∈ L, x.natAbs ≤ M) : ∀ x ∈ srtBy h L, x.natAbs ≤ M := by rw [srtBy_eq]; exact byL_bd _ _ b
theorem srtBy_sb {h : Nat} (hh : 1 ≤ h) {L : List Int} (b : ∀ x ∈ L, x.natAbs ≤ 10 ^ 12) : Sb (srtBy h L) h := by
  have p1 := pot_ge L 0 b
  rw [Nat.zero_add] at p1
  rw [srtBy_eq]
  exact byL_sb hh (M := 10 ^ 12) _ L b (by unfold byN; omega)
end K76
set_option Elab.async false
set_option linter.all false
set_option maxRecDepth 100000
set_option maxHeartbeats 4000000
namespace K76
open PySem PySem.Spec PyProof.Rows L2 NV M76
/-! the places of a class -/
def rsz (n h s : Nat) : Nat := if s < n then (n - s - 1) / h + 1 else 0
def places (n h s : Nat) : List Nat := (List.range (rsz n h s)).map fun j => s + j * h
def cls (n h s : Nat) : List Nat := (List.range n).filter fun i => decide (i % h = s)
theorem places_mem {n h s p : Nat} (hs : s < h) : p ∈ places n h s ↔ p < n ∧ p % h = s := by
  unfold places
  rw [List.mem_map]
  constructor
  · rintro ⟨j, hj, rfl⟩
    have hj' := List.mem_range.mp hj
    unfold rsz at hj'
    split at hj'
    · rename_i c
      have h1 : j ≤ (n - s - 1) / h := by omega
      have h2 : j * h ≤ n - s - 1 := (Nat.le_div_iff_mul_le (by omega)).mp h1
      exact ⟨by omega, by rw [Nat.add_mul_mod_self_right, Nat.mod_eq_of_lt hs]⟩
    · omega
  · rintro ⟨h1, h2⟩
    have h3 := Nat.div_add_mod p h
    have h4 : s ≤ p := by rw [← h2]; exact Nat.mod_le _ _
    refine ⟨p / h, List.mem_range.mpr ?_, by rw [← h2, Nat.mul_comm]; omega⟩
    unfold rsz
    rw [if_pos (by omega)]
    have : p / h ≤ (n - s - 1) / h := (Nat.le_div_iff_mul_le (by omega)).mpr (by rw [Nat.mul_comm]; omega)
    omega
theorem places_lt {n h s : Nat} (hh : 1 ≤ h) : (places n h s).Pairwise (· < ·) := by
  unfold places
  rw [List.pairwise_map]
  refine List.pairwise_lt_range.imp fun {a b} hab => ?_
  have : a * h < b * h := Nat.mul_lt_mul_of_pos_right hab (by omega)
  omega
theorem cls_lt {n h s : Nat} : (cls n h s).Pairwise (· < ·) := List.pairwise_lt_range.filter _
theorem places_eq {n h s : Nat} (hh : 1 ≤ h) (hs : s < h) : places n h s = cls n h s := by
  have n1 : (places n h s).Nodup := (places_lt hh).imp fun {a b} q => by omega
  have n2 : (cls n h s).Nodup := cls_lt.imp fun {a b} q => by omega
  have p : (places n h s).Perm (cls n h s) := (List.perm_ext_iff_of_nodup n1 n2).mpr fun a => by
    rw [places_mem hs]
    unfold cls
    rw [List.mem_filter, List.mem_range, decide_eq_true_iff]
  exact p.eq_of_pairwise (le := (· ≤ ·)) (fun a b _ _ h1 h2 => Nat.le_antisymm h1 h2) ((places_lt hh).imp Nat.le_of_lt) (cls_lt.imp Nat.le_of_lt)
/-- writing numbers at places -/
def putAll : List (Nat × Int) → List Int → List Int
  | [], L => L
  | (p, x) :: r, L => putAll r (L.set p x)
theorem putAll_len : ∀ (r : List (Nat × Int)) (L : List Int), (putAll r L).length = L.length
  | [], L => rfl
  | (p, x) :: r, L => by
    show (putAll r (L.set p x)).length = _
    rw [putAll_len r, List.length_set]
theorem putAll_out : ∀ (r : List (Nat × Int)) (L : List Int) (j : Nat), (∀ q ∈ r, q.1 ≠ j ∧ q.1 < L.length) → nth (putAll r L) j = nth L j
  | [], L, j, _ => rfl
  | (p, x) :: r, L, j, h => by
    have h0 := h (p, x) (List.mem_cons_self ..)
    show nth (putAll r (L.set p x)) j = _
    rw [putAll_out r _ j (fun q hq => by rw [List.length_set]; exact h q (List.mem_cons_of_mem _ hq)), nth_set h0.2, if_neg (Ne.symm h0.1)]
theorem putAll_in : ∀ (r : List (Nat × Int)) (L : List Int) (p : Nat) (x : Int), (r.map (·.1)).Nodup → (∀ q ∈ r, q.1 < L.length) → (p, x) ∈ r → nth (putAll r L) p = x
  | [], L, p, x, _, _, h => by cases h
  | (p0, x0) :: r, L, p, x, nd, hl, h => by
    have nd' : p0 ∉ r.map (·.1) ∧ (r.map (·.1)).Nodup := List.nodup_cons.mp nd
    show nth (putAll r (L.set p0 x0)) p = x
    rcases List.mem_cons.mp h with e | e
    · cases e
      rw [putAll_out r _ p0 (fun q hq => ⟨fun z => nd'.1 (List.mem_map.mpr ⟨q, hq, z⟩), by rw [List.length_set]; exact hl q (List.mem_cons_of_mem _ hq)⟩), nth_set (hl _ (List.mem_cons_self ..)), if_pos rfl]
    · exact putAll_in r _ p x nd'.2 (fun q hq => by rw [List.length_set]; exact hl q (List.mem_cons_of_mem _ hq)) e
end K76
set_option Elab.async false
set_option linter.all false
set_option maxRecDepth 100000
set_option maxHeartbeats 4000000
namespace K76
open PySem PySem.Spec PyProof.Rows L2 NV M76
/-- class by class -/
def clsS (L : List Int) (h s : Nat) : List Int := srt ((cls L.length h s).map (nth L))
def putC (L : List Int) (h : Nat) (F : List Int) (s : Nat) : List Int := putAll ((cls L.length h s).zip (clsS L h s)) F
def byCls (L : List Int) (h m : Nat) : List Int := (List.range m).foldl (putC L h) L
theorem clsS_len (L : List Int) (h s : Nat) : (clsS L h s).length = (cls L.length h s).length := by
  unfold clsS
  rw [(srt_perm _).length_eq, List.length_map]
theorem zip_fst (L : List Int) (h s : Nat) : ((cls L.length h s).zip (clsS L h s)).map (·.1) = cls L.length h s := by
  rw [List.map_fst_zip]
  rw [clsS_len]; exact Nat.le_refl _
theorem cls_nodup (n h s : Nat) : (cls n h s).Nodup := cls_lt.imp fun {a b} q => by omega
theorem cls_mem {n h s p : Nat} : p ∈ cls n h s ↔ p < n ∧ p % h = s := by
  unfold cls
  rw [List.mem_filter, List.mem_range, decide_eq_true_iff]
theorem putC_len (L : List Int) (h : Nat) (F : List Int) (s : Nat) : (putC L h F s).length = F.length := putAll_len _ _
theorem byCls_succ (L : List Int) (h m : Nat) : byCls L h (m + 1) = putC L h (byCls L h m) m := by
  unfold byCls
  rw [List.range_succ, List.foldl_append]; rfl
theorem byCls_len (L : List Int) (h : Nat) : ∀ m, (byCls L h m).length = L.length
  | 0 => rfl
  | m + 1 => by rw [byCls_succ, putC_len, byCls_len L h m]
theorem byCls_at (L : List Int) (h : Nat) : ∀ (m p : Nat), p < L.length → (p % h < m → ∃ j : Nat, (cls L.length h (p % h))[j]? = some p ∧ (clsS L h (p % h))[j]? = some (nth (byCls L h m) p)) ∧ (m ≤ p % h → nth (byCls L h m) p = nth L p)
  | 0, p, hp => ⟨fun q => by omega, fun _ => rfl⟩
  | m + 1, p, hp => by
    obtain ⟨ih1, ih2⟩ := byCls_at L h m p hp
    have hin : ∀ q ∈ (cls L.length h m).zip (clsS L h m), q.1 < (byCls L h m).length := fun q hq => by
      have : q.1 ∈ cls L.length h m := by rw [← zip_fst]; exact List.mem_map.mpr ⟨q, hq, rfl⟩
      rw [byCls_len]; exact (cls_mem.mp this).1
    have hout : p % h ≠ m → nth (byCls L h (m + 1)) p = nth (byCls L h m) p := fun e => by
      rw [byCls_succ]
      refine putAll_out _ _ p fun q hq => ⟨fun z => e ?_, hin q hq⟩
      have : q.1 ∈ cls L.length h m := by rw [← zip_fst]; exact List.mem_map.mpr ⟨q, hq, rfl⟩
      rw [← z]; exact (cls_mem.mp this).2
    refine ⟨fun q => ?_, fun q => ?_⟩
    · by_cases e : p % h = m
      · obtain ⟨j, hj, hjp⟩ := List.getElem_of_mem (cls_mem.mpr ⟨hp, e⟩ : p ∈ cls L.length h m)
        have hj2 : j < (clsS L h m).length := by rw [clsS_len]; exact hj
        refine ⟨j, by rw [e, List.getElem?_eq_getElem hj, hjp], ?_⟩
        have hm : (p, (clsS L h m)[j]) ∈ (cls L.length h m).zip (clsS L h m) := by
          have hz : j < ((cls L.length h m).zip (clsS L h m)).length := by rw [List.length_zip, clsS_len, Nat.min_self]; exact hj
          have := List.getElem_mem hz
          rw [List.getElem_zip, hjp] at this
          exact this
        rw [byCls_succ]
        have := putAll_in ((cls L.length h m).zip (clsS L h m)) (byCls L h m) p _ (by rw [zip_fst]; exact cls_nodup _ _ _) hin hm
        rw [e, List.getElem?_eq_getElem hj2]
        exact congrArg some this.symm
      · rw [hout e]
        exact ih1 (by omega)
    · rw [hout (by omega)]
      exact ih2 (by omega)
theorem cnt_cls (n h r : Nat) (f : Nat → Int) (b : Int) : cnt n (fun p => decide (p % h = r ∧ f p ≤ b)) = ((cls n h r).map f).countP (fun x => decide (x ≤ b)) := by
  unfold cls
  rw [List.countP_map, List.countP_filter]
  refine List.countP_congr fun p _ => ?_
  simp only [Function.comp, Bool.and_eq_true, decide_eq_true_eq]
  exact ⟨fun ⟨a, b⟩ => ⟨b, a⟩, fun ⟨a, b⟩ => ⟨b, a⟩⟩
theorem byCls_map (L : List Int) {h r : Nat} (hh : 1 ≤ h) (hr : r < min L.length h) : (cls L.length h r).map (nth (byCls L h (min L.length h))) = clsS L h r := by
  apply List.ext_getElem?
  intro j
  rw [List.getElem?_map]
  cases e : (cls L.length h r)[j]? with
  | none =>
    have := List.getElem?_eq_none_iff.mp e
    rw [List.getElem?_eq_none (by rw [clsS_len]; exact this)]
    rfl
  | some p =>
    have hm := cls_mem.mp (List.mem_of_getElem? e)
    obtain ⟨i, h1, h2⟩ := (byCls_at L h (min L.length h) p hm.1).1 (by rw [hm.2]; exact hr)
    rw [hm.2] at h1 h2
    have : i = j := by
      have hi := (List.getElem?_eq_some_iff.mp h1).1
      have hj := (List.getElem?_eq_some_iff.mp e).1
      have q := (List.getElem?_inj hi (cls_nodup _ _ _)).mp (h1.trans e.symm)
      exact q
    subst this
    exact h2.symm
theorem byCls_same {h : Nat} (hh : 1 ≤ h) (L : List Int) : Same L (byCls L h (min L.length h)) h := fun r b => by
  rw [cnt_cls, cnt_cls]
  by_cases hr : r < min L.length h
  · rw [byCls_map L hh hr]
    exact ((srt_perm _).countP_eq _).symm
  · have : cls L.length h r = [] := by
      cases e : cls L.length h r with
      | nil => rfl
      | cons p ps =>
        have hm := cls_mem.mp (by rw [e]; exact List.mem_cons_self .. : p ∈ cls L.length h r)
        have h1 := Nat.mod_lt p (show 0 < h by omega)
        have h2 := Nat.mod_le p h
        omega
    rw [this]; rfl
theorem byCls_sb {h : Nat} (hh : 1 ≤ h) (L : List Int) : Sb (byCls L h (min L.length h)) h := fun p hp => by
  rw [byCls_len] at hp
  have a1 := Nat.mod_lt p (show 0 < h by omega)
  have a2 := Nat.mod_le p h
  have am : (p + h) % h = p % h := Nat.add_mod_right p h
  obtain ⟨i, h1, h2⟩ := (byCls_at L h (min L.length h) p (by omega)).1 (by omega)
  obtain ⟨j, h3, h4⟩ := (byCls_at L h (min L.length h) (p + h) hp).1 (by omega)
  rw [am] at h3 h4
  obtain ⟨li, e1⟩ := List.getElem?_eq_some_iff.mp h1
  obtain ⟨lj, e3⟩ := List.getElem?_eq_some_iff.mp h3
  obtain ⟨li2, e2⟩ := List.getElem?_eq_some_iff.mp h2
  obtain ⟨lj2, e4⟩ := List.getElem?_eq_some_iff.mp h4
  have hij : i < j := by
    rcases Nat.lt_trichotomy i j with q | q | q
    · exact q
    · subst q; omega
    · have := List.pairwise_iff_getElem.mp (cls_lt (n := L.length) (h := h) (s := p % h)) j i lj li q
      omega
  have := List.pairwise_iff_getElem.mp (srt_up ((cls L.length h (p % h)).map (nth L))) i j li2 lj2 hij
  rw [← e2, ← e4]
  exact this
/-- class by class, or by turns: the same -/
theorem byCls_is {h : Nat} (hh : 1 ≤ h) {L : List Int} (b : ∀ x ∈ L, x.natAbs ≤ 10 ^ 12) : byCls L h (min L.length h) = srtBy h L := by
  have l1 := byCls_len L h (min L.length h)
  have l2 := srtBy_len h L
  exact the_one hh (by omega) (byCls_sb hh L) (srtBy_sb hh b) ((byCls_same hh L).symm l1 |>.trans l1.symm (srtBy_same hh L))
end K76
set_option Elab.async false
set_option linter.all false
set_option maxRecDepth 100000
set_option maxHeartbeats 4000000
namespace K76
open PySem PySem.Spec PyProof.Rows L2 NV M76
/-! _law_of, _law_row -/
def Srow (G : GD) : Prop := ∀ (n : Nat) (z : Src), n ≤ 1000 → ∃ L z', G [.int n] z = some (.dat (.tuple (pI L)), z') ∧ L.length = n ∧ ∀ x ∈ L, x.natAbs ≤ 1000000
theorem of_ok {Gp : GD} (hp : Spick Gp) : Sof (GS (B_law_of Gp) 0 2) := fun xs z h0 h1 => by
  obtain ⟨v, z', e, hv⟩ := hp xs.length z (by omega)
  have hv' : v < xs.length := by omega
  obtain ⟨r, z2, e2, d, rfl, hd⟩ := GS_of (B := B_law_of Gp) (N := 0) (k := 2) (ds := [.list xs]) (z := z) (Q := fun r z' => ∃ d, r = .dat d ∧ d ∈ xs) 0 rfl (by
    unfold B_law_of
    refine ex_fin fun K hK => ?_
    simp [e, NV.atI_nat, List.getElem?_eq_getElem hv']
    exact hK _ _ ⟨_, _, rfl, rfl, _, rfl, List.getElem_mem hv'⟩)
  exact ⟨d, z2, hd, e2⟩
theorem row_ok {Gp Go : GD} (hp : Spick Gp) (ho : Sof Go) : Srow (GS (B_law_row Gp Go) 0 2) := fun n z hn => by
  obtain ⟨d, z1, hd, e1⟩ := ho [.int 2, .int 5, .int 30, .int 1000000] z (by decide) (by decide)
  obtain ⟨m, rfl, hm⟩ : ∃ m : Int, d = .int m ∧ 2 ≤ m ∧ m ≤ 1000000 := by
    simp at hd
    rcases hd with rfl | rfl | rfl | rfl <;> exact ⟨_, rfl, by decide, by decide⟩
  obtain ⟨r, z2, e2, L, rfl, h3, h4⟩ := GS_of (B := B_law_row Gp Go) (N := 0) (k := 2) (ds := [.int n]) (z := z) (Q := fun r z' => ∃ L, r = .dat (.tuple (pI L)) ∧ L.length = n ∧ ∀ x ∈ L, x.natAbs ≤ 1000000) 2 rfl (by
    unfold B_law_row
    refine ex_nx fun K hK => ?_
    simp [e1, powD]
    refine hK _ ?_
    have hr : iRg1 (mVar 1) (stL [.src, .val (.int n), .val (.int m), .emp] (some z1)) = some (rgD 0 n, stL [.src, .val (.int n), .val (.int m), .emp] (some z1)) := iRg1_is (by simp) (by omega)
    obtain ⟨acc, s, e, z3, L, h1, h2, h3, h4⟩ := comp_inv (vs := [3]) (t := tName 3) (tt := tYesM) (el := mBin subD (mCallS 0 Gp (fCons (mBin mulD (mC (.int 2)) (mVar 2)) (fNil))) (mVar 2))
      (fun i acc s => ∃ z' L, s = stL [.src, .val (.int n), .val (.int m), .emp] (some z') ∧ acc = pI L ∧ L.length = i ∧ ∀ x ∈ L, x.natAbs ≤ 1000000) hr (by simp) ⟨z1, [], by simp, rfl, rfl, by simp⟩ (by
        rintro i d acc s hd ⟨z', L, rfl, rfl, hl, hb⟩
        obtain ⟨v, z3, e3, hv⟩ := hp (2 * m) z' (by omega)
        have b1 : mulOk 2 m = true := by unfold mulOk; simp
        refine ⟨some (.int (v - m)), stL [.src, .val (.int n), .val (.int m), .emp] (some z3), by simp [b1, e3], z3, L ++ [v - m], rfl, by simp, by simp [hl], fun x hx => ?_⟩
        rcases List.mem_append.mp hx with q | q
        · exact hb x q
        · simp at q; omega) (by rw [rgD_len]; exact z1000 hn)
    subst h1 h2
    rw [rgD_len] at h3
    refine ex_fin fun K hK => ?_
    unfold C_law_row_1
    rw [shut_eq]
    simp [-mComp, e]
    exact hK _ _ ⟨_, _, rfl, rfl, L, rfl, h3, h4⟩)
  exact ⟨L, z2, e2, h3, h4⟩
end K76
set_option Elab.async false
set_option linter.all false
set_option maxRecDepth 100000
set_option maxHeartbeats 4000000
namespace K76
open PySem PySem.Spec PyProof.Rows L2 NV M76
theorem rsz_is {s n h : Nat} (hh : 1 ≤ h) : Builtin.Range.rangeSize (s : Int) (n : Int) (h : Int) = ((rsz n h s : Nat) : Int) := by
  unfold Builtin.Range.rangeSize rsz
  rw [if_pos (show (h : Int) > 0 by omega)]
  by_cases c : s < n
  · rw [if_pos (by omega), if_pos c]
    have e : (n : Int) - (s : Int) - 1 = ((n - s - 1 : Nat) : Int) := by omega
    rw [e, ← Int.natCast_ediv]
    omega
  · rw [if_neg (by omega), if_neg c]; rfl
theorem rsz_le {s n h : Nat} : rsz n h s ≤ n := by
  unfold rsz
  split
  · have := Nat.div_le_self (n - s - 1) h
    omega
  · omega
theorem rsmall {s n h : Nat} (hh : 1 ≤ h) (hn : n ≤ 1000) (hs : s ≤ 1000) (h2 : h ≤ 1000) : Builtin.Range.small (s : Int) (n : Int) (h : Int) = true := by
  have hz := rsz_le (s := s) (n := n) (h := h)
  have hm : rsz n h s * h ≤ 1000 * 1000 := Nat.mul_le_mul (by omega) h2
  have e1 : ((rsz n h s : Nat) : Int) * (h : Int) = ((rsz n h s * h : Nat) : Int) := by rw [Int.natCast_mul]
  unfold Builtin.Range.small
  rw [rsz_is hh]
  simp only [Builtin.Range.rangeFitsLong, Bool.and_eq_true, Bool.or_eq_true, decide_eq_true_eq, beq_iff_eq, show (h : Int) > 0 by omega, if_true]
  omega
theorem rg3ok {s n h : Nat} (hh : 1 ≤ h) (hn : n ≤ 1000) (hs : s ≤ 1000) (h2 : h ≤ 1000) : Rg3Ok (s : Int) (n : Int) (h : Int) := by
  have hz := rsz_le (s := s) (n := n) (h := h)
  refine ⟨by omega, by omega, rsmall hh hn hs h2, ?_, ?_⟩
  · rw [rsz_is hh]; omega
  · rw [rsz_is hh]; omega
theorem rgC_is {s n h : Nat} (hh : 1 ≤ h) (hs : s < h) : rgC (s : Int) (h : Int) (Builtin.Range.rangeSize (s : Int) (n : Int) (h : Int)).toNat = pN (cls n h s) := by
  rw [rsz_is hh, Int.toNat_natCast, ← places_eq hh hs]
  unfold rgC places pN
  rw [List.map_map]
  refine List.map_congr_left fun j _ => ?_
  show PyData.int ((s : Int) + (j : Int) * (h : Int)) = PyData.int ((s + j * h : Nat) : Int)
  rw [Int.natCast_add, Int.natCast_mul]
/-- the classes -/
def clsD (n h : Nat) : List PyData := (List.range (min n h)).map fun s => .tuple (pN (cls n h s))
def isBy (L : List Int) (h : Nat) : Bool := (T L h).isEmpty
theorem isBy_iff {L : List Int} {h : Nat} : isBy L h = true ↔ Sb L h := by
  unfold isBy
  rw [List.isEmpty_iff]
  exact T_nil
theorem zips_eq (ns : List Int) (h : Nat) : List.zipWith NV.pairD (pI ns) ((pI ns).drop h) = (List.range (ns.length - h)).map fun i => .tuple [.int (nth ns i), .int (nth ns (i + h))] := by
  apply List.ext_getElem?
  intro i
  rw [List.getElem?_zipWith, List.getElem?_map, List.getElem?_map, List.getElem?_drop, List.getElem?_map]
  by_cases hi : i < ns.length - h
  · rw [List.getElem?_range hi, nth_get (show i < ns.length by omega), nth_get (show h + i < ns.length by omega), Nat.add_comm h i]
    simp [NV.pairD]
  · rw [List.getElem?_eq_none (l := List.range _) (by simp; omega), List.getElem?_eq_none (l := ns) (i := h + i) (by omega)]
    cases ns[i]? <;> rfl

def Sclasses (G : GF) : Prop := ∀ n h : Nat, n ≤ 1000 → 1 ≤ h → h ≤ 1000 → G [.int n, .int h] = some (.dat (.tuple (clsD n h)))
theorem min_is (n h : Nat) : minD [.int (n : Int), .int (h : Int)] = some (.dat (.int ((min n h : Nat) : Int))) := by
  show some (R.dat (.int (if (h : Int) < (n : Int) then (h : Int) else (n : Int)))) = _
  have : (if (h : Int) < (n : Int) then (h : Int) else (n : Int)) = ((min n h : Nat) : Int) := by split <;> omega
  rw [this]
theorem classes_ok : Sclasses (GP Bstep_classes 0 2) := fun n h hn h1 h2 => by
  refine GP_of 1 rfl ?_
  unfold Bstep_classes
  have key : Cstep_classes_1 (stL [.val (.int n), .val (.int h), .emp] none) = some (.fre (clsD n h), stL [.val (.int n), .val (.int h), .emp] none) := by
    unfold Cstep_classes_1 clsD
    rw [shut_eq]
    have m1 := min_is n h
    refine comp_map (List.range (min n h)) (fun i => .int (i : Nat)) (fun s => .tuple (pN (cls n h s))) (st1 := stL [.val (.int n), .val (.int h), .emp] none) ?_ (by simp) (fun i hi => ?_) (by rw [List.length_range]; exact z1000 (by omega))
    · rw [iRg1_is (n := min n h) (st' := stL [.val (.int n), .val (.int h), .emp] none) (by
        generalize ((min n h : Nat) : Int) = m at m1 ⊢
        simp [m1]) (by omega), rgD_0]
    · have hi' := List.mem_range.mp hi
      have q1 := rg3ok (s := i) h1 hn (by omega) h2
      have q2 := rgC_is (s := i) (n := n) (h := h) h1 (by omega)
      have e3 : mTupRg3 (mVar 2) (mVar 0) (mVar 1) (stL [.val (.int n), .val (.int h), .val (.int i)] none) = some (.dat (.tuple (pN (cls n h i))), stL [.val (.int n), .val (.int h), .val (.int i)] none) := by
        unfold mTupRg3
        rw [← q2]
        show (if Rg3Ok (i : Int) (n : Int) (h : Int) then _ else _) = _
        rw [if_pos q1]
      simp [e3]
  refine ex_fin fun K hK => ?_
  simp [key]
  exact hK _ _ rfl
/-! is_sorted_by, _law_is_by -/
def SisBy (G : GF) : Prop := ∀ (L : List Int) (h : Nat), L.length ≤ 1000 → h ≤ 1000 → G [.tuple (pI L), .int h] = some (.dat (.bool (isBy L h)))
theorem isby_ok : SisBy (GP Bis_sorted_by 0 2) := fun L h hl h2 => by
  refine GP_of 2 rfl ?_
  unfold Bis_sorted_by
  have hc := cutD_from (pI L) h
  have key : Cis_sorted_by_1 (stL [.val (.tuple (pI L)), .val (.int h), .emp, .emp] none) = some (.fre ((List.range (L.length - h)).map fun i => .bool (decide (nth L i ≤ nth L (i + h)))), stL [.val (.tuple (pI L)), .val (.int h), .emp, .emp] none) := by
    unfold Cis_sorted_by_1
    rw [shut_eq]
    refine comp_map (List.range (L.length - h)) (fun i => .tuple [.int (nth L i), .int (nth L (i + h))]) (fun i => .bool (decide (nth L i ≤ nth L (i + h)))) (st1 := stL [.val (.tuple (pI L)), .val (.int h), .emp, .emp] none) ?_ (by simp) (fun i hi => by simp) (by rw [List.length_range]; exact z1000 (by omega))
    have := zips_eq L h
    simp [hc, this]
  have hb : (((List.range (L.length - h)).map fun i => decide (nth L i ≤ nth L (i + h))).all id) = isBy L h := by
    rw [Bool.eq_iff_iff, List.all_eq_true, isBy_iff]
    constructor
    · intro q i hi
      have := q _ (List.mem_map.mpr ⟨i, List.mem_range.mpr (by omega), rfl⟩)
      exact of_decide_eq_true this
    · intro s x hx
      obtain ⟨i, hi, rfl⟩ := List.mem_map.mp hx
      have := List.mem_range.mp hi
      exact decide_eq_true (s i (by omega))
  have ha : allD [.list ((List.range (L.length - h)).map fun i => .bool (decide (nth L i ≤ nth L (i + h))))] = some (.dat (.bool (isBy L h))) := by
    have e := blsOf_map ((List.range (L.length - h)).map fun i => decide (nth L i ≤ nth L (i + h)))
    rw [List.map_map] at e
    unfold allD
    show ((blsOf (List.map (PyData.bool ∘ fun i => decide (nth L i ≤ nth L (i + h))) (List.range (L.length - h)))).map _) = _
    rw [e, ← hb]; rfl
  refine ex_fin fun K hK => ?_
  simp [key, ha]
  exact hK _ _ rfl
theorem turned_is {L : List Int} {h : Nat} (hl : L.length ≤ 1000) (hh : h ≤ 1000) {st : Sta} {a b : Nat} {D : PyData} {y : Sl} {it : ME}
    (hi : it st = some (pN (List.range (L.length - h)), st)) : True := trivial
theorem lisby_ok : SisBy (GP B_law_is_by 0 2) := fun L h hl h2 => by
  refine GP_of 1 rfl ?_
  unfold B_law_is_by
  have key : C_law_is_by_1 (stL [.val (.tuple (pI L)), .val (.int h), .emp] none) = some (.fre (pN (T L h)), stL [.val (.tuple (pI L)), .val (.int h), .emp] none) := by
    unfold C_law_is_by_1
    rw [shut_eq]
    refine comp_filter (List.range (L.length - h)) (fun i => .int (i : Nat)) (fun i => decide (nth L (i + h) < nth L i)) (fun i => .int (i : Nat)) (st1 := stL [.val (.tuple (pI L)), .val (.int h), .emp] none) ?_ (by simp) (fun i hi => ?_) (by rw [List.length_range]; exact z1000 (by omega))
    · have e : ((L.length : Int) - (h : Int)).toNat = L.length - h := by omega
      rw [iRg1_int (j := (L.length : Int) - (h : Int)) (st' := stL [.val (.tuple (pI L)), .val (.int h), .emp] none) (by simp) (by omega) (by omega), e, rgD_0]
    · have hi' := List.mem_range.mp hi
      have e1 := pI_at (ns := L) (i := i) (by omega)
      have e2 := pI_at (ns := L) (i := i + h) (by omega)
      rw [Int.natCast_add] at e2
      by_cases hx : nth L (i + h) < nth L i <;> simp [hx, e1, e2]
  have hb : (T L h).isEmpty = isBy L h := rfl
  refine ex_fin fun K hK => ?_
  simp [key, hb]
  exact hK _ _ rfl
end K76
set_option Elab.async false
set_option linter.all false
set_option maxRecDepth 100000
set_option maxHeartbeats 4000000
namespace K76
open PySem PySem.Spec PyProof.Rows L2 NV M76
def Big (L : List Int) : Prop := ∀ x ∈ L, x.natAbs ≤ 10 ^ 12
def SsortBy (G : GF) : Prop := ∀ (L : List Int) (h : Nat), L.length ≤ 1000 → 1 ≤ h → h ≤ 1000 → Big L → G [.tuple (pI L), .int h] = some (.dat (.tuple (pI (srtBy h L))))
theorem putAll_app : ∀ (r r' : List (Nat × Int)) (L : List Int), putAll (r ++ r') L = putAll r' (putAll r L)
  | [], r', L => rfl
  | (p, x) :: r, r', L => putAll_app r r' (L.set p x)
def prD (q : Nat × Int) : PyData := .tuple [.int q.1, .int q.2]
theorem zip_prD (ps : List Nat) (xs : List Int) : List.zipWith NV.pairD (pN ps) (pI xs) = (ps.zip xs).map prD := by
  rw [List.zip, List.map_zipWith, List.zipWith_map]
  rfl
theorem sortBy_ok {Gc : GF} (hc : Sclasses Gc) : SsortBy (GP (Bsorted_by Gc) 0 2) := fun L h hl h1 h2 hb => by
  refine GP_of 5 rfl ?_
  unfold Bsorted_by
  have ec := hc L.length h hl h1 h2
  refine ex_nx fun K hK => ?_
  simp
  refine hK _ ?_
  clear hK K
  refine ex_cons (ex_for (ds := clsD L.length h) (st1 := stL [.val (.tuple (pI L)), .val (.int h), .own (pI L), .emp, .emp, .emp, .emp] none) (fun s st => st = stL [.val (.tuple (pI L)), .emp, .own (pI (byCls L h s)), .emp, .emp, .emp, .emp] none) (by simp [ec]) (by simp; rfl) ?_ ?_)
  · rintro s d st hd rfl
    unfold clsD at hd
    rw [List.getElem?_map] at hd
    obtain ⟨s', hs, rfl⟩ := map_some2 hd
    obtain ⟨hlt, rfl⟩ := range_at hs
    refine ⟨_, (by simp; rfl), ?_⟩
    unfold Ysorted_by_2
    rw [shut_eq]
    have key : Csorted_by_1 Gc (stL [.val (.tuple (pI L)), .emp, .own (pI (byCls L h s)), .val (.tuple (pN (cls L.length h s))), .emp, .emp, .emp] none) = some (.fre ((cls L.length h s).map fun i => .int (nth L i)), stL [.val (.tuple (pI L)), .emp, .own (pI (byCls L h s)), .val (.tuple (pN (cls L.length h s))), .emp, .emp, .emp] none) := by
      unfold Csorted_by_1
      rw [shut_eq]
      refine comp_map (cls L.length h s) (fun i => .int (i : Nat)) (fun i => .int (nth L i)) (st1 := stL [.val (.tuple (pI L)), .emp, .own (pI (byCls L h s)), .val (.tuple (pN (cls L.length h s))), .emp, .emp, .emp] none) (by simp) (by simp) (fun i hi => ?_) ?_
      · have e1 := pI_at (ns := L) (i := i) (cls_mem.mp hi).1
        simp [e1]
      · refine Nat.le_trans (List.length_filter_le _ _) ?_
        rw [List.length_range]; exact z1000 hl
    have es : sortedA [.list ((cls L.length h s).map fun i => .int (nth L i))] = some (.fre (pI (clsS L h s))) := by
      rw [show ((cls L.length h s).map fun i => PyData.int (nth L i)) = pI ((cls L.length h s).map (nth L)) from by rw [pI, List.map_map]; rfl]
      show ((intsOf _).map _) = _
      rw [intsOf_map]; rfl
    refine ex_cons (ex_for (ds := ((cls L.length h s).zip (clsS L h s)).map prD) (st1 := stL [.val (.tuple (pI L)), .emp, .own (pI (byCls L h s)), .val (.tuple (pN (cls L.length h s))), .emp, .emp, .emp] none)
      (fun i st => st = stL [.val (.tuple (pI L)), .emp, .own (pI (putAll (((cls L.length h s).zip (clsS L h s)).take i) (byCls L h s))), .emp, .emp, .emp, .emp] none) ?_ (by simp [putAll]) ?_ ?_)
    · have := zip_prD (cls L.length h s) (clsS L h s)
      simp [key, es, this]
    · rintro i d st hd rfl
      rw [List.getElem?_map] at hd
      obtain ⟨⟨p, x⟩, hq, rfl⟩ := map_some2 hd
      have hp : p < L.length := by
        have hm := List.of_mem_zip (List.mem_of_getElem? hq)
        exact (cls_mem.mp hm.1).1
      have hx := ixN_nat (putAll (((cls L.length h s).zip (clsS L h s)).take i) (byCls L h s)).length p (by rw [putAll_len, byCls_len]; exact hp)
      refine ⟨_, (by simp [prD]; rfl), ?_⟩
      unfold Ysorted_by_1
      rw [shut_eq]
      refine ex_nx fun K hK => ?_
      simp [hx]
      refine hK _ (ex_nil ?_)
      simp [List.take_add_one, hq, putAll_app, putAll]
    · intro st hst
      rw [List.length_map, List.take_length] at hst
      refine ex_nil ?_
      rw [byCls_succ]
      exact hst
  · intro st hst
    rw [show (clsD L.length h).length = min L.length h from by unfold clsD; simp, byCls_is h1 hb] at hst
    refine ex_keep ?_
    have e2 : keep [2] st = stL [.emp, .emp, .own (pI (srtBy h L)), .emp, .emp, .emp, .emp] none := by
      rw [← keep_keep (ks := [0, 2]) (by decide), hst]
      simp
    rw [e2]
    refine ex_fin fun K hK => ?_
    simp
    exact hK _ _ rfl
end K76
set_option Elab.async false
set_option linter.all false
set_option maxRecDepth 100000
set_option maxHeartbeats 4000000
namespace K76
open PySem PySem.Spec PyProof.Rows L2 NV M76
noncomputable def bySteps (L : List Int) (hs : List Nat) : List Int := hs.foldl (fun L h => srtBy h L) L
theorem bySteps_ok : ∀ (hs : List Nat) (L : List Int), Big L → Big (bySteps L hs) ∧ (bySteps L hs).length = L.length
  | [], L, b => ⟨b, rfl⟩
  | h :: hs, L, b => by
    have := bySteps_ok hs (srtBy h L) (srtBy_bd b)
    rw [srtBy_len] at this
    exact this
theorem bySteps_take {L : List Int} {hs : List Nat} {i h : Nat} (e : hs[i]? = some h) : bySteps L (hs.take (i + 1)) = srtBy h (bySteps L (hs.take i)) := by
  unfold bySteps
  rw [List.take_add_one, e, List.foldl_append]; rfl
def Ssteps (G : GF) : Prop := ∀ (L : List Int) (hs : List Nat), L.length ≤ 1000 → (∀ h ∈ hs, 1 ≤ h ∧ h ≤ 1000) → Big L → G [.tuple (pI L), .tuple (pN hs)] = some (.dat (.tuple (pI (bySteps L hs))))
theorem steps_ok {Gs : GF} (hS : SsortBy Gs) : Ssteps (GP (Bsorted_by_steps Gs) 0 2) := fun L hs hl hh hb => by
  refine GP_of 1 rfl ?_
  unfold Bsorted_by_steps
  refine ex_cons (ex_for (ds := pN hs) (st1 := stL [.val (.tuple (pI L)), .val (.tuple (pN hs)), .emp] none) (fun i st => st = stL [.val (.tuple (pI (bySteps L (hs.take i)))), .emp, .emp] none) (by simp) (by simp [bySteps]) ?_ ?_)
  · rintro i d st hd rfl
    rw [List.getElem?_map] at hd
    obtain ⟨h, he, rfl⟩ := map_some2 hd
    have b := bySteps_ok (hs.take i) L hb
    have hm := hh h (List.mem_of_getElem? he)
    have e := hS (bySteps L (hs.take i)) h (by omega) hm.1 hm.2 b.1
    refine ⟨_, (by simp; rfl), ?_⟩
    unfold Ysorted_by_steps_1
    rw [shut_eq]
    refine ex_nx fun K hK => ?_
    simp [e]
    refine hK _ (ex_nil ?_)
    simp [bySteps_take he]
  · intro st hst
    simp at hst
    refine ex_keep ?_
    rw [hst]
    refine ex_fin fun K hK => ?_
    simp
    exact hK _ _ rfl
/-! _law_by -/
theorem lturned_is {L : List Int} {h : Nat} (hl : L.length ≤ 1000) (hh : h ≤ 1000) {x5 : Sl} : C_law_by_1 (stL [.emp, .val (.int h), .own (pI L), x5, .emp, .emp, .emp] none) = some (.fre (pN (T L h)), stL [.emp, .val (.int h), .own (pI L), x5, .emp, .emp, .emp] none) := by
  unfold C_law_by_1
  rw [shut_eq]
  refine comp_filter (List.range (L.length - h)) (fun i => .int (i : Nat)) (fun i => decide (nth L (i + h) < nth L i)) (fun i => .int (i : Nat)) (st1 := stL [.emp, .val (.int h), .own (pI L), x5, .emp, .emp, .emp] none) ?_ (by simp) (fun i hi => ?_) (by rw [List.length_range]; exact z1000 (by omega))
  · have e : ((L.length : Int) - (h : Int)).toNat = L.length - h := by omega
    rw [iRg1_int (j := (L.length : Int) - (h : Int)) (st' := stL [.emp, .val (.int h), .own (pI L), x5, .emp, .emp, .emp] none) (by simp) (by omega) (by omega), e, rgD_0]
  · have hi' := List.mem_range.mp hi
    have e1 := pI_at (ns := L) (i := i) (by omega)
    have e2 := pI_at (ns := L) (i := i + h) (by omega)
    rw [Int.natCast_add] at e2
    by_cases hx : nth L (i + h) < nth L i <;> simp [hx, e1, e2]
theorem step_is {L : List Int} {h i : Nat} (hi : i + h < L.length) {x : Sl} {Q : Out → Sta → Prop} (hQ : ∀ a b, Q .nx (stL [.emp, .val (.int h), .own (pI (stepL h L i)), x, .val (.int i), a, b] none)) : Ex (Y_law_by_1 FUEL) (stL [.emp, .val (.int h), .own (pI L), x, .val (.int i), .emp, .emp] none) Q := by
  have e1 := pI_at (ns := L) (i := i) (by omega)
  have e2 := pI_at (ns := L) (i := i + h) hi
  rw [Int.natCast_add] at e2
  unfold Y_law_by_1
  rw [shut_eq]
  refine ex_nx fun K hK => ?_
  simp [e1, e2]
  refine hK _ ?_
  clear hK K
  have x1 := ixN_nat L.length i (by omega)
  refine ex_nx fun K hK => ?_
  simp [min_z, x1]
  refine hK _ ?_
  clear hK K
  have x2 := ixN_nat (L.set i (min (nth L i) (nth L (i + h)))).length (i + h) (by rw [List.length_set]; omega)
  rw [Int.natCast_add] at x2
  rw [List.length_set] at x2
  refine ex_nx fun K hK => ?_
  simp [max_z, x2]
  refine hK _ (ex_nil ?_)
  have := hQ (.val (.int (nth L i))) (.val (.int (nth L (i + h))))
  unfold stepL at this
  rw [pI, List.map_set, List.map_set] at this
  exact this
theorem body_is {L : List Int} {h : Nat} (hl : L.length ≤ 1000) (hh : h ≤ 1000) {x : Sl} {Q : Out → Sta → Prop} (hQ : ∀ s, keep [1, 2, 3] s = stL [.emp, .val (.int h), .own (pI (passL h L (T L h))), .val (.list (pN (T L h))), .emp, .emp, .emp] none → Q .nx s) :
    Ex (W_law_by_1 FUEL) (stL [.emp, .val (.int h), .own (pI L), x, .emp, .emp, .emp] none) Q := by
  unfold W_law_by_1
  rw [shut_eq]
  refine ex_nx fun K hK => ?_
  simp [lturned_is hl hh]
  refine hK _ ?_
  clear hK K
  refine ex_cons (ex_for (ds := pN (T L h)) (st1 := stL [.emp, .val (.int h), .own (pI L), .val (.list (pN (T L h))), .emp, .emp, .emp] none) (fun i st => st = stL [.emp, .val (.int h), .own (pI (passL h L ((T L h).take i))), .val (.list (pN (T L h))), .emp, .emp, .emp] none) (by simp) (by simp [passL]) ?_ ?_)
  · rintro i d st hd rfl
    rw [List.getElem?_map] at hd
    obtain ⟨t, ht, rfl⟩ := map_some2 hd
    have hm := (mem_T.mp (List.mem_of_getElem? ht)).1
    refine ⟨_, (by simp; rfl), step_is (by rw [passL_len]; exact hm) fun a b => ?_⟩
    simp [List.take_add_one, ht, passL]
  · intro s hs
    rw [List.length_map, List.take_length] at hs
    exact ex_nil (hQ s hs)
theorem ne_nil_test {st : Sta} {d : List PyData} (h : st.e 3 = .own d ∨ st.e 3 = .val (.list d)) (hd : SeqAt.shaped (.list d) = true) : mB (mBin neD (mVar 3) (mLst (fNil))) st = some (!d.isEmpty, st) := by
  rcases h with h | h <;> simp [h, hd]
theorem lawby_ok : SsortBy (GP B_law_by FUEL 2) := fun L h hl h1 h2 hb => by
  refine GP_of 5 rfl ?_
  unfold B_law_by
  refine ex_nx fun K hK => ?_
  simp
  refine hK _ ?_
  clear hK K
  refine ex_cons (sWhile_ex (m := byN L + 1) (fun m st => ∃ f M d x, st = stL [.emp, .val (.int h), .own (pI M), x, .emp, .emp, .emp] none ∧ (x = .own d ∨ x = .val (.list d)) ∧ SeqAt.shaped (.list d) = true ∧ M.length = L.length ∧ byL f h M = srtBy h L ∧ (d.isEmpty = true → M = srtBy h L) ∧ (d.isEmpty = false → m = f + 1)) ?_ ?_ ?_)
  · unfold byN FUEL
    have : L.length * (L.length * 10 ^ 12) ≤ 1000 * (1000 * 10 ^ 12) := Nat.mul_le_mul hl (Nat.mul_le_mul hl (Nat.le_refl _))
    omega
  · exact ⟨byN L, L, [.int 0], .own [.int 0], by simp, .inl rfl, by decide, rfl, (srtBy_eq h L).symm, (fun q => by cases q), fun _ => rfl⟩
  · rintro m st ⟨f, M, d, x, rfl, hx, hd, hM, hf, he, hm⟩
    refine ⟨!d.isEmpty, _, ne_nil_test (by simpa using hx) hd, fun q => ?_, fun q => ?_⟩
    · have q' : d.isEmpty = true := by simpa using q
      refine ex_keep ?_
      rw [he q']
      refine ex_fin fun K hK => ?_
      simp
      exact hK _ _ rfl
    · have q' : d.isEmpty = false := by simpa using q
      refine body_is (by omega) h2 fun s hs => ?_
      rw [hs]
      have hsb := T_nil.mpr (srtBy_sb h1 hb)
      by_cases hT : T M h = []
      · have hMs : M = srtBy h L := by
          cases f with
          | zero => exact hf
          | succ f => unfold byL at hf; rwa [if_pos hT] at hf
        refine ⟨0, by rw [hm q']; omega, 0, M, [], .val (.list []), by rw [hT]; rfl, .inr rfl, by decide, hM, hMs, fun _ => hMs, fun q => by cases q⟩
      · cases f with
        | zero =>
          have hMs : M = srtBy h L := hf
          rw [hMs] at hT
          exact absurd hsb hT
        | succ f =>
          unfold byL at hf
          rw [if_neg hT] at hf
          refine ⟨f + 1, by rw [hm q']; omega, f, _, pN (T M h), _, rfl, .inr rfl, shaped_nats _, by rw [passL_len]; exact hM, hf, fun q => ?_, fun _ => rfl⟩
          exfalso
          cases hTT : T M h with
          | nil => exact hT hTT
          | cons a b => rw [hTT] at q; cases q
end K76
set_option Elab.async false
set_option linter.all false
set_option maxRecDepth 100000
set_option maxHeartbeats 4000000
namespace K76
open PySem PySem.Spec PyProof.Rows L2 NV M76
/-! the plain law -/
theorem stepL_perm {h : Nat} {L : List Int} {i : Nat} (hi : i + h < L.length) : (stepL h L i).Perm L := by
  have e1 : L[i]'(by omega) = nth L i := by
    have := nth_get (ns := L) (i := i) (by omega)
    rw [List.getElem?_eq_getElem (by omega)] at this
    exact Option.some.inj this
  have e2 : L[i + h] = nth L (i + h) := by
    have := nth_get (ns := L) (i := i + h) hi
    rw [List.getElem?_eq_getElem hi] at this
    exact Option.some.inj this
  unfold stepL
  by_cases c : nth L i ≤ nth L (i + h)
  · rw [show min (nth L i) (nth L (i + h)) = nth L i from by omega, show max (nth L i) (nth L (i + h)) = nth L (i + h) from by omega]
    rw [← e1, List.set_getElem_self, ← e2, List.set_getElem_self]
  · rw [show min (nth L i) (nth L (i + h)) = nth L (i + h) from by omega, show max (nth L i) (nth L (i + h)) = nth L i from by omega]
    have := List.set_set_perm (as := L) (i := i) (j := i + h) (by omega) hi
    rwa [e1, e2] at this
theorem passL_perm {h : Nat} : ∀ (is : List Nat) (L : List Int), (∀ i ∈ is, i + h < L.length) → (passL h L is).Perm L
  | [], L, _ => .refl _
  | i :: is, L, hi => by
    have h1 := stepL_perm (hi i (List.mem_cons_self ..))
    exact (passL_perm is (stepL h L i) fun j hj => by rw [stepL_len]; exact hi j (List.mem_cons_of_mem _ hj)).trans h1
theorem byL_perm {h : Nat} : ∀ (f : Nat) (L : List Int), (byL f h L).Perm L
  | 0, L => .refl _
  | f + 1, L => by
    unfold byL
    split
    · exact .refl _
    · exact (byL_perm f _).trans (passL_perm _ _ fun i hi => (mem_T.mp hi).1)
theorem srtBy_perm (h : Nat) (L : List Int) : (srtBy h L).Perm L := by
  rw [srtBy_eq]
  exact byL_perm _ _
theorem bySteps_perm : ∀ (hs : List Nat) (L : List Int), (bySteps L hs).Perm L
  | [], L => .refl _
  | h :: hs, L => (bySteps_perm hs (srtBy h L)).trans (srtBy_perm h L)
theorem stay {h k : Nat} (hh : 1 ≤ h) (hk : 1 ≤ k) {L : List Int} (hb : Big L) (s : Sb L k) : Sb (srtBy h L) k := stays hh hk (srtBy_len h L) s (srtBy_sb hh hb) (srtBy_same hh L)
theorem steps_all : ∀ (hs : List Nat) (L : List Int), Big L → (∀ h ∈ hs, 1 ≤ h) → (∀ k, 1 ≤ k → Sb L k → Sb (bySteps L hs) k) ∧ ∀ h ∈ hs, Sb (bySteps L hs) h
  | [], L, _, _ => ⟨fun _ _ s => s, fun _ h => nomatch h⟩
  | h :: hs, L, hb, h1 => by
    have hh := h1 h (List.mem_cons_self ..)
    obtain ⟨q1, q2⟩ := steps_all hs (srtBy h L) (srtBy_bd hb) fun k hk => h1 k (List.mem_cons_of_mem _ hk)
    refine ⟨fun k hk s => q1 k hk (stay hh hk hb s), fun k hk => ?_⟩
    rcases List.mem_cons.mp hk with rfl | hk
    · exact q1 k hh (srtBy_sb hh hb)
    · exact q2 k hk
theorem srt_eq {a b : List Int} (p : a.Perm b) : srt a = srt b := srt_is ((srt_perm a).trans p) (srt_up a)
theorem one_is {L : List Int} (hb : Big L) : srtBy 1 L = srt L := by
  refine srt_is (srtBy_perm 1 L) ?_
  have s := srtBy_sb (Nat.le_refl 1) hb
  rw [List.pairwise_iff_getElem]
  intro i j hi hj hij
  have := s.le (Nat.le_refl 1) (j - i) i j (Nat.le_refl _) (by omega) hj (by rw [Nat.mod_one, Nat.mod_one])
  have e1 := nth_get hi
  have e2 := nth_get hj
  rw [List.getElem?_eq_getElem hi] at e1
  rw [List.getElem?_eq_getElem hj] at e2
  rwa [← Option.some.inj e1, ← Option.some.inj e2] at this
end K76
set_option Elab.async false
set_option linter.all false
set_option maxRecDepth 100000
set_option maxHeartbeats 4000000
namespace K76
open PySem PySem.Spec PyProof.Rows L2 NV M76
theorem small_of {L : List Int} (h : ∀ x ∈ L, x.natAbs ≤ 1000000) : small L := fun x hx => Nat.lt_of_le_of_lt (h x hx) (by decide)
theorem big_of {L : List Int} (h : ∀ x ∈ L, x.natAbs ≤ 1000000) : Big L := fun x hx => Nat.le_trans (h x hx) (by decide)
theorem eqD2_n (a b : Nat) : eqD2 (.int a) (.int b) = some (.dat (.bool (decide (a = b)))) := by
  have : decide ((a : Int) = (b : Int)) = decide (a = b) := by by_cases h : a = b <;> simp [h, Int.ofNat_inj]
  simp [this]
section
variable {Gs Gst Glb Gl Gis Gc : GF} {Gp Gr : GD}
abbrev S1 (l : Sl) (n h : Nat) (x5 r : Sl) (z : Src) : Sta := stL [.emp, .src, l, .val (.int n), .val (.int h), x5, .emp, .emp, .emp, .emp, .emp, .emp, .emp, .emp, .emp, r, .emp, .emp, .emp] (some z)
theorem step4_is {n h r : Nat} (h1 : 1 ≤ h) {z : Src} {l : Sl} {x5 : Sl} (i : Nat) : stepC [16] (tName 16) (mB (mBin eqD2 (mBin modD (mCallB intD (aCons (mVar 16) (aNil))) (mVar 4)) (mVar 15))) (mVar 16) (.int i) (S1 l n h x5 (.val (.int r)) z) = some (if decide (i % h = r) = true then some (.int i) else none, S1 l n h x5 (.val (.int r)) z) := by
  have hm := modD_z (a := (i : Int)) (b := (h : Int)) (by omega)
  have c' : ((i : Int) % (h : Int) = (r : Int)) ↔ i % h = r := by norm_cast
  by_cases c : i % h = r
  · have c2 := c'.mpr c
    simp [hm, c, c2]
  · have c2 : ¬ _ := fun q => c (c'.mp q)
    simp [hm, c, c2]
theorem claw4_is {n h r : Nat} (hn : n ≤ 1000) (h1 : 1 ≤ h) {z : Src} {l : Sl} {x5 : Sl} : Claw_4 Gs Gst Gl Glb Gp Gis Gr Gc (S1 l n h x5 (.val (.int r)) z) = some (.fre (pN (cls n h r)), S1 l n h x5 (.val (.int r)) z) := by
  unfold Claw_4 cls
  rw [shut_eq]
  have hr : iRg1 (mVar 3) (S1 l n h x5 (.val (.int r)) z) = some (pN (List.range n), S1 l n h x5 (.val (.int r)) z) := by
    rw [← rgD_0]
    exact iRg1_is (by simp) (by omega)
  exact comp_filter (List.range n) (fun i => .int (i : Nat)) (fun i => decide (i % h = r)) (fun i => .int (i : Nat)) hr (by simp) (fun i hi => by
    have := step4_is (n := n) (r := r) h1 (z := z) (l := l) (x5 := x5) i
    rw [show clr [16] (S1 l n h x5 (.val (.int r)) z) = S1 l n h x5 (.val (.int r)) z from by simp]
    exact this) (by rw [List.length_range]; exact z1000 hn)
theorem step5_is {n h : Nat} (hn : n ≤ 1000) (h1 : 1 ≤ h) {z : Src} {l : Sl} {x5 : Sl} (r : Nat) : stepC [15] (tName 15) tYesM (mCallB tupleD (aCons (Claw_4 Gs Gst Gl Glb Gp Gis Gr Gc) aNil)) (.int r) (S1 l n h x5 .emp z) = some (some (.tuple (pN (cls n h r))), S1 l n h x5 .emp z) := by
  simp [claw4_is hn h1]
theorem rg4_is {h n : Nat} (h2 : h ≤ 1000) {z : Src} {l : Sl} {x5 : Sl} : iRg1 (mVar 4) (S1 l n h x5 .emp z) = some (pN (List.range h), S1 l n h x5 .emp z) := by
  rw [← rgD_0]
  exact iRg1_is (by simp) (by omega)
theorem fr_is {h n : Nat} {z : Src} {l : Sl} {x5 : Sl} : [15].all (fun j => slFree ((S1 l n h x5 .emp z).e j)) = true := by simp
theorem clr_is {h n : Nat} {z : Src} {l : Sl} {x5 : Sl} : clr [15] (S1 l n h x5 .emp z) = S1 l n h x5 .emp z := by simp
theorem classes_is {n h : Nat} (hn : n ≤ 1000) (h1 : 1 ≤ h) (h2 : h ≤ 1000) {z : Src} {l : Sl} {x5 : Sl} : Claw_5 Gs Gst Gl Glb Gp Gis Gr Gc (S1 l n h x5 .emp z) =
    some (.fre ((List.range h).map fun r => .tuple (pN (cls n h r))), S1 l n h x5 .emp z) := by
  unfold Claw_5
  rw [shut_eq]
  refine comp_map (List.range h) (fun i => .int (i : Nat)) (fun r => .tuple (pN (cls n h r))) (rg4_is h2) fr_is (fun r hr => ?_) (by rw [List.length_range]; exact z1000 h2)
  rw [clr_is]
  exact step5_is hn h1 r
theorem cls_nil {n h r : Nat} (hr : r < h) : (cls n h r).isEmpty = decide (n ≤ r) := by
  by_cases c : n ≤ r
  · have : cls n h r = [] := by
      cases e : cls n h r with
      | nil => rfl
      | cons p ps =>
        have hm := cls_mem.mp (by rw [e]; exact List.mem_cons_self .. : p ∈ cls n h r)
        have h2 := Nat.mod_le p h
        omega
    rw [this, decide_eq_true c]; rfl
  · have : r ∈ cls n h r := cls_mem.mpr ⟨by omega, Nat.mod_eq_of_lt hr⟩
    cases e : cls n h r with
    | nil => rw [e] at this; cases this
    | cons p ps => rw [decide_eq_false c]; rfl
theorem range_min (n : Nat) : ∀ h : Nat, (List.range h).filter (fun r => decide (r < n)) = List.range (min n h)
  | 0 => by rw [Nat.min_zero]; rfl
  | h + 1 => by
    rw [List.range_succ, List.filter_append, range_min n h]
    by_cases c : h < n
    · rw [show min n (h + 1) = min n h + 1 from by omega, List.range_succ, show min n h = h from by omega]
      simp [c]
    · rw [show min n (h + 1) = min n h from by omega]
      simp [c]
theorem some_is {n h : Nat} : (((List.range h).map fun r => PyData.tuple (pN (cls n h r))).filter fun d => !PyData.eqv d (.tuple [])) = clsD n h := by
  unfold clsD
  rw [← range_min, List.filter_map]
  congr 1
  refine List.filter_congr fun r hr => ?_
  have e := cls_nil (n := n) (List.mem_range.mp hr)
  have e2 : PyData.eqv (.tuple (pN (cls n h r))) (.tuple []) = (cls n h r).isEmpty := by
    rw [eqv_tnil, List.isEmpty_map]
  show (!PyData.eqv (.tuple (pN (cls n h r))) (.tuple [])) = _
  rw [e2, e]
  by_cases c : n ≤ r
  · rw [decide_eq_true c, decide_eq_false (by omega)]; rfl
  · rw [decide_eq_false c, decide_eq_true (by omega)]; rfl
theorem shown_cls {n h : Nat} (hn : n ≤ 40) (hh : h ≤ 12) : reprOk (.tuple (clsD n h)) = true := by
  refine (Okr.tupM (w := 41 * 40) (n := 1) 12 (fun x hx => ?_) ?_).ok (by decide) (by decide)
  · unfold clsD at hx
    obtain ⟨r, hr, rfl⟩ := List.mem_map.mp hx
    refine Okr.nats 40 (fun i hi => ?_) ?_
    · have := (cls_mem.mp hi).1
      omega
    · refine Nat.le_trans (List.length_filter_le _ _) ?_
      rw [List.length_range]; exact hn
  · unfold clsD
    rw [List.length_map, List.length_range]; omega
theorem some3_is {n h : Nat} (hh : h ≤ 1000) {z : Src} {a3 a4 a5 : Sl} {l : Sl} : ∃ s, Claw_3 Gs Gst Gl Glb Gp Gis Gr Gc (stL [.emp, .src, l, a3, a4, a5, .own ((List.range h).map fun r => .tuple (pN (cls n h r))), .emp, .emp, .emp, .emp, .emp, .emp, .emp, .emp, .emp, .emp, .emp, .emp] (some z)) =
    some (.fre (clsD n h), stL [.emp, .src, l, a3, a4, a5, s, .emp, .emp, .emp, .emp, .emp, .emp, .emp, .emp, .emp, .emp, .emp, .emp] (some z)) := by
  refine ⟨.val (.list ((List.range h).map fun r => .tuple (pN (cls n h r)))), ?_⟩
  unfold Claw_3
  rw [shut_eq]
  rw [← some_is]
  have := comp_filter (vs := [17]) (t := tName 17) (it := iSeq (mVar 6)) (tt := mB (mBin neD (mVar 17) (mTup (fNil)))) (el := mVar 17) (st := stL [.emp, .src, l, a3, a4, a5, .own ((List.range h).map fun r => .tuple (pN (cls n h r))), .emp, .emp, .emp, .emp, .emp, .emp, .emp, .emp, .emp, .emp, .emp, .emp] (some z)) (st1 := stL [.emp, .src, l, a3, a4, a5, .val (.list ((List.range h).map fun r => .tuple (pN (cls n h r)))), .emp, .emp, .emp, .emp, .emp, .emp, .emp, .emp, .emp, .emp, .emp, .emp] (some z))
    ((List.range h).map fun r => PyData.tuple (pN (cls n h r))) id (fun d => !PyData.eqv d (.tuple [])) id (by simp) (by simp) (fun d hd => by
      obtain ⟨r, hr, rfl⟩ := List.mem_map.mp hd
      have hs := shaped_tints ((cls n h r).map fun i => ((i : Nat) : Int))
      rw [← pN_pI] at hs
      cases hc : (pN (cls n h r)).isEmpty <;> simp [hs, hc]) (by rw [List.length_map, List.length_range]; exact z1000 hh)
  rw [List.map_id] at this
  exact this
end
end K76
set_option Elab.async false
set_option linter.all false
set_option maxRecDepth 100000
set_option maxHeartbeats 4000000
namespace K76
open PySem PySem.Spec PyProof.Rows L2 NV M76
section
variable {Gs Gst Glb Gl Gis Gc : GF} {Gp Gr : GD}
theorem four {v : Nat} (h : (v : Int) < max 1 4) : ∃ m : Nat, [PyData.int 5, PyData.int 9, PyData.int 15, PyData.int 40][v]? = some (.int m) ∧ 1 ≤ m ∧ m ≤ 40 := by
  have : v = 0 ∨ v = 1 ∨ v = 2 ∨ v = 3 := by omega
  rcases this with rfl | rfl | rfl | rfl
  · exact ⟨5, rfl, by decide, by decide⟩
  · exact ⟨9, rfl, by decide, by decide⟩
  · exact ⟨15, rfl, by decide, by decide⟩
  · exact ⟨40, rfl, by decide, by decide⟩
theorem isBy_t {L : List Int} {h : Nat} (s : Sb L h) : isBy L h = true := isBy_iff.mpr s
theorem steps_draw (hp : Spick Gp) {z : Src} {l a3 a4 a5 a6 a7 a8 a9 a10 a11 : Sl} : ∃ (hs : List Nat) (z' : Src), Claw_2 Gs Gst Gl Glb Gp Gis Gr Gc (stL [.emp, .src, l, a3, a4, a5, a6, a7, a8, a9, a10, a11, .emp, .emp, .emp, .emp, .emp, .emp, .emp] (some z)) =
    some (.fre (pN hs), stL [.emp, .src, l, a3, a4, a5, a6, a7, a8, a9, a10, a11, .emp, .emp, .emp, .emp, .emp, .emp, .emp] (some z')) ∧ hs.length ≤ 5 ∧ ∀ x ∈ hs, 1 ≤ x ∧ x ≤ 9 := by
  unfold Claw_2
  rw [shut_eq]
  obtain ⟨c, z1, e1, hc⟩ := hp 5 z (by decide)
  have hr : iRg1 (mCallS 1 Gp (fCons (mC (.int 5)) (fNil))) (stL [.emp, .src, l, a3, a4, a5, a6, a7, a8, a9, a10, a11, .emp, .emp, .emp, .emp, .emp, .emp, .emp] (some z)) = some (pN (List.range c), stL [.emp, .src, l, a3, a4, a5, a6, a7, a8, a9, a10, a11, .emp, .emp, .emp, .emp, .emp, .emp, .emp] (some z1)) := by
    rw [← rgD_0]
    exact iRg1_is (by simp [e1]) (by omega)
  obtain ⟨acc, s, e, z2, hs, h1, h2, h3, h4⟩ := comp_inv (vs := [18]) (t := tName 18) (tt := tYesM) (el := mBin addD (mC (.int 1)) (mCallS 1 Gp (fCons (mC (.int 9)) (fNil))))
    (fun i acc s => ∃ z' hs, s = stL [.emp, .src, l, a3, a4, a5, a6, a7, a8, a9, a10, a11, .emp, .emp, .emp, .emp, .emp, .emp, .emp] (some z') ∧ acc = pN hs ∧ hs.length = i ∧ ∀ x ∈ hs, 1 ≤ x ∧ x ≤ 9) hr (by simp) ⟨z1, [], by simp, rfl, rfl, by simp⟩ (by
      rintro i d acc s hd ⟨z', hs, rfl, rfl, hl, hb⟩
      obtain ⟨v, z3, e3, hv⟩ := hp 9 z' (by decide)
      refine ⟨some (.int (1 + v)), stL [.emp, .src, l, a3, a4, a5, a6, a7, a8, a9, a10, a11, .emp, .emp, .emp, .emp, .emp, .emp, .emp] (some z3), by simp [e3], z3, hs ++ [1 + v], rfl, by simp, by simp [hl], fun x hx => ?_⟩
      rcases List.mem_append.mp hx with q | q
      · exact hb x q
      · simp at q; omega) (by rw [List.length_map, List.length_range]; exact z1000 (by omega))
  subst h1 h2
  rw [List.length_map, List.length_range] at h3
  exact ⟨hs, z2, by rw [e]; simp, by omega, h4⟩
theorem none_is (hl : SisBy Gl) {z : Src} {M : List Int} {hs : List Nat} {a7 a8 : Sl} (hM : M.length ≤ 1000) (hh : hs.length ≤ 5 ∧ ∀ x ∈ hs, 1 ≤ x ∧ x ≤ 9) (hS : ∀ h ∈ hs, Sb M h) : Claw_1 Gs Gst Gl Glb Gp Gis Gr Gc (stL [.emp, .src, .emp, .emp, .emp, .emp, .emp, a7, a8, .emp, .emp, .emp, .val (.tuple (pN hs)), .val (.tuple (pI M)), .emp, .emp, .emp, .emp, .emp] (some z)) =
    some (.fre [], stL [.emp, .src, .emp, .emp, .emp, .emp, .emp, a7, a8, .emp, .emp, .emp, .val (.tuple (pN hs)), .val (.tuple (pI M)), .emp, .emp, .emp, .emp, .emp] (some z)) := by
  unfold Claw_1
  rw [shut_eq]
  have := comp_fm (vs := [14]) (t := tName 14) (it := iSeq (mVar 12)) (tt := mNotT (mTru (mCall Gl (fCons (mVar 13) (fCons (mVar 14) (fNil)))))) (el := mVar 14) (st := stL [.emp, .src, .emp, .emp, .emp, .emp, .emp, a7, a8, .emp, .emp, .emp, .val (.tuple (pN hs)), .val (.tuple (pI M)), .emp, .emp, .emp, .emp, .emp] (some z)) (st1 := stL [.emp, .src, .emp, .emp, .emp, .emp, .emp, a7, a8, .emp, .emp, .emp, .val (.tuple (pN hs)), .val (.tuple (pI M)), .emp, .emp, .emp, .emp, .emp] (some z))
    hs (fun i => .int (i : Nat)) (fun _ => none) (by simp) (by simp) (fun h hh' => by
      have e := hl M h hM (by have := hh.2 h hh'; omega)
      rw [isBy_t (hS h hh')] at e
      simp [e]) (z1000 (by omega))
  rw [this]
  simp
theorem lap_ok (hp : Spick Gp) (hr : Srow Gr) (hc : Sclasses Gc) (hs : SsortBy Gs) (hst' : Ssteps Gst) (hlb : SsortBy Glb) (hl : SisBy Gl) (his : SisBy Gis) (z : Src) (l : Sl) :
    Ex (Ylaw_2 Gs Gst Gl Glb Gp Gis Gr Gc FUEL) (stL [.emp, .src, l, .emp, .emp, .emp, .emp, .emp, .emp, .emp, .emp, .emp, .emp, .emp, .emp, .emp, .emp, .emp, .emp] (some z)) fun o s => o = .nx ∧ ∃ z', keep [1] s = stL [.emp, .src, .emp, .emp, .emp, .emp, .emp, .emp, .emp, .emp, .emp, .emp, .emp, .emp, .emp, .emp, .emp, .emp, .emp] (some z') := by
  unfold Ylaw_2
  rw [shut_eq]
  -- n
  obtain ⟨v, z1, e1, hv⟩ := hp 4 z (by decide)
  obtain ⟨m, em, m1, m2⟩ := four hv
  obtain ⟨n0, z2, e2, hn0⟩ := hp m z1 (by omega)
  refine ex_nx fun K hK => ?_
  simp [e1, NV.atI_nat, em, e2]
  obtain ⟨n, rfl⟩ : ∃ n, n0 + 1 = n := ⟨_, rfl⟩
  obtain ⟨n, hn⟩ : ∃ n : Nat, 1 + (n0 : Int) = n := ⟨1 + n0, by omega⟩
  rw [hn]
  have n1 : 1 ≤ n := by omega
  have n2 : n ≤ 40 := by omega
  refine hK _ ?_
  clear hK K e1 em e2 hn hn0 hv
  -- h, k
  obtain ⟨h0, z3, e1, hh0⟩ := hp 12 z2 (by decide)
  obtain ⟨k0, z4, e2, hk0⟩ := hp 12 z3 (by decide)
  refine ex_nx fun K hK => ?_
  simp [e1, e2]
  obtain ⟨h, hh⟩ : ∃ h : Nat, 1 + (h0 : Int) = h := ⟨1 + h0, by omega⟩
  obtain ⟨k, hk⟩ : ∃ k : Nat, 1 + (k0 : Int) = k := ⟨1 + k0, by omega⟩
  rw [hh, hk]
  have h1 : 1 ≤ h := by omega
  have h2 : h ≤ 12 := by omega
  have k1 : 1 ≤ k := by omega
  have k2 : k ≤ 12 := by omega
  refine hK _ ?_
  clear hK K e1 e2 hh hk hh0 hk0
  -- classes
  have ec := classes_is (Gs := Gs) (Gst := Gst) (Glb := Glb) (Gl := Gl) (Gis := Gis) (Gc := Gc) (Gp := Gp) (Gr := Gr) (n := n) (h := h) (by omega) h1 (by omega) (z := z4) (l := l) (x5 := .val (.int k))
  refine ex_nx fun K hK => ?_
  simp [ec]
  refine hK _ ?_
  clear hK K ec
  obtain ⟨s6, e3⟩ := some3_is (Gs := Gs) (Gst := Gst) (Glb := Glb) (Gl := Gl) (Gis := Gis) (Gc := Gc) (Gp := Gp) (Gr := Gr) (n := n) (h := h) (by omega) (z := z4) (l := l) (a3 := .val (.int n)) (a4 := .val (.int h)) (a5 := .val (.int k))
  have e4 := hc n h (by omega) h1 (by omega)
  have r1 := reprD_ok (shown_cls n2 h2)
  refine ex_nx fun K hK => ?_
  simp [e3, e4, r1]
  refine hK _ ?_
  clear hK K e3 e4 r1
  -- row
  obtain ⟨L, z5, e1, hL, hb⟩ := hr n z4 (by omega)
  have hbig := big_of hb
  refine ex_nx fun K hK => ?_
  simp [e1]
  refine hK _ ?_
  clear hK K e1
  have hrep : ∀ M : List Int, M.length = n → (∀ x ∈ M, x.natAbs ≤ 1000000) → reprD [.tuple (pI M)] = some (.dat (.str (PyData.tuple (pI M)).shown)) := fun M hM hb => reprD_ok (repr_ints (small_of hb) (by omega))
  have r0 := hrep L hL hb
  have r1 := hrep (srtBy h L) (by rw [srtBy_len, hL]) (srtBy_bd hb)
  have e1 := hlb L h (by omega) h1 (by omega) hbig
  refine ex_nx fun K hK => ?_
  simp [e1, r0]
  refine hK _ ?_
  clear hK K
  have e2 := hs L h (by omega) h1 (by omega) hbig
  have e3 := his L h (by omega) (by omega)
  have e4 := hl L h (by omega) (by omega)
  have rb := fun b => reprD_ok (bool_ok b)
  refine ex_nx fun K hK => ?_
  simp [e2, e3, e4, r1, rb]
  refine hK _ ?_
  clear hK K e2 e3 e4 e1
  -- due is sorted by h
  have e1 := his (srtBy h L) h (by rw [srtBy_len]; omega) (by omega)
  rw [isBy_t (srtBy_sb h1 hbig)] at e1
  have e2 := sortedA_t (srtBy h L)
  have e3 := sortedA_t L
  rw [srt_eq (srtBy_perm h L)] at e2
  refine ex_nx fun K hK => ?_
  simp [e1, e2, e3, shaped_ints]
  refine hK _ ?_
  clear hK K e1 e2 e3
  -- one, late
  have e1 := hs L k (by omega) k1 (by omega) hbig
  refine ex_nx fun K hK => ?_
  simp [e1]
  refine hK _ ?_
  clear hK K e1
  have b1 : Big (srtBy k L) := srtBy_bd hbig
  have e1 := hs (srtBy k L) h (by rw [srtBy_len]; omega) h1 (by omega) b1
  refine ex_nx fun K hK => ?_
  simp [e1]
  refine hK _ ?_
  clear hK K e1
  have sk := stay h1 k1 b1 (srtBy_sb k1 hbig)
  have sh := srtBy_sb h1 b1
  have e1 := his (srtBy h (srtBy k L)) k (by rw [srtBy_len, srtBy_len]; omega) (by omega)
  have e2 := hl (srtBy h (srtBy k L)) k (by rw [srtBy_len, srtBy_len]; omega) (by omega)
  have e3 := hl (srtBy h (srtBy k L)) h (by rw [srtBy_len, srtBy_len]; omega) (by omega)
  rw [isBy_t sk] at e1 e2
  rw [isBy_t sh] at e3
  refine ex_nx fun K hK => ?_
  simp [e1, e2, e3]
  refine hK _ ?_
  clear hK K e1 e2 e3 sk sh b1
  -- several steps
  obtain ⟨hs', z6, e1, hc1, hc2⟩ := steps_draw (Gs := Gs) (Gst := Gst) (Glb := Glb) (Gl := Gl) (Gis := Gis) (Gc := Gc) (Gp := Gp) (Gr := Gr) hp (z := z5) (l := l) (a3 := .val (.int n)) (a4 := .val (.int h)) (a5 := .val (.int k)) (a6 := s6) (a7 := .val (.tuple (pI L))) (a8 := .val (.str (PyData.tuple (pI L)).shown)) (a9 := .val (.tuple (pI (srtBy h L)))) (a10 := .val (.tuple (pI (srtBy k L)))) (a11 := .val (.tuple (pI (srtBy h (srtBy k L)))))
  refine ex_nx fun K hK => ?_
  simp [e1]
  refine hK _ ?_
  clear hK K e1
  refine ex_nx fun K hK => ?_
  simp
  refine hK _ ?_
  clear hK K
  have hsteps : ∀ x ∈ hs', 1 ≤ x ∧ x ≤ 1000 := fun x hx => by have := hc2 x hx; omega
  refine ex_cons (ex_for (ds := pN hs') (st1 := stL [.emp, .src, l, .val (.int n), .val (.int h), .val (.int k), s6, .val (.tuple (pI L)), .val (.str (PyData.tuple (pI L)).shown), .val (.tuple (pI (srtBy h L))), .val (.tuple (pI (srtBy k L))), .val (.tuple (pI (srtBy h (srtBy k L)))), .val (.tuple (pN hs')), .val (.tuple (pI L)), .emp, .emp, .emp, .emp, .emp] (some z6))
    (fun i st => st = stL [.emp, .src, .emp, .emp, .emp, .emp, .emp, .val (.tuple (pI L)), .val (.str (PyData.tuple (pI L)).shown), .emp, .emp, .emp, .val (.tuple (pN hs')), .val (.tuple (pI (bySteps L (hs'.take i)))), .emp, .emp, .emp, .emp, .emp] (some z6)) (by simp) (by simp [bySteps]) ?_ ?_)
  · rintro i d st hd rfl
    rw [List.getElem?_map] at hd
    obtain ⟨x, he, rfl⟩ := map_some2 hd
    have b := bySteps_ok (hs'.take i) L hbig
    have hm := hsteps x (List.mem_of_getElem? he)
    have e := hlb (bySteps L (hs'.take i)) x (by omega) hm.1 hm.2 b.1
    refine ⟨_, (by simp; rfl), ?_⟩
    unfold Ylaw_1
    rw [shut_eq]
    refine ex_nx fun K hK => ?_
    simp [e]
    refine hK _ (ex_nil ?_)
    simp [bySteps_take he]
  · intro st hst
    rw [List.length_map, List.take_length] at hst
    refine ex_keep ?_
    rw [hst]
    obtain ⟨bT, lT⟩ := bySteps_ok hs' L hbig
    have pT := bySteps_perm hs' L
    have hbT : ∀ x ∈ bySteps L hs', x.natAbs ≤ 1000000 := fun x hx => hb x (pT.mem_iff.mp hx)
    have e1 := hst' L hs' (by omega) hsteps hbig
    have r1 := hrep (bySteps L hs') (by omega) hbT
    refine ex_nx fun K hK => ?_
    simp [e1, r1]
    refine hK _ ?_
    clear hK K e1
    have e1 := none_is (Gs := Gs) (Gst := Gst) (Glb := Glb) (Gl := Gl) (Gis := Gis) (Gc := Gc) (Gp := Gp) (Gr := Gr) hl (z := z6) (M := bySteps L hs') (hs := hs') (a7 := .val (.tuple (pI L))) (a8 := .val (.str (PyData.tuple (pI L)).shown)) (by omega) ⟨hc1, hc2⟩ (steps_all hs' L hbig fun x hx => (hc2 x hx).1).2
    refine ex_nx fun K hK => ?_
    simp [e1]
    refine hK _ ?_
    clear hK K e1
    have hsteps1 : ∀ x ∈ hs' ++ [1], 1 ≤ x ∧ x ≤ 1000 := fun x hx => by
      rcases List.mem_append.mp hx with q | q
      · exact hsteps x q
      · simp at q; omega
    have e1 := hst' L (hs' ++ [1]) (by omega) hsteps1 hbig
    have e2 : bySteps L (hs' ++ [1]) = srt L := by
      unfold bySteps
      rw [List.foldl_append]
      exact (one_is bT).trans (srt_eq pT)
    rw [e2] at e1
    have e3 := sortedA_t L
    have e0 : hs'.length ≤ 16777215 := by omega
    simp at e1
    refine ex_nx fun K hK => ?_
    simp [e1, e3, r0, shaped_ints, e0]
    refine hK _ (ex_nil ⟨rfl, z6, ?_⟩)
    simp
end
theorem run_law (z : Src) : Ex (Blaw Gsorted_by Gsorted_by_steps G_law_is_by G_law_by G_law_pick Gis_sorted_by G_law_row Gstep_classes FUEL) (stL [.emp, .src, .emp, .emp, .emp, .emp, .emp, .emp, .emp, .emp, .emp, .emp, .emp, .emp, .emp, .emp, .emp, .emp, .emp] (some z)) fun o _ => o = .rt (.bool true) := by
  have hp := s_law_pick
  have ho : Sof G_law_of := by unfold G_law_of; rw [shut_eq]; exact of_ok hp
  have hr : Srow G_law_row := by unfold G_law_row; rw [shut_eq]; exact row_ok hp ho
  have hc : Sclasses Gstep_classes := by unfold Gstep_classes; rw [shut_eq]; exact classes_ok
  have hs : SsortBy Gsorted_by := by unfold Gsorted_by; rw [shut_eq]; exact sortBy_ok hc
  have hst : Ssteps Gsorted_by_steps := by unfold Gsorted_by_steps; rw [shut_eq]; exact steps_ok hs
  have hlb : SsortBy G_law_by := by unfold G_law_by; rw [shut_eq]; exact lawby_ok
  have hl : SisBy G_law_is_by := by unfold G_law_is_by; rw [shut_eq]; exact lisby_ok
  have his : SisBy Gis_sorted_by := by unfold Gis_sorted_by; rw [shut_eq]; exact isby_ok
  generalize Gsorted_by = Gs at *
  generalize Gsorted_by_steps = Gst at *
  generalize G_law_is_by = Gl at *
  generalize G_law_by = Glb at *
  generalize G_law_row = Gr at *
  generalize Gis_sorted_by = Gis at *
  generalize Gstep_classes = Gc at *
  generalize G_law_pick = Gp at *
  unfold Blaw
  refine ex_cons (ex_for (ds := rgD 0 6) (st1 := stL [.emp, .src, .emp, .emp, .emp, .emp, .emp, .emp, .emp, .emp, .emp, .emp, .emp, .emp, .emp, .emp, .emp, .emp, .emp] (some z))
    (fun _ s => ∃ z', s = stL [.emp, .src, .emp, .emp, .emp, .emp, .emp, .emp, .emp, .emp, .emp, .emp, .emp, .emp, .emp, .emp, .emp, .emp, .emp] (some z')) (by simp) ⟨z, by simp⟩ ?_ ?_)
  · rintro i d s hd ⟨z', rfl⟩
    refine ⟨_, (by simp <;> rfl), (lap_ok hp hr hc hs hst hlb hl his z' (.val d)).imp fun o s q => ?_⟩
    obtain ⟨rfl, z2, e⟩ := q
    exact ⟨z2, e⟩
  · rintro s ⟨z', e⟩
    refine ex_keep ?_
    rw [← keep_keep (ks := [1]) (by decide), e]
    have e1 := hs [3, 1, 4, 0, 2] 2 (by decide) (by decide) (by decide) (by intro x hx; simp at hx; omega)
    have e2 : srtBy 2 [3, 1, 4, 0, 2] = [2, 0, 3, 1, 4] := by
      rw [srtBy_eq]
      show byL ((3 * (5 * (5 * 10 ^ 12)) - 2) + 1 + 1 + 1) 2 [3, 1, 4, 0, 2] = _
      generalize 3 * (5 * (5 * 10 ^ 12)) - 2 = f
      have t1 : T [3, 1, 4, 0, 2] 2 = [1, 2] := by decide
      have t2 : T [3, 0, 2, 1, 4] 2 = [0] := by decide
      have t3 : T [2, 0, 3, 1, 4] 2 = [] := by decide
      rw [byL, if_neg (by rw [t1]; decide), t1, show passL 2 [3, 1, 4, 0, 2] [1, 2] = [3, 0, 2, 1, 4] from by decide, byL, if_neg (by rw [t2]; decide), t2, show passL 2 [3, 0, 2, 1, 4] [0] = [2, 0, 3, 1, 4] from by decide, byL, if_pos t3]
    rw [e2] at e1
    simp at e1
    have e3 : eqD2 (.tuple [.int 2, .int 0, .int 3, .int 1, .int 4]) (.tuple [.int 2, .int 0, .int 3, .int 1, .int 4]) = some (.dat (.bool true)) := rfl
    refine ex_fin fun K hK => ?_
    simp [-eqD2, e1, e3]
    exact hK _ _ rfl
end K76
set_option Elab.async false
set_option linter.all false
set_option maxRecDepth 100000
set_option maxHeartbeats 4000000
namespace K76
open PySem PySem.Spec PyProof.Rows L2 NV
theorem body_law : defBody slaw = (defBody slaw).getD 0 (.Pass ⟨0, 0, 0, 0⟩) :: (defBody slaw).drop 1 := rfl
theorem all_mk {l : PySem.W.OpenLaw} {w : World} {K : PySem.W.Frag} {h : Heap} {mg : Str → Option Value} {fa : Addr} (X : K.In h) (G : h.Ns mainGlobals mg) (hfa : mg "law" = some (.ref fa))
    (d0 : DefAt K "step_classes" sstep_classes) (d1 : DefAt K "is_sorted_by" sis_sorted_by) (d2 : DefAt K "sorted_by" ssorted_by) (d3 : DefAt K "sorted_by_steps" ssorted_by_steps) (d4 : DefAt K "_law_open_cells" sOpen) (d5 : DefAt K "_law_pick" sPick) (d6 : DefAt K "_law_of" s_law_of) (d7 : DefAt K "_law_row" s_law_row) (d8 : DefAt K "_law_is_by" s_law_is_by) (d9 : DefAt K "_law_by" s_law_by) (d10 : DefAt K "law" slaw)
    (zabs : PySem.W.nsIn K mainGlobals "abs" = some none) (zall : PySem.W.nsIn K mainGlobals "all" = some none) (zint : PySem.W.nsIn K mainGlobals "int" = some none) (zlen : PySem.W.nsIn K mainGlobals "len" = some none) (zlist : PySem.W.nsIn K mainGlobals "list" = some none) (zmax : PySem.W.nsIn K mainGlobals "max" = some none) (zmin : PySem.W.nsIn K mainGlobals "min" = some none) (zrange : PySem.W.nsIn K mainGlobals "range" = some none) (zrepr : PySem.W.nsIn K mainGlobals "repr" = some none) (zsorted : PySem.W.nsIn K mainGlobals "sorted" = some none) (ztuple : PySem.W.nsIn K mainGlobals "tuple" = some none) (zzip : PySem.W.nsIn K mainGlobals "zip" = some none) :
    ∃ fd : FuncData, (∀ (s : Shared) (u : Value), BindsTo s fd ⟨[u], []⟩ [("script", u)]) ∧ ∀ base : Heap, K.In base → base.Ns mainGlobals mg → FnG l.prog w K mg base 4 fa fd ["script"] (NV.spLaw K) := by
  have no := fun {n : Str} (e : PySem.W.nsIn K mainGlobals n = some none) => PySem.W.mg_none_of X G e
  obtain ⟨f0, fd0, F0, g0, k0, b0⟩ := d0.get X G (ps := ["n", "h"]) fun _ _ _ _ _ _ us hl => match us, hl with | [_, _], _ => rfl
  obtain ⟨f1, fd1, F1, g1, k1, b1⟩ := d1.get X G (ps := ["row", "h"]) fun _ _ _ _ _ _ us hl => match us, hl with | [_, _], _ => rfl
  obtain ⟨f2, fd2, F2, g2, k2, b2⟩ := d2.get X G (ps := ["row", "h"]) fun _ _ _ _ _ _ us hl => match us, hl with | [_, _], _ => rfl
  obtain ⟨f3, fd3, F3, g3, k3, b3⟩ := d3.get X G (ps := ["row", "steps"]) fun _ _ _ _ _ _ us hl => match us, hl with | [_, _], _ => rfl
  obtain ⟨f4, fd4, F4, g4, k4, b4⟩ := d4.get X G (ps := ["script"]) fun _ _ _ _ _ _ us hl => match us, hl with | [_], _ => rfl
  obtain ⟨f5, fd5, F5, g5, k5, b5⟩ := d5.get X G (ps := ["source", "most"]) fun _ _ _ _ _ _ us hl => match us, hl with | [_, _], _ => rfl
  obtain ⟨f6, fd6, F6, g6, k6, b6⟩ := d6.get X G (ps := ["source", "some"]) fun _ _ _ _ _ _ us hl => match us, hl with | [_, _], _ => rfl
  obtain ⟨f7, fd7, F7, g7, k7, b7⟩ := d7.get X G (ps := ["source", "n"]) fun _ _ _ _ _ _ us hl => match us, hl with | [_, _], _ => rfl
  obtain ⟨f8, fd8, F8, g8, k8, b8⟩ := d8.get X G (ps := ["row", "h"]) fun _ _ _ _ _ _ us hl => match us, hl with | [_, _], _ => rfl
  obtain ⟨f9, fd9, F9, g9, k9, b9⟩ := d9.get X G (ps := ["row", "h"]) fun _ _ _ _ _ _ us hl => match us, hl with | [_, _], _ => rfl
  obtain ⟨fL, oc, od, kV, dc, pm, an, cd, ct, sl, aL, lL, cL, kL⟩ := d10.ex
  have FL := fun_mk (st := slaw) lL cL kL
  have e := hfa.symm.trans (PySem.W.mg_of X G aL)
  cases e
  refine ⟨PySem.W.fnOf "law" "law" (defArgs slaw) (defBody slaw) (defScope slaw) .none kV dc pm an cd ct, fun s u => .of_eq rfl, fun base _ _ => ?_⟩
  have Cstep_classes : CalG l.prog w K mg base 1 "step_classes" (spP 2 Gstep_classes) := .mk' (cstep_classes 0 F0 (m_min := no zmin) (m_range := no zrange) (m_tuple := no ztuple)) g0 k0 b0
  have Cis_sorted_by : CalG l.prog w K mg base 1 "is_sorted_by" (spP 2 Gis_sorted_by) := .mk' (cis_sorted_by 0 F1 (m_all := no zall) (m_zip := no zzip)) g1 k1 b1
  have C_law_pick : CalG l.prog w K mg base 1 "_law_pick" (spS 2 G_law_pick) := .mk' (ok_pick F5 (no zlen) (no zint)) g5 k5 b5
  have C_law_is_by : CalG l.prog w K mg base 1 "_law_is_by" (spP 2 G_law_is_by) := .mk' (c_law_is_by 0 F8 (m_len := no zlen) (m_range := no zrange)) g8 k8 b8
  have C_law_by : CalG l.prog w K mg base 1 "_law_by" (spP 2 G_law_by) := .mk' (c_law_by 0 F9 (m_len := no zlen) (m_list := no zlist) (m_max := no zmax) (m_min := no zmin) (m_range := no zrange) (m_tuple := no ztuple)) g9 k9 b9
  have Csorted_by : CalG l.prog w K mg base 2 "sorted_by" (spP 2 Gsorted_by) := .mk' (csorted_by 1 F2 (m_len := no zlen) (m_list := no zlist) (m_sorted := no zsorted) (m_tuple := no ztuple) (m_zip := no zzip) (Cstep_classes := Cstep_classes.mono (by decide))) g2 k2 b2
  have C_law_of : CalG l.prog w K mg base 2 "_law_of" (spS 2 G_law_of) := .mk' (c_law_of 1 F6 (m_len := no zlen) (C_law_pick := C_law_pick.mono (by decide))) g6 k6 b6
  have Csorted_by_steps : CalG l.prog w K mg base 3 "sorted_by_steps" (spP 2 Gsorted_by_steps) := .mk' (csorted_by_steps 2 F3 (Csorted_by := Csorted_by.mono (by decide))) g3 k3 b3
  have C_law_row : CalG l.prog w K mg base 3 "_law_row" (spS 2 G_law_row) := .mk' (c_law_row 2 F7 (m_range := no zrange) (m_tuple := no ztuple) (C_law_pick := C_law_pick.mono (by decide)) (C_law_of := C_law_of.mono (by decide))) g7 k7 b7
  have P4 : FnG l.prog w K mg base 3 f4 fd4 ["script"] (spO K) := ok_open F4 (no zint) (no zabs)
  refine fnLaw (k := 3) (N := ["script", "source", "lap", "n", "h", "k", "classes", "row", "kept", "due", "one", "late", "steps", "told", "step", "r", "i", "some", "turn"]) (body := Blaw Gsorted_by Gsorted_by_steps G_law_is_by G_law_by G_law_pick Gis_sorted_by G_law_row Gstep_classes) FL sclaw (by decide) body_law
    (fun cdv A outer s H E hr hgu => ps_set (i := 1) sclaw.nd rfl (.inr rfl) (pe_callG P4 hr hgu (by rfl) g4 k4 b4 (pa_cons (pv 0) pa_nil)))
    (fun cdv A outer s H E hr g n => bvlaw (k := 3) (m_int := no zint) (m_list := no zlist) (m_range := no zrange) (m_repr := no zrepr) (m_sorted := no zsorted) (m_tuple := no ztuple) (Csorted_by := Csorted_by.mono (by decide)) (Lsorted_by := Lsorted_by) (Csorted_by_steps := Csorted_by_steps.mono (by decide)) (Lsorted_by_steps := Lsorted_by_steps) (C_law_is_by := C_law_is_by.mono (by decide)) (L_law_is_by := L_law_is_by) (C_law_by := C_law_by.mono (by decide)) (L_law_by := L_law_by) (C_law_pick := C_law_pick.mono (by decide)) (L_law_pick := L_law_pick) (Cis_sorted_by := Cis_sorted_by.mono (by decide)) (Lis_sorted_by := Lis_sorted_by) (C_law_row := C_law_row.mono (by decide)) (L_law_row := L_law_row) (Cstep_classes := Cstep_classes.mono (by decide)) (Lstep_classes := Lstep_classes) (cdv := cdv) (A := A) (outer := outer) (s := s) (H := H) (E := E) (hr := hr) (g := g) (n := n))
    (fun z => by
      obtain ⟨o, st', e, rfl⟩ := run_law z
      exact ⟨FUEL, st', (congrArg (fun q => Blaw Gsorted_by Gsorted_by_steps G_law_is_by G_law_by G_law_pick Gis_sorted_by G_law_row Gstep_classes FUEL q) (law_st 17 (some z))).trans e⟩)
end K76
open PySem PySem.W PyProof.Rows in
set_option maxHeartbeats 0 in
theorem PySem.Challenge.cw_sortedbynets_k76_whole_steps_stay_sorted_holds : PySem.Challenge.rw_sortedbynets_k76_whole_steps_stay_sorted.Holds := by
  w_on; o_law; k_head; (case hw => w_witness2)
  k_fill
  refine NV.walk_ofG (l := PySem.Challenge.rw_sortedbynets_k76_whole_steps_stay_sorted) (k := 4) (x := "script") rfl rfl ⟨rfl, by decide, by decide⟩ (fun w h Y => PySem.W.kIn_of Y) ?F
  case F =>
    intro w mg fa h KX G hmg
    refine' K76.all_mk KX G hmg (.of ?a0 ?l0 ?c0 ?k0) (.of ?a1 ?l1 ?c1 ?k1) (.of ?a2 ?l2 ?c2 ?k2) (.of ?a3 ?l3 ?c3 ?k3) (.of ?a4 ?l4 ?c4 ?k4) (.of ?a5 ?l5 ?c5 ?k5) (.of ?a6 ?l6 ?c6 ?k6) (.of ?a7 ?l7 ?c7 ?k7) (.of ?a8 ?l8 ?c8 ?k8) (.of ?a9 ?l9 ?c9 ?k9) (.of ?a10 ?l10 ?c10 ?k10) ?z0 ?z1 ?z2 ?z3 ?z4 ?z5 ?z6 ?z7 ?z8 ?z9 ?z10 ?z11
    (case a0 => k_is); (case l0 => k_is); (case c0 => k_is); (case k0 => k_is)
    (case a1 => k_is); (case l1 => k_is); (case c1 => k_is); (case k1 => k_is)
    (case a2 => k_is); (case l2 => k_is); (case c2 => k_is); (case k2 => k_is)
    (case a3 => k_is); (case l3 => k_is); (case c3 => k_is); (case k3 => k_is)
    (case a4 => k_is); (case l4 => k_is); (case c4 => k_is); (case k4 => k_is)
    (case a5 => k_is); (case l5 => k_is); (case c5 => k_is); (case k5 => k_is)
    (case a6 => k_is); (case l6 => k_is); (case c6 => k_is); (case k6 => k_is)
    (case a7 => k_is); (case l7 => k_is); (case c7 => k_is); (case k7 => k_is)
    (case a8 => k_is); (case l8 => k_is); (case c8 => k_is); (case k8 => k_is)
    (case a9 => k_is); (case l9 => k_is); (case c9 => k_is); (case k9 => k_is)
    (case a10 => k_is); (case l10 => k_is); (case c10 => k_is); (case k10 => k_is)
    (case z0 => k_is)
    (case z1 => k_is)
    (case z2 => k_is)
    (case z3 => k_is)
    (case z4 => k_is)
    (case z5 => k_is)
    (case z6 => k_is)
    (case z7 => k_is)
    (case z8 => k_is)
    (case z9 => k_is)
    (case z10 => k_is)
    (case z11 => k_is)
