import PyProof.Rows.All
import HandS.ForMost
import HandS.Codes
import HandS.SortInts
import HandS.Zip
import HandS.Wide
import HandS.IsInst
import HandS.Flow
import PyProof.ReprRoads
import HandS.Style
import HandS.TupAny
import HandS.TupMul
import HandS.Deep
import HandS.Conv
import HandS.Walk
import HandS.EndBits
import KE.GoesEnum
import KE.KDictZip
import HandS.Star
import PySem.Challenge.RW_sortedbynets_k83_whole_nets_that_count
set_option Elab.async false
set_option linter.all false
set_option maxRecDepth 100000
set_option maxHeartbeats 4000000
/-! NV1: pure data in the heap, the state that a body sees, results, readings of expressions -/
namespace NV
open PySem PySem.Spec PyProof.Rows L2

/-- a condition that nothing reckons out by itself -/
def Safe (p : Prop) : Prop := p
noncomputable instance (p : Prop) : Decidable (Safe p) := Classical.propDecidable _
@[simp] theorem safe_iff {p : Prop} : Safe p ↔ p := Iff.rfl
abbrev SS := L2.St

def keyD : Key → PyData
  | .inl i => .int i
  | .inr x => .str x

mutual
inductive Rp (H : Hp) : V → PyData → Prop
  | non : Rp H .non .none
  | bl (b : Bool) : Rp H (.bl b) (.bool b)
  | int (i : Int) : Rp H (.int i) (.int i)
  | str (x : Str) : Rp H (.str x) (.str x)
  | lst {a : Addr} {xs : List V} {ds : List PyData} : H a = some (.lst xs) → RpL H xs ds → Rp H (.ref a) (.list ds)
  | tup {a : Addr} {xs : List V} {ds : List PyData} : H a = some (.tup xs) → RpL H xs ds → Rp H (.ref a) (.tuple ds)
  | dct {a : Addr} {kvs : List (Key × V)} {es : List (PyData × PyData)} : H a = some (.dK kvs) → RpK H kvs es → Rp H (.ref a) (.dict es)
inductive RpL (H : Hp) : List V → List PyData → Prop
  | nil : RpL H [] []
  | cons {v : V} {vs : List V} {d : PyData} {ds : List PyData} : Rp H v d → RpL H vs ds → RpL H (v :: vs) (d :: ds)
inductive RpK (H : Hp) : List (Key × V) → List (PyData × PyData) → Prop
  | nil : RpK H [] []
  | cons {k : Key} {v : V} {vs : List (Key × V)} {d : PyData} {ds : List (PyData × PyData)} : Rp H v d → RpK H vs ds → RpK H ((k, v) :: vs) ((keyD k, d) :: ds)
end

def Sub (H H' : Hp) : Prop := ∀ a o, H a = some o → H' a = some o
theorem Sub.refl {H : Hp} : Sub H H := fun _ _ h => h
theorem Sub.trans {H H' H'' : Hp} (h : Sub H H') (h' : Sub H' H'') : Sub H H'' := fun a o e => h' a o (h a o e)
theorem Sub.nil {H H' : Hp} (h : Sub H H') {a : Addr} (e : H' a = none) : H a = none := by
  cases q : H a with
  | none => rfl
  | some o => rw [h a o q] at e; cases e
theorem Sub.ext {H : Hp} {a : Addr} {o : HO} (h : H a = none) : Sub H (upd H a o) := fun b x e => by
  rw [upd_ne (ne_of_none e h)]; exact e

mutual
theorem Rp.mono {H H' : Hp} (s : Sub H H') : ∀ (d : PyData) (v : V), Rp H v d → Rp H' v d
  | .none, _, h => by cases h; exact .non
  | .bool b, _, h => by cases h; exact .bl b
  | .int i, _, h => by cases h; exact .int i
  | .str x, _, h => by cases h; exact .str x
  | .list ds, _, h => by
    cases h with
    | lst e r => exact .lst (s _ _ e) (RpL.mono s ds _ r)
  | .tuple ds, _, h => by
    cases h with
    | tup e r => exact .tup (s _ _ e) (RpL.mono s ds _ r)
  | .dict es, _, h => by
    cases h with
    | dct e r => exact .dct (s _ _ e) (RpK.mono s es _ r)
theorem RpL.mono {H H' : Hp} (s : Sub H H') : ∀ (ds : List PyData) (vs : List V), RpL H vs ds → RpL H' vs ds
  | [], _, h => by cases h; exact .nil
  | d :: ds, _, h => by
    cases h with
    | cons r rs => exact .cons (Rp.mono s d _ r) (RpL.mono s ds _ rs)
theorem RpK.mono {H H' : Hp} (s : Sub H H') : ∀ (ds : List (PyData × PyData)) (vs : List (Key × V)), RpK H vs ds → RpK H' vs ds
  | [], _, h => by cases h; exact .nil
  | (k, d) :: ds, _, h => by
    cases h with
    | cons r rs => exact .cons (Rp.mono s d _ r) (RpK.mono s ds _ rs)
end
theorem Rp.up {H H' : Hp} (s : Sub H H') {d : PyData} {v : V} (h : Rp H v d) : Rp H' v d := Rp.mono s d v h
theorem RpL.up {H H' : Hp} (s : Sub H H') {ds : List PyData} {vs : List V} (h : RpL H vs ds) : RpL H' vs ds := RpL.mono s ds vs h

section
variable {H : Hp}
theorem RpL.length : ∀ {ds : List PyData} {vs : List V}, RpL H vs ds → vs.length = ds.length
  | [], _, h => by cases h; rfl
  | d :: ds, _, h => by
    cases h with
    | cons r rs => simp [RpL.length rs]
theorem RpL.app : ∀ {ds es : List PyData} {vs ws : List V}, RpL H vs ds → RpL H ws es → RpL H (vs ++ ws) (ds ++ es)
  | [], _, _, _, h, h' => by cases h; exact h'
  | d :: ds, _, _, _, h, h' => by
    cases h with
    | cons r rs => exact .cons r (RpL.app rs h')
theorem RpL.get : ∀ {ds : List PyData} {vs : List V} {i : Nat} {d : PyData}, RpL H vs ds → ds[i]? = some d → ∃ v, vs[i]? = some v ∧ Rp H v d
  | [], _, _, _, h, e => by simp at e
  | d :: ds, _, 0, _, h, e => by
    cases h with
    | cons r rs => simp at e; subst e; exact ⟨_, rfl, r⟩
  | d :: ds, _, i + 1, x, h, e => by
    cases h with
    | cons r rs =>
      obtain ⟨v, h1, h2⟩ := RpL.get (i := i) (d := x) rs (by simpa using e)
      exact ⟨v, by simpa using h1, h2⟩
theorem RpL.getV : ∀ {ds : List PyData} {vs : List V} {i : Nat} {v : V}, RpL H vs ds → vs[i]? = some v → ∃ d, ds[i]? = some d ∧ Rp H v d
  | [], _, _, _, h, e => by cases h; simp at e
  | d :: ds, _, 0, _, h, e => by
    cases h with
    | cons r rs => simp at e; subst e; exact ⟨_, rfl, r⟩
  | d :: ds, _, i + 1, x, h, e => by
    cases h with
    | cons r rs =>
      obtain ⟨v, h1, h2⟩ := RpL.getV (i := i) (v := x) rs (by simpa using e)
      exact ⟨v, by simpa using h1, h2⟩
theorem RpL.take : ∀ {ds : List PyData} {vs : List V} (n : Nat), RpL H vs ds → RpL H (vs.take n) (ds.take n)
  | _, _, 0, _ => by rw [List.take_zero, List.take_zero]; exact .nil
  | [], _, n + 1, h => by cases h; exact .nil
  | d :: ds, _, n + 1, h => by
    cases h with
    | cons r rs => exact .cons r (RpL.take n rs)
theorem RpL.drop : ∀ {ds : List PyData} {vs : List V} (n : Nat), RpL H vs ds → RpL H (vs.drop n) (ds.drop n)
  | _, _, 0, h => h
  | [], _, n + 1, h => by cases h; exact .nil
  | d :: ds, _, n + 1, h => by
    cases h with
    | cons r rs => exact RpL.drop n rs
theorem RpL.rev {ds : List PyData} {vs : List V} (h : RpL H vs ds) : RpL H vs.reverse ds.reverse := by
  induction ds generalizing vs with
  | nil => cases h; exact .nil
  | cons d ds ih =>
    cases h with
    | cons r rs =>
      rw [List.reverse_cons, List.reverse_cons]
      exact RpL.app (ih rs) (.cons r .nil)
theorem RpL.set : ∀ {ds : List PyData} {vs : List V} (i : Nat) {d : PyData} {v : V}, RpL H vs ds → Rp H v d → RpL H (vs.set i v) (ds.set i d)
  | [], _, _, _, _, h, _ => by cases h; exact .nil
  | d :: ds, _, 0, _, _, h, q => by
    cases h with
    | cons r rs => exact .cons q rs
  | d :: ds, _, i + 1, _, _, h, q => by
    cases h with
    | cons r rs => exact .cons r (RpL.set i rs q)
theorem RpL.ints : ∀ {ns : List Int} {vs : List V}, RpL H vs (ns.map PyData.int) → vs = ns.map V.int
  | [], _, h => by cases h; rfl
  | n :: ns, _, h => by
    cases h with
    | cons r rs => cases r; rw [RpL.ints rs]; rfl
theorem RpL.ofInts : ∀ (ns : List Int), RpL H (ns.map V.int) (ns.map PyData.int)
  | [] => .nil
  | n :: ns => .cons (.int n) (RpL.ofInts ns)
theorem RpL.bls : ∀ {ns : List Bool} {vs : List V}, RpL H vs (ns.map PyData.bool) → vs = ns.map V.bl
  | [], _, h => by cases h; rfl
  | n :: ns, _, h => by
    cases h with
    | cons r rs => cases r; rw [RpL.bls rs]; rfl
end

/-! ### what a body sees -/
structure Src where
  cells : List Int
  left : Int
  mixed : Int
  turn : Int
inductive Sl where
  | emp
  | val (d : PyData)
  | own (ds : List PyData)
  | src
def Sl.isOwn : Sl → Prop
  | .own _ => True
  | _ => False
structure Sta where
  e : Nat → Sl
  z : Option Src
def Sta.put (st : Sta) (i : Nat) (x : Sl) : Sta := ⟨fun j => if j = i then x else st.e j, st.z⟩
theorem put_same {st : Sta} {i : Nat} {x : Sl} : (st.put i x).e i = x := if_pos rfl
theorem put_ne {st : Sta} {i j : Nat} {x : Sl} (h : j ≠ i) : (st.put i x).e j = st.e j := if_neg h
theorem put_z {st : Sta} {i : Nat} {x : Sl} : (st.put i x).z = st.z := rfl

structure Lay where
  aD : Addr
  aC : Addr
  pr : Hp

def srcKvs (L : Lay) (z : Src) : List (Key × V) := [(.inr "cells", .ref L.aC), (.inr "left", .int z.left), (.inr "mixed", .int z.mixed), (.inr "turn", .int z.turn)]
def SrcAt (L : Lay) (z : Src) (H : Hp) : Prop := H L.aD = some (.dK (srcKvs L z)) ∧ H L.aC = some (.lst (z.cells.map V.int))

def SlOk (L : Lay) (Hf : Hp) (zs : Bool) (σ : SS) (H : Hp) (i : Nat) : Sl → Prop
  | .emp => True
  | .val d => ∃ v, σ[i]? = some (some v) ∧ Rp Hf v d
  | .own ds => ∃ a vs, σ[i]? = some (some (.ref a)) ∧ H a = some (.lst vs) ∧ RpL Hf vs ds ∧ Hf a = none ∧ L.pr a = none ∧ (zs = true → a ≠ L.aD ∧ a ≠ L.aC)
  | .src => σ[i]? = some (some (.ref L.aD)) ∧ zs = true

structure Cor (L : Lay) (Hf : Hp) (st : Sta) (σ : SS) (H : Hp) : Prop where
  le : Sub Hf H
  pr : ∀ a o, L.pr a = some o → H a = some o ∧ Hf a = none
  sl : ∀ i, SlOk L Hf st.z.isSome σ H i (st.e i)
  dj : ∀ i j a, (st.e i).isOwn → (st.e j).isOwn → σ[i]? = some (some (.ref a)) → σ[j]? = some (some (.ref a)) → i = j
  so : ∀ z, st.z = some z → SrcAt L z H ∧ Hf L.aD = none ∧ Hf L.aC = none ∧ L.pr L.aD = none ∧ L.pr L.aC = none

/-- a result -/
inductive R where
  | dat (d : PyData)
  | fre (ds : List PyData)
  | slt (i : Nat)

/-- v stands free: no slot owns it -/
def Free (L : Lay) (Hf : Hp) (st : Sta) (σ : SS) (a : Addr) : Prop := Hf a = none ∧ L.pr a = none ∧ (st.z.isSome = true → a ≠ L.aD ∧ a ≠ L.aC) ∧ ∀ i, (st.e i).isOwn → σ[i]? ≠ some (some (.ref a))
def ResOk (L : Lay) (Hf : Hp) (st : Sta) (σ : SS) (H : Hp) (v : V) : R → Prop
  | .dat d => Rp Hf v d
  | .fre ds => ∃ a vs, v = .ref a ∧ H a = some (.lst vs) ∧ RpL Hf vs ds ∧ Free L Hf st σ a
  | .slt i => σ[i]? = some (some v) ∧ (st.e i).isOwn

theorem SlOk.mono {L : Lay} {Hf Hf' : Hp} {zs : Bool} {σ : SS} {H : Hp} {i : Nat} {x : Sl} (s : Sub Hf Hf') (h : SlOk L Hf zs σ H i x) (hn : ∀ a, (x.isOwn ∧ σ[i]? = some (some (.ref a))) → Hf' a = none) : SlOk L Hf' zs σ H i x := by
  cases x with
  | emp => trivial
  | val d => obtain ⟨v, e, r⟩ := h; exact ⟨v, e, r.up s⟩
  | own ds => obtain ⟨a, vs, e, ea, r, n, p, q⟩ := h; exact ⟨a, vs, e, ea, r.up s, hn a ⟨trivial, e⟩, p, q⟩
  | src => exact h

section
variable {L : Lay} {Hf : Hp} {st : Sta} {σ : SS} {H : Hp} {a : Addr}
theorem Cor.free_new (c : Cor L Hf st σ H) (h : H a = none) : Free L Hf st σ a := by
  refine ⟨c.le.nil h, ?_, fun hz => ?_, fun i ho e => ?_⟩
  · cases q : L.pr a with
    | none => rfl
    | some o => rw [(c.pr a o q).1] at h; cases h
  · cases q : st.z with
    | none => rw [q] at hz; cases hz
    | some z =>
      obtain ⟨⟨h1, h2⟩, _⟩ := c.so z q
      exact ⟨fun e => (by rw [← e, h] at h1; cases h1), fun e => (by rw [← e, h] at h2; cases h2)⟩
  · have := c.sl i
    cases q : st.e i with
    | emp => rw [q] at ho; exact ho
    | val d => rw [q] at ho; exact ho
    | src => rw [q] at ho; exact ho
    | own ds =>
      rw [q] at this
      obtain ⟨b, vs, e', ea, _⟩ := this
      rw [e] at e'; cases e'
      rw [h] at ea; cases ea
/-- a free object is frozen -/
theorem Cor.freeze (c : Cor L Hf st σ H) {o : HO} (f : Free L Hf st σ a) (h : H a = some o) : Cor L (upd Hf a o) st σ H where
  le := fun b x e => by
    by_cases hb : b = a
    · subst hb; rw [upd_same] at e; cases e; exact h
    · rw [upd_ne hb] at e; exact c.le b x e
  pr := fun b x e => by
    have hb : b ≠ a := fun q => by rw [q, f.2.1] at e; cases e
    rw [upd_ne hb]; exact c.pr b x e
  sl := fun i => (c.sl i).mono (Sub.ext f.1) fun b ⟨ho, e⟩ => by
    have hb : b ≠ a := fun q => f.2.2.2 i ho (by rw [e, q])
    rw [upd_ne hb]
    have := c.sl i
    cases q : st.e i with
    | emp => rw [q] at ho; exact ho.elim
    | val d => rw [q] at ho; exact ho.elim
    | src => rw [q] at ho; exact ho.elim
    | own ds =>
      rw [q] at this
      obtain ⟨b', vs, e', ea, _, n, _⟩ := this
      rw [e] at e'; cases e'
      exact n
  dj := c.dj
  so := fun z hz => by
    obtain ⟨h1, h2, h3, h4⟩ := c.so z hz
    have hz' : st.z.isSome = true := by rw [hz]; rfl
    obtain ⟨n1, n2⟩ := f.2.2.1 hz'
    rw [upd_ne n1.symm, upd_ne n2.symm]
    exact ⟨h1, h2, h3, h4⟩
/-- a new object is laid, tracked but not frozen -/
theorem Cor.laid (c : Cor L Hf st σ H) {o : HO} (h : H a = none) : Cor L Hf st σ (upd H a o) where
  le := fun b x e => by
    have hb : b ≠ a := fun q => by rw [q, c.le.nil h] at e; cases e
    rw [upd_ne hb]; exact c.le b x e
  pr := fun b x e => by
    have hb : b ≠ a := fun q => by rw [q] at e; rw [(c.pr a x e).1] at h; cases h
    rw [upd_ne hb]; exact c.pr b x e
  sl := fun i => by
    have := c.sl i
    cases q : st.e i with
    | emp => trivial
    | val d => rw [q] at this; exact this
    | src => rw [q] at this; exact this
    | own ds =>
      rw [q] at this
      obtain ⟨b, vs, e', ea, r⟩ := this
      exact ⟨b, vs, e', by rw [upd_ne (ne_of_none ea h)]; exact ea, r⟩
  dj := c.dj
  so := fun z hz => by
    obtain ⟨⟨h1, h2⟩, h3⟩ := c.so z hz
    exact ⟨⟨by rw [upd_ne (ne_of_none h1 h)]; exact h1, by rw [upd_ne (ne_of_none h2 h)]; exact h2⟩, h3⟩
end

/-! ### how a step's value comes -/
inductive Grow (Hf H : Hp) : R → V → Hp → Prop
  | old {v : V} {d : PyData} : Rp Hf v d → Grow Hf H (.dat d) v H
  | tup {p : Addr} {vs : List V} {ds : List PyData} : H p = none → RpL Hf vs ds → Grow Hf H (.dat (.tuple ds)) (.ref p) (upd H p (.tup vs))
  | lst {p : Addr} {vs : List V} {ds : List PyData} : H p = none → RpL Hf vs ds → Grow Hf H (.fre ds) (.ref p) (upd H p (.lst vs))
  | dct {p : Addr} {vs : List (Key × V)} {ds : List (PyData × PyData)} : H p = none → RpK Hf vs ds → Grow Hf H (.dat (.dict ds)) (.ref p) (upd H p (.dK vs))
  | tup2 {p q : Addr} {vs : List V} {ds : List PyData} {i : Int} : H p = none → (upd H p (.tup vs)) q = none → RpL Hf vs ds → Grow Hf H (.dat (.tuple [.int i, .tuple ds])) (.ref q) (upd (upd H p (.tup vs)) q (.tup [.int i, .ref p]))
def After (L : Lay) (Hf : Hp) (st : Sta) (σ : SS) (r : R) (Q : VK) : Prop := ∀ v H' Hf', Sub Hf Hf' → Cor L Hf' st σ H' → ResOk L Hf' st σ H' v r → Q v H'
theorem Grow.after {L : Lay} {Hf : Hp} {st : Sta} {σ : SS} {H H' : Hp} {r : R} {v : V} {Q : VK} (g : Grow Hf H r v H') (c : Cor L Hf st σ H) (k : After L Hf st σ r Q) : Q v H' := by
  cases g with
  | old q => exact k v H Hf Sub.refl c q
  | @tup p vs ds hp q =>
    have f := c.free_new hp
    have hs : Sub Hf (upd Hf p (.tup vs)) := Sub.ext f.1
    exact k _ _ _ hs ((c.laid hp).freeze f upd_same) (.tup upd_same (q.up hs))
  | @lst p vs ds hp q =>
    exact k _ _ _ Sub.refl (c.laid hp) ⟨p, vs, rfl, upd_same, q, c.free_new hp⟩
  | @dct p vs ds hp q =>
    have f := c.free_new hp
    have hs : Sub Hf (upd Hf p (.dK vs)) := Sub.ext f.1
    exact k _ _ _ hs ((c.laid hp).freeze f upd_same) (.dct upd_same (RpK.mono hs _ _ q))
  | @tup2 p r vs ds i hp hr q =>
    have f := c.free_new hp
    have hs : Sub Hf (upd Hf p (.tup vs)) := Sub.ext f.1
    have c1 : Cor L (upd Hf p (.tup vs)) st σ (upd H p (.tup vs)) := (c.laid hp).freeze f upd_same
    have f2 := c1.free_new hr
    have hs2 : Sub (upd Hf p (.tup vs)) (upd (upd Hf p (.tup vs)) r (.tup [.int i, .ref p])) := Sub.ext f2.1
    exact k _ _ _ (hs.trans hs2) ((c1.laid hr).freeze f2 upd_same) (.tup upd_same (.cons (.int i) (.cons (Rp.up hs2 (.tup upd_same (q.up hs))) .nil)))

abbrev M := Sta → Option (R × Sta)
def rdE (m : M) : TE := fun σ H Q => ∃ L Hf st r st', Cor L Hf st σ H ∧ m st = some (r, st') ∧ After L Hf st' σ r Q
def EV (X : Cx) (e : Expr) (m : M) : Prop := PE X e (rdE m)
theorem ev_of {X : Cx} {e : Expr} {m : M} (h : ∀ L Hf st r st' σ H Q, Cor L Hf st σ H → m st = some (r, st') → After L Hf st' σ r Q → ∃ t, PE X e t ∧ t σ H Q) : EV X e m :=
  ⟨fun pins s σ H Q I ⟨L, Hf, st, r, st', c, e1, k⟩ => by
    obtain ⟨t, ht, q⟩ := h L Hf st r st' σ H Q c e1 k
    exact ht.run pins s σ H Q I q⟩
/-- an expression's use: the reading of its value -/
theorem ev_use {m : M} {L : Lay} {Hf : Hp} {st : Sta} {σ : SS} {H : Hp} {Q : VK} {r : R} {st' : Sta} (c : Cor L Hf st σ H) (e1 : m st = some (r, st')) (k : After L Hf st' σ r Q) : rdE m σ H Q := ⟨L, Hf, st, r, st', c, e1, k⟩

/-! ### operands -/
@[simp] def res (st : Sta) : R → Option PyData
  | .dat d => some d
  | .fre ds => some (.list ds)
  | .slt i => match st.e i with
    | .own ds => some (.list ds)
    | .val d => some d
    | _ => none
/-- what is known of an operand from its evaluation on -/
def Opd (Hf : Hp) (σ : SS) (v : V) : R → Prop
  | .dat d => Rp Hf v d
  | .fre ds => Rp Hf v (.list ds)
  | .slt i => σ[i]? = some (some v)
theorem Opd.mono {Hf Hf' : Hp} {σ : SS} {v : V} {r : R} (s : Sub Hf Hf') (h : Opd Hf σ v r) : Opd Hf' σ v r := by
  cases r with
  | dat d => exact Rp.up s h
  | fre ds => exact Rp.up s h
  | slt i => exact h
/-- the value of an operand, at the operation -/
def Rq (Hf H : Hp) (v : V) (d : PyData) : Prop := Rp Hf v d ∨ ∃ a vs ds, v = .ref a ∧ d = .list ds ∧ H a = some (.lst vs) ∧ RpL Hf vs ds
theorem ResOk.opd {L : Lay} {Hf : Hp} {st : Sta} {σ : SS} {H : Hp} {v : V} {r : R} (c : Cor L Hf st σ H) (h : ResOk L Hf st σ H v r) : ∃ Hf', Sub Hf Hf' ∧ Cor L Hf' st σ H ∧ Opd Hf' σ v r := by
  cases r with
  | dat d => exact ⟨Hf, Sub.refl, c, h⟩
  | slt i => exact ⟨Hf, Sub.refl, c, h.1⟩
  | fre ds =>
    obtain ⟨a, vs, rfl, ea, q, f⟩ := h
    have hs : Sub Hf (upd Hf a (.lst vs)) := Sub.ext f.1
    exact ⟨_, hs, c.freeze f ea, .lst upd_same (q.up hs)⟩
theorem Opd.rq {L : Lay} {Hf : Hp} {st : Sta} {σ : SS} {H : Hp} {v : V} {r : R} {d : PyData} (c : Cor L Hf st σ H) (h : Opd Hf σ v r) (e : res st r = some d) : Rq Hf H v d := by
  cases r with
  | dat d' => cases e; exact .inl h
  | fre ds => cases e; exact .inl h
  | slt i =>
    have q := c.sl i
    unfold res at e
    cases z : st.e i with
    | emp => simp only [z] at e; cases e
    | src => simp only [z] at e; cases e
    | val d' =>
      simp only [z] at e; cases e
      rw [z] at q
      obtain ⟨w, e1, q⟩ := q
      have h' : σ[i]? = some (some v) := h
      rw [h'] at e1; cases e1
      exact .inl q
    | own ds =>
      simp only [z] at e; cases e
      rw [z] at q
      obtain ⟨a, vs, e1, ea, q, _⟩ := q
      have h' : σ[i]? = some (some v) := h
      rw [h'] at e1; cases e1
      exact .inr ⟨a, vs, ds, rfl, rfl, ea, q⟩
theorem Rq.rp {Hf H : Hp} {v : V} {d : PyData} (s : Sub Hf H) (h : Rq Hf H v d) : Rp H v d := by
  rcases h with h | ⟨a, vs, ds, rfl, rfl, ea, q⟩
  · exact h.up s
  · exact .lst ea (q.up s)
theorem Rq.lst {Hf H : Hp} {v : V} {ds : List PyData} (s : Sub Hf H) (h : Rq Hf H v (.list ds)) : ∃ a vs, v = .ref a ∧ H a = some (.lst vs) ∧ RpL Hf vs ds := by
  rcases h with h | ⟨a, vs, ds', rfl, e, ea, q⟩
  · cases h with
    | lst e r => exact ⟨_, _, rfl, s _ _ e, r⟩
  · cases e; exact ⟨a, vs, rfl, ea, q⟩
theorem Rq.tup {Hf H : Hp} {v : V} {ds : List PyData} (s : Sub Hf H) (h : Rq Hf H v (.tuple ds)) : ∃ a vs, v = .ref a ∧ H a = some (.tup vs) ∧ RpL Hf vs ds := by
  rcases h with h | ⟨a, vs, ds', rfl, e, ea, q⟩
  · cases h with
    | tup e r => exact ⟨_, _, rfl, s _ _ e, r⟩
  · cases e
theorem Rq.int {Hf H : Hp} {v : V} {i : Int} (h : Rq Hf H v (.int i)) : v = .int i := by
  rcases h with h | ⟨a, vs, ds', rfl, e, ea, q⟩
  · cases h; rfl
  · cases e
theorem Rq.str {Hf H : Hp} {v : V} {i : Str} (h : Rq Hf H v (.str i)) : v = .str i := by
  rcases h with h | ⟨a, vs, ds', rfl, e, ea, q⟩
  · cases h; rfl
  · cases e
theorem Rq.bl {Hf H : Hp} {v : V} {i : Bool} (h : Rq Hf H v (.bool i)) : v = .bl i := by
  rcases h with h | ⟨a, vs, ds', rfl, e, ea, q⟩
  · cases h; rfl
  · cases e
theorem Rq.non {Hf H : Hp} {v : V} (h : Rq Hf H v .none) : v = .non := by
  rcases h with h | ⟨a, vs, ds', rfl, e, ea, q⟩
  · cases h; rfl
  · cases e
inductive RqL (Hf H : Hp) : List V → List PyData → Prop
  | nil : RqL Hf H [] []
  | cons {v : V} {d : PyData} {vs : List V} {ds : List PyData} : Rq Hf H v d → RqL Hf H vs ds → RqL Hf H (v :: vs) (d :: ds)
inductive OpdL (Hf : Hp) (σ : SS) : List V → List R → Prop
  | nil : OpdL Hf σ [] []
  | cons {v : V} {d : R} {vs : List V} {ds : List R} : Opd Hf σ v d → OpdL Hf σ vs ds → OpdL Hf σ (v :: vs) (d :: ds)
@[simp] def resL (st : Sta) : List R → Option (List PyData)
  | [] => some []
  | r :: rs => (res st r).bind fun d => (resL st rs).map fun ds => d :: ds
theorem OpdL.mono {Hf Hf' : Hp} {σ : SS} (s : Sub Hf Hf') : ∀ {vs : List V} {rs : List R}, OpdL Hf σ vs rs → OpdL Hf' σ vs rs
  | _, _, .nil => .nil
  | _, _, .cons h t => .cons (h.mono s) (OpdL.mono s t)
theorem OpdL.rq {L : Lay} {Hf : Hp} {st : Sta} {σ : SS} {H : Hp} (c : Cor L Hf st σ H) : ∀ {vs : List V} {rs : List R} {ds : List PyData}, OpdL Hf σ vs rs → resL st rs = some ds → RqL Hf H vs ds
  | _, _, _, .nil, e => by cases e; exact .nil
  | _, _, _, .cons (d := r) (ds := rs) h t, e => by
    unfold resL at e
    cases q : res st r with
    | none => rw [q] at e; cases e
    | some d =>
      cases q' : resL st rs with
      | none => rw [q, q'] at e; cases e
      | some ds' =>
        rw [q, q'] at e; cases e
        exact .cons (h.rq c q) (OpdL.rq c t q')

/-! ### binary operations -/
@[simp] def mBin (f : PyData → PyData → Option R) (a b : M) : M := fun st =>
  (a st).bind fun (r1, st1) => (b st1).bind fun (r2, st2) => (res st2 r1).bind fun d1 => (res st2 r2).bind fun d2 => (f d1 d2).map fun r => (r, st2)
theorem mBin_some {f : PyData → PyData → Option R} {a b : M} {st : Sta} {r : R} {st' : Sta} (h : mBin f a b st = some (r, st')) : ∃ r1 st1 r2 d1 d2, a st = some (r1, st1) ∧ b st1 = some (r2, st') ∧ res st' r1 = some d1 ∧ res st' r2 = some d2 ∧ f d1 d2 = some r := by
  unfold mBin at h
  cases ha : a st with
  | none => rw [ha] at h; cases h
  | some p =>
    obtain ⟨r1, st1⟩ := p
    rw [ha] at h
    simp only [Option.bind_some] at h
    cases hb : b st1 with
    | none => rw [hb] at h; cases h
    | some p =>
      obtain ⟨r2, st2⟩ := p
      rw [hb] at h
      simp only [Option.bind_some] at h
      cases h1 : res st2 r1 with
      | none => rw [h1] at h; cases h
      | some d1 =>
        cases h2 : res st2 r2 with
        | none => rw [h1, h2] at h; cases h
        | some d2 =>
          rw [h1, h2] at h
          simp only [Option.bind_some] at h
          cases h3 : f d1 d2 with
          | none => rw [h3] at h; cases h
          | some r3 =>
            rw [h3] at h
            cases h
            exact ⟨r1, st1, r2, d1, d2, rfl, hb, h1, h2, h3⟩
/-- an operation of two values, by data -/
def DOp (X : Cx) (F : Value → Value → Sem Value) (f : PyData → PyData → Option R) : Prop :=
  ∀ (Hf H : Hp) (x y : V) (d1 d2 : PyData) (r : R) (Q : VK), Sub Hf H → Rq Hf H x d1 → Rq Hf H y d2 → f d1 d2 = some r → (∀ v H', Grow Hf H r v H' → Q v H') → ∃ r2 : R2, OpR X F r2 ∧ r2 x y H Q
theorem DOp.opR {X : Cx} {F : Value → Value → Sem Value} : OpR X F (fun x y H Q => ∃ r2 : R2, OpR X F r2 ∧ r2 x y H Q) := fun pins s σ H x y v u Q I rx ry ⟨r2, h, q⟩ => h pins s σ H x y v u Q I rx ry q
theorem two_use {a b : M} {L : Lay} {Hf : Hp} {st : Sta} {σ : SS} {H : Hp} {r1 r2 : R} {st1 st2 : Sta} {W : V → V → Hp → Prop} (c : Cor L Hf st σ H) (h1 : a st = some (r1, st1)) (h2 : b st1 = some (r2, st2))
    (k : ∀ x y H' Hf', Sub Hf Hf' → Cor L Hf' st2 σ H' → Opd Hf' σ x r1 → Opd Hf' σ y r2 → W x y H') : rdE a σ H fun x H1 => rdE b σ H1 fun y H2 => W x y H2 := by
  refine ev_use c h1 fun x H1 Hf1 s1 c1 q1 => ?_
  obtain ⟨Hf1', s1', c1', o1⟩ := q1.opd c1
  refine ev_use c1' h2 fun y H2 Hf2 s2 c2 q2 => ?_
  obtain ⟨Hf2', s2', c2', o2⟩ := q2.opd c2
  exact k x y H2 Hf2' ((s1.trans s1').trans (s2.trans s2')) c2' (o1.mono (s2.trans s2')) o2
theorem ev_bin {X : Cx} {ea eb : Expr} {op : Operator} {pos : Pos} {a b : M} {f : PyData → PyData → Option R} (ho : DOp X (binaryOp op) f) (ha : EV X ea a) (hb : EV X eb b) : EV X (.BinOp ea op eb pos) (mBin f a b) := by
  refine ev_of fun L Hf st r st' σ H Q c h k => ?_
  obtain ⟨r1, st1, r2, d1, d2, h1, h2, e1, e2, e3⟩ := mBin_some h
  refine ⟨_, pe_op DOp.opR ha hb, ?_⟩
  refine two_use c h1 h2 fun x y H' Hf' s' c' o1 o2 => ?_
  exact ho Hf' H' x y d1 d2 r Q c'.le (o1.rq c' e1) (o2.rq c' e2) e3 fun v H'' g => g.after c' fun v' H3 Hf3 s3 => k v' H3 Hf3 (s'.trans s3)
theorem ev_cmp {X : Cx} {ea eb : Expr} {op : CmpOp} {pos : Pos} {a b : M} {f : PyData → PyData → Option R} (ho : DOp X (compareOp op) f) (ha : EV X ea a) (hb : EV X eb b) (hm : behindInMarks op eb = false) : EV X (.Compare ea [op] [eb] pos) (mBin f a b) := by
  refine ev_of fun L Hf st r st' σ H Q c h k => ?_
  obtain ⟨r1, st1, r2, d1, d2, h1, h2, e1, e2, e3⟩ := mBin_some h
  refine ⟨_, pe_cmpR DOp.opR ha hb hm, ?_⟩
  refine two_use c h1 h2 fun x y H' Hf' s' c' o1 o2 => ?_
  exact ho Hf' H' x y d1 d2 r Q c'.le (o1.rq c' e1) (o2.rq c' e2) e3 fun v H'' g => g.after c' fun v' H3 Hf3 s3 => k v' H3 Hf3 (s'.trans s3)

/-! ### names, constants -/
@[simp] def mVar (i : Nat) : M := fun st => match st.e i with
  | .val d => some (.dat d, st)
  | .own _ => some (.slt i, st)
  | _ => none
@[simp] def mC (d : PyData) : M := fun st => some (.dat d, st)
section
variable {X : Cx}
theorem ev_var {i : Nat} {x : Str} {pos : Pos} (hN : X.N[i]? = some x) (hv : Vis X.env.scope x) (hd : (x == ("__debug__" : Str)) = false := by decide) (hcd : (x == ("__classdict__" : Str)) = false := by decide) : EV X (.Name x pos) (mVar i) := by
  refine ev_of fun L Hf st r st' σ H Q c h k => ⟨_, pe_var hN hv hd hcd, ?_⟩
  have q := c.sl i
  unfold mVar at h
  cases z : st.e i with
  | emp => simp only [z] at h; cases h
  | src => simp only [z] at h; cases h
  | val d =>
    simp only [z] at h; cases h
    rw [z] at q
    obtain ⟨v, e, q⟩ := q
    exact ⟨v, e, k v H Hf Sub.refl c q⟩
  | own ds =>
    simp only [z] at h; cases h
    rw [z] at q
    obtain ⟨a, vs, e, q⟩ := q
    exact ⟨_, e, k _ H Hf Sub.refl c ⟨e, by rw [z]; trivial⟩⟩
theorem ev_const {e : Expr} {v : V} {d : PyData} (h : PE X e (tC v)) (r : ∀ H, Rp H v d) : EV X e (mC d) := by
  refine ev_of fun L Hf st r' st' σ H Q c e1 k => ⟨_, h, ?_⟩
  cases e1
  exact k v H Hf Sub.refl c (r Hf)
theorem ev_int {i j pos} : EV X (.Constant (.int i) j pos) (mC (.int i)) := ev_const pe_int fun _ => .int i
theorem ev_bl {b j pos} : EV X (.Constant (.bool b) j pos) (mC (.bool b)) := ev_const pe_bl fun _ => .bl b
theorem ev_non {j pos} : EV X (.Constant .none j pos) (mC .none) := ev_const pe_non fun _ => .non
theorem ev_str {x j pos} : EV X (.Constant (.str x) j pos) (mC (.str x)) := ev_const pe_str fun _ => .str x
end
end NV
set_option Elab.async false
set_option linter.all false
set_option maxRecDepth 100000
set_option maxHeartbeats 4000000
/-! NV2: operations of data -/
namespace NV
open PySem PySem.Spec PyProof.Rows L2

structure Gd (X : Cx) : Prop where
  calm : X.calm = true
  nd : X.N.Nodup
  un : X.A.units + 150 < cLine
  gu : X.A.guards = some []
  xf : X.xe = fun _ _ => False
theorem Gd.po {X : Cx} (g : Gd X) : PassesOwn (model X.prog X.w) X.A X.env X.xe := by rw [g.xf]; exact PassesOwn.never
theorem Gd.blk {X : Cx} (g : Gd X) (s : Shared) (H : Hp) (scope : Scope) (cenv : Env) (fp : List Addr) : Gd (X.blk s H scope cenv fp) := ⟨g.calm, g.nd, g.un, g.gu, rfl⟩

/-! ### numbers -/
@[simp] def addD : PyData → PyData → Option R
  | .int i, .int j => some (.dat (.int (i + j)))
  | .str a, .str b => if a.length + b.length ≤ sizeLine then some (.dat (.str (a ++ b))) else none
  | .list a, .list b => if a.length + b.length ≤ sizeLine then some (.fre (a ++ b)) else none
  | .tuple a, .tuple b => if a.length + b.length ≤ sizeLine then some (.dat (.tuple (a ++ b))) else none
  | _, _ => none
@[simp] def subD : PyData → PyData → Option R
  | .int i, .int j => some (.dat (.int (i - j)))
  | _, _ => none
noncomputable def mulOk (i j : Int) : Bool := decide (Safe ((-(2 ^ 64) < i ∧ i < 2 ^ 64) ∨ (-(2 ^ 64) < j ∧ j < 2 ^ 64)))
@[simp] noncomputable def mulD : PyData → PyData → Option R
  | .int i, .int j => if mulOk i j = true then some (.dat (.int (i * j))) else none
  | .list a, .int k => if Safe (-(2 ^ 63) ≤ k ∧ k < 2 ^ 63 ∧ a.length * k.toNat ≤ sizeLine) then some (.fre (List.replicate k.toNat a).flatten) else none
  | .tuple a, .int k => if Safe (a ≠ [] ∧ 2 ≤ k ∧ k ≤ 1000 ∧ a.length ≤ 1000) then some (.dat (.tuple (List.replicate k.toNat a).flatten)) else none
  | _, _ => none
noncomputable def fdivD : PyData → PyData → Option R
  | .int i, .int j => if Safe (0 < j ∧ j < 1073741824) then some (.dat (.int (i / j))) else none
  | _, _ => none
def modD : PyData → PyData → Option R
  | .int i, .int j => if 0 < j then some (.dat (.int (i % j))) else none
  | _, _ => none
noncomputable def powD : PyData → PyData → Option R
  | .int i, .int j => if Safe (0 ≤ j ∧ j ≤ 1000000 ∧ i.natAbs < 2 ^ 64) then some (.dat (.int (i ^ j.toNat))) else none
  | _, _ => none
noncomputable def shlD : PyData → PyData → Option R
  | .int i, .int j => if Safe (0 ≤ j ∧ j ≤ 1000000 ∧ i.natAbs < 2 ^ 64) then some (.dat (.int (i * 2 ^ j.toNat))) else none
  | _, _ => none
@[simp] def ltD : PyData → PyData → Option R
  | .int i, .int j => some (.dat (.bool (decide (i < j))))
  | _, _ => none
@[simp] def leD : PyData → PyData → Option R
  | .int i, .int j => some (.dat (.bool (decide (i ≤ j))))
  | _, _ => none
@[simp] def gtD : PyData → PyData → Option R
  | .int i, .int j => some (.dat (.bool (decide (j < i))))
  | _, _ => none
@[simp] def geD : PyData → PyData → Option R
  | .int i, .int j => some (.dat (.bool (decide (j ≤ i))))
  | _, _ => none
/-- two of a kind, small -/
@[simp] def eqR (d e : PyData) : Option Bool := match d, e with
  | .int i, .int j => some (decide (i = j))
  | .str i, .str j => some (decide (i = j))
  | .bool i, .bool j => some (decide (i = j))
  | d, e => if SeqAt.shaped d = true ∧ SeqAt.shaped e = true then some (PyData.eqv d e) else none
@[simp] def eqD (d e : PyData) : Option R := (eqR d e).map fun b => .dat (.bool b)
@[simp] def neD (d e : PyData) : Option R := (eqR d e).map fun b => .dat (.bool (!b))
@[simp] def isR (d e : PyData) : Option Bool := match d, e with
  | .bool a, .bool b => some (decide (a = b))
  | d, .none => some (match d with | .none => true | _ => false)
  | _, _ => none
@[simp] def isD (d e : PyData) : Option R := (isR d e).map fun b => .dat (.bool b)
@[simp] def isNotD (d e : PyData) : Option R := (isR d e).map fun b => .dat (.bool (!b))
def flatD : PyData → Bool
  | .none | .bool _ | .int _ | .str _ => true
  | _ => false
def inR (d e : PyData) : Option Bool := match e with
  | .list xs => if flatD d = true ∧ xs.all flatD = true then some (xs.any fun y => PyData.eqv y d)
    else if SeqAt.shaped d = true ∧ SeqAt.shaped (.list xs) = true then some (xs.any fun y => PyData.eqv y d) else none
  | .tuple xs => if flatD d = true ∧ xs.all flatD = true then some (xs.any fun y => PyData.eqv y d) else none
  | _ => none
def inD (d e : PyData) : Option R := (inR d e).map fun b => .dat (.bool b)
def notInD (d e : PyData) : Option R := (inR d e).map fun b => .dat (.bool (!b))

section
variable {X : Cx} {F : Value → Value → Sem Value}
/-- of two ints -/
theorem dop_int {f : PyData → PyData → Option R} {C : Int → Int → Prop} {g : Int → Int → PyData} {gv : Int → Int → V} (h : OpR X F (rI C gv)) (hr : ∀ H i j, Rp H (gv i j) (g i j))
    {Hf H : Hp} {x y : V} {i j : Int} {Q : VK} (rx : Rq Hf H x (.int i)) (ry : Rq Hf H y (.int j)) (hc : C i j) (k : ∀ v H', Grow Hf H (.dat (g i j)) v H' → Q v H') : ∃ r2 : R2, OpR X F r2 ∧ r2 x y H Q :=
  ⟨_, h, i, j, rx.int, ry.int, hc, k _ _ (.old (hr Hf i j))⟩
theorem dop_int0 {g : Int → Int → PyData} {gv : Int → Int → V} (h : OpR X F (rI0 gv)) (hr : ∀ H i j, Rp H (gv i j) (g i j))
    {Hf H : Hp} {x y : V} {i j : Int} {Q : VK} (rx : Rq Hf H x (.int i)) (ry : Rq Hf H y (.int j)) (k : ∀ v H', Grow Hf H (.dat (g i j)) v H' → Q v H') : ∃ r2 : R2, OpR X F r2 ∧ r2 x y H Q :=
  ⟨_, h, i, j, rx.int, ry.int, k _ _ (.old (hr Hf i j))⟩
theorem d_add : DOp X (binaryOp .Add) addD := by
  intro Hf H x y d1 d2 r Q s rx ry e k
  unfold addD at e
  split at e
  · cases e; exact dop_int0 op_add (fun _ _ _ => .int _) rx ry k
  · split at e
    · cases e
      rename_i a b h
      exact ⟨_, op_add_str, a, b, rx.str, ry.str, h, k _ _ (.old (.str _))⟩
    · cases e
  · split at e
    · cases e
      rename_i a b h
      obtain ⟨p, vs, rfl, h1, r1⟩ := rx.lst s
      obtain ⟨q, ws, rfl, h2, r2⟩ := ry.lst s
      exact ⟨_, op_cat, p, q, vs, ws, rfl, rfl, h1, h2, by rw [r1.length, r2.length]; exact h, fun l hl => k _ _ (.lst hl (r1.app r2))⟩
    · cases e
  · split at e
    · cases e
      rename_i a b h
      obtain ⟨p, vs, rfl, h1, r1⟩ := rx.tup s
      obtain ⟨q, ws, rfl, h2, r2⟩ := ry.tup s
      refine ⟨_, op_catA, p, q, vs, ws, rfl, rfl, .of h1, .of h2, by rw [r1.length, r2.length]; exact h, fun z => ?_, fun _ z => ?_, fun _ _ l hl => k _ _ (.tup hl (r1.app r2))⟩
      · subst z
        cases r1
        rcases ry with ry | ⟨_, _, _, _, e, _⟩
        · exact k _ _ (.old ry)
        · cases e
      · subst z
        cases r2
        rw [List.append_nil] at k
        rcases rx with rx | ⟨_, _, _, _, e, _⟩
        · exact k _ _ (.old rx)
        · cases e
    · cases e
  · cases e
theorem d_sub : DOp X (binaryOp .Sub) subD := by
  intro Hf H x y d1 d2 r Q s rx ry e k
  unfold subD at e
  split at e
  · cases e; exact dop_int0 op_sub (fun _ _ _ => .int _) rx ry k
  · cases e
theorem d_mul : DOp X (binaryOp .Mult) mulD := by
  intro Hf H x y d1 d2 r Q s rx ry e k
  unfold mulD at e
  split at e
  · split at e
    · cases e
      rename_i i j h
      refine dop_int (f := mulD) op_mul (fun _ _ _ => .int _) rx ry ?_ k
      unfold mulOk at h
      have h' : Safe _ := of_decide_eq_true h
      exact h'
    · cases e
  · split at e
    · cases e
      rename_i a i h
      obtain ⟨p, vs, rfl, h1, r1⟩ := rx.lst s
      have z := ry.int
      subst z
      refine ⟨_, op_rep, p, i, vs, rfl, rfl, h1, h.1, h.2.1, by rw [r1.length]; exact h.2.2, fun l hl => k _ _ (.lst hl ?_)⟩
      clear h k
      induction i.toNat with
      | zero => exact .nil
      | succ n ih => rw [List.replicate_succ, List.replicate_succ, List.flatten_cons, List.flatten_cons]; exact r1.app ih
    · cases e
  · split at e
    · cases e
      rename_i a i h
      obtain ⟨p, vs, rfl, h1, r1⟩ := rx.tup s
      have z := ry.int
      subst z
      have hl := r1.length
      refine ⟨_, op_repT, p, i, vs, rfl, rfl, .of h1, fun q => h.1 (by subst q; cases r1; rfl), h.2.1, h.2.2.1, by rw [hl]; exact h.2.2.2, fun l hl => k _ _ (.tup hl ?_)⟩
      clear h k hl
      induction i.toNat with
      | zero => exact .nil
      | succ n ih => rw [List.replicate_succ, List.replicate_succ, List.flatten_cons, List.flatten_cons]; exact r1.app ih
    · cases e
  · cases e
theorem d_fdiv : DOp X (binaryOp .FloorDiv) fdivD := by
  intro Hf H x y d1 d2 r Q s rx ry e k
  unfold fdivD at e
  split at e
  · split at e
    · cases e; rename_i h; exact dop_int (f := fdivD) op_fdiv (fun _ _ _ => .int _) rx ry h k
    · cases e
  · cases e
theorem d_mod : DOp X (binaryOp .Mod) modD := by
  intro Hf H x y d1 d2 r Q s rx ry e k
  unfold modD at e
  split at e
  · split at e
    · cases e; rename_i h; exact dop_int (f := modD) op_mod (fun _ _ _ => .int _) rx ry h k
    · cases e
  · cases e
theorem d_pow : DOp X (binaryOp .Pow) powD := by
  intro Hf H x y d1 d2 r Q s rx ry e k
  unfold powD at e
  split at e
  · split at e
    · cases e; rename_i h; exact dop_int (f := powD) op_pow (fun _ _ _ => .int _) rx ry h k
    · cases e
  · cases e
theorem d_shl : DOp X (binaryOp .LShift) shlD := by
  intro Hf H x y d1 d2 r Q s rx ry e k
  unfold shlD at e
  split at e
  · split at e
    · cases e; rename_i h; exact dop_int (f := shlD) op_shl (fun _ _ _ => .int _) rx ry h k
    · cases e
  · cases e
theorem d_lt : DOp X (compareOp .Lt) ltD := by
  intro Hf H x y d1 d2 r Q s rx ry e k
  unfold ltD at e
  split at e
  · cases e; exact dop_int0 op_lt (fun _ _ _ => .bl _) rx ry k
  · cases e
theorem d_le : DOp X (compareOp .LtE) leD := by
  intro Hf H x y d1 d2 r Q s rx ry e k
  unfold leD at e
  split at e
  · cases e; exact dop_int0 op_le (fun _ _ _ => .bl _) rx ry k
  · cases e
theorem d_gt : DOp X (compareOp .Gt) gtD := by
  intro Hf H x y d1 d2 r Q s rx ry e k
  unfold gtD at e
  split at e
  · cases e; exact dop_int0 op_gt (fun _ _ _ => .bl _) rx ry k
  · cases e
theorem d_ge : DOp X (compareOp .GtE) geD := by
  intro Hf H x y d1 d2 r Q s rx ry e k
  unfold geD at e
  split at e
  · cases e; exact dop_int0 op_ge (fun _ _ _ => .bl _) rx ry k
  · cases e
mutual
theorem Rp.dp {K : PySem.W.Frag} {H : Hp} : ∀ (d : PyData) (v : V), d.canLay0 = true → Rp H v d → Dp K H v d
  | .none, _, _, h => by cases h; exact .non
  | .bool b, _, _, h => by cases h; exact .bl b
  | .int i, _, _, h => by cases h; exact .int i
  | .str x, _, _, h => by cases h; exact .str x
  | .list ds, _, hc, h => by
    cases h with
    | lst e r => exact .lst (.of e) (RpL.dp ds _ (by simpa only [PyData.canLay0] using hc) r)
  | .tuple ds, _, hc, h => by
    cases h with
    | tup e r => exact .tup (.of e) (RpL.dp ds _ (by simpa only [PyData.canLay0] using hc) r)
  | .dict es, _, hc, h => by simp only [PyData.canLay0] at hc; cases hc
theorem RpL.dp {K : PySem.W.Frag} {H : Hp} : ∀ (ds : List PyData) (vs : List V), PyData.canLayAll0 ds = true → RpL H vs ds → DpAll K H vs ds
  | [], _, _, h => by cases h; exact .nil
  | d :: ds, _, hc, h => by
    cases h with
    | cons r rs =>
      simp only [PyData.canLayAll0, Bool.and_eq_true] at hc
      exact .cons (Rp.dp d _ hc.1 r) (RpL.dp ds _ hc.2 rs)
end
theorem eqR_op {op : CmpOp} {n : Bool → Bool} (h1 : OpR X (compareOp op) (fun x y H Q => scal x y = true ∧ Q (.bl (n (decide (x = y)))) H))
    (h2 : OpR X (compareOp op) (fun x y H Q => ∃ d e, Dp X.K H x d ∧ Dp X.K H y e ∧ SeqAt.shaped d = true ∧ SeqAt.shaped e = true ∧ Q (.bl (n (PyData.eqv d e))) H)) :
    DOp X (compareOp op) fun d e => (eqR d e).map fun b => .dat (.bool (n b)) := by
  intro Hf H x y d1 d2 r Q s rx ry e k
  dsimp only at e
  cases hb : eqR d1 d2 with
  | none => rw [hb] at e; cases e
  | some b =>
    rw [hb] at e
    cases e
    have k' : ∀ c, b = c → Q (.bl (n c)) H := fun c hc => k _ _ (by subst hc; exact .old (.bl _))
    unfold eqR at hb
    split at hb
    · cases hb
      rename_i i j
      have z1 := rx.int; have z2 := ry.int
      subst z1; subst z2
      exact ⟨_, h1, rfl, by rw [show (decide (V.int i = V.int j)) = decide (i = j) from by simp]; exact k' _ rfl⟩
    · cases hb
      rename_i i j
      have z1 := rx.str; have z2 := ry.str
      subst z1; subst z2
      exact ⟨_, h1, rfl, by rw [show (decide (V.str i = V.str j)) = decide (i = j) from by simp]; exact k' _ rfl⟩
    · cases hb
      rename_i i j
      have z1 := rx.bl; have z2 := ry.bl
      subst z1; subst z2
      exact ⟨_, h1, rfl, by rw [show (decide (V.bl i = V.bl j)) = decide (i = j) from by simp]; exact k' _ rfl⟩
    · split at hb
      · cases hb
        rename_i h
        exact ⟨_, h2, d1, d2, Rp.dp _ _ (SeqAt.canLay_of_shaped h.1) (rx.rp s), Rp.dp _ _ (SeqAt.canLay_of_shaped h.2) (ry.rp s), h.1, h.2, k' _ rfl⟩
      · cases hb
theorem d_eq (g : Gd X) : DOp X (compareOp .Eq) eqD := eqR_op (n := fun b => b) op_eq (op_eqD (by have := g.un; omega))
theorem d_ne (g : Gd X) : DOp X (compareOp .NotEq) neD := eqR_op (n := fun b => !b) op_ne (op_neD (by have := g.un; omega))
theorem isR_op {op : CmpOp} {n : Bool → Bool} (h1 : OpR X (compareOp op) (fun x y H Q => ∃ a b : Bool, x = .bl a ∧ y = .bl b ∧ Q (.bl (n (decide (a = b)))) H))
    (h2 : OpR X (compareOp op) (fun x y H Q => y = .non ∧ Q (.bl (n (decide (x = .non)))) H)) :
    DOp X (compareOp op) fun d e => (isR d e).map fun b => .dat (.bool (n b)) := by
  intro Hf H x y d1 d2 r Q s rx ry e k
  dsimp only at e
  cases hb : isR d1 d2 with
  | none => rw [hb] at e; cases e
  | some b =>
    rw [hb] at e
    cases e
    have k' : ∀ c, b = c → Q (.bl (n c)) H := fun c hc => k _ _ (by subst hc; exact .old (.bl _))
    unfold isR at hb
    split at hb
    · cases hb
      rename_i i j
      exact ⟨_, h1, i, j, rx.bl, ry.bl, k' _ rfl⟩
    · cases hb
      refine ⟨_, h2, ry.non, k' _ ?_⟩
      have q := rx.rp s
      cases q <;> simp
    · cases hb
theorem d_is : DOp X (compareOp .Is) isD := isR_op (n := fun b => b) op_isBl op_isN
theorem d_isNot : DOp X (compareOp .IsNot) isNotD := isR_op (n := fun b => !b) op_notBl op_notN
theorem flat_eqV {Hf : Hp} {y x : V} {dy dx : PyData} (hy : Rp Hf y dy) (hx : Rp Hf x dx) (fy : flatD dy = true) (fx : flatD dx = true) : eqV y x = PyData.eqv dy dx := by
  cases hy <;> first | (exfalso; simp [flatD] at fy; done) | (cases hx <;> first | (exfalso; simp [flatD] at fx; done) | (simp only [eqV, PyData.eqv]; done))
theorem flat_V {Hf : Hp} {x : V} {dx : PyData} (hx : Rp Hf x dx) (fx : flatD dx = true) : flatV x = true := by
  cases hx <;> first | rfl | (exfalso; simp [flatD] at fx; done)
theorem flat_all {Hf : Hp} : ∀ {ds : List PyData} {vs : List V}, RpL Hf vs ds → ds.all flatD = true → vs.all flatV = true
  | [], _, h, _ => by cases h; rfl
  | d :: ds, _, h, e => by
    cases h with
    | cons r rs =>
      rw [List.all_cons, Bool.and_eq_true] at e
      rw [List.all_cons, flat_V r e.1, flat_all rs e.2]; rfl
theorem flat_any {Hf : Hp} {x : V} {dx : PyData} (hx : Rp Hf x dx) (fx : flatD dx = true) : ∀ {ds : List PyData} {vs : List V}, RpL Hf vs ds → ds.all flatD = true → inV x vs = ds.any fun y => PyData.eqv y dx
  | [], _, h, _ => by cases h; rfl
  | d :: ds, _, h, e => by
    cases h with
    | cons r rs =>
      rw [List.all_cons, Bool.and_eq_true] at e
      have ih := flat_any hx fx rs e.2
      unfold inV at ih ⊢
      rw [List.any_cons, List.any_cons, ih, flat_eqV r hx e.1 fx]
theorem inR_op {op : CmpOp} {n : Bool} (h1 : OpR X (compareOp op) (rIn X.K n))
    (h2 : OpR X (compareOp op) (fun x y H Q => ∃ d ds, Dp X.K H x d ∧ Dp X.K H y (.list ds) ∧ SeqAt.shaped d = true ∧ SeqAt.shaped (.list ds) = true ∧ Q (.bl (if n then !(ds.any fun z => PyData.eqv z d) else ds.any fun z => PyData.eqv z d)) H)) :
    DOp X (compareOp op) fun d e => (inR d e).map fun b => .dat (.bool (if n then !b else b)) := by
  intro Hf H x y d1 d2 r Q s rx ry e k
  dsimp only at e
  cases hb : inR d1 d2 with
  | none => rw [hb] at e; cases e
  | some b =>
    rw [hb] at e
    cases e
    have k' : ∀ c, b = c → Q (.bl (if n then !c else c)) H := fun c hc => k _ _ (by subst hc; exact .old (.bl _))
    unfold inR at hb
    split at hb
    · split at hb
      · cases hb
        rename_i xs h
        obtain ⟨p, vs, rfl, e1, r1⟩ := ry.lst s
        have hx := rx.rp s
        refine ⟨_, h1, p, vs, rfl, .inl (.of e1), flat_V hx h.1, flat_all r1 h.2, ?_⟩
        rw [flat_any hx h.1 (r1.up s) h.2]
        exact k' _ rfl
      · split at hb
        · cases hb
          rename_i xs _ h
          exact ⟨_, h2, d1, xs, Rp.dp _ _ (SeqAt.canLay_of_shaped h.1) (rx.rp s), Rp.dp _ _ (SeqAt.canLay_of_shaped h.2) (ry.rp s), h.1, h.2, k' _ rfl⟩
        · cases hb
    · split at hb
      · cases hb
        rename_i xs h
        obtain ⟨p, vs, rfl, e1, r1⟩ := ry.tup s
        have hx := rx.rp s
        refine ⟨_, h1, p, vs, rfl, .inr (.of e1), flat_V hx h.1, flat_all r1 h.2, ?_⟩
        rw [flat_any hx h.1 (r1.up s) h.2]
        exact k' _ rfl
      · cases hb
    · cases hb
theorem d_in (g : Gd X) : DOp X (compareOp .In) inD := inR_op (n := false) op_in_seq (op_inD (by have := g.un; omega))
theorem d_notIn (g : Gd X) : DOp X (compareOp .NotIn) notInD := inR_op (n := true) op_notIn_seq (op_notInD (by have := g.un; omega))
end
end NV
set_option Elab.async false
set_option linter.all false
set_option maxRecDepth 100000
set_option maxHeartbeats 4000000
/-! NV3: tests, arguments, displays, calls of built-ins, subscripts, slices -/
namespace NV
open PySem PySem.Spec PyProof.Rows L2

/-! ### slots emptied, filled -/
section
variable {L : Lay} {Hf : Hp} {st : Sta} {σ : SS} {H : Hp} {a : Addr} {i : Nat} {v : V} {d : PyData}
theorem isOwn_put {st : Sta} {i j : Nat} {x : Sl} (hx : ¬ x.isOwn) (h : ((st.put i x).e j).isOwn) : j ≠ i ∧ (st.e j).isOwn := by
  by_cases e : j = i
  · subst e; rw [put_same] at h; exact absurd h hx
  · rw [put_ne e] at h; exact ⟨e, h⟩
theorem Cor.set (c : Cor L Hf st σ H) {x : Sl} (hx : ¬ x.isOwn) (h : SlOk L Hf st.z.isSome σ H i x) : Cor L Hf (st.put i x) σ H where
  le := c.le
  pr := c.pr
  sl := fun j => by
    by_cases e : j = i
    · subst e; rw [put_same]; exact h
    · rw [put_ne e]; exact c.sl j
  dj := fun j k a h1 h2 => c.dj j k a (isOwn_put hx h1).2 (isOwn_put hx h2).2
  so := c.so
theorem Cor.drop (c : Cor L Hf st σ H) : Cor L Hf (st.put i .emp) σ H := c.set (fun h => h) trivial
theorem Cor.fill (c : Cor L Hf st σ H) (e : σ[i]? = some (some v)) (r : Rp Hf v d) : Cor L Hf (st.put i (.val d)) σ H := c.set (fun h => h) ⟨v, e, r⟩
theorem Free.drop (f : Free L Hf st σ a) {x : Sl} (hx : ¬ x.isOwn) : Free L Hf (st.put i x) σ a := ⟨f.1, f.2.1, f.2.2.1, fun j h => f.2.2.2 j (isOwn_put hx h).2⟩
/-- what an own slot holds -/
theorem Cor.own (c : Cor L Hf st σ H) {ds : List PyData} (h : st.e i = .own ds) : ∃ a vs, σ[i]? = some (some (.ref a)) ∧ H a = some (.lst vs) ∧ RpL Hf vs ds ∧ Free L Hf (st.put i .emp) σ a := by
  have q := c.sl i
  rw [h] at q
  obtain ⟨a, vs, e, ea, r, n, p, z⟩ := q
  refine ⟨a, vs, e, ea, r, n, p, z, fun j hj e' => ?_⟩
  obtain ⟨h1, h2⟩ := isOwn_put (x := .emp) (fun h => h) hj
  exact h1 (c.dj j i a h2 (by rw [h]; trivial) e' e)
end
theorem put_put {st : Sta} {i : Nat} {x y : Sl} : (st.put i x).put i y = st.put i y := by
  unfold Sta.put
  congr 1
  funext j
  by_cases e : j = i
  · simp only [if_pos e]
  · simp only [if_neg e]

/-! ### a value goes into another object, or into a slot: it is frozen -/
@[simp] def esc (st : Sta) : R → Option (PyData × Sta)
  | .dat d => some (d, st)
  | .fre ds => some (.list ds, st)
  | .slt i => match st.e i with
    | .own ds => some (.list ds, st.put i (.val (.list ds)))
    | .val d => some (d, st)
    | _ => none
theorem esc_ok {L : Lay} {Hf : Hp} {st st' : Sta} {σ : SS} {H : Hp} {v : V} {r : R} {d : PyData} (c : Cor L Hf st σ H) (h : ResOk L Hf st σ H v r) (e : esc st r = some (d, st')) : ∃ Hf', Sub Hf Hf' ∧ Cor L Hf' st' σ H ∧ Rp Hf' v d := by
  cases r with
  | dat d' => cases e; exact ⟨Hf, Sub.refl, c, h⟩
  | fre ds =>
    cases e
    obtain ⟨a, vs, rfl, ea, q, f⟩ := h
    have hs : Sub Hf (upd Hf a (.lst vs)) := Sub.ext f.1
    exact ⟨_, hs, c.freeze f ea, .lst upd_same (q.up hs)⟩
  | slt i =>
    obtain ⟨e1, ho⟩ := h
    unfold esc at e
    cases z : st.e i with
    | emp => rw [z] at ho; exact ho.elim
    | src => rw [z] at ho; exact ho.elim
    | val d' => rw [z] at ho; exact ho.elim
    | own ds =>
      simp only [z] at e
      cases e
      obtain ⟨a, vs, e2, ea, r, f⟩ := c.own z
      rw [e1] at e2; cases e2
      have hs : Sub Hf (upd Hf a (.lst vs)) := Sub.ext f.1
      have c2 := (c.drop (i := i)).freeze f ea
      have rp : Rp (upd Hf a (.lst vs)) (.ref a) (.list ds) := .lst upd_same (r.up hs)
      have c3 := c2.fill e1 rp
      rw [put_put] at c3
      exact ⟨_, hs, c3, rp⟩
theorem ResOk.rq {L : Lay} {Hf : Hp} {st : Sta} {σ : SS} {H : Hp} {v : V} {r : R} {d : PyData} (c : Cor L Hf st σ H) (h : ResOk L Hf st σ H v r) (e : res st r = some d) : Rq Hf H v d := by
  cases r with
  | dat d' => cases e; exact .inl h
  | fre ds => cases e; obtain ⟨a, vs, rfl, ea, q, _⟩ := h; exact .inr ⟨a, vs, ds, rfl, rfl, ea, q⟩
  | slt i => exact Opd.rq (r := .slt i) c h.1 e

/-! ### tests -/
abbrev MT := Sta → Option (Bool × Sta)
def AfterT (L : Lay) (Hf : Hp) (st : Sta) (σ : SS) (b : Bool) (Q : Bool → Hp → Prop) : Prop := ∀ H' Hf', Sub Hf Hf' → Cor L Hf' st σ H' → Q b H'
def rdT (m : MT) : TT := fun σ H Q => ∃ L Hf st b st', Cor L Hf st σ H ∧ m st = some (b, st') ∧ AfterT L Hf st' σ b Q
def TV (X : Cx) (e : Expr) (m : MT) : Prop := PT X e (rdT m)
def TW (X : Cx) (e : Expr) (m : MT) : Prop := PW X e (rdT m)
theorem tv_of {X : Cx} {e : Expr} {m : MT} (h : ∀ L Hf st b st' σ H Q, Cor L Hf st σ H → m st = some (b, st') → AfterT L Hf st' σ b Q → ∃ t, PT X e t ∧ t σ H Q) : TV X e m :=
  ⟨fun pins s σ H Q I ⟨L, Hf, st, b, st', c, e1, k⟩ => by
    obtain ⟨t, ht, q⟩ := h L Hf st b st' σ H Q c e1 k
    exact ht.run pins s σ H Q I q⟩
theorem tw_of {X : Cx} {e : Expr} {m : MT} (h : ∀ L Hf st b st' σ H Q, Cor L Hf st σ H → m st = some (b, st') → AfterT L Hf st' σ b Q → ∃ t, PW X e t ∧ t σ H Q) : TW X e m :=
  ⟨fun wh pins s σ H Q I ⟨L, Hf, st, b, st', c, e1, k⟩ => by
    obtain ⟨t, ht, q⟩ := h L Hf st b st' σ H Q c e1 k
    exact ht.run wh pins s σ H Q I q⟩
theorem TW.tv {X : Cx} {e : Expr} {m : MT} (h : TW X e m) : TV X e m := PW.pt h
theorem rdT.use {m : MT} {L : Lay} {Hf : Hp} {st : Sta} {σ : SS} {H : Hp} {Q : Bool → Hp → Prop} {b : Bool} {st' : Sta} (c : Cor L Hf st σ H) (e1 : m st = some (b, st')) (k : AfterT L Hf st' σ b Q) : rdT m σ H Q := ⟨L, Hf, st, b, st', c, e1, k⟩
theorem AfterT.sub {L : Lay} {Hf Hf' : Hp} {st : Sta} {σ : SS} {b : Bool} {Q : Bool → Hp → Prop} (k : AfterT L Hf st σ b Q) (s : Sub Hf Hf') : AfterT L Hf' st σ b Q := fun H' Hf'' s' => k H' Hf'' (s.trans s')
theorem After.sub {L : Lay} {Hf Hf' : Hp} {st : Sta} {σ : SS} {r : R} {Q : VK} (k : After L Hf st σ r Q) (s : Sub Hf Hf') : After L Hf' st σ r Q := fun v H' Hf'' s' => k v H' Hf'' (s.trans s')

@[simp] def truD : PyData → Option Bool
  | .none => some false
  | .bool b => some b
  | .int i => some (i != 0)
  | .str y => if y.length ≤ sizeLine then some ((y.length : Int) != 0) else none
  | .list xs => some (!xs.isEmpty)
  | .tuple xs => some (!xs.isEmpty)
  | .dict xs => some (!xs.isEmpty)
theorem RpL.empty {H : Hp} {ds : List PyData} {vs : List V} (h : RpL H vs ds) : vs.isEmpty = ds.isEmpty := by cases h <;> rfl
theorem RpK.empty {H : Hp} {ds : List (PyData × PyData)} {vs : List (Key × V)} (h : RpK H vs ds) : vs.isEmpty = ds.isEmpty := by cases h <;> rfl
theorem truV_of {K : PySem.W.Frag} {H : Hp} {v : V} {d : PyData} {b : Bool} (r : Rp H v d) (h : truD d = some b) : TruV K v H b := by
  cases r with
  | non => cases h; rfl
  | bl b => cases h; rfl
  | int i => cases h; rfl
  | str x =>
    have h' : (if x.length ≤ sizeLine then some ((x.length : Int) != 0) else none) = some b := h
    by_cases hx : x.length ≤ sizeLine
    · rw [if_pos hx] at h'; cases h'; exact ⟨hx, rfl⟩
    · rw [if_neg hx] at h'; cases h'
  | lst e q => cases h; exact .inl ⟨_, .of e, by rw [q.empty]⟩
  | tup e q => cases h; exact .inr (.inl ⟨_, .of e, by rw [q.empty]⟩)
  | dct e q => cases h; exact .inr (.inr ⟨_, e, by rw [q.empty]⟩)
@[simp] def mB (m : M) : MT := fun st => match m st with
  | some (.dat (.bool b), st') => some (b, st')
  | _ => none
@[simp] def mTru (m : M) : MT := fun st => (m st).bind fun (r, st1) => (res st1 r).bind fun d => (truD d).map fun b => (b, st1)
theorem mB_some {m : M} {st st' : Sta} {b : Bool} (h : mB m st = some (b, st')) : m st = some (.dat (.bool b), st') := by
  unfold mB at h
  split at h
  · rename_i e; cases h; exact e
  · cases h
theorem mTru_some {m : M} {st st' : Sta} {b : Bool} (h : mTru m st = some (b, st')) : ∃ r d, m st = some (r, st') ∧ res st' r = some d ∧ truD d = some b := by
  unfold mTru at h
  cases ha : m st with
  | none => rw [ha] at h; cases h
  | some p =>
    obtain ⟨r1, st1⟩ := p
    rw [ha] at h
    simp only [Option.bind_some] at h
    cases h1 : res st1 r1 with
    | none => rw [h1] at h; cases h
    | some d1 =>
      rw [h1] at h
      simp only [Option.bind_some] at h
      cases h2 : truD d1 with
      | none => rw [h2] at h; cases h
      | some b1 => rw [h2] at h; cases h; exact ⟨r1, d1, rfl, h1, h2⟩
section
variable {X : Cx} {ea eb ec : Expr} {a b : M} {pos : Pos} {rest : List Expr}
/-- a comparison as a test -/
theorem tv_cmp {op : CmpOp} {f : PyData → PyData → Option R} (ho : DOp X (compareOp op) f) (ha : EV X ea a) (hb : EV X eb b) (hm : behindInMarks op eb = false) : TV X (.Compare ea [op] [eb] pos) (mB (mBin f a b)) := by
  refine tv_of fun L Hf st r st' σ H Q c h k => ?_
  obtain ⟨r1, st1, r2, d1, d2, h1, h2, e1, e2, e3⟩ := mBin_some (mB_some h)
  refine ⟨_, pt_cmpR DOp.opR ha hb hm, ?_⟩
  refine two_use c h1 h2 fun x y H' Hf' s' c' o1 o2 => ?_
  refine ho Hf' H' x y d1 d2 (.dat (.bool r)) _ c'.le (o1.rq c' e1) (o2.rq c' e2) e3 fun v H'' g => ?_
  cases g with
  | old q => cases q; exact ⟨_, rfl, k _ _ s' c'⟩
/-- a name, a call, a subscript: its truth -/
theorem tv_tru (ha : EV X ea a) (he : ∀ whole, isTrue ea X.env whole = (do let v ← whole; standAt ea.pos; holding [v] (truthy v)) := by intro _; rfl) : TV X ea (mTru a) := by
  refine tv_of fun L Hf st r st' σ H Q c h k => ⟨_, pt_truth ha he, ?_⟩
  obtain ⟨r1, d, h1, h2, h3⟩ := mTru_some h
  exact ev_use c h1 fun v H' Hf' s' c' q => ⟨r, truV_of ((q.rq c' h2).rp c'.le) h3, k _ _ s' c'⟩
@[simp] def mNotT (m : MT) : MT := fun st => (m st).map fun (b, st') => (!b, st')
@[simp] def mAndT (m n : MT) : MT := fun st => (m st).bind fun (b, st1) => if b = true then n st1 else some (false, st1)
@[simp] def mOrT (m n : MT) : MT := fun st => (m st).bind fun (b, st1) => if b = true then some (true, st1) else n st1
theorem tv_not {m : MT} (h : TV X ea m) : TV X (.UnaryOp .Not ea pos) (mNotT m) := by
  refine tv_of fun L Hf st r st' σ H Q c e k => ⟨_, pt_not h, ?_⟩
  unfold mNotT at e
  cases q : m st with
  | none => rw [q] at e; cases e
  | some p =>
    obtain ⟨b, st1⟩ := p
    rw [q] at e; cases e
    exact rdT.use c q fun H' Hf' s' c' => k _ _ s' c'
theorem tw_and1 {m : MT} (h : TV X ea m) : TW X (.BoolOp .And [ea] pos) m := pw_and1 h
theorem tw_or1 {m : MT} (h : TV X ea m) : TW X (.BoolOp .Or [ea] pos) m := pw_or1 h
theorem tw_and {m n : MT} (h : TV X ea m) (h' : TW X (.BoolOp .And (eb :: rest) pos) n) : TW X (.BoolOp .And (ea :: eb :: rest) pos) (mAndT m n) := by
  refine tw_of fun L Hf st r st' σ H Q c e k => ⟨_, pw_and h h', ?_⟩
  unfold mAndT at e
  cases q : m st with
  | none => rw [q] at e; cases e
  | some p =>
    obtain ⟨b, st1⟩ := p
    rw [q] at e
    simp only [Option.bind_some] at e
    refine rdT.use c q fun H' Hf' s' c' => ?_
    cases b with
    | true =>
      rw [if_pos rfl] at e ⊢
      exact rdT.use c' e (k.sub s')
    | false => cases e; exact k _ _ s' c'
theorem tw_or {m n : MT} (h : TV X ea m) (h' : TW X (.BoolOp .Or (eb :: rest) pos) n) : TW X (.BoolOp .Or (ea :: eb :: rest) pos) (mOrT m n) := by
  refine tw_of fun L Hf st r st' σ H Q c e k => ⟨_, pw_or h h', ?_⟩
  unfold mOrT at e
  cases q : m st with
  | none => rw [q] at e; cases e
  | some p =>
    obtain ⟨b, st1⟩ := p
    rw [q] at e
    simp only [Option.bind_some] at e
    refine rdT.use c q fun H' Hf' s' c' => ?_
    cases b with
    | false =>
      simp only [Bool.false_eq_true, if_false] at e ⊢
      exact rdT.use c' e (k.sub s')
    | true => cases e; exact k _ _ s' c'
/-- chains -/
def mChain (f f' : PyData → PyData → Option R) (a b c : M) : M := fun st => (a st).bind fun (r1, st1) => (b st1).bind fun (r2, st2) => (res st2 r1).bind fun d1 => (res st2 r2).bind fun d2 => match f d1 d2 with
  | some (.dat (.bool true)) => (c st2).bind fun (r3, st3) => (res st3 r2).bind fun d2 => (res st3 r3).bind fun d3 => (f' d2 d3).map fun r => (r, st3)
  | some (.dat (.bool false)) => some (.dat (.bool false), st2)
  | _ => none
theorem bind_some2 {α β : Type} {x : Option α} {f : α → Option β} {y : β} (h : x.bind f = some y) : ∃ a, x = some a ∧ f a = some y := by
  cases x with
  | none => cases h
  | some a => exact ⟨a, rfl, h⟩
theorem chain_use {f f' : PyData → PyData → Option R} {c' : M} {op op' : CmpOp} (ho : DOp X (compareOp op) f) (ho' : DOp X (compareOp op') f') {L : Lay} {Hf : Hp} {st st' : Sta} {σ : SS} {H : Hp} {r : R} {Q : VK} (c : Cor L Hf st σ H)
    (h : mChain f f' a b c' st = some (r, st')) (k : After L Hf st' σ r Q) : tChain (fun x y H Q => ∃ r2 : R2, OpR X (compareOp op) r2 ∧ r2 x y H Q) (fun x y H Q => ∃ r2 : R2, OpR X (compareOp op') r2 ∧ r2 x y H Q) (rdE a) (rdE b) (rdE c') σ H Q := by
  unfold mChain at h
  obtain ⟨⟨r1, st1⟩, h1, h⟩ := bind_some2 h
  obtain ⟨⟨r2, st2⟩, h2, h⟩ := bind_some2 h
  obtain ⟨d1, e1, h⟩ := bind_some2 h
  obtain ⟨d2, e2, h⟩ := bind_some2 h
  refine two_use c h1 h2 fun x y H' Hf' s' c1 o1 o2 => ?_
  split at h
  · rename_i e3
    obtain ⟨⟨r3, st3⟩, h3, h⟩ := bind_some2 h
    obtain ⟨d2', e2', h⟩ := bind_some2 h
    obtain ⟨d3, e3', h⟩ := bind_some2 h
    refine ho Hf' H' x y d1 d2 _ _ c1.le (o1.rq c1 e1) (o2.rq c1 e2) e3 fun v H'' g => ?_
    cases g with
    | old q =>
      cases q
      refine ⟨true, rfl, ?_⟩
      rw [if_pos rfl]
      refine ev_use c1 h3 fun z H3 Hf3 s3 c3 q3 => ?_
      obtain ⟨Hf4, s4, c4, o4⟩ := q3.opd c3
      cases h5 : f' d2' d3 with
      | none => rw [h5] at h; cases h
      | some r5 =>
        rw [h5] at h; cases h
        exact ho' Hf4 H3 y z d2' d3 _ Q c4.le ((o2.mono (s3.trans s4)).rq c4 e2') (o4.rq c4 e3') h5 fun v H'' g => g.after c4 (k.sub (s'.trans (s3.trans s4)))
  · rename_i e3
    cases h
    refine ho Hf' H' x y d1 d2 _ _ c1.le (o1.rq c1 e1) (o2.rq c1 e2) e3 fun v H'' g => ?_
    cases g with
    | old q =>
      cases q
      refine ⟨false, rfl, ?_⟩
      simp only [Bool.false_eq_true, if_false]
      exact k _ _ _ s' c1 (.bl false)
  · cases h
theorem ev_chain {c' : M} {op op' : CmpOp} {f f' : PyData → PyData → Option R} (ho : DOp X (compareOp op) f) (ho' : DOp X (compareOp op') f') (ha : EV X ea a) (hb : EV X eb b) (hc : EV X ec c')
    (hm : lastMarks [op, op'] [eb, ec] = false := by with_unfolding_all rfl) : EV X (.Compare ea [op, op'] [eb, ec] pos) (mChain f f' a b c') :=
  ev_of fun L Hf st r st' σ H Q c h k => ⟨_, pe_chain DOp.opR DOp.opR ha hb hc hm, chain_use ho ho' c h k⟩
theorem tv_chain {c' : M} {op op' : CmpOp} {f f' : PyData → PyData → Option R} (ho : DOp X (compareOp op) f) (ho' : DOp X (compareOp op') f') (ha : EV X ea a) (hb : EV X eb b) (hc : EV X ec c')
    (hm : lastMarks [op, op'] [eb, ec] = false := by with_unfolding_all rfl) : TV X (.Compare ea [op, op'] [eb, ec] pos) (mB (mChain f f' a b c')) :=
  tv_of fun L Hf st r st' σ H Q c h k => ⟨_, pt_chain DOp.opR DOp.opR ha hb hc hm, chain_use ho ho' c (mB_some h) fun v H' Hf' s' c' q => by
    cases q; exact ⟨r, rfl, k _ _ s' c'⟩⟩

/-! ### and, or, not, if as values -/
@[simp] def mAndV (a b : M) : M := fun st => (a st).bind fun (r1, st1) => (res st1 r1).bind fun d1 => (truD d1).bind fun t => if t = true then b st1 else some (r1, st1)
@[simp] def mOrV (a b : M) : M := fun st => (a st).bind fun (r1, st1) => (res st1 r1).bind fun d1 => (truD d1).bind fun t => if t = true then some (r1, st1) else b st1
@[simp] def mNotV (a : M) : M := fun st => (a st).bind fun (r1, st1) => (res st1 r1).bind fun d1 => (truD d1).map fun t => (.dat (.bool (!t)), st1)
@[simp] def mIf (t : MT) (a b : M) : M := fun st => (t st).bind fun (c, st1) => if c = true then a st1 else b st1
theorem ev_one {op : BoolOp} {m : M} (h : EV X ea m) : EV X (.BoolOp op [ea] pos) m := pe_one h
theorem ev_and (ha : EV X ea a) (hb : EV X (.BoolOp .And (eb :: rest) pos) b) : EV X (.BoolOp .And (ea :: eb :: rest) pos) (mAndV a b) := by
  refine ev_of fun L Hf st r st' σ H Q c h k => ⟨_, pe_andT ha hb, ?_⟩
  unfold mAndV at h
  obtain ⟨⟨r1, st1⟩, h1, h⟩ := bind_some2 h
  obtain ⟨d1, e1, h⟩ := bind_some2 h
  obtain ⟨t, e2, h⟩ := bind_some2 h
  refine ev_use c h1 fun v H' Hf' s' c' q => ⟨t, truV_of ((q.rq c' e1).rp c'.le) e2, ?_⟩
  cases t with
  | true =>
    rw [if_pos rfl] at h ⊢
    exact ev_use c' h (k.sub s')
  | false => cases h; exact k _ _ _ s' c' q
theorem ev_or (ha : EV X ea a) (hb : EV X (.BoolOp .Or (eb :: rest) pos) b) : EV X (.BoolOp .Or (ea :: eb :: rest) pos) (mOrV a b) := by
  refine ev_of fun L Hf st r st' σ H Q c h k => ⟨_, pe_orT ha hb, ?_⟩
  unfold mOrV at h
  obtain ⟨⟨r1, st1⟩, h1, h⟩ := bind_some2 h
  obtain ⟨d1, e1, h⟩ := bind_some2 h
  obtain ⟨t, e2, h⟩ := bind_some2 h
  refine ev_use c h1 fun v H' Hf' s' c' q => ⟨t, truV_of ((q.rq c' e1).rp c'.le) e2, ?_⟩
  cases t with
  | false =>
    simp only [Bool.false_eq_true, if_false] at h ⊢
    exact ev_use c' h (k.sub s')
  | true => cases h; exact k _ _ _ s' c' q
theorem ev_not (ha : EV X ea a) : EV X (.UnaryOp .Not ea pos) (mNotV a) := by
  refine ev_of fun L Hf st r st' σ H Q c h k => ⟨_, pe_notT ha, ?_⟩
  unfold mNotV at h
  obtain ⟨⟨r1, st1⟩, h1, h⟩ := bind_some2 h
  obtain ⟨d1, e1, h⟩ := bind_some2 h
  cases e2 : truD d1 with
  | none => rw [e2] at h; cases h
  | some t =>
    rw [e2] at h; cases h
    exact ev_use c h1 fun v H' Hf' s' c' q => ⟨t, truV_of ((q.rq c' e1).rp c'.le) e2, k _ _ _ s' c' (.bl _)⟩
theorem ev_if {t : MT} (hc : TV X ec t) (ha : EV X ea a) (hb : EV X eb b) : EV X (.IfExp ec ea eb pos) (mIf t a b) := by
  refine ev_of fun L Hf st r st' σ H Q c h k => ⟨_, pe_ifExp hc ha hb, ?_⟩
  unfold mIf at h
  obtain ⟨⟨c1, st1⟩, h1, h⟩ := bind_some2 h
  dsimp only at h
  refine rdT.use c h1 fun H' Hf' s' c' => ?_
  cases c1 with
  | true =>
    rw [if_pos rfl] at h ⊢
    exact ev_use c' h (k.sub s')
  | false =>
    simp only [Bool.false_eq_true, if_false] at h ⊢
    exact ev_use c' h (k.sub s')
/-- -x -/
@[simp] def mNeg (a : M) : M := fun st => (a st).bind fun (r1, st1) => match r1 with
  | .dat (.int i) => some (.dat (.int (-i)), st1)
  | _ => none
theorem ev_neg (ha : EV X ea a) : EV X (.UnaryOp .USub ea pos) (mNeg a) := by
  refine ev_of fun L Hf st r st' σ H Q c h k => ⟨_, pe_un un_neg ha, ?_⟩
  unfold mNeg at h
  obtain ⟨⟨r1, st1⟩, h1, h⟩ := bind_some2 h
  dsimp only at h
  split at h
  · cases h
    exact ev_use c h1 fun v H' Hf' s' c' q => by
      cases q; exact ⟨_, rfl, k _ _ _ s' c' (.int _)⟩
  · cases h
end

/-! ### arguments -/
abbrev MA := Sta → Option (List R × Sta)
def rdA (m : MA) : TA := fun σ H Q => ∃ L Hf st rs st', Cor L Hf st σ H ∧ m st = some (rs, st') ∧ ∀ vs H' Hf', Sub Hf Hf' → Cor L Hf' st' σ H' → OpdL Hf' σ vs rs → Q vs H'
def AV (X : Cx) (es : List Expr) (m : MA) : Prop := PA X es (rdA m)
@[simp] def aNil : MA := fun st => some ([], st)
@[simp] def aCons (a : M) (m : MA) : MA := fun st => (a st).bind fun (r, st1) => (m st1).map fun (rs, st2) => (r :: rs, st2)
abbrev ME := Sta → Option (List PyData × Sta)
def rdF (m : ME) : TA := fun σ H Q => ∃ L Hf st ds st', Cor L Hf st σ H ∧ m st = some (ds, st') ∧ ∀ vs H' Hf', Sub Hf Hf' → Cor L Hf' st' σ H' → RpL Hf' vs ds → Q vs H'
def FV (X : Cx) (es : List Expr) (m : ME) : Prop := PA X es (rdF m)
@[simp] def fNil : ME := fun st => some ([], st)
@[simp] def fCons (a : M) (m : ME) : ME := fun st => (a st).bind fun (r, st1) => (esc st1 r).bind fun (d, st2) => (m st2).map fun (ds, st3) => (d :: ds, st3)
theorem map_some2 {α β : Type} {x : Option α} {f : α → β} {y : β} (h : x.map f = some y) : ∃ a, x = some a ∧ f a = y := by
  cases x with
  | none => cases h
  | some a => exact ⟨a, rfl, Option.some.inj h⟩
section
variable {X : Cx} {ea : Expr} {es : List Expr} {a : M} {pos : Pos}
theorem av_nil : AV X [] aNil := ⟨fun po pins s σ H Q I ⟨L, Hf, st, rs, st', c, e, k⟩ => by
  cases e
  exact (pa_nil (X := X)).run po pins s σ H Q I (k [] H Hf Sub.refl c .nil)⟩
theorem av_cons {m : MA} (ha : EV X ea a) (hr : AV X es m) (hs : starEach (ea :: es) X.env = (false, eval ea X.env) :: starEach es X.env := by rfl) : AV X (ea :: es) (aCons a m) :=
  ⟨fun po pins s σ H Q I ⟨L, Hf, st, rs, st', c, e, k⟩ => by
    unfold aCons at e
    obtain ⟨⟨r1, st1⟩, h1, h⟩ := bind_some2 e
    obtain ⟨⟨rs2, st2⟩, h2, h⟩ := map_some2 h
    cases h
    refine (pa_cons ha hr hs).run po pins s σ H Q I ?_
    refine ev_use c h1 fun v H1 Hf1 s1 c1 q1 => ?_
    obtain ⟨Hf2, s2, c2, o2⟩ := q1.opd c1
    exact ⟨L, Hf2, st1, rs2, _, c2, h2, fun vs H3 Hf3 s3 c3 q3 => k _ _ _ ((s1.trans s2).trans s3) c3 (.cons (o2.mono s3) q3)⟩⟩
theorem fv_nil : FV X [] fNil := ⟨fun po pins s σ H Q I ⟨L, Hf, st, rs, st', c, e, k⟩ => by
  cases e
  exact (pa_nil (X := X)).run po pins s σ H Q I (k [] H Hf Sub.refl c .nil)⟩
theorem fv_cons {m : ME} (ha : EV X ea a) (hr : FV X es m) (hs : starEach (ea :: es) X.env = (false, eval ea X.env) :: starEach es X.env := by rfl) : FV X (ea :: es) (fCons a m) :=
  ⟨fun po pins s σ H Q I ⟨L, Hf, st, rs, st', c, e, k⟩ => by
    unfold fCons at e
    obtain ⟨⟨r1, st1⟩, h1, h⟩ := bind_some2 e
    obtain ⟨⟨d, st1'⟩, h1', h⟩ := bind_some2 h
    obtain ⟨⟨rs2, st2⟩, h2, h⟩ := map_some2 h
    cases h
    refine (pa_cons ha hr hs).run po pins s σ H Q I ?_
    refine ev_use c h1 fun v H1 Hf1 s1 c1 q1 => ?_
    obtain ⟨Hf2, s2, c2, o2⟩ := esc_ok c1 q1 h1'
    exact ⟨L, Hf2, st1', rs2, _, c2, h2, fun vs H3 Hf3 s3 c3 q3 => k _ _ _ ((s1.trans s2).trans s3) c3 (.cons (o2.up s3) q3)⟩⟩
/-- displays -/
@[simp] def mTup (m : ME) : M := fun st => (m st).bind fun (ds, st1) => if ds.length ≤ sizeLine then some (.dat (.tuple ds), st1) else none
@[simp] def mLst (m : ME) : M := fun st => (m st).bind fun (ds, st1) => if ds.length ≤ sizeLine then some (.fre ds, st1) else none
theorem ev_tup {m : ME} {x1} (h : FV X es m) : EV X (.Tuple es x1 pos) (mTup m) := by
  refine ev_of fun L Hf st r st' σ H Q c e k => ⟨_, pe_tup h, ?_⟩
  unfold mTup at e
  obtain ⟨⟨ds, st1⟩, h1, e⟩ := bind_some2 e
  dsimp only at e
  split at e
  · cases e
    rename_i hl
    exact ⟨L, Hf, st, ds, _, c, h1, fun vs H1 Hf1 s1 c1 q1 => ⟨by rw [q1.length]; exact hl, fun p hp => (Grow.tup hp q1).after c1 (k.sub s1)⟩⟩
  · cases e
theorem ev_lst {m : ME} (h : FV X es m) : EV X (.List es pos) (mLst m) := by
  refine ev_of fun L Hf st r st' σ H Q c e k => ⟨_, pe_lst h, ?_⟩
  unfold mLst at e
  obtain ⟨⟨ds, st1⟩, h1, e⟩ := bind_some2 e
  dsimp only at e
  split at e
  · cases e
    rename_i hl
    exact ⟨L, Hf, st, ds, _, c, h1, fun vs H1 Hf1 s1 c1 q1 => ⟨by rw [q1.length]; exact hl, fun p hp => (Grow.lst hp q1).after c1 (k.sub s1)⟩⟩
  · cases e

/-! ### built-ins by their arguments' data -/
def DCall (X : Cx) (f : Value) (g : List PyData → Option R) : Prop :=
  ∀ (Hf H : Hp) (xs : List V) (ds : List PyData) (r : R) (Q : VK), Sub Hf H → RqL Hf H xs ds → g ds = some r → (∀ v H', Grow Hf H r v H' → Q v H') → ∃ rr, CallR X f rr ∧ rr xs H Q
theorem DCall.callR {f : Value} : CallR X f (fun xs H Q => ∃ rr, CallR X f rr ∧ rr xs H Q) := fun pins s σ H xs us Q I r ⟨rr, h, q⟩ => h pins s σ H xs us Q I r q
@[simp] def mCallB (g : List PyData → Option R) (m : MA) : M := fun st => (m st).bind fun (rs, st1) => (resL st1 rs).bind fun ds => (g ds).map fun r => (r, st1)
theorem callB_use {f : Value} {g : List PyData → Option R} {m : MA} (hd : DCall X f g) {L : Lay} {Hf : Hp} {st st' : Sta} {σ : SS} {H : Hp} {r : R} {Q : VK} (c : Cor L Hf st σ H) (e : mCallB g m st = some (r, st')) (k : After L Hf st' σ r Q) :
    tCB (fun xs H Q => ∃ rr, CallR X f rr ∧ rr xs H Q) (rdA m) σ H Q := by
  unfold mCallB at e
  obtain ⟨⟨rs, st1⟩, h1, e⟩ := bind_some2 e
  obtain ⟨ds, h2, e⟩ := bind_some2 e
  obtain ⟨r', h3, e⟩ := map_some2 e
  cases e
  exact ⟨L, Hf, st, rs, _, c, h1, fun vs H1 Hf1 s1 c1 q1 => hd Hf1 H1 vs ds _ _ c1.le (q1.rq c1 h2) h3 fun v H' gr => gr.after c1 (k.sub s1)⟩
theorem ev_callB {id : String} {g : List PyData → Option R} {m : MA} {x : Str} {p : Pos} (hd : DCall X (.builtin id) g) (hg : Gl X x) (hm : X.mg x = none) (hv : bootBuiltins x = some (.builtin id)) (ha : AV X (ea :: es) m) (hn : x ≠ "__name__" := by decide) (hdb : (x == ("__debug__" : Str)) = false := by decide)
    (he : starEach (ea :: es) X.env = (false, eval ea X.env) :: starEach es X.env := by rfl) (hpl : (backTo pos (starEach es X.env)).any (·.1) = false := by rfl) : EV X (.Call (.Name x p) (ea :: es) [] pos) (mCallB g m) :=
  ev_of fun L Hf st r st' σ H Q c e k => ⟨_, pe_callB DCall.callR hg hm hv ha hn hdb he hpl, callB_use hd c e k⟩
theorem ev_callTy {T : String} {g : List PyData → Option R} {m : MA} {x : Str} {p : Pos} (hd : DCall X (.type T) g) (hg : Gl X x) (hm : X.mg x = none) (hv : bootBuiltins x = some (.type T)) (ha : AV X (ea :: es) m) (hn : x ≠ "__name__" := by decide) (hdb : (x == ("__debug__" : Str)) = false := by decide)
    (he : starEach (ea :: es) X.env = (false, eval ea X.env) :: starEach es X.env := by rfl) (hpl : (backTo pos (starEach es X.env)).any (·.1) = false := by rfl) : EV X (.Call (.Name x p) (ea :: es) [] pos) (mCallB g m) :=
  ev_of fun L Hf st r st' σ H Q c e k => ⟨_, pe_callTy DCall.callR hg hm hv ha hn hdb he hpl, callB_use hd c e k⟩

/-! ### subscripts, slices -/
@[simp] def idxD : PyData → PyData → Option R
  | .list xs, .int i => (atI xs i).map .dat
  | .tuple xs, .int i => (atI xs i).map .dat
  | _, _ => none
theorem atI_len {α β : Type} {xs : List α} {ys : List β} (h : xs.length = ys.length) (i : Int) : (ixN xs.length i).bind (fun j => ys[j]?) = atI ys i := by unfold atI; rw [h]
theorem RpL.atI {H : Hp} {ds : List PyData} {vs : List V} {i : Int} {d : PyData} (h : RpL H vs ds) (e : L2.atI ds i = some d) : ∃ v, L2.atI vs i = some v ∧ Rp H v d := by
  unfold L2.atI at e ⊢
  obtain ⟨j, e1, e2⟩ := bind_some2 e
  obtain ⟨v, e3, r⟩ := h.get e2
  refine ⟨v, ?_, r⟩
  rw [h.length, e1]
  exact e3
theorem IxR.un : IxR X (fun x y H Q => ∃ r2 : R2, IxR X r2 ∧ r2 x y H Q) := fun value slice pins s σ H x y v u Q I rx ry ⟨r2, h, q⟩ hs => h value slice pins s σ H x y v u Q I rx ry q hs
theorem ev_ix {eb : Expr} {b : M} (ha : EV X ea a) (hb : EV X eb b) (hs : PlainIx eb := by intro _ _; rfl) : EV X (.Subscript ea eb pos) (mBin idxD a b) := by
  refine ev_of fun L Hf st r st' σ H Q c h k => ⟨_, pe_ix IxR.un ha hb hs, ?_⟩
  obtain ⟨r1, st1, r2, d1, d2, h1, h2, e1, e2, e3⟩ := mBin_some h
  refine two_use c h1 h2 fun x y H' Hf' s' c' o1 o2 => ?_
  have q1 := o1.rq c' e1
  have q2 := o2.rq c' e2
  unfold idxD at e3
  split at e3
  · obtain ⟨d, e4, e5⟩ := map_some2 e3
    cases e5
    obtain ⟨p, vs, rfl, ea, r1⟩ := q1.lst c'.le
    have z := q2.int
    subst z
    obtain ⟨v, e6, r⟩ := r1.atI e4
    exact ⟨_, ix_list, p, vs, _, v, rfl, rfl, .of ea, e6, k _ _ _ s' c' r⟩
  · obtain ⟨d, e4, e5⟩ := map_some2 e3
    cases e5
    obtain ⟨p, vs, rfl, ea, r1⟩ := q1.tup c'.le
    have z := q2.int
    subst z
    obtain ⟨v, e6, r⟩ := r1.atI e4
    exact ⟨_, ix_tup, p, vs, _, v, rfl, rfl, .of ea, e6, k _ _ _ s' c' r⟩
  · cases e3
abbrev MO := Sta → Option (Option Int × Sta)
def rdO (m : MO) : L2.TO := fun σ H Q => ∃ L Hf st i st', Cor L Hf st σ H ∧ m st = some (i, st') ∧ ∀ H' Hf', Sub Hf Hf' → Cor L Hf' st' σ H' → Q i H'
def OV (X : Cx) (e : Option Expr) (m : MO) : Prop := PO X e (rdO m)
@[simp] def oNo : MO := fun st => some (none, st)
@[simp] def oSome (m : M) : MO := fun st => match m st with
  | some (.dat (.int i), st') => some (some i, st')
  | _ => none
theorem ov_no : OV X none oNo := ⟨fun pins s σ H Q I ⟨L, Hf, st, i, st', c, e, k⟩ => by
  cases e
  exact (po_none (X := X)).run pins s σ H Q I (k H Hf Sub.refl c)⟩
theorem ov_some (ha : EV X ea a) : OV X (some ea) (oSome a) := ⟨fun pins s σ H Q I ⟨L, Hf, st, i, st', c, e, k⟩ => by
  unfold oSome at e
  split at e
  · rename_i j st1 h1
    cases e
    exact (po_some ha).run pins s σ H Q I (ev_use c h1 fun v H' Hf' s' c' q => by cases q; exact ⟨j, rfl, k _ _ s' c'⟩)
  · cases e⟩
def cutD (xs : List PyData) (lo hi : Option Int) : List PyData := (xs.drop (HT.sIx xs.length 0 lo)).take (HT.sIx xs.length xs.length hi - HT.sIx xs.length 0 lo)
theorem RpL.cut {H : Hp} {ds : List PyData} {vs : List V} (h : RpL H vs ds) (lo hi : Option Int) : RpL H (cutV vs lo hi) (cutD ds lo hi) := by
  unfold cutV cutD
  rw [h.length]
  exact (h.drop _).take _
@[simp] def slD (d : PyData) (lo hi : Option Int) : Option R := match d with
  | .list xs => some (.fre (cutD xs lo hi))
  | .tuple xs => some (.dat (.tuple (cutD xs lo hi)))
  | _ => none
@[simp] def mSl (a : M) (lo hi : MO) : M := fun st => (a st).bind fun (r1, st1) => (lo st1).bind fun (l, st2) => (hi st2).bind fun (h, st3) => (res st3 r1).bind fun d => (slD d l h).map fun r => (r, st3)
theorem SlR.un : SlR X (fun x lo hi H Q => ∃ r : V → Option Int → Option Int → Hp → VK → Prop, SlR X r ∧ r x lo hi H Q) := fun pins s σ H x v vl vu lo hi sl Q I rx hs pl pu ⟨r, h, q⟩ => h pins s σ H x v vl vu lo hi sl Q I rx hs pl pu q
theorem cutD_all (xs : List PyData) {lo hi : Option Int} (h : HT.sIx xs.length 0 lo = 0 ∧ HT.sIx xs.length xs.length hi = xs.length) : cutD xs lo hi = xs := by
  unfold cutD
  rw [h.1, h.2, List.drop_zero, Nat.sub_zero, List.take_length]
theorem ev_sl {elo ehi : Option Expr} {lo hi : MO} {p2 : Pos} (ha : EV X ea a) (hl : OV X elo lo) (hh : OV X ehi hi) : EV X (.Subscript ea (.Slice elo ehi none p2) pos) (mSl a lo hi) := by
  refine ev_of fun L Hf st r st' σ H Q c h k => ⟨_, pe_slice SlR.un ha hl hh, ?_⟩
  unfold mSl at h
  obtain ⟨⟨r1, st1⟩, h1, h⟩ := bind_some2 h
  obtain ⟨⟨l, st2⟩, h2, h⟩ := bind_some2 h
  obtain ⟨⟨u, st3⟩, h3, h⟩ := bind_some2 h
  obtain ⟨d, e1, h⟩ := bind_some2 h
  obtain ⟨r', e2, h⟩ := map_some2 h
  cases h
  refine ev_use c h1 fun v H1 Hf1 s1 c1 q1 => ?_
  obtain ⟨Hf2, s2, c2, o2⟩ := q1.opd c1
  refine ⟨L, Hf2, st1, l, st2, c2, h2, fun H3 Hf3 s3 c3 => ⟨L, Hf3, st2, u, _, c3, h3, fun H4 Hf4 s4 c4 => ?_⟩⟩
  have q := (o2.mono (s3.trans s4)).rq c4 e1
  have k' := k.sub ((s1.trans s2).trans (s3.trans s4))
  unfold slD at e2
  split at e2
  · cases e2
    obtain ⟨p, vs, rfl, ea, r1⟩ := q.lst c4.le
    exact ⟨_, sl_list, p, vs, rfl, .of ea, fun l hl => (Grow.lst hl (r1.cut _ _)).after c4 k'⟩
  · cases e2
    obtain ⟨p, vs, rfl, ea, r1⟩ := q.tup c4.le
    refine ⟨_, sl_tupA, p, vs, rfl, .of ea, fun hw => ?_, fun _ l hl => (Grow.tup hl (r1.cut _ _)).after c4 k'⟩
    rw [r1.length] at hw
    rw [cutD_all _ hw] at k'
    rcases q with q | ⟨_, _, _, _, z, _⟩
    · exact k' _ _ _ Sub.refl c4 q
    · cases z
  · cases e2
end
end NV
set_option Elab.async false
set_option linter.all false
set_option maxRecDepth 100000
set_option maxHeartbeats 4000000
/-! NV4: built-ins by data, repr, isinstance, methods of lists -/
namespace NV
open PySem PySem.Spec PyProof.Rows L2

/-! ### repr -/
mutual
def nol : PyData → Bool
  | .none | .bool _ | .int _ | .str _ => true
  | .list _ => false
  | .tuple xs => nolA xs
  | .dict kvs => nolK kvs
def nolA : List PyData → Bool
  | [] => true
  | x :: xs => nol x && nolA xs
def nolK : List (PyData × PyData) → Bool
  | [] => true
  | (k, v) :: r => nol v && nolK r
end
section
variable {X : Cx} {pins : List (Addr × Obj)} {σ : SS} {H : Hp} {s : Shared}
theorem keyD_reads {h : Heap} {k : Key} {v : Value} (e : keyIs k v = true) : Reads h v (keyD k) [] := by
  rcases keyIs_shape e with ⟨i, t, rfl, rfl⟩ | ⟨x, t, rfl, rfl⟩
  · exact .int i t
  · exact .str x t
mutual
theorem Rp.reads (I : Inv X pins σ H s) : ∀ (d : PyData) (v : V) (u : Value), Rp H v d → RelV v u → ∃ as, Reads s.heap u d as ∧ (nol d = true → ∀ a ∈ as, (a == sysModules) = false)
  | .none, _, _, h, r => by
    cases h; cases r
    exact ⟨_, Reads.none, fun _ a ha => nomatch ha⟩
  | .bool b, _, _, h, r => by
    cases h; cases r
    exact ⟨_, Reads.bool b, fun _ a ha => nomatch ha⟩
  | .int i, _, _, h, r => by
    cases h
    obtain ⟨t, rfl⟩ := r
    exact ⟨_, Reads.int i t, fun _ a ha => nomatch ha⟩
  | .str x, _, _, h, r => by
    cases h
    obtain ⟨t, rfl⟩ := r
    exact ⟨_, Reads.str x t, fun _ a ha => nomatch ha⟩
  | .list ds, _, _, h, r => by
    cases h with
    | lst e ha =>
      cases r
      obtain ⟨its, rv, ⟨o, n, ho, hc, _, hd⟩, _⟩ := I.list (SqL.of e)
      obtain ⟨as, hr, _⟩ := Rp.readsAll I ds _ its ha rv
      exact ⟨_, Reads.list ho hc hd hr, fun z => by simp only [nol] at z; cases z⟩
  | .tuple ds, _, _, h, r => by
    cases h with
    | tup e ha =>
      cases r
      obtain ⟨its, rv, ⟨o, ho, hc, n, hd⟩, _⟩ := I.tuple (SqT.of e)
      obtain ⟨as, hr, hs⟩ := Rp.readsAll I ds _ its ha rv
      exact ⟨_, Reads.tuple ho hc hd hr, fun z => hs (by simpa only [nol] using z)⟩
  | .dict ks, _, _, h, r => by
    cases h with
    | dct e ha =>
      cases r
      obtain ⟨_, hsys, vs, rv, o, es, ep, ho, hex, hd, _, hp, _⟩ := I.hok _ _ e
      obtain ⟨as, bs, h1, h2, h3⟩ := Rp.readsK I ks _ vs es.toList ha rv hp
      refine ⟨_, Reads.dict ho hex.1 hd h1 h2, fun z a ha => ?_⟩
      have z' : nolK ks = true := by simpa only [nol] using z
      have q := h3 z'
      rw [List.cons_append] at ha
      rcases List.mem_cons.mp ha with rfl | ha
      · exact hsys
      · exact q a ha
theorem Rp.readsAll (I : Inv X pins σ H s) : ∀ (ds : List PyData) (vs : List V) (us : List Value), RpL H vs ds → Vals vs us → ∃ as, ReadsAll s.heap us ds as ∧ (nolA ds = true → ∀ a ∈ as, (a == sysModules) = false)
  | [], _, _, h, r => by
    cases h; cases r
    exact ⟨_, ReadsAll.nil, fun _ a ha => nomatch ha⟩
  | d :: ds, _, _, h, r => by
    cases h with
    | cons h1 h2 =>
      cases r with
      | cons r1 r2 =>
        obtain ⟨as, q1, z1⟩ := Rp.reads I d _ _ h1 r1
        obtain ⟨bs, q2, z2⟩ := Rp.readsAll I ds _ _ h2 r2
        refine ⟨_, ReadsAll.cons q1 q2, fun z a ha => ?_⟩
        simp only [nolA, Bool.and_eq_true] at z
        rcases List.mem_append.mp ha with ha | ha
        · exact z1 z.1 a ha
        · exact z2 z.2 a ha
theorem Rp.readsK (I : Inv X pins σ H s) : ∀ (ds : List (PyData × PyData)) (kvs : List (Key × V)) (vs : List (Key × Value)) (es : List DictEntry), RpK H kvs ds → KV kvs vs → Pairs (mixKind X.prog X.w) es vs →
    ∃ as bs, ReadsAll s.heap (es.map (·.key)) (ds.map (·.1)) as ∧ ReadsAll s.heap (es.map (·.val)) (ds.map (·.2)) bs ∧ (nolK ds = true → ∀ a ∈ as ++ bs, (a == sysModules) = false)
  | [], _, _, _, h, r, p => by
    cases h; cases r; cases p
    exact ⟨_, _, ReadsAll.nil, ReadsAll.nil, fun _ a ha => nomatch ha⟩
  | (k, d) :: ds, _, _, _, h, r, p => by
    cases h with
    | cons h1 h2 =>
      cases r with
      | cons r1 r2 =>
        cases p with
        | cons p1 p2 p3 =>
          obtain ⟨bs, q1, z1⟩ := Rp.reads I d _ _ h1 r1.2
          obtain ⟨as', bs', q2, q3, z2⟩ := Rp.readsK I ds _ _ _ h2 r2 p3
          have e1 := r1.1
          dsimp only at e1
          rw [← e1] at p1
          rw [← p2] at q1
          refine ⟨_, _, ReadsAll.cons (keyD_reads p1) q2, ReadsAll.cons q1 q3, fun z a ha => ?_⟩
          simp only [nolK, Bool.and_eq_true] at z
          rw [List.nil_append] at ha
          rcases List.mem_append.mp ha with ha | ha
          · exact z2 z.2 a (List.mem_append_left _ ha)
          · rcases List.mem_append.mp ha with ha | ha
            · exact z1 z.1 a ha
            · exact z2 z.2 a (List.mem_append_right _ ha)
end
end
def reprOk (d : PyData) : Bool := d.showable && decide (d.shown.length ≤ sizeLine) && decide (d.depth ≤ 64) && (!d.hasDict || nol d)
def reprD : List PyData → Option R
  | [d] => if reprOk d = true then some (.dat (.str d.shown)) else none
  | _ => none
theorem call_reprR {X : Cx} (g : Gd X) : CallR X (.builtin "repr") (fun xs H Q => ∃ v d, xs = [v] ∧ Rp H v d ∧ reprOk d = true ∧ Q (.str d.shown) H) := by
  intro pins s σ H xs us Q I r h
  obtain ⟨v, d, rfl, hr, hok, q⟩ := h
  obtain ⟨u, rfl, ru⟩ := vals1 r
  unfold reprOk at hok
  simp only [Bool.and_eq_true, decide_eq_true_eq, Bool.or_eq_true, Bool.not_eq_true'] at hok
  obtain ⟨⟨⟨h1, h2⟩, h3⟩, h4⟩ := hok
  have hu := g.un
  have fin : ∀ h' u tk, (∀ b o, s.heap.get? b = some o → h'.get? b = some o) → EP X pins σ Q (.str d.shown u) { s with heap := h', toks := tk } := fun h' u tk hk => ⟨.str d.shown, H, I.kept hk, ⟨_, rfl⟩, q⟩
  obtain ⟨as, rd, hsys⟩ := Rp.reads I d v u hr ru
  have big : ∀ a, u = .ref a → wpAny (model X.prog X.w) X.A (call (.builtin "repr") [.ref a]) (EP X pins σ Q) X.xe s := fun a e => by
    subst e
    refine PySem.repr_of_reads' rd h1 (fun hd hm => ?_) g.gu (by omega) (fun _ _ e => e) fin h2
    rcases h4 with h4 | h4
    · rw [h4] at hd; cases hd
    · have := hsys h4 _ hm
      simp at this
  cases hr with
  | non =>
    cases ru
    refine PySem.P.repr_of_none ?_
    simp only [PyData.shown] at fin
    exact fin s.heap _ _ fun _ _ e => e
  | bl b =>
    cases ru
    refine PySem.P.repr_of_bool ?_
    simp only [PyData.shown] at fin
    cases b <;> exact fin s.heap _ _ fun _ _ e => e
  | int i =>
    obtain ⟨t, rfl⟩ := ru
    simp only [PyData.shown] at fin
    exact PySem.P.repr_of_int (by simpa [PyData.showable] using h1) (fin s.heap _ _ fun _ _ e => e)
  | str x =>
    obtain ⟨t, rfl⟩ := ru
    simp only [PyData.shown] at fin h2
    exact PySem.P.repr_of_str (fin s.heap _ _ fun _ _ e => e) h2
  | lst e _ => cases ru; exact big _ rfl
  | tup e _ => cases ru; exact big _ rfl
  | dct e _ => cases ru; exact big _ rfl
section
variable {X : Cx}
theorem RqL.one {Hf H : Hp} {xs : List V} {d : PyData} (h : RqL Hf H xs [d]) : ∃ v, xs = [v] ∧ Rq Hf H v d := by
  cases h with
  | cons r t => cases t; exact ⟨_, rfl, r⟩
theorem RqL.two {Hf H : Hp} {xs : List V} {d e : PyData} (h : RqL Hf H xs [d, e]) : ∃ v w, xs = [v, w] ∧ Rq Hf H v d ∧ Rq Hf H w e := by
  cases h with
  | cons r t => cases t with | cons r' t => cases t; exact ⟨_, _, rfl, r, r'⟩
theorem c_repr (g : Gd X) : DCall X (.builtin "repr") reprD := by
  intro Hf H xs ds r Q s rx e k
  unfold reprD at e
  split at e
  · split at e
    · cases e
      rename_i d h
      obtain ⟨v, rfl, q⟩ := rx.one
      exact ⟨_, call_reprR g, v, d, rfl, q.rp s, h, k _ _ (.old (.str _))⟩
    · cases e
  · cases e

/-! ### len, abs, min, max, int, tuple, list, sorted, sum, all, any -/
@[simp] def lenD : List PyData → Option R
  | [.list xs] => some (.dat (.int xs.length))
  | [.tuple xs] => some (.dat (.int xs.length))
  | [.str x] => if x.length ≤ sizeLine then some (.dat (.int x.length)) else none
  | _ => none
theorem c_len : DCall X (.builtin "len") lenD := by
  intro Hf H xs ds r Q s rx e k
  unfold lenD at e
  split at e
  · cases e
    obtain ⟨v, rfl, q⟩ := rx.one
    obtain ⟨a, vs, rfl, ea, q⟩ := q.lst s
    exact ⟨_, call_len, _, _, rfl, .inl ⟨_, .of ea, rfl⟩, by rw [q.length]; exact k _ _ (.old (.int _))⟩
  · cases e
    obtain ⟨v, rfl, q⟩ := rx.one
    obtain ⟨a, vs, rfl, ea, q⟩ := q.tup s
    exact ⟨_, call_len, _, _, rfl, .inr ⟨_, .of ea, rfl⟩, by rw [q.length]; exact k _ _ (.old (.int _))⟩
  · split at e
    · cases e
      rename_i h
      obtain ⟨v, rfl, q⟩ := rx.one
      have z := q.str
      subst z
      exact ⟨_, call_len, _, _, rfl, ⟨h, rfl⟩, k _ _ (.old (.int _))⟩
    · cases e
  · cases e
@[simp] def absD : List PyData → Option R
  | [.int i] => some (.dat (.int (if i < 0 then -i else i)))
  | _ => none
theorem c_abs : DCall X (.builtin "abs") absD := by
  intro Hf H xs ds r Q s rx e k
  unfold absD at e
  split at e
  · cases e
    obtain ⟨v, rfl, q⟩ := rx.one
    have z := q.int
    subst z
    exact ⟨_, call_abs, _, rfl, k _ _ (.old (.int _))⟩
  · cases e
def intsOf : List PyData → Option (List Int)
  | [] => some []
  | .int i :: r => (intsOf r).map fun l => i :: l
  | _ :: _ => none
theorem intsOf_some : ∀ {ds : List PyData} {ns : List Int}, intsOf ds = some ns → ds = ns.map .int
  | [], _, h => by cases h; rfl
  | .int i :: r, _, h => by
    unfold intsOf at h
    obtain ⟨l, h1, h2⟩ := map_some2 h
    subst h2
    rw [intsOf_some h1]; rfl
  | .none :: _, _, h => by cases h
  | .bool _ :: _, _, h => by cases h
  | .str _ :: _, _, h => by cases h
  | .list _ :: _, _, h => by cases h
  | .tuple _ :: _, _, h => by cases h
  | .dict _ :: _, _, h => by cases h
theorem intsOf_map (ns : List Int) : intsOf (ns.map .int) = some ns := by
  induction ns with
  | nil => rfl
  | cons n ns ih => rw [List.map_cons]; unfold intsOf; rw [ih]; rfl
def blsOf : List PyData → Option (List Bool)
  | [] => some []
  | .bool i :: r => (blsOf r).map fun l => i :: l
  | _ :: _ => none
theorem blsOf_some : ∀ {ds : List PyData} {ns : List Bool}, blsOf ds = some ns → ds = ns.map .bool
  | [], _, h => by cases h; rfl
  | .bool i :: r, _, h => by
    unfold blsOf at h
    obtain ⟨l, h1, h2⟩ := map_some2 h
    subst h2
    rw [blsOf_some h1]; rfl
  | .none :: _, _, h => by cases h
  | .int _ :: _, _, h => by cases h
  | .str _ :: _, _, h => by cases h
  | .list _ :: _, _, h => by cases h
  | .tuple _ :: _, _, h => by cases h
  | .dict _ :: _, _, h => by cases h
theorem blsOf_map (ns : List Bool) : blsOf (ns.map .bool) = some ns := by
  induction ns with
  | nil => rfl
  | cons n ns ih => rw [List.map_cons]; unfold blsOf; rw [ih]; rfl
def minL : List Int → Option Int
  | [] => none
  | x :: xs => some (xs.foldl min x)
def maxL : List Int → Option Int
  | [] => none
  | x :: xs => some (xs.foldl max x)
theorem foldl_min (xs : List Int) : ∀ x : Int, (xs.foldl min x = x ∨ xs.foldl min x ∈ xs) ∧ xs.foldl min x ≤ x ∧ ∀ y ∈ xs, xs.foldl min x ≤ y := by
  induction xs with
  | nil => intro x; exact ⟨.inl rfl, Int.le_refl _, fun y hy => nomatch hy⟩
  | cons z zs ih =>
    intro x
    obtain ⟨h1, h2, h3⟩ := ih (min x z)
    rw [List.foldl_cons]
    refine ⟨?_, by omega, fun y hy => ?_⟩
    · rcases h1 with h1 | h1
      · rw [h1]
        by_cases hx : x ≤ z
        · exact .inl (by omega)
        · exact .inr (by rw [show min x z = z by omega]; exact List.mem_cons_self)
      · exact .inr (List.mem_cons_of_mem _ h1)
    · rcases List.mem_cons.mp hy with rfl | hy
      · omega
      · exact h3 y hy
theorem foldl_max (xs : List Int) : ∀ x : Int, (xs.foldl max x = x ∨ xs.foldl max x ∈ xs) ∧ x ≤ xs.foldl max x ∧ ∀ y ∈ xs, y ≤ xs.foldl max x := by
  induction xs with
  | nil => intro x; exact ⟨.inl rfl, Int.le_refl _, fun y hy => nomatch hy⟩
  | cons z zs ih =>
    intro x
    obtain ⟨h1, h2, h3⟩ := ih (max x z)
    rw [List.foldl_cons]
    refine ⟨?_, by omega, fun y hy => ?_⟩
    · rcases h1 with h1 | h1
      · rw [h1]
        by_cases hx : z ≤ x
        · exact .inl (by omega)
        · exact .inr (by rw [show max x z = z by omega]; exact List.mem_cons_self)
      · exact .inr (List.mem_cons_of_mem _ h1)
    · rcases List.mem_cons.mp hy with rfl | hy
      · omega
      · exact h3 y hy
theorem minL_is {ns : List Int} {m k : Int} (h : minL ns = some k) (h1 : m ∈ ns) (h2 : ∀ y ∈ ns, m ≤ y) : m = k := by
  cases ns with
  | nil => cases h
  | cons x xs =>
    have h' : some (xs.foldl min x) = some k := h
    cases h'
    obtain ⟨a, b, c⟩ := foldl_min xs x
    have le1 : m ≤ xs.foldl min x := by
      rcases a with a | a
      · rw [a]; exact h2 x List.mem_cons_self
      · exact h2 _ (List.mem_cons_of_mem _ a)
    have le2 : xs.foldl min x ≤ m := by
      rcases List.mem_cons.mp h1 with rfl | h1
      · exact b
      · exact c _ h1
    omega
theorem maxL_is {ns : List Int} {m k : Int} (h : maxL ns = some k) (h1 : m ∈ ns) (h2 : ∀ y ∈ ns, y ≤ m) : m = k := by
  cases ns with
  | nil => cases h
  | cons x xs =>
    have h' : some (xs.foldl max x) = some k := h
    cases h'
    obtain ⟨a, b, c⟩ := foldl_max xs x
    have le1 : xs.foldl max x ≤ m := by
      rcases a with a | a
      · rw [a]; exact h2 x List.mem_cons_self
      · exact h2 _ (List.mem_cons_of_mem _ a)
    have le2 : m ≤ xs.foldl max x := by
      rcases List.mem_cons.mp h1 with rfl | h1
      · exact b
      · exact c _ h1
    omega
def minD : List PyData → Option R
  | [.int i, .int j] => some (.dat (.int (if j < i then j else i)))
  | [.list ds] => (intsOf ds).bind fun ns => (minL ns).map fun k => .dat (.int k)
  | _ => none
def maxD : List PyData → Option R
  | [.int i, .int j] => some (.dat (.int (if j > i then j else i)))
  | [.list ds] => (intsOf ds).bind fun ns => (maxL ns).map fun k => .dat (.int k)
  | _ => none
theorem c_min (g : Gd X) : DCall X (.builtin "min") minD := by
  intro Hf H xs ds r Q s rx e k
  unfold minD at e
  split at e
  · cases e
    obtain ⟨v, w, rfl, q1, q2⟩ := rx.two
    have z1 := q1.int; have z2 := q2.int
    subst z1; subst z2
    exact ⟨_, call_min2 g.calm, _, _, rfl, k _ _ (.old (.int _))⟩
  · obtain ⟨ns, e1, e⟩ := bind_some2 e
    obtain ⟨m, e2, e⟩ := map_some2 e
    subst e
    obtain ⟨v, rfl, q⟩ := rx.one
    obtain ⟨a, vs, rfl, ea, q⟩ := q.lst s
    have z := intsOf_some e1
    subst z
    have z := q.ints
    subst z
    refine ⟨_, cr_min g.calm, a, ns, rfl, .of ea, ?_, fun m' h1 h2 => ?_⟩
    · cases ns with
      | nil => cases e2
      | cons x xs => simp
    · rw [minL_is e2 h1 h2]; exact k _ _ (.old (.int _))
  · cases e
theorem c_max (g : Gd X) : DCall X (.builtin "max") maxD := by
  intro Hf H xs ds r Q s rx e k
  unfold maxD at e
  split at e
  · cases e
    obtain ⟨v, w, rfl, q1, q2⟩ := rx.two
    have z1 := q1.int; have z2 := q2.int
    subst z1; subst z2
    exact ⟨_, call_max2 g.calm, _, _, rfl, k _ _ (.old (.int _))⟩
  · obtain ⟨ns, e1, e⟩ := bind_some2 e
    obtain ⟨m, e2, e⟩ := map_some2 e
    subst e
    obtain ⟨v, rfl, q⟩ := rx.one
    obtain ⟨a, vs, rfl, ea, q⟩ := q.lst s
    have z := intsOf_some e1
    subst z
    have z := q.ints
    subst z
    refine ⟨_, cr_max g.calm, a, ns, rfl, .of ea, ?_, fun m' h1 h2 => ?_⟩
    · cases ns with
      | nil => cases e2
      | cons x xs => simp
    · rw [maxL_is e2 h1 h2]; exact k _ _ (.old (.int _))
  · cases e
def intD : List PyData → Option R
  | [.int i] => some (.dat (.int i))
  | [.bool b] => some (.dat (.int (if b then 1 else 0)))
  | _ => none
theorem c_int : DCall X (.type "int") intD := by
  intro Hf H xs ds r Q s rx e k
  unfold intD at e
  split at e
  · cases e
    obtain ⟨v, rfl, q⟩ := rx.one
    have z := q.int
    subst z
    exact ⟨_, call_int1, .inl ⟨_, rfl, k _ _ (.old (.int _))⟩⟩
  · cases e
    obtain ⟨v, rfl, q⟩ := rx.one
    have z := q.bl
    subst z
    exact ⟨_, call_int1, .inr ⟨_, rfl, k _ _ (.old (.int _))⟩⟩
  · cases e
@[simp] def tupleD : List PyData → Option R
  | [.list xs] => some (.dat (.tuple xs))
  | [.tuple xs] => some (.dat (.tuple xs))
  | _ => none
theorem c_tuple : DCall X (.type "tuple") tupleD := by
  intro Hf H xs ds r Q s rx e k
  unfold tupleD at e
  split at e
  · cases e
    obtain ⟨v, rfl, q⟩ := rx.one
    obtain ⟨a, vs, rfl, ea, q⟩ := q.lst s
    exact ⟨_, call_tuple_of, a, vs, rfl, .inl ⟨.of ea, fun l hl => k _ _ (.tup hl q)⟩⟩
  · cases e
    obtain ⟨v, rfl, q0⟩ := rx.one
    obtain ⟨a, vs, rfl, ea, q⟩ := q0.tup s
    rcases q0 with q0 | ⟨_, _, _, _, z, _⟩
    · exact ⟨_, call_tuple_of, a, vs, rfl, .inr ⟨.of ea, k _ _ (.old q0)⟩⟩
    · cases z
  · cases e
@[simp] def listD : List PyData → Option R
  | [.list xs] => some (.fre xs)
  | [.tuple xs] => some (.fre xs)
  | _ => none
theorem c_list : DCall X (.type "list") listD := by
  intro Hf H xs ds r Q s rx e k
  unfold listD at e
  split at e
  · cases e
    obtain ⟨v, rfl, q⟩ := rx.one
    obtain ⟨a, vs, rfl, ea, q⟩ := q.lst s
    exact ⟨_, call_list_of, a, vs, rfl, .inl (.of ea), fun l hl => k _ _ (.lst hl q)⟩
  · cases e
    obtain ⟨v, rfl, q0⟩ := rx.one
    obtain ⟨a, vs, rfl, ea, q⟩ := q0.tup s
    exact ⟨_, call_list_of, a, vs, rfl, .inr (.of ea), fun l hl => k _ _ (.lst hl q)⟩
  · cases e
/-- the ascending one -/
def srt (ns : List Int) : List Int := ns.mergeSort (fun a b => decide (a ≤ b))
theorem srt_perm (ns : List Int) : (srt ns).Perm ns := List.mergeSort_perm ns _
theorem srt_up (ns : List Int) : (srt ns).Pairwise (· ≤ ·) := by
  have h := List.pairwise_mergeSort (le := fun (a b : Int) => decide (a ≤ b)) (fun a b c h1 h2 => by simp at *; omega) (fun a b => by simp; omega) ns
  exact h.imp fun h => by simpa using h
theorem srt_is {ns ms : List Int} (p : ms.Perm ns) (u : ms.Pairwise (· ≤ ·)) : ms = srt ns :=
  (p.trans (srt_perm ns).symm).eq_of_pairwise (fun a b _ _ h1 h2 => by omega) u (srt_up ns)
def sortedD : List PyData → Option R
  | [.list ds] => (intsOf ds).map fun ns => .fre ((srt ns).map .int)
  | _ => none
theorem c_sorted : DCall X (.builtin "sorted") sortedD := by
  intro Hf H xs ds r Q s rx e k
  unfold sortedD at e
  split at e
  · obtain ⟨ns, e1, e⟩ := map_some2 e
    subst e
    obtain ⟨v, rfl, q⟩ := rx.one
    obtain ⟨a, vs, rfl, ea, q⟩ := q.lst s
    have z := intsOf_some e1
    subst z
    have z := q.ints
    subst z
    refine ⟨_, cr_sortedI, a, ns, rfl, .of ea, fun ns' p h1 h2 hp => ?_⟩
    rw [srt_is h1 h2]
    exact k _ _ (.lst hp (RpL.ofInts _))
  · cases e
def sumD : List PyData → Option R
  | [.list ds] => (intsOf ds).map fun ns => .dat (.int ns.sum)
  | _ => none
theorem c_sum (g : Gd X) : DCall X (.builtin "sum") sumD := by
  intro Hf H xs ds r Q s rx e k
  unfold sumD at e
  split at e
  · obtain ⟨ns, e1, e⟩ := map_some2 e
    subst e
    obtain ⟨v, rfl, q⟩ := rx.one
    obtain ⟨a, vs, rfl, ea, q⟩ := q.lst s
    have z := intsOf_some e1
    subst z
    have z := q.ints
    subst z
    exact ⟨_, cr_sum g.calm, a, ns, rfl, .of ea, k _ _ (.old (.int _))⟩
  · cases e
def allD : List PyData → Option R
  | [.list ds] => (blsOf ds).map fun ns => .dat (.bool (ns.all id))
  | _ => none
def anyD : List PyData → Option R
  | [.list ds] => (blsOf ds).map fun ns => .dat (.bool (ns.any id))
  | _ => none
theorem c_all (g : Gd X) : DCall X (.builtin "all") allD := by
  intro Hf H xs ds r Q s rx e k
  unfold allD at e
  split at e
  · obtain ⟨ns, e1, e⟩ := map_some2 e
    subst e
    obtain ⟨v, rfl, q⟩ := rx.one
    obtain ⟨a, vs, rfl, ea, q⟩ := q.lst s
    have z := blsOf_some e1
    subst z
    have z := q.bls
    subst z
    exact ⟨_, cr_all g.calm, a, ns, rfl, .of ea, k _ _ (.old (.bl _))⟩
  · cases e
theorem c_any (g : Gd X) : DCall X (.builtin "any") anyD := by
  intro Hf H xs ds r Q s rx e k
  unfold anyD at e
  split at e
  · obtain ⟨ns, e1, e⟩ := map_some2 e
    subst e
    obtain ⟨v, rfl, q⟩ := rx.one
    obtain ⟨a, vs, rfl, ea, q⟩ := q.lst s
    have z := blsOf_some e1
    subst z
    have z := q.bls
    subst z
    exact ⟨_, cr_any g.calm, a, ns, rfl, .of ea, k _ _ (.old (.bl _))⟩
  · cases e

/-! ### isinstance -/
@[simp] def tyN : PyData → String
  | .none => "NoneType"
  | .bool _ => "bool"
  | .int _ => "int"
  | .str _ => "str"
  | .list _ => "list"
  | .tuple _ => "tuple"
  | .dict _ => "dict"
theorem tyX_of {K : PySem.W.Frag} {H : Hp} {v : V} {d : PyData} (r : Rp H v d) : TyX K H v (.type (tyN d)) := by
  cases r with
  | non => exact .base .non
  | bl b => exact .base (.bl b)
  | int i => exact .base (.int i)
  | str x => exact .base (.str x)
  | lst e _ => exact .base (.lst e)
  | tup e _ => exact .base (.tup e)
  | dct e _ => exact .base (.dK e)
/-- is it of the type: by a table -/
@[simp] def isiD (T : String) (d : PyData) : Bool := tyN d == T || (tyN d == "bool" && T == "int")
theorem kit_isi (T : String) (hT : T = "int" ∨ T = "bool" ∨ T = "tuple" ∨ T = "str" ∨ T = "list") (d : PyData) : kitB (tyN d) T = some (isiD T d) := by
  rcases hT with rfl | rfl | rfl | rfl | rfl <;> cases d <;> simp only [tyN, isiD] <;> decide +kernel
@[simp] def mIsi (T : String) (a : M) : M := fun st => (a st).bind fun (r, st1) => (res st1 r).map fun d => (.dat (.bool (isiD T d)), st1)
theorem ev_isi {ea : Expr} {a : M} {T : String} {x y : Str} {p p2 pos : Pos} (ha : EV X ea a) (hT : T = "int" ∨ T = "bool" ∨ T = "tuple" ∨ T = "str" ∨ T = "list")
    (hg : Gl X x) (hm : X.mg x = none) (hv : bootBuiltins x = some (.builtin "isinstance")) (hg2 : Gl X y) (hm2 : X.mg y = none) (hv2 : bootBuiltins y = some (.type T))
    (hn : x ≠ "__name__" := by decide) (hdb : (x == ("__debug__" : Str)) = false := by decide) (hn2 : y ≠ "__name__" := by decide) (hdb2 : (y == ("__debug__" : Str)) = false := by decide)
    (he : starEach [ea, .Name y p2] X.env = (false, eval ea X.env) :: starEach [.Name y p2] X.env := by rfl) (hpl : (backTo pos (starEach [.Name y p2] X.env)).any (·.1) = false := by rfl)
    (he2 : starEach [.Name y p2] X.env = (false, eval (.Name y p2) X.env) :: starEach [] X.env := by rfl) :
    EV X (.Call (.Name x p) [ea, .Name y p2] [] pos) (mIsi T a) := by
  refine ev_of fun L Hf st r st' σ H Q c e k => ⟨_, pe_callB call_isi hg hm hv (pa_cons ha (pa_cons (pe_bltn hg2 hm2 hv2 (v := .ty T) rfl hn2 hdb2) pa_nil he2) he) hn hdb he hpl, ?_⟩
  unfold mIsi at e
  obtain ⟨⟨r1, st1⟩, h1, e⟩ := bind_some2 e
  obtain ⟨d, h2, e⟩ := map_some2 e
  cases e
  refine ev_use c h1 fun v H' Hf' s' c' q => ⟨v, .ty T, .type (tyN d), .type T, isiD T d, rfl, .ty T, tyX_of ((q.rq c' h2).rp c'.le), kit_ty (kit_isi T hT d), k _ _ _ s' c' (.bl _)⟩
end
end NV
set_option Elab.async false
set_option linter.all false
set_option maxRecDepth 100000
set_option maxHeartbeats 4000000
/-! NV5: statements, walks, loops, comprehensions -/
namespace NV
open PySem PySem.Spec PyProof.Rows L2

/-! ### statements -/
inductive Out where
  | nx | bk | ct
  | rt (d : PyData)
  | rtF (ds : List PyData)
abbrev MS := Sta → Option (Out × Sta)
def OutOk (L : Lay) (Hf : Hp) (st : Sta) (σ : SS) (H : Hp) (D : Ends) : Out → Prop
  | .nx => D.nx σ H
  | .bk => D.bk σ H
  | .ct => D.ct σ H
  | .rt d => ∀ v, Rp Hf v d → D.rt v H
  | .rtF ds => ∀ a vs, H a = some (.lst vs) → RpL Hf vs ds → Hf a = none → L.pr a = none → (st.z.isSome = true → a ≠ L.aD ∧ a ≠ L.aC) → D.rt (.ref a) H
def AfterS (L : Lay) (Hf : Hp) (st : Sta) (o : Out) (D : Ends) : Prop := ∀ σ H' Hf', Sub Hf Hf' → Cor L Hf' st σ H' → OutOk L Hf' st σ H' D o
theorem AfterS.sub {L : Lay} {Hf Hf' : Hp} {st : Sta} {o : Out} {D : Ends} (k : AfterS L Hf st o D) (s : Sub Hf Hf') : AfterS L Hf' st o D := fun σ H' Hf'' s' => k σ H' Hf'' (s.trans s')
def rdS (m : MS) : TS := fun D σ H => ∃ L Hf st o st', Cor L Hf st σ H ∧ m st = some (o, st') ∧ AfterS L Hf st' o D
def SV (X : Cx) (s : Stmt) (m : MS) : Prop := PS X s (rdS m)
def BV (X : Cx) (s : List Stmt) (m : MS) : Prop := PSs X s (rdS m)
theorem sv_of {X : Cx} {e : Stmt} {m : MS} (h : ∀ L Hf st o st' σ H D, σ.length = X.N.length → Cor L Hf st σ H → m st = some (o, st') → AfterS L Hf st' o D → ∃ t, PS X e t ∧ t D σ H) : SV X e m :=
  ⟨fun pins s σ H D I ⟨L, Hf, st, o, st', c, e1, k⟩ => by
    obtain ⟨t, ht, q⟩ := h L Hf st o st' σ H D I.len c e1 k
    exact ht.run pins s σ H D I q⟩
theorem bv_of {X : Cx} {e : List Stmt} {m : MS} (h : ∀ L Hf st o st' σ H D, σ.length = X.N.length → Cor L Hf st σ H → m st = some (o, st') → AfterS L Hf st' o D → ∃ t, PSs X e t ∧ t D σ H) : BV X e m :=
  ⟨fun pins s σ H D I ⟨L, Hf, st, o, st', c, e1, k⟩ => by
    obtain ⟨t, ht, q⟩ := h L Hf st o st' σ H D I.len c e1 k
    exact ht.run pins s σ H D I q⟩
@[simp] def sNil : MS := fun st => some (.nx, st)
@[simp] def sCons (a b : MS) : MS := fun st => (a st).bind fun (o, st1) => match o with
  | .nx => b st1
  | o => some (o, st1)
section
variable {X : Cx} {ea eb ec : Expr} {a b : M} {pos : Pos} {s : Stmt} {ss ss' : List Stmt} {m n : MS}
theorem bv_nil : BV X [] sNil := bv_of fun L Hf st o st' σ H D hl c e k => ⟨_, pss_nil, by cases e; exact k σ H Hf Sub.refl c⟩
theorem bv_one (h : SV X s m) : BV X [s] m := pss_one h
theorem bv_cons (h : SV X s m) (h' : BV X ss n) : BV X (s :: ss) (sCons m n) := by
  refine bv_of fun L Hf st o st' σ H D hl c e k => ⟨_, pss_cons h h', ?_⟩
  unfold sCons at e
  obtain ⟨⟨o1, st1⟩, h1, e⟩ := bind_some2 e
  dsimp only at e
  refine ⟨L, Hf, st, o1, st1, c, h1, fun σ1 H1 Hf1 s1 c1 => ?_⟩
  cases o1 with
  | nx => exact ⟨L, Hf1, st1, o, st', c1, e, k.sub s1⟩
  | bk => cases e; exact k σ1 H1 Hf1 s1 c1
  | ct => cases e; exact k σ1 H1 Hf1 s1 c1
  | rt d => cases e; exact k σ1 H1 Hf1 s1 c1
  | rtF d => cases e; exact k σ1 H1 Hf1 s1 c1
theorem sv_pass : SV X (.Pass pos) sNil := sv_of fun L Hf st o st' σ H D hl c e k => ⟨_, ps_pass, by cases e; exact k σ H Hf Sub.refl c⟩
@[simp] def sBreak : MS := fun st => some (.bk, st)
@[simp] def sCont : MS := fun st => some (.ct, st)
theorem sv_break : SV X (.Break pos) sBreak := sv_of fun L Hf st o st' σ H D hl c e k => ⟨_, ps_break, by cases e; exact k σ H Hf Sub.refl c⟩
theorem sv_continue : SV X (.Continue pos) sCont := sv_of fun L Hf st o st' σ H D hl c e k => ⟨_, ps_continue, by cases e; exact k σ H Hf Sub.refl c⟩
@[simp] def sIf (t : MT) (a b : MS) : MS := fun st => (t st).bind fun (c, st1) => if c = true then a st1 else b st1
theorem sv_if {t : MT} (hc : TV X ec t) (ha : BV X ss m) (hb : BV X ss' n) : SV X (.If ec ss ss' pos) (sIf t m n) := by
  refine sv_of fun L Hf st o st' σ H D hl c e k => ⟨_, ps_if hc ha hb, ?_⟩
  unfold sIf at e
  obtain ⟨⟨c1, st1⟩, h1, e⟩ := bind_some2 e
  dsimp only at e
  refine rdT.use c h1 fun H1 Hf1 s1 c' => ?_
  cases c1 with
  | true =>
    rw [if_pos rfl] at e ⊢
    exact ⟨L, Hf1, st1, o, st', c', e, k.sub s1⟩
  | false =>
    simp only [Bool.false_eq_true, if_false] at e ⊢
    exact ⟨L, Hf1, st1, o, st', c', e, k.sub s1⟩
/-- return e -/
@[simp] def sRet (a : M) : MS := fun st => (a st).bind fun (r, st1) => match r with
  | .dat d => some (.rt d, st1)
  | .fre ds => some (.rtF ds, st1)
  | .slt i => match st1.e i with
    | .own ds => some (.rtF ds, st1.put i .emp)
    | _ => none
theorem sv_ret (ha : EV X ea a) : SV X (.Return (some ea) pos) (sRet a) := by
  refine sv_of fun L Hf st o st' σ H D hl c e k => ⟨_, ps_ret ha, ?_⟩
  unfold sRet at e
  obtain ⟨⟨r, st1⟩, h1, e⟩ := bind_some2 e
  dsimp only at e
  refine ev_use c h1 fun v H' Hf' s' c' q => ?_
  cases r with
  | dat d => cases e; exact k σ H' Hf' s' c' v q
  | fre ds =>
    cases e
    obtain ⟨a, vs, rfl, ea, q, f⟩ := q
    exact k σ H' Hf' s' c' a vs ea q f.1 f.2.1 f.2.2.1
  | slt i =>
    dsimp only at e
    split at e
    · cases e
      rename_i ds z
      obtain ⟨a, vs, e2, ea, r, f⟩ := c'.own z
      rw [q.1] at e2; cases e2
      exact k σ H' Hf' s' c'.drop a vs ea r f.1 f.2.1 f.2.2.1
    · cases e
theorem sv_retN : SV X (.Return none pos) (fun st => some (.rt .none, st)) := sv_of fun L Hf st o st' σ H D hl c e k => ⟨_, ps_retN, by cases e; exact k σ H Hf Sub.refl c .non .non⟩
@[simp] def sDrop (a : M) : MS := fun st => (a st).map fun (_, st1) => (.nx, st1)
theorem sv_drop (ha : EV X ea a) (hs : swapsWith ea none pos.line X.env = pure false := by rfl) : SV X (.Expr ea pos) (sDrop a) := by
  refine sv_of fun L Hf st o st' σ H D hl c e k => ⟨_, ps_expr ha hs, ?_⟩
  unfold sDrop at e
  obtain ⟨⟨r, st1⟩, h1, e⟩ := map_some2 e
  cases e
  exact ev_use c h1 fun v H' Hf' s' c' q => k σ H' Hf' s' c'
end

/-! ### stores to slots -/
section
variable {L : Lay} {Hf : Hp} {st : Sta} {σ : SS} {H : Hp} {i : Nat} {v : V} {d : PyData}
theorem Cor.move (c : Cor L Hf (st.put i .emp) σ H) (hi : i < σ.length) {x : Sl} (h : SlOk L Hf st.z.isSome (σ.set i (some v)) H i x)
    (hd : x.isOwn → ∀ a, v = .ref a → ∀ j, ((st.put i .emp).e j).isOwn → σ[j]? ≠ some (some (.ref a))) : Cor L Hf (st.put i x) (σ.set i (some v)) H where
  le := c.le
  pr := c.pr
  sl := fun j => by
    by_cases e : j = i
    · subst e; rw [put_same]; exact h
    · have q := c.sl j
      rw [put_ne e] at q ⊢
      have hs : (σ.set i (some v))[j]? = σ[j]? := List.getElem?_set_ne (Ne.symm e)
      cases z : st.e j with
      | emp => trivial
      | val d =>
        rw [z] at q
        obtain ⟨w, e1, r⟩ := q
        exact ⟨w, hs.trans e1, r⟩
      | own ds =>
        rw [z] at q
        obtain ⟨a, vs, e1, r⟩ := q
        exact ⟨a, vs, hs.trans e1, r⟩
      | src =>
        rw [z] at q
        exact ⟨hs.trans q.1, q.2⟩
  dj := fun j k a h1 h2 e1 e2 => by
    by_cases ej : j = i
    · by_cases ek : k = i
      · rw [ej, ek]
      · subst ej
        rw [put_same] at h1
        rw [List.getElem?_set_self hi] at e1
        cases e1
        rw [List.getElem?_set_ne (Ne.symm ek)] at e2
        rw [put_ne ek] at h2
        exact absurd e2 (hd h1 a rfl k (by rw [put_ne ek]; exact h2))
    · by_cases ek : k = i
      · subst ek
        rw [put_same] at h2
        rw [List.getElem?_set_self hi] at e2
        cases e2
        rw [List.getElem?_set_ne (Ne.symm ej)] at e1
        rw [put_ne ej] at h1
        exact absurd e1 (hd h2 a rfl j (by rw [put_ne ej]; exact h1))
      · rw [List.getElem?_set_ne (Ne.symm ej)] at e1
        rw [List.getElem?_set_ne (Ne.symm ek)] at e2
        rw [put_ne ej] at h1
        rw [put_ne ek] at h2
        exact c.dj j k a (by rw [put_ne ej]; exact h1) (by rw [put_ne ek]; exact h2) e1 e2
  so := c.so
theorem Cor.store (c : Cor L Hf st σ H) (hi : i < σ.length) (r : Rp Hf v d) : Cor L Hf (st.put i (.val d)) (σ.set i (some v)) H :=
  c.drop.move hi ⟨v, List.getElem?_set_self hi, r⟩ fun h => h.elim
theorem Cor.storeF (c : Cor L Hf st σ H) (hi : i < σ.length) {a : Addr} {vs : List V} {ds : List PyData} (ea : H a = some (.lst vs)) (r : RpL Hf vs ds) (f : Free L Hf st σ a) : Cor L Hf (st.put i (.own ds)) (σ.set i (some (.ref a))) H :=
  c.drop.move hi ⟨a, vs, List.getElem?_set_self hi, ea, r, f.1, f.2.1, f.2.2.1⟩ fun _ b e j hj => by
    cases e
    obtain ⟨_, h2⟩ := isOwn_put (x := .emp) (fun h => h) hj
    exact f.2.2.2 j h2
end
/-- the store of a result -/
@[simp] def sto (i : Nat) (r : R) (st : Sta) : Option Sta := match r with
  | .dat d => some (st.put i (.val d))
  | .fre ds => some (st.put i (.own ds))
  | .slt j => (esc st (.slt j)).map fun (d, st1) => st1.put i (.val d)
theorem sto_ok {L : Lay} {Hf : Hp} {st st' : Sta} {σ : SS} {H : Hp} {v : V} {r : R} {i : Nat} (c : Cor L Hf st σ H) (hi : i < σ.length) (q : ResOk L Hf st σ H v r) (e : sto i r st = some st') : ∃ Hf', Sub Hf Hf' ∧ Cor L Hf' st' (σ.set i (some v)) H := by
  cases r with
  | dat d => cases e; exact ⟨Hf, Sub.refl, c.store hi q⟩
  | fre ds =>
    cases e
    obtain ⟨a, vs, rfl, ea, r, f⟩ := q
    exact ⟨Hf, Sub.refl, c.storeF hi ea r f⟩
  | slt j =>
    have e' : (esc st (.slt j)).map (fun (d, st1) => st1.put i (.val d)) = some st' := e
    obtain ⟨⟨d, st1⟩, h1, h2⟩ := map_some2 e'
    cases h2
    obtain ⟨Hf', s', c', r'⟩ := esc_ok c q h1
    exact ⟨Hf', s', c'.store hi r'⟩
@[simp] def sAsg (i : Nat) (a : M) : MS := fun st => (a st).bind fun (r, st1) => (sto i r st1).map fun st2 => (.nx, st2)
section
variable {X : Cx} {ea eb ec : Expr} {a b : M} {pos : Pos}
theorem lt_of_get {α : Type} {l : List α} {i : Nat} {x : α} (h : l[i]? = some x) : i < l.length := (List.getElem?_eq_some_iff.mp h).1
theorem asg_use {L : Lay} {Hf : Hp} {st1 st' : Sta} {σ : SS} {r : R} {i : Nat} {D : Ends} (hi : i < σ.length) (h : sto i r st1 = some st') (k : AfterS L Hf st' .nx D) : After L Hf st1 σ r fun x H1 => gName i x σ H1 D.nx := fun v H' Hf' s' c' q => by
  obtain ⟨Hf2, s2, c2⟩ := sto_ok c' hi q h
  exact k _ H' Hf2 (s'.trans s2) c2
theorem sv_asg {i : Nat} {x : Str} {pos' : Pos} (g : Gd X) (hi : X.N[i]? = some x) (hx : Loc X.env.scope x) (ha : EV X ea a) (hs : swapsWith ea (some (.Name x pos')) pos.line X.env = pure false := by rfl)
    (hf : X.fn x = true ∨ X.env.scope.names.lookup x = some .local := by first | exact .inl rfl | exact .inr rfl | assumption) : SV X (.Assign [.Name x pos'] ea pos) (sAsg i a) := by
  refine sv_of fun L Hf st o st' σ H D hl c e k => ⟨_, ps_set g.nd hi hx ha hs hf, ?_⟩
  unfold sAsg at e
  obtain ⟨⟨r, st1⟩, h1, e⟩ := bind_some2 e
  obtain ⟨st2, h2, e⟩ := map_some2 e
  cases e
  exact ev_use c h1 (asg_use (by rw [hl]; exact lt_of_get hi) h2 k)

/-! ### targets -/
abbrev MG := PyData → Sta → Option Sta
def rdG (t : MG) (is : List Nat) : TG := fun v σ H Q => ∃ L Hf st d st', Cor L Hf st σ H ∧ Rp Hf v d ∧ t d st = some st' ∧ ∀ σ' H' Hf', Sub Hf Hf' → Cor L Hf' st' σ' H' → (∀ j, j ∉ is → σ'[j]? = σ[j]?) → σ'.length = σ.length → Q σ' H'
def GV (X : Cx) (e : Expr) (t : MG) (is : List Nat) : Prop := PG X e (rdG t is)
@[simp] def tName (i : Nat) : MG := fun d st => some (st.put i (.val d))
theorem gv_name {i : Nat} {x : Str} (g : Gd X) (hi : X.N[i]? = some x) (hx : Loc X.env.scope x) (hf : X.fn x = true ∨ X.env.scope.names.lookup x = some .local := by first | exact .inl rfl | exact .inr rfl | assumption) : GV X (.Name x pos) (tName i) [i] :=
  ⟨fun pins s σ H v u Q I r ⟨L, Hf, st, d, st', c, q, e, k⟩ => by
    cases e
    refine (pg_name g.nd hi hx hf).run pins s σ H v u Q I r ?_
    exact k _ H Hf Sub.refl (c.store (by rw [I.len]; exact lt_of_get hi) q) (fun j hj => List.getElem?_set_ne (fun z => hj (by rw [z]; exact List.mem_cons_self))) (List.length_set)⟩
abbrev MGs := List PyData → Sta → Option Sta
def rdGs (t : MGs) (is : List Nat) : TGs := fun vs σ H Q => ∃ L Hf st ds st', Cor L Hf st σ H ∧ RpL Hf vs ds ∧ t ds st = some st' ∧ ∀ σ' H' Hf', Sub Hf Hf' → Cor L Hf' st' σ' H' → (∀ j, j ∉ is → σ'[j]? = σ[j]?) → σ'.length = σ.length → Q σ' H'
def GVs (X : Cx) (es : List Expr) (t : MGs) (is : List Nat) : Prop := PGs X es (rdGs t is)
@[simp] def tgNil : MGs := fun ds st => match ds with
  | [] => some st
  | _ => none
@[simp] def tgCons (t : MG) (u : MGs) : MGs := fun ds st => match ds with
  | d :: ds => (t d st).bind fun st1 => u ds st1
  | _ => none
theorem gvs_nil : GVs X [] tgNil [] := ⟨fun pins s σ H vs us Q I r ⟨L, Hf, st, ds, st', c, q, e, k⟩ => by
  cases ds with
  | cons d ds => cases e
  | nil => cases e; cases q; exact (pgs_nil (X := X)).run pins s σ H _ us Q I r ⟨rfl, k σ H Hf Sub.refl c (fun _ _ => rfl) rfl⟩⟩
theorem gvs_cons {es : List Expr} {t : MG} {u : MGs} {is js : List Nat} (h1 : GV X ea t is) (h2 : GVs X es u js) (hs : (assignEach (ea :: es) X.env).map (·.2) = assign ea X.env :: (assignEach es X.env).map (·.2) := by rfl) : GVs X (ea :: es) (tgCons t u) (is ++ js) :=
  ⟨fun pins s σ H vs us Q I r ⟨L, Hf, st, ds, st', c, q, e, k⟩ => by
    cases ds with
    | nil => cases e
    | cons d ds =>
      cases q with
      | cons q1 q2 =>
        have e' : (t d st).bind (fun st1 => u ds st1) = some st' := e
        obtain ⟨st1, e1, e2⟩ := bind_some2 e'
        refine (pgs_cons h1 h2 hs).run pins s σ H _ us Q I r ⟨_, _, rfl, ?_⟩
        refine ⟨L, Hf, st, d, st1, c, q1, e1, fun σ1 H1 Hf1 s1 c1 o1 l1 => ?_⟩
        refine ⟨L, Hf1, st1, ds, st', c1, q2.up s1, e2, fun σ2 H2 Hf2 s2 c2 o2 l2 => k σ2 H2 Hf2 (s1.trans s2) c2 (fun j hj => ?_) (l2.trans l1)⟩
        rw [o2 j fun z => hj (List.mem_append_right _ z), o1 j fun z => hj (List.mem_append_left _ z)]⟩
@[simp] def tTupG (n : Nat) (u : MGs) : MG := fun d st => match d with
  | .tuple ds => if ds.length = n then u ds st else none
  | _ => none
theorem gv_tup {es : List Expr} {k0 : Nat} {u : MGs} {is : List Nat} {n : Nat} (g : Gd X) (h : GVs X es u is) (hn : (assignEach es X.env).length = n := by rfl) (hst : (assignEach es X.env).findIdx? (·.1) = none := by rfl) : GV X (.Tuple es k0 pos) (tTupG n u) is :=
  ⟨fun pins s σ H v u' Q I r ⟨L, Hf, st, d, st', c, q, e, k⟩ => by
    unfold tTupG at e
    split at e
    · split at e
      · rename_i ds hl
        cases q with
        | tup ea q =>
          refine (pg_tup g.calm h hn hst).run pins s σ H _ u' Q I r ⟨_, _, rfl, .of (c.le _ _ ea), q.length.trans hl, ?_⟩
          exact ⟨L, Hf, st, ds, st', c, q, e, k⟩
      · cases e
    · cases e⟩
/-- target = e, the value unpacked -/
@[simp] def sAsgT (t : MG) (a : M) : MS := fun st => (a st).bind fun (r, st1) => (esc st1 r).bind fun (d, st2) => (t d st2).map fun st3 => (.nx, st3)
theorem sv_asgT {tg : Expr} {t : MG} {is : List Nat} (hg : GV X tg t is) (ha : EV X ea a) (hs : swapsWithSole [tg] ea pos.line X.env = pure false := by rfl) (hw : swappedStores [tg] ea X.env = pure none := by rfl)
    (h1 : (assignEach [tg] X.env).map (·.2) = [assign tg X.env] := by rfl) : SV X (.Assign [tg] ea pos) (sAsgT t a) := by
  refine sv_of fun L Hf st o st' σ H D hl c e k => ⟨_, ps_asg ha hg hs hw h1, ?_⟩
  unfold sAsgT at e
  obtain ⟨⟨r, st1⟩, h1, e⟩ := bind_some2 e
  obtain ⟨⟨d, st2⟩, h2, e⟩ := bind_some2 e
  obtain ⟨st3, h3, e⟩ := map_some2 e
  cases e
  refine ev_use c h1 fun v H' Hf' s' c' q => ?_
  obtain ⟨Hf2, s2, c2, r2⟩ := esc_ok c' q h2
  exact ⟨L, Hf2, st2, d, _, c2, r2, h3, fun σ' H'' Hf'' s'' c'' _ _ => k σ' H'' Hf'' ((s'.trans s2).trans s'') c''⟩
end

/-! ### x[i] = e; x.append(e); x.extend(e); x.pop(..) : x an own list -/
theorem Cor.setOwn {L : Lay} {Hf : Hp} {st : Sta} {σ : SS} {H : Hp} {i : Nat} {a : Addr} {vs : List V} {ds ds' : List PyData} (c : Cor L Hf st σ H) (h : st.e i = .own ds) (e : σ[i]? = some (some (.ref a))) (r : RpL Hf vs ds') : Cor L Hf (st.put i (.own ds')) σ (upd H a (.lst vs)) := by
  have q := c.sl i
  rw [h] at q
  obtain ⟨b, ws, e1, ea, rb, n, p, z⟩ := q
  rw [e] at e1; cases e1
  have hne : ∀ j, j ≠ i → (st.e j).isOwn → ∀ b, σ[j]? = some (some (.ref b)) → b ≠ a := fun j hj ho b eb z => hj (c.dj j i a ho (by rw [h]; trivial) (by rw [eb, z]) e)
  refine ⟨fun b o eb => ?_, fun b o eb => ?_, fun j => ?_, fun j k b h1 h2 e1 e2 => ?_, fun z' hz => ?_⟩
  · have hb : b ≠ a := fun z => by rw [z, n] at eb; cases eb
    rw [upd_ne hb]; exact c.le b o eb
  · have hb : b ≠ a := fun z => by rw [z, p] at eb; cases eb
    rw [upd_ne hb]; exact c.pr b o eb
  · by_cases ej : j = i
    · subst ej; rw [put_same]; exact ⟨a, vs, e, upd_same, r, n, p, z⟩
    · rw [put_ne ej]
      have q := c.sl j
      cases zj : st.e j with
      | emp => trivial
      | val d => rw [zj] at q; exact q
      | src => rw [zj] at q; exact q
      | own es =>
        rw [zj] at q
        obtain ⟨b, ws, e1, eb, r⟩ := q
        exact ⟨b, ws, e1, by rw [upd_ne (hne j ej (by rw [zj]; trivial) b e1)]; exact eb, r⟩
  · have t : ∀ j, ((st.put i (.own ds')).e j).isOwn → (st.e j).isOwn := fun j hj => by
      by_cases ej : j = i
      · subst ej; rw [h]; trivial
      · rw [put_ne ej] at hj; exact hj
    exact c.dj j k b (t j h1) (t k h2) e1 e2
  · obtain ⟨⟨h1, h2⟩, h3⟩ := c.so z' hz
    obtain ⟨n1, n2⟩ := z (by rw [show st.z = some z' from hz]; rfl)
    exact ⟨⟨by rw [upd_ne n1.symm]; exact h1, by rw [upd_ne n2.symm]; exact h2⟩, h3⟩
@[simp] def ownAt (st : Sta) (i : Nat) : Option (List PyData) := match st.e i with
  | .own ds => some ds
  | _ => none
theorem ownAt_some {st : Sta} {i : Nat} {ds : List PyData} (h : ownAt st i = some ds) : st.e i = .own ds := by
  unfold ownAt at h
  split at h
  · cases h; assumption
  · cases h
@[simp] def sSetIx (i : Nat) (ix a : M) : MS := fun st => (a st).bind fun (r, st1) => (esc st1 r).bind fun (d, st2) => (ownAt st2 i).bind fun _ => (ix st2).bind fun (k, st3) => match k with
  | .dat (.int k) => (ownAt st3 i).bind fun ds => (ixN ds.length k).map fun j => (.nx, st3.put i (.own (ds.set j d)))
  | _ => none
section
variable {X : Cx} {ea eb ec : Expr} {a b : M} {pos : Pos}
theorem sv_setIx {i : Nat} {x : Str} {p1 p2 : Pos} (hi : X.N[i]? = some x) (hv : Vis X.env.scope x) (hb : EV X eb b) (ha : EV X ea a) (hd : (x == ("__debug__" : Str)) = false := by decide) (hcd : (x == ("__classdict__" : Str)) = false := by decide)
    (hs : swapsWithSole [.Subscript (.Name x p1) eb p2] ea pos.line X.env = pure false := by rfl) (hw : swappedStores [.Subscript (.Name x p1) eb p2] ea X.env = pure none := by rfl)
    (h1 : (assignEach [.Subscript (.Name x p1) eb p2] X.env).map (·.2) = [assign (.Subscript (.Name x p1) eb p2) X.env] := by rfl)
    (hg : ∀ v, assign (.Subscript (.Name x p1) eb p2) X.env v = (do
      let ov ← holding [v] (eval (.Name x p1) X.env)
      let iv ← holding [v, ov] (eval eb X.env)
      standAt p2
      holding [v, ov, iv] (setItem ov iv v)
      release [v, ov, iv] []) := by intro _; rfl) : SV X (.Assign [.Subscript (.Name x p1) eb p2] ea pos) (sSetIx i b a) := by
  refine sv_of fun L Hf st o st' σ H D hl c e k => ⟨_, ps_asg ha (pg_sub (pe_var hi hv hd hcd) hb set_list hg) hs hw h1, ?_⟩
  unfold sSetIx at e
  obtain ⟨⟨r, st1⟩, h1, e⟩ := bind_some2 e
  obtain ⟨⟨d, st2⟩, h2, e⟩ := bind_some2 e
  dsimp only at e
  obtain ⟨ds0, h0, e⟩ := bind_some2 e
  obtain ⟨⟨r3, st3⟩, h3, e⟩ := bind_some2 e
  dsimp only at e
  split at e
  · rename_i kk
    obtain ⟨ds, h4, e⟩ := bind_some2 e
    obtain ⟨j, h5, e⟩ := map_some2 e
    cases e
    have h4 := ownAt_some h4
    refine ev_use c h1 fun v H' Hf' s' c' q => ?_
    obtain ⟨Hf2, s2, c2, r2⟩ := esc_ok c' q h2
    have hv2 : ∃ w, σ[i]? = some (some w) := by
      obtain ⟨a, vs, e1, _⟩ := c2.own (ownAt_some h0)
      exact ⟨_, e1⟩
    obtain ⟨w, hw⟩ := hv2
    refine ⟨w, hw, ?_⟩
    refine ev_use c2 h3 fun v3 H3 Hf3 s3 c3 q3 => ?_
    cases q3
    obtain ⟨a, vs, e1, ea, rv, f⟩ := c3.own h4
    rw [hw] at e1; cases e1
    refine ⟨a, vs, kk, j, rfl, rfl, ea, by rw [rv.length]; exact h5, ?_⟩
    exact k σ _ Hf3 ((s'.trans s2).trans s3) (c3.setOwn h4 hw (rv.set j (r2.up s3)))
  · cases e

/-- x.append(e) as a statement -/
@[simp] def sApp (i : Nat) (a : M) : MS := fun st => (ownAt st i).bind fun _ => (a st).bind fun (r, st1) => (esc st1 r).bind fun (d, st2) => (ownAt st2 i).bind fun ds => if ds.length < sizeLine then some (.nx, st2.put i (.own (ds ++ [d]))) else none
theorem own_slot {L : Lay} {Hf : Hp} {st : Sta} {σ : SS} {H : Hp} {i : Nat} {ds : List PyData} (c : Cor L Hf st σ H) (h : ownAt st i = some ds) : ∃ a vs, σ[i]? = some (some (.ref a)) ∧ H a = some (.lst vs) := by
  obtain ⟨a, vs, e1, ea, _⟩ := c.own (ownAt_some h)
  exact ⟨a, vs, e1, ea⟩
theorem sv_app {i : Nat} {x : Str} {p1 p2 p3 : Pos} (hi : X.N[i]? = some x) (hv : Vis X.env.scope x) (ha : EV X ea a) (hd : (x == ("__debug__" : Str)) = false := by decide) (hcd : (x == ("__classdict__" : Str)) = false := by decide)
    (hbase : attributeBase (.Name x p1) "append" X.env (eval (.Name x p1) X.env) = eval (.Name x p1) X.env := by rfl)
    (hfew : ((backTo p3 (starEach [ea] X.env)).all (fun x => !x.1) && (backToKw p3 (keywordEach [] X.env)).all (fun x => x.1.isSome)
      && decide ([ea].length + ([] : List Keyword).length + (if ([] : List Keyword).isEmpty then 0 else 1) < 30)) = true := by rfl)
    (hline : (p2.endLine == p3.line) = true := by rfl) (hs : starEach [ea] X.env = (false, eval ea X.env) :: starEach [] X.env := by rfl) (hplain : (backTo p3 (starEach [] X.env)).any (·.1) = false := by rfl)
    (hsw : swapsWith (.Call (.Attribute (.Name x p1) "append" p2) [ea] [] p3) none pos.line X.env = pure false := by rfl) :
    SV X (.Expr (.Call (.Attribute (.Name x p1) "append" p2) [ea] [] p3) pos) (sApp i a) := by
  refine sv_of fun L Hf st o st' σ H D hl c e k => ⟨_, ps_expr (pe_bm PySem.F.plainAttrs_list PySem.F.slot_list_append PySem.F.type_list_append mt_append (pe_var hi hv hd hcd) (pa_cons ha pa_nil hs) hbase hfew hline hs hplain) hsw, ?_⟩
  unfold sApp at e
  obtain ⟨ds0, h0, e⟩ := bind_some2 e
  obtain ⟨⟨r, st1⟩, h1, e⟩ := bind_some2 e
  obtain ⟨⟨d, st2⟩, h2, e⟩ := bind_some2 e
  dsimp only at e
  obtain ⟨ds, h3, e⟩ := bind_some2 e
  split at e
  · rename_i hz
    cases e
    obtain ⟨a, vs0, e1, ea0⟩ := own_slot c h0
    refine ⟨.ref a, e1, .inl ⟨rfl, _, .of ea0⟩, ?_⟩
    refine ev_use c h1 fun v H' Hf' s' c' q => ?_
    obtain ⟨Hf2, s2, c2, r2⟩ := esc_ok c' q h2
    obtain ⟨b, vs, e2, eb, rv, f⟩ := c2.own (ownAt_some h3)
    rw [e1] at e2; cases e2
    refine ⟨a, vs, v, rfl, rfl, eb, by rw [rv.length]; exact hz, ?_⟩
    exact k σ _ Hf2 (s'.trans s2) (c2.setOwn (ownAt_some h3) e1 (rv.app (.cons r2 .nil)))
  · cases e
/-- x.extend(e), e a list -/
def sExt (i : Nat) (a : M) : MS := fun st => (ownAt st i).bind fun _ => (a st).bind fun (r, st1) => (esc st1 r).bind fun (d, st2) => (ownAt st2 i).bind fun ds => match d with
  | .list es => if ds.length + es.length ≤ sizeLine then some (.nx, st2.put i (.own (ds ++ es))) else none
  | _ => none
theorem sv_ext {i : Nat} {x : Str} {p1 p2 p3 : Pos} (hi : X.N[i]? = some x) (hv : Vis X.env.scope x) (ha : EV X ea a) (hd : (x == ("__debug__" : Str)) = false := by decide) (hcd : (x == ("__classdict__" : Str)) = false := by decide)
    (hbase : attributeBase (.Name x p1) "extend" X.env (eval (.Name x p1) X.env) = eval (.Name x p1) X.env := by rfl)
    (hfew : ((backTo p3 (starEach [ea] X.env)).all (fun x => !x.1) && (backToKw p3 (keywordEach [] X.env)).all (fun x => x.1.isSome)
      && decide ([ea].length + ([] : List Keyword).length + (if ([] : List Keyword).isEmpty then 0 else 1) < 30)) = true := by rfl)
    (hline : (p2.endLine == p3.line) = true := by rfl) (hs : starEach [ea] X.env = (false, eval ea X.env) :: starEach [] X.env := by rfl) (hplain : (backTo p3 (starEach [] X.env)).any (·.1) = false := by rfl)
    (hsw : swapsWith (.Call (.Attribute (.Name x p1) "extend" p2) [ea] [] p3) none pos.line X.env = pure false := by rfl) :
    SV X (.Expr (.Call (.Attribute (.Name x p1) "extend" p2) [ea] [] p3) pos) (sExt i a) := by
  refine sv_of fun L Hf st o st' σ H D hl c e k => ⟨_, ps_expr (pe_bm PySem.F.plainAttrs_list PySem.F.slot_list_extend PySem.F.type_list_extend mt_extend (pe_var hi hv hd hcd) (pa_cons ha pa_nil hs) hbase hfew hline hs hplain) hsw, ?_⟩
  unfold sExt at e
  obtain ⟨ds0, h0, e⟩ := bind_some2 e
  obtain ⟨⟨r, st1⟩, h1, e⟩ := bind_some2 e
  obtain ⟨⟨d, st2⟩, h2, e⟩ := bind_some2 e
  dsimp only at e
  obtain ⟨ds, h3, e⟩ := bind_some2 e
  split at e
  · split at e
    · rename_i hz
      cases e
      obtain ⟨a, vs0, e1, ea0⟩ := own_slot c h0
      refine ⟨.ref a, e1, .inl ⟨rfl, _, .of ea0⟩, ?_⟩
      refine ev_use c h1 fun v H' Hf' s' c' q => ?_
      obtain ⟨Hf2, s2, c2, r2⟩ := esc_ok c' q h2
      obtain ⟨b, vs, e2, eb, rv, f⟩ := c2.own (ownAt_some h3)
      rw [e1] at e2; cases e2
      cases r2 with
      | lst e5 r5 =>
        refine ⟨a, _, vs, _, rfl, rfl, eb, c2.le _ _ e5, by rw [rv.length, r5.length]; exact hz, ?_⟩
        exact k σ _ Hf2 (s'.trans s2) (c2.setOwn (ownAt_some h3) e1 (rv.app r5))
    · cases e
  · cases e
/-- x.pop(e) as a value -/
noncomputable def mPop (i : Nat) (a : M) : M := fun st => (ownAt st i).bind fun _ => (a st).bind fun (r, st1) => (ownAt st1 i).bind fun ds => match r with
  | .dat (.int k) => if Safe (-(2 ^ 63) ≤ k ∧ k < 2 ^ 63) then (seqIndex? k ds.length).bind fun j => (ds[j]?).map fun d => (.dat d, st1.put i (.own (ds.eraseIdx j))) else none
  | _ => none
theorem RpL.erase {H : Hp} : ∀ {ds : List PyData} {vs : List V} (j : Nat), RpL H vs ds → RpL H (vs.eraseIdx j) (ds.eraseIdx j)
  | [], _, _, h => by cases h; exact .nil
  | d :: ds, _, 0, h => by cases h with | cons r rs => exact rs
  | d :: ds, _, j + 1, h => by cases h with | cons r rs => exact .cons r (RpL.erase j rs)
theorem ev_pop {i : Nat} {x : Str} {p1 p2 p3 : Pos} (hi : X.N[i]? = some x) (hv : Vis X.env.scope x) (ha : EV X ea a) (hd : (x == ("__debug__" : Str)) = false := by decide) (hcd : (x == ("__classdict__" : Str)) = false := by decide)
    (hbase : attributeBase (.Name x p1) "pop" X.env (eval (.Name x p1) X.env) = eval (.Name x p1) X.env := by rfl)
    (hfew : ((backTo p3 (starEach [ea] X.env)).all (fun x => !x.1) && (backToKw p3 (keywordEach [] X.env)).all (fun x => x.1.isSome)
      && decide ([ea].length + ([] : List Keyword).length + (if ([] : List Keyword).isEmpty then 0 else 1) < 30)) = true := by rfl)
    (hline : (p2.endLine == p3.line) = true := by rfl) (hs : starEach [ea] X.env = (false, eval ea X.env) :: starEach [] X.env := by rfl) (hplain : (backTo p3 (starEach [] X.env)).any (·.1) = false := by rfl) :
    EV X (.Call (.Attribute (.Name x p1) "pop" p2) [ea] [] p3) (mPop i a) := by
  refine ev_of fun L Hf st r' st' σ H Q c e k => ⟨_, pe_bm PySem.F.plainAttrs_list PySem.F.slot_list_pop PySem.F.type_list_pop mt_popAt (pe_var hi hv hd hcd) (pa_cons ha pa_nil hs) hbase hfew hline hs hplain, ?_⟩
  unfold mPop at e
  obtain ⟨ds0, h0, e⟩ := bind_some2 e
  obtain ⟨⟨r, st1⟩, h1, e⟩ := bind_some2 e
  dsimp only at e
  obtain ⟨ds, h3, e⟩ := bind_some2 e
  split at e
  · split at e
    · rename_i hk
      obtain ⟨j, h4, e⟩ := bind_some2 e
      obtain ⟨d, h5, e⟩ := map_some2 e
      cases e
      obtain ⟨a, vs0, e1, ea0⟩ := own_slot c h0
      refine ⟨.ref a, e1, .inl ⟨rfl, _, .of ea0⟩, ?_⟩
      refine ev_use c h1 fun v H' Hf' s' c' q => ?_
      cases q
      obtain ⟨b, vs, e2, eb, rv, f⟩ := c'.own (ownAt_some h3)
      rw [e1] at e2; cases e2
      obtain ⟨w, hw, rw'⟩ := rv.get h5
      refine ⟨a, vs, _, j, w, rfl, rfl, eb, hk.1, hk.2, by rw [rv.length]; exact h4, hw, ?_⟩
      exact k w _ Hf' s' (c'.setOwn (ownAt_some h3) e1 (rv.erase j)) rw'
    · cases e
  · cases e
/-- x.pop() as a value -/
def mPop0 (i : Nat) : M := fun st => (ownAt st i).bind fun ds => (ds[ds.length - 1]?).map fun d => (.dat d, st.put i (.own ds.dropLast))
theorem RpL.dropLast {H : Hp} {ds : List PyData} {vs : List V} (h : RpL H vs ds) : RpL H vs.dropLast ds.dropLast := by
  rw [List.dropLast_eq_take, List.dropLast_eq_take, h.length]
  exact h.take _
theorem ev_pop0 {i : Nat} {x : Str} {p1 p2 p3 : Pos} (hi : X.N[i]? = some x) (hv : Vis X.env.scope x) (hd : (x == ("__debug__" : Str)) = false := by decide) (hcd : (x == ("__classdict__" : Str)) = false := by decide)
    (hbase : attributeBase (.Name x p1) "pop" X.env (eval (.Name x p1) X.env) = eval (.Name x p1) X.env := by rfl) (hline : (p2.endLine == p3.line) = true := by rfl) :
    EV X (.Call (.Attribute (.Name x p1) "pop" p2) [] [] p3) (mPop0 i) := by
  refine ev_of fun L Hf st r' st' σ H Q c e k => ⟨_, pe_bm0 PySem.F.plainAttrs_list PySem.F.slot_list_pop PySem.F.type_list_pop mt_pop (pe_var hi hv hd hcd) hbase hline, ?_⟩
  unfold mPop0 at e
  obtain ⟨ds, h0, e⟩ := bind_some2 e
  obtain ⟨d, h5, e⟩ := map_some2 e
  cases e
  obtain ⟨b, vs, e2, eb, rv, f⟩ := c.own (ownAt_some h0)
  obtain ⟨w, hw, rw'⟩ := rv.get h5
  rw [← rv.length] at hw
  exact ⟨.ref b, e2, .inl ⟨rfl, _, .of eb⟩, b, vs, w, rfl, rfl, eb, hw, k w _ Hf Sub.refl (c.setOwn (ownAt_some h0) e2 rv.dropLast) rw'⟩
end
end NV
set_option Elab.async false
set_option linter.all false
set_option maxRecDepth 100000
set_option maxHeartbeats 4000000
/-! NV6: a, b = x, y; while; what is walked; for; comprehensions -/
namespace NV
open PySem PySem.Spec PyProof.Rows L2

/-! ### a, b = e1, e2 -/
/-- a result that is a slot's list is frozen -/
@[simp] def unslt (st : Sta) : R → Option (R × Sta)
  | .slt i => (esc st (.slt i)).map fun (d, st1) => (.dat d, st1)
  | r => some (r, st)
theorem unslt_ok {L : Lay} {Hf : Hp} {st st' : Sta} {σ : SS} {H : Hp} {v : V} {r r' : R} (c : Cor L Hf st σ H) (h : ResOk L Hf st σ H v r) (e : unslt st r = some (r', st')) : ∃ Hf', Sub Hf Hf' ∧ Cor L Hf' st' σ H ∧ ResOk L Hf' st' σ H v r' ∧ ∀ i, r' ≠ .slt i := by
  cases r with
  | dat d => cases e; exact ⟨Hf, Sub.refl, c, h, fun i z => nomatch z⟩
  | fre ds => cases e; exact ⟨Hf, Sub.refl, c, h, fun i z => nomatch z⟩
  | slt i =>
    have e' : (esc st (.slt i)).map (fun (d, st1) => (R.dat d, st1)) = some (r', st') := e
    obtain ⟨⟨d, st1⟩, h1, h2⟩ := map_some2 e'
    cases h2
    obtain ⟨Hf', s', c', q⟩ := esc_ok c h h1
    exact ⟨Hf', s', c', q, fun i z => nomatch z⟩
/-- one more protected address -/
def Lay.keep (L : Lay) (a : Addr) (o : HO) : Lay := { L with pr := upd L.pr a o }
theorem Cor.keep {L : Lay} {Hf : Hp} {st : Sta} {σ : SS} {H : Hp} {a : Addr} {o : HO} (c : Cor L Hf st σ H) (f : Free L Hf st σ a) (h : H a = some o) : Cor (L.keep a o) Hf st σ H where
  le := c.le
  pr := fun b x e => by
    by_cases hb : b = a
    · subst hb
      have e' : upd L.pr b o b = some x := e
      rw [upd_same] at e'; cases e'
      exact ⟨h, f.1⟩
    · have e' : upd L.pr a o b = some x := e
      rw [upd_ne hb] at e'
      exact c.pr b x e'
  sl := fun i => by
    have q := c.sl i
    cases z : st.e i with
    | emp => trivial
    | val d => rw [z] at q; exact q
    | src => rw [z] at q; exact q
    | own ds =>
      rw [z] at q
      obtain ⟨b, vs, e1, eb, r, n, p, w⟩ := q
      have hb : b ≠ a := fun q => f.2.2.2 i (by rw [z]; trivial) (by rw [e1, q])
      exact ⟨b, vs, e1, eb, r, n, by show upd L.pr a o b = none; rw [upd_ne hb]; exact p, w⟩
  dj := c.dj
  so := fun z hz => by
    obtain ⟨h1, h2, h3, h4, h5⟩ := c.so z hz
    obtain ⟨n1, n2⟩ := f.2.2.1 (by rw [hz]; rfl)
    exact ⟨h1, h2, h3, by show upd L.pr a o L.aD = none; rw [upd_ne n1.symm]; exact h4, by show upd L.pr a o L.aC = none; rw [upd_ne n2.symm]; exact h5⟩
theorem Cor.unkeep {L : Lay} {Hf : Hp} {st : Sta} {σ : SS} {H : Hp} {a : Addr} {o : HO} (c : Cor (L.keep a o) Hf st σ H) (hp : L.pr a = none) : Cor L Hf st σ H ∧ H a = some o ∧ Free L Hf st σ a := by
  have ha := c.pr a o upd_same
  have hz : st.z.isSome = true → a ≠ L.aD ∧ a ≠ L.aC := fun hz => by
    cases q : st.z with
    | none => rw [q] at hz; cases hz
    | some z =>
      obtain ⟨_, _, _, h4, h5⟩ := c.so z q
      have g4 : upd L.pr a o L.aD = none := h4
      have g5 : upd L.pr a o L.aC = none := h5
      exact ⟨fun q => (by rw [← q, upd_same] at g4; cases g4), fun q => (by rw [← q, upd_same] at g5; cases g5)⟩
  have pr0 : ∀ b, b ≠ a → L.pr b = (L.keep a o).pr b := fun b hb => (upd_ne hb).symm
  refine ⟨⟨c.le, fun b x e => ?_, fun i => ?_, c.dj, fun z hz => ?_⟩, ha.1, ha.2, hp, hz, fun i ho e => ?_⟩
  · have hb : b ≠ a := fun q => by rw [q, hp] at e; cases e
    exact c.pr b x (by rw [← pr0 b hb]; exact e)
  · have q := c.sl i
    cases z : st.e i with
    | emp => trivial
    | val d => rw [z] at q; exact q
    | src => rw [z] at q; exact q
    | own ds =>
      rw [z] at q
      obtain ⟨b, vs, e1, eb, r, n, p, w⟩ := q
      have hb : b ≠ a := fun q => by
        have p' : upd L.pr a o b = none := p
        rw [q, upd_same] at p'; cases p'
      exact ⟨b, vs, e1, eb, r, n, by rw [pr0 b hb]; exact p, w⟩
  · obtain ⟨h1, h2, h3, h4, h5⟩ := c.so z hz
    have g4 : upd L.pr a o L.aD = none := h4
    have g5 : upd L.pr a o L.aC = none := h5
    have n1 : L.aD ≠ a := fun q => by rw [q, upd_same] at g4; cases g4
    have n2 : L.aC ≠ a := fun q => by rw [q, upd_same] at g5; cases g5
    exact ⟨h1, h2, h3, by rw [pr0 _ n1]; exact h4, by rw [pr0 _ n2]; exact h5⟩
  · have q := c.sl i
    cases z : st.e i with
    | emp => rw [z] at ho; exact ho
    | val d => rw [z] at ho; exact ho
    | src => rw [z] at ho; exact ho
    | own ds =>
      rw [z] at q
      obtain ⟨b, vs, e1, eb, r, n, p, w⟩ := q
      rw [e] at e1; cases e1
      have p' : upd L.pr a o a = none := p
      rw [upd_same] at p'; cases p'
theorem Cor.rekeep {L : Lay} {Hf : Hp} {st : Sta} {σ : SS} {H : Hp} {a : Addr} {o o' : HO} (c : Cor (L.keep a o) Hf st σ H) : Cor (L.keep a o') Hf st σ (upd H a o') := by
  have ha := c.pr a o upd_same
  have pq : ∀ b, b ≠ a → (L.keep a o).pr b = (L.keep a o').pr b := fun b hb => (upd_ne hb).trans (upd_ne hb).symm
  have nn : ∀ b, (L.keep a o).pr b = none → b ≠ a := fun b e q => by
    have e' : upd L.pr a o b = none := e
    rw [q, upd_same] at e'; cases e'
  refine ⟨fun b x e => ?_, fun b x e => ?_, fun i => ?_, c.dj, fun z hz => ?_⟩
  · have hb : b ≠ a := fun q => by rw [q, ha.2] at e; cases e
    rw [upd_ne hb]; exact c.le b x e
  · by_cases hb : b = a
    · subst hb
      have e' : upd L.pr b o' b = some x := e
      rw [upd_same] at e'; cases e'
      exact ⟨upd_same, ha.2⟩
    · rw [upd_ne hb]; exact c.pr b x (by rw [pq b hb]; exact e)
  · have q := c.sl i
    cases z : st.e i with
    | emp => trivial
    | val d => rw [z] at q; exact q
    | src => rw [z] at q; exact q
    | own ds =>
      rw [z] at q
      obtain ⟨b, vs, e1, eb, r, n, p, w⟩ := q
      have hb := nn b p
      exact ⟨b, vs, e1, by rw [upd_ne hb]; exact eb, r, n, by rw [← pq b hb]; exact p, w⟩
  · obtain ⟨⟨h1, h2⟩, h3, h3', h4, h5⟩ := c.so z hz
    have n1 := nn _ h4
    have n2 := nn _ h5
    exact ⟨⟨(upd_ne n1).trans h1, (upd_ne n2).trans h2⟩, h3, h3', (pq _ n1).symm.trans h4, (pq _ n2).symm.trans h5⟩
theorem z_some {st st' : Sta} (h : st'.z.isSome = st.z.isSome) : st'.z.isSome = true → st.z.isSome = true := fun e => by rw [← h]; exact e
@[simp] def sPar (i j : Nat) (a b : M) : MS := fun st => (a st).bind fun (r1, st1) => (unslt st1 r1).bind fun (r1, st2) => (b st2).bind fun (r2, st3) => (unslt st3 r2).bind fun (r2, st4) =>
  (sto i r1 st4).bind fun st5 => (sto j r2 st5).map fun st6 => (.nx, st6)
section
variable {X : Cx} {ea eb ec : Expr} {a b : M} {pos : Pos}
theorem sPar_nx {st st' : Sta} {i j : Nat} {o : Out} (e : sPar i j a b st = some (o, st')) : o = .nx := by
  unfold sPar at e
  obtain ⟨⟨r1, st1⟩, h1, e⟩ := bind_some2 e
  obtain ⟨⟨r1', st2⟩, h2, e⟩ := bind_some2 e
  obtain ⟨⟨r2, st3⟩, h3, e⟩ := bind_some2 e
  obtain ⟨⟨r2', st4⟩, h4, e⟩ := bind_some2 e
  obtain ⟨st5, h5, e⟩ := bind_some2 e
  obtain ⟨st6, h6, e⟩ := map_some2 e
  cases e; rfl
/-- the two stores, at the state behind both values -/
theorem par_use {L : Lay} {Hf : Hp} {st st' : Sta} {σ : SS} {H : Hp} {i j : Nat} {o : Out} {W : V → V → Hp → Prop} (c : Cor L Hf st σ H) (hi : i < σ.length) (hj : j < σ.length) (e : sPar i j a b st = some (o, st'))
    (k : ∀ v w H' Hf', Sub Hf Hf' → Cor L Hf' st' ((σ.set i (some v)).set j (some w)) H' → W v w H') :
    rdE a σ H fun v H1 => rdE b σ H1 fun w H2 => W v w H2 := by
  unfold sPar at e
  obtain ⟨⟨r1, st1⟩, h1, e⟩ := bind_some2 e
  obtain ⟨⟨r1', st2⟩, h2, e⟩ := bind_some2 e
  obtain ⟨⟨r2, st3⟩, h3, e⟩ := bind_some2 e
  obtain ⟨⟨r2', st4⟩, h4, e⟩ := bind_some2 e
  · obtain ⟨st5, h5, e⟩ := bind_some2 e
    obtain ⟨st6, h6, e⟩ := map_some2 e
    cases e
    refine ev_use c h1 fun v H1 Hf1 s1 c1 q1 => ?_
    obtain ⟨Hf2, s2, c2, q2, ns⟩ := unslt_ok c1 q1 h2
    cases r1' with
    | slt i => exact absurd rfl (ns i)
    | dat d =>
      refine ev_use c2 h3 fun w H3 Hf3 s3 c3 q3 => ?_
      obtain ⟨Hf4, s4, c4, q4, ns4⟩ := unslt_ok c3 q3 h4
      have q2' : Rp Hf4 v d := Rp.up (s3.trans s4) q2
      obtain ⟨Hf5, s5, c5⟩ := sto_ok c4 hi (v := v) (r := .dat d) q2' h5
      cases r2' with
      | slt i => exact absurd rfl (ns4 i)
      | dat d2 =>
        obtain ⟨Hf6, s6, c6⟩ := sto_ok c5 (by rw [List.length_set]; exact hj) (v := w) (r := .dat d2) (Rp.up s5 q4) h6
        exact k v w H3 Hf6 ((s1.trans s2).trans ((s3.trans s4).trans (s5.trans s6))) c6
      | fre ds =>
        cases h5
        obtain ⟨p, vs, rfl, ep, rp, fp⟩ := q4
        have c5' := c4.store hi q2'
        have f5 : Free L Hf4 (st4.put i (.val d)) (σ.set i (some v)) p := ⟨fp.1, fp.2.1, fp.2.2.1, fun j hj e => by
          obtain ⟨n1, n2⟩ := isOwn_put (x := .val d) (fun h => h) hj
          rw [List.getElem?_set_ne (Ne.symm n1)] at e
          exact fp.2.2.2 j n2 e⟩
        cases h6
        exact k v _ H3 Hf4 ((s1.trans s2).trans (s3.trans s4)) (c5'.storeF (by rw [List.length_set]; exact hj) ep rp f5)
    | fre ds =>
      obtain ⟨p, vs, rfl, ep, rp, fp⟩ := q2
      refine ev_use (c2.keep fp ep) h3 fun w H3 Hf3 s3 c3 q3 => ?_
      obtain ⟨Hf4, s4, c4, q4, ns4⟩ := unslt_ok c3 q3 h4
      obtain ⟨c4', ep4, fp4⟩ := c4.unkeep fp.2.1
      have rp4 : RpL Hf4 vs ds := rp.up (s3.trans s4)
      cases h5
      cases r2' with
      | slt i => exact absurd rfl (ns4 i)
      | dat d2 =>
        have c5 := c4'.storeF hi ep4 rp4 fp4
        obtain ⟨Hf6, s6, c6⟩ := sto_ok c5 (by rw [List.length_set]; exact hj) (v := w) (r := .dat d2) q4 h6
        exact k _ w H3 Hf6 ((s1.trans s2).trans ((s3.trans s4).trans s6)) c6
      | fre es =>
        obtain ⟨p', vs', rfl, ep', rp', fp'⟩ := q4
        have hne : p' ≠ p := fun z => by
          have := fp'.2.1
          rw [z] at this
          have this : upd L.pr p (.lst vs) p = none := this
          rw [upd_same] at this; cases this
        have c5 := c4'.storeF hi ep4 rp4 fp4
        have f5 : Free L Hf4 (st4.put i (.own ds)) (σ.set i (some (.ref p))) p' := ⟨fp'.1, by
            have := fp'.2.1
            have this : upd L.pr p (.lst vs) p' = none := this
            rw [upd_ne hne] at this; exact this, fp'.2.2.1, fun j hj e => by
          by_cases ej : j = i
          · subst ej
            rw [List.getElem?_set_self hi] at e
            cases e; exact hne rfl
          · rw [List.getElem?_set_ne (Ne.symm ej)] at e
            rw [put_ne ej] at hj
            exact fp'.2.2.2 j hj e⟩
        cases h6
        exact k _ _ H3 Hf4 ((s1.trans s2).trans (s3.trans s4)) (c5.storeF (by rw [List.length_set]; exact hj) ep' rp' f5)
theorem pa_two {e1 e2 : Expr} {ta tb : TE} (h1 : PE X e1 ta) (h2 : PE X e2 tb) (hs : starEach [e1, e2] X.env = (false, eval e1 X.env) :: starEach [e2] X.env := by rfl) (hs2 : starEach [e2] X.env = (false, eval e2 X.env) :: starEach [] X.env := by rfl) : PA X [e1, e2] (tCons ta (tCons tb tNil)) := pa_cons h1 (pa_cons h2 pa_nil hs2) hs
/-- both plain locals -/
theorem sv_par {i j : Nat} {x y : Str} {px py pt : Pos} {kt k2 pt2} (g : Gd X) (hi : X.N[i]? = some x) (hj : X.N[j]? = some y) (hij : i ≠ j)
    (hx : X.env.scope.names.lookup x = some .local) (hy : X.env.scope.names.lookup y = some .local) (ha : EV X ea a) (hb : EV X eb b)
    (hw : swappedStores [.Tuple [.Name x px, .Name y py] kt pt] (.Tuple [ea, eb] k2 pt2) X.env = pure (some [x, y]) := by rfl)
    (hs : swapsWithSole [.Tuple [.Name x px, .Name y py] kt pt] (.Tuple [ea, eb] k2 pt2) pos.line X.env = pure false := by rfl)
    (hs1 : starEach [ea, eb] X.env = (false, eval ea X.env) :: starEach [eb] X.env := by rfl) (hs2 : starEach [eb] X.env = (false, eval eb X.env) :: starEach [] X.env := by rfl) :
    SV X (.Assign [.Tuple [.Name x px, .Name y py] kt pt] (.Tuple [ea, eb] k2 pt2) pos) (sPar i j a b) := by
  refine sv_of fun L Hf st o st' σ H D hl c e k => ⟨_, ps_par g.calm g.nd hi hj hij hx hy (pa_two ha hb hs1 hs2) hw hs, ?_⟩
  have li : i < σ.length := by rw [hl]; exact lt_of_get hi
  have lj : j < σ.length := by rw [hl]; exact lt_of_get hj
  cases sPar_nx e
  have q := par_use (W := fun v w H' => D.nx ((σ.set i (some v)).set j (some w)) H') c li lj e (fun v w H' Hf' s' c' => k _ H' Hf' s' c')
  obtain ⟨L1, Hf1, st1, r1, st1', c1, e1, k1⟩ := q
  refine ⟨L1, Hf1, st1, r1, st1', c1, e1, fun v H' Hf' s' c' q => ?_⟩
  obtain ⟨L2, Hf2, st2, r2, st2', c2, e2, k2⟩ := k1 v H' Hf' s' c' q
  exact ⟨L2, Hf2, st2, r2, st2', c2, e2, fun w H'' Hf'' s'' c'' q' => ⟨v, w, rfl, k2 w H'' Hf'' s'' c'' q'⟩⟩
/-- any names: the pair is made and unpacked -/
theorem sv_parC {i j : Nat} {x y : Str} {px py pt : Pos} {kt k2 pt2} (g : Gd X) (hi : X.N[i]? = some x) (hj : X.N[j]? = some y) (hx : Loc X.env.scope x) (hy : Loc X.env.scope y) (ha : EV X ea a) (hb : EV X eb b)
    (hs : swapsWithSole [.Tuple [.Name x px, .Name y py] kt pt] (.Tuple [ea, eb] k2 pt2) pos.line X.env = pure false := by rfl) (hw : swappedStores [.Tuple [.Name x px, .Name y py] kt pt] (.Tuple [ea, eb] k2 pt2) X.env = pure none := by rfl)
    (h1 : (assignEach [.Tuple [.Name x px, .Name y py] kt pt] X.env).map (·.2) = [assign (.Tuple [.Name x px, .Name y py] kt pt) X.env] := by rfl)
    (hn : (assignEach [.Name x px, .Name y py] X.env).length = 2 := by rfl) (hst : (assignEach [.Name x px, .Name y py] X.env).findIdx? (·.1) = none := by rfl)
    (ht1 : (assignEach [.Name x px, .Name y py] X.env).map (·.2) = assign (.Name x px) X.env :: (assignEach [.Name y py] X.env).map (·.2) := by rfl)
    (ht2 : (assignEach [.Name y py] X.env).map (·.2) = assign (.Name y py) X.env :: (assignEach [] X.env).map (·.2) := by rfl)
    (hs1 : starEach [ea, eb] X.env = (false, eval ea X.env) :: starEach [eb] X.env := by rfl) (hs2 : starEach [eb] X.env = (false, eval eb X.env) :: starEach [] X.env := by rfl)
    (hf : X.fn x = true ∨ X.env.scope.names.lookup x = some .local := by first | exact .inl rfl | exact .inr rfl | assumption)
    (hf2 : X.fn y = true ∨ X.env.scope.names.lookup y = some .local := by first | exact .inl rfl | exact .inr rfl | assumption) :
    SV X (.Assign [.Tuple [.Name x px, .Name y py] kt pt] (.Tuple [ea, eb] k2 pt2) pos) (sPar i j a b) := by
  refine sv_of fun L Hf st o st' σ H D hl c e k => ⟨_, ps_asg (pe_tup (pa_two ha hb hs1 hs2)) (pg_tup g.calm (pgs_cons (pg_name g.nd hi hx hf) (pgs_cons (pg_name g.nd hj hy hf2) pgs_nil ht2) ht1) hn hst) hs hw h1, ?_⟩
  have li : i < σ.length := by rw [hl]; exact lt_of_get hi
  have lj : j < σ.length := by rw [hl]; exact lt_of_get hj
  cases sPar_nx e
  have q := par_use (W := fun v w H' => ∀ p, H' p = none → D.nx ((σ.set i (some v)).set j (some w)) (upd H' p (.tup [v, w]))) c li lj e (fun v w H' Hf' s' c' p hp => k _ _ Hf' s' (c'.laid hp))
  obtain ⟨L1, Hf1, st1, r1, st1', c1, e1, k1⟩ := q
  refine ⟨L1, Hf1, st1, r1, st1', c1, e1, fun v H' Hf' s' c' q => ?_⟩
  obtain ⟨L2, Hf2, st2, r2, st2', c2, e2, k2⟩ := k1 v H' Hf' s' c' q
  refine ⟨L2, Hf2, st2, r2, st2', c2, e2, fun w H'' Hf'' s'' c'' q' => ⟨by show 2 ≤ sizeLine; decide, fun p hp => ?_⟩⟩
  exact ⟨p, [v, w], rfl, .of upd_same, rfl, v, [w], rfl, w, [], rfl, rfl, k2 w H'' Hf'' s'' c'' q' p hp⟩

/-! ### while -/
def sWhile : Nat → MT → MS → MS
  | 0, _, _ => fun _ => none
  | n + 1, t, b => fun st => (t st).bind fun (c, st1) => if c = true then (b st1).bind fun (o, st2) => match o with
      | .nx => sWhile n t b st2
      | .ct => sWhile n t b st2
      | .bk => some (.nx, st2)
      | .rt d => some (.rt d, st2)
      | .rtF d => some (.rtF d, st2)
    else some (.nx, st1)
theorem sv_while {t : MT} {ss : List Stmt} {m : MS} (g : Gd X) (hc : TV X ec t) (hb : BV X ss m) (n : Nat) : SV X (.While ec ss [] pos) (sWhile n t m) := by
  refine sv_of fun L Hf st o st' σ H D hl c e k => ⟨_, ps_while g.po hc hb, ?_⟩
  refine ⟨fun n σ H => ∃ Hf' st1, Sub Hf Hf' ∧ Cor L Hf' st1 σ H ∧ sWhile n t m st1 = some (o, st'), ⟨n, Hf, st, Sub.refl, c, e⟩, ?_⟩
  rintro n σ1 H1 ⟨Hf1, st1, s1, c1, e1⟩
  cases n with
  | zero => cases e1
  | succ n =>
    have e1' : ((t st1).bind fun (c, st1) => if c = true then (m st1).bind fun (o, st2) => match o with
      | .nx => sWhile n t m st2
      | .ct => sWhile n t m st2
      | .bk => some (.nx, st2)
      | .rt d => some (.rt d, st2)
      | .rtF d => some (.rtF d, st2)
      else some (.nx, st1)) = some (o, st') := e1
    obtain ⟨⟨b, st2⟩, h2, e2⟩ := bind_some2 e1'
    dsimp only at e2
    refine rdT.use c1 h2 fun H2 Hf2 s2 c2 => ?_
    cases b with
    | false =>
      simp only [Bool.false_eq_true, if_false] at e2 ⊢
      cases e2
      exact k σ1 H2 Hf2 (s1.trans s2) c2
    | true =>
      rw [if_pos rfl] at e2 ⊢
      obtain ⟨⟨o3, st3⟩, h3, e3⟩ := bind_some2 e2
      dsimp only at e3
      refine ⟨fun σ' H' => ∃ Hf' st1, Sub Hf Hf' ∧ Cor L Hf' st1 σ' H' ∧ sWhile n t m st1 = some (o, st'), fun σ' H' w => ⟨n, Nat.lt_succ_self n, w⟩, L, Hf2, st2, o3, st3, c2, h3, fun σ3 H3 Hf3 s3 c3 => ?_⟩
      have s13 := (s1.trans s2).trans s3
      cases o3 with
      | nx => exact ⟨Hf3, st3, s13, c3, e3⟩
      | ct => exact ⟨Hf3, st3, s13, c3, e3⟩
      | bk => cases e3; exact k σ3 H3 Hf3 s13 c3
      | rt d => cases e3; exact k σ3 H3 Hf3 s13 c3
      | rtF d => cases e3; exact k σ3 H3 Hf3 s13 c3
end

/-! ### what is walked -/
def WalkD (J : It) (Hf : Hp) (ds : List PyData) : Prop := ∀ Hf' H, Sub Hf Hf' → Sub Hf' H → (∀ (i : Nat) d, ds[i]? = some d → J.go i H ∧ ∀ x H', J.yld i H x H' → Grow Hf' H (.dat d) x H') ∧ J.stop ds.length H
theorem WalkD.mono {J : It} {Hf Hf' : Hp} {ds : List PyData} (w : WalkD J Hf ds) (s : Sub Hf Hf') : WalkD J Hf' ds := fun Hf'' H s' => w Hf'' H (s.trans s')
def rdI (m : ME) : TI := fun σ H R => ∃ L Hf st ds st', Cor L Hf st σ H ∧ m st = some (ds, st') ∧ ∀ J H' Hf', Sub Hf Hf' → Cor L Hf' st' σ H' → WalkD J Hf' ds → R J H'
def IV (X : Cx) (tg iter : Expr) (m : ME) : Prop := PI X tg iter (rdI m)
theorem iv_of {X : Cx} {tg iter : Expr} {m : ME} (h : ∀ L Hf st ds st' σ H R, Cor L Hf st σ H → m st = some (ds, st') → (∀ J H' Hf', Sub Hf Hf' → Cor L Hf' st' σ H' → WalkD J Hf' ds → R J H') → ∃ wi : TI, PI X tg iter wi ∧ wi σ H R) : IV X tg iter m :=
  ⟨fun pins s σ H R I ⟨L, Hf, st, ds, st', c, e, k⟩ => by
    obtain ⟨wi, hw, q⟩ := h L Hf st ds st' σ H R c e k
    exact hw.run pins s σ H R I q⟩
theorem PI.un {X : Cx} {tg iter : Expr} : PI X tg iter (fun σ H R => ∃ wi : TI, PI X tg iter wi ∧ wi σ H R) := ⟨fun pins s σ H R I ⟨wi, hw, q⟩ => hw.run pins s σ H R I q⟩
section
variable {X : Cx} {ea eb ec tg : Expr} {a b : M} {pos p : Pos} {K : PySem.W.Frag}
theorem walkD_lst {Hf : Hp} {q : Addr} {vs : List V} {ds : List PyData} (e : Hf q = some (.lst vs)) (r : RpL Hf vs ds) : WalkD (Itl K q) Hf ds := fun Hf' H s s' => by
  have e' : SqL K H q vs := .of (s' _ _ (s _ _ e))
  refine ⟨fun i d hd => ?_, ⟨vs, e', by rw [r.length]; exact Nat.le_refl _⟩⟩
  obtain ⟨v, hv, rv⟩ := r.get hd
  refine ⟨⟨vs, v, e', hv⟩, fun x H' y => ?_⟩
  obtain ⟨y1, y2⟩ := y
  subst y1
  have := y2 vs e'
  rw [hv] at this; cases this
  exact .old (rv.up s)
theorem walkD_tup {Hf : Hp} {q : Addr} {vs : List V} {ds : List PyData} (e : Hf q = some (.tup vs)) (r : RpL Hf vs ds) : WalkD (Itt K q) Hf ds := fun Hf' H s s' => by
  have e' : SqT K H q vs := .of (s' _ _ (s _ _ e))
  refine ⟨fun i d hd => ?_, ⟨vs, e', by rw [r.length]; exact Nat.le_refl _⟩⟩
  obtain ⟨v, hv, rv⟩ := r.get hd
  refine ⟨⟨vs, v, e', hv⟩, fun x H' y => ?_⟩
  obtain ⟨y1, y2⟩ := y
  subst y1
  have := y2 vs e'
  rw [hv] at this; cases this
  exact .old (rv.up s)
@[simp] def seqD : PyData → Option (List PyData)
  | .list ds => some ds
  | .tuple ds => some ds
  | _ => none
@[simp] def iSeq (a : M) : ME := fun st => (a st).bind fun (r, st1) => (esc st1 r).bind fun (d, st2) => (seqD d).map fun ds => (ds, st2)
theorem PE.un {e : Expr} : PE X e (fun σ H Q => ∃ t, PE X e t ∧ t σ H Q) := ⟨fun pins s σ H Q I ⟨t, h, q⟩ => h.run pins s σ H Q I q⟩
/-- a list or a tuple -/
theorem iv_seq (ha : EV X ea a) : IV X tg ea (iSeq a) := by
  refine ⟨fun pins s σ H R I ⟨L, Hf, st, ds, st', c, e, k⟩ => ?_⟩
  unfold iSeq at e
  obtain ⟨⟨r, st1⟩, h1, e⟩ := bind_some2 e
  obtain ⟨⟨d, st2⟩, h2, e⟩ := bind_some2 e
  obtain ⟨ds', h3, e⟩ := map_some2 e
  cases e
  -- which it is
  cases d with
  | list ds =>
    cases h3
    refine (pi_list ha).run pins s σ H R I ?_
    refine ev_use c h1 fun v H' Hf' s' c' q => ?_
    obtain ⟨Hf2, s2, c2, r2⟩ := esc_ok c' q h2
    cases r2 with
    | lst e2 r2 => exact ⟨_, rfl, ⟨_, .of (c2.le _ _ e2)⟩, k _ H' Hf2 (s'.trans s2) c2 (walkD_lst e2 r2)⟩
  | tuple ds =>
    cases h3
    refine (pi_tup ha).run pins s σ H R I ?_
    refine ev_use c h1 fun v H' Hf' s' c' q => ?_
    obtain ⟨Hf2, s2, c2, r2⟩ := esc_ok c' q h2
    cases r2 with
    | tup e2 r2 => exact ⟨_, rfl, ⟨_, .of (c2.le _ _ e2)⟩, k _ H' Hf2 (s'.trans s2) c2 (walkD_tup e2 r2)⟩
  | none => cases h3
  | bool _ => cases h3
  | int _ => cases h3
  | str _ => cases h3
  | dict _ => cases h3
/-- ranges -/
def rgD (lo : Int) (n : Nat) : List PyData := (List.range n).map fun (i : Nat) => .int (lo + i)
theorem rgD_len (lo : Int) (n : Nat) : (rgD lo n).length = n := by unfold rgD; rw [List.length_map, List.length_range]
theorem rgD_at {lo : Int} {n i : Nat} {d : PyData} (h : (rgD lo n)[i]? = some d) : i < n ∧ d = .int (lo + i) := by
  unfold rgD at h
  rw [List.getElem?_map] at h
  by_cases hi : i < n
  · rw [List.getElem?_range hi] at h
    cases h; exact ⟨hi, rfl⟩
  · rw [List.getElem?_eq_none (by rw [List.length_range]; omega)] at h
    cases h
theorem walkD_rg {lo : Int} {n : Nat} {Hf : Hp} : WalkD (Itr lo n) Hf (rgD lo n) := fun Hf' H s s' => by
  refine ⟨fun i d hd => ?_, by rw [rgD_len]; exact Nat.le_refl _⟩
  obtain ⟨hi, rfl⟩ := rgD_at hd
  refine ⟨hi, fun x H' y => ?_⟩
  obtain ⟨y1, y2⟩ := y
  subst y1; subst y2
  exact .old (.int _)
def rgC (lo c : Int) (n : Nat) : List PyData := (List.range n).map fun (i : Nat) => .int (lo + (i : Nat) * c)
theorem walkD_rgC {lo c : Int} {n : Nat} {Hf : Hp} : WalkD (Itc lo c n) Hf (rgC lo c n) := fun Hf' H s s' => by
  refine ⟨fun i d hd => ?_, by unfold rgC; rw [List.length_map, List.length_range]; exact Nat.le_refl _⟩
  unfold rgC at hd
  rw [List.getElem?_map] at hd
  have hi : i < n := by
    by_cases hi : i < n
    · exact hi
    · rw [List.getElem?_eq_none (by rw [List.length_range]; omega)] at hd
      cases hd
  rw [List.getElem?_range hi] at hd
  cases hd
  refine ⟨hi, fun x H' y => ?_⟩
  obtain ⟨y1, y2⟩ := y
  subst y1; subst y2
  exact .old (.int _)
@[simp] def mInt (a : M) : Sta → Option (Int × Sta) := fun st => match a st with
  | some (.dat (.int i), st1) => some (i, st1)
  | _ => none
theorem mInt_some {a : M} {st st' : Sta} {i : Int} (h : mInt a st = some (i, st')) : a st = some (.dat (.int i), st') := by
  unfold mInt at h
  split at h
  · cases h; assumption
  · cases h
@[simp] noncomputable def iRg1 (a : M) : ME := fun st => (mInt a st).bind fun (j, st1) => if Safe (-(2 ^ 62) ≤ j ∧ j < 2 ^ 62) then some (rgD 0 j.toNat, st1) else none
@[simp] noncomputable def iRg2 (a b : M) : ME := fun st => (mInt a st).bind fun (i, st1) => (mInt b st1).bind fun (j, st2) => if Safe (-(2 ^ 62) ≤ i ∧ i < 2 ^ 62 ∧ -(2 ^ 62) ≤ j ∧ j < 2 ^ 62) then some (rgD i (j - i).toNat, st2) else none
noncomputable def iRg3 (a b c : M) : ME := fun st => (mInt a st).bind fun (i, st1) => (mInt b st1).bind fun (j, st2) => (mInt c st2).bind fun (c, st3) => if Safe (c ≠ 0 ∧ c.natAbs < 1073741824 ∧ Builtin.Range.small i j c = true ∧ 0 ≤ Builtin.Range.rangeSize i j c) then some (rgC i c (Builtin.Range.rangeSize i j c).toNat, st3) else none
theorem iv_range1 (hg : Gl X "range") (hm : X.mg "range" = none) (ha : EV X ea a) (hs : starEach [ea] X.env = [(false, eval ea X.env)] := by rfl) (hs1 : starEach [ea] X.env = (false, eval ea X.env) :: starEach [] X.env := by rfl) : IV X tg (.Call (.Name "range" p) [ea] [] pos) (iRg1 a) := by
  refine iv_of fun L Hf st ds st' σ H R c e k => ⟨_, pi_range1 hg hm (pa_cons ha pa_nil hs1) hs, ?_⟩
  unfold iRg1 at e
  obtain ⟨⟨j, st1⟩, h1, e⟩ := bind_some2 e
  dsimp only at e
  split at e
  · rename_i hj
    cases e
    refine ev_use c (mInt_some h1) fun v H' Hf' s' c' q => ?_
    cases q
    exact ⟨_, rfl, hj.1, hj.2, k _ H' Hf' s' c' walkD_rg⟩
  · cases e
theorem iv_range2 (hg : Gl X "range") (hm : X.mg "range" = none) (ha : EV X ea a) (hb : EV X eb b) (hs : starEach [ea, eb] X.env = [(false, eval ea X.env), (false, eval eb X.env)] := by rfl) (hs2 : starEach [eb] X.env = [(false, eval eb X.env)] := by rfl)
    (hs3 : starEach [ea, eb] X.env = (false, eval ea X.env) :: starEach [eb] X.env := by rfl) (hs4 : starEach [eb] X.env = (false, eval eb X.env) :: starEach [] X.env := by rfl) : IV X tg (.Call (.Name "range" p) [ea, eb] [] pos) (iRg2 a b) := by
  refine iv_of fun L Hf st ds st' σ H R c e k => ⟨_, pi_range2 hg hm (pa_two ha hb hs3 hs4) hs hs2, ?_⟩
  unfold iRg2 at e
  obtain ⟨⟨i, st1⟩, h1, e⟩ := bind_some2 e
  obtain ⟨⟨j, st2⟩, h2, e⟩ := bind_some2 e
  dsimp only at e
  split at e
  · rename_i hj
    cases e
    refine ev_use c (mInt_some h1) fun v H' Hf' s' c' q => ?_
    cases q
    refine ev_use c' (mInt_some h2) fun v H'' Hf'' s'' c'' q => ?_
    cases q
    exact ⟨i, j, rfl, hj, k _ _ _ (s'.trans s'') c'' walkD_rg⟩
  · cases e
theorem iv_range3 {d : M} (hg : Gl X "range") (hm : X.mg "range" = none) (ha : EV X ea a) (hb : EV X eb b) (hc : EV X ec d)
    (hs : starEach [ea, eb, ec] X.env = (false, eval ea X.env) :: starEach [eb, ec] X.env := by rfl) (hs2 : starEach [eb, ec] X.env = (false, eval eb X.env) :: starEach [ec] X.env := by rfl) (hs3 : starEach [ec] X.env = (false, eval ec X.env) :: starEach [] X.env := by rfl)
    (hpl : (backTo pos (starEach [eb, ec] X.env)).any (·.1) = false := by rfl) : IV X tg (.Call (.Name "range" p) [ea, eb, ec] [] pos) (iRg3 a b d) := by
  refine iv_of fun L Hf st ds st' σ H R c e k => ⟨_, pi_range3 hg hm (pa_cons ha (pa_cons hb (pa_cons hc pa_nil hs3) hs2) hs) hs hpl, ?_⟩
  unfold iRg3 at e
  obtain ⟨⟨i, st1⟩, h1, e⟩ := bind_some2 e
  obtain ⟨⟨j, st2⟩, h2, e⟩ := bind_some2 e
  obtain ⟨⟨l, st3⟩, h3, e⟩ := bind_some2 e
  dsimp only at e
  split at e
  · rename_i hj
    cases e
    refine ev_use c (mInt_some h1) fun v H' Hf' s' c' q => ?_
    cases q
    refine ev_use c' (mInt_some h2) fun v H'' Hf'' s'' c'' q => ?_
    cases q
    refine ev_use c'' (mInt_some h3) fun v H3 Hf3 s3 c3 q => ?_
    cases q
    exact ⟨i, j, l, _, rfl, ⟨hj.1, hj.2.1, hj.2.2.1, (Int.toNat_of_nonneg hj.2.2.2).symm⟩, k _ _ _ ((s'.trans s'').trans s3) c3 walkD_rgC⟩
  · cases e
/-- zip(x, y): two lists, or two tuples -/
def pairD (x y : PyData) : PyData := .tuple [x, y]
def zipD : PyData → PyData → Option (List PyData)
  | .list xs, .list ys => some (List.zipWith pairD xs ys)
  | .tuple xs, .tuple ys => some (List.zipWith pairD xs ys)
  | _, _ => none
def iZip (a b : M) : ME := fun st => (a st).bind fun (r1, st1) => (esc st1 r1).bind fun (d1, st2) => (b st2).bind fun (r2, st3) => (esc st3 r2).bind fun (d2, st4) => (zipD d1 d2).map fun ds => (ds, st4)
theorem zip_at {xs ys : List PyData} {i : Nat} {d : PyData} (h : (List.zipWith pairD xs ys)[i]? = some d) : ∃ x y, xs[i]? = some x ∧ ys[i]? = some y ∧ d = .tuple [x, y] := by
  rw [List.getElem?_zipWith] at h
  cases h1 : xs[i]? with
  | none => rw [h1] at h; cases h
  | some x =>
    cases h2 : ys[i]? with
    | none => rw [h1, h2] at h; cases h
    | some y => rw [h1, h2] at h; cases h; exact ⟨x, y, rfl, rfl, rfl⟩
theorem iv_zip {elts : List Expr} {kk : Nat} {tpos : Pos} (hg : Gl X "zip") (hm : X.mg "zip" = none) (ha : EV X ea a) (hb : EV X eb b)
    (hs : starEach [ea, eb] X.env = (false, eval ea X.env) :: starEach [eb] X.env := by rfl) (hs2 : starEach [eb] X.env = (false, eval eb X.env) :: starEach [] X.env := by rfl) (hpl : (backTo pos (starEach [eb] X.env)).any (·.1) = false := by rfl) :
    IV X (.Tuple elts kk tpos) (.Call (.Name "zip" p) [ea, eb] [] pos) (iZip a b) := by
  refine iv_of fun L Hf st ds st' σ H R c e k => ⟨_, RZ.pi_zipA hg hm (pa_two ha hb hs hs2) hs hpl, ?_⟩
  unfold iZip at e
  obtain ⟨⟨r1, st1⟩, h1, e⟩ := bind_some2 e
  obtain ⟨⟨d1, st2⟩, h2, e⟩ := bind_some2 e
  obtain ⟨⟨r2, st3⟩, h3, e⟩ := bind_some2 e
  obtain ⟨⟨d2, st4⟩, h4, e⟩ := bind_some2 e
  obtain ⟨ds', h5, e⟩ := map_some2 e
  cases e
  refine ev_use c h1 fun v H' Hf' s' c' q => ?_
  obtain ⟨Hf2, s2, c2, q2⟩ := esc_ok c' q h2
  refine ev_use c2 h3 fun w H3 Hf3 s3 c3 q3 => ?_
  obtain ⟨Hf4, s4, c4, q4⟩ := esc_ok c3 q3 h4
  have q2' := q2.up (s3.trans s4)
  have sAll := (s'.trans s2).trans (s3.trans s4)
  unfold zipD at h5
  split at h5
  · cases h5
    rename_i xs ys
    cases q2' with
    | @lst pa vs _ ea1 ra =>
      cases q4 with
      | @lst pb ws _ eb1 rb =>
        refine ⟨pa, pb, vs, ws, rfl, .inl ⟨.of (c4.le _ _ ea1), .of (c4.le _ _ eb1), k _ H3 Hf4 sAll c4 fun Hf5 H5 s5 s6 => ⟨fun i d hd => ?_, ?_⟩⟩⟩
        · obtain ⟨x, y, hx, hy, rfl⟩ := zip_at hd
          obtain ⟨v1, hv1, rv1⟩ := ra.get hx
          obtain ⟨v2, hv2, rv2⟩ := rb.get hy
          have e1 : SqL X.K H5 pa vs := .of (s6 _ _ (s5 _ _ ea1))
          have e2 : SqL X.K H5 pb ws := .of (s6 _ _ (s5 _ _ eb1))
          refine ⟨⟨vs, ws, v1, v2, e1, e2, hv1, hv2⟩, fun x' H' y' => ?_⟩
          obtain ⟨T, x1, x2, rfl, nT, rfl, f1, f2⟩ := y'
          have g1 := f1 _ e1; have g2 := f2 _ e2
          rw [hv1] at g1; rw [hv2] at g2
          cases g1; cases g2
          exact .tup nT (.cons (rv1.up s5) (.cons (rv2.up s5) .nil))
        · exact ⟨vs, ws, .of (s6 _ _ (s5 _ _ ea1)), .of (s6 _ _ (s5 _ _ eb1)), by rw [ra.length, rb.length, List.length_zipWith]; omega⟩
  · cases h5
    rename_i xs ys
    cases q2' with
    | @tup pa vs _ ea1 ra =>
      cases q4 with
      | @tup pb ws _ eb1 rb =>
        refine ⟨pa, pb, vs, ws, rfl, .inr ⟨.of (c4.le _ _ ea1), .of (c4.le _ _ eb1), k _ H3 Hf4 sAll c4 fun Hf5 H5 s5 s6 => ⟨fun i d hd => ?_, ?_⟩⟩⟩
        · obtain ⟨x, y, hx, hy, rfl⟩ := zip_at hd
          obtain ⟨v1, hv1, rv1⟩ := ra.get hx
          obtain ⟨v2, hv2, rv2⟩ := rb.get hy
          have e1 : SqT X.K H5 pa vs := .of (s6 _ _ (s5 _ _ ea1))
          have e2 : SqT X.K H5 pb ws := .of (s6 _ _ (s5 _ _ eb1))
          refine ⟨⟨vs, ws, v1, v2, e1, e2, hv1, hv2⟩, fun x' H' y' => ?_⟩
          obtain ⟨T, x1, x2, rfl, nT, rfl, f1, f2⟩ := y'
          have g1 := f1 _ e1; have g2 := f2 _ e2
          rw [hv1] at g1; rw [hv2] at g2
          cases g1; cases g2
          exact .tup nT (.cons (rv1.up s5) (.cons (rv2.up s5) .nil))
        · exact ⟨vs, ws, .of (s6 _ _ (s5 _ _ ea1)), .of (s6 _ _ (s5 _ _ eb1)), by rw [ra.length, rb.length, List.length_zipWith]; omega⟩
  · cases h5
/-- enumerate(x), a list -/
def enumL (xs : List PyData) : List PyData := xs.zipIdx.map fun (x, i) => .tuple [.int (i : Nat), x]
def enumD : PyData → Option (List PyData)
  | .list xs => some (enumL xs)
  | _ => none
def iEnumM (a : M) : ME := fun st => (a st).bind fun (r1, st1) => (esc st1 r1).bind fun (d1, st2) => (enumD d1).map fun ds => (ds, st2)
theorem enum_at {xs : List PyData} {i : Nat} {d : PyData} (h : (enumL xs)[i]? = some d) : ∃ x, xs[i]? = some x ∧ d = .tuple [.int (i : Nat), x] := by
  unfold enumL at h
  rw [List.getElem?_map, List.getElem?_zipIdx] at h
  cases h1 : xs[i]? with
  | none => rw [h1] at h; cases h
  | some x => rw [h1] at h; simp at h; exact ⟨x, rfl, h.symm⟩
theorem iv_enum {elts : List Expr} {kk : Nat} {tpos : Pos} (hg : Gl X "enumerate") (hm : X.mg "enumerate" = none) (ha : EV X ea a)
    (hs : starEach [ea] X.env = [(false, eval ea X.env)] := by rfl) (hs1 : starEach [ea] X.env = (false, eval ea X.env) :: starEach [] X.env := by rfl) : IV X (.Tuple elts kk tpos) (.Call (.Name "enumerate" p) [ea] [] pos) (iEnumM a) := by
  refine iv_of fun L Hf st ds st' σ H R c e k => ⟨_, pi_enum hg hm (pa_cons ha pa_nil hs1) hs, ?_⟩
  unfold iEnumM at e
  obtain ⟨⟨r1, st1⟩, h1, e⟩ := bind_some2 e
  obtain ⟨⟨d1, st2⟩, h2, e⟩ := bind_some2 e
  obtain ⟨ds', h5, e⟩ := map_some2 e
  cases e
  refine ev_use c h1 fun v H' Hf' s' c' q => ?_
  obtain ⟨Hf2, s2, c2, q2⟩ := esc_ok c' q h2
  unfold enumD at h5
  split at h5
  · cases h5
    cases q2 with
    | @lst pa vs _ ea1 ra =>
      refine ⟨pa, vs, rfl, .of (c2.le _ _ ea1), k _ H' Hf2 (s'.trans s2) c2 fun Hf5 H5 s5 s6 => ⟨fun i d hd => ?_, ?_⟩⟩
      · obtain ⟨x, hx, rfl⟩ := enum_at hd
        obtain ⟨v1, hv1, rv1⟩ := ra.get hx
        have e1 : SqL X.K H5 pa vs := .of (s6 _ _ (s5 _ _ ea1))
        refine ⟨⟨vs, v1, e1, hv1⟩, fun x' H' y' => ?_⟩
        obtain ⟨T, x1, rfl, nT, rfl, f1⟩ := y'
        have g1 := f1 _ e1
        rw [hv1] at g1
        cases g1
        exact .tup nT (.cons (.int _) (.cons (rv1.up s5) .nil))
      · exact ⟨vs, .of (s6 _ _ (s5 _ _ ea1)), by rw [ra.length]; unfold enumL; rw [List.length_map, List.length_zipIdx]; exact Nat.le_refl _⟩
  · cases h5

/-! ### for -/
def runFor (t : MG) (b : MS) : List PyData → MS
  | [] => fun st => some (.nx, st)
  | d :: ds => fun st => (t d st).bind fun st1 => (b st1).bind fun (o, st2) => match o with
    | .nx => runFor t b ds st2
    | .ct => runFor t b ds st2
    | .bk => some (.nx, st2)
    | .rt d => some (.rt d, st2)
    | .rtF d => some (.rtF d, st2)
@[simp] def sFor (t : MG) (it : ME) (b : MS) : MS := fun st => (it st).bind fun (ds, st1) => runFor t b ds st1
theorem drop_at {α : Type} {l : List α} {i : Nat} (h : i < l.length) : ∃ x, l[i]? = some x ∧ l.drop i = x :: l.drop (i + 1) := ⟨l[i], List.getElem?_eq_getElem h, List.drop_eq_getElem_cons h⟩
theorem Grow.laid {L : Lay} {Hf H H' : Hp} {st : Sta} {σ : SS} {d : PyData} {v : V} (g : Grow Hf H (.dat d) v H') (c : Cor L Hf st σ H) : ∃ Hf', Sub Hf Hf' ∧ Cor L Hf' st σ H' ∧ Rp Hf' v d := by
  cases g with
  | old q => exact ⟨Hf, Sub.refl, c, q⟩
  | @tup p vs ds hp q =>
    have f := c.free_new hp
    have hs : Sub Hf (upd Hf p (.tup vs)) := Sub.ext f.1
    exact ⟨_, hs, (c.laid hp).freeze f upd_same, .tup upd_same (q.up hs)⟩
  | @dct p vs ds hp q =>
    have f := c.free_new hp
    have hs : Sub Hf (upd Hf p (.dK vs)) := Sub.ext f.1
    exact ⟨_, hs, (c.laid hp).freeze f upd_same, .dct upd_same (RpK.mono hs _ _ q)⟩
  | @tup2 p r vs ds i hp hr q =>
    have f := c.free_new hp
    have hs : Sub Hf (upd Hf p (.tup vs)) := Sub.ext f.1
    have c1 : Cor L (upd Hf p (.tup vs)) st σ (upd H p (.tup vs)) := (c.laid hp).freeze f upd_same
    have f2 := c1.free_new hr
    have hs2 : Sub (upd Hf p (.tup vs)) (upd (upd Hf p (.tup vs)) r (.tup [.int i, .ref p])) := Sub.ext f2.1
    exact ⟨_, hs.trans hs2, (c1.laid hr).freeze f2 upd_same, .tup upd_same (.cons (.int i) (.cons (Rp.up hs2 (.tup upd_same (q.up hs))) .nil))⟩
theorem sv_for {t : MG} {is : List Nat} {it : ME} {ss : List Stmt} {m : MS} (g : Gd X) (hi : IV X tg ea it) (hg : GV X tg t is) (hb : BV X ss m) (hs : ∀ x, foldedSetIterable ea X.env x = pure x := by intro _; rfl) : SV X (.For tg ea ss [] pos) (sFor t it m) := by
  refine sv_of fun L Hf st o st' σ H D hl c e k => ⟨_, ps_for g.po g.calm hi hg hb hs, ?_⟩
  unfold sFor at e
  obtain ⟨⟨ds, st1⟩, h1, e⟩ := bind_some2 e
  refine ⟨L, Hf, st, ds, st1, c, h1, fun J H1 Hf1 s1 c1 wk => ?_⟩
  refine ⟨fun i n σ H => n = ds.length - i ∧ i ≤ ds.length ∧ ∃ Hf' st2, Sub Hf1 Hf' ∧ Cor L Hf' st2 σ H ∧ runFor t m (ds.drop i) st2 = some (o, st'), ⟨ds.length, by simp, Nat.zero_le _, Hf1, st1, Sub.refl, c1, e⟩, ?_⟩
  rintro i n σ2 H2 ⟨rfl, hi, Hf2, st2, s2, c2, e2⟩
  obtain ⟨w1, w2⟩ := wk Hf2 H2 s2 c2.le
  by_cases hlt : i < ds.length
  · obtain ⟨d, hd, hdr⟩ := drop_at hlt
    rw [hdr] at e2
    have e2' : ((t d st2).bind fun st1 => (m st1).bind fun (o, st2) => match o with
      | .nx => runFor t m (ds.drop (i + 1)) st2
      | .ct => runFor t m (ds.drop (i + 1)) st2
      | .bk => some (.nx, st2)
      | .rt d => some (.rt d, st2)
      | .rtF d => some (.rtF d, st2)) = some (o, st') := e2
    obtain ⟨st3, h3, e3⟩ := bind_some2 e2'
    obtain ⟨⟨o4, st4⟩, h4, e4⟩ := bind_some2 e3
    dsimp only at e4
    obtain ⟨wg, wy⟩ := w1 i d hd
    refine .inr ⟨wg, fun σ H => ∃ Hf' st2, Sub Hf1 Hf' ∧ Cor L Hf' st2 σ H ∧ runFor t m (ds.drop (i + 1)) st2 = some (o, st'), fun σ' H' w => ⟨ds.length - (i + 1), by omega, rfl, hlt, w⟩, fun x H' y => ?_⟩
    obtain ⟨Hf3, s3, c3, r3⟩ := (wy x H' y).laid c2
    refine ⟨L, Hf3, st2, d, st3, c3, r3, h3, fun σ5 H5 Hf5 s5 c5 _ _ => ?_⟩
    refine ⟨L, Hf5, st3, o4, st4, c5, h4, fun σ6 H6 Hf6 s6 c6 => ?_⟩
    have sA := ((s2.trans s3).trans s5).trans s6
    cases o4 with
    | nx => exact ⟨Hf6, st4, sA, c6, e4⟩
    | ct => exact ⟨Hf6, st4, sA, c6, e4⟩
    | bk => cases e4; exact k σ6 H6 Hf6 (s1.trans sA) c6
    | rt d => cases e4; exact k σ6 H6 Hf6 (s1.trans sA) c6
    | rtF d => cases e4; exact k σ6 H6 Hf6 (s1.trans sA) c6
  · have e0 : i = ds.length := by omega
    subst e0
    rw [List.drop_length] at e2
    cases e2
    exact .inl ⟨w2, k σ2 H2 Hf2 (s1.trans s2) c2⟩
end
end NV
set_option Elab.async false
set_option linter.all false
set_option maxRecDepth 100000
set_option maxHeartbeats 4000000
/-! NV7: comprehensions; list(range(..)), tuple(range(..)) -/
namespace NV
open PySem PySem.Spec PyProof.Rows L2

/-! ### the slots of a comprehension's block -/
/-- the slots emptied -/
def clr (vs : List Nat) (st : Sta) : Sta := ⟨fun j => if j ∈ vs then .emp else st.e j, st.z⟩
/-- .. and as they were -/
def unclr (vs : List Nat) (st0 st : Sta) : Sta := ⟨fun j => if j ∈ vs then st0.e j else st.e j, st.z⟩
@[simp] def slFree : Sl → Bool
  | .emp => true
  | .val _ => true
  | _ => false
theorem clr_in {vs : List Nat} {st : Sta} {j : Nat} (h : j ∈ vs) : (clr vs st).e j = .emp := if_pos h
theorem clr_out {vs : List Nat} {st : Sta} {j : Nat} (h : j ∉ vs) : (clr vs st).e j = st.e j := if_neg h
theorem clr_own {vs : List Nat} {st : Sta} {j : Nat} (h : ((clr vs st).e j).isOwn) : j ∉ vs ∧ (st.e j).isOwn := by
  by_cases hj : j ∈ vs
  · rw [clr_in hj] at h; exact h.elim
  · rw [clr_out hj] at h; exact ⟨hj, h⟩
theorem SlOk.at {L : Lay} {Hf : Hp} {zs : Bool} {σ σ' : SS} {H : Hp} {i : Nat} {x : Sl} (h : SlOk L Hf zs σ H i x) (e : σ'[i]? = σ[i]?) : SlOk L Hf zs σ' H i x := by
  cases x with
  | emp => trivial
  | val d => obtain ⟨v, e1, r⟩ := h; exact ⟨v, e.trans e1, r⟩
  | own ds => obtain ⟨a, vs, e1, r⟩ := h; exact ⟨a, vs, e.trans e1, r⟩
  | src => exact ⟨e.trans h.1, h.2⟩
/-- emptied slots: the places may hold anything -/
theorem Cor.clr {L : Lay} {Hf : Hp} {st : Sta} {σ σ' : SS} {H : Hp} {vs : List Nat} (c : Cor L Hf st σ H) (h : ∀ j, j ∉ vs → σ'[j]? = σ[j]?) : Cor L Hf (clr vs st) σ' H where
  le := c.le
  pr := c.pr
  sl := fun j => by
    by_cases hj : j ∈ vs
    · rw [clr_in hj]; trivial
    · rw [clr_out hj]; exact (c.sl j).at (h j hj)
  dj := fun j k a h1 h2 e1 e2 => by
    obtain ⟨n1, o1⟩ := clr_own h1
    obtain ⟨n2, o2⟩ := clr_own h2
    rw [h j n1] at e1
    rw [h k n2] at e2
    exact c.dj j k a o1 o2 e1 e2
  so := c.so
theorem Cor.unclr {L : Lay} {Hf0 Hf : Hp} {st0 st : Sta} {σ σ' : SS} {H0 H : Hp} {vs : List Nat} (c : Cor L Hf st σ' H) (c0 : Cor L Hf0 st0 σ H0) (s : Sub Hf0 Hf) (h : ∀ j, j ∉ vs → σ'[j]? = σ[j]?) (hf : ∀ j ∈ vs, slFree (st0.e j) = true) : Cor L Hf (unclr vs st0 st) σ H where
  le := c.le
  pr := c.pr
  sl := fun j => by
    by_cases hj : j ∈ vs
    · rw [show (NV.unclr vs st0 st).e j = st0.e j from if_pos hj]
      have q := c0.sl j
      have f := hf j hj
      cases z : st0.e j with
      | emp => trivial
      | val d =>
        rw [z] at q
        obtain ⟨v, e1, r⟩ := q
        exact ⟨v, e1, r.up s⟩
      | own ds => rw [z] at f; cases f
      | src => rw [z] at f; cases f
    · rw [show (NV.unclr vs st0 st).e j = st.e j from if_neg hj]
      exact (c.sl j).at (h j hj).symm
  dj := fun j k a h1 h2 e1 e2 => by
    have t : ∀ j, ((NV.unclr vs st0 st).e j).isOwn → j ∉ vs ∧ (st.e j).isOwn := fun j hj => by
      by_cases hv : j ∈ vs
      · rw [show (NV.unclr vs st0 st).e j = st0.e j from if_pos hv] at hj
        have f := hf j hv
        cases z : st0.e j with
        | emp => rw [z] at hj; exact hj.elim
        | val d => rw [z] at hj; exact hj.elim
        | own ds => rw [z] at f; cases f
        | src => rw [z] at f; cases f
      · rw [show (NV.unclr vs st0 st).e j = st.e j from if_neg hv] at hj
        exact ⟨hv, hj⟩
    obtain ⟨n1, o1⟩ := t j h1
    obtain ⟨n2, o2⟩ := t k h2
    rw [← h j n1] at e1
    rw [← h k n2] at e2
    exact c.dj j k a o1 o2 e1 e2
  so := c.so

theorem unclr_own {vs : List Nat} {st0 st : Sta} (hf : ∀ j ∈ vs, slFree (st0.e j) = true) {j : Nat} (hj : ((unclr vs st0 st).e j).isOwn) : j ∉ vs ∧ (st.e j).isOwn := by
  by_cases hv : j ∈ vs
  · rw [show (NV.unclr vs st0 st).e j = st0.e j from if_pos hv] at hj
    have f := hf j hv
    cases z : st0.e j with
    | emp => rw [z] at hj; exact hj.elim
    | val d => rw [z] at hj; exact hj.elim
    | own ds => rw [z] at f; cases f
    | src => rw [z] at f; cases f
  · rw [show (NV.unclr vs st0 st).e j = st.e j from if_neg hv] at hj
    exact ⟨hv, hj⟩

/-! ### one clause -/
def runC (vs : List Nat) (t : MG) (tt : MT) (el : M) : List PyData → Sta → List PyData → Option (List PyData × Sta)
  | [], st, acc => some (acc, st)
  | d :: ds, st, acc => (t d st).bind fun st1 => (tt st1).bind fun (b, st2) => if b = true then (el st2).bind fun (r, st3) => (esc st3 r).bind fun (e, st4) => if acc.length < sizeLine then runC vs t tt el ds (clr vs st4) (acc ++ [e]) else none
      else runC vs t tt el ds (clr vs st2) acc
@[simp] def mComp (vs : List Nat) (t : MG) (it : ME) (tt : MT) (el : M) : M := fun st => (it st).bind fun (ds, st1) => if vs.all (fun j => slFree (st1.e j)) = true then (runC vs t tt el ds (clr vs st1) []).map fun (acc, st2) => (.fre acc, unclr vs st1 st2) else none
@[simp] def tYesM : MT := fun st => some (true, st)
def TVs (X : Cx) (ifs : List Expr) (m : MT) : Prop := PTs X ifs (rdT m)
theorem tvs_nil {X : Cx} : TVs X [] tYesM := ⟨fun pins s σ H Q I ⟨L, Hf, st, b, st', c, e, k⟩ => by
  cases e
  exact (pts_nil (X := X)).run pins s σ H Q I (k H Hf Sub.refl c)⟩
theorem tvs_one {X : Cx} {c : Expr} {m : MT} (h : TV X c m) : TVs X [c] m := pts_one h
theorem wipe_at {σ : SS} {vs : List Nat} {j : Nat} (h : j ∉ vs) : (wipe σ vs)[j]? = σ[j]? := wipe_out h
theorem wipe_in {σ : SS} : ∀ {vs : List Nat} {j : Nat}, j ∈ vs → j < σ.length → (wipe σ vs)[j]? = some none
  | [], _, h, _ => nomatch h
  | v :: vs, j, h, hl => by
    unfold wipe
    by_cases e : v = j
    · subst e; exact List.getElem?_set_self (by rw [wipe_length]; exact hl)
    · rw [List.getElem?_set_ne e]
      rcases List.mem_cons.mp h with z | z
      · exact absurd z.symm e
      · exact wipe_in z hl
theorem wipe_eq {σ σ' : SS} {vs : List Nat} (hl : σ'.length = σ.length) (h : ∀ j, j ∉ vs → σ'[j]? = (wipe σ vs)[j]?) : wipe σ' vs = wipe σ vs := by
  apply List.ext_getElem?
  intro j
  by_cases hj : j ∈ vs
  · by_cases hn : j < σ.length
    · rw [wipe_in hj hn, wipe_in hj (by rw [hl]; exact hn)]
    · rw [List.getElem?_eq_none (by rw [wipe_length]; omega), List.getElem?_eq_none (by rw [wipe_length]; omega)]
  · rw [wipe_out hj]; exact h j hj
/-- a comprehension's reading, from its run -/
theorem comp_use {vs : List Nat} {t : MG} {is : List Nat} {it : ME} {tt : MT} {el : M} {L : Lay} {Hf : Hp} {st st' : Sta} {σ : SS} {H : Hp} {r : R} {Q : VK} (his : ∀ j ∈ is, j ∈ vs) (c : Cor L Hf st σ H) (e : mComp vs t it tt el st = some (r, st')) (k : After L Hf st' σ r Q) :
    tLc (rdI it) (rdG t is) (rdT tt) (rdE el) vs σ H Q := by
  unfold mComp at e
  obtain ⟨⟨ds, st1⟩, h1, e⟩ := bind_some2 e
  dsimp only at e
  split at e
  · rename_i hfr
    obtain ⟨⟨res, st2⟩, h2, e⟩ := map_some2 e
    cases e
    have hfr' : ∀ j ∈ vs, slFree (st1.e j) = true := fun j hj => List.all_eq_true.mp hfr j hj
    refine ⟨L, Hf, st, ds, st1, c, h1, fun J H1 Hf1 s1 c1 wk D hD => ?_⟩
    have fD := c1.free_new hD
    have hw : ∀ j, j ∉ vs → (wipe σ vs)[j]? = σ[j]? := fun j hj => wipe_out hj
    refine ⟨fun i n H => n = ds.length - i ∧ i ≤ ds.length ∧ ∃ Hf' st3 acc av, Sub Hf1 Hf' ∧ Cor (L.keep D (.lst av)) Hf' st3 (wipe σ vs) H ∧ RpL Hf' av acc ∧ runC vs t tt el (ds.drop i) st3 acc = some (res, st2), ?_, ?_⟩
    · refine ⟨ds.length, by simp, Nat.zero_le _, Hf1, clr vs st1, [], [], Sub.refl, ?_, .nil, h2⟩
      have cl := c1.laid (o := .lst []) hD
      have fD' : Free L Hf1 st1 σ D := fD
      exact (cl.keep fD' upd_same).clr hw
    · rintro i n H2 ⟨rfl, hi, Hf2, st3, acc, av, s2, c2, ra, e2⟩
      obtain ⟨w1, w2⟩ := wk Hf2 H2 s2 c2.le
      by_cases hlt : i < ds.length
      · obtain ⟨d, hd, hdr⟩ := drop_at hlt
        rw [hdr] at e2
        have e2' : ((t d st3).bind fun st1 => (tt st1).bind fun (b, st2) => if b = true then (el st2).bind fun (r, st3) => (esc st3 r).bind fun (e, st4) => if acc.length < sizeLine then runC vs t tt el (ds.drop (i + 1)) (clr vs st4) (acc ++ [e]) else none
          else runC vs t tt el (ds.drop (i + 1)) (clr vs st2) acc) = some (res, st2) := e2
        obtain ⟨st4, h4, e4⟩ := bind_some2 e2'
        obtain ⟨⟨b, st5⟩, h5, e5⟩ := bind_some2 e4
        dsimp only at e5
        obtain ⟨wg, wy⟩ := w1 i d hd
        have nx : Hp → Prop := fun H => True
        refine .inr ⟨wg, fun H => ∃ Hf' st3 acc av, Sub Hf1 Hf' ∧ Cor (L.keep D (.lst av)) Hf' st3 (wipe σ vs) H ∧ RpL Hf' av acc ∧ runC vs t tt el (ds.drop (i + 1)) st3 acc = some (res, st2), fun H' w => ⟨ds.length - (i + 1), by omega, rfl, hlt, w⟩, fun x H' y => ?_⟩
        obtain ⟨Hf3, s3, c3, r3⟩ := (wy x H' y).laid c2
        refine ⟨L.keep D (.lst av), Hf3, st3, d, st4, c3, r3, h4, fun σ5 H5 Hf5 s5 c5 o5 l5 => ⟨wipe_eq (l5.trans (wipe_length σ vs)) fun j hj => o5 j fun z => hj (his j z), ?_⟩⟩
        have back : ∀ j, j ∉ vs → (wipe σ vs)[j]? = σ5[j]? := fun j hj => (o5 j fun z => hj (his j z)).symm
        refine rdT.use c5 h5 fun H6 Hf6 s6 c6 => ?_
        have sA := ((s2.trans s3).trans s5).trans s6
        cases b with
        | false =>
          simp only [Bool.false_eq_true, if_false] at e5 ⊢
          exact ⟨Hf6, _, acc, av, sA, c6.clr back, ra.up ((s3.trans s5).trans s6), e5⟩
        | true =>
          rw [if_pos rfl] at e5 ⊢
          obtain ⟨⟨r7, st7⟩, h7, e7⟩ := bind_some2 e5
          obtain ⟨⟨d8, st8⟩, h8, e9⟩ := bind_some2 e7
          dsimp only at e9
          split at e9
          · rename_i hz
            refine ev_use c6 h7 fun v H7 Hf7 s7 c7 q7 => ?_
            obtain ⟨Hf8, s8, c8, r8⟩ := esc_ok c7 q7 h8
            refine ⟨av, (c8.pr D _ upd_same).1, by rw [ra.length]; exact hz, Hf8, _, acc ++ [d8], av ++ [v], sA.trans (s7.trans s8), ?_, (ra.up (((s3.trans s5).trans s6).trans (s7.trans s8))).app (.cons r8 .nil), e9⟩
            exact c8.rekeep.clr back
          · cases e9
      · have e0 : i = ds.length := by omega
        subst e0
        rw [List.drop_length] at e2
        cases e2
        refine .inl ⟨w2, ?_⟩
        obtain ⟨c3, e3, f3⟩ := c2.unkeep fD.2.1
        have c4 := c3.unclr c1 s2 hw hfr'
        refine k _ H2 Hf2 (s1.trans s2) c4 ⟨D, av, rfl, e3, ra, f3.1, f3.2.1, f3.2.2.1, fun j hj e => ?_⟩
        obtain ⟨n1, o1⟩ := unclr_own hfr' hj
        exact f3.2.2.2 j o1 (by rw [hw j n1]; exact e)
  · cases e
section
variable {X : Cx} {ea eb ec tg elt iter : Expr} {a b : M} {pos p : Pos}
theorem ev_comp {ifs : List Expr} {scope : Scope} {own : List (Str × Nat)} {vs : List Nat} {t : MG} {is : List Nat} {it : ME} {tt : MT} {el : M} (g : Gd X) (hi : IV X tg iter it) (ok : BlkOk X.N X.env.scope scope own) (hvs : own.map (·.2) = vs) (his : ∀ j ∈ is, j ∈ vs)
    (hg : ∀ (s : Shared) (H : Hp) (C : Addr) (cl : List (Str × Addr)) (fp : List Addr), GV (X.blk s H scope (compEnvC scope cl C X.env) fp) tg t is) (ht : ∀ (s : Shared) (H : Hp) (C : Addr) (cl : List (Str × Addr)) (fp : List Addr), TVs (X.blk s H scope (compEnvC scope cl C X.env) fp) ifs tt)
    (he : ∀ (s : Shared) (H : Hp) (C : Addr) (cl : List (Str × Addr)) (fp : List Addr), EV (X.blk s H scope (compEnvC scope cl C X.env) fp) elt el) (hs : ∀ x, foldedSetIterable iter X.env x = pure x := by intro _; rfl) :
    EV X (.ListComp elt [⟨tg, iter, ifs, 0⟩] scope pos) (mComp vs t it tt el) :=
  ev_of fun L Hf st r st' σ H Q c e k => ⟨_, pe_lc g.calm g.nd hi ok hg ht he hs, by rw [hvs]; exact comp_use his c e k⟩
/-- x = [..], x a plain local, on one line -/
theorem sv_asgLc {i : Nat} {y : Str} {py spos : Pos} {ifs : List Expr} {scope : Scope} {own : List (Str × Nat)} {vs : List Nat} {t : MG} {is : List Nat} {it : ME} {tt : MT} {el : M} (g : Gd X) (hy : X.N[i]? = some y) (hyl : X.env.scope.names.lookup y = some .local)
    (hsw : swapsWith (.ListComp elt [⟨tg, iter, ifs, 0⟩] scope pos) (some (.Name y py)) spos.line X.env = pure true) (hi : IV X tg iter it) (ok : BlkOk X.N X.env.scope scope own) (hvs : own.map (·.2) = vs) (his : ∀ j ∈ is, j ∈ vs)
    (hg : ∀ (s : Shared) (H : Hp) (C : Addr) (cl : List (Str × Addr)) (fp : List Addr), GV (X.blk s H scope (compEnvC scope cl C X.env) fp) tg t is) (ht : ∀ (s : Shared) (H : Hp) (C : Addr) (cl : List (Str × Addr)) (fp : List Addr), TVs (X.blk s H scope (compEnvC scope cl C X.env) fp) ifs tt)
    (he : ∀ (s : Shared) (H : Hp) (C : Addr) (cl : List (Str × Addr)) (fp : List Addr), EV (X.blk s H scope (compEnvC scope cl C X.env) fp) elt el) (hs : ∀ x, foldedSetIterable iter X.env x = pure x := by intro _; rfl) :
    SV X (.Assign [.Name y py] (.ListComp elt [⟨tg, iter, ifs, 0⟩] scope pos) spos) (sAsg i (mComp vs t it tt el)) := by
  refine sv_of fun L Hf st o st' σ H D hl c e k => ⟨_, ps_setLc g.calm g.nd hy hyl hsw hi ok hg ht he hs, ?_⟩
  unfold sAsg at e
  obtain ⟨⟨r, st1⟩, h1, e⟩ := bind_some2 e
  obtain ⟨st2, h2, e⟩ := map_some2 e
  cases e
  show tLc _ _ _ _ _ σ H _
  rw [hvs]
  exact comp_use his c h1 (asg_use (by rw [hl]; exact lt_of_get hy) h2 k)

/-! ### list(range(..)), tuple(range(..)) -/
noncomputable def RgS (lo hi : Int) : Bool := decide (Safe (-(2 ^ 62) ≤ lo ∧ lo < 2 ^ 62 ∧ -(2 ^ 62) ≤ hi ∧ hi < 2 ^ 62 ∧ (hi - lo).toNat ≤ 2 ^ 24))
theorem RgS.ok {lo hi : Int} (h : RgS lo hi = true) : RgOk lo hi := by
  have h' : Safe _ := of_decide_eq_true h
  exact h'
theorem rgV_rp {Hf : Hp} (lo hi : Int) : RpL Hf (rgV lo hi) (rgD lo (hi - lo).toNat) := by
  unfold rgV rgD
  generalize (hi - lo).toNat = n
  induction n with
  | zero => exact .nil
  | succ n ih =>
    rw [List.range_succ, List.map_append, List.map_append]
    exact ih.app (.cons (.int _) .nil)
abbrev MR := Sta → Option ((Int × Int) × Sta)
def rdR (m : MR) : SS → Hp → (Int → Int → Hp → Prop) → Prop := fun σ H Q => ∃ L Hf st lo hi st', Cor L Hf st σ H ∧ m st = some ((lo, hi), st') ∧ ∀ H' Hf', Sub Hf Hf' → Cor L Hf' st' σ H' → Q lo hi H'
def rRg1 (a : M) : MR := fun st => (mInt a st).map fun (j, st1) => ((0, j), st1)
def rRg2 (a b : M) : MR := fun st => (mInt a st).bind fun (i, st1) => (mInt b st1).map fun (j, st2) => ((i, j), st2)
theorem rv_1 (hg : Gl X "range") (hm : X.mg "range" = none) (ha : EV X ea a) (na : starEach [ea] X.env = (false, eval ea X.env) :: starEach [] X.env := by rfl) : PRg X (.Call (.Name "range" p) [ea] [] pos) (rdR (rRg1 a)) := by
  intro pins s σ H Q I ⟨L, Hf, st, lo, hi, st', c, e, k⟩
  unfold rRg1 at e
  obtain ⟨⟨j, st1⟩, h1, e⟩ := map_some2 e
  cases e
  refine prg_1 hg hm ha na pins s σ H Q I ?_
  exact ev_use c (mInt_some h1) fun v H' Hf' s' c' q => by cases q; exact ⟨_, rfl, k _ _ s' c'⟩
theorem rv_2 (hg : Gl X "range") (hm : X.mg "range" = none) (ha : EV X ea a) (hb : EV X eb b) (na : starEach [ea, eb] X.env = (false, eval ea X.env) :: starEach [eb] X.env := by rfl) (nb : starEach [eb] X.env = (false, eval eb X.env) :: starEach [] X.env := by rfl) (hp : (backTo pos (starEach [eb] X.env)).any (·.1) = false := by rfl) : PRg X (.Call (.Name "range" p) [ea, eb] [] pos) (rdR (rRg2 a b)) := by
  intro pins s σ H Q I ⟨L, Hf, st, lo, hi, st', c, e, k⟩
  unfold rRg2 at e
  obtain ⟨⟨i, st1⟩, h1, e⟩ := bind_some2 e
  obtain ⟨⟨j, st2⟩, h2, e⟩ := map_some2 e
  cases e
  refine prg_2 hg hm ha hb na nb hp pins s σ H Q I ?_
  exact ev_use c (mInt_some h1) fun v H' Hf' s' c' q => by
    cases q
    exact ev_use c' (mInt_some h2) fun v H'' Hf'' s'' c'' q => by cases q; exact ⟨_, _, rfl, rfl, k _ _ (s'.trans s'') c''⟩
noncomputable def mListRg (m : MR) : M := fun st => (m st).bind fun ((lo, hi), st1) => if RgS lo hi = true then some (.fre (rgD lo (hi - lo).toNat), st1) else none
noncomputable def mTupRg (m : MR) : M := fun st => (m st).bind fun ((lo, hi), st1) => if RgS lo hi = true then some (.dat (.tuple (rgD lo (hi - lo).toNat)), st1) else none
theorem ev_listRg {m : MR} (g : Gd X) (hg : Gl X "list") (hm : X.mg "list" = none) (he : PRg X ea (rdR m)) (na : starEach [ea] X.env = (false, eval ea X.env) :: starEach [] X.env := by rfl) : EV X (.Call (.Name "list" p) [ea] [] pos) (mListRg m) := by
  refine ev_of fun L Hf st r st' σ H Q c e k => ⟨_, pe_listRg g.calm hg hm he na, ?_⟩
  unfold mListRg at e
  obtain ⟨⟨⟨lo, hi⟩, st1⟩, h1, e⟩ := bind_some2 e
  dsimp only at e
  split at e
  · rename_i hr
    cases e
    exact ⟨L, Hf, st, lo, hi, _, c, h1, fun H' Hf' s' c' => ⟨RgS.ok hr, fun q hq => (Grow.lst hq (rgV_rp lo hi)).after c' (k.sub s')⟩⟩
  · cases e
theorem ev_tupRg {m : MR} (g : Gd X) (hg : Gl X "tuple") (hm : X.mg "tuple" = none) (he : PRg X ea (rdR m)) (na : starEach [ea] X.env = (false, eval ea X.env) :: starEach [] X.env := by rfl) : EV X (.Call (.Name "tuple" p) [ea] [] pos) (mTupRg m) := by
  refine ev_of fun L Hf st r st' σ H Q c e k => ⟨_, pe_tupRg g.calm hg hm he na, ?_⟩
  unfold mTupRg at e
  obtain ⟨⟨⟨lo, hi⟩, st1⟩, h1, e⟩ := bind_some2 e
  dsimp only at e
  split at e
  · rename_i hr
    cases e
    exact ⟨L, Hf, st, lo, hi, _, c, h1, fun H' Hf' s' c' => ⟨RgS.ok hr, fun q hq => (Grow.tup hq (rgV_rp lo hi)).after c' (k.sub s')⟩⟩
  · cases e
end
end NV
set_option Elab.async false
set_option linter.all false
set_option maxRecDepth 100000
set_option maxHeartbeats 4000000
/-! NV8: what a def promises by data; calls; a def by its body -/
namespace NV
open PySem PySem.Spec PyProof.Rows L2

/-- a def's promise, where no repr runs around -/
structure FnG (P : Program) (w : World) (K : PySem.W.Frag) (mg : Str → Option Value) (base : Heap) (k : Nat) (f : Addr) (fd : FuncData) (ps : List Str) (sp : Sp) : Prop where
  len : ∀ vs H Q E, sp vs H Q E → vs.length = ps.length
  run : ∀ (A : Around) (outer : List Env) (s : Shared) (H : Hp) (args : Args) (us : List Value) (vs : List V) (Q : VK) (E : XK), Room k A → A.guards = some [] → Env0 P w K mg base A outer s H → BindsTo s fd args (ps.zip us) → Vals vs us → sp vs H Q E →
    codeAny (model P w) A (.call (.ref f) args) (CR CX0 outer P w H s Q E) s
theorem FnG.mono {P : Program} {w : World} {K : PySem.W.Frag} {mg : Str → Option Value} {base : Heap} {j k : Nat} {f : Addr} {fd : FuncData} {ps : List Str} {sp : Sp} (F : FnG P w K mg base j f fd ps sp) (h : j ≤ k) : FnG P w K mg base k f fd ps sp :=
  ⟨F.len, fun A outer s H args us vs Q E hr => F.run A outer s H args us vs Q E (hr.mono h)⟩
/-- a def by its body -/
theorem fnG_of {P : Program} {w : World} {K : PySem.W.Frag} {mg : Str → Option Value} {base : Heap} {k : Nat} {f : Addr} {name qual : Str} {params : Arguments} {body : List Stmt} {scope : Scope} {dV kV doc pm cdv ct oc : Value} {an od : Option Addr}
    {osl : Array (Option Value)} {N ps : List Str} {sp : Sp} (lk : K.lookup f = some ⟨oc, od, .func (PySem.W.fnOf name qual params body scope dV kV doc pm an cdv ct), osl⟩) (hcd : PySem.W.codeIn K cdv qual = true) (S : FnScope N ps scope)
    (len : ∀ vs H Q E, sp vs H Q E → vs.length = ps.length)
    (hbody : ∀ (A : Around) (outer : List Env) (s : Shared) (H : Hp) (vs : List V) (Q : VK) (E : XK), Room k (A.deeper (envOfC qual scope s.heap.objs.size f cdv)) → A.guards = some [] → sp vs H Q E →
      ∃ t, PSs (cxOf CX0 P w K mg base N qual scope f cdv A outer s H E).nox body t ∧ t { nx := fun _ H' => Q .non H', rt := Q } (start N vs) H) :
    FnG P w K mg base (k + 1) f (PySem.W.fnOf name qual params body scope dV kV doc pm an cdv ct) ps sp := by
  refine ⟨len, fun A outer s H args us vs Q E hr hgu e0 hb r hsp => ?_⟩
  have hl := len _ _ _ _ hsp
  have KX : K.In s.heap := e0.mod.kin.keeps fun b o e => (e0.bs b o e).1
  have lim : s.heap.NoLimit := e0.mod.nolimit.keeps fun b o e => (e0.bs b o e).1
  have hkind : ∀ y ∈ ps.zip us, scope.names.lookup y.1 = some .local ∨ (scope.names.lookup y.1 = some .cell ∧ ((cellsFrom (s.heap.objs.size + 1) scope.names []).lookup y.1).isSome = true) := fun ⟨n, v⟩ hy => by
    rcases S.par n (List.of_mem_zip hy).1 with q | q
    · exact .inl q
    · exact .inr ⟨q, PySem.W.cellsFrom_some _ _ _ (.inl q)⟩
  refine codeAny_call_function hr.depth (KX _ _ lk) rfl S.co S.gen rfl (PySem.W.codeRec_of KX hcd) (hb _ _ _ _ ?_)
  refine wpAny_newFunctionEnv_cells S.kind hkind fun env he s1 x => ?_
  subst he
  refine ⟨lim.keeps x.toInCall.keep, codeAny_func ?_⟩
  obtain ⟨t, ht0, hq⟩ := hbody A outer s H vs Q E (hr.deeper _) hgu hsp
  have ht := ht0.nox
  have I : Inv (cxOf CX0 P w K mg base N qual scope f cdv A outer s H E) [] (start N vs) H s1 := inv_start S hr.hd e0 hl r x
  refine wpAny_mono (ht.run [] s1 (start N vs) H _ I hq) (fun fl s' hs => ?_) fun e s' hs => hs
  have fin : ∀ {σ' : SS} {H' : Hp} {v : V} {u : Value}, Inv (cxOf CX0 P w K mg base N qual scope f cdv A outer s H E) [] σ' H' s' → RelV v u → Q v H' → CE outer P w H s Q u s' :=
    fun {σ' H' v u} J rv q => ⟨v, H', J.os, J.bare, J.base, J.hok, rv, q⟩
  cases fl with
  | ret u =>
    obtain ⟨v, σ', H', J, rv, q⟩ := hs
    exact fin J rv q
  | next =>
    obtain ⟨σ', H', J, q⟩ := hs
    exact fin (v := V.non) (u := Value.none) J rfl q
  | brk =>
    obtain ⟨_, _, _, q⟩ := hs
    exact False.elim q
  | cont =>
    obtain ⟨_, _, _, q⟩ := hs
    exact False.elim q
theorem fnG0 {P : Program} {w : World} {K : PySem.W.Frag} {mg : Str → Option Value} {base : Heap} {x qual : Str} {st : Stmt} {f : Addr} {fd : FuncData} {N ps : List Str} {k : Nat} {sp : Sp} (F : L2.Fun K x qual st f fd) (S : FnScope N ps (defScope st)) (len : ∀ vs H Q E, sp vs H Q E → vs.length = ps.length)
    (hbody : ∀ (cdv : Value) (A : Around) (outer : List Env) (s : Shared) (H : Hp) (vs : List V) (Q : VK) (E : XK), Room k (A.deeper (envOfC qual (defScope st) s.heap.objs.size f cdv)) → A.guards = some [] → sp vs H Q E →
      ∃ t, PSs (cxOf CX0 P w K mg base N qual (defScope st) f cdv A outer s H E).nox (defBody st) t ∧ t { nx := fun _ H' => Q .non H', rt := Q } (start N vs) H) : FnG P w K mg base (k + 1) f fd ps sp := by
  obtain ⟨oc, od, kV, doc, pm, an, cdv, ct, osl, rfl, lk, hcd⟩ := F.ex
  exact fnG_of lk hcd S len fun A outer s H vs Q E hr hg hsp => hbody cdv A outer s H vs Q E hr hg hsp

section
variable {X : Cx} {k : Nat} {f : Addr} {fd : FuncData} {ps : List Str} {sp : Sp} {ds : List Value} {x : Str} {p pos : Pos} {e : Expr} {es : List Expr} {t : TA}
theorem runG {pins : List (Addr × Obj)} {σ : SS} {H : Hp} {s : Shared} {Q : VK} {us : List Value} {vs : List V} (F : FnG X.prog X.w X.K X.mg X.base k f fd ps sp) (hr : Room k X.A) (hgu : X.A.guards = some []) (hb : Binds X.K fd ps [])
    (I : Inv X pins σ H s) (r : Vals vs us) (h : sp vs H Q E0) : wpAny (model X.prog X.w) X.A (call (.ref f) us) (EP X pins σ Q) X.xe s := by
  have hl : (us ++ []).length = ps.length := by rw [List.append_nil, ← r.length]; exact F.len _ _ _ _ h
  have hb' := hb s us I.kIn hl
  rw [List.append_nil] at hb'
  refine wpAny_call (codeAny_mono (F.run X.A X.stack s H ⟨us, []⟩ us vs Q E0 hr hgu I.env0 hb' r h) fun r s' hq => ?_)
  cases r with
  | error e => exact hq.elim
  | ok fl =>
    cases fl with
    | ret u => exact I.after hq
    | next => exact False.elim hq
    | brk => exact False.elim hq
    | cont => exact False.elim hq
theorem pe_callG (F : FnG X.prog X.w X.K X.mg X.base k f fd ps sp) (hr : Room k X.A) (hgu : X.A.guards = some []) (hg : Gl X x) (hm : X.mg x = some (.ref f)) (hk : PySem.W.keepIn X.K (.ref f) = true) (hb : Binds X.K fd ps [])
    (ha : PA X (e :: es) t) (hdb : (x == ("__debug__" : Str)) = false := by decide) (he : starEach (e :: es) X.env = (false, eval e X.env) :: starEach es X.env := by rfl) (hpl : (backTo pos (starEach es X.env)).any (·.1) = false := by rfl) :
    PE X (.Call (.Name x p) (e :: es) [] pos) (fun σ H Q => t σ H fun vs H1 => sp vs H1 Q E0) := by
  refine ⟨fun pins s σ H Q I h => ?_⟩
  refine wpAny_Call_Name_kw (ld_glob I hg hm ?_ hdb)
  refine PySem.W.callWith_K (h₀ := X.base) I.ok.mod.kin hk (thn (ha.run pos pins s σ H _ I h) fun us s1 ⟨vs, H1, I1, r, q⟩ => ⟨I1.kIn, ?_⟩) he hpl
  exact runG F hr hgu hb I1 r q
end

/-! ### promises by data -/
def RetOk (Hf' H H' : Hp) (v : V) : R → Prop
  | .dat d => Rp Hf' v d
  | .fre ds => ∃ a vs, v = .ref a ∧ H' a = some (.lst vs) ∧ RpL Hf' vs ds ∧ Hf' a = none ∧ H a = none
  | .slt _ => False
/-- a def that only reckons -/
def spP (n : Nat) (G : List PyData → Option R) : Sp := fun vs H Q _ => ∃ Hf ds r, vs.length = n ∧ Sub Hf H ∧ RpL Hf vs ds ∧ G ds = some r ∧
  ∀ v H' Hf', Sub Hf Hf' → Sub Hf' H' → (∀ a o, H a = some o → Hf a = none → H' a = some o ∧ Hf' a = none) → RetOk Hf' H H' v r → Q v H'
/-- a def that draws: the source is its first argument -/
def spS (n : Nat) (G : List PyData → Src → Option (R × Src)) : Sp := fun vs H Q _ => ∃ aD aC Hf z ws ds r z', vs.length = n ∧ vs = .ref aD :: ws ∧ Sub Hf H ∧ SrcAt ⟨aD, aC, fun _ => none⟩ z H ∧ Hf aD = none ∧ Hf aC = none ∧ RpL Hf ws ds ∧ G ds z = some (r, z') ∧
  ∀ v H' Hf', Sub Hf Hf' → Sub Hf' H' → SrcAt ⟨aD, aC, fun _ => none⟩ z' H' → Hf' aD = none → Hf' aC = none → (∀ a o, a ≠ aD → a ≠ aC → H a = some o → Hf a = none → H' a = some o ∧ Hf' a = none) → RetOk Hf' H H' v r → Q v H'
/-- what is known of a def by its name -/
structure CalG (P : Program) (w : World) (K : PySem.W.Frag) (mg : Str → Option Value) (base : Heap) (k : Nat) (x : Str) (sp : Sp) : Prop where
  ex : ∃ (f : Addr) (fd : FuncData) (ps : List Str), FnG P w K mg base k f fd ps sp ∧ mg x = some (.ref f) ∧ PySem.W.keepIn K (.ref f) = true ∧ Binds K fd ps []
theorem CalG.mono {P : Program} {w : World} {K : PySem.W.Frag} {mg : Str → Option Value} {base : Heap} {j k : Nat} {x : Str} {sp : Sp} (c : CalG P w K mg base j x sp) (h : j ≤ k) : CalG P w K mg base k x sp := by
  obtain ⟨f, fd, ps, F, r⟩ := c.ex
  exact ⟨f, fd, ps, F.mono h, r⟩
@[simp] def rOk : R → Bool
  | .slt _ => false
  | _ => true
@[simp] def mCall (G : List PyData → Option R) (m : ME) : M := fun st => (m st).bind fun (ds, st1) => (G ds).bind fun r => if rOk r = true then some (r, st1) else none
@[simp] def mCallS (i : Nat) (G : List PyData → Src → Option (R × Src)) (m : ME) : M := fun st => match st.e i with
  | .src => (m st).bind fun (ds, st1) => st1.z.bind fun z => (G ds z).bind fun (r, z') => if rOk r = true then some (r, ⟨st1.e, some z'⟩) else none
  | _ => none
/-- behind a call that kept all but (perhaps) the source -/
theorem Cor.called {L : Lay} {Hf Hf' : Hp} {st : Sta} {z' : Option Src} {σ : SS} {H H' : Hp} (c : Cor L Hf st σ H) (s : Sub Hf Hf') (s' : Sub Hf' H') (hz : z'.isSome = st.z.isSome)
    (fr : ∀ a o, (st.z.isSome = true → a ≠ L.aD ∧ a ≠ L.aC) → H a = some o → Hf a = none → H' a = some o ∧ Hf' a = none) (hs : ∀ z, z' = some z → SrcAt L z H' ∧ Hf' L.aD = none ∧ Hf' L.aC = none) : Cor L Hf' ⟨st.e, z'⟩ σ H' where
  le := s'
  pr := fun a o e => by
    obtain ⟨h1, h2⟩ := c.pr a o e
    refine fr a o (fun hz => ?_) h1 h2
    cases q : st.z with
    | none => rw [q] at hz; cases hz
    | some z =>
      obtain ⟨_, _, _, h4, h5⟩ := c.so z q
      exact ⟨fun w => (by rw [w, h4] at e; cases e), fun w => (by rw [w, h5] at e; cases e)⟩
  sl := fun i => by
    have q := c.sl i
    show SlOk L Hf' z'.isSome σ H' i (st.e i)
    rw [hz]
    cases z : st.e i with
    | emp => trivial
    | val d => rw [z] at q; obtain ⟨v, e, r⟩ := q; exact ⟨v, e, r.up s⟩
    | src => rw [z] at q; exact q
    | own ds =>
      rw [z] at q
      obtain ⟨a, vs, e1, ea, r, n, p, w⟩ := q
      obtain ⟨h1, h2⟩ := fr a _ w ea n
      exact ⟨a, vs, e1, h1, r.up s, h2, p, w⟩
  dj := c.dj
  so := fun z hz' => by
    obtain ⟨h1, h2, h3⟩ := hs z hz'
    have hz2 : st.z.isSome = true := by rw [← hz, show z' = some z from hz']; rfl
    cases q : st.z with
    | none => rw [q] at hz2; cases hz2
    | some z0 =>
      obtain ⟨_, _, _, h4, h5⟩ := c.so z0 q
      exact ⟨h1, h2, h3, h4, h5⟩
theorem RetOk.res {L : Lay} {Hf' : Hp} {st : Sta} {z' : Option Src} {σ : SS} {H H' : Hp} {Hf : Hp} {v : V} {r : R} (c : Cor L Hf st σ H) (h : RetOk Hf' H H' v r) (hz : z'.isSome = st.z.isSome) : ResOk L Hf' ⟨st.e, z'⟩ σ H' v r := by
  cases r with
  | dat d => exact h
  | slt i => exact h.elim
  | fre ds =>
    obtain ⟨a, vs, rfl, ea, r, n, hn⟩ := h
    have f := c.free_new hn
    exact ⟨a, vs, rfl, ea, r, n, f.2.1, fun z => f.2.2.1 (by rw [← hz]; exact z), f.2.2.2⟩
section
variable {X : Cx} {k : Nat} {x y : Str} {p p2 pos : Pos} {e : Expr} {es : List Expr} {m : ME} {n : Nat}
theorem FV.len {Y : Cx} : ∀ {es : List Expr} {m : ME}, True := fun {_ _} => trivial
theorem ev_call {G : List PyData → Option R} (C : CalG X.prog X.w X.K X.mg X.base k x (spP n G)) (g : Gd X) (hr : Room k X.A) (hg : Gl X x) (ha : FV X (e :: es) m) (hlen : ∀ ds r, G ds = some r → ds.length = n) (hdb : (x == ("__debug__" : Str)) = false := by decide)
    (he : starEach (e :: es) X.env = (false, eval e X.env) :: starEach es X.env := by rfl) (hpl : (backTo pos (starEach es X.env)).any (·.1) = false := by rfl) : EV X (.Call (.Name x p) (e :: es) [] pos) (mCall G m) := by
  obtain ⟨f, fd, ps, F, hm, hk, hb⟩ := C.ex
  refine ev_of fun L Hf st r st' σ H Q c e1 k => ⟨_, pe_callG F hr g.gu hg hm hk hb ha hdb he hpl, ?_⟩
  unfold mCall at e1
  obtain ⟨⟨ds, st1⟩, h1, e1⟩ := bind_some2 e1
  obtain ⟨r', h2, e1⟩ := bind_some2 e1
  split at e1
  · cases e1
    refine ⟨L, Hf, st, ds, _, c, h1, fun vs H1 Hf1 s1 c1 q1 => ?_⟩
    refine ⟨Hf1, ds, _, by rw [q1.length]; exact hlen ds _ h2, c1.le, q1, h2, fun v H' Hf' s s' fr ro => ?_⟩
    refine k v H' Hf' (s1.trans s) (c1.called (z' := st'.z) s s' rfl (fun a o _ => fr a o) fun z hz => ?_) (ro.res c1 (z' := st'.z) rfl)
    obtain ⟨⟨g1, g2⟩, g3, g4, _⟩ := c1.so z hz
    obtain ⟨k1, k2⟩ := fr _ _ g1 g3
    obtain ⟨k3, k4⟩ := fr _ _ g2 g4
    exact ⟨⟨k1, k3⟩, k2, k4⟩
  · cases e1
theorem ev_callS {i : Nat} {G : List PyData → Src → Option (R × Src)} (C : CalG X.prog X.w X.K X.mg X.base k x (spS n G)) (g : Gd X) (hr : Room k X.A) (hg : Gl X x) (hi : X.N[i]? = some y) (hv : Vis X.env.scope y) (ha : FV X es m) (hlen : ∀ ds z r, G ds z = some r → ds.length + 1 = n)
    (hd : (y == ("__debug__" : Str)) = false := by decide) (hcd : (y == ("__classdict__" : Str)) = false := by decide) (hdb : (x == ("__debug__" : Str)) = false := by decide)
    (he : starEach (.Name y p2 :: es) X.env = (false, eval (.Name y p2) X.env) :: starEach es X.env := by rfl) (hpl : (backTo pos (starEach es X.env)).any (·.1) = false := by rfl) : EV X (.Call (.Name x p) (.Name y p2 :: es) [] pos) (mCallS i G m) := by
  obtain ⟨f, fd, ps, F, hm, hk, hb⟩ := C.ex
  refine ev_of fun L Hf st r st' σ H Q c e1 k => ⟨_, pe_callG F hr g.gu hg hm hk hb (pa_cons (pe_var hi hv hd hcd) ha he) hdb he hpl, ?_⟩
  unfold mCallS at e1
  split at e1
  · rename_i hsrc
    obtain ⟨⟨ds, st1⟩, h1, e1⟩ := bind_some2 e1
    dsimp only at e1
    obtain ⟨z, hz, e1⟩ := bind_some2 e1
    obtain ⟨⟨r', z'⟩, h2, e1⟩ := bind_some2 e1
    dsimp only at e1
    split at e1
    · cases e1
      have q := c.sl i
      rw [hsrc] at q
      refine ⟨_, q.1, L, Hf, st, ds, _, c, h1, fun vs H1 Hf1 s1 c1 q1 => ?_⟩
      obtain ⟨g1, g2, g3, _⟩ := c1.so z hz
      refine ⟨L.aD, L.aC, Hf1, z, vs, ds, _, z', by rw [List.length_cons, q1.length]; exact hlen ds z _ h2, rfl, c1.le, g1, g2, g3, q1, h2, fun v H' Hf' s s' sa n1 n2 fr ro => ?_⟩
      have hzz : (some z').isSome = st1.z.isSome := by rw [hz]; rfl
      refine k v H' Hf' (s1.trans s) (c1.called (z' := some z') s s' hzz (fun a o hne ho hn => ?_) fun z2 hz2 => ?_) (ro.res c1 hzz)
      · obtain ⟨m1, m2⟩ := hne (by rw [hz]; rfl)
        exact fr a o m1 m2 ho hn
      · cases hz2
        exact ⟨sa, n1, n2⟩
    · cases e1
  · cases e1
end

/-! ### a def by its body's run -/
def argE (ds : List PyData) : Nat → Sl := fun i => match ds[i]? with
  | some d => .val d
  | none => .emp
@[simp] def outR : Out → Option R
  | .nx => some (.dat .none)
  | .rt d => some (.dat d)
  | .rtF ds => some (.fre ds)
  | _ => none
theorem start_at {N : List Str} {vs : List V} {i : Nat} {v : V} (h : vs[i]? = some v) : (start N vs)[i]? = some (some v) := by
  unfold L2.start
  have hi := lt_of_get h
  rw [List.getElem?_append_left (by rw [List.length_map]; exact hi), List.getElem?_map, h]
  rfl
section
variable {P : Program} {w : World} {K : PySem.W.Frag} {mg : Str → Option Value} {base : Heap} {x qual : Str} {st : Stmt} {f : Addr} {fd : FuncData} {N ps : List Str} {k : Nat}
theorem gd_of {A : Around} {outer : List Env} {s : Shared} {H : Hp} {E : XK} {cdv : Value} {scope : Scope} (S : FnScope N ps scope) (hr : Room k (A.deeper (envOfC qual scope s.heap.objs.size f cdv))) (hgu : A.guards = some []) :
    Gd (cxOf CX0 P w K mg base N qual scope f cdv A outer s H E).nox := ⟨rfl, S.nd, by have := hr.un; show (A.deeper _).units + 150 < cLine; omega, hgu, rfl⟩
/-- the end of a body, for its caller -/
theorem end_ok {Hf0 H0 : Hp} {o : Out} {r : R} {L : Lay} {Hf' : Hp} {st' : Sta} {σ' : SS} {H' : Hp} {Q : VK} {D : Ends} (hD : D.nx = fun _ H' => Q .non H') (hD2 : D.rt = Q) (c : Cor L Hf' st' σ' H') (ho : outR o = some r) (hn : ∀ a, L.pr a = none → Hf' a = none → (st'.z.isSome = true → a ≠ L.aD ∧ a ≠ L.aC) → H0 a = none)
    (k : ∀ v, RetOk Hf' H0 H' v r → Q v H') : OutOk L Hf' st' σ' H' D o := by
  cases o with
  | nx =>
    cases ho
    show D.nx σ' H'
    rw [hD]; exact k _ .non
  | bk => cases ho
  | ct => cases ho
  | rt d =>
    cases ho
    intro v hv
    rw [hD2]; exact k v hv
  | rtF ds =>
    cases ho
    intro a vs e1 e2 e3 e4 e5
    rw [hD2]; exact k _ ⟨a, vs, rfl, e1, e2, e3, hn a e4 e3 e5⟩
theorem fnP {G : List PyData → Option R} {body : Nat → MS} (F : L2.Fun K x qual st f fd) (S : FnScope N ps (defScope st))
    (hG : ∀ ds r, G ds = some r → ∃ n o st', body n ⟨argE ds, none⟩ = some (o, st') ∧ outR o = some r)
    (hb : ∀ (cdv : Value) (A : Around) (outer : List Env) (s : Shared) (H : Hp) (E : XK), Room k (A.deeper (envOfC qual (defScope st) s.heap.objs.size f cdv)) → Gd (cxOf CX0 P w K mg base N qual (defScope st) f cdv A outer s H E).nox →
      ∀ n, BV (cxOf CX0 P w K mg base N qual (defScope st) f cdv A outer s H E).nox (defBody st) (body n)) : FnG P w K mg base (k + 1) f fd ps (spP ps.length G) := by
  refine fnG0 F S (fun vs H Q E h => ?_) fun cdv A outer s H vs Q E hr hgu h => ?_
  · obtain ⟨Hf, ds, r, hl, _⟩ := h
    exact hl
  · obtain ⟨Hf, ds, r, hl, s1, q, hg, kk⟩ := h
    obtain ⟨n, o, st', hrun, ho⟩ := hG ds r hg
    refine ⟨_, hb cdv A outer s H E hr (gd_of S hr hgu) n, ?_⟩
    have c0 : Cor ⟨0, 0, fun a => if Hf a = none then H a else none⟩ Hf ⟨argE ds, none⟩ (start N vs) H := by
      refine ⟨s1, fun a o e => ?_, fun i => ?_, fun i j a h1 => ?_, fun z hz => nomatch hz⟩
      · have e' : (if Hf a = none then H a else none) = some o := e
        by_cases hn : Hf a = none
        · rw [if_pos hn] at e'; exact ⟨e', hn⟩
        · rw [if_neg hn] at e'; cases e'
      · show SlOk _ _ _ _ _ i (argE ds i)
        unfold argE
        cases hd : ds[i]? with
        | none => trivial
        | some d =>
          obtain ⟨v, hv, rv⟩ := q.get hd
          exact ⟨v, start_at hv, rv⟩
      · exfalso
        have h1' : (argE ds i).isOwn := h1
        unfold argE at h1'
        cases hd : ds[i]? with
        | none => rw [hd] at h1'; exact h1'
        | some d => rw [hd] at h1'; exact h1'
    refine ⟨_, Hf, _, o, st', c0, hrun, fun σ' H' Hf' s' c' => ?_⟩
    refine end_ok (H0 := H) (Hf0 := Hf) rfl rfl c' ho (fun a e1 e2 _ => ?_) fun v ro => kk v H' Hf' s' c'.le (fun a o e hn => c'.pr a o (by show (if Hf a = none then H a else none) = some o; rw [if_pos hn]; exact e)) ro
    have e1' : (if Hf a = none then H a else none) = none := e1
    have hn : Hf a = none := s'.nil e2
    rw [if_pos hn] at e1'
    exact e1'
theorem fnS {G : List PyData → Src → Option (R × Src)} {body : Nat → MS} (F : L2.Fun K x qual st f fd) (S : FnScope N ps (defScope st))
    (hG : ∀ ds z r z', G ds z = some (r, z') → ∃ n o st', body n ⟨fun i => match i with | 0 => .src | i + 1 => argE ds i, some z⟩ = some (o, st') ∧ outR o = some r ∧ st'.z = some z')
    (hb : ∀ (cdv : Value) (A : Around) (outer : List Env) (s : Shared) (H : Hp) (E : XK), Room k (A.deeper (envOfC qual (defScope st) s.heap.objs.size f cdv)) → Gd (cxOf CX0 P w K mg base N qual (defScope st) f cdv A outer s H E).nox →
      ∀ n, BV (cxOf CX0 P w K mg base N qual (defScope st) f cdv A outer s H E).nox (defBody st) (body n)) : FnG P w K mg base (k + 1) f fd ps (spS ps.length G) := by
  refine fnG0 F S (fun vs H Q E h => ?_) fun cdv A outer s H vs Q E hr hgu h => ?_
  · obtain ⟨aD, aC, Hf, z, ws, ds, r, z', hl, _⟩ := h
    exact hl
  · obtain ⟨aD, aC, Hf, z, ws, ds, r, z', hl, rfl, s1, sa, n1, n2, q, hg, kk⟩ := h
    obtain ⟨n, o, st', hrun, ho, hz'⟩ := hG ds z r z' hg
    refine ⟨_, hb cdv A outer s H E hr (gd_of S hr hgu) n, ?_⟩
    have c0 : Cor ⟨aD, aC, fun a => if Hf a = none ∧ a ≠ aD ∧ a ≠ aC then H a else none⟩ Hf ⟨fun i => match i with | 0 => .src | i + 1 => argE ds i, some z⟩ (start N (.ref aD :: ws)) H := by
      refine ⟨s1, fun a o e => ?_, fun i => ?_, fun i j a h1 => ?_, fun z2 hz => ?_⟩
      · have e' : (if Hf a = none ∧ a ≠ aD ∧ a ≠ aC then H a else none) = some o := e
        by_cases hn : Hf a = none ∧ a ≠ aD ∧ a ≠ aC
        · rw [if_pos hn] at e'; exact ⟨e', hn.1⟩
        · rw [if_neg hn] at e'; cases e'
      · cases i with
        | zero => exact ⟨start_at rfl, rfl⟩
        | succ i =>
          show SlOk _ _ _ _ _ (i + 1) (argE ds i)
          unfold argE
          cases hd : ds[i]? with
          | none => trivial
          | some d =>
            obtain ⟨v, hv, rv⟩ := q.get hd
            exact ⟨v, start_at (by simpa using hv), rv⟩
      · exfalso
        cases i with
        | zero => exact h1
        | succ i =>
          have h1' : (argE ds i).isOwn := h1
          unfold argE at h1'
          cases hd : ds[i]? with
          | none => rw [hd] at h1'; exact h1'
          | some d => rw [hd] at h1'; exact h1'
      · cases hz
        exact ⟨sa, n1, n2, if_neg fun q => q.2.1 rfl, if_neg fun q => q.2.2 rfl⟩
    refine ⟨_, Hf, _, o, st', c0, hrun, fun σ' H' Hf' s' c' => ?_⟩
    obtain ⟨sa', m1, m2, _⟩ := c'.so z' hz'
    refine end_ok (H0 := H) (Hf0 := Hf) rfl rfl c' ho (fun a e1 e2 e3 => ?_) fun v ro => kk v H' Hf' s' c'.le sa' m1 m2 (fun a o d1 d2 e hn => c'.pr a o (by show (if Hf a = none ∧ a ≠ aD ∧ a ≠ aC then H a else none) = some o; rw [if_pos ⟨hn, d1, d2⟩]; exact e)) ro
    have e1' : (if Hf a = none ∧ a ≠ aD ∧ a ≠ aC then H a else none) = none := e1
    have hn : Hf a = none := s'.nil e2
    obtain ⟨d1, d2⟩ := e3 (by rw [hz']; rfl)
    rw [if_pos ⟨hn, d1, d2⟩] at e1'
    exact e1'
end
end NV
set_option Elab.async false
set_option linter.all false
set_option maxRecDepth 100000
set_option maxHeartbeats 4000000
/-! NV9: the source of a law's draws -/
namespace NV
open PySem PySem.Spec PyProof.Rows L2

theorem FnG.of {P : Program} {w : World} {K : PySem.W.Frag} {mg : Str → Option Value} {base : Heap} {k : Nat} {f : Addr} {fd : FuncData} {ps : List Str} {sp : Sp} (F : FnOk P w K mg base CX0 k f fd ps sp) : FnG P w K mg base k f fd ps sp :=
  ⟨F.len, fun A outer s H args us vs Q E hr _ => F.run A outer s H args us vs Q E hr⟩

/-! ### the source's dict -/
section
variable {L : Lay} {z : Src} {H : Hp}
abbrev kCells : Key := .inr "cells"
abbrev kLeft : Key := .inr "left"
abbrev kMixed : Key := .inr "mixed"
abbrev kTurn : Key := .inr "turn"
theorem val_cells : valV (srcKvs L z) kCells = some (.ref L.aC) := valV_pos rfl
theorem val_left : valV (srcKvs L z) kLeft = some (.int z.left) := by
  unfold srcKvs
  rw [valV_neg (show ¬ kCells = kLeft by decide +kernel), valV_pos rfl]
theorem val_mixed : valV (srcKvs L z) kMixed = some (.int z.mixed) := by
  unfold srcKvs
  rw [valV_neg (show ¬ kCells = kMixed by decide +kernel), valV_neg (show ¬ kLeft = kMixed by decide +kernel), valV_pos rfl]
theorem val_turn : valV (srcKvs L z) kTurn = some (.int z.turn) := by
  unfold srcKvs
  rw [valV_neg (show ¬ kCells = kTurn by decide +kernel), valV_neg (show ¬ kLeft = kTurn by decide +kernel), valV_neg (show ¬ kMixed = kTurn by decide +kernel), valV_pos rfl]
theorem put_left {v : Int} : putK (srcKvs L z) kLeft (.int v) = srcKvs L { z with left := v } := by
  unfold putK
  rw [if_pos (by rw [valV_any, val_left]; rfl)]
  rfl
theorem put_turn {v : Int} : putK (srcKvs L z) kTurn (.int v) = srcKvs L { z with turn := v } := by
  unfold putK
  rw [if_pos (by rw [valV_any, val_turn]; rfl)]
  rfl
theorem put_mixed {v : Int} : putK (srcKvs L z) kMixed (.int v) = srcKvs L { z with mixed := v } := by
  unfold putK
  rw [if_pos (by rw [valV_any, val_mixed]; rfl)]
  rfl
theorem SrcAt.ne (h : SrcAt L z H) : L.aC ≠ L.aD := ne_of h.2 h.1 (by intro q; cases q)
theorem SrcAt.get (h : SrcAt L z H) {k : Key} {v : V} (e : valV (srcKvs L z) k = some v) : DGet H L.aD (kV k) (some v) := by
  have q := DGet.k (k := k) h.1
  rw [e] at q
  exact q
/-- like H but at the source -/
def Elsewhere (L : Lay) (H H' : Hp) : Prop := ∀ a, a ≠ L.aD → a ≠ L.aC → H' a = H a
theorem SrcAt.put (h : SrcAt L z H) {k : Key} {v : Int} {z' : Src} (e : putK (srcKvs L z) k (.int v) = srcKvs L z') (ec : z'.cells = z.cells) : DPut H L.aD (kV k) (.int v) (upd H L.aD (.dK (srcKvs L z'))) ∧ SrcAt L z' (upd H L.aD (.dK (srcKvs L z'))) ∧ Elsewhere L H (upd H L.aD (.dK (srcKvs L z'))) := by
  refine ⟨?_, ⟨upd_same, ?_⟩, fun a h1 _ => upd_ne h1⟩
  · have q := DPut.k (k := k) (v := .int v) h.1 (by show 4 < sizeLine; decide)
    rw [e] at q
    exact q
  · rw [upd_ne h.ne, ec]; exact h.2
theorem SrcAt.pop (h : SrcAt L z H) : SrcAt L { z with cells := z.cells.dropLast } (upd H L.aC (.lst (z.cells.map V.int).dropLast)) ∧ Elsewhere L H (upd H L.aC (.lst (z.cells.map V.int).dropLast)) := by
  refine ⟨⟨?_, ?_⟩, fun a _ h2 => upd_ne h2⟩
  · rw [upd_ne h.ne.symm]; exact h.1
  · rw [upd_same, List.map_dropLast]
theorem Elsewhere.trans {H' H'' : Hp} (a : Elsewhere L H H') (b : Elsewhere L H' H'') : Elsewhere L H H'' := fun c h1 h2 => (b c h1 h2).trans (a c h1 h2)
theorem Elsewhere.refl : Elsewhere L H H := fun _ _ _ => rfl
end

theorem merge_src {L : Lay} {z : Src} : mergeK [] (srcKvs L z) = srcKvs L z := by
  have e1 : ¬ kCells = kLeft := by decide +kernel
  have e2 : ¬ kCells = kMixed := by decide +kernel
  have e3 : ¬ kLeft = kMixed := by decide +kernel
  have e4 : ¬ kCells = kTurn := by decide +kernel
  have e5 : ¬ kLeft = kTurn := by decide +kernel
  have e6 : ¬ kMixed = kTurn := by decide +kernel
  unfold mergeK srcKvs
  simp only [List.foldl_cons, List.foldl_nil]
  rw [putK_new (kvs := []) (k := kCells) _ rfl]
  rw [putK_new (k := kLeft) _ (by rw [List.nil_append, valV_neg e1]; rfl)]
  rw [putK_new (k := kMixed) _ (by show valV [_, _] _ = _; rw [valV_neg e2, valV_neg e3]; rfl)]
  rw [putK_new (k := kTurn) _ (by show valV [_, _, _] _ = _; rw [valV_neg e4, valV_neg e5, valV_neg e6]; rfl)]
  rfl

/-! ### a draw -/
def drainN : Nat → List Int → Int → List Int × Int
  | 0, cs, l => (cs, l)
  | n + 1, cs, l => if l < 2 ∧ 0 < cs.length then drainN n cs.dropLast (cs.getLastD 0) else (cs, l)
def pickN (most : Int) (z : Src) : Int × Src :=
  if most < 2 then (0, z) else
    let d := drainN z.cells.length z.cells z.left
    if 1 < d.2 then (d.2 % most, ⟨d.1, d.2 / most, z.mixed, z.turn⟩) else
      let lap := z.turn + 1
      let s1 := (z.mixed + lap * 104729) % 998244353
      let s2 := (s1 * s1 + lap * 17) % 2147483647
      (s2 / 16 % most, ⟨d.1, d.2, z.mixed, lap⟩)
theorem pickN_lo (most : Int) (z : Src) : 0 ≤ (pickN most z).1 := by
  unfold pickN
  split
  · exact Int.le_refl _
  · dsimp only
    split
    · exact Int.emod_nonneg _ (by omega)
    · exact Int.emod_nonneg _ (by omega)
theorem pickN_hi (most : Int) (z : Src) (h : 1 ≤ most) : (pickN most z).1 < most := by
  unfold pickN
  split
  · show 0 < most; omega
  · dsimp only
    split
    · exact Int.emod_lt_of_pos _ (by omega)
    · exact Int.emod_lt_of_pos _ (by omega)
theorem pickN_0 (most : Int) (z : Src) (h : most < 2) : (pickN most z).1 = 0 := by
  unfold pickN
  rw [if_pos h]
def pickG (ds : List PyData) (z : Src) : Option (R × Src) := match ds with
  | [.int most] => if most < 1073741824 then some (.dat (.int (pickN most z).1), (pickN most z).2) else none
  | _ => none
theorem pickG_len : ∀ ds z r, pickG ds z = some r → ds.length + 1 = 2 := by
  intro ds z r h
  unfold pickG at h
  split at h
  · rfl
  · cases h
/-- what a caller wants behind a draw, from the state behind it -/
theorem pick_end {aD aC : Addr} {Hf H H' : Hp} {z' : Src} {v : Int} {Q : VK} (s1 : Sub Hf H) (n1 : Hf aD = none) (n2 : Hf aC = none) (el : Elsewhere ⟨aD, aC, fun _ => none⟩ H H') (sa : SrcAt ⟨aD, aC, fun _ => none⟩ z' H')
    (kk : ∀ v' H' Hf', Sub Hf Hf' → Sub Hf' H' → SrcAt ⟨aD, aC, fun _ => none⟩ z' H' → Hf' aD = none → Hf' aC = none → (∀ a o, a ≠ aD → a ≠ aC → H a = some o → Hf a = none → H' a = some o ∧ Hf' a = none) → RetOk Hf' H H' v' (.dat (.int v)) → Q v' H') : Q (.int v) H' := by
  refine kk _ H' Hf Sub.refl (fun a o e => ?_) sa n1 n2 (fun a o h1 h2 e n => ⟨(el a h1 h2).trans e, n⟩) (.int v)
  have h1 : a ≠ aD := fun q => by rw [q, n1] at e; cases e
  have h2 : a ≠ aC := fun q => by rw [q, n2] at e; cases e
  exact (el a h1 h2).trans (s1 a o e)
theorem getLastD_at {cs : List Int} (h : 0 < cs.length) : (cs.map V.int)[(cs.map V.int).length - 1]? = some (.int (cs.getLastD 0)) := by
  rw [List.length_map, List.getElem?_map]
  cases cs with
  | nil => simp at h
  | cons c cs =>
    rw [List.getLastD_cons, List.getElem?_eq_getElem (by simp)]
    simp only [Option.map_some, Option.some.injEq, V.int.injEq]
    rw [← List.getLast_eq_getElem (List.cons_ne_nil c cs)]
    cases cs with
    | nil => rfl
    | cons d ds => rw [List.getLast_cons (List.cons_ne_nil d ds), List.getLastD_cons]; simp [List.getLast_eq_getLastD]

/-! ### the source at the start -/
def mixA (script : List Int) : Int := script.foldl (fun s c => (s * 69069 + c * 31 + 5) % 2147483629) 11
def openZ (script : List Int) : Src := ⟨(script.map fun c => if c < 0 then -c else c).reverse, 1, mixA script, 0⟩
/-- the promise of what opens the source -/
def spO (K : PySem.W.Frag) : Sp := fun vs H Q _ => ∃ (a : Addr) (ns : List Int), vs = [.ref a] ∧ SqL K H a (ns.map V.int) ∧ ns.length ≤ 63 ∧
  ∀ aD aC H', Sub H H' → H aD = none → H aC = none → SrcAt ⟨aD, aC, fun _ => none⟩ (openZ ns) H' → Q (.ref aD) H'
end NV
set_option Elab.async false
set_option linter.all false
set_option maxRecDepth 100000
set_option maxHeartbeats 4000000
/-! NV10: a law's def, its end -/
namespace NV
open PySem PySem.Spec PyProof.Rows L2

theorem law_callG {P : Program} {w : World} {K : PySem.W.Frag} {mg mb : Str → Option Value} {k : Nat} {fa a : Addr} {fd : FuncData} {x : Str} {sp : Sp} {s₁ : Shared} {vs : List Value} {ns : List Int}
    (KX : K.In s₁.heap) (hns : s₁.heap.Ns mainGlobals mg) (hb : s₁.heap.Ns builtinsNs mb) (hbb : ∀ x : Str, x ≠ "__name__" → mb x = bootBuiltins x) (hlim : s₁.heap.NoLimit) (hg : s₁.gens = #[])
    (ha : s₁.heap.get? a = some { cls := .type "list", data := .seq vs.toArray }) (hi : IntsAre vs ns) (hl : ns.length ≤ sizeLine) (hr : Room k callerA)
    (F : ∀ base : Heap, K.In base → base.Ns mainGlobals mg → FnG P w K mg base k fa fd [x] sp) (hbind : ∀ (s : Shared) (u : Value), BindsTo s fd ⟨[u], []⟩ [(x, u)])
    (hsp : ∀ H : Hp, Only H → SqL K H a (ns.map V.int) → sp [.ref a] H (fun v _ => v = .bl true) E0) :
    codeAny (model P w) callerA (.call (.ref fa) ⟨[.ref a], []⟩) (fun r s' => r = .ok (.ret (.bool true)) ∧ OldK s₁.heap s'.heap ∧ s'.os = s₁.os ∧ AllBare s'.gens) s₁ := by
  have rv := vals_ints hi
  have lenV := hi.length
  -- from an abstract heap in which nothing but the script may be tracked
  have core : ∀ H : Hp, Only H → SqL K H a (ns.map V.int) → HOk P w H s₁.heap → (∀ b, H b ≠ none → b = a) → (H a ≠ none → K.lookup a = none) →
      codeAny (model P w) callerA (.call (.ref fa) ⟨[.ref a], []⟩) (fun r s' => r = .ok (.ret (.bool true)) ∧ OldK s₁.heap s'.heap ∧ s'.os = s₁.os ∧ AllBare s'.gens) s₁ := by
    intro H hO hS hok hA hK
    have base_of : ∀ {b : Addr} {o : Obj}, s₁.heap.get? b = some o → H b = none → (hidT s₁.heap H).get? b = some o := fun e n => hidT_get e n
    have noA : ∀ {b : Addr} {o : Obj} {es : Array DictEntry} {ep : Nat}, s₁.heap.get? b = some o → o.data = .dict es ep → H b = none := fun {b o es ep} e d => by
      cases q : H b with
      | none => rfl
      | some u =>
        have e' : b = a := hA b (by rw [q]; simp)
        subst e'
        rw [ha] at e; cases e
        have d' : Data.seq vs.toArray _ = Data.dict es ep := d
        cases d'
    have nsK : ∀ {b : Addr} {m : Str → Option Value}, s₁.heap.Ns b m → (hidT s₁.heap H).Ns b m := fun {b m} ⟨o, es, ep, e, d, r⟩ => ⟨o, es, ep, base_of e (noA e d), d, r⟩
    have hKb : K.In (hidT s₁.heap H) := fun b o e => base_of (KX b o e) (by
      cases q : H b with
      | none => rfl
      | some u =>
        have e' : b = a := hA b (by rw [q]; simp)
        subst e'
        rw [hK (by rw [q]; simp)] at e; cases e)
    have hM : Mod K mg (hidT s₁.heap H) := ⟨hKb, nsK hns, ⟨mb, nsK hb, hbb⟩, let ⟨mc, h1, h2⟩ := hlim; ⟨mc, nsK h1, h2⟩⟩
    have e0 : Env0 P w K mg (hidT s₁.heap H) callerA [] s₁ H := ⟨rfl, hM, fun b o e => of_hidT e, Nat.le_of_eq (hidT_size _ _), trivial, fun b hb => absurd (show b ∈ ([] : List Addr) from hb) (by simp), hok, .of_eq hg⟩
    refine codeAny_mono ((F _ hKb (nsK hns)).run callerA [] s₁ H ⟨[.ref a], []⟩ [.ref a] [.ref a] _ E0 hr rfl e0 (hbind s₁ (.ref a)) (.cons rfl .nil) (hsp H hO hS)) fun r s' h => ?_
    cases r with
    | error e => exact h.elim
    | ok fl =>
      cases fl with
      | next => exact False.elim h
      | brk => exact False.elim h
      | cont => exact False.elim h
      | ret u =>
        obtain ⟨v, H', os, bare, un, hok', r', q⟩ := h
        have q' : v = .bl true := q
        subst q'
        obtain rfl : u = Value.bool true := r'
        refine ⟨rfl, OldK.of_keep fun b o e => ?_, os, bare⟩
        cases q : H b with
        | none => exact un.keep b o e q (by intro z; exact absurd (show b ∈ ([] : List Addr) from z) (by simp)) (by simp)
        | some u =>
          rcases hO b with z | ⟨ob, xs, z⟩
          · rw [q] at z; cases z
          · have z2 := un.frzs b ob _ z
            obtain ⟨e1, _⟩ := hok b _ z
            obtain ⟨e2, _⟩ := hok' b _ z2
            rw [e] at e1; cases e1
            exact e2
  cases hk : K.lookup a with
  | some o =>
    -- the script is one of the module's own objects
    have e := KX a o hk
    rw [ha] at e
    cases e
    refine core (fun _ => none) (fun _ => .inl rfl) (.inr ⟨_, vs.toArray, _, hk, rfl, rfl, rfl, by rw [List.size_toArray, lenV]; exact hl, by simpa using rv⟩) (fun b u z => by have z' : (none : Option HO) = some u := z; cases z') (fun b z => absurd rfl z) fun z => absurd rfl z
  | none =>
    refine core (fun b => if b = a then some (.frz { cls := .type "list", data := .seq vs.toArray } (.lst (ns.map V.int))) else none) (fun b => ?_) (.inl (.inr ⟨{ cls := .type "list", data := .seq vs.toArray }, if_pos rfl⟩)) (fun b u z => ?_) (fun b z => ?_) fun _ => hk
    · by_cases hb : b = a
      · exact .inr ⟨_, _, if_pos hb⟩
      · exact .inl (if_neg hb)
    · by_cases hb : b = a
      · have z' := (if_pos hb).symm.trans z
        cases z'
        subst hb
        exact ⟨ha, by rw [List.length_map]; exact hl, vs, _, rv, ha⟩
      · have z' := (if_neg hb).symm.trans z
        cases z'
    · by_cases hb : b = a
      · exact hb
      · exact absurd (if_neg hb) z

def spLaw (K : PySem.W.Frag) : Sp := fun vs H Q _ => ∃ (a : Addr) (ns : List Int), vs = [.ref a] ∧ SqL K H a (ns.map V.int) ∧ ns.length ≤ 63 ∧ ∀ H', Q (.bl true) H'
theorem walk_ofG {l : PySem.W.OpenLaw} {k : Nat} {q : Program} {loose : List Str} {XP : (Str → Option Value) → Heap → Prop} {YP : World → Heap → Prop} {d : DefRec} {K : Params → PySem.W.Frag} {x : Str}
    (hn : l.most = some 63) (hdf : d.params.defaults = []) (hr : Room k callerA)
    (hY : ∀ (w : World) (h : Heap), YP w h → (K w.params).In h)
    (F : ∀ (w : World) (mg : Str → Option Value) (fa : Addr) (h : Heap), (K w.params).In h → h.Ns mainGlobals mg → mg d.name = some (.ref fa) →
      ∃ fd : FuncData, (∀ (s : Shared) (u : Value), BindsTo s fd ⟨[u], []⟩ [(x, u)]) ∧
        ∀ base : Heap, (K w.params).In base → base.Ns mainGlobals mg → FnG l.prog w (K w.params) mg base k fa fd [x] (spLaw (K w.params))) :
    PySem.W.WalkO q loose XP YP l.row.toRowW d [] (fun f vs => PySem.call f vs) := by
  refine Att.attach_call hn hdf fun w s₀ s₁ mg mb fa o pm cd doc a vs ns G Y ho hd hcd hmg hobj hints hlen hg => ?_
  have KX := hY w _ Y
  obtain ⟨fd, hb, hF⟩ := F w mg fa _ KX G.T.g hmg
  exact law_callG KX G.T.g G.T.b G.T.builtins G.T.nolimit hg hobj hints (Nat.le_trans hlen (by decide)) hr hF hb fun H hO hS => ⟨a, ns, rfl, hS, hlen, fun _ => rfl⟩
section
variable {P : Program} {w : World} {K : PySem.W.Frag} {mg : Str → Option Value} {base : Heap} {st : Stmt} {f : Addr} {fd : FuncData} {N : List Str} {k j : Nat}
theorem fnLaw {s0 : Stmt} {rest : List Stmt} {body : Nat → MS} (F : L2.Fun K "law" "law" st f fd) (S : FnScope N ["script"] (defScope st)) (hN : 2 ≤ N.length) (hb0 : defBody st = s0 :: rest)
    (hs : ∀ (cdv : Value) (A : Around) (outer : List Env) (s : Shared) (H : Hp) (E : XK), Room k (A.deeper (envOfC "law" (defScope st) s.heap.objs.size f cdv)) → A.guards = some [] →
      PS (cxOf CX0 P w K mg base N "law" (defScope st) f cdv A outer s H E).nox s0 (tAsg (fun σ H Q => tCons (tVar 0) tNil σ H fun vs H1 => spO K vs H1 Q E0) (gName 1)))
    (hb : ∀ (cdv : Value) (A : Around) (outer : List Env) (s : Shared) (H : Hp) (E : XK), Room k (A.deeper (envOfC "law" (defScope st) s.heap.objs.size f cdv)) → Gd (cxOf CX0 P w K mg base N "law" (defScope st) f cdv A outer s H E).nox →
      ∀ n, BV (cxOf CX0 P w K mg base N "law" (defScope st) f cdv A outer s H E).nox rest (body n))
    (hrun : ∀ z : Src, ∃ n st', body n ⟨fun i => if i = 1 then .src else .emp, some z⟩ = some (.rt (.bool true), st')) : FnG P w K mg base (k + 1) f fd ["script"] (spLaw K) := by
  refine fnG0 F S (fun vs H Q E h => ?_) fun cdv A outer s H vs Q E hr hgu h => ?_
  · obtain ⟨a, ns, rfl, _⟩ := h
    rfl
  · obtain ⟨a, ns, rfl, hS, hl, kk⟩ := h
    obtain ⟨n, st', hrun⟩ := hrun (openZ ns)
    rw [hb0]
    refine ⟨_, pss_cons (hs cdv A outer s H E hr hgu) (hb cdv A outer s H E hr (gd_of S hr hgu) n), ?_⟩
    have e0 : (start N [V.ref a])[0]? = some (some (.ref a)) := start_at rfl
    refine ⟨.ref a, e0, a, ns, rfl, hS, hl, fun aD aC H' s' n1 n2 sa => ?_⟩
    have hlen : 1 < (start N [V.ref a]).length := by
      unfold L2.start
      rw [List.length_append, List.length_map, List.length_replicate, List.length_singleton]
      omega
    refine ⟨⟨aD, aC, fun b => if b = aD ∨ b = aC then none else H' b⟩, fun _ => none, _, _, st', ?_, hrun, fun σ' H'' Hf' s'' c' v hv => ?_⟩
    · refine ⟨fun b o e => (nomatch e), fun b o e => ?_, fun i => ?_, fun i j b h1 => ?_, fun z hz => ?_⟩
      · have e' : (if b = aD ∨ b = aC then none else H' b) = some o := e
        by_cases hb : b = aD ∨ b = aC
        · rw [if_pos hb] at e'; cases e'
        · rw [if_neg hb] at e'; exact ⟨e', rfl⟩
      · show SlOk _ _ _ _ _ i (if i = 1 then .src else .emp)
        by_cases hi : i = 1
        · subst hi
          rw [if_pos rfl]
          exact ⟨List.getElem?_set_self hlen, rfl⟩
        · rw [if_neg hi]; trivial
      · exfalso
        have h1' : (if i = 1 then Sl.src else .emp).isOwn := h1
        by_cases hi : i = 1
        · rw [if_pos hi] at h1'; exact h1'
        · rw [if_neg hi] at h1'; exact h1'
      · cases hz
        exact ⟨sa, rfl, rfl, if_pos (.inl rfl), if_pos (.inr rfl)⟩
    · cases hv
      exact kk H''
end
end NV
set_option Elab.async false
set_option linter.all false
set_option maxRecDepth 100000
set_option maxHeartbeats 4000000
/-! NV11: zip and enumerate over lists and tuples of any mix -/
namespace NV
open PySem PySem.Spec PyProof.Rows L2

/-! ### a list or a tuple -/
def SqB (k : Bool) (K : PySem.W.Frag) (H : Hp) (a : Addr) (xs : List V) : Prop := if k = true then SqT K H a xs else SqL K H a xs
def ItB (k : Bool) (h : Heap) (it a : Addr) (i : Nat) : Prop := if k = true then h.IsTupleIter it a i else h.IsListIter it a i
def IsB (k : Bool) (h : Heap) (a : Addr) (xs : Array Value) : Prop := if k = true then h.IsTuple a xs else h.IsList a xs
def itO (k : Bool) (a : Addr) : Obj := if k = true then { cls := .type "tuple_iterator", data := .fields #[.ref a, .int 0 0] } else { cls := .type "list_iterator", data := .fields #[.ref a, .int 0 0] }
theorem begB (k : Bool) (a : Addr) (xs : Array Value) : Begins (.ref a) (itO k a) (fun h => IsB k h a xs) := by
  cases k
  · exact begins_list a xs
  · exact begins_tuple a xs
theorem drawsB {P : Program} {w : World} {A : Around} (k : Bool) (hh : A.handled = none) (it a : Addr) (hne : a ≠ it) (xs : Array Value) :
    Draws P w A it [it, a] xs.size (fun i v => xs[i]? = some v) (fun i h => ItB k h it a i ∧ IsB k h a xs) := by
  cases k
  · exact Draws.list hh it a hne xs
  · exact Draws.tuple hh it a hne xs
theorem ItB.zero {k : Bool} {h : Heap} {it a : Addr} (e : h.get? it = some (itO k a)) : ItB k h it a 0 := by
  cases k
  · exact ⟨_, e, rfl, rfl⟩
  · exact ⟨_, e, rfl, rfl⟩
theorem ItB.at {k : Bool} {h h' : Heap} {it a : Addr} {i : Nat} (t : ItB k h it a i) (e : ∀ o, h.get? it = some o → h'.get? it = some o) : ItB k h' it a i := by
  cases k
  · exact (show h.IsListIter it a i from t).at e
  · exact (show h.IsTupleIter it a i from t).at e
theorem ItB.obj {k : Bool} {h : Heap} {it a : Addr} {i : Nat} (t : ItB k h it a i) : ∃ o, h.get? it = some o ∧ ∀ v, o.data ≠ .cell v := by
  cases k
  · obtain ⟨o, e, _, d⟩ := (show h.IsListIter it a i from t)
    exact ⟨o, e, fun v q => by rw [d] at q; cases q⟩
  · obtain ⟨o, e, _, d⟩ := (show h.IsTupleIter it a i from t)
    exact ⟨o, e, fun v q => by rw [d] at q; cases q⟩
theorem SqB.inv {X : Cx} {pins : List (Addr × Obj)} {σ : SS} {H : Hp} {s : Shared} {k : Bool} {a : Addr} {xs : List V} (I : Inv X pins σ H s) (q : SqB k X.K H a xs) :
    ∃ its : List Value, Vals xs its ∧ IsB k s.heap a its.toArray ∧ a < s.heap.objs.size := by
  cases k
  · obtain ⟨its, rv, p, _⟩ := I.list q
    exact ⟨its, rv, p.isList, p.lt⟩
  · obtain ⟨its, rv, p, _⟩ := I.tuple q
    have p' : s.heap.IsTuple a its.toArray := p
    obtain ⟨o, e, _⟩ := id p'
    exact ⟨its, rv, p', Heap.lt_size e⟩

/-! ### zip -/
def ItZ (K : PySem.W.Frag) (k1 k2 : Bool) (a b : Addr) (xs ys : List V) : It :=
  ⟨fun i H => SqB k1 K H a xs ∧ SqB k2 K H b ys ∧ i < xs.length ∧ i < ys.length,
   fun i H v H' => ∃ T x y, v = .ref T ∧ H T = none ∧ H' = upd H T (.tup [x, y]) ∧ xs[i]? = some x ∧ ys[i]? = some y,
   fun i H => SqB k1 K H a xs ∧ SqB k2 K H b ys ∧ i = min xs.length ys.length⟩
theorem turn_zipB {P : Program} {w : World} {K : PySem.W.Frag} {elts : List Expr} {kk : Nat} {tpos : Pos} {k1 k2 : Bool} {a b z TI TO i1 i2 : Addr} {xs ys : List V} (S : ZipSep2 z TI TO i1 i2 [i1, a] [i2, b]) (na : a ≠ i1) (nb : b ≠ i2) :
    Turn P w K (.Tuple elts kk tpos) (ItZ K k1 k2 a b xs ys) [z, TI, TO, i1, i2] z (fun i h => IsZip h z TI TO .none ∧ IsTupOf2 h TI (.ref i1) (.ref i2) ∧ (∃ x y, IsTupOf2 h TO x y) ∧ ItB k1 h i1 a i ∧ ItB k2 h i2 b i) where
  mem := by simp
  obj := fun i h st c hc => by
    obtain ⟨hz, hTI, ⟨x, y, hTO⟩, h1, h2⟩ := st
    have e' : c = z ∨ c = TI ∨ c = TO ∨ c = i1 ∨ c = i2 := by simpa using hc
    rcases e' with q | q | q | q | q
    · subst q; exact ⟨_, hz, fun v q => nomatch q⟩
    · subst q; exact ⟨_, hTI, fun v q => nomatch q⟩
    · subst q; exact ⟨_, hTO, fun v q => nomatch q⟩
    · subst q; exact h1.obj
    · subst q; exact h2.obj
  keep := fun i h h' st k => by
    obtain ⟨hz, hTI, ⟨x, y, hTO⟩, h1, h2⟩ := st
    exact ⟨k z (by simp) _ hz, k TI (by simp) _ hTI, ⟨x, y, k TO (by simp) _ hTO⟩, h1.at fun o q => k i1 (by simp) o q, h2.at fun o q => k i2 (by simp) o q⟩
  item := by
    intro X hP hw hK hc i pins s σ H E I hf st hg
    subst hP hw hK
    obtain ⟨hz, hTI, ⟨x0, y0, hTO⟩, h1, h2⟩ := st
    obtain ⟨hqx, hqy, hx, hy⟩ := hg
    obtain ⟨its, rv, p, _⟩ := hqx.inv I
    obtain ⟨its2, rv2, p2, _⟩ := hqy.inv I
    have ex : xs[i]? = some xs[i] := List.getElem?_eq_getElem hx
    have ey : ys[i]? = some ys[i] := List.getElem?_eq_getElem hy
    obtain ⟨u, hu, ru⟩ := rv.get ex
    obtain ⟨u2, hu2, ru2⟩ := rv2.get ey
    have l1 := rv.length
    have l2 := rv2.length
    have hzl : z < s.heap.objs.size := Heap.lt_size hz
    have hh : X.A.in1.handled = none := I.ok.hd hc
    refine wpAny_pyNext_zipD2_item S (drawsB k1 hh i1 a na its.toArray) (drawsB k2 hh i2 b nb its2.toArray) hz hTI hTO ⟨h1, p⟩ ⟨h2, p2⟩ (by simp; omega) (by simp; omega) fun x1 x2 h' tk y1 y2 z' TO' h1' h2' hT hsz hk => ?_
    replace h1' : ItB k1 h' i1 a (i + 1) := h1'.1
    replace h2' : ItB k2 h' i2 b (i + 1) := h2'.1
    have y1' : its[i]? = some x1 := by simpa using y1
    have y2' : its2[i]? = some x2 := by simpa using y2
    rw [hu] at y1'; rw [hu2] at y2'
    cases y1'; cases y2'
    refine ⟨_, rfl, wpAny_letOwnedTupleGo_zip (s := { s with heap := h', toks := tk }) z' fun h'' z'' sb => ?_⟩
    have hT2 : h''.get? s.heap.objs.size = some { cls := .type "tuple", data := .seq #[u, u2] } := (sb.2 _ (Nat.ne_of_gt hzl)).trans hT
    have new : ObjOk X.prog X.w (upd H s.heap.objs.size (.tup [xs[i], ys[i]])) h'' s.heap.objs.size (.tup [xs[i], ys[i]]) :=
      ⟨by show 2 ≤ sizeLine; decide, [u, u2], .cons ru (.cons ru2 .nil), ⟨_, hT2, rfl, _, rfl⟩⟩
    have I1 : Inv X pins σ (upd H s.heap.objs.size (.tup [xs[i], ys[i]])) { s with heap := h'', toks := tk } :=
      I.turnedNew (t' := tk) (ch := [z, TI, TO, i1, i2]) (fun c o hb q => (sb.2 c (fun q' => hb (by simp [q']))).trans (hk c o (fun q' => hb (by simp [q'])) (fun q' => hb (by simp [q'])) (fun q' => hb (by simp [q'])) (fun q' => hb (by simp [q'])) q)) hf (Nat.le_refl _) new
    refine ⟨.ref s.heap.objs.size, _, I1, rfl, ⟨_, _, _, rfl, I.hok.fresh (Nat.le_refl _), rfl, ex, ey⟩, ⟨z'', ?_, ⟨u, u2, ?_⟩, ?_, ?_⟩, fun c hcm => ?_⟩
    · exact (sb.2 _ S.TIz).trans (hk _ _ S.TIz S.TITO S.TIi1 S.TIi2 hTI)
    · exact (sb.2 _ S.TOz).trans TO'
    · exact h1'.at fun o q => (sb.2 _ S.zi1.symm).trans q
    · exact h2'.at fun o q => (sb.2 _ S.zi2.symm).trans q
    · have hlt : c < s.heap.objs.size := by
        have e' : c = z ∨ c = TI ∨ c = TO ∨ c = i1 ∨ c = i2 := by simpa using hcm
        rcases e' with q | q | q | q | q
        · rw [q]; exact hzl
        · rw [q]; exact Heap.lt_size hTI
        · rw [q]; exact Heap.lt_size hTO
        · rw [q]; obtain ⟨_, e1, _⟩ := h1.obj; exact Heap.lt_size e1
        · rw [q]; obtain ⟨_, e2, _⟩ := h2.obj; exact Heap.lt_size e2
      rw [upd_ne (Nat.ne_of_lt hlt)]
      exact (hf c hcm).1
  done := by
    intro X hP hw hK hc i pins s σ H E I hf st hg
    subst hP hw hK
    obtain ⟨hz, hTI, ⟨x0, y0, hTO⟩, h1, h2⟩ := st
    obtain ⟨hqx, hqy, hi⟩ := hg
    obtain ⟨its, rv, p, _⟩ := hqx.inv I
    obtain ⟨its2, rv2, p2, _⟩ := hqy.inv I
    have l1 := rv.length
    have l2 := rv2.length
    have hh : X.A.in1.handled = none := I.ok.hd hc
    refine wpAny_pyNext_zipD2_end S (drawsB k1 hh i1 a na its.toArray) (drawsB k2 hh i2 b nb its2.toArray) hz hTI hTO ⟨h1, p⟩ ⟨h2, p2⟩ (by simp; omega) (by simp; omega) (by simp; omega) fun h' tk hk => ⟨rfl, I.turnedL (t' := tk) (ch := [z, TI, TO, i1, i2]) (fun c o hb q =>
      hk c o (fun q' => hb (by simp [q'])) (fun q' => hb (by simp [q'])) (fun q' => hb (by simp [q'])) (fun q' => hb (by simp [q'])) q) hf⟩
  self := fun A i s Q E st h => wpAny_pyIter_zip st.1 h
def iZipQ (K : PySem.W.Frag) (ta : TA) : TI := fun σ H R => ta σ H fun vs H1 => ∃ k1 k2 a b xs ys, vs = [.ref a, .ref b] ∧ SqB k1 K H1 a xs ∧ SqB k2 K H1 b ys ∧ R (ItZ K k1 k2 a b xs ys) H1
theorem pi_zipQ {X : Cx} {e e2 : Expr} {ta : TA} {p pos tpos : Pos} {elts : List Expr} {kk : Nat} (hg : Gl X "zip") (hm : X.mg "zip" = none) (ha : PA X [e, e2] ta)
    (hs : starEach [e, e2] X.env = (false, eval e X.env) :: starEach [e2] X.env := by rfl) (hpl : (backTo pos (starEach [e2] X.env)).any (·.1) = false := by rfl) :
    PI X (.Tuple elts kk tpos) (.Call (.Name "zip" p) [e, e2] [] pos) (iZipQ X.K ta) := by
  refine ⟨fun pins s σ H R I h => ?_⟩
  refine Call_ (ld_blt I hg hm PyProof.Rows.boot_zip (PyProof.Rows.callWith_type1 (thn (ha.run pos pins s σ H _ I h) fun us s1 ⟨vs, H1, I1, r1, q1⟩ => ?_) hs hpl))
  obtain ⟨k1, k2, a, b, xs, ys, ex, hqx, hqy, q⟩ := q1
  subst ex
  cases r1 with
  | cons r rr =>
    cases rr with
    | cons r' rr =>
      cases rr
      cases r
      cases r'
      obtain ⟨its, rv, p1, lt1⟩ := hqx.inv I1
      obtain ⟨its2, rv2, p2, lt2⟩ := hqy.inv I1
      refine zip_begins2 (begB k1 a its.toArray) (begB k2 b its2.toArray) p1 p2 fun h' hz hTI hTO h1 h2 hsz hk => wpAny_pyIter_zip hz ?_
      have I2 : Inv X pins σ H1 { s1 with heap := h' } := I1.kept (t' := s1.toks) hk
      refine ⟨s1.heap.objs.size + 4, [s1.heap.objs.size + 4, s1.heap.objs.size + 2, s1.heap.objs.size + 3, s1.heap.objs.size, s1.heap.objs.size + 1], _, _, H1, rfl, I2,
        turn_zipB (zip_sep2 (fp1 := [a]) (fp2 := [b]) (fun c hc => by simp at hc; rw [hc]; exact lt1) (fun c hc => by simp at hc; rw [hc]; exact lt2)) (Nat.ne_of_lt lt1) (Nat.ne_of_lt (Nat.lt_succ_of_lt lt2)), ⟨hz, hTI, ⟨_, _, hTO⟩, ItB.zero h1, ItB.zero h2⟩, fun c hcm => ?_, q⟩
      have e' : c = s1.heap.objs.size + 4 ∨ c = s1.heap.objs.size + 2 ∨ c = s1.heap.objs.size + 3 ∨ c = s1.heap.objs.size ∨ c = s1.heap.objs.size + 1 := by simpa using hcm
      have hle : s1.heap.objs.size ≤ c := by
        rcases e' with z | z | z | z | z
        · rw [z]; exact Nat.le_add_right _ _
        · rw [z]; exact Nat.le_add_right _ _
        · rw [z]; exact Nat.le_add_right _ _
        · rw [z]; exact Nat.le_refl _
        · rw [z]; exact Nat.le_add_right _ _
      exact I1.fpOk hle (I1.hok.fresh hle)

/-! ### enumerate -/
def ItE (K : PySem.W.Frag) (k : Bool) (a : Addr) (xs : List V) : It :=
  ⟨fun i H => SqB k K H a xs ∧ i < xs.length, fun i H v H' => ∃ T x, v = .ref T ∧ H T = none ∧ H' = upd H T (.tup [.int (i : Nat), x]) ∧ xs[i]? = some x, fun i H => SqB k K H a xs ∧ i = xs.length⟩
theorem turn_enumB {P : Program} {w : World} {K : PySem.W.Frag} {elts : List Expr} {kk : Nat} {tpos : Pos} {k : Bool} {a e it : Addr} {xs : List V} (na : a ≠ it) (nea : e ≠ a) (nei : e ≠ it) :
    Turn P w K (.Tuple elts kk tpos) (ItE K k a xs) [e, it] e (fun i h => (∃ old, IsEnum h e it ((i : Nat) : Int) old) ∧ ItB k h it a i) where
  mem := by simp
  obj := fun i h st b hb => by
    obtain ⟨⟨old, he⟩, hi⟩ := st
    have e' : b = e ∨ b = it := by simpa using hb
    rcases e' with z | z
    · subst z; exact ⟨_, he, fun v q => nomatch q⟩
    · subst z; exact hi.obj
  keep := fun i h h' st k => let ⟨⟨old, he⟩, hi⟩ := st; ⟨⟨old, k e (by simp) _ he⟩, hi.at fun o q => k it (by simp) o q⟩
  item := by
    intro X hP hw hK hc i pins s σ H E I hf st hg
    subst hP hw hK
    obtain ⟨⟨old, he⟩, hit⟩ := st
    obtain ⟨hq, hx⟩ := hg
    obtain ⟨its, rv, p, _⟩ := hq.inv I
    have ex : xs[i]? = some xs[i] := List.getElem?_eq_getElem hx
    obtain ⟨u, hu, ru⟩ := rv.get ex
    have l1 := rv.length
    have hel : e < s.heap.objs.size := Heap.lt_size he
    have hil : it < s.heap.objs.size := by obtain ⟨_, q, _⟩ := hit.obj; exact Heap.lt_size q
    have hh : X.A.in1.handled = none := I.ok.hd hc
    refine wpAny_pyNext_enum_itemD (drawsB k hh it a na its.toArray) he ⟨hit, p⟩ (by simp; omega) nei (by simp; exact ⟨nei, nea⟩) fun x h' tk y1 ho hit' hT hsz hk => ?_
    have y1' : its[i]? = some x := by simpa using y1
    rw [hu] at y1'; cases y1'
    refine ⟨_, rfl, wpAny_letOwnedTupleGo_enum (s := { s with heap := h', toks := tk + 1 }) ho fun h'' he' sb => ?_⟩
    have hT2 : h''.get? s.heap.objs.size = some { cls := .type "tuple", data := .seq #[.int i tk, u] } := (sb.2 _ (Nat.ne_of_gt hel)).trans hT
    have new : ObjOk X.prog X.w (upd H s.heap.objs.size (.tup [.int (i : Nat), xs[i]])) h'' s.heap.objs.size (.tup [.int (i : Nat), xs[i]]) :=
      ⟨by show 2 ≤ sizeLine; decide, [.int i tk, u], .cons ⟨_, rfl⟩ (.cons ru .nil), ⟨_, hT2, rfl, _, rfl⟩⟩
    have I1 : Inv X pins σ (upd H s.heap.objs.size (.tup [.int (i : Nat), xs[i]])) { s with heap := h'', toks := tk + 1 } :=
      I.turnedNew (t' := tk + 1) (ch := [e, it]) (fun b ob hb q => (sb.2 b (fun z => hb (by simp [z]))).trans (hk b ob (fun z => hb (by simp [z])) (fun z => hb (by simp [z])) q)) hf (Nat.le_refl _) new
    refine ⟨.ref s.heap.objs.size, _, I1, rfl, ⟨_, _, rfl, I.hok.fresh (Nat.le_refl _), rfl, ex⟩, ⟨⟨u, ?_⟩, hit'.1.at fun o q => (sb.2 it (Ne.symm nei)).trans q⟩, fun b hb => ?_⟩
    · have e1 : ((i + 1 : Nat) : Int) = (i : Int) + 1 := by omega
      rw [e1]; exact he'
    · have hb' : b < s.heap.objs.size := by
        have e' : b = e ∨ b = it := by simpa using hb
        rcases e' with z | z
        · rw [z]; exact hel
        · rw [z]; exact hil
      rw [upd_ne (Nat.ne_of_lt hb')]
      exact (hf b hb).1
  done := by
    intro X hP hw hK hc i pins s σ H E I hf st hg
    subst hP hw hK
    obtain ⟨⟨old, he⟩, hit⟩ := st
    obtain ⟨hq, hi⟩ := hg
    obtain ⟨its, rv, p, _⟩ := hq.inv I
    obtain ⟨f0, f1, f2, f3, f4, f5⟩ := hf it (by simp)
    have l1 := rv.length
    have hh : X.A.in1.handled = none := I.ok.hd hc
    have hn : i = its.toArray.size := by simp; omega
    exact wpAny_pyNext_enum_endD (drawsB k hh it a na its.toArray) he (by rw [← hn]; exact ⟨hit, p⟩) fun h' eb => ⟨rfl, I.turned (t' := s.toks) (fun b o hb q => eb b o hb q) f0 f1 f3 f4 f5⟩
  self := fun A i s Q E st h => let ⟨⟨_, he⟩, _⟩ := st; wpAny_pyIter_enum he h

set_option maxHeartbeats 4000000 in
theorem meets_enum1 {v : Value} {o : Obj} {Hq : Heap → Prop} (B : Begins v o Hq) :
    Meets (Builtin.«enumerate.__new__» ⟨[.type "enumerate", v], []⟩) (fun _ R s => Hq s.heap ∧
      R (.ok (.ret (.ref (s.heap.push o).objs.size))) { s with heap := (s.heap.push o).push { cls := .type "enumerate", data := .fields #[.none, .bool false, .ref s.heap.objs.size, rawInt 0, .none, .none] } }) :=
  .of_wp fun prog w A R s h => by
    obtain ⟨hp, g, d, tk, os⟩ := s; obtain ⟨h1, h⟩ := h
    have hsub := sub_enumerate
    have q1 : ∀ {A' : Around} {E : Value → Shared → Prop} {Q : Value → Shared → Prop}, Q (.ref hp.objs.size) ⟨hp.push o, g, d, tk, os⟩ → wpAny (model prog w) A' (pyIter v) Q E ⟨hp, g, d, tk, os⟩ :=
      fun q => B.iter prog w _ _ ⟨hp, g, d, tk, os⟩ _ h1 q
    wp_walk using q1
    refine wpAny_stack_any fun st => wpAny_pure ?_
    split
    · rename_i c _ _ _ _ _
      cases (c == Value.type "enumerate")
      · wp_walk using q1
        exact ⟨_, rfl, h⟩
      · wp_walk using q1
        exact ⟨_, rfl, h⟩
    · wp_walk using q1
      exact ⟨_, rfl, h⟩
theorem enum1_begins {prog : Program} {w : World} {A : Around} {E : Value → Shared → Prop} {s : Shared} {v : Value} {o : Obj} {Hq : Heap → Prop} {Q : Value → Shared → Prop} (B : Begins v o Hq) (h1 : Hq s.heap)
    (h : ∀ h', IsEnum h' (s.heap.objs.size + 1) s.heap.objs.size 0 .none → h'.get? s.heap.objs.size = some o → h'.objs.size = s.heap.objs.size + 2 →
      (∀ b o, s.heap.get? b = some o → h'.get? b = some o) → Q (.ref (s.heap.objs.size + 1)) { s with heap := h' }) :
    wpAny (model prog w) A (call (.type "enumerate") [v]) Q E s := by
  refine callType_new F.called_enumerate (by decide) (F.typeCall_enumerate_1 _) (F.newCall_enumerate_1 _) (fun obj => F.args_object_init_2 obj _) F.entry_enumerate_new
    (meets_enum1 B) ⟨h1, ?_⟩
  have hz : (s.heap.push o).objs.size = s.heap.objs.size + 1 := Heap.size_push ..
  show _ ∧ _
  rw [hz]
  have he : IsEnum ((s.heap.push o).push { cls := .type "enumerate", data := .fields #[.none, .bool false, .ref s.heap.objs.size, rawInt 0, .none, .none] }) (s.heap.objs.size + 1) s.heap.objs.size 0 .none := by
    have := Heap.get?_push_size (s.heap.push o) (o := { cls := .type "enumerate", data := .fields #[.none, .bool false, .ref s.heap.objs.size, rawInt 0, .none, .none] }) rfl
    rw [hz] at this; exact this
  refine ⟨⟨_, he, rfl⟩, h _ he (Heap.get?_push_of_some _ (Heap.get?_push_size _ B.free)) (by rw [Heap.size_push, hz]) fun b o x => Heap.get?_push_of_some _ (Heap.get?_push_of_some _ x)⟩
def iEnumQ (K : PySem.W.Frag) (ta : TA) : TI := fun σ H R => ta σ H fun vs H1 => ∃ k a xs, vs = [.ref a] ∧ SqB k K H1 a xs ∧ R (ItE K k a xs) H1
theorem pi_enumQ {X : Cx} {e : Expr} {ta : TA} {p pos tpos : Pos} {elts : List Expr} {kk : Nat} (hg : Gl X "enumerate") (hm : X.mg "enumerate" = none) (ha : PA X [e] ta) (hs : starEach [e] X.env = [(false, eval e X.env)] := by rfl) :
    PI X (.Tuple elts kk tpos) (.Call (.Name "enumerate" p) [e] [] pos) (iEnumQ X.K ta) := by
  refine ⟨fun pins s σ H R I h => ?_⟩
  refine Call_ (ld_blt I hg hm boot_enumerate (PyProof.Rows.callWith_type1 (thn (ha.run pos pins s σ H _ I h) fun us s1 ⟨vs, H1, I1, r1, q1⟩ => ?_) hs rfl))
  obtain ⟨k, a, xs, ex, hq, q⟩ := q1
  subst ex
  cases r1 with
  | cons r rr =>
    cases rr
    cases r
    obtain ⟨its, rv, p', lt⟩ := hq.inv I1
    refine enum1_begins (begB k a its.toArray) p' fun h' he hit hsz hk => wpAny_pyIter_enum he ?_
    have I2 : Inv X pins σ H1 { s1 with heap := h' } := I1.kept (t' := s1.toks) hk
    refine ⟨s1.heap.objs.size + 1, [s1.heap.objs.size + 1, s1.heap.objs.size], _, _, H1, rfl, I2, turn_enumB (Nat.ne_of_lt lt) (Nat.ne_of_gt (Nat.lt_succ_of_lt lt)) (Nat.succ_ne_self _), ⟨⟨.none, he⟩, ItB.zero hit⟩, fun b hb => ?_, q⟩
    have e' : b = s1.heap.objs.size + 1 ∨ b = s1.heap.objs.size := by simpa using hb
    have hle : s1.heap.objs.size ≤ b := by
      rcases e' with z | z
      · rw [z]; exact Nat.le_add_right _ _
      · rw [z]; exact Nat.le_refl _
    exact I1.fpOk hle (I1.hok.fresh hle)

/-! ### what they walk, by data -/
theorem Rp.seqB {Hf : Hp} {v : V} {d : PyData} {ds : List PyData} (r : Rp Hf v d) (h : seqD d = some ds) : ∃ k a vs, v = .ref a ∧ (∀ K H, Sub Hf H → SqB k K H a vs) ∧ RpL Hf vs ds := by
  cases r with
  | @lst a vs _ e q => cases h; exact ⟨false, a, vs, rfl, fun K H s => .of (s _ _ e), q⟩
  | @tup a vs _ e q => cases h; exact ⟨true, a, vs, rfl, fun K H s => .of (s _ _ e), q⟩
  | _ => cases h
@[simp] def zipA (x y : PyData) : Option (List PyData) := (seqD x).bind fun xs => (seqD y).map fun ys => List.zipWith pairD xs ys
@[simp] def iZipA (a b : M) : ME := fun st => (a st).bind fun (r1, st1) => (esc st1 r1).bind fun (d1, st2) => (b st2).bind fun (r2, st3) => (esc st3 r2).bind fun (d2, st4) => (zipA d1 d2).map fun ds => (ds, st4)
@[simp] def iEnumA (a : M) : ME := fun st => (a st).bind fun (r1, st1) => (esc st1 r1).bind fun (d1, st2) => (seqD d1).map fun ds => (enumL ds, st2)
section
variable {X : Cx} {ea eb ec tg : Expr} {a b : M} {pos p : Pos}
theorem iv_zipA {elts : List Expr} {kk : Nat} {tpos : Pos} (hg : Gl X "zip") (hm : X.mg "zip" = none) (ha : EV X ea a) (hb : EV X eb b)
    (hs : starEach [ea, eb] X.env = (false, eval ea X.env) :: starEach [eb] X.env := by rfl) (hs2 : starEach [eb] X.env = (false, eval eb X.env) :: starEach [] X.env := by rfl) (hpl : (backTo pos (starEach [eb] X.env)).any (·.1) = false := by rfl) :
    IV X (.Tuple elts kk tpos) (.Call (.Name "zip" p) [ea, eb] [] pos) (iZipA a b) := by
  refine iv_of fun L Hf st ds st' σ H R c e k => ⟨_, pi_zipQ hg hm (pa_two ha hb hs hs2) hs hpl, ?_⟩
  unfold iZipA at e
  obtain ⟨⟨r1, st1⟩, h1, e⟩ := bind_some2 e
  obtain ⟨⟨d1, st2⟩, h2, e⟩ := bind_some2 e
  obtain ⟨⟨r2, st3⟩, h3, e⟩ := bind_some2 e
  obtain ⟨⟨d2, st4⟩, h4, e⟩ := bind_some2 e
  obtain ⟨ds', h5, e⟩ := map_some2 e
  cases e
  unfold zipA at h5
  obtain ⟨xs, hx, h5⟩ := bind_some2 h5
  obtain ⟨ys, hy, h5⟩ := map_some2 h5
  cases h5
  refine ev_use c h1 fun v H' Hf' s' c' q => ?_
  obtain ⟨Hf2, s2, c2, q2⟩ := esc_ok c' q h2
  refine ev_use c2 h3 fun w H3 Hf3 s3 c3 q3 => ?_
  obtain ⟨Hf4, s4, c4, q4⟩ := esc_ok c3 q3 h4
  have sAll := (s'.trans s2).trans (s3.trans s4)
  obtain ⟨k1, pa, vs, rfl, qa, ra⟩ := (q2.up (s3.trans s4)).seqB hx
  obtain ⟨k2, pb, ws, rfl, qb, rb⟩ := q4.seqB hy
  refine ⟨k1, k2, pa, pb, vs, ws, rfl, qa _ _ c4.le, qb _ _ c4.le, k _ H3 Hf4 sAll c4 fun Hf5 H5 s5 s6 => ⟨fun i d hd => ?_, ?_⟩⟩
  · obtain ⟨x, y, hx, hy, rfl⟩ := zip_at hd
    obtain ⟨v1, hv1, rv1⟩ := ra.get hx
    obtain ⟨v2, hv2, rv2⟩ := rb.get hy
    refine ⟨⟨qa _ _ (s5.trans s6), qb _ _ (s5.trans s6), lt_of_get hv1, lt_of_get hv2⟩, fun x' H' y' => ?_⟩
    obtain ⟨T, x1, x2, rfl, nT, rfl, g1, g2⟩ := y'
    rw [hv1] at g1; rw [hv2] at g2
    cases g1; cases g2
    exact .tup nT (.cons (rv1.up s5) (.cons (rv2.up s5) .nil))
  · exact ⟨qa _ _ (s5.trans s6), qb _ _ (s5.trans s6), by rw [ra.length, rb.length, List.length_zipWith]⟩
theorem iv_enumA {elts : List Expr} {kk : Nat} {tpos : Pos} (hg : Gl X "enumerate") (hm : X.mg "enumerate" = none) (ha : EV X ea a)
    (hs : starEach [ea] X.env = [(false, eval ea X.env)] := by rfl) (hs1 : starEach [ea] X.env = (false, eval ea X.env) :: starEach [] X.env := by rfl) : IV X (.Tuple elts kk tpos) (.Call (.Name "enumerate" p) [ea] [] pos) (iEnumA a) := by
  refine iv_of fun L Hf st ds st' σ H R c e k => ⟨_, pi_enumQ hg hm (pa_cons ha pa_nil hs1) hs, ?_⟩
  unfold iEnumA at e
  obtain ⟨⟨r1, st1⟩, h1, e⟩ := bind_some2 e
  obtain ⟨⟨d1, st2⟩, h2, e⟩ := bind_some2 e
  obtain ⟨xs, hx, e⟩ := map_some2 e
  cases e
  refine ev_use c h1 fun v H' Hf' s' c' q => ?_
  obtain ⟨Hf2, s2, c2, q2⟩ := esc_ok c' q h2
  obtain ⟨k1, pa, vs, rfl, qa, ra⟩ := q2.seqB hx
  refine ⟨k1, pa, vs, rfl, qa _ _ c2.le, k _ H' Hf2 (s'.trans s2) c2 fun Hf5 H5 s5 s6 => ⟨fun i d hd => ?_, ?_⟩⟩
  · obtain ⟨x, hx, rfl⟩ := enum_at hd
    obtain ⟨v1, hv1, rv1⟩ := ra.get hx
    refine ⟨⟨qa _ _ (s5.trans s6), lt_of_get hv1⟩, fun x' H' y' => ?_⟩
    obtain ⟨T, x1, rfl, nT, rfl, g1⟩ := y'
    rw [hv1] at g1
    cases g1
    exact .tup nT (.cons (.int _) (.cons (rv1.up s5) .nil))
  · exact ⟨qa _ _ (s5.trans s6), by rw [ra.length]; unfold enumL; rw [List.length_map, List.length_zipIdx]⟩
end
end NV
set_option Elab.async false
set_option linter.all false
set_option maxRecDepth 100000
set_option maxHeartbeats 4000000
/-! NV12: enumerate(zip(x, y)) -/
namespace NV
open PySem PySem.Spec PyProof.Rows L2

/-- a zip as it stands between two draws: its pair is free, or still out -/
def ZipSt (h : Heap) (z TI TO : Addr) : Prop := IsZip h z TI TO .none ∨ ∃ (T : Addr) (f : Bool), IsZipHeld h z TI TO T f
def ZipF (h : Heap) (z TI TO : Addr) (f0 : Value) (f : Bool) : Prop := h.get? z = some { cls := .type "zip", dict := none, data := .fields #[f0, .bool f, .bool false, .ref TI, .ref TO], slots := #[] }
theorem ZipSt.f {h : Heap} {z TI TO : Addr} (s : ZipSt h z TI TO) : ∃ f0 f, ZipF h z TI TO f0 f := by
  rcases s with q | ⟨T, f, q⟩
  · exact ⟨_, _, q⟩
  · exact ⟨_, _, q⟩
section
variable {prog : Program} {w : World} {A : Around} {E : Value → Shared → Prop} {s : Shared} {z TI TO i1 i2 : Addr} {fp1 fp2 : List Addr} {n1 n2 i : Nat} {P1 P2 : Nat → Value → Prop} {St1 St2 : Nat → Heap → Prop} {a1 a2 : Value}
theorem alive_is {a : Addr} {Q : Option Obj → Shared → Prop} (h : Q (s.heap.get? a) s) : wpAny (model prog w) A (loadIfAlive a) Q E s := fun _ _ _ => h
/-- free, or out and held, or out and gone -/
theorem ZipSt.ask {Q : Bool → Shared → Prop} (hz : ZipSt s.heap z TI TO) (h1 : Q true s) (h2 : ∀ T f h', IsZipHeld s.heap z TI TO T f → IsZipHeld h' z TI TO T true → Heap.SameBut z s.heap h' → Q false { s with heap := h' }) :
    wpAny (model prog w) A (Builtin.SmallTypes.ownedTupleIsFree (.ref z)) Q E s := by
  rcases hz with hz | ⟨T, f, hz⟩
  · unfold Builtin.SmallTypes.ownedTupleIsFree
    exact wpAny_bind (wpAny_field hz rfl (x := .none) rfl (wpAny_pure h1))
  · cases hT : s.heap.get? T with
    | some oT => exact wpAny_tupleHeld_zip hz hT fun h' a b => h2 T f h' hz a b
    | none =>
      unfold Builtin.SmallTypes.ownedTupleIsFree
      refine wpAny_bind (wpAny_field hz rfl (x := rawInt T) rfl ?_)
      show wpAny _ _ (loadIfAlive ((T : Int).toNat) >>= _) _ _ _
      rw [Int.toNat_natCast]
      refine wpAny_bind (alive_is ?_)
      rw [hT]
      exact wpAny_pure h1
theorem zipN_item {Q : Value → Shared → Prop} (S : ZipSep2 z TI TO i1 i2 fp1 fp2) (D1 : Draws prog w A i1 fp1 n1 P1 St1) (D2 : Draws prog w A i2 fp2 n2 P2 St2)
    (hz : ZipSt s.heap z TI TO) (hTI : IsTupOf2 s.heap TI (.ref i1) (.ref i2)) (hTO : IsTupOf2 s.heap TO a1 a2) (st1 : St1 i s.heap) (st2 : St2 i s.heap) (hlt1 : i < n1) (hlt2 : i < n2)
    (hQ : ∀ x1 x2 h' tk, P1 i x1 → P2 i x2 → ZipSt h' z TI TO → (∃ b1 b2, IsTupOf2 h' TO b1 b2) → St1 (i + 1) h' → St2 (i + 1) h' → IsTupOf2 h' s.heap.objs.size x1 x2 → h'.objs.size = s.heap.objs.size + 1 →
      (∀ c o, c ≠ z → c ≠ TO → c ≠ i1 → c ≠ i2 → s.heap.get? c = some o → h'.get? c = some o) → Q (.ref s.heap.objs.size) { s with heap := h', toks := tk }) :
    wpAny (model prog w) A (Builtin.«zip.__next__» ⟨[.ref z], []⟩) (fun fin s' => ∃ v, fin = .done (.ret v) ∧ Q v s') E s := by
  obtain ⟨hp, g, d, tk0, os⟩ := s
  obtain ⟨f0, f, hzf⟩ := hz.f
  show wpAny _ _ (field (.ref z) 2 >>= _) _ _ _
  refine wpAny_bind (wpAny_field hzf rfl (x := .bool false) rfl ?_)
  show wpAny _ _ (field (.ref z) 3 >>= _) _ _ _
  refine wpAny_bind (wpAny_field hzf rfl (x := .ref TI) rfl ?_)
  refine wpAny_bind (wpAny_seqItems hTI rfl ?_)
  show wpAny _ _ (Builtin.SmallTypes.ownedTupleIsFree (.ref z) >>= _) _ _ _
  refine wpAny_bind (hz.ask ?_ fun T f' h₁ _ hz₁ hs₁ => ?_)
  · simp only [if_true]
    refine wpAny_bind (wpAny_rule ?_)
    refine wpAny_bind (wpAny_field hzf rfl (x := .ref TO) rfl ?_)
    refine wpAny_bind (wpAny_setField_rec hzf (by simp) fun g0 hz0 hs0 => ?_)
    replace hz0 : ZipF g0 z TI TO .ellipsis f := hz0
    replace hs0 : Heap.SameBut z hp g0 := hs0
    refine wpAny_bind ?_
    simp only [List.zipIdx_cons, List.zipIdx_nil, List.forIn_cons, List.forIn_nil]
    refine wpAny_bind (wpAny_bind (wpAny_onRaise ?_))
    show wpAny _ _ (Builtin.SmallTypes.nextOf (.ref i1) >>= _) _ _ ⟨g0, g, d, tk0, os⟩
    refine wpAny_bind (D1.item i _ _ _ hlt1 (D1.over st1 hs0 S.zf1) fun x1 p1 tk1 hx1 sn1 hp1 => wpAny_pure ?_)
    replace hp1 : Heap.SameBut i1 g0 p1 := hp1
    have hU1 : IsTupOf2 p1 TO a1 a2 := hp1.extBut _ _ S.Ti1 (hs0.extBut _ _ S.TOz hTO)
    refine wpAny_bind (wpAny_seqItems (s := ⟨p1, g, d, tk1, os⟩) hU1 rfl ?_)
    refine wpAny_bind (updateSeq_IsTupOf2 (s := ⟨p1, g, d, tk1, os⟩) hU1 fun g1 hT1 hs1 => ?_)
    replace hT1 : IsTupOf2 g1 TO x1 a2 := hT1
    replace hs1 : Heap.SameBut TO p1 g1 := hs1
    refine wpAny_bind (wpAny_letGo (wpAny_pure ?_))
    refine wpAny_bind (wpAny_bind (wpAny_onRaise ?_))
    show wpAny _ _ (Builtin.SmallTypes.nextOf (.ref i2) >>= _) _ _ ⟨g1, g, d, tk1, os⟩
    refine wpAny_bind (D2.item i _ _ _ hlt2 (D2.over (D2.over (D2.over st2 hs0 S.zf2) hp1 S.sep1_2) hs1 S.Tf2) fun x2 p2 tk2 hx2 sn2 hp2 => wpAny_pure ?_)
    replace hp2 : Heap.SameBut i2 g1 p2 := hp2
    have hU2 : IsTupOf2 p2 TO x1 a2 := hp2.extBut _ _ S.Ti2 hT1
    refine wpAny_bind (wpAny_seqItems (s := ⟨p2, g, d, tk2, os⟩) hU2 rfl ?_)
    refine wpAny_bind (updateSeq_IsTupOf2 (s := ⟨p2, g, d, tk2, os⟩) hU2 fun g2 hT2 hs2 => ?_)
    replace hT2 : IsTupOf2 g2 TO x1 x2 := hT2
    replace hs2 : Heap.SameBut TO p2 g2 := hs2
    refine wpAny_bind (wpAny_letGo (wpAny_pure (wpAny_pure ?_)))
    refine wpAny_bind (wpAny_seqItems (s := ⟨g2, g, d, tk2, os⟩) hT2 rfl ?_)
    refine wpAny_bind (wpAny_newTuple ?_)
    have hsz : g2.objs.size = hp.objs.size := by rw [hs2.1, hp2.1, hs1.1, hp1.1, hs0.1]
    have hzz : ZipF g2 z TI TO .ellipsis f := (hs2.extBut _ _ S.TOz.symm (hp2.extBut _ _ S.zi2 (hs1.extBut _ _ S.TOz.symm (hp1.extBut _ _ S.zi1 hz0))))
    have hkk : ∀ c o, c ≠ z → c ≠ TO → c ≠ i1 → c ≠ i2 → hp.get? c = some o → g2.get? c = some o := fun c o cz cT c1 c2 e =>
      (hs2.extBut _ _ cT (hp2.extBut _ _ c2 (hs1.extBut _ _ cT (hp1.extBut _ _ c1 (hs0.extBut _ _ cz e)))))
    have hj1 : St1 (i + 1) g2 := (D1.over (D1.over (D1.over sn1 hs1 S.Tf1) hp2 S.sep2_1) hs2 S.Tf1)
    have hj2 : St2 (i + 1) g2 := (D2.over sn2 hs2 S.Tf2)
    have hzlt : z < g2.objs.size := Heap.lt_size hzz
    show wpAny _ _ (Builtin.SmallTypes.ownedTupleHandOut (.ref z) (.ref g2.objs.size) >>= _) _ _ ⟨g2.push { cls := .type "tuple", data := .seq #[x1, x2] }, g, d, tk2, os⟩
    refine wpAny_bind ?_
    unfold Builtin.SmallTypes.ownedTupleHandOut
    have hz₆ : ZipF (g2.push { cls := .type "tuple", data := .seq #[x1, x2] }) z TI TO .ellipsis f := Heap.get?_push_of_some _ hzz
    refine wpAny_bind (wpAny_setField_rec hz₆ (by simp) fun h₇ hz₇ hs₇ => ?_)
    replace hz₇ : ZipF h₇ z TI TO (rawInt g2.objs.size) f := hz₇
    refine wpAny_setField_rec hz₇ (by simp) fun h₈ hz₈ hs₈ => ?_
    replace hz₈ : IsZip h₈ z TI TO (rawInt g2.objs.size) := hz₈
    replace hs₇ : Heap.SameBut z (g2.push { cls := .type "tuple", data := .seq #[x1, x2] }) h₇ := hs₇
    replace hs₈ : Heap.SameBut z h₇ h₈ := hs₈
    have up : ∀ c o, c ≠ z → g2.get? c = some o → h₈.get? c = some o := fun c o c1 e => hs₈.extBut _ _ c1 (hs₇.extBut _ _ c1 (Heap.get?_push_of_some _ e))
    have hT₈ : IsTupOf2 h₈ g2.objs.size x1 x2 := hs₈.extBut _ _ (Nat.ne_of_gt hzlt) (hs₇.extBut _ _ (Nat.ne_of_gt hzlt) (Heap.get?_push_size _ rfl))
    have hz8 : h₈.objs.size = g2.objs.size + 1 := by rw [hs₈.1, hs₇.1, Heap.size_push]
    rw [hsz] at hz₈ hT₈ hz8
    refine wpAny_pure ⟨_, rfl, ?_⟩
    show Q (.ref g2.objs.size) ⟨h₈, g, d, tk2, os⟩
    rw [hsz]
    exact hQ x1 x2 h₈ tk2 hx1 hx2 (.inr ⟨_, false, hz₈⟩) ⟨_, _, up _ _ S.TOz hT2⟩ (D1.frame _ _ _ hj1 fun b hb o e => up b o (fun q => S.zf1 (q ▸ hb)) e) (D2.frame _ _ _ hj2 fun b hb o e => up b o (fun q => S.zf2 (q ▸ hb)) e) hT₈ hz8 fun c o cz cT c1 c2 e => up c o cz (hkk c o cz cT c1 c2 e)
  · replace hs₁ : Heap.SameBut z hp h₁ := hs₁
    simp only [Bool.false_eq_true, if_false]
    refine wpAny_bind ?_
    rw [← Array.forIn_toList]
    simp only [List.forIn_cons, List.forIn_nil]
    refine wpAny_bind (wpAny_bind (wpAny_holding ?_))
    show wpAny _ _ (Builtin.SmallTypes.nextOf (.ref i1) >>= _) _ _ ⟨h₁, g, d, tk0, os⟩
    refine wpAny_bind (D1.item i _ _ _ hlt1 (D1.over st1 hs₁ S.zf1) fun x1 p1 tk1 hx1 sn1 hp1 => wpAny_pure ?_)
    replace hp1 : Heap.SameBut i1 h₁ p1 := hp1
    refine wpAny_pure ?_
    refine wpAny_bind (wpAny_bind (wpAny_holding ?_))
    show wpAny _ _ (Builtin.SmallTypes.nextOf (.ref i2) >>= _) _ _ ⟨p1, g, d, tk1, os⟩
    refine wpAny_bind (D2.item i _ _ _ hlt2 (D2.over (D2.over st2 hs₁ S.zf2) hp1 S.sep1_2) fun x2 p2 tk2 hx2 sn2 hp2 => wpAny_pure ?_)
    replace hp2 : Heap.SameBut i2 p1 p2 := hp2
    refine wpAny_pure (wpAny_pure ?_)
    show wpAny _ _ (newTuple [x1, x2] >>= _) _ _ _
    refine wpAny_bind (wpAny_newTuple ?_)
    have hsz : p2.objs.size = hp.objs.size := by rw [hp2.1, hp1.1, hs₁.1]
    have hz₃ : IsZipHeld p2 z TI TO T true := hp2.extBut _ _ S.zi2 (hp1.extBut _ _ S.zi1 hz₁)
    have hk : ∀ c o, c ≠ z → c ≠ i1 → c ≠ i2 → hp.get? c = some o → p2.get? c = some o := fun c o c1 c2 c3 e => hp2.extBut _ _ c3 (hp1.extBut _ _ c2 (hs₁.extBut _ _ c1 e))
    have hj1 : St1 (i + 1) p2 := D1.over sn1 hp2 S.sep2_1
    refine wpAny_pure ⟨_, rfl, ?_⟩
    show Q (.ref p2.objs.size) ⟨p2.push { cls := .type "tuple", data := .seq #[x1, x2] }, g, d, tk2, os⟩
    have hpr : IsTupOf2 (p2.push { cls := .type "tuple", data := .seq #[x1, x2] }) p2.objs.size x1 x2 := Heap.get?_push_size _ rfl
    have hz4 : (p2.push { cls := .type "tuple", data := .seq #[x1, x2] }).objs.size = p2.objs.size + 1 := Heap.size_push ..
    rw [hsz] at hpr hz4 ⊢
    exact hQ x1 x2 _ tk2 hx1 hx2 (.inr ⟨T, true, Heap.get?_push_of_some _ hz₃⟩) ⟨_, _, Heap.get?_push_of_some _ (hk _ _ S.TOz S.Ti1 S.Ti2 hTO)⟩ (D1.frame _ _ _ hj1 fun b hb o e => Heap.get?_push_of_some _ e) (D2.frame _ _ _ sn2 fun b hb o e => Heap.get?_push_of_some _ e) hpr hz4
      fun c o c1 _ c2 c3 e => Heap.get?_push_of_some _ (hk c o c1 c2 c3 e)
theorem zipN_end {Q : Fin → Shared → Prop} (S : ZipSep2 z TI TO i1 i2 fp1 fp2) (D1 : Draws prog w A i1 fp1 n1 P1 St1) (D2 : Draws prog w A i2 fp2 n2 P2 St2)
    (hz : ZipSt s.heap z TI TO) (hTI : IsTupOf2 s.heap TI (.ref i1) (.ref i2)) (hTO : IsTupOf2 s.heap TO a1 a2) (st1 : St1 i s.heap) (st2 : St2 i s.heap) (hle1 : i ≤ n1) (hle2 : i ≤ n2) (hend : i = n1 ∨ i = n2)
    (hE : ∀ h' tk e, (∀ c o, c ≠ z → c ≠ TO → c ≠ i1 → c ≠ i2 → s.heap.get? c = some o → h'.get? c = some o) → (∃ o, h'.get? e = some o ∧ o.cls = .type "StopIteration") → E (.ref e) { s with heap := h', toks := tk }) :
    wpAny (model prog w) A (Builtin.«zip.__next__» ⟨[.ref z], []⟩) Q E s := by
  obtain ⟨hp, g, d, tk0, os⟩ := s
  obtain ⟨f0, f, hzf⟩ := hz.f
  show wpAny _ _ (field (.ref z) 2 >>= _) _ _ _
  refine wpAny_bind (wpAny_field hzf rfl (x := .bool false) rfl ?_)
  show wpAny _ _ (field (.ref z) 3 >>= _) _ _ _
  refine wpAny_bind (wpAny_field hzf rfl (x := .ref TI) rfl ?_)
  refine wpAny_bind (wpAny_seqItems hTI rfl ?_)
  show wpAny _ _ (Builtin.SmallTypes.ownedTupleIsFree (.ref z) >>= _) _ _ _
  refine wpAny_bind (hz.ask ?_ fun T f' h₁ _ hz₁ hs₁ => ?_)
  · simp only [if_true]
    refine wpAny_bind (wpAny_rule ?_)
    refine wpAny_bind (wpAny_field hzf rfl (x := .ref TO) rfl ?_)
    refine wpAny_bind (wpAny_setField_rec hzf (by simp) fun g0 hz0 hs0 => ?_)
    replace hz0 : ZipF g0 z TI TO .ellipsis f := hz0
    replace hs0 : Heap.SameBut z hp g0 := hs0
    refine wpAny_bind ?_
    simp only [List.zipIdx_cons, List.zipIdx_nil, List.forIn_cons, List.forIn_nil]
    refine wpAny_bind (wpAny_bind (wpAny_onRaise ?_))
    show wpAny _ _ (Builtin.SmallTypes.nextOf (.ref i1) >>= _) _ _ ⟨g0, g, d, tk0, os⟩
    by_cases hlt1 : i < n1
    · refine wpAny_bind (D1.item i _ _ _ hlt1 (D1.over st1 hs0 S.zf1) fun x1 p1 tk1 hx1 sn1 hp1 => wpAny_pure ?_)
      replace hp1 : Heap.SameBut i1 g0 p1 := hp1
      have hU1 : IsTupOf2 p1 TO a1 a2 := hp1.extBut _ _ S.Ti1 (hs0.extBut _ _ S.TOz hTO)
      refine wpAny_bind (wpAny_seqItems (s := ⟨p1, g, d, tk1, os⟩) hU1 rfl ?_)
      refine wpAny_bind (updateSeq_IsTupOf2 (s := ⟨p1, g, d, tk1, os⟩) hU1 fun g1 hT1 hs1 => ?_)
      replace hT1 : IsTupOf2 g1 TO x1 a2 := hT1
      replace hs1 : Heap.SameBut TO p1 g1 := hs1
      refine wpAny_bind (wpAny_letGo (wpAny_pure ?_))
      have hi2 : i = n2 := by omega
      refine wpAny_bind (wpAny_bind (wpAny_onRaise ?_))
      show wpAny _ _ (Builtin.SmallTypes.nextOf (.ref i2) >>= _) _ _ ⟨g1, g, d, tk1, os⟩
      refine wpAny_bind (D2.done ⟨g1, g, d, tk1, os⟩ _ _ (by rw [← hi2]; exact (D2.over (D2.over (D2.over st2 hs0 S.zf2) hp1 S.sep1_2) hs1 S.Tf2)) fun q e hq he => ?_)
      replace hq : Heap.ExtBut i2 g1 q := hq
      obtain ⟨oe, hoe, hce⟩ := he
      replace hoe : q.get? e = some oe := hoe
      have hzq : ZipF q z TI TO .ellipsis f := hq _ _ S.zi2 (hs1.extBut _ _ S.TOz.symm (hp1.extBut _ _ S.zi1 hz0))
      have hez : e ≠ z := fun x => by subst x; rw [hzq] at hoe; cases hoe; simp at hce
      refine wpAny_setField_rec (s := ⟨q, g, d, tk1, os⟩) hzq (by simp) fun q' _ hq' => ?_
      replace hq' : Heap.SameBut z q q' := hq'
      exact hE q' tk1 e (fun c o cz cT c1 c2 x => hq'.extBut _ _ cz (hq _ _ c2 (hs1.extBut _ _ cT (hp1.extBut _ _ c1 (hs0.extBut _ _ cz x))))) ⟨oe, hq'.extBut _ _ hez hoe, hce⟩
    · have hi1 : i = n1 := by omega
      refine wpAny_bind (D1.done ⟨g0, g, d, tk0, os⟩ _ _ (by rw [← hi1]; exact (D1.over st1 hs0 S.zf1)) fun q e hq he => ?_)
      replace hq : Heap.ExtBut i1 g0 q := hq
      obtain ⟨oe, hoe, hce⟩ := he
      replace hoe : q.get? e = some oe := hoe
      have hzq : ZipF q z TI TO .ellipsis f := hq _ _ S.zi1 hz0
      have hez : e ≠ z := fun x => by subst x; rw [hzq] at hoe; cases hoe; simp at hce
      refine wpAny_setField_rec (s := ⟨q, g, d, tk0, os⟩) hzq (by simp) fun q' _ hq' => ?_
      replace hq' : Heap.SameBut z q q' := hq'
      exact hE q' tk0 e (fun c o cz cT c1 c2 x => hq'.extBut _ _ cz (hq _ _ c1 (hs0.extBut _ _ cz x))) ⟨oe, hq'.extBut _ _ hez hoe, hce⟩
  · replace hs₁ : Heap.SameBut z hp h₁ := hs₁
    simp only [Bool.false_eq_true, if_false]
    refine wpAny_bind ?_
    rw [← Array.forIn_toList]
    simp only [List.forIn_cons, List.forIn_nil]
    refine wpAny_bind (wpAny_bind (wpAny_holding ?_))
    show wpAny _ _ (Builtin.SmallTypes.nextOf (.ref i1) >>= _) _ _ ⟨h₁, g, d, tk0, os⟩
    by_cases hlt1 : i < n1
    · refine wpAny_bind (D1.item i _ _ _ hlt1 (D1.over st1 hs₁ S.zf1) fun x1 p1 tk1 hx1 sn1 hp1 => wpAny_pure ?_)
      replace hp1 : Heap.SameBut i1 h₁ p1 := hp1
      have hi2 : i = n2 := by omega
      refine wpAny_pure ?_
      refine wpAny_bind (wpAny_bind (wpAny_holding ?_))
      show wpAny _ _ (Builtin.SmallTypes.nextOf (.ref i2) >>= _) _ _ ⟨p1, g, d, tk1, os⟩
      refine wpAny_bind (D2.done ⟨p1, g, d, tk1, os⟩ _ _ (by rw [← hi2]; exact (D2.over (D2.over st2 hs₁ S.zf2) hp1 S.sep1_2)) fun q e hq he => ?_)
      exact hE q tk1 e (fun c o cz cT c1 c2 x => hq _ _ c2 (hp1.extBut _ _ c1 (hs₁.extBut _ _ cz x))) he
    · have hi1 : i = n1 := by omega
      refine wpAny_bind (D1.done ⟨h₁, g, d, tk0, os⟩ _ _ (by rw [← hi1]; exact (D1.over st1 hs₁ S.zf1)) fun q e hq he => ?_)
      exact hE q tk0 e (fun c o cz cT c1 c2 x => hq _ _ c1 (hs₁.extBut _ _ cz x)) he
/-! ### enumerate over an iterator that may lay new things -/
theorem enumN_item {e it : Addr} {c : Int} {old : Value} {R : Value → Heap → Nat → Prop} {Q : Value → Shared → Prop} (he : IsEnum s.heap e it c old)
    (hn : ∀ (Q1 : Value → Shared → Prop), (∀ x h₁ tk, R x h₁ tk → Q1 x { s with heap := h₁, toks := tk }) → wpAny (model prog w) A (Builtin.SmallTypes.nextOf (.ref it)) Q1 E s) (hR : ∀ x h₁ tk, R x h₁ tk → IsEnum h₁ e it c old)
    (hQ : ∀ x h₁ tk h', R x h₁ tk → IsEnumOut h' e it (c + 1) x h₁.objs.size → h'.get? h₁.objs.size = some { cls := .type "tuple", data := .seq #[.int c tk, x] } → h'.objs.size = h₁.objs.size + 1 →
      (∀ b o, b ≠ e → h₁.get? b = some o → h'.get? b = some o) → Q (.ref h₁.objs.size) { s with heap := h', toks := tk + 1 }) :
    wpAny (model prog w) A (Builtin.«enumerate.__next__» ⟨[.ref e], []⟩) (fun fin s' => ∃ v, fin = .done (.ret v) ∧ Q v s') E s := by
  obtain ⟨hp, g, d, tk₀, os⟩ := s
  show wpAny _ _ (field (.ref e) 2 >>= _) _ _ _
  refine wpAny_bind (wpAny_field he rfl (x := .ref it) rfl ?_)
  refine wpAny_bind (hn _ fun x h₁ tk hr => ?_)
  have he₁ : IsEnum h₁ e it c old := hR x h₁ tk hr
  show wpAny _ _ (field (.ref e) 3 >>= _) _ _ ⟨h₁, g, d, tk, os⟩
  refine wpAny_bind (wpAny_field he₁ rfl (x := rawInt c) rfl ?_)
  show wpAny _ _ (field (.ref e) 4 >>= _) _ _ ⟨h₁, g, d, tk, os⟩
  refine wpAny_bind (wpAny_field he₁ rfl (x := .none) rfl ?_)
  show wpAny _ _ (mkInt c >>= _) _ _ ⟨h₁, g, d, tk, os⟩
  refine wpAny_bind (wpAny_mkInt ?_)
  show wpAny _ _ (setField (.ref e) 3 (rawInt (c + 1)) >>= _) _ _ ⟨h₁, g, d, tk + 1, os⟩
  refine wpAny_bind (wpAny_setField_rec he₁ (by simp) fun h₂ he₂ hs₂ => ?_)
  replace hs₂ : Heap.SameBut e h₁ h₂ := hs₂
  replace he₂ : IsEnum h₂ e it (c + 1) old := he₂
  show wpAny _ _ (setField (.ref e) 4 .none >>= _) _ _ ⟨h₂, g, d, tk + 1, os⟩
  refine wpAny_bind (wpAny_setField_rec he₂ (by simp) fun h₃ he₃ hs₃ => ?_)
  replace hs₃ : Heap.SameBut e h₂ h₃ := hs₃
  replace he₃ : IsEnum h₃ e it (c + 1) old := he₃
  show wpAny _ _ (newTuple [.int c tk, x] >>= _) _ _ ⟨h₃, g, d, tk + 1, os⟩
  refine wpAny_bind (wpAny_newTuple ?_)
  have he₄ : IsEnum (h₃.push { cls := .type "tuple", data := .seq #[.int c tk, x] }) e it (c + 1) old := Heap.get?_push_of_some _ he₃
  generalize hh₄ : h₃.push { cls := .type "tuple", data := .seq #[.int c tk, x] } = h₄ at he₄
  have hsz : h₃.objs.size = h₁.objs.size := by rw [hs₃.1, hs₂.1]
  have hel : e < h₁.objs.size := Heap.lt_size he₁
  have ht₄ : h₄.get? h₁.objs.size = some { cls := .type "tuple", data := .seq #[.int c tk, x] } := by rw [← hh₄, ← hsz]; exact Heap.get?_push_size _ rfl
  have hz₄ : h₄.objs.size = h₁.objs.size + 1 := by rw [← hh₄, Heap.size_push, hsz]
  have hk₄ : ∀ b o, b ≠ e → h₁.get? b = some o → h₄.get? b = some o := fun b o hbe hb => by
    rw [← hh₄]; exact Heap.get?_push_of_some _ (hs₃.extBut b o hbe (hs₂.extBut b o hbe hb))
  show wpAny _ _ (Builtin.SmallTypes.ownedTupleIsFree (.ref e) >>= _) _ _ ⟨h₄, g, d, tk + 1, os⟩
  rw [hsz]
  clear hh₄ he₃ hs₃ he₂ hs₂ hsz h₃ h₂
  refine wpAny_bind ?_
  · unfold Builtin.SmallTypes.ownedTupleIsFree
    refine wpAny_bind (wpAny_field he₄ rfl (x := .none) rfl (wpAny_pure ?_))
    simp only [if_true]
    refine wpAny_bind (wpAny_rule ?_)
    refine wpAny_bind (wpAny_field he₄ rfl (x := old) rfl ?_)
    refine wpAny_bind (wpAny_setField_rec he₄ (by simp) fun h₅ he₅ hs₅ => ?_)
    replace hs₅ : Heap.SameBut e h₄ h₅ := hs₅
    replace he₅ : IsEnum h₅ e it (c + 1) x := he₅
    show wpAny _ _ (Builtin.SmallTypes.ownedTupleHandOut (.ref e) (.ref h₁.objs.size) >>= _) _ _ ⟨h₅, g, d, tk + 1, os⟩
    refine wpAny_bind ?_
    · unfold Builtin.SmallTypes.ownedTupleHandOut
      refine wpAny_bind (wpAny_setField_rec he₅ (by simp) fun h₆ he₆ hs₆ => ?_)
      replace hs₆ : Heap.SameBut e h₅ h₆ := hs₆
      replace he₆ : IsEnumOut h₆ e it (c + 1) x h₁.objs.size := he₆
      refine wpAny_setField_rec he₆ (by simp) fun h₇ he₇ hs₇ => ?_
      replace hs₇ : Heap.SameBut e h₆ h₇ := hs₇
      replace he₇ : IsEnumOut h₇ e it (c + 1) x h₁.objs.size := he₇
      refine wpAny_bind (wpAny_letGo (wpAny_pure ⟨_, rfl, hQ x h₁ tk h₇ hr he₇ ?_ ?_ ?_⟩))
      · exact hs₇.extBut _ _ (Nat.ne_of_gt hel) (hs₆.extBut _ _ (Nat.ne_of_gt hel) (hs₅.extBut _ _ (Nat.ne_of_gt hel) ht₄))
      · rw [hs₇.1, hs₆.1, hs₅.1, hz₄]
      · exact fun b o hbe hb => hs₇.extBut b o hbe (hs₆.extBut b o hbe (hs₅.extBut b o hbe (hk₄ b o hbe hb)))
end
end NV
set_option Elab.async false
set_option linter.all false
set_option maxRecDepth 100000
set_option maxHeartbeats 4000000
/-! NV13: for i, (x, y) in enumerate(zip(a, b)) -/
namespace NV
open PySem PySem.Spec PyProof.Rows L2

def ItEZ (K : PySem.W.Frag) (k1 k2 : Bool) (a b : Addr) (xs ys : List V) : It :=
  ⟨fun i H => SqB k1 K H a xs ∧ SqB k2 K H b ys ∧ i < xs.length ∧ i < ys.length,
   fun i H v H' => ∃ T U x y, v = .ref U ∧ H T = none ∧ (upd H T (.tup [x, y])) U = none ∧ H' = upd (upd H T (.tup [x, y])) U (.tup [.int (i : Nat), .ref T]) ∧ xs[i]? = some x ∧ ys[i]? = some y,
   fun i H => SqB k1 K H a xs ∧ SqB k2 K H b ys ∧ i = min xs.length ys.length⟩
theorem turn_enumZip {P : Program} {w : World} {K : PySem.W.Frag} {elts : List Expr} {kk : Nat} {tpos : Pos} {k1 k2 : Bool} {a b e z TI TO i1 i2 : Addr} {xs ys : List V} (S : ZipSep2 z TI TO i1 i2 [i1, a] [i2, b]) (na : a ≠ i1) (nb : b ≠ i2)
    (ez : e ≠ z) (eI : e ≠ TI) (eO : e ≠ TO) (e1 : e ≠ i1) (e2 : e ≠ i2) :
    Turn P w K (.Tuple elts kk tpos) (ItEZ K k1 k2 a b xs ys) [e, z, TI, TO, i1, i2] e (fun i h => (∃ old, IsEnum h e z ((i : Nat) : Int) old) ∧ ZipSt h z TI TO ∧ IsTupOf2 h TI (.ref i1) (.ref i2) ∧ (∃ x y, IsTupOf2 h TO x y) ∧ ItB k1 h i1 a i ∧ ItB k2 h i2 b i) where
  mem := by simp
  obj := fun i h st c hc => by
    obtain ⟨⟨old, he⟩, hz, hTI, ⟨x, y, hTO⟩, h1, h2⟩ := st
    have e' : c = e ∨ c = z ∨ c = TI ∨ c = TO ∨ c = i1 ∨ c = i2 := by simpa using hc
    rcases e' with q | q | q | q | q | q
    · subst q; exact ⟨_, he, fun v q => nomatch q⟩
    · subst q; obtain ⟨_, _, hf⟩ := hz.f; exact ⟨_, hf, fun v q => nomatch q⟩
    · subst q; exact ⟨_, hTI, fun v q => nomatch q⟩
    · subst q; exact ⟨_, hTO, fun v q => nomatch q⟩
    · subst q; exact h1.obj
    · subst q; exact h2.obj
  keep := fun i h h' st k => by
    obtain ⟨⟨old, he⟩, hz, hTI, ⟨x, y, hTO⟩, h1, h2⟩ := st
    refine ⟨⟨old, k e (by simp) _ he⟩, ?_, k TI (by simp) _ hTI, ⟨x, y, k TO (by simp) _ hTO⟩, h1.at fun o q => k i1 (by simp) o q, h2.at fun o q => k i2 (by simp) o q⟩
    rcases hz with hz | ⟨T, f, hz⟩
    · exact .inl (k z (by simp) _ hz)
    · exact .inr ⟨T, f, k z (by simp) _ hz⟩
  item := by
    intro X hP hw hK hc i pins s σ H E I hf st hg
    subst hP hw hK
    obtain ⟨⟨old, he⟩, hz, hTI, ⟨x0, y0, hTO⟩, h1, h2⟩ := st
    obtain ⟨hqx, hqy, hx, hy⟩ := hg
    obtain ⟨its, rv, p, _⟩ := hqx.inv I
    obtain ⟨its2, rv2, p2, _⟩ := hqy.inv I
    have ex : xs[i]? = some xs[i] := List.getElem?_eq_getElem hx
    have ey : ys[i]? = some ys[i] := List.getElem?_eq_getElem hy
    obtain ⟨u, hu, ru⟩ := rv.get ex
    obtain ⟨u2, hu2, ru2⟩ := rv2.get ey
    have l1 := rv.length
    have l2 := rv2.length
    obtain ⟨_, _, hzf⟩ := hz.f
    have hzl : z < s.heap.objs.size := Heap.lt_size hzf
    have hel : e < s.heap.objs.size := Heap.lt_size he
    have hTe : s.TypeIs (.ref e) "enumerate" := ⟨_, he, rfl⟩
    have hTz : s.TypeIs (.ref z) "zip" := ⟨_, hzf, rfl⟩
    have hh : X.A.in1.in1.handled = none := I.ok.hd hc
    let R : Value → Heap → Nat → Prop := fun v h' tk => v = .ref s.heap.objs.size ∧ ZipSt h' z TI TO ∧ (∃ b1 b2, IsTupOf2 h' TO b1 b2) ∧ ItB k1 h' i1 a (i + 1) ∧ ItB k2 h' i2 b (i + 1) ∧ IsTupOf2 h' s.heap.objs.size u u2 ∧ h'.objs.size = s.heap.objs.size + 1 ∧
      (∀ c o, c ≠ z → c ≠ TO → c ≠ i1 → c ≠ i2 → s.heap.get? c = some o → h'.get? c = some o)
    unfold pyNext
    refine wpAny_bind (wpAny_attempt (wpAny_callSpecial?_slot (name := Str.ofString "__next__") hTe F.slot_enumerate_next
      (wpAny_call_entry F.slot_enumerate_next hTe F.entry_enumerate_next (enumN_item (R := R) he (fun Q1 hQ1 => ?_) (fun x h₁ tk hr => ?_) fun x h₁ tk h' hr ho hT2 hsz2 hk2 => ?_) (F.args_enumerate_next_1 _))))
    · unfold Builtin.SmallTypes.nextOf
      refine wpAny_bind (wpAny_callSpecial?_slot (name := Str.ofString "__next__") hTz F.slot_zip_next
        (wpAny_call_entry F.slot_zip_next hTz F.entry_zip_next (zipN_item S (drawsB k1 hh i1 a na its.toArray) (drawsB k2 hh i2 b nb its2.toArray) hz hTI hTO ⟨h1, p⟩ ⟨h2, p2⟩ (by simp; omega) (by simp; omega)
          fun x1 x2 h' tk y1 y2 z' TO' h1' h2' hT hsz hk => ?_) (F.args_zip_next_1 _)))
      have y1' : its[i]? = some x1 := by simpa using y1
      have y2' : its2[i]? = some x2 := by simpa using y2
      rw [hu] at y1'; rw [hu2] at y2'
      cases y1'; cases y2'
      exact wpAny_pure (hQ1 _ h' tk ⟨rfl, z', TO', h1'.1, h2'.1, hT, hsz, hk⟩)
    · obtain ⟨_, _, _, _, _, _, _, hk⟩ := hr
      exact hk _ _ ez eO e1 e2 he
    · obtain ⟨rfl, z', ⟨b1, b2, TO'⟩, h1', h2', hT, hsz, hk⟩ := hr
      refine wpAny_pure ⟨_, rfl, wpAny_letOwnedTupleGo_enum (s := { s with heap := h', toks := tk + 1 }) ho fun h'' he' sb => ?_⟩
      have ne0 : e ≠ s.heap.objs.size := Nat.ne_of_lt hel
      have ne1 : e ≠ h₁.objs.size := by rw [hsz]; exact Nat.ne_of_lt (Nat.lt_succ_of_lt hel)
      -- the pair
      have newT : ObjOk X.prog X.w (upd H s.heap.objs.size (.tup [xs[i], ys[i]])) h₁ s.heap.objs.size (.tup [xs[i], ys[i]]) :=
        ⟨by show 2 ≤ sizeLine; decide, [u, u2], .cons ru (.cons ru2 .nil), ⟨_, hT, rfl, _, rfl⟩⟩
      have I1 : Inv X pins σ (upd H s.heap.objs.size (.tup [xs[i], ys[i]])) { s with heap := h₁, toks := tk } :=
        I.turnedNew (t' := tk) (ch := [z, TO, i1, i2]) (fun c o hb q => hk c o (fun q' => hb (by simp [q'])) (fun q' => hb (by simp [q'])) (fun q' => hb (by simp [q'])) (fun q' => hb (by simp [q'])) q)
          (fun c hcm => hf c (by simp at hcm ⊢; rcases hcm with q | q | q | q <;> simp [q])) (Nat.le_refl _) newT
      have lt0 : s.heap.objs.size < h₁.objs.size := by rw [hsz]; exact Nat.lt_succ_self _
      have up2 : ∀ c o, c ≠ e → h₁.get? c = some o → h''.get? c = some o := fun c o hc' q => (sb.2 c hc').trans (hk2 c o hc' q)
      have hU : h''.get? h₁.objs.size = some { cls := .type "tuple", data := .seq #[.int i tk, .ref s.heap.objs.size] } := (sb.2 _ ne1.symm).trans hT2
      have newU : ObjOk X.prog X.w (upd (upd H s.heap.objs.size (.tup [xs[i], ys[i]])) h₁.objs.size (.tup [.int (i : Nat), .ref s.heap.objs.size])) h'' h₁.objs.size (.tup [.int (i : Nat), .ref s.heap.objs.size]) :=
        ⟨by show 2 ≤ sizeLine; decide, [.int i tk, .ref s.heap.objs.size], .cons ⟨_, rfl⟩ (.cons rfl .nil), ⟨_, hU, rfl, _, rfl⟩⟩
      have fe := hf e (by simp)
      have I2 : Inv X pins σ (upd (upd H s.heap.objs.size (.tup [xs[i], ys[i]])) h₁.objs.size (.tup [.int (i : Nat), .ref s.heap.objs.size])) { s with heap := h'', toks := tk + 1 } :=
        I1.turnedNew (t' := tk + 1) (ch := [e]) (fun c o hb q => up2 c o (fun q' => hb (by simp [q'])) q)
          (fun c hcm => by
            have : c = e := by simpa using hcm
            subst this
            exact ⟨by rw [upd_ne ne0]; exact fe.1, fe.2⟩) (Nat.le_refl _) newU
      have hn1 : (upd H s.heap.objs.size (.tup [xs[i], ys[i]])) h₁.objs.size = none := I1.hok.fresh (Nat.le_refl _)
      refine ⟨.ref h₁.objs.size, _, I2, rfl, ⟨_, _, _, _, rfl, I.hok.fresh (Nat.le_refl _), hn1, rfl, ex, ey⟩, ⟨⟨.ref s.heap.objs.size, ?_⟩, ?_, ?_, ⟨b1, b2, ?_⟩, ?_, ?_⟩, fun c hcm => ?_⟩
      · have e1 : ((i + 1 : Nat) : Int) = (i : Int) + 1 := by omega
        rw [e1]; exact he'
      · rcases z' with q | ⟨T', f', q⟩
        · exact .inl (up2 _ _ ez.symm q)
        · exact .inr ⟨T', f', up2 _ _ ez.symm q⟩
      · exact up2 _ _ eI.symm (hk _ _ S.TIz S.TITO S.TIi1 S.TIi2 hTI)
      · exact up2 _ _ eO.symm TO'
      · exact h1'.at fun o q => up2 _ o e1.symm q
      · exact h2'.at fun o q => up2 _ o e2.symm q
      · have hlt : c < s.heap.objs.size := by
          have e' : c = e ∨ c = z ∨ c = TI ∨ c = TO ∨ c = i1 ∨ c = i2 := by simpa using hcm
          rcases e' with q | q | q | q | q | q
          · rw [q]; exact hel
          · rw [q]; exact hzl
          · rw [q]; exact Heap.lt_size hTI
          · rw [q]; exact Heap.lt_size hTO
          · rw [q]; obtain ⟨_, e1, _⟩ := h1.obj; exact Heap.lt_size e1
          · rw [q]; obtain ⟨_, e2, _⟩ := h2.obj; exact Heap.lt_size e2
        rw [upd_ne (Nat.ne_of_lt (Nat.lt_trans hlt lt0)), upd_ne (Nat.ne_of_lt hlt)]
        exact (hf c hcm).1
  done := by
    intro X hP hw hK hc i pins s σ H E I hf st hg
    subst hP hw hK
    obtain ⟨⟨old, he⟩, hz, hTI, ⟨x0, y0, hTO⟩, h1, h2⟩ := st
    obtain ⟨hqx, hqy, hi⟩ := hg
    obtain ⟨its, rv, p, _⟩ := hqx.inv I
    obtain ⟨its2, rv2, p2, _⟩ := hqy.inv I
    have l1 := rv.length
    have l2 := rv2.length
    obtain ⟨_, _, hzf⟩ := hz.f
    have hTe : s.TypeIs (.ref e) "enumerate" := ⟨_, he, rfl⟩
    have hTz : s.TypeIs (.ref z) "zip" := ⟨_, hzf, rfl⟩
    have hh : X.A.in1.in1.handled = none := I.ok.hd hc
    unfold pyNext
    refine wpAny_bind (wpAny_attempt (wpAny_callSpecial?_slot (name := Str.ofString "__next__") hTe F.slot_enumerate_next
      (wpAny_call_entry F.slot_enumerate_next hTe F.entry_enumerate_next ?_ (F.args_enumerate_next_1 _))))
    show wpAny _ _ (field (.ref e) 2 >>= _) _ _ _
    refine wpAny_bind (wpAny_field he rfl (x := .ref z) rfl ?_)
    refine wpAny_bind ?_
    unfold Builtin.SmallTypes.nextOf
    refine wpAny_bind (wpAny_callSpecial?_slot (name := Str.ofString "__next__") hTz F.slot_zip_next
      (wpAny_call_entry F.slot_zip_next hTz F.entry_zip_next (zipN_end S (drawsB k1 hh i1 a na its.toArray) (drawsB k2 hh i2 b nb its2.toArray) hz hTI hTO ⟨h1, p⟩ ⟨h2, p2⟩ (by simp; omega) (by simp; omega) (by simp; omega)
        fun h' tk x hk hx' => ?_) (F.args_zip_next_1 _)))
    obtain ⟨o, ho, hcl⟩ := hx'
    refine wpAny_bind (wpAny_isInstance (T := "StopIteration") (b := true) ⟨o, ho, hcl⟩ isSubtype_stop ?_)
    exact wpAny_pure ⟨rfl, I.turnedL (t' := tk) (ch := [z, TO, i1, i2]) (fun c o hb q => hk c o (fun q' => hb (by simp [q'])) (fun q' => hb (by simp [q'])) (fun q' => hb (by simp [q'])) (fun q' => hb (by simp [q'])) q)
      (fun c hcm => hf c (by simp at hcm ⊢; rcases hcm with q | q | q | q <;> simp [q]))⟩
  self := fun A i s Q E st h => let ⟨⟨_, he⟩, _⟩ := st; wpAny_pyIter_enum he h
/-- enumerate(z), z a zip: it is its own iterator -/
theorem meets_enumZ (z TI TO : Addr) :
    Meets (Builtin.«enumerate.__new__» ⟨[.type "enumerate", .ref z], []⟩) (fun _ R s => IsZip s.heap z TI TO .none ∧
      R (.ok (.ret (.ref s.heap.objs.size))) { s with heap := s.heap.push { cls := .type "enumerate", data := .fields #[.none, .bool false, .ref z, rawInt 0, .none, .none] } }) :=
  .of_wp fun prog w A R s h => by
    obtain ⟨hp, g, d, tk, os⟩ := s; obtain ⟨h1, h⟩ := h
    have hsub := sub_enumerate
    have q1 : ∀ {A' : Around} {E : Value → Shared → Prop} {Q : Value → Shared → Prop}, Q (.ref z) ⟨hp, g, d, tk, os⟩ → wpAny (model prog w) A' (pyIter (.ref z)) Q E ⟨hp, g, d, tk, os⟩ :=
      fun q => wpAny_pyIter_zip h1 q
    wp_walk using q1
    refine wpAny_stack_any fun st => wpAny_pure ?_
    split
    · rename_i c _ _ _ _ _
      cases (c == Value.type "enumerate")
      · wp_walk using q1
        exact ⟨_, rfl, h⟩
      · wp_walk using q1
        exact ⟨_, rfl, h⟩
    · wp_walk using q1
      exact ⟨_, rfl, h⟩
theorem enumZ_begins {prog : Program} {w : World} {A : Around} {E : Value → Shared → Prop} {s : Shared} {z TI TO : Addr} {Q : Value → Shared → Prop} (h1 : IsZip s.heap z TI TO .none)
    (h : ∀ h', IsEnum h' s.heap.objs.size z 0 .none → h'.objs.size = s.heap.objs.size + 1 → (∀ b o, s.heap.get? b = some o → h'.get? b = some o) → Q (.ref s.heap.objs.size) { s with heap := h' }) :
    wpAny (model prog w) A (call (.type "enumerate") [.ref z]) Q E s := by
  refine callType_new F.called_enumerate (by decide) (F.typeCall_enumerate_1 _) (F.newCall_enumerate_1 _) (fun obj => F.args_object_init_2 obj _) F.entry_enumerate_new
    (meets_enumZ z TI TO) ⟨h1, ?_⟩
  have he : IsEnum (s.heap.push { cls := .type "enumerate", data := .fields #[.none, .bool false, .ref z, rawInt 0, .none, .none] }) s.heap.objs.size z 0 .none := Heap.get?_push_size _ rfl
  exact ⟨⟨_, he, rfl⟩, h _ he (Heap.size_push ..) fun b o x => Heap.get?_push_of_some _ x⟩
def iEnumZipQ (K : PySem.W.Frag) (ta : TA) : TI := fun σ H R => ta σ H fun vs H1 => ∃ k1 k2 a b xs ys, vs = [.ref a, .ref b] ∧ SqB k1 K H1 a xs ∧ SqB k2 K H1 b ys ∧ R (ItEZ K k1 k2 a b xs ys) H1
theorem pi_enumZip {X : Cx} {e e2 : Expr} {ta : TA} {p pos p2 pos2 tpos : Pos} {elts : List Expr} {kk : Nat} (hg2 : Gl X "enumerate") (hm2 : X.mg "enumerate" = none) (hg : Gl X "zip") (hm : X.mg "zip" = none) (ha : PA X [e, e2] ta)
    (hs : starEach [e, e2] X.env = (false, eval e X.env) :: starEach [e2] X.env := by rfl) (hpl : (backTo pos (starEach [e2] X.env)).any (·.1) = false := by rfl)
    (hs2 : starEach [.Call (.Name "zip" p) [e, e2] [] pos] X.env = (false, eval (.Call (.Name "zip" p) [e, e2] [] pos) X.env) :: starEach [] X.env := by rfl) :
    PI X (.Tuple elts kk tpos) (.Call (.Name "enumerate" p2) [.Call (.Name "zip" p) [e, e2] [] pos] [] pos2) (iEnumZipQ X.K ta) := by
  refine ⟨fun pins s σ H R I h => ?_⟩
  refine Call_ (ld_blt I hg2 hm2 boot_enumerate (PyProof.Rows.callWith_type1 (args_cons ?_ hs2) hs2 rfl))
  refine Call_ (ld_blt I hg hm PyProof.Rows.boot_zip (PyProof.Rows.callWith_type1 (thn (ha.run pos pins s σ H _ I h) fun us s1 ⟨vs, H1, I1, r1, q1⟩ => ?_) hs hpl))
  obtain ⟨k1, k2, a, b, xs, ys, ex, hqx, hqy, q⟩ := q1
  subst ex
  cases r1 with
  | cons r rr =>
    cases rr with
    | cons r' rr =>
      cases rr
      cases r
      cases r'
      obtain ⟨its, rv, p1, lt1⟩ := hqx.inv I1
      obtain ⟨its2, rv2, p2, lt2⟩ := hqy.inv I1
      refine zip_begins2 (begB k1 a its.toArray) (begB k2 b its2.toArray) p1 p2 fun h' hz hTI hTO h1 h2 hsz hk => args_nil ?_
      refine enumZ_begins (s := { s1 with heap := h' }) hz fun h3 he hsz3 hk3 => wpAny_pyIter_enum he ?_
      have I2 : Inv X pins σ H1 { s1 with heap := h3 } := I1.kept (t' := s1.toks) fun b o e => hk3 b o (hk b o e)
      have hsz' : h'.objs.size = s1.heap.objs.size + 5 := hsz
      have he' : IsEnum h3 h'.objs.size (s1.heap.objs.size + 4) 0 .none := he
      refine ⟨h'.objs.size, [h'.objs.size, s1.heap.objs.size + 4, s1.heap.objs.size + 2, s1.heap.objs.size + 3, s1.heap.objs.size, s1.heap.objs.size + 1], _, _, H1, rfl, I2,
        turn_enumZip (zip_sep2 (fp1 := [a]) (fp2 := [b]) (fun c hc => by simp at hc; rw [hc]; exact lt1) (fun c hc => by simp at hc; rw [hc]; exact lt2)) (Nat.ne_of_lt lt1) (Nat.ne_of_lt (Nat.lt_succ_of_lt lt2))
          (by rw [hsz']; exact Nat.succ_ne_self _) (by rw [hsz']; exact Nat.ne_of_gt (Nat.add_lt_add_left (by decide) _)) (by rw [hsz']; exact Nat.ne_of_gt (Nat.add_lt_add_left (by decide) _)) (by rw [hsz']; exact Nat.ne_of_gt (Nat.lt_add_of_pos_right (by decide))) (by rw [hsz']; exact Nat.ne_of_gt (Nat.add_lt_add_left (by decide) _)),
        ⟨⟨.none, he'⟩, .inl (hk3 _ _ hz), hk3 _ _ hTI, ⟨_, _, hk3 _ _ hTO⟩, ItB.zero (hk3 _ _ h1), ItB.zero (hk3 _ _ h2)⟩, fun c hcm => ?_, q⟩
      have e' : c = h'.objs.size ∨ c = s1.heap.objs.size + 4 ∨ c = s1.heap.objs.size + 2 ∨ c = s1.heap.objs.size + 3 ∨ c = s1.heap.objs.size ∨ c = s1.heap.objs.size + 1 := by simpa using hcm
      have hle : s1.heap.objs.size ≤ c := by
        rcases e' with z | z | z | z | z | z
        · rw [z, hsz']; exact Nat.le_add_right _ _
        · rw [z]; exact Nat.le_add_right _ _
        · rw [z]; exact Nat.le_add_right _ _
        · rw [z]; exact Nat.le_add_right _ _
        · rw [z]; exact Nat.le_refl _
        · rw [z]; exact Nat.le_add_right _ _
      exact I1.fpOk hle (I1.hok.fresh hle)
def enumPairs (xs ys : List PyData) : List PyData := enumL (List.zipWith pairD xs ys)
@[simp] def iEnumZip (a b : M) : ME := fun st => (a st).bind fun (r1, st1) => (esc st1 r1).bind fun (d1, st2) => (b st2).bind fun (r2, st3) => (esc st3 r2).bind fun (d2, st4) => (zipA d1 d2).map fun ds => (enumL ds, st4)
section
variable {X : Cx} {ea eb ec tg : Expr} {a b : M} {pos p pos2 p2 : Pos}
theorem iv_enumZip {elts : List Expr} {kk : Nat} {tpos : Pos} (hg2 : Gl X "enumerate") (hm2 : X.mg "enumerate" = none) (hg : Gl X "zip") (hm : X.mg "zip" = none) (ha : EV X ea a) (hb : EV X eb b)
    (hs : starEach [ea, eb] X.env = (false, eval ea X.env) :: starEach [eb] X.env := by rfl) (hs2 : starEach [eb] X.env = (false, eval eb X.env) :: starEach [] X.env := by rfl) (hpl : (backTo pos (starEach [eb] X.env)).any (·.1) = false := by rfl)
    (hs3 : starEach [.Call (.Name "zip" p) [ea, eb] [] pos] X.env = (false, eval (.Call (.Name "zip" p) [ea, eb] [] pos) X.env) :: starEach [] X.env := by rfl) :
    IV X (.Tuple elts kk tpos) (.Call (.Name "enumerate" p2) [.Call (.Name "zip" p) [ea, eb] [] pos] [] pos2) (iEnumZip a b) := by
  refine iv_of fun L Hf st ds st' σ H R c e k => ⟨_, pi_enumZip hg2 hm2 hg hm (pa_two ha hb hs hs2) hs hpl hs3, ?_⟩
  unfold iEnumZip at e
  obtain ⟨⟨r1, st1⟩, h1, e⟩ := bind_some2 e
  obtain ⟨⟨d1, st2⟩, h2, e⟩ := bind_some2 e
  obtain ⟨⟨r2, st3⟩, h3, e⟩ := bind_some2 e
  obtain ⟨⟨d2, st4⟩, h4, e⟩ := bind_some2 e
  obtain ⟨ds', h5, e⟩ := map_some2 e
  cases e
  unfold zipA at h5
  obtain ⟨xs, hx, h5⟩ := bind_some2 h5
  obtain ⟨ys, hy, h5⟩ := map_some2 h5
  cases h5
  refine ev_use c h1 fun v H' Hf' s' c' q => ?_
  obtain ⟨Hf2, s2, c2, q2⟩ := esc_ok c' q h2
  refine ev_use c2 h3 fun w H3 Hf3 s3 c3 q3 => ?_
  obtain ⟨Hf4, s4, c4, q4⟩ := esc_ok c3 q3 h4
  have sAll := (s'.trans s2).trans (s3.trans s4)
  obtain ⟨k1, pa, vs, rfl, qa, ra⟩ := (q2.up (s3.trans s4)).seqB hx
  obtain ⟨k2, pb, ws, rfl, qb, rb⟩ := q4.seqB hy
  refine ⟨k1, k2, pa, pb, vs, ws, rfl, qa _ _ c4.le, qb _ _ c4.le, k _ H3 Hf4 sAll c4 fun Hf5 H5 s5 s6 => ⟨fun i d hd => ?_, ?_⟩⟩
  · obtain ⟨pr, hp, rfl⟩ := enum_at hd
    obtain ⟨x, y, hx, hy, rfl⟩ := zip_at hp
    obtain ⟨v1, hv1, rv1⟩ := ra.get hx
    obtain ⟨v2, hv2, rv2⟩ := rb.get hy
    refine ⟨⟨qa _ _ (s5.trans s6), qb _ _ (s5.trans s6), lt_of_get hv1, lt_of_get hv2⟩, fun x' H' y' => ?_⟩
    obtain ⟨T, U, x1, x2, rfl, nT, nU, rfl, g1, g2⟩ := y'
    rw [hv1] at g1; rw [hv2] at g2
    cases g1; cases g2
    exact .tup2 nT nU (.cons (rv1.up s5) (.cons (rv2.up s5) .nil))
  · exact ⟨qa _ _ (s5.trans s6), qb _ _ (s5.trans s6), by unfold enumL; rw [ra.length, rb.length, List.length_map, List.length_zipIdx, List.length_zipWith]⟩
end
end NV
set_option Elab.async false
set_option linter.all false
set_option maxRecDepth 100000
set_option maxHeartbeats 4000000
/-! NV14: names of built-ins; {}; == over tuples that hold a dict -/
namespace NV
open PySem PySem.Spec PyProof.Rows L2 SeqAt
open AutoSeq1 (wpAny_loadPart')

theorem bt_len : bootBuiltins "len" = some (.builtin "len") := by kernel_rfl
theorem bt_abs : bootBuiltins "abs" = some (.builtin "abs") := by kernel_rfl
theorem bt_min : bootBuiltins "min" = some (.builtin "min") := by kernel_rfl
theorem bt_max : bootBuiltins "max" = some (.builtin "max") := by kernel_rfl
theorem bt_sum : bootBuiltins "sum" = some (.builtin "sum") := by kernel_rfl
theorem bt_all : bootBuiltins "all" = some (.builtin "all") := by kernel_rfl
theorem bt_any : bootBuiltins "any" = some (.builtin "any") := by kernel_rfl
theorem bt_repr : bootBuiltins "repr" = some (.builtin "repr") := by kernel_rfl
theorem bt_sorted : bootBuiltins "sorted" = some (.builtin "sorted") := by kernel_rfl
theorem bt_isinstance : bootBuiltins "isinstance" = some (.builtin "isinstance") := by kernel_rfl
theorem bt_int : bootBuiltins "int" = some (.type "int") := by kernel_rfl
theorem bt_bool : bootBuiltins "bool" = some (.type "bool") := by kernel_rfl
theorem bt_str : bootBuiltins "str" = some (.type "str") := by kernel_rfl
theorem bt_tuple : bootBuiltins "tuple" = some (.type "tuple") := by kernel_rfl
theorem bt_list : bootBuiltins "list" = some (.type "list") := by kernel_rfl

/-! ### {} -/
@[simp] def mDic0 : M := fun st => some (.dat (.dict []), st)
theorem ev_dic0 {X : Cx} {pos : Pos} : EV X (.Dict [] [] pos) mDic0 := by
  refine ev_of fun L Hf st r st' σ H Q c e k => ⟨_, pe_dnewK, ?_⟩
  cases e
  exact fun p hp => (Grow.dct hp .nil).after c k

/-! ### a dict is no text -/
section
variable {A : Around} {s : Shared}
theorem dict_declines (l : Addr) (o : Obj) (hc : o.cls = .type "dict") (b : Str) (u : Tok) :
    Meets (Builtin.«dict.__eq__» ⟨[.ref l, .str b u], []⟩) (fun _ R s => s.heap.get? l = some o ∧ R (.ok (.ret .notImplemented)) s) :=
  .of_wp fun prog w A R s h => by
    obtain ⟨hl, h⟩ := h
    have hT : s.TypeIs (.ref l) "dict" := ⟨o, hl, hc⟩
    show wpAny _ _ (Builtin.Dict.dictSlotArgs "__eq__" ⟨[.ref l, .str b u], []⟩ >>= _) _ _ s
    refine wpAny_bind ?_
    unfold Builtin.Dict.dictSlotArgs
    refine wpAny_bind (wpAny_notOrdered_dict hT ?_)
    show wpAny _ _ (pure (Value.ref l, Value.str b u)) _ _ s
    refine wpAny_pure ?_
    refine wpAny_bind (wpAny_isInstance (T := "str") (b := false) (typeIs_str s b u) F.sub_str_dict ?_)
    simp only [Bool.not_false, if_true]
    refine wpAny_bind (wpAny_rule ?_)
    exact wpAny_pure ⟨_, rfl, h⟩
theorem str_declines_dict (b : Str) (u : Tok) (l : Addr) (o : Obj) (es : Array DictEntry) (ep : Nat) (hd : o.data = .dict es ep) :
    Meets (Builtin.«str.__eq__» ⟨[.str b u, .ref l], []⟩) (fun _ R s => s.heap.get? l = some o ∧ R (.ok (.ret .notImplemented)) s) :=
  .of_wp fun prog w A R s h => by
    obtain ⟨c, dd, dt, sl⟩ := o
    replace hd : dt = .dict es ep := hd
    subst hd
    obtain ⟨hp, g, d, tk, os⟩ := s; obtain ⟨hl, h⟩ := h; wp_walk using wpAny_loadPart' hl, wpAny_load hl; exact ⟨_, rfl, h⟩
theorem rc_dict_str {l : Addr} {o : Obj} {es : Array DictEntry} {ep : Nat} (b : Str) (u : Tok) (hl : s.heap.get? l = some o) (hc : o.cls = .type "dict") (hd : o.data = .dict es ep) (hu : A.units < cLine) : RcAt A s (.ref l) (.str b u) false := fun prog w E Q h => by
  exact rc_eq_decline_or (k := false) ⟨_, hl, hc⟩ (typeIs_str s b u) (by decide) F.sub_str_dict F.slot_dict_eq F.slot_str_eq_refl
    (fun _ hq => call_meets F.slot_dict_eq ⟨_, hl, hc⟩ F.entry_dict_eq (F.args_dict_eq_2 _ _) (dict_declines l o hc b u) ⟨hl, hq⟩)
    (fun _ hq => call_meets F.slot_str_eq_refl (typeIs_str s b u) F.entry_str_eq (F.args_str_eq_2 _ _) (str_declines_dict b u l o es ep hd) ⟨hl, hq⟩)
    (fun _ hq => wpAny_of_eq (rfl : isSame (.ref l) (.str b u) = pure false) hq) (.inr hu) h
theorem eq_dict_str {l : Addr} {o : Obj} {es : Array DictEntry} {ep : Nat} (b : Str) (u : Tok) (hl : s.heap.get? l = some o) (hc : o.cls = .type "dict") (hd : o.data = .dict es ep) (hu : A.units < cLine) : EqAt A s (.ref l) (.str b u) false := fun prog w E Q h => by
  unfold eqBool
  refine wpAny_holding ?_
  refine wpAny_ite_split (fun hab => absurd (eq_of_beq hab) nofun) (fun _ => ?_)
  exact wpAny_bind (rc_dict_str b u hl hc hd hu prog w E _ (wpAny_truthy_bool h))
end
/-! ### == -/
def okP (d e : PyData) : Bool := (SeqAt.shaped d && SeqAt.shaped e) || (match d, e with | .dict _, .str _ => true | _, _ => false)
def pairsOk : List PyData → List PyData → Bool
  | x :: xs, y :: ys => okP x y && pairsOk xs ys
  | _, _ => true
theorem pairsOk_at : ∀ {xs ys : List PyData} {j : Nat} {x y : PyData}, pairsOk xs ys = true → xs[j]? = some x → ys[j]? = some y → okP x y = true
  | [], _, _, _, _, _, h, _ => nomatch h
  | _ :: _, [], _, _, _, _, _, h => nomatch h
  | a :: xs, b :: ys, 0, x, y, h, h1, h2 => by cases h1; cases h2; exact (Bool.and_eq_true_iff.mp h).1
  | a :: xs, b :: ys, j + 1, x, y, h, h1, h2 => pairsOk_at (j := j) (Bool.and_eq_true_iff.mp h).2 h1 h2
@[simp] def eqR2 (d e : PyData) : Option Bool := match d, e with
  | .tuple xs, .tuple ys => if pairsOk xs ys = true then some (PyData.eqvAll xs ys) else none
  | d, e => eqR d e
@[simp] def eqD2 (d e : PyData) : Option R := (eqR2 d e).map fun b => .dat (.bool b)
def rEqT (K : PySem.W.Frag) : R2 := fun x y H Q => ∃ (Hf : Hp) (a b : Addr) (vs ws : List V) (xs ys : List PyData), Sub Hf H ∧ x = .ref a ∧ y = .ref b ∧ H a = some (.tup vs) ∧ H b = some (.tup ws) ∧ RpL Hf vs xs ∧ RpL Hf ws ys ∧ pairsOk xs ys = true ∧ Q (.bl (PyData.eqvAll xs ys)) H
theorem op_eqT {X : Cx} (hu : X.A.units + 80 < cLine) : OpR X (compareOp .Eq) (rEqT X.K) := by
  intro pins s σ H x y v u Q I rx ry h
  obtain ⟨Hf, a, b, vs, ws, xs, ys, sb, rfl, rfl, ha, hb, rv, rw', ok, q⟩ := h
  obtain rfl : v = Value.ref a := rx
  obtain rfl : u = Value.ref b := ry
  obtain ⟨its, vi, p1, _⟩ := I.tuple (SqT.of ha)
  obtain ⟨its2, vi2, p2, _⟩ := I.tuple (SqT.of hb)
  have p1' : s.heap.IsTuple a its.toArray := p1
  have p2' : s.heap.IsTuple b its2.toArray := p2
  have l1 : its.length = xs.length := by rw [← vi.length, rv.length]
  have l2 : its2.length = ys.length := by rw [← vi2.length, rw'.length]
  refine eq_tupleAt (e := pairEq xs ys) p1' p2' (by omega) (fun j h1 h2 => ?_) ?_
  · have j1 : j < xs.length := by simp at h1; omega
    have j2 : j < ys.length := by simp at h2; omega
    have ex : xs[j]? = some xs[j] := List.getElem?_eq_getElem j1
    have ey : ys[j]? = some ys[j] := List.getElem?_eq_getElem j2
    obtain ⟨v1, hv1, rp1⟩ := rv.get ex
    obtain ⟨v2, hv2, rp2⟩ := rw'.get ey
    obtain ⟨u1, hu1, r1⟩ := vi.get hv1
    obtain ⟨u2, hu2, r2⟩ := vi2.get hv2
    have e1 : its.toArray[j] = u1 := by
      have := (List.getElem?_eq_some_iff.mp hu1).2
      simpa using this
    have e2 : its2.toArray[j] = u2 := by
      have := (List.getElem?_eq_some_iff.mp hu2).2
      simpa using this
    have e3 : pairEq xs ys j = PyData.eqv xs[j] ys[j] := by simp only [pairEq, List.getD_eq_getElem?_getD, ex, ey, Option.getD_some]
    rw [e1, e2, e3]
    have hok := pairsOk_at ok ex ey
    unfold okP at hok
    rcases Bool.or_eq_true_iff.mp hok with hs | hs
    · have s1 := (Bool.and_eq_true_iff.mp hs).1
      have s2 := (Bool.and_eq_true_iff.mp hs).2
      obtain ⟨as, q1⟩ := Dp.reads (X := X) I _ _ _ (Rp.dp _ _ (canLay_of_shaped s1) (rp1.up sb)) r1
      obtain ⟨bs, q2⟩ := Dp.reads (X := X) I _ _ _ (Rp.dp _ _ (canLay_of_shaped s2) (rp2.up sb)) r2
      exact eqAt_reads _ _ _ _ _ _ _ _ q1 q2 (canLay_of_shaped s1) (canLay_of_shaped s2) (room_of_shaped s1 (by show X.A.units + 1 + 64 < cLine; omega))
    · split at hs
      · rename_i ks t h1 h2
        rw [h1] at rp1 ⊢
        rw [h2] at rp2 ⊢
        cases rp1 with
        | dct e he =>
          cases rp2
          obtain rfl : u1 = Value.ref _ := r1
          obtain ⟨tk, rfl⟩ := r2
          obtain ⟨_, hsys, vs, rv, o, es, ep, ho, hex, hd, _⟩ := I.hok _ _ (sb _ _ e)
          exact eq_dict_str _ _ ho hex.1 hd (by show X.A.units + 1 < cLine; omega)
      · cases hs
  · refine ⟨.bl _, H, I, rfl, ?_⟩
    have e4 : its.toArray.size = xs.length := by simp; exact l1
    have e5 : its2.toArray.size = ys.length := by simp; exact l2
    rw [e4, e5, eqvAll_eq]
    exact q
theorem d_eq2 {X : Cx} (g : Gd X) : DOp X (compareOp .Eq) eqD2 := by
  intro Hf H x y d1 d2 r Q s rx ry e k
  unfold eqD2 eqR2 at e
  split at e
  · rename_i xs ys
    split at e
    · rename_i hok
      cases e
      obtain ⟨a, vs, rfl, ea, ra⟩ := rx.tup s
      obtain ⟨b, ws, rfl, eb, rb⟩ := ry.tup s
      exact ⟨_, op_eqT (by have := g.un; omega), Hf, a, b, vs, ws, xs, ys, s, rfl, rfl, ea, eb, ra, rb, hok, k _ _ (.old (.bl _))⟩
    · cases e
  · exact d_eq g Hf H x y _ _ r Q s rx ry e k
end NV
set_option Elab.async false
set_option linter.all false
set_option maxRecDepth 100000
set_option maxHeartbeats 4000000
/-! NV15: running the readings -/
namespace NV
open PySem PySem.Spec PyProof.Rows L2

/-- a state by its slots -/
def stL (l : List Sl) (z : Option Src) : Sta := ⟨fun i => l.getD i .emp, z⟩
@[simp] theorem stL_e {l : List Sl} {z : Option Src} {i : Nat} : (stL l z).e i = l.getD i .emp := rfl
@[simp] theorem stL_z {l : List Sl} {z : Option Src} : (stL l z).z = z := rfl
theorem Sta.ext' {a b : Sta} (h : ∀ i, a.e i = b.e i) (hz : a.z = b.z) : a = b := by
  obtain ⟨e, z⟩ := a
  obtain ⟨e', z'⟩ := b
  obtain rfl : z = z' := hz
  obtain rfl : e = e' := funext h
  rfl
@[simp] theorem stL_put {l : List Sl} {z : Option Src} {i : Nat} {x : Sl} (h : i < l.length) : (stL l z).put i x = stL (l.set i x) z := by
  refine Sta.ext' (fun j => ?_) rfl
  show (if j = i then x else l.getD j Sl.emp) = (l.set i x).getD j Sl.emp
  rw [List.getD_eq_getElem?_getD, List.getD_eq_getElem?_getD, List.getElem?_set]
  by_cases hj : j = i
  · subst hj; rw [if_pos rfl, if_pos rfl, if_pos h]; rfl
  · rw [if_neg hj, if_neg fun q => hj q.symm]
@[simp] theorem stL_mk {l : List Sl} {z z' : Option Src} : (⟨(stL l z).e, z'⟩ : Sta) = stL l z' := rfl
@[simp] theorem clr_nil {st : Sta} : clr [] st = st := Sta.ext' (fun j => by show (if j ∈ ([] : List Nat) then Sl.emp else st.e j) = st.e j; rw [if_neg List.not_mem_nil]) rfl
@[simp] theorem clr_cons {i : Nat} {vs : List Nat} {st : Sta} : clr (i :: vs) st = clr vs (st.put i .emp) := by
  refine Sta.ext' (fun j => ?_) rfl
  show (if j ∈ i :: vs then Sl.emp else st.e j) = if j ∈ vs then Sl.emp else if j = i then Sl.emp else st.e j
  by_cases h1 : j = i
  · subst h1; simp
  · by_cases h2 : j ∈ vs <;> simp [h1, h2]
@[simp] theorem unclr_nil {s0 st : Sta} : unclr [] s0 st = st := Sta.ext' (fun j => by show (if j ∈ ([] : List Nat) then s0.e j else st.e j) = st.e j; rw [if_neg List.not_mem_nil]) rfl
@[simp] theorem unclr_cons {i : Nat} {vs : List Nat} {s0 st : Sta} : unclr (i :: vs) s0 st = unclr vs s0 (st.put i (s0.e i)) := by
  refine Sta.ext' (fun j => ?_) rfl
  show (if j ∈ i :: vs then s0.e j else st.e j) = if j ∈ vs then s0.e j else if j = i then s0.e i else st.e j
  by_cases h1 : j = i
  · subst h1; simp
  · by_cases h2 : j ∈ vs <;> simp [h1, h2]
theorem argE_st (m : Nat) (ds : List PyData) (z : Option Src) : (⟨argE ds, z⟩ : Sta) = stL (ds.map Sl.val ++ List.replicate m Sl.emp) z := by
  refine Sta.ext' (fun j => ?_) rfl
  show argE ds j = (ds.map Sl.val ++ List.replicate m Sl.emp).getD j Sl.emp
  unfold argE
  rw [List.getD_eq_getElem?_getD]
  by_cases h : j < ds.length
  · rw [List.getElem?_append_left (by simpa using h), List.getElem?_map, List.getElem?_eq_getElem h]; rfl
  · rw [List.getElem?_eq_none (by omega), List.getElem?_append_right (by simp; omega), List.getElem?_replicate]
    show Sl.emp = _
    by_cases q : j - (List.map Sl.val ds).length < m
    · rw [if_pos q]; rfl
    · rw [if_neg q]; rfl
theorem argS_st (m : Nat) (ds : List PyData) (z : Option Src) : (⟨fun i => match i with | 0 => .src | i + 1 => argE ds i, z⟩ : Sta) = stL (.src :: (ds.map Sl.val ++ List.replicate m Sl.emp)) z := by
  refine Sta.ext' (fun j => ?_) rfl
  cases j with
  | zero => rfl
  | succ j =>
    have := congrArg (fun s : Sta => s.e j) (argE_st m ds z)
    exact this

/-! ### comprehensions -/
@[simp] def stepC (vs : List Nat) (t : MG) (tt : MT) (el : M) (d : PyData) (st : Sta) : Option (Option PyData × Sta) :=
  (t d st).bind fun st1 => (tt st1).bind fun (b, st2) => if b = true then (el st2).bind fun (r, st3) => (esc st3 r).map fun (e, st4) => (some e, clr vs st4) else some (none, clr vs st2)
theorem runC_step {vs : List Nat} {t : MG} {tt : MT} {el : M} {d : PyData} {ds : List PyData} {st st' : Sta} {acc : List PyData} {o : Option PyData} (h : stepC vs t tt el d st = some (o, st')) (hl : acc.length < sizeLine) :
    runC vs t tt el (d :: ds) st acc = runC vs t tt el ds st' (acc ++ o.toList) := by
  unfold stepC at h
  show ((t d st).bind fun st1 => (tt st1).bind fun (b, st2) => if b = true then (el st2).bind fun (r, st3) => (esc st3 r).bind fun (e, st4) => if acc.length < sizeLine then runC vs t tt el ds (clr vs st4) (acc ++ [e]) else none
      else runC vs t tt el ds (clr vs st2) acc) = _
  obtain ⟨st1, h1, h⟩ := bind_some2 h
  obtain ⟨⟨b, st2⟩, h2, h⟩ := bind_some2 h
  rw [h1, Option.bind_some, h2, Option.bind_some]
  dsimp only at h ⊢
  cases b with
  | false =>
    rw [if_neg (by decide)] at h ⊢
    cases h
    simp
  | true =>
    rw [if_pos rfl] at h ⊢
    obtain ⟨⟨r, st3⟩, h3, h⟩ := bind_some2 h
    obtain ⟨⟨e, st4⟩, h4, h⟩ := map_some2 h
    cases h
    rw [h3, Option.bind_some, h4, Option.bind_some]
    dsimp only
    rw [if_pos hl]
    rfl
/-- a comprehension that leaves the state as it was -/
theorem runC_pure {vs : List Nat} {t : MG} {tt : MT} {el : M} {st : Sta} {f : PyData → Option PyData} : ∀ {ds : List PyData} {acc : List PyData}, (∀ d ∈ ds, stepC vs t tt el d st = some (f d, st)) → acc.length + ds.length ≤ sizeLine →
    runC vs t tt el ds st acc = some (acc ++ ds.filterMap f, st)
  | [], acc, _, _ => by rw [List.filterMap_nil, List.append_nil]; rfl
  | d :: ds, acc, h, hl => by
    rw [List.length_cons] at hl
    rw [runC_step (h d (List.mem_cons_self ..)) (by omega), runC_pure (ds := ds) (fun x hx => h x (List.mem_cons_of_mem _ hx)) (by
      rw [List.length_append]
      have : (f d).toList.length ≤ 1 := by cases f d <;> simp
      omega)]
    rw [List.append_assoc]
    congr 2
    rw [List.filterMap_cons]
    cases f d <;> rfl
/-- .. that passes states on -/
theorem runC_thread {α : Type} {vs : List Nat} {t : MG} {tt : MT} {el : M} (S : α → Sta) (f : α → PyData → PyData) (nx : α → PyData → α) : ∀ {ds : List PyData} {a : α} {acc : List PyData}, (∀ a, ∀ d ∈ ds, stepC vs t tt el d (S a) = some (some (f a d), S (nx a d))) → acc.length + ds.length ≤ sizeLine →
    ∃ out : List PyData, out.length = ds.length ∧ runC vs t tt el ds (S a) acc = some (acc ++ out, S (ds.foldl nx a)) ∧ ∀ e ∈ out, ∃ a d, d ∈ ds ∧ e = f a d
  | [], a, acc, _, _ => ⟨[], rfl, by rw [List.append_nil]; rfl, fun e he => nomatch he⟩
  | d :: ds, a, acc, h, hl => by
    rw [List.length_cons] at hl
    obtain ⟨out, h1, h2, h3⟩ := runC_thread S f nx (ds := ds) (a := nx a d) (acc := acc ++ [f a d]) (fun a x hx => h a x (List.mem_cons_of_mem _ hx)) (by rw [List.length_append]; simp; omega)
    refine ⟨f a d :: out, by simp [h1], ?_, fun e he => ?_⟩
    · rw [runC_step (h a d (List.mem_cons_self ..)) (by omega)]
      show runC vs t tt el ds (S (nx a d)) (acc ++ [f a d]) = _
      rw [h2, List.append_assoc]; rfl
    · rcases List.mem_cons.mp he with rfl | he
      · exact ⟨a, d, List.mem_cons_self .., rfl⟩
      · obtain ⟨a', d', hd, rfl⟩ := h3 e he
        exact ⟨a', d', List.mem_cons_of_mem _ hd, rfl⟩

/-! ### for -/
theorem runFor_inv {t : MG} {b : MS} (ds : List PyData) (I : Nat → Sta → Prop) (hs : ∀ k d st, ds[k]? = some d → I k st → ∃ st1 o st2, t d st = some st1 ∧ b st1 = some (o, st2) ∧ (o = .nx ∨ o = .ct) ∧ I (k + 1) st2) :
    ∀ (n k : Nat) (st : Sta), ds.length - k = n → k ≤ ds.length → I k st → ∃ st', runFor t b (ds.drop k) st = some (.nx, st') ∧ I ds.length st'
  | 0, k, st, hn, hk, h => by
    have : k = ds.length := by omega
    subst this
    rw [List.drop_length]
    exact ⟨st, rfl, h⟩
  | n + 1, k, st, hn, hk, h => by
    obtain ⟨x, hx, he⟩ := drop_at (l := ds) (i := k) (by omega)
    obtain ⟨st1, o, st2, h1, h2, ho, hI⟩ := hs k x st hx h
    obtain ⟨st', h3, h4⟩ := runFor_inv ds I hs n (k + 1) st2 (by omega) (by omega) hI
    refine ⟨st', ?_, h4⟩
    rw [he]
    unfold runFor
    rw [h1, Option.bind_some, h2, Option.bind_some]
    rcases ho with rfl | rfl
    · exact h3
    · exact h3
theorem runFor_all {t : MG} {b : MS} {ds : List PyData} (I : Nat → Sta → Prop) {st : Sta} (h0 : I 0 st) (hs : ∀ k d st, ds[k]? = some d → I k st → ∃ st1 o st2, t d st = some st1 ∧ b st1 = some (o, st2) ∧ (o = .nx ∨ o = .ct) ∧ I (k + 1) st2) :
    ∃ st', runFor t b ds st = some (.nx, st') ∧ I ds.length st' := by
  have := runFor_inv ds I hs ds.length 0 st (by omega) (by omega) h0
  rwa [List.drop_zero] at this
/-! ### while -/
theorem sWhile_stop {n : Nat} {t : MT} {b : MS} {st st1 : Sta} (h : t st = some (false, st1)) : sWhile (n + 1) t b st = some (.nx, st1) := by
  unfold sWhile
  rw [h, Option.bind_some]
  rfl
theorem sWhile_turn {n : Nat} {t : MT} {b : MS} {st st1 st2 : Sta} (h : t st = some (true, st1)) (h2 : b st1 = some (.nx, st2)) : sWhile (n + 1) t b st = sWhile n t b st2 := by
  conv => lhs; unfold sWhile
  rw [h, Option.bind_some]
  show ((b st1).bind fun x => _) = _
  rw [h2, Option.bind_some]
end NV
set_option Elab.async false
set_option linter.all false
set_option maxRecDepth 100000
set_option maxHeartbeats 4000000
/-! NV16: plain facts of lists of data, of texts shown -/
namespace NV
open PySem PySem.Spec PyProof.Rows L2

abbrev pI (ns : List Int) : List PyData := ns.map PyData.int
theorem cutD_from (xs : List PyData) (k : Nat) : cutD xs (some (k : Int)) none = xs.drop k := by
  unfold cutD
  rw [HT.sIx_none, HT.sIx_nat]
  by_cases h : k ≤ xs.length
  · rw [Nat.min_eq_left h, List.take_of_length_le (by rw [List.length_drop]; exact Nat.le_refl _)]
  · rw [Nat.min_eq_right (by omega), List.drop_of_length_le (by omega), List.drop_of_length_le (by omega), List.take_nil]
theorem cutD_to (xs : List PyData) (k : Nat) : cutD xs none (some (k : Int)) = xs.take k := by
  unfold cutD
  rw [HT.sIx_none, HT.sIx_nat, List.drop_zero, Nat.sub_zero]
  by_cases h : k ≤ xs.length
  · rw [Nat.min_eq_left h]
  · rw [Nat.min_eq_right (by omega), List.take_length, List.take_of_length_le (by omega)]
theorem atI_nat {α : Type} (xs : List α) (i : Nat) : atI xs (i : Int) = xs[i]? := by
  unfold atI ixN
  by_cases h : i < xs.length
  · simp [h]
  · simp [h]
theorem ixN_nat (n i : Nat) (h : i < n) : ixN n (i : Int) = some i := by
  unfold ixN
  simp [h]
theorem filterMap_if {α β : Type} (p : α → Bool) (g : α → β) : ∀ l : List α, l.filterMap (fun i => if p i = true then some (g i) else none) = (l.filter p).map g
  | [] => rfl
  | a :: l => by
    rw [List.filterMap_cons, List.filter_cons, filterMap_if p g l]
    cases p a <;> rfl
def nth (ns : List Int) (i : Nat) : Int := ns.getD i 0
theorem nth_get {ns : List Int} {i : Nat} (h : i < ns.length) : ns[i]? = some (nth ns i) := by
  unfold nth
  rw [List.getD_eq_getElem?_getD, List.getElem?_eq_getElem h]; rfl
theorem nth_mem {ns : List Int} {i : Nat} (h : i < ns.length) : nth ns i ∈ ns := List.mem_of_getElem? (nth_get h)
theorem pI_get {ns : List Int} {i : Nat} (h : i < ns.length) : (pI ns)[i]? = some (.int (nth ns i)) := by rw [List.getElem?_map, nth_get h]; rfl
theorem pI_at {ns : List Int} {i : Nat} (h : i < ns.length) : atI (pI ns) (i : Int) = some (.int (nth ns i)) := by rw [atI_nat, pI_get h]
theorem pI_set (ns : List Int) (i : Nat) (x : Int) : (pI ns).set i (.int x) = pI (ns.set i x) := by show List.set (List.map PyData.int ns) i (PyData.int x) = List.map PyData.int (ns.set i x); rw [List.map_set]
theorem nth_set {ns : List Int} {i j : Nat} {x : Int} (h : i < ns.length) : nth (ns.set i x) j = if j = i then x else nth ns j := by
  unfold nth
  rw [List.getD_eq_getElem?_getD, List.getElem?_set, List.getD_eq_getElem?_getD]
  by_cases e : j = i
  · subst e; rw [if_pos rfl, if_pos rfl, if_pos h]; rfl
  · rw [if_neg e, if_neg fun q => e q.symm]
@[simp] theorem sizeLine_lit : sizeLine = 16777216 := by decide
@[simp] theorem atI_0 {α : Type} (xs : List α) : atI xs 0 = xs[0]? := atI_nat xs 0
@[simp] theorem atI_1 {α : Type} (xs : List α) : atI xs 1 = xs[1]? := atI_nat xs 1
@[simp] theorem atI_2 {α : Type} (xs : List α) : atI xs 2 = xs[2]? := atI_nat xs 2
@[simp] theorem atI_3 {α : Type} (xs : List α) : atI xs 3 = xs[3]? := atI_nat xs 3
/-- what is shown is short -/
theorem int_leaf {i : Int} (h : i.natAbs < 10 ^ 12) : (PyData.shown (.int i)).length ≤ 13 := PyData.shown_int_le h
theorem int_log {i : Int} (h : i.natAbs < 10 ^ 12) : i.natAbs.log2 < 1920 := by
  by_cases h0 : i.natAbs = 0
  · rw [h0]; decide
  · have : i.natAbs.log2 < 40 := (Nat.log2_lt h0).mpr (Nat.lt_of_lt_of_le h (by decide))
    omega
theorem int_weight {i : Int} (h : i.natAbs < 10 ^ 12) : PyData.weight (.int i) ≤ 40 := by
  unfold PyData.weight
  split
  · omega
  · rename_i h0
    have h1 : i.natAbs ≠ 0 := fun q => h0 (by simpa using q)
    have : i.natAbs.log2 < 40 := (Nat.log2_lt h1).mpr (Nat.lt_of_lt_of_le h (by decide))
    omega
theorem reprOk_of {d : PyData} (h1 : d.leavesShort 13 = true) (h2 : d.showable = true) (h3 : d.weight ≤ 100000) (h4 : d.depth ≤ 64) (h5 : (!d.hasDict || nol d) = true) : reprOk d = true := by
  have h := PyData.shown_le 13 (by decide) d h1
  unfold reprOk
  have e : decide (d.shown.length ≤ sizeLine) = true := decide_eq_true (by rw [sizeLine_eq]; omega)
  rw [h2, e, h5, decide_eq_true h4]; rfl
def small (ns : List Int) : Prop := ∀ n ∈ ns, n.natAbs < 10 ^ 12
theorem ints_short : ∀ {ns : List Int}, small ns → PyData.leavesShortAll 13 (pI ns) = true
  | [], _ => rfl
  | n :: r, h => by
    show (PyData.leavesShort 13 (.int n) && PyData.leavesShortAll 13 (pI r)) = true
    rw [ints_short fun m hm => h m (List.mem_cons_of_mem _ hm), Bool.and_true]
    show decide _ = true
    exact decide_eq_true (int_leaf (h n (List.mem_cons_self ..)))
theorem ints_showable : ∀ {ns : List Int}, small ns → PyData.showableAll (pI ns) = true
  | [], _ => rfl
  | n :: r, h => by
    show (PyData.showable (.int n) && PyData.showableAll (pI r)) = true
    rw [ints_showable fun m hm => h m (List.mem_cons_of_mem _ hm), Bool.and_true]
    exact decide_eq_true (int_log (h n (List.mem_cons_self ..)))
theorem ints_weight : ∀ {ns : List Int}, small ns → PyData.weightAll (pI ns) ≤ 41 * ns.length
  | [], _ => Nat.le_refl _
  | n :: r, h => by
    have h1 := ints_weight fun m hm => h m (List.mem_cons_of_mem _ hm)
    have h2 := int_weight (h n (List.mem_cons_self ..))
    show PyData.weight (.int n) + 1 + PyData.weightAll (pI r) ≤ 41 * (r.length + 1)
    omega
theorem ints_depth : ∀ (ns : List Int), PyData.depthAll (pI ns) ≤ 1
  | [] => Nat.zero_le _
  | n :: r => by
    have h1 := ints_depth r
    show max (PyData.depth (.int n)) (PyData.depthAll (pI r)) ≤ 1
    have : PyData.depth (.int n) ≤ 1 := by unfold PyData.depth; omega
    omega
theorem ints_noDict : ∀ (ns : List Int), PyData.hasDictAll (pI ns) = false
  | [] => rfl
  | n :: r => by
    show (PyData.hasDict (.int n) || PyData.hasDictAll (pI r)) = false
    rw [ints_noDict r]; rfl
theorem repr_ints {ns : List Int} (h : small ns) (hl : ns.length ≤ 1000) : reprOk (.tuple (pI ns)) = true := by
  refine reprOk_of ?_ ?_ ?_ ?_ ?_
  · simp only [PyData.leavesShort]; exact ints_short h
  · simp only [PyData.showable]; exact ints_showable h
  · have := ints_weight h
    simp only [PyData.weight]; omega
  · have := ints_depth ns
    simp only [PyData.depth]; omega
  · simp only [PyData.hasDict]; rw [ints_noDict]; rfl
@[simp] theorem eqv_nil (xs : List PyData) : PyData.eqv (.list xs) (.list []) = xs.isEmpty := by cases xs <;> rfl
@[simp] theorem eqv_tnil (xs : List PyData) : PyData.eqv (.tuple xs) (.tuple []) = xs.isEmpty := by cases xs <;> rfl
@[simp] theorem eqvAll_nil (xs : List PyData) : PyData.eqvAll xs [] = xs.isEmpty := by cases xs <;> rfl
@[simp] theorem shaped_nil : SeqAt.shaped (.list []) = true := by decide
@[simp] theorem shaped_tnil : SeqAt.shaped (.tuple []) = true := by decide
@[simp] theorem pairsOk_nil (xs : List PyData) : pairsOk xs [] = true := by cases xs <;> rfl
theorem canLay_ints : ∀ ns : List Int, PyData.canLayAll0 (pI ns) = true
  | [] => rfl
  | n :: r => by
    show (PyData.canLay0 (.int n) && PyData.canLayAll0 (pI r)) = true
    rw [canLay_ints r]; rfl
theorem shaped_tints (ns : List Int) : SeqAt.shaped (.tuple (pI ns)) = true := by
  have h := ints_depth ns
  unfold SeqAt.shaped
  rw [show PyData.canLay0 (.tuple (pI ns)) = true from canLay_ints ns, Bool.true_and]
  exact decide_eq_true (by simp only [PyData.depth]; omega)
theorem shaped_ints (ns : List Int) : SeqAt.shaped (.list (pI ns)) = true := by
  have h := ints_depth ns
  unfold SeqAt.shaped
  rw [show PyData.canLay0 (.list (pI ns)) = true from canLay_ints ns, Bool.true_and]
  exact decide_eq_true (by simp only [PyData.depth]; omega)
abbrev pN (l : List Nat) : List PyData := l.map fun i => PyData.int (i : Nat)
theorem pN_pI (l : List Nat) : pN l = pI (l.map fun i => ((i : Nat) : Int)) := by
  show _ = List.map PyData.int (List.map _ l)
  rw [List.map_map]; rfl
@[simp] theorem shaped_nats (l : List Nat) : SeqAt.shaped (.list (l.map fun i => PyData.int (i : Nat))) = true := by
  have := pN_pI l
  rw [show (l.map fun i => PyData.int (i : Nat)) = _ from this]
  exact shaped_ints _
end NV
set_option Elab.async false
set_option linter.all false
set_option maxRecDepth 100000
set_option maxHeartbeats 4000000
/-! NV17: draws, told by two functions of which only the bounds are known -/
namespace NV
open PySem PySem.Spec PyProof.Rows L2
def drawL (e : Src → Int) (nx : Src → Src) : Nat → Src → List Int
  | 0, _ => []
  | n + 1, z => e z :: drawL e nx n (nx z)
def drawZ (nx : Src → Src) : Nat → Src → Src
  | 0, z => z
  | n + 1, z => drawZ nx n (nx z)
theorem drawL_len (e : Src → Int) (nx : Src → Src) : ∀ (n : Nat) (z : Src), (drawL e nx n z).length = n
  | 0, _ => rfl
  | n + 1, z => by show (drawL e nx n (nx z)).length + 1 = _; rw [drawL_len e nx n]
theorem drawL_all {P : Int → Prop} (e : Src → Int) (nx : Src → Src) (h : ∀ z, P (e z)) : ∀ (n : Nat) (z : Src), ∀ x ∈ drawL e nx n z, P x
  | 0, _, x, hx => by cases hx
  | n + 1, z, x, hx => by
    rcases List.mem_cons.mp hx with rfl | hx
    · exact h z
    · exact drawL_all e nx h n _ x hx
theorem runC_draw {vs : List Nat} {t : MG} {tt : MT} {el : M} (S : Src → Sta) (e : Src → Int) (nx : Src → Src) : ∀ {ds : List PyData} {z : Src} {acc : List PyData}, (∀ z, ∀ d ∈ ds, stepC vs t tt el d (S z) = some (some (.int (e z)), S (nx z))) → acc.length + ds.length ≤ sizeLine →
    runC vs t tt el ds (S z) acc = some (acc ++ pI (drawL e nx ds.length z), S (drawZ nx ds.length z))
  | [], z, acc, _, _ => by
    show some (acc, S z) = some (acc ++ [], S z)
    rw [List.append_nil]
  | d :: ds, z, acc, h, hl => by
    rw [List.length_cons] at hl
    rw [runC_step (h z d (List.mem_cons_self ..)) (by omega), runC_draw S e nx (fun z x hx => h z x (List.mem_cons_of_mem _ hx)) (by rw [List.length_append]; simp only [Option.toList_some, List.length_cons, List.length_nil]; omega)]
    show some ((acc ++ [.int (e z)]) ++ pI (drawL e nx ds.length (nx z)), _) = some (acc ++ pI (e z :: drawL e nx ds.length (nx z)), _)
    rw [List.append_assoc]; rfl
theorem sCons_nx {a b : MS} {st st1 : Sta} (h : a st = some (.nx, st1)) : sCons a b st = b st1 := by
  unfold sCons
  rw [h]; rfl
theorem sCons_rt {a b : MS} {st st1 : Sta} {d : PyData} (h : a st = some (.rt d, st1)) : sCons a b st = some (.rt d, st1) := by
  unfold sCons
  rw [h]; rfl
theorem sCons_rtF {a b : MS} {st st1 : Sta} {d : List PyData} (h : a st = some (.rtF d, st1)) : sCons a b st = some (.rtF d, st1) := by
  unfold sCons
  rw [h]; rfl
theorem small62 {n : Nat} (hn : n ≤ 16777216) : -(2 ^ 62) ≤ (n : Int) ∧ (n : Int) < 2 ^ 62 := ⟨by omega, by omega⟩
theorem iRg1_is {a : M} {st st' : Sta} {n : Nat} (h : a st = some (.dat (.int n), st')) (hn : n ≤ 16777216) : iRg1 a st = some (rgD 0 n, st') := by
  have c : Safe (-(2 ^ 62) ≤ (n : Int) ∧ (n : Int) < 2 ^ 62) := safe_iff.mpr (small62 hn)
  have e : mInt a st = some ((n : Int), st') := by unfold mInt; rw [h]
  unfold iRg1
  rw [e, Option.bind_some]
  dsimp only
  rw [if_pos c, Int.toNat_natCast]
theorem iRg1_int {a : M} {st st' : Sta} {j : Int} (h : a st = some (.dat (.int j), st')) (h1 : -16777216 ≤ j) (h2 : j ≤ 16777216) : iRg1 a st = some (rgD 0 j.toNat, st') := by
  have c : Safe (-(2 ^ 62) ≤ j ∧ j < 2 ^ 62) := safe_iff.mpr ⟨by omega, by omega⟩
  have e : mInt a st = some (j, st') := by unfold mInt; rw [h]
  unfold iRg1
  rw [e, Option.bind_some]
  dsimp only
  rw [if_pos c]
theorem setIx_int {i j : Nat} {ix a : M} {st : Sta} {L : List Int} {k x : Int} (ha : a st = some (.dat (.int x), st)) (hi : ix st = some (.dat (.int k), st)) (ho : st.e i = .own (pI L)) (hk : ixN L.length k = some j) :
    sSetIx i ix a st = some (.nx, st.put i (.own (pI (L.set j x)))) := by
  have hw : ownAt st i = some (pI L) := by unfold ownAt; rw [ho]
  unfold sSetIx
  rw [ha, Option.bind_some]
  dsimp only [esc]
  rw [Option.bind_some]
  dsimp only
  rw [hw, Option.bind_some, hi, Option.bind_some]
  dsimp only
  rw [hw, Option.bind_some, List.length_map, hk, Option.map_some, pI_set]
/-- the source's draws -/
structure Draw (G : List PyData → Src → Option (R × Src)) where
  p : Int → Src → Int
  nx : Int → Src → Src
  is : ∀ m z, m < 1073741824 → G [.int m] z = some (.dat (.int (p m z)), nx m z)
  lo : ∀ m z, 0 ≤ p m z
  hi : ∀ m z, 1 ≤ m → p m z < m
theorem pickG_is {m : Int} (z : Src) (h : m < 1073741824) : pickG [.int m] z = some (.dat (.int (pickN m z).1), (pickN m z).2) := by
  unfold pickG
  exact if_pos h
def drawPick : Draw pickG := ⟨fun m z => (pickN m z).1, fun m z => (pickN m z).2, fun m z h => pickG_is z h, pickN_lo, pickN_hi⟩
section
variable {G : List PyData → Src → Option (R × Src)} (D : Draw G)
def Draw.at (n : Nat) (z : Src) : Nat := (D.p n z).toNat
theorem Draw.at_is (n : Nat) (z : Src) : D.p n z = ((D.at n z : Nat) : Int) := by
  have h1 := D.lo n z
  unfold Draw.at
  omega
theorem Draw.at_lt {n : Nat} (z : Src) (h : 0 < n) : D.at n z < n := by
  have h1 := D.lo n z
  have h2 := D.hi n z (by omega)
  unfold Draw.at
  omega
def ofG (ds : List PyData) (z : Src) : Option (R × Src) := match ds with
  | [.list xs] => if xs.length < 1073741824 then (xs[D.at xs.length z]?).map fun d => (.dat d, D.nx xs.length z) else none
  | _ => none
theorem ofG_is {xs : List PyData} {z : Src} {d : PyData} (hl : xs.length < 1073741824) (h : xs[D.at xs.length z]? = some d) : ofG D [.list xs] z = some (.dat d, D.nx xs.length z) := by
  unfold ofG
  exact (if_pos hl).trans (by rw [h]; rfl)
theorem ofG_mem {xs : List PyData} {z : Src} (h0 : 0 < xs.length) (hl : xs.length < 1073741824) : ∃ d, d ∈ xs ∧ ofG D [.list xs] z = some (.dat d, D.nx xs.length z) := by
  have h := D.at_lt (n := xs.length) z h0
  exact ⟨xs[D.at xs.length z], List.getElem_mem h, ofG_is D hl (List.getElem?_eq_getElem h)⟩
end
end NV
set_option Elab.async false
set_option linter.all false
set_option maxRecDepth 100000
set_option maxHeartbeats 4000000
/-! NV18: what the module's top has written, def by def -/
namespace NV
open PySem PySem.Spec PyProof.Rows L2
structure DefAt (K : PySem.W.Frag) (x : Str) (st : Stmt) : Prop where
  ex : ∃ (f : Addr) (oc : Value) (od : Option Addr) (kV dc pm : Value) (an : Option Addr) (cd ct : Value) (sl : Array (Option Value)), PySem.W.nsIn K mainGlobals x = some (some (.ref f)) ∧
    K.lookup f = some ⟨oc, od, .func (PySem.W.fnOf x x (defArgs st) (defBody st) (defScope st) .none kV dc pm an cd ct), sl⟩ ∧ PySem.W.codeIn K cd x = true ∧ PySem.W.keepIn K (.ref f) = true
theorem DefAt.of {K : PySem.W.Frag} {x : Str} {st : Stmt} {f : Addr} {oc : Value} {od : Option Addr} {kV dc pm : Value} {an : Option Addr} {cd ct : Value} {sl : Array (Option Value)} (a : PySem.W.nsIn K mainGlobals x = some (some (.ref f)))
    (l : K.lookup f = some ⟨oc, od, .func (PySem.W.fnOf x x (defArgs st) (defBody st) (defScope st) .none kV dc pm an cd ct), sl⟩) (c : PySem.W.codeIn K cd x = true) (k : PySem.W.keepIn K (.ref f) = true) : DefAt K x st :=
  ⟨f, oc, od, kV, dc, pm, an, cd, ct, sl, a, l, c, k⟩
theorem DefAt.get {K : PySem.W.Frag} {x : Str} {st : Stmt} {h : Heap} {mg : Str → Option Value} (d : DefAt K x st) (X : K.In h) (G : h.Ns mainGlobals mg) {ps : List Str}
    (hb : ∀ (kV doc pm : Value) (an : Option Addr) (cdv ct : Value) (us : List Value), us.length = ps.length → bindArgs (PySem.W.fnOf x x (defArgs st) (defBody st) (defScope st) .none kV doc pm an cdv ct) ⟨us, []⟩ = pure (ps.zip us)) :
    ∃ (f : Addr) (fd : FuncData), L2.Fun K x x st f fd ∧ mg x = some (.ref f) ∧ PySem.W.keepIn K (.ref f) = true ∧ Binds K fd ps [] := by
  obtain ⟨f, oc, od, kV, dc, pm, an, cd, ct, sl, a, l, c, k⟩ := d.ex
  have F := fun_mk (st := st) l c k
  exact ⟨f, _, F, PySem.W.mg_of X G a, k, F.binds hb⟩
theorem CalG.mk' {P : Program} {w : World} {K : PySem.W.Frag} {mg : Str → Option Value} {base : Heap} {k : Nat} {x : Str} {sp : Sp} {f : Addr} {fd : FuncData} {ps : List Str} (F : FnG P w K mg base k f fd ps sp) (hm : mg x = some (.ref f)) (hk : PySem.W.keepIn K (.ref f) = true) (hb : Binds K fd ps []) : CalG P w K mg base k x sp :=
  ⟨f, fd, ps, F, hm, hk, hb⟩
end NV
set_option Elab.async false
set_option linter.all false
set_option maxRecDepth 100000
set_option maxHeartbeats 4000000
/-! NV19: tuple(range(a, b, c)) -/
namespace NV
open PySem PySem.Spec PyProof.Rows L2
def rgCV (lo c : Int) (n : Nat) : List V := (List.range n).map fun i => V.int (lo + (i : Nat) * c)
theorem vals_rgC {a c : Int} {n : Nat} {acc : Array Value} (h : ItemsOf (fun i v => ∃ t, v = .int (a + i * c) t) acc n) : Vals (rgCV a c n) acc.toList := by
  have e : acc.toList.length = n := by rw [Array.length_toList]; exact h.1
  unfold rgCV
  rw [← e]
  refine vals_of_get acc.toList _ fun j u hj => ?_
  obtain ⟨t, rfl⟩ := h.2 j u (by rw [← hj, Array.getElem?_toList])
  exact ⟨t, rfl⟩
theorem rgCV_rp {Hf : Hp} (lo c : Int) (n : Nat) : RpL Hf (rgCV lo c n) (rgC lo c n) := by
  unfold rgCV rgC
  have : ∀ l : List Nat, RpL Hf (l.map fun i => V.int (lo + (i : Nat) * c)) (l.map fun i => PyData.int (lo + (i : Nat) * c)) := fun l => by
    induction l with
    | nil => exact .nil
    | cons x l ih => exact .cons (.int _) ih
  exact this _
def Rg3Ok (i j c : Int) : Prop := c ≠ 0 ∧ c.natAbs < 1073741824 ∧ Builtin.Range.small i j c = true ∧ 0 ≤ Builtin.Range.rangeSize i j c ∧ Builtin.Range.rangeSize i j c ≤ 16777216
noncomputable instance (i j c : Int) : Decidable (Rg3Ok i j c) := Classical.propDecidable _
def tTupRg3 (ta : TA) : TE := fun σ H Q => ta σ H fun vs H1 => ∃ (i j c : Int), vs = [.int i, .int j, .int c] ∧ Rg3Ok i j c ∧ ∀ q, H1 q = none → Q (.ref q) (upd H1 q (.tup (rgCV i c (Builtin.Range.rangeSize i j c).toNat)))
section
variable {X : Cx} {ea eb ec : Expr} {a b c : M} {ta : TA} {p pos p2 pos2 : Pos}
theorem pe_tupRg3 (g : Gd X) (hg2 : Gl X "tuple") (hm2 : X.mg "tuple" = none) (hg : Gl X "range") (hm : X.mg "range" = none) (ha : PA X [ea, eb, ec] ta)
    (hs : starEach [ea, eb, ec] X.env = (false, eval ea X.env) :: starEach [eb, ec] X.env := by rfl) (hpl : (backTo pos (starEach [eb, ec] X.env)).any (·.1) = false := by rfl)
    (hs2 : starEach [.Call (.Name "range" p) [ea, eb, ec] [] pos] X.env = (false, eval (.Call (.Name "range" p) [ea, eb, ec] [] pos) X.env) :: starEach [] X.env := by rfl) :
    PE X (.Call (.Name "tuple" p2) [.Call (.Name "range" p) [ea, eb, ec] [] pos] [] pos2) (tTupRg3 ta) := by
  refine ⟨fun pins s σ H Q I h => ?_⟩
  refine Call_ (ld_blt I hg2 hm2 PyProof.Rows.boot_tuple (PyProof.Rows.callWith_type1 (args_cons ?_ hs2) hs2 rfl))
  refine Call_ (ld_blt I hg hm PyProof.Rows.boot_range (PyProof.Rows.callWith_type1 (thn (ha.run pos pins s σ H _ I h) fun us s1 ⟨vs, H1, I1, r1, q1⟩ => ?_) hs hpl))
  obtain ⟨i, j, k, e, ⟨c0, c1, c2, c3, c4⟩, q⟩ := q1
  subst e
  cases r1 with
  | cons r rr =>
    cases rr with
    | cons r' rr =>
      cases rr with
      | cons r'' rr =>
        cases rr
        obtain ⟨t, rfl⟩ := r
        obtain ⟨t', rfl⟩ := r'
        obtain ⟨t'', rfl⟩ := r''
        refine call_range_3 c0 ?_ (.inl (PyProof.noPylong_small c1))
        refine args_nil ?_
        have I2 : Inv X pins σ H1 { s1 with heap := s1.heap.push { cls := .type "range", data := .fields #[.int i t, .int j t', .int k t''] } } := I1.kept (t' := s1.toks) fun b o e => Heap.get?_push_of_some _ e
        refine call_tuple_range (n := (Builtin.Range.rangeSize i j k).toNat) (I2.ok.hd g.calm) (IsRange.new ..) c2 (by omega) (by omega) fun h' tk acc hk hi => ?_
        have I3 : Inv X pins σ H1 { s1 with heap := h', toks := tk } := I2.kept hk
        refine ⟨.ref h'.objs.size, upd H1 h'.objs.size (.tup (rgCV i k (Builtin.Range.rangeSize i j k).toNat)), I3.laid (t' := tk) (fun c o e => Heap.get?_push_of_some _ e) (Nat.le_refl _) (show ObjOk X.prog X.w _ _ _ (.tup (rgCV i k (Builtin.Range.rangeSize i j k).toNat)) from ⟨?_, acc.toList, vals_rgC hi, ?_⟩), rfl, q _ (I3.hok.fresh (Nat.le_refl _))⟩
        · unfold rgCV; rw [List.length_map, List.length_range, sizeLine_eq]; omega
        · rw [Array.toArray_toList]; exact IsTup.new _ _
noncomputable def mTupRg3 (a b c : M) : M := fun st => (mInt a st).bind fun (i, st1) => (mInt b st1).bind fun (j, st2) => (mInt c st2).bind fun (k, st3) => if Rg3Ok i j k then some (.dat (.tuple (rgC i k (Builtin.Range.rangeSize i j k).toNat)), st3) else none
theorem ev_tupRg3 (g : Gd X) (hg2 : Gl X "tuple") (hm2 : X.mg "tuple" = none) (hg : Gl X "range") (hm : X.mg "range" = none) (ha : EV X ea a) (hb : EV X eb b) (hc : EV X ec c)
    (hs : starEach [ea, eb, ec] X.env = (false, eval ea X.env) :: starEach [eb, ec] X.env := by rfl) (hsb : starEach [eb, ec] X.env = (false, eval eb X.env) :: starEach [ec] X.env := by rfl) (hsc : starEach [ec] X.env = (false, eval ec X.env) :: starEach [] X.env := by rfl)
    (hpl : (backTo pos (starEach [eb, ec] X.env)).any (·.1) = false := by rfl)
    (hs2 : starEach [.Call (.Name "range" p) [ea, eb, ec] [] pos] X.env = (false, eval (.Call (.Name "range" p) [ea, eb, ec] [] pos) X.env) :: starEach [] X.env := by rfl) :
    EV X (.Call (.Name "tuple" p2) [.Call (.Name "range" p) [ea, eb, ec] [] pos] [] pos2) (mTupRg3 a b c) := by
  refine ev_of fun L Hf st r st' σ H Q cc e k => ⟨_, pe_tupRg3 g hg2 hm2 hg hm (pa_cons ha (pa_cons hb (pa_cons hc pa_nil hsc) hsb) hs) hs hpl hs2, ?_⟩
  unfold mTupRg3 at e
  obtain ⟨⟨i, st1⟩, h1, e⟩ := bind_some2 e
  obtain ⟨⟨j, st2⟩, h2, e⟩ := bind_some2 e
  obtain ⟨⟨l, st3⟩, h3, e⟩ := bind_some2 e
  dsimp only at e
  split at e
  · rename_i ok
    cases e
    refine ev_use cc (mInt_some h1) fun v H' Hf' s' c' q => ?_
    cases q
    refine ev_use c' (mInt_some h2) fun v H'' Hf'' s'' c'' q => ?_
    cases q
    refine ev_use c'' (mInt_some h3) fun v H3 Hf3 s3 c3 q => ?_
    cases q
    exact ⟨i, j, l, rfl, ok, fun q hq => (Grow.tup hq (rgCV_rp i l _)).after c3 (k.sub ((s'.trans s'').trans s3))⟩
  · cases e
end
end NV
set_option Elab.async false
set_option linter.all false
set_option maxRecDepth 100000
set_option maxHeartbeats 4000000
/-! NV20: sorted of a tuple of ints -/
namespace SrtO
open PySem PyProof.Rows Srt
section
variable {prog : Program} {w : World} {A : Around} {E : Value → Shared → Prop} {s : Shared}
theorem sorted_tupN {l : Addr} {vs : List Value} {ltv : Value → Value → Bool} {Q : Value → Shared → Prop} (O : Swo ltv) (hl : s.heap.IsTuple l vs.toArray) (hz : vs.length ≤ sizeLine)
    (hS : 2 ≤ vs.length → ∀ (h₁ : Heap) (a : Addr), h₁.get? a = some (seqObj "list" vs.toArray 0) → (∀ b o, s.heap.get? b = some o → b ≠ a ∧ h₁.get? b = some o) → SortableO prog w A.in1.in1 { s with heap := h₁ } a vs ltv)
    (h : ∀ (out : List Value) (h1 h' : Heap) (e : Nat), Srtd ltv out → Stb ltv out vs → (∀ b o, s.heap.get? b = some o → h1.get? b = some o) → h'.get? h1.objs.size = some (seqObj "list" out.toArray e) → (∀ b o, h1.get? b = some o → h'.get? b = some o) → Q (.ref h1.objs.size) { s with heap := h' }) :
    wpAny (model prog w) A (call (.builtin "sorted") [.ref l]) Q E s := by
  obtain ⟨o, ho, hc, n, hd⟩ := id hl
  refine Calls.call_function_entry kind_sorted plain_sorted entry_sorted (args_sorted1 _) ?_
  unfold Builtin.«sorted»
  refine wpAny_bind (m := checkCount "sorted" 1 1 _) (wpAny_pure ?_)
  refine wpAny_bind (wpAny_collect_seq l (.inr rfl) ho hc hd (fun h1 hk => ?_) (by rw [List.size_toArray]; exact hz))
  have ev : vs.toArray.toList = vs := by simp
  rw [ev]
  refine wpAny_bind (wpAny_newList ?_ hz)
  have hoL : (h1.push (seqObj "list" vs.toArray 0)).get? h1.objs.size = some (seqObj "list" vs.toArray 0) := Heap.get?_push_size _ rfl
  have lt : ∀ b o, s.heap.get? b = some o → b < h1.objs.size := fun b o q => Heap.lt_size (hk b o q)
  have keep : ∀ b o, s.heap.get? b = some o → b ≠ h1.objs.size ∧ (h1.push (seqObj "list" vs.toArray 0)).get? b = some o := fun b o q => ⟨Nat.ne_of_lt (lt b o q), Heap.get?_push_of_some _ (hk b o q)⟩
  show wpAny _ _ _ _ _ { s with heap := h1.push (seqObj "list" vs.toArray 0) }
  refine wpAny_bind (wpAny_holding (wpAny_call_entry slot_list_sort ⟨_, hoL, rfl⟩ entry_list_sort (list_sort_ord O hoL hz (fun h2 => hS h2 _ _ hoL keep) fun out hs hb => ⟨_, rfl, ?_⟩) (args_list_sort _)))
  obtain ⟨e, he⟩ := sortedHeap_at (h := h1.push (seqObj "list" vs.toArray 0)) (vs := vs) (out := out.toArray) hoL
  refine wpAny_pure ⟨_, rfl, h out h1 _ e hs hb hk he fun b o q => ?_⟩
  have hlt : b < h1.objs.size := Heap.lt_size q
  rw [sortedHeap_old (Nat.ne_of_lt hlt) (by rw [size_push']; exact Nat.lt_succ_of_lt hlt)]
  exact Heap.get?_push_of_some _ q
end
end SrtO

namespace NV
open PySem PySem.Spec PyProof.Rows L2
def rSortedT (K : PySem.W.Frag) : List V → Hp → VK → Prop := fun vs H Q => ∃ (a : Addr) (ns : List Int), vs = [V.ref a] ∧ SqT K H a (ns.map V.int) ∧
  ∀ (ns' : List Int) (p : Addr), ns'.Perm ns → ns'.Pairwise (· ≤ ·) → H p = none → Q (.ref p) (upd H p (.lst (ns'.map V.int)))
theorem cr_sortedT {X : Cx} : CallR X (.builtin "sorted") (rSortedT X.K) := by
  intro pins s σ H vs us Q I r h
  obtain ⟨a, ns, rfl, hs, q⟩ := h
  obtain ⟨its, rv, hl, hz⟩ := I.tuple hs
  rw [Vals.ref1 r]
  have hi := rv.ints
  refine SrtO.sorted_tupN SrtO.swo_int (show s.heap.IsTuple a its.toArray from hl) (by rw [← rv.length]; exact hz) (fun h2 h₁ a' _ _ => SrtO.ints_sortable hi h2) fun out hh h' e h1 h2 hk he hk2 => ?_
  obtain ⟨k1, k2, k3⟩ := SrtO.ints_out hi h1 h2
  have hlen : ((out.map SrtO.iv).map V.int).length ≤ sizeLine := by
    rw [List.length_map, k2.length_eq]
    rw [List.length_map] at hz
    exact hz
  have I1 : Inv X pins σ H { s with heap := hh } := I.kept (t' := s.toks) hk
  exact ⟨.ref _, upd H hh.objs.size (.lst ((out.map SrtO.iv).map V.int)), I1.laid (t' := s.toks) hk2 (Nat.le_refl _) ⟨hlen, out, e, vals_of_ints k1, he⟩, rfl, q _ _ k2 k3 (I1.hok.fresh (Nat.le_refl _))⟩
def sortedA : List PyData → Option R
  | [.tuple ds] => (intsOf ds).map fun ns => .fre ((srt ns).map .int)
  | ds => sortedD ds
theorem c_sortedA {X : Cx} : DCall X (.builtin "sorted") sortedA := by
  intro Hf H xs ds r Q s rx e k
  unfold sortedA at e
  split at e
  · obtain ⟨ns, e1, e⟩ := map_some2 e
    subst e
    obtain ⟨v, rfl, q⟩ := rx.one
    obtain ⟨a, vs, rfl, ea, q⟩ := q.tup s
    have z := intsOf_some e1
    subst z
    have z := q.ints
    subst z
    refine ⟨_, cr_sortedT, a, ns, rfl, .of ea, fun ns' p h1 h2 hp => ?_⟩
    rw [srt_is h1 h2]
    exact k _ _ (.lst hp (RpL.ofInts _))
  · exact c_sorted Hf H xs _ r Q s rx e k
end NV
set_option Elab.async false
set_option linter.all false
set_option maxRecDepth 100000
set_option maxHeartbeats 4000000
/-! NV21: promises by the readings themselves; live slots; running by what is wished -/
namespace NV
open PySem PySem.Spec PyProof.Rows L2

/-! ### a def's promise: its reading, run with so much fuel -/
def outZ (p : Out × Sta) : Option (R × Src) := (outR p.1).bind fun r => p.2.z.map fun z' => (r, z')
def GP (B : Nat → MS) (N k : Nat) : List PyData → Option R := fun ds => if ds.length = k then (B N ⟨argE ds, none⟩).bind fun p => outR p.1 else none
def GS (B : Nat → MS) (N k : Nat) : List PyData → Src → Option (R × Src) := fun ds z => if ds.length + 1 = k then (B N ⟨fun i => match i with | 0 => .src | i + 1 => argE ds i, some z⟩).bind outZ else none
theorem GP_len {B : Nat → MS} {N k : Nat} : ∀ ds r, GP B N k ds = some r → ds.length = k := fun ds r e => by
  unfold GP at e
  split at e
  · assumption
  · cases e
theorem GS_len {B : Nat → MS} {N k : Nat} : ∀ ds z r, GS B N k ds z = some r → ds.length + 1 = k := fun ds z r e => by
  unfold GS at e
  split at e
  · assumption
  · cases e
theorem fnGP {P : Program} {w : World} {K : PySem.W.Frag} {mg : Str → Option Value} {base : Heap} {x qual : Str} {st : Stmt} {f : Addr} {fd : FuncData} {N ps : List Str} {k : Nat} (M : Nat) {body : Nat → MS} (F : L2.Fun K x qual st f fd) (S : FnScope N ps (defScope st))
    (hb : ∀ (cdv : Value) (A : Around) (outer : List Env) (s : Shared) (H : Hp) (E : XK), Room k (A.deeper (envOfC qual (defScope st) s.heap.objs.size f cdv)) → Gd (cxOf CX0 P w K mg base N qual (defScope st) f cdv A outer s H E).nox →
      ∀ n, BV (cxOf CX0 P w K mg base N qual (defScope st) f cdv A outer s H E).nox (defBody st) (body n)) : FnG P w K mg base (k + 1) f fd ps (spP ps.length (GP body M ps.length)) :=
  fnP F S (fun ds r e => by
    unfold GP at e
    split at e
    · obtain ⟨⟨o, st'⟩, h1, h2⟩ := bind_some2 e
      exact ⟨M, o, st', h1, h2⟩
    · cases e) hb
theorem fnGS {P : Program} {w : World} {K : PySem.W.Frag} {mg : Str → Option Value} {base : Heap} {x qual : Str} {st : Stmt} {f : Addr} {fd : FuncData} {N ps : List Str} {k : Nat} (M : Nat) {body : Nat → MS} (F : L2.Fun K x qual st f fd) (S : FnScope N ps (defScope st))
    (hb : ∀ (cdv : Value) (A : Around) (outer : List Env) (s : Shared) (H : Hp) (E : XK), Room k (A.deeper (envOfC qual (defScope st) s.heap.objs.size f cdv)) → Gd (cxOf CX0 P w K mg base N qual (defScope st) f cdv A outer s H E).nox →
      ∀ n, BV (cxOf CX0 P w K mg base N qual (defScope st) f cdv A outer s H E).nox (defBody st) (body n)) : FnG P w K mg base (k + 1) f fd ps (spS ps.length (GS body M ps.length)) :=
  fnS F S (fun ds z r z' e => by
    unfold GS at e
    split at e
    · obtain ⟨⟨o, st'⟩, h1, h2⟩ := bind_some2 e
      unfold outZ at h2
      obtain ⟨r2, h3, h4⟩ := bind_some2 h2
      obtain ⟨z2, h5, h6⟩ := map_some2 h4
      cases h6
      exact ⟨M, o, st', h1, h3, h5⟩
    · cases e) hb

/-! ### live slots -/
def keep (ks : List Nat) (st : Sta) : Sta := ⟨fun j => if j ∈ ks then st.e j else .emp, st.z⟩
def keepL (ks : List Nat) : Nat → List Sl → List Sl
  | _, [] => []
  | i, x :: l => (if i ∈ ks then x else .emp) :: keepL ks (i + 1) l
@[simp] theorem keepL_nil {ks : List Nat} {i : Nat} : keepL ks i [] = [] := rfl
@[simp] theorem keepL_cons {ks : List Nat} {i : Nat} {x : Sl} {l : List Sl} : keepL ks i (x :: l) = (if i ∈ ks then x else .emp) :: keepL ks (i + 1) l := rfl
theorem keepL_get {ks : List Nat} : ∀ {l : List Sl} {i j : Nat}, (keepL ks i l).getD j .emp = if i + j ∈ ks then l.getD j .emp else .emp
  | [], i, j => by simp
  | x :: l, i, 0 => by simp
  | x :: l, i, j + 1 => by
    have := keepL_get (ks := ks) (l := l) (i := i + 1) (j := j)
    rw [keepL_cons, List.getD_cons_succ, List.getD_cons_succ, this, show i + 1 + j = i + (j + 1) from by omega]
@[simp] theorem keep_stL {ks : List Nat} {l : List Sl} {z : Option Src} : keep ks (stL l z) = stL (keepL ks 0 l) z := by
  refine Sta.ext' (fun j => ?_) rfl
  show (if j ∈ ks then l.getD j .emp else .emp) = (keepL ks 0 l).getD j .emp
  rw [keepL_get, Nat.zero_add]
theorem Cor.keep' {L : Lay} {Hf : Hp} {st : Sta} {σ : SS} {H : Hp} {ks : List Nat} (c : Cor L Hf st σ H) : Cor L Hf (NV.keep ks st) σ H where
  le := c.le
  pr := c.pr
  sl := fun i => by
    show SlOk L Hf st.z.isSome σ H i (if i ∈ ks then st.e i else .emp)
    split
    · exact c.sl i
    · trivial
  dj := fun i j a hi hj => by
    have hi' : (st.e i).isOwn := by
      have : ((if i ∈ ks then st.e i else .emp) : Sl).isOwn := hi
      split at this
      · exact this
      · exact this.elim
    have hj' : (st.e j).isOwn := by
      have : ((if j ∈ ks then st.e j else .emp) : Sl).isOwn := hj
      split at this
      · exact this
      · exact this.elim
    exact c.dj i j a hi' hj'
  so := c.so
/-- a target, a test, a block, at the live slots alone -/
def tKeep (ks : List Nat) (t : MG) : MG := fun d st => t d (keep ks st)
def qKeep (ks : List Nat) (t : MT) : MT := fun st => t (keep ks st)
def sKeep (ks : List Nat) (b : MS) : MS := fun st => b (keep ks st)
theorem gv_keep {X : Cx} {e : Expr} {t : MG} {is ks : List Nat} (h : GV X e t is) : GV X e (tKeep ks t) is :=
  ⟨fun pins s σ H v u Q I r ⟨L, Hf, st, d, st', c, q, e1, k⟩ => h.run pins s σ H v u Q I r ⟨L, Hf, keep ks st, d, st', c.keep', q, e1, k⟩⟩
theorem tv_keep {X : Cx} {e : Expr} {t : MT} {ks : List Nat} (h : TV X e t) : TV X e (qKeep ks t) := by
  refine tv_of fun L Hf st b st' σ H Q c e1 k => ⟨_, h, ?_⟩
  exact ⟨L, Hf, keep ks st, b, st', c.keep', e1, k⟩
theorem bv_keep {X : Cx} {ss : List Stmt} {m : MS} {ks : List Nat} (h : BV X ss m) : BV X ss (sKeep ks m) := by
  refine bv_of fun L Hf st o st' σ H D hl c e1 k => ⟨_, h, ?_⟩
  exact ⟨L, Hf, keep ks st, o, st', c.keep', e1, k⟩

/-! ### running -/
def Ex (m : MS) (st : Sta) (Q : Out → Sta → Prop) : Prop := ∃ o st', m st = some (o, st') ∧ Q o st'
def NX (m : MS) (st : Sta) (K : Sta → Prop) : Prop := ∃ st', m st = some (.nx, st') ∧ K st'
theorem Ex.imp {m : MS} {st : Sta} {Q Q' : Out → Sta → Prop} (h : Ex m st Q) (k : ∀ o s, Q o s → Q' o s) : Ex m st Q' := by
  obtain ⟨o, s, e, q⟩ := h
  exact ⟨o, s, e, k o s q⟩
theorem ex_nx {a b : MS} {st : Sta} {Q : Out → Sta → Prop} (h : ∀ K : Sta → Prop, (∀ s, Ex b s Q → K s) → NX a st K) : Ex (sCons a b) st Q := by
  obtain ⟨s, e, q⟩ := h (fun s => Ex b s Q) fun s q => q
  obtain ⟨o, s', e', q'⟩ := q
  exact ⟨o, s', by rw [sCons_nx e]; exact e', q'⟩
theorem ex_cons {a b : MS} {st : Sta} {Q : Out → Sta → Prop} (h : Ex a st fun o s => match o with | .nx => Ex b s Q | o => Q o s) : Ex (sCons a b) st Q := by
  obtain ⟨o, s, e, q⟩ := h
  cases o with
  | nx =>
    obtain ⟨o, s', e', q'⟩ := q
    exact ⟨o, s', by rw [sCons_nx e]; exact e', q'⟩
  | bk => exact ⟨.bk, s, by simp [e], q⟩
  | ct => exact ⟨.ct, s, by simp [e], q⟩
  | rt d => exact ⟨.rt d, s, by simp [e], q⟩
  | rtF d => exact ⟨.rtF d, s, by simp [e], q⟩
theorem ex_nil {st : Sta} {Q : Out → Sta → Prop} (h : Q .nx st) : Ex sNil st Q := ⟨.nx, st, rfl, h⟩
theorem ex_keep {ks : List Nat} {b : MS} {st : Sta} {Q : Out → Sta → Prop} (h : Ex b (keep ks st) Q) : Ex (sKeep ks b) st Q := h
/-- a return -/
theorem ex_ret {a : M} {st st' : Sta} {Q : Out → Sta → Prop} {d : PyData} {b : MS} (h : a st = some (.dat d, st')) (q : Q (.rt d) st') : Ex (sCons (sRet a) b) st Q := ⟨.rt d, st', by simp [h], q⟩
theorem ex_retF {a : M} {st st' : Sta} {Q : Out → Sta → Prop} {d : List PyData} {b : MS} (h : a st = some (.fre d, st')) (q : Q (.rtF d) st') : Ex (sCons (sRet a) b) st Q := ⟨.rtF d, st', by simp [h], q⟩
/-- if -/
theorem ex_if {t : MT} {a b : MS} {st st1 : Sta} {c : Bool} {Q : Out → Sta → Prop} (ht : t st = some (c, st1)) (h1 : c = true → Ex a st1 Q) (h2 : c = false → Ex b st1 Q) : Ex (sIf t a b) st Q := by
  cases c with
  | true =>
    obtain ⟨o, s, e, q⟩ := h1 rfl
    exact ⟨o, s, by simp [ht, e], q⟩
  | false =>
    obtain ⟨o, s, e, q⟩ := h2 rfl
    exact ⟨o, s, by simp [ht, e], q⟩
/-- for: all its turns end as nx or continue -/
theorem runFor_ex {t : MG} {b : MS} {Q : Out → Sta → Prop} (I : Nat → Sta → Prop) : ∀ {ds : List PyData} {k : Nat} {st : Sta}, I k st →
    (∀ i d s, ds[i]? = some d → I (k + i) s → ∃ s1, t d s = some s1 ∧ Ex b s1 fun o s2 => match o with
      | .nx => I (k + i + 1) s2
      | .ct => I (k + i + 1) s2
      | .bk => Q .nx s2
      | o => Q o s2) → (∀ s, I (k + ds.length) s → Q .nx s) → Ex (runFor t b ds) st Q
  | [], k, st, h, _, he => ⟨.nx, st, rfl, he st h⟩
  | d :: ds, k, st, h, hs, he => by
    obtain ⟨s1, e1, o, s2, e2, q⟩ := hs 0 d st rfl h
    have go : I (k + 1) s2 → Ex (runFor t b ds) s2 Q := fun h2 => runFor_ex I h2 (fun i d' s hi hI => by
      have := hs (i + 1) d' s (by simpa using hi) (by rw [show k + (i + 1) = k + 1 + i from by omega]; exact hI)
      rw [show k + (i + 1) + 1 = k + 1 + i + 1 from by omega] at this
      exact this) (fun s hI => he s (by rw [List.length_cons, show k + (ds.length + 1) = k + 1 + ds.length from by omega]; exact hI))
    unfold Ex runFor
    rw [e1, Option.bind_some, e2, Option.bind_some]
    cases o with
    | nx => exact go q
    | ct => exact go q
    | bk => exact ⟨_, _, rfl, q⟩
    | rt d => exact ⟨_, _, rfl, q⟩
    | rtF d => exact ⟨_, _, rfl, q⟩
theorem keep_keep {ks js : List Nat} {st : Sta} (h : ∀ j ∈ js, j ∈ ks) : keep js (keep ks st) = keep js st := by
  refine Sta.ext' (fun j => ?_) rfl
  show (if j ∈ js then (if j ∈ ks then st.e j else .emp) else .emp) = if j ∈ js then st.e j else .emp
  by_cases hj : j ∈ js
  · rw [if_pos hj, if_pos hj, if_pos (h j hj)]
  · rw [if_neg hj, if_neg hj]
/-- a for, told at its live slots: I holds of the state cut to them -/
theorem ex_for {ks : List Nat} {t : MG} {it : ME} {b : MS} {st st1 : Sta} {ds : List PyData} {Q : Out → Sta → Prop} (I : Nat → Sta → Prop) (hi : it st = some (ds, st1)) (h0 : I 0 (keep ks st1))
    (hs : ∀ i d s, ds[i]? = some d → I i s → ∃ s1, t d s = some s1 ∧ Ex b s1 fun o s2 => match o with
      | .nx => I (i + 1) (keep ks s2)
      | .ct => I (i + 1) (keep ks s2)
      | .bk => Q .nx s2
      | o => Q o s2) (he : ∀ s, I ds.length (keep ks s) → Q .nx s) : Ex (sFor (tKeep ks t) it b) st Q := by
  have := runFor_ex (t := tKeep ks t) (b := b) (Q := Q) (fun i s => I i (keep ks s)) (ds := ds) (k := 0) (st := st1) h0 (fun i d s hd hI => by
    rw [Nat.zero_add] at hI ⊢
    exact hs i d (keep ks s) hd hI) (fun s hI => he s (by rw [Nat.zero_add] at hI; exact hI))
  obtain ⟨o, s, e, q⟩ := this
  exact ⟨o, s, by simp [hi, e], q⟩
/-- while, told at its live slots, with a measure -/
theorem sWhile_ex {ks : List Nat} {t : MT} {b : MS} {Q : Out → Sta → Prop} (I : Nat → Sta → Prop) : ∀ {n m : Nat} {st : Sta}, m < n → I m (keep ks st) →
    (∀ m s, I m s → ∃ c s1, t s = some (c, s1) ∧ (c = false → Q .nx s1) ∧ (c = true → Ex b s1 fun o s2 => match o with
      | .nx => ∃ m', m' < m ∧ I m' (keep ks s2)
      | .ct => ∃ m', m' < m ∧ I m' (keep ks s2)
      | .bk => Q .nx s2
      | o => Q o s2)) → Ex (sWhile n (qKeep ks t) b) st Q
  | 0, m, st, h, _, _ => absurd h (Nat.not_lt_zero _)
  | n + 1, m, st, h, hI, hs => by
    obtain ⟨c, s1, e1, h1, h2⟩ := hs m (keep ks st) hI
    have e1' : qKeep ks t st = some (c, s1) := e1
    cases c with
    | false => exact ⟨.nx, s1, by unfold sWhile; simp [e1'], h1 rfl⟩
    | true =>
      obtain ⟨o, s2, e2, q⟩ := h2 rfl
      unfold Ex sWhile
      simp only [e1', Option.bind_some, if_true, e2]
      cases o with
      | nx =>
        obtain ⟨m', hm, hI'⟩ := q
        exact sWhile_ex I (n := n) (m := m') (by omega) hI' hs
      | ct =>
        obtain ⟨m', hm, hI'⟩ := q
        exact sWhile_ex I (n := n) (m := m') (by omega) hI' hs
      | bk => exact ⟨_, _, rfl, q⟩
      | rt d => exact ⟨_, _, rfl, q⟩
      | rtF d => exact ⟨_, _, rfl, q⟩
/-- the promise kept -/
theorem GP_of {B : Nat → MS} {N k : Nat} {ds : List PyData} {r : R} (m : Nat) (hl : ds.length = k) (h : Ex (B N) (stL (ds.map Sl.val ++ List.replicate m Sl.emp) none) fun o _ => outR o = some r) : GP B N k ds = some r := by
  obtain ⟨o, s, e, q⟩ := h
  unfold GP
  rw [if_pos hl, argE_st m, e]
  exact q
theorem GS_of {B : Nat → MS} {N k : Nat} {ds : List PyData} {z : Src} {Q : R → Src → Prop} (m : Nat) (hl : ds.length + 1 = k) (h : Ex (B N) (stL (.src :: (ds.map Sl.val ++ List.replicate m Sl.emp)) (some z)) fun o s => ∃ r z', outR o = some r ∧ s.z = some z' ∧ Q r z') :
    ∃ r z', GS B N k ds z = some (r, z') ∧ Q r z' := by
  obtain ⟨o, s, e, r, z', h1, h2, q⟩ := h
  refine ⟨r, z', ?_, q⟩
  unfold GS
  rw [if_pos hl]
  have e' := (congrArg (B N) (argS_st m ds (some z))).trans e
  refine (congrArg (fun x : Option (Out × Sta) => x.bind outZ) e').trans ?_
  show outZ (o, s) = _
  unfold outZ
  rw [h1, Option.bind_some, h2]
  rfl
/-- a thing that nothing unfolds -/
noncomputable def shut {α : Type} (a : α) : α := Classical.choose (⟨a, rfl⟩ : ∃ b, b = a)
theorem shut_eq {α : Type} (a : α) : shut a = a := Classical.choose_spec (⟨a, rfl⟩ : ∃ b, b = a)
theorem ev_shut {X : Cx} {e : Expr} {m : M} (h : EV X e m) : EV X e (shut m) := by rw [shut_eq]; exact h
theorem sv_shutA {X : Cx} {s : Stmt} {i : Nat} {m : M} (h : SV X s (sAsg i m)) : SV X s (sAsg i (shut m)) := by rw [shut_eq]; exact h
theorem bv_shut {X : Cx} {ss : List Stmt} {m : MS} (h : BV X ss m) : BV X ss (shut m) := by rw [shut_eq]; exact h
/-- a def that calls itself: so deep -/
theorem fnG_none {P : Program} {w : World} {K : PySem.W.Frag} {mg : Str → Option Value} {base : Heap} {k n : Nat} {f : Addr} {fd : FuncData} {ps : List Str} (hn : ps.length = n) : FnG P w K mg base k f fd ps (spP n fun _ => none) where
  len := fun vs H Q E ⟨Hf, ds, r, hl, _⟩ => by rw [hn]; exact hl
  run := fun A outer s H args us vs Q E _ _ _ _ _ ⟨Hf, ds, r, _, _, _, e, _⟩ => by cases e
theorem fnG_noneS {P : Program} {w : World} {K : PySem.W.Frag} {mg : Str → Option Value} {base : Heap} {k n : Nat} {f : Addr} {fd : FuncData} {ps : List Str} (hn : ps.length = n) : FnG P w K mg base k f fd ps (spS n fun _ _ => none) where
  len := fun vs H Q E ⟨aD, aC, Hf, z, ws, ds, r, z', hl, _⟩ => by rw [hn]; exact hl
  run := fun A outer s H args us vs Q E _ _ _ _ _ ⟨aD, aC, Hf, z, ws, ds, r, z', _, _, _, _, _, _, _, e, _⟩ => by cases e
/-- so much fuel -/
def FUEL : Nat := 10 ^ 40
end NV
set_option Elab.async false
set_option linter.all false
set_option maxRecDepth 100000
set_option maxHeartbeats 4000000
/-! NV22: running comprehensions, draws; small facts -/
namespace NV
open PySem PySem.Spec PyProof.Rows L2
@[simp] theorem NX_is {m : MS} {st : Sta} {K : Sta → Prop} : NX m st K ↔ ∃ st', m st = some (.nx, st') ∧ K st' := Iff.rfl
@[simp] theorem Ex_is {m : MS} {st : Sta} {Q : Out → Sta → Prop} : Ex m st Q ↔ ∃ o st', m st = some (o, st') ∧ Q o st' := Iff.rfl
@[simp] theorem ex2_is {a : Out} {b : Sta} {K : Out → Sta → Prop} : (∃ o st', (a = o ∧ b = st') ∧ K o st') ↔ K a b :=
  ⟨fun ⟨_, _, ⟨h1, h2⟩, k⟩ => h1 ▸ h2 ▸ k, fun k => ⟨a, b, ⟨rfl, rfl⟩, k⟩⟩
/-- a statement's end, whatever is wished -/
theorem ex_fin {m : MS} {st : Sta} {Q : Out → Sta → Prop} (h : ∀ K : Out → Sta → Prop, (∀ o s, Q o s → K o s) → ∃ o st', m st = some (o, st') ∧ K o st') : Ex m st Q := h Q fun _ _ q => q
theorem unclr_clr {vs : List Nat} {st : Sta} : unclr vs st (clr vs st) = st := by
  refine Sta.ext' (fun j => ?_) rfl
  show (if j ∈ vs then st.e j else if j ∈ vs then .emp else st.e j) = st.e j
  split <;> rfl
section
variable {vs : List Nat} {t : MG} {it : ME} {tt : MT} {el : M} {st st1 : Sta}
theorem comp_data {ds : List PyData} {f : PyData → Option PyData} (hi : it st = some (ds, st1)) (hf : vs.all (fun j => slFree (st1.e j)) = true) (hs : ∀ d ∈ ds, stepC vs t tt el d (clr vs st1) = some (f d, clr vs st1)) (hl : ds.length ≤ sizeLine) :
    mComp vs t it tt el st = some (.fre (ds.filterMap f), st1) := by
  unfold mComp
  rw [hi, Option.bind_some]
  dsimp only
  rw [if_pos hf, runC_pure hs (by simpa using hl), Option.map_some]
  simp only [List.nil_append, unclr_clr]
/-- a comprehension over xs, each told by enc -/
theorem comp_fm {α : Type} (xs : List α) (enc : α → PyData) (f : α → Option PyData) (hi : it st = some (xs.map enc, st1)) (hf : vs.all (fun j => slFree (st1.e j)) = true) (hs : ∀ x ∈ xs, stepC vs t tt el (enc x) (clr vs st1) = some (f x, clr vs st1)) (hl : xs.length ≤ sizeLine) :
    mComp vs t it tt el st = some (.fre (xs.filterMap f), st1) := by
  have key : ∀ {xs : List α} {acc : List PyData}, (∀ x ∈ xs, stepC vs t tt el (enc x) (clr vs st1) = some (f x, clr vs st1)) → acc.length + xs.length ≤ sizeLine → runC vs t tt el (xs.map enc) (clr vs st1) acc = some (acc ++ xs.filterMap f, clr vs st1) := by
    intro xs
    induction xs with
    | nil => intro acc _ _; simp [runC]
    | cons x xs ih =>
      intro acc h hl
      rw [List.length_cons] at hl
      rw [List.map_cons, runC_step (h x (List.mem_cons_self ..)) (by omega), ih (fun y hy => h y (List.mem_cons_of_mem _ hy)) (by
        rw [List.length_append]
        have : (f x).toList.length ≤ 1 := by cases f x <;> simp
        omega), List.append_assoc, List.filterMap_cons]
      cases f x <;> rfl
  unfold mComp
  rw [hi, Option.bind_some]
  dsimp only
  rw [if_pos hf, key hs (by simpa using hl), Option.map_some]
  simp only [List.nil_append, unclr_clr]
theorem comp_map {α : Type} (xs : List α) (enc : α → PyData) (g : α → PyData) (hi : it st = some (xs.map enc, st1)) (hf : vs.all (fun j => slFree (st1.e j)) = true) (hs : ∀ x ∈ xs, stepC vs t tt el (enc x) (clr vs st1) = some (some (g x), clr vs st1)) (hl : xs.length ≤ sizeLine) :
    mComp vs t it tt el st = some (.fre (xs.map g), st1) := by
  rw [comp_fm xs enc (fun x => some (g x)) hi hf hs hl, List.filterMap_eq_map']
theorem comp_filter {α : Type} (xs : List α) (enc : α → PyData) (p : α → Bool) (g : α → PyData) (hi : it st = some (xs.map enc, st1)) (hf : vs.all (fun j => slFree (st1.e j)) = true) (hs : ∀ x ∈ xs, stepC vs t tt el (enc x) (clr vs st1) = some (if p x = true then some (g x) else none, clr vs st1)) (hl : xs.length ≤ sizeLine) :
    mComp vs t it tt el st = some (.fre ((xs.filter p).map g), st1) := by
  rw [comp_fm xs enc (fun x => if p x = true then some (g x) else none) hi hf hs hl, filterMap_if]
/-- a comprehension that changes what it sees -/
theorem runC_inv (I : Nat → List PyData → Sta → Prop) : ∀ {ds : List PyData} {k : Nat} {acc : List PyData} {s : Sta}, I k acc s → (∀ i d acc s, ds[i]? = some d → I (k + i) acc s → ∃ o s', stepC vs t tt el d s = some (o, s') ∧ I (k + i + 1) (acc ++ o.toList) s') →
    acc.length + ds.length ≤ sizeLine → ∃ acc' s', runC vs t tt el ds s acc = some (acc', s') ∧ I (k + ds.length) acc' s'
  | [], k, acc, s, h, _, _ => ⟨acc, s, rfl, h⟩
  | d :: ds, k, acc, s, h, hs, hl => by
    rw [List.length_cons] at hl
    obtain ⟨o, s', e, h'⟩ := hs 0 d acc s rfl h
    obtain ⟨a2, s2, e2, h2⟩ := runC_inv I (ds := ds) (k := k + 1) (acc := acc ++ o.toList) (s := s') h' (fun i d acc s hd hI => by
      have := hs (i + 1) d acc s (by simpa using hd) (by rw [show k + (i + 1) = k + 1 + i from by omega]; exact hI)
      rw [show k + (i + 1) + 1 = k + 1 + i + 1 from by omega] at this
      exact this) (by
        rw [List.length_append]
        have : o.toList.length ≤ 1 := by cases o <;> simp
        omega)
    refine ⟨a2, s2, ?_, by rw [List.length_cons, show k + (ds.length + 1) = k + 1 + ds.length from by omega]; exact h2⟩
    rw [runC_step e (by omega), e2]
theorem comp_inv {ds : List PyData} (I : Nat → List PyData → Sta → Prop) (hi : it st = some (ds, st1)) (hf : vs.all (fun j => slFree (st1.e j)) = true) (h0 : I 0 [] (clr vs st1))
    (hs : ∀ i d acc s, ds[i]? = some d → I i acc s → ∃ o s', stepC vs t tt el d s = some (o, s') ∧ I (i + 1) (acc ++ o.toList) s') (hl : ds.length ≤ sizeLine) :
    ∃ acc s, mComp vs t it tt el st = some (.fre acc, unclr vs st1 s) ∧ I ds.length acc s := by
  obtain ⟨acc, s, e, h⟩ := runC_inv (vs := vs) (t := t) (tt := tt) (el := el) I (ds := ds) (k := 0) h0 (fun i d acc s hd hI => by
    rw [Nat.zero_add] at hI ⊢
    exact hs i d acc s hd hI) (by simpa using hl)
  refine ⟨acc, s, ?_, by rwa [Nat.zero_add] at h⟩
  unfold mComp
  rw [hi, Option.bind_some]
  dsimp only
  rw [if_pos hf, e, Option.map_some]
end
/-! ### draws -/
theorem pick_any (m : Int) (z : Src) (h : m < 1073741824) : ∃ (v : Nat) (z' : Src), pickG [.int m] z = some (.dat (.int v), z') ∧ (v : Int) < max 1 m := by
  obtain ⟨v, hv⟩ := Int.eq_ofNat_of_zero_le (pickN_lo m z)
  refine ⟨v, (pickN m z).2, by rw [pickG_is z h, hv], ?_⟩
  by_cases c : 1 ≤ m
  · have := pickN_hi m z c
    omega
  · have := pickN_0 m z (by omega)
    omega
abbrev GF := List PyData → Option R
abbrev GD := List PyData → Src → Option (R × Src)
def Spick (G : GD) : Prop := ∀ (m : Int) (z : Src), m < 1073741824 → ∃ (v : Nat) (z' : Src), G [.int m] z = some (.dat (.int v), z') ∧ (v : Int) < max 1 m
def Sof (G : GD) : Prop := ∀ (xs : List PyData) (z : Src), 0 < xs.length → xs.length < 1000 → ∃ d z', d ∈ xs ∧ G [.list xs] z = some (.dat d, z')
theorem spick : Spick pickG := fun m z h => pick_any m z h
theorem z1000 {n : Nat} (h : n ≤ 1000) : n ≤ sizeLine := Nat.le_of_lt (small1000 (by omega))
/-! ### ranges and places -/
theorem rgD_0 (n : Nat) : rgD 0 n = pN (List.range n) := by
  unfold rgD pN
  exact List.map_congr_left fun i _ => by rw [Int.zero_add]
theorem atI_z {α : Type} {xs : List α} {i : Int} (h : 0 ≤ i) : atI xs i = xs[i.toNat]? := by
  obtain ⟨n, rfl⟩ := Int.eq_ofNat_of_zero_le h
  rw [atI_nat]; rfl
theorem ixN_z {n : Nat} {i : Int} (h : 0 ≤ i) (h2 : i < n) : ixN n i = some i.toNat := by
  obtain ⟨k, rfl⟩ := Int.eq_ofNat_of_zero_le h
  rw [ixN_nat n k (by omega)]; rfl
theorem law_st (m : Nat) (z : Option Src) : (⟨fun i => if i = 1 then Sl.src else Sl.emp, z⟩ : Sta) = stL (.emp :: .src :: List.replicate m .emp) z := by
  refine Sta.ext' (fun i => ?_) rfl
  show (if i = 1 then Sl.src else Sl.emp) = (Sl.emp :: .src :: List.replicate m .emp).getD i .emp
  match i with
  | 0 => rfl
  | 1 => rfl
  | i + 2 =>
    rw [if_neg (by omega), List.getD_cons_succ, List.getD_cons_succ, List.getD_eq_getElem?_getD, List.getElem?_replicate]
    split <;> rfl
end NV
set_option Elab.async false
set_option linter.all false
set_option maxRecDepth 100000
set_option maxHeartbeats 4000000
/-! NV23: what may be shown; equality of rows; small facts -/
namespace NV
open PySem PySem.Spec PyProof.Rows L2
/-- data that repr may show: of weight at most w, at most n deep -/
structure Okr (w n : Nat) (x : PyData) : Prop where
  s : x.leavesShort 24 = true
  h : x.showable = true
  w : x.weight ≤ w
  d : x.depth ≤ n
  k : x.hasDict = false
theorem Okr.ok {w n : Nat} {d : PyData} (o : Okr w n d) (hw : w ≤ 600000) (hn : n ≤ 64) : reprOk d = true := by
  have h := PyData.shown_le 24 (by decide) d o.s
  have hw' := o.w
  have hd := o.d
  have h2 : (24 + 2) * d.weight ≤ 26 * 600000 := Nat.mul_le_mul (by omega) (by omega)
  unfold reprOk
  have e : decide (d.shown.length ≤ sizeLine) = true := decide_eq_true (by rw [sizeLine_eq]; omega)
  rw [o.h, e, o.k, decide_eq_true (show d.depth ≤ 64 by omega)]; rfl
theorem Okr.mono {w n w' n' : Nat} {d : PyData} (o : Okr w n d) (hw : w ≤ w') (hn : n ≤ n') : Okr w' n' d := ⟨o.s, o.h, Nat.le_trans o.w hw, Nat.le_trans o.d hn, o.k⟩
theorem int_leafW {i : Int} (h : i.natAbs < 10 ^ 22) : (PyData.shown (.int i)).length ≤ 24 := by
  have e := int_text_length_le10 (k := 22) (by decide) h
  show (Str.ofString (toString i)).length ≤ 24
  rw [PySem.ofString_length]; omega
theorem int_logW {i : Int} (h : i.natAbs < 10 ^ 22) (h0 : i.natAbs ≠ 0) : i.natAbs.log2 < 79 := (Nat.log2_lt h0).mpr (Nat.lt_of_lt_of_le h (by decide))
theorem Okr.int {i : Int} (h : i.natAbs < 10 ^ 22) : Okr 80 0 (.int i) := by
  refine ⟨decide_eq_true (int_leafW h), decide_eq_true ?_, ?_, Nat.le_refl _, rfl⟩
  · by_cases h0 : i.natAbs = 0
    · rw [h0]; decide
    · have := int_logW h h0; omega
  · unfold PyData.weight
    split
    · omega
    · rename_i h0
      have := int_logW h fun q => h0 (by simpa using q)
      omega
theorem Okr.str {s : Str} (h : (s.cps.toList.all fun c => decide (c < 16 ^ 8)) = true) : Okr s.cps.size 0 (.str s) := ⟨h, rfl, Nat.le_refl _, Nat.le_refl _, rfl⟩
theorem Okr.nat {i : Nat} (h : i < 10 ^ 22) : Okr 80 0 (.int i) := Okr.int (by omega)
theorem Okr.bool (b : Bool) : Okr 0 0 (.bool b) := ⟨rfl, rfl, Nat.le_refl _, Nat.le_refl _, rfl⟩
theorem Okr.none : Okr 0 0 .none := ⟨rfl, rfl, Nat.le_refl _, Nat.le_refl _, rfl⟩
theorem Okr.all {w n : Nat} : ∀ {xs : List PyData}, (∀ x ∈ xs, Okr w n x) → PyData.leavesShortAll 24 xs = true ∧ PyData.showableAll xs = true ∧ PyData.weightAll xs ≤ (w + 1) * xs.length ∧ PyData.depthAll xs ≤ n ∧ PyData.hasDictAll xs = false
  | [], _ => ⟨rfl, rfl, Nat.zero_le _, Nat.zero_le _, rfl⟩
  | x :: xs, h => by
    obtain ⟨h1, h2, h3, h4, h5⟩ := Okr.all fun y hy => h y (List.mem_cons_of_mem _ hy)
    have o := h x (List.mem_cons_self ..)
    have ow := o.w
    have od := o.d
    refine ⟨?_, ?_, ?_, ?_, ?_⟩
    · show (PyData.leavesShort 24 x && PyData.leavesShortAll 24 xs) = true
      rw [o.s, h1]; rfl
    · show (PyData.showable x && PyData.showableAll xs) = true
      rw [o.h, h2]; rfl
    · show PyData.weight x + 1 + PyData.weightAll xs ≤ (w + 1) * (xs.length + 1)
      rw [Nat.mul_add, Nat.mul_one]; omega
    · show max (PyData.depth x) (PyData.depthAll xs) ≤ n
      omega
    · show (PyData.hasDict x || PyData.hasDictAll xs) = false
      rw [o.k, h5]; rfl
theorem Okr.tup {w n : Nat} {xs : List PyData} (h : ∀ x ∈ xs, Okr w n x) : Okr ((w + 1) * xs.length) (n + 1) (.tuple xs) := by
  obtain ⟨h1, h2, h3, h4, h5⟩ := Okr.all h
  exact ⟨by simp only [PyData.leavesShort]; exact h1, by simp only [PyData.showable]; exact h2, by simp only [PyData.weight]; exact h3, by simp only [PyData.depth]; omega, by simp only [PyData.hasDict]; exact h5⟩
theorem Okr.lst {w n : Nat} {xs : List PyData} (h : ∀ x ∈ xs, Okr w n x) : Okr ((w + 1) * xs.length) (n + 1) (.list xs) := by
  obtain ⟨h1, h2, h3, h4, h5⟩ := Okr.all h
  exact ⟨by simp only [PyData.leavesShort]; exact h1, by simp only [PyData.showable]; exact h2, by simp only [PyData.weight]; exact h3, by simp only [PyData.depth]; omega, by simp only [PyData.hasDict]; exact h5⟩
/-- .. of at most so many -/
theorem Okr.tupM {w n : Nat} {xs : List PyData} (m : Nat) (h : ∀ x ∈ xs, Okr w n x) (hl : xs.length ≤ m) : Okr ((w + 1) * m) (n + 1) (.tuple xs) := (Okr.tup h).mono (Nat.mul_le_mul_left _ hl) (Nat.le_refl _)
theorem Okr.lstM {w n : Nat} {xs : List PyData} (m : Nat) (h : ∀ x ∈ xs, Okr w n x) (hl : xs.length ≤ m) : Okr ((w + 1) * m) (n + 1) (.list xs) := (Okr.lst h).mono (Nat.mul_le_mul_left _ hl) (Nat.le_refl _)
theorem Okr.ints {ns : List Int} (m : Nat) (h : ∀ n ∈ ns, n.natAbs < 10 ^ 22) (hl : ns.length ≤ m) : Okr (81 * m) 1 (.tuple (pI ns)) := Okr.tupM (w := 80) (n := 0) m (fun x hx => by
  obtain ⟨i, hi, rfl⟩ := List.mem_map.mp hx
  exact Okr.int (h i hi)) (by rw [List.length_map]; exact hl)
theorem Okr.nats {ns : List Nat} (m : Nat) (h : ∀ n ∈ ns, n < 10 ^ 22) (hl : ns.length ≤ m) : Okr (81 * m) 1 (.tuple (pN ns)) := Okr.tupM (w := 80) (n := 0) m (fun x hx => by
  obtain ⟨i, hi, rfl⟩ := List.mem_map.mp hx
  exact Okr.nat (h i hi)) (by rw [List.length_map]; exact hl)
theorem bool_ok (b : Bool) : reprOk (.bool b) = true := (Okr.bool b).ok (by decide) (by decide)
/-! ### rows alike -/
theorem eqvAll_ints : ∀ (a b : List Int), PyData.eqvAll (pI a) (pI b) = decide (a = b)
  | [], [] => rfl
  | [], _ :: _ => rfl
  | _ :: _, [] => rfl
  | x :: a, y :: b => by
    show (PyData.eqv (.int x) (.int y) && PyData.eqvAll (pI a) (pI b)) = _
    rw [eqvAll_ints a b]
    show ((x == y) && decide (a = b)) = _
    by_cases h1 : x = y <;> by_cases h2 : a = b <;> simp [h1, h2]
@[simp] theorem eqv_lints (a b : List Int) : PyData.eqv (.list (pI a)) (.list (pI b)) = decide (a = b) := eqvAll_ints a b
@[simp] theorem eqv_tints (a b : List Int) : PyData.eqv (.tuple (pI a)) (.tuple (pI b)) = decide (a = b) := eqvAll_ints a b
mutual
theorem eqv_self : ∀ d : PyData, d.hasDict = false → PyData.eqv d d = true
  | .none, _ => rfl
  | .bool b, _ => by show (b == b) = true; simp
  | .int i, _ => by show (i == i) = true; simp
  | .str x, _ => by show (x == x) = true; simp
  | .list xs, h => eqvAll_self xs (by simpa only [PyData.hasDict] using h)
  | .tuple xs, h => eqvAll_self xs (by simpa only [PyData.hasDict] using h)
  | .dict _, h => by simp [PyData.hasDict] at h
theorem eqvAll_self : ∀ ds : List PyData, PyData.hasDictAll ds = false → PyData.eqvAll ds ds = true
  | [], _ => rfl
  | d :: ds, h => by
    have h' : d.hasDict = false ∧ PyData.hasDictAll ds = false := by simpa [PyData.hasDictAll] using h
    show (PyData.eqv d d && PyData.eqvAll ds ds) = true
    rw [eqv_self d h'.1, eqvAll_self ds h'.2]; rfl
end
/-! ### small facts -/
@[simp] theorem intD_int (i : Int) : NV.intD [.int i] = some (.dat (.int i)) := rfl
@[simp] theorem intD_bool (b : Bool) : NV.intD [.bool b] = some (.dat (.int (if b then 1 else 0))) := rfl
theorem modD_z {a b : Int} (h : 0 < b) : modD (.int a) (.int b) = some (.dat (.int (a % b))) := if_pos h
theorem fdivD_z {a b : Int} (h : 0 < b) (h2 : b < 1073741824) : fdivD (.int a) (.int b) = some (.dat (.int (a / b))) := if_pos (safe_iff.mpr ⟨h, h2⟩)
theorem reprD_ok {d : PyData} (h : reprOk d = true) : reprD [d] = some (.dat (.str d.shown)) := if_pos h
theorem powD_z {a b : Int} (h : 0 ≤ b) (h2 : b ≤ 1000000) (h3 : a.natAbs < 2 ^ 64) : powD (.int a) (.int b) = some (.dat (.int (a ^ b.toNat))) := if_pos (safe_iff.mpr ⟨h, h2, h3⟩)
theorem shlD_z {a b : Int} (h : 0 ≤ b) (h2 : b ≤ 1000000) (h3 : a.natAbs < 2 ^ 64) : shlD (.int a) (.int b) = some (.dat (.int (a * 2 ^ b.toNat))) := if_pos (safe_iff.mpr ⟨h, h2, h3⟩)
theorem mul_ok {a b : Int} (h : -(2 ^ 64) < a) (h2 : a < 2 ^ 64) : mulOk a b = true := decide_eq_true (safe_iff.mpr (.inl ⟨h, h2⟩))
theorem mul_ok2 {a b : Int} (h : -(2 ^ 64) < b) (h2 : b < 2 ^ 64) : mulOk a b = true := decide_eq_true (safe_iff.mpr (.inr ⟨h, h2⟩))
theorem range_at {n i j : Nat} (h : (List.range n)[i]? = some j) : i < n ∧ i = j := by
  have h1 : i < n := by simpa using (List.getElem?_eq_some_iff.mp h).1
  rw [List.getElem?_range h1] at h
  cases h
  exact ⟨h1, rfl⟩
theorem min_z (a b : Int) : minD [.int a, .int b] = some (.dat (.int (min a b))) := by
  show some (R.dat (.int (if b < a then b else a))) = _
  rw [show (if b < a then b else a) = min a b from by split <;> omega]
theorem max_z (a b : Int) : maxD [.int a, .int b] = some (.dat (.int (max a b))) := by
  show some (R.dat (.int (if b > a then b else a))) = _
  rw [show (if b > a then b else a) = max a b from by split <;> omega]
theorem sortedA_l (ns : List Int) : sortedA [.list (pI ns)] = some (.fre (pI (srt ns))) := by
  show ((intsOf _).map _) = _
  rw [intsOf_map]; rfl
theorem sortedA_t (ns : List Int) : sortedA [.tuple (pI ns)] = some (.fre (pI (srt ns))) := by
  show ((intsOf _).map _) = _
  rw [intsOf_map]; rfl
theorem allD_map {α : Type} (xs : List α) (f : α → Bool) : allD [.list (xs.map fun x => .bool (f x))] = some (.dat (.bool (xs.all f))) := by
  have e := blsOf_map (xs.map f)
  rw [List.map_map] at e
  show ((blsOf (List.map (PyData.bool ∘ f) xs)).map _) = _
  rw [e]
  simp [List.all_map, Function.comp_def]
theorem anyD_map {α : Type} (xs : List α) (f : α → Bool) : anyD [.list (xs.map fun x => .bool (f x))] = some (.dat (.bool (xs.any f))) := by
  have e := blsOf_map (xs.map f)
  rw [List.map_map] at e
  show ((blsOf (List.map (PyData.bool ∘ f) xs)).map _) = _
  rw [e]
  simp [List.any_map, Function.comp_def]
end NV
set_option Elab.async false
set_option linter.all false
set_option maxRecDepth 100000
set_option maxHeartbeats 4000000
/-! NV24: stars in displays; slices with steps -/
namespace NV
open PySem PySem.Spec PyProof.Rows L2
@[simp] def fStar (a : M) (m : ME) : ME := fun st => (a st).bind fun (r, st1) => (esc st1 r).bind fun (d, st2) => (seqD d).bind fun xs => (m st2).map fun (ds, st3) => (xs ++ ds, st3)
section
variable {X : Cx} {ea : Expr} {es : List Expr} {a : M} {pos p : Pos}
theorem fv_star {m : ME} (ha : EV X ea a) (hr : FV X es m) (hs : starEach (.Starred ea p :: es) X.env = (true, eval ea X.env) :: starEach es X.env := by rfl) : FV X (.Starred ea p :: es) (fStar a m) :=
  ⟨fun po pins s σ H Q I ⟨L, Hf, st, rs, st', c, e, k⟩ => by
    unfold fStar at e
    obtain ⟨⟨r1, st1⟩, h1, h⟩ := bind_some2 e
    obtain ⟨⟨d, st1'⟩, h1', h⟩ := bind_some2 h
    obtain ⟨xs, hx, h⟩ := bind_some2 h
    obtain ⟨⟨rs2, st2⟩, h2, h⟩ := map_some2 h
    cases h
    refine (StX.pa_star ha hr hs).run po pins s σ H Q I ?_
    refine ev_use c h1 fun v H1 Hf1 s1 c1 q1 => ?_
    obtain ⟨Hf2, s2, c2, o2⟩ := esc_ok c1 q1 h1'
    have : ∃ q vs, v = V.ref q ∧ (SqT X.K H1 q vs ∨ SqL X.K H1 q vs) ∧ RpL Hf2 vs xs := by
      cases o2 with
      | lst e2 r2 => cases hx; exact ⟨_, _, rfl, .inr (.of (c2.le _ _ e2)), r2⟩
      | tup e2 r2 => cases hx; exact ⟨_, _, rfl, .inl (.of (c2.le _ _ e2)), r2⟩
      | non => cases hx
      | bl _ => cases hx
      | int _ => cases hx
      | str _ => cases hx
      | dct _ _ => cases hx
    obtain ⟨q, vs, e1, e2, e3⟩ := this
    refine ⟨q, vs, e1, e2, L, Hf2, st1', rs2, _, c2, h2, fun ws H3 Hf3 s3 c3 q3 => k _ _ _ ((s1.trans s2).trans s3) c3 ((e3.up s3).app q3)⟩⟩
end
/-! ### slices with steps -/
def pickL {α : Type} (xs : List α) (lo hi : Option Int) (k : Int) : List α :=
  (sliceRange (sliceBounds lo hi (some k) xs.length).1 (sliceBounds lo hi (some k) xs.length).2.1 k).filterMap (xs[·]?)
theorem pickL_len {α β : Type} {xs : List α} {ys : List β} (h : xs.length = ys.length) (lo hi : Option Int) (k : Int) : sliceRange (sliceBounds lo hi (some k) xs.length).1 (sliceBounds lo hi (some k) xs.length).2.1 k = sliceRange (sliceBounds lo hi (some k) ys.length).1 (sliceBounds lo hi (some k) ys.length).2.1 k := by rw [h]
theorem slicePick_is (us : List Value) (lo hi : Option Int) (k : Int) : slicePick us.toArray lo hi (some k) = (pickL us lo hi k).toArray := by
  unfold slicePick pickL
  rw [List.size_toArray]
  congr 1
  have e : (fun (i : Nat) => us.toArray[i]?) = fun i => us[i]? := by funext i; simp
  rw [e]
  rfl
theorem fm_vals {xs : List V} {us : List Value} (r : Vals xs us) : ∀ (is : List Nat), Vals (is.filterMap (xs[·]?)) (is.filterMap (us[·]?))
  | [] => .nil
  | i :: is => by
    have ih := fm_vals r is
    rw [List.filterMap_cons, List.filterMap_cons]
    have hl := r.length
    cases hx : xs[i]? with
    | none =>
      have : us[i]? = none := List.getElem?_eq_none (by have := List.getElem?_eq_none_iff.mp hx; omega)
      rw [this]
      exact ih
    | some v =>
      obtain ⟨u, hu, rv⟩ := r.get hx
      rw [hu]
      exact .cons rv ih
theorem pickL_vals {xs : List V} {us : List Value} (r : Vals xs us) (lo hi : Option Int) (k : Int) : Vals (pickL xs lo hi k) (pickL us lo hi k) := by
  unfold pickL
  rw [pickL_len (ys := us) r.length]
  exact fm_vals r _
theorem fm_rp {Hf : Hp} {ds : List PyData} {vs : List V} (r : RpL Hf vs ds) : ∀ (is : List Nat), RpL Hf (is.filterMap (vs[·]?)) (is.filterMap (ds[·]?))
  | [] => .nil
  | i :: is => by
    have ih := fm_rp r is
    rw [List.filterMap_cons, List.filterMap_cons]
    have hl := r.length
    cases hx : ds[i]? with
    | none =>
      have : vs[i]? = none := List.getElem?_eq_none (by have := List.getElem?_eq_none_iff.mp hx; omega)
      rw [this]
      exact ih
    | some v =>
      obtain ⟨u, hu, rv⟩ := r.get hx
      rw [hu]
      exact .cons rv ih
theorem pickL_rp {Hf : Hp} {ds : List PyData} {vs : List V} (r : RpL Hf vs ds) (lo hi : Option Int) (k : Int) : RpL Hf (pickL vs lo hi k) (pickL ds lo hi k) := by
  unfold pickL
  rw [pickL_len (ys := ds) r.length]
  exact fm_rp r _
theorem pickL_le (us : List Value) (lo hi : Option Int) (k : Int) : (pickL us lo hi k).length ≤ us.length := by
  have := slicePick_size_le us.toArray lo hi (some k)
  rw [slicePick_is, List.size_toArray, List.size_toArray] at this
  exact this
/-! the tuple's way -/
theorem clip_is {v c : Int} {n : Nat} : (if v < 0 then max (v + (n : Int)) (if c < 0 then -1 else 0) else min v (if c < 0 then (n : Int) - 1 else (n : Int))) = (if c > 0 then max 0 (min (if v < 0 then v + (n : Int) else v) (n : Int)) else if c < 0 then max (-1) (min (if v < 0 then v + (n : Int) else v) ((n : Int) - 1)) else (if v < 0 then max (v + (n : Int)) 0 else min v n)) := by
  by_cases h1 : v < 0 <;> by_cases h2 : c < 0 <;> by_cases h3 : c > 0 <;> simp only [h1, h2, h3, if_true, if_false] <;> omega
theorem adjust_is (lo hi : Option Int) {c : Int} (hc : c ≠ 0) (n : Nat) : Builtin.Slice.sliceAdjust lo hi c (n : Int) = ((sliceBounds lo hi (some c) n).1, (sliceBounds lo hi (some c) n).2.1) := by
  unfold Builtin.Slice.sliceAdjust sliceBounds
  simp only [Option.getD_some]
  rcases Int.lt_trichotomy c 0 with h | h | h
  · have h' : ¬ c > 0 := by omega
    simp only [h, h', if_true, if_false]
    refine Prod.ext ?_ ?_
    · cases lo with
      | none => rfl
      | some v => dsimp only; split <;> omega
    · cases hi with
      | none => rfl
      | some v => dsimp only; split <;> omega
  · exact absurd h hc
  · have h' : ¬ c < 0 := by omega
    have h2 : c > 0 := h
    simp only [h', h2, if_true, if_false]
    refine Prod.ext ?_ ?_
    · cases lo with
      | none => rfl
      | some v => dsimp only; split <;> omega
    · cases hi with
      | none => rfl
      | some v => dsimp only; split <;> omega
theorem places_is (a b : Int) {c : Int} (hc : c ≠ 0) : (List.range (Builtin.Slice.slicePlaces a b c)).map (fun (m : Nat) => (a + (m : Int) * c).toNat) = sliceRange a b c := by
  unfold Builtin.Slice.slicePlaces sliceRange
  have e1 : ∀ m : Nat, a + (m : Int) * c = a + c * (m : Int) := fun m => by rw [Int.mul_comm]
  have e2 : (if c > 0 then (if a < b then (b - a - 1) / c + 1 else 0) else (if a > b then (a - b - 1) / (-c) + 1 else 0)) = (if c > 0 then (if a < b then (b - a + c - 1) / c else 0) else (if a > b then (a - b - c - 1) / (-c) else 0)) := by
    by_cases h : c > 0
    · simp only [h, if_true]
      split
      · rw [show b - a + c - 1 = b - a - 1 + c * 1 from by omega, Int.add_mul_ediv_left _ _ hc]
      · rfl
    · simp only [h, if_false]
      split
      · rw [show a - b - c - 1 = a - b - 1 + (-c) * 1 from by omega, Int.add_mul_ediv_left _ _ (by omega)]
      · rfl
  dsimp only
  rw [e2]
  exact List.map_congr_left fun m _ => by rw [e1]
section
variable {prog : Program} {w : World} {A : Around} {E : Value → Shared → Prop} {s : Shared}
theorem sliceApplied_st {sl : Addr} {vl vu vs : Value} {lo hi : Option Int} {c : Int} {n : Nat} {Q : Int × Int × Nat → Shared → Prop} (hs : s.heap.IsSliceOf sl vl vu vs) (pl : IsPart vl lo) (pu : IsPart vu hi) (ps : IsPart vs (some c)) (hc : c ≠ 0)
    (h : Q ((sliceBounds lo hi (some c) n).1, c, Builtin.Slice.slicePlaces (sliceBounds lo hi (some c) n).1 (sliceBounds lo hi (some c) n).2.1 c) s) : wpAny (model prog w) A (Builtin.Slice.sliceApplied (.ref sl) (pure (n : Int))) Q E s := by
  obtain ⟨os, hos, hcs, hds⟩ := id hs
  unfold Builtin.Slice.sliceApplied Builtin.Slice.sliceFields
  refine wpAny_bind (wpAny_bind (wpAny_field hos hds (x := vl) rfl (wpAny_bind (wpAny_field hos hds (x := vu) rfl (wpAny_bind (wpAny_field hos hds (x := vs) rfl (wpAny_pure ?_)))))))
  refine wpAny_bind (HT.slicePart_ ps ?_)
  show wpAny _ _ (if (c == 0) = true then _ else _) _ _ s
  rw [if_neg (by simpa using hc)]
  refine wpAny_bind (HT.slicePart_ pl (wpAny_bind (HT.slicePart_ pu (wpAny_bind (wpAny_pure ?_)))))
  show wpAny _ _ (match Builtin.Slice.sliceAdjust lo hi c (n : Int) with | (lo, hi) => pure (lo, c, Builtin.Slice.slicePlaces lo hi c)) _ _ s
  rw [adjust_is lo hi hc n]
  exact wpAny_pure h
theorem getItem_tuple_st {t sl : Addr} {us : List Value} {vl vu vs : Value} {lo hi : Option Int} {c : Int} {Q : Value → Shared → Prop} (ht : IsTup s.heap t us.toArray) (hs : s.heap.IsSliceOf sl vl vu vs) (pl : IsPart vl lo) (pu : IsPart vu hi) (ps : IsPart vs (some c)) (hc : c ≠ 0) (h1 : c ≠ 1)
    (h : Q (.ref s.heap.objs.size) { s with heap := s.heap.push { cls := .type "tuple", data := .seq (pickL us lo hi c).toArray } })
    (hsz : us.length ≤ sizeLine) : wpAny (model prog w) A (getItem (.ref t) (.ref sl)) Q E s := by
  have htake : sizeOk (.seq (pickL us lo hi c).toArray) := by
    show (pickL us lo hi c).toArray.size ≤ sizeLine
    rw [List.size_toArray]
    exact Nat.le_trans (pickL_le us lo hi c) hsz
  obtain ⟨os, hos, hcs, hds⟩ := id hs
  have hTs : s.TypeIs (.ref sl) "slice" := ⟨os, hos, hcs⟩
  unfold getItem
  try with_reducible refine wpAny_holding ?_
  first | refine wpAny_bind (wpAny_pure ?_) | skip
  refine wpAny_bind (wpAny_sequenceKey ht.typeIs (by decide) ?_)
  refine wpAny_bind (wpAny_callSpecial?_slot (name := Str.ofString "__getitem__") ht.typeIs PyProof.Rows.slot_tuple_getitem
    (wpAny_call_entry PyProof.Rows.slot_tuple_getitem ht.typeIs entry_tuple_getitem ?_ (args_tuple_getitem _ _)))
  show wpAny _ _ (Builtin.Tuple.tupleItemsOf (.ref t) >>= _) _ _ s
  refine wpAny_bind (tupleItemsOf_ ht ?_)
  refine wpAny_bind (wpAny_typeOf hTs ?_)
  rw [if_pos (by decide)]
  refine wpAny_bind (sliceApplied_st hs pl pu ps hc ?_)
  generalize hb : sliceBounds lo hi (some c) us.toArray.size = b
  have hno : ¬ ((b.1 == 0 && c == 1 && Builtin.Slice.slicePlaces b.1 b.2.1 c == us.toArray.size) = true) := by
    intro q
    rw [Bool.and_eq_true, Bool.and_eq_true] at q
    exact h1 (eq_of_beq q.1.2)
  show wpAny _ _ (if (b.1 == 0 && c == 1 && Builtin.Slice.slicePlaces b.1 b.2.1 c == us.toArray.size) = true then _ else _) _ _ s
  rw [if_neg hno]
  have hpk : ((List.range (Builtin.Slice.slicePlaces b.1 b.2.1 c)).filterMap fun (m : Nat) => us.toArray[(b.1 + (m : Int) * c).toNat]?).toArray = (pickL us lo hi c).toArray := by
    unfold pickL
    have hb' : sliceBounds lo hi (some c) us.length = b := by rw [← hb, List.size_toArray]
    rw [hb', ← places_is b.1 b.2.1 hc, List.filterMap_map]
    congr 2
    funext m
    simp
  rw [hpk]
  first
    | exact wpAny_bind (m := Builtin.Tuple.tupleExact _) (wpAny_newObj_type (wpAny_pure ⟨_, rfl, wpAny_pure h⟩) htake)
    | exact wpAny_bind (m := Builtin.Tuple.tupleExact _) (wpAny_newObj_type (wpAny_bind (wpAny_pure (wpAny_pure ⟨_, rfl, wpAny_pure h⟩))) htake)
    | exact wpAny_bind (wpAny_bind (m := Builtin.Tuple.tupleExact _) (wpAny_newObj_type (wpAny_pure (wpAny_pure ⟨_, rfl, wpAny_pure h⟩)) htake))
    | exact wpAny_bind (wpAny_bind (m := Builtin.Tuple.tupleExact _) (wpAny_newObj_type (wpAny_pure ⟨_, rfl, wpAny_pure h⟩) htake))
end

section
variable {X : Cx} {e : Expr} {te : TE} {lo hi : Option Expr} {est : Expr} {tl th ts : L2.TO} {pos p2 : Pos}
def tSlS (K : PySem.W.Frag) (te : TE) (tl th ts : L2.TO) : TE := fun σ H Q => te σ H fun x H1 => tl σ H1 fun l H2 => th σ H2 fun u H3 => ts σ H3 fun o H4 => ∃ a xs c, x = .ref a ∧ o = some c ∧ c ≠ 0 ∧
  ((SqL K H4 a xs ∧ ∀ p, H4 p = none → Q (.ref p) (upd H4 p (.lst (pickL xs l u c)))) ∨ (SqT K H4 a xs ∧ c ≠ 1 ∧ ∀ p, H4 p = none → Q (.ref p) (upd H4 p (.tup (pickL xs l u c)))))
theorem pe_slS (he : PE X e te) (hl : PO X lo tl) (hu : PO X hi th) (hst : PO X (some est) ts) : PE X (.Subscript e (.Slice lo hi (some est) p2) pos) (tSlS X.K te tl th ts) := by
  refine ⟨fun pins s σ H Q I h => ?_⟩
  refine Subscript_ (thn (he.run pins s σ H _ I h) fun v s1 ⟨x, H1, I1, r1, q1⟩ => ?_)
  refine wpAny_Slice (thn (hl.run pins s1 σ H1 _ I1 q1) fun vl s2 ⟨l, H2, I2, pl, q2⟩ => thn (hu.run pins s2 σ H2 _ I2 q2) fun vu s3 ⟨u, H3, I3, pu, q3⟩ => thn (hst.run pins s3 σ H3 _ I3 q3) fun vs s4 ⟨o, H4, I4, ps, q4⟩ => ?_)
  obtain ⟨a, xs, c, rfl, rfl, hc, q⟩ := q4
  cases r1
  have I5 : Inv X pins σ H4 { s4 with heap := s4.heap.push { cls := .type "slice", data := .fields #[vl, vu, vs] } } := I4.kept (t' := s4.toks) fun b ob q => Heap.get?_push_of_some _ q
  show wpAny (model X.prog X.w) X.A (subscriptTail e (.Slice lo hi (some est) p2) (.ref a) (.ref s4.heap.objs.size)) (EP X pins σ Q) X.xe { s4 with heap := s4.heap.push { cls := .type "slice", data := .fields #[vl, vu, vs] } }
  rcases q with ⟨hx, q⟩ | ⟨hx, h1, q⟩
  · obtain ⟨its, r, ht, hz⟩ := I5.list hx
    have hlen := r.length
    refine tail_any (ops := [.ref a, .ref s4.heap.objs.size]) ht.isList.typeIs (PySem.slot_list_getitem.lookup) ?_ (by with_unfolding_all rfl)
    refine wpAny_getItem_list_slice ht.isList (Heap.IsSliceOf.new _ vl vu vs) pl pu ps (fun q => hc (by cases q; rfl)) ?_ (by rw [List.size_toArray]; omega)
    rw [slicePick_is]
    refine ⟨.ref _, _, I5.laid (t' := s4.toks) (o := .lst (pickL xs l u c)) (fun b ob q => Heap.get?_push_of_some _ q) (Nat.le_refl _) ?_, rfl, q _ (I5.hok.fresh (Nat.le_refl _))⟩
    have rv := pickL_vals r l u c
    exact ⟨by rw [rv.length]; exact Nat.le_trans (pickL_le its l u c) (by omega), _, 0, rv, Heap.get?_push_size _ rfl⟩
  · obtain ⟨its, r, ht, hz⟩ := I5.tuple hx
    have hlen := r.length
    refine tail_any (ops := [.ref a, .ref s4.heap.objs.size]) ht.typeIs (PyProof.Rows.slot_tuple_getitem.lookup) ?_ (by with_unfolding_all rfl)
    refine getItem_tuple_st ht (Heap.IsSliceOf.new _ vl vu vs) pl pu ps hc h1 ?_ (by omega)
    have rv := pickL_vals r l u c
    refine ⟨.ref _, _, I5.laid (t' := s4.toks) (o := .tup (pickL xs l u c)) (fun b ob q => Heap.get?_push_of_some _ q) (Nat.le_refl _) ?_, rfl, q _ (I5.hok.fresh (Nat.le_refl _))⟩
    exact ⟨by rw [rv.length]; exact Nat.le_trans (pickL_le its l u c) (by omega), _, rv, IsTup.new _ _⟩
def slSD (d : PyData) (lo hi : Option Int) (c : Int) : Option R := match d with
  | .list xs => if c ≠ 0 then some (.fre (pickL xs lo hi c)) else none
  | .tuple xs => if c ≠ 0 ∧ c ≠ 1 then some (.dat (.tuple (pickL xs lo hi c))) else none
  | _ => none
@[simp] def mSlS (a : M) (lo hi : MO) (b : M) : M := fun st => (a st).bind fun (r1, st1) => (lo st1).bind fun (l, st2) => (hi st2).bind fun (h, st3) => (mInt b st3).bind fun (c, st4) => (res st4 r1).bind fun d => (slSD d l h c).map fun r => (r, st4)
theorem ev_slS {a b : M} {mlo mhi : MO} (ha : EV X e a) (hl : OV X lo mlo) (hh : OV X hi mhi) (hb : EV X est b) : EV X (.Subscript e (.Slice lo hi (some est) p2) pos) (mSlS a mlo mhi b) := by
  refine ev_of fun L Hf st r st' σ H Q c e k => ⟨_, pe_slS ha hl hh (ov_some hb), ?_⟩
  unfold mSlS at e
  obtain ⟨⟨r1, st1⟩, h1, e⟩ := bind_some2 e
  obtain ⟨⟨l, st2⟩, h2, e⟩ := bind_some2 e
  obtain ⟨⟨u, st3⟩, h3, e⟩ := bind_some2 e
  obtain ⟨⟨k', st4⟩, h4, e⟩ := bind_some2 e
  obtain ⟨d, h5, e⟩ := bind_some2 e
  obtain ⟨r', h6, e⟩ := map_some2 e
  cases e
  refine ev_use c h1 fun v H1 Hf1 s1 c1 q1 => ?_
  obtain ⟨Hf2, s2, c2, o2⟩ := q1.opd c1
  refine ⟨L, Hf2, st1, l, st2, c2, h2, fun H3 Hf3 s3 c3 => ⟨L, Hf3, st2, u, _, c3, h3, fun H4 Hf4 s4 c4 => ⟨L, Hf4, st3, some k', st', c4, ?_, fun H5 Hf5 s5 c5 => ?_⟩⟩⟩
  · have h4' := mInt_some h4
    show (match b st3 with | some (.dat (.int i), st') => some (some i, st') | _ => none) = _
    rw [h4']
  have q := (o2.mono ((s3.trans s4).trans s5)).rq c5 h5
  have k' := k.sub ((s1.trans s2).trans ((s3.trans s4).trans s5))
  unfold slSD at h6
  split at h6
  · split at h6
    · rename_i hc
      cases h6
      obtain ⟨p, vs, rfl, ea, r1⟩ := q.lst c5.le
      exact ⟨p, vs, _, rfl, rfl, hc, .inl ⟨.of ea, fun l hl => (Grow.lst hl (pickL_rp r1 _ _ _)).after c5 k'⟩⟩
    · cases h6
  · split at h6
    · rename_i hc
      cases h6
      obtain ⟨p, vs, rfl, ea, r1⟩ := q.tup c5.le
      exact ⟨p, vs, _, rfl, rfl, hc.1, .inr ⟨.of ea, hc.2, fun l hl => (Grow.tup hl (pickL_rp r1 _ _ _)).after c5 k'⟩⟩
    · cases h6
  · cases h6
end
end NV
set_option Elab.async false
set_option linter.all false
set_option maxRecDepth 100000
set_option maxHeartbeats 4000000
/-! NV25: max, min, sum of tuples of ints -/
namespace MmT
open PySem PyProof.Rows
section
variable {prog : Program} {w : World} {A : Around} {E : Value → Shared → Prop} {s : Shared} {l : Addr} {xs : Array (Int × Tok)} {its : List Value} {ns : List Int} {Q : Value → Shared → Prop}
theorem iter_intTup (hl : s.heap.IsTuple l (intItems xs))
    (h : ∀ s₂ : Shared, s₂ = { s with heap := s.heap.push { cls := .type "tuple_iterator", data := .fields #[.ref l, .int 0 0] } } →
      (s₂.heap.IsTupleIter s.heap.objs.size l 0 ∧ s₂.heap.IsTuple l (intItems xs)) → (∀ b ∈ [s.heap.objs.size, l], b < s₂.heap.objs.size) → l ≠ s.heap.objs.size → Q (.ref s.heap.objs.size) s₂) :
    wpAny (model prog w) A (pyIter (.ref l)) Q E s := by
  have hlt : l < s.heap.objs.size := by obtain ⟨_, e, _⟩ := hl; exact Heap.lt_size e
  refine wpAny_pyIter_tuple hl (h _ rfl ⟨⟨_, Heap.get?_push_size _ rfl, rfl, rfl⟩, hl.push _⟩ (fun b hb => ?_) (Nat.ne_of_lt hlt))
  show b < (s.heap.push _).objs.size
  rw [Heap.size_push]
  rcases List.mem_cons.mp hb with rfl | hb
  · exact Nat.lt_succ_self _
  · rcases List.mem_cons.mp hb with rfl | hb
    · exact Nat.lt_succ_of_lt hlt
    · cases hb
theorem old_kept {h' : Heap} (hk : ∀ b o, b ∉ [s.heap.objs.size] → (s.heap.push { cls := .type "tuple_iterator", data := .fields #[.ref l, .int 0 0] }).get? b = some o → h'.get? b = some o) :
    ∀ b o, s.heap.get? b = some o → h'.get? b = some o := fun b o e => by
  refine hk b o (fun hm => ?_) (Heap.get?_push_of_some _ e)
  rcases List.mem_cons.mp hm with e1 | hm
  · exact absurd (e1 ▸ Heap.lt_size e) (Nat.lt_irrefl _)
  · cases hm
theorem sum_raw (hh : A.handled = none) (hl : s.heap.IsTuple l its.toArray) (hi : IntsAre its ns)
    (h : ∀ h' tk t', (∀ b o, s.heap.get? b = some o → h'.get? b = some o) → Q (.int ns.sum t') { s with heap := h', toks := tk }) : wpAny (model prog w) A (call (.builtin "sum") [.ref l]) Q E s := by
  obtain ⟨xs, e⟩ := hi.allInts.items
  have hn : numsOf (intItems xs).toList = ns := by rw [← e]; exact hi.numsOf
  rw [nums_intItems] at hn
  rw [e] at hl
  refine call_sum_walkG (iter_intTup hl fun s₂ e st hfp hlI => ?_)
  subst e
  refine ⟨_, _, _, _, _, _, numAt xs, rfl, Walks.tuple (A := A.in1) hh _ l hlI (intItems xs), st, hfp, (fun _ _ => intItems_at), fun h' tk t' hk => ?_⟩
  have := h h' tk t' (old_kept hk)
  simp only [intItems, Array.size_map]
  rw [preSum_eq, List.take_of_length_le (by simp), hn]
  exact this
theorem max_raw (hh : A.handled = none) (hl : s.heap.IsTuple l its.toArray) (hi : IntsAre its ns) (hne : 0 < ns.length)
    (h : ∀ h' tk M t', (∀ b o, s.heap.get? b = some o → h'.get? b = some o) → M ∈ ns → (∀ a, a ∈ ns → a ≤ M) → Q (.int M t') { s with heap := h', toks := tk }) : wpAny (model prog w) A (call (.builtin "max") [.ref l]) Q E s := by
  obtain ⟨xs, e⟩ := hi.allInts.items
  have hn : numsOf (intItems xs).toList = ns := by rw [← e]; exact hi.numsOf
  rw [nums_intItems] at hn
  subst hn
  rw [e] at hl
  have hsz : 0 < xs.size := by simpa using hne
  refine call_max_walk (iter_intTup hl fun s₂ e st hfp hlI => ?_)
  subst e
  refine ⟨_, _, _, _, _, _, _, rfl, Walks.tuple (A := A.in1) hh _ l hlI (intItems xs), st, hfp, by simpa [intItems] using hsz, CmpOf.ints_gt (numAt xs) (fun _ _ => intItems_at), fun v h' tk hP hk => ?_⟩
  have hv : (intItems xs)[argBest (fun i j => decide (numAt xs i > numAt xs j)) (xs.size - 1)]? = some v := by simpa [intItems] using hP
  obtain ⟨t, rfl⟩ := intItems_at hv
  obtain ⟨h1, h2⟩ := argBest_gt (numAt xs) (xs.size - 1)
  refine h h' tk _ t (old_kept hk) ?_ fun a ha => ?_
  · rw [numAt_eq]; exact PySem.getD_mem (by rw [List.length_map, Array.length_toList]; omega)
  · obtain ⟨j, hj, rfl⟩ := mem_getD ha
    rw [List.length_map, Array.length_toList] at hj
    rw [← numAt_eq]; exact h2 j (by omega)
theorem min_raw (hh : A.handled = none) (hl : s.heap.IsTuple l its.toArray) (hi : IntsAre its ns) (hne : 0 < ns.length)
    (h : ∀ h' tk M t', (∀ b o, s.heap.get? b = some o → h'.get? b = some o) → M ∈ ns → (∀ a, a ∈ ns → M ≤ a) → Q (.int M t') { s with heap := h', toks := tk }) : wpAny (model prog w) A (call (.builtin "min") [.ref l]) Q E s := by
  obtain ⟨xs, e⟩ := hi.allInts.items
  have hn : numsOf (intItems xs).toList = ns := by rw [← e]; exact hi.numsOf
  rw [nums_intItems] at hn
  subst hn
  rw [e] at hl
  have hsz : 0 < xs.size := by simpa using hne
  refine call_min_walk (iter_intTup hl fun s₂ e st hfp hlI => ?_)
  subst e
  refine ⟨_, _, _, _, _, _, _, rfl, Walks.tuple (A := A.in1) hh _ l hlI (intItems xs), st, hfp, by simpa [intItems] using hsz, CmpOf.ints_lt (numAt xs) (fun _ _ => intItems_at), fun v h' tk hP hk => ?_⟩
  have hv : (intItems xs)[argBest (fun i j => decide (numAt xs i < numAt xs j)) (xs.size - 1)]? = some v := by simpa [intItems] using hP
  obtain ⟨t, rfl⟩ := intItems_at hv
  obtain ⟨h1, h2⟩ := argBest_lt (numAt xs) (xs.size - 1)
  refine h h' tk _ t (old_kept hk) ?_ fun a ha => ?_
  · rw [numAt_eq]; exact PySem.getD_mem (by rw [List.length_map, Array.length_toList]; omega)
  · obtain ⟨j, hj, rfl⟩ := mem_getD ha
    rw [List.length_map, Array.length_toList] at hj
    rw [← numAt_eq]; exact h2 j (by omega)
end
end MmT

namespace NV
open PySem PySem.Spec PyProof.Rows L2
section
variable {X : Cx}
theorem cr_sumT (hc : X.calm = true) : CallR X (.builtin "sum") (fun vs H Q => ∃ (a : Addr) (ns : List Int), vs = [V.ref a] ∧ SqT X.K H a (ns.map V.int) ∧ Q (.int ns.sum) H) := by
  intro pins s σ H vs us Q I r h
  obtain ⟨a, ns, rfl, hs, q⟩ := h
  obtain ⟨its, rv, hl, _⟩ := I.tuple hs
  rw [Vals.ref1 r]
  exact MmT.sum_raw (I.ok.hd hc) hl rv.ints fun h' tk t' hk => ⟨.int _, H, I.kept hk, ⟨_, rfl⟩, q⟩
theorem cr_maxT (hc : X.calm = true) : CallR X (.builtin "max") (fun vs H Q => ∃ (a : Addr) (ns : List Int), vs = [V.ref a] ∧ SqT X.K H a (ns.map V.int) ∧ 0 < ns.length ∧ ∀ m, m ∈ ns → (∀ y, y ∈ ns → y ≤ m) → Q (.int m) H) := by
  intro pins s σ H vs us Q I r h
  obtain ⟨a, ns, rfl, hs, hne, q⟩ := h
  obtain ⟨its, rv, hl, _⟩ := I.tuple hs
  rw [Vals.ref1 r]
  exact MmT.max_raw (I.ok.hd hc) hl rv.ints hne fun h' tk m t' hk h1 h2 => ⟨.int _, H, I.kept hk, ⟨_, rfl⟩, q m h1 h2⟩
theorem cr_minT (hc : X.calm = true) : CallR X (.builtin "min") (fun vs H Q => ∃ (a : Addr) (ns : List Int), vs = [V.ref a] ∧ SqT X.K H a (ns.map V.int) ∧ 0 < ns.length ∧ ∀ m, m ∈ ns → (∀ y, y ∈ ns → m ≤ y) → Q (.int m) H) := by
  intro pins s σ H vs us Q I r h
  obtain ⟨a, ns, rfl, hs, hne, q⟩ := h
  obtain ⟨its, rv, hl, _⟩ := I.tuple hs
  rw [Vals.ref1 r]
  exact MmT.min_raw (I.ok.hd hc) hl rv.ints hne fun h' tk m t' hk h1 h2 => ⟨.int _, H, I.kept hk, ⟨_, rfl⟩, q m h1 h2⟩
def minA : List PyData → Option R
  | [.tuple ds] => (intsOf ds).bind fun ns => (minL ns).map fun k => .dat (.int k)
  | ds => minD ds
def maxA : List PyData → Option R
  | [.tuple ds] => (intsOf ds).bind fun ns => (maxL ns).map fun k => .dat (.int k)
  | ds => maxD ds
def sumA : List PyData → Option R
  | [.tuple ds] => (intsOf ds).map fun ns => .dat (.int ns.sum)
  | ds => sumD ds
theorem c_sumA (g : Gd X) : DCall X (.builtin "sum") sumA := by
  intro Hf H xs ds r Q s rx e k
  unfold sumA at e
  split at e
  · obtain ⟨ns, e1, e⟩ := map_some2 e
    subst e
    obtain ⟨v, rfl, q⟩ := rx.one
    obtain ⟨a, vs, rfl, ea, q⟩ := q.tup s
    have z := intsOf_some e1
    subst z
    have z := q.ints
    subst z
    exact ⟨_, cr_sumT g.calm, a, ns, rfl, .of ea, k _ _ (.old (.int _))⟩
  · exact c_sum g Hf H xs _ r Q s rx e k
theorem c_maxA (g : Gd X) : DCall X (.builtin "max") maxA := by
  intro Hf H xs ds r Q s rx e k
  unfold maxA at e
  split at e
  · obtain ⟨ns, e1, e⟩ := bind_some2 e
    obtain ⟨m, e2, e⟩ := map_some2 e
    subst e
    obtain ⟨v, rfl, q⟩ := rx.one
    obtain ⟨a, vs, rfl, ea, q⟩ := q.tup s
    have z := intsOf_some e1
    subst z
    have z := q.ints
    subst z
    refine ⟨_, cr_maxT g.calm, a, ns, rfl, .of ea, ?_, fun m' h1 h2 => ?_⟩
    · cases ns with
      | nil => cases e2
      | cons x xs => simp
    · rw [maxL_is e2 h1 h2]; exact k _ _ (.old (.int _))
  · exact c_max g Hf H xs _ r Q s rx e k
theorem c_minA (g : Gd X) : DCall X (.builtin "min") minA := by
  intro Hf H xs ds r Q s rx e k
  unfold minA at e
  split at e
  · obtain ⟨ns, e1, e⟩ := bind_some2 e
    obtain ⟨m, e2, e⟩ := map_some2 e
    subst e
    obtain ⟨v, rfl, q⟩ := rx.one
    obtain ⟨a, vs, rfl, ea, q⟩ := q.tup s
    have z := intsOf_some e1
    subst z
    have z := q.ints
    subst z
    refine ⟨_, cr_minT g.calm, a, ns, rfl, .of ea, ?_, fun m' h1 h2 => ?_⟩
    · cases ns with
      | nil => cases e2
      | cons x xs => simp
    · rw [minL_is e2 h1 h2]; exact k _ _ (.old (.int _))
  · exact c_min g Hf H xs _ r Q s rx e k
end
theorem minA_z (a b : Int) : minA [.int a, .int b] = some (.dat (.int (min a b))) := min_z a b
theorem maxA_z (a b : Int) : maxA [.int a, .int b] = some (.dat (.int (max a b))) := max_z a b
/-- the least, the greatest -/
def mnI (ns : List Int) : Int := (minL ns).getD 0
def mxI (ns : List Int) : Int := (maxL ns).getD 0
theorem minL_some {ns : List Int} (h : ns ≠ []) : minL ns = some (mnI ns) := by
  cases ns with
  | nil => exact absurd rfl h
  | cons x xs => rfl
theorem maxL_some {ns : List Int} (h : ns ≠ []) : maxL ns = some (mxI ns) := by
  cases ns with
  | nil => exact absurd rfl h
  | cons x xs => rfl
theorem mnI_mem {ns : List Int} (h : ns ≠ []) : mnI ns ∈ ns := by
  cases ns with
  | nil => exact absurd rfl h
  | cons x xs =>
    show xs.foldl min x ∈ x :: xs
    rcases (foldl_min xs x).1 with e | e
    · rw [e]; exact List.mem_cons_self ..
    · exact List.mem_cons_of_mem _ e
theorem mnI_le {ns : List Int} : ∀ x ∈ ns, mnI ns ≤ x := by
  cases ns with
  | nil => exact fun x h => nomatch h
  | cons x xs =>
    intro y hy
    show xs.foldl min x ≤ y
    rcases List.mem_cons.mp hy with rfl | hy
    · exact (foldl_min xs y).2.1
    · exact (foldl_min xs x).2.2 y hy
theorem mxI_mem {ns : List Int} (h : ns ≠ []) : mxI ns ∈ ns := by
  cases ns with
  | nil => exact absurd rfl h
  | cons x xs =>
    show xs.foldl max x ∈ x :: xs
    rcases (foldl_max xs x).1 with e | e
    · rw [e]; exact List.mem_cons_self ..
    · exact List.mem_cons_of_mem _ e
theorem mxI_le {ns : List Int} : ∀ x ∈ ns, x ≤ mxI ns := by
  cases ns with
  | nil => exact fun x h => nomatch h
  | cons x xs =>
    intro y hy
    show y ≤ xs.foldl max x
    rcases List.mem_cons.mp hy with rfl | hy
    · exact (foldl_max xs y).2.1
    · exact (foldl_max xs x).2.2 y hy
theorem minA_t {ns : List Int} (h : ns ≠ []) : minA [.tuple (pI ns)] = some (.dat (.int (mnI ns))) := by
  show ((intsOf (pI ns)).bind _) = _
  rw [intsOf_map, Option.bind_some, minL_some h]; rfl
theorem maxA_t {ns : List Int} (h : ns ≠ []) : maxA [.tuple (pI ns)] = some (.dat (.int (mxI ns))) := by
  show ((intsOf (pI ns)).bind _) = _
  rw [intsOf_map, Option.bind_some, maxL_some h]; rfl
theorem minA_l {ns : List Int} (h : ns ≠ []) : minA [.list (pI ns)] = some (.dat (.int (mnI ns))) := by
  show ((intsOf (pI ns)).bind _) = _
  rw [intsOf_map, Option.bind_some, minL_some h]; rfl
theorem maxA_l {ns : List Int} (h : ns ≠ []) : maxA [.list (pI ns)] = some (.dat (.int (mxI ns))) := by
  show ((intsOf (pI ns)).bind _) = _
  rw [intsOf_map, Option.bind_some, maxL_some h]; rfl
theorem sumA_t (ns : List Int) : sumA [.tuple (pI ns)] = some (.dat (.int ns.sum)) := by
  show ((intsOf (pI ns)).map _) = _
  rw [intsOf_map]; rfl
theorem sumA_l (ns : List Int) : sumA [.list (pI ns)] = some (.dat (.int ns.sum)) := by
  show ((intsOf (pI ns)).map _) = _
  rw [intsOf_map]; rfl
end NV
namespace NV
open PySem PySem.Spec PyProof.Rows L2
theorem iRg2_int {a b : M} {st st1 st2 : Sta} {i j : Int} (ha : a st = some (.dat (.int i), st1)) (hb : b st1 = some (.dat (.int j), st2)) (h1 : -16777216 ≤ i) (h2 : i ≤ 16777216) (h3 : -16777216 ≤ j) (h4 : j ≤ 16777216) : iRg2 a b st = some (rgD i (j - i).toNat, st2) := by
  unfold iRg2 mInt
  rw [ha]
  show ((match b st1 with | some (.dat (.int i), st1) => some (i, st1) | _ => none).bind _) = _
  rw [hb]
  show (if Safe (-(2 ^ 62) ≤ i ∧ i < 2 ^ 62 ∧ -(2 ^ 62) ≤ j ∧ j < 2 ^ 62) then _ else _) = _
  rw [if_pos (safe_iff.mpr ⟨by omega, by omega, by omega, by omega⟩)]
theorem iRg3_dn {a b c : M} {st st1 st2 st3 : Sta} {i j : Int} (ha : a st = some (.dat (.int i), st1)) (hb : b st1 = some (.dat (.int j), st2)) (hc : c st2 = some (.dat (.int (-1)), st3)) (h1 : -1000000 ≤ j) (h2 : j ≤ i) (h3 : i ≤ 1000000) :
    iRg3 a b c st = some ((List.range (i - j).toNat).map fun (k : Nat) => .int (i - k), st3) := by
  have hs : Builtin.Range.rangeSize i j (-1) = i - j := by
    unfold Builtin.Range.rangeSize
    rw [if_neg (by decide), show (- -1 : Int) = 1 from by decide, Int.ediv_one]
    split <;> omega
  have hsm : Builtin.Range.small i j (-1) = true := by
    unfold Builtin.Range.small
    rw [hs]
    simp only [Builtin.Range.rangeFitsLong, Bool.and_eq_true, Bool.or_eq_true, decide_eq_true_eq, beq_iff_eq, show ¬ ((-1 : Int) > 0) by decide, if_false]
    omega
  unfold iRg3 mInt
  rw [ha]
  show ((match b st1 with | some (.dat (.int i), st1) => some (i, st1) | _ => none).bind _) = _
  rw [hb]
  show ((match c st2 with | some (.dat (.int i), st1) => some (i, st1) | _ => none).bind _) = _
  rw [hc]
  show (if Safe ((-1 : Int) ≠ 0 ∧ (-1 : Int).natAbs < 1073741824 ∧ Builtin.Range.small i j (-1) = true ∧ 0 ≤ Builtin.Range.rangeSize i j (-1)) then _ else _) = _
  rw [if_pos (safe_iff.mpr ⟨by decide, by decide, hsm, by rw [hs]; omega⟩), hs]
  unfold rgC
  congr 2
  exact List.map_congr_left fun k _ => by congr 1; omega
theorem last_at {α : Type} {xs : List α} (h : 0 < xs.length) : atI xs (-1) = xs[xs.length - 1]? := by
  have e : ixN xs.length (-1) = some (xs.length - 1) := by
    unfold ixN
    rw [if_neg (by decide), if_pos (by omega)]
    congr 1; omega
  show (ixN xs.length (-1)).bind _ = _
  rw [e]; rfl
end NV
namespace NV
open PySem PySem.Spec PyProof.Rows L2
theorem mulD_list {a : List PyData} {k : Int} (h : -(2 ^ 63) ≤ k ∧ k < 2 ^ 63 ∧ a.length * k.toNat ≤ sizeLine) : mulD (.list a) (.int k) = some (.fre (List.replicate k.toNat a).flatten) := if_pos (safe_iff.mpr h)
theorem mulD_rep {x : PyData} {n : Nat} (h : n ≤ 1000000) : mulD (.list [x]) (.int n) = some (.fre (List.replicate n x)) := by
  have hs : [x].length * (n : Int).toNat ≤ sizeLine := by
    rw [Int.toNat_natCast, List.length_singleton, Nat.one_mul, sizeLine_eq]; omega
  rw [mulD_list ⟨by omega, by omega, hs⟩, Int.toNat_natCast]
  congr 2
  have : ∀ k : Nat, (List.replicate k [x]).flatten = List.replicate k x := by
    intro k
    induction k with
    | zero => rfl
    | succ k ih => rw [List.replicate_succ, List.flatten_cons, ih, List.replicate_succ]; rfl
  exact this n
end NV
set_option Elab.async false
set_option linter.all false
set_option maxRecDepth 100000
set_option maxHeartbeats 4000000
namespace K83
open PySem PySem.Spec PyProof.Rows L2 NV
def topS (i : Nat) : Stmt := PySem.Challenge.pw_sortedbynets_k83_whole_nets_that_count.main.body.getD i (.Pass ⟨0, 0, 0, 0⟩)
noncomputable def G_law_pick : List PyData → Src → Option (R × Src) := shut pickG
theorem L_law_pick : ∀ ds z r, G_law_pick ds z = some r → ds.length + 1 = 2 := by unfold G_law_pick; rw [shut_eq]; exact pickG_len
theorem s_law_pick : Spick G_law_pick := by unfold G_law_pick; rw [shut_eq]; exact spick
abbrev sPick : Stmt := topS 21
theorem scPick : FnScope ["source", "most", "cells", "others", "lap", "stirred"] ["source", "most"] (defScope sPick) := ⟨rfl, rfl, rfl, by decide +kernel, rfl, by decide +kernel, by decide +kernel⟩
section
variable {P : Program} {w : World} {K : PySem.W.Frag} {mg : Str → Option Value} {base : Heap}
theorem ok_pick0 {f : Addr} {fd : FuncData} {k : Nat} (F : L2.Fun K "_law_pick" "_law_pick" sPick f fd) (ml : mg "len" = none) (mi : mg "int" = none) : FnG P w K mg base (k + 1) f fd ["source", "most"] (spS 2 pickG) := by
  refine FnG.of (F.ok scPick (fun vs H Q E h => ?_) (fun cdv A outer s H vs Q E hr h => ?_))
  · obtain ⟨_, _, _, _, _, _, _, _, hl, _⟩ := h
    exact hl
  · obtain ⟨aD, aC, Hf, z, ws, ds, r, z', hl, rfl, s1, sa, n1, n2, q, hg, kk⟩ := h
    have hu := hu_of hr
    unfold pickG at hg
    split at hg
    · split at hg
      · rename_i most hm
        cases hg
        cases q with
        | cons q1 q2 =>
        cases q2
        cases q1
        refine ⟨_, pss_cons (ps_if (pt_cmpR op_lt (pv 1) pe_int (nomark _)) (pss_one (ps_ret pe_int)) pss_nil)
          (pss_cons (ps_set (i := 2) scPick.nd rfl (.inl rfl) (pe_dget hu (pv 0) pe_str (fun _ _ => rfl)))
          (pss_cons (ps_while PassesOwn.never (PW.pt (pw_and (pt_cmpR op_lt (pe_dget hu (pv 0) pe_str (fun _ _ => rfl)) pe_int (nomark _)) (pw_and1 (pt_cmpR op_gt (pe_callB call_len_seq (by rfl) ml PySem.boot_len (pa_cons (pv 2) pa_nil)) pe_int (nomark _)))))
            (pss_one (ps_dput hu (pv 0) pe_str (pe_bm0 PySem.F.plainAttrs_list PySem.F.slot_list_pop PySem.F.type_list_pop mt_pop (pv 2)) rfl)))
          (pss_cons (ps_set (i := 3) scPick.nd rfl (.inl rfl) (pe_dget hu (pv 0) pe_str (fun _ _ => rfl)))
          (pss_cons (ps_if (pt_cmpR op_gt (pv 3) pe_int (nomark _)) (pss_cons (ps_dput hu (pv 0) pe_str (pe_op op_fdiv (pv 3) (pv 1)) rfl) (pss_one (ps_ret (pe_op op_mod (pe_callTy call_int1 (by rfl) mi PyProof.Rows.boot_int (pa_cons (pv 3) pa_nil)) (pv 1))))) pss_nil)
          (pss_cons (ps_dput hu (pv 0) pe_str (pe_op op_add (pe_dget hu (pv 0) pe_str (fun _ _ => rfl)) pe_int) rfl)
          (pss_cons (ps_set (i := 4) scPick.nd rfl (.inl rfl) (pe_dget hu (pv 0) pe_str (fun _ _ => rfl)))
          (pss_cons (ps_set (i := 5) scPick.nd rfl (.inl rfl) (pe_op op_mod (pe_callTy call_int1 (by rfl) mi PyProof.Rows.boot_int (pa_cons (pe_op op_add (pe_dget hu (pv 0) pe_str (fun _ _ => rfl)) (pe_op op_mul (pv 4) pe_int)) pa_nil)) pe_int))
          (pss_cons (ps_set (i := 5) scPick.nd rfl (.inl rfl) (pe_op op_mod (pe_callTy call_int1 (by rfl) mi PyProof.Rows.boot_int (pa_cons (pe_op op_add (pe_op op_mul (pv 5) (pv 5)) (pe_op op_mul (pv 4) pe_int)) pa_nil)) pe_int))
          (pss_one (ps_ret (pe_op op_mod (pe_callTy call_int1 (by rfl) mi PyProof.Rows.boot_int (pa_cons (pe_op op_fdiv (pv 5) pe_int) pa_nil)) (pv 1)))))))))))), ?_⟩
        -- if most < 2: return 0
        refine ⟨_, rfl, _, _, rfl, rfl, _, rfl, ite2 (fun e => ?_) (fun e => ?_)⟩
        · have e' : most < 2 := of_decide_eq_true e
          have hp : pickN most z = (0, z) := by unfold pickN; rw [if_pos e']
          rw [hp] at kk
          exact pick_end s1 n1 n2 Elsewhere.refl sa kk
        · have e' : ¬ most < 2 := fun q => e (decide_eq_true q)
          have mp : 0 < most := by omega
          -- cells = source["cells"]
          refine ⟨_, rfl, aD, _, rfl, sa.get (k := kCells) val_cells, ?_⟩
          -- while
          refine ⟨fun m σ H1 => ∃ z1 : Src, σ = [some (.ref aD), some (.int most), some (.ref aC), none, none, none] ∧ SrcAt ⟨aD, aC, fun _ => none⟩ z1 H1 ∧ Elsewhere ⟨aD, aC, fun _ => none⟩ H H1 ∧ z1.mixed = z.mixed ∧ z1.turn = z.turn ∧ m = z1.cells.length ∧
            drainN m z1.cells z1.left = drainN z.cells.length z.cells z.left, ⟨_, z, rfl, sa, Elsewhere.refl, rfl, rfl, rfl, rfl⟩, ?_⟩
          rintro m σ H1 ⟨z1, rfl, sa1, el1, em, et, rfl, edr⟩
          have done : ¬ (z1.left < 2 ∧ 0 < z1.cells.length) → drainN z.cells.length z.cells z.left = (z1.cells, z1.left) := fun q => by
            rw [← edr]
            cases hcl : z1.cells.length with
            | zero => rfl
            | succ n => unfold drainN; rw [if_neg q]
          refine ⟨_, rfl, aD, _, rfl, sa1.get (k := kLeft) val_left, _, _, rfl, rfl, _, rfl, ite2 (fun e1 => ?_) (fun e1 => ?_)⟩
          · refine ⟨_, rfl, aC, _, rfl, .inl (.of sa1.2), _, _, rfl, rfl, _, rfl, ite2 (fun e2 => ?_) (fun e2 => ?_)⟩
            · have q1 : z1.left < 2 := of_decide_eq_true e1
              have q2 : 0 < z1.cells.length := by
                have := of_decide_eq_true e2
                rw [List.length_map] at this
                omega
              refine ⟨fun σ' H' => ∃ z2 : Src, σ' = [some (.ref aD), some (.int most), some (.ref aC), none, none, none] ∧ SrcAt ⟨aD, aC, fun _ => none⟩ z2 H' ∧ Elsewhere ⟨aD, aC, fun _ => none⟩ H H' ∧ z2.mixed = z.mixed ∧ z2.turn = z.turn ∧ z2.cells.length < z1.cells.length ∧
                drainN z2.cells.length z2.cells z2.left = drainN z.cells.length z.cells z.left, fun σ' H' ⟨z2, h1, h2, h3, h4, h5, h6, h7⟩ => ⟨_, h6, z2, h1, h2, h3, h4, h5, rfl, h7⟩, ?_⟩
              obtain ⟨sa2, el2⟩ := sa1.pop
              obtain ⟨dp, sa3, el3⟩ := sa2.put (k := kLeft) (v := z1.cells.getLastD 0) put_left rfl
              refine ⟨_, rfl, .inl ⟨rfl, _, .of sa1.2⟩, aC, _, _, rfl, rfl, sa1.2, getLastD_at q2, _, rfl, aD, _, rfl, dp, ?_⟩
              refine ⟨_, rfl, sa3, el1.trans (el2.trans el3), em, et, ?_, ?_⟩
              · show z1.cells.dropLast.length < z1.cells.length
                rw [List.length_dropLast]; omega
              · show drainN z1.cells.dropLast.length z1.cells.dropLast (z1.cells.getLastD 0) = _
                rw [← edr]
                cases hcl : z1.cells.length with
                | zero => omega
                | succ n =>
                  rw [List.length_dropLast, hcl]
                  show _ = (if z1.left < 2 ∧ 0 < z1.cells.length then drainN n z1.cells.dropLast (z1.cells.getLastD 0) else (z1.cells, z1.left))
                  rw [if_pos ⟨q1, q2⟩]; rfl
            · have hd := done fun q => e2 (decide_eq_true (by rw [List.length_map]; omega))
              have hpk : pickN most z = if 1 < z1.left then (z1.left % most, ⟨z1.cells, z1.left / most, z.mixed, z.turn⟩) else
                              (((((z.mixed + (z.turn + 1) * 104729) % 998244353) * ((z.mixed + (z.turn + 1) * 104729) % 998244353) + (z.turn + 1) * 17) % 2147483647) / 16 % most, ⟨z1.cells, z1.left, z.mixed, z.turn + 1⟩) := by
                unfold pickN
                rw [if_neg e']
                dsimp only
                rw [hd]
              refine ⟨_, rfl, aD, _, rfl, sa1.get (k := kLeft) val_left, _, rfl, _, _, rfl, rfl, _, rfl, ite2 (fun e3 => ?_) (fun e3 => ?_)⟩
              · have q3 : 1 < z1.left := of_decide_eq_true e3
                rw [if_pos q3] at hpk
                obtain ⟨dp, sa3, el3⟩ := sa1.put (k := kLeft) (v := z1.left / most) put_left rfl
                refine ⟨_, rfl, _, rfl, _, _, rfl, rfl, ⟨mp, hm⟩, _, rfl, aD, _, rfl, dp, _, rfl, .inl ⟨_, rfl, _, rfl, _, _, rfl, rfl, mp, ?_⟩⟩
                rw [hpk] at kk
                refine pick_end s1 n1 n2 (el1.trans el3) ?_ kk
                rw [← em, ← et]
                exact sa3
              · have q3 : ¬ 1 < z1.left := fun q => e3 (decide_eq_true q)
                rw [if_neg q3] at hpk
                obtain ⟨dp, sa3, el3⟩ := sa1.put (k := kTurn) (v := z1.turn + 1) put_turn rfl
                refine ⟨_, rfl, aD, _, rfl, sa1.get (k := kTurn) val_turn, _, _, rfl, rfl, _, rfl, aD, _, rfl, dp, ?_⟩
                refine ⟨_, rfl, aD, _, rfl, sa3.get (k := kTurn) val_turn, ?_⟩
                refine ⟨_, rfl, aD, _, rfl, sa3.get (k := kMixed) val_mixed, _, rfl, _, _, rfl, rfl, .inr ⟨by decide, by decide⟩, _, _, rfl, rfl, .inl ⟨_, rfl, _, _, rfl, rfl, (by show (0 : Int) < 998244353; decide), ?_⟩⟩
                have b0 : 0 ≤ (z1.mixed + (z1.turn + 1) * 104729) % 998244353 := Int.emod_nonneg _ (by decide)
                have b1 : (z1.mixed + (z1.turn + 1) * 104729) % 998244353 < 998244353 := Int.emod_lt_of_pos _ (by decide)
                refine ⟨_, rfl, _, rfl, _, _, rfl, rfl, .inl ⟨by show -(2 ^ 64) < (z1.mixed + (z1.turn + 1) * 104729) % 998244353; omega, by show (z1.mixed + (z1.turn + 1) * 104729) % 998244353 < 2 ^ 64; omega⟩, _, rfl, _, _, rfl, rfl, .inr ⟨by decide, by decide⟩, _, _, rfl, rfl, .inl ⟨_, rfl, _, _, rfl, rfl, (by show (0 : Int) < 2147483647; decide), ?_⟩⟩
                refine ⟨_, rfl, _, _, rfl, rfl, ⟨by decide, by decide⟩, .inl ⟨_, rfl, _, rfl, _, _, rfl, rfl, mp, ?_⟩⟩
                rw [hpk] at kk
                rw [← em, ← et] at kk
                exact pick_end s1 n1 n2 (el1.trans el3) sa3 kk
          · have hd := done fun q => e1 (decide_eq_true q.1)
            refine iteF ?_
            have hpk : pickN most z = if 1 < z1.left then (z1.left % most, ⟨z1.cells, z1.left / most, z.mixed, z.turn⟩) else
                            (((((z.mixed + (z.turn + 1) * 104729) % 998244353) * ((z.mixed + (z.turn + 1) * 104729) % 998244353) + (z.turn + 1) * 17) % 2147483647) / 16 % most, ⟨z1.cells, z1.left, z.mixed, z.turn + 1⟩) := by
              unfold pickN
              rw [if_neg e']
              dsimp only
              rw [hd]
            refine ⟨_, rfl, aD, _, rfl, sa1.get (k := kLeft) val_left, _, rfl, _, _, rfl, rfl, _, rfl, ite2 (fun e3 => ?_) (fun e3 => ?_)⟩
            · have q3 : 1 < z1.left := of_decide_eq_true e3
              rw [if_pos q3] at hpk
              obtain ⟨dp, sa3, el3⟩ := sa1.put (k := kLeft) (v := z1.left / most) put_left rfl
              refine ⟨_, rfl, _, rfl, _, _, rfl, rfl, ⟨mp, hm⟩, _, rfl, aD, _, rfl, dp, _, rfl, .inl ⟨_, rfl, _, rfl, _, _, rfl, rfl, mp, ?_⟩⟩
              rw [hpk] at kk
              refine pick_end s1 n1 n2 (el1.trans el3) ?_ kk
              rw [← em, ← et]
              exact sa3
            · have q3 : ¬ 1 < z1.left := fun q => e3 (decide_eq_true q)
              rw [if_neg q3] at hpk
              obtain ⟨dp, sa3, el3⟩ := sa1.put (k := kTurn) (v := z1.turn + 1) put_turn rfl
              refine ⟨_, rfl, aD, _, rfl, sa1.get (k := kTurn) val_turn, _, _, rfl, rfl, _, rfl, aD, _, rfl, dp, ?_⟩
              refine ⟨_, rfl, aD, _, rfl, sa3.get (k := kTurn) val_turn, ?_⟩
              refine ⟨_, rfl, aD, _, rfl, sa3.get (k := kMixed) val_mixed, _, rfl, _, _, rfl, rfl, .inr ⟨by decide, by decide⟩, _, _, rfl, rfl, .inl ⟨_, rfl, _, _, rfl, rfl, (by show (0 : Int) < 998244353; decide), ?_⟩⟩
              have b0 : 0 ≤ (z1.mixed + (z1.turn + 1) * 104729) % 998244353 := Int.emod_nonneg _ (by decide)
              have b1 : (z1.mixed + (z1.turn + 1) * 104729) % 998244353 < 998244353 := Int.emod_lt_of_pos _ (by decide)
              refine ⟨_, rfl, _, rfl, _, _, rfl, rfl, .inl ⟨by show -(2 ^ 64) < (z1.mixed + (z1.turn + 1) * 104729) % 998244353; omega, by show (z1.mixed + (z1.turn + 1) * 104729) % 998244353 < 2 ^ 64; omega⟩, _, rfl, _, _, rfl, rfl, .inr ⟨by decide, by decide⟩, _, _, rfl, rfl, .inl ⟨_, rfl, _, _, rfl, rfl, (by show (0 : Int) < 2147483647; decide), ?_⟩⟩
              refine ⟨_, rfl, _, _, rfl, rfl, ⟨by decide, by decide⟩, .inl ⟨_, rfl, _, rfl, _, _, rfl, rfl, mp, ?_⟩⟩
              rw [hpk] at kk
              rw [← em, ← et] at kk
              exact pick_end s1 n1 n2 (el1.trans el3) sa3 kk
      · cases hg
    · cases hg
theorem ok_pick {f : Addr} {fd : FuncData} {k : Nat} (F : L2.Fun K "_law_pick" "_law_pick" sPick f fd) (ml : mg "len" = none) (mi : mg "int" = none) : FnG P w K mg base (k + 1) f fd ["source", "most"] (spS 2 G_law_pick) := by
  unfold G_law_pick
  rw [shut_eq]
  exact ok_pick0 F ml mi
end
abbrev sOpen : Stmt := topS 20
theorem scOpen : FnScope ["script", "stirred", "cell", "cells"] ["script"] (defScope sOpen) := ⟨rfl, rfl, rfl, by decide +kernel, rfl, by decide +kernel, by decide +kernel⟩
section
variable {P : Program} {w : World} {K : PySem.W.Frag} {mg : Str → Option Value} {base : Heap}
theorem ok_open {f : Addr} {fd : FuncData} {k : Nat} (F : L2.Fun K "_law_source" "_law_source" sOpen f fd) (mi : mg "int" = none) (ma : mg "abs" = none) : FnG P w K mg base (k + 1) f fd ["script"] (spO K) := by
  refine FnG.of (F.ok scOpen (fun vs H Q E h => ?_) (fun cdv A outer s H vs Q E hr h => ?_))
  · obtain ⟨a, ns, rfl, _⟩ := h
    rfl
  · obtain ⟨a, ns, rfl, hS, hl, kk⟩ := h
    refine ⟨_, pss_cons (ps_set (i := 1) scOpen.nd rfl (.inl rfl) pe_int)
      (pss_cons (ps_for PassesOwn.never rfl (pi_list (pv 0)) (pg_name (i := 2) scOpen.nd rfl (.inl rfl))
        (pss_one (ps_set (i := 1) scOpen.nd rfl (.inl rfl) (pe_op op_mod (pe_callTy call_int1 (by rfl) mi PyProof.Rows.boot_int (pa_cons (pe_op op_add (pe_op op_add (pe_op op_mul (pv 1) pe_int) (pe_op op_mul (pv 2) pe_int)) pe_int) pa_nil)) pe_int))))
      (pss_cons (ps_setLc (i := 3) (own := [("cell", 2)]) (g := gName 2) (tt := tYes) rfl scOpen.nd rfl rfl (sw_true rfl rfl rfl (by decide +kernel)) (pi_list (pv 0)) (blkOk_by (N := ["script", "stirred", "cell", "cells"]) (own := [("cell", 2)]) (sc := defScope sOpen) (by decide +kernel))
        (fun _ _ _ _ _ => pg_name (i := 2) scOpen.nd rfl (.inl rfl)) (fun _ _ _ _ _ => pts_nil) (fun _ _ _ _ _ => pe_callB call_abs (by rfl) ma PyProof.Rows.boot_abs (pa_cons (pv 2) pa_nil)))
      (pss_one (ps_ret (pe_disp (pps_cons pe_str (pe_revL (pv 3)) (pps_cons pe_str pe_int (pps_cons pe_str (pv 1) (pps_cons pe_str pe_int pps_nil)))) (by rfl) (by rfl) (by intro z; cases z) (by decide)))))), ?_⟩
    refine ⟨_, rfl, a, rfl, ⟨_, hS⟩, for_list (K := K) (a := a) (xs := ns.map V.int) (fun i σ H2 => H2 = H ∧ ∃ y, σ = [some (.ref a), some (.int (mixA (ns.take i))), y, none]) ⟨rfl, none, rfl⟩ (fun i σ H2 _ ⟨e, _⟩ => by rw [e]; exact hS) ?_ ?_⟩
    · rintro i x σ H2 hi ⟨rfl, y, rfl⟩
      obtain ⟨c, hc, rfl⟩ : ∃ c, ns[i]? = some c ∧ x = .int c := by
        rw [List.getElem?_map] at hi
        obtain ⟨c, h1, h2⟩ := map_some2 hi
        exact ⟨c, h1, h2.symm⟩
      refine ⟨_, rfl, _, _, rfl, rfl, .inr ⟨by decide, by decide⟩, _, rfl, _, _, rfl, rfl, .inr ⟨by decide, by decide⟩, _, _, rfl, rfl, _, _, rfl, rfl, .inl ⟨_, rfl, _, _, rfl, rfl, (by show (0 : Int) < 2147483629; decide), rfl, some (.int c), ?_⟩⟩
      show [_, some (V.int _), _, _] = _
      rw [List.take_add_one, hc]
      unfold mixA
      rw [Option.toList_some, List.foldl_append]
      rfl
    · rintro σ H2 ⟨rfl, y, rfl⟩
      refine ⟨_, rfl, a, rfl, ⟨_, hS⟩, fun D hD => lc_list (K := K) (a := a) (xs := ns.map V.int) (fun i H3 => H3 = upd H2 D (.lst ((ns.take i).map fun c => V.int (if c < 0 then -c else c)))) (by rfl) (fun i H3 _ e => by rw [e]; exact (show Same H2 (upd H2 D _) from Sub.ext hD).seq hS) ?_ ?_⟩
      · rintro i x H3 hi rfl
        obtain ⟨c, hc, rfl⟩ : ∃ c, ns[i]? = some c ∧ x = .int c := by
          rw [List.getElem?_map] at hi
          obtain ⟨c, h1, h2⟩ := map_some2 hi
          exact ⟨c, h1, h2.symm⟩
        refine ⟨rfl, ?_⟩
        unfold tYes
        dsimp only
        rw [if_pos rfl]
        refine ⟨_, rfl, c, rfl, _, upd_same, ?_, ?_⟩
        · rw [List.length_map, List.length_take]
          exact Nat.lt_of_le_of_lt (Nat.min_le_right _ _) (small1000 (by omega))
        · rw [upd_upd, List.take_add_one, hc, List.map_append]
          rfl
      · rintro H3 rfl
        rw [List.length_map, List.take_length]
        have e0 : (ns.take (ns.map V.int).length) = ns := by rw [List.length_map, List.take_length]
        refine fun p hp => ⟨_, rfl, D, _, rfl, .of (by rw [upd_ne (ne_of_none upd_same hp)]; exact upd_same), fun q hq => ⟨_, rfl, ?_⟩⟩
        have npq : p ≠ q := ne_of_none upd_same hq
        have hrev : (ns.map fun c => V.int (if c < 0 then -c else c)).reverse = (openZ ns).cells.map V.int := by
          show _ = ((ns.map fun c => if c < 0 then -c else c).reverse).map V.int
          rw [← List.map_reverse, ← List.map_reverse, List.map_map]
          rfl
        have npD : D ≠ p := ne_of_none upd_same hp
        refine ⟨by rw [upd_ne npq]; exact upd_same, srcKvs ⟨p, q, fun _ => none⟩ (openZ ns), ?_, by show 4 ≤ 15; decide, ?_⟩
        · rfl
        · rw [merge_src]
          refine kk p q _ (fun b o e => ?_) ?_ ?_ ⟨upd_same, ?_⟩
          · have b1 : b ≠ D := ne_of_none e hD
            have b2 : b ≠ p := ne_of_none (Sub.ext hD b o e) hp
            have b3 : b ≠ q := ne_of_none (Sub.ext hp b o (Sub.ext hD b o e)) hq
            rw [upd_ne b2, upd_ne b3, upd_ne b2, upd_ne b1]; exact e
          · exact (Sub.ext hD).nil hp
          · exact (Sub.ext hD).nil ((Sub.ext hp).nil hq)
          · rw [upd_ne npq.symm, upd_same, hrev]
end
abbrev sled_amounts : Stmt := topS 1
theorem scled_amounts : FnScope ["net", "amounts", "found", "i", "j", "both"] ["net", "amounts"] (defScope sled_amounts) := ⟨rfl, rfl, rfl, by decide +kernel, rfl, by decide +kernel, by decide +kernel⟩
noncomputable def Yled_amounts_1 (n : Nat) : MS := shut (
    sCons (sAsg 5 (mBin addD (mBin idxD (mVar 2) (mVar 3)) (mBin idxD (mVar 2) (mVar 4))))
    (sCons (sSetIx 2 (mVar 3) (mBin subD (mVar 5) (mBin fdivD (mVar 5) (mC (.int 2)))))
    (sCons (sSetIx 2 (mVar 4) (mBin fdivD (mVar 5) (mC (.int 2))))
    (sNil))))
noncomputable def Bled_amounts (n : Nat) : MS :=
    sCons (sAsg 2 (mCallB listD (aCons (mVar 1) (aNil))))
    (sCons (sFor (tKeep [2] (tTupG 2 (tgCons (tName 3) (tgCons (tName 4) (tgNil))))) (iSeq (mBin idxD (mVar 0) (mC (.int 1)))) (Yled_amounts_1 n))
    (sKeep [2] (sCons (sRet (mCallB tupleD (aCons (mVar 2) (aNil))))
    (sNil))))
theorem bvled_amounts {P : Program} {w : World} {K : PySem.W.Frag} {mg : Str → Option Value} {base : Heap} {f : Addr} {k : Nat} (m_list : mg "list" = none) (m_tuple : mg "tuple" = none) (cdv : Value) (A : Around) (outer : List Env) (s : Shared) (H : Hp) (E : XK)
    (hr : Room k (A.deeper (envOfC "led_amounts" (defScope sled_amounts) s.heap.objs.size f cdv))) (g : Gd (cxOf CX0 P w K mg base ["net", "amounts", "found", "i", "j", "both"] "led_amounts" (defScope sled_amounts) f cdv A outer s H E).nox) (n : Nat) :
    BV (cxOf CX0 P w K mg base ["net", "amounts", "found", "i", "j", "both"] "led_amounts" (defScope sled_amounts) f cdv A outer s H E).nox (defBody sled_amounts) (Bled_amounts n) :=
  bv_cons (sv_asg (i := 2) g rfl (.inl rfl) (ev_callTy c_list (by rfl) m_list bt_list (av_cons (ev_var (i := 1) rfl (.inl rfl)) (av_nil))))
    (bv_cons (sv_for g (iv_seq (ev_ix (ev_var (i := 0) rfl (.inl rfl)) (ev_int))) (gv_keep (gv_tup (n := 2) g (gvs_cons (gv_name (i := 3) g rfl (.inl rfl)) (gvs_cons (gv_name (i := 4) g rfl (.inl rfl)) (gvs_nil))))) (bv_shut (bv_cons (sv_asg (i := 5) g rfl (.inl rfl) (ev_bin d_add (ev_ix (ev_var (i := 2) rfl (.inl rfl)) (ev_var (i := 3) rfl (.inl rfl))) (ev_ix (ev_var (i := 2) rfl (.inl rfl)) (ev_var (i := 4) rfl (.inl rfl)))))
    (bv_cons (sv_setIx (i := 2) rfl (.inl rfl) (ev_var (i := 3) rfl (.inl rfl)) (ev_bin d_sub (ev_var (i := 5) rfl (.inl rfl)) (ev_bin d_fdiv (ev_var (i := 5) rfl (.inl rfl)) (ev_int))))
    (bv_cons (sv_setIx (i := 2) rfl (.inl rfl) (ev_var (i := 4) rfl (.inl rfl)) (ev_bin d_fdiv (ev_var (i := 5) rfl (.inl rfl)) (ev_int)))
    (bv_nil))))))
    (bv_keep (bv_cons (sv_ret (ev_callTy c_tuple (by rfl) m_tuple bt_tuple (av_cons (ev_var (i := 2) rfl (.inl rfl)) (av_nil))))
    (bv_nil))))
noncomputable def Gled_amounts : List PyData → Option R := shut (GP (Bled_amounts) 0 2)
theorem Lled_amounts : ∀ ds r, Gled_amounts ds = some r → ds.length = 2 := by unfold Gled_amounts; rw [shut_eq]; exact GP_len
theorem cled_amounts {P : Program} {w : World} {K : PySem.W.Frag} {mg : Str → Option Value} {base : Heap} {f : Addr} {fd : FuncData} (k : Nat) (F : L2.Fun K "led_amounts" "led_amounts" sled_amounts f fd) (m_list : mg "list" = none) (m_tuple : mg "tuple" = none) : FnG P w K mg base (k + 1) f fd ["net", "amounts"] (spP 2 Gled_amounts) := by
  unfold Gled_amounts
  rw [shut_eq]
  exact fnGP (N := ["net", "amounts", "found", "i", "j", "both"]) (ps := ["net", "amounts"]) 0 F scled_amounts (fun cdv A outer s H E hr g n => bvled_amounts (k := k) (m_list := m_list) (m_tuple := m_tuple) (cdv := cdv) (A := A) (outer := outer) (s := s) (H := H) (E := E) (hr := hr) (g := g) (n := n))
abbrev sis_step : Stmt := topS 2
theorem scis_step : FnScope ["amounts", "falls", "i"] ["amounts"] (defScope sis_step) := ⟨rfl, rfl, rfl, by decide +kernel, rfl, by decide +kernel, by decide +kernel⟩
noncomputable def Cis_step_1 : M := shut (
    mComp [2] (tName 2) (iRg2 (mC (.int 1)) (mCallB lenD (aCons (mVar 0) (aNil)))) (tYesM) (mBin geD (mBin idxD (mVar 0) (mBin subD (mVar 2) (mC (.int 1)))) (mBin idxD (mVar 0) (mVar 2))))
noncomputable def Bis_step (n : Nat) : MS :=
    sCons (sAsg 1 (mCallB allD (aCons (Cis_step_1) (aNil))))
    (sCons (sIf (mNotT (mTru (mVar 1))) (sCons (sRet (mC (.bool false)))
    (sNil)) (sNil))
    (sCons (sRet (mBin leD (mBin subD (mBin idxD (mVar 0) (mC (.int 0))) (mBin idxD (mVar 0) (mNeg (mC (.int 1))))) (mC (.int 1))))
    (sNil)))
theorem bvis_step {P : Program} {w : World} {K : PySem.W.Frag} {mg : Str → Option Value} {base : Heap} {f : Addr} {k : Nat} (m_all : mg "all" = none) (m_len : mg "len" = none) (m_range : mg "range" = none) (cdv : Value) (A : Around) (outer : List Env) (s : Shared) (H : Hp) (E : XK)
    (hr : Room k (A.deeper (envOfC "is_step" (defScope sis_step) s.heap.objs.size f cdv))) (g : Gd (cxOf CX0 P w K mg base ["amounts", "falls", "i"] "is_step" (defScope sis_step) f cdv A outer s H E).nox) (n : Nat) :
    BV (cxOf CX0 P w K mg base ["amounts", "falls", "i"] "is_step" (defScope sis_step) f cdv A outer s H E).nox (defBody sis_step) (Bis_step n) :=
  bv_cons (sv_asg (i := 1) g rfl (.inl rfl) (ev_callB (c_all g) (by rfl) m_all bt_all (av_cons (ev_shut (ev_comp g (own := [("i", 2)]) (iv_range2 (by rfl) m_range (ev_int) (ev_callB c_len (by rfl) m_len bt_len (av_cons (ev_var (i := 0) rfl (.inr (.inl (by kernel_rfl)))) (av_nil)))) (blkOk_by (N := ["amounts", "falls", "i"]) (own := [("i", 2)]) (sc := defScope sis_step) (by decide +kernel)) rfl (by decide) (fun s_ H_ C_ cl_ fp_ => have g1 := (g).blk s_ H_ _ _ fp_; gv_name (i := 2) g1 rfl (.inl rfl)) (fun _ _ _ _ _ => tvs_nil) (fun _ _ _ _ _ => ev_cmp d_ge (ev_ix (ev_var (i := 0) rfl (.inr (.inl (by kernel_rfl)))) (ev_bin d_sub (ev_var (i := 2) rfl (.inl rfl)) (ev_int))) (ev_ix (ev_var (i := 0) rfl (.inr (.inl (by kernel_rfl)))) (ev_var (i := 2) rfl (.inl rfl))) (nomark _)))) (av_nil))))
    (bv_cons (sv_if (tv_not (tv_tru (ev_var (i := 1) rfl (.inl rfl)))) (bv_cons (sv_ret (ev_bl))
    (bv_nil)) (bv_nil))
    (bv_cons (sv_ret (ev_cmp d_le (ev_bin d_sub (ev_ix (ev_var (i := 0) rfl (.inr (.inl (by kernel_rfl)))) (ev_int)) (ev_ix (ev_var (i := 0) rfl (.inr (.inl (by kernel_rfl)))) (ev_neg (ev_int)))) (ev_int) (nomark _)))
    (bv_nil)))
noncomputable def Gis_step : List PyData → Option R := shut (GP (Bis_step) 0 1)
theorem Lis_step : ∀ ds r, Gis_step ds = some r → ds.length = 1 := by unfold Gis_step; rw [shut_eq]; exact GP_len
theorem cis_step {P : Program} {w : World} {K : PySem.W.Frag} {mg : Str → Option Value} {base : Heap} {f : Addr} {fd : FuncData} (k : Nat) (F : L2.Fun K "is_step" "is_step" sis_step f fd) (m_all : mg "all" = none) (m_len : mg "len" = none) (m_range : mg "range" = none) : FnG P w K mg base (k + 1) f fd ["amounts"] (spP 1 Gis_step) := by
  unfold Gis_step
  rw [shut_eq]
  exact fnGP (N := ["amounts", "falls", "i"]) (ps := ["amounts"]) 0 F scis_step (fun cdv A outer s H E hr g n => bvis_step (k := k) (m_all := m_all) (m_len := m_len) (m_range := m_range) (cdv := cdv) (A := A) (outer := outer) (s := s) (H := H) (E := E) (hr := hr) (g := g) (n := n))
abbrev sstep_of_sum : Stmt := topS 3
theorem scstep_of_sum : FnScope ["n", "total", "i"] ["n", "total"] (defScope sstep_of_sum) := ⟨rfl, rfl, rfl, by decide +kernel, rfl, by decide +kernel, by decide +kernel⟩
noncomputable def Cstep_of_sum_1 : M := shut (
    mComp [2] (tName 2) (iRg1 (mVar 0)) (tYesM) (mBin fdivD (mBin subD (mBin subD (mBin addD (mVar 1) (mVar 0)) (mC (.int 1))) (mVar 2)) (mVar 0)))
noncomputable def Bstep_of_sum (n : Nat) : MS :=
    sCons (sRet (mCallB tupleD (aCons (Cstep_of_sum_1) (aNil))))
    (sNil)
theorem bvstep_of_sum {P : Program} {w : World} {K : PySem.W.Frag} {mg : Str → Option Value} {base : Heap} {f : Addr} {k : Nat} (m_range : mg "range" = none) (m_tuple : mg "tuple" = none) (cdv : Value) (A : Around) (outer : List Env) (s : Shared) (H : Hp) (E : XK)
    (hr : Room k (A.deeper (envOfC "step_of_sum" (defScope sstep_of_sum) s.heap.objs.size f cdv))) (g : Gd (cxOf CX0 P w K mg base ["n", "total", "i"] "step_of_sum" (defScope sstep_of_sum) f cdv A outer s H E).nox) (n : Nat) :
    BV (cxOf CX0 P w K mg base ["n", "total", "i"] "step_of_sum" (defScope sstep_of_sum) f cdv A outer s H E).nox (defBody sstep_of_sum) (Bstep_of_sum n) :=
  bv_cons (sv_ret (ev_callTy c_tuple (by rfl) m_tuple bt_tuple (av_cons (ev_shut (ev_comp g (own := [("i", 2)]) (iv_range1 (by rfl) m_range (ev_var (i := 0) rfl (.inr (.inl (by kernel_rfl))))) (blkOk_by (N := ["n", "total", "i"]) (own := [("i", 2)]) (sc := defScope sstep_of_sum) (by decide +kernel)) rfl (by decide) (fun s_ H_ C_ cl_ fp_ => have g1 := (g).blk s_ H_ _ _ fp_; gv_name (i := 2) g1 rfl (.inl rfl)) (fun _ _ _ _ _ => tvs_nil) (fun _ _ _ _ _ => ev_bin d_fdiv (ev_bin d_sub (ev_bin d_sub (ev_bin d_add (ev_var (i := 1) rfl (.inr (.inl (by kernel_rfl)))) (ev_var (i := 0) rfl (.inr (.inl (by kernel_rfl))))) (ev_int)) (ev_var (i := 2) rfl (.inl rfl))) (ev_var (i := 0) rfl (.inr (.inl (by kernel_rfl))))))) (av_nil))))
    (bv_nil)
noncomputable def Gstep_of_sum : List PyData → Option R := shut (GP (Bstep_of_sum) 0 2)
theorem Lstep_of_sum : ∀ ds r, Gstep_of_sum ds = some r → ds.length = 2 := by unfold Gstep_of_sum; rw [shut_eq]; exact GP_len
theorem cstep_of_sum {P : Program} {w : World} {K : PySem.W.Frag} {mg : Str → Option Value} {base : Heap} {f : Addr} {fd : FuncData} (k : Nat) (F : L2.Fun K "step_of_sum" "step_of_sum" sstep_of_sum f fd) (m_range : mg "range" = none) (m_tuple : mg "tuple" = none) : FnG P w K mg base (k + 1) f fd ["n", "total"] (spP 2 Gstep_of_sum) := by
  unfold Gstep_of_sum
  rw [shut_eq]
  exact fnGP (N := ["n", "total", "i"]) (ps := ["n", "total"]) 0 F scstep_of_sum (fun cdv A outer s H E hr g n => bvstep_of_sum (k := k) (m_range := m_range) (m_tuple := m_tuple) (cdv := cdv) (A := A) (outer := outer) (s := s) (H := H) (E := E) (hr := hr) (g := g) (n := n))
abbrev slongest_way : Stmt := topS 5
theorem sclongest_way : FnScope ["net", "ways", "i", "j", "both"] ["net"] (defScope slongest_way) := ⟨rfl, rfl, rfl, by decide +kernel, rfl, by decide +kernel, by decide +kernel⟩
noncomputable def Ylongest_way_1 (n : Nat) : MS := shut (
    sCons (sAsg 4 (mBin addD (mCallB maxA (aCons (mBin idxD (mVar 1) (mVar 2)) (aCons (mBin idxD (mVar 1) (mVar 3)) (aNil)))) (mC (.int 1))))
    (sCons (sSetIx 1 (mVar 2) (mVar 4))
    (sCons (sSetIx 1 (mVar 3) (mVar 4))
    (sNil))))
noncomputable def Blongest_way (n : Nat) : MS :=
    sCons (sAsg 1 (mBin mulD (mLst (fCons (mC (.int 0)) (fNil))) (mBin idxD (mVar 0) (mC (.int 0)))))
    (sCons (sFor (tKeep [1] (tTupG 2 (tgCons (tName 2) (tgCons (tName 3) (tgNil))))) (iSeq (mBin idxD (mVar 0) (mC (.int 1)))) (Ylongest_way_1 n))
    (sKeep [1] (sCons (sRet (mCallB maxA (aCons (mVar 1) (aNil))))
    (sNil))))
theorem bvlongest_way {P : Program} {w : World} {K : PySem.W.Frag} {mg : Str → Option Value} {base : Heap} {f : Addr} {k : Nat} (m_max : mg "max" = none) (cdv : Value) (A : Around) (outer : List Env) (s : Shared) (H : Hp) (E : XK)
    (hr : Room k (A.deeper (envOfC "longest_way" (defScope slongest_way) s.heap.objs.size f cdv))) (g : Gd (cxOf CX0 P w K mg base ["net", "ways", "i", "j", "both"] "longest_way" (defScope slongest_way) f cdv A outer s H E).nox) (n : Nat) :
    BV (cxOf CX0 P w K mg base ["net", "ways", "i", "j", "both"] "longest_way" (defScope slongest_way) f cdv A outer s H E).nox (defBody slongest_way) (Blongest_way n) :=
  bv_cons (sv_asg (i := 1) g rfl (.inl rfl) (ev_bin d_mul (ev_lst (fv_cons (ev_int) (fv_nil))) (ev_ix (ev_var (i := 0) rfl (.inl rfl)) (ev_int))))
    (bv_cons (sv_for g (iv_seq (ev_ix (ev_var (i := 0) rfl (.inl rfl)) (ev_int))) (gv_keep (gv_tup (n := 2) g (gvs_cons (gv_name (i := 2) g rfl (.inl rfl)) (gvs_cons (gv_name (i := 3) g rfl (.inl rfl)) (gvs_nil))))) (bv_shut (bv_cons (sv_asg (i := 4) g rfl (.inl rfl) (ev_bin d_add (ev_callB (c_maxA g) (by rfl) m_max bt_max (av_cons (ev_ix (ev_var (i := 1) rfl (.inl rfl)) (ev_var (i := 2) rfl (.inl rfl))) (av_cons (ev_ix (ev_var (i := 1) rfl (.inl rfl)) (ev_var (i := 3) rfl (.inl rfl))) (av_nil)))) (ev_int)))
    (bv_cons (sv_setIx (i := 1) rfl (.inl rfl) (ev_var (i := 2) rfl (.inl rfl)) (ev_var (i := 4) rfl (.inl rfl)))
    (bv_cons (sv_setIx (i := 1) rfl (.inl rfl) (ev_var (i := 3) rfl (.inl rfl)) (ev_var (i := 4) rfl (.inl rfl)))
    (bv_nil))))))
    (bv_keep (bv_cons (sv_ret (ev_callB (c_maxA g) (by rfl) m_max bt_max (av_cons (ev_var (i := 1) rfl (.inl rfl)) (av_nil))))
    (bv_nil))))
noncomputable def Glongest_way : List PyData → Option R := shut (GP (Blongest_way) 0 1)
theorem Llongest_way : ∀ ds r, Glongest_way ds = some r → ds.length = 1 := by unfold Glongest_way; rw [shut_eq]; exact GP_len
theorem clongest_way {P : Program} {w : World} {K : PySem.W.Frag} {mg : Str → Option Value} {base : Heap} {f : Addr} {fd : FuncData} (k : Nat) (F : L2.Fun K "longest_way" "longest_way" slongest_way f fd) (m_max : mg "max" = none) : FnG P w K mg base (k + 1) f fd ["net"] (spP 1 Glongest_way) := by
  unfold Glongest_way
  rw [shut_eq]
  exact fnGP (N := ["net", "ways", "i", "j", "both"]) (ps := ["net"]) 0 F sclongest_way (fun cdv A outer s H E hr g n => bvlongest_way (k := k) (m_max := m_max) (cdv := cdv) (A := A) (outer := outer) (s := s) (H := H) (E := E) (hr := hr) (g := g) (n := n))
abbrev samounts_alone : Stmt := topS 6
theorem scamounts_alone : FnScope ["n", "line", "many", "k"] ["n", "line", "many"] (defScope samounts_alone) := ⟨rfl, rfl, rfl, by decide +kernel, rfl, by decide +kernel, by decide +kernel⟩
noncomputable def Camounts_alone_1 : M := shut (
    mComp [3] (tName 3) (iRg1 (mVar 0)) (tYesM) (mIf (mB (mBin eqD2 (mVar 3) (mVar 1))) (mVar 2) (mC (.int 0))))
noncomputable def Bamounts_alone (n : Nat) : MS :=
    sCons (sRet (mCallB tupleD (aCons (Camounts_alone_1) (aNil))))
    (sNil)
theorem bvamounts_alone {P : Program} {w : World} {K : PySem.W.Frag} {mg : Str → Option Value} {base : Heap} {f : Addr} {k : Nat} (m_range : mg "range" = none) (m_tuple : mg "tuple" = none) (cdv : Value) (A : Around) (outer : List Env) (s : Shared) (H : Hp) (E : XK)
    (hr : Room k (A.deeper (envOfC "amounts_alone" (defScope samounts_alone) s.heap.objs.size f cdv))) (g : Gd (cxOf CX0 P w K mg base ["n", "line", "many", "k"] "amounts_alone" (defScope samounts_alone) f cdv A outer s H E).nox) (n : Nat) :
    BV (cxOf CX0 P w K mg base ["n", "line", "many", "k"] "amounts_alone" (defScope samounts_alone) f cdv A outer s H E).nox (defBody samounts_alone) (Bamounts_alone n) :=
  bv_cons (sv_ret (ev_callTy c_tuple (by rfl) m_tuple bt_tuple (av_cons (ev_shut (ev_comp g (own := [("k", 3)]) (iv_range1 (by rfl) m_range (ev_var (i := 0) rfl (.inl rfl))) (blkOk_by (N := ["n", "line", "many", "k"]) (own := [("k", 3)]) (sc := defScope samounts_alone) (by decide +kernel)) rfl (by decide) (fun s_ H_ C_ cl_ fp_ => have g1 := (g).blk s_ H_ _ _ fp_; gv_name (i := 3) g1 rfl (.inl rfl)) (fun _ _ _ _ _ => tvs_nil) (fun s_ H_ C_ cl_ fp_ => have g1 := (g).blk s_ H_ _ _ fp_; ev_if (tv_cmp (d_eq2 g1) (ev_var (i := 3) rfl (.inl rfl)) (ev_var (i := 1) rfl (.inr (.inl (by kernel_rfl)))) (nomark _)) (ev_var (i := 2) rfl (.inr (.inl (by kernel_rfl)))) (ev_int)))) (av_nil))))
    (bv_nil)
noncomputable def Gamounts_alone : List PyData → Option R := shut (GP (Bamounts_alone) 0 3)
theorem Lamounts_alone : ∀ ds r, Gamounts_alone ds = some r → ds.length = 3 := by unfold Gamounts_alone; rw [shut_eq]; exact GP_len
theorem camounts_alone {P : Program} {w : World} {K : PySem.W.Frag} {mg : Str → Option Value} {base : Heap} {f : Addr} {fd : FuncData} (k : Nat) (F : L2.Fun K "amounts_alone" "amounts_alone" samounts_alone f fd) (m_range : mg "range" = none) (m_tuple : mg "tuple" = none) : FnG P w K mg base (k + 1) f fd ["n", "line", "many"] (spP 3 Gamounts_alone) := by
  unfold Gamounts_alone
  rw [shut_eq]
  exact fnGP (N := ["n", "line", "many", "k"]) (ps := ["n", "line", "many"]) 0 F scamounts_alone (fun cdv A outer s H E hr g n => bvamounts_alone (k := k) (m_range := m_range) (m_tuple := m_tuple) (cdv := cdv) (A := A) (outer := outer) (s := s) (H := H) (E := E) (hr := hr) (g := g) (n := n))
abbrev seven_shares : Stmt := topS 7
theorem sceven_shares : FnScope ["net", "many", "line"] ["net"] (defScope seven_shares) := ⟨rfl, rfl, rfl, by decide +kernel, rfl, by decide +kernel, by decide +kernel⟩
noncomputable def Ceven_shares_1 (Gled_amounts : List PyData → Option R) (Gamounts_alone : List PyData → Option R) (Glongest_way : List PyData → Option R) : M := shut (
    mComp [2] (tName 2) (iRg1 (mBin idxD (mVar 0) (mC (.int 0)))) (tYesM) (mCall Gled_amounts (fCons (mVar 0) (fCons (mCall Gamounts_alone (fCons (mBin idxD (mVar 0) (mC (.int 0))) (fCons (mVar 2) (fCons (mVar 1) (fNil))))) (fNil)))))
noncomputable def Beven_shares (Gled_amounts : List PyData → Option R) (Gamounts_alone : List PyData → Option R) (Glongest_way : List PyData → Option R) (n : Nat) : MS :=
    sCons (sAsg 1 (mBin shlD (mC (.int 1)) (mCall Glongest_way (fCons (mVar 0) (fNil)))))
    (sCons (sRet (mCallB tupleD (aCons (Ceven_shares_1 Gled_amounts Gamounts_alone Glongest_way) (aNil))))
    (sNil))
theorem bveven_shares {P : Program} {w : World} {K : PySem.W.Frag} {mg : Str → Option Value} {base : Heap} {f : Addr} {k : Nat} (Gled_amounts : List PyData → Option R) (Gamounts_alone : List PyData → Option R) (Glongest_way : List PyData → Option R) (m_range : mg "range" = none) (m_tuple : mg "tuple" = none) (Cled_amounts : CalG P w K mg base k "led_amounts" (spP 2 Gled_amounts)) (Lled_amounts : ∀ ds r, Gled_amounts ds = some r → ds.length = 2) (Camounts_alone : CalG P w K mg base k "amounts_alone" (spP 3 Gamounts_alone)) (Lamounts_alone : ∀ ds r, Gamounts_alone ds = some r → ds.length = 3) (Clongest_way : CalG P w K mg base k "longest_way" (spP 1 Glongest_way)) (Llongest_way : ∀ ds r, Glongest_way ds = some r → ds.length = 1) (cdv : Value) (A : Around) (outer : List Env) (s : Shared) (H : Hp) (E : XK)
    (hr : Room k (A.deeper (envOfC "even_shares" (defScope seven_shares) s.heap.objs.size f cdv))) (g : Gd (cxOf CX0 P w K mg base ["net", "many", "line"] "even_shares" (defScope seven_shares) f cdv A outer s H E).nox) (n : Nat) :
    BV (cxOf CX0 P w K mg base ["net", "many", "line"] "even_shares" (defScope seven_shares) f cdv A outer s H E).nox (defBody seven_shares) (Beven_shares Gled_amounts Gamounts_alone Glongest_way n) :=
  bv_cons (sv_asg (i := 1) g rfl (.inr rfl) (ev_bin d_shl (ev_int) (ev_call Clongest_way g hr (by rfl) (fv_cons (ev_var (i := 0) rfl (.inr (.inl (by kernel_rfl)))) (fv_nil)) Llongest_way)))
    (bv_cons (sv_ret (ev_callTy c_tuple (by rfl) m_tuple bt_tuple (av_cons (ev_shut (ev_comp g (own := [("line", 2)]) (iv_range1 (by rfl) m_range (ev_ix (ev_var (i := 0) rfl (.inr (.inl (by kernel_rfl)))) (ev_int))) (blkOk_by (N := ["net", "many", "line"]) (own := [("line", 2)]) (sc := defScope seven_shares) (by decide +kernel)) rfl (by decide) (fun s_ H_ C_ cl_ fp_ => have g1 := (g).blk s_ H_ _ _ fp_; gv_name (i := 2) g1 rfl (.inl rfl)) (fun _ _ _ _ _ => tvs_nil) (fun s_ H_ C_ cl_ fp_ => have g1 := (g).blk s_ H_ _ _ fp_; ev_call Cled_amounts g1 hr (by rfl) (fv_cons (ev_var (i := 0) rfl (.inr (.inl (by kernel_rfl)))) (fv_cons (ev_call Camounts_alone g1 hr (by rfl) (fv_cons (ev_ix (ev_var (i := 0) rfl (.inr (.inl (by kernel_rfl)))) (ev_int)) (fv_cons (ev_var (i := 2) rfl (.inl rfl)) (fv_cons (ev_var (i := 1) rfl (.inr (.inl (by kernel_rfl)))) (fv_nil)))) Lamounts_alone) (fv_nil))) Lled_amounts))) (av_nil))))
    (bv_nil))
noncomputable def Geven_shares : List PyData → Option R := shut (GP (Beven_shares Gled_amounts Gamounts_alone Glongest_way) 0 1)
theorem Leven_shares : ∀ ds r, Geven_shares ds = some r → ds.length = 1 := by unfold Geven_shares; rw [shut_eq]; exact GP_len
theorem ceven_shares {P : Program} {w : World} {K : PySem.W.Frag} {mg : Str → Option Value} {base : Heap} {f : Addr} {fd : FuncData} (k : Nat) (F : L2.Fun K "even_shares" "even_shares" seven_shares f fd) (m_range : mg "range" = none) (m_tuple : mg "tuple" = none) (Cled_amounts : CalG P w K mg base k "led_amounts" (spP 2 Gled_amounts)) (Camounts_alone : CalG P w K mg base k "amounts_alone" (spP 3 Gamounts_alone)) (Clongest_way : CalG P w K mg base k "longest_way" (spP 1 Glongest_way)) : FnG P w K mg base (k + 1) f fd ["net"] (spP 1 Geven_shares) := by
  unfold Geven_shares
  rw [shut_eq]
  exact fnGP (N := ["net", "many", "line"]) (ps := ["net"]) 0 F sceven_shares (fun cdv A outer s H E hr g n => bveven_shares (k := k) (m_range := m_range) (m_tuple := m_tuple) (Cled_amounts := Cled_amounts) (Lled_amounts := Lled_amounts) (Camounts_alone := Camounts_alone) (Lamounts_alone := Lamounts_alone) (Clongest_way := Clongest_way) (Llongest_way := Llongest_way) (cdv := cdv) (A := A) (outer := outer) (s := s) (H := H) (E := E) (hr := hr) (g := g) (n := n))
abbrev srows_below : Stmt := topS 8
theorem scrows_below : FnScope ["n", "many", "found", "lap", "late", "row", "x"] ["n", "many"] (defScope srows_below) := ⟨rfl, rfl, rfl, by decide +kernel, rfl, by decide +kernel, by decide +kernel⟩
noncomputable def Crows_below_1 : M := shut (
    mComp [6] (tName 6) (iRg1 (mVar 1)) (tYesM) (mTup (fStar (mVar 5) (fCons (mVar 6) (fNil)))))
noncomputable def Yrows_below_1 (n : Nat) : MS := shut (
    sCons (sExt 4 (Crows_below_1))
    (sNil))
noncomputable def Yrows_below_2 (n : Nat) : MS := shut (
    sCons (sAsg 4 (mLst (fNil)))
    (sCons (sFor (tKeep [1, 4] (tName 5)) (iSeq (mVar 2)) (Yrows_below_1 n))
    (sKeep [1, 4] (sCons (sAsg 2 (mCallB listD (aCons (mVar 4) (aNil))))
    (sNil)))))
noncomputable def Brows_below (n : Nat) : MS :=
    sCons (sAsg 2 (mLst (fCons (mTup (fNil)) (fNil))))
    (sCons (sFor (tKeep [1, 2] (tName 3)) (iRg1 (mVar 0)) (Yrows_below_2 n))
    (sKeep [2] (sCons (sRet (mVar 2))
    (sNil))))
theorem bvrows_below {P : Program} {w : World} {K : PySem.W.Frag} {mg : Str → Option Value} {base : Heap} {f : Addr} {k : Nat} (m_list : mg "list" = none) (m_range : mg "range" = none) (cdv : Value) (A : Around) (outer : List Env) (s : Shared) (H : Hp) (E : XK)
    (hr : Room k (A.deeper (envOfC "rows_below" (defScope srows_below) s.heap.objs.size f cdv))) (g : Gd (cxOf CX0 P w K mg base ["n", "many", "found", "lap", "late", "row", "x"] "rows_below" (defScope srows_below) f cdv A outer s H E).nox) (n : Nat) :
    BV (cxOf CX0 P w K mg base ["n", "many", "found", "lap", "late", "row", "x"] "rows_below" (defScope srows_below) f cdv A outer s H E).nox (defBody srows_below) (Brows_below n) :=
  bv_cons (sv_asg (i := 2) g rfl (.inl rfl) (ev_lst (fv_cons (ev_tup (fv_nil)) (fv_nil))))
    (bv_cons (sv_for g (iv_range1 (by rfl) m_range (ev_var (i := 0) rfl (.inl rfl))) (gv_keep (gv_name (i := 3) g rfl (.inl rfl))) (bv_shut (bv_cons (sv_asg (i := 4) g rfl (.inl rfl) (ev_lst (fv_nil)))
    (bv_cons (sv_for g (iv_seq (ev_var (i := 2) rfl (.inl rfl))) (gv_keep (gv_name (i := 5) g rfl (.inr rfl))) (bv_shut (bv_cons (sv_ext (i := 4) rfl (.inl rfl) (ev_shut (ev_comp g (own := [("x", 6)]) (iv_range1 (by rfl) m_range (ev_var (i := 1) rfl (.inl rfl))) (blkOk_by (N := ["n", "many", "found", "lap", "late", "row", "x"]) (own := [("x", 6)]) (sc := defScope srows_below) (by decide +kernel)) rfl (by decide) (fun s_ H_ C_ cl_ fp_ => have g1 := (g).blk s_ H_ _ _ fp_; gv_name (i := 6) g1 rfl (.inl rfl)) (fun _ _ _ _ _ => tvs_nil) (fun _ _ _ _ _ => ev_tup (fv_star (ev_var (i := 5) rfl (.inr (.inl (by kernel_rfl)))) (fv_cons (ev_var (i := 6) rfl (.inl rfl)) (fv_nil)))))))
    (bv_nil))))
    (bv_keep (bv_cons (sv_asg (i := 2) g rfl (.inl rfl) (ev_callTy c_list (by rfl) m_list bt_list (av_cons (ev_var (i := 4) rfl (.inl rfl)) (av_nil))))
    (bv_nil)))))))
    (bv_keep (bv_cons (sv_ret (ev_var (i := 2) rfl (.inl rfl)))
    (bv_nil))))
noncomputable def Grows_below : List PyData → Option R := shut (GP (Brows_below) 0 2)
theorem Lrows_below : ∀ ds r, Grows_below ds = some r → ds.length = 2 := by unfold Grows_below; rw [shut_eq]; exact GP_len
theorem crows_below {P : Program} {w : World} {K : PySem.W.Frag} {mg : Str → Option Value} {base : Heap} {f : Addr} {fd : FuncData} (k : Nat) (F : L2.Fun K "rows_below" "rows_below" srows_below f fd) (m_list : mg "list" = none) (m_range : mg "range" = none) : FnG P w K mg base (k + 1) f fd ["n", "many"] (spP 2 Grows_below) := by
  unfold Grows_below
  rw [shut_eq]
  exact fnGP (N := ["n", "many", "found", "lap", "late", "row", "x"]) (ps := ["n", "many"]) 0 F scrows_below (fun cdv A outer s H E hr g n => bvrows_below (k := k) (m_list := m_list) (m_range := m_range) (cdv := cdv) (A := A) (outer := outer) (s := s) (H := H) (E := E) (hr := hr) (g := g) (n := n))
abbrev sfirst_unstep : Stmt := topS 9
theorem scfirst_unstep : FnScope ["net", "row"] ["net"] (defScope sfirst_unstep) := ⟨rfl, rfl, rfl, by decide +kernel, rfl, by decide +kernel, by decide +kernel⟩
noncomputable def Yfirst_unstep_1 (Grows_below : List PyData → Option R) (Glongest_way : List PyData → Option R) (Gis_step : List PyData → Option R) (Gled_amounts : List PyData → Option R) (n : Nat) : MS := shut (
    sCons (sIf (mNotT (mTru (mCall Gis_step (fCons (mCall Gled_amounts (fCons (mVar 0) (fCons (mVar 1) (fNil)))) (fNil))))) (sCons (sRet (mVar 1))
    (sNil)) (sNil))
    (sNil))
noncomputable def Bfirst_unstep (Grows_below : List PyData → Option R) (Glongest_way : List PyData → Option R) (Gis_step : List PyData → Option R) (Gled_amounts : List PyData → Option R) (n : Nat) : MS :=
    sCons (sFor (tKeep [0] (tName 1)) (iSeq (mCall Grows_below (fCons (mBin idxD (mVar 0) (mC (.int 0))) (fCons (mBin shlD (mC (.int 1)) (mCall Glongest_way (fCons (mVar 0) (fNil)))) (fNil))))) (Yfirst_unstep_1 Grows_below Glongest_way Gis_step Gled_amounts n))
    (sKeep [] (sCons (sRet (mC .none))
    (sNil)))
theorem bvfirst_unstep {P : Program} {w : World} {K : PySem.W.Frag} {mg : Str → Option Value} {base : Heap} {f : Addr} {k : Nat} (Grows_below : List PyData → Option R) (Glongest_way : List PyData → Option R) (Gis_step : List PyData → Option R) (Gled_amounts : List PyData → Option R) (Crows_below : CalG P w K mg base k "rows_below" (spP 2 Grows_below)) (Lrows_below : ∀ ds r, Grows_below ds = some r → ds.length = 2) (Clongest_way : CalG P w K mg base k "longest_way" (spP 1 Glongest_way)) (Llongest_way : ∀ ds r, Glongest_way ds = some r → ds.length = 1) (Cis_step : CalG P w K mg base k "is_step" (spP 1 Gis_step)) (Lis_step : ∀ ds r, Gis_step ds = some r → ds.length = 1) (Cled_amounts : CalG P w K mg base k "led_amounts" (spP 2 Gled_amounts)) (Lled_amounts : ∀ ds r, Gled_amounts ds = some r → ds.length = 2) (cdv : Value) (A : Around) (outer : List Env) (s : Shared) (H : Hp) (E : XK)
    (hr : Room k (A.deeper (envOfC "first_unstep" (defScope sfirst_unstep) s.heap.objs.size f cdv))) (g : Gd (cxOf CX0 P w K mg base ["net", "row"] "first_unstep" (defScope sfirst_unstep) f cdv A outer s H E).nox) (n : Nat) :
    BV (cxOf CX0 P w K mg base ["net", "row"] "first_unstep" (defScope sfirst_unstep) f cdv A outer s H E).nox (defBody sfirst_unstep) (Bfirst_unstep Grows_below Glongest_way Gis_step Gled_amounts n) :=
  bv_cons (sv_for g (iv_seq (ev_call Crows_below g hr (by rfl) (fv_cons (ev_ix (ev_var (i := 0) rfl (.inl rfl)) (ev_int)) (fv_cons (ev_bin d_shl (ev_int) (ev_call Clongest_way g hr (by rfl) (fv_cons (ev_var (i := 0) rfl (.inl rfl)) (fv_nil)) Llongest_way)) (fv_nil))) Lrows_below)) (gv_keep (gv_name (i := 1) g rfl (.inl rfl))) (bv_shut (bv_cons (sv_if (tv_not (tv_tru (ev_call Cis_step g hr (by rfl) (fv_cons (ev_call Cled_amounts g hr (by rfl) (fv_cons (ev_var (i := 0) rfl (.inl rfl)) (fv_cons (ev_var (i := 1) rfl (.inl rfl)) (fv_nil))) Lled_amounts) (fv_nil)) Lis_step))) (bv_cons (sv_ret (ev_var (i := 1) rfl (.inl rfl)))
    (bv_nil)) (bv_nil))
    (bv_nil))))
    (bv_keep (bv_cons (sv_ret (ev_non))
    (bv_nil)))
noncomputable def Gfirst_unstep : List PyData → Option R := shut (GP (Bfirst_unstep Grows_below Glongest_way Gis_step Gled_amounts) 0 1)
theorem Lfirst_unstep : ∀ ds r, Gfirst_unstep ds = some r → ds.length = 1 := by unfold Gfirst_unstep; rw [shut_eq]; exact GP_len
theorem cfirst_unstep {P : Program} {w : World} {K : PySem.W.Frag} {mg : Str → Option Value} {base : Heap} {f : Addr} {fd : FuncData} (k : Nat) (F : L2.Fun K "first_unstep" "first_unstep" sfirst_unstep f fd) (Crows_below : CalG P w K mg base k "rows_below" (spP 2 Grows_below)) (Clongest_way : CalG P w K mg base k "longest_way" (spP 1 Glongest_way)) (Cis_step : CalG P w K mg base k "is_step" (spP 1 Gis_step)) (Cled_amounts : CalG P w K mg base k "led_amounts" (spP 2 Gled_amounts)) : FnG P w K mg base (k + 1) f fd ["net"] (spP 1 Gfirst_unstep) := by
  unfold Gfirst_unstep
  rw [shut_eq]
  exact fnGP (N := ["net", "row"]) (ps := ["net"]) 0 F scfirst_unstep (fun cdv A outer s H E hr g n => bvfirst_unstep (k := k) (Crows_below := Crows_below) (Lrows_below := Lrows_below) (Clongest_way := Clongest_way) (Llongest_way := Llongest_way) (Cis_step := Cis_step) (Lis_step := Lis_step) (Cled_amounts := Cled_amounts) (Lled_amounts := Lled_amounts) (cdv := cdv) (A := A) (outer := outer) (s := s) (H := H) (E := E) (hr := hr) (g := g) (n := n))
abbrev sfirst_uneven_line : Stmt := topS 10
theorem scfirst_uneven_line : FnScope ["net", "line", "shares"] ["net"] (defScope sfirst_uneven_line) := ⟨rfl, rfl, rfl, by decide +kernel, rfl, by decide +kernel, by decide +kernel⟩
noncomputable def Yfirst_uneven_line_1 (Geven_shares : List PyData → Option R) (n : Nat) : MS := shut (
    sCons (sIf (mB (mBin gtD (mCallB maxA (aCons (mVar 2) (aNil))) (mCallB minA (aCons (mVar 2) (aNil))))) (sCons (sRet (mVar 1))
    (sNil)) (sNil))
    (sNil))
noncomputable def Bfirst_uneven_line (Geven_shares : List PyData → Option R) (n : Nat) : MS :=
    sCons (sFor (tKeep [] (tTupG 2 (tgCons (tName 1) (tgCons (tName 2) (tgNil))))) (iEnumA (mCall Geven_shares (fCons (mVar 0) (fNil)))) (Yfirst_uneven_line_1 Geven_shares n))
    (sKeep [] (sCons (sRet (mC .none))
    (sNil)))
theorem bvfirst_uneven_line {P : Program} {w : World} {K : PySem.W.Frag} {mg : Str → Option Value} {base : Heap} {f : Addr} {k : Nat} (Geven_shares : List PyData → Option R) (m_enumerate : mg "enumerate" = none) (m_max : mg "max" = none) (m_min : mg "min" = none) (Ceven_shares : CalG P w K mg base k "even_shares" (spP 1 Geven_shares)) (Leven_shares : ∀ ds r, Geven_shares ds = some r → ds.length = 1) (cdv : Value) (A : Around) (outer : List Env) (s : Shared) (H : Hp) (E : XK)
    (hr : Room k (A.deeper (envOfC "first_uneven_line" (defScope sfirst_uneven_line) s.heap.objs.size f cdv))) (g : Gd (cxOf CX0 P w K mg base ["net", "line", "shares"] "first_uneven_line" (defScope sfirst_uneven_line) f cdv A outer s H E).nox) (n : Nat) :
    BV (cxOf CX0 P w K mg base ["net", "line", "shares"] "first_uneven_line" (defScope sfirst_uneven_line) f cdv A outer s H E).nox (defBody sfirst_uneven_line) (Bfirst_uneven_line Geven_shares n) :=
  bv_cons (sv_for g (iv_enumA (by rfl) m_enumerate (ev_call Ceven_shares g hr (by rfl) (fv_cons (ev_var (i := 0) rfl (.inl rfl)) (fv_nil)) Leven_shares)) (gv_keep (gv_tup (n := 2) g (gvs_cons (gv_name (i := 1) g rfl (.inl rfl)) (gvs_cons (gv_name (i := 2) g rfl (.inl rfl)) (gvs_nil))))) (bv_shut (bv_cons (sv_if (tv_cmp d_gt (ev_callB (c_maxA g) (by rfl) m_max bt_max (av_cons (ev_var (i := 2) rfl (.inl rfl)) (av_nil))) (ev_callB (c_minA g) (by rfl) m_min bt_min (av_cons (ev_var (i := 2) rfl (.inl rfl)) (av_nil))) (nomark _)) (bv_cons (sv_ret (ev_var (i := 1) rfl (.inl rfl)))
    (bv_nil)) (bv_nil))
    (bv_nil))))
    (bv_keep (bv_cons (sv_ret (ev_non))
    (bv_nil)))
noncomputable def Gfirst_uneven_line : List PyData → Option R := shut (GP (Bfirst_uneven_line Geven_shares) 0 1)
theorem Lfirst_uneven_line : ∀ ds r, Gfirst_uneven_line ds = some r → ds.length = 1 := by unfold Gfirst_uneven_line; rw [shut_eq]; exact GP_len
theorem cfirst_uneven_line {P : Program} {w : World} {K : PySem.W.Frag} {mg : Str → Option Value} {base : Heap} {f : Addr} {fd : FuncData} (k : Nat) (F : L2.Fun K "first_uneven_line" "first_uneven_line" sfirst_uneven_line f fd) (m_enumerate : mg "enumerate" = none) (m_max : mg "max" = none) (m_min : mg "min" = none) (Ceven_shares : CalG P w K mg base k "even_shares" (spP 1 Geven_shares)) : FnG P w K mg base (k + 1) f fd ["net"] (spP 1 Gfirst_uneven_line) := by
  unfold Gfirst_uneven_line
  rw [shut_eq]
  exact fnGP (N := ["net", "line", "shares"]) (ps := ["net"]) 0 F scfirst_uneven_line (fun cdv A outer s H E hr g n => bvfirst_uneven_line (k := k) (m_enumerate := m_enumerate) (m_max := m_max) (m_min := m_min) (Ceven_shares := Ceven_shares) (Leven_shares := Leven_shares) (cdv := cdv) (A := A) (outer := outer) (s := s) (H := H) (E := E) (hr := hr) (g := g) (n := n))
abbrev sdoes_count : Stmt := topS 11
theorem scdoes_count : FnScope ["net"] ["net"] (defScope sdoes_count) := ⟨rfl, rfl, rfl, by decide +kernel, rfl, by decide +kernel, by decide +kernel⟩
noncomputable def Bdoes_count (Gfirst_uneven_line : List PyData → Option R) (Gfirst_unstep : List PyData → Option R) (n : Nat) : MS :=
    sCons (sRet (mAndV (mBin isD (mCall Gfirst_uneven_line (fCons (mVar 0) (fNil))) (mC .none)) (mBin isD (mCall Gfirst_unstep (fCons (mVar 0) (fNil))) (mC .none))))
    (sNil)
theorem bvdoes_count {P : Program} {w : World} {K : PySem.W.Frag} {mg : Str → Option Value} {base : Heap} {f : Addr} {k : Nat} (Gfirst_uneven_line : List PyData → Option R) (Gfirst_unstep : List PyData → Option R) (Cfirst_uneven_line : CalG P w K mg base k "first_uneven_line" (spP 1 Gfirst_uneven_line)) (Lfirst_uneven_line : ∀ ds r, Gfirst_uneven_line ds = some r → ds.length = 1) (Cfirst_unstep : CalG P w K mg base k "first_unstep" (spP 1 Gfirst_unstep)) (Lfirst_unstep : ∀ ds r, Gfirst_unstep ds = some r → ds.length = 1) (cdv : Value) (A : Around) (outer : List Env) (s : Shared) (H : Hp) (E : XK)
    (hr : Room k (A.deeper (envOfC "does_count" (defScope sdoes_count) s.heap.objs.size f cdv))) (g : Gd (cxOf CX0 P w K mg base ["net"] "does_count" (defScope sdoes_count) f cdv A outer s H E).nox) (n : Nat) :
    BV (cxOf CX0 P w K mg base ["net"] "does_count" (defScope sdoes_count) f cdv A outer s H E).nox (defBody sdoes_count) (Bdoes_count Gfirst_uneven_line Gfirst_unstep n) :=
  bv_cons (sv_ret (ev_and (ev_cmp d_is (ev_call Cfirst_uneven_line g hr (by rfl) (fv_cons (ev_var (i := 0) rfl (.inl rfl)) (fv_nil)) Lfirst_uneven_line) (ev_non) (nomark _)) (ev_one (ev_cmp d_is (ev_call Cfirst_unstep g hr (by rfl) (fv_cons (ev_var (i := 0) rfl (.inl rfl)) (fv_nil)) Lfirst_unstep) (ev_non) (nomark _)))))
    (bv_nil)
noncomputable def Gdoes_count : List PyData → Option R := shut (GP (Bdoes_count Gfirst_uneven_line Gfirst_unstep) 0 1)
theorem Ldoes_count : ∀ ds r, Gdoes_count ds = some r → ds.length = 1 := by unfold Gdoes_count; rw [shut_eq]; exact GP_len
theorem cdoes_count {P : Program} {w : World} {K : PySem.W.Frag} {mg : Str → Option Value} {base : Heap} {f : Addr} {fd : FuncData} (k : Nat) (F : L2.Fun K "does_count" "does_count" sdoes_count f fd) (Cfirst_uneven_line : CalG P w K mg base k "first_uneven_line" (spP 1 Gfirst_uneven_line)) (Cfirst_unstep : CalG P w K mg base k "first_unstep" (spP 1 Gfirst_unstep)) : FnG P w K mg base (k + 1) f fd ["net"] (spP 1 Gdoes_count) := by
  unfold Gdoes_count
  rw [shut_eq]
  exact fnGP (N := ["net"]) (ps := ["net"]) 0 F scdoes_count (fun cdv A outer s H E hr g n => bvdoes_count (k := k) (Cfirst_uneven_line := Cfirst_uneven_line) (Lfirst_uneven_line := Lfirst_uneven_line) (Cfirst_unstep := Cfirst_unstep) (Lfirst_unstep := Lfirst_unstep) (cdv := cdv) (A := A) (outer := outer) (s := s) (H := H) (E := E) (hr := hr) (g := g) (n := n))
abbrev sled_row : Stmt := topS 13
theorem scled_row : FnScope ["net", "row", "found", "i", "j", "low", "high"] ["net", "row"] (defScope sled_row) := ⟨rfl, rfl, rfl, by decide +kernel, rfl, by decide +kernel, by decide +kernel⟩
noncomputable def Yled_row_1 (n : Nat) : MS := shut (
    sCons (sPar 5 6 (mCallB minA (aCons (mBin idxD (mVar 2) (mVar 3)) (aCons (mBin idxD (mVar 2) (mVar 4)) (aNil)))) (mCallB maxA (aCons (mBin idxD (mVar 2) (mVar 3)) (aCons (mBin idxD (mVar 2) (mVar 4)) (aNil)))))
    (sCons (sSetIx 2 (mVar 3) (mVar 5))
    (sCons (sSetIx 2 (mVar 4) (mVar 6))
    (sNil))))
noncomputable def Bled_row (n : Nat) : MS :=
    sCons (sAsg 2 (mCallB listD (aCons (mVar 1) (aNil))))
    (sCons (sFor (tKeep [2] (tTupG 2 (tgCons (tName 3) (tgCons (tName 4) (tgNil))))) (iSeq (mBin idxD (mVar 0) (mC (.int 1)))) (Yled_row_1 n))
    (sKeep [2] (sCons (sRet (mCallB tupleD (aCons (mVar 2) (aNil))))
    (sNil))))
theorem bvled_row {P : Program} {w : World} {K : PySem.W.Frag} {mg : Str → Option Value} {base : Heap} {f : Addr} {k : Nat} (m_list : mg "list" = none) (m_max : mg "max" = none) (m_min : mg "min" = none) (m_tuple : mg "tuple" = none) (cdv : Value) (A : Around) (outer : List Env) (s : Shared) (H : Hp) (E : XK)
    (hr : Room k (A.deeper (envOfC "led_row" (defScope sled_row) s.heap.objs.size f cdv))) (g : Gd (cxOf CX0 P w K mg base ["net", "row", "found", "i", "j", "low", "high"] "led_row" (defScope sled_row) f cdv A outer s H E).nox) (n : Nat) :
    BV (cxOf CX0 P w K mg base ["net", "row", "found", "i", "j", "low", "high"] "led_row" (defScope sled_row) f cdv A outer s H E).nox (defBody sled_row) (Bled_row n) :=
  bv_cons (sv_asg (i := 2) g rfl (.inl rfl) (ev_callTy c_list (by rfl) m_list bt_list (av_cons (ev_var (i := 1) rfl (.inl rfl)) (av_nil))))
    (bv_cons (sv_for g (iv_seq (ev_ix (ev_var (i := 0) rfl (.inl rfl)) (ev_int))) (gv_keep (gv_tup (n := 2) g (gvs_cons (gv_name (i := 3) g rfl (.inl rfl)) (gvs_cons (gv_name (i := 4) g rfl (.inl rfl)) (gvs_nil))))) (bv_shut (bv_cons (sv_par (i := 5) (j := 6) g rfl rfl (by decide) rfl rfl (ev_callB (c_minA g) (by rfl) m_min bt_min (av_cons (ev_ix (ev_var (i := 2) rfl (.inl rfl)) (ev_var (i := 3) rfl (.inl rfl))) (av_cons (ev_ix (ev_var (i := 2) rfl (.inl rfl)) (ev_var (i := 4) rfl (.inl rfl))) (av_nil)))) (ev_callB (c_maxA g) (by rfl) m_max bt_max (av_cons (ev_ix (ev_var (i := 2) rfl (.inl rfl)) (ev_var (i := 3) rfl (.inl rfl))) (av_cons (ev_ix (ev_var (i := 2) rfl (.inl rfl)) (ev_var (i := 4) rfl (.inl rfl))) (av_nil)))))
    (bv_cons (sv_setIx (i := 2) rfl (.inl rfl) (ev_var (i := 3) rfl (.inl rfl)) (ev_var (i := 5) rfl (.inl rfl)))
    (bv_cons (sv_setIx (i := 2) rfl (.inl rfl) (ev_var (i := 4) rfl (.inl rfl)) (ev_var (i := 6) rfl (.inl rfl)))
    (bv_nil))))))
    (bv_keep (bv_cons (sv_ret (ev_callTy c_tuple (by rfl) m_tuple bt_tuple (av_cons (ev_var (i := 2) rfl (.inl rfl)) (av_nil))))
    (bv_nil))))
noncomputable def Gled_row : List PyData → Option R := shut (GP (Bled_row) 0 2)
theorem Lled_row : ∀ ds r, Gled_row ds = some r → ds.length = 2 := by unfold Gled_row; rw [shut_eq]; exact GP_len
theorem cled_row {P : Program} {w : World} {K : PySem.W.Frag} {mg : Str → Option Value} {base : Heap} {f : Addr} {fd : FuncData} (k : Nat) (F : L2.Fun K "led_row" "led_row" sled_row f fd) (m_list : mg "list" = none) (m_max : mg "max" = none) (m_min : mg "min" = none) (m_tuple : mg "tuple" = none) : FnG P w K mg base (k + 1) f fd ["net", "row"] (spP 2 Gled_row) := by
  unfold Gled_row
  rw [shut_eq]
  exact fnGP (N := ["net", "row", "found", "i", "j", "low", "high"]) (ps := ["net", "row"]) 0 F scled_row (fun cdv A outer s H E hr g n => bvled_row (k := k) (m_list := m_list) (m_max := m_max) (m_min := m_min) (m_tuple := m_tuple) (cdv := cdv) (A := A) (outer := outer) (s := s) (H := H) (E := E) (hr := hr) (g := g) (n := n))
abbrev sis_ascending : Stmt := topS 14
theorem scis_ascending : FnScope ["row", "x", "y"] ["row"] (defScope sis_ascending) := ⟨rfl, rfl, rfl, by decide +kernel, rfl, by decide +kernel, by decide +kernel⟩
noncomputable def Cis_ascending_1 : M := shut (
    mComp [1, 2] (tTupG 2 (tgCons (tName 1) (tgCons (tName 2) (tgNil)))) (iZipA (mVar 0) (mSl (mVar 0) (oSome (mC (.int 1))) (oNo))) (tYesM) (mBin leD (mVar 1) (mVar 2)))
noncomputable def Bis_ascending (n : Nat) : MS :=
    sCons (sRet (mCallB allD (aCons (Cis_ascending_1) (aNil))))
    (sNil)
theorem bvis_ascending {P : Program} {w : World} {K : PySem.W.Frag} {mg : Str → Option Value} {base : Heap} {f : Addr} {k : Nat} (m_all : mg "all" = none) (m_zip : mg "zip" = none) (cdv : Value) (A : Around) (outer : List Env) (s : Shared) (H : Hp) (E : XK)
    (hr : Room k (A.deeper (envOfC "is_ascending" (defScope sis_ascending) s.heap.objs.size f cdv))) (g : Gd (cxOf CX0 P w K mg base ["row", "x", "y"] "is_ascending" (defScope sis_ascending) f cdv A outer s H E).nox) (n : Nat) :
    BV (cxOf CX0 P w K mg base ["row", "x", "y"] "is_ascending" (defScope sis_ascending) f cdv A outer s H E).nox (defBody sis_ascending) (Bis_ascending n) :=
  bv_cons (sv_ret (ev_callB (c_all g) (by rfl) m_all bt_all (av_cons (ev_shut (ev_comp g (own := [("x", 1), ("y", 2)]) (iv_zipA (by rfl) m_zip (ev_var (i := 0) rfl (.inl rfl)) (ev_sl (ev_var (i := 0) rfl (.inl rfl)) (ov_some (ev_int)) (ov_no))) (blkOk_by (N := ["row", "x", "y"]) (own := [("x", 1), ("y", 2)]) (sc := defScope sis_ascending) (by decide +kernel)) rfl (by decide) (fun s_ H_ C_ cl_ fp_ => have g1 := (g).blk s_ H_ _ _ fp_; gv_tup (n := 2) g1 (gvs_cons (gv_name (i := 1) g1 rfl (.inl rfl)) (gvs_cons (gv_name (i := 2) g1 rfl (.inl rfl)) (gvs_nil)))) (fun _ _ _ _ _ => tvs_nil) (fun _ _ _ _ _ => ev_cmp d_le (ev_var (i := 1) rfl (.inl rfl)) (ev_var (i := 2) rfl (.inl rfl)) (nomark _)))) (av_nil))))
    (bv_nil)
noncomputable def Gis_ascending : List PyData → Option R := shut (GP (Bis_ascending) 0 1)
theorem Lis_ascending : ∀ ds r, Gis_ascending ds = some r → ds.length = 1 := by unfold Gis_ascending; rw [shut_eq]; exact GP_len
theorem cis_ascending {P : Program} {w : World} {K : PySem.W.Frag} {mg : Str → Option Value} {base : Heap} {f : Addr} {fd : FuncData} (k : Nat) (F : L2.Fun K "is_ascending" "is_ascending" sis_ascending f fd) (m_all : mg "all" = none) (m_zip : mg "zip" = none) : FnG P w K mg base (k + 1) f fd ["row"] (spP 1 Gis_ascending) := by
  unfold Gis_ascending
  rw [shut_eq]
  exact fnGP (N := ["row", "x", "y"]) (ps := ["row"]) 0 F scis_ascending (fun cdv A outer s H E hr g n => bvis_ascending (k := k) (m_all := m_all) (m_zip := m_zip) (cdv := cdv) (A := A) (outer := outer) (s := s) (H := H) (E := E) (hr := hr) (g := g) (n := n))
abbrev sdoes_sort : Stmt := topS 15
theorem scdoes_sort : FnScope ["net", "row"] ["net", "row"] (defScope sdoes_sort) := ⟨rfl, rfl, rfl, by decide +kernel, rfl, by decide +kernel, by decide +kernel⟩
noncomputable def Bdoes_sort (Gis_ascending : List PyData → Option R) (Gled_row : List PyData → Option R) (n : Nat) : MS :=
    sCons (sRet (mCall Gis_ascending (fCons (mCall Gled_row (fCons (mVar 0) (fCons (mVar 1) (fNil)))) (fNil))))
    (sNil)
theorem bvdoes_sort {P : Program} {w : World} {K : PySem.W.Frag} {mg : Str → Option Value} {base : Heap} {f : Addr} {k : Nat} (Gis_ascending : List PyData → Option R) (Gled_row : List PyData → Option R) (Cis_ascending : CalG P w K mg base k "is_ascending" (spP 1 Gis_ascending)) (Lis_ascending : ∀ ds r, Gis_ascending ds = some r → ds.length = 1) (Cled_row : CalG P w K mg base k "led_row" (spP 2 Gled_row)) (Lled_row : ∀ ds r, Gled_row ds = some r → ds.length = 2) (cdv : Value) (A : Around) (outer : List Env) (s : Shared) (H : Hp) (E : XK)
    (hr : Room k (A.deeper (envOfC "does_sort" (defScope sdoes_sort) s.heap.objs.size f cdv))) (g : Gd (cxOf CX0 P w K mg base ["net", "row"] "does_sort" (defScope sdoes_sort) f cdv A outer s H E).nox) (n : Nat) :
    BV (cxOf CX0 P w K mg base ["net", "row"] "does_sort" (defScope sdoes_sort) f cdv A outer s H E).nox (defBody sdoes_sort) (Bdoes_sort Gis_ascending Gled_row n) :=
  bv_cons (sv_ret (ev_call Cis_ascending g hr (by rfl) (fv_cons (ev_call Cled_row g hr (by rfl) (fv_cons (ev_var (i := 0) rfl (.inl rfl)) (fv_cons (ev_var (i := 1) rfl (.inl rfl)) (fv_nil))) Lled_row) (fv_nil)) Lis_ascending))
    (bv_nil)
noncomputable def Gdoes_sort : List PyData → Option R := shut (GP (Bdoes_sort Gis_ascending Gled_row) 0 2)
theorem Ldoes_sort : ∀ ds r, Gdoes_sort ds = some r → ds.length = 2 := by unfold Gdoes_sort; rw [shut_eq]; exact GP_len
theorem cdoes_sort {P : Program} {w : World} {K : PySem.W.Frag} {mg : Str → Option Value} {base : Heap} {f : Addr} {fd : FuncData} (k : Nat) (F : L2.Fun K "does_sort" "does_sort" sdoes_sort f fd) (Cis_ascending : CalG P w K mg base k "is_ascending" (spP 1 Gis_ascending)) (Cled_row : CalG P w K mg base k "led_row" (spP 2 Gled_row)) : FnG P w K mg base (k + 1) f fd ["net", "row"] (spP 2 Gdoes_sort) := by
  unfold Gdoes_sort
  rw [shut_eq]
  exact fnGP (N := ["net", "row"]) (ps := ["net", "row"]) 0 F scdoes_sort (fun cdv A outer s H E hr g n => bvdoes_sort (k := k) (Cis_ascending := Cis_ascending) (Lis_ascending := Lis_ascending) (Cled_row := Cled_row) (Lled_row := Lled_row) (cdv := cdv) (A := A) (outer := outer) (s := s) (H := H) (E := E) (hr := hr) (g := g) (n := n))
abbrev sall_words : Stmt := topS 16
theorem scall_words : FnScope ["n", "found", "lap", "late", "word"] ["n"] (defScope sall_words) := ⟨rfl, rfl, rfl, by decide +kernel, rfl, by decide +kernel, by decide +kernel⟩
noncomputable def Yall_words_1 (n : Nat) : MS := shut (
    sCons (sExt 3 (mLst (fCons (mTup (fStar (mVar 4) (fCons (mC (.int 0)) (fNil)))) (fCons (mTup (fStar (mVar 4) (fCons (mC (.int 1)) (fNil)))) (fNil)))))
    (sNil))
noncomputable def Yall_words_2 (n : Nat) : MS := shut (
    sCons (sAsg 3 (mLst (fNil)))
    (sCons (sFor (tKeep [3] (tName 4)) (iSeq (mVar 1)) (Yall_words_1 n))
    (sKeep [3] (sCons (sAsg 1 (mCallB listD (aCons (mVar 3) (aNil))))
    (sNil)))))
noncomputable def Ball_words (n : Nat) : MS :=
    sCons (sAsg 1 (mLst (fCons (mTup (fNil)) (fNil))))
    (sCons (sFor (tKeep [1] (tName 2)) (iRg1 (mVar 0)) (Yall_words_2 n))
    (sKeep [1] (sCons (sRet (mCallB tupleD (aCons (mVar 1) (aNil))))
    (sNil))))
theorem bvall_words {P : Program} {w : World} {K : PySem.W.Frag} {mg : Str → Option Value} {base : Heap} {f : Addr} {k : Nat} (m_list : mg "list" = none) (m_range : mg "range" = none) (m_tuple : mg "tuple" = none) (cdv : Value) (A : Around) (outer : List Env) (s : Shared) (H : Hp) (E : XK)
    (hr : Room k (A.deeper (envOfC "all_words" (defScope sall_words) s.heap.objs.size f cdv))) (g : Gd (cxOf CX0 P w K mg base ["n", "found", "lap", "late", "word"] "all_words" (defScope sall_words) f cdv A outer s H E).nox) (n : Nat) :
    BV (cxOf CX0 P w K mg base ["n", "found", "lap", "late", "word"] "all_words" (defScope sall_words) f cdv A outer s H E).nox (defBody sall_words) (Ball_words n) :=
  bv_cons (sv_asg (i := 1) g rfl (.inl rfl) (ev_lst (fv_cons (ev_tup (fv_nil)) (fv_nil))))
    (bv_cons (sv_for g (iv_range1 (by rfl) m_range (ev_var (i := 0) rfl (.inl rfl))) (gv_keep (gv_name (i := 2) g rfl (.inl rfl))) (bv_shut (bv_cons (sv_asg (i := 3) g rfl (.inl rfl) (ev_lst (fv_nil)))
    (bv_cons (sv_for g (iv_seq (ev_var (i := 1) rfl (.inl rfl))) (gv_keep (gv_name (i := 4) g rfl (.inl rfl))) (bv_shut (bv_cons (sv_ext (i := 3) rfl (.inl rfl) (ev_lst (fv_cons (ev_tup (fv_star (ev_var (i := 4) rfl (.inl rfl)) (fv_cons (ev_int) (fv_nil)))) (fv_cons (ev_tup (fv_star (ev_var (i := 4) rfl (.inl rfl)) (fv_cons (ev_int) (fv_nil)))) (fv_nil)))))
    (bv_nil))))
    (bv_keep (bv_cons (sv_asg (i := 1) g rfl (.inl rfl) (ev_callTy c_list (by rfl) m_list bt_list (av_cons (ev_var (i := 3) rfl (.inl rfl)) (av_nil))))
    (bv_nil)))))))
    (bv_keep (bv_cons (sv_ret (ev_callTy c_tuple (by rfl) m_tuple bt_tuple (av_cons (ev_var (i := 1) rfl (.inl rfl)) (av_nil))))
    (bv_nil))))
noncomputable def Gall_words : List PyData → Option R := shut (GP (Ball_words) 0 1)
theorem Lall_words : ∀ ds r, Gall_words ds = some r → ds.length = 1 := by unfold Gall_words; rw [shut_eq]; exact GP_len
theorem call_words {P : Program} {w : World} {K : PySem.W.Frag} {mg : Str → Option Value} {base : Heap} {f : Addr} {fd : FuncData} (k : Nat) (F : L2.Fun K "all_words" "all_words" sall_words f fd) (m_list : mg "list" = none) (m_range : mg "range" = none) (m_tuple : mg "tuple" = none) : FnG P w K mg base (k + 1) f fd ["n"] (spP 1 Gall_words) := by
  unfold Gall_words
  rw [shut_eq]
  exact fnGP (N := ["n", "found", "lap", "late", "word"]) (ps := ["n"]) 0 F scall_words (fun cdv A outer s H E hr g n => bvall_words (k := k) (m_list := m_list) (m_range := m_range) (m_tuple := m_tuple) (cdv := cdv) (A := A) (outer := outer) (s := s) (H := H) (E := E) (hr := hr) (g := g) (n := n))
abbrev swords_not_sorted : Stmt := topS 17
theorem scwords_not_sorted : FnScope ["net", "word"] ["net"] (defScope swords_not_sorted) := ⟨rfl, rfl, rfl, by decide +kernel, rfl, by decide +kernel, by decide +kernel⟩
noncomputable def Cwords_not_sorted_1 (Gall_words : List PyData → Option R) (Gdoes_sort : List PyData → Option R) : M := shut (
    mComp [1] (tName 1) (iSeq (mCall Gall_words (fCons (mBin idxD (mVar 0) (mC (.int 0))) (fNil)))) (mNotT (mTru (mCall Gdoes_sort (fCons (mVar 0) (fCons (mVar 1) (fNil)))))) (mVar 1))
noncomputable def Bwords_not_sorted (Gall_words : List PyData → Option R) (Gdoes_sort : List PyData → Option R) (n : Nat) : MS :=
    sCons (sRet (mCallB tupleD (aCons (Cwords_not_sorted_1 Gall_words Gdoes_sort) (aNil))))
    (sNil)
theorem bvwords_not_sorted {P : Program} {w : World} {K : PySem.W.Frag} {mg : Str → Option Value} {base : Heap} {f : Addr} {k : Nat} (Gall_words : List PyData → Option R) (Gdoes_sort : List PyData → Option R) (m_tuple : mg "tuple" = none) (Call_words : CalG P w K mg base k "all_words" (spP 1 Gall_words)) (Lall_words : ∀ ds r, Gall_words ds = some r → ds.length = 1) (Cdoes_sort : CalG P w K mg base k "does_sort" (spP 2 Gdoes_sort)) (Ldoes_sort : ∀ ds r, Gdoes_sort ds = some r → ds.length = 2) (cdv : Value) (A : Around) (outer : List Env) (s : Shared) (H : Hp) (E : XK)
    (hr : Room k (A.deeper (envOfC "words_not_sorted" (defScope swords_not_sorted) s.heap.objs.size f cdv))) (g : Gd (cxOf CX0 P w K mg base ["net", "word"] "words_not_sorted" (defScope swords_not_sorted) f cdv A outer s H E).nox) (n : Nat) :
    BV (cxOf CX0 P w K mg base ["net", "word"] "words_not_sorted" (defScope swords_not_sorted) f cdv A outer s H E).nox (defBody swords_not_sorted) (Bwords_not_sorted Gall_words Gdoes_sort n) :=
  bv_cons (sv_ret (ev_callTy c_tuple (by rfl) m_tuple bt_tuple (av_cons (ev_shut (ev_comp g (own := [("word", 1)]) (iv_seq (ev_call Call_words g hr (by rfl) (fv_cons (ev_ix (ev_var (i := 0) rfl (.inr (.inl (by kernel_rfl)))) (ev_int)) (fv_nil)) Lall_words)) (blkOk_by (N := ["net", "word"]) (own := [("word", 1)]) (sc := defScope swords_not_sorted) (by decide +kernel)) rfl (by decide) (fun s_ H_ C_ cl_ fp_ => have g1 := (g).blk s_ H_ _ _ fp_; gv_name (i := 1) g1 rfl (.inl rfl)) (fun s_ H_ C_ cl_ fp_ => have g1 := (g).blk s_ H_ _ _ fp_; tvs_one (tv_not (tv_tru (ev_call Cdoes_sort g1 hr (by rfl) (fv_cons (ev_var (i := 0) rfl (.inr (.inl (by kernel_rfl)))) (fv_cons (ev_var (i := 1) rfl (.inl rfl)) (fv_nil))) Ldoes_sort)))) (fun _ _ _ _ _ => ev_var (i := 1) rfl (.inl rfl)))) (av_nil))))
    (bv_nil)
noncomputable def Gwords_not_sorted : List PyData → Option R := shut (GP (Bwords_not_sorted Gall_words Gdoes_sort) 0 1)
theorem Lwords_not_sorted : ∀ ds r, Gwords_not_sorted ds = some r → ds.length = 1 := by unfold Gwords_not_sorted; rw [shut_eq]; exact GP_len
theorem cwords_not_sorted {P : Program} {w : World} {K : PySem.W.Frag} {mg : Str → Option Value} {base : Heap} {f : Addr} {fd : FuncData} (k : Nat) (F : L2.Fun K "words_not_sorted" "words_not_sorted" swords_not_sorted f fd) (m_tuple : mg "tuple" = none) (Call_words : CalG P w K mg base k "all_words" (spP 1 Gall_words)) (Cdoes_sort : CalG P w K mg base k "does_sort" (spP 2 Gdoes_sort)) : FnG P w K mg base (k + 1) f fd ["net"] (spP 1 Gwords_not_sorted) := by
  unfold Gwords_not_sorted
  rw [shut_eq]
  exact fnGP (N := ["net", "word"]) (ps := ["net"]) 0 F scwords_not_sorted (fun cdv A outer s H E hr g n => bvwords_not_sorted (k := k) (m_tuple := m_tuple) (Call_words := Call_words) (Lall_words := Lall_words) (Cdoes_sort := Cdoes_sort) (Ldoes_sort := Ldoes_sort) (cdv := cdv) (A := A) (outer := outer) (s := s) (H := H) (E := E) (hr := hr) (g := g) (n := n))
abbrev sis_sorting_net : Stmt := topS 18
theorem scis_sorting_net : FnScope ["net"] ["net"] (defScope sis_sorting_net) := ⟨rfl, rfl, rfl, by decide +kernel, rfl, by decide +kernel, by decide +kernel⟩
noncomputable def Bis_sorting_net (Gwords_not_sorted : List PyData → Option R) (n : Nat) : MS :=
    sCons (sRet (mBin eqD2 (mCall Gwords_not_sorted (fCons (mVar 0) (fNil))) (mTup (fNil))))
    (sNil)
theorem bvis_sorting_net {P : Program} {w : World} {K : PySem.W.Frag} {mg : Str → Option Value} {base : Heap} {f : Addr} {k : Nat} (Gwords_not_sorted : List PyData → Option R) (Cwords_not_sorted : CalG P w K mg base k "words_not_sorted" (spP 1 Gwords_not_sorted)) (Lwords_not_sorted : ∀ ds r, Gwords_not_sorted ds = some r → ds.length = 1) (cdv : Value) (A : Around) (outer : List Env) (s : Shared) (H : Hp) (E : XK)
    (hr : Room k (A.deeper (envOfC "is_sorting_net" (defScope sis_sorting_net) s.heap.objs.size f cdv))) (g : Gd (cxOf CX0 P w K mg base ["net"] "is_sorting_net" (defScope sis_sorting_net) f cdv A outer s H E).nox) (n : Nat) :
    BV (cxOf CX0 P w K mg base ["net"] "is_sorting_net" (defScope sis_sorting_net) f cdv A outer s H E).nox (defBody sis_sorting_net) (Bis_sorting_net Gwords_not_sorted n) :=
  bv_cons (sv_ret (ev_cmp (d_eq2 g) (ev_call Cwords_not_sorted g hr (by rfl) (fv_cons (ev_var (i := 0) rfl (.inl rfl)) (fv_nil)) Lwords_not_sorted) (ev_tup (fv_nil)) (nomark _)))
    (bv_nil)
noncomputable def Gis_sorting_net : List PyData → Option R := shut (GP (Bis_sorting_net Gwords_not_sorted) 0 1)
theorem Lis_sorting_net : ∀ ds r, Gis_sorting_net ds = some r → ds.length = 1 := by unfold Gis_sorting_net; rw [shut_eq]; exact GP_len
theorem cis_sorting_net {P : Program} {w : World} {K : PySem.W.Frag} {mg : Str → Option Value} {base : Heap} {f : Addr} {fd : FuncData} (k : Nat) (F : L2.Fun K "is_sorting_net" "is_sorting_net" sis_sorting_net f fd) (Cwords_not_sorted : CalG P w K mg base k "words_not_sorted" (spP 1 Gwords_not_sorted)) : FnG P w K mg base (k + 1) f fd ["net"] (spP 1 Gis_sorting_net) := by
  unfold Gis_sorting_net
  rw [shut_eq]
  exact fnGP (N := ["net"]) (ps := ["net"]) 0 F scis_sorting_net (fun cdv A outer s H E hr g n => bvis_sorting_net (k := k) (Cwords_not_sorted := Cwords_not_sorted) (Lwords_not_sorted := Lwords_not_sorted) (cdv := cdv) (A := A) (outer := outer) (s := s) (H := H) (E := E) (hr := hr) (g := g) (n := n))
abbrev s_law_net : Stmt := topS 22
theorem sc_law_net : FnScope ["source", "n", "most", "found", "turn", "i"] ["source", "n", "most"] (defScope s_law_net) := ⟨rfl, rfl, rfl, by decide +kernel, rfl, by decide +kernel, by decide +kernel⟩
noncomputable def Y_law_net_1 (G_law_pick : List PyData → Src → Option (R × Src)) (n : Nat) : MS := shut (
    sCons (sAsg 5 (mCallS 0 G_law_pick (fCons (mBin subD (mVar 1) (mC (.int 1))) (fNil))))
    (sCons (sApp 3 (mTup (fCons (mVar 5) (fCons (mBin addD (mBin addD (mVar 5) (mC (.int 1))) (mCallS 0 G_law_pick (fCons (mBin subD (mBin subD (mVar 1) (mC (.int 1))) (mVar 5)) (fNil)))) (fNil)))))
    (sNil)))
noncomputable def B_law_net (G_law_pick : List PyData → Src → Option (R × Src)) (n : Nat) : MS :=
    sCons (sAsg 3 (mLst (fNil)))
    (sCons (sFor (tKeep [0, 1, 3] (tName 4)) (iRg1 (mIf (mB (mBin gtD (mVar 1) (mC (.int 1)))) (mCallS 0 G_law_pick (fCons (mBin addD (mVar 2) (mC (.int 1))) (fNil))) (mC (.int 0)))) (Y_law_net_1 G_law_pick n))
    (sKeep [1, 3] (sCons (sRet (mTup (fCons (mVar 1) (fCons (mCallB tupleD (aCons (mVar 3) (aNil))) (fNil)))))
    (sNil))))
theorem bv_law_net {P : Program} {w : World} {K : PySem.W.Frag} {mg : Str → Option Value} {base : Heap} {f : Addr} {k : Nat} (G_law_pick : List PyData → Src → Option (R × Src)) (m_range : mg "range" = none) (m_tuple : mg "tuple" = none) (C_law_pick : CalG P w K mg base k "_law_pick" (spS 2 G_law_pick)) (L_law_pick : ∀ ds z r, G_law_pick ds z = some r → ds.length + 1 = 2) (cdv : Value) (A : Around) (outer : List Env) (s : Shared) (H : Hp) (E : XK)
    (hr : Room k (A.deeper (envOfC "_law_net" (defScope s_law_net) s.heap.objs.size f cdv))) (g : Gd (cxOf CX0 P w K mg base ["source", "n", "most", "found", "turn", "i"] "_law_net" (defScope s_law_net) f cdv A outer s H E).nox) (n : Nat) :
    BV (cxOf CX0 P w K mg base ["source", "n", "most", "found", "turn", "i"] "_law_net" (defScope s_law_net) f cdv A outer s H E).nox (defBody s_law_net) (B_law_net G_law_pick n) :=
  bv_cons (sv_asg (i := 3) g rfl (.inl rfl) (ev_lst (fv_nil)))
    (bv_cons (sv_for g (iv_range1 (by rfl) m_range (ev_if (tv_cmp d_gt (ev_var (i := 1) rfl (.inl rfl)) (ev_int) (nomark _)) (ev_callS (i := 0) C_law_pick g hr (by rfl) rfl (.inl rfl) (fv_cons (ev_bin d_add (ev_var (i := 2) rfl (.inl rfl)) (ev_int)) (fv_nil)) L_law_pick) (ev_int))) (gv_keep (gv_name (i := 4) g rfl (.inl rfl))) (bv_shut (bv_cons (sv_asg (i := 5) g rfl (.inl rfl) (ev_callS (i := 0) C_law_pick g hr (by rfl) rfl (.inl rfl) (fv_cons (ev_bin d_sub (ev_var (i := 1) rfl (.inl rfl)) (ev_int)) (fv_nil)) L_law_pick))
    (bv_cons (sv_app (i := 3) rfl (.inl rfl) (ev_tup (fv_cons (ev_var (i := 5) rfl (.inl rfl)) (fv_cons (ev_bin d_add (ev_bin d_add (ev_var (i := 5) rfl (.inl rfl)) (ev_int)) (ev_callS (i := 0) C_law_pick g hr (by rfl) rfl (.inl rfl) (fv_cons (ev_bin d_sub (ev_bin d_sub (ev_var (i := 1) rfl (.inl rfl)) (ev_int)) (ev_var (i := 5) rfl (.inl rfl))) (fv_nil)) L_law_pick)) (fv_nil)))))
    (bv_nil)))))
    (bv_keep (bv_cons (sv_ret (ev_tup (fv_cons (ev_var (i := 1) rfl (.inl rfl)) (fv_cons (ev_callTy c_tuple (by rfl) m_tuple bt_tuple (av_cons (ev_var (i := 3) rfl (.inl rfl)) (av_nil))) (fv_nil)))))
    (bv_nil))))
noncomputable def G_law_net : List PyData → Src → Option (R × Src) := shut (GS (B_law_net G_law_pick) 0 3)
theorem L_law_net : ∀ ds z r, G_law_net ds z = some r → ds.length + 1 = 3 := by unfold G_law_net; rw [shut_eq]; exact GS_len
theorem c_law_net {P : Program} {w : World} {K : PySem.W.Frag} {mg : Str → Option Value} {base : Heap} {f : Addr} {fd : FuncData} (k : Nat) (F : L2.Fun K "_law_net" "_law_net" s_law_net f fd) (m_range : mg "range" = none) (m_tuple : mg "tuple" = none) (C_law_pick : CalG P w K mg base k "_law_pick" (spS 2 G_law_pick)) : FnG P w K mg base (k + 1) f fd ["source", "n", "most"] (spS 3 G_law_net) := by
  unfold G_law_net
  rw [shut_eq]
  exact fnGS (N := ["source", "n", "most", "found", "turn", "i"]) (ps := ["source", "n", "most"]) 0 F sc_law_net (fun cdv A outer s H E hr g n => bv_law_net (k := k) (m_range := m_range) (m_tuple := m_tuple) (C_law_pick := C_law_pick) (L_law_pick := L_law_pick) (cdv := cdv) (A := A) (outer := outer) (s := s) (H := H) (E := E) (hr := hr) (g := g) (n := n))
abbrev s_law_led : Stmt := topS 23
theorem sc_law_led : FnScope ["net", "amounts", "found", "i", "j", "both"] ["net", "amounts"] (defScope s_law_led) := ⟨rfl, rfl, rfl, by decide +kernel, rfl, by decide +kernel, by decide +kernel⟩
noncomputable def Y_law_led_1 (n : Nat) : MS := shut (
    sCons (sAsg 5 (mBin addD (mBin idxD (mVar 2) (mVar 3)) (mBin idxD (mVar 2) (mVar 4))))
    (sCons (sSetIx 2 (mVar 3) (mBin subD (mVar 5) (mBin fdivD (mVar 5) (mC (.int 2)))))
    (sCons (sSetIx 2 (mVar 4) (mBin fdivD (mVar 5) (mC (.int 2))))
    (sNil))))
noncomputable def B_law_led (n : Nat) : MS :=
    sCons (sAsg 2 (mCallB listD (aCons (mVar 1) (aNil))))
    (sCons (sFor (tKeep [2] (tTupG 2 (tgCons (tName 3) (tgCons (tName 4) (tgNil))))) (iSeq (mBin idxD (mVar 0) (mC (.int 1)))) (Y_law_led_1 n))
    (sKeep [2] (sCons (sRet (mCallB tupleD (aCons (mVar 2) (aNil))))
    (sNil))))
theorem bv_law_led {P : Program} {w : World} {K : PySem.W.Frag} {mg : Str → Option Value} {base : Heap} {f : Addr} {k : Nat} (m_list : mg "list" = none) (m_tuple : mg "tuple" = none) (cdv : Value) (A : Around) (outer : List Env) (s : Shared) (H : Hp) (E : XK)
    (hr : Room k (A.deeper (envOfC "_law_led" (defScope s_law_led) s.heap.objs.size f cdv))) (g : Gd (cxOf CX0 P w K mg base ["net", "amounts", "found", "i", "j", "both"] "_law_led" (defScope s_law_led) f cdv A outer s H E).nox) (n : Nat) :
    BV (cxOf CX0 P w K mg base ["net", "amounts", "found", "i", "j", "both"] "_law_led" (defScope s_law_led) f cdv A outer s H E).nox (defBody s_law_led) (B_law_led n) :=
  bv_cons (sv_asg (i := 2) g rfl (.inl rfl) (ev_callTy c_list (by rfl) m_list bt_list (av_cons (ev_var (i := 1) rfl (.inl rfl)) (av_nil))))
    (bv_cons (sv_for g (iv_seq (ev_ix (ev_var (i := 0) rfl (.inl rfl)) (ev_int))) (gv_keep (gv_tup (n := 2) g (gvs_cons (gv_name (i := 3) g rfl (.inl rfl)) (gvs_cons (gv_name (i := 4) g rfl (.inl rfl)) (gvs_nil))))) (bv_shut (bv_cons (sv_asg (i := 5) g rfl (.inl rfl) (ev_bin d_add (ev_ix (ev_var (i := 2) rfl (.inl rfl)) (ev_var (i := 3) rfl (.inl rfl))) (ev_ix (ev_var (i := 2) rfl (.inl rfl)) (ev_var (i := 4) rfl (.inl rfl)))))
    (bv_cons (sv_setIx (i := 2) rfl (.inl rfl) (ev_var (i := 3) rfl (.inl rfl)) (ev_bin d_sub (ev_var (i := 5) rfl (.inl rfl)) (ev_bin d_fdiv (ev_var (i := 5) rfl (.inl rfl)) (ev_int))))
    (bv_cons (sv_setIx (i := 2) rfl (.inl rfl) (ev_var (i := 4) rfl (.inl rfl)) (ev_bin d_fdiv (ev_var (i := 5) rfl (.inl rfl)) (ev_int)))
    (bv_nil))))))
    (bv_keep (bv_cons (sv_ret (ev_callTy c_tuple (by rfl) m_tuple bt_tuple (av_cons (ev_var (i := 2) rfl (.inl rfl)) (av_nil))))
    (bv_nil))))
noncomputable def G_law_led : List PyData → Option R := shut (GP (B_law_led) 0 2)
theorem L_law_led : ∀ ds r, G_law_led ds = some r → ds.length = 2 := by unfold G_law_led; rw [shut_eq]; exact GP_len
theorem c_law_led {P : Program} {w : World} {K : PySem.W.Frag} {mg : Str → Option Value} {base : Heap} {f : Addr} {fd : FuncData} (k : Nat) (F : L2.Fun K "_law_led" "_law_led" s_law_led f fd) (m_list : mg "list" = none) (m_tuple : mg "tuple" = none) : FnG P w K mg base (k + 1) f fd ["net", "amounts"] (spP 2 G_law_led) := by
  unfold G_law_led
  rw [shut_eq]
  exact fnGP (N := ["net", "amounts", "found", "i", "j", "both"]) (ps := ["net", "amounts"]) 0 F sc_law_led (fun cdv A outer s H E hr g n => bv_law_led (k := k) (m_list := m_list) (m_tuple := m_tuple) (cdv := cdv) (A := A) (outer := outer) (s := s) (H := H) (E := E) (hr := hr) (g := g) (n := n))
abbrev s_law_is_step : Stmt := topS 24
theorem sc_law_is_step : FnScope ["amounts", "off", "a", "b"] ["amounts"] (defScope s_law_is_step) := ⟨rfl, rfl, rfl, by decide +kernel, rfl, by decide +kernel, by decide +kernel⟩
noncomputable def C_law_is_step_1 : M := shut (
    mComp [2, 3] (tTupG 2 (tgCons (tName 2) (tgCons (tName 3) (tgNil)))) (iZipA (mVar 0) (mSl (mVar 0) (oSome (mC (.int 1))) (oNo))) (mB (mBin gtD (mVar 3) (mVar 2))) (mC (.int 1)))
noncomputable def B_law_is_step (n : Nat) : MS :=
    sCons (sAsg 1 (C_law_is_step_1))
    (sCons (sRet (mAndV (mBin eqD2 (mVar 1) (mLst (fNil))) (mBin ltD (mBin subD (mBin idxD (mVar 0) (mC (.int 0))) (mBin idxD (mVar 0) (mNeg (mC (.int 1))))) (mC (.int 2)))))
    (sNil))
theorem bv_law_is_step {P : Program} {w : World} {K : PySem.W.Frag} {mg : Str → Option Value} {base : Heap} {f : Addr} {k : Nat} (m_zip : mg "zip" = none) (cdv : Value) (A : Around) (outer : List Env) (s : Shared) (H : Hp) (E : XK)
    (hr : Room k (A.deeper (envOfC "_law_is_step" (defScope s_law_is_step) s.heap.objs.size f cdv))) (g : Gd (cxOf CX0 P w K mg base ["amounts", "off", "a", "b"] "_law_is_step" (defScope s_law_is_step) f cdv A outer s H E).nox) (n : Nat) :
    BV (cxOf CX0 P w K mg base ["amounts", "off", "a", "b"] "_law_is_step" (defScope s_law_is_step) f cdv A outer s H E).nox (defBody s_law_is_step) (B_law_is_step n) :=
  bv_cons (sv_shutA (sv_asgLc (i := 1) g (own := [("a", 2), ("b", 3)]) rfl rfl (sw_true rfl rfl rfl (by decide +kernel)) (iv_zipA (by rfl) m_zip (ev_var (i := 0) rfl (.inl rfl)) (ev_sl (ev_var (i := 0) rfl (.inl rfl)) (ov_some (ev_int)) (ov_no))) (blkOk_by (N := ["amounts", "off", "a", "b"]) (own := [("a", 2), ("b", 3)]) (sc := defScope s_law_is_step) (by decide +kernel)) rfl (by decide) (fun s_ H_ C_ cl_ fp_ => have g1 := (g).blk s_ H_ _ _ fp_; gv_tup (n := 2) g1 (gvs_cons (gv_name (i := 2) g1 rfl (.inl rfl)) (gvs_cons (gv_name (i := 3) g1 rfl (.inl rfl)) (gvs_nil)))) (fun _ _ _ _ _ => tvs_one (tv_cmp d_gt (ev_var (i := 3) rfl (.inl rfl)) (ev_var (i := 2) rfl (.inl rfl)) (nomark _))) (fun _ _ _ _ _ => ev_int)))
    (bv_cons (sv_ret (ev_and (ev_cmp (d_eq2 g) (ev_var (i := 1) rfl (.inl rfl)) (ev_lst (fv_nil)) (nomark _)) (ev_one (ev_cmp d_lt (ev_bin d_sub (ev_ix (ev_var (i := 0) rfl (.inl rfl)) (ev_int)) (ev_ix (ev_var (i := 0) rfl (.inl rfl)) (ev_neg (ev_int)))) (ev_int) (nomark _)))))
    (bv_nil))
noncomputable def G_law_is_step : List PyData → Option R := shut (GP (B_law_is_step) 0 1)
theorem L_law_is_step : ∀ ds r, G_law_is_step ds = some r → ds.length = 1 := by unfold G_law_is_step; rw [shut_eq]; exact GP_len
theorem c_law_is_step {P : Program} {w : World} {K : PySem.W.Frag} {mg : Str → Option Value} {base : Heap} {f : Addr} {fd : FuncData} (k : Nat) (F : L2.Fun K "_law_is_step" "_law_is_step" s_law_is_step f fd) (m_zip : mg "zip" = none) : FnG P w K mg base (k + 1) f fd ["amounts"] (spP 1 G_law_is_step) := by
  unfold G_law_is_step
  rw [shut_eq]
  exact fnGP (N := ["amounts", "off", "a", "b"]) (ps := ["amounts"]) 0 F sc_law_is_step (fun cdv A outer s H E hr g n => bv_law_is_step (k := k) (m_zip := m_zip) (cdv := cdv) (A := A) (outer := outer) (s := s) (H := H) (E := E) (hr := hr) (g := g) (n := n))
abbrev s_law_merging : Stmt := topS 26
theorem sc_law_merging : FnScope ["lines", "half", "x", "y", "ends", "i"] ["lines"] (defScope s_law_merging) := ⟨rfl, rfl, rfl, by decide +kernel, rfl, by decide +kernel, by decide +kernel⟩
noncomputable def C_law_merging_1 (G_law_merging : List PyData → Option R) : M := shut (
    mComp [5] (tName 5) (iRg3 (mC (.int 0)) (mCallB lenD (aCons (mVar 0) (aNil))) (mC (.int 2))) (tYesM) (mTup (fCons (mBin idxD (mVar 0) (mVar 5)) (fCons (mBin idxD (mVar 0) (mBin addD (mVar 5) (mC (.int 1)))) (fNil)))))
noncomputable def B_law_merging (G_law_merging : List PyData → Option R) (n : Nat) : MS :=
    sCons (sIf (mB (mBin eqD2 (mCallB lenD (aCons (mVar 0) (aNil))) (mC (.int 2)))) (sCons (sRet (mLst (fCons (mCallB tupleD (aCons (mVar 0) (aNil))) (fNil))))
    (sNil)) (sNil))
    (sCons (sAsg 1 (mBin fdivD (mCallB lenD (aCons (mVar 0) (aNil))) (mC (.int 2))))
    (sCons (sPar 2 3 (mSl (mVar 0) (oNo) (oSome (mVar 1))) (mSl (mVar 0) (oSome (mVar 1)) (oNo)))
    (sCons (sAsg 4 (C_law_merging_1 G_law_merging))
    (sCons (sRet (mBin addD (mBin addD (mCall G_law_merging (fCons (mBin addD (mSlS (mVar 2) (oSome (mC (.int 0))) (oNo) (mC (.int 2))) (mSlS (mVar 3) (oSome (mC (.int 1))) (oNo) (mC (.int 2)))) (fNil))) (mCall G_law_merging (fCons (mBin addD (mSlS (mVar 2) (oSome (mC (.int 1))) (oNo) (mC (.int 2))) (mSlS (mVar 3) (oSome (mC (.int 0))) (oNo) (mC (.int 2)))) (fNil)))) (mVar 4)))
    (sNil)))))
theorem bv_law_merging {P : Program} {w : World} {K : PySem.W.Frag} {mg : Str → Option Value} {base : Heap} {f : Addr} {k : Nat} (G_law_merging : List PyData → Option R) (m_len : mg "len" = none) (m_range : mg "range" = none) (m_tuple : mg "tuple" = none) (C_law_merging : CalG P w K mg base k "_law_merging" (spP 1 G_law_merging)) (L_law_merging : ∀ ds r, G_law_merging ds = some r → ds.length = 1) (cdv : Value) (A : Around) (outer : List Env) (s : Shared) (H : Hp) (E : XK)
    (hr : Room k (A.deeper (envOfC "_law_merging" (defScope s_law_merging) s.heap.objs.size f cdv))) (g : Gd (cxOf CX0 P w K mg base ["lines", "half", "x", "y", "ends", "i"] "_law_merging" (defScope s_law_merging) f cdv A outer s H E).nox) (n : Nat) :
    BV (cxOf CX0 P w K mg base ["lines", "half", "x", "y", "ends", "i"] "_law_merging" (defScope s_law_merging) f cdv A outer s H E).nox (defBody s_law_merging) (B_law_merging G_law_merging n) :=
  bv_cons (sv_if (tv_cmp (d_eq2 g) (ev_callB c_len (by rfl) m_len bt_len (av_cons (ev_var (i := 0) rfl (.inr (.inl (by kernel_rfl)))) (av_nil))) (ev_int) (nomark _)) (bv_cons (sv_ret (ev_lst (fv_cons (ev_callTy c_tuple (by rfl) m_tuple bt_tuple (av_cons (ev_var (i := 0) rfl (.inr (.inl (by kernel_rfl)))) (av_nil))) (fv_nil))))
    (bv_nil)) (bv_nil))
    (bv_cons (sv_asg (i := 1) g rfl (.inl rfl) (ev_bin d_fdiv (ev_callB c_len (by rfl) m_len bt_len (av_cons (ev_var (i := 0) rfl (.inr (.inl (by kernel_rfl)))) (av_nil))) (ev_int)))
    (bv_cons (sv_par (i := 2) (j := 3) g rfl rfl (by decide) rfl rfl (ev_sl (ev_var (i := 0) rfl (.inr (.inl (by kernel_rfl)))) (ov_no) (ov_some (ev_var (i := 1) rfl (.inl rfl)))) (ev_sl (ev_var (i := 0) rfl (.inr (.inl (by kernel_rfl)))) (ov_some (ev_var (i := 1) rfl (.inl rfl))) (ov_no)))
    (bv_cons (sv_shutA (sv_asgLc (i := 4) g (own := [("i", 5)]) rfl rfl (sw_true rfl rfl rfl (by decide +kernel)) (iv_range3 (by rfl) m_range (ev_int) (ev_callB c_len (by rfl) m_len bt_len (av_cons (ev_var (i := 0) rfl (.inr (.inl (by kernel_rfl)))) (av_nil))) (ev_int)) (blkOk_by (N := ["lines", "half", "x", "y", "ends", "i"]) (own := [("i", 5)]) (sc := defScope s_law_merging) (by decide +kernel)) rfl (by decide) (fun s_ H_ C_ cl_ fp_ => have g1 := (g).blk s_ H_ _ _ fp_; gv_name (i := 5) g1 rfl (.inl rfl)) (fun _ _ _ _ _ => tvs_nil) (fun _ _ _ _ _ => ev_tup (fv_cons (ev_ix (ev_var (i := 0) rfl (.inr (.inl (by kernel_rfl)))) (ev_var (i := 5) rfl (.inl rfl))) (fv_cons (ev_ix (ev_var (i := 0) rfl (.inr (.inl (by kernel_rfl)))) (ev_bin d_add (ev_var (i := 5) rfl (.inl rfl)) (ev_int))) (fv_nil))))))
    (bv_cons (sv_ret (ev_bin d_add (ev_bin d_add (ev_call C_law_merging g hr (by rfl) (fv_cons (ev_bin d_add (ev_slS (ev_var (i := 2) rfl (.inl rfl)) (ov_some (ev_int)) (ov_no) (ev_int)) (ev_slS (ev_var (i := 3) rfl (.inl rfl)) (ov_some (ev_int)) (ov_no) (ev_int))) (fv_nil)) L_law_merging) (ev_call C_law_merging g hr (by rfl) (fv_cons (ev_bin d_add (ev_slS (ev_var (i := 2) rfl (.inl rfl)) (ov_some (ev_int)) (ov_no) (ev_int)) (ev_slS (ev_var (i := 3) rfl (.inl rfl)) (ov_some (ev_int)) (ov_no) (ev_int))) (fv_nil)) L_law_merging)) (ev_var (i := 4) rfl (.inl rfl))))
    (bv_nil)))))
noncomputable def R_law_merging : Nat → List PyData → Option R
  | 0 => fun _ => none
  | d + 1 => shut (GP (B_law_merging (R_law_merging d)) 0 1)
noncomputable def G_law_merging : List PyData → Option R := shut (R_law_merging 12)
theorem LR_law_merging : ∀ d, ∀ ds r, R_law_merging d ds = some r → ds.length = 1
  | 0, _, _, e => by cases e
  | d + 1, ds, r, e => by unfold R_law_merging at e; rw [shut_eq] at e; exact GP_len _ r e
theorem L_law_merging : ∀ ds r, G_law_merging ds = some r → ds.length = 1 := by unfold G_law_merging; rw [shut_eq]; exact LR_law_merging 12
theorem cR_law_merging {P : Program} {w : World} {K : PySem.W.Frag} {mg : Str → Option Value} {base : Heap} {f : Addr} {fd : FuncData} (k : Nat) (F : L2.Fun K "_law_merging" "_law_merging" s_law_merging f fd) (hg_ : mg "_law_merging" = some (.ref f)) (hk_ : PySem.W.keepIn K (.ref f) = true) (hb_ : Binds K fd ["lines"] []) (m_len : mg "len" = none) (m_range : mg "range" = none) (m_tuple : mg "tuple" = none) : ∀ d, FnG P w K mg base (k + d) f fd ["lines"] (spP 1 (R_law_merging d))
  | 0 => fnG_none rfl
  | d + 1 => by
    have C_ : CalG P w K mg base (k + d) "_law_merging" (spP 1 (R_law_merging d)) := CalG.mk' (cR_law_merging k F hg_ hk_ hb_ m_len m_range m_tuple d) hg_ hk_ hb_
    unfold R_law_merging
    rw [shut_eq]
    exact fnGP (N := ["lines", "half", "x", "y", "ends", "i"]) (ps := ["lines"]) 0 F sc_law_merging (fun cdv A outer s H E hr g n => bv_law_merging (k := k + d) (m_len := m_len) (m_range := m_range) (m_tuple := m_tuple) (C_law_merging := C_) (L_law_merging := LR_law_merging d) (cdv := cdv) (A := A) (outer := outer) (s := s) (H := H) (E := E) (hr := hr) (g := g) (n := n))
theorem c_law_merging {P : Program} {w : World} {K : PySem.W.Frag} {mg : Str → Option Value} {base : Heap} {f : Addr} {fd : FuncData} (k : Nat) (F : L2.Fun K "_law_merging" "_law_merging" s_law_merging f fd) (hg_ : mg "_law_merging" = some (.ref f)) (hk_ : PySem.W.keepIn K (.ref f) = true) (hb_ : Binds K fd ["lines"] []) (m_len : mg "len" = none) (m_range : mg "range" = none) (m_tuple : mg "tuple" = none) : FnG P w K mg base (k + 12) f fd ["lines"] (spP 1 G_law_merging) := by
  unfold G_law_merging
  rw [shut_eq]
  exact cR_law_merging k F hg_ hk_ hb_ m_len m_range m_tuple 12
abbrev s_law_counting : Stmt := topS 25
theorem sc_law_counting : FnScope ["n", "found", "size", "late", "k", "line", "x"] ["n"] (defScope s_law_counting) := ⟨rfl, rfl, rfl, by decide +kernel, rfl, by decide +kernel, by decide +kernel⟩
noncomputable def C_law_counting_1 (G_law_merging : List PyData → Option R) : M := shut (
    mComp [6] (tName 6) (iRg1 (mBin mulD (mC (.int 2)) (mVar 2))) (tYesM) (mBin addD (mBin mulD (mVar 2) (mVar 4)) (mVar 6)))
noncomputable def Y_law_counting_1 (G_law_merging : List PyData → Option R) (n : Nat) : MS := shut (
    sCons (sApp 3 (mBin addD (mBin addD (mBin idxD (mVar 1) (mVar 4)) (mBin idxD (mVar 1) (mBin addD (mVar 4) (mC (.int 1))))) (mCall G_law_merging (fCons (C_law_counting_1 G_law_merging) (fNil)))))
    (sNil))
noncomputable def W_law_counting_1 (G_law_merging : List PyData → Option R) (n : Nat) : MS := shut (
    sCons (sAsg 3 (mLst (fNil)))
    (sCons (sFor (tKeep [0, 1, 2, 3] (tName 4)) (iRg3 (mC (.int 0)) (mCallB lenD (aCons (mVar 1) (aNil))) (mC (.int 2))) (Y_law_counting_1 G_law_merging n))
    (sKeep [0, 2, 3] (sCons (sPar 1 2 (mVar 3) (mBin mulD (mC (.int 2)) (mVar 2)))
    (sNil)))))
noncomputable def C_law_counting_2 (G_law_merging : List PyData → Option R) : M := shut (
    mComp [5] (tName 5) (iRg1 (mVar 0)) (tYesM) (mLst (fNil)))
noncomputable def B_law_counting (G_law_merging : List PyData → Option R) (n : Nat) : MS :=
    sCons (sAsg 1 (C_law_counting_2 G_law_merging))
    (sCons (sAsg 2 (mC (.int 1)))
    (sCons (sWhile n (qKeep [0, 1, 2] (mB (mBin ltD (mVar 2) (mVar 0)))) (W_law_counting_1 G_law_merging n))
    (sKeep [1] (sCons (sRet (mBin idxD (mVar 1) (mC (.int 0))))
    (sNil)))))
theorem bv_law_counting {P : Program} {w : World} {K : PySem.W.Frag} {mg : Str → Option Value} {base : Heap} {f : Addr} {k : Nat} (G_law_merging : List PyData → Option R) (m_len : mg "len" = none) (m_range : mg "range" = none) (C_law_merging : CalG P w K mg base k "_law_merging" (spP 1 G_law_merging)) (L_law_merging : ∀ ds r, G_law_merging ds = some r → ds.length = 1) (cdv : Value) (A : Around) (outer : List Env) (s : Shared) (H : Hp) (E : XK)
    (hr : Room k (A.deeper (envOfC "_law_counting" (defScope s_law_counting) s.heap.objs.size f cdv))) (g : Gd (cxOf CX0 P w K mg base ["n", "found", "size", "late", "k", "line", "x"] "_law_counting" (defScope s_law_counting) f cdv A outer s H E).nox) (n : Nat) :
    BV (cxOf CX0 P w K mg base ["n", "found", "size", "late", "k", "line", "x"] "_law_counting" (defScope s_law_counting) f cdv A outer s H E).nox (defBody s_law_counting) (B_law_counting G_law_merging n) :=
  bv_cons (sv_shutA (sv_asgLc (i := 1) g (own := [("line", 5)]) rfl rfl (sw_true rfl rfl rfl (by decide +kernel)) (iv_range1 (by rfl) m_range (ev_var (i := 0) rfl (.inl rfl))) (blkOk_by (N := ["n", "found", "size", "late", "k", "line", "x"]) (own := [("line", 5)]) (sc := defScope s_law_counting) (by decide +kernel)) rfl (by decide) (fun s_ H_ C_ cl_ fp_ => have g1 := (g).blk s_ H_ _ _ fp_; gv_name (i := 5) g1 rfl (.inl rfl)) (fun _ _ _ _ _ => tvs_nil) (fun _ _ _ _ _ => ev_lst (fv_nil))))
    (bv_cons (sv_asg (i := 2) g rfl (.inr rfl) (ev_int))
    (bv_cons (sv_while g (tv_keep (tv_cmp d_lt (ev_var (i := 2) rfl (.inr (.inl (by kernel_rfl)))) (ev_var (i := 0) rfl (.inl rfl)) (nomark _))) (bv_shut (bv_cons (sv_asg (i := 3) g rfl (.inl rfl) (ev_lst (fv_nil)))
    (bv_cons (sv_for g (iv_range3 (by rfl) m_range (ev_int) (ev_callB c_len (by rfl) m_len bt_len (av_cons (ev_var (i := 1) rfl (.inl rfl)) (av_nil))) (ev_int)) (gv_keep (gv_name (i := 4) g rfl (.inr rfl))) (bv_shut (bv_cons (sv_app (i := 3) rfl (.inl rfl) (ev_bin d_add (ev_bin d_add (ev_ix (ev_var (i := 1) rfl (.inl rfl)) (ev_var (i := 4) rfl (.inr (.inl (by kernel_rfl))))) (ev_ix (ev_var (i := 1) rfl (.inl rfl)) (ev_bin d_add (ev_var (i := 4) rfl (.inr (.inl (by kernel_rfl)))) (ev_int)))) (ev_call C_law_merging g hr (by rfl) (fv_cons (ev_shut (ev_comp g (own := [("x", 6)]) (iv_range1 (by rfl) m_range (ev_bin d_mul (ev_int) (ev_var (i := 2) rfl (.inr (.inl (by kernel_rfl)))))) (blkOk_by (N := ["n", "found", "size", "late", "k", "line", "x"]) (own := [("x", 6)]) (sc := defScope s_law_counting) (by decide +kernel)) rfl (by decide) (fun s_ H_ C_ cl_ fp_ => have g1 := (g).blk s_ H_ _ _ fp_; gv_name (i := 6) g1 rfl (.inl rfl)) (fun _ _ _ _ _ => tvs_nil) (fun _ _ _ _ _ => ev_bin d_add (ev_bin d_mul (ev_var (i := 2) rfl (.inr (.inl (by kernel_rfl)))) (ev_var (i := 4) rfl (.inr (.inl (by kernel_rfl))))) (ev_var (i := 6) rfl (.inl rfl))))) (fv_nil)) L_law_merging)))
    (bv_nil))))
    (bv_keep (bv_cons (sv_parC (i := 1) (j := 2) g rfl rfl (.inl rfl) (.inr rfl) (ev_var (i := 3) rfl (.inl rfl)) (ev_bin d_mul (ev_int) (ev_var (i := 2) rfl (.inr (.inl (by kernel_rfl))))))
    (bv_nil)))))) n)
    (bv_keep (bv_cons (sv_ret (ev_ix (ev_var (i := 1) rfl (.inl rfl)) (ev_int)))
    (bv_nil)))))
noncomputable def G_law_counting : List PyData → Option R := shut (GP (B_law_counting G_law_merging) FUEL 1)
theorem L_law_counting : ∀ ds r, G_law_counting ds = some r → ds.length = 1 := by unfold G_law_counting; rw [shut_eq]; exact GP_len
theorem c_law_counting {P : Program} {w : World} {K : PySem.W.Frag} {mg : Str → Option Value} {base : Heap} {f : Addr} {fd : FuncData} (k : Nat) (F : L2.Fun K "_law_counting" "_law_counting" s_law_counting f fd) (m_len : mg "len" = none) (m_range : mg "range" = none) (C_law_merging : CalG P w K mg base k "_law_merging" (spP 1 G_law_merging)) : FnG P w K mg base (k + 1) f fd ["n"] (spP 1 G_law_counting) := by
  unfold G_law_counting
  rw [shut_eq]
  exact fnGP (N := ["n", "found", "size", "late", "k", "line", "x"]) (ps := ["n"]) FUEL F sc_law_counting (fun cdv A outer s H E hr g n => bv_law_counting (k := k) (m_len := m_len) (m_range := m_range) (C_law_merging := C_law_merging) (L_law_merging := L_law_merging) (cdv := cdv) (A := A) (outer := outer) (s := s) (H := H) (E := E) (hr := hr) (g := g) (n := n))
abbrev s_law_way : Stmt := topS 27
theorem sc_law_way : FnScope ["net", "most", "line", "here", "begun", "many", "on", "k", "end"] ["net"] (defScope s_law_way) := ⟨rfl, rfl, rfl, by decide +kernel, rfl, by decide +kernel, by decide +kernel⟩
noncomputable def C_law_way_1 : M := shut (
    mComp [8] (tName 8) (iSeq (mBin idxD (mBin idxD (mVar 0) (mC (.int 1))) (mVar 7))) (tYesM) (mTup (fCons (mVar 8) (fCons (mBin addD (mVar 7) (mC (.int 1))) (fCons (mBin addD (mVar 5) (mC (.int 1))) (fNil))))))
noncomputable def Y_law_way_1 (n : Nat) : MS := shut (
    sCons (sAsg 2 (mBin addD (mVar 2) (C_law_way_1)))
    (sNil))
noncomputable def C_law_way_2 : M := shut (
    mComp [7] (tName 7) (iRg2 (mVar 4) (mCallB lenD (aCons (mBin idxD (mVar 0) (mC (.int 1))) (aNil)))) (mB (mBin inD (mVar 3) (mBin idxD (mBin idxD (mVar 0) (mC (.int 1))) (mVar 7)))) (mVar 7))
noncomputable def W_law_way_1 (n : Nat) : MS := shut (
    sCons (sAsgT (tTupG 3 (tgCons (tName 3) (tgCons (tName 4) (tgCons (tName 5) (tgNil))))) (mPop0 2))
    (sCons (sAsg 6 (C_law_way_2))
    (sCons (sAsg 1 (mCallB maxA (aCons (mVar 1) (aCons (mVar 5) (aNil)))))
    (sCons (sFor (tKeep [0, 1, 2, 5] (tName 7)) (iSeq (mSl (mVar 6) (oNo) (oSome (mC (.int 1))))) (Y_law_way_1 n))
    (sNil)))))
noncomputable def C_law_way_3 : M := shut (
    mComp [7] (tName 7) (iRg1 (mBin idxD (mVar 0) (mC (.int 0)))) (tYesM) (mTup (fCons (mVar 7) (fCons (mC (.int 0)) (fCons (mC (.int 0)) (fNil))))))
noncomputable def B_law_way (n : Nat) : MS :=
    sCons (sAsg 1 (mC (.int 0)))
    (sCons (sAsg 2 (C_law_way_3))
    (sCons (sWhile n (qKeep [0, 1, 2] (mB (mBin neD (mVar 2) (mLst (fNil))))) (W_law_way_1 n))
    (sKeep [1] (sCons (sRet (mVar 1))
    (sNil)))))
theorem bv_law_way {P : Program} {w : World} {K : PySem.W.Frag} {mg : Str → Option Value} {base : Heap} {f : Addr} {k : Nat} (m_len : mg "len" = none) (m_max : mg "max" = none) (m_range : mg "range" = none) (cdv : Value) (A : Around) (outer : List Env) (s : Shared) (H : Hp) (E : XK)
    (hr : Room k (A.deeper (envOfC "_law_way" (defScope s_law_way) s.heap.objs.size f cdv))) (g : Gd (cxOf CX0 P w K mg base ["net", "most", "line", "here", "begun", "many", "on", "k", "end"] "_law_way" (defScope s_law_way) f cdv A outer s H E).nox) (n : Nat) :
    BV (cxOf CX0 P w K mg base ["net", "most", "line", "here", "begun", "many", "on", "k", "end"] "_law_way" (defScope s_law_way) f cdv A outer s H E).nox (defBody s_law_way) (B_law_way n) :=
  bv_cons (sv_asg (i := 1) g rfl (.inl rfl) (ev_int))
    (bv_cons (sv_shutA (sv_asgLc (i := 2) g (own := [("k", 7)]) rfl rfl (sw_true rfl rfl rfl (by decide +kernel)) (iv_range1 (by rfl) m_range (ev_ix (ev_var (i := 0) rfl (.inr (.inl (by kernel_rfl)))) (ev_int))) (blkOk_by (N := ["net", "most", "line", "here", "begun", "many", "on", "k", "end"]) (own := [("k", 7)]) (sc := defScope s_law_way) (by decide +kernel)) rfl (by decide) (fun s_ H_ C_ cl_ fp_ => have g1 := (g).blk s_ H_ _ _ fp_; gv_name (i := 7) g1 rfl (.inl rfl)) (fun _ _ _ _ _ => tvs_nil) (fun _ _ _ _ _ => ev_tup (fv_cons (ev_var (i := 7) rfl (.inl rfl)) (fv_cons (ev_int) (fv_cons (ev_int) (fv_nil)))))))
    (bv_cons (sv_while g (tv_keep (tv_cmp (d_ne g) (ev_var (i := 2) rfl (.inl rfl)) (ev_lst (fv_nil)) (nomark _))) (bv_shut (bv_cons (sv_asgT (gv_tup (n := 3) g (gvs_cons (gv_name (i := 3) g rfl (.inr rfl)) (gvs_cons (gv_name (i := 4) g rfl (.inl rfl)) (gvs_cons (gv_name (i := 5) g rfl (.inr rfl)) (gvs_nil))))) (ev_pop0 (i := 2) rfl (.inl rfl)))
    (bv_cons (sv_shutA (sv_asgLc (i := 6) g (own := [("k", 7)]) rfl rfl (sw_true rfl rfl rfl (by decide +kernel)) (iv_range2 (by rfl) m_range (ev_var (i := 4) rfl (.inl rfl)) (ev_callB c_len (by rfl) m_len bt_len (av_cons (ev_ix (ev_var (i := 0) rfl (.inr (.inl (by kernel_rfl)))) (ev_int)) (av_nil)))) (blkOk_by (N := ["net", "most", "line", "here", "begun", "many", "on", "k", "end"]) (own := [("k", 7)]) (sc := defScope s_law_way) (by decide +kernel)) rfl (by decide) (fun s_ H_ C_ cl_ fp_ => have g1 := (g).blk s_ H_ _ _ fp_; gv_name (i := 7) g1 rfl (.inl rfl)) (fun s_ H_ C_ cl_ fp_ => have g1 := (g).blk s_ H_ _ _ fp_; tvs_one (tv_cmp (d_in g1) (ev_var (i := 3) rfl (.inr (.inl (by kernel_rfl)))) (ev_ix (ev_ix (ev_var (i := 0) rfl (.inr (.inl (by kernel_rfl)))) (ev_int)) (ev_var (i := 7) rfl (.inl rfl))) (by rfl))) (fun _ _ _ _ _ => ev_var (i := 7) rfl (.inl rfl))))
    (bv_cons (sv_asg (i := 1) g rfl (.inl rfl) (ev_callB (c_maxA g) (by rfl) m_max bt_max (av_cons (ev_var (i := 1) rfl (.inl rfl)) (av_cons (ev_var (i := 5) rfl (.inr (.inl (by kernel_rfl)))) (av_nil)))))
    (bv_cons (sv_for g (iv_seq (ev_sl (ev_var (i := 6) rfl (.inl rfl)) (ov_no) (ov_some (ev_int)))) (gv_keep (gv_name (i := 7) g rfl (.inr rfl))) (bv_shut (bv_cons (sv_asg (i := 2) g rfl (.inl rfl) (ev_bin d_add (ev_var (i := 2) rfl (.inl rfl)) (ev_shut (ev_comp g (own := [("end", 8)]) (iv_seq (ev_ix (ev_ix (ev_var (i := 0) rfl (.inr (.inl (by kernel_rfl)))) (ev_int)) (ev_var (i := 7) rfl (.inr (.inl (by kernel_rfl)))))) (blkOk_by (N := ["net", "most", "line", "here", "begun", "many", "on", "k", "end"]) (own := [("end", 8)]) (sc := defScope s_law_way) (by decide +kernel)) rfl (by decide) (fun s_ H_ C_ cl_ fp_ => have g1 := (g).blk s_ H_ _ _ fp_; gv_name (i := 8) g1 rfl (.inl rfl)) (fun _ _ _ _ _ => tvs_nil) (fun _ _ _ _ _ => ev_tup (fv_cons (ev_var (i := 8) rfl (.inl rfl)) (fv_cons (ev_bin d_add (ev_var (i := 7) rfl (.inr (.inl (by kernel_rfl)))) (ev_int)) (fv_cons (ev_bin d_add (ev_var (i := 5) rfl (.inr (.inl (by kernel_rfl)))) (ev_int)) (fv_nil)))))))))
    (bv_nil))))
    (bv_nil)))))) n)
    (bv_keep (bv_cons (sv_ret (ev_var (i := 1) rfl (.inl rfl)))
    (bv_nil)))))
noncomputable def G_law_way : List PyData → Option R := shut (GP (B_law_way) FUEL 1)
theorem L_law_way : ∀ ds r, G_law_way ds = some r → ds.length = 1 := by unfold G_law_way; rw [shut_eq]; exact GP_len
theorem c_law_way {P : Program} {w : World} {K : PySem.W.Frag} {mg : Str → Option Value} {base : Heap} {f : Addr} {fd : FuncData} (k : Nat) (F : L2.Fun K "_law_way" "_law_way" s_law_way f fd) (m_len : mg "len" = none) (m_max : mg "max" = none) (m_range : mg "range" = none) : FnG P w K mg base (k + 1) f fd ["net"] (spP 1 G_law_way) := by
  unfold G_law_way
  rw [shut_eq]
  exact fnGP (N := ["net", "most", "line", "here", "begun", "many", "on", "k", "end"]) (ps := ["net"]) FUEL F sc_law_way (fun cdv A outer s H E hr g n => bv_law_way (k := k) (m_len := m_len) (m_max := m_max) (m_range := m_range) (cdv := cdv) (A := A) (outer := outer) (s := s) (H := H) (E := E) (hr := hr) (g := g) (n := n))
abbrev slaw : Stmt := topS 28
theorem sclaw : FnScope ["script", "source", "lap", "n", "net", "k", "far", "many", "alone", "shares", "one", "row", "rows", "line", "late", "due", "look", "amounts", "x"] ["script"] (defScope slaw) := ⟨rfl, rfl, rfl, by decide +kernel, rfl, by decide +kernel, by decide +kernel⟩
noncomputable def Claw_1 (Gdoes_count : List PyData → Option R) (Gled_amounts : List PyData → Option R) (Gstep_of_sum : List PyData → Option R) (G_law_pick : List PyData → Src → Option (R × Src)) (Gis_sorting_net : List PyData → Option R) (G_law_is_step : List PyData → Option R) (G_law_led : List PyData → Option R) (Geven_shares : List PyData → Option R) (Glongest_way : List PyData → Option R) (G_law_way : List PyData → Option R) (G_law_counting : List PyData → Option R) (G_law_net : List PyData → Src → Option (R × Src)) : M := shut (
    mComp [13] (tName 13) (iRg1 (mVar 3)) (tYesM) (mCallS 1 G_law_pick (fCons (mC (.int 1000)) (fNil))))
noncomputable def Ylaw_1 (Gdoes_count : List PyData → Option R) (Gled_amounts : List PyData → Option R) (Gstep_of_sum : List PyData → Option R) (G_law_pick : List PyData → Src → Option (R × Src)) (Gis_sorting_net : List PyData → Option R) (G_law_is_step : List PyData → Option R) (G_law_led : List PyData → Option R) (Geven_shares : List PyData → Option R) (Glongest_way : List PyData → Option R) (G_law_way : List PyData → Option R) (G_law_counting : List PyData → Option R) (G_law_net : List PyData → Src → Option (R × Src)) (n : Nat) : MS := shut (
    sCons (sAsg 17 (mCallB tupleD (aCons (Claw_1 Gdoes_count Gled_amounts Gstep_of_sum G_law_pick Gis_sorting_net G_law_is_step G_law_led Geven_shares Glongest_way G_law_way G_law_counting G_law_net) (aNil))))
    (sCons (sIf (mAndT (mTru (mVar 15)) (mB (mBin neD (mCall Gled_amounts (fCons (mVar 4) (fCons (mVar 17) (fNil)))) (mCall Gstep_of_sum (fCons (mVar 3) (fCons (mCallB sumA (aCons (mVar 17) (aNil))) (fNil))))))) (sCons (sRet (mC (.bool false)))
    (sNil)) (sNil))
    (sNil)))
noncomputable def Claw_2 (Gdoes_count : List PyData → Option R) (Gled_amounts : List PyData → Option R) (Gstep_of_sum : List PyData → Option R) (G_law_pick : List PyData → Src → Option (R × Src)) (Gis_sorting_net : List PyData → Option R) (G_law_is_step : List PyData → Option R) (G_law_led : List PyData → Option R) (Geven_shares : List PyData → Option R) (Glongest_way : List PyData → Option R) (G_law_way : List PyData → Option R) (G_law_counting : List PyData → Option R) (G_law_net : List PyData → Src → Option (R × Src)) : M := shut (
    mComp [11] (tName 11) (iSeq (mVar 12)) (mNotT (mTru (mCall G_law_is_step (fCons (mCall G_law_led (fCons (mVar 4) (fCons (mVar 11) (fNil)))) (fNil))))) (mVar 11))
noncomputable def Claw_3 (Gdoes_count : List PyData → Option R) (Gled_amounts : List PyData → Option R) (Gstep_of_sum : List PyData → Option R) (G_law_pick : List PyData → Src → Option (R × Src)) (Gis_sorting_net : List PyData → Option R) (G_law_is_step : List PyData → Option R) (G_law_led : List PyData → Option R) (Geven_shares : List PyData → Option R) (Glongest_way : List PyData → Option R) (G_law_way : List PyData → Option R) (G_law_counting : List PyData → Option R) (G_law_net : List PyData → Src → Option (R × Src)) : M := shut (
    mComp [10] (tName 10) (iSeq (mVar 9)) (mB (mBin gtD (mCallB maxA (aCons (mVar 10) (aNil))) (mCallB minA (aCons (mVar 10) (aNil))))) (mC (.int 1)))
noncomputable def Claw_4 (Gdoes_count : List PyData → Option R) (Gled_amounts : List PyData → Option R) (Gstep_of_sum : List PyData → Option R) (G_law_pick : List PyData → Src → Option (R × Src)) (Gis_sorting_net : List PyData → Option R) (G_law_is_step : List PyData → Option R) (G_law_led : List PyData → Option R) (Geven_shares : List PyData → Option R) (Glongest_way : List PyData → Option R) (G_law_way : List PyData → Option R) (G_law_counting : List PyData → Option R) (G_law_net : List PyData → Src → Option (R × Src)) : M := shut (
    mComp [18] (tName 18) (iRg1 (mVar 7)) (tYesM) (mBin addD (mVar 11) (mTup (fCons (mVar 18) (fNil)))))
noncomputable def Ylaw_2 (Gdoes_count : List PyData → Option R) (Gled_amounts : List PyData → Option R) (Gstep_of_sum : List PyData → Option R) (G_law_pick : List PyData → Src → Option (R × Src)) (Gis_sorting_net : List PyData → Option R) (G_law_is_step : List PyData → Option R) (G_law_led : List PyData → Option R) (Geven_shares : List PyData → Option R) (Glongest_way : List PyData → Option R) (G_law_way : List PyData → Option R) (G_law_counting : List PyData → Option R) (G_law_net : List PyData → Src → Option (R × Src)) (n : Nat) : MS := shut (
    sCons (sAsg 14 (mBin addD (mVar 14) (Claw_4 Gdoes_count Gled_amounts Gstep_of_sum G_law_pick Gis_sorting_net G_law_is_step G_law_led Geven_shares Glongest_way G_law_way G_law_counting G_law_net)))
    (sNil))
noncomputable def Ylaw_3 (Gdoes_count : List PyData → Option R) (Gled_amounts : List PyData → Option R) (Gstep_of_sum : List PyData → Option R) (G_law_pick : List PyData → Src → Option (R × Src)) (Gis_sorting_net : List PyData → Option R) (G_law_is_step : List PyData → Option R) (G_law_led : List PyData → Option R) (Geven_shares : List PyData → Option R) (Glongest_way : List PyData → Option R) (G_law_way : List PyData → Option R) (G_law_counting : List PyData → Option R) (G_law_net : List PyData → Src → Option (R × Src)) (n : Nat) : MS := shut (
    sCons (sAsg 14 (mLst (fNil)))
    (sCons (sFor (tKeep [1, 3, 4, 7, 9, 14] (tName 11)) (iSeq (mVar 12)) (Ylaw_2 Gdoes_count Gled_amounts Gstep_of_sum G_law_pick Gis_sorting_net G_law_is_step G_law_led Geven_shares Glongest_way G_law_way G_law_counting G_law_net n))
    (sKeep [1, 3, 4, 7, 9, 14] (sCons (sAsg 12 (mVar 14))
    (sNil)))))
noncomputable def Claw_5 (Gdoes_count : List PyData → Option R) (Gled_amounts : List PyData → Option R) (Gstep_of_sum : List PyData → Option R) (G_law_pick : List PyData → Src → Option (R × Src)) (Gis_sorting_net : List PyData → Option R) (G_law_is_step : List PyData → Option R) (G_law_led : List PyData → Option R) (Geven_shares : List PyData → Option R) (Glongest_way : List PyData → Option R) (G_law_way : List PyData → Option R) (G_law_counting : List PyData → Option R) (G_law_net : List PyData → Src → Option (R × Src)) : M := shut (
    mComp [18] (tName 18) (iSeq (mVar 11)) (tYesM) (mBin mulD (mC (.int 2)) (mVar 18)))
noncomputable def Claw_6 (Gdoes_count : List PyData → Option R) (Gled_amounts : List PyData → Option R) (Gstep_of_sum : List PyData → Option R) (G_law_pick : List PyData → Src → Option (R × Src)) (Gis_sorting_net : List PyData → Option R) (G_law_is_step : List PyData → Option R) (G_law_led : List PyData → Option R) (Geven_shares : List PyData → Option R) (Glongest_way : List PyData → Option R) (G_law_way : List PyData → Option R) (G_law_counting : List PyData → Option R) (G_law_net : List PyData → Src → Option (R × Src)) : M := shut (
    mComp [18] (tName 18) (iSeq (mVar 10)) (tYesM) (mBin mulD (mC (.int 2)) (mVar 18)))
noncomputable def Ylaw_4 (Gdoes_count : List PyData → Option R) (Gled_amounts : List PyData → Option R) (Gstep_of_sum : List PyData → Option R) (G_law_pick : List PyData → Src → Option (R × Src)) (Gis_sorting_net : List PyData → Option R) (G_law_is_step : List PyData → Option R) (G_law_led : List PyData → Option R) (Geven_shares : List PyData → Option R) (Glongest_way : List PyData → Option R) (G_law_way : List PyData → Option R) (G_law_counting : List PyData → Option R) (G_law_net : List PyData → Src → Option (R × Src)) (n : Nat) : MS := shut (
    sCons (sIf (mB (mBin neD (mCall Gled_amounts (fCons (mVar 4) (fCons (mCallB tupleD (aCons (Claw_5 Gdoes_count Gled_amounts Gstep_of_sum G_law_pick Gis_sorting_net G_law_is_step G_law_led Geven_shares Glongest_way G_law_way G_law_counting G_law_net) (aNil))) (fNil)))) (mCallB tupleD (aCons (Claw_6 Gdoes_count Gled_amounts Gstep_of_sum G_law_pick Gis_sorting_net G_law_is_step G_law_led Geven_shares Glongest_way G_law_way G_law_counting G_law_net) (aNil))))) (sCons (sRet (mC (.bool false)))
    (sNil)) (sNil))
    (sNil))
noncomputable def Claw_7 (Gdoes_count : List PyData → Option R) (Gled_amounts : List PyData → Option R) (Gstep_of_sum : List PyData → Option R) (G_law_pick : List PyData → Src → Option (R × Src)) (Gis_sorting_net : List PyData → Option R) (G_law_is_step : List PyData → Option R) (G_law_led : List PyData → Option R) (Geven_shares : List PyData → Option R) (Glongest_way : List PyData → Option R) (G_law_way : List PyData → Option R) (G_law_counting : List PyData → Option R) (G_law_net : List PyData → Src → Option (R × Src)) : M := shut (
    mComp [11] (tName 11) (iSeq (mVar 8)) (tYesM) (mCall G_law_led (fCons (mVar 4) (fCons (mVar 11) (fNil)))))
noncomputable def Claw_8 (Gdoes_count : List PyData → Option R) (Gled_amounts : List PyData → Option R) (Gstep_of_sum : List PyData → Option R) (G_law_pick : List PyData → Src → Option (R × Src)) (Gis_sorting_net : List PyData → Option R) (G_law_is_step : List PyData → Option R) (G_law_led : List PyData → Option R) (Geven_shares : List PyData → Option R) (Glongest_way : List PyData → Option R) (G_law_way : List PyData → Option R) (G_law_counting : List PyData → Option R) (G_law_net : List PyData → Src → Option (R × Src)) : M := shut (
    mComp [5] (tName 5) (iRg1 (mVar 3)) (tYesM) (mBin mulD (mVar 7) (mCallB intD (aCons (mBin eqD2 (mVar 5) (mVar 13)) (aNil)))))
noncomputable def Claw_9 (Gdoes_count : List PyData → Option R) (Gled_amounts : List PyData → Option R) (Gstep_of_sum : List PyData → Option R) (G_law_pick : List PyData → Src → Option (R × Src)) (Gis_sorting_net : List PyData → Option R) (G_law_is_step : List PyData → Option R) (G_law_led : List PyData → Option R) (Geven_shares : List PyData → Option R) (Glongest_way : List PyData → Option R) (G_law_way : List PyData → Option R) (G_law_counting : List PyData → Option R) (G_law_net : List PyData → Src → Option (R × Src)) : M := shut (
    mComp [13] (tName 13) (iRg1 (mVar 3)) (tYesM) (mCallB tupleD (aCons (Claw_8 Gdoes_count Gled_amounts Gstep_of_sum G_law_pick Gis_sorting_net G_law_is_step G_law_led Geven_shares Glongest_way G_law_way G_law_counting G_law_net) (aNil))))
noncomputable def Wlaw_1 (Gdoes_count : List PyData → Option R) (Gled_amounts : List PyData → Option R) (Gstep_of_sum : List PyData → Option R) (G_law_pick : List PyData → Src → Option (R × Src)) (Gis_sorting_net : List PyData → Option R) (G_law_is_step : List PyData → Option R) (G_law_led : List PyData → Option R) (Geven_shares : List PyData → Option R) (Glongest_way : List PyData → Option R) (G_law_way : List PyData → Option R) (G_law_counting : List PyData → Option R) (G_law_net : List PyData → Src → Option (R × Src)) (n : Nat) : MS := shut (
    sCons (sAsg 4 (mTup (fCons (mVar 3) (fCons (mSl (mBin idxD (mVar 4) (mC (.int 1))) (oNo) (oSome (mNeg (mC (.int 1))))) (fNil)))))
    (sCons (sAsg 6 (mCall G_law_way (fCons (mVar 4) (fNil))))
    (sNil)))
noncomputable def Ylaw_5 (Gdoes_count : List PyData → Option R) (Gled_amounts : List PyData → Option R) (Gstep_of_sum : List PyData → Option R) (G_law_pick : List PyData → Src → Option (R × Src)) (Gis_sorting_net : List PyData → Option R) (G_law_is_step : List PyData → Option R) (G_law_led : List PyData → Option R) (Geven_shares : List PyData → Option R) (Glongest_way : List PyData → Option R) (G_law_way : List PyData → Option R) (G_law_counting : List PyData → Option R) (G_law_net : List PyData → Src → Option (R × Src)) (n : Nat) : MS := shut (
    sCons (sAsg 3 (mIf (mB (mBin eqD2 (mVar 2) (mC (.int 0)))) (mC (.int 4)) (mBin addD (mC (.int 1)) (mCallS 1 G_law_pick (fCons (mC (.int 3)) (fNil))))))
    (sCons (sAsg 4 (mCallS 1 G_law_net (fCons (mVar 3) (fCons (mBin idxD (mLst (fCons (mC (.int 0)) (fCons (mC (.int 6)) (fCons (mC (.int 3)) (fCons (mC (.int 4)) (fNil)))))) (mBin subD (mVar 3) (mC (.int 1)))) (fNil)))))
    (sCons (sIf (mAndT (mB (mBin inD (mVar 3) (mTup (fCons (mC (.int 2)) (fCons (mC (.int 4)) (fNil)))))) (mB (mBin eqD2 (mCallS 1 G_law_pick (fCons (mC (.int 2)) (fNil))) (mC (.int 0))))) (sCons (sAsg 4 (mTup (fCons (mVar 3) (fCons (mCallB tupleD (aCons (mCall G_law_counting (fCons (mVar 3) (fNil))) (aNil))) (fNil)))))
    (sCons (sIf (mB (mBin gtD (mCallS 1 G_law_pick (fCons (mC (.int 3)) (fNil))) (mC (.int 0)))) (sCons (sAsg 5 (mCallS 1 G_law_pick (fCons (mCallB lenD (aCons (mBin idxD (mVar 4) (mC (.int 1))) (aNil))) (fNil))))
    (sCons (sAsg 4 (mTup (fCons (mVar 3) (fCons (mBin addD (mSl (mBin idxD (mVar 4) (mC (.int 1))) (oNo) (oSome (mVar 5))) (mSl (mBin idxD (mVar 4) (mC (.int 1))) (oSome (mBin addD (mVar 5) (mC (.int 1)))) (oNo))) (fNil)))))
    (sNil))) (sNil))
    (sNil))) (sNil))
    (sKeep [1, 2, 3, 4] (sCons (sIf (mAndT (mB (mBin eqD2 (mVar 2) (mC (.int 0)))) (mB (mBin eqD2 (mCallS 1 G_law_pick (fCons (mC (.int 2)) (fNil))) (mC (.int 0))))) (sCons (sAsg 5 (mCallS 1 G_law_pick (fCons (mC (.int 2)) (fNil))))
    (sCons (sAsg 4 (mTup (fCons (mVar 3) (fCons (mCallB tupleD (aCons (mBin addD (mSl (mCall G_law_counting (fCons (mVar 3) (fNil))) (oNo) (oSome (mVar 5))) (mSl (mCall G_law_counting (fCons (mVar 3) (fNil))) (oSome (mBin addD (mVar 5) (mC (.int 1)))) (oNo))) (aNil))) (fNil)))))
    (sNil))) (sNil))
    (sKeep [1, 3, 4] (sCons (sAsg 6 (mCall G_law_way (fCons (mVar 4) (fNil))))
    (sCons (sWhile n (qKeep [1, 3, 4, 6] (mB (mBin gtD (mVar 6) (mBin idxD (mLst (fCons (mC (.int 0)) (fCons (mC (.int 6)) (fCons (mC (.int 3)) (fCons (mC (.int 3)) (fNil)))))) (mBin subD (mVar 3) (mC (.int 1))))))) (Wlaw_1 Gdoes_count Gled_amounts Gstep_of_sum G_law_pick Gis_sorting_net G_law_is_step G_law_led Geven_shares Glongest_way G_law_way G_law_counting G_law_net n))
    (sKeep [1, 3, 4, 6] (sCons (sAsg 7 (mBin shlD (mC (.int 1)) (mVar 6)))
    (sCons (sAsg 8 (Claw_9 Gdoes_count Gled_amounts Gstep_of_sum G_law_pick Gis_sorting_net G_law_is_step G_law_led Geven_shares Glongest_way G_law_way G_law_counting G_law_net))
    (sCons (sAsg 9 (mCallB tupleD (aCons (Claw_7 Gdoes_count Gled_amounts Gstep_of_sum G_law_pick Gis_sorting_net G_law_is_step G_law_led Geven_shares Glongest_way G_law_way G_law_counting G_law_net) (aNil))))
    (sCons (sIf (mB (mBin neD (mCallB reprD (aCons (mLst (fCons (mCall Glongest_way (fCons (mVar 4) (fNil))) (fCons (mCall Geven_shares (fCons (mVar 4) (fNil))) (fNil)))) (aNil))) (mCallB reprD (aCons (mLst (fCons (mVar 6) (fCons (mVar 9) (fNil)))) (aNil))))) (sCons (sRet (mC (.bool false)))
    (sNil)) (sNil))
    (sCons (sFor (tKeep [1, 3, 4, 7, 9] (tTupG 2 (tgCons (tName 10) (tgCons (tName 11) (tgNil))))) (iZipA (mVar 9) (mVar 8)) (Ylaw_4 Gdoes_count Gled_amounts Gstep_of_sum G_law_pick Gis_sorting_net G_law_is_step G_law_led Geven_shares Glongest_way G_law_way G_law_counting G_law_net n))
    (sKeep [1, 3, 4, 7, 9] (sCons (sAsg 12 (mLst (fCons (mTup (fNil)) (fNil))))
    (sCons (sFor (tKeep [1, 3, 4, 7, 9, 12] (tName 13)) (iRg1 (mVar 3)) (Ylaw_3 Gdoes_count Gled_amounts Gstep_of_sum G_law_pick Gis_sorting_net G_law_is_step G_law_led Geven_shares Glongest_way G_law_way G_law_counting G_law_net n))
    (sKeep [1, 3, 4, 9, 12] (sCons (sAsg 15 (mBin eqD2 (Claw_3 Gdoes_count Gled_amounts Gstep_of_sum G_law_pick Gis_sorting_net G_law_is_step G_law_led Geven_shares Glongest_way G_law_way G_law_counting G_law_net) (mLst (fNil))))
    (sCons (sAsg 15 (mAndV (mVar 15) (mBin eqD2 (Claw_2 Gdoes_count Gled_amounts Gstep_of_sum G_law_pick Gis_sorting_net G_law_is_step G_law_led Geven_shares Glongest_way G_law_way G_law_counting G_law_net) (mLst (fNil)))))
    (sCons (sIf (mOrT (mB (mBin neD (mCallB reprD (aCons (mCall Gdoes_count (fCons (mVar 4) (fNil))) (aNil))) (mCallB reprD (aCons (mVar 15) (aNil))))) (mAndT (mTru (mVar 15)) (mB (mBin eqD2 (mVar 3) (mC (.int 3)))))) (sCons (sRet (mC (.bool false)))
    (sNil)) (sNil))
    (sCons (sIf (mAndT (mTru (mVar 15)) (mB (mBin isNotD (mCall Gis_sorting_net (fCons (mVar 4) (fNil))) (mC (.bool true))))) (sCons (sRet (mC (.bool false)))
    (sNil)) (sNil))
    (sCons (sFor (tKeep [1, 3, 4, 15] (tName 16)) (iRg1 (mC (.int 5))) (Ylaw_1 Gdoes_count Gled_amounts Gstep_of_sum G_law_pick Gis_sorting_net G_law_is_step G_law_led Geven_shares Glongest_way G_law_way G_law_counting G_law_net n))
    (sNil))))))))))))))))))))))))
noncomputable def Blaw (Gdoes_count : List PyData → Option R) (Gled_amounts : List PyData → Option R) (Gstep_of_sum : List PyData → Option R) (G_law_pick : List PyData → Src → Option (R × Src)) (Gis_sorting_net : List PyData → Option R) (G_law_is_step : List PyData → Option R) (G_law_led : List PyData → Option R) (Geven_shares : List PyData → Option R) (Glongest_way : List PyData → Option R) (G_law_way : List PyData → Option R) (G_law_counting : List PyData → Option R) (G_law_net : List PyData → Src → Option (R × Src)) (n : Nat) : MS :=
    sCons (sFor (tKeep [1] (tName 2)) (iRg1 (mC (.int 3))) (Ylaw_5 Gdoes_count Gled_amounts Gstep_of_sum G_law_pick Gis_sorting_net G_law_is_step G_law_led Geven_shares Glongest_way G_law_way G_law_counting G_law_net n))
    (sKeep [] (sCons (sRet (mAndV (mBin isD (mCall Gdoes_count (fCons (mTup (fCons (mC (.int 3)) (fCons (mTup (fCons (mTup (fCons (mC (.int 0)) (fCons (mC (.int 1)) (fNil)))) (fCons (mTup (fCons (mC (.int 1)) (fCons (mC (.int 2)) (fNil)))) (fCons (mTup (fCons (mC (.int 0)) (fCons (mC (.int 1)) (fNil)))) (fNil))))) (fNil)))) (fNil))) (mC (.bool false))) (mBin isD (mCall Gdoes_count (fCons (mTup (fCons (mC (.int 2)) (fCons (mTup (fCons (mTup (fCons (mC (.int 0)) (fCons (mC (.int 1)) (fNil)))) (fNil))) (fNil)))) (fNil))) (mC (.bool true)))))
    (sNil)))
theorem bvlaw {P : Program} {w : World} {K : PySem.W.Frag} {mg : Str → Option Value} {base : Heap} {f : Addr} {k : Nat} (Gdoes_count : List PyData → Option R) (Gled_amounts : List PyData → Option R) (Gstep_of_sum : List PyData → Option R) (G_law_pick : List PyData → Src → Option (R × Src)) (Gis_sorting_net : List PyData → Option R) (G_law_is_step : List PyData → Option R) (G_law_led : List PyData → Option R) (Geven_shares : List PyData → Option R) (Glongest_way : List PyData → Option R) (G_law_way : List PyData → Option R) (G_law_counting : List PyData → Option R) (G_law_net : List PyData → Src → Option (R × Src)) (m_int : mg "int" = none) (m_len : mg "len" = none) (m_max : mg "max" = none) (m_min : mg "min" = none) (m_range : mg "range" = none) (m_repr : mg "repr" = none) (m_sum : mg "sum" = none) (m_tuple : mg "tuple" = none) (m_zip : mg "zip" = none) (Cdoes_count : CalG P w K mg base k "does_count" (spP 1 Gdoes_count)) (Ldoes_count : ∀ ds r, Gdoes_count ds = some r → ds.length = 1) (Cled_amounts : CalG P w K mg base k "led_amounts" (spP 2 Gled_amounts)) (Lled_amounts : ∀ ds r, Gled_amounts ds = some r → ds.length = 2) (Cstep_of_sum : CalG P w K mg base k "step_of_sum" (spP 2 Gstep_of_sum)) (Lstep_of_sum : ∀ ds r, Gstep_of_sum ds = some r → ds.length = 2) (C_law_pick : CalG P w K mg base k "_law_pick" (spS 2 G_law_pick)) (L_law_pick : ∀ ds z r, G_law_pick ds z = some r → ds.length + 1 = 2) (Cis_sorting_net : CalG P w K mg base k "is_sorting_net" (spP 1 Gis_sorting_net)) (Lis_sorting_net : ∀ ds r, Gis_sorting_net ds = some r → ds.length = 1) (C_law_is_step : CalG P w K mg base k "_law_is_step" (spP 1 G_law_is_step)) (L_law_is_step : ∀ ds r, G_law_is_step ds = some r → ds.length = 1) (C_law_led : CalG P w K mg base k "_law_led" (spP 2 G_law_led)) (L_law_led : ∀ ds r, G_law_led ds = some r → ds.length = 2) (Ceven_shares : CalG P w K mg base k "even_shares" (spP 1 Geven_shares)) (Leven_shares : ∀ ds r, Geven_shares ds = some r → ds.length = 1) (Clongest_way : CalG P w K mg base k "longest_way" (spP 1 Glongest_way)) (Llongest_way : ∀ ds r, Glongest_way ds = some r → ds.length = 1) (C_law_way : CalG P w K mg base k "_law_way" (spP 1 G_law_way)) (L_law_way : ∀ ds r, G_law_way ds = some r → ds.length = 1) (C_law_counting : CalG P w K mg base k "_law_counting" (spP 1 G_law_counting)) (L_law_counting : ∀ ds r, G_law_counting ds = some r → ds.length = 1) (C_law_net : CalG P w K mg base k "_law_net" (spS 3 G_law_net)) (L_law_net : ∀ ds z r, G_law_net ds z = some r → ds.length + 1 = 3) (cdv : Value) (A : Around) (outer : List Env) (s : Shared) (H : Hp) (E : XK)
    (hr : Room k (A.deeper (envOfC "law" (defScope slaw) s.heap.objs.size f cdv))) (g : Gd (cxOf CX0 P w K mg base ["script", "source", "lap", "n", "net", "k", "far", "many", "alone", "shares", "one", "row", "rows", "line", "late", "due", "look", "amounts", "x"] "law" (defScope slaw) f cdv A outer s H E).nox) (n : Nat) :
    BV (cxOf CX0 P w K mg base ["script", "source", "lap", "n", "net", "k", "far", "many", "alone", "shares", "one", "row", "rows", "line", "late", "due", "look", "amounts", "x"] "law" (defScope slaw) f cdv A outer s H E).nox ((defBody slaw).drop 1) (Blaw Gdoes_count Gled_amounts Gstep_of_sum G_law_pick Gis_sorting_net G_law_is_step G_law_led Geven_shares Glongest_way G_law_way G_law_counting G_law_net n) :=
  bv_cons (sv_for g (iv_range1 (by rfl) m_range (ev_int)) (gv_keep (gv_name (i := 2) g rfl (.inl rfl))) (bv_shut (bv_cons (sv_asg (i := 3) g rfl (.inr rfl) (ev_if (tv_cmp (d_eq2 g) (ev_var (i := 2) rfl (.inl rfl)) (ev_int) (nomark _)) (ev_int) (ev_bin d_add (ev_int) (ev_callS (i := 1) C_law_pick g hr (by rfl) rfl (.inr (.inl (by kernel_rfl))) (fv_cons (ev_int) (fv_nil)) L_law_pick))))
    (bv_cons (sv_asg (i := 4) g rfl (.inr rfl) (ev_callS (i := 1) C_law_net g hr (by rfl) rfl (.inr (.inl (by kernel_rfl))) (fv_cons (ev_var (i := 3) rfl (.inr (.inl (by kernel_rfl)))) (fv_cons (ev_ix (ev_lst (fv_cons (ev_int) (fv_cons (ev_int) (fv_cons (ev_int) (fv_cons (ev_int) (fv_nil)))))) (ev_bin d_sub (ev_var (i := 3) rfl (.inr (.inl (by kernel_rfl)))) (ev_int))) (fv_nil))) L_law_net))
    (bv_cons (sv_if ((tw_and (tv_cmp (d_in g) (ev_var (i := 3) rfl (.inr (.inl (by kernel_rfl)))) (ev_tup (fv_cons (ev_int) (fv_cons (ev_int) (fv_nil)))) (by rfl)) (tw_and1 (tv_cmp (d_eq2 g) (ev_callS (i := 1) C_law_pick g hr (by rfl) rfl (.inr (.inl (by kernel_rfl))) (fv_cons (ev_int) (fv_nil)) L_law_pick) (ev_int) (nomark _)))).tv) (bv_cons (sv_asg (i := 4) g rfl (.inr rfl) (ev_tup (fv_cons (ev_var (i := 3) rfl (.inr (.inl (by kernel_rfl)))) (fv_cons (ev_callTy c_tuple (by rfl) m_tuple bt_tuple (av_cons (ev_call C_law_counting g hr (by rfl) (fv_cons (ev_var (i := 3) rfl (.inr (.inl (by kernel_rfl)))) (fv_nil)) L_law_counting) (av_nil))) (fv_nil)))))
    (bv_cons (sv_if (tv_cmp d_gt (ev_callS (i := 1) C_law_pick g hr (by rfl) rfl (.inr (.inl (by kernel_rfl))) (fv_cons (ev_int) (fv_nil)) L_law_pick) (ev_int) (nomark _)) (bv_cons (sv_asg (i := 5) g rfl (.inl rfl) (ev_callS (i := 1) C_law_pick g hr (by rfl) rfl (.inr (.inl (by kernel_rfl))) (fv_cons (ev_callB c_len (by rfl) m_len bt_len (av_cons (ev_ix (ev_var (i := 4) rfl (.inr (.inl (by kernel_rfl)))) (ev_int)) (av_nil))) (fv_nil)) L_law_pick))
    (bv_cons (sv_asg (i := 4) g rfl (.inr rfl) (ev_tup (fv_cons (ev_var (i := 3) rfl (.inr (.inl (by kernel_rfl)))) (fv_cons (ev_bin d_add (ev_sl (ev_ix (ev_var (i := 4) rfl (.inr (.inl (by kernel_rfl)))) (ev_int)) (ov_no) (ov_some (ev_var (i := 5) rfl (.inl rfl)))) (ev_sl (ev_ix (ev_var (i := 4) rfl (.inr (.inl (by kernel_rfl)))) (ev_int)) (ov_some (ev_bin d_add (ev_var (i := 5) rfl (.inl rfl)) (ev_int))) (ov_no))) (fv_nil)))))
    (bv_nil))) (bv_nil))
    (bv_nil))) (bv_nil))
    (bv_keep (bv_cons (sv_if ((tw_and (tv_cmp (d_eq2 g) (ev_var (i := 2) rfl (.inl rfl)) (ev_int) (nomark _)) (tw_and1 (tv_cmp (d_eq2 g) (ev_callS (i := 1) C_law_pick g hr (by rfl) rfl (.inr (.inl (by kernel_rfl))) (fv_cons (ev_int) (fv_nil)) L_law_pick) (ev_int) (nomark _)))).tv) (bv_cons (sv_asg (i := 5) g rfl (.inl rfl) (ev_callS (i := 1) C_law_pick g hr (by rfl) rfl (.inr (.inl (by kernel_rfl))) (fv_cons (ev_int) (fv_nil)) L_law_pick))
    (bv_cons (sv_asg (i := 4) g rfl (.inr rfl) (ev_tup (fv_cons (ev_var (i := 3) rfl (.inr (.inl (by kernel_rfl)))) (fv_cons (ev_callTy c_tuple (by rfl) m_tuple bt_tuple (av_cons (ev_bin d_add (ev_sl (ev_call C_law_counting g hr (by rfl) (fv_cons (ev_var (i := 3) rfl (.inr (.inl (by kernel_rfl)))) (fv_nil)) L_law_counting) (ov_no) (ov_some (ev_var (i := 5) rfl (.inl rfl)))) (ev_sl (ev_call C_law_counting g hr (by rfl) (fv_cons (ev_var (i := 3) rfl (.inr (.inl (by kernel_rfl)))) (fv_nil)) L_law_counting) (ov_some (ev_bin d_add (ev_var (i := 5) rfl (.inl rfl)) (ev_int))) (ov_no))) (av_nil))) (fv_nil)))))
    (bv_nil))) (bv_nil))
    (bv_keep (bv_cons (sv_asg (i := 6) g rfl (.inl rfl) (ev_call C_law_way g hr (by rfl) (fv_cons (ev_var (i := 4) rfl (.inr (.inl (by kernel_rfl)))) (fv_nil)) L_law_way))
    (bv_cons (sv_while g (tv_keep (tv_cmp d_gt (ev_var (i := 6) rfl (.inl rfl)) (ev_ix (ev_lst (fv_cons (ev_int) (fv_cons (ev_int) (fv_cons (ev_int) (fv_cons (ev_int) (fv_nil)))))) (ev_bin d_sub (ev_var (i := 3) rfl (.inr (.inl (by kernel_rfl)))) (ev_int))) (nomark _))) (bv_shut (bv_cons (sv_asg (i := 4) g rfl (.inr rfl) (ev_tup (fv_cons (ev_var (i := 3) rfl (.inr (.inl (by kernel_rfl)))) (fv_cons (ev_sl (ev_ix (ev_var (i := 4) rfl (.inr (.inl (by kernel_rfl)))) (ev_int)) (ov_no) (ov_some (ev_neg (ev_int)))) (fv_nil)))))
    (bv_cons (sv_asg (i := 6) g rfl (.inl rfl) (ev_call C_law_way g hr (by rfl) (fv_cons (ev_var (i := 4) rfl (.inr (.inl (by kernel_rfl)))) (fv_nil)) L_law_way))
    (bv_nil)))) n)
    (bv_keep (bv_cons (sv_asg (i := 7) g rfl (.inr rfl) (ev_bin d_shl (ev_int) (ev_var (i := 6) rfl (.inl rfl))))
    (bv_cons (sv_shutA (sv_asgLc (i := 8) g (own := [("line", 13)]) rfl rfl (sw_true rfl rfl rfl (by decide +kernel)) (iv_range1 (by rfl) m_range (ev_var (i := 3) rfl (.inr (.inl (by kernel_rfl))))) (blkOk_by (N := ["script", "source", "lap", "n", "net", "k", "far", "many", "alone", "shares", "one", "row", "rows", "line", "late", "due", "look", "amounts", "x"]) (own := [("line", 13)]) (sc := defScope slaw) (by decide +kernel)) rfl (by decide) (fun s_ H_ C_ cl_ fp_ => have g1 := (g).blk s_ H_ _ _ fp_; gv_name (i := 13) g1 rfl (.inr rfl)) (fun _ _ _ _ _ => tvs_nil) (fun s_ H_ C_ cl_ fp_ => have g1 := (g).blk s_ H_ _ _ fp_; ev_callTy c_tuple (by rfl) m_tuple bt_tuple (av_cons (ev_shut (ev_comp g1 (own := [("k", 5)]) (iv_range1 (by rfl) m_range (ev_var (i := 3) rfl (.inr (.inl (by kernel_rfl))))) (blkOk_by (N := ["script", "source", "lap", "n", "net", "k", "far", "many", "alone", "shares", "one", "row", "rows", "line", "late", "due", "look", "amounts", "x"]) (own := [("k", 5)]) (by kernel_rfl)) rfl (by decide) (fun s_ H_ C_ cl_ fp_ => have g2 := (g1).blk s_ H_ _ _ fp_; gv_name (i := 5) g2 rfl (.inl rfl)) (fun _ _ _ _ _ => tvs_nil) (fun s_ H_ C_ cl_ fp_ => have g2 := (g1).blk s_ H_ _ _ fp_; ev_bin d_mul (ev_var (i := 7) rfl (.inr (.inl (by kernel_rfl)))) (ev_callTy c_int (by rfl) m_int bt_int (av_cons (ev_cmp (d_eq2 g2) (ev_var (i := 5) rfl (.inl rfl)) (ev_var (i := 13) rfl (.inr (.inl (by kernel_rfl)))) (nomark _)) (av_nil)))))) (av_nil)))))
    (bv_cons (sv_asg (i := 9) g rfl (.inl rfl) (ev_callTy c_tuple (by rfl) m_tuple bt_tuple (av_cons (ev_shut (ev_comp g (own := [("row", 11)]) (iv_seq (ev_var (i := 8) rfl (.inl rfl))) (blkOk_by (N := ["script", "source", "lap", "n", "net", "k", "far", "many", "alone", "shares", "one", "row", "rows", "line", "late", "due", "look", "amounts", "x"]) (own := [("row", 11)]) (sc := defScope slaw) (by decide +kernel)) rfl (by decide) (fun s_ H_ C_ cl_ fp_ => have g1 := (g).blk s_ H_ _ _ fp_; gv_name (i := 11) g1 rfl (.inl rfl)) (fun _ _ _ _ _ => tvs_nil) (fun s_ H_ C_ cl_ fp_ => have g1 := (g).blk s_ H_ _ _ fp_; ev_call C_law_led g1 hr (by rfl) (fv_cons (ev_var (i := 4) rfl (.inr (.inl (by kernel_rfl)))) (fv_cons (ev_var (i := 11) rfl (.inl rfl)) (fv_nil))) L_law_led))) (av_nil))))
    (bv_cons (sv_if (tv_cmp (d_ne g) (ev_callB (c_repr g) (by rfl) m_repr bt_repr (av_cons (ev_lst (fv_cons (ev_call Clongest_way g hr (by rfl) (fv_cons (ev_var (i := 4) rfl (.inr (.inl (by kernel_rfl)))) (fv_nil)) Llongest_way) (fv_cons (ev_call Ceven_shares g hr (by rfl) (fv_cons (ev_var (i := 4) rfl (.inr (.inl (by kernel_rfl)))) (fv_nil)) Leven_shares) (fv_nil)))) (av_nil))) (ev_callB (c_repr g) (by rfl) m_repr bt_repr (av_cons (ev_lst (fv_cons (ev_var (i := 6) rfl (.inl rfl)) (fv_cons (ev_var (i := 9) rfl (.inl rfl)) (fv_nil)))) (av_nil))) (nomark _)) (bv_cons (sv_ret (ev_bl))
    (bv_nil)) (bv_nil))
    (bv_cons (sv_for g (iv_zipA (by rfl) m_zip (ev_var (i := 9) rfl (.inl rfl)) (ev_var (i := 8) rfl (.inl rfl))) (gv_keep (gv_tup (n := 2) g (gvs_cons (gv_name (i := 10) g rfl (.inl rfl)) (gvs_cons (gv_name (i := 11) g rfl (.inr rfl)) (gvs_nil))))) (bv_shut (bv_cons (sv_if (tv_cmp (d_ne g) (ev_call Cled_amounts g hr (by rfl) (fv_cons (ev_var (i := 4) rfl (.inr (.inl (by kernel_rfl)))) (fv_cons (ev_callTy c_tuple (by rfl) m_tuple bt_tuple (av_cons (ev_shut (ev_comp g (own := [("x", 18)]) (iv_seq (ev_var (i := 11) rfl (.inr (.inl (by kernel_rfl))))) (blkOk_by (N := ["script", "source", "lap", "n", "net", "k", "far", "many", "alone", "shares", "one", "row", "rows", "line", "late", "due", "look", "amounts", "x"]) (own := [("x", 18)]) (sc := defScope slaw) (by decide +kernel)) rfl (by decide) (fun s_ H_ C_ cl_ fp_ => have g1 := (g).blk s_ H_ _ _ fp_; gv_name (i := 18) g1 rfl (.inl rfl)) (fun _ _ _ _ _ => tvs_nil) (fun _ _ _ _ _ => ev_bin d_mul (ev_int) (ev_var (i := 18) rfl (.inl rfl))))) (av_nil))) (fv_nil))) Lled_amounts) (ev_callTy c_tuple (by rfl) m_tuple bt_tuple (av_cons (ev_shut (ev_comp g (own := [("x", 18)]) (iv_seq (ev_var (i := 10) rfl (.inl rfl))) (blkOk_by (N := ["script", "source", "lap", "n", "net", "k", "far", "many", "alone", "shares", "one", "row", "rows", "line", "late", "due", "look", "amounts", "x"]) (own := [("x", 18)]) (sc := defScope slaw) (by decide +kernel)) rfl (by decide) (fun s_ H_ C_ cl_ fp_ => have g1 := (g).blk s_ H_ _ _ fp_; gv_name (i := 18) g1 rfl (.inl rfl)) (fun _ _ _ _ _ => tvs_nil) (fun _ _ _ _ _ => ev_bin d_mul (ev_int) (ev_var (i := 18) rfl (.inl rfl))))) (av_nil))) (nomark _)) (bv_cons (sv_ret (ev_bl))
    (bv_nil)) (bv_nil))
    (bv_nil))))
    (bv_keep (bv_cons (sv_asg (i := 12) g rfl (.inl rfl) (ev_lst (fv_cons (ev_tup (fv_nil)) (fv_nil))))
    (bv_cons (sv_for g (iv_range1 (by rfl) m_range (ev_var (i := 3) rfl (.inr (.inl (by kernel_rfl))))) (gv_keep (gv_name (i := 13) g rfl (.inl rfl))) (bv_shut (bv_cons (sv_asg (i := 14) g rfl (.inl rfl) (ev_lst (fv_nil)))
    (bv_cons (sv_for g (iv_seq (ev_var (i := 12) rfl (.inl rfl))) (gv_keep (gv_name (i := 11) g rfl (.inr rfl))) (bv_shut (bv_cons (sv_asg (i := 14) g rfl (.inl rfl) (ev_bin d_add (ev_var (i := 14) rfl (.inl rfl)) (ev_shut (ev_comp g (own := [("x", 18)]) (iv_range1 (by rfl) m_range (ev_var (i := 7) rfl (.inr (.inl (by kernel_rfl))))) (blkOk_by (N := ["script", "source", "lap", "n", "net", "k", "far", "many", "alone", "shares", "one", "row", "rows", "line", "late", "due", "look", "amounts", "x"]) (own := [("x", 18)]) (sc := defScope slaw) (by decide +kernel)) rfl (by decide) (fun s_ H_ C_ cl_ fp_ => have g1 := (g).blk s_ H_ _ _ fp_; gv_name (i := 18) g1 rfl (.inl rfl)) (fun _ _ _ _ _ => tvs_nil) (fun _ _ _ _ _ => ev_bin d_add (ev_var (i := 11) rfl (.inr (.inl (by kernel_rfl)))) (ev_tup (fv_cons (ev_var (i := 18) rfl (.inl rfl)) (fv_nil))))))))
    (bv_nil))))
    (bv_keep (bv_cons (sv_asg (i := 12) g rfl (.inl rfl) (ev_var (i := 14) rfl (.inl rfl)))
    (bv_nil)))))))
    (bv_keep (bv_cons (sv_asg (i := 15) g rfl (.inl rfl) (ev_cmp (d_eq2 g) (ev_shut (ev_comp g (own := [("one", 10)]) (iv_seq (ev_var (i := 9) rfl (.inl rfl))) (blkOk_by (N := ["script", "source", "lap", "n", "net", "k", "far", "many", "alone", "shares", "one", "row", "rows", "line", "late", "due", "look", "amounts", "x"]) (own := [("one", 10)]) (sc := defScope slaw) (by decide +kernel)) rfl (by decide) (fun s_ H_ C_ cl_ fp_ => have g1 := (g).blk s_ H_ _ _ fp_; gv_name (i := 10) g1 rfl (.inl rfl)) (fun s_ H_ C_ cl_ fp_ => have g1 := (g).blk s_ H_ _ _ fp_; tvs_one (tv_cmp d_gt (ev_callB (c_maxA g1) (by rfl) m_max bt_max (av_cons (ev_var (i := 10) rfl (.inl rfl)) (av_nil))) (ev_callB (c_minA g1) (by rfl) m_min bt_min (av_cons (ev_var (i := 10) rfl (.inl rfl)) (av_nil))) (nomark _))) (fun _ _ _ _ _ => ev_int))) (ev_lst (fv_nil)) (nomark _)))
    (bv_cons (sv_asg (i := 15) g rfl (.inl rfl) (ev_and (ev_var (i := 15) rfl (.inl rfl)) (ev_one (ev_cmp (d_eq2 g) (ev_shut (ev_comp g (own := [("row", 11)]) (iv_seq (ev_var (i := 12) rfl (.inl rfl))) (blkOk_by (N := ["script", "source", "lap", "n", "net", "k", "far", "many", "alone", "shares", "one", "row", "rows", "line", "late", "due", "look", "amounts", "x"]) (own := [("row", 11)]) (sc := defScope slaw) (by decide +kernel)) rfl (by decide) (fun s_ H_ C_ cl_ fp_ => have g1 := (g).blk s_ H_ _ _ fp_; gv_name (i := 11) g1 rfl (.inl rfl)) (fun s_ H_ C_ cl_ fp_ => have g1 := (g).blk s_ H_ _ _ fp_; tvs_one (tv_not (tv_tru (ev_call C_law_is_step g1 hr (by rfl) (fv_cons (ev_call C_law_led g1 hr (by rfl) (fv_cons (ev_var (i := 4) rfl (.inr (.inl (by kernel_rfl)))) (fv_cons (ev_var (i := 11) rfl (.inl rfl)) (fv_nil))) L_law_led) (fv_nil)) L_law_is_step)))) (fun _ _ _ _ _ => ev_var (i := 11) rfl (.inl rfl)))) (ev_lst (fv_nil)) (nomark _)))))
    (bv_cons (sv_if ((tw_or (tv_cmp (d_ne g) (ev_callB (c_repr g) (by rfl) m_repr bt_repr (av_cons (ev_call Cdoes_count g hr (by rfl) (fv_cons (ev_var (i := 4) rfl (.inr (.inl (by kernel_rfl)))) (fv_nil)) Ldoes_count) (av_nil))) (ev_callB (c_repr g) (by rfl) m_repr bt_repr (av_cons (ev_var (i := 15) rfl (.inl rfl)) (av_nil))) (nomark _)) (tw_or1 ((tw_and (tv_tru (ev_var (i := 15) rfl (.inl rfl))) (tw_and1 (tv_cmp (d_eq2 g) (ev_var (i := 3) rfl (.inr (.inl (by kernel_rfl)))) (ev_int) (nomark _)))).tv))).tv) (bv_cons (sv_ret (ev_bl))
    (bv_nil)) (bv_nil))
    (bv_cons (sv_if ((tw_and (tv_tru (ev_var (i := 15) rfl (.inl rfl))) (tw_and1 (tv_cmp d_isNot (ev_call Cis_sorting_net g hr (by rfl) (fv_cons (ev_var (i := 4) rfl (.inr (.inl (by kernel_rfl)))) (fv_nil)) Lis_sorting_net) (ev_bl) (nomark _)))).tv) (bv_cons (sv_ret (ev_bl))
    (bv_nil)) (bv_nil))
    (bv_cons (sv_for g (iv_range1 (by rfl) m_range (ev_int)) (gv_keep (gv_name (i := 16) g rfl (.inl rfl))) (bv_shut (bv_cons (sv_asg (i := 17) g rfl (.inl rfl) (ev_callTy c_tuple (by rfl) m_tuple bt_tuple (av_cons (ev_shut (ev_comp g (own := [("line", 13)]) (iv_range1 (by rfl) m_range (ev_var (i := 3) rfl (.inr (.inl (by kernel_rfl))))) (blkOk_by (N := ["script", "source", "lap", "n", "net", "k", "far", "many", "alone", "shares", "one", "row", "rows", "line", "late", "due", "look", "amounts", "x"]) (own := [("line", 13)]) (sc := defScope slaw) (by decide +kernel)) rfl (by decide) (fun s_ H_ C_ cl_ fp_ => have g1 := (g).blk s_ H_ _ _ fp_; gv_name (i := 13) g1 rfl (.inl rfl)) (fun _ _ _ _ _ => tvs_nil) (fun s_ H_ C_ cl_ fp_ => have g1 := (g).blk s_ H_ _ _ fp_; ev_callS (i := 1) C_law_pick g1 hr (by rfl) rfl (.inr (.inl (by kernel_rfl))) (fv_cons (ev_int) (fv_nil)) L_law_pick))) (av_nil))))
    (bv_cons (sv_if ((tw_and (tv_tru (ev_var (i := 15) rfl (.inl rfl))) (tw_and1 (tv_cmp (d_ne g) (ev_call Cled_amounts g hr (by rfl) (fv_cons (ev_var (i := 4) rfl (.inr (.inl (by kernel_rfl)))) (fv_cons (ev_var (i := 17) rfl (.inl rfl)) (fv_nil))) Lled_amounts) (ev_call Cstep_of_sum g hr (by rfl) (fv_cons (ev_var (i := 3) rfl (.inr (.inl (by kernel_rfl)))) (fv_cons (ev_callB (c_sumA g) (by rfl) m_sum bt_sum (av_cons (ev_var (i := 17) rfl (.inl rfl)) (av_nil))) (fv_nil))) Lstep_of_sum) (nomark _)))).tv) (bv_cons (sv_ret (ev_bl))
    (bv_nil)) (bv_nil))
    (bv_nil)))))
    (bv_nil))))))))))))))))))))))))))
    (bv_keep (bv_cons (sv_ret (ev_and (ev_cmp d_is (ev_call Cdoes_count g hr (by rfl) (fv_cons (ev_tup (fv_cons (ev_int) (fv_cons (ev_tup (fv_cons (ev_tup (fv_cons (ev_int) (fv_cons (ev_int) (fv_nil)))) (fv_cons (ev_tup (fv_cons (ev_int) (fv_cons (ev_int) (fv_nil)))) (fv_cons (ev_tup (fv_cons (ev_int) (fv_cons (ev_int) (fv_nil)))) (fv_nil))))) (fv_nil)))) (fv_nil)) Ldoes_count) (ev_bl) (nomark _)) (ev_one (ev_cmp d_is (ev_call Cdoes_count g hr (by rfl) (fv_cons (ev_tup (fv_cons (ev_int) (fv_cons (ev_tup (fv_cons (ev_tup (fv_cons (ev_int) (fv_cons (ev_int) (fv_nil)))) (fv_nil))) (fv_nil)))) (fv_nil)) Ldoes_count) (ev_bl) (nomark _)))))
    (bv_nil)))
end K83
set_option Elab.async false
set_option linter.all false
set_option maxRecDepth 100000
set_option maxHeartbeats 4000000
/-! Bal: nets of balancers, plainly -/
namespace Bal
open PySem NV
abbrev Pair := Nat × Nat
def okN (n : Nat) (ps : List Pair) : Prop := ∀ p ∈ ps, p.1 < p.2 ∧ p.2 < n
def pairP (p : Pair) : PyData := .tuple [.int p.1, .int p.2]
def netD (n : Nat) (ps : List Pair) : PyData := .tuple [.int n, .tuple (ps.map pairP)]
/-! ### rows -/
theorem nth_lt {L : List Int} {i : Nat} (h : i < L.length) : L[i] = nth L i := by
  have := nth_get h
  rw [List.getElem?_eq_getElem h] at this
  exact Option.some.inj this
theorem row_ext {F G : List Int} (hl : F.length = G.length) (h : ∀ i, i < F.length → nth F i = nth G i) : F = G := by
  apply List.ext_getElem hl
  intro i h1 h2
  rw [nth_lt h1, nth_lt h2]
  exact h i h1
theorem nth_map {L : List Int} {f : Int → Int} {i : Nat} (h : i < L.length) : nth (L.map f) i = f (nth L i) := by
  rw [← nth_lt (by rw [List.length_map]; exact h), List.getElem_map, nth_lt h]
theorem sum_set : ∀ (L : List Int) (i : Nat) (x : Int), i < L.length → (L.set i x).sum = L.sum - nth L i + x
  | [], _, _, h => by simp at h
  | y :: L, 0, x, _ => by
    show (x :: L).sum = (y :: L).sum - y + x
    rw [List.sum_cons, List.sum_cons]; omega
  | y :: L, i + 1, x, h => by
    have := sum_set L i x (by simpa using h)
    show (y :: L.set i x).sum = (y :: L).sum - nth L i + x
    rw [List.sum_cons, List.sum_cons, this]; omega
/-! ### balancers -/
def stepA (L : List Int) (p : Pair) : List Int := (L.set p.1 (nth L p.1 + nth L p.2 - (nth L p.1 + nth L p.2) / 2)).set p.2 ((nth L p.1 + nth L p.2) / 2)
def ledA (ps : List Pair) (L : List Int) : List Int := ps.foldl stepA L
theorem stepA_len (L : List Int) (p : Pair) : (stepA L p).length = L.length := by unfold stepA; rw [List.length_set, List.length_set]
theorem ledA_len : ∀ (ps : List Pair) (L : List Int), (ledA ps L).length = L.length
  | [], L => rfl
  | p :: ps, L => by
    show (ledA ps (stepA L p)).length = _
    rw [ledA_len ps, stepA_len]
theorem stepA_nth {L : List Int} {p : Pair} (h1 : p.1 < p.2) (h2 : p.2 < L.length) (i : Nat) : nth (stepA L p) i = if i = p.2 then (nth L p.1 + nth L p.2) / 2 else if i = p.1 then nth L p.1 + nth L p.2 - (nth L p.1 + nth L p.2) / 2 else nth L i := by
  unfold stepA
  rw [nth_set (by rw [List.length_set]; exact h2), nth_set (by omega)]
theorem stepA_sum {L : List Int} {p : Pair} (h1 : p.1 < p.2) (h2 : p.2 < L.length) : (stepA L p).sum = L.sum := by
  unfold stepA
  rw [sum_set _ _ _ (by rw [List.length_set]; exact h2), sum_set _ _ _ (by omega), nth_set (by omega), if_neg (by omega)]
  omega
theorem ledA_sum : ∀ (ps : List Pair) (L : List Int), okN L.length ps → (ledA ps L).sum = L.sum
  | [], L, _ => rfl
  | p :: ps, L, h => by
    have hp := h p (List.mem_cons_self ..)
    show (ledA ps (stepA L p)).sum = _
    rw [ledA_sum ps (stepA L p) (by rw [stepA_len]; exact fun q hq => h q (List.mem_cons_of_mem _ hq)), stepA_sum hp.1 hp.2]
theorem ledA_take {ps : List Pair} {L : List Int} {i : Nat} {p : Pair} (h : ps[i]? = some p) : ledA (ps.take (i + 1)) L = stepA (ledA (ps.take i) L) p := by
  unfold ledA
  rw [List.take_add_one, h, List.foldl_append]; rfl
/-- what holds of all members stays -/
theorem stepA_all {P : Int → Prop} {L : List Int} {p : Pair} (hL : ∀ x ∈ L, P x) (h1 : P ((nth L p.1 + nth L p.2) / 2)) (h2 : P (nth L p.1 + nth L p.2 - (nth L p.1 + nth L p.2) / 2)) : ∀ x ∈ stepA L p, P x := by
  intro x hx
  unfold stepA at hx
  rcases List.mem_or_eq_of_mem_set hx with q | rfl
  · rcases List.mem_or_eq_of_mem_set q with q | rfl
    · exact hL x q
    · exact h2
  · exact h1
theorem ledA_bd {b : Int} : ∀ (ps : List Pair) (L : List Int), okN L.length ps → (∀ x ∈ L, 0 ≤ x ∧ x ≤ b) → ∀ x ∈ ledA ps L, 0 ≤ x ∧ x ≤ b
  | [], L, _, hL => hL
  | p :: ps, L, h, hL => by
    have hp := h p (List.mem_cons_self ..)
    have b1 := hL _ (nth_mem (ns := L) (i := p.1) (by omega))
    have b2 := hL _ (nth_mem (ns := L) (i := p.2) hp.2)
    refine ledA_bd ps (stepA L p) (by rw [stepA_len]; exact fun q hq => h q (List.mem_cons_of_mem _ hq)) (stepA_all hL ?_ ?_) <;> omega
/-! ### steps -/
def descB (L : List Int) : Bool := (List.range (L.length - 1)).all fun i => decide (nth L (i + 1) ≤ nth L i)
def stepB (L : List Int) : Bool := descB L && decide (nth L 0 - nth L (L.length - 1) ≤ 1)
theorem descB_iff {L : List Int} : descB L = true ↔ ∀ i, i + 1 < L.length → nth L (i + 1) ≤ nth L i := by
  unfold descB
  rw [List.all_eq_true]
  constructor
  · intro h i hi
    exact of_decide_eq_true (h i (List.mem_range.mpr (by omega)))
  · intro h i hi
    have := List.mem_range.mp hi
    exact decide_eq_true (h i (by omega))
/-! ### words -/
def allW : Nat → List (List Int)
  | 0 => [[]]
  | n + 1 => (allW n).flatMap fun w => [w ++ [0], w ++ [1]]
def isW (n : Nat) (w : List Int) : Prop := w.length = n ∧ ∀ x ∈ w, x = 0 ∨ x = 1
theorem mem_allW : ∀ (n : Nat) (w : List Int), w ∈ allW n ↔ isW n w
  | 0, w => by
    unfold allW isW
    rw [List.mem_singleton]
    constructor
    · rintro rfl; exact ⟨rfl, fun x h => nomatch h⟩
    · rintro ⟨h, _⟩; exact List.eq_nil_of_length_eq_zero h
  | n + 1, w => by
    unfold allW
    rw [List.mem_flatMap]
    constructor
    · rintro ⟨v, hv, hw⟩
      obtain ⟨h1, h2⟩ := (mem_allW n v).mp hv
      have : w = v ++ [0] ∨ w = v ++ [1] := by simpa using hw
      rcases this with rfl | rfl
      · refine ⟨by simp [h1], fun x hx => ?_⟩
        rcases List.mem_append.mp hx with q | q
        · exact h2 x q
        · simp at q; exact .inl q
      · refine ⟨by simp [h1], fun x hx => ?_⟩
        rcases List.mem_append.mp hx with q | q
        · exact h2 x q
        · simp at q; exact .inr q
    · rintro ⟨h1, h2⟩
      have hne : w ≠ [] := fun e => by rw [e] at h1; simp at h1
      refine ⟨w.dropLast, (mem_allW n _).mpr ⟨by rw [List.length_dropLast, h1]; rfl, fun x hx => h2 x (List.dropLast_subset w hx)⟩, ?_⟩
      have e := List.dropLast_concat_getLast hne
      have hl := h2 _ (List.getLast_mem hne)
      rcases hl with q | q
      · rw [q] at e; simp [e]
      · rw [q] at e; simp [e]
theorem allW_len : ∀ n : Nat, (allW n).length = 2 ^ n
  | 0 => rfl
  | n + 1 => by
    unfold allW
    have : ∀ l : List (List Int), (l.flatMap fun w => [w ++ [0], w ++ [1]]).length = 2 * l.length := by
      intro l
      induction l with
      | nil => rfl
      | cons x l ih => rw [List.flatMap_cons, List.length_append, ih]; simp; omega
    rw [this, allW_len n, Nat.pow_succ]; omega
/-! ### swaps -/
def stepR (L : List Int) (p : Pair) : List Int := (L.set p.1 (min (nth L p.1) (nth L p.2))).set p.2 (max (nth L p.1) (nth L p.2))
def ledR (ps : List Pair) (L : List Int) : List Int := ps.foldl stepR L
theorem stepR_len (L : List Int) (p : Pair) : (stepR L p).length = L.length := by unfold stepR; rw [List.length_set, List.length_set]
theorem ledR_len : ∀ (ps : List Pair) (L : List Int), (ledR ps L).length = L.length
  | [], L => rfl
  | p :: ps, L => by
    show (ledR ps (stepR L p)).length = _
    rw [ledR_len ps, stepR_len]
theorem stepR_nth {L : List Int} {p : Pair} (h1 : p.1 < p.2) (h2 : p.2 < L.length) (i : Nat) : nth (stepR L p) i = if i = p.2 then max (nth L p.1) (nth L p.2) else if i = p.1 then min (nth L p.1) (nth L p.2) else nth L i := by
  unfold stepR
  rw [nth_set (by rw [List.length_set]; exact h2), nth_set (by omega)]
theorem ledR_take {ps : List Pair} {L : List Int} {i : Nat} {p : Pair} (h : ps[i]? = some p) : ledR (ps.take (i + 1)) L = stepR (ledR (ps.take i) L) p := by
  unfold ledR
  rw [List.take_add_one, h, List.foldl_append]; rfl
def cpl (w : List Int) : List Int := w.map fun x => 1 - x
theorem cpl_len (w : List Int) : (cpl w).length = w.length := List.length_map _
theorem cpl_cpl (w : List Int) : cpl (cpl w) = w := by
  unfold cpl
  rw [List.map_map]
  have : ((fun x : Int => 1 - x) ∘ fun x => 1 - x) = id := by funext x; show 1 - (1 - x) = x; omega
  rw [this, List.map_id]
theorem cpl_isW {n : Nat} {w : List Int} (h : isW n w) : isW n (cpl w) := ⟨by rw [cpl_len]; exact h.1, fun x hx => by
  obtain ⟨y, hy, rfl⟩ := List.mem_map.mp hx
  have := h.2 y hy
  omega⟩
theorem stepR_isW {n : Nat} {w : List Int} {p : Pair} (h : isW n w) (h1 : p.1 < p.2) (h2 : p.2 < n) : isW n (stepR w p) := by
  refine ⟨by rw [stepR_len]; exact h.1, fun x hx => ?_⟩
  have b1 := h.2 _ (nth_mem (ns := w) (i := p.1) (by have := h.1; omega))
  have b2 := h.2 _ (nth_mem (ns := w) (i := p.2) (by have := h.1; omega))
  unfold stepR at hx
  rcases List.mem_or_eq_of_mem_set hx with q | rfl
  · rcases List.mem_or_eq_of_mem_set q with q | rfl
    · exact h.2 x q
    · omega
  · omega
theorem ledR_isW {n : Nat} : ∀ (ps : List Pair) {w : List Int}, isW n w → okN n ps → isW n (ledR ps w)
  | [], w, h, _ => h
  | p :: ps, w, h, o => by
    have hp := o p (List.mem_cons_self ..)
    exact ledR_isW ps (stepR_isW h hp.1 hp.2) fun q hq => o q (List.mem_cons_of_mem _ hq)
theorem step_cpl {n : Nat} {w : List Int} {p : Pair} (h : isW n w) (h1 : p.1 < p.2) (h2 : p.2 < n) : stepA w p = cpl (stepR (cpl w) p) := by
  have hl := h.1
  refine row_ext (by rw [stepA_len, cpl_len, stepR_len, cpl_len]) fun i hi => ?_
  rw [stepA_len] at hi
  have b1 := h.2 _ (nth_mem (ns := w) (i := p.1) (by omega))
  have b2 := h.2 _ (nth_mem (ns := w) (i := p.2) (by omega))
  rw [stepA_nth h1 (by omega)]
  unfold cpl
  rw [nth_map (by rw [stepR_len, List.length_map]; exact hi), stepR_nth h1 (by rw [List.length_map]; omega), nth_map (by omega), nth_map (by omega), nth_map hi]
  by_cases e1 : i = p.2
  · rw [if_pos e1, if_pos e1]; omega
  · rw [if_neg e1, if_neg e1]
    by_cases e2 : i = p.1
    · rw [if_pos e2, if_pos e2]; omega
    · rw [if_neg e2, if_neg e2]; omega
/-- balancers lead words as swaps do, the other way round -/
theorem led_cpl {n : Nat} : ∀ (ps : List Pair) {w : List Int}, isW n w → okN n ps → ledA ps w = cpl (ledR ps (cpl w))
  | [], w, h, _ => (cpl_cpl w).symm
  | p :: ps, w, h, o => by
    have hp := o p (List.mem_cons_self ..)
    show ledA ps (stepA w p) = cpl (ledR ps (stepR (cpl w) p))
    have e := step_cpl h hp.1 hp.2
    have hw : isW n (stepA w p) := by rw [e]; exact cpl_isW (stepR_isW (cpl_isW h) hp.1 hp.2)
    rw [led_cpl ps hw fun q hq => o q (List.mem_cons_of_mem _ hq), e, cpl_cpl]
def ascB (L : List Int) : Bool := (List.range (L.length - 1)).all fun i => decide (nth L i ≤ nth L (i + 1))
theorem ascB_iff {L : List Int} : ascB L = true ↔ ∀ i, i + 1 < L.length → nth L i ≤ nth L (i + 1) := by
  unfold ascB
  rw [List.all_eq_true]
  constructor
  · intro h i hi
    exact of_decide_eq_true (h i (List.mem_range.mpr (by omega)))
  · intro h i hi
    have := List.mem_range.mp hi
    exact decide_eq_true (h i (by omega))
theorem step_asc {n : Nat} {v : List Int} (h : isW n v) (hn : 1 ≤ n) : stepB (cpl v) = ascB v := by
  have hl := h.1
  have e1 : ∀ i, i < v.length → nth (cpl v) i = 1 - nth v i := fun i hi => nth_map hi
  have b0 := h.2 _ (nth_mem (ns := v) (i := 0) (by omega))
  have b1 := h.2 _ (nth_mem (ns := v) (i := v.length - 1) (by omega))
  have e2 : decide (nth (cpl v) 0 - nth (cpl v) ((cpl v).length - 1) ≤ 1) = true := by
    rw [cpl_len, e1 0 (by omega), e1 (v.length - 1) (by omega)]
    exact decide_eq_true (by omega)
  unfold stepB
  rw [e2, Bool.and_true, Bool.eq_iff_iff, descB_iff, ascB_iff, cpl_len]
  constructor
  · intro q i hi
    have := q i hi
    rw [e1 _ hi, e1 _ (by omega)] at this
    omega
  · intro q i hi
    have := q i hi
    rw [e1 _ hi, e1 _ (by omega)]
    omega
/-- a net sorts, told by words -/
def sortsB (n : Nat) (ps : List Pair) : Bool := (allW n).all fun w => ascB (ledR ps w)
theorem sorts_steps {n : Nat} {ps : List Pair} (hn : 1 ≤ n) (o : okN n ps) : ((allW n).all fun w => stepB (ledA ps w)) = sortsB n ps := by
  unfold sortsB
  have key : ∀ w, isW n w → stepB (ledA ps w) = ascB (ledR ps (cpl w)) := fun w h => by
    rw [led_cpl ps h o, step_asc (ledR_isW ps (cpl_isW h) o) hn]
  rw [Bool.eq_iff_iff, List.all_eq_true, List.all_eq_true]
  constructor
  · intro q w hw
    have h := (mem_allW n w).mp hw
    have := q (cpl w) ((mem_allW n _).mpr (cpl_isW h))
    rwa [key _ (cpl_isW h), cpl_cpl] at this
  · intro q w hw
    have h := (mem_allW n w).mp hw
    rw [key w h]
    exact q (cpl w) ((mem_allW n _).mpr (cpl_isW h))
/-! ### shares -/
def alone (n line : Nat) (many : Int) : List Int := (List.range n).map fun k => if k = line then many else 0
theorem alone_len (n line : Nat) (many : Int) : (alone n line many).length = n := by unfold alone; rw [List.length_map, List.length_range]
theorem sum_all {x : Int} : ∀ (L : List Int), (∀ y ∈ L, y = x) → L.sum = L.length * x
  | [], _ => by simp
  | y :: L, h => by
    rw [List.sum_cons, sum_all L fun z hz => h z (List.mem_cons_of_mem _ hz), h y (List.mem_cons_self ..), List.length_cons]
    rw [Int.natCast_add, Int.add_mul]; omega
theorem sum_single : ∀ (n line : Nat) (many : Int), line < n → (alone n line many).sum = many
  | 0, line, many, h => by omega
  | n + 1, line, many, h => by
    unfold alone
    rw [List.range_succ, List.map_append, List.sum_append]
    by_cases e : line = n
    · subst e
      have : ((List.range line).map fun k => if k = line then many else 0).sum = 0 := by
        rw [sum_all (x := 0)]
        · simp
        · intro y hy
          obtain ⟨k, hk, rfl⟩ := List.mem_map.mp hy
          rw [if_neg (by have := List.mem_range.mp hk; omega)]
      rw [this]; simp
    · have := sum_single n line many (by omega)
      unfold alone at this
      rw [this]
      simp [show ¬ n = line from fun q => e q.symm]
theorem uneven {n : Nat} {ps : List Pair} {line far : Nat} (hn : n = 3 ∨ n = 5 ∨ n = 6) (o : okN n ps) (hl : line < n) : mnI (ledA ps (alone n line (2 ^ far))) < mxI (ledA ps (alone n line (2 ^ far))) := by
  generalize hL : ledA ps (alone n line (2 ^ far)) = L
  have len : L.length = n := by rw [← hL, ledA_len, alone_len]
  have hs : L.sum = 2 ^ far := by
    rw [← hL, ledA_sum ps _ (by rw [alone_len]; exact o), sum_single n line _ hl]
  have hne : L ≠ [] := fun e => by rw [e] at len; simp at len; omega
  by_cases c : mnI L < mxI L
  · exact c
  · exfalso
    have hall : ∀ y ∈ L, y = mnI L := fun y hy => by
      have h1 := mnI_le y hy
      have h2 := mxI_le y hy
      omega
    have e := sum_all L hall
    rw [hs, len] at e
    -- 2 ^ far = n * x
    have hx : ∃ q : Nat, (q = 3 ∨ q = 5) ∧ (q : Int) ∣ 2 ^ far := by
      rcases hn with rfl | rfl | rfl
      · exact ⟨3, .inl rfl, ⟨_, e⟩⟩
      · exact ⟨5, .inr rfl, ⟨_, e⟩⟩
      · refine ⟨3, .inl rfl, ⟨2 * mnI L, ?_⟩⟩
        rw [e, ← Int.mul_assoc]; rfl
    obtain ⟨q, hq, hd⟩ := hx
    have hd' : q ∣ 2 ^ far := by
      have : (q : Int) ∣ ((2 ^ far : Nat) : Int) := by rw [Int.natCast_pow]; exact hd
      exact Int.natCast_dvd_natCast.mp this
    have hq1 : Nat.Coprime q 2 := by rcases hq with rfl | rfl <;> decide
    have := Nat.Coprime.pow_right far hq1
    have h1 : q ∣ 1 := by
      have := Nat.Coprime.dvd_of_dvd_mul_right (k := q) (m := 1) (n := 2 ^ far) this (by rw [Nat.one_mul]; exact hd')
      exact this
    rcases hq with rfl | rfl <;> revert h1 <;> decide
end Bal
namespace Bal
open PySem NV
/-! ### ways -/
def stepW (L : List Int) (p : Pair) : List Int := (L.set p.1 (max (nth L p.1) (nth L p.2) + 1)).set p.2 (max (nth L p.1) (nth L p.2) + 1)
def ledW (ps : List Pair) (L : List Int) : List Int := ps.foldl stepW L
theorem stepW_len (L : List Int) (p : Pair) : (stepW L p).length = L.length := by unfold stepW; rw [List.length_set, List.length_set]
theorem ledW_len : ∀ (ps : List Pair) (L : List Int), (ledW ps L).length = L.length
  | [], L => rfl
  | p :: ps, L => by
    show (ledW ps (stepW L p)).length = _
    rw [ledW_len ps, stepW_len]
theorem ledW_take {ps : List Pair} {L : List Int} {i : Nat} {p : Pair} (h : ps[i]? = some p) : ledW (ps.take (i + 1)) L = stepW (ledW (ps.take i) L) p := by
  unfold ledW
  rw [List.take_add_one, h, List.foldl_append]; rfl
theorem ledW_bd {b : Int} (hb : 0 ≤ b) : ∀ (ps : List Pair) (L : List Int), okN L.length ps → (∀ x ∈ L, 0 ≤ x ∧ x ≤ b) → ∀ x ∈ ledW ps L, 0 ≤ x ∧ x ≤ b + ps.length
  | [], L, _, hL => fun x hx => by have := hL x hx; simp; omega
  | p :: ps, L, h, hL => by
    have hp := h p (List.mem_cons_self ..)
    have b1 := hL _ (nth_mem (ns := L) (i := p.1) (by omega))
    have b2 := hL _ (nth_mem (ns := L) (i := p.2) hp.2)
    intro x hx
    have := ledW_bd (b := b + 1) (by omega) ps (stepW L p) (by rw [stepW_len]; exact fun q hq => h q (List.mem_cons_of_mem _ hq)) (fun x hx => by
      unfold stepW at hx
      rcases List.mem_or_eq_of_mem_set hx with q | rfl
      · rcases List.mem_or_eq_of_mem_set q with q | rfl
        · have := hL x q; omega
        · omega
      · omega) x hx
    rw [List.length_cons]
    omega
/-- the longest way -/
def way (n : Nat) (ps : List Pair) : Nat := (mxI (ledW ps (List.replicate n 0))).toNat
theorem way_is {n : Nat} {ps : List Pair} (hn : 1 ≤ n) (o : okN n ps) : mxI (ledW ps (List.replicate n 0)) = (way n ps : Int) ∧ way n ps ≤ ps.length := by
  have hne : ledW ps (List.replicate n 0) ≠ [] := fun e => by
    have := ledW_len ps (List.replicate n 0)
    rw [e, List.length_replicate] at this
    simp at this; omega
  have := ledW_bd (b := 0) (Int.le_refl _) ps (List.replicate n 0) (by rw [List.length_replicate]; exact o) (fun x hx => by
    have := (List.mem_replicate.mp hx).2
    omega) _ (mxI_mem hne)
  unfold way
  omega
end Bal
set_option Elab.async false
set_option linter.all false
set_option maxRecDepth 100000
set_option maxHeartbeats 4000000
/-! Bal2: when a net counts -/
namespace Bal
open PySem NV
/-- no amount is halved unevenly on the way -/
def exact' : List Pair → List Int → Prop
  | [], _ => True
  | p :: ps, L => (nth L p.1 + nth L p.2) % 2 = 0 ∧ exact' ps (stepA L p)
theorem led_add {n : Nat} : ∀ (ps : List Pair) {M L S : List Int}, okN n ps → M.length = n → L.length = n → S.length = n → exact' ps L → (∀ i, i < n → nth S i = nth M i + nth L i) →
    ∀ i, i < n → nth (ledA ps S) i = nth (ledA ps M) i + nth (ledA ps L) i
  | [], M, L, S, _, _, _, _, _, h => h
  | p :: ps, M, L, S, o, hM, hL, hS, he, h => by
    have hp := o p (List.mem_cons_self ..)
    refine led_add ps (M := stepA M p) (L := stepA L p) (S := stepA S p) (fun q hq => o q (List.mem_cons_of_mem _ hq)) (by rw [stepA_len, hM]) (by rw [stepA_len, hL]) (by rw [stepA_len, hS]) he.2 fun i hi => ?_
    rw [stepA_nth hp.1 (by omega), stepA_nth hp.1 (by omega), stepA_nth hp.1 (by omega), h p.1 (by omega), h p.2 (by omega), h i hi]
    have := he.1
    by_cases e1 : i = p.2
    · rw [if_pos e1, if_pos e1, if_pos e1]; omega
    · rw [if_neg e1, if_neg e1, if_neg e1]
      by_cases e2 : i = p.1
      · rw [if_pos e2, if_pos e2, if_pos e2]; omega
      · rw [if_neg e2, if_neg e2, if_neg e2]
theorem stepW_nth {L : List Int} {p : Pair} (h1 : p.1 < p.2) (h2 : p.2 < L.length) (i : Nat) : nth (stepW L p) i = if i = p.2 ∨ i = p.1 then max (nth L p.1) (nth L p.2) + 1 else nth L i := by
  unfold stepW
  rw [nth_set (by rw [List.length_set]; exact h2), nth_set (by omega)]
  by_cases e1 : i = p.2
  · rw [if_pos e1, if_pos (.inl e1)]
  · rw [if_neg e1]
    by_cases e2 : i = p.1
    · rw [if_pos e2, if_pos (.inr e2)]
    · rw [if_neg e2, if_neg (by rintro (q | q); exact e1 q; exact e2 q)]
theorem ledW_ge {n : Nat} : ∀ (ps : List Pair) {w : List Int}, okN n ps → w.length = n → ∀ i, i < n → nth w i ≤ nth (ledW ps w) i
  | [], w, _, _, i, _ => Int.le_refl _
  | p :: ps, w, o, hw, i, hi => by
    have hp := o p (List.mem_cons_self ..)
    have := ledW_ge ps (w := stepW w p) (fun q hq => o q (List.mem_cons_of_mem _ hq)) (by rw [stepW_len, hw]) i hi
    rw [stepW_nth hp.1 (by omega)] at this
    show nth w i ≤ nth (ledW ps (stepW w p)) i
    split at this
    · rename_i h
      rcases h with rfl | rfl <;> omega
    · exact this
theorem pow_dvd2 {a b : Nat} (h : a ≤ b) : (2 ^ a : Int) ∣ 2 ^ b := ⟨2 ^ (b - a), by rw [← Int.pow_add, show a + (b - a) = b from by omega]⟩
theorem pow_half {F m : Nat} {s : Int} (hm : m + 1 ≤ F) (h : (2 ^ (F - m) : Int) ∣ s) : s % 2 = 0 ∧ (2 ^ (F - (m + 1)) : Int) ∣ s / 2 ∧ (2 ^ (F - (m + 1)) : Int) ∣ s - s / 2 := by
  obtain ⟨t, rfl⟩ := h
  have e : (2 ^ (F - m) : Int) = 2 * 2 ^ (F - (m + 1)) := by
    rw [show F - m = (F - (m + 1)) + 1 from by omega, Int.pow_succ, Int.mul_comm]
  rw [e, Int.mul_assoc]
  have e2 : (2 * (2 ^ (F - (m + 1)) * t)) / 2 = 2 ^ (F - (m + 1)) * t := by
    rw [Int.mul_ediv_cancel_left _ (by decide)]
  refine ⟨Int.mul_emod_right _ _, ?_, ?_⟩
  · rw [e2]; exact ⟨t, rfl⟩
  · rw [e2]; exact ⟨t, by omega⟩
theorem exact_of {n F : Nat} : ∀ (ps : List Pair) {w L : List Int}, okN n ps → w.length = n → L.length = n → (∀ i, i < n → ∃ m : Nat, nth w i = m ∧ (2 ^ (F - m) : Int) ∣ nth L i) → (∀ i, i < n → nth (ledW ps w) i ≤ F) → exact' ps L
  | [], w, L, _, _, _, _, _ => trivial
  | p :: ps, w, L, o, hw, hL, h, hF => by
    have hp := o p (List.mem_cons_self ..)
    have o' : okN n ps := fun q hq => o q (List.mem_cons_of_mem _ hq)
    obtain ⟨a, ea, da⟩ := h p.1 (by omega)
    obtain ⟨b, eb, db⟩ := h p.2 (by omega)
    have hle := ledW_ge ps (w := stepW w p) o' (by rw [stepW_len, hw]) p.2 (by omega)
    have hF2 : nth (ledW ps (stepW w p)) p.2 ≤ F := hF p.2 (by omega)
    rw [stepW_nth hp.1 (by omega), if_pos (.inl rfl), ea, eb] at hle
    have hm : max a b + 1 ≤ F := by omega
    have hs : (2 ^ (F - max a b) : Int) ∣ nth L p.1 + nth L p.2 := by
      refine Int.dvd_add (Int.dvd_trans ?_ da) (Int.dvd_trans ?_ db)
      · exact pow_dvd2 (by omega)
      · exact pow_dvd2 (by omega)
    obtain ⟨h1, h2, h3⟩ := pow_half hm hs
    refine ⟨h1, exact_of (F := F) ps (w := stepW w p) (L := stepA L p) o' (by rw [stepW_len, hw]) (by rw [stepA_len, hL]) (fun i hi => ?_) hF⟩
    rw [stepW_nth hp.1 (by omega), stepA_nth hp.1 (by omega)]
    by_cases e1 : i = p.2
    · rw [if_pos (.inl e1), if_pos e1, ea, eb]
      exact ⟨max a b + 1, by omega, h2⟩
    · rw [if_neg e1]
      by_cases e2 : i = p.1
      · rw [if_pos (.inr e2), if_pos e2, ea, eb]
        exact ⟨max a b + 1, by omega, h3⟩
      · rw [if_neg (by rintro (q | q); exact e1 q; exact e2 q), if_neg e2]
        exact h i hi
/-- rows of multiples of 2 ^ way are led exactly -/
theorem exact_many {n : Nat} {ps : List Pair} {L : List Int} (hn : 1 ≤ n) (o : okN n ps) (hL : L.length = n) (h : ∀ i, i < n → (2 ^ way n ps : Int) ∣ nth L i) : exact' ps L := by
  refine exact_of (F := way n ps) ps (w := List.replicate n 0) o (List.length_replicate ..) hL (fun i hi => ⟨0, ?_, by simpa using h i hi⟩) fun i hi => ?_
  · have := nth_lt (L := List.replicate n (0 : Int)) (i := i) (by rw [List.length_replicate]; exact hi)
    rw [← this, List.getElem_replicate]; rfl
  · rw [← (way_is hn o).1]
    refine mxI_le _ ?_
    exact nth_mem (by rw [ledW_len, List.length_replicate]; exact hi)
theorem alone_nth {n line : Nat} {m : Int} {i : Nat} (hi : i < n) : nth (alone n line m) i = if i = line then m else 0 := by
  have := nth_lt (L := alone n line m) (i := i) (by rw [alone_len]; exact hi)
  rw [← this]
  unfold alone
  rw [List.getElem_map, List.getElem_range]
/-! ### rows alike -/
def cst (n : Nat) (L : List Int) : Prop := ∀ i, i < n → nth L i = nth L 0
theorem step_add {n : Nat} {M S : List Int} {c : Int} (hn : 1 ≤ n) (hM : M.length = n) (hS : S.length = n) (h : ∀ i, i < n → nth S i = nth M i + c) : stepB S = stepB M := by
  unfold stepB
  have e1 : descB S = descB M := by
    rw [Bool.eq_iff_iff, descB_iff, descB_iff, hM, hS]
    constructor
    · intro q i hi
      have := q i hi
      rw [h _ hi, h _ (by omega)] at this; omega
    · intro q i hi
      have := q i hi
      rw [h _ hi, h _ (by omega)]; omega
  rw [e1, hS, hM, h 0 (by omega), h (n - 1) (by omega)]
  congr 2
  rw [show nth M 0 + c - (nth M (n - 1) + c) = nth M 0 - nth M (n - 1) from by omega]
def share (n : Nat) (ps : List Pair) (line : Nat) : List Int := ledA ps (alone n line (2 ^ way n ps))
theorem share_len {n : Nat} {ps : List Pair} {line : Nat} : (share n ps line).length = n := by unfold share; rw [ledA_len, alone_len]
theorem alone_cst {n : Nat} {ps : List Pair} {line : Nat} (hn : 1 ≤ n) (o : okN n ps) (hc : cst n (share n ps line)) : ∀ q : Nat, cst n (ledA ps (alone n line (2 ^ way n ps * (q : Int))))
  | 0 => by
    have ex := exact_many (L := alone n line (2 ^ way n ps * ((0 : Nat) : Int))) hn o (alone_len ..) fun i hi => by rw [alone_nth hi]; simp
    have key := led_add ps (M := alone n line (2 ^ way n ps * ((0 : Nat) : Int))) (L := alone n line (2 ^ way n ps * ((0 : Nat) : Int))) (S := alone n line (2 ^ way n ps * ((0 : Nat) : Int))) o (alone_len ..) (alone_len ..) (alone_len ..) ex (fun i hi => by rw [alone_nth hi]; simp)
    intro i hi
    have k1 := key i hi
    have k2 := key 0 (by omega)
    omega
  | q + 1 => by
    have ih := alone_cst hn o hc q
    have ex := exact_many (L := alone n line (2 ^ way n ps)) hn o (alone_len ..) fun i hi => by
      rw [alone_nth hi]
      split
      · exact Int.dvd_refl _
      · exact Int.dvd_zero _
    have key := led_add ps (M := alone n line (2 ^ way n ps * (q : Int))) (L := alone n line (2 ^ way n ps)) (S := alone n line (2 ^ way n ps * ((q + 1 : Nat) : Int))) o (alone_len ..) (alone_len ..) (alone_len ..) ex (fun i hi => by
      rw [alone_nth hi, alone_nth hi, alone_nth hi]
      split
      · rw [Int.natCast_add, Int.mul_add]; simp
      · rfl)
    intro i hi
    have k1 := key i hi
    have k2 := key 0 (by omega)
    have c1 := ih i hi
    have c2 : nth (ledA ps (alone n line (2 ^ way n ps))) i = nth (ledA ps (alone n line (2 ^ way n ps))) 0 := hc i hi
    omega
/-- the first k members of a row of multiples -/
def firstK (n k : Nat) (q : Nat → Nat) (m : Int) : List Int := (List.range n).map fun i => if i < k then m * (q i : Int) else 0
theorem firstK_len {n k : Nat} {q : Nat → Nat} {m : Int} : (firstK n k q m).length = n := by unfold firstK; rw [List.length_map, List.length_range]
theorem firstK_nth {n k : Nat} {q : Nat → Nat} {m : Int} {i : Nat} (hi : i < n) : nth (firstK n k q m) i = if i < k then m * (q i : Int) else 0 := by
  have := nth_lt (L := firstK n k q m) (i := i) (by rw [firstK_len]; exact hi)
  rw [← this]
  unfold firstK
  rw [List.getElem_map, List.getElem_range]
theorem many_cst {n : Nat} {ps : List Pair} (hn : 1 ≤ n) (o : okN n ps) (hc : ∀ line, line < n → cst n (share n ps line)) (q : Nat → Nat) : ∀ k : Nat, k ≤ n → cst n (ledA ps (firstK n k q (2 ^ way n ps)))
  | 0, _ => by
    have hz : ∀ i, i < n → nth (firstK n 0 q (2 ^ way n ps)) i = 0 := fun i hi => by rw [firstK_nth hi]; simp
    have ex := exact_many (L := firstK n 0 q (2 ^ way n ps)) hn o firstK_len fun i hi => by rw [hz i hi]; exact Int.dvd_zero _
    have key := led_add ps (M := firstK n 0 q (2 ^ way n ps)) (L := firstK n 0 q (2 ^ way n ps)) (S := firstK n 0 q (2 ^ way n ps)) o firstK_len firstK_len firstK_len ex (fun i hi => by rw [hz i hi]; rfl)
    intro i hi
    have k1 := key i hi
    have k2 := key 0 (by omega)
    omega
  | k + 1, hk => by
    have ih := many_cst hn o hc q k (by omega)
    have al := alone_cst hn o (hc k (by omega)) (q k)
    have ex := exact_many (L := alone n k (2 ^ way n ps * (q k : Int))) hn o (alone_len ..) fun i hi => by
      rw [alone_nth hi]
      split
      · exact ⟨_, rfl⟩
      · exact Int.dvd_zero _
    have key := led_add ps (M := firstK n k q (2 ^ way n ps)) (L := alone n k (2 ^ way n ps * (q k : Int))) (S := firstK n (k + 1) q (2 ^ way n ps)) o firstK_len (alone_len ..) firstK_len ex (fun i hi => by
      rw [firstK_nth hi, firstK_nth hi, alone_nth hi]
      by_cases e : i = k
      · subst e; simp
      · by_cases e2 : i < k
        · rw [if_pos (show i < k + 1 by omega), if_pos e2, if_neg e]; simp
        · rw [if_neg (show ¬ i < k + 1 by omega), if_neg e2, if_neg e]; rfl)
    intro i hi
    have k1 := key i hi
    have k2 := key 0 (by omega)
    have c1 := ih i hi
    have c2 := al i hi
    omega
/-- a net counts if it does so below 2 ^ way and its shares are even -/
theorem count_all {n : Nat} {ps : List Pair} (hn : 1 ≤ n) (o : okN n ps) (hc : ∀ line, line < n → cst n (share n ps line)) (hr : ∀ r : List Int, r.length = n → (∀ x ∈ r, 0 ≤ x ∧ x < 2 ^ way n ps) → stepB (ledA ps r) = true)
    {L : List Int} (hL : L.length = n) (h0 : ∀ x ∈ L, 0 ≤ x) : stepB (ledA ps L) = true := by
  have hpos : (0 : Int) < 2 ^ way n ps := Int.pow_pos (by decide)
  have hlen : (L.map fun x => x % 2 ^ way n ps).length = n := by rw [List.length_map, hL]
  have ex := exact_many (L := firstK n n (fun i => (nth L i / 2 ^ way n ps).toNat) (2 ^ way n ps)) hn o firstK_len fun i hi => by
    rw [firstK_nth hi, if_pos hi]; exact ⟨_, rfl⟩
  have key := led_add ps (M := L.map fun x => x % 2 ^ way n ps) (L := firstK n n (fun i => (nth L i / 2 ^ way n ps).toNat) (2 ^ way n ps)) (S := L) o hlen firstK_len hL ex (fun i hi => by
    rw [firstK_nth hi, if_pos hi, nth_map (by omega)]
    have hx := h0 _ (nth_mem (ns := L) (i := i) (by omega))
    have hd : 0 ≤ nth L i / 2 ^ way n ps := Int.ediv_nonneg hx (by omega)
    have e := Int.emod_add_mul_ediv (nth L i) (2 ^ way n ps)
    rw [show (((nth L i / 2 ^ way n ps).toNat : Nat) : Int) = nth L i / 2 ^ way n ps from by omega]
    omega)
  have mc := many_cst hn o hc (fun i => (nth L i / 2 ^ way n ps).toNat) n (Nat.le_refl _)
  have h1 := hr (L.map fun x => x % 2 ^ way n ps) hlen (fun x hx => by
    obtain ⟨y, hy, rfl⟩ := List.mem_map.mp hx
    exact ⟨Int.emod_nonneg _ (by omega), Int.emod_lt_of_pos _ hpos⟩)
  rw [step_add (M := ledA ps (L.map fun x => x % 2 ^ way n ps)) (c := nth (ledA ps (firstK n n (fun i => (nth L i / 2 ^ way n ps).toNat) (2 ^ way n ps))) 0) hn (by rw [ledA_len, hlen]) (by rw [ledA_len, hL]) fun i hi => by rw [key i hi, mc i hi]]
  exact h1
theorem desc_le {L : List Int} (h : descB L = true) : ∀ (d i : Nat), i + d < L.length → nth L (i + d) ≤ nth L i
  | 0, i, _ => Int.le_refl _
  | d + 1, i, hi => by
    have h1 := desc_le h d i (by omega)
    have h2 := (descB_iff.mp h) (i + d) (by omega)
    rw [show i + (d + 1) = i + d + 1 from rfl]; omega
/-- in a step no two differ by two -/
theorem step_near {L : List Int} (h : stepB L = true) {i j : Nat} (hi : i < L.length) (hj : j < L.length) : nth L i ≤ nth L j + 1 := by
  unfold stepB at h
  rw [Bool.and_eq_true] at h
  have h2 := of_decide_eq_true h.2
  have a1 := desc_le h.1 i 0 (by omega)
  have a2 := desc_le h.1 (L.length - 1 - j) j (by omega)
  rw [show j + (L.length - 1 - j) = L.length - 1 from by omega] at a2
  rw [Nat.zero_add] at a1
  omega
/-- a line with uneven shares: twice as many on it are led to no step -/
theorem uneven_twice {n : Nat} {ps : List Pair} {line : Nat} (hn : 1 ≤ n) (o : okN n ps) (hu : mnI (share n ps line) < mxI (share n ps line)) : stepB (ledA ps (alone n line (2 * 2 ^ way n ps))) = false := by
  have ex := exact_many (L := alone n line (2 ^ way n ps)) hn o (alone_len ..) fun i hi => by
    rw [alone_nth hi]
    split
    · exact Int.dvd_refl _
    · exact Int.dvd_zero _
  have key := led_add ps (M := alone n line (2 ^ way n ps)) (L := alone n line (2 ^ way n ps)) (S := alone n line (2 * 2 ^ way n ps)) o (alone_len ..) (alone_len ..) (alone_len ..) ex (fun i hi => by
    rw [alone_nth hi, alone_nth hi]
    split <;> omega)
  have hne : share n ps line ≠ [] := fun e => by
    have := share_len (n := n) (ps := ps) (line := line)
    rw [e] at this; simp at this; omega
  obtain ⟨i, hi, e1⟩ := List.getElem_of_mem (mxI_mem hne)
  obtain ⟨j, hj, e2⟩ := List.getElem_of_mem (mnI_mem hne)
  rw [nth_lt hi] at e1
  rw [nth_lt hj] at e2
  rw [share_len] at hi hj
  cases hs : stepB (ledA ps (alone n line (2 * 2 ^ way n ps))) with
  | false => rfl
  | true =>
    exfalso
    have := step_near hs (i := i) (j := j) (by rw [ledA_len, alone_len]; exact hi) (by rw [ledA_len, alone_len]; exact hj)
    rw [key i hi, key j hj] at this
    have f1 : nth (ledA ps (alone n line (2 ^ way n ps))) i = mxI (share n ps line) := e1
    have f2 : nth (ledA ps (alone n line (2 ^ way n ps))) j = mnI (share n ps line) := e2
    omega
theorem even_cst {n : Nat} {ps : List Pair} {line : Nat} (hn : 1 ≤ n) (h : ¬ mnI (share n ps line) < mxI (share n ps line)) : cst n (share n ps line) := fun i hi => by
  have a1 := mnI_le _ (nth_mem (ns := share n ps line) (i := i) (by rw [share_len]; exact hi))
  have a2 := mxI_le _ (nth_mem (ns := share n ps line) (i := i) (by rw [share_len]; exact hi))
  have b1 := mnI_le _ (nth_mem (ns := share n ps line) (i := 0) (by rw [share_len]; omega))
  have b2 := mxI_le _ (nth_mem (ns := share n ps line) (i := 0) (by rw [share_len]; omega))
  omega
/-! ### all rows below -/
def rowsB (many : Nat) : Nat → List (List Int)
  | 0 => [[]]
  | n + 1 => (rowsB many n).flatMap fun r => (List.range many).map fun (x : Nat) => r ++ [(x : Int)]
theorem mem_rowsB {many : Nat} : ∀ (n : Nat) (r : List Int), r ∈ rowsB many n ↔ r.length = n ∧ ∀ x ∈ r, 0 ≤ x ∧ x < many
  | 0, r => by
    unfold rowsB
    rw [List.mem_singleton]
    constructor
    · rintro rfl; exact ⟨rfl, fun x h => nomatch h⟩
    · rintro ⟨h, _⟩; exact List.eq_nil_of_length_eq_zero h
  | n + 1, r => by
    unfold rowsB
    rw [List.mem_flatMap]
    constructor
    · rintro ⟨v, hv, hw⟩
      obtain ⟨h1, h2⟩ := (mem_rowsB n v).mp hv
      obtain ⟨x, hx, rfl⟩ := List.mem_map.mp hw
      have := List.mem_range.mp hx
      refine ⟨by simp [h1], fun y hy => ?_⟩
      rcases List.mem_append.mp hy with q | q
      · exact h2 y q
      · simp at q; omega
    · rintro ⟨h1, h2⟩
      have hne : r ≠ [] := fun e => by rw [e] at h1; simp at h1
      refine ⟨r.dropLast, (mem_rowsB n _).mpr ⟨by rw [List.length_dropLast, h1]; rfl, fun x hx => h2 x (List.dropLast_subset r hx)⟩, ?_⟩
      have hl := h2 _ (List.getLast_mem hne)
      refine List.mem_map.mpr ⟨(r.getLast hne).toNat, List.mem_range.mpr (by omega), ?_⟩
      rw [show (((r.getLast hne).toNat : Nat) : Int) = r.getLast hne from by omega]
      exact List.dropLast_concat_getLast hne
theorem rowsB_len (many : Nat) : ∀ n : Nat, (rowsB many n).length = many ^ n
  | 0 => rfl
  | n + 1 => by
    unfold rowsB
    have : ∀ l : List (List Int), (l.flatMap fun r => (List.range many).map fun (x : Nat) => r ++ [(x : Int)]).length = l.length * many := by
      intro l
      induction l with
      | nil => simp
      | cons x l ih => rw [List.flatMap_cons, List.length_append, ih]; simp [Nat.add_mul]; omega
    rw [this, rowsB_len many n, Nat.pow_succ]
end Bal
set_option Elab.async false
set_option linter.all false
set_option maxRecDepth 100000
set_option maxHeartbeats 4000000
namespace K83
open PySem PySem.Spec PyProof.Rows L2 NV Bal
def Sled (G : GF) : Prop := ∀ (n : Nat) (ps : List Pair) (L : List Int), okN n ps → L.length = n → G [netD n ps, .tuple (pI L)] = some (.dat (.tuple (pI (ledA ps L))))
theorem led_ok : Sled (GP Bled_amounts 0 2) := fun n ps L o hl => by
  refine GP_of 4 rfl ?_
  unfold Bled_amounts
  refine ex_nx fun K hK => ?_
  simp
  refine hK _ ?_
  clear hK K
  refine ex_cons (ex_for (ds := ps.map pairP) (st1 := stL [.val (netD n ps), .val (.tuple (pI L)), .own (pI L), .emp, .emp, .emp] none) (fun i s => s = stL [.emp, .emp, .own (pI (ledA (ps.take i) L)), .emp, .emp, .emp] none) (by simp [netD]) (by simp [ledA]) ?_ ?_)
  · rintro i d s hd rfl
    rw [List.getElem?_map] at hd
    obtain ⟨p, hp, rfl⟩ := map_some2 hd
    have ho := o p (List.mem_of_getElem? hp)
    refine ⟨_, (by simp [pairP] <;> rfl), ?_⟩
    unfold Yled_amounts_1
    rw [shut_eq, ledA_take hp]
    have hL : (ledA (ps.take i) L).length = n := by rw [ledA_len, hl]
    generalize ledA (ps.take i) L = M at hL ⊢
    have e1 := pI_at (ns := M) (i := p.1) (by omega)
    have e2 := pI_at (ns := M) (i := p.2) (by omega)
    refine ex_nx fun K hK => ?_
    simp [e1, e2]
    refine hK _ ?_
    clear hK K
    have f1 := fdivD_z (a := nth M p.1 + nth M p.2) (b := 2) (by decide) (by decide)
    have x1 := ixN_nat M.length p.1 (by omega)
    have x2 := ixN_nat M.length p.2 (by omega)
    refine ex_nx fun K hK => ?_
    simp [f1, x1]
    refine hK _ ?_
    clear hK K
    refine ex_nx fun K hK => ?_
    simp [f1, x2]
    refine hK _ (ex_nil ?_)
    simp [stepA, List.map_set]
  · intro s hs
    rw [List.length_map, List.take_length] at hs
    refine ex_keep ?_
    rw [hs]
    refine ex_fin fun K hK => ?_
    simp
    exact hK _ _ rfl
theorem lled_ok : Sled (GP B_law_led 0 2) := fun n ps L o hl => by
  refine GP_of 4 rfl ?_
  unfold B_law_led
  refine ex_nx fun K hK => ?_
  simp
  refine hK _ ?_
  clear hK K
  refine ex_cons (ex_for (ds := ps.map pairP) (st1 := stL [.val (netD n ps), .val (.tuple (pI L)), .own (pI L), .emp, .emp, .emp] none) (fun i s => s = stL [.emp, .emp, .own (pI (ledA (ps.take i) L)), .emp, .emp, .emp] none) (by simp [netD]) (by simp [ledA]) ?_ ?_)
  · rintro i d s hd rfl
    rw [List.getElem?_map] at hd
    obtain ⟨p, hp, rfl⟩ := map_some2 hd
    have ho := o p (List.mem_of_getElem? hp)
    refine ⟨_, (by simp [pairP] <;> rfl), ?_⟩
    unfold Y_law_led_1
    rw [shut_eq, ledA_take hp]
    have hL : (ledA (ps.take i) L).length = n := by rw [ledA_len, hl]
    generalize ledA (ps.take i) L = M at hL ⊢
    have e1 := pI_at (ns := M) (i := p.1) (by omega)
    have e2 := pI_at (ns := M) (i := p.2) (by omega)
    refine ex_nx fun K hK => ?_
    simp [e1, e2]
    refine hK _ ?_
    clear hK K
    have f1 := fdivD_z (a := nth M p.1 + nth M p.2) (b := 2) (by decide) (by decide)
    have x1 := ixN_nat M.length p.1 (by omega)
    have x2 := ixN_nat M.length p.2 (by omega)
    refine ex_nx fun K hK => ?_
    simp [f1, x1]
    refine hK _ ?_
    clear hK K
    refine ex_nx fun K hK => ?_
    simp [f1, x2]
    refine hK _ (ex_nil ?_)
    simp [stepA, List.map_set]
  · intro s hs
    rw [List.length_map, List.take_length] at hs
    refine ex_keep ?_
    rw [hs]
    refine ex_fin fun K hK => ?_
    simp
    exact hK _ _ rfl
/-! is_step -/
def Sstep (G : GF) : Prop := ∀ (L : List Int), 0 < L.length → L.length ≤ 1000 → G [.tuple (pI L)] = some (.dat (.bool (stepB L)))
theorem step_ok : Sstep (GP Bis_step 0 1) := fun L h0 h1 => by
  refine GP_of 2 rfl ?_
  unfold Bis_step
  have key : Cis_step_1 (stL [.val (.tuple (pI L)), .emp, .emp] none) = some (.fre ((List.range (L.length - 1)).map fun i => .bool (decide (nth L (i + 1) ≤ nth L i))), stL [.val (.tuple (pI L)), .emp, .emp] none) := by
    unfold Cis_step_1
    rw [shut_eq]
    refine comp_map (List.range (L.length - 1)) (fun i => .int (1 + (i : Nat))) (fun i => .bool (decide (nth L (i + 1) ≤ nth L i))) (st1 := stL [.val (.tuple (pI L)), .emp, .emp] none) ?_ (by simp) (fun i hi => ?_) (by rw [List.length_range]; exact z1000 (by omega))
    · rw [iRg2_int (i := 1) (j := L.length) (st1 := stL [.val (.tuple (pI L)), .emp, .emp] none) (st2 := stL [.val (.tuple (pI L)), .emp, .emp] none) (by simp) (by simp) (by decide) (by decide) (by omega) (by omega), show ((L.length : Int) - 1).toNat = L.length - 1 from by omega]
      rfl
    · have hi' := List.mem_range.mp hi
      have e1 := pI_at (ns := L) (i := i) (by omega)
      have e2 := pI_at (ns := L) (i := i + 1) (by omega)
      rw [show (((i + 1 : Nat) : Int)) = 1 + (i : Int) from by omega] at e2
      have e3 : (1 + (i : Int) - 1) = i := by omega
      simp [e1, e2, e3]
  have ha := allD_map (List.range (L.length - 1)) (fun i => decide (nth L (i + 1) ≤ nth L i))
  refine ex_nx fun K hK => ?_
  simp [key, ha]
  refine hK _ ?_
  clear hK K
  have hd : ((List.range (L.length - 1)).all fun i => decide (nth L (i + 1) ≤ nth L i)) = descB L := rfl
  rw [hd]
  cases hc : descB L with
  | false =>
    refine ex_cons ?_
    refine ex_fin fun K hK => ?_
    simp
    refine hK _ _ ?_
    simp [stepB, hc]
  | true =>
    refine ex_nx fun K hK => ?_
    simp
    refine hK _ ?_
    clear hK K
    have e0 := pI_get (ns := L) (i := 0) h0
    have e1 := last_at (xs := pI L) (by simpa using h0)
    rw [List.length_map, pI_get (by omega)] at e1
    refine ex_fin fun K hK => ?_
    simp [e0, e1]
    refine hK _ _ ?_
    simp [stepB, hc]
/-! longest_way -/
def Sway (G : GF) : Prop := ∀ (n : Nat) (ps : List Pair), okN n ps → 1 ≤ n → n ≤ 100 → G [netD n ps] = some (.dat (.int (way n ps)))
theorem way_ok : Sway (GP Blongest_way 0 1) := fun n ps o h1 h2 => by
  refine GP_of 4 rfl ?_
  unfold Blongest_way
  have em := mulD_rep (x := .int 0) (n := n) (by omega)
  refine ex_nx fun K hK => ?_
  simp [-mulD, netD, em]
  rw [show List.replicate n (PyData.int 0) = pI (List.replicate n 0) from by rw [pI, List.map_replicate]]
  refine hK _ ?_
  clear hK K
  refine ex_cons (ex_for (ds := ps.map pairP) (st1 := stL [.val (netD n ps), .own (pI (List.replicate n 0)), .emp, .emp, .emp] none) (fun i s => s = stL [.emp, .own (pI (ledW (ps.take i) (List.replicate n 0))), .emp, .emp, .emp] none) (by simp [netD]) (by simp [ledW]) ?_ ?_)
  · rintro i d s hd rfl
    rw [List.getElem?_map] at hd
    obtain ⟨p, hp, rfl⟩ := map_some2 hd
    have ho := o p (List.mem_of_getElem? hp)
    refine ⟨_, (by simp [pairP] <;> rfl), ?_⟩
    unfold Ylongest_way_1
    rw [shut_eq, ledW_take hp]
    have hL : (ledW (ps.take i) (List.replicate n 0)).length = n := by rw [ledW_len, List.length_replicate]
    generalize ledW (ps.take i) (List.replicate n 0) = M at hL ⊢
    have e1 := pI_at (ns := M) (i := p.1) (by omega)
    have e2 := pI_at (ns := M) (i := p.2) (by omega)
    have e3 := maxA_z (nth M p.1) (nth M p.2)
    refine ex_nx fun K hK => ?_
    simp [e1, e2, e3]
    refine hK _ ?_
    clear hK K
    have x1 := ixN_nat M.length p.1 (by omega)
    have x2 := ixN_nat M.length p.2 (by omega)
    refine ex_nx fun K hK => ?_
    simp [x1]
    refine hK _ ?_
    clear hK K
    refine ex_nx fun K hK => ?_
    simp [x2]
    refine hK _ (ex_nil ?_)
    simp [stepW, List.map_set]
  · intro s hs
    rw [List.length_map, List.take_length] at hs
    refine ex_keep ?_
    rw [hs]
    have hne : ledW ps (List.replicate n 0) ≠ [] := fun e => by
      have := ledW_len ps (List.replicate n 0)
      rw [e, List.length_replicate] at this
      simp at this; omega
    have e := maxA_l hne
    rw [(way_is h1 o).1] at e
    refine ex_fin fun K hK => ?_
    simp [e]
    exact hK _ _ rfl
/-! amounts_alone -/
def Salone (G : GF) : Prop := ∀ (n line : Nat) (m : Int), n ≤ 100 → G [.int n, .int line, .int m] = some (.dat (.tuple (pI (alone n line m))))
theorem alone_ok : Salone (GP Bamounts_alone 0 3) := fun n line m hn => by
  refine GP_of 1 rfl ?_
  unfold Bamounts_alone
  have key : Camounts_alone_1 (stL [.val (.int n), .val (.int line), .val (.int m), .emp] none) = some (.fre ((List.range n).map fun k => .int (if k = line then m else 0)), stL [.val (.int n), .val (.int line), .val (.int m), .emp] none) := by
    unfold Camounts_alone_1
    rw [shut_eq]
    refine comp_map (List.range n) (fun i => .int (i : Nat)) (fun k => .int (if k = line then m else 0)) (st1 := stL [.val (.int n), .val (.int line), .val (.int m), .emp] none) ?_ (by simp) (fun i hi => ?_) (by rw [List.length_range]; exact z1000 (by omega))
    · rw [iRg1_is (n := n) (st' := stL [.val (.int n), .val (.int line), .val (.int m), .emp] none) (by simp) (by omega), rgD_0]
    · by_cases c : i = line
      · subst c; simp
      · have c2 : ¬ ((i : Int) = (line : Int)) := by omega
        simp [c, c2]
  have e : ((List.range n).map fun k => PyData.int (if k = line then m else 0)) = pI (alone n line m) := by
    unfold alone pI
    rw [List.map_map]; rfl
  rw [e] at key
  refine ex_fin fun K hK => ?_
  simp [key]
  exact hK _ _ rfl
/-! even_shares -/
def Sshares (G : GF) : Prop := ∀ (n : Nat) (ps : List Pair), okN n ps → 1 ≤ n → n ≤ 100 → ps.length ≤ 1000 → G [netD n ps] = some (.dat (.tuple ((List.range n).map fun line => .tuple (pI (share n ps line)))))
theorem shl_is (k : Nat) (h : k ≤ 1000) : shlD (.int 1) (.int k) = some (.dat (.int (2 ^ k))) := by
  rw [shlD_z (by omega) (by omega) (by decide), Int.toNat_natCast, Int.one_mul]
theorem shares_ok {Gl Ga Gw : GF} (hl : Sled Gl) (ha : Salone Ga) (hw : Sway Gw) : Sshares (GP (Beven_shares Gl Ga Gw) 0 1) := fun n ps o h1 h2 h3 => by
  refine GP_of 2 rfl ?_
  unfold Beven_shares
  have ew := hw n ps o h1 h2
  have es := shl_is (way n ps) (by have := (way_is h1 o).2; omega)
  refine ex_nx fun K hK => ?_
  simp [ew, es]
  refine hK _ ?_
  clear hK K
  have key : Ceven_shares_1 Gl Ga Gw (stL [.val (netD n ps), .val (.int (2 ^ way n ps)), .emp] none) = some (.fre ((List.range n).map fun line => .tuple (pI (share n ps line))), stL [.val (netD n ps), .val (.int (2 ^ way n ps)), .emp] none) := by
    unfold Ceven_shares_1
    rw [shut_eq]
    refine comp_map (List.range n) (fun i => .int (i : Nat)) (fun line => .tuple (pI (share n ps line))) (st1 := stL [.val (netD n ps), .val (.int (2 ^ way n ps)), .emp] none) ?_ (by simp) (fun i hi => ?_) (by rw [List.length_range]; exact z1000 (by omega))
    · rw [iRg1_is (n := n) (st' := stL [.val (netD n ps), .val (.int (2 ^ way n ps)), .emp] none) (by simp [netD]) (by omega), rgD_0]
    · have e1 := ha n i (2 ^ way n ps) h2
      have e2 := hl n ps (alone n i (2 ^ way n ps)) o (alone_len _ _ _)
      have e3 : idxD (netD n ps) (.int 0) = some (.dat (.int n)) := by simp [netD]
      generalize netD n ps = N at e2 e3 ⊢
      simp [-idxD, e1, e2, e3, share]
  refine ex_fin fun K hK => ?_
  simp [key]
  exact hK _ _ rfl
theorem share_ne {n : Nat} {ps : List Pair} {line : Nat} (h : 1 ≤ n) : share n ps line ≠ [] := fun e => by
  have : (share n ps line).length = n := by unfold share; rw [ledA_len, alone_len]
  rw [e] at this; simp at this; omega
theorem zips_eq (ns : List Int) (h : Nat) : List.zipWith NV.pairD (pI ns) ((pI ns).drop h) = (List.range (ns.length - h)).map fun i => .tuple [.int (nth ns i), .int (nth ns (i + h))] := by
  apply List.ext_getElem?
  intro i
  rw [List.getElem?_zipWith, List.getElem?_map, List.getElem?_map, List.getElem?_drop, List.getElem?_map]
  by_cases hi : i < ns.length - h
  · rw [List.getElem?_range hi, nth_get (show i < ns.length by omega), nth_get (show h + i < ns.length by omega), Nat.add_comm h i]
    simp [NV.pairD]
  · rw [List.getElem?_eq_none (l := List.range _) (by simp; omega), List.getElem?_eq_none (l := ns) (i := h + i) (by omega)]
    cases ns[i]? <;> rfl
/-! _law_net -/
def Snet (G : GD) : Prop := ∀ (n most : Nat) (z : Src), 1 ≤ n → n ≤ 100 → most ≤ 100 → ∃ ps z', G [.int n, .int most] z = some (.dat (netD n ps), z') ∧ okN n ps ∧ ps.length ≤ most
theorem net_ok {Gp : GD} (hp : Spick Gp) : Snet (GS (B_law_net Gp) 0 3) := fun n most z h1 h2 h3 => by
  obtain ⟨r, z2, e2, ps, rfl, o, hl⟩ := GS_of (B := B_law_net Gp) (N := 0) (k := 3) (ds := [.int n, .int most]) (z := z) (Q := fun r z' => ∃ ps, r = .dat (netD n ps) ∧ okN n ps ∧ ps.length ≤ most) 3 rfl (by
    unfold B_law_net
    refine ex_nx fun K hK => ?_
    simp
    refine hK _ ?_
    clear hK K
    obtain ⟨c, z1, hr, hc, hn1⟩ : ∃ c z1, iRg1 (mIf (mB (mBin gtD (mVar 1) (mC (.int 1)))) (mCallS 0 Gp (fCons (mBin addD (mVar 2) (mC (.int 1))) (fNil))) (mC (.int 0))) (stL [.src, .val (.int n), .val (.int most), .own [], .emp, .emp] (some z)) = some (rgD 0 c, stL [.src, .val (.int n), .val (.int most), .own [], .emp, .emp] (some z1)) ∧ c ≤ most ∧ (0 < c → 1 < n) := by
      by_cases c : 1 < n
      · obtain ⟨v, z1, e1, hv⟩ := hp (most + 1) z (by omega)
        have c' : (1 : Int) < (n : Int) := by omega
        refine ⟨v, z1, iRg1_is (by simp [c, c', e1]) (by omega), by omega, fun _ => c⟩
      · have c' : ¬ (1 : Int) < (n : Int) := by omega
        refine ⟨0, z, iRg1_is (n := 0) (by simp [c, c']) (by omega), by omega, fun h => by omega⟩
    refine ex_cons (ex_for (fun i s => ∃ ps z', s = stL [.src, .val (.int n), .emp, .own (ps.map pairP), .emp, .emp] (some z') ∧ okN n ps ∧ ps.length = i) hr ⟨[], z1, by simp, fun p hp => (nomatch hp), rfl⟩ ?_ ?_)
    · rintro i d s hd ⟨ps, z', rfl, o, hl⟩
      have hi : i < c := by
        have := (List.getElem?_eq_some_iff.mp hd).1
        rwa [rgD_len] at this
      have hn := hn1 (by omega)
      refine ⟨_, (by simp <;> rfl), ?_⟩
      unfold Y_law_net_1
      rw [shut_eq]
      obtain ⟨a, z3, e3, ha⟩ := hp ((n : Int) - 1) z' (by omega)
      refine ex_nx fun K hK => ?_
      simp [e3]
      refine hK _ ?_
      clear hK K
      obtain ⟨b, z4, e4, hb⟩ := hp ((n : Int) - 1 - a) z3 (by omega)
      have hlen : ps.length < 16777216 := by omega
      refine ex_nx fun K hK => ?_
      simp [e4, hlen]
      refine hK _ (ex_nil ⟨ps ++ [(a, a + 1 + b)], z4, ?_, ?_, by simp [hl]⟩)
      · simp [pairP]
      · intro p hp
        rcases List.mem_append.mp hp with q | q
        · exact o p q
        · simp at q
          subst q
          constructor <;> dsimp only <;> omega
    · rintro s ⟨ps, z', hs, o, hl⟩
      rw [rgD_len] at hl
      refine ex_keep ?_
      rw [← keep_keep (ks := [0, 1, 3]) (by decide), hs]
      refine ex_fin fun K hK => ?_
      simp
      exact hK _ _ ⟨_, _, rfl, rfl, ps, rfl, o, by omega⟩)
  exact ⟨ps, z2, e2, o, hl⟩
/-! _law_is_step -/
theorem lstep_ok : Sstep (GP B_law_is_step 0 1) := fun L h0 h1 => by
  refine GP_of 3 rfl ?_
  unfold B_law_is_step
  have hc := cutD_from (pI L) 1
  have hz := zips_eq L 1
  rw [List.drop_one] at hz
  rw [show ((1 : Nat) : Int) = 1 from rfl] at hc
  have key : C_law_is_step_1 (stL [.val (.tuple (pI L)), .emp, .emp, .emp] none) = some (.fre (((List.range (L.length - 1)).filter fun i => decide (nth L i < nth L (i + 1))).map fun _ => .int 1), stL [.val (.tuple (pI L)), .emp, .emp, .emp] none) := by
    unfold C_law_is_step_1
    rw [shut_eq]
    refine comp_filter (List.range (L.length - 1)) (fun i => .tuple [.int (nth L i), .int (nth L (i + 1))]) (fun i => decide (nth L i < nth L (i + 1))) (fun _ => .int 1) (st1 := stL [.val (.tuple (pI L)), .emp, .emp, .emp] none) ?_ (by simp) (fun i hi => by by_cases c : nth L i < nth L (i + 1) <;> simp [c]) (by rw [List.length_range]; exact z1000 (by omega))
    simp [hc]
    exact hz
  have hb : ((List.range (L.length - 1)).filter fun i => decide (nth L i < nth L (i + 1))).isEmpty = descB L := by
    rw [Bool.eq_iff_iff, List.isEmpty_iff, List.filter_eq_nil_iff, descB_iff]
    constructor
    · intro q i hi
      have := q i (List.mem_range.mpr (by omega))
      simp at this; omega
    · intro q i hi
      have := q i (by have := List.mem_range.mp hi; omega)
      simp; omega
  have hsh : SeqAt.shaped (.list (((List.range (L.length - 1)).filter fun i => decide (nth L i < nth L (i + 1))).map fun _ => .int 1)) = true := by
    have := shaped_ints (((List.range (L.length - 1)).filter fun i => decide (nth L i < nth L (i + 1))).map fun _ => (1 : Int))
    rw [pI, List.map_map] at this
    exact this
  generalize ((List.range (L.length - 1)).filter fun i => decide (nth L i < nth L (i + 1))) = Z at key hb hsh
  refine ex_nx fun K hK => ?_
  simp [key]
  refine hK _ ?_
  clear hK K
  have e0 := pI_get (ns := L) (i := 0) h0
  have e1 := last_at (xs := pI L) (by simpa using h0)
  rw [List.length_map, pI_get (by omega)] at e1
  refine ex_fin fun K hK => ?_
  cases hc : descB L with
  | false =>
    rw [hc] at hb
    simp [hsh, hb]
    refine hK _ _ ?_
    simp [stepB, hc]
  | true =>
    rw [hc] at hb
    simp [hsh, hb, e0, e1]
    refine hK _ _ ?_
    have : decide (nth L 0 - nth L (L.length - 1) < 2) = decide (nth L 0 - nth L (L.length - 1) ≤ 1) := by
      by_cases c : nth L 0 - nth L (L.length - 1) ≤ 1
      · rw [decide_eq_true c, decide_eq_true (by omega)]
      · rw [decide_eq_false c, decide_eq_false (by omega)]
    simp [stepB, hc, this]
end K83
set_option Elab.async false
set_option linter.all false
set_option maxRecDepth 100000
set_option maxHeartbeats 4000000
namespace K83
open PySem PySem.Spec PyProof.Rows L2 NV Bal
def rD (r : List Int) : PyData := .tuple (pI r)
def ext (many : Nat) (l : List (List Int)) : List (List Int) := l.flatMap fun r => (List.range many).map fun (x : Nat) => r ++ [(x : Int)]
theorem ext_take {many : Nat} {l : List (List Int)} {i : Nat} {r : List Int} (h : l[i]? = some r) : ext many (l.take (i + 1)) = ext many (l.take i) ++ (List.range many).map fun (x : Nat) => r ++ [(x : Int)] := by
  unfold ext
  rw [List.take_add_one, h]
  simp
theorem ext_len (many : Nat) (l : List (List Int)) : (ext many l).length = l.length * many := by
  unfold ext
  induction l with
  | nil => simp
  | cons x l ih => rw [List.flatMap_cons, List.length_append, ih]; simp [Nat.add_mul]; omega
theorem pow_le {many k n : Nat} (hm : 1 ≤ many) (hk : k ≤ n) (h : many ^ n ≤ 100000) : many ^ k ≤ 100000 := Nat.le_trans (Nat.pow_le_pow_right hm hk) h
def Srows (G : GF) : Prop := ∀ n many : Nat, n ≤ 100 → 1 ≤ many → many ≤ 100000 → many ^ n ≤ 100000 → G [.int n, .int many] = some (.fre ((rowsB many n).map rD))
theorem rows_ok : Srows (GP Brows_below 0 2) := fun n many hn h1 h2 h3 => by
  refine GP_of 5 rfl ?_
  unfold Brows_below
  refine ex_nx fun K hK => ?_
  simp
  refine hK _ ?_
  clear hK K
  have hr : iRg1 (mVar 0) (stL [.val (.int n), .val (.int many), .own [.tuple []], .emp, .emp, .emp, .emp] none) = some (rgD 0 n, stL [.val (.int n), .val (.int many), .own [.tuple []], .emp, .emp, .emp, .emp] none) := iRg1_is (by simp) (by omega)
  refine ex_cons (ex_for (fun k s => s = stL [.emp, .val (.int many), .own ((rowsB many k).map rD), .emp, .emp, .emp, .emp] none) hr (by simp [rowsB, rD]) ?_ ?_)
  · rintro k d s hd rfl
    have hk : k < n := by
      have := (List.getElem?_eq_some_iff.mp hd).1
      rwa [rgD_len] at this
    have pk := pow_le (k := k + 1) h1 (by omega) h3
    have lk := rowsB_len many k
    rw [Nat.pow_succ] at pk
    refine ⟨_, (by simp <;> rfl), ?_⟩
    unfold Yrows_below_2
    rw [shut_eq]
    refine ex_nx fun K hK => ?_
    simp
    refine hK _ ?_
    clear hK K
    refine ex_cons (ex_for (ds := (rowsB many k).map rD) (st1 := stL [.emp, .val (.int many), .val (.list ((rowsB many k).map rD)), .val d, .own [], .emp, .emp] none) (fun i s => s = stL [.emp, .val (.int many), .emp, .emp, .own ((ext many ((rowsB many k).take i)).map rD), .emp, .emp] none) (by simp) (by simp [ext]) ?_ ?_)
    · rintro i d s hd rfl
      rw [List.getElem?_map] at hd
      obtain ⟨r, hr', rfl⟩ := map_some2 hd
      have hi := (List.getElem?_eq_some_iff.mp hr').1
      have hwl := ((mem_rowsB k r).mp (List.mem_of_getElem? hr')).1
      refine ⟨_, (by simp <;> rfl), ?_⟩
      unfold Yrows_below_1
      rw [shut_eq, ext_take hr']
      have key : Crows_below_1 (stL [.emp, .val (.int many), .emp, .emp, .own ((ext many ((rowsB many k).take i)).map rD), .val (rD r), .emp] none) = some (.fre (((List.range many).map fun (x : Nat) => r ++ [(x : Int)]).map rD), stL [.emp, .val (.int many), .emp, .emp, .own ((ext many ((rowsB many k).take i)).map rD), .val (rD r), .emp] none) := by
        unfold Crows_below_1
        rw [shut_eq, List.map_map]
        have e1 : r.length ≤ 16777215 := by omega
        refine comp_map (List.range many) (fun i => .int (i : Nat)) (fun x => rD (r ++ [(x : Int)])) (st1 := stL [.emp, .val (.int many), .emp, .emp, .own ((ext many ((rowsB many k).take i)).map rD), .val (rD r), .emp] none) ?_ (by simp) (fun i hi => by simp [rD, e1]) (by rw [List.length_range, sizeLine_lit]; omega)
        rw [iRg1_is (n := many) (st' := stL [.emp, .val (.int many), .emp, .emp, .own ((ext many ((rowsB many k).take i)).map rD), .val (rD r), .emp] none) (by simp) (by omega), rgD_0]
      have hlen : (ext many ((rowsB many k).take i)).length ≤ 100000 := by
        rw [ext_len, List.length_take, lk]
        exact Nat.le_trans (Nat.mul_le_mul_right _ (Nat.min_le_right _ _)) pk
      have hlen2 : ((List.range many).map fun (x : Nat) => r ++ [(x : Int)]).length ≤ 100000 := by rw [List.length_map, List.length_range]; exact h2
      generalize ext many ((rowsB many k).take i) = A at hlen key ⊢
      generalize ((List.range many).map fun (x : Nat) => r ++ [(x : Int)]) = B at hlen2 key ⊢
      have hz : A.length + B.length ≤ 16777216 := by omega
      refine ex_nx fun K hK => ?_
      simp [sExt, key, hz]
      refine hK _ (ex_nil ?_)
      simp
    · intro s hs
      rw [List.length_map, List.take_length] at hs
      refine ex_keep ?_
      rw [hs]
      refine ex_nx fun K hK => ?_
      simp
      refine hK _ (ex_nil ?_)
      simp [rowsB, ext]
  · intro s hs
    rw [rgD_len] at hs
    refine ex_keep ?_
    rw [← keep_keep (ks := [1, 2]) (by decide), hs]
    refine ex_fin fun K hK => ?_
    simp
    exact hK _ _ rfl
/-! first_unstep -/
def unst (n : Nat) (ps : List Pair) : Option (List Int) := (rowsB (2 ^ way n ps) n).find? fun r => !stepB (ledA ps r)
def optD : Option (List Int) → PyData
  | none => .none
  | some r => rD r
/-- few rows -/
def few (n : Nat) (ps : List Pair) : Prop := okN n ps ∧ 1 ≤ n ∧ n ≤ 100 ∧ ps.length ≤ 16 ∧ (2 ^ way n ps) ^ n ≤ 100000
theorem few_way {n : Nat} {ps : List Pair} (f : few n ps) : 2 ^ way n ps ≤ 65536 := by
  have := (way_is f.2.1 f.1).2
  exact Nat.pow_le_pow_right (n := 2) (by decide) (Nat.le_trans this f.2.2.2.1)
theorem shlN_is (k : Nat) (h : k ≤ 1000) : shlD (.int 1) (.int k) = some (.dat (.int ((2 ^ k : Nat) : Int))) := by
  rw [shl_is k h, Int.natCast_pow]; rfl
def Sunst (G : GF) : Prop := ∀ (n : Nat) (ps : List Pair), few n ps → G [netD n ps] = some (.dat (optD (unst n ps)))
theorem find_take {α : Type} {p : α → Bool} {l : List α} {i : Nat} {x : α} (h : l[i]? = some x) (hf : (l.take i).find? p = none) : (l.take (i + 1)).find? p = if p x = true then some x else none := by
  rw [List.take_add_one, h, List.find?_append, hf]
  cases hp : p x <;> simp [List.find?, hp]
theorem find_more {α : Type} {p : α → Bool} {l : List α} {i : Nat} {x : α} (h : (l.take i).find? p = some x) : l.find? p = some x := by
  have := List.take_append_drop i l
  rw [← this, List.find?_append, h]; rfl
theorem unst_ok {Gr Gw Gs Gl : GF} (hr : Srows Gr) (hw : Sway Gw) (hs : Sstep Gs) (hl : Sled Gl) : Sunst (GP (Bfirst_unstep Gr Gw Gs Gl) 0 1) := fun n ps f => by
  refine GP_of 1 rfl ?_
  have fw := few_way f
  obtain ⟨o, h1, h2, h3, h4⟩ := f
  unfold Bfirst_unstep
  have ew := hw n ps o h1 h2
  have es := shlN_is (way n ps) (by have := (way_is h1 o).2; omega)
  have er := hr n (2 ^ way n ps) h2 Nat.one_le_two_pow (by omega) h4
  have e0 : idxD (netD n ps) (.int 0) = some (.dat (.int n)) := by simp [netD]
  generalize hm : 2 ^ way n ps = many at es er
  refine ex_cons (ex_for (ds := (rowsB many n).map rD) (st1 := stL [.val (netD n ps), .emp] none) (fun i s => s = stL [.val (netD n ps), .emp] none ∧ ((rowsB many n).take i).find? (fun r => !stepB (ledA ps r)) = none) ?_ ⟨by simp, by simp⟩ ?_ ?_)
  · generalize netD n ps = N at ew e0 ⊢
    simp [-idxD, ew, es, er, e0]
  · rintro i d s hd ⟨rfl, hf⟩
    rw [List.getElem?_map] at hd
    obtain ⟨r, hr', rfl⟩ := map_some2 hd
    have hm' := (mem_rowsB n r).mp (List.mem_of_getElem? hr')
    refine ⟨_, (by simp <;> rfl), ?_⟩
    unfold Yfirst_unstep_1
    rw [shut_eq]
    have e1 := hl n ps r o hm'.1
    have hlen : (ledA ps r).length = n := by rw [ledA_len]; exact hm'.1
    have e2 := hs (ledA ps r) (by omega) (by omega)
    have ft := find_take hr' hf
    rw [show PyData.tuple (pI r) = rD r from rfl] at e1
    cases hc : stepB (ledA ps r) with
    | true =>
      rw [hc] at e2 ft
      refine ex_nx fun K hK => ?_
      simp [e1, e2]
      refine hK _ (ex_nil ⟨by simp, ?_⟩)
      simpa using ft
    | false =>
      rw [hc] at e2 ft
      refine ex_cons ?_
      refine ex_fin fun K hK => ?_
      simp [e1, e2]
      refine hK _ _ ?_
      show some (R.dat (rD r)) = some (R.dat (optD (unst n ps)))
      have : unst n ps = some r := by
        unfold unst
        rw [hm]
        exact find_more (i := i + 1) (by simpa using ft)
      rw [this]; rfl
  · rintro s ⟨hs', hf⟩
    rw [List.length_map, List.take_length] at hf
    refine ex_keep ?_
    refine ex_fin fun K hK => ?_
    simp
    refine hK _ _ ?_
    have : unst n ps = none := by unfold unst; rw [hm]; exact hf
    rw [this]; rfl
/-! first_uneven_line -/
def unev (n : Nat) (ps : List Pair) : Option Nat := (List.range n).find? fun line => decide (mnI (share n ps line) < mxI (share n ps line))
def optN : Option Nat → PyData
  | none => .none
  | some r => .int r
def Sunev (G : GF) : Prop := ∀ (n : Nat) (ps : List Pair), few n ps → G [netD n ps] = some (.dat (optN (unev n ps)))
theorem unev_ok {Gs : GF} (hs : Sshares Gs) : Sunev (GP (Bfirst_uneven_line Gs) 0 1) := fun n ps f => by
  refine GP_of 2 rfl ?_
  obtain ⟨o, h1, h2, h3, h4⟩ := f
  unfold Bfirst_uneven_line
  have e1 := hs n ps o h1 h2 (by omega)
  refine ex_cons (ex_for (ds := enumL ((List.range n).map fun line => .tuple (pI (share n ps line)))) (st1 := stL [.val (netD n ps), .emp, .emp] none) (fun i s => keep [] s = stL [.emp, .emp, .emp] none ∧ s = stL [.emp, .emp, .emp] none ∧ ((List.range n).take i).find? (fun line => decide (mnI (share n ps line) < mxI (share n ps line))) = none) (by simp [e1]) ⟨by simp, by simp, by simp⟩ ?_ ?_)
  · rintro i d s hd ⟨_, rfl, hf⟩
    unfold enumL at hd
    rw [List.getElem?_map, List.getElem?_zipIdx, List.getElem?_map] at hd
    obtain ⟨⟨x, j⟩, hx, rfl⟩ := map_some2 hd
    obtain ⟨y, hy, hxy⟩ := map_some2 hx
    obtain ⟨line, hl, rfl⟩ := map_some2 hy
    obtain ⟨hlt, rfl⟩ := range_at hl
    simp at hxy
    obtain ⟨rfl, rfl⟩ := hxy
    refine ⟨_, (by simp <;> rfl), ?_⟩
    unfold Yfirst_uneven_line_1
    rw [shut_eq]
    have m1 := maxA_t (share_ne (ps := ps) (line := i) h1)
    have m2 := minA_t (share_ne (ps := ps) (line := i) h1)
    have ft := find_take hl hf
    have hu : unev n ps = if decide (mnI (share n ps i) < mxI (share n ps i)) = true then some i else unev n ps := by
      by_cases c : decide (mnI (share n ps i) < mxI (share n ps i)) = true
      · rw [if_pos c] at ft ⊢
        exact find_more ft
      · rw [if_neg c]
    generalize share n ps i = S at m1 m2 ft hu
    by_cases c : mnI S < mxI S
    · rw [if_pos (decide_eq_true c)] at hu
      refine ex_cons ?_
      refine ex_fin fun K hK => ?_
      simp [m1, m2, c]
      refine hK _ _ ?_
      show some (R.dat (.int (i : Nat))) = some (R.dat (optN (unev n ps)))
      rw [hu]; rfl
    · refine ex_nx fun K hK => ?_
      simp [m1, m2, c]
      refine hK _ (ex_nil ⟨by simp, by simp, ?_⟩)
      rw [ft, if_neg (by simpa using c)]
  · rintro s ⟨_, _, hf⟩
    rw [show (enumL ((List.range n).map fun line => PyData.tuple (pI (share n ps line)))).length = n from by unfold enumL; simp, List.take_of_length_le (by simp)] at hf
    refine ex_keep ?_
    refine ex_fin fun K hK => ?_
    simp
    refine hK _ _ ?_
    have : unev n ps = none := hf
    rw [this]; rfl
end K83
set_option Elab.async false
set_option linter.all false
set_option maxRecDepth 100000
set_option maxHeartbeats 4000000
namespace K83
open PySem PySem.Spec PyProof.Rows L2 NV Bal
/-! led_row -/
def Srow (G : GF) : Prop := ∀ (n : Nat) (ps : List Pair) (L : List Int), okN n ps → L.length = n → G [netD n ps, .tuple (pI L)] = some (.dat (.tuple (pI (ledR ps L))))
theorem ledrow_ok : Srow (GP Bled_row 0 2) := fun n ps L o hl => by
  refine GP_of 5 rfl ?_
  unfold Bled_row
  refine ex_nx fun K hK => ?_
  simp
  refine hK _ ?_
  clear hK K
  refine ex_cons (ex_for (ds := ps.map pairP) (st1 := stL [.val (netD n ps), .val (.tuple (pI L)), .own (pI L), .emp, .emp, .emp, .emp] none) (fun i s => s = stL [.emp, .emp, .own (pI (ledR (ps.take i) L)), .emp, .emp, .emp, .emp] none) (by simp [netD]) (by simp [ledR]) ?_ ?_)
  · rintro i d s hd rfl
    rw [List.getElem?_map] at hd
    obtain ⟨p, hp, rfl⟩ := map_some2 hd
    have ho := o p (List.mem_of_getElem? hp)
    refine ⟨_, (by simp [pairP] <;> rfl), ?_⟩
    unfold Yled_row_1
    rw [shut_eq, ledR_take hp]
    have hL : (ledR (ps.take i) L).length = n := by rw [ledR_len, hl]
    generalize ledR (ps.take i) L = M at hL ⊢
    have e1 := pI_at (ns := M) (i := p.1) (by omega)
    have e2 := pI_at (ns := M) (i := p.2) (by omega)
    have m1 := minA_z (nth M p.1) (nth M p.2)
    have m2 := maxA_z (nth M p.1) (nth M p.2)
    refine ex_nx fun K hK => ?_
    simp [e1, e2, m1, m2]
    refine hK _ ?_
    clear hK K
    have x1 := ixN_nat M.length p.1 (by omega)
    have x2 := ixN_nat M.length p.2 (by omega)
    refine ex_nx fun K hK => ?_
    simp [x1]
    refine hK _ ?_
    clear hK K
    refine ex_nx fun K hK => ?_
    simp [x2]
    refine hK _ (ex_nil ?_)
    simp [stepR, List.map_set]
  · intro s hs
    rw [List.length_map, List.take_length] at hs
    refine ex_keep ?_
    rw [hs]
    refine ex_fin fun K hK => ?_
    simp
    exact hK _ _ rfl
/-! is_ascending, does_sort -/
def Sasc (G : GF) : Prop := ∀ (L : List Int), L.length ≤ 1000 → G [.tuple (pI L)] = some (.dat (.bool (ascB L)))
theorem asc_ok : Sasc (GP Bis_ascending 0 1) := fun L h1 => by
  refine GP_of 2 rfl ?_
  unfold Bis_ascending
  have hc := cutD_from (pI L) 1
  have hz := zips_eq L 1
  have key : Cis_ascending_1 (stL [.val (.tuple (pI L)), .emp, .emp] none) = some (.fre ((List.range (L.length - 1)).map fun i => .bool (decide (nth L i ≤ nth L (i + 1)))), stL [.val (.tuple (pI L)), .emp, .emp] none) := by
    unfold Cis_ascending_1
    rw [shut_eq]
    refine comp_map (List.range (L.length - 1)) (fun i => .tuple [.int (nth L i), .int (nth L (i + 1))]) (fun i => .bool (decide (nth L i ≤ nth L (i + 1)))) (st1 := stL [.val (.tuple (pI L)), .emp, .emp] none) ?_ (by simp) (fun i hi => by simp) (by rw [List.length_range]; exact z1000 (by omega))
    rw [show ((1 : Nat) : Int) = 1 from rfl] at hc
    rw [List.drop_one] at hz
    simp [hc]
    exact hz
  have ha := allD_map (List.range (L.length - 1)) (fun i => decide (nth L i ≤ nth L (i + 1)))
  refine ex_fin fun K hK => ?_
  simp [key, ha]
  exact hK _ _ rfl
def Ssort (G : GF) : Prop := ∀ (n : Nat) (ps : List Pair) (L : List Int), okN n ps → L.length = n → n ≤ 1000 → G [netD n ps, .tuple (pI L)] = some (.dat (.bool (ascB (ledR ps L))))
theorem sort_ok {Ga Gr : GF} (ha : Sasc Ga) (hr : Srow Gr) : Ssort (GP (Bdoes_sort Ga Gr) 0 2) := fun n ps L o hl h1 => by
  refine GP_of 0 rfl ?_
  unfold Bdoes_sort
  have e1 := hr n ps L o hl
  have e2 := ha (ledR ps L) (by rw [ledR_len]; omega)
  refine ex_fin fun K hK => ?_
  simp [e1, e2]
  exact hK _ _ rfl
/-! all_words -/
def wD (w : List Int) : PyData := .tuple (pI w)
def Swords (G : GF) : Prop := ∀ n : Nat, n ≤ 16 → G [.int n] = some (.dat (.tuple ((allW n).map wD)))
def two (l : List (List Int)) : List (List Int) := l.flatMap fun w => [w ++ [0], w ++ [1]]
theorem two_take {l : List (List Int)} {i : Nat} {w : List Int} (h : l[i]? = some w) : two (l.take (i + 1)) = two (l.take i) ++ [w ++ [0], w ++ [1]] := by
  unfold two
  rw [List.take_add_one, h]
  simp
theorem two_len (l : List (List Int)) : (two l).length = 2 * l.length := by
  unfold two
  induction l with
  | nil => rfl
  | cons x l ih => rw [List.flatMap_cons, List.length_append, ih]; simp; omega
theorem pow16 {n : Nat} (h : n ≤ 16) : 2 ^ n ≤ 65536 := Nat.pow_le_pow_right (n := 2) (by decide) h
theorem words_ok : Swords (GP Ball_words 0 1) := fun n hn => by
  refine GP_of 4 rfl ?_
  unfold Ball_words
  refine ex_nx fun K hK => ?_
  simp
  refine hK _ ?_
  clear hK K
  have hr : iRg1 (mVar 0) (stL [.val (.int n), .own [.tuple []], .emp, .emp, .emp] none) = some (rgD 0 n, stL [.val (.int n), .own [.tuple []], .emp, .emp, .emp] none) := iRg1_is (by simp) (by omega)
  refine ex_cons (ex_for (fun k s => s = stL [.emp, .own ((allW k).map wD), .emp, .emp, .emp] none) hr (by simp [allW, wD]) ?_ ?_)
  · rintro k d s hd rfl
    have hk : k < n := by
      have := (List.getElem?_eq_some_iff.mp hd).1
      rwa [rgD_len] at this
    have pk := pow16 (n := k) (by omega)
    have lk := allW_len k
    refine ⟨_, (by simp <;> rfl), ?_⟩
    unfold Yall_words_2
    rw [shut_eq]
    refine ex_nx fun K hK => ?_
    simp
    refine hK _ ?_
    clear hK K
    refine ex_cons (ex_for (ds := (allW k).map wD) (st1 := stL [.emp, .val (.list ((allW k).map wD)), .val d, .own [], .emp] none) (fun i s => s = stL [.emp, .emp, .emp, .own ((two ((allW k).take i)).map wD), .emp] none) (by simp) (by simp [two]) ?_ ?_)
    · rintro i d s hd rfl
      rw [List.getElem?_map] at hd
      obtain ⟨w, hw, rfl⟩ := map_some2 hd
      have hi := (List.getElem?_eq_some_iff.mp hw).1
      have hwl := ((mem_allW k w).mp (List.mem_of_getElem? hw)).1
      refine ⟨_, (by simp <;> rfl), ?_⟩
      unfold Yall_words_1
      rw [shut_eq, two_take hw]
      have hlen : (two ((allW k).take i)).length ≤ 200000 := by
        rw [two_len, List.length_take]
        omega
      generalize two ((allW k).take i) = A at hlen ⊢
      have e1 : w.length ≤ 16777215 := by omega
      have e2 : A.length ≤ 16777214 := by omega
      refine ex_nx fun K hK => ?_
      simp [sExt, wD, e1, e2]
      refine hK _ (ex_nil ?_)
      simp [wD]
    · intro s hs
      rw [List.length_map, List.take_length] at hs
      refine ex_keep ?_
      rw [hs]
      refine ex_nx fun K hK => ?_
      simp
      refine hK _ (ex_nil ?_)
      simp [allW, two]
  · intro s hs
    rw [rgD_len] at hs
    refine ex_keep ?_
    rw [hs]
    refine ex_fin fun K hK => ?_
    simp
    exact hK _ _ rfl
/-! words_not_sorted, is_sorting_net -/
def Sbad (G : GF) : Prop := ∀ (n : Nat) (ps : List Pair), okN n ps → n ≤ 16 → G [netD n ps] = some (.dat (.tuple (((allW n).filter fun w => !ascB (ledR ps w)).map wD)))
theorem bad_ok {Gw Gs : GF} (hw : Swords Gw) (hs : Ssort Gs) : Sbad (GP (Bwords_not_sorted Gw Gs) 0 1) := fun n ps o hn => by
  refine GP_of 1 rfl ?_
  unfold Bwords_not_sorted
  have e1 := hw n hn
  have e0 : idxD (netD n ps) (.int 0) = some (.dat (.int n)) := by simp [netD]
  have key : Cwords_not_sorted_1 Gw Gs (stL [.val (netD n ps), .emp] none) = some (.fre (((allW n).filter fun w => !ascB (ledR ps w)).map wD), stL [.val (netD n ps), .emp] none) := by
    unfold Cwords_not_sorted_1
    rw [shut_eq]
    refine comp_filter (allW n) wD (fun w => !ascB (ledR ps w)) wD (st1 := stL [.val (netD n ps), .emp] none) ?_ (by simp) (fun w hw' => ?_) (by rw [allW_len]; have := pow16 hn; rw [sizeLine_lit]; omega)
    · generalize netD n ps = N at e0 ⊢
      simp [-idxD, e0, e1]
    · have e2 := hs n ps w o ((mem_allW n w).mp hw').1 (by omega)
      have : wD w = .tuple (pI w) := rfl
      rw [← this] at e2
      cases hc : ascB (ledR ps w) <;> simp [hc, e2]
  refine ex_fin fun K hK => ?_
  simp [key]
  exact hK _ _ rfl
def Sisn (G : GF) : Prop := ∀ (n : Nat) (ps : List Pair), okN n ps → n ≤ 16 → G [netD n ps] = some (.dat (.bool (sortsB n ps)))
theorem isn_ok {Gb : GF} (hb : Sbad Gb) : Sisn (GP (Bis_sorting_net Gb) 0 1) := fun n ps o hn => by
  refine GP_of 0 rfl ?_
  unfold Bis_sorting_net
  have e := hb n ps o hn
  have e2 : ((allW n).filter fun w => !ascB (ledR ps w)).isEmpty = sortsB n ps := by
    unfold sortsB
    rw [Bool.eq_iff_iff, List.isEmpty_iff, List.filter_eq_nil_iff, List.all_eq_true]
    constructor
    · intro q w hw
      have := q w hw
      simpa using this
    · intro q w hw
      have := q w hw
      simp [this]
  generalize ((allW n).filter fun w => !ascB (ledR ps w)) = Z at e e2
  refine ex_fin fun K hK => ?_
  simp [e, e2]
  exact hK _ _ rfl
end K83
set_option Elab.async false
set_option linter.all false
set_option maxRecDepth 100000
set_option maxHeartbeats 4000000
namespace K83
open PySem PySem.Spec PyProof.Rows L2 NV Bal
theorem iRg3_is {a b c : M} {st st1 st2 st3 : Sta} {i j k : Int} (ha : a st = some (.dat (.int i), st1)) (hb : b st1 = some (.dat (.int j), st2)) (hc : c st2 = some (.dat (.int k), st3)) (h : k ≠ 0 ∧ k.natAbs < 1073741824 ∧ Builtin.Range.small i j k = true ∧ 0 ≤ Builtin.Range.rangeSize i j k) :
    iRg3 a b c st = some (rgC i k (Builtin.Range.rangeSize i j k).toNat, st3) := by
  unfold iRg3 mInt
  rw [ha]
  show ((match b st1 with | some (.dat (.int i), st1) => some (i, st1) | _ => none).bind _) = _
  rw [hb]
  show ((match c st2 with | some (.dat (.int i), st1) => some (i, st1) | _ => none).bind _) = _
  rw [hc]
  exact if_pos (safe_iff.mpr h)
theorem merge2 (d a b : Nat) : R_law_merging (d + 1) [.list [.int a, .int b]] = some (.fre [pairP (a, b)]) := by
  unfold R_law_merging
  rw [shut_eq]
  generalize R_law_merging d = G
  refine GP_of 5 rfl ?_
  unfold B_law_merging
  refine ex_cons (ex_if (c := true) (st1 := stL [.val (.list [.int a, .int b]), .emp, .emp, .emp, .emp, .emp] none) (by simp) (fun _ => ?_) (fun h => by cases h))
  refine ex_fin fun K hK => ?_
  simp
  exact hK _ _ rfl
theorem pick0 (x y : PyData) : pickL [x, y] (some 0) none 2 = [x] := by
  unfold pickL
  rw [show sliceRange (sliceBounds (some 0) none (some 2) [x, y].length).1 (sliceBounds (some 0) none (some 2) [x, y].length).2.1 2 = [0] from by
    rw [show [x, y].length = 2 from rfl]; decide +kernel]
  rfl
theorem pick1 (x y : PyData) : pickL [x, y] (some 1) none 2 = [y] := by
  unfold pickL
  rw [show sliceRange (sliceBounds (some 1) none (some 2) [x, y].length).1 (sliceBounds (some 1) none (some 2) [x, y].length).2.1 2 = [1] from by
    rw [show [x, y].length = 2 from rfl]; decide +kernel]
  rfl
theorem merge4 (d a b c e : Nat) : R_law_merging (d + 2) [.list [.int a, .int b, .int c, .int e]] = some (.fre [pairP (a, e), pairP (b, c), pairP (a, b), pairP (c, e)]) := by
  have m1 := merge2 d a e
  have m2 := merge2 d b c
  rw [R_law_merging, shut_eq]
  generalize R_law_merging (d + 1) = G at m1 m2 ⊢
  refine GP_of 5 rfl ?_
  unfold B_law_merging
  refine ex_nx fun K hK => ?_
  simp
  refine hK _ ?_
  clear hK K
  have f := fdivD_z (a := 4) (b := 2) (by decide) (by decide)
  rw [show (4 : Int) / 2 = 2 from rfl] at f
  refine ex_nx fun K hK => ?_
  simp [f]
  refine hK _ ?_
  clear hK K
  have c1 : NV.cutD [PyData.int a, .int b, .int c, .int e] none (some 2) = [.int a, .int b] := rfl
  have c2 : NV.cutD [PyData.int a, .int b, .int c, .int e] (some 2) none = [.int c, .int e] := rfl
  refine ex_nx fun K hK => ?_
  simp [c1, c2]
  refine hK _ ?_
  clear hK K
  have key : C_law_merging_1 G (stL [.val (.list [.int a, .int b, .int c, .int e]), .val (.int 2), .own [.int a, .int b], .own [.int c, .int e], .emp, .emp] none) = some (.fre [pairP (a, b), pairP (c, e)], stL [.val (.list [.int a, .int b, .int c, .int e]), .val (.int 2), .own [.int a, .int b], .own [.int c, .int e], .emp, .emp] none) := by
    unfold C_law_merging_1
    rw [shut_eq]
    have hr := iRg3_is (a := mC (.int 0)) (b := mCallB lenD (aCons (mVar 0) (aNil))) (c := mC (.int 2)) (st := stL [.val (.list [.int a, .int b, .int c, .int e]), .val (.int 2), .own [.int a, .int b], .own [.int c, .int e], .emp, .emp] none) (st1 := stL [.val (.list [.int a, .int b, .int c, .int e]), .val (.int 2), .own [.int a, .int b], .own [.int c, .int e], .emp, .emp] none) (st2 := stL [.val (.list [.int a, .int b, .int c, .int e]), .val (.int 2), .own [.int a, .int b], .own [.int c, .int e], .emp, .emp] none) (st3 := stL [.val (.list [.int a, .int b, .int c, .int e]), .val (.int 2), .own [.int a, .int b], .own [.int c, .int e], .emp, .emp] none) (i := 0) (j := 4) (k := 2) (by simp) (by simp) (by simp) (by decide)
    rw [show (Builtin.Range.rangeSize 0 4 2).toNat = 2 from by decide, show rgC 0 2 2 = [PyData.int 0, .int 2] from rfl] at hr
    exact comp_map [(0 : Nat), 2] (fun i => .int (i : Nat)) (fun i => if i = 0 then pairP (a, b) else pairP (c, e)) hr (by simp) (fun i hi => by
      simp at hi
      rcases hi with rfl | rfl
      · simp [pairP]
      · simp [pairP]) (by decide)
  refine ex_nx fun K hK => ?_
  simp [key]
  refine hK _ ?_
  clear hK K
  have p1 : slSD (.list [PyData.int a, .int b]) (some 0) none 2 = some (.fre [.int a]) := by
    show (if (2 : Int) ≠ 0 then some (R.fre (pickL [PyData.int a, .int b] (some 0) none 2)) else none) = _
    rw [if_pos (by decide)]; exact congrArg some (congrArg R.fre (pick0 _ _))
  have p2 : slSD (.list [PyData.int a, .int b]) (some 1) none 2 = some (.fre [.int b]) := by
    show (if (2 : Int) ≠ 0 then some (R.fre (pickL [PyData.int a, .int b] (some 1) none 2)) else none) = _
    rw [if_pos (by decide)]; exact congrArg some (congrArg R.fre (pick1 _ _))
  have p3 : slSD (.list [PyData.int c, .int e]) (some 0) none 2 = some (.fre [.int c]) := by
    show (if (2 : Int) ≠ 0 then some (R.fre (pickL [PyData.int c, .int e] (some 0) none 2)) else none) = _
    rw [if_pos (by decide)]; exact congrArg some (congrArg R.fre (pick0 _ _))
  have p4 : slSD (.list [PyData.int c, .int e]) (some 1) none 2 = some (.fre [.int e]) := by
    show (if (2 : Int) ≠ 0 then some (R.fre (pickL [PyData.int c, .int e] (some 1) none 2)) else none) = _
    rw [if_pos (by decide)]; exact congrArg some (congrArg R.fre (pick1 _ _))
  refine ex_fin fun K hK => ?_
  simp [p1, p2, p3, p4, m1, m2]
  exact hK _ _ rfl
/-! the counting nets of two and of four lines -/
def cnt2 : List Pair := [(0, 1)]
def cnt4 : List Pair := [(0, 1), (2, 3), (0, 3), (1, 2), (0, 1), (2, 3)]
def Smerge (G : GF) : Prop := (∀ a b : Nat, G [.list [.int a, .int b]] = some (.fre [pairP (a, b)])) ∧ ∀ a b c e : Nat, G [.list [.int a, .int b, .int c, .int e]] = some (.fre [pairP (a, e), pairP (b, c), pairP (a, b), pairP (c, e)])
theorem merge_ok : Smerge (R_law_merging 12) := ⟨fun a b => merge2 11 a b, fun a b c e => merge4 10 a b c e⟩
def Scnt (G : GF) : Prop := G [.int 2] = some (.dat (.list (cnt2.map pairP))) ∧ G [.int 4] = some (.dat (.list (cnt4.map pairP)))
section
variable {G : GF}
/-- a turn of the inner loop -/
theorem turn_is (hm : Smerge G) {n s k : Nat} {F A : List PyData} {x1 : Sl} (hx : x1 = .own F ∨ x1 = .val (.list F)) {fs gs ms : List PyData} (h1 : F[k]? = some (.list fs)) (h2 : F[k + 1]? = some (.list gs)) (hs : s = 1 ∨ s = 2) (hk : k ≤ 100) (hl : fs.length + gs.length + ms.length ≤ 1000) (hA : A.length ≤ 1000)
    (hms : ms = if s = 1 then [pairP (k, k + 1)] else [pairP (2 * k, 2 * k + 3), pairP (2 * k + 1, 2 * k + 2), pairP (2 * k, 2 * k + 1), pairP (2 * k + 2, 2 * k + 3)]) {Q : Out → Sta → Prop}
    (hQ : Q .nx (stL [.val (.int n), x1, .val (.int s), .own (A ++ [.list (fs ++ gs ++ ms)]), .val (.int k), .emp, .emp] none)) :
    Ex (Y_law_counting_1 G FUEL) (stL [.val (.int n), x1, .val (.int s), .own A, .val (.int k), .emp, .emp] none) Q := by
  unfold Y_law_counting_1
  rw [shut_eq]
  have em : mulOk (2 : Int) (s : Int) = true := mul_ok (by decide) (by decide)
  have em2 : mulOk (s : Int) (k : Int) = true := mul_ok (by omega) (by omega)
  have key : C_law_counting_1 G (stL [.val (.int n), x1, .val (.int s), .own A, .val (.int k), .emp, .emp] none) = some (.fre ((List.range (2 * s)).map fun (x : Nat) => .int ((s * k + x : Nat) : Int)), stL [.val (.int n), x1, .val (.int s), .own A, .val (.int k), .emp, .emp] none) := by
    unfold C_law_counting_1
    rw [shut_eq]
    refine comp_map (List.range (2 * s)) (fun i => .int (i : Nat)) (fun (x : Nat) => .int ((s * k + x : Nat) : Int)) (st1 := stL [.val (.int n), x1, .val (.int s), .own A, .val (.int k), .emp, .emp] none) ?_ (by simp) (fun i hi => by simp [em2]) (by rw [List.length_range]; exact z1000 (by omega))
    rw [iRg1_is (n := 2 * s) (st' := stL [.val (.int n), x1, .val (.int s), .own A, .val (.int k), .emp, .emp] none) (by simp [em]) (by omega), rgD_0]
  have eg : G [.list ((List.range (2 * s)).map fun (x : Nat) => .int ((s * k + x : Nat) : Int))] = some (.fre ms) := by
    rcases hs with rfl | rfl
    · rw [hms, if_pos rfl]
      have := hm.1 k (k + 1)
      simpa [List.range_succ] using this
    · rw [hms, if_neg (by decide)]
      have := hm.2 (2 * k) (2 * k + 1) (2 * k + 2) (2 * k + 3)
      simpa [List.range_succ] using this
  generalize ((List.range (2 * s)).map fun (x : Nat) => PyData.int ((s * k + x : Nat) : Int)) = Z at key eg
  have a1 : atI F (k : Int) = some (.list fs) := by rw [NV.atI_nat]; exact h1
  have a2 : atI F ((k : Int) + 1) = some (.list gs) := by
    rw [show (k : Int) + 1 = ((k + 1 : Nat) : Int) from by omega, NV.atI_nat]; exact h2
  have z1 : fs.length + gs.length ≤ 16777216 := by omega
  have z2 : fs.length + (gs.length + ms.length) ≤ 16777216 := by omega
  have z2' : fs.length + gs.length + ms.length ≤ 16777216 := by omega
  have z3 : A.length < 16777216 := by omega
  rcases hx with rfl | rfl
  · refine ex_nx fun K hK => ?_
    simp [key, eg, a1, a2, z1, z2, z2', z3]
    refine hK _ (ex_nil ?_)
    simpa using hQ
  · refine ex_nx fun K hK => ?_
    simp [key, eg, a1, a2, z1, z2, z2', z3]
    refine hK _ (ex_nil ?_)
    simpa using hQ
end
theorem cnt_ok {G : GF} (hm : Smerge G) : Scnt (GP (B_law_counting G) FUEL 1) := by
  have start : ∀ n : Nat, n ≤ 4 → C_law_counting_2 G (stL [.val (.int n), .emp, .emp, .emp, .emp, .emp, .emp] none) = some (.fre ((List.range n).map fun _ => .list []), stL [.val (.int n), .emp, .emp, .emp, .emp, .emp, .emp] none) := fun n hn => by
    unfold C_law_counting_2
    rw [shut_eq]
    refine comp_map (List.range n) (fun i => .int (i : Nat)) (fun _ => .list []) (st1 := stL [.val (.int n), .emp, .emp, .emp, .emp, .emp, .emp] none) ?_ (by simp) (fun i hi => by simp) (by rw [List.length_range]; exact z1000 (by omega))
    rw [iRg1_is (n := n) (st' := stL [.val (.int n), .emp, .emp, .emp, .emp, .emp, .emp] none) (by simp) (by omega), rgD_0]
  -- one turn of the while
  have turn : ∀ (n s : Nat) (F : List PyData) (x1 : Sl) (out : List PyData), (x1 = .own F ∨ x1 = .val (.list F)) → n ≤ 4 → s = 1 ∨ s = 2 → F.length = 2 ∨ F.length = 4 → (∀ (k : Nat), 2 * k + 1 < F.length → ∃ fs gs ms : List PyData, F[2 * k]? = some (.list fs) ∧ F[2 * k + 1]? = some (.list gs) ∧ fs.length + gs.length + ms.length ≤ 1000 ∧
      ms = (if s = 1 then [pairP (2 * k, 2 * k + 1)] else [pairP (2 * (2 * k), 2 * (2 * k) + 3), pairP (2 * (2 * k) + 1, 2 * (2 * k) + 2), pairP (2 * (2 * k), 2 * (2 * k) + 1), pairP (2 * (2 * k) + 2, 2 * (2 * k) + 3)]) ∧ out[k]? = some (.list (fs ++ gs ++ ms))) → out.length = F.length / 2 →
      ∀ {Q : Out → Sta → Prop}, (∀ st, keep [0, 1, 2] st = stL [.val (.int n), .val (.list out), .val (.int ((2 * s : Nat) : Int)), .emp, .emp, .emp, .emp] none → Q .nx st) →
      Ex (W_law_counting_1 G FUEL) (stL [.val (.int n), x1, .val (.int s), .emp, .emp, .emp, .emp] none) Q := by
    intro n s F x1 out hx hn hs hF hk ho Q hQ
    unfold W_law_counting_1
    rw [shut_eq]
    refine ex_nx fun K hK => ?_
    simp
    refine hK _ ?_
    clear hK K
    have hr := iRg3_is (a := mC (.int 0)) (b := mCallB lenD (aCons (mVar 1) (aNil))) (c := mC (.int 2)) (st := stL [.val (.int n), x1, .val (.int s), .own [], .emp, .emp, .emp] none) (st1 := stL [.val (.int n), x1, .val (.int s), .own [], .emp, .emp, .emp] none) (st2 := stL [.val (.int n), x1, .val (.int s), .own [], .emp, .emp, .emp] none) (st3 := stL [.val (.int n), x1, .val (.int s), .own [], .emp, .emp, .emp] none) (i := 0) (j := F.length) (k := 2) (by simp) (by rcases hx with rfl | rfl <;> simp) (by simp) (by rcases hF with h | h <;> rw [h] <;> decide)
    have hrg : rgC 0 2 (Builtin.Range.rangeSize 0 F.length 2).toNat = (List.range (F.length / 2)).map fun k => PyData.int ((2 * k : Nat) : Int) := by
      rcases hF with h | h
      · rw [h, show (Builtin.Range.rangeSize 0 ((2 : Nat) : Int) 2).toNat = 1 from by decide]; rfl
      · rw [h, show (Builtin.Range.rangeSize 0 ((4 : Nat) : Int) 2).toNat = 2 from by decide]; rfl
    rw [hrg] at hr
    refine ex_cons (ex_for (fun i st => st = stL [.val (.int n), x1, .val (.int s), .own (out.take i), .emp, .emp, .emp] none) hr (by simp) ?_ ?_)
    · rintro i d st hd rfl
      rw [List.getElem?_map] at hd
      obtain ⟨k, hk', rfl⟩ := map_some2 hd
      obtain ⟨hi, rfl⟩ := range_at hk'
      obtain ⟨fs, gs, ms, q1, q2, q3, q4, q5⟩ := hk i (by rcases hF with h | h <;> rw [h] at hi ⊢ <;> omega)
      refine ⟨_, (by simp <;> rfl), ?_⟩
      rw [show (2 : Int) * (i : Int) = ((2 * i : Nat) : Int) from by omega]
      refine turn_is hm hx q1 q2 hs (by rcases hF with h | h <;> rw [h] at hi <;> omega) q3 (by rw [List.length_take]; omega) q4 ?_
      simp [List.take_add_one, q5]
    · intro st hst
      rw [List.length_map, List.length_range, ← ho, List.take_length] at hst
      refine ex_keep ?_
      rw [← keep_keep (ks := [0, 1, 2, 3]) (by decide), hst]
      have em : mulOk (2 : Int) (s : Int) = true := mul_ok (by decide) (by decide)
      refine ex_nx fun K hK => ?_
      simp [em]
      refine hK _ (ex_nil (hQ _ ?_))
      simp
  constructor
  · refine GP_of 6 rfl ?_
    unfold B_law_counting
    have e1 := start 2 (by decide)
    simp [List.range_succ] at e1
    refine ex_nx fun K hK => ?_
    simp [e1]
    refine hK _ ?_
    clear hK K
    refine ex_nx fun K hK => ?_
    simp
    refine hK _ ?_
    clear hK K
    refine ex_cons (sWhile_ex (m := 1) (fun m st => (m = 1 ∧ st = stL [.val (.int 2), .own [.list [], .list []], .val (.int 1), .emp, .emp, .emp, .emp] none) ∨ (m = 0 ∧ st = stL [.val (.int 2), .val (.list [.list (cnt2.map pairP)]), .val (.int 2), .emp, .emp, .emp, .emp] none)) (by unfold FUEL; decide) (.inl ⟨rfl, by simp⟩) ?_)
    rintro m st (⟨rfl, rfl⟩ | ⟨rfl, rfl⟩)
    · refine ⟨true, _, (by simp <;> rfl), (fun h => by cases h), fun _ => ?_⟩
      refine turn 2 1 [.list [], .list []] _ [.list (cnt2.map pairP)] (.inl rfl) (by decide) (.inl rfl) (.inl rfl) (fun k hk => ?_) rfl fun st hst => ⟨0, by decide, .inr ⟨rfl, by rw [hst]; rfl⟩⟩
      have : k = 0 := by simp at hk; omega
      subst this
      exact ⟨[], [], [pairP (0, 1)], rfl, rfl, by decide, rfl, rfl⟩
    · refine ⟨false, _, (by simp <;> rfl), fun _ => ?_, fun h => by cases h⟩
      refine ex_keep ?_
      refine ex_fin fun K hK => ?_
      simp
      exact hK _ _ rfl
  · refine GP_of 6 rfl ?_
    unfold B_law_counting
    have e1 := start 4 (by decide)
    simp [List.range_succ] at e1
    refine ex_nx fun K hK => ?_
    simp [e1]
    refine hK _ ?_
    clear hK K
    refine ex_nx fun K hK => ?_
    simp
    refine hK _ ?_
    clear hK K
    refine ex_cons (sWhile_ex (m := 2) (fun m st => (m = 2 ∧ st = stL [.val (.int 4), .own [.list [], .list [], .list [], .list []], .val (.int 1), .emp, .emp, .emp, .emp] none) ∨ (m = 1 ∧ st = stL [.val (.int 4), .val (.list [.list [pairP (0, 1)], .list [pairP (2, 3)]]), .val (.int 2), .emp, .emp, .emp, .emp] none) ∨ (m = 0 ∧ st = stL [.val (.int 4), .val (.list [.list (cnt4.map pairP)]), .val (.int 4), .emp, .emp, .emp, .emp] none)) (by unfold FUEL; decide) (.inl ⟨rfl, by simp⟩) ?_)
    rintro m st (⟨rfl, rfl⟩ | ⟨rfl, rfl⟩ | ⟨rfl, rfl⟩)
    · refine ⟨true, _, (by simp <;> rfl), (fun h => by cases h), fun _ => ?_⟩
      refine turn 4 1 [.list [], .list [], .list [], .list []] _ [.list [pairP (0, 1)], .list [pairP (2, 3)]] (.inl rfl) (by decide) (.inl rfl) (.inr rfl) (fun k hk => ?_) rfl fun st hst => ⟨1, by decide, .inr (.inl ⟨rfl, by rw [hst]; rfl⟩)⟩
      have : k = 0 ∨ k = 1 := by simp at hk; omega
      rcases this with rfl | rfl
      · exact ⟨[], [], [pairP (0, 1)], rfl, rfl, by decide, rfl, rfl⟩
      · exact ⟨[], [], [pairP (2, 3)], rfl, rfl, by decide, rfl, rfl⟩
    · refine ⟨true, _, (by simp <;> rfl), (fun h => by cases h), fun _ => ?_⟩
      refine turn 4 2 [.list [pairP (0, 1)], .list [pairP (2, 3)]] _ [.list (cnt4.map pairP)] (.inr rfl) (by decide) (.inr rfl) (.inl rfl) (fun k hk => ?_) rfl fun st hst => ⟨0, by decide, .inr (.inr ⟨rfl, by rw [hst]; rfl⟩)⟩
      have : k = 0 := by simp at hk; omega
      subst this
      exact ⟨[pairP (0, 1)], [pairP (2, 3)], [pairP (0, 3), pairP (1, 2), pairP (0, 1), pairP (2, 3)], rfl, rfl, by decide, rfl, rfl⟩
    · refine ⟨false, _, (by simp <;> rfl), fun _ => ?_, fun h => by cases h⟩
      refine ex_keep ?_
      refine ex_fin fun K hK => ?_
      simp
      exact hK _ _ rfl
end K83
set_option Elab.async false
set_option linter.all false
set_option maxRecDepth 100000
set_option maxHeartbeats 4000000
/-! Bal3: the longest way, by ways; what a step is -/
namespace Bal
open PySem NV
def on (x : Nat) (p : Pair) : Bool := decide (p.1 = x) || decide (p.2 = x)
def far : List Pair → Nat → Nat
  | [], _ => 0
  | p :: ps, x => if on x p = true then 1 + max (far ps p.1) (far ps p.2) else far ps x
theorem on_iff {x : Nat} {p : Pair} : on x p = true ↔ p.1 = x ∨ p.2 = x := by unfold on; rw [Bool.or_eq_true, decide_eq_true_iff, decide_eq_true_iff]
theorem far_best {n : Nat} (hn : 1 ≤ n) : ∀ (ps : List Pair) {w : List Int}, okN n ps → w.length = n → (∀ i, i < n → nth w i + far ps i ≤ mxI (ledW ps w)) ∧ ∃ i, i < n ∧ nth w i + far ps i = mxI (ledW ps w)
  | [], w, _, hw => by
    have hne : w ≠ [] := fun e => by rw [e] at hw; simp at hw; omega
    refine ⟨fun i hi => ?_, ?_⟩
    · have := mxI_le _ (nth_mem (ns := w) (i := i) (by omega))
      show nth w i + ((0 : Nat) : Int) ≤ mxI w
      omega
    · obtain ⟨i, hi, e⟩ := List.getElem_of_mem (mxI_mem hne)
      rw [nth_lt hi] at e
      exact ⟨i, by omega, by show nth w i + ((0 : Nat) : Int) = mxI w; omega⟩
  | p :: ps, w, o, hw => by
    have hp := o p (List.mem_cons_self ..)
    obtain ⟨h1, i0, hi0, h2⟩ := far_best hn ps (w := stepW w p) (fun q hq => o q (List.mem_cons_of_mem _ hq)) (by rw [stepW_len, hw])
    have a1 := h1 p.1 (by omega)
    have a2 := h1 p.2 (by omega)
    rw [stepW_nth hp.1 (by omega), if_pos (.inr rfl)] at a1
    rw [stepW_nth hp.1 (by omega), if_pos (.inl rfl)] at a2
    show (∀ i, i < n → nth w i + ((if on i p = true then 1 + max (far ps p.1) (far ps p.2) else far ps i : Nat) : Int) ≤ mxI (ledW ps (stepW w p))) ∧ ∃ i, i < n ∧ nth w i + ((if on i p = true then 1 + max (far ps p.1) (far ps p.2) else far ps i : Nat) : Int) = mxI (ledW ps (stepW w p))
    refine ⟨fun i hi => ?_, ?_⟩
    · split
      · rename_i h
        rcases on_iff.mp h with rfl | rfl <;> omega
      · rename_i h
        have := h1 i hi
        rw [stepW_nth hp.1 (by omega), if_neg (fun q => h (on_iff.mpr (by rcases q with q | q; exact .inr q.symm; exact .inl q.symm)))] at this
        exact this
    · rw [stepW_nth hp.1 (by omega)] at h2
      by_cases q : i0 = p.2 ∨ i0 = p.1
      · rw [if_pos q] at h2
        by_cases c : nth w p.1 ≤ nth w p.2
        · refine ⟨p.2, by omega, ?_⟩
          rw [if_pos (on_iff.mpr (.inr rfl))]
          rcases q with rfl | rfl <;> omega
        · refine ⟨p.1, by omega, ?_⟩
          rw [if_pos (on_iff.mpr (.inl rfl))]
          rcases q with rfl | rfl <;> omega
      · rw [if_neg q] at h2
        refine ⟨i0, hi0, ?_⟩
        rw [if_neg (fun h => q (by rcases on_iff.mp h with h | h; exact .inr h.symm; exact .inl h.symm))]
        exact h2
theorem rep_nth {n i : Nat} (hi : i < n) : nth (List.replicate n (0 : Int)) i = 0 := by
  have := nth_lt (L := List.replicate n (0 : Int)) (i := i) (by rw [List.length_replicate]; exact hi)
  rw [← this, List.getElem_replicate]
theorem way_far {n : Nat} {ps : List Pair} (hn : 1 ≤ n) (o : okN n ps) : (∀ i, i < n → far ps i ≤ way n ps) ∧ ∃ i, i < n ∧ far ps i = way n ps := by
  obtain ⟨h1, i, hi, h2⟩ := far_best hn ps (w := List.replicate n 0) o (List.length_replicate ..)
  rw [(way_is hn o).1] at h1 h2
  rw [rep_nth hi] at h2
  refine ⟨fun j hj => ?_, i, hi, by omega⟩
  have := h1 j hj
  rw [rep_nth hj] at this
  omega
/-- the places where a line is met, from some place on -/
def met (ps : List Pair) (b m x : Nat) : List Nat := (List.range' b m).filter fun k => match ps[k]? with
  | some p => on x p
  | none => false
theorem met_far {ps : List Pair} {x : Nat} : ∀ (m b : Nat), b + m = ps.length → (met ps b m x).take 1 = [] ∧ far (ps.drop b) x = 0 ∨ ∃ k p, (met ps b m x).take 1 = [k] ∧ b ≤ k ∧ ps[k]? = some p ∧ far (ps.drop b) x = 1 + max (far (ps.drop (k + 1)) p.1) (far (ps.drop (k + 1)) p.2)
  | 0, b, h => by
    left
    rw [List.drop_of_length_le (l := ps) (by omega)]
    exact ⟨rfl, rfl⟩
  | m + 1, b, h => by
    have hb : b < ps.length := by omega
    have hd : ps.drop b = ps[b] :: ps.drop (b + 1) := List.drop_eq_getElem_cons hb
    have hg : ps[b]? = some ps[b] := List.getElem?_eq_getElem hb
    have hm : met ps b (m + 1) x = if on x ps[b] = true then b :: met ps (b + 1) m x else met ps (b + 1) m x := by
      unfold met
      rw [List.range'_succ, List.filter_cons, hg]
    have hf : far (ps.drop b) x = if on x ps[b] = true then 1 + max (far (ps.drop (b + 1)) ps[b].1) (far (ps.drop (b + 1)) ps[b].2) else far (ps.drop (b + 1)) x := by
      rw [hd]; rfl
    rw [hm, hf]
    by_cases c : on x ps[b] = true
    · rw [if_pos c, if_pos c]
      exact .inr ⟨b, ps[b], rfl, Nat.le_refl _, hg, rfl⟩
    · rw [if_neg c, if_neg c]
      rcases met_far (ps := ps) (x := x) m (b + 1) (by omega) with q | ⟨k, p, q1, q2, q3, q4⟩
      · exact .inl q
      · exact .inr ⟨k, p, q1, by omega, q3, q4⟩
/-! ### the step of a sum -/
theorem sum_le : ∀ {A B : List Int}, A.length = B.length → (∀ i, i < A.length → nth A i ≤ nth B i) → A.sum ≤ B.sum
  | [], [], _, _ => Int.le_refl _
  | [], _ :: _, h, _ => by simp at h
  | _ :: _, [], h, _ => by simp at h
  | a :: A, b :: B, h, q => by
    have h0 : a ≤ b := q 0 (by simp)
    have := sum_le (A := A) (B := B) (by simpa using h) fun i hi => q (i + 1) (by simpa using hi)
    rw [List.sum_cons, List.sum_cons]; omega
/-- i members more by one -/
def flat (n i : Nat) (x : Int) : List Int := (List.range n).map fun j => if j < i then x + 1 else x
theorem flat_sum (i : Nat) (x : Int) : ∀ n : Nat, (flat n i x).sum = n * x + (min i n : Nat)
  | 0 => by simp [flat]
  | n + 1 => by
    have ih := flat_sum i x n
    unfold flat at ih ⊢
    rw [List.range_succ, List.map_append, List.sum_append, ih]
    have e : ((n + 1 : Nat) : Int) * x = n * x + x := by rw [Int.natCast_add, Int.add_mul]; simp
    rw [e]
    by_cases c : n < i
    · simp [c]; omega
    · simp [c]; omega
theorem flat_len (n i : Nat) (x : Int) : (flat n i x).length = n := by unfold flat; rw [List.length_map, List.length_range]
theorem flat_nth {n i j : Nat} {x : Int} (h : j < n) : nth (flat n i x) j = if j < i then x + 1 else x := by
  have := nth_lt (L := flat n i x) (i := j) (by rw [flat_len]; exact h)
  rw [← this]
  unfold flat
  rw [List.getElem_map, List.getElem_range]
theorem step_at {n : Nat} {L : List Int} (hL : L.length = n) (h : stepB L = true) {i : Nat} (hi : i < n) : nth L i = (L.sum + n - 1 - i) / n := by
  have hd : descB L = true := by unfold stepB at h; rw [Bool.and_eq_true] at h; exact h.1
  have up : L.sum ≤ (flat n i (nth L i)).sum := sum_le (by rw [flat_len, hL]) fun j hj => by
    rw [flat_nth (by omega)]
    split
    · exact step_near h (by omega) (by omega)
    · have := desc_le hd (j - i) i (by omega)
      rw [show i + (j - i) = j from by omega] at this
      exact this
  have lo : (flat n (i + 1) (nth L i - 1)).sum ≤ L.sum := sum_le (by rw [flat_len, hL]) fun j hj => by
    rw [flat_len] at hj
    rw [flat_nth hj]
    split
    · have := desc_le hd (i - j) j (by omega)
      rw [show j + (i - j) = i from by omega] at this
      omega
    · have := step_near h (i := i) (j := j) (by omega) (by omega)
      omega
  rw [flat_sum] at up lo
  have e1 : ((min i n : Nat) : Int) = i := by omega
  have e2 : ((min (i + 1) n : Nat) : Int) = i + 1 := by omega
  rw [e1] at up
  rw [e2, Int.mul_sub] at lo
  have hn : (0 : Int) < n := by omega
  generalize nth L i = x at up lo
  generalize L.sum = S at up lo
  symm
  have hx : (n : Int) * x = x * n := Int.mul_comm _ _
  apply Int.le_antisymm
  · have : (S + n - 1 - i) / n < x + 1 := by
      apply Int.ediv_lt_of_lt_mul hn
      rw [Int.add_mul]; omega
    omega
  · apply Int.le_ediv_of_mul_le hn
    omega
def stepOf (n : Nat) (s : Int) : List Int := (List.range n).map fun i => (s + n - 1 - (i : Nat)) / n
theorem step_is {n : Nat} {L : List Int} (hL : L.length = n) (h : stepB L = true) : L = stepOf n L.sum := by
  have hl : (stepOf n L.sum).length = n := by unfold stepOf; rw [List.length_map, List.length_range]
  refine row_ext (by rw [hl, hL]) fun i hi => ?_
  rw [step_at hL h (by omega)]
  have := nth_lt (L := stepOf n L.sum) (i := i) (by rw [hl]; omega)
  rw [← this]
  unfold stepOf
  rw [List.getElem_map, List.getElem_range]
end Bal
set_option Elab.async false
set_option linter.all false
set_option maxRecDepth 100000
set_option maxHeartbeats 4000000
namespace K83
open PySem PySem.Spec PyProof.Rows L2 NV Bal
/-! step_of_sum -/
def Ssos (G : GF) : Prop := ∀ (n : Nat) (s : Int), 1 ≤ n → n ≤ 100 → G [.int n, .int s] = some (.dat (.tuple (pI (stepOf n s))))
theorem sos_ok : Ssos (GP Bstep_of_sum 0 2) := fun n s h1 h2 => by
  refine GP_of 1 rfl ?_
  unfold Bstep_of_sum
  have key : Cstep_of_sum_1 (stL [.val (.int n), .val (.int s), .emp] none) = some (.fre ((List.range n).map fun (i : Nat) => .int ((s + n - 1 - i) / n)), stL [.val (.int n), .val (.int s), .emp] none) := by
    unfold Cstep_of_sum_1
    rw [shut_eq]
    refine comp_map (List.range n) (fun i => .int (i : Nat)) (fun (i : Nat) => .int ((s + n - 1 - i) / n)) (st1 := stL [.val (.int n), .val (.int s), .emp] none) ?_ (by simp) (fun i hi => ?_) (by rw [List.length_range]; exact z1000 (by omega))
    · rw [iRg1_is (n := n) (st' := stL [.val (.int n), .val (.int s), .emp] none) (by simp) (by omega), rgD_0]
    · have f := fdivD_z (a := s + n - 1 - i) (b := n) (by omega) (by omega)
      simp [f]
  have e : ((List.range n).map fun (i : Nat) => PyData.int ((s + n - 1 - i) / n)) = pI (stepOf n s) := by unfold stepOf pI; rw [List.map_map]; rfl
  rw [e] at key
  refine ex_fin fun K hK => ?_
  simp [key]
  exact hK _ _ rfl
/-! does_count -/
def counts (n : Nat) (ps : List Pair) : Bool := (unev n ps).isNone && (unst n ps).isNone
def Scounts (G : GF) : Prop := ∀ (n : Nat) (ps : List Pair), few n ps → G [netD n ps] = some (.dat (.bool (counts n ps)))
theorem counts_ok {Gu Gf : GF} (hu : Sunev Gu) (hf : Sunst Gf) : Scounts (GP (Bdoes_count Gu Gf) 0 1) := fun n ps f => by
  refine GP_of 0 rfl ?_
  unfold Bdoes_count
  have e1 := hu n ps f
  have e2 := hf n ps f
  refine ex_fin fun K hK => ?_
  cases h1 : unev n ps with
  | some l =>
    simp [e1, h1, optN]
    refine hK _ _ ?_
    simp [counts, h1]
  | none =>
    cases h2 : unst n ps with
    | some r =>
      simp [e1, e2, h1, h2, optN, optD, rD]
      refine hK _ _ ?_
      simp [counts, h1, h2]
    | none =>
      simp [e1, e2, h1, h2, optN, optD]
      refine hK _ _ ?_
      simp [counts, h1, h2]
/-! the longest way, by ways -/
abbrev Tk := Nat × Nat × Nat
def tkD (t : Tk) : PyData := .tuple [.int t.1, .int t.2.1, .int t.2.2]
def cost (len : Nat) (S : List Tk) : Nat := (S.map fun t => 3 ^ (len + 1 - t.2.1)).sum
theorem shaped_tks (S : List Tk) : SeqAt.shaped (.list (S.map tkD)) = true := by
  have h : ∀ S : List Tk, PyData.canLayAll0 (S.map tkD) = true ∧ PyData.depthAll (S.map tkD) ≤ 1 := by
    intro S
    induction S with
    | nil => exact ⟨rfl, Nat.zero_le _⟩
    | cons t S ih =>
      refine ⟨?_, ?_⟩
      · show (PyData.canLay0 (tkD t) && PyData.canLayAll0 (S.map tkD)) = true
        rw [ih.1]; rfl
      · show max (PyData.depth (tkD t)) (PyData.depthAll (S.map tkD)) ≤ 1
        have : PyData.depth (tkD t) = 1 := rfl
        omega
  obtain ⟨h1, h2⟩ := h S
  show (PyData.canLayAll0 (S.map tkD) && decide (PyData.depthAll (S.map tkD) + 1 ≤ 64)) = true
  rw [h1, decide_eq_true (by omega)]; rfl
def topF (ps : List Pair) (S : List Tk) (m : Nat) : Prop := ∀ w : Nat, (w = m ∨ w ∈ S.map fun t => t.2.2 + far (ps.drop t.2.1) t.1) → True
/-- most of some -/
def mxN (m : Nat) : List Nat → Nat
  | [] => m
  | x :: xs => max x (mxN m xs)
theorem mxN_app (m : Nat) : ∀ (a b : List Nat), mxN m (a ++ b) = max (mxN m a) (mxN m b)
  | [], b => by
    show mxN m b = max m (mxN m b)
    have : ∀ b : List Nat, m ≤ mxN m b := fun b => by
      induction b with
      | nil => exact Nat.le_refl _
      | cons x xs ih => show m ≤ max x (mxN m xs); omega
    have := this b
    omega
  | x :: a, b => by
    show max x (mxN m (a ++ b)) = max (max x (mxN m a)) (mxN m b)
    rw [mxN_app m a b]; omega
theorem mxN_m (m k : Nat) : ∀ a : List Nat, mxN (max m k) a = max k (mxN m a)
  | [] => by show max m k = max k m; omega
  | x :: a => by
    show max x (mxN (max m k) a) = max k (max x (mxN m a))
    rw [mxN_m m k a]; omega
def vals (ps : List Pair) (S : List Tk) : List Nat := S.map fun t => t.2.2 + far (ps.drop t.2.1) t.1
def Slway (G : GF) : Prop := ∀ (n : Nat) (ps : List Pair), okN n ps → 1 ≤ n → n ≤ 4 → ps.length ≤ 6 → G [netD n ps] = some (.dat (.int (way n ps)))
theorem mxN_le {m b : Nat} : ∀ {a : List Nat}, m ≤ b → (∀ x ∈ a, x ≤ b) → mxN m a ≤ b
  | [], h, _ => h
  | x :: a, h, q => by
    have := mxN_le (a := a) h fun y hy => q y (List.mem_cons_of_mem _ hy)
    have := q x (List.mem_cons_self ..)
    show max x (mxN m a) ≤ b
    omega
theorem le_mxN {m : Nat} : ∀ {a : List Nat} {x : Nat}, x ∈ a → x ≤ mxN m a
  | y :: a, x, h => by
    show x ≤ max y (mxN m a)
    rcases List.mem_cons.mp h with rfl | h
    · omega
    · have := le_mxN (m := m) h; omega
theorem start_is {n : Nat} {ps : List Pair} (h1 : 1 ≤ n) (o : okN n ps) : mxN 0 (vals ps ((List.range n).map fun k => (k, 0, 0))) = way n ps := by
  obtain ⟨a, i, hi, b⟩ := way_far h1 o
  apply Nat.le_antisymm
  · refine mxN_le (Nat.zero_le _) fun x hx => ?_
    unfold vals at hx
    rw [List.map_map] at hx
    obtain ⟨k, hk, rfl⟩ := List.mem_map.mp hx
    have := a k (List.mem_range.mp hk)
    simpa using this
  · rw [← b]
    refine le_mxN ?_
    unfold vals
    rw [List.map_map]
    exact List.mem_map.mpr ⟨i, List.mem_range.mpr hi, by simp⟩
end K83
set_option Elab.async false
set_option linter.all false
set_option maxRecDepth 100000
set_option maxHeartbeats 4000000
namespace K83
open PySem PySem.Spec PyProof.Rows L2 NV Bal
theorem inD_pair (x i j : Nat) : inD (.int x) (.tuple [.int i, .int j]) = some (.dat (.bool (on x (i, j)))) := by
  have e : ∀ a : Nat, PyData.eqv (.int a) (.int x) = decide (a = x) := fun a => by
    show ((a : Int) == (x : Int)) = decide (a = x)
    by_cases c : a = x
    · subst c; simp
    · have : ¬ ((a : Int) = (x : Int)) := by omega
      simp [c, this]
  show (some (([PyData.int i, PyData.int j].any fun y => PyData.eqv y (.int x)))).map _ = _
  simp only [List.any_cons, List.any_nil, e, Bool.or_false]
  rfl
theorem on_is {n : Nat} {ps : List Pair} {a1 s2 : Sl} {h b m : Nat} (hb : b ≤ ps.length) (hl : ps.length ≤ 16) : C_law_way_2 (stL [.val (netD n ps), a1, s2, .val (.int h), .val (.int b), .val (.int m), .emp, .emp, .emp] none) =
    some (.fre (pN (met ps b (ps.length - b) h)), stL [.val (netD n ps), a1, s2, .val (.int h), .val (.int b), .val (.int m), .emp, .emp, .emp] none) := by
  unfold C_law_way_2
  rw [shut_eq]
  have hr : iRg2 (mVar 4) (mCallB lenD (aCons (mBin idxD (mVar 0) (mC (.int 1))) (aNil))) (stL [.val (netD n ps), a1, s2, .val (.int h), .val (.int b), .val (.int m), .emp, .emp, .emp] none) = some ((List.range' b (ps.length - b)).map fun k => PyData.int (k : Nat), stL [.val (netD n ps), a1, s2, .val (.int h), .val (.int b), .val (.int m), .emp, .emp, .emp] none) := by
    rw [iRg2_int (i := b) (j := ps.length) (st1 := stL [.val (netD n ps), a1, s2, .val (.int h), .val (.int b), .val (.int m), .emp, .emp, .emp] none) (st2 := stL [.val (netD n ps), a1, s2, .val (.int h), .val (.int b), .val (.int m), .emp, .emp, .emp] none) (by simp) (by simp [netD]) (by omega) (by omega) (by omega) (by omega), show ((ps.length : Int) - (b : Int)).toNat = ps.length - b from by omega, List.range'_eq_map_range, List.map_map]
    unfold rgD
    congr 2
  refine comp_filter (List.range' b (ps.length - b)) (fun k => .int (k : Nat)) (fun k => match ps[k]? with | some p => on h p | none => false) (fun k => .int (k : Nat)) hr (by simp) (fun k hk => ?_) (by rw [List.length_range']; exact z1000 (by omega))
  have hk' := List.mem_range'.mp hk
  obtain ⟨j, hj, hjk⟩ := hk'
  have hlt : k < ps.length := by omega
  have hg : ps[k]? = some ps[k] := List.getElem?_eq_getElem hlt
  have e1 : atI (ps.map pairP) (k : Int) = some (pairP ps[k]) := by rw [NV.atI_nat, List.getElem?_map, hg]; rfl
  have e2 := inD_pair h ps[k].1 ps[k].2
  rw [show PyData.tuple [.int ps[k].1, .int ps[k].2] = pairP ps[k] from rfl] at e2
  rw [hg]
  generalize hp : ps[k] = p at e1 e2 ⊢
  cases hc : on h (p.1, p.2) with
  | true =>
    rw [hc] at e2
    have hc' : on h p = true := hc
    simp [netD, e1, e2, hc']
  | false =>
    rw [hc] at e2
    have hc' : on h p = false := hc
    simp [netD, e1, e2, hc']
theorem cost_app (len : Nat) (S T : List Tk) : cost len (S ++ T) = cost len S + cost len T := by unfold cost; rw [List.map_append, List.sum_append]
theorem pow_cost {len b k : Nat} (h1 : b ≤ k) (h2 : k < len) : 3 ^ (len + 1 - (k + 1)) + 3 ^ (len + 1 - (k + 1)) < 3 ^ (len + 1 - b) := by
  have e : 3 ^ (len + 1 - k) = 3 * 3 ^ (len + 1 - (k + 1)) := by
    rw [show len + 1 - k = (len + 1 - (k + 1)) + 1 from by omega, Nat.pow_succ]; omega
  have q : 1 ≤ 3 ^ (len + 1 - (k + 1)) := Nat.one_le_pow _ _ (by decide)
  have : 3 ^ (len + 1 - k) ≤ 3 ^ (len + 1 - b) := Nat.pow_le_pow_right (by decide) (by omega)
  omega
/-- a turn -/
theorem turn_way {n : Nat} {ps : List Pair} (o : okN n ps) (hl : ps.length ≤ 16) {most : Nat} {S : List Tk} {t : Tk} (ht : t.2.1 ≤ ps.length) (hS : S.length ≤ 100000) {Q : Out → Sta → Prop}
    (hQ : ∀ (S' : List Tk) s, cost ps.length S' < cost ps.length (S ++ [t]) → (∀ u ∈ S', u ∈ S ∨ u.2.1 ≤ ps.length) → mxN (max most t.2.2) (vals ps S') = mxN most (vals ps (S ++ [t])) → keep [0, 1, 2] s = stL [.val (netD n ps), .val (.int ((max most t.2.2 : Nat) : Int)), .own (S'.map tkD), .emp, .emp, .emp, .emp, .emp, .emp] none → Q .nx s) :
    Ex (W_law_way_1 FUEL) (stL [.val (netD n ps), .val (.int most), .own ((S ++ [t]).map tkD), .emp, .emp, .emp, .emp, .emp, .emp] none) Q := by
  unfold W_law_way_1
  rw [shut_eq]
  have hpop : mPop0 2 (stL [.val (netD n ps), .val (.int most), .own ((S ++ [t]).map tkD), .emp, .emp, .emp, .emp, .emp, .emp] none) = some (.dat (tkD t), stL [.val (netD n ps), .val (.int most), .own (S.map tkD), .emp, .emp, .emp, .emp, .emp, .emp] none) := by
    unfold mPop0
    simp
  refine ex_nx fun K hK => ?_
  simp only [NX_is, sAsgT, hpop, Option.bind_some]
  simp [tkD]
  refine hK _ ?_
  clear hK K
  have e1 := on_is (n := n) (a1 := .val (.int most)) (s2 := .own (S.map tkD)) (h := t.1) (b := t.2.1) (m := t.2.2) ht hl
  refine ex_nx fun K hK => ?_
  simp [e1]
  refine hK _ ?_
  clear hK K e1
  have em := maxA_z (most : Int) (t.2.2 : Int)
  rw [show max (most : Int) (t.2.2 : Int) = ((max most t.2.2 : Nat) : Int) from by omega] at em
  refine ex_nx fun K hK => ?_
  simp only [NX_is, sAsg, mCallB, aCons, aNil]
  simp [em]
  refine hK _ ?_
  clear hK K em
  generalize hM : max most t.2.2 = M at hQ ⊢
  have hc : NV.cutD (pN (met ps t.2.1 (ps.length - t.2.1) t.1)) none (some 1) = pN ((met ps t.2.1 (ps.length - t.2.1) t.1).take 1) := by
    rw [show (1 : Int) = ((1 : Nat) : Int) from rfl, cutD_to]; exact (List.map_take ..).symm
  have hpos : 1 ≤ 3 ^ (ps.length + 1 - t.2.1) := Nat.one_le_pow _ _ (by decide)
  rcases met_far (ps := ps) (x := t.1) (ps.length - t.2.1) t.2.1 (by omega) with ⟨q1, q2⟩ | ⟨k, p, q1, q2, q3, q4⟩
  · rw [q1] at hc
    refine ex_cons (ex_for (ds := []) (st1 := stL [.val (netD n ps), .val (.int M), .own (S.map tkD), .val (.int t.1), .val (.int t.2.1), .val (.int t.2.2), .own (pN (met ps t.2.1 (ps.length - t.2.1) t.1)), .emp, .emp] none) (fun _ s => s = stL [.val (netD n ps), .val (.int M), .own (S.map tkD), .emp, .emp, .val (.int t.2.2), .emp, .emp, .emp] none) (by simp [hc]) (by simp) (fun i d s hd _ => by simp at hd) fun s hs => ex_nil ?_)
    refine hQ S s ?_ (fun u hu => .inl hu) ?_ ?_
    · rw [cost_app]
      have : cost ps.length [t] = 3 ^ (ps.length + 1 - t.2.1) := by simp [cost]
      omega
    · have ev : vals ps (S ++ [t]) = vals ps S ++ [t.2.2 + 0] := by
        unfold vals
        rw [List.map_append]
        simp only [List.map_cons, List.map_nil, q2]
      rw [ev, mxN_app]
      rw [← hM]
      show mxN (max most t.2.2) (vals ps S) = max (mxN most (vals ps S)) (max (t.2.2 + 0) most)
      rw [mxN_m]
      have : most ≤ mxN most (vals ps S) := by
        generalize vals ps S = L
        induction L with
        | nil => exact Nat.le_refl _
        | cons x L ih => show most ≤ max x (mxN most L); omega
      omega
    · rw [← keep_keep (ks := [0, 1, 2, 5]) (by decide), hs]; simp
  · rw [q1] at hc
    have hk : k < ps.length := (List.getElem?_eq_some_iff.mp q3).1
    refine ex_cons (ex_for (ds := [.int k]) (st1 := stL [.val (netD n ps), .val (.int M), .own (S.map tkD), .val (.int t.1), .val (.int t.2.1), .val (.int t.2.2), .own (pN (met ps t.2.1 (ps.length - t.2.1) t.1)), .emp, .emp] none) (fun i s => i = 0 ∧ s = stL [.val (netD n ps), .val (.int M), .own (S.map tkD), .emp, .emp, .val (.int t.2.2), .emp, .emp, .emp] none ∨ i = 1 ∧ s = stL [.val (netD n ps), .val (.int M), .own ((S ++ [(p.1, k + 1, t.2.2 + 1), (p.2, k + 1, t.2.2 + 1)]).map tkD), .emp, .emp, .val (.int t.2.2), .emp, .emp, .emp] none) (by simp [hc, pN]) (.inl ⟨rfl, by simp⟩) ?_ ?_)
    · rintro i d s hd (⟨rfl, rfl⟩ | ⟨rfl, rfl⟩)
      · simp at hd
        subst hd
        refine ⟨_, (by simp <;> rfl), ?_⟩
        unfold Y_law_way_1
        rw [shut_eq]
        have e1 : atI (ps.map pairP) (k : Int) = some (pairP p) := by rw [NV.atI_nat, List.getElem?_map, q3]; rfl
        have key : C_law_way_1 (stL [.val (netD n ps), .val (.int M), .own (S.map tkD), .emp, .emp, .val (.int t.2.2), .emp, .val (.int k), .emp] none) = some (.fre ([(p.1, k + 1, t.2.2 + 1), (p.2, k + 1, t.2.2 + 1)].map tkD), stL [.val (netD n ps), .val (.int M), .own (S.map tkD), .emp, .emp, .val (.int t.2.2), .emp, .val (.int k), .emp] none) := by
          unfold C_law_way_1
          rw [shut_eq]
          refine comp_map [p.1, p.2] (fun e => .int (e : Nat)) (fun e => tkD (e, k + 1, t.2.2 + 1)) (st1 := stL [.val (netD n ps), .val (.int M), .own (S.map tkD), .emp, .emp, .val (.int t.2.2), .emp, .val (.int k), .emp] none) (by simp [netD, e1, pairP]) (by simp) (fun e he => by simp [tkD]) (by rw [sizeLine_lit]; simp)
        have z : S.length + 2 ≤ 16777216 := by omega
        refine ex_nx fun K hK => ?_
        simp [key, z]
        refine hK _ (ex_nil ?_)
        refine .inr ⟨rfl, ?_⟩
        simp
      · simp at hd
    · rintro s (⟨h, _⟩ | ⟨_, hs⟩)
      · simp at h
      refine ex_nil ?_
      refine hQ (S ++ [(p.1, k + 1, t.2.2 + 1), (p.2, k + 1, t.2.2 + 1)]) s ?_ ?_ ?_ (by rw [← keep_keep (ks := [0, 1, 2, 5]) (by decide), hs]; simp)
      · rw [cost_app, cost_app]
        have c1 : cost ps.length [t] = 3 ^ (ps.length + 1 - t.2.1) := by simp [cost]
        have c2 : cost ps.length [(p.1, k + 1, t.2.2 + 1), (p.2, k + 1, t.2.2 + 1)] = 3 ^ (ps.length + 1 - (k + 1)) + 3 ^ (ps.length + 1 - (k + 1)) := by simp [cost]
        have := pow_cost q2 hk
        omega
      · intro u hu
        rcases List.mem_append.mp hu with hu | hu
        · exact .inl hu
        · right
          simp at hu
          rcases hu with rfl | rfl <;> show k + 1 ≤ ps.length <;> omega
      · have ev : vals ps (S ++ [t]) = vals ps S ++ [t.2.2 + (1 + max (far (ps.drop (k + 1)) p.1) (far (ps.drop (k + 1)) p.2))] := by
          unfold vals
          rw [List.map_append]
          simp only [List.map_cons, List.map_nil, q4]
        have ev2 : vals ps (S ++ [(p.1, k + 1, t.2.2 + 1), (p.2, k + 1, t.2.2 + 1)]) = vals ps S ++ [t.2.2 + 1 + far (ps.drop (k + 1)) p.1, t.2.2 + 1 + far (ps.drop (k + 1)) p.2] := by
          unfold vals
          rw [List.map_append]
          simp only [List.map_cons, List.map_nil]
        rw [ev, ev2, ← hM, mxN_m, mxN_app, mxN_app]
        show max t.2.2 (max (mxN most (vals ps S)) (max (t.2.2 + 1 + far (ps.drop (k + 1)) p.1) (max (t.2.2 + 1 + far (ps.drop (k + 1)) p.2) most))) = max (mxN most (vals ps S)) (max (t.2.2 + (1 + max (far (ps.drop (k + 1)) p.1) (far (ps.drop (k + 1)) p.2))) most)
        omega
theorem len_cost (len : Nat) : ∀ S : List Tk, S.length ≤ cost len S
  | [] => Nat.zero_le _
  | t :: S => by
    have := len_cost len S
    have q : 1 ≤ 3 ^ (len + 1 - t.2.1) := Nat.one_le_pow _ _ (by decide)
    show S.length + 1 ≤ 3 ^ (len + 1 - t.2.1) + (S.map fun t => 3 ^ (len + 1 - t.2.1)).sum
    unfold cost at this
    omega
theorem cost_first (n len : Nat) : cost len ((List.range n).map fun k => (k, 0, 0)) = n * 3 ^ (len + 1) := by
  unfold cost
  rw [List.map_map]
  induction n with
  | zero => simp
  | succ n ih => rw [List.range_succ, List.map_append, List.sum_append, ih, Nat.succ_mul]; simp
theorem lway_ok : Slway (GP B_law_way FUEL 1) := fun n ps o h1 h2 hl => by
  refine GP_of 8 rfl ?_
  unfold B_law_way
  refine ex_nx fun K hK => ?_
  simp
  refine hK _ ?_
  clear hK K
  have key : C_law_way_3 (stL [.val (netD n ps), .val (.int 0), .emp, .emp, .emp, .emp, .emp, .emp, .emp] none) = some (.fre (((List.range n).map fun k => (k, 0, 0)).map tkD), stL [.val (netD n ps), .val (.int 0), .emp, .emp, .emp, .emp, .emp, .emp, .emp] none) := by
    unfold C_law_way_3
    rw [shut_eq, List.map_map]
    refine comp_map (List.range n) (fun i => .int (i : Nat)) (fun (k : Nat) => tkD (k, 0, 0)) (st1 := stL [.val (netD n ps), .val (.int 0), .emp, .emp, .emp, .emp, .emp, .emp, .emp] none) ?_ (by simp) (fun i hi => by simp [tkD]) (by rw [List.length_range]; exact z1000 (by omega))
    rw [iRg1_is (n := n) (st' := stL [.val (netD n ps), .val (.int 0), .emp, .emp, .emp, .emp, .emp, .emp, .emp] none) (by simp [netD]) (by omega), rgD_0]
  refine ex_nx fun K hK => ?_
  simp [-List.map_map, key]
  refine hK _ ?_
  clear hK K key
  have c0 := cost_first n ps.length
  have c1 : n * 3 ^ (ps.length + 1) ≤ 4 * 3 ^ 7 := Nat.mul_le_mul h2 (Nat.pow_le_pow_right (by decide) (by omega))
  have s0 := start_is h1 o
  have b0 : ∀ u ∈ ((List.range n).map fun k => ((k, 0, 0) : Tk)), u.2.1 ≤ ps.length := fun u hu => by
    obtain ⟨k, _, rfl⟩ := List.mem_map.mp hu
    exact Nat.zero_le _
  generalize ((List.range n).map fun k => ((k, 0, 0) : Tk)) = S0 at b0 c0 s0 ⊢
  refine ex_cons (sWhile_ex (m := cost ps.length S0) (fun m s => ∃ (most : Nat) (S : List Tk), cost ps.length S = m ∧ m ≤ 4 * 3 ^ 7 ∧ (∀ u ∈ S, u.2.1 ≤ ps.length) ∧ mxN most (vals ps S) = way n ps ∧ s = stL [.val (netD n ps), .val (.int most), .own (S.map tkD), .emp, .emp, .emp, .emp, .emp, .emp] none) (by unfold FUEL; omega) ⟨0, S0, rfl, by omega, b0, s0, by simp⟩ ?_)
  · rintro m s ⟨most, S, rfl, e2, e3, e4, rfl⟩
    rcases List.eq_nil_or_concat S with rfl | ⟨S, t, h⟩
    · refine ⟨false, _, (by simp <;> rfl), fun _ => ?_, (fun h => by cases h)⟩
      refine ex_keep ?_
      have e5 : most = way n ps := e4
      refine ex_fin fun K hK => ?_
      simp
      refine hK _ _ ?_
      rw [e5]; rfl
    · rw [List.concat_eq_append] at h
      subst h
      have hS := shaped_tks (S ++ [t])
      have hne : ((S ++ [t]).map tkD) ≠ [] := by simp
      refine ⟨true, stL [.val (netD n ps), .val (.int most), .own ((S ++ [t]).map tkD), .emp, .emp, .emp, .emp, .emp, .emp] none, ?_, (fun h => by cases h), fun _ => ?_⟩
      · generalize (S ++ [t]).map tkD = L at hS hne
        cases L with
        | nil => exact absurd rfl hne
        | cons x L => simp [hS]
      · have l1 := len_cost ps.length S
        have l2 := cost_app ps.length S [t]
        refine turn_way o (by omega) (e3 t (by simp)) (by omega) fun S' s q1 q2 q3 q4 => ⟨cost ps.length S', q1, max most t.2.2, S', rfl, by omega, fun u hu => ?_, by rw [q3, e4], q4⟩
        rcases q2 u hu with h | h
        · exact e3 u (by simp [h])
        · exact h
end K83
set_option Elab.async false
set_option linter.all false
set_option maxRecDepth 100000
set_option maxHeartbeats 4000000
namespace K83
open PySem PySem.Spec PyProof.Rows L2 NV Bal
theorem cutD_last (xs : List PyData) : NV.cutD xs none (some (-1)) = xs.dropLast := by
  unfold NV.cutD
  rw [HT.sIx_none, List.drop_zero, Nat.sub_zero, List.dropLast_eq_take]
  congr 1
  unfold HT.sIx
  simp
  omega
theorem mem_dropLast {α : Type} {x : α} {l : List α} (h : x ∈ l.dropLast) : x ∈ l := by
  rw [List.dropLast_eq_take] at h
  exact List.mem_of_mem_take h
theorem unst_none {n : Nat} {ps : List Pair} (h : unst n ps = none) : ∀ r : List Int, r.length = n → (∀ x ∈ r, 0 ≤ x ∧ x < 2 ^ way n ps) → stepB (ledA ps r) = true := fun r hl hb => by
  have := List.find?_eq_none.mp h r ((mem_rowsB n r).mpr ⟨hl, fun x hx => by
    have := hb x hx
    rw [show ((2 ^ way n ps : Nat) : Int) = 2 ^ way n ps from by rw [Int.natCast_pow]; rfl]
    exact this⟩)
  simpa using this
theorem unev_none {n : Nat} {ps : List Pair} (hn : 1 ≤ n) (h : unev n ps = none) : ∀ line, line < n → cst n (share n ps line) := fun line hl => by
  have := List.find?_eq_none.mp h line (List.mem_range.mpr hl)
  exact even_cst hn (by simpa using this)
theorem counts_iff {n : Nat} {ps : List Pair} (h : counts n ps = true) : unev n ps = none ∧ unst n ps = none := by
  unfold counts at h
  rw [Bool.and_eq_true] at h
  exact ⟨Option.isNone_iff_eq_none.mp h.1, Option.isNone_iff_eq_none.mp h.2⟩
theorem counts_step {n : Nat} {ps : List Pair} (hn : 1 ≤ n) (o : okN n ps) (h : counts n ps = true) {L : List Int} (hL : L.length = n) (h0 : ∀ x ∈ L, 0 ≤ x) : stepB (ledA ps L) = true :=
  count_all hn o (unev_none hn (counts_iff h).1) (unst_none (counts_iff h).2) hL h0
theorem counts_sorts {n : Nat} {ps : List Pair} (hn : 1 ≤ n) (o : okN n ps) (h : counts n ps = true) : sortsB n ps = true := by
  rw [← sorts_steps hn o, List.all_eq_true]
  intro w hw
  have := (mem_allW n w).mp hw
  exact counts_step hn o h this.1 fun x hx => by rcases this.2 x hx with q | q <;> omega
theorem counts_three {ps : List Pair} (o : okN 3 ps) : counts 3 ps = false := by
  cases h : counts 3 ps with
  | false => rfl
  | true =>
    have := List.find?_eq_none.mp (counts_iff h).1 0 (by simp)
    exact absurd (decide_eq_true (uneven (n := 3) (line := 0) (far := way 3 ps) (.inl rfl) o (by decide))) this
theorem counts_sum {n : Nat} {ps : List Pair} (hn : 1 ≤ n) (o : okN n ps) (h : counts n ps = true) {L : List Int} (hL : L.length = n) (h0 : ∀ x ∈ L, 0 ≤ x) : ledA ps L = stepOf n L.sum := by
  have e := step_is (n := n) (by rw [ledA_len, hL]) (counts_step hn o h hL h0)
  rwa [ledA_sum ps L (by rw [hL]; exact o)] at e
def dbl (L : List Int) : List Int := L.map fun x => 2 * x
theorem dbl_len (L : List Int) : (dbl L).length = L.length := List.length_map _
theorem led_dbl {n : Nat} {ps : List Pair} {line : Nat} (hn : 1 ≤ n) (o : okN n ps) : ledA ps (dbl (alone n line (2 ^ way n ps))) = dbl (share n ps line) := by
  have ex := exact_many (L := alone n line (2 ^ way n ps)) hn o (alone_len ..) fun i hi => by
    rw [alone_nth hi]
    split
    · exact ⟨1, by omega⟩
    · exact ⟨0, by omega⟩
  refine row_ext (by rw [ledA_len, dbl_len, dbl_len, alone_len, share_len]) fun i hi => ?_
  rw [ledA_len, dbl_len, alone_len] at hi
  rw [led_add ps (M := alone n line (2 ^ way n ps)) (L := alone n line (2 ^ way n ps)) o (alone_len ..) (alone_len ..) (by rw [dbl_len, alone_len]) ex (fun j hj => by
    show nth ((alone n line (2 ^ way n ps)).map fun x => 2 * x) j = _
    rw [nth_map (by rw [alone_len]; exact hj)]; omega) i hi]
  show nth (share n ps line) i + nth (share n ps line) i = nth ((share n ps line).map fun x => 2 * x) i
  rw [nth_map (by rw [share_len]; exact hi)]; omega
theorem few_of {n c : Nat} {ps : List Pair} (o : okN n ps) (h1 : 1 ≤ n) (h2 : n ≤ 4) (h3 : ps.length ≤ 16) (hw : way n ps ≤ c) (hc : (2 ^ c) ^ n ≤ 100000) : few n ps :=
  ⟨o, h1, by omega, h3, Nat.le_trans (Nat.pow_le_pow_left (Nat.pow_le_pow_right (by decide) hw) n) hc⟩
theorem shaped_rows (S : List (List Int)) : SeqAt.shaped (.list (S.map rD)) = true := by
  have h : ∀ S : List (List Int), PyData.canLayAll0 (S.map rD) = true ∧ PyData.depthAll (S.map rD) ≤ 2 := by
    intro S
    induction S with
    | nil => exact ⟨rfl, Nat.zero_le _⟩
    | cons t S ih =>
      have h1 : PyData.canLay0 (rD t) = true := canLay_ints t
      have h2 := ints_depth t
      have h3 : PyData.depth (rD t) = PyData.depthAll (pI t) + 1 := rfl
      refine ⟨?_, ?_⟩
      · show (PyData.canLay0 (rD t) && PyData.canLayAll0 (S.map rD)) = true
        rw [ih.1, h1]; rfl
      · show max (PyData.depth (rD t)) (PyData.depthAll (S.map rD)) ≤ 2
        omega
  obtain ⟨h1, h2⟩ := h S
  show (PyData.canLayAll0 (S.map rD) && decide (PyData.depthAll (S.map rD) + 1 ≤ 64)) = true
  rw [h1, decide_eq_true (by omega)]; rfl
def SH (n : Nat) (ps : List Pair) : List PyData := (List.range n).map fun line => rD (share n ps line)
def AL (n : Nat) (M : Nat) : List PyData := (List.range n).map fun line => rD (alone n line M)
theorem pow_cast (w : Nat) : ((2 ^ w : Nat) : Int) = 2 ^ w := by rw [Int.natCast_pow]; rfl
theorem share_bd {n : Nat} {ps : List Pair} {line : Nat} (f : few n ps) : ∀ x ∈ share n ps line, 0 ≤ x ∧ x ≤ 65536 := by
  have fw := few_way f
  have hp := pow_cast (way n ps)
  have := ledA_bd (b := 2 ^ way n ps) ps (alone n line (2 ^ way n ps)) (by rw [alone_len]; exact f.1) fun x hx => by
    unfold alone at hx
    obtain ⟨k, _, rfl⟩ := List.mem_map.mp hx
    have : (0 : Int) < 2 ^ way n ps := Int.pow_pos (by decide)
    split <;> omega
  intro x hx
  have := this x hx
  omega
theorem both_repr {n : Nat} {ps : List Pair} (f : few n ps) (h : n ≤ 4) : reprOk (.list [.int (way n ps), .tuple (SH n ps)]) = true := by
  have hw := (way_is f.2.1 f.1).2
  have h16 := f.2.2.2.1
  refine (Okr.lstM (w := 20000) (n := 2) 2 (fun x hx => ?_) (Nat.le_refl _)).ok (by decide) (by decide)
  simp at hx
  rcases hx with rfl | rfl
  · exact (Okr.nat (by omega)).mono (by decide) (by decide)
  · refine (Okr.tupM (w := 1000) (n := 1) 10 (fun x hx => ?_) (by unfold SH; rw [List.length_map, List.length_range]; omega)).mono (by decide) (by decide)
    obtain ⟨line, hl, rfl⟩ := List.mem_map.mp hx
    refine (Okr.tupM (w := 80) (n := 0) 10 (fun x hx => ?_) (by rw [List.length_map, share_len]; omega)).mono (by decide) (by decide)
    obtain ⟨i, hi, rfl⟩ := List.mem_map.mp hx
    have := share_bd f i hi
    rw [show i = ((i.toNat : Nat) : Int) from by omega]
    exact (Okr.nat (by omega)).mono (by decide) (by decide)
end K83
set_option Elab.async false
set_option linter.all false
set_option maxRecDepth 100000
set_option maxHeartbeats 4000000
namespace K83
open PySem PySem.Spec PyProof.Rows L2 NV Bal
section
variable {Gdc Gla Gss Gsn Gis Gll Ges Glw Gwy Gcn : GF} {Gp Gn : GD}
theorem c9 {n M : Nat} {a4 a6 : Sl} {z : Src} (hn : n ≤ 100) (hM : M ≤ 65536) : Claw_9 Gdc Gla Gss Gp Gsn Gis Gll Ges Glw Gwy Gcn Gn (stL [.emp, .src, .emp, .val (.int n), a4, .emp, a6, .val (.int M), .emp, .emp, .emp, .emp, .emp, .emp, .emp, .emp, .emp, .emp, .emp] (some z)) = some (.fre (AL n M), (stL [.emp, .src, .emp, .val (.int n), a4, .emp, a6, .val (.int M), .emp, .emp, .emp, .emp, .emp, .emp, .emp, .emp, .emp, .emp, .emp] (some z))) := by
  unfold Claw_9
  rw [shut_eq]
  refine comp_map (List.range n) (fun i => .int (i : Nat)) (fun line => rD (alone n line M)) (st1 := (stL [.emp, .src, .emp, .val (.int n), a4, .emp, a6, .val (.int M), .emp, .emp, .emp, .emp, .emp, .emp, .emp, .emp, .emp, .emp, .emp] (some z))) ?_ (by simp) (fun line hi => ?_) (by rw [List.length_range]; exact z1000 (by omega))
  · rw [iRg1_is (n := n) (st' := (stL [.emp, .src, .emp, .val (.int n), a4, .emp, a6, .val (.int M), .emp, .emp, .emp, .emp, .emp, .emp, .emp, .emp, .emp, .emp, .emp] (some z))) (by simp) (by omega), rgD_0]
  · have key : Claw_8 Gdc Gla Gss Gp Gsn Gis Gll Ges Glw Gwy Gcn Gn (stL [.emp, .src, .emp, .val (.int n), a4, .emp, a6, .val (.int M), .emp, .emp, .emp, .emp, .emp, .val (.int line), .emp, .emp, .emp, .emp, .emp] (some z)) = some (.fre (pI (alone n line M)), (stL [.emp, .src, .emp, .val (.int n), a4, .emp, a6, .val (.int M), .emp, .emp, .emp, .emp, .emp, .val (.int line), .emp, .emp, .emp, .emp, .emp] (some z))) := by
      unfold Claw_8
      rw [shut_eq, show pI (alone n line M) = (List.range n).map fun k => PyData.int (if k = line then (M : Int) else 0) from by unfold alone pI; rw [List.map_map]; rfl]
      refine comp_map (List.range n) (fun i => .int (i : Nat)) _ (st1 := (stL [.emp, .src, .emp, .val (.int n), a4, .emp, a6, .val (.int M), .emp, .emp, .emp, .emp, .emp, .val (.int line), .emp, .emp, .emp, .emp, .emp] (some z))) ?_ (by simp) (fun k hk => ?_) (by rw [List.length_range]; exact z1000 (by omega))
      · rw [iRg1_is (n := n) (st' := (stL [.emp, .src, .emp, .val (.int n), a4, .emp, a6, .val (.int M), .emp, .emp, .emp, .emp, .emp, .val (.int line), .emp, .emp, .emp, .emp, .emp] (some z))) (by simp) (by omega), rgD_0]
      · have em : ∀ x : Int, mulOk (M : Int) x = true := fun x => mul_ok (by omega) (by omega)
        by_cases c : k = line
        · subst c; simp [em]
        · have c' : ¬ ((k : Int) = (line : Int)) := by omega
          simp [em, c, c']
    simp [key, rD]
theorem c7 (hl : Sled Gll) {n M : Nat} {ps : List Pair} {a6 : Sl} {z : Src} (o : okN n ps) (hn : n ≤ 100) (hM : M = 2 ^ way n ps) : Claw_7 Gdc Gla Gss Gp Gsn Gis Gll Ges Glw Gwy Gcn Gn (stL [.emp, .src, .emp, .val (.int n), .val (netD n ps), .emp, a6, .val (.int M), .own (AL n M), .emp, .emp, .emp, .emp, .emp, .emp, .emp, .emp, .emp, .emp] (some z)) = some (.fre (SH n ps), (stL [.emp, .src, .emp, .val (.int n), .val (netD n ps), .emp, a6, .val (.int M), .val (.list (AL n M)), .emp, .emp, .emp, .emp, .emp, .emp, .emp, .emp, .emp, .emp] (some z))) := by
  unfold Claw_7
  rw [shut_eq]
  refine comp_map (List.range n) (fun line => rD (alone n line M)) (fun line => rD (share n ps line)) (st1 := (stL [.emp, .src, .emp, .val (.int n), .val (netD n ps), .emp, a6, .val (.int M), .val (.list (AL n M)), .emp, .emp, .emp, .emp, .emp, .emp, .emp, .emp, .emp, .emp] (some z))) (by simp [AL]) (by simp) (fun line hi => ?_) (by rw [List.length_range]; exact z1000 (by omega))
  have e := hl n ps (alone n line M) o (alone_len ..)
  have hs : share n ps line = ledA ps (alone n line (M : Int)) := by rw [hM, pow_cast]; rfl
  rw [← hs] at e
  generalize netD n ps = N at e ⊢
  have e' : Gll [N, rD (alone n line M)] = some (.dat (rD (share n ps line))) := e
  generalize rD (alone n line M) = A at e' ⊢
  simp [e']
/-- twice as many -/
theorem twice (hl : Sled Gla) {n M : Nat} {ps : List Pair} {z : Src} {line : Nat} {a7 a9 : Sl} (h1 : 1 ≤ n) (o : okN n ps) (hn : n ≤ 100) (hM : M = 2 ^ way n ps) :
    Ex (Ylaw_4 Gdc Gla Gss Gp Gsn Gis Gll Ges Glw Gwy Gcn Gn FUEL) (stL [.emp, .src, .emp, .val (.int n), .val (netD n ps), .emp, .emp, a7, .emp, a9, .val (rD (share n ps line)), .val (rD (alone n line M)), .emp, .emp, .emp, .emp, .emp, .emp, .emp] (some z)) fun o s => o = .nx ∧ s = (stL [.emp, .src, .emp, .val (.int n), .val (netD n ps), .emp, .emp, a7, .emp, a9, .val (rD (share n ps line)), .val (rD (alone n line M)), .emp, .emp, .emp, .emp, .emp, .emp, .emp] (some z)) := by
  unfold Ylaw_4
  rw [shut_eq]
  have ck : ∀ (L : List Int), L.length = n → ∀ a10, Claw_5 Gdc Gla Gss Gp Gsn Gis Gll Ges Glw Gwy Gcn Gn (stL [.emp, .src, .emp, .val (.int n), .val (netD n ps), .emp, .emp, a7, .emp, a9, a10, .val (rD L), .emp, .emp, .emp, .emp, .emp, .emp, .emp] (some z)) = some (.fre (pI (dbl L)), (stL [.emp, .src, .emp, .val (.int n), .val (netD n ps), .emp, .emp, a7, .emp, a9, a10, .val (rD L), .emp, .emp, .emp, .emp, .emp, .emp, .emp] (some z))) := fun L hL a10 => by
    unfold Claw_5
    rw [shut_eq, show pI (dbl L) = L.map fun x => PyData.int (2 * x) from by unfold dbl pI; rw [List.map_map]; rfl]
    exact comp_map L PyData.int _ (st1 := (stL [.emp, .src, .emp, .val (.int n), .val (netD n ps), .emp, .emp, a7, .emp, a9, a10, .val (rD L), .emp, .emp, .emp, .emp, .emp, .emp, .emp] (some z))) (by simp [rD]) (by simp) (fun x hx => by simp [mul_ok (a := 2) (b := x) (by decide) (by decide)]) (z1000 (by omega))
  have ck2 : ∀ (L : List Int), L.length = n → ∀ a11, Claw_6 Gdc Gla Gss Gp Gsn Gis Gll Ges Glw Gwy Gcn Gn (stL [.emp, .src, .emp, .val (.int n), .val (netD n ps), .emp, .emp, a7, .emp, a9, .val (rD L), a11, .emp, .emp, .emp, .emp, .emp, .emp, .emp] (some z)) = some (.fre (pI (dbl L)), (stL [.emp, .src, .emp, .val (.int n), .val (netD n ps), .emp, .emp, a7, .emp, a9, .val (rD L), a11, .emp, .emp, .emp, .emp, .emp, .emp, .emp] (some z))) := fun L hL a10 => by
    unfold Claw_6
    rw [shut_eq, show pI (dbl L) = L.map fun x => PyData.int (2 * x) from by unfold dbl pI; rw [List.map_map]; rfl]
    exact comp_map L PyData.int _ (st1 := (stL [.emp, .src, .emp, .val (.int n), .val (netD n ps), .emp, .emp, a7, .emp, a9, .val (rD L), a10, .emp, .emp, .emp, .emp, .emp, .emp, .emp] (some z))) (by simp [rD]) (by simp) (fun x hx => by simp [mul_ok (a := 2) (b := x) (by decide) (by decide)]) (z1000 (by omega))
  have k1 := ck (alone n line M) (alone_len ..) (.val (rD (share n ps line)))
  have k2 := ck2 (share n ps line) share_len (.val (rD (alone n line M)))
  have e := hl n ps (dbl (alone n line M)) o (by rw [dbl_len, alone_len])
  rw [show ledA ps (dbl (alone n line (M : Int))) = dbl (share n ps line) from by rw [hM, pow_cast]; exact led_dbl h1 o] at e
  have hsh : ∀ T : List Int, SeqAt.shaped (.tuple (pI T)) = true := fun T => shaped_ints T
  generalize dbl (share n ps line) = T at k2 e
  generalize dbl (alone n line M) = U at k1 e
  generalize rD (share n ps line) = D1 at k1 k2 ⊢
  generalize rD (alone n line M) = D2 at k1 k2 ⊢
  generalize netD n ps = N at k1 k2 e ⊢
  refine ex_nx fun K hK => ?_
  simp [k1, k2, e, hsh]
  exact hK _ (ex_nil ⟨rfl, rfl⟩)
end
end K83
set_option Elab.async false
set_option linter.all false
set_option maxRecDepth 100000
set_option maxHeartbeats 4000000
namespace K83
open PySem PySem.Spec PyProof.Rows L2 NV Bal
section
variable {Gdc Gla Gss Gsn Gis Gll Ges Glw Gwy Gcn : GF} {Gp Gn : GD}
theorem row_turn {n M k : Nat} {a4 a9 x12 : Sl} {d : PyData} {z : Src} (hM : M ≤ 65536) (hk : k < n) (hn : n ≤ 100) (h1 : 1 ≤ M) (h3 : M ^ n ≤ 100000) (hx : x12 = .own ((rowsB M k).map rD) ∨ x12 = .val (.list ((rowsB M k).map rD))) :
    Ex (Ylaw_3 Gdc Gla Gss Gp Gsn Gis Gll Ges Glw Gwy Gcn Gn FUEL) (stL [.emp, .src, .emp, .val (.int n), a4, .emp, .emp, .val (.int M), .emp, a9, .emp, .emp, x12, .val d, .emp, .emp, .emp, .emp, .emp] (some z)) fun o s => o = .nx ∧ keep [1, 3, 4, 7, 9, 12] s = (stL [.emp, .src, .emp, .val (.int n), a4, .emp, .emp, .val (.int M), .emp, a9, .emp, .emp, .val (.list ((rowsB M (k + 1)).map rD)), .emp, .emp, .emp, .emp, .emp, .emp] (some z)) := by
  have pk := pow_le (k := k + 1) h1 (by omega) h3
  have lk := rowsB_len M k
  rw [Nat.pow_succ] at pk
  unfold Ylaw_3
  rw [shut_eq]
  refine ex_nx fun K hK => ?_
  simp
  refine hK _ ?_
  clear hK K
  refine ex_cons (ex_for (ds := (rowsB M k).map rD) (st1 := (stL [.emp, .src, .emp, .val (.int n), a4, .emp, .emp, .val (.int M), .emp, a9, .emp, .emp, .val (.list ((rowsB M k).map rD)), .val d, .own [], .emp, .emp, .emp, .emp] (some z))) (fun i s => s = (stL [.emp, .src, .emp, .val (.int n), a4, .emp, .emp, .val (.int M), .emp, a9, .emp, .emp, .emp, .emp, .own ((ext M ((rowsB M k).take i)).map rD), .emp, .emp, .emp, .emp] (some z))) (by rcases hx with rfl | rfl <;> simp) (by simp [ext]) ?_ ?_)
  · rintro i d s hd rfl
    rw [List.getElem?_map] at hd
    obtain ⟨r, hr', rfl⟩ := map_some2 hd
    have hi := (List.getElem?_eq_some_iff.mp hr').1
    have hwl := ((mem_rowsB k r).mp (List.mem_of_getElem? hr')).1
    refine ⟨_, (by simp <;> rfl), ?_⟩
    unfold Ylaw_2
    rw [shut_eq, ext_take hr']
    have key : ∀ a14, Claw_4 Gdc Gla Gss Gp Gsn Gis Gll Ges Glw Gwy Gcn Gn (stL [.emp, .src, .emp, .val (.int n), a4, .emp, .emp, .val (.int M), .emp, a9, .emp, .val (rD r), .emp, .emp, a14, .emp, .emp, .emp, .emp] (some z)) = some (.fre (((List.range M).map fun (x : Nat) => r ++ [(x : Int)]).map rD), (stL [.emp, .src, .emp, .val (.int n), a4, .emp, .emp, .val (.int M), .emp, a9, .emp, .val (rD r), .emp, .emp, a14, .emp, .emp, .emp, .emp] (some z))) := fun a14 => by
      unfold Claw_4
      rw [shut_eq, List.map_map]
      have e1 : r.length ≤ 16777215 := by omega
      refine comp_map (List.range M) (fun i => .int (i : Nat)) (fun x => rD (r ++ [(x : Int)])) (st1 := (stL [.emp, .src, .emp, .val (.int n), a4, .emp, .emp, .val (.int M), .emp, a9, .emp, .val (rD r), .emp, .emp, a14, .emp, .emp, .emp, .emp] (some z))) ?_ (by simp) (fun i hi => by simp [rD, e1]) (by rw [List.length_range, sizeLine_lit]; omega)
      rw [iRg1_is (n := M) (st' := (stL [.emp, .src, .emp, .val (.int n), a4, .emp, .emp, .val (.int M), .emp, a9, .emp, .val (rD r), .emp, .emp, a14, .emp, .emp, .emp, .emp] (some z))) (by simp) (by omega), rgD_0]
    have hlen : (ext M ((rowsB M k).take i)).length ≤ 100000 := by
      rw [ext_len, List.length_take, lk]
      exact Nat.le_trans (Nat.mul_le_mul_right _ (Nat.min_le_right _ _)) pk
    have hlen2 : ((List.range M).map fun (x : Nat) => r ++ [(x : Int)]).length ≤ 100000 := by rw [List.length_map, List.length_range]; omega
    generalize ext M ((rowsB M k).take i) = A at hlen key ⊢
    generalize ((List.range M).map fun (x : Nat) => r ++ [(x : Int)]) = B at hlen2 key ⊢
    have hz : A.length + B.length ≤ 16777216 := by omega
    refine ex_nx fun K hK => ?_
    simp [key, hz]
    refine hK _ (ex_nil ?_)
    simp
  · intro s hs
    rw [List.length_map, List.take_length] at hs
    refine ex_keep ?_
    rw [hs]
    refine ex_nx fun K hK => ?_
    simp
    refine hK _ (ex_nil ⟨rfl, ?_⟩)
    simp [rowsB, ext]
theorem c3 {n : Nat} {ps : List Pair} {a3 a4 a12 : Sl} {z : Src} (h1 : 1 ≤ n) (hn : n ≤ 100) : Claw_3 Gdc Gla Gss Gp Gsn Gis Gll Ges Glw Gwy Gcn Gn (stL [.emp, .src, .emp, a3, a4, .emp, .emp, .emp, .emp, .val (.tuple (SH n ps)), .emp, .emp, a12, .emp, .emp, .emp, .emp, .emp, .emp] (some z)) = some (.fre (((List.range n).filter fun line => decide (mnI (share n ps line) < mxI (share n ps line))).map fun _ => .int 1), (stL [.emp, .src, .emp, a3, a4, .emp, .emp, .emp, .emp, .val (.tuple (SH n ps)), .emp, .emp, a12, .emp, .emp, .emp, .emp, .emp, .emp] (some z))) := by
  unfold Claw_3
  rw [shut_eq]
  refine comp_filter (List.range n) (fun line => rD (share n ps line)) (fun line => decide (mnI (share n ps line) < mxI (share n ps line))) (fun _ => .int 1) (st1 := (stL [.emp, .src, .emp, a3, a4, .emp, .emp, .emp, .emp, .val (.tuple (SH n ps)), .emp, .emp, a12, .emp, .emp, .emp, .emp, .emp, .emp] (some z))) (by simp [SH]) (by simp) (fun line hl => ?_) (by rw [List.length_range]; exact z1000 (by omega))
  have m1 := maxA_t (share_ne (ps := ps) (line := line) h1)
  have m2 := minA_t (share_ne (ps := ps) (line := line) h1)
  generalize share n ps line = S at m1 m2 ⊢
  by_cases c : mnI S < mxI S
  · simp [rD, m1, m2, c]
  · simp [rD, m1, m2, c]
theorem c2 (hl : Sled Gll) (hs : Sstep Gis) {n M : Nat} {ps : List Pair} {a9 a15 x12 : Sl} {z : Src} (o : okN n ps) (h1 : 1 ≤ n) (hn : n ≤ 100) (h3 : M ^ n ≤ 100000) (hx : x12 = .val (.list ((rowsB M n).map rD))) : Claw_2 Gdc Gla Gss Gp Gsn Gis Gll Ges Glw Gwy Gcn Gn (stL [.emp, .src, .emp, .val (.int n), .val (netD n ps), .emp, .emp, .emp, .emp, a9, .emp, .emp, x12, .emp, .emp, a15, .emp, .emp, .emp] (some z)) = some (.fre (((rowsB M n).filter fun r => !stepB (ledA ps r)).map rD), (stL [.emp, .src, .emp, .val (.int n), .val (netD n ps), .emp, .emp, .emp, .emp, a9, .emp, .emp, x12, .emp, .emp, a15, .emp, .emp, .emp] (some z))) := by
  subst hx
  unfold Claw_2
  rw [shut_eq]
  refine comp_filter (rowsB M n) rD (fun r => !stepB (ledA ps r)) rD (st1 := (stL [.emp, .src, .emp, .val (.int n), .val (netD n ps), .emp, .emp, .emp, .emp, a9, .emp, .emp, .val (.list ((rowsB M n).map rD)), .emp, .emp, a15, .emp, .emp, .emp] (some z))) (by simp) (by simp) (fun r hr => ?_) (by rw [rowsB_len, sizeLine_lit]; omega)
  have hrl := ((mem_rowsB n r).mp hr).1
  have e1 := hl n ps r o hrl
  have e2 := hs (ledA ps r) (by rw [ledA_len]; omega) (by rw [ledA_len]; omega)
  have e1' : Gll [netD n ps, rD r] = some (.dat (.tuple (pI (ledA ps r)))) := e1
  generalize netD n ps = N at e1' ⊢
  generalize pI (ledA ps r) = A at e1' e2
  generalize rD r = R at e1' ⊢
  cases hc : stepB (ledA ps r) with
  | true => rw [hc] at e2; simp [e1', e2]
  | false => rw [hc] at e2; simp [e1', e2]
theorem amounts_is (hp : Spick Gp) {n : Nat} (hn : n ≤ 4) {z : Src} {a4 a15 a16 : Sl} : ∃ (A : List Int) (z' : Src), Claw_1 Gdc Gla Gss Gp Gsn Gis Gll Ges Glw Gwy Gcn Gn (stL [.emp, .src, .emp, .val (.int n), a4, .emp, .emp, .emp, .emp, .emp, .emp, .emp, .emp, .emp, .emp, a15, a16, .emp, .emp] (some z)) = some (.fre (pI A), (stL [.emp, .src, .emp, .val (.int n), a4, .emp, .emp, .emp, .emp, .emp, .emp, .emp, .emp, .emp, .emp, a15, a16, .emp, .emp] (some z'))) ∧ A.length = n ∧ ∀ x ∈ A, 0 ≤ x := by
  unfold Claw_1
  rw [shut_eq]
  have hr : iRg1 (mVar 3) (stL [.emp, .src, .emp, .val (.int n), a4, .emp, .emp, .emp, .emp, .emp, .emp, .emp, .emp, .emp, .emp, a15, a16, .emp, .emp] (some z)) = some (rgD 0 n, (stL [.emp, .src, .emp, .val (.int n), a4, .emp, .emp, .emp, .emp, .emp, .emp, .emp, .emp, .emp, .emp, a15, a16, .emp, .emp] (some z))) := iRg1_is (by simp) (by omega)
  obtain ⟨acc, s, e, z2, A, h1, h2, h3, h4⟩ := comp_inv (vs := [13]) (t := tName 13) (tt := tYesM) (el := mCallS 1 Gp (fCons (mC (.int 1000)) (fNil)))
    (fun i acc s => ∃ z' A, s = (stL [.emp, .src, .emp, .val (.int n), a4, .emp, .emp, .emp, .emp, .emp, .emp, .emp, .emp, .emp, .emp, a15, a16, .emp, .emp] (some z')) ∧ acc = pI A ∧ A.length = i ∧ ∀ x ∈ A, 0 ≤ x) hr (by simp) ⟨z, [], by simp, rfl, rfl, by simp⟩ (by
      rintro i d acc s hd ⟨z', A, rfl, rfl, hl, hb⟩
      obtain ⟨c, z3, e3, hc⟩ := hp 1000 z' (by decide)
      refine ⟨some (.int c), (stL [.emp, .src, .emp, .val (.int n), a4, .emp, .emp, .emp, .emp, .emp, .emp, .emp, .emp, .emp, .emp, a15, a16, .emp, .emp] (some z3)), by simp [e3], z3, A ++ [(c : Int)], rfl, by simp, by simp [hl], fun x hx => ?_⟩
      rcases List.mem_append.mp hx with q | q
      · exact hb x q
      · simp at q; omega) (by rw [rgD_len]; exact z1000 (by omega))
  subst h1 h2
  rw [rgD_len] at h3
  exact ⟨A, z2, by rw [e]; simp, h3, h4⟩
/-- a look -/
theorem look_ok (hp : Spick Gp) (hl : Sled Gla) (hs : Ssos Gss) {n : Nat} {ps : List Pair} {z : Src} {a16 : Sl} (o : okN n ps) (h1 : 1 ≤ n) (hn : n ≤ 4) : Ex (Ylaw_1 Gdc Gla Gss Gp Gsn Gis Gll Ges Glw Gwy Gcn Gn FUEL) (stL [.emp, .src, .emp, .val (.int n), .val (netD n ps), .emp, .emp, .emp, .emp, .emp, .emp, .emp, .emp, .emp, .emp, .val (.bool (counts n ps)), a16, .emp, .emp] (some z)) fun o s => o = .nx ∧ ∃ z', keep [1, 3, 4, 15] s = (stL [.emp, .src, .emp, .val (.int n), .val (netD n ps), .emp, .emp, .emp, .emp, .emp, .emp, .emp, .emp, .emp, .emp, .val (.bool (counts n ps)), .emp, .emp, .emp] (some z')) := by
  unfold Ylaw_1
  rw [shut_eq]
  obtain ⟨A, z2, e, hA, h0⟩ := amounts_is (Gdc := Gdc) (Gla := Gla) (Gss := Gss) (Gsn := Gsn) (Gis := Gis) (Gll := Gll) (Ges := Ges) (Glw := Glw) (Gwy := Gwy) (Gcn := Gcn) (Gn := Gn) hp hn (z := z) (a4 := .val (netD n ps)) (a15 := .val (.bool (counts n ps))) (a16 := a16)
  refine ex_nx fun K hK => ?_
  simp [e]
  refine hK _ ?_
  clear hK K e
  have e1 := hl n ps A o hA
  have e2 := hs n A.sum h1 (by omega)
  have e3 := sumA_t A
  have sh := shaped_tints (ledA ps A)
  cases hc : counts n ps with
  | false =>
    refine ex_nx fun K hK => ?_
    simp
    exact hK _ (ex_nil ⟨rfl, z2, by simp⟩)
  | true =>
    have e4 := counts_sum h1 o hc hA h0
    rw [← e4] at e2
    generalize netD n ps = N at e1 ⊢
    generalize pI A = PA at e1 e3
    generalize A.sum = S at e2 e3
    generalize ledA ps A = L at e1 e2 sh
    refine ex_nx fun K hK => ?_
    simp [-sumA, e1, e2, e3, sh]
    exact hK _ (ex_nil ⟨rfl, z2, by simp⟩)
end
end K83
set_option Elab.async false
set_option linter.all false
set_option maxRecDepth 100000
set_option maxHeartbeats 4000000
namespace K83
open PySem PySem.Spec PyProof.Rows L2 NV Bal
def less (qs : List Pair) (k : Nat) : List Pair := qs.take k ++ qs.drop (k + 1)
theorem less_cut (qs : List Pair) (k : Nat) : NV.cutD (qs.map pairP) none (some (k : Int)) ++ NV.cutD (qs.map pairP) (some ((k : Int) + 1)) none = (less qs k).map pairP := by
  have c2 : NV.cutD (qs.map pairP) (some ((k : Int) + 1)) none = (qs.map pairP).drop (k + 1) := cutD_from _ (k + 1)
  rw [c2, cutD_to, less, List.map_append, List.map_take, List.map_drop]
theorem less_ok {n : Nat} {qs : List Pair} {k : Nat} (o : okN n qs) : okN n (less qs k) := fun p hp => by
  rcases List.mem_append.mp hp with h | h
  · exact o p (List.mem_of_mem_take h)
  · exact o p (List.mem_of_mem_drop h)
theorem less_len {qs : List Pair} {k : Nat} : (less qs k).length ≤ qs.length := by
  unfold less
  rw [List.length_append, List.length_take, List.length_drop]; omega
theorem cut_len (xs : List PyData) (lo hi : Option Int) : (NV.cutD xs lo hi).length ≤ xs.length := by
  unfold NV.cutD
  rw [List.length_take, List.length_drop]; omega
section
variable {Gdc Gla Gss Gsn Gis Gll Ges Glw Gwy Gcn : GF} {Gp Gn : GD}
/-- a net is drawn -/
theorem net_picked (hp : Spick Gp) (hn : Snet Gn) (hcn : Scnt Gcn) (z : Src) (i : Nat) {B : MS} {Q : Out → Sta → Prop} (hB : ∀ (n : Nat) (ps : List Pair) (z' : Src), 1 ≤ n → n ≤ 4 → okN n ps → ps.length ≤ 6 → Ex B (stL [.emp, .src, .emp, .val (.int n), .val (netD n ps), .emp, .emp, .emp, .emp, .emp, .emp, .emp, .emp, .emp, .emp, .emp, .emp, .emp, .emp] (some z')) Q) :
    Ex (sCons (sAsg 3 (mIf (mB (mBin eqD2 (mVar 2) (mC (.int 0)))) (mC (.int 4)) (mBin addD (mC (.int 1)) (mCallS 1 Gp (fCons (mC (.int 3)) (fNil))))))
    (sCons (sAsg 4 (mCallS 1 Gn (fCons (mVar 3) (fCons (mBin idxD (mLst (fCons (mC (.int 0)) (fCons (mC (.int 6)) (fCons (mC (.int 3)) (fCons (mC (.int 4)) (fNil)))))) (mBin subD (mVar 3) (mC (.int 1)))) (fNil)))))
    (sCons (sIf (mAndT (mB (mBin inD (mVar 3) (mTup (fCons (mC (.int 2)) (fCons (mC (.int 4)) (fNil)))))) (mB (mBin eqD2 (mCallS 1 Gp (fCons (mC (.int 2)) (fNil))) (mC (.int 0))))) (sCons (sAsg 4 (mTup (fCons (mVar 3) (fCons (mCallB tupleD (aCons (mCall Gcn (fCons (mVar 3) (fNil))) (aNil))) (fNil)))))
    (sCons (sIf (mB (mBin gtD (mCallS 1 Gp (fCons (mC (.int 3)) (fNil))) (mC (.int 0)))) (sCons (sAsg 5 (mCallS 1 Gp (fCons (mCallB lenD (aCons (mBin idxD (mVar 4) (mC (.int 1))) (aNil))) (fNil))))
    (sCons (sAsg 4 (mTup (fCons (mVar 3) (fCons (mBin addD (mSl (mBin idxD (mVar 4) (mC (.int 1))) (oNo) (oSome (mVar 5))) (mSl (mBin idxD (mVar 4) (mC (.int 1))) (oSome (mBin addD (mVar 5) (mC (.int 1)))) (oNo))) (fNil)))))
    (sNil))) (sNil))
    (sNil))) (sNil))
    (sKeep [1, 2, 3, 4] (sCons (sIf (mAndT (mB (mBin eqD2 (mVar 2) (mC (.int 0)))) (mB (mBin eqD2 (mCallS 1 Gp (fCons (mC (.int 2)) (fNil))) (mC (.int 0))))) (sCons (sAsg 5 (mCallS 1 Gp (fCons (mC (.int 2)) (fNil))))
    (sCons (sAsg 4 (mTup (fCons (mVar 3) (fCons (mCallB tupleD (aCons (mBin addD (mSl (mCall Gcn (fCons (mVar 3) (fNil))) (oNo) (oSome (mVar 5))) (mSl (mCall Gcn (fCons (mVar 3) (fNil))) (oSome (mBin addD (mVar 5) (mC (.int 1)))) (oNo))) (aNil))) (fNil)))))
    (sNil))) (sNil))
    (sKeep [1, 3, 4] B)))))) (stL [.emp, .src, .val (.int (0 + (i : Nat))), .emp, .emp, .emp, .emp, .emp, .emp, .emp, .emp, .emp, .emp, .emp, .emp, .emp, .emp, .emp, .emp] (some z)) Q := by
  obtain ⟨n, z1, h1, h2, h0, hst⟩ : ∃ (n : Nat) (z1 : Src), 1 ≤ n ∧ n ≤ 4 ∧ (i = 0 → n = 4) ∧ sAsg 3 (mIf (mB (mBin eqD2 (mVar 2) (mC (.int 0)))) (mC (.int 4)) (mBin addD (mC (.int 1)) (mCallS 1 Gp (fCons (mC (.int 3)) (fNil))))) (stL [.emp, .src, .val (.int (0 + (i : Nat))), .emp, .emp, .emp, .emp, .emp, .emp, .emp, .emp, .emp, .emp, .emp, .emp, .emp, .emp, .emp, .emp] (some z)) = some (.nx, (stL [.emp, .src, .val (.int (0 + (i : Nat))), .val (.int n), .emp, .emp, .emp, .emp, .emp, .emp, .emp, .emp, .emp, .emp, .emp, .emp, .emp, .emp, .emp] (some z1))) := by
    by_cases c : i = 0
    · subst c
      refine ⟨4, z, by omega, by omega, fun _ => rfl, ?_⟩
      simp
    · obtain ⟨v, z1, e1, hv⟩ := hp 3 z (by decide)
      refine ⟨1 + v, z1, by omega, by omega, fun h => absurd h c, ?_⟩
      have c' : ¬ ((i : Int) = 0) := by omega
      simp [e1, c, c']
  refine ex_nx fun K hK => ?_
  rw [NX_is, hst]
  refine ⟨_, rfl, hK _ ?_⟩
  clear hK K hst
  obtain ⟨m, hm, hm6⟩ : ∃ m : Nat, atI [PyData.int 0, .int 6, .int 3, .int 4] ((n : Int) - 1) = some (.int m) ∧ m ≤ 6 := by
    have : n = 1 ∨ n = 2 ∨ n = 3 ∨ n = 4 := by omega
    rcases this with rfl | rfl | rfl | rfl
    · exact ⟨0, rfl, by decide⟩
    · exact ⟨6, rfl, by decide⟩
    · exact ⟨3, rfl, by decide⟩
    · exact ⟨4, rfl, by decide⟩
  obtain ⟨ps, z2, e1, o, hps⟩ := hn n m z1 h1 (by omega) (by omega)
  refine ex_nx fun K hK => ?_
  simp [hm, e1]
  refine hK _ ?_
  clear hK K e1 hm
  refine ex_cons (Ex.imp (Q := fun o' s => o' = .nx ∧ ∃ (ps : List Pair) (z3 : Src), okN n ps ∧ ps.length ≤ 6 ∧ keep [1, 2, 3, 4] s = (stL [.emp, .src, .val (.int (0 + (i : Nat))), .val (.int n), .val (netD n ps), .emp, .emp, .emp, .emp, .emp, .emp, .emp, .emp, .emp, .emp, .emp, .emp, .emp, .emp] (some z3))) ?_ ?_)
  · by_cases c : n = 2 ∨ n = 4
    · have e5 : inD (.int n) (.tuple [.int 2, .int 4]) = some (.dat (.bool true)) := by
        rcases c with rfl | rfl <;> rfl
      obtain ⟨v, z3, e1, hv⟩ := hp 2 z2 (by decide)
      by_cases c0 : v = 0
      · subst c0
        refine ex_if (c := true) (st1 := (stL [.emp, .src, .val (.int (0 + (i : Nat))), .val (.int n), .val (netD n ps), .emp, .emp, .emp, .emp, .emp, .emp, .emp, .emp, .emp, .emp, .emp, .emp, .emp, .emp] (some z3))) (by simp [e5, e1]) (fun _ => ?_) (fun h => by cases h)
        obtain ⟨qs, o', hl, hpos, eq⟩ : ∃ qs : List Pair, okN n qs ∧ qs.length ≤ 6 ∧ 1 ≤ qs.length ∧ Gcn [.int n] = some (.dat (.list (qs.map pairP))) := by
          rcases c with rfl | rfl
          · exact ⟨cnt2, by unfold okN; decide, by decide, by decide, hcn.1⟩
          · exact ⟨cnt4, by unfold okN; decide, by decide, by decide, hcn.2⟩
        refine ex_nx fun K hK => ?_
        simp [eq]
        refine hK _ ?_
        clear hK K
        rw [show PyData.tuple [.int n, .tuple (qs.map pairP)] = netD n qs from rfl]
        obtain ⟨w, z4, e2, hw⟩ := hp 3 z3 (by decide)
        by_cases c1 : w = 0
        · subst c1
          refine ex_cons (ex_if (c := false) (st1 := (stL [.emp, .src, .val (.int (0 + (i : Nat))), .val (.int n), .val (netD n qs), .emp, .emp, .emp, .emp, .emp, .emp, .emp, .emp, .emp, .emp, .emp, .emp, .emp, .emp] (some z4))) (by simp [e2]) (fun h => by cases h) (fun _ => ex_nil (ex_nil ⟨rfl, qs, z4, o', hl, by simp⟩)))
        · refine ex_cons (ex_if (c := true) (st1 := (stL [.emp, .src, .val (.int (0 + (i : Nat))), .val (.int n), .val (netD n qs), .emp, .emp, .emp, .emp, .emp, .emp, .emp, .emp, .emp, .emp, .emp, .emp, .emp, .emp] (some z4))) (by simp [e2]; omega) (fun _ => ?_) (fun h => by cases h))
          obtain ⟨k, z5, e3, hk⟩ := hp qs.length z4 (by omega)
          refine ex_nx fun K hK => ?_
          simp [netD, e3]
          refine hK _ ?_
          clear hK K
          have lc := less_cut qs k
          have l1 := cut_len (qs.map pairP) none (some (k : Int))
          have l2 := cut_len (qs.map pairP) (some ((k : Int) + 1)) none
          rw [List.length_map] at l1 l2
          have z6 : (NV.cutD (qs.map pairP) none (some (k : Int))).length + (NV.cutD (qs.map pairP) (some ((k : Int) + 1)) none).length ≤ 16777216 := by omega
          refine ex_nx fun K hK => ?_
          simp [z6, lc]
          refine hK _ (ex_nil (ex_nil ⟨rfl, less qs k, z5, less_ok o', by have := less_len (qs := qs) (k := k); omega, ?_⟩))
          simp [netD]
      · have c' : ¬ ((v : Int) = 0) := by omega
        refine ex_if (c := false) (st1 := (stL [.emp, .src, .val (.int (0 + (i : Nat))), .val (.int n), .val (netD n ps), .emp, .emp, .emp, .emp, .emp, .emp, .emp, .emp, .emp, .emp, .emp, .emp, .emp, .emp] (some z3))) (by simp [e5, e1, c0, c']) (fun h => by cases h) (fun _ => ?_)
        exact ex_nil ⟨rfl, ps, z3, o, by omega, by simp⟩
    · have e5 : inD (.int n) (.tuple [.int 2, .int 4]) = some (.dat (.bool false)) := by
        have : n = 1 ∨ n = 3 := by omega
        rcases this with rfl | rfl <;> rfl
      refine ex_if (c := false) (st1 := (stL [.emp, .src, .val (.int (0 + (i : Nat))), .val (.int n), .val (netD n ps), .emp, .emp, .emp, .emp, .emp, .emp, .emp, .emp, .emp, .emp, .emp, .emp, .emp, .emp] (some z2))) (by simp [e5]) (fun h => by cases h) (fun _ => ?_)
      exact ex_nil ⟨rfl, ps, z2, o, by omega, by simp⟩
  rintro o' s ⟨rfl, ps, z3, o, hl, hk⟩
  refine ex_keep ?_
  rw [hk]
  refine ex_cons (Ex.imp (Q := fun o' s => o' = .nx ∧ ∃ (ps : List Pair) (z3 : Src), okN n ps ∧ ps.length ≤ 6 ∧ keep [1, 3, 4] s = (stL [.emp, .src, .emp, .val (.int n), .val (netD n ps), .emp, .emp, .emp, .emp, .emp, .emp, .emp, .emp, .emp, .emp, .emp, .emp, .emp, .emp] (some z3))) ?_ ?_)
  · by_cases c : i = 0
    · subst c
      have hn4 := h0 rfl
      subst hn4
      obtain ⟨v, z4, e1, hv⟩ := hp 2 z3 (by decide)
      by_cases c0 : v = 0
      · subst c0
        refine ex_if (c := true) (st1 := (stL [.emp, .src, .val (.int (0 + (0 : Nat))), .val (.int (4 : Nat)), .val (netD 4 ps), .emp, .emp, .emp, .emp, .emp, .emp, .emp, .emp, .emp, .emp, .emp, .emp, .emp, .emp] (some z4))) (by simp [e1]) (fun _ => ?_) (fun h => by cases h)
        obtain ⟨k, z5, e3, hk⟩ := hp 2 z4 (by decide)
        refine ex_nx fun K hK => ?_
        simp [e3]
        refine hK _ ?_
        clear hK K
        have lc := less_cut cnt4 k
        have l1 := cut_len (cnt4.map pairP) none (some (k : Int))
        have l2 := cut_len (cnt4.map pairP) (some ((k : Int) + 1)) none
        have eq := hcn.2
        have h6 : cnt4.length = 6 := rfl
        have o4 : okN 4 cnt4 := by unfold okN; decide
        rw [List.length_map] at l1 l2
        generalize cnt4 = qs at lc l1 l2 eq h6 o4
        have z6 : (NV.cutD (qs.map pairP) none (some (k : Int))).length + (NV.cutD (qs.map pairP) (some ((k : Int) + 1)) none).length ≤ 16777216 := by omega
        refine ex_nx fun K hK => ?_
        simp [z6, lc, eq]
        refine hK _ (ex_nil ⟨rfl, less qs k, z5, less_ok o4, by have := less_len (qs := qs) (k := k); omega, ?_⟩)
        simp [netD]
      · have c' : ¬ ((v : Int) = 0) := by omega
        refine ex_if (c := false) (st1 := (stL [.emp, .src, .val (.int (0 + (0 : Nat))), .val (.int (4 : Nat)), .val (netD 4 ps), .emp, .emp, .emp, .emp, .emp, .emp, .emp, .emp, .emp, .emp, .emp, .emp, .emp, .emp] (some z4))) (by simp [e1, c0, c']) (fun h => by cases h) (fun _ => ?_)
        exact ex_nil ⟨rfl, ps, z4, o, hl, by simp⟩
    · have c' : ¬ ((i : Int) = 0) := by omega
      refine ex_if (c := false) (st1 := (stL [.emp, .src, .val (.int (0 + (i : Nat))), .val (.int n), .val (netD n ps), .emp, .emp, .emp, .emp, .emp, .emp, .emp, .emp, .emp, .emp, .emp, .emp, .emp, .emp] (some z3))) (by simp [c, c']) (fun h => by cases h) (fun _ => ?_)
      exact ex_nil ⟨rfl, ps, z3, o, hl, by simp⟩
  rintro o' s ⟨rfl, ps, z3, o, hl, hk⟩
  refine ex_keep ?_
  rw [hk]
  exact hB n ps z3 h1 h2 o hl
end
end K83
set_option Elab.async false
set_option linter.all false
set_option maxRecDepth 100000
set_option maxHeartbeats 4000000
namespace K83
open PySem PySem.Spec PyProof.Rows L2 NV Bal
section
variable {Gdc Gla Gss Gsn Gis Gll Ges Glw Gwy Gcn : GF} {Gp Gn : GD}
/-- a net with ways not too long -/
theorem net_few (hw : Slway Gwy) {n : Nat} {ps : List Pair} {z : Src} (h1 : 1 ≤ n) (h2 : n ≤ 4) (o : okN n ps) (hl : ps.length ≤ 6) {B : MS} {Q : Out → Sta → Prop} (hB : ∀ (ps : List Pair), few n ps → Ex B (stL [.emp, .src, .emp, .val (.int n), .val (netD n ps), .emp, .val (.int (way n ps)), .emp, .emp, .emp, .emp, .emp, .emp, .emp, .emp, .emp, .emp, .emp, .emp] (some z)) Q) :
    Ex (sCons (sAsg 6 (mCall Gwy (fCons (mVar 4) (fNil))))
    (sCons (sWhile FUEL (qKeep [1, 3, 4, 6] (mB (mBin gtD (mVar 6) (mBin idxD (mLst (fCons (mC (.int 0)) (fCons (mC (.int 6)) (fCons (mC (.int 3)) (fCons (mC (.int 3)) (fNil)))))) (mBin subD (mVar 3) (mC (.int 1))))))) (Wlaw_1 Gdc Gla Gss Gp Gsn Gis Gll Ges Glw Gwy Gcn Gn FUEL))
    (sKeep [1, 3, 4, 6] B))) (stL [.emp, .src, .emp, .val (.int n), .val (netD n ps), .emp, .emp, .emp, .emp, .emp, .emp, .emp, .emp, .emp, .emp, .emp, .emp, .emp, .emp] (some z)) Q := by
  have e1 := hw n ps o h1 h2 hl
  refine ex_nx fun K hK => ?_
  simp [e1]
  refine hK _ ?_
  clear hK K e1
  obtain ⟨c, hc, hc6, hp⟩ : ∃ c : Nat, atI [PyData.int 0, .int 6, .int 3, .int 3] ((n : Int) - 1) = some (.int c) ∧ c ≤ 6 ∧ (2 ^ c) ^ n ≤ 100000 := by
    have : n = 1 ∨ n = 2 ∨ n = 3 ∨ n = 4 := by omega
    rcases this with rfl | rfl | rfl | rfl
    · exact ⟨0, rfl, by decide, by decide⟩
    · exact ⟨6, rfl, by decide, by decide⟩
    · exact ⟨3, rfl, by decide, by decide⟩
    · exact ⟨3, rfl, by decide, by decide⟩
  refine ex_cons (sWhile_ex (m := ps.length) (fun m s => ∃ ps : List Pair, ps.length = m ∧ ps.length ≤ 6 ∧ okN n ps ∧ s = (stL [.emp, .src, .emp, .val (.int n), .val (netD n ps), .emp, .val (.int (way n ps)), .emp, .emp, .emp, .emp, .emp, .emp, .emp, .emp, .emp, .emp, .emp, .emp] (some z))) (by unfold FUEL; omega) ⟨ps, rfl, hl, o, by simp⟩ ?_)
  rintro m s ⟨ps, rfl, hl, o, rfl⟩
  by_cases hlt : c < way n ps
  · refine ⟨true, (stL [.emp, .src, .emp, .val (.int n), .val (netD n ps), .emp, .val (.int (way n ps)), .emp, .emp, .emp, .emp, .emp, .emp, .emp, .emp, .emp, .emp, .emp, .emp] (some z)), by simp [hc, hlt], (fun h => by cases h), fun _ => ?_⟩
    have hwl := (way_is h1 o).2
    have o' : okN n ps.dropLast := fun p hp => o p (mem_dropLast hp)
    have e1 := hw n ps.dropLast o' h1 h2 (by rw [List.length_dropLast]; omega)
    have e2 : NV.cutD (ps.map pairP) none (some (-1)) = ps.dropLast.map pairP := by rw [cutD_last, List.map_dropLast]
    unfold Wlaw_1
    rw [shut_eq]
    refine ex_nx fun K hK => ?_
    simp [netD, e2]
    refine hK _ ?_
    clear hK K
    rw [← List.map_dropLast, show PyData.tuple [.int n, .tuple (ps.dropLast.map pairP)] = netD n ps.dropLast from rfl]
    refine ex_nx fun K hK => ?_
    simp [e1]
    refine hK _ (ex_nil ⟨ps.dropLast.length, by rw [List.length_dropLast]; omega, ps.dropLast, rfl, by rw [List.length_dropLast]; omega, o', ?_⟩)
    simp
  · refine ⟨false, (stL [.emp, .src, .emp, .val (.int n), .val (netD n ps), .emp, .val (.int (way n ps)), .emp, .emp, .emp, .emp, .emp, .emp, .emp, .emp, .emp, .emp, .emp, .emp] (some z)), by simp [hc]; omega, fun _ => ?_, (fun h => by cases h)⟩
    refine ex_keep ?_
    have := hB ps (few_of o h1 h2 (by omega) (c := c) (by omega) hp)
    simpa using this
theorem filter_none {α : Type} {l : List α} {p : α → Bool} : (l.filter p).isEmpty = (l.find? p).isNone := by
  induction l with
  | nil => rfl
  | cons x l ih =>
    rw [List.filter_cons, List.find?_cons]
    cases p x with
    | true => rfl
    | false => exact ih
theorem lap_ok (hdc : Scounts Gdc) (hla : Sled Gla) (hss : Ssos Gss) (hp : Spick Gp) (hsn : Sisn Gsn) (his : Sstep Gis) (hll : Sled Gll) (hes : Sshares Ges) (hlw : Sway Glw) (hwy : Slway Gwy) (hcn : Scnt Gcn) (hn : Snet Gn) (z : Src) (i : Nat) :
    Ex (Ylaw_5 Gdc Gla Gss Gp Gsn Gis Gll Ges Glw Gwy Gcn Gn FUEL) (stL [.emp, .src, .val (.int (0 + (i : Nat))), .emp, .emp, .emp, .emp, .emp, .emp, .emp, .emp, .emp, .emp, .emp, .emp, .emp, .emp, .emp, .emp] (some z)) fun o s => o = .nx ∧ ∃ z', keep [1] s = (stL [.emp, .src, .emp, .emp, .emp, .emp, .emp, .emp, .emp, .emp, .emp, .emp, .emp, .emp, .emp, .emp, .emp, .emp, .emp] (some z')) := by
  unfold Ylaw_5
  rw [shut_eq]
  refine net_picked hp hn hcn z i fun n ps z h1 h2 o hl => ?_
  refine net_few hwy h1 h2 o hl fun ps f => ?_
  clear o hl
  have o := f.1
  have hl := f.2.2.2.1
  have fw := few_way f
  have f5 := f.2.2.2.2
  have hM1 : 1 ≤ 2 ^ way n ps := Nat.one_le_two_pow
  have e1 := shlN_is (way n ps) (by have := (way_is h1 o).2; omega)
  have e2 := hlw n ps o h1 (by omega)
  have e3 := hes n ps o h1 (by omega) (by omega)
  have er := reprD_ok (both_repr f h2)
  generalize hM : 2 ^ way n ps = M at e1 fw f5 hM1
  have eu : ∀ line, decide (mnI (share n ps line) < mxI (share n ps line)) = decide (mnI (share n ps line) < mxI (share n ps line)) := fun _ => rfl
  generalize hW : way n ps = W at e1 e2 er
  have e3' : Ges [netD n ps] = some (.dat (.tuple (SH n ps))) := e3
  clear e3
  refine ex_nx fun K hK => ?_
  simp [e1]
  refine hK _ ?_
  clear hK K e1
  have k9 := c9 (Gdc := Gdc) (Gla := Gla) (Gss := Gss) (Gp := Gp) (Gsn := Gsn) (Gis := Gis) (Gll := Gll) (Ges := Ges) (Glw := Glw) (Gwy := Gwy) (Gcn := Gcn) (Gn := Gn) (n := n) (M := M) (a4 := .val (netD n ps)) (a6 := .val (.int W)) (z := z) (by omega) fw
  refine ex_nx fun K hK => ?_
  simp [k9]
  refine hK _ ?_
  clear hK K k9
  have k7 := c7 (Gdc := Gdc) (Gla := Gla) (Gss := Gss) (Gp := Gp) (Gsn := Gsn) (Gis := Gis) (Ges := Ges) (Glw := Glw) (Gwy := Gwy) (Gcn := Gcn) (Gn := Gn) hll (n := n) (M := M) (ps := ps) (a6 := .val (.int W)) (z := z) o (by omega) hM.symm
  refine ex_nx fun K hK => ?_
  simp [k7]
  refine hK _ ?_
  clear hK K k7
  refine ex_nx fun K hK => ?_
  simp [e2, e3', er]
  refine hK _ ?_
  clear hK K e2 e3' er
  -- twice as many
  refine ex_cons (ex_for (ds := (List.range n).map fun line => .tuple [rD (share n ps line), rD (alone n line M)]) (st1 := (stL [.emp, .src, .emp, .val (.int n), .val (netD n ps), .emp, .val (.int W), .val (.int M), .val (.list (AL n M)), .val (.tuple (SH n ps)), .emp, .emp, .emp, .emp, .emp, .emp, .emp, .emp, .emp] (some z)))
    (fun _ s => s = (stL [.emp, .src, .emp, .val (.int n), .val (netD n ps), .emp, .emp, .val (.int M), .emp, .val (.tuple (SH n ps)), .emp, .emp, .emp, .emp, .emp, .emp, .emp, .emp, .emp] (some z))) ?_ (by simp) ?_ ?_)
  · have hz : List.zipWith NV.pairD (SH n ps) (AL n M) = (List.range n).map fun line => .tuple [rD (share n ps line), rD (alone n line M)] := by
      unfold SH AL
      rw [List.zipWith_map, List.zipWith_self]
      rfl
    simp [hz]
  · rintro j d s hd rfl
    rw [List.getElem?_map] at hd
    obtain ⟨line, hline, rfl⟩ := map_some2 hd
    refine ⟨_, (by simp <;> rfl), ?_⟩
    refine (twice (Gdc := Gdc) (Gss := Gss) (Gp := Gp) (Gsn := Gsn) (Gis := Gis) (Gll := Gll) (Ges := Ges) (Glw := Glw) (Gwy := Gwy) (Gcn := Gcn) (Gn := Gn) hla (M := M) (z := z) (line := line) (a7 := .val (.int M)) (a9 := .val (.tuple (SH n ps))) h1 o (by omega) hM.symm).imp fun o s q => ?_
    obtain ⟨rfl, rfl⟩ := q
    simp
  intro s hs
  refine ex_keep ?_
  rw [hs]
  clear hs
  -- rows
  refine ex_nx fun K hK => ?_
  simp
  refine hK _ ?_
  clear hK K
  have hr : iRg1 (mVar 3) (stL [.emp, .src, .emp, .val (.int n), .val (netD n ps), .emp, .emp, .val (.int M), .emp, .val (.tuple (SH n ps)), .emp, .emp, .own [.tuple []], .emp, .emp, .emp, .emp, .emp, .emp] (some z)) = some (rgD 0 n, (stL [.emp, .src, .emp, .val (.int n), .val (netD n ps), .emp, .emp, .val (.int M), .emp, .val (.tuple (SH n ps)), .emp, .emp, .own [.tuple []], .emp, .emp, .emp, .emp, .emp, .emp] (some z))) := iRg1_is (by simp) (by omega)
  refine ex_cons (ex_for (fun k s => ∃ x12, (x12 = .own ((rowsB M k).map rD) ∨ x12 = .val (.list ((rowsB M k).map rD))) ∧ (0 < k → x12 = .val (.list ((rowsB M k).map rD))) ∧ s = (stL [.emp, .src, .emp, .val (.int n), .val (netD n ps), .emp, .emp, .val (.int M), .emp, .val (.tuple (SH n ps)), .emp, .emp, x12, .emp, .emp, .emp, .emp, .emp, .emp] (some z))) hr ⟨.own [.tuple []], .inl rfl, (fun h => absurd h (by omega)), by simp⟩ ?_ ?_)
  · rintro k d s hd ⟨x12, hx, _, rfl⟩
    obtain ⟨hk, rfl⟩ := rgD_at hd
    refine ⟨_, (by simp <;> rfl), ?_⟩
    refine (row_turn (Gdc := Gdc) (Gla := Gla) (Gss := Gss) (Gp := Gp) (Gsn := Gsn) (Gis := Gis) (Gll := Gll) (Ges := Ges) (Glw := Glw) (Gwy := Gwy) (Gcn := Gcn) (Gn := Gn) (a4 := .val (netD n ps)) (a9 := .val (.tuple (SH n ps))) fw hk (by omega) hM1 f5 hx).imp fun o s q => ?_
    obtain ⟨rfl, q⟩ := q
    exact ⟨_, .inr rfl, fun _ => rfl, q⟩
  rintro s ⟨x12, _, hx, hs⟩
  rw [rgD_len] at hx
  have hx := hx (by omega)
  refine ex_keep ?_
  rw [← keep_keep (ks := [1, 3, 4, 7, 9, 12]) (by decide), hs]
  clear hs
  subst hx
  -- due
  have k3 := c3 (Gdc := Gdc) (Gla := Gla) (Gss := Gss) (Gp := Gp) (Gsn := Gsn) (Gis := Gis) (Gll := Gll) (Ges := Ges) (Glw := Glw) (Gwy := Gwy) (Gcn := Gcn) (Gn := Gn) (n := n) (ps := ps) (a3 := .val (.int n)) (a4 := .val (netD n ps)) (a12 := .val (.list ((rowsB M n).map rD))) (z := z) h1 (by omega)
  have hb : (((List.range n).filter fun line => decide (mnI (share n ps line) < mxI (share n ps line))).map fun _ => PyData.int 1).isEmpty = (unev n ps).isNone := by
    rw [List.isEmpty_map]; exact filter_none
  have hsh : SeqAt.shaped (.list (((List.range n).filter fun line => decide (mnI (share n ps line) < mxI (share n ps line))).map fun _ => .int 1)) = true := by
    have := shaped_ints (((List.range n).filter fun line => decide (mnI (share n ps line) < mxI (share n ps line))).map fun _ => (1 : Int))
    rw [pI, List.map_map] at this
    exact this
  generalize (((List.range n).filter fun line => decide (mnI (share n ps line) < mxI (share n ps line))).map fun _ => PyData.int 1) = Z at k3 hb hsh
  refine ex_nx fun K hK => ?_
  simp [k3, hb, hsh]
  refine hK _ ?_
  clear hK K k3 hb hsh
  have k2 := c2 (Gdc := Gdc) (Gla := Gla) (Gss := Gss) (Gp := Gp) (Gsn := Gsn) (Ges := Ges) (Glw := Glw) (Gwy := Gwy) (Gcn := Gcn) (Gn := Gn) hll his (n := n) (M := M) (ps := ps) (a9 := .val (.tuple (SH n ps))) (a15 := .val (.bool (unev n ps).isNone)) (z := z) o h1 (by omega) f5 rfl
  have hb : (((rowsB M n).filter fun r => !stepB (ledA ps r)).map rD).isEmpty = (unst n ps).isNone := by
    rw [List.isEmpty_map]
    unfold unst
    rw [hW] at hM ⊢
    rw [hM]
    exact filter_none
  have hsh : SeqAt.shaped (.list (((rowsB M n).filter fun r => !stepB (ledA ps r)).map rD)) = true := shaped_rows _
  generalize (((rowsB M n).filter fun r => !stepB (ledA ps r)).map rD) = Z at k2 hb hsh
  generalize Sl.val (.list ((rowsB M n).map rD)) = x12 at k2 ⊢
  have hdue : ∀ {B : MS} {Q : Out → Sta → Prop}, Ex B (stL [.emp, .src, .emp, .val (.int n), .val (netD n ps), .emp, .emp, .emp, .emp, .val (.tuple (SH n ps)), .emp, .emp, x12, .emp, .emp, .val (.bool (counts n ps)), .emp, .emp, .emp] (some z)) Q → Ex (sCons (sAsg 15 (mAndV (mVar 15) (mBin eqD2 (Claw_2 Gdc Gla Gss Gp Gsn Gis Gll Ges Glw Gwy Gcn Gn) (mLst (fNil))))) B) (stL [.emp, .src, .emp, .val (.int n), .val (netD n ps), .emp, .emp, .emp, .emp, .val (.tuple (SH n ps)), .emp, .emp, x12, .emp, .emp, .val (.bool (unev n ps).isNone), .emp, .emp, .emp] (some z)) Q := fun hB => by
    refine ex_nx fun K hK => ?_
    cases hu : (unev n ps).isNone with
    | false =>
      have : counts n ps = false := by unfold counts; rw [hu]; rfl
      rw [this] at hB
      simp
      exact hK _ hB
    | true =>
      have : counts n ps = (unst n ps).isNone := by unfold counts; rw [hu]; rfl
      rw [this] at hB
      rw [hu] at k2
      simp [k2, hb, hsh]
      exact hK _ hB
  refine hdue ?_
  clear hdue k2 hb hsh
  have e1 := hdc n ps f
  have rb := reprD_ok (bool_ok (counts n ps))
  have e2 := hsn n ps o (by omega)
  have h3 : counts n ps = true → ¬ ((n : Int) = 3) := fun hc h => by
    have : n = 3 := by omega
    subst this
    rw [counts_three o] at hc
    cases hc
  have hso : counts n ps = true → sortsB n ps = true := counts_sorts h1 o
  have hlook : ∀ z a16, Ex (Ylaw_1 Gdc Gla Gss Gp Gsn Gis Gll Ges Glw Gwy Gcn Gn FUEL) (stL [.emp, .src, .emp, .val (.int n), .val (netD n ps), .emp, .emp, .emp, .emp, .emp, .emp, .emp, .emp, .emp, .emp, .val (.bool (counts n ps)), a16, .emp, .emp] (some z)) fun o s => o = .nx ∧ ∃ z', keep [1, 3, 4, 15] s = (stL [.emp, .src, .emp, .val (.int n), .val (netD n ps), .emp, .emp, .emp, .emp, .emp, .emp, .emp, .emp, .emp, .emp, .val (.bool (counts n ps)), .emp, .emp, .emp] (some z')) := fun z a16 => look_ok hp hla hss o h1 h2
  have htail : Ex (sCons (sFor (tKeep [1, 3, 4, 15] (tName 16)) (iRg1 (mC (.int 5))) (Ylaw_1 Gdc Gla Gss Gp Gsn Gis Gll Ges Glw Gwy Gcn Gn FUEL)) sNil) (stL [.emp, .src, .emp, .val (.int n), .val (netD n ps), .emp, .emp, .emp, .emp, .val (.tuple (SH n ps)), .emp, .emp, x12, .emp, .emp, .val (.bool (counts n ps)), .emp, .emp, .emp] (some z)) fun o s => o = .nx ∧ ∃ z', keep [1] s = (stL [.emp, .src, .emp, .emp, .emp, .emp, .emp, .emp, .emp, .emp, .emp, .emp, .emp, .emp, .emp, .emp, .emp, .emp, .emp] (some z')) := by
    refine ex_cons (ex_for (ds := rgD 0 5) (st1 := (stL [.emp, .src, .emp, .val (.int n), .val (netD n ps), .emp, .emp, .emp, .emp, .val (.tuple (SH n ps)), .emp, .emp, x12, .emp, .emp, .val (.bool (counts n ps)), .emp, .emp, .emp] (some z))) (fun _ s => ∃ z', s = (stL [.emp, .src, .emp, .val (.int n), .val (netD n ps), .emp, .emp, .emp, .emp, .emp, .emp, .emp, .emp, .emp, .emp, .val (.bool (counts n ps)), .emp, .emp, .emp] (some z'))) (by simp) ⟨z, by simp⟩ ?_ ?_)
    · rintro j d s hd ⟨z', rfl⟩
      refine ⟨_, (by simp <;> rfl), ?_⟩
      refine (hlook z' (.val d)).imp fun o s q => ?_
      obtain ⟨rfl, z2, q⟩ := q
      exact ⟨z2, q⟩
    · rintro s ⟨z', hs⟩
      refine ex_nil ⟨rfl, z', ?_⟩
      rw [← keep_keep (ks := [1, 3, 4, 15]) (by decide), hs]
      simp
  clear hlook
  generalize counts n ps = c at *
  generalize netD n ps = N at *
  refine ex_nx fun K hK => ?_
  cases c with
  | true =>
    have h3 := h3 rfl
    have h3' : ¬ (n = 3) := by omega
    simp [e1, rb, h3, h3']
    refine hK _ ?_
    clear hK K
    rw [hso rfl] at e2
    refine ex_nx fun K hK => ?_
    simp [e2]
    refine hK _ ?_
    clear hK K
    exact htail
  | false =>
    simp [e1, rb]
    refine hK _ ?_
    clear hK K
    refine ex_nx fun K hK => ?_
    simp [e2]
    refine hK _ ?_
    clear hK K
    exact htail
end
theorem run_law (z : Src) : Ex (Blaw Gdoes_count Gled_amounts Gstep_of_sum G_law_pick Gis_sorting_net G_law_is_step G_law_led Geven_shares Glongest_way G_law_way G_law_counting G_law_net FUEL) (stL [.emp, .src, .emp, .emp, .emp, .emp, .emp, .emp, .emp, .emp, .emp, .emp, .emp, .emp, .emp, .emp, .emp, .emp, .emp] (some z)) fun o _ => o = .rt (.bool true) := by
  have hp := s_law_pick
  have hn : Snet G_law_net := by unfold G_law_net; rw [shut_eq]; exact net_ok hp
  have hl : Sled Gled_amounts := by unfold Gled_amounts; rw [shut_eq]; exact led_ok
  have hll : Sled G_law_led := by unfold G_law_led; rw [shut_eq]; exact lled_ok
  have hst : Sstep Gis_step := by unfold Gis_step; rw [shut_eq]; exact step_ok
  have hls : Sstep G_law_is_step := by unfold G_law_is_step; rw [shut_eq]; exact lstep_ok
  have hwy : Sway Glongest_way := by unfold Glongest_way; rw [shut_eq]; exact way_ok
  have hlw : Slway G_law_way := by unfold G_law_way; rw [shut_eq]; exact lway_ok
  have hal : Salone Gamounts_alone := by unfold Gamounts_alone; rw [shut_eq]; exact alone_ok
  have hs : Sshares Geven_shares := by unfold Geven_shares; rw [shut_eq]; exact shares_ok hl hal hwy
  have hrw : Srows Grows_below := by unfold Grows_below; rw [shut_eq]; exact rows_ok
  have hun : Sunst Gfirst_unstep := by unfold Gfirst_unstep; rw [shut_eq]; exact unst_ok hrw hwy hst hl
  have hue : Sunev Gfirst_uneven_line := by unfold Gfirst_uneven_line; rw [shut_eq]; exact unev_ok hs
  have hdc : Scounts Gdoes_count := by unfold Gdoes_count; rw [shut_eq]; exact counts_ok hue hun
  have hss : Ssos Gstep_of_sum := by unfold Gstep_of_sum; rw [shut_eq]; exact sos_ok
  have hro : Srow Gled_row := by unfold Gled_row; rw [shut_eq]; exact ledrow_ok
  have has : Sasc Gis_ascending := by unfold Gis_ascending; rw [shut_eq]; exact asc_ok
  have hso : Ssort Gdoes_sort := by unfold Gdoes_sort; rw [shut_eq]; exact sort_ok has hro
  have hwo : Swords Gall_words := by unfold Gall_words; rw [shut_eq]; exact words_ok
  have hba : Sbad Gwords_not_sorted := by unfold Gwords_not_sorted; rw [shut_eq]; exact bad_ok hwo hso
  have hsn : Sisn Gis_sorting_net := by unfold Gis_sorting_net; rw [shut_eq]; exact isn_ok hba
  have hme : Smerge G_law_merging := by unfold G_law_merging; rw [shut_eq]; exact merge_ok
  have hcn : Scnt G_law_counting := by unfold G_law_counting; rw [shut_eq]; exact cnt_ok hme
  generalize Gdoes_count = Gdc at *
  generalize Gled_amounts = Gla at *
  generalize Gstep_of_sum = Gss at *
  generalize G_law_pick = Gp at *
  generalize Gis_sorting_net = Gsn at *
  generalize G_law_is_step = Gis at *
  generalize G_law_led = Gll at *
  generalize Geven_shares = Ges at *
  generalize Glongest_way = Glw at *
  generalize G_law_way = Gwy at *
  generalize G_law_counting = Gcn at *
  generalize G_law_net = Gn at *
  unfold Blaw
  refine ex_cons (ex_for (ds := rgD 0 3) (st1 := (stL [.emp, .src, .emp, .emp, .emp, .emp, .emp, .emp, .emp, .emp, .emp, .emp, .emp, .emp, .emp, .emp, .emp, .emp, .emp] (some z))) (fun _ s => ∃ z', s = (stL [.emp, .src, .emp, .emp, .emp, .emp, .emp, .emp, .emp, .emp, .emp, .emp, .emp, .emp, .emp, .emp, .emp, .emp, .emp] (some z'))) (by simp) ⟨z, by simp⟩ ?_ ?_)
  · rintro i d s hd ⟨z', rfl⟩
    obtain ⟨hi, rfl⟩ := rgD_at hd
    refine ⟨_, rfl, ?_⟩
    rw [show ((stL [.emp, .src, .emp, .emp, .emp, .emp, .emp, .emp, .emp, .emp, .emp, .emp, .emp, .emp, .emp, .emp, .emp, .emp, .emp] (some z'))).put 2 (.val (.int (0 + (i : Nat)))) = (stL [.emp, .src, .val (.int (0 + (i : Nat))), .emp, .emp, .emp, .emp, .emp, .emp, .emp, .emp, .emp, .emp, .emp, .emp, .emp, .emp, .emp, .emp] (some z')) from by simp]
    refine (lap_ok hdc hl hss hp hsn hls hll hs hwy hlw hcn hn z' i).imp fun o s q => ?_
    obtain ⟨rfl, z2, e⟩ := q
    exact ⟨z2, e⟩
  · rintro s ⟨z', e⟩
    refine ex_keep ?_
    rw [← keep_keep (ks := [1]) (by decide), e]
    have o3 : okN 3 [(0, 1), (1, 2), (0, 1)] := by unfold okN; decide
    have e1 := hdc 3 [(0, 1), (1, 2), (0, 1)] (few_of o3 (by decide) (by decide) (by decide) (way_is (by decide) o3).2 (by decide))
    rw [counts_three o3] at e1
    have e2 := hdc 2 [(0, 1)] (few_of (by unfold okN; decide) (by decide) (by decide) (by decide) (way_is (by decide) (by unfold okN; decide)).2 (by decide))
    rw [show counts 2 [(0, 1)] = true from by decide +kernel] at e2
    simp [netD, pairP] at e1 e2
    refine ex_fin fun K hK => ?_
    simp [e1, e2]
    exact hK _ _ rfl
end K83
set_option Elab.async false
set_option linter.all false
set_option maxRecDepth 100000
set_option maxHeartbeats 4000000
namespace K83
open PySem PySem.Spec PyProof.Rows L2 NV
theorem body_law : defBody slaw = (defBody slaw).getD 0 (.Pass ⟨0, 0, 0, 0⟩) :: (defBody slaw).drop 1 := rfl
theorem all_mk {l : PySem.W.OpenLaw} {w : World} {K : PySem.W.Frag} {h : Heap} {mg : Str → Option Value} {fa : Addr} (X : K.In h) (G : h.Ns mainGlobals mg) (hfa : mg "law" = some (.ref fa))
    (d0 : DefAt K "led_amounts" sled_amounts) (d1 : DefAt K "is_step" sis_step) (d2 : DefAt K "step_of_sum" sstep_of_sum) (d3 : DefAt K "longest_way" slongest_way) (d4 : DefAt K "amounts_alone" samounts_alone) (d5 : DefAt K "even_shares" seven_shares) (d6 : DefAt K "rows_below" srows_below) (d7 : DefAt K "first_unstep" sfirst_unstep) (d8 : DefAt K "first_uneven_line" sfirst_uneven_line) (d9 : DefAt K "does_count" sdoes_count) (d10 : DefAt K "led_row" sled_row) (d11 : DefAt K "is_ascending" sis_ascending) (d12 : DefAt K "does_sort" sdoes_sort) (d13 : DefAt K "all_words" sall_words) (d14 : DefAt K "words_not_sorted" swords_not_sorted) (d15 : DefAt K "is_sorting_net" sis_sorting_net) (d16 : DefAt K "_law_source" sOpen) (d17 : DefAt K "_law_pick" sPick) (d18 : DefAt K "_law_net" s_law_net) (d19 : DefAt K "_law_led" s_law_led) (d20 : DefAt K "_law_is_step" s_law_is_step) (d21 : DefAt K "_law_counting" s_law_counting) (d22 : DefAt K "_law_merging" s_law_merging) (d23 : DefAt K "_law_way" s_law_way) (d24 : DefAt K "law" slaw)
    (zabs : PySem.W.nsIn K mainGlobals "abs" = some none) (zall : PySem.W.nsIn K mainGlobals "all" = some none) (zenumerate : PySem.W.nsIn K mainGlobals "enumerate" = some none) (zint : PySem.W.nsIn K mainGlobals "int" = some none) (zlen : PySem.W.nsIn K mainGlobals "len" = some none) (zlist : PySem.W.nsIn K mainGlobals "list" = some none) (zmax : PySem.W.nsIn K mainGlobals "max" = some none) (zmin : PySem.W.nsIn K mainGlobals "min" = some none) (zrange : PySem.W.nsIn K mainGlobals "range" = some none) (zrepr : PySem.W.nsIn K mainGlobals "repr" = some none) (zsum : PySem.W.nsIn K mainGlobals "sum" = some none) (ztuple : PySem.W.nsIn K mainGlobals "tuple" = some none) (zzip : PySem.W.nsIn K mainGlobals "zip" = some none) :
    ∃ fd : FuncData, (∀ (s : Shared) (u : Value), BindsTo s fd ⟨[u], []⟩ [("script", u)]) ∧ ∀ base : Heap, K.In base → base.Ns mainGlobals mg → FnG l.prog w K mg base 16 fa fd ["script"] (NV.spLaw K) := by
  have no := fun {n : Str} (e : PySem.W.nsIn K mainGlobals n = some none) => PySem.W.mg_none_of X G e
  obtain ⟨f0, fd0, F0, g0, k0, b0⟩ := d0.get X G (ps := ["net", "amounts"]) fun _ _ _ _ _ _ us hl => match us, hl with | [_, _], _ => rfl
  obtain ⟨f1, fd1, F1, g1, k1, b1⟩ := d1.get X G (ps := ["amounts"]) fun _ _ _ _ _ _ us hl => match us, hl with | [_], _ => rfl
  obtain ⟨f2, fd2, F2, g2, k2, b2⟩ := d2.get X G (ps := ["n", "total"]) fun _ _ _ _ _ _ us hl => match us, hl with | [_, _], _ => rfl
  obtain ⟨f3, fd3, F3, g3, k3, b3⟩ := d3.get X G (ps := ["net"]) fun _ _ _ _ _ _ us hl => match us, hl with | [_], _ => rfl
  obtain ⟨f4, fd4, F4, g4, k4, b4⟩ := d4.get X G (ps := ["n", "line", "many"]) fun _ _ _ _ _ _ us hl => match us, hl with | [_, _, _], _ => rfl
  obtain ⟨f5, fd5, F5, g5, k5, b5⟩ := d5.get X G (ps := ["net"]) fun _ _ _ _ _ _ us hl => match us, hl with | [_], _ => rfl
  obtain ⟨f6, fd6, F6, g6, k6, b6⟩ := d6.get X G (ps := ["n", "many"]) fun _ _ _ _ _ _ us hl => match us, hl with | [_, _], _ => rfl
  obtain ⟨f7, fd7, F7, g7, k7, b7⟩ := d7.get X G (ps := ["net"]) fun _ _ _ _ _ _ us hl => match us, hl with | [_], _ => rfl
  obtain ⟨f8, fd8, F8, g8, k8, b8⟩ := d8.get X G (ps := ["net"]) fun _ _ _ _ _ _ us hl => match us, hl with | [_], _ => rfl
  obtain ⟨f9, fd9, F9, g9, k9, b9⟩ := d9.get X G (ps := ["net"]) fun _ _ _ _ _ _ us hl => match us, hl with | [_], _ => rfl
  obtain ⟨f10, fd10, F10, g10, k10, b10⟩ := d10.get X G (ps := ["net", "row"]) fun _ _ _ _ _ _ us hl => match us, hl with | [_, _], _ => rfl
  obtain ⟨f11, fd11, F11, g11, k11, b11⟩ := d11.get X G (ps := ["row"]) fun _ _ _ _ _ _ us hl => match us, hl with | [_], _ => rfl
  obtain ⟨f12, fd12, F12, g12, k12, b12⟩ := d12.get X G (ps := ["net", "row"]) fun _ _ _ _ _ _ us hl => match us, hl with | [_, _], _ => rfl
  obtain ⟨f13, fd13, F13, g13, k13, b13⟩ := d13.get X G (ps := ["n"]) fun _ _ _ _ _ _ us hl => match us, hl with | [_], _ => rfl
  obtain ⟨f14, fd14, F14, g14, k14, b14⟩ := d14.get X G (ps := ["net"]) fun _ _ _ _ _ _ us hl => match us, hl with | [_], _ => rfl
  obtain ⟨f15, fd15, F15, g15, k15, b15⟩ := d15.get X G (ps := ["net"]) fun _ _ _ _ _ _ us hl => match us, hl with | [_], _ => rfl
  obtain ⟨f16, fd16, F16, g16, k16, b16⟩ := d16.get X G (ps := ["script"]) fun _ _ _ _ _ _ us hl => match us, hl with | [_], _ => rfl
  obtain ⟨f17, fd17, F17, g17, k17, b17⟩ := d17.get X G (ps := ["source", "most"]) fun _ _ _ _ _ _ us hl => match us, hl with | [_, _], _ => rfl
  obtain ⟨f18, fd18, F18, g18, k18, b18⟩ := d18.get X G (ps := ["source", "n", "most"]) fun _ _ _ _ _ _ us hl => match us, hl with | [_, _, _], _ => rfl
  obtain ⟨f19, fd19, F19, g19, k19, b19⟩ := d19.get X G (ps := ["net", "amounts"]) fun _ _ _ _ _ _ us hl => match us, hl with | [_, _], _ => rfl
  obtain ⟨f20, fd20, F20, g20, k20, b20⟩ := d20.get X G (ps := ["amounts"]) fun _ _ _ _ _ _ us hl => match us, hl with | [_], _ => rfl
  obtain ⟨f21, fd21, F21, g21, k21, b21⟩ := d21.get X G (ps := ["n"]) fun _ _ _ _ _ _ us hl => match us, hl with | [_], _ => rfl
  obtain ⟨f22, fd22, F22, g22, k22, b22⟩ := d22.get X G (ps := ["lines"]) fun _ _ _ _ _ _ us hl => match us, hl with | [_], _ => rfl
  obtain ⟨f23, fd23, F23, g23, k23, b23⟩ := d23.get X G (ps := ["net"]) fun _ _ _ _ _ _ us hl => match us, hl with | [_], _ => rfl
  obtain ⟨fL, oc, od, kV, dc, pm, an, cd, ct, sl, aL, lL, cL, kL⟩ := d24.ex
  have FL := fun_mk (st := slaw) lL cL kL
  have e := hfa.symm.trans (PySem.W.mg_of X G aL)
  cases e
  refine ⟨PySem.W.fnOf "law" "law" (defArgs slaw) (defBody slaw) (defScope slaw) .none kV dc pm an cd ct, fun s u => .of_eq rfl, fun base _ _ => ?_⟩
  have Cled_amounts : CalG l.prog w K mg base 1 "led_amounts" (spP 2 Gled_amounts) := .mk' (cled_amounts 0 F0 (m_list := no zlist) (m_tuple := no ztuple)) g0 k0 b0
  have Cis_step : CalG l.prog w K mg base 1 "is_step" (spP 1 Gis_step) := .mk' (cis_step 0 F1 (m_all := no zall) (m_len := no zlen) (m_range := no zrange)) g1 k1 b1
  have Cstep_of_sum : CalG l.prog w K mg base 1 "step_of_sum" (spP 2 Gstep_of_sum) := .mk' (cstep_of_sum 0 F2 (m_range := no zrange) (m_tuple := no ztuple)) g2 k2 b2
  have Clongest_way : CalG l.prog w K mg base 1 "longest_way" (spP 1 Glongest_way) := .mk' (clongest_way 0 F3 (m_max := no zmax)) g3 k3 b3
  have Camounts_alone : CalG l.prog w K mg base 1 "amounts_alone" (spP 3 Gamounts_alone) := .mk' (camounts_alone 0 F4 (m_range := no zrange) (m_tuple := no ztuple)) g4 k4 b4
  have Crows_below : CalG l.prog w K mg base 1 "rows_below" (spP 2 Grows_below) := .mk' (crows_below 0 F6 (m_list := no zlist) (m_range := no zrange)) g6 k6 b6
  have Cled_row : CalG l.prog w K mg base 1 "led_row" (spP 2 Gled_row) := .mk' (cled_row 0 F10 (m_list := no zlist) (m_max := no zmax) (m_min := no zmin) (m_tuple := no ztuple)) g10 k10 b10
  have Cis_ascending : CalG l.prog w K mg base 1 "is_ascending" (spP 1 Gis_ascending) := .mk' (cis_ascending 0 F11 (m_all := no zall) (m_zip := no zzip)) g11 k11 b11
  have Call_words : CalG l.prog w K mg base 1 "all_words" (spP 1 Gall_words) := .mk' (call_words 0 F13 (m_list := no zlist) (m_range := no zrange) (m_tuple := no ztuple)) g13 k13 b13
  have C_law_pick : CalG l.prog w K mg base 1 "_law_pick" (spS 2 G_law_pick) := .mk' (ok_pick F17 (no zlen) (no zint)) g17 k17 b17
  have C_law_led : CalG l.prog w K mg base 1 "_law_led" (spP 2 G_law_led) := .mk' (c_law_led 0 F19 (m_list := no zlist) (m_tuple := no ztuple)) g19 k19 b19
  have C_law_is_step : CalG l.prog w K mg base 1 "_law_is_step" (spP 1 G_law_is_step) := .mk' (c_law_is_step 0 F20 (m_zip := no zzip)) g20 k20 b20
  have C_law_way : CalG l.prog w K mg base 1 "_law_way" (spP 1 G_law_way) := .mk' (c_law_way 0 F23 (m_len := no zlen) (m_max := no zmax) (m_range := no zrange)) g23 k23 b23
  have Ceven_shares : CalG l.prog w K mg base 2 "even_shares" (spP 1 Geven_shares) := .mk' (ceven_shares 1 F5 (m_range := no zrange) (m_tuple := no ztuple) (Cled_amounts := Cled_amounts.mono (by decide)) (Camounts_alone := Camounts_alone.mono (by decide)) (Clongest_way := Clongest_way.mono (by decide))) g5 k5 b5
  have Cfirst_unstep : CalG l.prog w K mg base 2 "first_unstep" (spP 1 Gfirst_unstep) := .mk' (cfirst_unstep 1 F7 (Crows_below := Crows_below.mono (by decide)) (Clongest_way := Clongest_way.mono (by decide)) (Cis_step := Cis_step.mono (by decide)) (Cled_amounts := Cled_amounts.mono (by decide))) g7 k7 b7
  have Cdoes_sort : CalG l.prog w K mg base 2 "does_sort" (spP 2 Gdoes_sort) := .mk' (cdoes_sort 1 F12 (Cis_ascending := Cis_ascending.mono (by decide)) (Cled_row := Cled_row.mono (by decide))) g12 k12 b12
  have C_law_net : CalG l.prog w K mg base 2 "_law_net" (spS 3 G_law_net) := .mk' (c_law_net 1 F18 (m_range := no zrange) (m_tuple := no ztuple) (C_law_pick := C_law_pick.mono (by decide))) g18 k18 b18
  have Cfirst_uneven_line : CalG l.prog w K mg base 3 "first_uneven_line" (spP 1 Gfirst_uneven_line) := .mk' (cfirst_uneven_line 2 F8 (m_enumerate := no zenumerate) (m_max := no zmax) (m_min := no zmin) (Ceven_shares := Ceven_shares.mono (by decide))) g8 k8 b8
  have Cwords_not_sorted : CalG l.prog w K mg base 3 "words_not_sorted" (spP 1 Gwords_not_sorted) := .mk' (cwords_not_sorted 2 F14 (m_tuple := no ztuple) (Call_words := Call_words.mono (by decide)) (Cdoes_sort := Cdoes_sort.mono (by decide))) g14 k14 b14
  have Cdoes_count : CalG l.prog w K mg base 4 "does_count" (spP 1 Gdoes_count) := .mk' (cdoes_count 3 F9 (Cfirst_uneven_line := Cfirst_uneven_line.mono (by decide)) (Cfirst_unstep := Cfirst_unstep.mono (by decide))) g9 k9 b9
  have Cis_sorting_net : CalG l.prog w K mg base 4 "is_sorting_net" (spP 1 Gis_sorting_net) := .mk' (cis_sorting_net 3 F15 (Cwords_not_sorted := Cwords_not_sorted.mono (by decide))) g15 k15 b15
  have C_law_merging : CalG l.prog w K mg base 12 "_law_merging" (spP 1 G_law_merging) := .mk' (c_law_merging 0 F22 g22 k22 b22 (m_len := no zlen) (m_range := no zrange) (m_tuple := no ztuple)) g22 k22 b22
  have C_law_counting : CalG l.prog w K mg base 13 "_law_counting" (spP 1 G_law_counting) := .mk' (c_law_counting 12 F21 (m_len := no zlen) (m_range := no zrange) (C_law_merging := C_law_merging.mono (by decide))) g21 k21 b21
  have P4 : FnG l.prog w K mg base 15 f16 fd16 ["script"] (spO K) := ok_open F16 (no zint) (no zabs)
  refine fnLaw (k := 15) (N := ["script", "source", "lap", "n", "net", "k", "far", "many", "alone", "shares", "one", "row", "rows", "line", "late", "due", "look", "amounts", "x"]) (body := Blaw Gdoes_count Gled_amounts Gstep_of_sum G_law_pick Gis_sorting_net G_law_is_step G_law_led Geven_shares Glongest_way G_law_way G_law_counting G_law_net) FL sclaw (by decide) body_law
    (fun cdv A outer s H E hr hgu => ps_set (i := 1) sclaw.nd rfl (.inr rfl) (pe_callG P4 hr hgu (by rfl) g16 k16 b16 (pa_cons (pv 0) pa_nil)))
    (fun cdv A outer s H E hr g n => bvlaw (k := 15) (m_int := no zint) (m_len := no zlen) (m_max := no zmax) (m_min := no zmin) (m_range := no zrange) (m_repr := no zrepr) (m_sum := no zsum) (m_tuple := no ztuple) (m_zip := no zzip) (Cdoes_count := Cdoes_count.mono (by decide)) (Ldoes_count := Ldoes_count) (Cled_amounts := Cled_amounts.mono (by decide)) (Lled_amounts := Lled_amounts) (Cstep_of_sum := Cstep_of_sum.mono (by decide)) (Lstep_of_sum := Lstep_of_sum) (C_law_pick := C_law_pick.mono (by decide)) (L_law_pick := L_law_pick) (Cis_sorting_net := Cis_sorting_net.mono (by decide)) (Lis_sorting_net := Lis_sorting_net) (C_law_is_step := C_law_is_step.mono (by decide)) (L_law_is_step := L_law_is_step) (C_law_led := C_law_led.mono (by decide)) (L_law_led := L_law_led) (Ceven_shares := Ceven_shares.mono (by decide)) (Leven_shares := Leven_shares) (Clongest_way := Clongest_way.mono (by decide)) (Llongest_way := Llongest_way) (C_law_way := C_law_way.mono (by decide)) (L_law_way := L_law_way) (C_law_counting := C_law_counting.mono (by decide)) (L_law_counting := L_law_counting) (C_law_net := C_law_net.mono (by decide)) (L_law_net := L_law_net) (cdv := cdv) (A := A) (outer := outer) (s := s) (H := H) (E := E) (hr := hr) (g := g) (n := n))
    (fun z => by
      obtain ⟨o, st', e, rfl⟩ := run_law z
      exact ⟨FUEL, st', (congrArg (fun q => Blaw Gdoes_count Gled_amounts Gstep_of_sum G_law_pick Gis_sorting_net G_law_is_step G_law_led Geven_shares Glongest_way G_law_way G_law_counting G_law_net FUEL q) (law_st 17 (some z))).trans e⟩)
end K83
open PySem PySem.W PyProof.Rows in
set_option maxHeartbeats 0 in
theorem PySem.Challenge.cw_sortedbynets_k83_whole_nets_that_count_holds : PySem.Challenge.rw_sortedbynets_k83_whole_nets_that_count.Holds := by
  w_on; o_law; k_head; (case hw => w_witness2)
  k_fill
  refine NV.walk_ofG (l := PySem.Challenge.rw_sortedbynets_k83_whole_nets_that_count) (k := 16) (x := "script") rfl rfl ⟨rfl, by decide, by decide⟩ (fun w h Y => PySem.W.kIn_of Y) ?F
  case F =>
    intro w mg fa h KX G hmg
    refine' K83.all_mk KX G hmg (.of ?a0 ?l0 ?c0 ?k0) (.of ?a1 ?l1 ?c1 ?k1) (.of ?a2 ?l2 ?c2 ?k2) (.of ?a3 ?l3 ?c3 ?k3) (.of ?a4 ?l4 ?c4 ?k4) (.of ?a5 ?l5 ?c5 ?k5) (.of ?a6 ?l6 ?c6 ?k6) (.of ?a7 ?l7 ?c7 ?k7) (.of ?a8 ?l8 ?c8 ?k8) (.of ?a9 ?l9 ?c9 ?k9) (.of ?a10 ?l10 ?c10 ?k10) (.of ?a11 ?l11 ?c11 ?k11) (.of ?a12 ?l12 ?c12 ?k12) (.of ?a13 ?l13 ?c13 ?k13) (.of ?a14 ?l14 ?c14 ?k14) (.of ?a15 ?l15 ?c15 ?k15) (.of ?a16 ?l16 ?c16 ?k16) (.of ?a17 ?l17 ?c17 ?k17) (.of ?a18 ?l18 ?c18 ?k18) (.of ?a19 ?l19 ?c19 ?k19) (.of ?a20 ?l20 ?c20 ?k20) (.of ?a21 ?l21 ?c21 ?k21) (.of ?a22 ?l22 ?c22 ?k22) (.of ?a23 ?l23 ?c23 ?k23) (.of ?a24 ?l24 ?c24 ?k24) ?z0 ?z1 ?z2 ?z3 ?z4 ?z5 ?z6 ?z7 ?z8 ?z9 ?z10 ?z11 ?z12
    (case a0 => k_is); (case l0 => k_is); (case c0 => k_is); (case k0 => k_is)
    (case a1 => k_is); (case l1 => k_is); (case c1 => k_is); (case k1 => k_is)
    (case a2 => k_is); (case l2 => k_is); (case c2 => k_is); (case k2 => k_is)
    (case a3 => k_is); (case l3 => k_is); (case c3 => k_is); (case k3 => k_is)
    (case a4 => k_is); (case l4 => k_is); (case c4 => k_is); (case k4 => k_is)
    (case a5 => k_is); (case l5 => k_is); (case c5 => k_is); (case k5 => k_is)
    (case a6 => k_is); (case l6 => k_is); (case c6 => k_is); (case k6 => k_is)
    (case a7 => k_is); (case l7 => k_is); (case c7 => k_is); (case k7 => k_is)
    (case a8 => k_is); (case l8 => k_is); (case c8 => k_is); (case k8 => k_is)
    (case a9 => k_is); (case l9 => k_is); (case c9 => k_is); (case k9 => k_is)
    (case a10 => k_is); (case l10 => k_is); (case c10 => k_is); (case k10 => k_is)
    (case a11 => k_is); (case l11 => k_is); (case c11 => k_is); (case k11 => k_is)
    (case a12 => k_is); (case l12 => k_is); (case c12 => k_is); (case k12 => k_is)
    (case a13 => k_is); (case l13 => k_is); (case c13 => k_is); (case k13 => k_is)
    (case a14 => k_is); (case l14 => k_is); (case c14 => k_is); (case k14 => k_is)
    (case a15 => k_is); (case l15 => k_is); (case c15 => k_is); (case k15 => k_is)
    (case a16 => k_is); (case l16 => k_is); (case c16 => k_is); (case k16 => k_is)
    (case a17 => k_is); (case l17 => k_is); (case c17 => k_is); (case k17 => k_is)
    (case a18 => k_is); (case l18 => k_is); (case c18 => k_is); (case k18 => k_is)
    (case a19 => k_is); (case l19 => k_is); (case c19 => k_is); (case k19 => k_is)
    (case a20 => k_is); (case l20 => k_is); (case c20 => k_is); (case k20 => k_is)
    (case a21 => k_is); (case l21 => k_is); (case c21 => k_is); (case k21 => k_is)
    (case a22 => k_is); (case l22 => k_is); (case c22 => k_is); (case k22 => k_is)
    (case a23 => k_is); (case l23 => k_is); (case c23 => k_is); (case k23 => k_is)
    (case a24 => k_is); (case l24 => k_is); (case c24 => k_is); (case k24 => k_is)
    (case z0 => k_is)
    (case z1 => k_is)
    (case z2 => k_is)
    (case z3 => k_is)
    (case z4 => k_is)
    (case z5 => k_is)
    (case z6 => k_is)
    (case z7 => k_is)
    (case z8 => k_is)
    (case z9 => k_is)
    (case z10 => k_is)
    (case z11 => k_is)
    (case z12 => k_is)
