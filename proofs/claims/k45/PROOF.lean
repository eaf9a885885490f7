import PyProof.Rows.All
import Wide.All
import OpenK.AllK
import Wide.FinOn
import HandS.ForMost
import HandS.Walk
import HandS.Star
import KE.GoesNew
import HandS.TupAny
import HandS.WideBits
import HandS.Gcd
import HandS.IsInst
import HandS.Conv
import HandS.SortKw
import KE.DataMinMax
import PyProof.ReprRoads
import PyProof.ReprBulk
import HandS.Ends
import HandS.EndBits
import PySem.Challenge.RW_sheetslaid_k45_recurrences_of_rows
import HandS.Dict
import HandS.Style
set_option Elab.async false
set_option linter.all false
set_option maxRecDepth 100000
set_option maxHeartbeats 4000000
/-! DatA: data-level readings over HandS: what a value reads as (Dt), slots, states (Good), steps (Stp). -/
namespace Dat
open PySem L2

theorem Same.seqT {K : PySem.W.Frag} {H H' : Hp} {a : Addr} {xs : List V} (e : Same H H') (h : SqT K H a xs) : SqT K H' a xs := by
  rcases h with (h | ⟨o, h⟩) | h
  · exact .inl (.inl (e _ _ h))
  · exact .inl (.inr ⟨o, e _ _ h⟩)
  · exact .inr h

mutual
inductive Dt (K : PySem.W.Frag) (H : Hp) : V → PyData → Prop
  | non : Dt K H .non .none
  | bl (b : Bool) : Dt K H (.bl b) (.bool b)
  | int (i : Int) : Dt K H (.int i) (.int i)
  | str (x : Str) : Dt K H (.str x) (.str x)
  | lst {a : Addr} {xs : List V} {ds : List PyData} : H a = some (.lst xs) → DtAll K H xs ds → Dt K H (.ref a) (.list ds)
  | tup {a : Addr} {xs : List V} {ds : List PyData} : SqT K H a xs → DtAll K H xs ds → Dt K H (.ref a) (.tuple ds)
  | dic0 {a : Addr} : H a = some (.dK []) → Dt K H (.ref a) (.dict [])
inductive DtAll (K : PySem.W.Frag) (H : Hp) : List V → List PyData → Prop
  | nil : DtAll K H [] []
  | cons {v : V} {vs : List V} {d : PyData} {ds : List PyData} : Dt K H v d → DtAll K H vs ds → DtAll K H (v :: vs) (d :: ds)
end

section
variable {K : PySem.W.Frag} {G H H' : Hp}
mutual
theorem Dt.mono (e : Same H H') : ∀ (d : PyData) {v : V}, Dt K H v d → Dt K H' v d
  | .none, _, h => by cases h; exact .non
  | .bool b, _, h => by cases h; exact .bl b
  | .int i, _, h => by cases h; exact .int i
  | .str x, _, h => by cases h; exact .str x
  | .list ds, _, h => by
    cases h with
    | lst hs ha => exact .lst (e _ _ hs) (DtAll.mono e ds ha)
  | .tuple ds, _, h => by
    cases h with
    | tup hs ha => exact .tup (Same.seqT e hs) (DtAll.mono e ds ha)
  | .dict kvs, _, h => by
    cases h with
    | dic0 hs => exact .dic0 (e _ _ hs)
theorem DtAll.mono (e : Same H H') : ∀ (ds : List PyData) {vs : List V}, DtAll K H vs ds → DtAll K H' vs ds
  | [], _, h => by cases h; exact .nil
  | d :: ds, _, h => by
    cases h with
    | cons h1 h2 => exact .cons (Dt.mono e d h1) (DtAll.mono e ds h2)
end
theorem DtAll.length : ∀ {ds : List PyData} {vs : List V}, DtAll K H vs ds → vs.length = ds.length
  | [], _, h => by cases h; rfl
  | d :: ds, _, h => by
    cases h with
    | cons h1 h2 => simp [DtAll.length h2]
theorem DtAll.get : ∀ {ds : List PyData} {vs : List V} {i : Nat} {d : PyData}, DtAll K H vs ds → ds[i]? = some d → ∃ v, vs[i]? = some v ∧ Dt K H v d
  | [], _, _, _, h, e => by simp at e
  | d :: ds, _, 0, _, h, e => by
    cases h with
    | cons h1 h2 => simp at e; subst e; exact ⟨_, rfl, h1⟩
  | d :: ds, _, i + 1, _, h, e => by
    cases h with
    | cons h1 h2 =>
      obtain ⟨v, h3, h4⟩ := DtAll.get h2 (by simpa using e)
      exact ⟨v, by simpa using h3, h4⟩
theorem DtAll.getV : ∀ {ds : List PyData} {vs : List V} {i : Nat} {v : V}, DtAll K H vs ds → vs[i]? = some v → ∃ d, ds[i]? = some d ∧ Dt K H v d
  | [], _, _, _, h, e => by cases h; simp at e
  | d :: ds, _, 0, _, h, e => by
    cases h with
    | cons h1 h2 => simp at e; subst e; exact ⟨_, rfl, h1⟩
  | d :: ds, _, i + 1, _, h, e => by
    cases h with
    | cons h1 h2 =>
      obtain ⟨v, h3, h4⟩ := DtAll.getV h2 (by simpa using e)
      exact ⟨v, by simpa using h3, h4⟩
theorem DtAll.append : ∀ {ds es : List PyData} {vs us : List V}, DtAll K H vs ds → DtAll K H us es → DtAll K H (vs ++ us) (ds ++ es)
  | [], _, _, _, h, h' => by cases h; exact h'
  | d :: ds, _, _, _, h, h' => by
    cases h with
    | cons h1 h2 => exact .cons h1 (DtAll.append h2 h')
theorem DtAll.one {v : V} {d : PyData} (h : Dt K H v d) : DtAll K H [v] [d] := .cons h .nil
theorem DtAll.take : ∀ {ds : List PyData} {vs : List V} (n : Nat), DtAll K H vs ds → DtAll K H (vs.take n) (ds.take n)
  | _, _, 0, _ => by simp; exact .nil
  | [], _, n + 1, h => by cases h; exact .nil
  | d :: ds, _, n + 1, h => by
    cases h with
    | cons h1 h2 => exact .cons h1 (DtAll.take n h2)
theorem DtAll.drop : ∀ {ds : List PyData} {vs : List V} (n : Nat), DtAll K H vs ds → DtAll K H (vs.drop n) (ds.drop n)
  | _, _, 0, h => by simpa using h
  | [], _, n + 1, h => by cases h; exact .nil
  | d :: ds, _, n + 1, h => by
    cases h with
    | cons h1 h2 => exact DtAll.drop n h2
theorem DtAll.set : ∀ {ds : List PyData} {vs : List V} {v : V} {d : PyData} (n : Nat), DtAll K H vs ds → Dt K H v d → DtAll K H (vs.set n v) (ds.set n d)
  | [], _, _, _, n, h, _ => by cases h; exact .nil
  | d :: ds, _, _, _, 0, h, q => by
    cases h with
    | cons h1 h2 => exact .cons q h2
  | d :: ds, _, _, _, n + 1, h, q => by
    cases h with
    | cons h1 h2 => exact .cons h1 (DtAll.set n h2 q)
theorem DtAll.eraseIdx : ∀ {ds : List PyData} {vs : List V} (n : Nat), DtAll K H vs ds → DtAll K H (vs.eraseIdx n) (ds.eraseIdx n)
  | [], _, n, h => by cases h; exact .nil
  | d :: ds, _, 0, h => by
    cases h with
    | cons h1 h2 => exact h2
  | d :: ds, _, n + 1, h => by
    cases h with
    | cons h1 h2 => exact .cons h1 (DtAll.eraseIdx n h2)
theorem DtAll.dropLast {ds : List PyData} {vs : List V} (h : DtAll K H vs ds) : DtAll K H vs.dropLast ds.dropLast := by
  rw [List.dropLast_eq_take, List.dropLast_eq_take, h.length]
  exact h.take _
theorem DtAll.reverse : ∀ {ds : List PyData} {vs : List V}, DtAll K H vs ds → DtAll K H vs.reverse ds.reverse
  | [], _, h => by cases h; exact .nil
  | d :: ds, _, h => by
    cases h with
    | cons h1 h2 =>
      rw [List.reverse_cons, List.reverse_cons]
      exact h2.reverse.append (.one h1)
end

/-! ### slots, states -/
inductive Slot where
  /-- nothing is known -/
  | un
  /-- data that stands -/
  | da (d : PyData)
  /-- a list of one's own, changed in place -/
  | ow (ds : List PyData)
  /-- a list lent by the caller: read alone -/
  | bo (ds : List PyData)
  /-- the source of numbers: its turn is at most n, and may grow by r -/
  | sr (n r : Nat)
abbrev Rho := List Slot
/-- what an expression comes to -/
inductive Hd where
  | val (d : PyData)
  | new (ds : List PyData)
  | slot (i : Nat)
  | src (i : Nat)

def kCells : Str := "cells"
def kLeft : Str := "left"
def kMixed : Str := "mixed"
def kTurn : Str := "turn"
def srcDict (c : Addr) (l m t : Int) : HO := .dK [(Sum.inr kCells, V.ref c), (Sum.inr kLeft, V.int l), (Sum.inr kMixed, V.int m), (Sum.inr kTurn, V.int t)]
def SrcOk (H : Hp) (a c : Addr) (L : Nat) : Prop := ∃ (cs : List Int) (l m t : Int), H a = some (srcDict c l m t) ∧ H c = some (.lst (cs.map V.int)) ∧ cs.length ≤ 63 ∧ 0 ≤ t ∧ t ≤ (L : Int)
/-- the turn -/
def Trn (H : Hp) (p : Addr × Addr × Nat) (n r : Nat) : Prop := ∃ (c : Addr) (l m t : Int), H p.1 = some (srcDict c l m t) ∧ t ≤ (n : Int) ∧ t + (r : Int) ≤ (p.2.2 : Int)
abbrev Sr := Option (Addr × Addr × Nat)
def Reg (S : Sr) (G H : Hp) : Prop := ∀ p, S = some p → p.1 ≠ p.2.1 ∧ G p.1 = none ∧ G p.2.1 = none ∧ SrcOk H p.1 p.2.1 p.2.2
def InS (S : Sr) (a : Addr) : Prop := ∃ p, S = some p ∧ (a = p.1 ∨ a = p.2.1)
theorem Reg.g {S : Sr} {G H : Hp} {a : Addr} (r : Reg S G H) (h : InS S a) : G a = none := by
  obtain ⟨p, e, h⟩ := h
  obtain ⟨_, h1, h2, _⟩ := r p e
  rcases h with h | h
  · rw [h]; exact h1
  · rw [h]; exact h2
theorem Reg.h {S : Sr} {G H : Hp} {a : Addr} (r : Reg S G H) (h : InS S a) : H a ≠ none := by
  obtain ⟨p, e, h⟩ := h
  obtain ⟨_, _, _, cs, l, m, t, h1, h2, _⟩ := r p e
  rcases h with h | h
  · rw [h, h1]; exact fun z => nomatch z
  · rw [h, h2]; exact fun z => nomatch z
theorem Trn.same {H H' : Hp} {p : Addr × Addr × Nat} {n r : Nat} (e : H' p.1 = H p.1) (h : Trn H p n r) : Trn H' p n r := by
  obtain ⟨c, l, m, t, h1, h2⟩ := h
  exact ⟨c, l, m, t, by rw [e]; exact h1, h2⟩
theorem SrcOk.same {H H' : Hp} {a c : Addr} {L : Nat} (e : Same H H') (h : SrcOk H a c L) : SrcOk H' a c L := by
  obtain ⟨cs, l, m, t, h1, h2, h3⟩ := h
  exact ⟨cs, l, m, t, e _ _ h1, e _ _ h2, h3⟩

def Own (ρ : Rho) (σ : St) (a : Addr) : Prop := ∃ (i : Nat) (ds : List PyData), ρ[i]? = some (Slot.ow ds) ∧ σ[i]? = some (some (V.ref a))

def SlotOk (K : PySem.W.Frag) (B : Hp × Hp) (S : Sr) (G H : Hp) (v : Option (Option V)) : Slot → Prop
  | .un => True
  | .da d => ∃ u, v = some (some u) ∧ Dt K G u d
  | .ow ds => ∃ a vs, v = some (some (.ref a)) ∧ H a = some (.lst vs) ∧ DtAll K G vs ds ∧ G a = none ∧ B.2 a = none ∧ ¬InS S a
  | .bo ds => ∃ a vs, v = some (some (.ref a)) ∧ B.2 a = some (.lst vs) ∧ H a = some (.lst vs) ∧ DtAll K G vs ds ∧ G a = none ∧ ¬InS S a
  | .sr n r => ∃ p, S = some p ∧ v = some (some (.ref p.1)) ∧ Trn H p n r

structure Good (K : PySem.W.Frag) (B : Hp × Hp) (S : Sr) (ρ : Rho) (σ : St) (G H : Hp) : Prop where
  ing : Same G H
  reg : Reg S G H
  ext : Same B.1 G
  out : ∀ a, B.1 a = none → B.2 a ≠ none → G a = none
  pre : ∀ a o, ¬InS S a → B.2 a = some o → H a = some o
  len : ρ.length = σ.length
  sl : ∀ (i : Nat) (x : Slot), ρ[i]? = some x → SlotOk K B S G H σ[i]? x
  sep : ∀ (i j : Nat) (ds es : List PyData) (a : Addr), ρ[i]? = some (Slot.ow ds) → ρ[j]? = some (Slot.ow es) → σ[i]? = some (some (V.ref a)) → σ[j]? = some (some (V.ref a)) → i = j

structure Stp (S : Sr) (σ : St) (ρ : Rho) (G H : Hp) (ρ' : Rho) (G' H' : Hp) : Prop where
  ext : Same G G'
  out : ∀ a, G a = none → H a ≠ none → ¬InS S a → ¬Own ρ σ a → G' a = none
  pre : ∀ a o, ¬InS S a → ¬Own ρ σ a → H a = some o → H' a = some o
  sub : ∀ a, Own ρ' σ a → Own ρ σ a
  reg : ∀ a, InS S a → G' a = none
  kp : ∀ a, H a ≠ none → H' a ≠ none

def HdOk (K : PySem.W.Frag) (B : Hp × Hp) (S : Sr) (ρ : Rho) (σ : St) (G H : Hp) (v : V) : Hd → Prop
  | .val d => Dt K G v d
  | .new ds => ∃ a vs, v = .ref a ∧ H a = some (.lst vs) ∧ DtAll K G vs ds ∧ G a = none ∧ B.2 a = none ∧ ¬InS S a ∧ ¬Own ρ σ a
  | .slot i => σ[i]? = some (some v)
  | .src _ => ∃ p, S = some p ∧ v = .ref p.1
/-- a new thing is newer than H -/
def Fresh (H : Hp) (v : V) : Hd → Prop
  | .new _ => ∀ a, v = .ref a → H a = none
  | _ => True

section
variable {K : PySem.W.Frag} {B : Hp × Hp} {S : Sr} {ρ ρ' ρ1 ρ2 : Rho} {σ : St} {G H G' H' G1 H1 G2 H2 : Hp}
theorem Stp.refl (g : Good K B S ρ σ G H) : Stp S σ ρ G H ρ G H :=
  ⟨Same.refl G, fun _ h _ _ _ => h, fun _ _ _ _ h => h, fun _ h => h, fun _ h => g.reg.g h, fun _ h => h⟩
theorem Stp.trans (a : Stp S σ ρ G H ρ1 G1 H1) (b : Stp S σ ρ1 G1 H1 ρ2 G2 H2) : Stp S σ ρ G H ρ2 G2 H2 where
  ext := a.ext.trans b.ext
  out := fun x h1 h2 h3 h4 => by
    refine b.out x (a.out x h1 h2 h3 h4) ?_ h3 (fun o => h4 (a.sub x o))
    cases e : H x with
    | none => exact absurd e h2
    | some o => rw [a.pre x o h3 h4 e]; exact fun z => nomatch z
  pre := fun x o h1 h2 h3 => b.pre x o h1 (fun z => h2 (a.sub x z)) (a.pre x o h1 h2 h3)
  sub := fun x h => a.sub x (b.sub x h)
  reg := b.reg
  kp := fun x h => b.kp x (a.kp x h)
theorem HdOk.mono (a : Stp S σ ρ G H ρ1 G1 H1) {h : Hd} {v : V} (q : HdOk K B S ρ σ G H v h) : HdOk K B S ρ1 σ G1 H1 v h := by
  cases h with
  | val d => exact Dt.mono a.ext d q
  | new ds =>
    obtain ⟨x, vs, e, h1, h2, h3, h4, h5, h6⟩ := q
    exact ⟨x, vs, e, a.pre x _ h5 h6 h1, DtAll.mono a.ext ds h2, a.out x h3 (by rw [h1]; exact fun z => nomatch z) h5 h6, h4, h5, fun z => h6 (a.sub x z)⟩
  | slot i => exact q
  | src => exact q
/-- a new object: nothing else changes -/
structure Nst (G H G' H' : Hp) : Prop where
  ext : Same G G'
  hxt : Same H H'
  ing : Same G' H'
  out : ∀ a, G a = none → H a ≠ none → G' a = none
theorem Nst.refl (e : Same G H) : Nst G H G H := ⟨Same.refl G, Same.refl H, e, fun _ h _ => h⟩
theorem Nst.trans (a : Nst G H G1 H1) (b : Nst G1 H1 G2 H2) : Nst G H G2 H2 :=
  ⟨a.ext.trans b.ext, a.hxt.trans b.hxt, b.ing, fun x h1 h2 => b.out x (a.out x h1 h2) (by
    cases e : H x with
    | none => exact absurd e h2
    | some o => rw [a.hxt x o e]; exact fun z => nomatch z)⟩
/-- laid and known as data / laid, not yet data -/
theorem Nst.know {p : Addr} {o : HO} (e : Same G H) (h : H p = none) : Nst G H (upd G p o) (upd H p o) := by
  have hg : G p = none := e.free h
  refine ⟨fun a x q => by rw [upd_ne (ne_of_none q hg)]; exact q, fun a x q => by rw [upd_ne (ne_of_none q h)]; exact q, fun a x q => ?_, fun a h1 h2 => ?_⟩
  · by_cases ha : a = p
    · rw [ha] at q ⊢; rw [upd_same] at q ⊢; exact q
    · rw [upd_ne ha] at q ⊢; exact e a x q
  · by_cases ha : a = p
    · rw [ha] at h2; exact absurd h h2
    · rw [upd_ne ha]; exact h1
theorem Nst.lay {p : Addr} {o : HO} (e : Same G H) (h : H p = none) : Nst G H G (upd H p o) := by
  refine ⟨Same.refl G, fun a x q => by rw [upd_ne (ne_of_none q h)]; exact q, fun a x q => ?_, fun a h1 _ => h1⟩
  rw [upd_ne (ne_of_none (e a x q) h)]; exact e a x q

theorem SlotOk.mono (g : Good K B S ρ σ G H) (n : Nst G H G' H') {v : Option (Option V)} {x : Slot} (q : SlotOk K B S G H v x) : SlotOk K B S G' H' v x := by
  cases x with
  | un => trivial
  | da d => obtain ⟨u, e, h⟩ := q; exact ⟨u, e, Dt.mono n.ext d h⟩
  | ow ds =>
    obtain ⟨a, vs, e, h1, h2, h3, h4, h5⟩ := q
    exact ⟨a, vs, e, n.hxt _ _ h1, DtAll.mono n.ext ds h2, n.out a h3 (by rw [h1]; exact fun z => nomatch z), h4, h5⟩
  | bo ds =>
    obtain ⟨a, vs, e, h0, h1, h2, h3, h5⟩ := q
    exact ⟨a, vs, e, h0, n.hxt _ _ h1, DtAll.mono n.ext ds h2, n.out a h3 (by rw [h1]; exact fun z => nomatch z), h5⟩
  | sr m r =>
    obtain ⟨p, e1, e2, c, l, m, t, h1, h2⟩ := q
    exact ⟨p, e1, e2, c, l, m, t, n.hxt _ _ h1, h2⟩
theorem Good.nst (g : Good K B S ρ σ G H) (n : Nst G H G' H') : Good K B S ρ σ G' H' where
  ing := n.ing
  reg := fun p e => by
    obtain ⟨h1, h2, h3, h4⟩ := g.reg p e
    obtain ⟨cs, l, m, t, h5, h6, _⟩ := id h4
    exact ⟨h1, n.out _ h2 (by rw [h5]; exact fun z => nomatch z), n.out _ h3 (by rw [h6]; exact fun z => nomatch z), h4.same n.hxt⟩
  ext := g.ext.trans n.ext
  out := fun a h1 h2 => by
    refine n.out a (g.out a h1 h2) ?_
    by_cases hs : InS S a
    · exact g.reg.h hs
    · cases e : B.2 a with
      | none => exact absurd e h2
      | some o => rw [g.pre a o hs e]; exact fun z => nomatch z
  pre := fun a o h1 h2 => n.hxt _ _ (g.pre a o h1 h2)
  len := g.len
  sl := fun i x h => (g.sl i x h).mono g n
  sep := g.sep
theorem Nst.stp (g : Good K B S ρ σ G H) (n : Nst G H G' H') : Stp S σ ρ G H ρ G' H' :=
  ⟨n.ext, fun a h1 h2 _ _ => n.out a h1 h2, fun a o _ _ h => n.hxt a o h, fun _ h => h, fun a h => n.out a (g.reg.g h) (g.reg.h h), fun a h => by
    cases e : H a with
    | none => exact absurd e h
    | some o => rw [n.hxt a o e]; exact fun z => nomatch z⟩
theorem Good.fresh2 (g : Good K B S ρ σ G H) {a : Addr} (h : H a = none) : B.2 a = none ∧ ¬InS S a ∧ ¬Own ρ σ a := by
  have hs : ¬InS S a := fun z => g.reg.h z h
  refine ⟨?_, hs, ?_⟩
  · cases e : B.2 a with
    | none => rfl
    | some o => rw [g.pre a o hs e] at h; cases h
  · rintro ⟨i, ds, e1, e2⟩
    obtain ⟨b, vs, e3, h1, _⟩ := g.sl i _ e1
    rw [e2] at e3; cases e3
    rw [h1] at h; cases h

/-! ### to data -/
def datOf (h : Hd) (ρ : Rho) (Φ : PyData → Rho → Prop) : Prop :=
  match h with
  | .val d => Φ d ρ
  | .new ds => Φ (.list ds) ρ
  | .slot i => match ρ[i]? with
    | some (.ow ds) => Φ (.list ds) (ρ.set i (.da (.list ds)))
    | some (.da d) => Φ d ρ
    | _ => False
  | .src _ => False
/-- what is to be read -/
def rdP (h : Hd) (ρ : Rho) (k : PyData → Prop) : Prop :=
  match h with
  | .val d => k d
  | .new ds => k (.list ds)
  | .slot i => match ρ[i]? with
    | some (.ow ds) => k (.list ds)
    | some (.bo ds) => k (.list ds)
    | some (.da d) => k d
    | _ => False
  | .src _ => False
/-- reads now as: the outermost list in H, all within in G -/
def Rdb (K : PySem.W.Frag) (G H : Hp) (v : V) (d : PyData) : Prop :=
  Dt K G v d ∨ ∃ ds a vs, d = .list ds ∧ v = .ref a ∧ H a = some (.lst vs) ∧ DtAll K G vs ds
theorem Rdb.mono (e : Same G G') (e2 : Same H H') {v : V} {d : PyData} (h : Rdb K G H v d) : Rdb K G' H' v d := by
  rcases h with h | ⟨ds, a, vs, e3, e4, h1, h2⟩
  · exact .inl (Dt.mono e d h)
  · exact .inr ⟨ds, a, vs, e3, e4, e2 _ _ h1, DtAll.mono e ds h2⟩
theorem Rdb.list {v : V} {ds : List PyData} (e : Same G H) (h : Rdb K G H v (.list ds)) : ∃ a vs, v = .ref a ∧ H a = some (.lst vs) ∧ DtAll K G vs ds := by
  rcases h with h | ⟨ds, a, vs, e3, e4, h1, h2⟩
  · cases h with
    | lst hs ha => exact ⟨_, _, rfl, e _ _ hs, ha⟩
  · cases e3; exact ⟨a, vs, e4, h1, h2⟩
theorem Rdb.tuple {v : V} {ds : List PyData} (h : Rdb K G H v (.tuple ds)) : ∃ a vs, v = .ref a ∧ SqT K G a vs ∧ DtAll K G vs ds := by
  rcases h with h | ⟨ds, a, vs, e3, e4, h1, h2⟩
  · cases h with
    | tup hs ha => exact ⟨_, _, rfl, hs, ha⟩
  · cases e3
theorem Rdb.now (e : Same G H) {v : V} {d : PyData} (h : Rdb K G H v d) : Dt K H v d := by
  rcases h with h | ⟨ds, a, vs, e3, e4, h1, h2⟩
  · exact Dt.mono e d h
  · subst e3 e4; exact .lst h1 (DtAll.mono e ds h2)
theorem rd_of (g : Good K B S ρ σ G H) {h : Hd} {v : V} (q : HdOk K B S ρ σ G H v h) {k : PyData → Prop} (r : rdP h ρ k) : ∃ d, k d ∧ Rdb K G H v d := by
  cases h with
  | val d => exact ⟨d, r, .inl q⟩
  | new ds =>
    obtain ⟨a, vs, e, h1, h2, _⟩ := q
    exact ⟨_, r, .inr ⟨ds, a, vs, rfl, e, h1, h2⟩⟩
  | slot i =>
    cases e : ρ[i]? with
    | none => simp only [rdP, e] at r
    | some x =>
      simp only [rdP, e] at r
      have hs := g.sl i x e
      have q : σ[i]? = some (some v) := q
      cases x with
      | un => exact r.elim
      | da d =>
        obtain ⟨u, e1, h1⟩ := hs
        rw [q] at e1; cases e1
        exact ⟨d, r, .inl h1⟩
      | ow ds =>
        obtain ⟨a, vs, e1, h1, h2, _⟩ := hs
        rw [q] at e1; cases e1
        exact ⟨_, r, .inr ⟨ds, a, vs, rfl, rfl, h1, h2⟩⟩
      | bo ds =>
        obtain ⟨a, vs, e1, _, h1, h2, _⟩ := hs
        rw [q] at e1; cases e1
        exact ⟨_, r, .inr ⟨ds, a, vs, rfl, rfl, h1, h2⟩⟩
      | sr => exact r.elim
  | src => exact r.elim
theorem set_get {α : Type} {l : List α} {i j : Nat} {x y : α} (h : (l.set i x)[j]? = some y) : (i = j ∧ y = x) ∨ (i ≠ j ∧ l[j]? = some y) := by
  by_cases e : i = j
  · subst e
    by_cases hl : i < l.length
    · rw [List.getElem?_set_self hl] at h; exact .inl ⟨rfl, (Option.some.inj h).symm⟩
    · rw [List.getElem?_eq_none (by simpa using hl)] at h; cases h
  · rw [List.getElem?_set_ne e] at h; exact .inr ⟨e, h⟩
/-- a list that no slot but perhaps i owns becomes data -/
theorem Good.freeze (g : Good K B S ρ σ G H) {a : Addr} {vs : List V} (hb : B.2 a = none) (hs : ¬InS S a) (hh : H a = some (.lst vs)) (hg : G a = none) (ho : ¬Own ρ σ a) : Good K B S ρ σ (upd G a (.lst vs)) H := by
  have ex : Same G (upd G a (.lst vs)) := fun x o q => by rw [upd_ne (ne_of_none q hg)]; exact q
  refine ⟨fun x o q => ?_, fun p e => ?_, g.ext.trans ex, fun x h1 h2 => ?_, g.pre, g.len, fun i x e => ?_, g.sep⟩
  · by_cases hx : x = a
    · subst hx; rw [upd_same] at q; cases q; exact hh
    · rw [upd_ne hx] at q; exact g.ing x o q
  · obtain ⟨h1, h2, h3, h4⟩ := g.reg p e
    refine ⟨h1, ?_, ?_, h4⟩
    · rw [upd_ne (fun z => hs ⟨p, e, .inl z.symm⟩)]; exact h2
    · rw [upd_ne (fun z => hs ⟨p, e, .inr z.symm⟩)]; exact h3
  · rw [upd_ne (fun z => by subst z; exact h2 hb)]; exact g.out x h1 h2
  · have q := g.sl i x e
    cases x with
    | un => trivial
    | da d => obtain ⟨u, e, h⟩ := q; exact ⟨u, e, Dt.mono ex d h⟩
    | ow ds =>
      obtain ⟨b, us, e1, h1, h2, h3, h4, h5⟩ := q
      refine ⟨b, us, e1, h1, DtAll.mono ex ds h2, ?_, h4, h5⟩
      rw [upd_ne (fun z => by subst z; exact ho ⟨i, ds, e, e1⟩)]; exact h3
    | bo ds =>
      obtain ⟨b, us, e1, h0, h1, h2, h3, h5⟩ := q
      refine ⟨b, us, e1, h0, h1, DtAll.mono ex ds h2, ?_, h5⟩
      rw [upd_ne (fun z => by subst z; rw [hb] at h0; cases h0)]; exact h3
    | sr => exact q
/-- a slot's content exchanged for something that is so -/
theorem Good.slot (g : Good K B S ρ σ G H) {i : Nat} {x : Slot} (h : SlotOk K B S G H σ[i]? x) (hn : ∀ ds, x ≠ .ow ds) : Good K B S (ρ.set i x) σ G H := by
  refine ⟨g.ing, g.reg, g.ext, g.out, g.pre, by rw [List.length_set]; exact g.len, fun j y e => ?_, fun j k ds es a e1 e2 => ?_⟩
  · rcases set_get e with ⟨rfl, rfl⟩ | ⟨_, e'⟩
    · exact h
    · exact g.sl j y e'
  · rcases set_get e1 with ⟨rfl, z⟩ | ⟨_, e1'⟩
    · exact absurd z.symm (hn ds)
    · rcases set_get e2 with ⟨rfl, z⟩ | ⟨_, e2'⟩
      · exact absurd z.symm (hn es)
      · exact g.sep j k ds es a e1' e2'
theorem own_set {x : Slot} {i : Nat} {a : Addr} (hn : ∀ ds, x ≠ .ow ds) (h : Own (ρ.set i x) σ a) : Own ρ σ a ∧ ∀ j ds, (ρ.set i x)[j]? = some (.ow ds) → j ≠ i := by
  obtain ⟨j, ds, e1, e2⟩ := h
  refine ⟨?_, fun k es e3 => ?_⟩
  · rcases set_get e1 with ⟨rfl, z⟩ | ⟨_, e1'⟩
    · exact absurd z.symm (hn ds)
    · exact ⟨j, ds, e1', e2⟩
  · rcases set_get e3 with ⟨rfl, z⟩ | ⟨ne, _⟩
    · exact absurd z.symm (hn es)
    · exact fun z => ne z.symm
/-- what was come to, made data: told from the state ahead of it -/
theorem frz {Φ : PyData → Rho → Prop} (g : Good K B S ρ1 σ G1 H1) (s : Stp S σ ρ G H ρ1 G1 H1) {h : Hd} {v : V} (q : HdOk K B S ρ1 σ G1 H1 v h) (fr : Fresh H v h) (d : datOf h ρ1 Φ) :
    ∃ x ρ2 G2, Φ x ρ2 ∧ Good K B S ρ2 σ G2 H1 ∧ Stp S σ ρ G H ρ2 G2 H1 ∧ Dt K G2 v x := by
  cases h with
  | val x => exact ⟨x, ρ1, G1, d, g, s, q⟩
  | new ds =>
    obtain ⟨a, vs, rfl, h1, h2, h3, h4, h5, h6⟩ := q
    have ha : H a = none := fr a rfl
    have g2 := g.freeze h4 h5 h1 h3 h6
    have ex : Same G1 (upd G1 a (.lst vs)) := fun x o q => by rw [upd_ne (ne_of_none q h3)]; exact q
    refine ⟨_, ρ1, _, d, g2, ⟨s.ext.trans ex, fun x y1 y2 y3 y4 => ?_, s.pre, s.sub, fun x hx => g2.reg.g hx, s.kp⟩, .lst upd_same (DtAll.mono ex ds h2)⟩
    rw [upd_ne (fun z => by subst z; exact y2 ha)]; exact s.out x y1 y2 y3 y4
  | slot i =>
    cases e : ρ1[i]? with
    | none => simp only [datOf, e] at d
    | some x =>
      simp only [datOf, e] at d
      have hs := g.sl i x e
      have q : σ[i]? = some (some v) := q
      cases x with
      | un => exact d.elim
      | da y =>
        obtain ⟨u, e1, h1⟩ := hs
        rw [q] at e1; cases e1
        exact ⟨y, ρ1, G1, d, g, s, h1⟩
      | ow ds =>
        obtain ⟨a, vs, e1, h1, h2, h3, h4, h5⟩ := hs
        rw [q] at e1; cases e1
        have own1 : Own ρ1 σ a := ⟨i, ds, e, q⟩
        have g1 : Good K B S (ρ1.set i .un) σ G1 H1 := g.slot trivial (fun _ z => nomatch z)
        have no : ¬Own (ρ1.set i .un) σ a := by
          rintro ⟨j, es, e3, e4⟩
          rcases set_get e3 with ⟨_, z⟩ | ⟨ne, e3'⟩
          · cases z
          · exact ne (g.sep i j ds es a e e3' q e4)
        have g2 := g1.freeze h4 h5 h1 h3 no
        have ex : Same G1 (upd G1 a (.lst vs)) := fun x o q => by rw [upd_ne (ne_of_none q h3)]; exact q
        have dt : Dt K (upd G1 a (.lst vs)) (.ref a) (.list ds) := .lst upd_same (DtAll.mono ex ds h2)
        have g3 : Good K B S (ρ1.set i (.da (.list ds))) σ (upd G1 a (.lst vs)) H1 := by
          have := g2.slot (i := i) (x := .da (.list ds)) ⟨_, q, dt⟩ (fun _ z => nomatch z)
          rwa [List.set_set] at this
        refine ⟨_, _, _, d, g3, ⟨s.ext.trans ex, fun x y1 y2 y3 y4 => ?_, s.pre, fun x o => s.sub x (own_set (x := Slot.da (.list ds)) (fun _ z => nomatch z) o).1, fun x hx => g3.reg.g hx, s.kp⟩, dt⟩
        rw [upd_ne (fun z => by subst z; exact y4 (s.sub _ own1))]; exact s.out x y1 y2 y3 y4
      | bo ds => exact d.elim
      | sr => exact d.elim
  | src => exact d.elim
end
end Dat


set_option Elab.async false
set_option linter.all false
set_option maxRecDepth 100000
set_option maxHeartbeats 4000000
/-! DatB: data-level judgements and the rules of expressions. -/
namespace Dat
open PySem L2

section
variable {X : Cx}
theorem PEw {e : Expr} {t t' : TE} (h : PE X e t) (w : ∀ σ H Q, t' σ H Q → t σ H Q) : PE X e t' := ⟨fun pins s σ H Q I hw => h.run pins s σ H Q I (w σ H Q hw)⟩
theorem PTw {e : Expr} {t t' : TT} (h : PT X e t) (w : ∀ σ H Q, t' σ H Q → t σ H Q) : PT X e t' := ⟨fun pins s σ H Q I hw => h.run pins s σ H Q I (w σ H Q hw)⟩
theorem PWw {e : Expr} {t t' : TT} (h : PW X e t) (w : ∀ σ H Q, t' σ H Q → t σ H Q) : PW X e t' := ⟨fun wh pins s σ H Q I hw => h.run wh pins s σ H Q I (w σ H Q hw)⟩
theorem PTsw {e : List Expr} {t t' : TT} (h : PTs X e t) (w : ∀ σ H Q, t' σ H Q → t σ H Q) : PTs X e t' := ⟨fun pins s σ H Q I hw => h.run pins s σ H Q I (w σ H Q hw)⟩
theorem PAw {es : List Expr} {t t' : TA} (h : PA X es t) (w : ∀ σ H Q, t' σ H Q → t σ H Q) : PA X es t' := ⟨fun p pins s σ H Q I hw => h.run p pins s σ H Q I (w σ H Q hw)⟩
theorem PSw {st : Stmt} {t t' : TS} (h : PS X st t) (w : ∀ D σ H, t' D σ H → t D σ H) : PS X st t' := ⟨fun pins s σ H D I hw => h.run pins s σ H D I (w D σ H hw)⟩
theorem PSsw {st : List Stmt} {t t' : TS} (h : PSs X st t) (w : ∀ D σ H, t' D σ H → t D σ H) : PSs X st t' := ⟨fun pins s σ H D I hw => h.run pins s σ H D I (w D σ H hw)⟩
theorem PGw {e : Expr} {t t' : TG} (h : PG X e t) (w : ∀ v σ H Q, t' v σ H Q → t v σ H Q) : PG X e t' := ⟨fun pins s σ H v u Q I r hw => h.run pins s σ H v u Q I r (w v σ H Q hw)⟩
theorem PGsw {e : List Expr} {t t' : TGs} (h : PGs X e t) (w : ∀ v σ H Q, t' v σ H Q → t v σ H Q) : PGs X e t' := ⟨fun pins s σ H v u Q I r hw => h.run pins s σ H v u Q I r (w v σ H Q hw)⟩
theorem PIw {tg e : Expr} {t t' : TI} (h : PI X tg e t) (w : ∀ σ H R, t' σ H R → t σ H R) : PI X tg e t' := ⟨fun pins s σ H R I hw => h.run pins s σ H R I (w σ H R hw)⟩
end

abbrev DF := Rho → (Hd → Rho → Prop) → Prop
abbrev BF := Rho → (Bool → Rho → Prop) → Prop
abbrev LF := Rho → (List PyData → Rho → Prop) → Prop
abbrev AF := Rho → (List Hd → Rho → Prop) → Prop

/-! ### the judgements' readings -/
def dE (K : PySem.W.Frag) (F : DF) : TE := fun σ H Q => ∃ B S ρ G Φ, Good K B S ρ σ G H ∧ F ρ Φ ∧ ∀ h v ρ' G' H', Φ h ρ' → Good K B S ρ' σ G' H' → Stp S σ ρ G H ρ' G' H' → HdOk K B S ρ' σ G' H' v h → Fresh H v h → Q v H'
/-- made data -/
def dD (K : PySem.W.Frag) (F : Rho → (PyData → Rho → Prop) → Prop) : TE := fun σ H Q => ∃ B S ρ G Φ, Good K B S ρ σ G H ∧ F ρ Φ ∧ ∀ d v ρ' G' H', Φ d ρ' → Good K B S ρ' σ G' H' → Stp S σ ρ G H ρ' G' H' → Dt K G' v d → Q v H'
def dT (K : PySem.W.Frag) (F : BF) : TT := fun σ H Q => ∃ B S ρ G Φ, Good K B S ρ σ G H ∧ F ρ Φ ∧ ∀ b ρ' G' H', Φ b ρ' → Good K B S ρ' σ G' H' → Stp S σ ρ G H ρ' G' H' → Q b H'
/-- arguments, all made data -/
def dL (K : PySem.W.Frag) (F : LF) : TA := fun σ H Q => ∃ B S ρ G Φ, Good K B S ρ σ G H ∧ F ρ Φ ∧ ∀ ds vs ρ' G' H', Φ ds ρ' → Good K B S ρ' σ G' H' → Stp S σ ρ G H ρ' G' H' → DtAll K G' vs ds → Q vs H'
def HsOk (K : PySem.W.Frag) (B : Hp × Hp) (S : Sr) (ρ : Rho) (σ : St) (G H : Hp) : List V → List Hd → Prop
  | [], [] => True
  | v :: vs, h :: hs => HdOk K B S ρ σ G H v h ∧ (∀ ds, h ≠ .new ds) ∧ HsOk K B S ρ σ G H vs hs
  | _, _ => False
/-- arguments of a def -/
def dA (K : PySem.W.Frag) (F : AF) : TA := fun σ H Q => ∃ B S ρ G Φ, Good K B S ρ σ G H ∧ F ρ Φ ∧ ∀ hs vs ρ' G' H', Φ hs ρ' → Good K B S ρ' σ G' H' → Stp S σ ρ G H ρ' G' H' → HsOk K B S ρ' σ G' H' vs hs → Q vs H'

section
variable {K : PySem.W.Frag} {B : Hp × Hp} {S : Sr} {ρ ρ' ρ1 ρ2 : Rho} {σ : St} {G H G' H' G1 H1 G2 H2 : Hp}
theorem Fresh.back (s : Stp S σ ρ G H ρ1 G1 H1) {v : V} {h : Hd} (f : Fresh H1 v h) : Fresh H v h := by
  cases h with
  | new ds =>
    intro a e
    cases q : H a with
    | none => rfl
    | some o => exact absurd (f a e) (s.kp a (by rw [q]; exact fun z => nomatch z))
  | val d => trivial
  | slot i => trivial
  | src => trivial

def HdN (K : PySem.W.Frag) (G H : Hp) (v : V) : Hd → Prop
  | .val d => Dt K G v d
  | .new ds => ∃ a vs, v = .ref a ∧ H a = some (.lst vs) ∧ DtAll K G vs ds ∧ G a = none
  | _ => False
theorem HdN.ok (g : Good K B S ρ σ G H) {v : V} {h : Hd} (q : HdN K G' H' v h) (f : Fresh H v h) : HdOk K B S ρ σ G' H' v h := by
  cases h with
  | val d => exact q
  | new ds =>
    obtain ⟨a, vs, e, h1, h2, h3⟩ := q
    obtain ⟨f1, f2, f3⟩ := g.fresh2 (f a e)
    exact ⟨a, vs, e, h1, h2, h3, f1, f2, f3⟩
  | slot i => exact q.elim
  | src => exact q.elim
end

/-! ### operations on values, told by data -/
abbrev RK := V → Hp → Prop
/-- what an operation's outcome must be good for -/
def Outc (K : PySem.W.Frag) (G H : Hp) (Φ : Hd → Prop) (Q : VK) : Prop := ∀ h v G' H', Φ h → Nst G H G' H' → HdN K G' H' v h → Fresh H v h → Q v H'
def Op2 (K : PySem.W.Frag) (r : R2) (P : PyData → PyData → (Hd → Prop) → Prop) : Prop :=
  ∀ x y dx dy G H (Φ : Hd → Prop) (Q : VK), Same G H → Rdb K G H x dx → Rdb K G H y dy → P dx dy Φ → Outc K G H Φ Q → r x y H Q
def Op1 (K : PySem.W.Frag) (r : V → Hp → VK → Prop) (P : PyData → (Hd → Prop) → Prop) : Prop :=
  ∀ x dx G H (Φ : Hd → Prop) (Q : VK), Same G H → Rdb K G H x dx → P dx Φ → Outc K G H Φ Q → r x H Q
theorem Outc.val {K : PySem.W.Frag} {G H : Hp} {Φ : Hd → Prop} {Q : VK} (o : Outc K G H Φ Q) (e : Same G H) {d : PyData} {v : V} (h : Φ (.val d)) (q : Dt K G v d) : Q v H := o _ _ G H h (Nst.refl e) q trivial
theorem Outc.newL {K : PySem.W.Frag} {G H : Hp} {Φ : Hd → Prop} {Q : VK} (o : Outc K G H Φ Q) (e : Same G H) {ds : List PyData} {vs : List V} (h : Φ (.new ds)) (q : DtAll K G vs ds) {p : Addr} (hp : H p = none) : Q (.ref p) (upd H p (.lst vs)) :=
  o _ _ G _ h (Nst.lay e hp) ⟨p, vs, rfl, upd_same, q, e.free hp⟩ (fun a z => by cases z; exact hp)
theorem Outc.tup {K : PySem.W.Frag} {G H : Hp} {Φ : Hd → Prop} {Q : VK} (o : Outc K G H Φ Q) (e : Same G H) {ds : List PyData} {vs : List V} (h : Φ (.val (.tuple ds))) (q : DtAll K G vs ds) {p : Addr} (hp : H p = none) : Q (.ref p) (upd H p (.tup vs)) :=
  o _ _ _ _ h (Nst.know e hp) (.tup (.of upd_same) (DtAll.mono (Nst.know (o := .tup vs) e hp).ext ds q)) trivial

/-- two ways -/
def brP (b : Bool) (A B : Prop) : Prop := (b = true → A) ∧ (b = false → B)
def opF (P : PyData → PyData → (Hd → Prop) → Prop) (fa fb : DF) : DF := fun ρ Φ => fa ρ fun x ρ1 => fb ρ1 fun y ρ2 => rdP x ρ2 fun dx => rdP y ρ2 fun dy => P dx dy fun h => Φ h ρ2
def unF (P : PyData → (Hd → Prop) → Prop) (fa : DF) : DF := fun ρ Φ => fa ρ fun x ρ1 => rdP x ρ1 fun dx => P dx fun h => Φ h ρ1
section
variable {K : PySem.W.Frag}
theorem r_op {r : R2} {P : PyData → PyData → (Hd → Prop) → Prop} {fa fb : DF} (hd : Op2 K r P) (σ : St) (H : Hp) (Q : VK) (h : dE K (opF P fa fb) σ H Q) : tOp r (dE K fa) (dE K fb) σ H Q := by
  obtain ⟨B, S, ρ, G, Φ, g, f, k⟩ := h
  refine ⟨B, S, ρ, G, _, g, f, fun hx vx ρ1 G1 H1 f1 g1 s1 o1 _ => ⟨B, S, ρ1, G1, _, g1, f1, fun hy vy ρ2 G2 H2 f2 g2 s2 o2 _ => ?_⟩⟩
  obtain ⟨dx, f3, rx⟩ := rd_of g2 (o1.mono s2) f2
  obtain ⟨dy, f4, ry⟩ := rd_of g2 o2 f3
  have s := s1.trans s2
  exact hd vx vy dx dy G2 H2 _ Q g2.ing rx ry f4 fun h v G' H' f5 n o5 fr => k h v ρ2 G' H' f5 (g2.nst n) (s.trans (n.stp g2)) (o5.ok g2 fr) (fr.back s)
theorem r_un {r : V → Hp → VK → Prop} {P : PyData → (Hd → Prop) → Prop} {fa : DF} (hd : Op1 K r P) (σ : St) (H : Hp) (Q : VK) (h : dE K (unF P fa) σ H Q) : tUn r (dE K fa) σ H Q := by
  obtain ⟨B, S, ρ, G, Φ, g, f, k⟩ := h
  refine ⟨B, S, ρ, G, _, g, f, fun hx vx ρ1 G1 H1 f1 g1 s1 o1 _ => ?_⟩
  obtain ⟨dx, f3, rx⟩ := rd_of g1 o1 f1
  exact hd vx dx G1 H1 _ Q g1.ing rx f3 fun h v G' H' f5 n o5 fr => k h v ρ1 G' H' f5 (g1.nst n) (s1.trans (n.stp g1)) (o5.ok g1 fr) (fr.back s1)
/-- an argument list of one, of two -/
theorem r_c1 {r : List V → Hp → VK → Prop} {P : PyData → (Hd → Prop) → Prop} {fa : DF} (hd : Op1 K (fun x H Q => r [x] H Q) P) (σ : St) (H : Hp) (Q : VK) (h : dE K (unF P fa) σ H Q) : tCB r (tCons (dE K fa) tNil) σ H Q := r_un hd σ H Q h
theorem r_c2 {r : List V → Hp → VK → Prop} {P : PyData → PyData → (Hd → Prop) → Prop} {fa fb : DF} (hd : Op2 K (fun x y H Q => r [x, y] H Q) P) (σ : St) (H : Hp) (Q : VK) (h : dE K (opF P fa fb) σ H Q) : tCB r (tCons (dE K fa) (tCons (dE K fb) tNil)) σ H Q := r_op hd σ H Q h
end
def nameF (i : Nat) : DF := fun ρ Φ => match ρ[i]? with
  | some (.da d) => Φ (.val d) ρ
  | some (.ow _) => Φ (.slot i) ρ
  | some (.bo _) => Φ (.slot i) ρ
  | some (.sr _ _) => Φ (.src i) ρ
  | _ => False
def constF (d : PyData) : DF := fun ρ Φ => Φ (.val d) ρ
def boolP (h : Hd) (k : Bool → Prop) : Prop := match h with
  | .val (.bool b) => k b
  | _ => False
def boolF (f : DF) : BF := fun ρ Φ => f ρ fun h ρ1 => boolP h fun b => Φ b ρ1
def ofB (F : BF) : DF := fun ρ Φ => F ρ fun b ρ1 => Φ (.val (.bool b)) ρ1
def andF (F F' : BF) : BF := fun ρ Φ => F ρ fun b ρ1 => brP b (F' ρ1 Φ) (Φ false ρ1)
def orF (F F' : BF) : BF := fun ρ Φ => F ρ fun b ρ1 => brP b (Φ true ρ1) (F' ρ1 Φ)
def notF (F : BF) : BF := fun ρ Φ => F ρ fun b ρ1 => Φ (!b) ρ1
def ifF (F : BF) (fa fb : DF) : DF := fun ρ Φ => F ρ fun b ρ1 => brP b (fa ρ1 Φ) (fb ρ1 Φ)
def nilF : LF := fun ρ Φ => Φ [] ρ
def consF (f : DF) (F : LF) : LF := fun ρ Φ => f ρ fun h ρ1 => datOf h ρ1 fun d ρ2 => F ρ2 fun ds ρ3 => Φ (d :: ds) ρ3
def seqP (d : PyData) (k : List PyData → Prop) : Prop := match d with
  | .list xs => k xs
  | .tuple xs => k xs
  | _ => False
def starF (f : DF) (F : LF) : LF := fun ρ Φ => f ρ fun h ρ1 => rdP h ρ1 fun d => seqP d fun xs => F ρ1 fun ds ρ3 => Φ (xs ++ ds) ρ3
def tupF (F : LF) : DF := fun ρ Φ => F ρ fun ds ρ1 => ds.length ≤ sizeLine ∧ Φ (.val (.tuple ds)) ρ1
def lstF (F : LF) : DF := fun ρ Φ => F ρ fun ds ρ1 => ds.length ≤ sizeLine ∧ Φ (.new ds) ρ1

section
variable {X : Cx} {e a b c : Expr} {pos : Pos} {f fa fb fc : DF} {F F' : BF}
theorem de_data (h : PE X e (dE X.K f)) : PE X e (dD X.K fun ρ Φ => f ρ fun h ρ1 => datOf h ρ1 Φ) := PEw h fun σ H Q ⟨B, S, ρ, G, Φ, g, q, k⟩ =>
  ⟨B, S, ρ, G, _, g, q, fun h v ρ1 G1 H1 d g1 s1 o1 fr => by
    obtain ⟨x, ρ2, G2, f2, g2, s2, t2⟩ := frz g1 s1 o1 fr d
    exact k x v ρ2 G2 H1 f2 g2 s2 t2⟩
theorem de_name (i : Nat) {x : Str} (hN : X.N[i]? = some x := by rfl) (hv : Vis X.env.scope x := by first | exact Or.inl rfl | exact Or.inr (Or.inl rfl) | exact Or.inr (Or.inr rfl)) (hd : (x == ("__debug__" : Str)) = false := by decide)
    (hcd : (x == ("__classdict__" : Str)) = false := by decide) : PE X (.Name x pos) (dE X.K (nameF i)) := PEw (pe_var hN hv hd hcd) fun σ H Q ⟨B, S, ρ, G, Φ, g, q, k⟩ => by
  unfold nameF at q
  cases e : ρ[i]? with
  | none => rw [e] at q; exact q.elim
  | some x =>
    rw [e] at q
    have hs := g.sl i x e
    cases x with
    | un => exact q.elim
    | da d =>
      obtain ⟨u, e1, h1⟩ := hs
      exact ⟨u, e1, k _ u ρ G H q g (.refl g) h1 trivial⟩
    | ow ds =>
      obtain ⟨a, vs, e1, _⟩ := hs
      exact ⟨_, e1, k _ _ ρ G H q g (.refl g) e1 trivial⟩
    | bo ds =>
      obtain ⟨a, vs, e1, _⟩ := hs
      exact ⟨_, e1, k _ _ ρ G H q g (.refl g) e1 trivial⟩
    | sr n r =>
      obtain ⟨p, e1, e2, _⟩ := hs
      exact ⟨_, e2, k _ _ ρ G H q g (.refl g) ⟨p, e1, rfl⟩ trivial⟩
theorem de_c {t : TE} {v : V} {d : PyData} (h : PE X e (tC v)) (hd : ∀ G, Dt X.K G v d) : PE X e (dE X.K (constF d)) := PEw h fun σ H Q ⟨B, S, ρ, G, Φ, g, q, k⟩ => k _ v ρ G H q g (.refl g) (hd G) trivial
theorem de_int {i j} : PE X (.Constant (.int i) j pos) (dE X.K (constF (.int i))) := de_c (t := tC (.int i)) pe_int fun _ => .int i
theorem de_bl {i j} : PE X (.Constant (.bool i) j pos) (dE X.K (constF (.bool i))) := de_c (t := tC (.bl i)) pe_bl fun _ => .bl i
theorem de_str {i j} : PE X (.Constant (.str i) j pos) (dE X.K (constF (.str i))) := de_c (t := tC (.str i)) pe_str fun _ => .str i
theorem de_non {j} : PE X (.Constant .none j pos) (dE X.K (constF .none)) := de_c (t := tC .non) pe_non fun _ => .non
theorem de_op {op : Operator} {r : R2} {P : PyData → PyData → (Hd → Prop) → Prop} (ho : OpR X (binaryOp op) r) (hd : Op2 X.K r P) (ha : PE X a (dE X.K fa)) (hb : PE X b (dE X.K fb)) : PE X (.BinOp a op b pos) (dE X.K (opF P fa fb)) :=
  PEw (pe_op ho ha hb) (r_op hd)
theorem de_un {op : UnaryOp} {r : V → Hp → VK → Prop} {P : PyData → (Hd → Prop) → Prop} (ho : UnR X (unaryOp op) r) (hd : Op1 X.K r P) (ha : PE X a (dE X.K fa)) : PE X (.UnaryOp op a pos) (dE X.K (unF P fa)) :=
  PEw (pe_un ho ha) (r_un hd)
theorem de_cmp {op : CmpOp} {r : R2} {P : PyData → PyData → (Hd → Prop) → Prop} (ho : OpR X (compareOp op) r) (hd : Op2 X.K r P) (ha : PE X a (dE X.K fa)) (hb : PE X b (dE X.K fb)) (hm : behindInMarks op b = false := by first | exact nomark _ | rfl) :
    PE X (.Compare a [op] [b] pos) (dE X.K (opF P fa fb)) := PEw (pe_cmpR ho ha hb hm) (r_op hd)
theorem r_test {t : TE} (σ : St) (H : Hp) (Q : Bool → Hp → Prop) (w : ∀ Q', dE X.K f σ H Q' → t σ H Q') (h : dT X.K (boolF f) σ H Q) : tTest t σ H Q := by
  obtain ⟨B, S, ρ, G, Φ, g, q, k⟩ := h
  refine w _ ⟨B, S, ρ, G, _, g, q, fun h v ρ1 G1 H1 f1 g1 s1 o1 fr1 => ?_⟩
  clear fr1
  unfold boolP at f1
  split at f1
  · rename_i b
    cases o1
    exact ⟨b, rfl, k b ρ1 G1 H1 f1 g1 s1⟩
  · exact f1.elim
theorem dt_cmp {op : CmpOp} {r : R2} {P : PyData → PyData → (Hd → Prop) → Prop} (ho : OpR X (compareOp op) r) (hd : Op2 X.K r P) (ha : PE X a (dE X.K fa)) (hb : PE X b (dE X.K fb)) (hm : behindInMarks op b = false := by first | exact nomark _ | rfl) :
    PT X (.Compare a [op] [b] pos) (dT X.K (boolF (opF P fa fb))) := PTw (pt_cmpR ho ha hb hm) fun σ H Q h => r_test σ H Q (fun Q' => r_op hd σ H Q') h
theorem dt_val (h : PE X e (dE X.K f)) (he : ∀ whole, isTrue e X.env whole = (do let v ← whole; standAt e.pos; holding [v] (truthy v)) := by intro _; rfl) : PT X e (dT X.K (boolF f)) := PTw (pt_val h he) fun σ H Q h => r_test σ H Q (fun Q' q => q) h
theorem dt_not (h : PT X a (dT X.K F)) : PT X (.UnaryOp .Not a pos) (dT X.K (notF F)) := PTw (pt_not h) fun σ H Q ⟨B, S, ρ, G, Φ, g, q, k⟩ => ⟨B, S, ρ, G, _, g, q, fun b ρ1 G1 H1 f1 g1 s1 => k _ ρ1 G1 H1 f1 g1 s1⟩
theorem dw_and1 (h : PT X a (dT X.K F)) : PW X (.BoolOp .And [a] pos) (dT X.K F) := pw_and1 h
theorem dw_or1 (h : PT X a (dT X.K F)) : PW X (.BoolOp .Or [a] pos) (dT X.K F) := pw_or1 h
theorem dw_and {rest : List Expr} (h : PT X a (dT X.K F)) (h' : PW X (.BoolOp .And (b :: rest) pos) (dT X.K F')) : PW X (.BoolOp .And (a :: b :: rest) pos) (dT X.K (andF F F')) :=
  PWw (pw_and h h') fun σ H Q ⟨B, S, ρ, G, Φ, g, q, k⟩ => ⟨B, S, ρ, G, _, g, q, fun t ρ1 G1 H1 f1 g1 s1 => by
    cases t with
    | true => exact ⟨B, S, ρ1, G1, Φ, g1, f1.1 rfl, fun b2 ρ2 G2 H2 f2 g2 s2 => k b2 ρ2 G2 H2 f2 g2 (s1.trans s2)⟩
    | false => exact k false ρ1 G1 H1 (f1.2 rfl) g1 s1⟩
theorem dw_or {rest : List Expr} (h : PT X a (dT X.K F)) (h' : PW X (.BoolOp .Or (b :: rest) pos) (dT X.K F')) : PW X (.BoolOp .Or (a :: b :: rest) pos) (dT X.K (orF F F')) :=
  PWw (pw_or h h') fun σ H Q ⟨B, S, ρ, G, Φ, g, q, k⟩ => ⟨B, S, ρ, G, _, g, q, fun t ρ1 G1 H1 f1 g1 s1 => by
    cases t with
    | true => exact k true ρ1 G1 H1 (f1.1 rfl) g1 s1
    | false => exact ⟨B, S, ρ1, G1, Φ, g1, f1.2 rfl, fun b2 ρ2 G2 H2 f2 g2 s2 => k b2 ρ2 G2 H2 f2 g2 (s1.trans s2)⟩⟩
theorem dt_pw (h : PW X e (dT X.K F)) : PT X e (dT X.K F) := h.pt
/-- and, or, not as values, of True and False alone -/
theorem dv_one {op : BoolOp} (h : PE X a (dE X.K f)) : PE X (.BoolOp op [a] pos) (dE X.K f) := pe_one h
theorem dv_and {rest : List Expr} (h : PE X a (dE X.K fa)) (h' : PE X (.BoolOp .And (b :: rest) pos) (dE X.K fb)) : PE X (.BoolOp .And (a :: b :: rest) pos) (dE X.K fun ρ Φ => fa ρ fun h ρ1 => boolP h fun t => brP t (fb ρ1 Φ) (Φ (.val (.bool false)) ρ1)) :=
  PEw (pe_and h h') fun σ H Q ⟨B, S, ρ, G, Φ, g, q, k⟩ => ⟨B, S, ρ, G, _, g, q, fun h v ρ1 G1 H1 f1 g1 s1 o1 fr1 => by
    clear fr1
    unfold boolP at f1
    split at f1
    · rename_i t
      cases o1
      refine ⟨t, rfl, ?_⟩
      cases t with
      | true => exact ⟨B, S, ρ1, G1, Φ, g1, f1.1 rfl, fun h2 v2 ρ2 G2 H2 f2 g2 s2 o2 fr2 => k h2 v2 ρ2 G2 H2 f2 g2 (s1.trans s2) o2 (fr2.back s1)⟩
      | false => exact k _ _ ρ1 G1 H1 (f1.2 rfl) g1 s1 (Dt.bl false) trivial
    · exact f1.elim⟩
theorem dv_or {rest : List Expr} (h : PE X a (dE X.K fa)) (h' : PE X (.BoolOp .Or (b :: rest) pos) (dE X.K fb)) : PE X (.BoolOp .Or (a :: b :: rest) pos) (dE X.K fun ρ Φ => fa ρ fun h ρ1 => boolP h fun t => brP t (Φ (.val (.bool true)) ρ1) (fb ρ1 Φ)) :=
  PEw (pe_or h h') fun σ H Q ⟨B, S, ρ, G, Φ, g, q, k⟩ => ⟨B, S, ρ, G, _, g, q, fun h v ρ1 G1 H1 f1 g1 s1 o1 fr1 => by
    clear fr1
    unfold boolP at f1
    split at f1
    · rename_i t
      cases o1
      refine ⟨t, rfl, ?_⟩
      cases t with
      | true => exact k _ _ ρ1 G1 H1 (f1.1 rfl) g1 s1 (Dt.bl true) trivial
      | false => exact ⟨B, S, ρ1, G1, Φ, g1, f1.2 rfl, fun h2 v2 ρ2 G2 H2 f2 g2 s2 o2 fr2 => k h2 v2 ρ2 G2 H2 f2 g2 (s1.trans s2) o2 (fr2.back s1)⟩
    · exact f1.elim⟩
theorem dv_not (h : PE X a (dE X.K fa)) : PE X (.UnaryOp .Not a pos) (dE X.K fun ρ Φ => fa ρ fun h ρ1 => boolP h fun t => Φ (.val (.bool (!t))) ρ1) :=
  PEw (pe_not h) fun σ H Q ⟨B, S, ρ, G, Φ, g, q, k⟩ => ⟨B, S, ρ, G, _, g, q, fun h v ρ1 G1 H1 f1 g1 s1 o1 fr1 => by
    clear fr1
    unfold boolP at f1
    split at f1
    · rename_i t
      cases o1
      exact ⟨t, rfl, k _ _ ρ1 G1 H1 f1 g1 s1 (Dt.bl (!t)) trivial⟩
    · exact f1.elim⟩
theorem de_if (hc : PT X c (dT X.K F)) (ha : PE X a (dE X.K fa)) (hb : PE X b (dE X.K fb)) : PE X (.IfExp c a b pos) (dE X.K (ifF F fa fb)) :=
  PEw (pe_ifExp hc ha hb) fun σ H Q ⟨B, S, ρ, G, Φ, g, q, k⟩ => ⟨B, S, ρ, G, _, g, q, fun t ρ1 G1 H1 f1 g1 s1 => by
    cases t with
    | true => exact ⟨B, S, ρ1, G1, Φ, g1, f1.1 rfl, fun h2 v2 ρ2 G2 H2 f2 g2 s2 o2 fr2 => k h2 v2 ρ2 G2 H2 f2 g2 (s1.trans s2) o2 (fr2.back s1)⟩
    | false => exact ⟨B, S, ρ1, G1, Φ, g1, f1.2 rfl, fun h2 v2 ρ2 G2 H2 f2 g2 s2 o2 fr2 => k h2 v2 ρ2 G2 H2 f2 g2 (s1.trans s2) o2 (fr2.back s1)⟩⟩

/-! ### lists of expressions -/
variable {es : List Expr} {fl : LF}
theorem dl_nil : PA X [] (dL X.K nilF) := PAw pa_nil fun σ H Q ⟨B, S, ρ, G, Φ, g, q, k⟩ => k [] [] ρ G H q g (.refl g) .nil
theorem dl_cons (he : PE X e (dE X.K f)) (hr : PA X es (dL X.K fl)) (hs : starEach (e :: es) X.env = (false, eval e X.env) :: starEach es X.env := by rfl) : PA X (e :: es) (dL X.K (consF f fl)) :=
  PAw (pa_cons (de_data he) hr hs) fun σ H Q ⟨B, S, ρ, G, Φ, g, q, k⟩ => ⟨B, S, ρ, G, _, g, q, fun d v ρ1 G1 H1 f1 g1 s1 t1 => ⟨B, S, ρ1, G1, _, g1, f1, fun ds vs ρ2 G2 H2 f2 g2 s2 t2 =>
    k (d :: ds) (v :: vs) ρ2 G2 H2 f2 g2 (s1.trans s2) (.cons (Dt.mono s2.ext d t1) t2)⟩⟩
theorem dl_star {p : Pos} (he : PE X e (dE X.K f)) (hr : PA X es (dL X.K fl)) (hs : starEach (.Starred e p :: es) X.env = (true, eval e X.env) :: starEach es X.env := by rfl) : PA X (.Starred e p :: es) (dL X.K (starF f fl)) :=
  PAw (StX.pa_star he hr hs) fun σ H Q ⟨B, S, ρ, G, Φ, g, q, k⟩ => ⟨B, S, ρ, G, _, g, q, fun h v ρ1 G1 H1 f1 g1 s1 o1 _ => by
    obtain ⟨d, f2, r2⟩ := rd_of g1 o1 f1
    have fin : ∀ xs vs, DtAll X.K G1 vs xs → fl ρ1 (fun ds ρ3 => Φ (xs ++ ds) ρ3) → dL X.K fl σ H1 fun ys H2 => Q (vs ++ ys) H2 := fun xs vs t q => ⟨B, S, ρ1, G1, _, g1, q, fun ds us ρ2 G2 H2 f2 g2 s2 t2 =>
      k (xs ++ ds) (vs ++ us) ρ2 G2 H2 f2 g2 (s1.trans s2) ((DtAll.mono s2.ext xs t).append t2)⟩
    unfold seqP at f2
    split at f2
    · obtain ⟨p, vs, rfl, hl, t⟩ := r2.list g1.ing
      exact ⟨p, vs, rfl, .inr (.of hl), fin _ _ t f2⟩
    · obtain ⟨p, vs, rfl, hl, t⟩ := r2.tuple
      exact ⟨p, vs, rfl, .inl (Same.seqT g1.ing hl), fin _ _ t f2⟩
    · exact f2.elim⟩
theorem de_tup {k : Nat} (h : PA X es (dL X.K fl)) : PE X (.Tuple es k pos) (dE X.K (tupF fl)) := PEw (pe_tup h) fun σ H Q ⟨B, S, ρ, G, Φ, g, q, k⟩ => ⟨B, S, ρ, G, _, g, q, fun ds vs ρ1 G1 H1 f1 g1 s1 t1 =>
  ⟨by rw [t1.length]; exact f1.1, fun p hp => by
    have n : Nst G1 H1 (upd G1 p (.tup vs)) (upd H1 p (.tup vs)) := Nst.know g1.ing hp
    exact k _ _ ρ1 _ _ f1.2 (g1.nst n) (s1.trans (n.stp g1)) (Dt.tup (.of upd_same) (DtAll.mono n.ext ds t1)) trivial⟩⟩
theorem de_lst (h : PA X es (dL X.K fl)) : PE X (.List es pos) (dE X.K (lstF fl)) := PEw (pe_lst h) fun σ H Q ⟨B, S, ρ, G, Φ, g, q, k⟩ => ⟨B, S, ρ, G, _, g, q, fun ds vs ρ1 G1 H1 f1 g1 s1 t1 =>
  ⟨by rw [t1.length]; exact f1.1, fun p hp => by
    have n : Nst G1 H1 G1 (upd H1 p (.lst vs)) := Nst.lay g1.ing hp
    obtain ⟨f4, f5, f6⟩ := g1.fresh2 hp
    refine k _ _ ρ1 _ _ f1.2 (g1.nst n) (s1.trans (n.stp g1)) ⟨p, vs, rfl, upd_same, t1, g1.ing.free hp, f4, f5, f6⟩ fun a z => ?_
    cases z
    cases q : H p with
    | none => rfl
    | some o => exact absurd hp (s1.kp p (by rw [q]; exact fun z => nomatch z))⟩⟩
/-- {}: no entries, read as data -/
theorem de_dict0 : PE X (.Dict [] [] pos) (dE X.K (constF (.dict []))) := PEw pe_dnewK fun σ H Q ⟨B, S, ρ, G, Φ, g, q, k⟩ => fun p hp => by
  have n : Nst G H (upd G p (.dK [])) (upd H p (.dK [])) := Nst.know g.ing hp
  exact k _ _ ρ _ _ q (g.nst n) (n.stp g) (Dt.dic0 upd_same) trivial
end
end Dat


set_option Elab.async false
set_option linter.all false
set_option maxRecDepth 100000
set_option maxHeartbeats 4000000
/-! DatC: targets, statements, walks, comprehensions, defs. -/
namespace Dat
open PySem L2

section
variable {K : PySem.W.Frag} {B : Hp × Hp} {S : Sr} {ρ ρ' ρ1 ρ2 : Rho} {σ : St} {G H G' H' G1 H1 G2 H2 : Hp}
/-- a slot is stored -/
theorem Good.store (g : Good K B S ρ σ G H) {i : Nat} {v : V} {x : Slot} (h : SlotOk K B S G H (some (some v)) x) (hn : ∀ ds a, x = .ow ds → v = .ref a → ¬Own ρ σ a) : Good K B S (ρ.set i x) (σ.set i (some v)) G H := by
  refine ⟨g.ing, g.reg, g.ext, g.out, g.pre, by rw [List.length_set, List.length_set]; exact g.len, fun j y e => ?_, fun j k ds es a e1 e2 e3 e4 => ?_⟩
  · by_cases hl : i < ρ.length
    · rcases set_get e with ⟨rfl, rfl⟩ | ⟨ne, e'⟩
      · rw [List.getElem?_set_self (by rw [← g.len]; exact hl)]; exact h
      · rw [List.getElem?_set_ne ne]; exact g.sl j y e'
    · rw [List.set_eq_of_length_le (by omega)] at e
      rw [List.set_eq_of_length_le (by rw [← g.len]; omega)]
      exact g.sl j y e
  · have own : ∀ m fs, (ρ.set i x)[m]? = some (.ow fs) → (σ.set i (some v))[m]? = some (some (.ref a)) → (m = i ∧ x = .ow fs ∧ v = .ref a) ∨ (ρ[m]? = some (.ow fs) ∧ σ[m]? = some (some (.ref a))) := fun m fs q1 q2 => by
      by_cases hl : i < ρ.length
      · rcases set_get q1 with ⟨rfl, q3⟩ | ⟨ne, q3⟩
        · rw [List.getElem?_set_self (by rw [← g.len]; exact hl)] at q2
          exact .inl ⟨rfl, q3.symm, Option.some.inj (Option.some.inj q2)⟩
        · rw [List.getElem?_set_ne ne] at q2
          exact .inr ⟨q3, q2⟩
      · rw [List.set_eq_of_length_le (by omega)] at q1
        rw [List.set_eq_of_length_le (by rw [← g.len]; omega)] at q2
        exact .inr ⟨q1, q2⟩
    rcases own j ds e1 e3 with ⟨z1, z2, z3⟩ | ⟨z1, z2⟩
    · rcases own k es e2 e4 with ⟨y1, y2, y3⟩ | ⟨y1, y2⟩
      · rw [z1, y1]
      · exact absurd ⟨k, es, y1, y2⟩ (hn ds a z2 z3)
    · rcases own k es e2 e4 with ⟨y1, y2, y3⟩ | ⟨y1, y2⟩
      · exact absurd ⟨j, ds, z1, z2⟩ (hn es a y2 y3)
      · exact g.sep j k ds es a z1 y1 z2 y2
theorem Good.storeD (g : Good K B S ρ σ G H) {i : Nat} {v : V} {d : PyData} (h : Dt K G v d) : Good K B S (ρ.set i (.da d)) (σ.set i (some v)) G H := g.store ⟨v, rfl, h⟩ fun _ _ z => nomatch z
theorem own_store {i : Nat} {v : V} {x : Slot} (hl : ρ.length = σ.length) (hn : ∀ ds, x ≠ .ow ds) {a : Addr} (h : Own (ρ.set i x) (σ.set i (some v)) a) : Own ρ σ a := by
  obtain ⟨j, ds, e1, e2⟩ := h
  by_cases hi : i < ρ.length
  · rcases set_get e1 with ⟨rfl, z⟩ | ⟨ne, z⟩
    · exact absurd z.symm (hn ds)
    · rw [List.getElem?_set_ne ne] at e2
      exact ⟨j, ds, z, e2⟩
  · rw [List.set_eq_of_length_le (by omega)] at e1
    rw [List.set_eq_of_length_le (by omega)] at e2
    exact ⟨j, ds, e1, e2⟩
end

/-! ### targets -/
abbrev GF := PyData → Rho → (Rho → Prop) → Prop
abbrev GsF := List PyData → Rho → (Rho → Prop) → Prop
/-- the slots that a target stores: the others stay -/
def SetBy (js : List Nat) (σ σ' : St) : Prop := ∀ l, (∀ j ∈ js, j ∈ l) → wipe σ' l = wipe σ l
def dG (K : PySem.W.Frag) (js : List Nat) (bd : GF) : TG := fun v σ H Q => ∃ B S ρ G d Ψ, Good K B S ρ σ G H ∧ Dt K G v d ∧ bd d ρ Ψ ∧ ∀ ρ' σ', Ψ ρ' → Good K B S ρ' σ' G H → SetBy js σ σ' → (∀ a, Own ρ' σ' a → Own ρ σ a) → Q σ' H
def dGs (K : PySem.W.Frag) (js : List Nat) (bd : GsF) : TGs := fun vs σ H Q => ∃ B S ρ G ds Ψ, Good K B S ρ σ G H ∧ DtAll K G vs ds ∧ bd ds ρ Ψ ∧ ∀ ρ' σ', Ψ ρ' → Good K B S ρ' σ' G H → SetBy js σ σ' → (∀ a, Own ρ' σ' a → Own ρ σ a) → Q σ' H
def bdN (i : Nat) : GF := fun d ρ Ψ => Ψ (ρ.set i (.da d))
def bdT (bs : GsF) : GF := fun d ρ Ψ => match d with
  | .tuple ds => bs ds ρ Ψ
  | _ => False
def bsN : GsF := fun ds ρ Ψ => match ds with
  | [] => Ψ ρ
  | _ :: _ => False
def bsC (b : GF) (bs : GsF) : GsF := fun ds ρ Ψ => match ds with
  | [] => False
  | d :: r => b d ρ fun ρ1 => bs r ρ1 Ψ
/-- so many targets -/
def bsL (n : Nat) (bs : GsF) : GsF := fun ds ρ Ψ => ds.length = n ∧ bs ds ρ Ψ
theorem wipe_set {σ : St} {i : Nat} {x : Option V} : ∀ {l : List Nat}, i ∈ l → wipe (σ.set i x) l = wipe σ l
  | [], h => by simp at h
  | j :: l, h => by
    unfold wipe
    by_cases e : i ∈ l
    · rw [wipe_set e]
    · have hj : i = j := by
        rcases List.mem_cons.mp h with z | z
        · exact z
        · exact absurd z e
      subst hj
      have : ∀ (l : List Nat) (τ : St), i ∉ l → wipe (τ.set i x) l = (wipe τ l).set i x := fun l => by
        induction l with
        | nil => intro τ _; rfl
        | cons k l ih =>
          intro τ hk
          unfold wipe
          rw [ih τ (fun z => hk (List.mem_cons_of_mem _ z))]
          exact List.set_comm _ _ (fun z => hk (by rw [z]; exact List.mem_cons_self ..))
      rw [this l σ e, List.set_set]
section
variable {X : Cx} {pos : Pos} {es : List Expr} {e tg : Expr}
theorem dg_name (i : Nat) {x : Str} (hN : X.N.Nodup) (hi : X.N[i]? = some x := by rfl) (hx : Loc X.env.scope x := by first | exact Or.inl rfl | exact Or.inr rfl) (hf : X.fn x = true ∨ X.env.scope.names.lookup x = some .local := by first | exact .inl rfl | exact .inr rfl | assumption) : PG X (.Name x pos) (dG X.K [i] (bdN i)) :=
  PGw (pg_name hN hi hx hf) fun v σ H Q ⟨B, S, ρ, G, d, Ψ, g, t, b, k⟩ => k _ _ b (g.storeD t) (fun l hl => wipe_set (hl i (List.mem_cons_self ..))) fun a h => own_store (x := Slot.da d) g.len (fun _ z => nomatch z) h
theorem dgs_nil : PGs X [] (dGs X.K [] bsN) := PGsw pgs_nil fun vs σ H Q ⟨B, S, ρ, G, ds, Ψ, g, t, b, k⟩ => by
  cases t with
  | nil => exact ⟨rfl, k ρ σ b g (fun l _ => rfl) fun a h => h⟩
  | cons t1 t2 => exact b.elim
theorem dgs_cons {js ks : List Nat} {b1 : GF} {b2 : GsF} (h1 : PG X e (dG X.K js b1)) (h2 : PGs X es (dGs X.K ks b2)) (hs : (assignEach (e :: es) X.env).map (·.2) = assign e X.env :: (assignEach es X.env).map (·.2) := by rfl) : PGs X (e :: es) (dGs X.K (js ++ ks) (bsC b1 b2)) :=
  PGsw (pgs_cons h1 h2 hs) fun vs σ H Q ⟨B, S, ρ, G, ds, Ψ, g, t, b, k⟩ => by
    cases t with
    | nil => exact b.elim
    | cons t1 t2 =>
      refine ⟨_, _, rfl, B, S, ρ, G, _, _, g, t1, b, fun ρ1 σ1 b1 g1 w1 o1 => ⟨B, S, ρ1, G, _, Ψ, g1, t2, b1, fun ρ2 σ2 b2 g2 w2 o2 => k ρ2 σ2 b2 g2 (fun l hl => ?_) fun a h => o1 a (o2 a h)⟩⟩
      exact (w2 l fun j hj => hl j (List.mem_append_right _ hj)).trans (w1 l fun j hj => hl j (List.mem_append_left _ hj))
theorem dg_tup {js : List Nat} {k n : Nat} {bs : GsF} (hc : X.calm = true) (h : PGs X es (dGs X.K js bs)) (hn : (assignEach es X.env).length = n := by rfl) (hst : (assignEach es X.env).findIdx? (·.1) = none := by rfl) : PG X (.Tuple es k pos) (dG X.K js (bdT (bsL n bs))) :=
  PGw (pg_tup hc h hn hst) fun v σ H Q ⟨B, S, ρ, G, d, Ψ, g, t, b, k⟩ => by
    cases t with
    | tup hs ta => exact ⟨_, _, rfl, Same.seqT g.ing hs, by rw [ta.length]; exact b.1, B, S, ρ, G, _, Ψ, g, ta, b.2, k⟩
    | _ => exact b.elim
end

/-! ### statements -/
structure Kont where
  nx : Rho → Prop
  rt : PyData → Prop
  bk : Rho → Prop := fun _ => False
  ct : Rho → Prop := fun _ => False
abbrev SF := Rho → Kont → Prop
structure DEnds (K : PySem.W.Frag) (B : Hp × Hp) (S : Sr) (k : Kont) (D : Ends) : Prop where
  nx : ∀ ρ σ G H, k.nx ρ → Good K B S ρ σ G H → D.nx σ H
  rt : ∀ d v ρ σ G H, k.rt d → Good K B S ρ σ G H → Dt K G v d → D.rt v H
  bk : ∀ ρ σ G H, k.bk ρ → Good K B S ρ σ G H → D.bk σ H
  ct : ∀ ρ σ G H, k.ct ρ → Good K B S ρ σ G H → D.ct σ H
def dS (K : PySem.W.Frag) (F : SF) : TS := fun D σ H => ∃ B S ρ G k, Good K B S ρ σ G H ∧ F ρ k ∧ DEnds K B S k D
def skipF : SF := fun ρ k => k.nx ρ
def brkF : SF := fun ρ k => k.bk ρ
def contF : SF := fun ρ k => k.ct ρ
def seqF (F F' : SF) : SF := fun ρ k => F ρ { k with nx := fun ρ' => F' ρ' k }
def setF (i : Nat) (f : DF) : SF := fun ρ k => f ρ fun h ρ1 => datOf h ρ1 fun d ρ2 => k.nx (ρ2.set i (.da d))
/-- a new list stays one's own, all else becomes data -/
def pend (own : Bool) (h : Hd) (ρ : Rho) (N : Hd → Rho → Prop) : Prop := match own, h with
  | true, .new ds => N (.new ds) ρ
  | _, _ => datOf h ρ fun d ρ' => N (.val d) ρ'
def slotOf : Hd → Slot
  | .val d => .da d
  | .new ds => .ow ds
  | _ => .un
def ownF (i : Nat) (f : DF) : SF := fun ρ k => f ρ fun h ρ1 => pend true h ρ1 fun x ρ2 => k.nx (ρ2.set i (slotOf x))
def asgF (bd : GF) (f : DF) : SF := fun ρ k => f ρ fun h ρ1 => datOf h ρ1 fun d ρ2 => bd d ρ2 k.nx
def retF (f : DF) : SF := fun ρ k => f ρ fun h ρ1 => datOf h ρ1 fun d _ => k.rt d
def retNF : SF := fun _ k => k.rt .none
def dropF (f : DF) : SF := fun ρ k => f ρ fun _ ρ1 => k.nx ρ1
def ifS (F : BF) (f g : SF) : SF := fun ρ k => F ρ fun b ρ1 => brP b (f ρ1 k) (g ρ1 k)
def parF (o1 o2 : Bool) (i j : Nat) (fa fb : DF) : SF := fun ρ k => fa ρ fun x ρ1 => pend o1 x ρ1 fun x' ρ2 => fb ρ2 fun y ρ3 => pend o2 y ρ3 fun y' ρ4 => k.nx ((ρ4.set i (slotOf x')).set j (slotOf y'))
def whN (F : BF) (body : SF) : Nat → SF
  | 0, _, _ => False
  | n + 1, ρ, k => F ρ fun t ρ1 => brP t (body ρ1 { nx := fun ρ2 => whN F body n ρ2 k, ct := fun ρ2 => whN F body n ρ2 k, bk := k.nx, rt := k.rt }) (k.nx ρ1)
def whF (F : BF) (body : SF) : SF := fun ρ k => ∃ n, whN F body n ρ k
section
variable {K : PySem.W.Frag} {B : Hp × Hp} {S : Sr} {ρ ρ' ρ1 ρ2 : Rho} {σ : St} {G H G' H' G1 H1 G2 H2 : Hp}
theorem pend_ok {own : Bool} {Φ : Hd → Rho → Prop} (g : Good K B S ρ1 σ G1 H1) (s : Stp S σ ρ G H ρ1 G1 H1) {h : Hd} {v : V} (q : HdOk K B S ρ1 σ G1 H1 v h) (fr : Fresh H v h) (d : pend own h ρ1 Φ) :
    ∃ x ρ2 G2, Φ x ρ2 ∧ Good K B S ρ2 σ G2 H1 ∧ Stp S σ ρ G H ρ2 G2 H1 ∧ HdOk K B S ρ2 σ G2 H1 v x ∧ Fresh H v x ∧ ((∃ d, x = .val d) ∨ ∃ ds, x = .new ds) := by
  have dat : (datOf h ρ1 fun d ρ' => Φ (.val d) ρ') → ∃ x ρ2 G2, Φ x ρ2 ∧ Good K B S ρ2 σ G2 H1 ∧ Stp S σ ρ G H ρ2 G2 H1 ∧ HdOk K B S ρ2 σ G2 H1 v x ∧ Fresh H v x ∧ ((∃ d, x = .val d) ∨ ∃ ds, x = .new ds) := fun d => by
    obtain ⟨x, ρ2, G2, f2, g2, s2, t2⟩ := frz g s q fr d
    exact ⟨.val x, ρ2, G2, f2, g2, s2, t2, trivial, .inl ⟨x, rfl⟩⟩
  cases own with
  | false => exact dat d
  | true =>
    cases h with
    | new ds => exact ⟨.new ds, ρ1, G1, d, g, s, q, fr, .inr ⟨ds, rfl⟩⟩
    | val x => exact dat d
    | slot i => exact dat d
    | src => exact dat d
/-- stored in a slot -/
theorem Good.put (g : Good K B S ρ σ G H) {i : Nat} {v : V} {h : Hd} (q : HdOk K B S ρ σ G H v h) (hx : (∃ d, h = .val d) ∨ ∃ ds, h = .new ds) : Good K B S (ρ.set i (slotOf h)) (σ.set i (some v)) G H := by
  rcases hx with ⟨d, rfl⟩ | ⟨ds, rfl⟩
  · exact g.storeD q
  · obtain ⟨a, vs, rfl, h1, h2, h3, h4, h5, h6⟩ := q
    exact g.store (x := .ow ds) ⟨a, vs, rfl, h1, h2, h3, h4, h5⟩ fun es b z1 z2 => by cases z2; exact h6
end
/-- come to, made data but for new lists that are to be one's own -/
def dPe (K : PySem.W.Frag) (o : Bool) (F : DF) : TE := fun σ H Q => ∃ B S ρ G Φ, Good K B S ρ σ G H ∧ F ρ (fun h ρ1 => pend o h ρ1 Φ) ∧ ∀ h v ρ' G' H', Φ h ρ' → ((∃ d, h = .val d) ∨ ∃ ds, h = .new ds) → Good K B S ρ' σ G' H' → Stp S σ ρ G H ρ' G' H' → HdOk K B S ρ' σ G' H' v h → Fresh H v h → Q v H'
section
variable {X : Cx} {st : Stmt} {rest sa sb : List Stmt} {e a b c tg : Expr} {pos : Pos} {f fa fb : DF} {F : BF} {s s1 s2 : SF}
theorem ds_nil : PSs X [] (dS X.K skipF) := PSsw pss_nil fun D σ H ⟨B, S, ρ, G, k, g, q, d⟩ => d.nx ρ σ G H q g
theorem ds_cons (h1 : PS X st (dS X.K s1)) (h2 : PSs X rest (dS X.K s2)) : PSs X (st :: rest) (dS X.K (seqF s1 s2)) :=
  PSsw (pss_cons h1 h2) fun D σ H ⟨B, S, ρ, G, k, g, q, d⟩ => ⟨B, S, ρ, G, _, g, q, ⟨fun ρ1 σ1 G1 H1 q1 g1 => ⟨B, S, ρ1, G1, k, g1, q1, d⟩, d.rt, d.bk, d.ct⟩⟩
theorem ds_one (h : PS X st (dS X.K s)) : PSs X [st] (dS X.K s) := pss_one h
theorem ds_pass : PS X (.Pass pos) (dS X.K skipF) := PSw ps_pass fun D σ H ⟨B, S, ρ, G, k, g, q, d⟩ => d.nx ρ σ G H q g
theorem ds_break : PS X (.Break pos) (dS X.K brkF) := PSw ps_break fun D σ H ⟨B, S, ρ, G, k, g, q, d⟩ => d.bk ρ σ G H q g
theorem ds_continue : PS X (.Continue pos) (dS X.K contF) := PSw ps_continue fun D σ H ⟨B, S, ρ, G, k, g, q, d⟩ => d.ct ρ σ G H q g
theorem r_set {i : Nat} {te : TE} (w : ∀ σ H Q, dE X.K f σ H Q → te σ H Q) (D : Ends) (σ : St) (H : Hp) (h : dS X.K (setF i f) D σ H) : tAsg te (gName i) D σ H := by
  obtain ⟨B, S, ρ, G, k, g, q, d⟩ := h
  refine w _ _ _ ⟨B, S, ρ, G, _, g, q, fun h v ρ1 G1 H1 f1 g1 s1 o1 fr => ?_⟩
  obtain ⟨x, ρ2, G2, f2, g2, s2, t2⟩ := frz g1 s1 o1 fr f1
  exact d.nx _ _ G2 H1 f2 (g2.storeD t2)
theorem r_own {i : Nat} {te : TE} (w : ∀ σ H Q, dE X.K f σ H Q → te σ H Q) (D : Ends) (σ : St) (H : Hp) (h : dS X.K (ownF i f) D σ H) : tAsg te (gName i) D σ H := by
  obtain ⟨B, S, ρ, G, k, g, q, d⟩ := h
  refine w _ _ _ ⟨B, S, ρ, G, _, g, q, fun h v ρ1 G1 H1 f1 g1 s1 o1 fr => ?_⟩
  obtain ⟨x, ρ2, G2, f2, g2, s2, o2, _, hx⟩ := pend_ok g1 s1 o1 fr f1
  exact d.nx _ _ G2 H1 f2 (g2.put o2 hx)
theorem ds_set (i : Nat) {x : Str} {pos' : Pos} (he : PE X e (dE X.K f)) (hN : X.N.Nodup) (hi : X.N[i]? = some x := by rfl) (hx : Loc X.env.scope x := by first | exact Or.inl rfl | exact Or.inr rfl) (hs : swapsWith e (some (.Name x pos')) pos.line X.env = pure false := by rfl) (hf : X.fn x = true ∨ X.env.scope.names.lookup x = some .local := by first | exact .inl rfl | exact .inr rfl | assumption) :
    PS X (.Assign [.Name x pos'] e pos) (dS X.K (setF i f)) := PSw (ps_set hN hi hx he hs hf) (r_set fun _ _ _ h => h)
theorem ds_own (i : Nat) {x : Str} {pos' : Pos} (he : PE X e (dE X.K f)) (hN : X.N.Nodup) (hi : X.N[i]? = some x := by rfl) (hx : Loc X.env.scope x := by first | exact Or.inl rfl | exact Or.inr rfl) (hs : swapsWith e (some (.Name x pos')) pos.line X.env = pure false := by rfl) (hf : X.fn x = true ∨ X.env.scope.names.lookup x = some .local := by first | exact .inl rfl | exact .inr rfl | assumption) :
    PS X (.Assign [.Name x pos'] e pos) (dS X.K (ownF i f)) := PSw (ps_set hN hi hx he hs hf) (r_own fun _ _ _ h => h)
theorem ds_asg {js : List Nat} {bd : GF} (he : PE X e (dE X.K f)) (hg : PG X tg (dG X.K js bd)) (hs : swapsWithSole [tg] e pos.line X.env = pure false := by rfl) (hw : swappedStores [tg] e X.env = pure none := by rfl) (h1 : (assignEach [tg] X.env).map (·.2) = [assign tg X.env] := by rfl) : PS X (.Assign [tg] e pos) (dS X.K (asgF bd f)) :=
  PSw (ps_asg he hg hs hw h1) fun D σ H ⟨B, S, ρ, G, k, g, q, d⟩ => ⟨B, S, ρ, G, _, g, q, fun h v ρ1 G1 H1 f1 g1 s1 o1 fr => by
    obtain ⟨x, ρ2, G2, f2, g2, s2, t2⟩ := frz g1 s1 o1 fr f1
    exact ⟨B, S, ρ2, G2, x, _, g2, t2, f2, fun ρ3 σ3 f3 g3 _ _ => d.nx ρ3 σ3 G2 H1 f3 g3⟩⟩
theorem ds_ret (he : PE X e (dE X.K f)) : PS X (.Return (some e) pos) (dS X.K (retF f)) := PSw (ps_ret he) fun D σ H ⟨B, S, ρ, G, k, g, q, d⟩ => ⟨B, S, ρ, G, _, g, q, fun h v ρ1 G1 H1 f1 g1 s1 o1 fr => by
    obtain ⟨x, ρ2, G2, f2, g2, s2, t2⟩ := frz g1 s1 o1 fr f1
    exact d.rt x v ρ2 σ G2 H1 f2 g2 t2⟩
theorem ds_retN : PS X (.Return none pos) (dS X.K retNF) := PSw ps_retN fun D σ H ⟨B, S, ρ, G, k, g, q, d⟩ => d.rt _ _ ρ σ G H q g .non
theorem ds_expr (he : PE X e (dE X.K f)) (hs : swapsWith e none pos.line X.env = pure false := by rfl) : PS X (.Expr e pos) (dS X.K (dropF f)) := PSw (ps_expr he hs) fun D σ H ⟨B, S, ρ, G, k, g, q, d⟩ =>
  ⟨B, S, ρ, G, _, g, q, fun h v ρ1 G1 H1 f1 g1 s1 o1 fr => d.nx ρ1 σ G1 H1 f1 g1⟩
theorem ds_doc {x j pos'} : PS X (.Expr (.Constant (.str x) j pos) pos') (dS X.K skipF) := PSw ps_doc fun D σ H ⟨B, S, ρ, G, k, g, q, d⟩ => d.nx ρ σ G H q g
theorem ds_if (hc : PT X c (dT X.K F)) (ha : PSs X sa (dS X.K s1)) (hb : PSs X sb (dS X.K s2)) : PS X (.If c sa sb pos) (dS X.K (ifS F s1 s2)) := PSw (ps_if hc ha hb) fun D σ H ⟨B, S, ρ, G, k, g, q, d⟩ =>
  ⟨B, S, ρ, G, _, g, q, fun t ρ1 G1 H1 f1 g1 _ => by
    cases t with
    | true => exact ⟨B, S, ρ1, G1, k, g1, f1.1 rfl, d⟩
    | false => exact ⟨B, S, ρ1, G1, k, g1, f1.2 rfl, d⟩⟩
theorem de_pend (o : Bool) (h : PE X e (dE X.K f)) : PE X e (dPe X.K o f) := PEw h fun σ H Q ⟨B, S, ρ, G, Φ, g, q, k⟩ => ⟨B, S, ρ, G, _, g, q, fun h v ρ1 G1 H1 f1 g1 s1 o1 fr => by
    obtain ⟨x, ρ2, G2, f2, g2, s2, o2, fr2, hx⟩ := pend_ok g1 s1 o1 fr f1
    exact k x v ρ2 G2 H1 f2 hx g2 s2 o2 fr2⟩
theorem ds_par (o1 o2 : Bool) (i j : Nat) {x y : Str} {px py pt : Pos} {kt k2 : Nat} {pt2 : Pos} (hc : X.calm = true) (hN : X.N.Nodup) (ha : PE X a (dE X.K fa)) (hb : PE X b (dE X.K fb)) (hi : X.N[i]? = some x := by rfl) (hj : X.N[j]? = some y := by rfl) (hij : i ≠ j := by decide)
    (hx : X.env.scope.names.lookup x = some .local := by rfl) (hy : X.env.scope.names.lookup y = some .local := by rfl) (hsa : starEach [a, b] X.env = (false, eval a X.env) :: starEach [b] X.env := by rfl) (hsb : starEach [b] X.env = (false, eval b X.env) :: starEach [] X.env := by rfl)
    (hw : swappedStores [.Tuple [.Name x px, .Name y py] kt pt] (.Tuple [a, b] k2 pt2) X.env = pure (some [x, y]) := by rfl)
    (hs : swapsWithSole [.Tuple [.Name x px, .Name y py] kt pt] (.Tuple [a, b] k2 pt2) pos.line X.env = pure false := by rfl) :
    PS X (.Assign [.Tuple [.Name x px, .Name y py] kt pt] (.Tuple [a, b] k2 pt2) pos) (dS X.K (parF o1 o2 i j fa fb)) := by
  refine PSw (ps_par hc hN hi hj hij hx hy (pa_cons (de_pend o1 ha) (pa_cons (de_pend o2 hb) pa_nil hsb) hsa) hw hs) fun D σ H ⟨B, S, ρ, G, k, g, q, d⟩ => ?_
  refine ⟨B, S, ρ, G, _, g, q, fun x' v ρ2 G2 H2 f2 hx' g2 s2 ox _ => ⟨B, S, ρ2, G2, _, g2, f2, fun y' w ρ4 G4 H4 f4 hy' g4 s4 oy fr => ?_⟩⟩
  have ox4 := ox.mono s4
  have gx := g4.put (i := i) ox4 hx'
  have oy' : HdOk X.K B S (ρ4.set i (slotOf x')) (σ.set i (some v)) G4 H4 w y' := by
    rcases hy' with ⟨dy, rfl⟩ | ⟨es, rfl⟩
    · exact oy
    · obtain ⟨p, vs, rfl, h1, h2, h3, h4, h5, h6⟩ := oy
      refine ⟨p, vs, rfl, h1, h2, h3, h4, h5, ?_⟩
      rcases hx' with ⟨dx, rfl⟩ | ⟨ds, rfl⟩
      · exact fun z => h6 (own_store (x := slotOf (.val dx)) g4.len (fun _ z => nomatch z) z)
      · obtain ⟨q, us, rfl, k1, k2, k3, k4, k5, k6⟩ := ox
        have hpq : p ≠ q := fun z => by
          subst z
          have := fr p rfl
          rw [k1] at this; cases this
        rintro ⟨m, fs, e1, e2⟩
        by_cases hl : i < ρ4.length
        · rcases set_get e1 with ⟨rfl, z⟩ | ⟨ne, z⟩
          · rw [List.getElem?_set_self (by rw [← g4.len]; exact hl)] at e2
            cases e2
            exact hpq rfl
          · rw [List.getElem?_set_ne ne] at e2
            exact h6 ⟨m, fs, z, e2⟩
        · rw [List.set_eq_of_length_le (by omega)] at e1
          rw [List.set_eq_of_length_le (by rw [← g4.len]; omega)] at e2
          exact h6 ⟨m, fs, e1, e2⟩
  exact ⟨v, w, rfl, d.nx _ _ G4 H4 f4 (gx.put oy' hy')⟩
theorem ds_while {hp : PassesOwn (model X.prog X.w) X.A X.env X.xe} (hc : PT X c (dT X.K F)) (hb : PSs X sa (dS X.K s)) : PS X (.While c sa [] pos) (dS X.K (whF F s)) := PSw (ps_while hp hc hb) fun D σ H ⟨B, S, ρ, G, k, g, ⟨n, q⟩, d⟩ => by
  refine ⟨fun m σ H => ∃ ρ G, Good X.K B S ρ σ G H ∧ whN F s m ρ k, ⟨n, ρ, G, g, q⟩, fun m σ1 H1 ⟨ρ1, G1, g1, q1⟩ => ?_⟩
  cases m with
  | zero => exact q1.elim
  | succ m =>
    refine ⟨B, S, ρ1, G1, _, g1, q1, fun t ρ2 G2 H2 f2 g2 _ => ?_⟩
    cases t with
    | false => exact d.nx ρ2 σ1 G2 H2 (f2.2 rfl) g2
    | true =>
      refine ⟨fun σ' H' => ∃ ρ G, Good X.K B S ρ σ' G H' ∧ whN F s m ρ k, fun σ' H' h => ⟨m, Nat.lt_succ_self m, h⟩, B, S, ρ2, G2, _, g2, f2.1 rfl, ⟨fun ρ3 σ3 G3 H3 q3 g3 => ⟨ρ3, G3, g3, q3⟩, d.rt, d.nx, fun ρ3 σ3 G3 H3 q3 g3 => ⟨ρ3, G3, g3, q3⟩⟩⟩
end
end Dat


set_option Elab.async false
set_option linter.all false
set_option maxRecDepth 100000
set_option maxHeartbeats 4000000
/-! DatD: what is walked, for, comprehensions. -/
namespace Dat
open PySem L2

/-! ### what is walked -/
inductive Cond where
  | free
  | own (i : Nat) (ds : List PyData)
def Cond.ok (c : Cond) (ρ : Rho) : Prop := match c with
  | .free => True
  | .own i ds => ρ[i]? = some (.ow ds)
def Cond.at (c : Cond) (σ1 σ : St) : Prop := match c with
  | .free => True
  | .own i _ => ∀ a, σ[i]? = some (some (.ref a)) → σ1[i]? = some (some (.ref a))
structure ItOk (K : PySem.W.Frag) (B : Hp × Hp) (S : Sr) (c : Cond) (σ1 : St) (G1 : Hp) (J : It) (xs : List PyData) : Prop where
  walk : ∃ (GW : Hp → Prop) (Y : Nat → Hp → V → Hp → Prop), Walk J xs.length GW Y ∧ (∀ ρ σ G H, Good K B S ρ σ G H → Same G1 G → c.ok ρ → c.at σ1 σ → GW H) ∧
    ∀ i x ρ σ G H H', i < xs.length → Good K B S ρ σ G H → Same G1 G → c.ok ρ → c.at σ1 σ → Y i H x H' → ∃ d G', xs[i]? = some d ∧ Nst G H G' H' ∧ Dt K G' x d
abbrev IF := Rho → (Cond → List PyData → Rho → Prop) → Prop
def dI (K : PySem.W.Frag) (F : IF) : TI := fun σ H R => ∃ B S ρ G Φ, Good K B S ρ σ G H ∧ F ρ Φ ∧ ∀ c xs ρ1 G1 H1 J, Φ c xs ρ1 → Good K B S ρ1 σ G1 H1 → Stp S σ ρ G H ρ1 G1 H1 → ItOk K B S c σ G1 J xs → R J H1
section
variable {K : PySem.W.Frag} {B : Hp × Hp} {S : Sr} {ρ ρ' ρ1 ρ2 : Rho} {σ : St} {G H G' H' G1 H1 G2 H2 : Hp} {a b : Addr} {vs us : List V} {ds es : List PyData}
theorem it_list (h : SqL K G1 a vs) (t : DtAll K G1 vs ds) : ItOk K B S .free σ G1 (Itl K a) ds :=
  ⟨⟨fun H => SqL K H a vs, YAt vs, by rw [← t.length]; exact walk_list, fun ρ σ G H g e _ _ => g.ing.seq (e.seq h), fun i x ρ σ G H H' hi g e _ _ ⟨y1, y2⟩ => by
    subst y1
    obtain ⟨d, e1, e2⟩ := t.getV y2
    exact ⟨d, G, e1, .refl g.ing, Dt.mono e d e2⟩⟩⟩
theorem it_tup (h : SqT K G1 a vs) (t : DtAll K G1 vs ds) : ItOk K B S .free σ G1 (Itt K a) ds :=
  ⟨⟨fun H => SqT K H a vs, YAt vs, by rw [← t.length]; exact walk_tup, fun ρ σ G H g e _ _ => Same.seqT g.ing (Same.seqT e h), fun i x ρ σ G H H' hi g e _ _ ⟨y1, y2⟩ => by
    subst y1
    obtain ⟨d, e1, e2⟩ := t.getV y2
    exact ⟨d, G, e1, .refl g.ing, Dt.mono e d e2⟩⟩⟩
/-- over a list of one's own that stays as it is -/
theorem it_own {i : Nat} (g1 : Good K B S ρ1 σ G1 H1) (e : ρ1[i]? = some (.ow ds)) (hv : σ[i]? = some (some (.ref a))) (h : H1 a = some (.lst vs)) (t : DtAll K G1 vs ds) : ItOk K B S (.own i ds) σ G1 (Itl K a) ds :=
  ⟨⟨fun H => ∃ us, SqL K H a us ∧ us.length = ds.length, fun i' H x H' => H' = H ∧ ∀ us, SqL K H a us → us[i']? = some x, ⟨fun i' H hi ⟨us, q, hl⟩ => ⟨us, us[i'], q, by simp [hl, hi]⟩, fun H ⟨us, q, hl⟩ => ⟨us, q, by omega⟩,
    fun i' H x H' hi _ y => y⟩, fun ρ σ' G H g e1 ok at_ => by
      obtain ⟨b, us, e2, k1, k2, _⟩ := g.sl i _ ok
      have := at_ b e2
      rw [hv] at this
      cases this
      exact ⟨us, .of k1, k2.length⟩, fun i' x ρ σ' G H H' _ g e1 ok at_ ⟨y1, y2⟩ => by
      subst y1
      obtain ⟨b, us, e2, k1, k2, k3, _⟩ := g.sl i _ ok
      have := at_ b e2
      rw [hv] at this
      cases this
      obtain ⟨d, e3, e4⟩ := k2.getV (y2 us (.of k1))
      exact ⟨d, G, e3, .refl g.ing, e4⟩⟩⟩
theorem it_range {lo : Int} {n : Nat} : ItOk K B S .free σ G1 (Itr lo n) ((List.range n).map fun (i : Nat) => PyData.int (lo + (i : Int))) :=
  ⟨⟨fun _ => True, YFn fun i => .int (lo + i), by rw [List.length_map, List.length_range]; exact walk_range, fun _ _ _ _ _ _ _ _ => trivial, fun i x ρ σ G H H' hi g e _ _ ⟨y1, y2⟩ => by
    subst y1 y2
    rw [List.length_map, List.length_range] at hi
    exact ⟨.int (lo + i), G, by rw [List.getElem?_map, List.getElem?_range hi]; rfl, .refl g.ing, .int _⟩⟩⟩
theorem it_pair {J : It} {n : Nat} {GW : Hp → Prop} {xs ys : Nat → Option V} {c : Cond} {ds : List PyData} (w : Walk J n GW (YPair xs ys)) (hn : n = ds.length) (hg : ∀ ρ σ' G H, Good K B S ρ σ' G H → Same G1 G → c.ok ρ → c.at σ σ' → GW H)
    (hd : ∀ i x y ρ σ' G H, Good K B S ρ σ' G H → Same G1 G → c.ok ρ → c.at σ σ' → xs i = some x → ys i = some y → ∃ d e, ds[i]? = some (.tuple [d, e]) ∧ Dt K G x d ∧ Dt K G y e) : ItOk K B S c σ G1 J ds :=
  ⟨⟨GW, YPair xs ys, by rw [← hn]; exact w, hg, fun i v ρ σ' G H H' _ g e ok at_ ⟨T, x, y, e1, e2, e3, e4, e5⟩ => by
    subst e1 e3
    obtain ⟨d, f, h1, h2, h3⟩ := hd i x y ρ σ' G H g e ok at_ e4 e5
    have n2 : Nst G H (upd G T (.tup [x, y])) (upd H T (.tup [x, y])) := Nst.know g.ing e2
    exact ⟨_, _, h1, n2, .tup (.of upd_same) (.cons (Dt.mono n2.ext d h2) (.cons (Dt.mono n2.ext f h3) .nil))⟩⟩⟩
end
def itS (f : DF) : IF := fun ρ Φ => f ρ fun h ρ1 => match h with
  | .slot i => match ρ1[i]? with
    | some (.bo ds) => Φ .free ds ρ1
    | _ => datOf (.slot i) ρ1 fun d ρ2 => seqP d fun xs => Φ .free xs ρ2
  | h => datOf h ρ1 fun d ρ2 => seqP d fun xs => Φ .free xs ρ2
/-- in a comprehension: a list of one's own stays one's own -/
def itC (f : DF) : IF := fun ρ Φ => f ρ fun h ρ1 => match h with
  | .slot i => match ρ1[i]? with
    | some (.bo ds) => Φ .free ds ρ1
    | some (.ow ds) => Φ (.own i ds) ds ρ1
    | some (.da d) => seqP d fun xs => Φ .free xs ρ1
    | _ => False
  | h => datOf h ρ1 fun d ρ2 => seqP d fun xs => Φ .free xs ρ2
/-- range: one, two arguments -/
def rngP (ds : List PyData) (k : List PyData → Prop) : Prop := match ds with
  | [.int n] => (-(2 ^ 62) ≤ n ∧ n < 2 ^ 62) ∧ k ((List.range n.toNat).map fun (i : Nat) => PyData.int (i : Int))
  | [.int m, .int n] => (-(2 ^ 62) ≤ m ∧ m < 2 ^ 62 ∧ -(2 ^ 62) ≤ n ∧ n < 2 ^ 62) ∧ k ((List.range (n - m).toNat).map fun (i : Nat) => PyData.int (m + (i : Int)))
  | _ => False
def itR (fl : LF) : IF := fun ρ Φ => fl ρ fun ds ρ1 => rngP ds fun xs => Φ .free xs ρ1
def enumD (k : Int) : List PyData → List PyData
  | [] => []
  | d :: ds => .tuple [.int k, d] :: enumD (k + 1) ds
def zipD : List PyData → List PyData → List PyData
  | d :: ds, e :: es => .tuple [d, e] :: zipD ds es
  | _, _ => []
theorem enumD_len : ∀ (k : Int) (ds : List PyData), (enumD k ds).length = ds.length
  | _, [] => rfl
  | k, d :: ds => by simp [enumD, enumD_len (k + 1) ds]
theorem enumD_get : ∀ (k : Int) (ds : List PyData) (i : Nat) (d : PyData), ds[i]? = some d → (enumD k ds)[i]? = some (.tuple [.int (k + (i : Int)), d])
  | _, [], _, _, h => by simp at h
  | k, d :: ds, 0, _, h => by simp at h; subst h; simp [enumD]
  | k, d :: ds, i + 1, e, h => by
    have := enumD_get (k + 1) ds i e (by simpa using h)
    simp only [enumD, List.getElem?_cons_succ, this]
    have : k + 1 + (i : Int) = k + ((i + 1 : Nat) : Int) := by omega
    rw [this]
theorem zipD_len : ∀ (ds es : List PyData), (zipD ds es).length = min ds.length es.length
  | [], _ => by simp [zipD]
  | _ :: _, [] => by simp [zipD]
  | d :: ds, e :: es => by simp [zipD, zipD_len ds es]
theorem zipD_get : ∀ (ds es : List PyData) (i : Nat) (d e : PyData), ds[i]? = some d → es[i]? = some e → (zipD ds es)[i]? = some (.tuple [d, e])
  | [], _, _, _, _, h, _ => by simp at h
  | _ :: _, [], _, _, _, _, h => by simp at h
  | d :: ds, e :: es, 0, _, _, h, h' => by simp at h h'; subst h h'; simp [zipD]
  | d :: ds, e :: es, i + 1, _, _, h, h' => by
    simp only [zipD, List.getElem?_cons_succ] at *
    exact zipD_get ds es i _ _ h h'
section
variable {X : Cx} {tg e iter : Expr} {pos p : Pos} {f : DF} {fl : LF}
theorem pi_any {tl : TE} (hl : PE X e tl) : PI X tg e (fun σ H R => tl σ H fun x H1 => ∃ a xs, x = .ref a ∧ ((SqL X.K H1 a xs ∧ R (Itl X.K a) H1) ∨ (SqT X.K H1 a xs ∧ R (Itt X.K a) H1))) := by
  refine ⟨fun pins s σ H R I h => ?_⟩
  refine thn (hl.run pins s σ H _ I h) fun v s1 ⟨x, H1, I1, r1, q1⟩ => ?_
  obtain ⟨a, xs, e, q⟩ := q1
  subst e
  cases r1
  have fp : ∀ b ∈ [s1.heap.objs.size], FpOk X pins H1 b := fun b hb => by
    have e : b = s1.heap.objs.size := by simpa using hb
    subst e
    exact I1.fpOk (Nat.le_refl _) (I1.hok.fresh (Nat.le_refl _))
  rcases q with ⟨hq, q⟩ | ⟨hq, q⟩
  · obtain ⟨its, rv, p, hz⟩ := I1.list hq
    refine wpAny_pyIter_list p.isList ?_
    exact ⟨s1.heap.objs.size, [s1.heap.objs.size], _, _, H1, rfl, I1.kept (t' := s1.toks) fun b o e => Heap.get?_push_of_some _ e, turn_list a _, ⟨_, Heap.get?_push_size _ rfl, rfl, rfl⟩, fp, q⟩
  · obtain ⟨its, rv, p, hz⟩ := I1.tuple hq
    refine wpAny_pyIter_tuple (show s1.heap.IsTuple a its.toArray from p) ?_
    exact ⟨s1.heap.objs.size, [s1.heap.objs.size], _, _, H1, rfl, I1.kept (t' := s1.toks) fun b o e => Heap.get?_push_of_some _ e, turn_tuple a _, ⟨_, Heap.get?_push_size _ rfl, rfl, rfl⟩, fp, q⟩
theorem seq_it {K : PySem.W.Frag} {B : Hp × Hp} {S : Sr} {ρ2 : Rho} {σ : St} {G2 H2 : Hp} {v : V} {d : PyData} {R : It → Hp → Prop} {Ψ : List PyData → Prop} (g : Good K B S ρ2 σ G2 H2) (t : Dt K G2 v d) (q : seqP d Ψ) (k : ∀ xs J, Ψ xs → ItOk K B S .free σ G2 J xs → R J H2) :
    ∃ a xs, v = .ref a ∧ ((SqL K H2 a xs ∧ R (Itl K a) H2) ∨ (SqT K H2 a xs ∧ R (Itt K a) H2)) := by
  unfold seqP at q
  split at q
  · cases t with
    | lst hs ta => exact ⟨_, _, rfl, .inl ⟨.of (g.ing _ _ hs), k _ _ q (it_list (.of hs) ta)⟩⟩
  · cases t with
    | tup hs ta => exact ⟨_, _, rfl, .inr ⟨Same.seqT g.ing hs, k _ _ q (it_tup hs ta)⟩⟩
  · exact q.elim
theorem bo_it {K : PySem.W.Frag} {B : Hp × Hp} {S : Sr} {ρ2 : Rho} {σ : St} {G2 H2 : Hp} {v : V} {i : Nat} {ds : List PyData} {R : It → Hp → Prop} (g : Good K B S ρ2 σ G2 H2) (e : ρ2[i]? = some (.bo ds)) (hv : σ[i]? = some (some v)) (k : ∀ J, ItOk K B S .free σ G2 J ds → R J H2) :
    ∃ a xs, v = .ref a ∧ ((SqL K H2 a xs ∧ R (Itl K a) H2) ∨ (SqT K H2 a xs ∧ R (Itt K a) H2)) := by
  obtain ⟨a, vs, e1, h0, h1, h2, h3, h4⟩ := g.sl i _ e
  rw [hv] at e1; cases e1
  refine ⟨a, vs, rfl, .inl ⟨.of h1, k _ ⟨⟨fun H => H a = some (.lst vs), YAt vs, ?_, fun ρ σ G H g e _ _ => g.pre a _ h4 h0, fun i x ρ σ G H H' hi g e _ _ ⟨y1, y2⟩ => ?_⟩⟩⟩⟩
  · rw [← h2.length]
    exact walk_list.mono (fun H h => .of h) fun _ _ _ _ _ _ y => y
  · subst y1
    obtain ⟨d, e1, e2⟩ := h2.getV y2
    exact ⟨d, G, e1, .refl g.ing, Dt.mono e d e2⟩
theorem di_seq (he : PE X e (dE X.K f)) : PI X tg e (dI X.K (itS f)) := PIw (pi_any he) fun σ H R ⟨B, S, ρ, G, Φ, g, q, k⟩ => ⟨B, S, ρ, G, _, g, q, fun h v ρ1 G1 H1 f1 g1 s1 o1 fr => by
  have dat : (datOf h ρ1 fun d ρ2 => seqP d fun xs => Φ .free xs ρ2) → ∃ a xs, v = .ref a ∧ ((SqL X.K H1 a xs ∧ R (Itl X.K a) H1) ∨ (SqT X.K H1 a xs ∧ R (Itt X.K a) H1)) := fun q => by
    obtain ⟨x, ρ2, G2, f2, g2, s2, t2⟩ := frz g1 s1 o1 fr q
    exact seq_it g2 t2 f2 fun xs J p i => k .free xs ρ2 G2 H1 J p g2 s2 i
  cases h with
  | slot i =>
    simp only at f1
    split at f1
    · rename_i ds e1
      exact bo_it g1 e1 o1 fun J i => k .free ds ρ1 G1 H1 J f1 g1 s1 i
    · exact dat f1
  | val d => exact dat f1
  | new d => exact dat f1
  | src => exact dat f1⟩
theorem di_seqC (he : PE X e (dE X.K f)) : PI X tg e (dI X.K (itC f)) := PIw (pi_any he) fun σ H R ⟨B, S, ρ, G, Φ, g, q, k⟩ => ⟨B, S, ρ, G, _, g, q, fun h v ρ1 G1 H1 f1 g1 s1 o1 fr => by
  have dat : (datOf h ρ1 fun d ρ2 => seqP d fun xs => Φ .free xs ρ2) → ∃ a xs, v = .ref a ∧ ((SqL X.K H1 a xs ∧ R (Itl X.K a) H1) ∨ (SqT X.K H1 a xs ∧ R (Itt X.K a) H1)) := fun q => by
    obtain ⟨x, ρ2, G2, f2, g2, s2, t2⟩ := frz g1 s1 o1 fr q
    exact seq_it g2 t2 f2 fun xs J p i => k .free xs ρ2 G2 H1 J p g2 s2 i
  cases h with
  | slot i =>
    simp only at f1
    split at f1
    · rename_i ds e1
      exact bo_it g1 e1 o1 fun J i => k .free ds ρ1 G1 H1 J f1 g1 s1 i
    · rename_i ds e1
      obtain ⟨a, vs, e2, h1, h2, _⟩ := g1.sl i _ e1
      have o1' : σ[i]? = some (some v) := o1
      rw [o1'] at e2; cases e2
      exact ⟨a, vs, rfl, .inl ⟨.of h1, k _ ds ρ1 G1 H1 _ f1 g1 s1 (it_own g1 e1 o1 h1 h2)⟩⟩
    · rename_i d e1
      obtain ⟨u, e2, h1⟩ := g1.sl i _ e1
      have o1' : σ[i]? = some (some v) := o1
      rw [o1'] at e2; cases e2
      exact seq_it g1 h1 f1 fun xs J p i => k .free xs ρ1 G1 H1 J p g1 s1 i
    · exact f1.elim
  | val d => exact dat f1
  | new d => exact dat f1
  | src => exact dat f1⟩
theorem vals_int {K : PySem.W.Frag} {G : Hp} {vs : List V} {n : Int} (t : DtAll K G vs [.int n]) : vs = [.int n] := by
  cases t with
  | cons t1 t2 => cases t1; cases t2; rfl
theorem vals_int2 {K : PySem.W.Frag} {G : Hp} {vs : List V} {m n : Int} (t : DtAll K G vs [.int m, .int n]) : vs = [.int m, .int n] := by
  cases t with
  | cons t1 t2 =>
    cases t1
    rw [vals_int t2]
theorem di_range1 {a : Expr} (hm : X.mg "range" = none) (ha : PA X [a] (dL X.K fl)) (hg : Gl X "range" := by rfl) (hs : starEach [a] X.env = [(false, eval a X.env)] := by rfl) : PI X tg (.Call (.Name "range" p) [a] [] pos) (dI X.K (itR fun ρ Φ => fl ρ fun ds ρ1 => ds.length = 1 ∧ Φ ds ρ1)) :=
  PIw (pi_range1 hg hm ha hs) fun σ H R ⟨B, S, ρ, G, Φ, g, q, k⟩ => ⟨B, S, ρ, G, _, g, q, fun ds vs ρ1 G1 H1 fh g1 s1 t1 => by
    have hl := fh.1
    have f1 : rngP ds fun xs => Φ .free xs ρ1 := fh.2
    clear fh
    unfold rngP at f1
    split at f1
    · rename_i n
      refine ⟨n, vals_int t1, f1.1.1, f1.1.2, k _ _ ρ1 G1 H1 _ f1.2 g1 s1 ?_⟩
      have := @it_range X.K B S σ G1 0 n.toNat
      simpa using this
    · simp at hl
    · exact f1.elim⟩
theorem di_range2 {a b : Expr} (hm : X.mg "range" = none) (ha : PA X [a, b] (dL X.K fl)) (hg : Gl X "range" := by rfl) (hs : starEach [a, b] X.env = [(false, eval a X.env), (false, eval b X.env)] := by rfl) (hs2 : starEach [b] X.env = [(false, eval b X.env)] := by rfl) :
    PI X tg (.Call (.Name "range" p) [a, b] [] pos) (dI X.K (itR fun ρ Φ => fl ρ fun ds ρ1 => ds.length = 2 ∧ Φ ds ρ1)) :=
  PIw (pi_range2 hg hm ha hs hs2) fun σ H R ⟨B, S, ρ, G, Φ, g, q, k⟩ => ⟨B, S, ρ, G, _, g, q, fun ds vs ρ1 G1 H1 fh g1 s1 t1 => by
    have hl := fh.1
    have f1 : rngP ds fun xs => Φ .free xs ρ1 := fh.2
    clear fh
    unfold rngP at f1
    split at f1
    · simp at hl
    · rename_i m n
      exact ⟨m, n, vals_int2 t1, f1.1, k _ _ ρ1 G1 H1 _ f1.2 g1 s1 it_range⟩
    · exact f1.elim⟩
end
/-! ### for -/
def forP (bd : GF) (body : SF) : List PyData → SF
  | [], ρ, k => k.nx ρ
  | x :: xs, ρ, k => bd x ρ fun ρ1 => body ρ1 { nx := fun ρ2 => forP bd body xs ρ2 k, ct := fun ρ2 => forP bd body xs ρ2 k, bk := k.nx, rt := k.rt }
def forF (it : IF) (bd : GF) (body : SF) : SF := fun ρ k => it ρ fun c xs ρ1 => c = .free ∧ forP bd body xs ρ1 k
section
variable {K : PySem.W.Frag} {B : Hp × Hp} {S : Sr} {ρ ρ' ρ1 ρ2 : Rho} {σ σ' : St} {G H G' H' G1 H1 G2 H2 : Hp}
/-- seen from the present data on -/
theorem Good.rebase (g : Good K B S ρ σ G H) : Good K (G, B.2) S ρ σ G H := ⟨g.ing, g.reg, Same.refl G, fun _ h _ => h, g.pre, g.len, g.sl, g.sep⟩
theorem Good.unbase (g1 : Good K B S ρ1 σ G1 H1) (g : Good K (G1, B.2) S ρ' σ' G H) : Good K B S ρ' σ' G H := ⟨g.ing, g.reg, g1.ext.trans g.ext, fun a h1 h2 => g.out a (g1.out a h1 h2) h2, g.pre, g.len, g.sl, g.sep⟩
theorem DEnds.rebase {k : Kont} {D : Ends} (g1 : Good K B S ρ1 σ G1 H1) (d : DEnds K B S k D) : DEnds K (G1, B.2) S k D :=
  ⟨fun ρ σ G H q g => d.nx ρ σ G H q (g1.unbase g), fun x v ρ σ G H q g t => d.rt x v ρ σ G H q (g1.unbase g) t, fun ρ σ G H q g => d.bk ρ σ G H q (g1.unbase g), fun ρ σ G H q g => d.ct ρ σ G H q (g1.unbase g)⟩
theorem drop_at {α : Type} {xs : List α} {i : Nat} {d : α} (hx : xs[i]? = some d) : xs.drop i = d :: xs.drop (i + 1) := by
  obtain ⟨h1, h2⟩ := List.getElem?_eq_some_iff.mp hx
  rw [List.drop_eq_getElem_cons h1, h2]
end
section
variable {X : Cx} {tg e iter : Expr} {pos p : Pos} {it : IF} {bd : GF} {s : SF} {js : List Nat} {body : List Stmt}
theorem ds_for {hp : PassesOwn (model X.prog X.w) X.A X.env X.xe} (hc : X.calm = true) (hi : PI X tg iter (dI X.K it)) (hg : PG X tg (dG X.K js bd)) (hb : PSs X body (dS X.K s)) (hs : ∀ x, foldedSetIterable iter X.env x = pure x := by intro _; rfl) :
    PS X (.For tg iter body [] pos) (dS X.K (forF it bd s)) := PSw (ps_for hp hc hi hg hb hs) fun D σ H ⟨B, S, ρ, G, k, g, q, d⟩ => ⟨B, S, ρ, G, _, g, q, fun c xs ρ1 G1 H1 J ⟨hc', f1⟩ g1 s1 ⟨GW, Y, w, hG, hY⟩ => by
      subst hc'
      refine for_it w (fun i σ H => ∃ ρ G, Good X.K (G1, B.2) S ρ σ G H ∧ forP bd s (xs.drop i) ρ k) ⟨ρ1, G1, g1.rebase, by simpa using f1⟩ (fun i σ' H' hi ⟨ρ2, G2, g2, f2⟩ => hG ρ2 σ' G2 H' (g1.unbase g2) g2.ext trivial trivial) (fun i x σ2 H2 H3 hi ⟨ρ2, G2, g2, f2⟩ y => ?_) fun σ2 H2 ⟨ρ2, G2, g2, f2⟩ => ?_
      · obtain ⟨dx, G3, hx, n, t⟩ := hY i x ρ2 σ2 G2 H2 H3 hi (g1.unbase g2) g2.ext trivial trivial y
        rw [drop_at hx] at f2
        have d2 := d.rebase g1
        exact ⟨(G1, B.2), S, ρ2, G3, dx, _, g2.nst n, t, f2, fun ρ3 σ3 f3 g3 _ _ => ⟨(G1, B.2), S, ρ3, G3, _, g3, f3, ⟨fun ρ4 σ4 G4 H4 q4 g4 => ⟨ρ4, G4, g4, q4⟩, d2.rt, d2.nx, fun ρ4 σ4 G4 H4 q4 g4 => ⟨ρ4, G4, g4, q4⟩⟩⟩⟩
      · rw [List.drop_length] at f2
        exact d.nx ρ2 σ2 G2 H2 f2 (g1.unbase g2)⟩
end

/-! ### comprehensions -/
def clr : List Nat → Rho → Rho
  | [], ρ => ρ
  | v :: vs, ρ => (clr vs ρ).set v .un
def cmp (c : Cond) (bd : GF) (tt : BF) (elt : DF) (vs : List Nat) : List PyData → List PyData → Rho → (List PyData → Rho → Prop) → Prop
  | [], acc, ρ, Φ => c.ok ρ ∧ Φ acc ρ
  | x :: xs, acc, ρ, Φ => c.ok ρ ∧ bd x ρ fun ρ1 => tt ρ1 fun b ρ2 => brP b (elt ρ2 fun h ρ3 => datOf h ρ3 fun d ρ4 => cmp c bd tt elt vs xs (acc ++ [d]) (clr vs ρ4) Φ) (cmp c bd tt elt vs xs acc (clr vs ρ2) Φ)
def compF (it : IF) (bd : GF) (tt : BF) (elt : DF) (vs : List Nat) : DF := fun ρ Φ => it ρ fun c xs ρ1 => xs.length ≤ sizeLine ∧ cmp c bd tt elt vs xs [] (clr vs ρ1) fun ds ρ2 => Φ (.new ds) (clr vs ρ2)
def yesF : BF := fun ρ Φ => Φ true ρ
section
variable {K : PySem.W.Frag} {B : Hp × Hp} {S : Sr} {ρ ρ' ρ1 ρ2 : Rho} {σ σ' : St} {G H G' H' G1 H1 G2 H2 : Hp}
theorem clr_len : ∀ (vs : List Nat) (ρ : Rho), (clr vs ρ).length = ρ.length
  | [], _ => rfl
  | v :: vs, ρ => by unfold clr; rw [List.length_set, clr_len vs ρ]
theorem clr_get : ∀ {vs : List Nat} {ρ : Rho} {i : Nat} {x : Slot}, (clr vs ρ)[i]? = some x → x = .un ∨ (ρ[i]? = some x ∧ i ∉ vs)
  | [], _, _, _, h => .inr ⟨h, by simp⟩
  | v :: vs, ρ, i, x, h => by
    unfold clr at h
    rcases set_get h with ⟨_, z⟩ | ⟨ne, z⟩
    · exact .inl z
    · rcases clr_get z with z | ⟨z, y⟩
      · exact .inl z
      · exact .inr ⟨z, by simp only [List.mem_cons, not_or]; exact ⟨fun e => ne e.symm, y⟩⟩
theorem Good.toBlk (g : Good K B S ρ σ G H) (vs : List Nat) : Good K B S (clr vs ρ) (wipe σ vs) G H := by
  have own : ∀ {i : Nat} {ds : List PyData}, (clr vs ρ)[i]? = some (Slot.ow ds) → ρ[i]? = some (Slot.ow ds) ∧ (wipe σ vs)[i]? = σ[i]? := fun {i ds} h => by
    rcases clr_get h with z | ⟨z, y⟩
    · cases z
    · exact ⟨z, wipe_out y⟩
  refine ⟨g.ing, g.reg, g.ext, g.out, g.pre, by rw [clr_len, wipe_length]; exact g.len, fun i x e => ?_, fun i j ds es a e1 e2 e3 e4 => ?_⟩
  · rcases clr_get e with z | ⟨z, y⟩
    · subst z; trivial
    · rw [wipe_out y]; exact g.sl i x z
  · obtain ⟨z1, y1⟩ := own e1
    obtain ⟨z2, y2⟩ := own e2
    rw [y1] at e3
    rw [y2] at e4
    exact g.sep i j ds es a z1 z2 e3 e4
theorem own_clr {vs : List Nat} {a : Addr} (h : Own (clr vs ρ) (wipe σ vs) a) : ∃ i ds, i ∉ vs ∧ ρ[i]? = some (.ow ds) ∧ σ[i]? = some (some (.ref a)) := by
  obtain ⟨i, ds, e1, e2⟩ := h
  rcases clr_get e1 with z | ⟨z, y⟩
  · cases z
  · exact ⟨i, ds, y, z, by rw [← wipe_out y]; exact e2⟩
/-- what stays, but for the addresses of O -/
structure Ste (O : Addr → Prop) (S : Sr) (G H G' H' : Hp) : Prop where
  ext : Same G G'
  out : ∀ a, G a = none → H a ≠ none → ¬InS S a → ¬O a → G' a = none
  pre : ∀ a o, ¬InS S a → ¬O a → H a = some o → H' a = some o
  kp : ∀ a, H a ≠ none → H' a ≠ none
theorem Ste.trans {O : Addr → Prop} (a : Ste O S G H G1 H1) (b : Ste O S G1 H1 G2 H2) : Ste O S G H G2 H2 :=
  ⟨a.ext.trans b.ext, fun x h1 h2 h3 h4 => b.out x (a.out x h1 h2 h3 h4) (a.kp x h2) h3 h4, fun x o h1 h2 h => b.pre x o h1 h2 (a.pre x o h1 h2 h), fun x h => b.kp x (a.kp x h)⟩
theorem Nst.ste {O : Addr → Prop} (n : Nst G H G' H') : Ste O S G H G' H' := ⟨n.ext, fun a h1 h2 _ _ => n.out a h1 h2, fun a o _ _ h => n.hxt a o h, fun a h => by
  cases e : H a with
  | none => exact absurd e h
  | some o => rw [n.hxt a o e]; exact fun z => nomatch z⟩
theorem Stp.ste {O : Addr → Prop} (s : Stp S σ ρ G H ρ' G' H') (h : ∀ a, Own ρ σ a → O a) : Ste O S G H G' H' :=
  ⟨s.ext, fun a h1 h2 h3 h4 => s.out a h1 h2 h3 fun z => h4 (h a z), fun a o h1 h2 q => s.pre a o h1 (fun z => h2 (h a z)) q, s.kp⟩
/-- a list that no slot knows changes -/
theorem Good.mut (g : Good K B S ρ σ G H) {D : Addr} {o : HO} (hg : G D = none) (hb : B.2 D = none) (hs : ¬InS S D) (ho : ¬Own ρ σ D) : Good K B S ρ σ G (upd H D o) := by
  refine ⟨fun a x e => by rw [upd_ne (fun z => by subst z; rw [hg] at e; cases e)]; exact g.ing a x e, fun p e => ?_, g.ext, g.out, fun a x h1 h2 => by rw [upd_ne (fun z => by subst z; rw [hb] at h2; cases h2)]; exact g.pre a x h1 h2, g.len, fun i x e => ?_, g.sep⟩
  · obtain ⟨h1, h2, h3, cs, l, m, t, h4, h5, h6⟩ := g.reg p e
    exact ⟨h1, h2, h3, cs, l, m, t, by rw [upd_ne (fun z => hs ⟨p, e, .inl z.symm⟩)]; exact h4, by rw [upd_ne (fun z => hs ⟨p, e, .inr z.symm⟩)]; exact h5, h6⟩
  · have q := g.sl i x e
    cases x with
    | un => trivial
    | da d => exact q
    | ow ds =>
      obtain ⟨a, vs, e1, h1, h2⟩ := q
      exact ⟨a, vs, e1, by rw [upd_ne (fun z => by subst z; exact ho ⟨i, ds, e, e1⟩)]; exact h1, h2⟩
    | bo ds =>
      obtain ⟨a, vs, e1, h0, h1, h2⟩ := q
      exact ⟨a, vs, e1, h0, by rw [upd_ne (fun z => by subst z; rw [hb] at h0; cases h0)]; exact h1, h2⟩
    | sr n r =>
      obtain ⟨p, e1, e2, h⟩ := q
      exact ⟨p, e1, e2, h.same (upd_ne fun z => hs ⟨p, e1, .inl z.symm⟩)⟩
/-- the block's end: its own names are let go -/
theorem Good.offBlk {vs : List Nat} (g1 : Good K B S ρ1 σ G1 H1) (g : Good K B S ρ (wipe σ vs) G H) (hO : ∀ a, Own ρ (wipe σ vs) a → Own (clr vs ρ1) (wipe σ vs) a) : Good K B S (clr vs ρ) σ G H ∧ ∀ a, Own (clr vs ρ) σ a → Own ρ1 σ a := by
  have own : ∀ {i : Nat} {ds : List PyData}, (clr vs ρ)[i]? = some (Slot.ow ds) → ρ[i]? = some (Slot.ow ds) ∧ (wipe σ vs)[i]? = σ[i]? := fun {i ds} h => by
    rcases clr_get h with z | ⟨z, y⟩
    · cases z
    · exact ⟨z, wipe_out y⟩
  refine ⟨⟨g.ing, g.reg, g.ext, g.out, g.pre, by rw [clr_len, g.len, wipe_length], fun i x e => ?_, fun i j ds es a e1 e2 e3 e4 => ?_⟩, fun a ⟨i, ds, e1, e2⟩ => ?_⟩
  · rcases clr_get e with z | ⟨z, y⟩
    · subst z; trivial
    · have := g.sl i x z
      rwa [wipe_out y] at this
  · obtain ⟨z1, y1⟩ := own e1
    obtain ⟨z2, y2⟩ := own e2
    exact g.sep i j ds es a z1 z2 (by rw [y1]; exact e3) (by rw [y2]; exact e4)
  · obtain ⟨z1, y1⟩ := own e1
    obtain ⟨j, es, _, y2, y3⟩ := own_clr (hO a ⟨i, ds, z1, by rw [y1]; exact e2⟩)
    exact ⟨j, es, y2, y3⟩
theorem wipe_wipe : ∀ (vs : List Nat) (σ : St), (∀ i ∈ vs, ∀ x, (wipe σ vs)[i]? = some x → x = none)
  | [], _, i, hi, _, _ => by simp at hi
  | v :: vs, σ, i, hi, x, h => by
    unfold L2.wipe at h
    by_cases e : v = i
    · subst e
      by_cases hv : v < (L2.wipe σ vs).length
      · rw [List.getElem?_set_self hv] at h; exact (Option.some.inj h).symm
      · rw [List.getElem?_eq_none (by simpa using hv)] at h; cases h
    · rw [List.getElem?_set_ne e] at h
      rcases List.mem_cons.mp hi with z | z
      · exact absurd z.symm e
      · exact wipe_wipe vs σ i z x h
theorem wipe_eq {vs : List Nat} {σ : St} (h : ∀ i ∈ vs, ∀ x, σ[i]? = some x → x = none) : wipe σ vs = σ := by
  induction vs with
  | nil => rfl
  | cons v vs ih =>
    unfold L2.wipe
    rw [ih fun i hi => h i (List.mem_cons_of_mem _ hi)]
    apply List.ext_getElem?
    intro i
    by_cases e : v = i
    · subst e
      by_cases hv : v < σ.length
      · rw [List.getElem?_set_self hv]
        cases q : σ[v]? with
        | none => rw [List.getElem?_eq_none_iff] at q; omega
        | some x => rw [h v (List.mem_cons_self ..) x q]
      · rw [List.getElem?_eq_none (by simpa using hv), List.getElem?_eq_none (by simpa using hv)]
    · rw [List.getElem?_set_ne e]
theorem wipe_twice (σ : St) (vs : List Nat) : wipe (wipe σ vs) vs = wipe σ vs := wipe_eq (wipe_wipe vs σ)
theorem r_lc {js vs : List Nat} {it : IF} {bd : GF} {tt : BF} {elt : DF} (hjs : ∀ j ∈ js, j ∈ vs) (σ : St) (H : Hp) (Q : VK) (h : dE K (compF it bd tt elt vs) σ H Q) : tLc (dI K it) (dG K js bd) (dT K tt) (dD K fun ρ Φ => elt ρ fun h ρ1 => datOf h ρ1 Φ) vs σ H Q := by
  obtain ⟨B, S, ρ, G, Φ, g, q, k⟩ := h
  refine ⟨B, S, ρ, G, _, g, q, fun c xs ρ1 G1 H1 J ⟨hz, f1⟩ g1 s1 ⟨GW, Y, w, hG, hY⟩ D hD => ?_⟩
  obtain ⟨fb, fs, fo⟩ := g1.fresh2 hD
  have gw := g1.toBlk vs
  have hO1 : ¬Own (clr vs ρ1) (wipe σ vs) D := fun z => by
    obtain ⟨j, es, _, y2, y3⟩ := own_clr z
    exact fo ⟨j, es, y2, y3⟩
  have atw : ∀ {ρ2 : Rho} {G2 H2 : Hp}, Good K B S ρ2 (wipe σ vs) G2 H2 → c.ok ρ2 → c.at σ (wipe σ vs) := fun {ρ2 G2 H2} g2 ok => by
    cases c with
    | free => trivial
    | own i ds =>
      intro a ha
      exact (wipe_some ha).1
  refine lc_it w (fun i H => ∃ ρ G acc av, Good K B S ρ (wipe σ vs) G H ∧ Ste (Own (clr vs ρ1) (wipe σ vs)) S G1 H1 G H ∧ (∀ a, Own ρ (wipe σ vs) a → Own (clr vs ρ1) (wipe σ vs) a) ∧ H D = some (.lst av) ∧ DtAll K G av acc ∧ G D = none ∧ acc.length ≤ i ∧ i ≤ xs.length ∧ cmp c bd tt elt vs (xs.drop i) acc ρ fun ds ρ2 => Φ (.new ds) (clr vs ρ2))
    ⟨clr vs ρ1, G1, [], [], ?_, (Nst.lay g1.ing hD).ste, fun _ h => h, upd_same, .nil, g1.ing.free hD, Nat.le_refl _, Nat.zero_le _, by simpa using f1⟩ (fun i H2 hi ⟨ρ2, G2, acc, av, g2, s2, o2, d2, t2, n2, l2, _, f2⟩ => ?_) (fun i x H2 H3 hi ⟨ρ2, G2, acc, av, g2, s2, o2, d2, t2, n2, l2, _, f2⟩ y => ?_) fun H2 ⟨ρ2, G2, acc, av, g2, s2, o2, d2, t2, n2, l2, _, f2⟩ => ?_
  · exact gw.nst (Nst.lay g1.ing hD)
  · have ok : c.ok ρ2 := by
      cases hx : xs.drop i with
      | nil => rw [hx] at f2; exact f2.1
      | cons a b => rw [hx] at f2; exact f2.1
    exact hG ρ2 _ G2 H2 g2 s2.ext ok (atw g2 ok)
  · have ok : c.ok ρ2 := by
      cases hx : xs.drop i with
      | nil => rw [hx] at f2; exact f2.1
      | cons a b => rw [hx] at f2; exact f2.1
    obtain ⟨dx, G3, hx, n3, t3⟩ := hY i x ρ2 _ G2 H2 H3 hi g2 s2.ext ok (atw g2 ok) y
    rw [drop_at hx] at f2
    obtain ⟨_, f2⟩ := f2
    have hDn : H2 D ≠ none := by rw [d2]; exact fun z => nomatch z
    have s3 : Ste (Own (clr vs ρ1) (wipe σ vs)) S G1 H1 G3 H3 := s2.trans n3.ste
    have d3 : H3 D = some (.lst av) := n3.hxt D _ d2
    have nD3 : G3 D = none := n3.out D n2 hDn
    refine ⟨B, S, ρ2, G3, dx, _, g2.nst n3, t3, f2, fun ρ3 σ3 f3 g3 w3 o3 => ?_⟩
    have hw3 : wipe σ3 vs = wipe σ vs := (w3 vs hjs).trans (wipe_twice σ vs)
    refine ⟨hw3, B, S, ρ3, G3, _, g3, f3, fun b ρ4 G4 H4 f4 g4 s4 => ?_⟩
    have o3' : ∀ a, Own ρ3 σ3 a → Own (clr vs ρ1) (wipe σ vs) a := fun a z => o2 a (o3 a z)
    have s4' : Ste (Own (clr vs ρ1) (wipe σ vs)) S G1 H1 G4 H4 := s3.trans (s4.ste o3')
    have d4 : H4 D = some (.lst av) := s4.pre D _ fs (fun z => hO1 (o3' D z)) d3
    have nD4 : G4 D = none := s4.out D nD3 (by rw [d3]; exact fun z => nomatch z) fs fun z => hO1 (o3' D z)
    have t4 := DtAll.mono (n3.ext.trans s4.ext) acc t2
    have back : ∀ {ρ5 : Rho} {G5 H5 : Hp}, Good K B S ρ5 σ3 G5 H5 → (∀ a, Own ρ5 σ3 a → Own ρ3 σ3 a) → ∀ a, Own (clr vs ρ5) (wipe σ vs) a → Own (clr vs ρ1) (wipe σ vs) a := fun {ρ5 G5 H5} g5 h5 a z => by
      rw [← hw3] at z
      obtain ⟨j, es, _, y2, y3⟩ := own_clr z
      exact o3' a (h5 a ⟨j, es, y2, y3⟩)
    cases b with
    | false =>
      show ∃ ρ G acc av, _
      have f4' : cmp c bd tt elt vs (xs.drop (i + 1)) acc (clr vs ρ4) fun ds ρ2 => Φ (.new ds) (clr vs ρ2) := f4.2 rfl
      refine ⟨clr vs ρ4, G4, acc, av, ?_, s4', back g4 s4.sub, d4, t4, nD4, by omega, hi, f4'⟩
      rw [← hw3]; exact g4.toBlk vs
    | true =>
      show dD K _ σ3 H4 _
      refine ⟨B, S, ρ4, G4, _, g4, f4.1 rfl, fun d v ρ5 G5 H5 f5 g5 s5 t5 => ?_⟩
      have o4' : ∀ a, Own ρ4 σ3 a → Own (clr vs ρ1) (wipe σ vs) a := fun a z => o3' a (s4.sub a z)
      have s5' := s4'.trans (s5.ste o4')
      have d5 : H5 D = some (.lst av) := s5.pre D _ fs (fun z => hO1 (o4' D z)) d4
      have nD5 : G5 D = none := s5.out D nD4 (by rw [d4]; exact fun z => nomatch z) fs fun z => hO1 (o4' D z)
      have hl := t2.length
      have sub5 : ∀ a, Own ρ5 σ3 a → Own ρ3 σ3 a := fun a z => s4.sub a (s5.sub a z)
      have bk5 := back g5 sub5
      refine ⟨av, d5, by omega, clr vs ρ5, G5, acc ++ [d], av ++ [v], ?_, ⟨s5'.ext, s5'.out, fun a o h1 h2 h => ?_, fun a h => ?_⟩, bk5, upd_same, (DtAll.mono s5.ext acc t4).append (.one t5), nD5, by simp; omega, hi, f5⟩
      · have := g5.toBlk vs
        rw [hw3] at this
        exact this.mut nD5 fb fs fun z => hO1 (bk5 D z)
      · rw [upd_ne (fun z => by subst z; rw [hD] at h; cases h)]; exact s5'.pre a o h1 h2 h
      · by_cases e : a = D
        · subst e; rw [upd_same]; exact fun z => nomatch z
        · rw [upd_ne e]; exact s5'.kp a h
  · rw [List.drop_length] at f2
    obtain ⟨ok, f2⟩ := f2
    obtain ⟨g3, o3⟩ := g1.offBlk g2 o2
    have st : Stp S σ ρ1 G1 H1 (clr vs ρ2) G2 H2 := ⟨s2.ext, fun a h1 h2 h3 h4 => s2.out a h1 h2 h3 fun z => by
        obtain ⟨j, es, _, y2, y3⟩ := own_clr z
        exact h4 ⟨j, es, y2, y3⟩, fun a o h1 h2 h => s2.pre a o h1 (fun z => by
        obtain ⟨j, es, _, y2, y3⟩ := own_clr z
        exact h2 ⟨j, es, y2, y3⟩) h, o3, fun a h => g3.reg.g h, s2.kp⟩
    refine k _ _ _ G2 H2 f2 g3 (s1.trans st) ⟨D, av, rfl, d2, t2, n2, fb, fs, fun z => fo (o3 D z)⟩ fun a z => ?_
    cases z
    cases q : H D with
    | none => rfl
    | some o => exact absurd hD (s1.kp D (by rw [q]; exact fun z => nomatch z))
end
section
variable {X : Cx} {tg e iter elt : Expr} {ifs : List Expr} {pos p : Pos} {it : IF} {bd : GF} {tt : BF} {f : DF} {js : List Nat} {scope : Scope} {own : List (Str × Nat)}
theorem dts_nil : PTs X [] (dT X.K yesF) := PTsw pts_nil fun σ H Q ⟨B, S, ρ, G, Φ, g, q, k⟩ => k true ρ G H q g (.refl g)
theorem dts_one {c : Expr} {F : BF} (h : PT X c (dT X.K F)) : PTs X [c] (dT X.K F) := pts_one h
theorem de_lc (hc : X.calm = true) (hN : X.N.Nodup) (hi : PI X tg iter (dI X.K it)) (ok : blkC X.N X.env.scope scope own = true)
    (hg : ∀ (s : Shared) (H : Hp) (C : Addr) (cl : List (Str × Addr)) (fp : List Addr), PG (X.blk s H scope (compEnvC scope cl C X.env) fp) tg (dG X.K js bd)) (ht : ∀ (s : Shared) (H : Hp) (C : Addr) (cl : List (Str × Addr)) (fp : List Addr), PTs (X.blk s H scope (compEnvC scope cl C X.env) fp) ifs (dT X.K tt))
    (he : ∀ (s : Shared) (H : Hp) (C : Addr) (cl : List (Str × Addr)) (fp : List Addr), PE (X.blk s H scope (compEnvC scope cl C X.env) fp) elt (dE X.K f)) (hjs : ∀ j ∈ js, j ∈ own.map (·.2)) (hs : ∀ x, foldedSetIterable iter X.env x = pure x := by intro _; rfl) :
    PE X (.ListComp elt [⟨tg, iter, ifs, 0⟩] scope pos) (dE X.K (compF it bd tt f (own.map (·.2)))) :=
  PEw (pe_lc hc hN hi (blkOk_by ok) hg ht (fun s H C cl fp => de_data (he s H C cl fp)) hs) (r_lc hjs)
/-- y = [..] on one row, kept as data or as one's own -/
theorem ds_setLc (i : Nat) {y : Str} {py : Pos} {spos : Pos} (hc : X.calm = true) (hN : X.N.Nodup) (hi : PI X tg iter (dI X.K it)) (ok : blkC X.N X.env.scope scope own = true)
    (hg : ∀ (s : Shared) (H : Hp) (C : Addr) (cl : List (Str × Addr)) (fp : List Addr), PG (X.blk s H scope (compEnvC scope cl C X.env) fp) tg (dG X.K js bd)) (ht : ∀ (s : Shared) (H : Hp) (C : Addr) (cl : List (Str × Addr)) (fp : List Addr), PTs (X.blk s H scope (compEnvC scope cl C X.env) fp) ifs (dT X.K tt))
    (he : ∀ (s : Shared) (H : Hp) (C : Addr) (cl : List (Str × Addr)) (fp : List Addr), PE (X.blk s H scope (compEnvC scope cl C X.env) fp) elt (dE X.K f)) (hjs : ∀ j ∈ js, j ∈ own.map (·.2))
    (hsw : swapsWith (.ListComp elt [⟨tg, iter, ifs, 0⟩] scope pos) (some (.Name y py)) spos.line X.env = pure true) (hy : X.N[i]? = some y := by rfl) (hyl : X.env.scope.names.lookup y = some .local := by rfl) (hs : ∀ x, foldedSetIterable iter X.env x = pure x := by intro _; rfl) :
    PS X (.Assign [.Name y py] (.ListComp elt [⟨tg, iter, ifs, 0⟩] scope pos) spos) (dS X.K (setF i (compF it bd tt f (own.map (·.2))))) :=
  PSw (ps_setLc hc hN hy hyl hsw hi (blkOk_by ok) hg ht (fun s H C cl fp => de_data (he s H C cl fp)) hs) (r_set (r_lc hjs))
theorem ds_ownLc (i : Nat) {y : Str} {py : Pos} {spos : Pos} (hc : X.calm = true) (hN : X.N.Nodup) (hi : PI X tg iter (dI X.K it)) (ok : blkC X.N X.env.scope scope own = true)
    (hg : ∀ (s : Shared) (H : Hp) (C : Addr) (cl : List (Str × Addr)) (fp : List Addr), PG (X.blk s H scope (compEnvC scope cl C X.env) fp) tg (dG X.K js bd)) (ht : ∀ (s : Shared) (H : Hp) (C : Addr) (cl : List (Str × Addr)) (fp : List Addr), PTs (X.blk s H scope (compEnvC scope cl C X.env) fp) ifs (dT X.K tt))
    (he : ∀ (s : Shared) (H : Hp) (C : Addr) (cl : List (Str × Addr)) (fp : List Addr), PE (X.blk s H scope (compEnvC scope cl C X.env) fp) elt (dE X.K f)) (hjs : ∀ j ∈ js, j ∈ own.map (·.2))
    (hsw : swapsWith (.ListComp elt [⟨tg, iter, ifs, 0⟩] scope pos) (some (.Name y py)) spos.line X.env = pure true) (hy : X.N[i]? = some y := by rfl) (hyl : X.env.scope.names.lookup y = some .local := by rfl) (hs : ∀ x, foldedSetIterable iter X.env x = pure x := by intro _; rfl) :
    PS X (.Assign [.Name y py] (.ListComp elt [⟨tg, iter, ifs, 0⟩] scope pos) spos) (dS X.K (ownF i (compF it bd tt f (own.map (·.2))))) :=
  PSw (ps_setLc hc hN hy hyl hsw hi (blkOk_by ok) hg ht (fun s H C cl fp => de_data (he s H C cl fp)) hs) (r_own (r_lc hjs))
end
end Dat


set_option Elab.async false
set_option linter.all false
set_option maxRecDepth 100000
set_option maxHeartbeats 4000000
/-! DatE: defs by contract, lists of one's own. -/
namespace Dat
open PySem L2

/-! ### defs -/
def ArgOk (K : PySem.W.Frag) (S : Sr) (G H : Hp) (v : V) : Slot → Prop
  | .un => True
  | .da d => Dt K G v d
  | .ow _ => False
  | .bo ds => ∃ a vs, v = .ref a ∧ H a = some (.lst vs) ∧ DtAll K G vs ds ∧ G a = none ∧ ¬InS S a
  | .sr n r => ∃ p, S = some p ∧ v = .ref p.1 ∧ Trn H p n r
def ArgsOk (K : PySem.W.Frag) (S : Sr) (G H : Hp) : List V → Rho → Prop
  | [], [] => True
  | v :: vs, x :: xs => ArgOk K S G H v x ∧ ArgsOk K S G H vs xs
  | _, _ => False
/-- what a call leaves -/
structure Cst (S : Sr) (G H G' H' : Hp) : Prop where
  ing : Same G' H'
  reg : Reg S G' H'
  ext : Same G G'
  out : ∀ a, G a = none → H a ≠ none → G' a = none
  pre : ∀ a o, ¬InS S a → H a = some o → H' a = some o
abbrev CF := Rho → (PyData → Prop) → Prop
def spD (K : PySem.W.Frag) (n : Nat) (C : CF) : Sp := fun vs H Q _ => vs.length = n ∧ ∃ S as G Φ, Same G H ∧ Reg S G H ∧ ArgsOk K S G H vs as ∧ C as Φ ∧ ∀ d v G' H', Φ d → Cst S G H G' H' → Dt K G' v d → Q v H'
section
variable {K : PySem.W.Frag} {B : Hp × Hp} {S : Sr} {ρ ρ' ρ1 ρ2 : Rho} {σ σ' : St} {G H G' H' G1 H1 G2 H2 : Hp}
theorem ArgsOk.len : ∀ {vs : List V} {as : Rho}, ArgsOk K S G H vs as → vs.length = as.length
  | [], [], _ => rfl
  | [], _ :: _, h => h.elim
  | _ :: _, [], h => h.elim
  | v :: vs, x :: xs, h => by simp [ArgsOk.len h.2]
theorem ArgsOk.get : ∀ {vs : List V} {as : Rho} {i : Nat} {x : Slot}, ArgsOk K S G H vs as → as[i]? = some x → ∃ v, vs[i]? = some v ∧ ArgOk K S G H v x
  | [], [], _, _, _, e => by simp at e
  | [], _ :: _, _, _, h, _ => h.elim
  | _ :: _, [], _, _, h, _ => h.elim
  | v :: vs, x :: xs, 0, _, h, e => by simp at e; subst e; exact ⟨v, rfl, h.1⟩
  | v :: vs, x :: xs, i + 1, _, h, e => by
    obtain ⟨u, h1, h2⟩ := ArgsOk.get (i := i) h.2 (by simpa using e)
    exact ⟨u, by simpa using h1, h2⟩
theorem Good.start {N : List Str} {vs : List V} {as : Rho} (e : Same G H) (r : Reg S G H) (h : ArgsOk K S G H vs as) (hn : vs.length ≤ N.length) : Good K (G, H) S (as ++ List.replicate (N.length - vs.length) .un) (L2.start N vs) G H := by
  have hl := h.len
  have noow : ∀ {i : Nat} {ds : List PyData}, (as ++ List.replicate (N.length - vs.length) Slot.un)[i]? = some (Slot.ow ds) → False := fun {i ds} q => by
    by_cases hi : i < as.length
    · rw [List.getElem?_append_left hi] at q
      obtain ⟨v, _, h2⟩ := h.get q
      exact h2
    · rw [List.getElem?_append_right (by omega)] at q
      rw [List.getElem?_replicate] at q
      split at q
      · cases q
      · cases q
  refine ⟨e, r, Same.refl G, fun _ h _ => h, fun _ _ _ h => h, ?_, fun i x q => ?_, fun i j ds es a q _ _ _ => (noow q).elim⟩
  · unfold L2.start; simp [hl]
  · by_cases hi : i < as.length
    · rw [List.getElem?_append_left hi] at q
      obtain ⟨v, h1, h2⟩ := h.get q
      have hv : (L2.start N vs)[i]? = some (some v) := by
        unfold L2.start
        rw [List.getElem?_append_left (by rw [List.length_map]; omega), List.getElem?_map, h1]; rfl
      rw [hv]
      cases x with
      | un => trivial
      | da d => exact ⟨v, rfl, h2⟩
      | ow ds => exact h2.elim
      | bo ds => obtain ⟨a, us, rfl, h3, h4, h5, h6⟩ := h2; exact ⟨a, us, rfl, h3, h3, h4, h5, h6⟩
      | sr n r => obtain ⟨p, h3, rfl, h4⟩ := h2; exact ⟨p, h3, rfl, h4⟩
    · rw [List.getElem?_append_right (by omega), List.getElem?_replicate] at q
      split at q
      · cases q; trivial
      · cases q
theorem Good.cst (g : Good K (G, H) S ρ σ G' H') : Cst S G H G' H' := ⟨g.ing, g.reg, g.ext, g.out, g.pre⟩
/-- another limit -/
def lim (S : Sr) (L : Nat) : Sr := S.map fun p => (p.1, p.2.1, L)
theorem inS_lim {L : Nat} {a : Addr} : InS (lim S L) a ↔ InS S a := by
  cases S with
  | none => exact ⟨fun ⟨_, e, _⟩ => (nomatch e), fun ⟨_, e, _⟩ => (nomatch e)⟩
  | some p => exact ⟨fun ⟨_, e, h⟩ => by cases e; exact ⟨p, rfl, h⟩, fun ⟨_, e, h⟩ => by cases e; exact ⟨_, rfl, h⟩⟩
def sbump (q : Nat) : Slot → Slot
  | .sr n r => .sr (n + q) (r - q)
  | x => x
def bump (q : Nat) (ρ : Rho) : Rho := ρ.map (sbump q)
theorem bump0 (ρ : Rho) : bump 0 ρ = ρ := by
  unfold bump
  conv => rhs; rw [← List.map_id ρ]
  refine List.map_congr_left fun x _ => ?_
  cases x <;> rfl
theorem bump_get {q : Nat} {i : Nat} {x : Slot} (h : (bump q ρ)[i]? = some x) : ∃ y, ρ[i]? = some y ∧ x = sbump q y := by
  unfold bump at h
  rw [List.getElem?_map] at h
  obtain ⟨y, e1, e2⟩ := Option.map_eq_some_iff.mp h
  exact ⟨y, e1, e2.symm⟩
theorem bump_ow {q : Nat} {i : Nat} {ds : List PyData} (h : (bump q ρ)[i]? = some (.ow ds)) : ρ[i]? = some (.ow ds) := by
  obtain ⟨y, e1, e2⟩ := bump_get h
  cases y <;> first | (cases e2; exact e1) | cases e2
/-- the turn as it stands -/
def TurnIs (S : Sr) (H : Hp) (t : Nat) : Prop := ∀ p, S = some p → (∃ c l m, H p.1 = some (srcDict c l m (t : Int))) ∧ t ≤ p.2.2
theorem Reg.turn (r : Reg S G H) : ∃ t, TurnIs S H t := by
  cases S with
  | none => exact ⟨0, fun _ e => nomatch e⟩
  | some p =>
    obtain ⟨_, _, _, cs, l, m, t, h1, _, _, h2, h3⟩ := r p rfl
    refine ⟨t.toNat, fun p' e => ?_⟩
    cases e
    exact ⟨⟨_, l, m, by rw [Int.toNat_of_nonneg h2]; exact h1⟩, by omega⟩
theorem Trn.val {p : Addr × Addr × Nat} {n r t : Nat} {c : Addr} {l m : Int} (h : Trn H p n r) (e : H p.1 = some (srcDict c l m (t : Int))) : t ≤ n ∧ t + r ≤ p.2.2 := by
  obtain ⟨c', l', m', t', h1, h2, h3⟩ := h
  rw [e] at h1
  have : (t : Int) = t' := by
    unfold srcDict at h1
    injection h1 with h1
    injection h1 with h1
    simp only [List.cons.injEq, Prod.mk.injEq, V.int.injEq, true_and, and_true] at h1
    exact h1.2.2.2
  subst this
  omega
theorem Reg.lim (r : Reg S G H) {t : Nat} (ht : TurnIs S H t) (q : Nat) : Reg (lim S (t + q)) G H := by
  intro p e
  cases S with
  | none => cases e
  | some p0 =>
    cases e
    obtain ⟨h1, h2, h3, cs, l, m, t', h4, h5, h6, h7, h8⟩ := r p0 rfl
    obtain ⟨⟨c2, l2, m2, h9⟩, _⟩ := ht p0 rfl
    have hT : Trn H (p0.1, p0.2.1, t'.toNat) t'.toNat 0 := ⟨_, l, m, t', h4, by omega, by show _ ≤ ((t'.toNat : Nat) : Int); omega⟩
    have := (hT.val h9).1
    exact ⟨h1, h2, h3, cs, l, m, t', h4, h5, h6, h7, by
      have h10 : Trn H (p0.1, p0.2.1, t) t 0 := ⟨_, l2, m2, t, h9, Int.le_refl _, by show _ ≤ ((t : Nat) : Int); omega⟩
      obtain ⟨_, _, _, t3, e3, e4, _⟩ := h10
      have : t3 = t' := by
        rw [h4] at e3
        unfold srcDict at e3
        injection e3 with e3
        injection e3 with e3
        simp only [List.cons.injEq, Prod.mk.injEq, V.int.injEq, true_and, and_true] at e3
        exact e3.2.2.2.symm
      subst this
      show t3 ≤ ((t + q : Nat) : Int)
      omega⟩
/-- behind a call -/
theorem Good.called (g : Good K B S ρ σ G H) {t q : Nat} (ht : TurnIs S H t) (hq : ∀ p, S = some p → t + q ≤ p.2.2) (c : Cst (lim S (t + q)) G H G' H') : Good K B S (bump q ρ) σ G' H' where
  ing := c.ing
  reg := fun p e => by
    subst e
    obtain ⟨h1, h2, h3, cs, l, m, t', h4, h5, h6, h7, h8⟩ := c.reg _ rfl
    exact ⟨h1, h2, h3, cs, l, m, t', h4, h5, h6, h7, Int.le_trans h8 (by have := hq p rfl; show ((t + q : Nat) : Int) ≤ _; omega)⟩
  ext := g.ext.trans c.ext
  out := fun a h1 h2 => by
    by_cases hs : InS S a
    · exact c.reg.g (inS_lim.mpr hs)
    · refine c.out a (g.out a h1 h2) ?_
      cases e : B.2 a with
      | none => exact absurd e h2
      | some o => rw [g.pre a o hs e]; exact fun z => nomatch z
  pre := fun a o h1 h2 => c.pre _ _ (fun z => h1 (inS_lim.mp z)) (g.pre a o h1 h2)
  len := by rw [bump, List.length_map]; exact g.len
  sl := fun i x e => by
    obtain ⟨y, e0, rfl⟩ := bump_get e
    have q0 := g.sl i y e0
    cases y with
    | un => trivial
    | da d => obtain ⟨u, e, h⟩ := q0; exact ⟨u, e, Dt.mono c.ext d h⟩
    | ow ds =>
      obtain ⟨a, vs, e1, h1, h2, h3, h4, h5⟩ := q0
      exact ⟨a, vs, e1, c.pre a _ (fun z => h5 (inS_lim.mp z)) h1, DtAll.mono c.ext ds h2, c.out a h3 (by rw [h1]; exact fun z => nomatch z), h4, h5⟩
    | bo ds =>
      obtain ⟨a, vs, e1, h0, h1, h2, h3, h5⟩ := q0
      exact ⟨a, vs, e1, h0, c.pre a _ (fun z => h5 (inS_lim.mp z)) h1, DtAll.mono c.ext ds h2, c.out a h3 (by rw [h1]; exact fun z => nomatch z), h5⟩
    | sr n r =>
      obtain ⟨p, e1, e2, h⟩ := q0
      subst e1
      obtain ⟨⟨c1, l1, m1, h1⟩, _⟩ := ht p rfl
      obtain ⟨h2, h3⟩ := h.val h1
      have h4 := hq p rfl
      obtain ⟨_, _, _, cs, l, m, t', k1, _, _, k2, k3⟩ := c.reg _ rfl
      have k3 : t' ≤ ((t + q : Nat) : Int) := k3
      exact ⟨p, rfl, e2, _, l, m, t', k1, by omega, by omega⟩
  sep := fun i j ds es a h1 h2 h3 h4 => g.sep i j ds es a (bump_ow h1) (bump_ow h2) h3 h4
theorem Cst.stp (g : Good K B S ρ σ G H) {L : Nat} (q : Nat) (c : Cst (lim S L) G H G' H') : Stp S σ ρ G H (bump q ρ) G' H' :=
  ⟨c.ext, fun a h1 h2 _ _ => c.out a h1 h2, fun a o h1 _ h => c.pre a o (fun z => h1 (inS_lim.mp z)) h, fun _ ⟨i, ds, h1, h2⟩ => ⟨i, ds, bump_ow h1, h2⟩, fun a h => c.reg.g (inS_lim.mpr h), fun a h => by
    by_cases hs : InS S a
    · exact c.reg.h (inS_lim.mpr hs)
    · cases e : H a with
      | none => exact absurd e h
      | some o => rw [c.pre a o (fun z => hs (inS_lim.mp z)) e]; exact fun z => nomatch z⟩
end
/-- THE RULE for a def: its body's reading, then plain -/
theorem okD {P : Program} {w : World} {K : PySem.W.Frag} {mg : Str → Option Value} {base : Heap} {x qual : Str} {st : Stmt} {f : Addr} {fd : FuncData} {N ps : List Str} {k n : Nat} {C : CF} {Fb : SF} (F : Fun K x qual st f fd) (S : FnScope N ps (defScope st)) (hn : ps.length = n) (hN : n ≤ N.length)
    (body : ∀ (cdv : Value) (A : Around) (outer : List PySem.Env) (s : Shared) (H : Hp) (E : XK), Room k (A.deeper (PyProof.Rows.envOfC qual (defScope st) s.heap.objs.size f cdv)) → PSs (cxOf CX0 P w K mg base N qual (defScope st) f cdv A outer s H E).nox (defBody st) (dS K Fb))
    (math : ∀ as Φ, as.length = n → C as Φ → Fb (as ++ List.replicate (N.length - n) .un) { nx := fun _ => Φ .none, rt := Φ }) : FnOk P w K mg base CX0 (k + 1) f fd ps (spD K n C) := by
  refine F.ok S (fun vs H Q E h => h.1.trans hn.symm) fun cdv A outer s H vs Q E hr h => ⟨_, body cdv A outer s H E hr, ?_⟩
  obtain ⟨hl, Sr, as, G, Φ, e, r, ha, c, k⟩ := h
  have g := Good.start (N := N) e r ha (by omega)
  have hl2 := ha.len
  have m := math as Φ (by omega) c
  rw [← hl] at m
  exact ⟨(G, H), Sr, _, G, _, g, m, ⟨fun ρ σ' G' H' q g' => k _ _ G' H' q g'.cst .non, fun d v ρ σ' G' H' q g' t => k d v G' H' q g'.cst t, fun _ _ _ _ q _ => q.elim, fun _ _ _ _ q _ => q.elim⟩⟩
theorem Cok.imp {P : Program} {w : World} {K : PySem.W.Frag} {mg : Str → Option Value} {base : Heap} {CX : CXT} {f : Addr} {fd : FuncData} {ps : List Str} {k n : Nat} {C C' : CF} (F : FnOk P w K mg base CX k f fd ps (spD K n C)) (h : ∀ as Φ, C' as Φ → C as Φ) : FnOk P w K mg base CX k f fd ps (spD K n C') :=
  F.imp (fun vs H Q E ⟨hl, S, as, G, Φ, a1, a2, a3, c, k⟩ => ⟨hl, S, as, G, Φ, a1, a2, a3, h as Φ c, k⟩)

/-! ### calls -/
def argP (b : Bool) (h : Hd) (ρ : Rho) (N : Hd → Rho → Prop) : Prop := match h with
  | .src i => N (.src i) ρ
  | .slot i => match ρ[i]? with
    | some (.bo _) => N (.slot i) ρ
    | some (.ow _) => if b = true then N (.slot i) ρ else datOf (.slot i) ρ fun d ρ' => N (.val d) ρ'
    | _ => datOf (.slot i) ρ fun d ρ' => N (.val d) ρ'
  | h => datOf h ρ fun d ρ' => N (.val d) ρ'
def resQ (o : Option Nat) (ρ : Rho) : Hd → Slot
  | .val d => .da d
  | .src i => match o, ρ[i]? with
    | some q, some (.sr n _) => .sr n q
    | _, _ => .un
  | .slot i => match ρ[i]? with
    | some (.ow ds) => .bo ds
    | some (.bo ds) => .bo ds
    | some (.da d) => .da d
    | _ => .un
  | .new _ => .un
abbrev resH : Rho → Hd → Slot := resQ none
def anilF : AF := fun ρ Φ => Φ [] ρ
def aconsF (b : Bool) (f : DF) (F : AF) : AF := fun ρ Φ => f ρ fun h ρ1 => argP b h ρ1 fun x ρ2 => F ρ2 fun hs ρ3 => Φ (x :: hs) ρ3
/-- the source first, with room for so many turns more -/
def srcIn (q : Nat) (ρ : Rho) (hs : List Hd) : Prop := match hs with
  | .src i :: _ => (match ρ[i]? with
    | some (.sr _ r) => q ≤ r
    | _ => False)
  | _ => False
def callFs (q : Nat) (C : CF) (F : AF) : DF := fun ρ Φ => F ρ fun hs ρ1 => srcIn q ρ1 hs ∧ C (hs.map (resQ (some q) ρ1)) fun d => Φ (.val d) (bump q ρ1)
def callF (C : CF) (F : AF) : DF := fun ρ Φ => F ρ fun hs ρ1 => C (hs.map (resH ρ1)) fun d => Φ (.val d) ρ1
section
variable {K : PySem.W.Frag} {B : Hp × Hp} {S : Sr} {ρ ρ' ρ1 ρ2 : Rho} {σ σ' : St} {G H G' H' G1 H1 G2 H2 : Hp}
theorem argP_ok {b : Bool} {Φ : Hd → Rho → Prop} (g : Good K B S ρ1 σ G1 H1) (s : Stp S σ ρ G H ρ1 G1 H1) {h : Hd} {v : V} (q : HdOk K B S ρ1 σ G1 H1 v h) (fr : Fresh H v h) (d : argP b h ρ1 Φ) :
    ∃ x ρ2 G2, Φ x ρ2 ∧ Good K B S ρ2 σ G2 H1 ∧ Stp S σ ρ G H ρ2 G2 H1 ∧ HdOk K B S ρ2 σ G2 H1 v x ∧ ∀ ds, x ≠ .new ds := by
  have dat : (datOf h ρ1 fun d ρ' => Φ (.val d) ρ') → ∃ x ρ2 G2, Φ x ρ2 ∧ Good K B S ρ2 σ G2 H1 ∧ Stp S σ ρ G H ρ2 G2 H1 ∧ HdOk K B S ρ2 σ G2 H1 v x ∧ ∀ ds, x ≠ .new ds := fun d => by
    obtain ⟨x, ρ2, G2, f2, g2, s2, t2⟩ := frz g s q fr d
    exact ⟨.val x, ρ2, G2, f2, g2, s2, t2, fun _ z => nomatch z⟩
  cases h with
  | val d' => exact dat d
  | new d' => exact dat d
  | src i => exact ⟨.src i, ρ1, G1, d, g, s, q, fun _ z => nomatch z⟩
  | slot i =>
    simp only [argP] at d
    split at d
    · exact ⟨.slot i, ρ1, G1, d, g, s, q, fun _ z => nomatch z⟩
    · split at d
      · exact ⟨.slot i, ρ1, G1, d, g, s, q, fun _ z => nomatch z⟩
      · exact dat d
    · exact dat d
theorem HsOk.mono (s : Stp S σ ρ G H ρ1 G1 H1) : ∀ {vs : List V} {hs : List Hd}, HsOk K B S ρ σ G H vs hs → HsOk K B S ρ1 σ G1 H1 vs hs
  | [], [], _ => trivial
  | v :: vs, h :: hs, ⟨a, b, c⟩ => ⟨a.mono s, b, HsOk.mono s c⟩
  | [], _ :: _, h => h.elim
  | _ :: _, [], h => h.elim
theorem HsOk.args (g : Good K B S ρ σ G H) {t q : Nat} (ht : TurnIs S H t) (o : Option Nat) (ho : ∀ q', o = some q' → q' = q) : ∀ {vs : List V} {hs : List Hd}, HsOk K B S ρ σ G H vs hs → ArgsOk K (lim S (t + q)) G H vs (hs.map (resQ o ρ))
  | [], [], _ => trivial
  | [], _ :: _, h => h.elim
  | _ :: _, [], h => h.elim
  | v :: vs, h :: hs, ⟨a, b, c⟩ => by
    refine ⟨?_, HsOk.args g ht o ho c⟩
    cases h with
    | val d => exact a
    | new d => exact trivial
    | src i =>
      obtain ⟨p, e1, e2⟩ := a
      subst e1
      simp only [resQ]
      split
      · rename_i q' n r e
        obtain ⟨p', k1, k2, k3⟩ := g.sl i _ e
        cases k1
        obtain ⟨⟨c1, l1, m1, h1⟩, _⟩ := ht p rfl
        obtain ⟨h2, _⟩ := k3.val h1
        have := ho q' rfl
        subst this
        exact ⟨_, rfl, e2, c1, l1, m1, t, h1, by omega, by show (t : Int) + (q' : Int) ≤ ((t + q' : Nat) : Int); omega⟩
      · trivial
    | slot i =>
      have a' : σ[i]? = some (some v) := a
      simp only [resQ]
      split
      · rename_i ds e
        obtain ⟨x, us, e1, h1, h2, h3, h4, h5⟩ := g.sl i _ e
        rw [a'] at e1; cases e1
        exact ⟨x, us, rfl, h1, h2, h3, fun z => h5 (inS_lim.mp z)⟩
      · rename_i ds e
        obtain ⟨x, us, e1, h0, h1, h2, h3, h5⟩ := g.sl i _ e
        rw [a'] at e1; cases e1
        exact ⟨x, us, rfl, h1, h2, h3, fun z => h5 (inS_lim.mp z)⟩
      · rename_i d e
        obtain ⟨u, e1, h1⟩ := g.sl i _ e
        rw [a'] at e1; cases e1
        exact h1
      · exact trivial
end
section
variable {X : Cx} {e : Expr} {es : List Expr} {pos p : Pos} {f : DF} {F : AF}
theorem da_nil : PA X [] (dA X.K anilF) := PAw pa_nil fun σ H Q ⟨B, S, ρ, G, Φ, g, q, k⟩ => k [] [] ρ G H q g (.refl g) trivial
def dG1 (K : PySem.W.Frag) (b : Bool) (f : DF) : TE := fun σ H Q => ∃ B S ρ G Φ, Good K B S ρ σ G H ∧ f ρ (fun h ρ1 => argP b h ρ1 Φ) ∧ ∀ h v ρ' G' H', Φ h ρ' → (∀ ds, h ≠ .new ds) → Good K B S ρ' σ G' H' → Stp S σ ρ G H ρ' G' H' → HdOk K B S ρ' σ G' H' v h → Q v H'
theorem da_cons (b : Bool) (he : PE X e (dE X.K f)) (hr : PA X es (dA X.K F)) (hs : starEach (e :: es) X.env = (false, eval e X.env) :: starEach es X.env := by rfl) : PA X (e :: es) (dA X.K (aconsF b f F)) := by
  have h1 : PE X e (dG1 X.K b f) := PEw he fun σ H Q ⟨B, S, ρ, G, Φ, g, q, k⟩ => ⟨B, S, ρ, G, _, g, q, fun h v ρ1 G1 H1 f1 g1 s1 o1 fr => by
    obtain ⟨x, ρ2, G2, f2, g2, s2, o2, n2⟩ := argP_ok g1 s1 o1 fr f1
    exact k x v ρ2 G2 H1 f2 n2 g2 s2 o2⟩
  exact PAw (pa_cons h1 hr hs) fun σ H Q ⟨B, S, ρ, G, Φ, g, q, k⟩ => ⟨B, S, ρ, G, _, g, q, fun h v ρ1 G1 H1 f1 n1 g1 s1 o1 => ⟨B, S, ρ1, G1, _, g1, f1, fun hs vs ρ2 G2 H2 f2 g2 s2 o2 =>
    k (h :: hs) (v :: vs) ρ2 G2 H2 f2 g2 (s1.trans s2) ⟨o1.mono s2, n1, o2⟩⟩⟩
theorem de_call {k n : Nat} {fa : Addr} {fd : FuncData} {ps : List Str} {x : Str} {C : CF} (G : FnOk X.prog X.w X.K X.mg X.base CX0 k fa fd ps (spD X.K n C)) (hr : Room k X.A) (hm : X.mg x = some (.ref fa)) (hk : PySem.W.keepIn X.K (.ref fa) = true) (hb : Binds X.K fd ps [])
    (hl : (e :: es).length = n) (ha : PA X (e :: es) (dA X.K F)) (hg : Gl X x := by rfl) (hdb : (x == ("__debug__" : Str)) = false := by decide) (he : starEach (e :: es) X.env = (false, eval e X.env) :: starEach es X.env := by rfl) (hpl : (backTo pos (starEach es X.env)).any (·.1) = false := by rfl) :
    PE X (.Call (.Name x p) (e :: es) [] pos) (dE X.K (callF (fun as Φ => as.length = n ∧ C as Φ) F)) :=
  PEw (pe_call G hr hg hm hk hb .nil pass0 ha hdb he hpl) fun σ H Q ⟨B, S, ρ, Gd, Φ, g, q, k⟩ => ⟨B, S, ρ, Gd, _, g, q, fun hs vs ρ1 G1 H1 f1 g1 s1 o1 => by
    obtain ⟨t, ht⟩ := g1.reg.turn
    have ao := o1.args (q := 0) g1 ht none (fun _ z => nomatch z)
    show spD X.K n C (vs ++ []) H1 Q E0
    rw [List.append_nil]
    refine ⟨ao.len.trans f1.1, _, _, G1, _, g1.ing, g1.reg.lim ht 0, ao, f1.2, fun d v G' H' fd c tv => ?_⟩
    have g2 := g1.called ht (fun p e => (ht p e).2) c
    have s2 := c.stp g1 0
    rw [bump0] at g2 s2
    exact k _ _ ρ1 G' H' fd g2 (s1.trans s2) tv trivial⟩
theorem de_callS {k n : Nat} (q0 : Nat) {fa : Addr} {fd : FuncData} {ps : List Str} {x : Str} {C : CF} (G : FnOk X.prog X.w X.K X.mg X.base CX0 k fa fd ps (spD X.K n C)) (hr : Room k X.A) (hm : X.mg x = some (.ref fa)) (hk : PySem.W.keepIn X.K (.ref fa) = true) (hb : Binds X.K fd ps [])
    (hl : (e :: es).length = n) (ha : PA X (e :: es) (dA X.K F)) (hg : Gl X x := by rfl) (hdb : (x == ("__debug__" : Str)) = false := by decide) (he : starEach (e :: es) X.env = (false, eval e X.env) :: starEach es X.env := by rfl) (hpl : (backTo pos (starEach es X.env)).any (·.1) = false := by rfl) :
    PE X (.Call (.Name x p) (e :: es) [] pos) (dE X.K (callFs q0 (fun as Φ => as.length = n ∧ C as Φ) F)) :=
  PEw (pe_call G hr hg hm hk hb .nil pass0 ha hdb he hpl) fun σ H Q ⟨B, S, ρ, Gd, Φ, g, q, k⟩ => ⟨B, S, ρ, Gd, _, g, q, fun hs vs ρ1 G1 H1 f1 g1 s1 o1 => by
    obtain ⟨f0, f1⟩ := f1
    obtain ⟨t, ht⟩ := g1.reg.turn
    have ao := o1.args (q := q0) g1 ht (some q0) (fun _ z => (Option.some.inj z).symm)
    have hq : ∀ p, S = some p → t + q0 ≤ p.2.2 := fun p e => by
      unfold srcIn at f0
      split at f0
      · rename_i i _
        split at f0
        · rename_i n r e1
          obtain ⟨p', k1, k2, k3⟩ := g1.sl i _ e1
          subst e
          cases k1
          obtain ⟨⟨c1, l1, m1, h1⟩, _⟩ := ht p rfl
          have := (k3.val h1).2
          omega
        · exact f0.elim
      · exact f0.elim
    show spD X.K n C (vs ++ []) H1 Q E0
    rw [List.append_nil]
    refine ⟨ao.len.trans f1.1, _, _, G1, _, g1.ing, g1.reg.lim ht q0, ao, f1.2, fun d v G' H' fd c tv => ?_⟩
    exact k _ _ _ G' H' fd (g1.called ht hq c) (s1.trans (c.stp g1 q0)) tv trivial⟩
end

/-! ### lists of one's own, changed -/
section
variable {K : PySem.W.Frag} {B : Hp × Hp} {S : Sr} {ρ ρ' ρ1 ρ2 : Rho} {σ σ' : St} {G H G' H' G1 H1 G2 H2 : Hp}
theorem Good.change (g : Good K B S ρ σ G H) {i : Nat} {ds es : List PyData} {a : Addr} {us : List V} (e : ρ[i]? = some (.ow ds)) (ev : σ[i]? = some (some (.ref a))) (t : DtAll K G us es) :
    Good K B S (ρ.set i (.ow es)) σ G (upd H a (.lst us)) ∧ Stp S σ ρ G H (ρ.set i (.ow es)) G (upd H a (.lst us)) := by
  obtain ⟨b, vs, e1, h1, h2, h3, h4, h5⟩ := g.sl i _ e
  rw [ev] at e1; cases e1
  have hi : i < ρ.length := (List.getElem?_eq_some_iff.mp e).1
  have g1 : Good K B S (ρ.set i .un) σ G H := g.slot trivial fun _ z => nomatch z
  have no : ¬Own (ρ.set i .un) σ a := by
    rintro ⟨j, fs, e3, e4⟩
    rcases set_get e3 with ⟨_, z⟩ | ⟨ne, e3'⟩
    · cases z
    · exact ne (g.sep i j ds fs a e e3' ev e4)
  have g2 := g1.mut (o := .lst us) h3 h4 h5 no
  have g3 : Good K B S (ρ.set i (.ow es)) σ G (upd H a (.lst us)) := by
    refine ⟨g2.ing, g2.reg, g2.ext, g2.out, g2.pre, by rw [List.length_set]; exact g.len, fun j x q => ?_, fun j k fs hs b q1 q2 q3 q4 => ?_⟩
    · rcases set_get q with ⟨rfl, rfl⟩ | ⟨ne, q'⟩
      · rw [ev]; exact ⟨a, us, rfl, upd_same, t, h3, h4, h5⟩
      · exact g2.sl j x (by rw [List.getElem?_set_ne ne]; exact q')
    · have own : ∀ {m : Nat} {fs : List PyData}, (ρ.set i (Slot.ow es))[m]? = some (Slot.ow fs) → ∃ fs', ρ[m]? = some (Slot.ow fs') := fun {m fs} q => by
        rcases set_get q with ⟨rfl, _⟩ | ⟨_, q'⟩
        · exact ⟨ds, e⟩
        · exact ⟨fs, q'⟩
      obtain ⟨f1, y1⟩ := own q1
      obtain ⟨f2, y2⟩ := own q2
      exact g.sep j k f1 f2 b y1 y2 q3 q4
  refine ⟨g3, Same.refl G, fun b h _ _ _ => h, fun b o q1 q2 q3 => ?_, fun b ⟨j, fs, q1, q2⟩ => ?_, fun b h => g.reg.g h, fun b h => ?_⟩
  · rw [upd_ne (fun z => by subst z; exact q2 ⟨i, ds, e, ev⟩)]; exact q3
  · rcases set_get q1 with ⟨rfl, _⟩ | ⟨_, q'⟩
    · exact ⟨i, ds, e, q2⟩
    · exact ⟨j, fs, q', q2⟩
  · by_cases z : b = a
    · subst z; rw [upd_same]; exact fun z => nomatch z
    · rw [upd_ne z]; exact h
end
def ownAt (ρ : Rho) (i : Nat) (N : List PyData → Prop) : Prop := match ρ[i]? with
  | some (.ow ds) => N ds
  | _ => False
theorem ownAt_ok {ρ : Rho} {i : Nat} {N : List PyData → Prop} (h : ownAt ρ i N) : ∃ ds, ρ[i]? = some (.ow ds) ∧ N ds := by
  unfold ownAt at h
  split at h
  · rename_i ds e; exact ⟨ds, e, h⟩
  · exact h.elim
/-- xs.append(e) -/
def appF (i : Nat) (f : DF) : SF := fun ρ k => ownAt ρ i fun _ => f ρ fun h ρ1 => datOf h ρ1 fun d ρ2 => ownAt ρ2 i fun ds => ds.length < sizeLine ∧ k.nx (ρ2.set i (.ow (ds ++ [d])))
def listP (d : PyData) (k : List PyData → Prop) : Prop := match d with
  | .list xs => k xs
  | _ => False
def extF (i : Nat) (f : DF) : SF := fun ρ k => ownAt ρ i fun _ => f ρ fun h ρ1 => rdP h ρ1 fun d => listP d fun es => ownAt ρ1 i fun ds => ds.length + es.length ≤ sizeLine ∧ k.nx (ρ1.set i (.ow (ds ++ es)))
/-- xs[j] = e -/
def putF (i : Nat) (f fj : DF) : SF := fun ρ k => f ρ fun h ρ1 => datOf h ρ1 fun d ρ2 => ownAt ρ2 i fun _ => fj ρ2 fun hj ρ3 => rdP hj ρ3 fun dj => match dj with
  | .int j => ownAt ρ3 i fun ds => ∃ m, ixN ds.length j = some m ∧ k.nx (ρ3.set i (.ow (ds.set m d)))
  | _ => False
def pop0F (i : Nat) : DF := fun ρ Φ => ownAt ρ i fun ds => ∃ d, ds[ds.length - 1]? = some d ∧ Φ (.val d) (ρ.set i (.ow ds.dropLast))
def popF (i : Nat) (f : DF) : DF := fun ρ Φ => ownAt ρ i fun _ => f ρ fun h ρ1 => rdP h ρ1 fun dj => match dj with
  | .int j => ownAt ρ1 i fun ds => (-(2 ^ 63) ≤ j ∧ j < 2 ^ 63) ∧ ∃ m d, seqIndex? j ds.length = some m ∧ ds[m]? = some d ∧ Φ (.val d) (ρ1.set i (.ow (ds.eraseIdx m)))
  | _ => False
section
variable {X : Cx} {e ej : Expr} {pos p apos cpos : Pos} {f fj : DF} {x : Str}
theorem rd_int {K : PySem.W.Frag} {G H : Hp} {v : V} {j : Int} (r : Rdb K G H v (.int j)) : v = .int j := by
  rcases r with h | ⟨ds, a, vs, e3, _⟩
  · cases h; rfl
  · cases e3
theorem ds_append (i : Nat) (he : PE X e (dE X.K f)) (hN : X.N[i]? = some x := by rfl) (hv : Vis X.env.scope x := by first | exact Or.inl rfl | exact Or.inr (Or.inl rfl) | exact Or.inr (Or.inr rfl)) (hd : (x == ("__debug__" : Str)) = false := by decide) (hcd : (x == ("__classdict__" : Str)) = false := by decide)
    (hbase : attributeBase (.Name x p) "append" X.env (eval (.Name x p) X.env) = eval (.Name x p) X.env := by rfl)
    (hfew : ((backTo cpos (starEach [e] X.env)).all (fun x => !x.1) && (backToKw cpos (keywordEach [] X.env)).all (fun x => x.1.isSome) && decide ([e].length + ([] : List Keyword).length + (if ([] : List Keyword).isEmpty then 0 else 1) < 30)) = true := by rfl)
    (hline : (apos.endLine == cpos.line) = true := by rfl) (hs : starEach [e] X.env = (false, eval e X.env) :: starEach [] X.env := by rfl) (hplain : (backTo cpos (starEach [] X.env)).any (·.1) = false := by rfl)
    (hsw : swapsWith (.Call (.Attribute (.Name x p) "append" apos) [e] [] cpos) none pos.line X.env = pure false := by rfl) :
    PS X (.Expr (.Call (.Attribute (.Name x p) "append" apos) [e] [] cpos) pos) (dS X.K (appF i f)) :=
  PSw (ps_expr (pe_bm PySem.F.plainAttrs_list PySem.F.slot_list_append PySem.F.type_list_append mt_append (pe_var hN hv hd hcd) (pa_cons (de_data he) pa_nil hs) hbase hfew hline hs hplain) hsw) fun D σ H ⟨B, S, ρ, G, k, g, q, d⟩ => by
    obtain ⟨ds, e0, q⟩ := ownAt_ok q
    obtain ⟨a, vs, e1, h1, h2, h3, h4, h5⟩ := g.sl i _ e0
    refine ⟨_, e1, .inl ⟨rfl, vs, .of h1⟩, B, S, ρ, G, _, g, q, fun y v ρ1 G1 H1 f1 g1 s1 t1 => ?_⟩
    obtain ⟨ds1, e2, hz, f2⟩ := ownAt_ok f1
    obtain ⟨a', vs1, e3, k1, k2, k3, k4, k5⟩ := g1.sl i _ e2
    rw [e1] at e3; cases e3
    exact ⟨a, vs1, v, rfl, rfl, k1, by rw [k2.length]; exact hz, d.nx _ σ G1 _ f2 (g1.change e2 e1 (k2.append (.one t1))).1⟩
theorem ds_extend (i : Nat) (he : PE X e (dE X.K f)) (hN : X.N[i]? = some x := by rfl) (hv : Vis X.env.scope x := by first | exact Or.inl rfl | exact Or.inr (Or.inl rfl) | exact Or.inr (Or.inr rfl)) (hd : (x == ("__debug__" : Str)) = false := by decide) (hcd : (x == ("__classdict__" : Str)) = false := by decide)
    (hbase : attributeBase (.Name x p) "extend" X.env (eval (.Name x p) X.env) = eval (.Name x p) X.env := by rfl)
    (hfew : ((backTo cpos (starEach [e] X.env)).all (fun x => !x.1) && (backToKw cpos (keywordEach [] X.env)).all (fun x => x.1.isSome) && decide ([e].length + ([] : List Keyword).length + (if ([] : List Keyword).isEmpty then 0 else 1) < 30)) = true := by rfl)
    (hline : (apos.endLine == cpos.line) = true := by rfl) (hs : starEach [e] X.env = (false, eval e X.env) :: starEach [] X.env := by rfl) (hplain : (backTo cpos (starEach [] X.env)).any (·.1) = false := by rfl)
    (hsw : swapsWith (.Call (.Attribute (.Name x p) "extend" apos) [e] [] cpos) none pos.line X.env = pure false := by rfl) :
    PS X (.Expr (.Call (.Attribute (.Name x p) "extend" apos) [e] [] cpos) pos) (dS X.K (extF i f)) :=
  PSw (ps_expr (pe_bm PySem.F.plainAttrs_list PySem.F.slot_list_extend PySem.F.type_list_extend mt_extend (pe_var hN hv hd hcd) (pa_cons he pa_nil hs) hbase hfew hline hs hplain) hsw) fun D σ H ⟨B, S, ρ, G, k, g, q, d⟩ => by
    obtain ⟨ds, e0, q⟩ := ownAt_ok q
    obtain ⟨a, vs, e1, h1, h2, h3, h4, h5⟩ := g.sl i _ e0
    refine ⟨_, e1, .inl ⟨rfl, vs, .of h1⟩, B, S, ρ, G, _, g, q, fun h v ρ1 G1 H1 f1 g1 s1 o1 fr => ?_⟩
    obtain ⟨dd, f2, r2⟩ := rd_of g1 o1 f1
    unfold listP at f2
    split at f2
    · obtain ⟨b, us, rfl, hb, t⟩ := r2.list g1.ing
      obtain ⟨ds1, e2, hz, f3⟩ := ownAt_ok f2
      obtain ⟨a', vs1, e3, k1, k2, k3, k4, k5⟩ := g1.sl i _ e2
      rw [e1] at e3; cases e3
      exact ⟨a, b, vs1, us, rfl, rfl, k1, hb, by rw [k2.length, t.length]; exact hz, d.nx _ σ G1 _ f3 (g1.change e2 e1 (k2.append t)).1⟩
    · exact f2.elim
theorem de_pop0 (i : Nat) (hN : X.N[i]? = some x := by rfl) (hv : Vis X.env.scope x := by first | exact Or.inl rfl | exact Or.inr (Or.inl rfl) | exact Or.inr (Or.inr rfl)) (hd : (x == ("__debug__" : Str)) = false := by decide) (hcd : (x == ("__classdict__" : Str)) = false := by decide)
    (hbase : attributeBase (.Name x p) "pop" X.env (eval (.Name x p) X.env) = eval (.Name x p) X.env := by rfl) (hline : (apos.endLine == cpos.line) = true := by rfl) :
    PE X (.Call (.Attribute (.Name x p) "pop" apos) [] [] cpos) (dE X.K (pop0F i)) :=
  PEw (pe_bm0 PySem.F.plainAttrs_list PySem.F.slot_list_pop PySem.F.type_list_pop mt_pop (pe_var hN hv hd hcd) hbase hline) fun σ H Q ⟨B, S, ρ, G, Φ, g, q, k⟩ => by
    obtain ⟨ds, e0, d, hd, q⟩ := ownAt_ok q
    obtain ⟨a, vs, e1, h1, h2, h3, h4, h5⟩ := g.sl i _ e0
    obtain ⟨y, hy, ty⟩ := h2.get hd
    obtain ⟨g2, s2⟩ := g.change e0 e1 h2.dropLast
    exact ⟨_, e1, .inl ⟨rfl, vs, .of h1⟩, a, vs, y, rfl, rfl, h1, by rw [h2.length]; exact hy, k _ _ _ G _ q g2 s2 ty trivial⟩
theorem de_pop (i : Nat) (he : PE X e (dE X.K f)) (hN : X.N[i]? = some x := by rfl) (hv : Vis X.env.scope x := by first | exact Or.inl rfl | exact Or.inr (Or.inl rfl) | exact Or.inr (Or.inr rfl)) (hd : (x == ("__debug__" : Str)) = false := by decide) (hcd : (x == ("__classdict__" : Str)) = false := by decide)
    (hbase : attributeBase (.Name x p) "pop" X.env (eval (.Name x p) X.env) = eval (.Name x p) X.env := by rfl)
    (hfew : ((backTo cpos (starEach [e] X.env)).all (fun x => !x.1) && (backToKw cpos (keywordEach [] X.env)).all (fun x => x.1.isSome) && decide ([e].length + ([] : List Keyword).length + (if ([] : List Keyword).isEmpty then 0 else 1) < 30)) = true := by rfl)
    (hline : (apos.endLine == cpos.line) = true := by rfl) (hs : starEach [e] X.env = (false, eval e X.env) :: starEach [] X.env := by rfl) (hplain : (backTo cpos (starEach [] X.env)).any (·.1) = false := by rfl) :
    PE X (.Call (.Attribute (.Name x p) "pop" apos) [e] [] cpos) (dE X.K (popF i f)) :=
  PEw (pe_bm PySem.F.plainAttrs_list PySem.F.slot_list_pop PySem.F.type_list_pop mt_popAt (pe_var hN hv hd hcd) (pa_cons he pa_nil hs) hbase hfew hline hs hplain) fun σ H Q ⟨B, S, ρ, G, Φ, g, q, k⟩ => by
    obtain ⟨ds, e0, q⟩ := ownAt_ok q
    obtain ⟨a, vs, e1, h1, h2, h3, h4, h5⟩ := g.sl i _ e0
    refine ⟨_, e1, .inl ⟨rfl, vs, .of h1⟩, B, S, ρ, G, _, g, q, fun h v ρ1 G1 H1 f1 g1 s1 o1 fr => ?_⟩
    obtain ⟨dj, f2, r2⟩ := rd_of g1 o1 f1
    split at f2
    · rename_i j
      have := rd_int r2
      subst this
      obtain ⟨ds1, e2, hj, m, d, hm, hd, f3⟩ := ownAt_ok f2
      obtain ⟨a', vs1, e3, k1, k2, k3, k4, k5⟩ := g1.sl i _ e2
      rw [e1] at e3; cases e3
      obtain ⟨y, hy, ty⟩ := k2.get hd
      obtain ⟨g2, s2⟩ := g1.change e2 e1 (k2.eraseIdx m)
      exact ⟨a, vs1, j, m, y, rfl, rfl, k1, hj.1, hj.2, by rw [k2.length]; exact hm, hy, k _ _ _ G1 _ f3 g2 (s1.trans s2) ty trivial⟩
    · exact f2.elim
/-- xs[j] = e -/
theorem ds_put (i : Nat) (he : PE X e (dE X.K f)) (hj : PE X ej (dE X.K fj)) (hN : X.N[i]? = some x := by rfl) (hv : Vis X.env.scope x := by first | exact Or.inl rfl | exact Or.inr (Or.inl rfl) | exact Or.inr (Or.inr rfl)) (hd : (x == ("__debug__" : Str)) = false := by decide) (hcd : (x == ("__classdict__" : Str)) = false := by decide)
    (ha : ∀ v, assign (.Subscript (.Name x p) ej cpos) X.env v = (do
      let ov ← holding [v] (eval (.Name x p) X.env)
      let iv ← holding [v, ov] (eval ej X.env)
      standAt cpos
      holding [v, ov, iv] (setItem ov iv v)
      release [v, ov, iv] []) := by intro _; rfl)
    (hs : swapsWithSole [.Subscript (.Name x p) ej cpos] e pos.line X.env = pure false := by rfl) (hw : swappedStores [.Subscript (.Name x p) ej cpos] e X.env = pure none := by rfl) (h1 : (assignEach [.Subscript (.Name x p) ej cpos] X.env).map (·.2) = [assign (.Subscript (.Name x p) ej cpos) X.env] := by rfl) :
    PS X (.Assign [.Subscript (.Name x p) ej cpos] e pos) (dS X.K (putF i f fj)) :=
  PSw (ps_asg (de_data he) (pg_sub (pe_var hN hv hd hcd) hj set_list ha) hs hw h1) fun D σ H ⟨B, S, ρ, G, k, g, q, d⟩ => ⟨B, S, ρ, G, _, g, q, fun y v ρ1 G1 H1 f1 g1 s1 t1 => by
    obtain ⟨ds, e0, q⟩ := ownAt_ok f1
    obtain ⟨a, vs, e1, h1, h2, h3, h4, h5⟩ := g1.sl i _ e0
    refine ⟨_, e1, B, S, ρ1, G1, _, g1, q, fun h u ρ2 G2 H2 f2 g2 s2 o2 fr => ?_⟩
    obtain ⟨dj, f3, r3⟩ := rd_of g2 o2 f2
    split at f3
    · rename_i j
      have := rd_int r3
      subst this
      obtain ⟨ds1, e2, m, hm, f4⟩ := ownAt_ok f3
      obtain ⟨a', vs1, e3, k1, k2, k3, k4, k5⟩ := g2.sl i _ e2
      rw [e1] at e3; cases e3
      exact ⟨a, vs1, j, m, rfl, rfl, k1, by rw [k2.length]; exact hm, d.nx _ σ G2 _ f4 (g2.change e2 e1 (k2.set m (Dt.mono s2.ext y t1))).1⟩
    · exact f3.elim⟩
end
end Dat


set_option Elab.async false
set_option linter.all false
set_option maxRecDepth 100000
set_option maxHeartbeats 4000000
/-! DatI: zip and enumerate over lists and tuples in any mix. -/
namespace Dat
open PySem L2

def SqA (K : PySem.W.Frag) (H : Hp) (a : Addr) (xs : List V) : Bool → Prop
  | true => SqT K H a xs
  | false => SqL K H a xs
def ItA (h : Heap) (it a : Addr) (i : Nat) : Bool → Prop
  | true => h.IsTupleIter it a i
  | false => h.IsListIter it a i
def IsA (h : Heap) (a : Addr) (items : Array Value) : Bool → Prop
  | true => h.IsTuple a items
  | false => h.IsList a items
theorem draws_any {prog : Program} {w : World} {A : Around} (hh : A.handled = none) (it a : Addr) (hne : a ≠ it) (items : Array Value) : ∀ k, Draws prog w A it [it, a] items.size (fun i v => items[i]? = some v) (fun i h => ItA h it a i k ∧ IsA h a items k)
  | true => .tuple hh it a hne items
  | false => .list hh it a hne items
theorem ItA.there {h : Heap} {it a : Addr} {i : Nat} : ∀ {k}, ItA h it a i k → ∃ o, h.get? it = some o ∧ ∀ v, o.data ≠ .cell v
  | true, ⟨o, e, _, d⟩ => ⟨o, e, fun v q => by rw [d] at q; cases q⟩
  | false, ⟨o, e, _, d⟩ => ⟨o, e, fun v q => by rw [d] at q; cases q⟩
theorem ItA.at {h h' : Heap} {it a : Addr} {i : Nat} (k : ∀ o, h.get? it = some o → h'.get? it = some o) : ∀ {t}, ItA h it a i t → ItA h' it a i t
  | true, ⟨o, e, c, d⟩ => ⟨o, k o e, c, d⟩
  | false, ⟨o, e, c, d⟩ => ⟨o, k o e, c, d⟩
section
variable {X : Cx} {pins : List (Addr × Obj)} {σ : L2.St} {H : Hp} {s : Shared} {a : Addr} {xs ys : List V}
theorem inv_any (I : Inv X pins σ H s) : ∀ {k}, SqA X.K H a xs k → ∃ its : List Value, Vals xs its ∧ IsA s.heap a its.toArray k ∧ a < s.heap.objs.size ∧ xs.length ≤ sizeLine
  | true, h => by
    obtain ⟨its, r, p, hz⟩ := I.tuple h
    exact ⟨its, r, p, p.lt, hz⟩
  | false, h => by
    obtain ⟨its, r, p, hz⟩ := I.list h
    exact ⟨its, r, p.isList, p.lt, hz⟩
theorem any_inj (I : Inv X pins σ H s) : ∀ {k}, SqA X.K H a xs k → SqA X.K H a ys k → xs = ys
  | true, h, h' => I.tuple_inj h h'
  | false, h, h' => I.list_inj h h'
end
def Itz2 (K : PySem.W.Frag) (ka kb : Bool) (a b : Addr) : It :=
  ⟨fun i H => ∃ (xs ys : List V), SqA K H a xs ka ∧ SqA K H b ys kb ∧ i < min xs.length ys.length,
    fun i H v H' => ∃ T x y, v = .ref T ∧ H T = none ∧ H' = upd H T (.tup [x, y]) ∧ (∀ xs, SqA K H a xs ka → xs[i]? = some x) ∧ ∀ ys, SqA K H b ys kb → ys[i]? = some y,
    fun i H => ∃ xs ys : List V, SqA K H a xs ka ∧ SqA K H b ys kb ∧ i = min xs.length ys.length⟩
theorem turn_zip2 {P : Program} {w : World} {K : PySem.W.Frag} {elts : List Expr} {kk : Nat} {tpos : Pos} {ka kb : Bool} {a b z TI TO i1 i2 : Addr} (ha : a ≠ i1) (hb : b ≠ i2) (D : ZipSep2 z TI TO i1 i2 [i1, a] [i2, b]) :
    Turn P w K (.Tuple elts kk tpos) (Itz2 K ka kb a b) [z, TI, TO, i1, i2] z (fun i h => IsZip h z TI TO .none ∧ IsTupOf2 h TI (.ref i1) (.ref i2) ∧ (∃ x y, IsTupOf2 h TO x y) ∧ ItA h i1 a i ka ∧ ItA h i2 b i kb) where
  mem := by simp
  obj := fun i h st c hc => by
    obtain ⟨hz, hTI, ⟨x, y, hTO⟩, h1, h2⟩ := st
    have e' : c = z ∨ c = TI ∨ c = TO ∨ c = i1 ∨ c = i2 := by simpa using hc
    rcases e' with q | q | q | q | q
    · rw [q]; exact ⟨_, hz, fun v q => nomatch q⟩
    · rw [q]; exact ⟨_, hTI, fun v q => nomatch q⟩
    · rw [q]; exact ⟨_, hTO, fun v q => nomatch q⟩
    · rw [q]; exact h1.there
    · rw [q]; exact h2.there
  keep := fun i h h' st k => by
    obtain ⟨hz, hTI, ⟨x, y, hTO⟩, h1, h2⟩ := st
    exact ⟨k z (by simp) _ hz, k TI (by simp) _ hTI, ⟨x, y, k TO (by simp) _ hTO⟩, h1.at fun o q => k i1 (by simp) o q, h2.at fun o q => k i2 (by simp) o q⟩
  item := by
    intro X hP hw hK hc i pins s σ H E I hf st hg
    subst hP hw hK
    obtain ⟨hz, hTI, ⟨x0, y0, hTO⟩, h1, h2⟩ := st
    obtain ⟨xs, ys, hqx, hqy, hlt⟩ := hg
    obtain ⟨its, rv, p, _⟩ := inv_any I hqx
    obtain ⟨its2, rv2, p2, _⟩ := inv_any I hqy
    have l1 := rv.length
    have l2 := rv2.length
    have hh : X.A.in1.handled = none := I.ok.hd hc
    refine (GoesN.zip2 D (draws_any hh i1 a ha its.toArray ka) (draws_any hh i2 b hb its2.toArray kb)).goes i s _ E (by simp; omega) ⟨hz, hTI, ⟨x0, y0, hTO⟩, ⟨h1, p⟩, ⟨h2, p2⟩⟩ fun v h' tk Y st' hk _ => ?_
    obtain ⟨T, u1, u2, rfl, hT, e1, e2, tup⟩ := Y
    obtain ⟨z', TI', TO', ⟨i1', _⟩, ⟨i2', _⟩⟩ := st'
    have e1' : its[i]? = some u1 := by simpa using e1
    have e2' : its2[i]? = some u2 := by simpa using e2
    have hx : xs[i]? = some xs[i] := List.getElem?_eq_getElem (by omega)
    have hy : ys[i]? = some ys[i] := List.getElem?_eq_getElem (by omega)
    obtain ⟨w1, q1, r1⟩ := rv.get hx
    obtain ⟨w2, q2, r2⟩ := rv2.get hy
    rw [e1'] at q1; cases q1
    rw [e2'] at q2; cases q2
    have new : ObjOk X.prog X.w (upd H T (.tup [xs[i], ys[i]])) h' T (.tup [xs[i], ys[i]]) := ⟨by show 2 ≤ sizeLine; decide, [u1, u2], .cons r1 (.cons r2 .nil), tup⟩
    have I1 : Inv X pins σ (upd H T (.tup [xs[i], ys[i]])) { s with heap := h', toks := tk } := I.turnedNew (t' := tk) (ch := [z, TI, TO, i1, i2]) (fun c o hb q => hk c o (fun q' => hb (by
      have e' : c = z ∨ c = TO ∨ c = i1 ∨ c = i2 := by simpa using q'
      rcases e' with q | q | q | q <;> simp [q])) q) hf hT new
    refine ⟨.ref T, _, I1, rfl, ⟨T, _, _, rfl, I.hok.fresh hT, rfl, fun l hl => by rw [any_inj I hl hqx]; exact hx, fun l hl => by rw [any_inj I hl hqy]; exact hy⟩, ⟨z', TI', TO', i1', i2'⟩, fun c hcm => ?_⟩
    have hlt : c < s.heap.objs.size := by
      have e' : c = z ∨ c = TI ∨ c = TO ∨ c = i1 ∨ c = i2 := by simpa using hcm
      rcases e' with q | q | q | q | q
      · rw [q]; exact Heap.lt_size hz
      · rw [q]; exact Heap.lt_size hTI
      · rw [q]; exact Heap.lt_size hTO
      · rw [q]; obtain ⟨_, e1, _⟩ := h1.there; exact Heap.lt_size e1
      · rw [q]; obtain ⟨_, e2, _⟩ := h2.there; exact Heap.lt_size e2
    rw [upd_ne (Nat.ne_of_lt (Nat.lt_of_lt_of_le hlt hT))]
    exact (hf c hcm).1
  done := by
    intro X hP hw hK hc i pins s σ H E I hf st hg
    subst hP hw hK
    obtain ⟨hz, hTI, ⟨x0, y0, hTO⟩, h1, h2⟩ := st
    obtain ⟨xs, ys, hqx, hqy, hend⟩ := hg
    obtain ⟨its, rv, p, _⟩ := inv_any I hqx
    obtain ⟨its2, rv2, p2, _⟩ := inv_any I hqy
    have l1 := rv.length
    have l2 := rv2.length
    have hh : X.A.in1.handled = none := I.ok.hd hc
    have hn : i = min its.toArray.size its2.toArray.size := by simp; omega
    subst hn
    exact (GoesN.zip2 (elts := elts) (x1 := kk) (pos := tpos) D (draws_any hh i1 a ha its.toArray ka) (draws_any hh i2 b hb its2.toArray kb)).stops s _ E ⟨hz, hTI, ⟨x0, y0, hTO⟩, ⟨h1, p⟩, ⟨h2, p2⟩⟩ fun h' tk hk _ => I.turnedL (t' := tk) (ch := [z, TI, TO, i1, i2]) (fun c o hb q => hk c o (fun q' => hb (by
      have e' : c = z ∨ c = TO ∨ c = i1 ∨ c = i2 := by simpa using q'
      rcases e' with q | q | q | q <;> simp [q])) q) hf
  self := fun A i s Q E st h => wpAny_pyIter_zip st.1 h
def Ite2 (K : PySem.W.Frag) (ka : Bool) (a : Addr) : It :=
  ⟨fun i H => ∃ (xs : List V), SqA K H a xs ka ∧ i < xs.length,
    fun i H v H' => ∃ T x, v = .ref T ∧ H T = none ∧ H' = upd H T (.tup [.int (i : Nat), x]) ∧ (∀ xs, SqA K H a xs ka → xs[i]? = some x),
    fun i H => ∃ xs : List V, SqA K H a xs ka ∧ i = xs.length⟩
theorem turn_enum2 {P : Program} {w : World} {K : PySem.W.Frag} {elts : List Expr} {kk : Nat} {tpos : Pos} {ka : Bool} {a e it : Addr} (ha : a ≠ it) (hei : e ≠ it) (hea : e ≠ a) :
    Turn P w K (.Tuple elts kk tpos) (Ite2 K ka a) [e, it] e (fun i h => (∃ old, IsEnum h e it ((0 : Int) + ((i : Nat) : Int)) old) ∧ ItA h it a i ka) where
  mem := by simp
  obj := fun i h st b hb => by
    obtain ⟨⟨old, he⟩, h1⟩ := st
    have e' : b = e ∨ b = it := by simpa using hb
    rcases e' with z | z
    · rw [z]; exact ⟨_, he, fun v q => nomatch q⟩
    · rw [z]; exact h1.there
  keep := fun i h h' st k => let ⟨⟨old, he⟩, hi⟩ := st; ⟨⟨old, k e (by simp) _ he⟩, hi.at fun o q => k it (by simp) o q⟩
  item := by
    intro X hP hw hK hc i pins s σ H E I hf st hg
    subst hP hw hK
    obtain ⟨he, h1⟩ := st
    obtain ⟨xs, hqx, hlt⟩ := hg
    obtain ⟨its, rv, p, _⟩ := inv_any I hqx
    have l1 := rv.length
    have hh : X.A.in1.handled = none := I.ok.hd hc
    refine (GoesN.enumFrom 0 (draws_any hh it a ha its.toArray ka) e hei (by simp [hei, hea]) (by simp)).goes i s _ E (by simp; omega) ⟨he, ⟨h1, p⟩⟩ fun v h' tk Y st' hk _ => ?_
    obtain ⟨T, t, u1, rfl, hT, e1, tup⟩ := Y
    obtain ⟨he', ⟨i1', _⟩⟩ := st'
    have e1' : its[i]? = some u1 := by simpa using e1
    have hx : xs[i]? = some xs[i] := List.getElem?_eq_getElem (by omega)
    obtain ⟨w1, q1, r1⟩ := rv.get hx
    rw [e1'] at q1; cases q1
    have new : ObjOk X.prog X.w (upd H T (.tup [.int (i : Nat), xs[i]])) h' T (.tup [.int (i : Nat), xs[i]]) := ⟨by show 2 ≤ sizeLine; decide, [.int (0 + (i : Int)) t, u1], .cons ⟨t, by rw [Int.zero_add]⟩ (.cons r1 .nil), tup⟩
    have I1 : Inv X pins σ (upd H T (.tup [.int (i : Nat), xs[i]])) { s with heap := h', toks := tk } := I.turnedNew (t' := tk) (ch := [e, it]) (fun c o hb q => hk c o hb q) hf hT new
    refine ⟨.ref T, _, I1, rfl, ⟨T, _, rfl, I.hok.fresh hT, rfl, fun l hl => by rw [any_inj I hl hqx]; exact hx⟩, ⟨he', i1'⟩, fun c hcm => ?_⟩
    have hlt : c < s.heap.objs.size := by
      have e' : c = e ∨ c = it := by simpa using hcm
      rcases e' with q | q
      · rw [q]; obtain ⟨_, z⟩ := he; exact Heap.lt_size z
      · rw [q]; obtain ⟨_, e1, _⟩ := h1.there; exact Heap.lt_size e1
    rw [upd_ne (Nat.ne_of_lt (Nat.lt_of_lt_of_le hlt hT))]
    exact (hf c hcm).1
  done := by
    intro X hP hw hK hc i pins s σ H E I hf st hg
    subst hP hw hK
    obtain ⟨he, h1⟩ := st
    obtain ⟨xs, hqx, hend⟩ := hg
    obtain ⟨its, rv, p, _⟩ := inv_any I hqx
    have l1 := rv.length
    have hh : X.A.in1.handled = none := I.ok.hd hc
    have hn : i = its.toArray.size := by simp; omega
    subst hn
    exact (GoesN.enumFrom (elts := elts) (x1 := kk) (pos := tpos) 0 (draws_any hh it a ha its.toArray ka) e hei (by simp [hei, hea]) (by simp)).stops s _ E ⟨he, ⟨h1, p⟩⟩ fun h' tk hk _ => I.turnedL (t' := tk) (ch := [e, it]) (fun c o hb q => hk c o hb q) hf
  self := fun A i s Q E st h => let ⟨⟨_, he⟩, _⟩ := st; wpAny_pyIter_enum he h

open AutoSeq1 (wpAny_loadPart')
set_option maxHeartbeats 8000000 in
theorem meets_enumerate_new1B {v : Value} {o : Obj} {H : Heap → Prop} (B : Begins v o H) :
    Meets (Builtin.«enumerate.__new__» ⟨[.type "enumerate", v], []⟩) (fun _ R s => H s.heap ∧
      R (.ok (.ret (.ref (s.heap.push o).objs.size))) { s with heap := (s.heap.push o).push { cls := .type "enumerate", data := .fields #[.none, .bool false, .ref s.heap.objs.size, rawInt 0, .none, .none] } }) :=
  .of_wp fun prog w A R s h => by
    obtain ⟨hp, g, d, tk, os⟩ := s; obtain ⟨h1, h⟩ := h
    have hsub := sub_enumerate
    have q1 : ∀ {A' : Around} {E : Value → Shared → Prop} {Q : Value → Shared → Prop}, Q (.ref hp.objs.size) ⟨hp.push o, g, d, tk, os⟩ → wpAny (model prog w) A' (pyIter v) Q E ⟨hp, g, d, tk, os⟩ :=
      fun q => B.iter prog w _ _ ⟨hp, g, d, tk, os⟩ _ h1 q
    wp_walk using q1
    refine wpAny_stack_any fun st => wpAny_pure ?_
    split
    · rename_i c _ _ _ _ _
      cases (c == Value.type "enumerate")
      · wp_walk using q1
        exact ⟨_, rfl, h⟩
      · wp_walk using q1
        exact ⟨_, rfl, h⟩
    · wp_walk using q1
      exact ⟨_, rfl, h⟩
section
variable {prog : Program} {w : World} {A : Around} {E : Value → Shared → Prop} {s : Shared}
theorem enum_begins1 {v : Value} {o : Obj} {H : Heap → Prop} {Q : Value → Shared → Prop} (B : Begins v o H) (h1 : H s.heap)
    (h : ∀ h', IsEnum h' (s.heap.objs.size + 1) s.heap.objs.size 0 .none → h'.get? s.heap.objs.size = some o → h'.objs.size = s.heap.objs.size + 2 →
      (∀ b o, s.heap.get? b = some o → h'.get? b = some o) → Q (.ref (s.heap.objs.size + 1)) { s with heap := h' }) :
    wpAny (model prog w) A (call (.type "enumerate") [v]) Q E s := by
  refine callType_new F.called_enumerate (by decide) (F.typeCall_enumerate_1 _) (F.newCall_enumerate_1 _) (fun obj => F.args_object_init_2 obj _) F.entry_enumerate_new
    (meets_enumerate_new1B B) ⟨h1, ?_⟩
  have hz : (s.heap.push o).objs.size = s.heap.objs.size + 1 := Heap.size_push ..
  show _ ∧ _
  rw [hz]
  have he : IsEnum ((s.heap.push o).push { cls := .type "enumerate", data := .fields #[.none, .bool false, .ref s.heap.objs.size, rawInt 0, .none, .none] }) (s.heap.objs.size + 1) s.heap.objs.size 0 .none := by
    have := Heap.get?_push_size (s.heap.push o) (o := { cls := .type "enumerate", data := .fields #[.none, .bool false, .ref s.heap.objs.size, rawInt 0, .none, .none] }) rfl
    rw [hz] at this; exact this
  refine ⟨⟨_, he, rfl⟩, h _ he (Heap.get?_push_of_some _ (Heap.get?_push_size _ B.free)) (by rw [Heap.size_push, hz]) fun b o x => Heap.get?_push_of_some _ (Heap.get?_push_of_some _ x)⟩
end
def itObj (a : Addr) : Bool → Obj
  | true => { cls := .type "tuple_iterator", data := .fields #[.ref a, .int 0 0] }
  | false => { cls := .type "list_iterator", data := .fields #[.ref a, .int 0 0] }
theorem begins_any (a : Addr) (items : Array Value) : ∀ k, Begins (.ref a) (itObj a k) fun h => IsA h a items k
  | true => begins_tuple a items
  | false => begins_list a items
theorem ItA.new {h : Heap} {it a : Addr} : ∀ {k}, h.get? it = some (itObj a k) → ItA h it a 0 k
  | true, e => ⟨_, e, rfl, rfl⟩
  | false, e => ⟨_, e, rfl, rfl⟩
def iZip2 (K : PySem.W.Frag) (ta : TA) : TI := fun σ H R => ta σ H fun vs H1 => ∃ a b xs ys ka kb, vs = [.ref a, .ref b] ∧ SqA K H1 a xs ka ∧ SqA K H1 b ys kb ∧ R (Itz2 K ka kb a b) H1
def iEnum2 (K : PySem.W.Frag) (ta : TA) : TI := fun σ H R => ta σ H fun vs H1 => ∃ a xs ka, vs = [.ref a] ∧ SqA K H1 a xs ka ∧ R (Ite2 K ka a) H1
section
variable {X : Cx} {e e2 : Expr} {ta : TA} {p pos tpos : Pos} {elts : List Expr} {kk : Nat}
theorem pi_zip2 (hg : Gl X "zip") (hm : X.mg "zip" = none) (ha : PA X [e, e2] ta)
    (hs : starEach [e, e2] X.env = (false, eval e X.env) :: starEach [e2] X.env := by rfl) (hpl : (backTo pos (starEach [e2] X.env)).any (·.1) = false := by rfl) :
    PI X (.Tuple elts kk tpos) (.Call (.Name "zip" p) [e, e2] [] pos) (iZip2 X.K ta) := by
  refine ⟨fun pins s σ H R I h => ?_⟩
  refine PyProof.Rows.Call_ (ld_blt I hg hm PyProof.Rows.boot_zip (PyProof.Rows.callWith_type1 (thn (ha.run pos pins s σ H _ I h) fun us s1 ⟨vs, H1, I1, r1, q1⟩ => ?_) hs hpl))
  obtain ⟨a, b, xs, ys, ka, kb, ex, hqx, hqy, q⟩ := q1
  subst ex
  cases r1 with
  | cons r rr =>
    cases rr with
    | cons r' rr =>
      cases rr
      cases r
      cases r'
      obtain ⟨its, rv, p1, la, _⟩ := inv_any I1 hqx
      obtain ⟨its2, rv2, p2, lb, _⟩ := inv_any I1 hqy
      refine zip_begins2 (begins_any a its.toArray ka) (begins_any b its2.toArray kb) p1 p2 fun h' hz hTI hTO h1 h2 hsz hk => wpAny_pyIter_zip hz ?_
      have I2 : Inv X pins σ H1 { s1 with heap := h' } := I1.kept (t' := s1.toks) hk
      refine ⟨s1.heap.objs.size + 4, [s1.heap.objs.size + 4, s1.heap.objs.size + 2, s1.heap.objs.size + 3, s1.heap.objs.size, s1.heap.objs.size + 1], _, _, H1, rfl, I2,
        turn_zip2 (Nat.ne_of_lt la) (Nat.ne_of_lt (Nat.lt_succ_of_lt lb)) (zip_sep2 (N := s1.heap.objs.size) (fp1 := [a]) (fp2 := [b]) (by simpa using la) (by simpa using lb)), ⟨hz, hTI, ⟨_, _, hTO⟩, .new h1, .new h2⟩, fun c hcm => ?_, q⟩
      have e' : c = s1.heap.objs.size + 4 ∨ c = s1.heap.objs.size + 2 ∨ c = s1.heap.objs.size + 3 ∨ c = s1.heap.objs.size ∨ c = s1.heap.objs.size + 1 := by simpa using hcm
      have hle : s1.heap.objs.size ≤ c := by
        rcases e' with z | z | z | z | z
        · rw [z]; exact Nat.le_add_right _ _
        · rw [z]; exact Nat.le_add_right _ _
        · rw [z]; exact Nat.le_add_right _ _
        · rw [z]; exact Nat.le_refl _
        · rw [z]; exact Nat.le_add_right _ _
      exact I1.fpOk hle (I1.hok.fresh hle)
theorem pi_enum2 (hg : Gl X "enumerate") (hm : X.mg "enumerate" = none) (ha : PA X [e] ta) (hs : starEach [e] X.env = [(false, eval e X.env)] := by rfl) :
    PI X (.Tuple elts kk tpos) (.Call (.Name "enumerate" p) [e] [] pos) (iEnum2 X.K ta) := by
  refine ⟨fun pins s σ H R I h => ?_⟩
  refine PyProof.Rows.Call_ (ld_blt I hg hm PyProof.Rows.boot_enumerate (PyProof.Rows.callWith_type1 (thn (ha.run pos pins s σ H _ I h) fun us s1 ⟨vs, H1, I1, r1, q1⟩ => ?_) hs rfl))
  obtain ⟨a, xs, ka, ex, hqx, q⟩ := q1
  subst ex
  cases r1 with
  | cons r rr =>
    cases rr
    cases r
    obtain ⟨its, rv, p1, la, _⟩ := inv_any I1 hqx
    refine enum_begins1 (begins_any a its.toArray ka) p1 fun h' he h1 hsz hk => wpAny_pyIter_enum he ?_
    have I2 : Inv X pins σ H1 { s1 with heap := h' } := I1.kept (t' := s1.toks) hk
    refine ⟨s1.heap.objs.size + 1, [s1.heap.objs.size + 1, s1.heap.objs.size], _, _, H1, rfl, I2, turn_enum2 (Nat.ne_of_lt la) (Nat.succ_ne_self _) (Nat.ne_of_gt (Nat.lt_succ_of_lt la)), ⟨⟨_, he⟩, .new h1⟩, fun c hcm => ?_, q⟩
    have e' : c = s1.heap.objs.size + 1 ∨ c = s1.heap.objs.size := by simpa using hcm
    have hle : s1.heap.objs.size ≤ c := by
      rcases e' with z | z
      · rw [z]; exact Nat.le_add_right _ _
      · rw [z]; exact Nat.le_refl _
    exact I1.fpOk hle (I1.hok.fresh hle)
end
theorem walk_zip2 {K : PySem.W.Frag} {ka kb : Bool} {a b : Addr} {xs ys : List V} : Walk (Itz2 K ka kb a b) (min xs.length ys.length) (fun H => SqA K H a xs ka ∧ SqA K H b ys kb) (YPair (fun i => xs[i]?) (fun i => ys[i]?)) :=
  ⟨fun i H hi q => ⟨xs, ys, q.1, q.2, hi⟩, fun H q => ⟨xs, ys, q.1, q.2, rfl⟩, fun i H x H' hi q ⟨T, x1, y1, e1, e2, e3, e4, e5⟩ => ⟨T, x1, y1, e1, e2, e3, e4 xs q.1, e5 ys q.2⟩⟩
theorem walk_enum2 {K : PySem.W.Frag} {ka : Bool} {a : Addr} {xs : List V} : Walk (Ite2 K ka a) xs.length (fun H => SqA K H a xs ka) (YPair (fun i => some (.int (i : Nat))) (fun i => xs[i]?)) :=
  ⟨fun i H hi q => ⟨xs, q, hi⟩, fun H q => ⟨xs, q, rfl⟩, fun i H x H' hi q ⟨T, x1, e1, e2, e3, e4⟩ => ⟨T, _, x1, e1, e2, e3, rfl, e4 xs q⟩⟩
end Dat


set_option Elab.async false
set_option linter.all false
set_option maxRecDepth 100000
set_option maxHeartbeats 4000000
/-! DatF: operators, subscripts, built-ins, by data. -/
namespace Dat
open PySem L2

section
variable {X : Cx} {pins : List (Addr × Obj)} {σ : L2.St} {H : Hp} {s : Shared}
mutual
theorem Dt.reads (I : Inv X pins σ H s) : ∀ (d : PyData) (v : V) (u : Value), Dt X.K H v d → RelV v u → ∃ as, Reads s.heap u d as
  | .none, _, _, h, r => by
    cases h
    cases r
    exact ⟨_, Reads.none⟩
  | .bool b, _, _, h, r => by
    cases h
    cases r
    exact ⟨_, Reads.bool b⟩
  | .int i, _, _, h, r => by
    cases h
    obtain ⟨t, rfl⟩ := r
    exact ⟨_, Reads.int i t⟩
  | .str x, _, _, h, r => by
    cases h
    obtain ⟨t, rfl⟩ := r
    exact ⟨_, Reads.str x t⟩
  | .list ds, _, _, h, r => by
    cases h with
    | lst hs ha =>
      cases r
      obtain ⟨its, rv, ⟨o, n, ho, hc, _, hd⟩, _⟩ := I.list (.of hs)
      obtain ⟨as, hr⟩ := Dt.readsAll I ds _ its ha rv
      exact ⟨_, Reads.list ho hc hd hr⟩
  | .tuple ds, _, _, h, r => by
    cases h with
    | tup hs ha =>
      cases r
      obtain ⟨its, rv, ⟨o, ho, hc, n, hd⟩, _⟩ := I.tuple hs
      obtain ⟨as, hr⟩ := Dt.readsAll I ds _ its ha rv
      exact ⟨_, Reads.tuple ho hc hd hr⟩
  | .dict kvs, _, _, h, r => by
    cases h with
    | dic0 hs =>
      cases r
      obtain ⟨_, _, vs, kv, o, es, ep, ho, hx, hd, hk, hp, _⟩ := I.hok _ _ hs
      cases kv
      have : es.toList = [] := by
        cases e : es.toList with
        | nil => rfl
        | cons a b => rw [e] at hp; exact absurd hp.length (by simp)
      exact ⟨_, Reads.dict (kvs := []) ho hx.1 hd (by rw [this]; exact .nil) (by rw [this]; exact .nil)⟩
theorem Dt.readsAll (I : Inv X pins σ H s) : ∀ (ds : List PyData) (vs : List V) (us : List Value), DtAll X.K H vs ds → Vals vs us → ∃ as, ReadsAll s.heap us ds as
  | [], _, _, h, r => by
    cases h
    cases r
    exact ⟨_, ReadsAll.nil⟩
  | d :: ds, _, _, h, r => by
    cases h with
    | cons h1 h2 =>
      cases r with
      | cons r1 r2 =>
        obtain ⟨as, q1⟩ := Dt.reads I d _ _ h1 r1
        obtain ⟨bs, q2⟩ := Dt.readsAll I ds _ _ h2 r2
        exact ⟨_, ReadsAll.cons q1 q2⟩
end
end

def rVal2 (K : PySem.W.Frag) (C : PyData → PyData → Prop) (g : PyData → PyData → V) : R2 := fun x y H Q => ∃ d e, Dt K H x d ∧ Dt K H y e ∧ C d e ∧ Q (g d e) H
def eqC (d e : PyData) : Prop := SeqAt.shaped d = true ∧ SeqAt.shaped e = true
def eqP (x y : PyData) (k : Hd → Prop) : Prop := eqC x y ∧ k (.val (.bool (PyData.eqv x y)))
def neP (x y : PyData) (k : Hd → Prop) : Prop := eqC x y ∧ k (.val (.bool (!PyData.eqv x y)))
section
variable {X : Cx} {K : PySem.W.Frag}
theorem o_eq (hu : X.A.units + 64 < cLine) : OpR X (compareOp .Eq) (rVal2 X.K eqC fun d e => .bl (PyData.eqv d e)) := by
  intro pins s σ H x y v u Q I rx ry ⟨d, e, hd, he, ⟨sd, se⟩, q⟩
  obtain ⟨as, r1⟩ := Dt.reads I d x v hd rx
  obtain ⟨bs, r2⟩ := Dt.reads I e y u he ry
  exact SeqAt.compareEq_shaped r1 r2 sd se hu ⟨.bl _, H, I, rfl, q⟩
theorem o_ne (hu : X.A.units + 64 < cLine) : OpR X (compareOp .NotEq) (rVal2 X.K eqC fun d e => .bl (!PyData.eqv d e)) := by
  intro pins s σ H x y v u Q I rx ry ⟨d, e, hd, he, ⟨sd, se⟩, q⟩
  obtain ⟨as, r1⟩ := Dt.reads I d x v hd rx
  obtain ⟨bs, r2⟩ := Dt.reads I e y u he ry
  exact SeqAt.compareNe_shaped r1 r2 sd se hu ⟨.bl _, H, I, rfl, q⟩
theorem p_eq : Op2 K (rVal2 K eqC fun d e => .bl (PyData.eqv d e)) eqP := fun x y dx dy G H Φ Q e rx ry p o => ⟨dx, dy, rx.now e, ry.now e, p.1, o.val e p.2 (.bl _)⟩
theorem p_ne : Op2 K (rVal2 K eqC fun d e => .bl (!PyData.eqv d e)) neP := fun x y dx dy G H Φ Q e rx ry p o => ⟨dx, dy, rx.now e, ry.now e, p.1, o.val e p.2 (.bl _)⟩
end
/-- in, not in -/
def inC (d e : PyData) : Prop := d.canLay0 = true ∧ d.depth ≤ 64 ∧ seqP e fun ds => PyData.canLayAll0 ds = true
def anyIn (d e : PyData) : Bool := match e with
  | .list ds => ds.any fun z => PyData.eqv z d
  | .tuple ds => ds.any fun z => PyData.eqv z d
  | _ => false
def inP (x y : PyData) (k : Hd → Prop) : Prop := inC x y ∧ k (.val (.bool (anyIn x y)))
def niP (x y : PyData) (k : Hd → Prop) : Prop := inC x y ∧ k (.val (.bool (!anyIn x y)))
section
variable {X : Cx} {K : PySem.W.Frag}
theorem room_in {A : Around} {xs : List PyData} {d : PyData} (hd : d.depth ≤ 64) (hu : A.units + 65 < cLine) : A.units + 1 + min (PyData.depthAll xs) d.depth < cLine := by
  have h2 : min (PyData.depthAll xs) d.depth ≤ d.depth := Nat.min_le_right _ _
  omega
theorem o_in (hu : X.A.units + 65 < cLine) : OpR X (compareOp .In) (rVal2 X.K inC fun d e => .bl (anyIn d e)) := by
  intro pins s σ H x y v u Q I rx ry ⟨d, e, hd, he, ⟨c1, c2, c3⟩, q⟩
  obtain ⟨as, r1⟩ := Dt.reads I d x v hd rx
  obtain ⟨bs, r2⟩ := Dt.reads I e y u he ry
  unfold seqP at c3
  split at c3
  · exact SeqAt.in_list_reads r2 r1 c3 c1 (room_in c2 hu) ⟨.bl _, H, I, rfl, q⟩
  · exact SeqAt.in_tuple_reads r2 r1 c3 c1 (room_in c2 hu) ⟨.bl _, H, I, rfl, q⟩
  · exact c3.elim
theorem o_ni (hu : X.A.units + 65 < cLine) : OpR X (compareOp .NotIn) (rVal2 X.K inC fun d e => .bl (!anyIn d e)) := by
  intro pins s σ H x y v u Q I rx ry ⟨d, e, hd, he, ⟨c1, c2, c3⟩, q⟩
  obtain ⟨as, r1⟩ := Dt.reads I d x v hd rx
  obtain ⟨bs, r2⟩ := Dt.reads I e y u he ry
  unfold seqP at c3
  split at c3
  · exact SeqAt.notIn_list_reads r2 r1 c3 c1 (room_in c2 hu) ⟨.bl _, H, I, rfl, q⟩
  · exact SeqAt.notIn_tuple_reads r2 r1 c3 c1 (room_in c2 hu) ⟨.bl _, H, I, rfl, q⟩
  · exact c3.elim
theorem p_in : Op2 K (rVal2 K inC fun d e => .bl (anyIn d e)) inP := fun x y dx dy G H Φ Q e rx ry p o => ⟨dx, dy, rx.now e, ry.now e, p.1, o.val e p.2 (.bl _)⟩
theorem p_ni : Op2 K (rVal2 K inC fun d e => .bl (!anyIn d e)) niP := fun x y dx dy G H Φ Q e rx ry p o => ⟨dx, dy, rx.now e, ry.now e, p.1, o.val e p.2 (.bl _)⟩
end

/-! ### numbers -/
def intP (C : Int → Int → Prop) (g : Int → Int → PyData) (x y : PyData) (k : Hd → Prop) : Prop := match x, y with
  | .int i, .int j => C i j ∧ k (.val (g i j))
  | _, _ => False
def int0P (g : Int → Int → PyData) (x y : PyData) (k : Hd → Prop) : Prop := match x, y with
  | .int i, .int j => k (.val (g i j))
  | _, _ => False
section
variable {X : Cx} {K : PySem.W.Frag}
theorem p_int {C : Int → Int → Prop} {g : Int → Int → V} {g' : Int → Int → PyData} (hg : ∀ i j G, Dt K G (g i j) (g' i j)) : Op2 K (rI C g) (intP C g') := fun x y dx dy G H Φ Q e rx ry p o => by
  unfold intP at p
  split at p
  · exact ⟨_, _, rd_int rx, rd_int ry, p.1, o.val e p.2 (hg _ _ G)⟩
  · exact p.elim
theorem p_int0 {g : Int → Int → V} {g' : Int → Int → PyData} (hg : ∀ i j G, Dt K G (g i j) (g' i j)) : Op2 K (rI0 g) (int0P g') := fun x y dx dy G H Φ Q e rx ry p o => by
  unfold int0P at p
  split at p
  · exact ⟨_, _, rd_int rx, rd_int ry, o.val e p (hg _ _ G)⟩
  · exact p.elim
def divC (i j : Int) : Prop := j ≠ 0 ∧ Builtin.divisionGoesByPylong i j = false
theorem o_fdiv : OpR X (binaryOp .FloorDiv) (rI divC fun i j => .int (i.fdiv j)) := opI fun _ _ _ _ _ _ _ hc q => PyProof.Rows.floordiv_int hc.1 q (.inl hc.2)
abbrev subP := int0P fun i j => .int (i - j)
abbrev fdivP := intP divC fun i j => .int (i.fdiv j)
abbrev modP := intP (fun _ j => j ≠ 0) fun i j => .int (i.fmod j)
abbrev ltP := int0P fun i j => .bool (decide (i < j))
abbrev leP := int0P fun i j => .bool (decide (i ≤ j))
abbrev gtP := int0P fun i j => .bool (decide (j < i))
abbrev geP := int0P fun i j => .bool (decide (j ≤ i))
def negP (x : PyData) (k : Hd → Prop) : Prop := match x with
  | .int i => k (.val (.int (-i)))
  | _ => False
theorem p_neg : Op1 K (rU fun i => .int (-i)) negP := fun x dx G H Φ Q e rx p o => by
  unfold negP at p
  split at p
  · exact ⟨_, rd_int rx, o.val e p (.int _)⟩
  · exact p.elim
/-- a + b, a * b -/
def addP (x y : PyData) (k : Hd → Prop) : Prop := match x, y with
  | .int i, .int j => k (.val (.int (i + j)))
  | .str i, .str j => i.length + j.length ≤ sizeLine ∧ k (.val (.str (i ++ j)))
  | .tuple xs, .tuple ys => xs.length + ys.length ≤ sizeLine ∧ k (.val (.tuple (xs ++ ys)))
  | .list xs, .list ys => xs.length + ys.length ≤ sizeLine ∧ k (.new (xs ++ ys))
  | _, _ => False
def rAddD (K : PySem.W.Frag) : R2 := fun x y H Q => rI0 (fun i j => .int (i + j)) x y H Q ∨ (∃ i j, x = .str i ∧ y = .str j ∧ i.length + j.length ≤ sizeLine ∧ Q (.str (i ++ j)) H) ∨ rCatA K x y H Q ∨ rCat x y H Q
theorem o_add : OpR X (binaryOp .Add) (rAddD X.K) := op_add.or (op_add_str.or (op_catA.or op_cat))
theorem rd_str {G H : Hp} {v : V} {j : Str} (r : Rdb K G H v (.str j)) : v = .str j := by
  rcases r with h | ⟨ds, a, vs, e3, _⟩
  · cases h; rfl
  · cases e3
theorem p_add : Op2 K (rAddD K) addP := fun x y dx dy G H Φ Q e rx ry p o => by
  unfold addP at p
  split at p
  · exact .inl ⟨_, _, rd_int rx, rd_int ry, o.val e p (.int _)⟩
  · exact .inr (.inl ⟨_, _, rd_str rx, rd_str ry, p.1, o.val e p.2 (.str _)⟩)
  · obtain ⟨a, vs, rfl, ha, ta⟩ := rx.tuple
    obtain ⟨b, us, rfl, hb, tb⟩ := ry.tuple
    refine .inr (.inr (.inl ⟨a, b, vs, us, rfl, rfl, Same.seqT e ha, Same.seqT e hb, by rw [ta.length, tb.length]; exact p.1, fun z => ?_, fun _ z => ?_, fun _ _ q hq => o.tup e p.2 (ta.append tb) hq⟩))
    · subst z; cases ta; exact o.val e p.2 (.tup hb tb)
    · subst z; cases tb; exact o.val e (by simpa using p.2) (.tup ha ta)
  · obtain ⟨a, vs, rfl, ha, ta⟩ := rx.list e
    obtain ⟨b, us, rfl, hb, tb⟩ := ry.list e
    exact .inr (.inr (.inr ⟨a, b, vs, us, rfl, rfl, ha, hb, by rw [ta.length, tb.length]; exact p.1, fun q hq => o.newL e p.2 (ta.append tb) hq⟩))
  · exact p.elim
def mulP (x y : PyData) (k : Hd → Prop) : Prop := match x, y with
  | .int i, .int j => CMulX i j ∧ k (.val (.int (i * j)))
  | .list xs, .int n => (-(2 ^ 63) ≤ n ∧ n < 2 ^ 63 ∧ xs.length * n.toNat ≤ sizeLine) ∧ k (.new (List.replicate n.toNat xs).flatten)
  | _, _ => False
def rMulD : R2 := fun x y H Q => rI CMulX (fun i j => .int (i * j)) x y H Q ∨ rRep x y H Q
theorem o_mul : OpR X (binaryOp .Mult) rMulD := op_mulX.or op_rep
theorem DtAll.rep {G : Hp} {vs : List V} {ds : List PyData} (t : DtAll K G vs ds) : ∀ n, DtAll K G (List.replicate n vs).flatten (List.replicate n ds).flatten
  | 0 => .nil
  | n + 1 => by
    rw [List.replicate_succ, List.replicate_succ, List.flatten_cons, List.flatten_cons]
    exact t.append (DtAll.rep t n)
theorem p_mul : Op2 K rMulD mulP := fun x y dx dy G H Φ Q e rx ry p o => by
  unfold mulP at p
  split at p
  · exact .inl ⟨_, _, rd_int rx, rd_int ry, p.1, o.val e p.2 (.int _)⟩
  · obtain ⟨a, vs, rfl, ha, ta⟩ := rx.list e
    exact .inr ⟨a, _, vs, rfl, rd_int ry, ha, p.1.1, p.1.2.1, by rw [ta.length]; exact p.1.2.2, fun q hq => o.newL e p.2 (ta.rep _) hq⟩
  · exact p.elim
def isNoneD : PyData → Bool
  | .none => true
  | _ => false
def isNP (x y : PyData) (k : Hd → Prop) : Prop := y = .none ∧ k (.val (.bool (isNoneD x)))
def notNP (x y : PyData) (k : Hd → Prop) : Prop := y = .none ∧ k (.val (.bool (!isNoneD x)))
theorem rd_isN {G H : Hp} {v : V} {d : PyData} (r : Rdb K G H v d) : decide (v = .non) = isNoneD d := by
  rcases r with h | ⟨ds, a, vs, e3, e4, _⟩
  · cases h <;> rfl
  · subst e3 e4; rfl
theorem rd_non {G H : Hp} {v : V} {d : PyData} (r : Rdb K G H v d) (z : d = .none) : v = .non := by
  subst z
  rcases r with h | ⟨_, _, _, z, _⟩
  · cases h; rfl
  · cases z
theorem p_isN : Op2 K (fun x y H Q => y = .non ∧ Q (.bl (decide (x = .non))) H) isNP := fun x y dx dy G H Φ Q e rx ry p o => by
  refine ⟨rd_non ry p.1, o.val e p.2 ?_⟩
  rw [rd_isN rx]; exact .bl _
theorem p_notN : Op2 K (fun x y H Q => y = .non ∧ Q (.bl (!decide (x = .non))) H) notNP := fun x y dx dy G H Φ Q e rx ry p o => by
  refine ⟨rd_non ry p.1, o.val e p.2 ?_⟩
  rw [rd_isN rx]; exact .bl _
end

/-! ### subscripts, slices -/
def ixP (x y : PyData) (k : Hd → Prop) : Prop := match y with
  | .int i => seqP x fun ds => ∃ d, atI ds i = some d ∧ k (.val d)
  | _ => False
def rIxD (K : PySem.W.Frag) : R2 := fun x y H Q => rIxL K x y H Q ∨ rIxT K x y H Q
theorem DtAll.atI {K : PySem.W.Frag} {G : Hp} {vs : List V} {ds : List PyData} {i : Int} {d : PyData} (t : DtAll K G vs ds) (h : L2.atI ds i = some d) : ∃ v, L2.atI vs i = some v ∧ Dt K G v d := by
  unfold L2.atI at h ⊢
  rw [t.length]
  cases e : ixN ds.length i with
  | none => rw [e] at h; cases h
  | some j =>
    rw [e] at h
    exact t.get h
section
variable {X : Cx} {K : PySem.W.Frag} {a b e : Expr} {fa fb f : DF} {pos : Pos}
theorem p_ix : Op2 K (rIxD K) ixP := fun x y dx dy G H Φ Q e rx ry p o => by
  unfold ixP at p
  split at p
  · have hy := rd_int ry
    unfold seqP at p
    split at p
    · obtain ⟨q, vs, rfl, hq, t⟩ := rx.list e
      obtain ⟨d, h1, h2⟩ := p
      obtain ⟨v, h3, h4⟩ := t.atI h1
      exact .inl ⟨q, vs, _, v, rfl, hy, .of hq, h3, o.val e h2 h4⟩
    · obtain ⟨q, vs, rfl, hq, t⟩ := rx.tuple
      obtain ⟨d, h1, h2⟩ := p
      obtain ⟨v, h3, h4⟩ := t.atI h1
      exact .inr ⟨q, vs, _, v, rfl, hy, Same.seqT e hq, h3, o.val e h2 h4⟩
    · exact p.elim
  · exact p.elim
theorem de_ix (ha : PE X a (dE X.K fa)) (hb : PE X b (dE X.K fb)) (hs : PlainIx b := by exact fun _ _ => rfl) : PE X (.Subscript a b pos) (dE X.K (opF ixP fa fb)) := PEw (pe_ix (ix_list.or ix_tup) ha hb hs) (r_op p_ix)
/-- a part of a slice -/
abbrev OF := Rho → (Option Int → Rho → Prop) → Prop
def dO (K : PySem.W.Frag) (F : OF) : TO := fun σ H Q => ∃ B S ρ G Φ, Good K B S ρ σ G H ∧ F ρ Φ ∧ ∀ o ρ' G' H', Φ o ρ' → Good K B S ρ' σ G' H' → Stp S σ ρ G H ρ' G' H' → Q o H'
theorem POw {o : Option Expr} {t t' : TO} (h : PO X o t) (w : ∀ σ H Q, t' σ H Q → t σ H Q) : PO X o t' := ⟨fun pins s σ H Q I hw => h.run pins s σ H Q I (w σ H Q hw)⟩
def noneF : OF := fun ρ Φ => Φ none ρ
def partF (f : DF) : OF := fun ρ Φ => f ρ fun h ρ1 => rdP h ρ1 fun d => match d with
  | .int i => Φ (some i) ρ1
  | _ => False
theorem do_none : PO X none (dO X.K noneF) := POw po_none fun σ H Q ⟨B, S, ρ, G, Φ, g, q, k⟩ => k none ρ G H q g (.refl g)
theorem do_some (h : PE X e (dE X.K f)) : PO X (some e) (dO X.K (partF f)) := POw (po_some h) fun σ H Q ⟨B, S, ρ, G, Φ, g, q, k⟩ => ⟨B, S, ρ, G, _, g, q, fun h v ρ1 G1 H1 f1 g1 s1 o1 _ => by
  obtain ⟨d, f2, r2⟩ := rd_of g1 o1 f1
  split at f2
  · exact ⟨_, rd_int r2, k _ ρ1 G1 H1 f2 g1 s1⟩
  · exact f2.elim⟩
def cutP (x : PyData) (lo hi : Option Int) (k : Hd → Prop) : Prop := match x with
  | .list ds => k (.new ((ds.drop (HT.sIx ds.length 0 lo)).take (HT.sIx ds.length ds.length hi - HT.sIx ds.length 0 lo)))
  | .tuple ds => k (.val (.tuple ((ds.drop (HT.sIx ds.length 0 lo)).take (HT.sIx ds.length ds.length hi - HT.sIx ds.length 0 lo))))
  | _ => False
def slF (f : DF) (fl fh : OF) : DF := fun ρ Φ => f ρ fun h ρ1 => fl ρ1 fun lo ρ2 => fh ρ2 fun hi ρ3 => rdP h ρ3 fun d => cutP d lo hi fun x => Φ x ρ3
def rSlD (K : PySem.W.Frag) : V → Option Int → Option Int → Hp → VK → Prop := fun x lo hi H Q => rSlL K x lo hi H Q ∨ rSlA K x lo hi H Q
theorem cutV_data {G : Hp} {vs : List V} {ds : List PyData} (t : DtAll K G vs ds) (lo hi : Option Int) : DtAll K G (cutV vs lo hi) ((ds.drop (HT.sIx ds.length 0 lo)).take (HT.sIx ds.length ds.length hi - HT.sIx ds.length 0 lo)) := by
  unfold cutV
  rw [t.length]
  exact (t.drop _).take _
variable {p2 : Pos} {lo hi : Option Expr} {fl fh : OF}
theorem de_slice (he : PE X e (dE X.K f)) (hl : PO X lo (dO X.K fl)) (hh : PO X hi (dO X.K fh)) : PE X (.Subscript e (.Slice lo hi none p2) pos) (dE X.K (slF f fl fh)) :=
  PEw (pe_slice (sl_list.or sl_tupA) he hl hh) fun σ H Q ⟨B, S, ρ, G, Φ, g, q, k⟩ => ⟨B, S, ρ, G, _, g, q, fun h v ρ1 G1 H1 f1 g1 s1 o1 fr1 => ⟨B, S, ρ1, G1, _, g1, f1, fun l ρ2 G2 H2 f2 g2 s2 => ⟨B, S, ρ2, G2, _, g2, f2, fun u ρ3 G3 H3 f3 g3 s3 => by
    have s := (s1.trans s2).trans s3
    obtain ⟨d, f4, r4⟩ := rd_of g3 ((o1.mono s2).mono s3) f3
    have fin : Outc X.K G3 H3 (fun x => Φ x ρ3) Q := fun x w G' H' f5 n o5 fr => k x w ρ3 G' H' f5 (g3.nst n) (s.trans (n.stp g3)) (o5.ok g3 fr) (fr.back s)
    unfold cutP at f4
    split at f4
    · obtain ⟨a, vs, rfl, ha, t⟩ := r4.list g3.ing
      exact .inl ⟨a, vs, rfl, .of ha, fun q hq => fin.newL g3.ing f4 (cutV_data t l u) hq⟩
    · obtain ⟨a, vs, rfl, ha, t⟩ := r4.tuple
      refine .inr ⟨a, vs, rfl, Same.seqT g3.ing ha, fun z => ?_, fun _ q hq => fin.tup g3.ing f4 (cutV_data t l u) hq⟩
      refine fin.val g3.ing f4 ?_
      have hl := t.length
      rw [hl] at z
      rw [z.1, z.2]
      simp only [List.drop_zero, Nat.sub_zero, List.take_length]
      exact .tup ha t
    · exact f4.elim⟩⟩⟩
end
end Dat


set_option Elab.async false
set_option linter.all false
set_option maxRecDepth 100000
set_option maxHeartbeats 4000000
/-! DatG: built-in functions, by data. -/
namespace Dat
open PySem L2

def lenP (x : PyData) (k : Hd → Prop) : Prop := seqP x fun ds => k (.val (.int ds.length))
def toTupP (x : PyData) (k : Hd → Prop) : Prop := seqP x fun ds => k (.val (.tuple ds))
def toLstP (x : PyData) (k : Hd → Prop) : Prop := seqP x fun ds => k (.new ds)
def intsP (x : PyData) (k : List Int → Prop) : Prop := match x with
  | .list ds => ∃ ns : List Int, ds = ns.map PyData.int ∧ k ns
  | _ => False
def boolsP (x : PyData) (k : List Bool → Prop) : Prop := match x with
  | .list ds => ∃ ns : List Bool, ds = ns.map PyData.bool ∧ k ns
  | _ => False
def sumP (x : PyData) (k : Hd → Prop) : Prop := intsP x fun ns => k (.val (.int ns.sum))
def toIntP (x : PyData) (k : Hd → Prop) : Prop := match x with
  | .int i => k (.val (.int i))
  | .bool b => k (.val (.int (if b then 1 else 0)))
  | _ => False
def absP (x : PyData) (k : Hd → Prop) : Prop := match x with
  | .int i => k (.val (.int (if i < 0 then -i else i)))
  | _ => False
def allP (x : PyData) (k : Hd → Prop) : Prop := boolsP x fun bs => k (.val (.bool (bs.all id)))
def anyP (x : PyData) (k : Hd → Prop) : Prop := boolsP x fun bs => k (.val (.bool (bs.any id)))
def gcdP : PyData → PyData → (Hd → Prop) → Prop := int0P fun i j => .int ((Nat.gcd i.natAbs j.natAbs : Nat) : Int)
def minDP (x d : PyData) (k : Hd → Prop) : Prop := match d with
  | .int j => intsP x fun ns => match ns with
    | [] => k (.val (.int j))
    | n :: r => k (.val (.int (r.foldl min n)))
  | _ => False
def maxP (x : PyData) (k : Hd → Prop) : Prop := intsP x fun ns => match ns with
  | [] => False
  | n :: r => k (.val (.int (r.foldl max n)))
def minP (x : PyData) (k : Hd → Prop) : Prop := intsP x fun ns => match ns with
  | [] => False
  | n :: r => k (.val (.int (r.foldl min n)))
def reprC (d : PyData) : Prop := d.showable = true ∧ d.shown.length ≤ sizeLine ∧ d.depth ≤ 60 ∧ d.hasDict = false
def reprP (x : PyData) (k : Hd → Prop) : Prop := reprC x ∧ k (.val (.str x.shown))

section
variable {K : PySem.W.Frag} {G H : Hp}
theorem DtAll.ints : ∀ {ns : List Int} {vs : List V}, DtAll K G vs (ns.map PyData.int) → vs = ns.map V.int
  | [], _, h => by cases h; rfl
  | n :: ns, _, h => by
    cases h with
    | cons h1 h2 => cases h1; rw [DtAll.ints h2]; rfl
theorem DtAll.bools : ∀ {ns : List Bool} {vs : List V}, DtAll K G vs (ns.map PyData.bool) → vs = ns.map V.bl
  | [], _, h => by cases h; rfl
  | n :: ns, _, h => by
    cases h with
    | cons h1 h2 => cases h1; rw [DtAll.bools h2]; rfl
theorem rd_ints {v : V} {x : PyData} {k : List Int → Prop} (e : Same G H) (r : Rdb K G H v x) (p : intsP x k) : ∃ a ns, v = .ref a ∧ x = .list (ns.map .int) ∧ H a = some (.lst (ns.map V.int)) ∧ k ns := by
  unfold intsP at p
  split at p
  · obtain ⟨ns, rfl, q⟩ := p
    obtain ⟨a, vs, rfl, h, t⟩ := r.list e
    rw [t.ints] at h
    exact ⟨a, ns, rfl, rfl, h, q⟩
  · exact p.elim
theorem rd_bools {v : V} {x : PyData} {k : List Bool → Prop} (e : Same G H) (r : Rdb K G H v x) (p : boolsP x k) : ∃ a ns, v = .ref a ∧ H a = some (.lst (ns.map V.bl)) ∧ k ns := by
  unfold boolsP at p
  split at p
  · obtain ⟨ns, rfl, q⟩ := p
    obtain ⟨a, vs, rfl, h, t⟩ := r.list e
    rw [t.bools] at h
    exact ⟨a, ns, rfl, h, q⟩
  · exact p.elim
theorem rd_seq {v : V} {x : PyData} {k : List PyData → Prop} (e : Same G H) (r : Rdb K G H v x) (p : seqP x k) : ∃ a vs ds, v = .ref a ∧ ((x = .list ds ∧ SqL K H a vs) ∨ (x = .tuple ds ∧ SqT K H a vs ∧ SqT K G a vs)) ∧ DtAll K G vs ds ∧ k ds := by
  unfold seqP at p
  split at p
  · obtain ⟨a, vs, rfl, h, t⟩ := r.list e
    exact ⟨a, vs, _, rfl, .inl ⟨rfl, .of h⟩, t, p⟩
  · obtain ⟨a, vs, rfl, h, t⟩ := r.tuple
    exact ⟨a, vs, _, rfl, .inr ⟨rfl, Same.seqT e h, h⟩, t, p⟩
  · exact p.elim
def RLen (K : PySem.W.Frag) : List V → Hp → VK → Prop := fun xs H Q => ∃ p ys, xs = [.ref p] ∧ (SqL K H p ys ∨ SqT K H p ys) ∧ Q (.int ys.length) H
def RTup (K : PySem.W.Frag) : List V → Hp → VK → Prop := fun xs H Q => ∃ p ys, xs = [.ref p] ∧ ((SqL K H p ys ∧ ∀ l, H l = none → Q (.ref l) (upd H l (.tup ys))) ∨ (SqT K H p ys ∧ Q (.ref p) H))
def RLst (K : PySem.W.Frag) : List V → Hp → VK → Prop := fun xs H Q => ∃ p ys, xs = [.ref p] ∧ (SqL K H p ys ∨ SqT K H p ys) ∧ ∀ l, H l = none → Q (.ref l) (upd H l (.lst ys))
def RAbs : List V → Hp → VK → Prop := fun xs H Q => ∃ i, xs = [.int i] ∧ Q (.int (if i < 0 then -i else i)) H
def RInt : List V → Hp → VK → Prop := fun xs H Q => (∃ i, xs = [.int i] ∧ Q (.int i) H) ∨ ∃ k, xs = [.bl k] ∧ Q (.int (if k then 1 else 0)) H
theorem p_len : Op1 K (fun x H Q => RLen K [x] H Q) lenP := fun x dx G H Φ Q e rx p o => by
  obtain ⟨a, vs, ds, rfl, h, t, q⟩ := rd_seq e rx p
  have o1 := o.val e q (.int _)
  rw [← t.length] at o1
  rcases h with ⟨_, h⟩ | ⟨_, h, _⟩
  · exact ⟨a, vs, rfl, .inl h, o1⟩
  · exact ⟨a, vs, rfl, .inr h, o1⟩
theorem p_toTup : Op1 K (fun x H Q => RTup K [x] H Q) toTupP := fun x dx G H Φ Q e rx p o => by
  obtain ⟨a, vs, ds, rfl, h, t, q⟩ := rd_seq e rx p
  rcases h with ⟨_, h⟩ | ⟨_, h, h'⟩
  · exact ⟨a, vs, rfl, .inl ⟨h, fun l hl => o.tup e q t hl⟩⟩
  · exact ⟨a, vs, rfl, .inr ⟨h, o.val e q (.tup h' t)⟩⟩
theorem p_toLst : Op1 K (fun x H Q => RLst K [x] H Q) toLstP := fun x dx G H Φ Q e rx p o => by
  obtain ⟨a, vs, ds, rfl, h, t, q⟩ := rd_seq e rx p
  rcases h with ⟨_, h⟩ | ⟨_, h, h'⟩
  · exact ⟨a, vs, rfl, .inl h, fun l hl => o.newL e q t hl⟩
  · exact ⟨a, vs, rfl, .inr h, fun l hl => o.newL e q t hl⟩
theorem p_sum : Op1 K (fun x H Q => rSum K [x] H Q) sumP := fun x dx G H Φ Q e rx p o => by
  obtain ⟨a, ns, rfl, _, h, q⟩ := rd_ints e rx p
  exact ⟨a, ns, rfl, .of h, o.val e q (.int _)⟩
theorem p_all : Op1 K (fun x H Q => rAll K [x] H Q) allP := fun x dx G H Φ Q e rx p o => by
  obtain ⟨a, ns, rfl, h, q⟩ := rd_bools e rx p
  exact ⟨a, ns, rfl, .of h, o.val e q (.bl _)⟩
theorem p_any : Op1 K (fun x H Q => rAny K [x] H Q) anyP := fun x dx G H Φ Q e rx p o => by
  obtain ⟨a, ns, rfl, h, q⟩ := rd_bools e rx p
  exact ⟨a, ns, rfl, .of h, o.val e q (.bl _)⟩
theorem rd_bl {v : V} {b : Bool} (r : Rdb K G H v (.bool b)) : v = .bl b := by
  rcases r with h | ⟨ds, a, vs, e3, _⟩
  · cases h; rfl
  · cases e3
theorem p_toInt : Op1 K (fun x H Q => RInt [x] H Q) toIntP := fun x dx G H Φ Q e rx p o => by
  unfold toIntP at p
  split at p
  · exact .inl ⟨_, by rw [rd_int rx], o.val e p (.int _)⟩
  · exact .inr ⟨_, by rw [rd_bl rx], o.val e p (.int _)⟩
  · exact p.elim
theorem p_abs : Op1 K (fun x H Q => RAbs [x] H Q) absP := fun x dx G H Φ Q e rx p o => by
  unfold absP at p
  split at p
  · exact ⟨_, by rw [rd_int rx], o.val e p (.int _)⟩
  · exact p.elim
theorem p_gcd : Op2 K (fun x y H Q => rGcd [x, y] H Q) gcdP := fun x y dx dy G H Φ Q e rx ry p o => by
  unfold gcdP int0P at p
  split at p
  · exact ⟨_, _, by rw [rd_int rx, rd_int ry], o.val e p (.int _)⟩
  · exact p.elim
end
/-- a list of ints, read -/
theorem reads_ints {h : Heap} : ∀ {ns : List Int} {us : List Value}, Vals (ns.map V.int) us → ∃ as, ReadsAll h us (ns.map PyData.int) as
  | [], _, r => by cases r; exact ⟨_, .nil⟩
  | n :: ns, _, r => by
    cases r with
    | cons r1 r2 =>
      obtain ⟨t, rfl⟩ := r1
      obtain ⟨as, q⟩ := reads_ints r2
      exact ⟨_, .cons (.int n t) q⟩
theorem alike_ints (ns : List Int) : PySem.W.AlikeAll (ns.map PyData.int) := by
  refine ⟨fun x hx y hy => ?_, fun x hx => ?_⟩
  · obtain ⟨i, _, rfl⟩ := List.mem_map.mp hx
    obtain ⟨j, _, rfl⟩ := List.mem_map.mp hy
    rfl
  · obtain ⟨i, _, rfl⟩ := List.mem_map.mp hx
    exact fun z => nomatch z
theorem depth_ints : ∀ ns : List Int, PyData.depthAll (ns.map PyData.int) ≤ 1
  | [] => by simp [PyData.depthAll]
  | n :: ns => by
    have := depth_ints ns
    simp only [List.map_cons, PyData.depthAll, PyData.depth]
    omega
def RMinD (K : PySem.W.Frag) : List V → List V → Hp → VK → Prop := fun vs zs H Q => ∃ (a : Addr) (ns : List Int) (d : V), vs = [V.ref a] ∧ zs = [d] ∧ SqL K H a (ns.map V.int) ∧ match ns with
  | [] => Q d H
  | n :: r => Q (.int (r.foldl min n)) H
def RMinI (K : PySem.W.Frag) : List V → Hp → VK → Prop := fun vs H Q => ∃ (a : Addr) (n : Int) (r : List Int), vs = [V.ref a] ∧ SqL K H a ((n :: r).map V.int) ∧ Q (.int (r.foldl min n)) H
def RMaxI (K : PySem.W.Frag) : List V → Hp → VK → Prop := fun vs H Q => ∃ (a : Addr) (n : Int) (r : List Int), vs = [V.ref a] ∧ SqL K H a ((n :: r).map V.int) ∧ Q (.int (r.foldl max n)) H
section
variable {X : Cx}
theorem cr_minD (hc : X.calm = true) (hu : X.A.units + 8 < cLine) : CallRK X (.builtin "min") [("default" : Str)] (RMinD X.K) := by
  intro pins s σ H vs zs us ws Q I r r' h
  obtain ⟨a, ns, d, rfl, rfl, hs, q⟩ := h
  obtain ⟨u, rfl, ru⟩ := vals1 r
  obtain ⟨z, rfl, rz⟩ := vals1 r'
  cases ru
  obtain ⟨its, rv, hl, _⟩ := I.list hs
  obtain ⟨as, hr⟩ := reads_ints (h := s.heap) rv
  have dp := depth_ints ns
  refine PySem.W.min_list_default (l := a) (vs := its.toArray) (xs := ns.map PyData.int) (d := z) (I.ok.hd hc) hl.isList hr (alike_ints ns) (by omega) (fun e h' tk k => ?_) fun y ys i v h' tk bs e _ rd k => ?_
  · cases ns with
    | nil => exact ⟨d, H, I.kept k, rz, q⟩
    | cons n r => cases e
  · cases ns with
    | nil => cases e
    | cons n r =>
      rw [List.map_cons] at e
      obtain ⟨rfl, rfl⟩ := List.cons.inj e
      rw [PySem.W.minD_ints] at rd
      cases rd with
      | int _ t => exact ⟨.int (r.foldl min n), H, I.kept k, ⟨t, rfl⟩, q⟩
theorem cr_minI (hc : X.calm = true) (hu : X.A.units + 8 < cLine) : CallR X (.builtin "min") (RMinI X.K) := by
  intro pins s σ H vs us Q I r h
  obtain ⟨a, n, r', rfl, hs, q⟩ := h
  obtain ⟨u, rfl, ru⟩ := vals1 r
  cases ru
  obtain ⟨its, rv, hl, _⟩ := I.list hs
  obtain ⟨as, hr⟩ := reads_ints (h := s.heap) rv
  have dp := depth_ints (n :: r')
  refine PySem.W.min_list_data (l := a) (vs := its.toArray) (x := .int n) (xs := r'.map PyData.int) (I.ok.hd hc) hl.isList hr (alike_ints (n :: r')) (by simp only [List.map_cons] at dp; omega) fun i v h' tk bs _ rd k => ?_
  rw [PySem.W.minD_ints] at rd
  cases rd with
  | int _ t => exact ⟨.int (r'.foldl min n), H, I.kept k, ⟨t, rfl⟩, q⟩
theorem cr_maxI (hc : X.calm = true) (hu : X.A.units + 8 < cLine) : CallR X (.builtin "max") (RMaxI X.K) := by
  intro pins s σ H vs us Q I r h
  obtain ⟨a, n, r', rfl, hs, q⟩ := h
  obtain ⟨u, rfl, ru⟩ := vals1 r
  cases ru
  obtain ⟨its, rv, hl, _⟩ := I.list hs
  obtain ⟨as, hr⟩ := reads_ints (h := s.heap) rv
  have dp := depth_ints (n :: r')
  refine PySem.W.max_list_data (l := a) (vs := its.toArray) (x := .int n) (xs := r'.map PyData.int) (I.ok.hd hc) hl.isList hr (alike_ints (n :: r')) (by simp only [List.map_cons] at dp; omega) fun i v h' tk bs _ rd k => ?_
  rw [PySem.W.maxD_ints] at rd
  cases rd with
  | int _ t => exact ⟨.int (r'.foldl max n), H, I.kept k, ⟨t, rfl⟩, q⟩
def RRep (K : PySem.W.Frag) : List V → Hp → VK → Prop := fun vs H Q => ∃ v d, vs = [v] ∧ Dt K H v d ∧ reprC d ∧ Q (.str d.shown) H
theorem cr_repr (hg : X.A.guards = some []) (hu : X.A.units + 64 < cLine) : CallR X (.builtin "repr") (RRep X.K) := by
  intro pins s σ H vs us Q I r h
  obtain ⟨v, d, rfl, t, ⟨c1, c2, c3, c4⟩, q⟩ := h
  obtain ⟨u, rfl, ru⟩ := vals1 r
  obtain ⟨as, rd⟩ := Dt.reads I d v u t ru
  have big : ∀ {a : Addr}, u = .ref a → wpAny (model X.prog X.w) X.A (call (.builtin "repr") [u]) (EP X pins σ Q) X.xe s := fun {a} e => by
    subst e
    exact repr_of_reads' rd c1 (PyData.noDict_hsm c4) hg (by omega) (fun _ _ e => e) (fun h' u tk k => ⟨.str d.shown, H, I.kept k, ⟨u, rfl⟩, q⟩) c2
  cases rd with
  | none => exact PySem.P.repr_of_none ⟨.str (PyData.shown .none), H, I.tok _, ⟨_, rfl⟩, q⟩
  | bool b => exact PySem.P.repr_of_bool ⟨.str (PyData.shown (.bool b)), H, I.tok _, ⟨_, by cases b <;> rfl⟩, q⟩
  | int i t => exact PySem.P.repr_of_int (by simpa [PyData.showable] using c1) ⟨.str (PyData.shown (.int i)), H, I.tok _, ⟨_, rfl⟩, q⟩
  | str x t => exact PySem.P.repr_of_str (hsz := c2) ⟨.str (PyData.shown (.str x)), H, I.tok _, ⟨_, rfl⟩, q⟩
  | list => exact big rfl
  | tuple => exact big rfl
  | dict => exact big rfl
theorem p_minD {K : PySem.W.Frag} : Op2 K (fun x y H Q => RMinD K [x] [y] H Q) minDP := fun x y dx dy G H Φ Q e rx ry p o => by
  unfold minDP at p
  split at p
  · obtain ⟨a, ns, rfl, _, h, q⟩ := rd_ints e rx p
    refine ⟨a, ns, y, rfl, rfl, .of h, ?_⟩
    cases ns with
    | nil =>
      have o1 := o.val e q (.int _)
      rw [rd_int ry]
      exact o1
    | cons n r => exact o.val e q (.int _)
  · exact p.elim
theorem p_minI {K : PySem.W.Frag} : Op1 K (fun x H Q => RMinI K [x] H Q) minP := fun x dx G H Φ Q e rx p o => by
  obtain ⟨a, ns, rfl, _, h, q⟩ := rd_ints e rx p
  cases ns with
  | nil => exact q.elim
  | cons n r => exact ⟨a, n, r, rfl, .of h, o.val e q (.int _)⟩
theorem p_maxI {K : PySem.W.Frag} : Op1 K (fun x H Q => RMaxI K [x] H Q) maxP := fun x dx G H Φ Q e rx p o => by
  obtain ⟨a, ns, rfl, _, h, q⟩ := rd_ints e rx p
  cases ns with
  | nil => exact q.elim
  | cons n r => exact ⟨a, n, r, rfl, .of h, o.val e q (.int _)⟩
theorem p_repr {K : PySem.W.Frag} : Op1 K (fun x H Q => RRep K [x] H Q) reprP := fun x dx G H Φ Q e rx p o => ⟨x, dx, rfl, rx.now e, p.1, o.val e p.2 (.str _)⟩
variable {e ed a b : Expr} {f fd fa fb : DF} {p pos kp : Pos} {x : Str}
/-- f(e), f(e, e2): f a built-in -/
theorem de_b1 {id : String} {r : List V → Hp → VK → Prop} {P : PyData → (Hd → Prop) → Prop} (hc : CallR X (.builtin id) r) (hd : Op1 X.K (fun x H Q => r [x] H Q) P) (hm : X.mg x = none) (hv : bootBuiltins x = some (.builtin id)) (he : PE X e (dE X.K f)) (hg : Gl X x := by rfl) (hn : x ≠ "__name__" := by decide) (hdb : (x == ("__debug__" : Str)) = false := by decide)
    (h1 : starEach [e] X.env = (false, eval e X.env) :: starEach [] X.env := by rfl) (hpl : (backTo pos (starEach [] X.env)).any (·.1) = false := by rfl) : PE X (.Call (.Name x p) [e] [] pos) (dE X.K (unF P f)) :=
  PEw (pe_callB hc hg hm hv (pa_cons he pa_nil h1) hn hdb h1 hpl) (r_c1 hd)
theorem de_ty1 {T : String} {r : List V → Hp → VK → Prop} {P : PyData → (Hd → Prop) → Prop} (hc : CallR X (.type T) r) (hd : Op1 X.K (fun x H Q => r [x] H Q) P) (hm : X.mg x = none) (hv : bootBuiltins x = some (.type T)) (he : PE X e (dE X.K f)) (hg : Gl X x := by rfl) (hn : x ≠ "__name__" := by decide) (hdb : (x == ("__debug__" : Str)) = false := by decide)
    (h1 : starEach [e] X.env = (false, eval e X.env) :: starEach [] X.env := by rfl) (hpl : (backTo pos (starEach [] X.env)).any (·.1) = false := by rfl) : PE X (.Call (.Name x p) [e] [] pos) (dE X.K (unF P f)) :=
  PEw (pe_callTy hc hg hm hv (pa_cons he pa_nil h1) hn hdb h1 hpl) (r_c1 hd)
theorem de_len (hm : X.mg "len" = none) (he : PE X e (dE X.K f)) (hg : Gl X "len" := by rfl) (h1 : starEach [e] X.env = (false, eval e X.env) :: starEach [] X.env := by rfl) (hpl : (backTo pos (starEach [] X.env)).any (·.1) = false := by rfl) : PE X (.Call (.Name "len" p) [e] [] pos) (dE X.K (unF lenP f)) :=
  de_b1 (r := RLen X.K) call_len_seq p_len hm PySem.boot_len he hg (by decide) (by decide) h1 hpl
theorem de_sum (hc : X.calm = true) (hm : X.mg "sum" = none) (he : PE X e (dE X.K f)) (hg : Gl X "sum" := by rfl) (h1 : starEach [e] X.env = (false, eval e X.env) :: starEach [] X.env := by rfl) (hpl : (backTo pos (starEach [] X.env)).any (·.1) = false := by rfl) : PE X (.Call (.Name "sum" p) [e] [] pos) (dE X.K (unF sumP f)) :=
  de_b1 (cr_sum hc) p_sum hm PyProof.Rows.boot_sum he hg (by decide) (by decide) h1 hpl
theorem de_all (hc : X.calm = true) (hm : X.mg "all" = none) (he : PE X e (dE X.K f)) (hg : Gl X "all" := by rfl) (h1 : starEach [e] X.env = (false, eval e X.env) :: starEach [] X.env := by rfl) (hpl : (backTo pos (starEach [] X.env)).any (·.1) = false := by rfl) : PE X (.Call (.Name "all" p) [e] [] pos) (dE X.K (unF allP f)) :=
  de_b1 (cr_all hc) p_all hm PyProof.Rows.boot_all he hg (by decide) (by decide) h1 hpl
theorem de_any (hc : X.calm = true) (hm : X.mg "any" = none) (he : PE X e (dE X.K f)) (hg : Gl X "any" := by rfl) (h1 : starEach [e] X.env = (false, eval e X.env) :: starEach [] X.env := by rfl) (hpl : (backTo pos (starEach [] X.env)).any (·.1) = false := by rfl) : PE X (.Call (.Name "any" p) [e] [] pos) (dE X.K (unF anyP f)) :=
  de_b1 (cr_any hc) p_any hm PyProof.Rows.boot_any he hg (by decide) (by decide) h1 hpl
theorem de_abs (hm : X.mg "abs" = none) (he : PE X e (dE X.K f)) (hg : Gl X "abs" := by rfl) (h1 : starEach [e] X.env = (false, eval e X.env) :: starEach [] X.env := by rfl) (hpl : (backTo pos (starEach [] X.env)).any (·.1) = false := by rfl) : PE X (.Call (.Name "abs" p) [e] [] pos) (dE X.K (unF absP f)) :=
  de_b1 (r := RAbs) call_abs p_abs hm PyProof.Rows.boot_abs he hg (by decide) (by decide) h1 hpl
theorem de_min (hc : X.calm = true) (hu : X.A.units + 8 < cLine) (hm : X.mg "min" = none) (he : PE X e (dE X.K f)) (hg : Gl X "min" := by rfl) (h1 : starEach [e] X.env = (false, eval e X.env) :: starEach [] X.env := by rfl) (hpl : (backTo pos (starEach [] X.env)).any (·.1) = false := by rfl) : PE X (.Call (.Name "min" p) [e] [] pos) (dE X.K (unF minP f)) :=
  de_b1 (cr_minI hc hu) p_minI hm PyProof.Rows.boot_min he hg (by decide) (by decide) h1 hpl
theorem de_max (hc : X.calm = true) (hu : X.A.units + 8 < cLine) (hm : X.mg "max" = none) (he : PE X e (dE X.K f)) (hg : Gl X "max" := by rfl) (h1 : starEach [e] X.env = (false, eval e X.env) :: starEach [] X.env := by rfl) (hpl : (backTo pos (starEach [] X.env)).any (·.1) = false := by rfl) : PE X (.Call (.Name "max" p) [e] [] pos) (dE X.K (unF maxP f)) :=
  de_b1 (cr_maxI hc hu) p_maxI hm PyProof.Rows.boot_max he hg (by decide) (by decide) h1 hpl
theorem de_repr (hgd : X.A.guards = some []) (hu : X.A.units + 64 < cLine) (hm : X.mg "repr" = none) (he : PE X e (dE X.K f)) (hg : Gl X "repr" := by rfl) (h1 : starEach [e] X.env = (false, eval e X.env) :: starEach [] X.env := by rfl) (hpl : (backTo pos (starEach [] X.env)).any (·.1) = false := by rfl) : PE X (.Call (.Name "repr" p) [e] [] pos) (dE X.K (unF reprP f)) :=
  de_b1 (cr_repr hgd hu) p_repr hm PyProof.Rows.boot_repr he hg (by decide) (by decide) h1 hpl
theorem de_toTup (hm : X.mg "tuple" = none) (he : PE X e (dE X.K f)) (hg : Gl X "tuple" := by rfl) (h1 : starEach [e] X.env = (false, eval e X.env) :: starEach [] X.env := by rfl) (hpl : (backTo pos (starEach [] X.env)).any (·.1) = false := by rfl) : PE X (.Call (.Name "tuple" p) [e] [] pos) (dE X.K (unF toTupP f)) :=
  de_ty1 (r := RTup X.K) call_tuple_of p_toTup hm PyProof.Rows.boot_tuple he hg (by decide) (by decide) h1 hpl
theorem de_toLst (hm : X.mg "list" = none) (he : PE X e (dE X.K f)) (hg : Gl X "list" := by rfl) (h1 : starEach [e] X.env = (false, eval e X.env) :: starEach [] X.env := by rfl) (hpl : (backTo pos (starEach [] X.env)).any (·.1) = false := by rfl) : PE X (.Call (.Name "list" p) [e] [] pos) (dE X.K (unF toLstP f)) :=
  de_ty1 (r := RLst X.K) call_list_of p_toLst hm PyProof.Rows.boot_list he hg (by decide) (by decide) h1 hpl
theorem de_toInt (hm : X.mg "int" = none) (he : PE X e (dE X.K f)) (hg : Gl X "int" := by rfl) (h1 : starEach [e] X.env = (false, eval e X.env) :: starEach [] X.env := by rfl) (hpl : (backTo pos (starEach [] X.env)).any (·.1) = false := by rfl) : PE X (.Call (.Name "int" p) [e] [] pos) (dE X.K (unF toIntP f)) :=
  de_ty1 (r := RInt) call_int1 p_toInt hm PyProof.Rows.boot_int he hg (by decide) (by decide) h1 hpl
theorem de_gcd (hm : X.mg x = some (.builtin "math.gcd")) (ha : PE X a (dE X.K fa)) (hb : PE X b (dE X.K fb)) (hg : Gl X x := by rfl) (hdb : (x == ("__debug__" : Str)) = false := by decide)
    (h1 : starEach [a, b] X.env = (false, eval a X.env) :: starEach [b] X.env := by rfl) (h2 : starEach [b] X.env = (false, eval b X.env) :: starEach [] X.env := by rfl) (hpl : (backTo pos (starEach [b] X.env)).any (·.1) = false := by rfl) : PE X (.Call (.Name x p) [a, b] [] pos) (dE X.K (opF gcdP fa fb)) :=
  PEw (pe_callBfun cr_gcd hg hm (pa_cons ha (pa_cons hb pa_nil h2) h1) hdb h1 hpl) (r_c2 p_gcd)
theorem de_minD (hc : X.calm = true) (hu : X.A.units + 8 < cLine) (hm : X.mg "min" = none) (he : PE X e (dE X.K f)) (hd : PE X ed (dE X.K fd)) (hg : Gl X "min" := by rfl) (h1 : starEach [e] X.env = (false, eval e X.env) :: starEach [] X.env := by rfl)
    (h2 : backTo pos (starEach [e] X.env) = (false, eval e X.env) :: backTo pos (starEach [] X.env) := by rfl) (hpl : (backTo pos (starEach [e] X.env)).any (·.1) = false := by rfl)
    (h3 : (backToKw pos (keywordEach [⟨some "default", ed, kp⟩] X.env)).all (·.1.isSome) = true := by rfl) (h4 : (backToKw pos (keywordEach [⟨some "default", ed, kp⟩] X.env)).any (·.1.isNone) = false := by rfl) (h5 : (backToKw pos (keywordEach [⟨some "default", ed, kp⟩] X.env)).filterMap (·.1) = [("default" : Str)] := by rfl) :
    PE X (.Call (.Name "min" p) [e] [⟨some "default", ed, kp⟩] pos) (dE X.K (opF minDP f fd)) :=
  PEw (pe_callBK (cr_minD hc hu) hg hm PyProof.Rows.boot_min (pa_cons he pa_nil h1) (pk_cons hd pk_nil) (by decide) (by decide) h2 hpl h3 h4 h5) (r_op p_minD)
end
end Dat


set_option Elab.async false
set_option linter.all false
set_option maxRecDepth 100000
set_option maxHeartbeats 4000000
/-! DatJ: enumerate, zip by data. -/
namespace Dat
open PySem L2

def itEn (fl : LF) : IF := fun ρ Φ => fl ρ fun ds ρ1 => match ds with
  | [d] => seqP d fun xs => Φ .free (enumD 0 xs) ρ1
  | _ => False
def itZip (fl : LF) : IF := fun ρ Φ => fl ρ fun ds ρ1 => match ds with
  | [d, e] => seqP d fun xs => seqP e fun ys => Φ .free (zipD xs ys) ρ1
  | _ => False
section
variable {K : PySem.W.Frag} {B : Hp × Hp} {S : Sr} {ρ ρ' ρ1 ρ2 : Rho} {σ σ' : St} {G H G' H' G1 H1 G2 H2 : Hp}
theorem dt_seqA {v : V} {d : PyData} {k : List PyData → Prop} (t : Dt K G v d) (p : seqP d k) : ∃ a vs ds ka, v = .ref a ∧ SqA K G a vs ka ∧ DtAll K G vs ds ∧ k ds := by
  unfold seqP at p
  split at p
  · cases t with
    | lst hs ta => exact ⟨_, _, _, false, rfl, SqL.of hs, ta, p⟩
  · cases t with
    | tup hs ta => exact ⟨_, _, _, true, rfl, hs, ta, p⟩
  · exact p.elim
theorem Same.seqA {a : Addr} {xs : List V} (e : Same G H) : ∀ {k}, SqA K G a xs k → SqA K H a xs k
  | true, h => Same.seqT e h
  | false, h => e.seq h
theorem vals_1 {vs : List V} {d : PyData} (t : DtAll K G vs [d]) : ∃ v, vs = [v] ∧ Dt K G v d := by
  cases t with
  | cons t1 t2 => cases t2; exact ⟨_, rfl, t1⟩
theorem vals_2 {vs : List V} {d e : PyData} (t : DtAll K G vs [d, e]) : ∃ v u, vs = [v, u] ∧ Dt K G v d ∧ Dt K G u e := by
  cases t with
  | cons t1 t2 =>
    obtain ⟨u, rfl, t3⟩ := vals_1 t2
    exact ⟨_, _, rfl, t1, t3⟩
end
section
variable {X : Cx} {e e2 : Expr} {fl : LF} {p pos tpos : Pos} {elts : List Expr} {kk : Nat}
theorem di_enum (hm : X.mg "enumerate" = none) (ha : PA X [e] (dL X.K fl)) (hg : Gl X "enumerate" := by rfl) (hs : starEach [e] X.env = [(false, eval e X.env)] := by rfl) :
    PI X (.Tuple elts kk tpos) (.Call (.Name "enumerate" p) [e] [] pos) (dI X.K (itEn fl)) :=
  PIw (pi_enum2 hg hm ha hs) fun σ H R ⟨B, S, ρ, G, Φ, g, q, k⟩ => ⟨B, S, ρ, G, _, g, q, fun ds vs ρ1 G1 H1 f1 g1 s1 t1 => by
    split at f1
    · obtain ⟨v, rfl, t⟩ := vals_1 t1
      obtain ⟨a, us, xs, ka, rfl, hs, ta, q1⟩ := dt_seqA t f1
      refine ⟨a, us, ka, rfl, Same.seqA g1.ing hs, k _ _ ρ1 G1 H1 _ q1 g1 s1 ?_⟩
      refine it_pair walk_enum2 (by rw [enumD_len, ta.length]) (fun ρ σ' G H g e _ _ => Same.seqA g.ing (Same.seqA e hs)) fun i x y ρ σ' G H g e _ _ hx hy => ?_
      obtain ⟨d, h1, h2⟩ := ta.getV hy
      cases hx
      refine ⟨_, _, enumD_get 0 xs i d h1, ?_, Dt.mono e d h2⟩
      rw [Int.zero_add]; exact .int _
    · exact f1.elim⟩
theorem di_zip (hm : X.mg "zip" = none) (ha : PA X [e, e2] (dL X.K fl)) (hg : Gl X "zip" := by rfl)
    (hs : starEach [e, e2] X.env = (false, eval e X.env) :: starEach [e2] X.env := by rfl) (hpl : (backTo pos (starEach [e2] X.env)).any (·.1) = false := by rfl) :
    PI X (.Tuple elts kk tpos) (.Call (.Name "zip" p) [e, e2] [] pos) (dI X.K (itZip fl)) :=
  PIw (pi_zip2 hg hm ha hs hpl) fun σ H R ⟨B, S, ρ, G, Φ, g, q, k⟩ => ⟨B, S, ρ, G, _, g, q, fun ds vs ρ1 G1 H1 f1 g1 s1 t1 => by
    split at f1
    · obtain ⟨v, u, rfl, tv, tu⟩ := vals_2 t1
      obtain ⟨a, us, xs, ka, rfl, hs, ta, q1⟩ := dt_seqA tv f1
      obtain ⟨b, ws, ys, kb, rfl, hs2, tb, q2⟩ := dt_seqA tu q1
      refine ⟨a, b, us, ws, ka, kb, rfl, Same.seqA g1.ing hs, Same.seqA g1.ing hs2, k _ _ ρ1 G1 H1 _ q2 g1 s1 ?_⟩
      refine it_pair walk_zip2 (by rw [zipD_len, ta.length, tb.length]) (fun ρ σ' G H g e _ _ => ⟨Same.seqA g.ing (Same.seqA e hs), Same.seqA g.ing (Same.seqA e hs2)⟩) fun i x y ρ σ' G H g e _ _ hx hy => ?_
      obtain ⟨d, h1, h2⟩ := ta.getV hx
      obtain ⟨d', h3, h4⟩ := tb.getV hy
      exact ⟨_, _, zipD_get xs ys i d d' h1 h3, Dt.mono e d h2, Dt.mono e d' h4⟩
    · exact f1.elim⟩
end
end Dat


set_option Elab.async false
set_option linter.all false
set_option maxRecDepth 100000
set_option maxHeartbeats 4000000
/-! DatK: what the printed walks name; plain lemmas of walks. -/
namespace Dat
open PySem L2

theorem okC {N : List Str} {sc scope : Scope} {own : List (Str × Nat)} (h : blkC N sc scope own = true) : blkC N sc scope own = true := h
structure Cal (P : Program) (w : World) (K : PySem.W.Frag) (mg : Str → Option Value) (base : Heap) (k : Nat) (x : Str) (n : Nat) (C : CF) : Prop where
  ex : ∃ f fd ps, FnOk P w K mg base CX0 k f fd ps (spD K n C) ∧ mg x = some (.ref f) ∧ PySem.W.keepIn K (.ref f) = true ∧ Binds K fd ps []
theorem Cal.mono {P : Program} {w : World} {K : PySem.W.Frag} {mg : Str → Option Value} {base : Heap} {k j n : Nat} {x : Str} {C : CF} (c : Cal P w K mg base k x n C) (h : k ≤ j) : Cal P w K mg base j x n C := by
  obtain ⟨f, fd, ps, h1, h2⟩ := c.ex
  exact ⟨f, fd, ps, h1.mono h, h2⟩
def callC (n : Nat) (C : CF) (F : AF) : DF := callF (fun as Φ => as.length = n ∧ C as Φ) F
theorem de_callC {X : Cx} {e : Expr} {es : List Expr} {pos p : Pos} {F : AF} {k n : Nat} {x : Str} {C : CF} (c : Cal X.prog X.w X.K X.mg X.base k x n C) (hr : Room k X.A) (hl : (e :: es).length = n) (ha : PA X (e :: es) (dA X.K F)) (hg : Gl X x := by rfl) (hdb : (x == ("__debug__" : Str)) = false := by decide)
    (he : starEach (e :: es) X.env = (false, eval e X.env) :: starEach es X.env := by rfl) (hpl : (backTo pos (starEach es X.env)).any (·.1) = false := by rfl) : PE X (.Call (.Name x p) (e :: es) [] pos) (dE X.K (callC n C F)) := by
  obtain ⟨f, fd, ps, h1, h2, h3, h4⟩ := c.ex
  exact de_call h1 hr h2 h3 h4 hl ha hg hdb he hpl
def callS (q n : Nat) (C : CF) (F : AF) : DF := callFs q (fun as Φ => as.length = n ∧ C as Φ) F
theorem de_callSC (q : Nat) {X : Cx} {e : Expr} {es : List Expr} {pos p : Pos} {F : AF} {k n : Nat} {x : Str} {C : CF} (c : Cal X.prog X.w X.K X.mg X.base k x n C) (hr : Room k X.A) (hl : (e :: es).length = n) (ha : PA X (e :: es) (dA X.K F)) (hg : Gl X x := by rfl) (hdb : (x == ("__debug__" : Str)) = false := by decide)
    (he : starEach (e :: es) X.env = (false, eval e X.env) :: starEach es X.env := by rfl) (hpl : (backTo pos (starEach es X.env)).any (·.1) = false := by rfl) : PE X (.Call (.Name x p) (e :: es) [] pos) (dE X.K (callS q n C F)) := by
  obtain ⟨f, fd, ps, h1, h2, h3, h4⟩ := c.ex
  exact de_callS q h1 hr h2 h3 h4 hl ha hg hdb he hpl
theorem _root_.L2.Room.u65 {k : Nat} {A : Around} (r : Room k A) : A.units + 65 < cLine := by have := r.un; omega
theorem _root_.L2.Room.u8 {k : Nat} {A : Around} (r : Room k A) : A.units + 8 < cLine := by have := r.un; omega
abbrev itR1 (fl : LF) : IF := itR fun ρ Φ => fl ρ fun ds ρ1 => ds.length = 1 ∧ Φ ds ρ1
abbrev itR2 (fl : LF) : IF := itR fun ρ Φ => fl ρ fun ds ρ1 => ds.length = 2 ∧ Φ ds ρ1
def vandF (fa fb : DF) : DF := fun ρ Φ => fa ρ fun h ρ1 => boolP h fun t => brP t (fb ρ1 Φ) (Φ (.val (.bool false)) ρ1)
def vorF (fa fb : DF) : DF := fun ρ Φ => fa ρ fun h ρ1 => boolP h fun t => brP t (Φ (.val (.bool true)) ρ1) (fb ρ1 Φ)
def vnotF (fa : DF) : DF := fun ρ Φ => fa ρ fun h ρ1 => boolP h fun t => Φ (.val (.bool (!t))) ρ1

/-! ### plain: comprehensions -/
/-- any outcomes: R x d, the slots outside as they were -/
theorem cmp_rel0 {α : Type} {c : Cond} {bd : GF} {tt : BF} {elt : DF} {vs : List Nat} {ρ0 : Rho} {enc : α → PyData} {R : α → Option PyData → Prop} (hok : c.ok ρ0) : ∀ (ys : List α)
    (step : ∀ y ∈ ys, ∀ N : Option PyData → Rho → Prop, (∀ o, R y o → N o ρ0) → bd (enc y) ρ0 fun ρ1 => tt ρ1 fun b ρ2 => brP b (elt ρ2 fun h ρ3 => datOf h ρ3 fun d ρ4 => N (some d) (clr vs ρ4)) (N none (clr vs ρ2)))
    (acc : List PyData) (Φ : List PyData → Rho → Prop) (_ : ∀ os : List (Option PyData), os.length = ys.length → (∀ (i : Nat) y o, ys[i]? = some y → os[i]? = some o → R y o) → Φ (acc ++ os.filterMap id) ρ0), cmp c bd tt elt vs (ys.map enc) acc ρ0 Φ
  | [], _, acc, Φ, h => ⟨hok, by simpa using h [] rfl (by simp)⟩
  | y :: ys, step, acc, Φ, h => by
    refine ⟨hok, ?_⟩
    have rest := fun (o : Option PyData) (ro : R y o) (acc' : List PyData) (ea : acc' = acc ++ [o].filterMap id) => cmp_rel0 (R := R) hok ys (fun z hz => step z (List.mem_cons_of_mem _ hz)) acc' Φ fun os hl ho => by
      have := h (o :: os) (by simp [hl]) fun i z p hz hp => by
        cases i with
        | zero => simp at hz hp; subst hz hp; exact ro
        | succ i => exact ho i z p (by simpa using hz) (by simpa using hp)
      rw [ea]
      cases o <;> simpa using this
    refine step y (List.mem_cons_self ..) (fun o ρ => match o with | some d => cmp c bd tt elt vs (ys.map enc) (acc ++ [d]) ρ Φ | none => cmp c bd tt elt vs (ys.map enc) acc ρ Φ) fun o ro => ?_
    cases o with
    | some d => exact rest (some d) ro (acc ++ [d]) (by simp)
    | none => exact rest none ro acc (by simp)
theorem cmp_rel {α : Type} {c : Cond} {bd : GF} {tt : BF} {elt : DF} {vs : List Nat} {ρ0 : Rho} {enc : α → PyData} (R : α → Option PyData → Prop) (ys : List α) {acc : List PyData} {Φ : List PyData → Rho → Prop}
    (step : ∀ y ∈ ys, ∀ N : Option PyData → Rho → Prop, (∀ o, R y o → N o ρ0) → bd (enc y) ρ0 fun ρ1 => tt ρ1 fun b ρ2 => brP b (elt ρ2 fun h ρ3 => datOf h ρ3 fun d ρ4 => N (some d) (clr vs ρ4)) (N none (clr vs ρ2)))
    (h : ∀ os : List (Option PyData), os.length = ys.length → (∀ (i : Nat) y o, ys[i]? = some y → os[i]? = some o → R y o) → Φ (acc ++ os.filterMap id) ρ0) (hok : c.ok ρ0 := by first | exact trivial | exact rfl) : cmp c bd tt elt vs (ys.map enc) acc ρ0 Φ := cmp_rel0 hok ys step acc Φ h
/-- the outcome of each is told -/
theorem cmp_fm {α : Type} {c : Cond} {bd : GF} {tt : BF} {elt : DF} {vs : List Nat} {ρ0 : Rho} {enc : α → PyData} (out : α → Option PyData) (ys : List α) {acc : List PyData} {Φ : List PyData → Rho → Prop}
    (step : ∀ y ∈ ys, ∀ N : Option PyData → Rho → Prop, N (out y) ρ0 → bd (enc y) ρ0 fun ρ1 => tt ρ1 fun b ρ2 => brP b (elt ρ2 fun h ρ3 => datOf h ρ3 fun d ρ4 => N (some d) (clr vs ρ4)) (N none (clr vs ρ2)))
    (h : Φ (acc ++ ys.filterMap out) ρ0) (hok : c.ok ρ0 := by first | exact trivial | exact rfl) : cmp c bd tt elt vs (ys.map enc) acc ρ0 Φ :=
  cmp_rel0 (R := fun y o => o = out y) hok ys (fun y hy N hN => step y hy N (hN _ rfl)) acc Φ fun os hl ho => by
    have : os = ys.map out := by
      apply List.ext_getElem?
      intro i
      rw [List.getElem?_map]
      cases e : ys[i]? with
      | none =>
        show os[i]? = none
        rw [List.getElem?_eq_none_iff] at e ⊢; omega
      | some y =>
        have hi := (List.getElem?_eq_some_iff.mp e).1
        have ho' := ho i y _ e (List.getElem?_eq_getElem (by omega))
        rw [List.getElem?_eq_getElem (by omega), ho']; rfl
    rw [this, List.filterMap_map]
    exact h
theorem cmp_map {α : Type} {c : Cond} {bd : GF} {elt : DF} {vs : List Nat} {ρ0 : Rho} {enc : α → PyData} (f : α → PyData) (ys : List α) {acc : List PyData} {Φ : List PyData → Rho → Prop}
    (step : ∀ y ∈ ys, ∀ N : Option PyData → Rho → Prop, N (some (f y)) ρ0 → bd (enc y) ρ0 fun ρ1 => brP true (elt ρ1 fun h ρ3 => datOf h ρ3 fun d ρ4 => N (some d) (clr vs ρ4)) (N none (clr vs ρ1)))
    (h : Φ (acc ++ ys.map f) ρ0) (hok : c.ok ρ0 := by first | exact trivial | exact rfl) : cmp c bd yesF elt vs (ys.map enc) acc ρ0 Φ :=
  cmp_fm (out := fun y => some (f y)) ys (fun y hy N hN => step y hy N hN) (by simpa using h) hok
/-- each yields something -/
theorem cmp_each {α : Type} {c : Cond} {bd : GF} {elt : DF} {vs : List Nat} {ρ0 : Rho} {enc : α → PyData} (R : α → PyData → Prop) (ys : List α) {acc : List PyData} {Φ : List PyData → Rho → Prop}
    (step : ∀ y ∈ ys, ∀ N : Option PyData → Rho → Prop, (∀ d, R y d → N (some d) ρ0) → bd (enc y) ρ0 fun ρ1 => brP true (elt ρ1 fun h ρ3 => datOf h ρ3 fun d ρ4 => N (some d) (clr vs ρ4)) (N none (clr vs ρ1)))
    (h : ∀ ds : List PyData, ds.length = ys.length → (∀ (i : Nat) y d, ys[i]? = some y → ds[i]? = some d → R y d) → Φ (acc ++ ds) ρ0) (hok : c.ok ρ0 := by first | exact trivial | exact rfl) : cmp c bd yesF elt vs (ys.map enc) acc ρ0 Φ :=
  cmp_rel0 (R := fun y o => ∃ d, o = some d ∧ R y d) hok ys (fun y hy N hN => step y hy N fun d rd => hN _ ⟨d, rfl, rd⟩) acc Φ fun os hl ho => by
    have all : ∀ o ∈ os, ∃ d, o = some d := fun o hm => by
      obtain ⟨i, hi, e⟩ := List.mem_iff_getElem.mp hm
      obtain ⟨d, e2, _⟩ := ho i ys[i] o (List.getElem?_eq_getElem (by omega)) (by rw [List.getElem?_eq_getElem hi, e])
      exact ⟨d, e2⟩
    have : ∃ ds : List PyData, os = ds.map some := by
      clear ho hl
      induction os with
      | nil => exact ⟨[], rfl⟩
      | cons o os ih =>
        obtain ⟨d, rfl⟩ := all o (List.mem_cons_self ..)
        obtain ⟨ds, rfl⟩ := ih fun o hm => all o (List.mem_cons_of_mem _ hm)
        exact ⟨d :: ds, rfl⟩
    obtain ⟨ds, rfl⟩ := this
    have e : (ds.map some).filterMap id = ds := by simp [List.filterMap_map]
    rw [e]
    exact h ds (by simpa using hl) fun i y d hy hd => by
      obtain ⟨d', e1, e2⟩ := ho i y (some d) hy (by simp [hd])
      cases e1; exact e2
theorem clr_at : ∀ (vs : List Nat) (ρ : Rho) (i : Nat), (clr vs ρ)[i]? = if i ∈ vs then ρ[i]?.map fun _ => Slot.un else ρ[i]?
  | [], ρ, i => by simp [clr]
  | v :: vs, ρ, i => by
    unfold clr
    by_cases h : v = i
    · subst h
      rw [if_pos (List.mem_cons_self ..)]
      by_cases hl : v < ρ.length
      · rw [List.getElem?_set_self (by rw [clr_len]; exact hl), List.getElem?_eq_getElem hl]; rfl
      · rw [List.getElem?_eq_none (by rw [List.length_set, clr_len]; omega), List.getElem?_eq_none (by omega)]; rfl
    · rw [List.getElem?_set_ne h, clr_at vs ρ i]
      have : i ∈ v :: vs ↔ i ∈ vs := by simp [Ne.symm h]
      by_cases h2 : i ∈ vs
      · rw [if_pos h2, if_pos (this.mpr h2)]
      · rw [if_neg h2, if_neg fun z => h2 (this.mp z)]
theorem clr_clr (vs : List Nat) (ρ : Rho) : clr vs (clr vs ρ) = clr vs ρ := by
  apply List.ext_getElem?
  intro i
  rw [clr_at vs (clr vs ρ), clr_at]
  split
  · cases ρ[i]? <;> rfl
  · rfl
/-- each yields something, the state goes on -/
theorem cmp_src {α : Type} {c : Cond} {bd : GF} {elt : DF} {vs : List Nat} {enc : α → PyData} (R : α → PyData → Prop) (hok : ∀ ρ, c.ok ρ) {Φ : List PyData → Rho → Prop} : ∀ (ys : List α) (ρf : Nat → Rho) (acc : List PyData)
    (_ : ∀ (i : Nat) y, ys[i]? = some y → ∀ N : Option PyData → Rho → Prop, (∀ d, R y d → N (some d) (ρf (i + 1))) → bd (enc y) (ρf i) fun ρ2 => brP true (elt ρ2 fun h ρ3 => datOf h ρ3 fun d ρ4 => N (some d) (clr vs ρ4)) (N none (clr vs ρ2)))
    (_ : ∀ ds : List PyData, ds.length = ys.length → (∀ (i : Nat) y d, ys[i]? = some y → ds[i]? = some d → R y d) → Φ (acc ++ ds) (ρf ys.length)), cmp c bd yesF elt vs (ys.map enc) acc (ρf 0) Φ
  | [], ρf, acc, _, h => ⟨hok _, by simpa using h [] rfl (by simp)⟩
  | y :: ys, ρf, acc, step, h => by
    refine ⟨hok _, ?_⟩
    refine step 0 y rfl (fun o ρ => match o with | some d => cmp c bd yesF elt vs (ys.map enc) (acc ++ [d]) ρ Φ | none => cmp c bd yesF elt vs (ys.map enc) acc ρ Φ) fun d rd => ?_
    exact cmp_src R hok ys (fun i => ρf (i + 1)) (acc ++ [d]) (fun i z hz N hN => step (i + 1) z (by simpa using hz) N hN) fun ds hl hd => by
      have := h (d :: ds) (by simp [hl]) fun i z e hz he => by
        cases i with
        | zero => simp at hz he; subst hz he; exact rd
        | succ i => exact hd i z e (by simpa using hz) (by simpa using he)
      simpa using this
theorem br_t {A B : Prop} (h : A) : brP true A B := ⟨fun _ => h, fun z => nomatch z⟩
theorem br_f {A B : Prop} (h : B) : brP false A B := ⟨fun z => (nomatch z), fun _ => h⟩
theorem br_d {p A B : Prop} [Decidable p] (h1 : p → A) (h2 : ¬p → B) : brP (decide p) A B := ⟨fun z => h1 (of_decide_eq_true z), fun z => h2 (of_decide_eq_false z)⟩
theorem br_nd {p A B : Prop} [Decidable p] (h1 : ¬p → A) (h2 : p → B) : brP (!decide p) A B := ⟨fun z => h1 (by simpa using z), fun z => h2 (by simpa using z)⟩
theorem enumD_map {α : Type} (g : α → PyData) : ∀ (xs : List α) (k : Nat), enumD (k : Int) (xs.map g) = (xs.zipIdx k).map fun p => PyData.tuple [.int (p.2 : Int), g p.1]
  | [], k => rfl
  | x :: xs, k => by
    have := enumD_map g xs (k + 1)
    simp only [List.map_cons, enumD, List.zipIdx_cons]
    rw [← this]; rfl
theorem enumD_map0 {α : Type} (g : α → PyData) (xs : List α) : enumD 0 (xs.map g) = xs.zipIdx.map fun p => PyData.tuple [.int (p.2 : Int), g p.1] := enumD_map g xs 0
theorem zipD_map {α β : Type} (f : α → PyData) (g : β → PyData) : ∀ (xs : List α) (ys : List β), zipD (xs.map f) (ys.map g) = (xs.zip ys).map fun p => PyData.tuple [f p.1, g p.2]
  | [], _ => by simp [zipD]
  | _ :: _, [] => by simp [zipD]
  | x :: xs, y :: ys => by simp [zipD, zipD_map f g xs ys]
theorem small {n : Nat} (h : n ≤ 1000000) : n ≤ sizeLine := Nat.le_trans h (by decide)
/-! ### plain: for, while -/
theorem forP_ind {α : Type} {bd : GF} {body : SF} {k : Kont} {enc : α → PyData} (I : List α → Rho → Prop) (done : ∀ ρ, I [] ρ → k.nx ρ)
    (step : ∀ y r ρ, I (y :: r) ρ → ∀ N : Rho → Prop, (∀ ρ', I r ρ' → N ρ') → bd (enc y) ρ fun ρ1 => body ρ1 { nx := N, ct := N, bk := k.nx, rt := k.rt }) : ∀ (ys : List α) (ρ : Rho), I ys ρ → forP bd body (ys.map enc) ρ k
  | [], ρ, h => done ρ h
  | y :: ys, ρ, h => step y ys ρ h _ fun ρ' h' => forP_ind I done step ys ρ' h'
end Dat


set_option Elab.async false
set_option linter.all false
set_option maxRecDepth 100000
set_option maxHeartbeats 4000000
/-! DatS: texts compared; what repr can show. -/
namespace Dat
open PySem L2
def rStr2 (g : Str → Str → Bool) : R2 := fun x y H Q => ∃ s t, x = .str s ∧ y = .str t ∧ Q (.bl (g s t)) H
def eqSP (x y : PyData) (k : Hd → Prop) : Prop := match x, y with
  | .str s, .str t => k (.val (.bool (s == t)))
  | _, _ => False
def neSP (x y : PyData) (k : Hd → Prop) : Prop := match x, y with
  | .str s, .str t => k (.val (.bool (s != t)))
  | _, _ => False
section
variable {X : Cx} {K : PySem.W.Frag}
theorem o_eqS : OpR X (compareOp .Eq) (rStr2 (· == ·)) := by
  intro pins s σ H x y v u Q I rx ry ⟨a, b, e1, e2, q⟩
  subst e1 e2
  obtain ⟨t, rfl⟩ := rx
  obtain ⟨t', rfl⟩ := ry
  exact PyProof.Rows.eq_str ⟨.bl _, H, I, rfl, q⟩
theorem o_neS : OpR X (compareOp .NotEq) (rStr2 (· != ·)) := by
  intro pins s σ H x y v u Q I rx ry ⟨a, b, e1, e2, q⟩
  subst e1 e2
  obtain ⟨t, rfl⟩ := rx
  obtain ⟨t', rfl⟩ := ry
  exact PyProof.Rows.ne_str ⟨.bl _, H, I, rfl, q⟩
theorem p_eqS : Op2 K (rStr2 (· == ·)) eqSP := fun x y dx dy G H Φ Q e rx ry p o => by
  unfold eqSP at p
  split at p
  · exact ⟨_, _, rd_str rx, rd_str ry, o.val e p (.bl _)⟩
  · exact p.elim
theorem p_neS : Op2 K (rStr2 (· != ·)) neSP := fun x y dx dy G H Φ Q e rx ry p o => by
  unfold neSP at p
  split at p
  · exact ⟨_, _, rd_str rx, rd_str ry, o.val e p (.bl _)⟩
  · exact p.elim
end
/-! ### what can be shown -/
theorem rc_of {d : PyData} (h1 : d.showable = true) (h2 : d.leavesShort 1921 = true) (h3 : d.bulk ≤ 5000) (h4 : d.depth ≤ 60) (h5 : d.hasDict = false) : reprC d := by
  refine ⟨h1, ?_, h4, h5⟩
  have := PyData.shown_le_bulk 1921 (by decide) d h2
  refine Nat.le_trans this ?_
  have h : (1921 + 2) * d.bulk ≤ (1921 + 2) * 5000 := Nat.mul_le_mul_left _ h3
  refine Nat.le_trans (Nat.add_le_add_right h _) (by decide)
theorem short_int {i : Int} (h : i.natAbs.log2 < 1920) : (PyData.int i).leavesShort 1921 = true := by
  have := int_text_length_le (k := 1920) (by decide) h
  simp only [PyData.leavesShort, decide_eq_true_eq]
  show (Str.ofString (toString i)).length ≤ 1921
  rw [ofString_length]; omega
theorem log_lt {i : Int} {B : Nat} (h : i.natAbs < 2 ^ B) (hB : B ≤ 1920) (h0 : 0 < B) : i.natAbs.log2 < 1920 := by
  by_cases z : i.natAbs = 0
  · rw [z]; decide
  · exact Nat.lt_of_lt_of_le ((Nat.log2_lt z).mpr h) hB
structure Rc (d : PyData) (b k : Nat) : Prop where
  show_ : d.showable = true
  short : d.leavesShort 1921 = true
  bulk : d.bulk ≤ b
  depth : d.depth ≤ k
  dict : d.hasDict = false
structure Rcs (ds : List PyData) (b k : Nat) : Prop where
  show_ : PyData.showableAll ds = true
  short : PyData.leavesShortAll 1921 ds = true
  bulk : PyData.bulkAll ds ≤ b
  depth : PyData.depthAll ds ≤ k
  dict : PyData.hasDictAll ds = false
theorem Rc.c {d : PyData} {b k : Nat} (r : Rc d b k) (hb : b ≤ 5000) (hk : k ≤ 60) : reprC d := rc_of r.show_ r.short (Nat.le_trans r.bulk hb) (Nat.le_trans r.depth hk) r.dict
theorem Rc.mono {d : PyData} {b k b' k' : Nat} (r : Rc d b k) (hb : b ≤ b') (hk : k ≤ k') : Rc d b' k' := ⟨r.show_, r.short, Nat.le_trans r.bulk hb, Nat.le_trans r.depth hk, r.dict⟩
theorem Rc.non : Rc .none 0 1 := ⟨rfl, by simp [PyData.leavesShort], by simp [PyData.bulk], by simp [PyData.depth], by simp [PyData.hasDict]⟩
theorem Rc.bool (b : Bool) : Rc (.bool b) 0 1 := ⟨rfl, by simp [PyData.leavesShort], by simp [PyData.bulk], by simp [PyData.depth], by simp [PyData.hasDict]⟩
theorem Rc.int {i : Int} (h : i.natAbs.log2 < 1920) : Rc (.int i) 0 1 := ⟨by simp [PyData.showable, h], short_int h, by simp [PyData.bulk], by simp [PyData.depth], by simp [PyData.hasDict]⟩
theorem Rcs.nil : Rcs [] 0 0 := ⟨by simp [PyData.showableAll], by simp [PyData.leavesShortAll], by simp [PyData.bulkAll], by simp [PyData.depthAll], by simp [PyData.hasDictAll]⟩
theorem Rcs.cons {d : PyData} {ds : List PyData} {b k b' k' : Nat} (r : Rc d b k) (rs : Rcs ds b' k') : Rcs (d :: ds) (b + 1 + b') (max k k') := by
  have h1 := r.bulk
  have h2 := rs.bulk
  have h3 := r.depth
  have h4 := rs.depth
  refine ⟨by simp [PyData.showableAll, r.show_, rs.show_], by simp [PyData.leavesShortAll, r.short, rs.short], ?_, ?_, by simp [PyData.hasDictAll, r.dict, rs.dict]⟩
  · simp only [PyData.bulkAll]; omega
  · simp only [PyData.depthAll]; omega
theorem Rcs.list {ds : List PyData} {b k : Nat} (r : Rcs ds b k) : Rc (.list ds) b (k + 1) := by
  have h3 := r.depth
  exact ⟨by simp [PyData.showable, r.show_], by simp [PyData.leavesShort, r.short], by simp [PyData.bulk, r.bulk], by simp only [PyData.depth]; omega, by simp [PyData.hasDict, r.dict]⟩
theorem Rcs.tuple {ds : List PyData} {b k : Nat} (r : Rcs ds b k) : Rc (.tuple ds) b (k + 1) := by
  have h3 := r.depth
  exact ⟨by simp [PyData.showable, r.show_], by simp [PyData.leavesShort, r.short], by simp [PyData.bulk, r.bulk], by simp only [PyData.depth]; omega, by simp [PyData.hasDict, r.dict]⟩
theorem Rcs.ints : ∀ (ns : List Int), (∀ i ∈ ns, i.natAbs.log2 < 1920) → Rcs (ns.map .int) ns.length 1
  | [], _ => ⟨by simp [PyData.showableAll], by simp [PyData.leavesShortAll], by simp [PyData.bulkAll], by simp [PyData.depthAll], by simp [PyData.hasDictAll]⟩
  | i :: ns, h => by
    have r := Rcs.cons (Rc.int (h i (List.mem_cons_self ..))) (Rcs.ints ns fun j hj => h j (List.mem_cons_of_mem _ hj))
    have e : 0 + 1 + ns.length = (i :: ns).length := by rw [List.length_cons]; omega
    rw [e] at r
    exact r
theorem Rcs.mono {ds : List PyData} {b k b' k' : Nat} (r : Rcs ds b k) (hb : b ≤ b') (hk : k ≤ k') : Rcs ds b' k' := ⟨r.show_, r.short, Nat.le_trans r.bulk hb, Nat.le_trans r.depth hk, r.dict⟩
end Dat


set_option Elab.async false
set_option linter.all false
set_option maxRecDepth 100000
set_option maxHeartbeats 4000000
/-! DatT: a law's own def at the caller's place, where no repr is under way. -/
namespace Dat
open PySem L2
/-- one call of a def, at one place -/
theorem fn_here {P : Program} {w : World} {K : PySem.W.Frag} {mg : Str → Option Value} {base : Heap} {x qual : Str} {stm : Stmt} {f : Addr} {fd : FuncData} {N ps : List Str} {k : Nat} (F : Fun K x qual stm f fd) (S : FnScope N ps (defScope stm))
    {A : Around} {outer : List PySem.Env} {s : Shared} {H : Hp} {args : Args} {us : List Value} {vs : List V} {Q : VK} (hlen : vs.length = ps.length) (hr : Room (k + 1) A) (e0 : Env0 P w K mg base A outer s H) (hbt : BindsTo s fd args (ps.zip us)) (rv : Vals vs us)
    (hb : ∀ cdv : Value, Room k (A.deeper (PyProof.Rows.envOfC qual (defScope stm) s.heap.objs.size f cdv)) → ∃ t, PSs (cxOf CX0 P w K mg base N qual (defScope stm) f cdv A outer s H E0) (defBody stm) t ∧ t { nx := fun _ H' => Q .non H', rt := Q } (L2.start N vs) H) :
    codeAny (model P w) A (.call (.ref f) args) (CR CX0 outer P w H s Q E0) s := by
  obtain ⟨oc, od, kV, doc, pm, an, cdv, ct, osl, rfl, lk, hcd⟩ := F.ex
  have hbase : ∀ b o, base.get? b = some o → s.heap.get? b = some o := fun b o q => (e0.bs b o q).1
  have KX : K.In s.heap := e0.mod.kin.keeps hbase
  have kinds : ∀ y ∈ ps.zip us, (defScope stm).names.lookup y.1 = some .local ∨ ((defScope stm).names.lookup y.1 = some .cell ∧ ((cellsFrom (s.heap.objs.size + 1) (defScope stm).names []).lookup y.1).isSome = true) := by
    rintro ⟨nm, v⟩ hy
    rcases S.par nm (List.of_mem_zip hy).1 with q | q
    · exact .inl q
    · exact .inr ⟨q, PySem.W.cellsFrom_some _ _ _ (.inl q)⟩
  refine codeAny_call_function hr.depth (KX _ _ lk) rfl S.co S.gen rfl
    (PySem.W.codeRec_of KX hcd) (hbt _ _ _ _ ?_)
  refine wpAny_newFunctionEnv_cells S.kind kinds
    fun env he s1 xx => ?_
  subst he
  refine ⟨(e0.mod.nolimit.keeps hbase).keeps xx.toInCall.keep,
    codeAny_func ?_⟩
  obtain ⟨t, ht, hq⟩ := hb cdv (hr.deeper _)
  have I0 := inv_start (CX := CX0) (E := E0) S hr.hd e0 hlen rv xx
  refine wpAny_mono (ht.run [] s1 (L2.start N vs) H _ I0 hq)
    (fun fl s' hs => ?_) fun e s' hs => hs
  cases fl with
  | ret u =>
    obtain ⟨v, σ', H', J, r2, q⟩ := hs
    exact ⟨v, H', J.os, J.bare,
      J.base, J.hok, r2, q⟩
  | next =>
    obtain ⟨σ', H', J, q⟩ := hs
    exact ⟨V.non, H', J.os, J.bare,
      J.base, J.hok, rfl, q⟩
  | brk =>
    obtain ⟨_, _, _, q⟩ := hs
    exact q.elim
  | cont =>
    obtain ⟨_, _, _, q⟩ := hs
    exact q.elim
/-- the law's def keeps its promise at the caller's place -/
def Kept (P : Program) (w : World) (K : PySem.W.Frag) (mg : Str → Option Value) (base : Heap) (fa : Addr) (fd : FuncData) (x : Str) (n : Nat) : Prop :=
  ∀ (s : Shared) (H : Hp) (a : Addr) (ns : List Int), Env0 P w K mg base callerA [] s H → BindsTo s fd ⟨[.ref a], []⟩ [(x, .ref a)] → SqL K H a (ns.map V.int) → ns.length ≤ n → (∀ z ∈ ns, Builtin.Int.intBits z ≤ 1048576) →
    codeAny (model P w) callerA (.call (.ref fa) ⟨[.ref a], []⟩) (CR CX0 [] P w H s (fun v _ => v = .bl true) E0) s
theorem law_here {P : Program} {w : World} {K : PySem.W.Frag} {mg mb : Str → Option Value} {fa a : Addr} {fd : FuncData} {x : Str} {n : Nat} {s₁ : Shared} {vs : List Value} {ns : List Int} (KX : K.In s₁.heap) (hns : s₁.heap.Ns mainGlobals mg) (hb : s₁.heap.Ns builtinsNs mb)
    (hbb : ∀ x : Str, x ≠ "__name__" → mb x = bootBuiltins x) (hlim : s₁.heap.NoLimit) (hg : s₁.gens = #[]) (ha : s₁.heap.get? a = some { cls := .type "list", data := .seq vs.toArray }) (hi : PyProof.Rows.IntsAre vs ns) (hl : ns.length ≤ sizeLine) (hln : ns.length ≤ n) (hbits : ∀ z ∈ ns, Builtin.Int.intBits z ≤ 1048576)
    (F : ∀ base : Heap, K.In base → base.Ns mainGlobals mg → Kept P w K mg base fa fd x n) (hbind : ∀ (s : Shared) (u : Value), BindsTo s fd ⟨[u], []⟩ [(x, u)]) :
    codeAny (model P w) callerA (.call (.ref fa) ⟨[.ref a], []⟩) (fun r s' => r = .ok (.ret (.bool true)) ∧ OldK s₁.heap s'.heap ∧ s'.os = s₁.os ∧ PyProof.Rows.AllBare s'.gens) s₁ := by
  have rv := vals_ints hi
  have lenV := hi.length
  have main : ∀ H : Hp, Only H → SqL K H a (ns.map V.int) → HOk P w H s₁.heap → (∀ b, H b ≠ none → b = a) → (H a ≠ none → K.lookup a = none) →
      codeAny (model P w) callerA (.call (.ref fa) ⟨[.ref a], []⟩) (fun r s' => r = .ok (.ret (.bool true)) ∧ OldK s₁.heap s'.heap ∧ s'.os = s₁.os ∧ PyProof.Rows.AllBare s'.gens) s₁ := by
    intro H hO hS hok hA hK
    have hid : ∀ {b : Addr} {o : Obj}, s₁.heap.get? b = some o → H b = none → (hidT s₁.heap H).get? b = some o := fun q z => hidT_get q z
    have dictFree : ∀ {b : Addr} {o : Obj} {es : Array DictEntry} {ep : Nat}, s₁.heap.get? b = some o → o.data = .dict es ep → H b = none := by
      intro b o es ep q dq
      cases z : H b with
      | none => rfl
      | some u =>
        have hba : b = a := hA b (by rw [z]; exact fun y => nomatch y)
        subst hba
        rw [ha] at q; cases q
        exact absurd (show Data.seq vs.toArray _ = Data.dict es ep from dq) (fun y => nomatch y)
    have nsHid : ∀ {b : Addr} {m : Str → Option Value}, s₁.heap.Ns b m → (hidT s₁.heap H).Ns b m := by
      rintro b m ⟨o, es, ep, q, dq, r⟩
      exact ⟨o, es, ep, hid q (dictFree q dq), dq, r⟩
    have kHid : K.In (hidT s₁.heap H) := by
      intro b o q
      refine hid (KX b o q) ?_
      cases z : H b with
      | none => rfl
      | some u =>
        have hba : b = a := hA b (by rw [z]; exact fun y => nomatch y)
        subst hba
        rw [hK (by rw [z]; exact fun y => nomatch y)] at q; cases q
    have md : Mod K mg (hidT s₁.heap H) := by
      obtain ⟨mc, y1, y2⟩ := hlim
      exact ⟨kHid, nsHid hns, ⟨mb, nsHid hb, hbb⟩, ⟨mc, nsHid y1, y2⟩⟩
    have env : Env0 P w K mg (hidT s₁.heap H) callerA [] s₁ H :=
      ⟨rfl, md, fun b o q => of_hidT q, Nat.le_of_eq (hidT_size _ _), trivial,
        fun b hb => absurd hb (List.not_mem_nil), hok, .of_eq hg⟩
    refine codeAny_mono (F _ kHid (nsHid hns) s₁ H a ns env (hbind s₁ (.ref a)) hS hln hbits) ?_
    intro r s' h
    cases r with
    | error e => exact h.elim
    | ok fl =>
      cases fl with
      | next => exact h.elim
      | brk => exact h.elim
      | cont => exact h.elim
      | ret u =>
        obtain ⟨v, H', os, bare, un, hok', r', q⟩ := h
        obtain rfl : v = .bl true := q
        obtain rfl : u = Value.bool true := r'
        refine ⟨rfl, OldK.of_keep ?_, os, bare⟩
        intro b o q
        cases z : H b with
        | none => exact un.keep b o q z (fun y => absurd y (List.not_mem_nil)) (List.not_mem_nil)
        | some u =>
          rcases hO b with y | ⟨ob, xs, y⟩
          · rw [z] at y; cases y
          · obtain ⟨k1, _⟩ := hok b _ y
            obtain ⟨k2, _⟩ := hok' b _ (un.frzs b ob _ y)
            rw [q] at k1; cases k1
            exact k2
  cases hk : K.lookup a with
  | some o =>
    have q := KX a o hk
    rw [ha] at q
    cases q
    refine main (fun _ => none) (fun _ => .inl rfl) (.inr ⟨_, vs.toArray, _, hk, rfl, rfl, rfl, ?_, ?_⟩)
      (fun b u z => nomatch (show (none : Option HO) = some u from z)) (fun b z => absurd rfl z) fun z => absurd rfl z
    · rw [List.size_toArray, lenV]; exact hl
    · simpa using rv
  | none =>
    let ob : Obj := { cls := .type "list", data := .seq vs.toArray }
    refine main (fun b => if b = a then some (.frz ob (.lst (ns.map V.int))) else none) (fun b => ?_) (.inl (.inr ⟨ob, if_pos rfl⟩)) (fun b u z => ?_) (fun b z => ?_) fun _ => hk
    · by_cases hb : b = a
      · exact .inr ⟨_, _, if_pos hb⟩
      · exact .inl (if_neg hb)
    · by_cases hb : b = a
      · have y := (if_pos hb).symm.trans z
        cases y
        subst hb
        refine ⟨ha, ?_, vs, _, rv, ha⟩
        rw [List.length_map]; exact hl
      · exact nomatch (if_neg hb).symm.trans z
    · by_cases hb : b = a
      · exact hb
      · exact absurd (if_neg hb) z
theorem walk_here {l : PySem.W.OpenLaw} {n : Nat} {q : Program} {loose : List Str} {XP : (Str → Option Value) → Heap → Prop} {YP : World → Heap → Prop} {d : DefRec} {K : Params → PySem.W.Frag} {x : Str} (hn : l.most = some n) (hn2 : n ≤ sizeLine) (hdf : d.params.defaults = [])
    (hY : ∀ (w : World) (h : Heap), YP w h → (K w.params).In h)
    (F : ∀ (w : World) (mg : Str → Option Value) (fa : Addr) (h : Heap), (K w.params).In h → h.Ns mainGlobals mg → mg d.name = some (.ref fa) →
      ∃ fd : FuncData, (∀ (s : Shared) (u : Value), BindsTo s fd ⟨[u], []⟩ [(x, u)]) ∧ ∀ base : Heap, (K w.params).In base → base.Ns mainGlobals mg → Kept l.prog w (K w.params) mg base fa fd x n) :
    PySem.W.WalkO q loose XP YP l.row.toRowW d [] (fun f vs => PySem.call f vs) := by
  refine Att.attach_callB hn hdf ?_
  intro w s₀ s₁ mg mb fa o pm cd doc a vs ns G Y ho hd hcd hmg hobj hints hlen hbits hg
  obtain ⟨fd, hb, hF⟩ := F w mg fa _ (hY w _ Y) G.T.g hmg
  exact law_here (hY w _ Y) G.T.g G.T.b G.T.builtins G.T.nolimit hg hobj hints (Nat.le_trans hlen hn2) hlen hbits hF hb
/-- the state behind source = .. in a law -/
theorem law_start {K : PySem.W.Frag} {H' : Hp} {p c : Addr} {L n : Nat} {cs : List Int} {l m : Int} {σ : St} (h0 : p ≠ c) (h1 : H' p = some (srcDict c l m 0)) (h2 : H' c = some (.lst (cs.map V.int))) (h3 : cs.length ≤ 63) (hs : σ[1]? = some (some (.ref p))) (hl : σ.length = n + 2) :
    Good K (fun _ => none, H') (some (p, c, L)) (.un :: .sr 0 L :: List.replicate n .un) σ (fun _ => none) H' := by
  refine ⟨fun _ _ q => (nomatch q), fun q e => ?_, fun _ _ q => q, fun _ _ _ => rfl, fun _ _ _ q => q, by simp [hl], fun i x e => ?_, fun i j ds es a q _ _ _ => ?_⟩
  · cases e
    exact ⟨h0, rfl, rfl, cs, l, m, 0, h1, h2, h3, Int.le_refl _, by show (0 : Int) ≤ ((L : Nat) : Int); omega⟩
  · match i, e with
    | 0, e => cases e; trivial
    | 1, e => cases e; exact ⟨_, rfl, hs, c, l, m, 0, h1, Int.le_refl _, by show (0 : Int) + ((L : Nat) : Int) ≤ ((L : Nat) : Int); omega⟩
    | i + 2, e =>
      have e : (List.replicate n Slot.un)[i]? = some x := e
      rw [List.getElem?_replicate] at e
      split at e
      · cases e; trivial
      · cases e
  · match i, q with
    | 0, q => cases q
    | 1, q => cases q
    | i + 2, q =>
      have q : (List.replicate n Slot.un)[i]? = some (.ow ds) := q
      rw [List.getElem?_replicate] at q
      split at q
      · cases q
      · cases q
end Dat


set_option Elab.async false
set_option linter.all false
set_option maxRecDepth 100000
set_option maxHeartbeats 4000000
/-! K45C: what the defs compute, their contracts. -/
namespace K45
open PySem L2 Dat

def eI (ns : List Int) : PyData := .list (ns.map .int)
def eT (ns : List Int) : PyData := .tuple (ns.map .int)
def eO : Option (List Int) → PyData
  | none => .none
  | some c => eT c
def Bnd (B : Nat) (r : List Int) : Prop := ∀ x ∈ r, x.natAbs < 2 ^ B
/-- the line of what divides well -/
abbrev dl : Nat := 13000
def fp (ns : List Int) : Nat := ns.findIdx (· != 0)
def C_first_place : CF := fun as Φ => ∃ ns : List Int, as = [.da (eI ns)] ∧ ns.length ≤ 1000 ∧ Φ (.int (fp ns))
def gcdL (ns : List Int) : Int := ns.foldl (fun g x => ((Nat.gcd g.natAbs x.natAbs : Nat) : Int)) 0
def lowered (ns : List Int) : List Int := if gcdL ns > 1 then ns.map (fun x => x.fdiv (gcdL ns)) else ns
def C_lowered : CF := fun as Φ => ∃ ns : List Int, as = [.da (eI ns)] ∧ ns.length ≤ 1000 ∧ Bnd dl ns ∧ Φ (eI (lowered ns))
def step1 (e row : List Int) : List Int := if row.getD (fp e) 0 ≠ 0 then lowered ((row.zip e).map fun p => p.1 * e.getD (fp e) 0 - p.2 * row.getD (fp e) 0) else row
def cleared (rs : List (List Int)) (row : List Int) : List Int := rs.foldl (fun r e => step1 e r) row
def ClOk : List (List Int) → List Int → Prop
  | [], _ => True
  | e :: rs, row => (fp e < row.length ∧ e.length = row.length ∧ row.length ≤ 1000 ∧ ∃ a b, Bnd a e ∧ Bnd b row ∧ a + b + 1 ≤ dl) ∧ ClOk rs (step1 e row)
def C_cleared : CF := fun as Φ => ∃ (rs : List (List Int)) (row : List Int), as = [.bo (rs.map eI), .da (eI row)] ∧ ClOk rs row ∧ Φ (eI (cleared rs row))
def unit (n i : Nat) : List Int := (List.range n).map fun j => if j = i then 1 else 0
def relGo (n many : Nat) : List (List Int × Nat) → List (List Int) → Option (List Int)
  | [], _ => none
  | (row, i) :: r, kept => if fp (cleared kept (row ++ unit n i)) < many then relGo n many r (kept ++ [cleared kept (row ++ unit n i)])
    else if i + 1 = n then some ((cleared kept (row ++ unit n i)).drop many) else relGo n many r kept
def RelGoOk (n many : Nat) : List (List Int × Nat) → List (List Int) → Prop
  | [], _ => True
  | (row, i) :: r, kept => ClOk kept (row ++ unit n i) ∧ row.length + n ≤ 1000 ∧ (cleared kept (row ++ unit n i)).length ≤ 1000 ∧ kept.length ≤ 1000 ∧ (fp (cleared kept (row ++ unit n i)) < many → RelGoOk n many r (kept ++ [cleared kept (row ++ unit n i)])) ∧ (¬fp (cleared kept (row ++ unit n i)) < many → i + 1 ≠ n → RelGoOk n many r kept)
def relationOf (rows : List (List Int)) (many : Nat) : Option (List Int) := relGo rows.length many rows.zipIdx []
def RelOk (rows : List (List Int)) (many : Nat) : Prop := rows.length ≤ 1000 ∧ many ≤ 1000 ∧ RelGoOk rows.length many rows.zipIdx []
def eL : Option (List Int) → PyData
  | none => .none
  | some c => eI c
def C_relation_of : CF := fun as Φ => ∃ (rows : List (List Int)) (many : Nat), as = [.da (.list (rows.map eI)), .da (.int many)] ∧ RelOk rows many ∧ Φ (eL (relationOf rows many))
def windows (row : List Int) (m : Nat) : List (List Int) := (List.range (m + 1)).map fun i => (row.drop i).take (row.length - m)
def recOut (f : List Int) : Option (List Int) := if f.all (fun x => x.fmod (f.getLastD 0) == 0) then some (f.dropLast.map fun x => (-x).fdiv (f.getLastD 0)) else none
def recGo (row : List Int) : List Nat → Option (List Int)
  | [] => none
  | m :: r => match relationOf (windows row m) (row.length - m) with
    | some f => recOut f
    | none => recGo row r
def RecGoOk (row : List Int) : List Nat → Prop
  | [] => True
  | m :: r => m ≤ row.length ∧ RelOk (windows row m) (row.length - m) ∧ match relationOf (windows row m) (row.length - m) with
    | some f => f ≠ [] ∧ f.length ≤ 1000 ∧ f.getLastD 0 ≠ 0 ∧ Bnd dl f
    | none => RecGoOk row r
def recurrenceOf (row : List Int) : Option (List Int) := recGo row (List.range (row.length / 2 + 1))
def RecOk (row : List Int) : Prop := row.length ≤ 900 ∧ RecGoOk row (List.range (row.length / 2 + 1))
def C_recurrence_of : CF := fun as Φ => ∃ row : List Int, (as = [.da (eI row)] ∨ as = [.da (eT row)]) ∧ RecOk row ∧ Φ (eO (recurrenceOf row))
/-! ### the law's own -/
def C_law_pick : CF := fun as Φ => ∃ (b : Nat) (n : Int), as = [.sr b 1, .da (.int n)] ∧ b ≤ 1000000 ∧ n ≤ 1000000 ∧ ∀ j : Int, 0 ≤ j → j < max n 1 → Φ (.int j)
def C_law_of : CF := fun as Φ => ∃ (b : Nat) (xs : List PyData), as = [.sr b 1, .da (.list xs)] ∧ b ≤ 1000000 ∧ xs ≠ [] ∧ xs.length ≤ 1000 ∧ ∀ x ∈ xs, Φ x
def eQ (r : Rat) : PyData := .tuple [.int r.num, .int r.den]
def C_law_low : CF := fun as Φ => ∃ p q : Int, as = [.da (.int p), .da (.int q)] ∧ q ≠ 0 ∧ p.natAbs < 2 ^ dl ∧ q.natAbs < 2 ^ dl ∧ Φ (eQ (Rat.divInt p q))
def QB (B : Nat) (r : Rat) : Prop := r.num.natAbs < 2 ^ B ∧ r.den < 2 ^ B
def C_law_less : CF := fun as Φ => ∃ a c b : Rat, as = [.da (eQ a), .da (eQ c), .da (eQ b)] ∧ (∃ A C D : Nat, QB A a ∧ QB C c ∧ QB D b ∧ A + C + D + 1 ≤ dl) ∧ Φ (eQ (a - c * b))
def eQs (l : List Rat) : PyData := .list (l.map eQ)
/-- one column: the place of its line, the lines behind it -/
def some1 (lines : List (List Rat)) (used : List Nat) (col : Nat) : List Nat := (lines.zipIdx.filter fun p => p.1.getD col 0 != 0 && !used.contains p.2).map (·.2)
def firstL (lines : List (List Rat)) (i col : Nat) : List Rat := (lines.getD i []).map (· / (lines.getD i []).getD col 0)
def lateL (lines : List (List Rat)) (i col : Nat) : List (List Rat) := lines.zipIdx.map fun p => if p.2 = i then firstL lines i col else (p.1.zip (firstL lines i col)).map fun q => q.1 - p.1.getD col 0 * q.2
def solGo : List Nat → List (List Rat) → List (Nat × Nat) → List (List Rat) × List (Nat × Nat)
  | [], lines, places => (lines, places)
  | c :: r, lines, places => match some1 lines (places.map (·.1)) c with
    | [] => solGo r lines places
    | i :: _ => solGo r (lateL lines i c) (places ++ [(i, c)])
/-- all lines of one length, all numbers below 2 ^ B -/
def LinesOk (len B : Nat) (lines : List (List Rat)) : Prop := lines.length ≤ 1000 ∧ ∀ l ∈ lines, l.length = len ∧ ∀ x ∈ l, QB B x
def SolGoOk (len : Nat) : List Nat → List (List Rat) → List (Nat × Nat) → Prop
  | [], lines, places => (∃ B, LinesOk len B lines) ∧ places.length ≤ 1000 ∧ ∀ p ∈ places, p.1 < lines.length ∧ p.2 + 1 < len
  | c :: r, lines, places => c < len ∧ (∃ B, LinesOk len B lines ∧ 4 * B + 2 ≤ dl) ∧ places.length ≤ 1000 ∧ match some1 lines (places.map (·.1)) c with
    | [] => SolGoOk len r lines places
    | i :: _ => SolGoOk len r (lateL lines i c) (places ++ [(i, c)])
def foundL (many : Nat) (lines : List (List Rat)) : List (Nat × Nat) → List Rat → List Rat
  | [], f => f
  | (i, c) :: r, f => foundL many lines r (f.set c ((lines.getD i []).getD many 0))
def solved (lines : List (List Int)) (many : Nat) : Option (List Rat) :=
  let p := solGo (List.range many) (lines.map fun l => l.map fun (x : Int) => (x : Rat)) []
  if (p.1.zipIdx.filter fun q => !(p.2.map (·.1)).contains q.2 && q.1.getD many 0 != 0) = [] then some (foundL many p.1 p.2 (List.replicate many 0)) else none
def SolOk (lines : List (List Int)) (many : Nat) : Prop := lines.length ≤ 1000 ∧ many ≤ 900 ∧ (∀ l ∈ lines, l.length = many + 1) ∧ SolGoOk (many + 1) (List.range many) (lines.map fun l => l.map fun (x : Int) => (x : Rat)) []
def eS : Option (List Rat) → PyData
  | none => .none
  | some f => eQs f
def C_law_solved : CF := fun as Φ => ∃ (lines : List (List Int)) (many : Nat), as = [.da (.list (lines.map eI)), .da (.int many)] ∧ SolOk lines many ∧ Φ (eS (solved lines many))
def lawLines (row : List Int) (m : Nat) : List (List Int) := (List.range (row.length - m)).map fun i => (row.drop i).take (m + 1)
def leastOut (f : List Rat) : Option (List Int) := if f.all (fun c => c.den == 1) then some (f.map (·.num)) else none
def leastGo (row : List Int) : List Nat → Option (List Int)
  | [] => none
  | m :: r => match solved (lawLines row m) m with
    | some f => leastOut f
    | none => leastGo row r
def LeastGoOk (row : List Int) : List Nat → Prop
  | [] => True
  | m :: r => m ≤ row.length ∧ SolOk (lawLines row m) m ∧ match solved (lawLines row m) m with
    | some f => f.length ≤ 1000
    | none => LeastGoOk row r
def least (row : List Int) : Option (List Int) := leastGo row (List.range (row.length / 2 + 1))
def LeastOk (row : List Int) : Prop := row.length ≤ 900 ∧ LeastGoOk row (List.range (row.length / 2 + 1))
def C_law_least : CF := fun as Φ => ∃ row : List Int, as = [.da (eI row)] ∧ LeastOk row ∧ Φ (eO (least row))
/-- rows that are drawn -/
def RowGood (row : List Int) : Prop := row.length ≤ 12 ∧ Bnd 32 row ∧ Bnd 13 (row.take 6)
def C_law_row : CF := fun as Φ => ∃ b : Nat, as = [.sr b 64] ∧ b ≤ 900000 ∧ ∀ row, RowGood row → Φ (eI row)
end K45


set_option Elab.async false
set_option linter.all false
set_option maxRecDepth 100000
set_option maxHeartbeats 4000000
/-! the walks of K45, printed by gen.py -/
namespace K45
open PySem L2 Dat
def topS (i : Nat) : Stmt := PySem.Challenge.pw_sheetslaid_k45_recurrences_of_rows.main.body.getD i (.Pass ⟨0, 0, 0, 0⟩)
abbrev st_law_open_cells : Stmt := topS 8
abbrev st_law_pick : Stmt := topS 9
abbrev st_first_place : Stmt := topS 2
abbrev st_lowered : Stmt := topS 3
abbrev st_cleared : Stmt := topS 4
abbrev st_relation_of : Stmt := topS 5
abbrev st_recurrence_of : Stmt := topS 6
abbrev st_law_of : Stmt := topS 10
abbrev st_law_low : Stmt := topS 11
abbrev st_law_less : Stmt := topS 12
abbrev st_law_solved : Stmt := topS 13
abbrev st_law_least : Stmt := topS 14
abbrev st_law_row : Stmt := topS 15
abbrev st_law : Stmt := topS 16
structure Bl (mg : Str → Option Value) : Prop where
  g_gcd : mg "gcd" = some (.builtin "math.gcd")
  n_abs : mg "abs" = none
  n_all : mg "all" = none
  n_enumerate : mg "enumerate" = none
  n_int : mg "int" = none
  n_len : mg "len" = none
  n_list : mg "list" = none
  n_min : mg "min" = none
  n_range : mg "range" = none
  n_repr : mg "repr" = none
  n_sum : mg "sum" = none
  n_tuple : mg "tuple" = none
  n_zip : mg "zip" = none
section
variable {P : Program} {w : World} {K : PySem.W.Frag} {mg : Str → Option Value} {base : Heap}
abbrev N_first_place : List Str := ["row", "at", "x"]
theorem sc_first_place : FnScope N_first_place ["row"] (defScope st_first_place) := ⟨rfl, rfl, rfl, by decide +kernel, rfl, by decide +kernel, by decide +kernel⟩
def F_first_place : SF := (retF (opF minDP (compF (itEn (consF (nameF 0) nilF)) (bdT (bsL 2 (bsC (bdN 1) (bsC (bdN 2) bsN)))) (boolF (opF neP (nameF 2) (constF (.int 0)))) (nameF 1) [1, 2]) (unF lenP (nameF 0))))
theorem w_first_place {k : Nat} {f : Addr} (bl : Bl mg)  (cdv : Value) (A : Around) (outer : List PySem.Env) (s : Shared) (H : Hp) (E : XK) (hr : Room k (A.deeper (PyProof.Rows.envOfC "first_place" (defScope st_first_place) s.heap.objs.size f cdv))) :
    PSs (cxOf CX0 P w K mg base N_first_place "first_place" (defScope st_first_place) f cdv A outer s H E).nox (defBody st_first_place) (dS K F_first_place) := (ds_one (ds_ret (de_minD rfl hr.u8 bl.n_min (de_lc (own := [("at", 1), ("x", 2)]) rfl sc_first_place.nd (di_enum bl.n_enumerate (dl_cons (de_name 0) dl_nil)) (okC (N := N_first_place) (sc := (defScope st_first_place)) (own := [("at", 1), ("x", 2)]) (by decide +kernel)) (fun _ _ _ _ _ => (dg_tup rfl (dgs_cons (dg_name 1 sc_first_place.nd) (dgs_cons (dg_name 2 sc_first_place.nd) dgs_nil)))) (fun _ _ _ _ _ => (dts_one (dt_cmp (o_ne hr.units) p_ne (de_name 2) de_int))) (fun _ _ _ _ _ => (de_name 1)) (by decide)) (de_len bl.n_len (de_name 0)))))
abbrev N_lowered : List Str := ["row", "by", "x"]
theorem sc_lowered : FnScope N_lowered ["row"] (defScope st_lowered) := ⟨rfl, rfl, rfl, by decide +kernel, rfl, by decide +kernel, by decide +kernel⟩
def F_lowered : SF := (seqF (setF 1 (constF (.int 0)))
  (seqF (forF (itS (nameF 0)) (bdN 2) (setF 1 (opF gcdP (nameF 1) (nameF 2))))
  (retF (ifF (boolF (opF gtP (nameF 1) (constF (.int 1)))) (compF (itC (nameF 0)) (bdN 2) yesF (opF fdivP (nameF 2) (nameF 1)) [2]) (nameF 0)))))
theorem w_lowered {k : Nat} {f : Addr} (bl : Bl mg)  (cdv : Value) (A : Around) (outer : List PySem.Env) (s : Shared) (H : Hp) (E : XK) (hr : Room k (A.deeper (PyProof.Rows.envOfC "lowered" (defScope st_lowered) s.heap.objs.size f cdv))) :
    PSs (cxOf CX0 P w K mg base N_lowered "lowered" (defScope st_lowered) f cdv A outer s H E).nox (defBody st_lowered) (dS K F_lowered) := (ds_cons (ds_set 1 de_int sc_lowered.nd)
  (ds_cons (ds_for (hp := PassesOwn.never) rfl (di_seq (de_name 0)) (dg_name 2 sc_lowered.nd) (ds_one (ds_set 1 (de_gcd bl.g_gcd (de_name 1) (de_name 2)) sc_lowered.nd)))
  (ds_one (ds_ret (de_if (dt_cmp op_gt (p_int0 fun _ _ _ => .bl _) (de_name 1) de_int) (de_lc (own := [("x", 2)]) rfl sc_lowered.nd (di_seqC (de_name 0)) (okC (N := N_lowered) (sc := (defScope st_lowered)) (own := [("x", 2)]) (by decide +kernel)) (fun _ _ _ _ _ => (dg_name 2 sc_lowered.nd)) (fun _ _ _ _ _ => dts_nil) (fun _ _ _ _ _ => (de_op o_fdiv (p_int fun _ _ _ => .int _) (de_name 2) (de_name 1))) (by decide)) (de_name 0))))))
abbrev N_cleared : List Str := ["rows", "row", "early", "at", "x", "y"]
theorem sc_cleared : FnScope N_cleared ["rows", "row"] (defScope st_cleared) := ⟨rfl, rfl, rfl, by decide +kernel, rfl, by decide +kernel, by decide +kernel⟩
def F_cleared : SF := (seqF (forF (itS (nameF 0)) (bdN 2) (seqF (setF 3 (callC 1 C_first_place (aconsF false (nameF 2) anilF)))
  (ifS (boolF (opF neP (opF ixP (nameF 1) (nameF 3)) (constF (.int 0)))) (setF 1 (callC 1 C_lowered (aconsF false (compF (itZip (consF (nameF 1) (consF (nameF 2) nilF))) (bdT (bsL 2 (bsC (bdN 4) (bsC (bdN 5) bsN)))) yesF (opF subP (opF mulP (nameF 4) (opF ixP (nameF 2) (nameF 3))) (opF mulP (nameF 5) (opF ixP (nameF 1) (nameF 3)))) [4, 5]) anilF))) skipF)))
  (retF (nameF 1)))
theorem w_cleared {k : Nat} {f : Addr} (bl : Bl mg) (c_lowered : Cal P w K mg base k "lowered" 1 C_lowered) (c_first_place : Cal P w K mg base k "first_place" 1 C_first_place) (cdv : Value) (A : Around) (outer : List PySem.Env) (s : Shared) (H : Hp) (E : XK) (hr : Room k (A.deeper (PyProof.Rows.envOfC "cleared" (defScope st_cleared) s.heap.objs.size f cdv))) :
    PSs (cxOf CX0 P w K mg base N_cleared "cleared" (defScope st_cleared) f cdv A outer s H E).nox (defBody st_cleared) (dS K F_cleared) := (ds_cons (ds_for (hp := PassesOwn.never) rfl (di_seq (de_name 0)) (dg_name 2 sc_cleared.nd) (ds_cons (ds_set 3 (de_callC c_first_place hr rfl (da_cons false (de_name 2) da_nil)) sc_cleared.nd)
  (ds_one (ds_if (dt_cmp (o_ne hr.units) p_ne (de_ix (de_name 1) (de_name 3)) de_int) (ds_one (ds_set 1 (de_callC c_lowered hr rfl (da_cons false (de_lc (own := [("x", 4), ("y", 5)]) rfl sc_cleared.nd (di_zip bl.n_zip (dl_cons (de_name 1) (dl_cons (de_name 2) dl_nil))) (okC (N := N_cleared) (sc := (defScope st_cleared)) (own := [("x", 4), ("y", 5)]) (by decide +kernel)) (fun _ _ _ _ _ => (dg_tup rfl (dgs_cons (dg_name 4 sc_cleared.nd) (dgs_cons (dg_name 5 sc_cleared.nd) dgs_nil)))) (fun _ _ _ _ _ => dts_nil) (fun _ _ _ _ _ => (de_op op_sub (p_int0 fun _ _ _ => .int _) (de_op o_mul p_mul (de_name 4) (de_ix (de_name 2) (de_name 3))) (de_op o_mul p_mul (de_name 5) (de_ix (de_name 1) (de_name 3))))) (by decide)) da_nil)) sc_cleared.nd)) ds_nil))))
  (ds_one (ds_ret (de_name 1))))
abbrev N_relation_of : List Str := ["rows", "many", "kept", "at", "row", "late", "i"]
theorem sc_relation_of : FnScope N_relation_of ["rows", "many"] (defScope st_relation_of) := ⟨rfl, rfl, rfl, by decide +kernel, rfl, by decide +kernel, by decide +kernel⟩
def F_relation_of : SF := (seqF (ownF 2 (lstF nilF))
  (seqF (forF (itEn (consF (nameF 0) nilF)) (bdT (bsL 2 (bsC (bdN 3) (bsC (bdN 4) bsN)))) (seqF (setF 5 (callC 2 C_cleared (aconsF true (nameF 2) (aconsF false (lstF (starF (nameF 4) (starF (compF (itR1 (consF (unF lenP (nameF 0)) nilF)) (bdN 6) yesF (unF toIntP (opF eqP (nameF 6) (nameF 3))) [6]) nilF))) anilF))))
  (ifS (boolF (opF ltP (callC 1 C_first_place (aconsF false (nameF 5) anilF)) (nameF 1))) (appF 2 (nameF 5)) (ifS (boolF (opF eqP (nameF 3) (opF subP (unF lenP (nameF 0)) (constF (.int 1))))) (retF (slF (nameF 5) (partF (nameF 1)) noneF)) skipF))))
  (retF (constF .none))))
theorem w_relation_of {k : Nat} {f : Addr} (bl : Bl mg) (c_first_place : Cal P w K mg base k "first_place" 1 C_first_place) (c_cleared : Cal P w K mg base k "cleared" 2 C_cleared) (cdv : Value) (A : Around) (outer : List PySem.Env) (s : Shared) (H : Hp) (E : XK) (hr : Room k (A.deeper (PyProof.Rows.envOfC "relation_of" (defScope st_relation_of) s.heap.objs.size f cdv))) :
    PSs (cxOf CX0 P w K mg base N_relation_of "relation_of" (defScope st_relation_of) f cdv A outer s H E).nox (defBody st_relation_of) (dS K F_relation_of) := (ds_cons (ds_own 2 (de_lst dl_nil) sc_relation_of.nd)
  (ds_cons (ds_for (hp := PassesOwn.never) rfl (di_enum bl.n_enumerate (dl_cons (de_name 0) dl_nil)) (dg_tup rfl (dgs_cons (dg_name 3 sc_relation_of.nd) (dgs_cons (dg_name 4 sc_relation_of.nd) dgs_nil))) (ds_cons (ds_set 5 (de_callC c_cleared hr rfl (da_cons true (de_name 2) (da_cons false (de_lst (dl_star (de_name 4) (dl_star (de_lc (own := [("i", 6)]) rfl sc_relation_of.nd (di_range1 bl.n_range (dl_cons (de_len bl.n_len (de_name 0)) dl_nil)) (okC (N := N_relation_of) (sc := (defScope st_relation_of)) (own := [("i", 6)]) (by decide +kernel)) (fun _ _ _ _ _ => (dg_name 6 sc_relation_of.nd)) (fun _ _ _ _ _ => dts_nil) (fun _ _ _ _ _ => (de_toInt bl.n_int (de_cmp (o_eq hr.units) p_eq (de_name 6) (de_name 3)))) (by decide)) dl_nil))) da_nil))) sc_relation_of.nd)
  (ds_one (ds_if (dt_cmp op_lt (p_int0 fun _ _ _ => .bl _) (de_callC c_first_place hr rfl (da_cons false (de_name 5) da_nil)) (de_name 1)) (ds_one (ds_append 2 (de_name 5))) (ds_one (ds_if (dt_cmp (o_eq hr.units) p_eq (de_name 3) (de_op op_sub (p_int0 fun _ _ _ => .int _) (de_len bl.n_len (de_name 0)) de_int)) (ds_one (ds_ret (de_slice (de_name 5) (do_some (de_name 1)) do_none))) ds_nil))))))
  (ds_one (ds_ret de_non))))
abbrev N_recurrence_of : List Str := ["row", "m", "many", "found", "last", "at", "x"]
theorem sc_recurrence_of : FnScope N_recurrence_of ["row"] (defScope st_recurrence_of) := ⟨rfl, rfl, rfl, by decide +kernel, rfl, by decide +kernel, by decide +kernel⟩
def F_recurrence_of : SF := (seqF (forF (itR1 (consF (opF addP (opF fdivP (unF lenP (nameF 0)) (constF (.int 2))) (constF (.int 1))) nilF)) (bdN 1) (seqF (setF 2 (opF subP (unF lenP (nameF 0)) (nameF 1)))
  (seqF (setF 3 (callC 2 C_relation_of (aconsF false (compF (itR1 (consF (opF addP (nameF 1) (constF (.int 1))) nilF)) (bdN 5) yesF (unF toLstP (slF (nameF 0) (partF (nameF 5)) (partF (opF addP (nameF 5) (nameF 2))))) [5]) (aconsF false (nameF 2) anilF))))
  (ifS (boolF (opF notNP (nameF 3) (constF .none))) (seqF (setF 4 (opF ixP (nameF 3) (unF negP (constF (.int 1)))))
  (retF (ifF (boolF (unF allP (compF (itC (nameF 3)) (bdN 6) yesF (opF eqP (opF modP (nameF 6) (nameF 4)) (constF (.int 0))) [6]))) (unF toTupP (compF (itC (slF (nameF 3) noneF (partF (unF negP (constF (.int 1)))))) (bdN 6) yesF (opF fdivP (unF negP (nameF 6)) (nameF 4)) [6])) (constF .none)))) skipF))))
  (retF (constF .none)))
theorem w_recurrence_of {k : Nat} {f : Addr} (bl : Bl mg) (c_relation_of : Cal P w K mg base k "relation_of" 2 C_relation_of) (cdv : Value) (A : Around) (outer : List PySem.Env) (s : Shared) (H : Hp) (E : XK) (hr : Room k (A.deeper (PyProof.Rows.envOfC "recurrence_of" (defScope st_recurrence_of) s.heap.objs.size f cdv))) :
    PSs (cxOf CX0 P w K mg base N_recurrence_of "recurrence_of" (defScope st_recurrence_of) f cdv A outer s H E).nox (defBody st_recurrence_of) (dS K F_recurrence_of) := (ds_cons (ds_for (hp := PassesOwn.never) rfl (di_range1 bl.n_range (dl_cons (de_op o_add p_add (de_op o_fdiv (p_int fun _ _ _ => .int _) (de_len bl.n_len (de_name 0)) de_int) de_int) dl_nil)) (dg_name 1 sc_recurrence_of.nd) (ds_cons (ds_set 2 (de_op op_sub (p_int0 fun _ _ _ => .int _) (de_len bl.n_len (de_name 0)) (de_name 1)) sc_recurrence_of.nd)
  (ds_cons (ds_set 3 (de_callC c_relation_of hr rfl (da_cons false (de_lc (own := [("at", 5)]) rfl sc_recurrence_of.nd (di_range1 bl.n_range (dl_cons (de_op o_add p_add (de_name 1) de_int) dl_nil)) (okC (N := N_recurrence_of) (sc := (defScope st_recurrence_of)) (own := [("at", 5)]) (by decide +kernel)) (fun _ _ _ _ _ => (dg_name 5 sc_recurrence_of.nd)) (fun _ _ _ _ _ => dts_nil) (fun _ _ _ _ _ => (de_toLst bl.n_list (de_slice (de_name 0) (do_some (de_name 5)) (do_some (de_op o_add p_add (de_name 5) (de_name 2)))))) (by decide)) (da_cons false (de_name 2) da_nil))) sc_recurrence_of.nd)
  (ds_one (ds_if (dt_cmp op_notN p_notN (de_name 3) de_non) (ds_cons (ds_set 4 (de_ix (de_name 3) (de_un un_neg p_neg de_int)) sc_recurrence_of.nd)
  (ds_one (ds_ret (de_if (dt_val (de_all rfl bl.n_all (de_lc (own := [("x", 6)]) rfl sc_recurrence_of.nd (di_seqC (de_name 3)) (okC (N := N_recurrence_of) (sc := (defScope st_recurrence_of)) (own := [("x", 6)]) (by decide +kernel)) (fun _ _ _ _ _ => (dg_name 6 sc_recurrence_of.nd)) (fun _ _ _ _ _ => dts_nil) (fun _ _ _ _ _ => (de_cmp (o_eq hr.units) p_eq (de_op op_modN (p_int fun _ _ _ => .int _) (de_name 6) (de_name 4)) de_int)) (by decide)))) (de_toTup bl.n_tuple (de_lc (own := [("x", 6)]) rfl sc_recurrence_of.nd (di_seqC (de_slice (de_name 3) do_none (do_some (de_un un_neg p_neg de_int)))) (okC (N := N_recurrence_of) (sc := (defScope st_recurrence_of)) (own := [("x", 6)]) (by decide +kernel)) (fun _ _ _ _ _ => (dg_name 6 sc_recurrence_of.nd)) (fun _ _ _ _ _ => dts_nil) (fun _ _ _ _ _ => (de_op o_fdiv (p_int fun _ _ _ => .int _) (de_un un_neg p_neg (de_name 6)) (de_name 4))) (by decide))) de_non)))) ds_nil)))))
  (ds_one (ds_ret de_non)))
abbrev N_law_of : List Str := ["source", "some"]
theorem sc_law_of : FnScope N_law_of ["source", "some"] (defScope st_law_of) := ⟨rfl, rfl, rfl, by decide +kernel, rfl, by decide +kernel, by decide +kernel⟩
def F_law_of : SF := (retF (opF ixP (nameF 1) (callS 1 2 C_law_pick (aconsF false (nameF 0) (aconsF false (unF lenP (nameF 1)) anilF)))))
theorem w_law_of {k : Nat} {f : Addr} (bl : Bl mg) (c_law_pick : Cal P w K mg base k "_law_pick" 2 C_law_pick) (cdv : Value) (A : Around) (outer : List PySem.Env) (s : Shared) (H : Hp) (E : XK) (hr : Room k (A.deeper (PyProof.Rows.envOfC "_law_of" (defScope st_law_of) s.heap.objs.size f cdv))) :
    PSs (cxOf CX0 P w K mg base N_law_of "_law_of" (defScope st_law_of) f cdv A outer s H E).nox (defBody st_law_of) (dS K F_law_of) := (ds_one (ds_ret (de_ix (de_name 1) (de_callSC 1 c_law_pick hr rfl (da_cons false (de_name 0) (da_cons false (de_len bl.n_len (de_name 1)) da_nil))))))
abbrev N_law_low : List Str := ["p", "q", "a", "b"]
theorem sc_law_low : FnScope N_law_low ["p", "q"] (defScope st_law_low) := ⟨rfl, rfl, rfl, by decide +kernel, rfl, by decide +kernel, by decide +kernel⟩
def F_law_low : SF := (seqF (parF false false 2 3 (unF absP (nameF 0)) (unF absP (nameF 1)))
  (seqF (whF (boolF (opF gtP (nameF 3) (constF (.int 0)))) (parF false false 2 3 (nameF 3) (opF modP (unF toIntP (nameF 2)) (nameF 3))))
  (retF (ifF (boolF (opF gtP (nameF 1) (constF (.int 0)))) (tupF (consF (opF fdivP (nameF 0) (nameF 2)) (consF (opF fdivP (nameF 1) (nameF 2)) nilF))) (tupF (consF (opF subP (constF (.int 0)) (opF fdivP (nameF 0) (nameF 2))) (consF (opF subP (constF (.int 0)) (opF fdivP (nameF 1) (nameF 2))) nilF)))))))
theorem w_law_low {k : Nat} {f : Addr} (bl : Bl mg)  (cdv : Value) (A : Around) (outer : List PySem.Env) (s : Shared) (H : Hp) (E : XK) (hr : Room k (A.deeper (PyProof.Rows.envOfC "_law_low" (defScope st_law_low) s.heap.objs.size f cdv))) :
    PSs (cxOf CX0 P w K mg base N_law_low "_law_low" (defScope st_law_low) f cdv A outer s H E).nox (defBody st_law_low) (dS K F_law_low) := (ds_cons (ds_par false false 2 3 rfl sc_law_low.nd (de_abs bl.n_abs (de_name 0)) (de_abs bl.n_abs (de_name 1)))
  (ds_cons (ds_while (hp := PassesOwn.never) (dt_cmp op_gt (p_int0 fun _ _ _ => .bl _) (de_name 3) de_int) (ds_one (ds_par false false 2 3 rfl sc_law_low.nd (de_name 3) (de_op op_modN (p_int fun _ _ _ => .int _) (de_toInt bl.n_int (de_name 2)) (de_name 3)))))
  (ds_one (ds_ret (de_if (dt_cmp op_gt (p_int0 fun _ _ _ => .bl _) (de_name 1) de_int) (de_tup (dl_cons (de_op o_fdiv (p_int fun _ _ _ => .int _) (de_name 0) (de_name 2)) (dl_cons (de_op o_fdiv (p_int fun _ _ _ => .int _) (de_name 1) (de_name 2)) dl_nil))) (de_tup (dl_cons (de_op op_sub (p_int0 fun _ _ _ => .int _) de_int (de_op o_fdiv (p_int fun _ _ _ => .int _) (de_name 0) (de_name 2))) (dl_cons (de_op op_sub (p_int0 fun _ _ _ => .int _) de_int (de_op o_fdiv (p_int fun _ _ _ => .int _) (de_name 1) (de_name 2))) dl_nil))))))))
abbrev N_law_less : List Str := ["a", "c", "b", "p", "q"]
theorem sc_law_less : FnScope N_law_less ["a", "c", "b"] (defScope st_law_less) := ⟨rfl, rfl, rfl, by decide +kernel, rfl, by decide +kernel, by decide +kernel⟩
def F_law_less : SF := (seqF (parF false false 3 4 (opF mulP (opF ixP (nameF 1) (constF (.int 0))) (opF ixP (nameF 2) (constF (.int 0)))) (opF mulP (opF ixP (nameF 1) (constF (.int 1))) (opF ixP (nameF 2) (constF (.int 1)))))
  (retF (callC 2 C_law_low (aconsF false (opF subP (opF mulP (opF ixP (nameF 0) (constF (.int 0))) (nameF 4)) (opF mulP (nameF 3) (opF ixP (nameF 0) (constF (.int 1))))) (aconsF false (opF mulP (opF ixP (nameF 0) (constF (.int 1))) (nameF 4)) anilF)))))
theorem w_law_less {k : Nat} {f : Addr} (bl : Bl mg) (c_law_low : Cal P w K mg base k "_law_low" 2 C_law_low) (cdv : Value) (A : Around) (outer : List PySem.Env) (s : Shared) (H : Hp) (E : XK) (hr : Room k (A.deeper (PyProof.Rows.envOfC "_law_less" (defScope st_law_less) s.heap.objs.size f cdv))) :
    PSs (cxOf CX0 P w K mg base N_law_less "_law_less" (defScope st_law_less) f cdv A outer s H E).nox (defBody st_law_less) (dS K F_law_less) := (ds_cons (ds_par false false 3 4 rfl sc_law_less.nd (de_op o_mul p_mul (de_ix (de_name 1) de_int) (de_ix (de_name 2) de_int)) (de_op o_mul p_mul (de_ix (de_name 1) de_int) (de_ix (de_name 2) de_int)))
  (ds_one (ds_ret (de_callC c_law_low hr rfl (da_cons false (de_op op_sub (p_int0 fun _ _ _ => .int _) (de_op o_mul p_mul (de_ix (de_name 0) de_int) (de_name 4)) (de_op o_mul p_mul (de_name 3) (de_ix (de_name 0) de_int))) (da_cons false (de_op o_mul p_mul (de_ix (de_name 0) de_int) (de_name 4)) da_nil))))))
abbrev N_law_solved : List Str := ["lines", "many", "places", "column", "used", "some", "by", "first", "late", "i", "line", "found", "here", "there", "x", "y"]
theorem sc_law_solved : FnScope N_law_solved ["lines", "many"] (defScope st_law_solved) := ⟨rfl, rfl, rfl, by decide +kernel, rfl, by decide +kernel, by decide +kernel⟩
def F_law_solved : SF := (seqF (parF false true 0 2 (compF (itC (nameF 0)) (bdN 10) yesF (compF (itC (nameF 10)) (bdN 14) yesF (tupF (consF (nameF 14) (consF (constF (.int 1)) nilF))) [14]) [10]) (lstF nilF))
  (seqF (forF (itR1 (consF (nameF 1) nilF)) (bdN 3) (seqF (setF 4 (compF (itC (nameF 2)) (bdT (bsL 2 (bsC (bdN 12) (bsC (bdN 13) bsN)))) yesF (nameF 12) [12, 13]))
  (seqF (setF 5 (compF (itEn (consF (nameF 0) nilF)) (bdT (bsL 2 (bsC (bdN 9) (bsC (bdN 10) bsN)))) (andF (boolF (opF neP (opF ixP (opF ixP (nameF 10) (nameF 3)) (constF (.int 0))) (constF (.int 0)))) (boolF (opF niP (nameF 9) (nameF 4)))) (nameF 9) [9, 10]))
  (ifS (boolF (opF neP (nameF 5) (lstF nilF))) (seqF (setF 6 (opF ixP (opF ixP (nameF 0) (opF ixP (nameF 5) (constF (.int 0)))) (nameF 3)))
  (seqF (setF 7 (compF (itC (opF ixP (nameF 0) (opF ixP (nameF 5) (constF (.int 0))))) (bdN 14) yesF (callC 2 C_law_low (aconsF false (opF mulP (opF ixP (nameF 14) (constF (.int 0))) (opF ixP (nameF 6) (constF (.int 1)))) (aconsF false (opF mulP (opF ixP (nameF 14) (constF (.int 1))) (opF ixP (nameF 6) (constF (.int 0)))) anilF))) [14]))
  (seqF (appF 2 (tupF (consF (opF ixP (nameF 5) (constF (.int 0))) (consF (nameF 3) nilF))))
  (seqF (ownF 8 (lstF nilF))
  (seqF (forF (itEn (consF (nameF 0) nilF)) (bdT (bsL 2 (bsC (bdN 9) (bsC (bdN 10) bsN)))) (appF 8 (ifF (boolF (opF eqP (nameF 9) (opF ixP (nameF 5) (constF (.int 0))))) (nameF 7) (compF (itZip (consF (nameF 10) (consF (nameF 7) nilF))) (bdT (bsL 2 (bsC (bdN 14) (bsC (bdN 15) bsN)))) yesF (callC 3 C_law_less (aconsF false (nameF 14) (aconsF false (opF ixP (nameF 10) (nameF 3)) (aconsF false (nameF 15) anilF)))) [14, 15]))))
  (setF 0 (unF toLstP (nameF 8)))))))) skipF))))
  (seqF (setF 4 (compF (itC (nameF 2)) (bdT (bsL 2 (bsC (bdN 12) (bsC (bdN 13) bsN)))) yesF (nameF 12) [12, 13]))
  (seqF (ifS (boolF (opF neP (compF (itEn (consF (nameF 0) nilF)) (bdT (bsL 2 (bsC (bdN 9) (bsC (bdN 10) bsN)))) (andF (boolF (opF niP (nameF 9) (nameF 4))) (boolF (opF neP (opF ixP (opF ixP (nameF 10) (nameF 1)) (constF (.int 0))) (constF (.int 0))))) (nameF 9) [9, 10]) (lstF nilF))) (retF (constF .none)) skipF)
  (seqF (ownF 11 (opF mulP (lstF (consF (tupF (consF (constF (.int 0)) (consF (constF (.int 1)) nilF))) nilF)) (nameF 1)))
  (seqF (forF (itS (nameF 2)) (bdT (bsL 2 (bsC (bdN 12) (bsC (bdN 3) bsN)))) (putF 11 (opF ixP (opF ixP (nameF 0) (nameF 12)) (nameF 1)) (nameF 3)))
  (retF (nameF 11))))))))
theorem w_law_solved {k : Nat} {f : Addr} (bl : Bl mg) (c_law_less : Cal P w K mg base k "_law_less" 3 C_law_less) (c_law_low : Cal P w K mg base k "_law_low" 2 C_law_low) (cdv : Value) (A : Around) (outer : List PySem.Env) (s : Shared) (H : Hp) (E : XK) (hr : Room k (A.deeper (PyProof.Rows.envOfC "_law_solved" (defScope st_law_solved) s.heap.objs.size f cdv))) :
    PSs (cxOf CX0 P w K mg base N_law_solved "_law_solved" (defScope st_law_solved) f cdv A outer s H E).nox (defBody st_law_solved) (dS K F_law_solved) := (ds_cons (ds_par false true 0 2 rfl sc_law_solved.nd (de_lc (own := [("line", 10)]) rfl sc_law_solved.nd (di_seqC (de_name 0)) (okC (N := N_law_solved) (sc := (defScope st_law_solved)) (own := [("line", 10)]) (by decide +kernel)) (fun _ _ _ _ _ => (dg_name 10 sc_law_solved.nd)) (fun _ _ _ _ _ => dts_nil) (fun _ _ _ _ _ => (de_lc (own := [("x", 14)]) rfl sc_law_solved.nd (di_seqC (de_name 10)) (okC (N := N_law_solved) (sc := (relS _ (defScope st_law_solved))) (own := [("x", 14)]) (by decide +kernel)) (fun _ _ _ _ _ => (dg_name 14 sc_law_solved.nd)) (fun _ _ _ _ _ => dts_nil) (fun _ _ _ _ _ => (de_tup (dl_cons (de_name 14) (dl_cons de_int dl_nil)))) (by decide))) (by decide)) (de_lst dl_nil))
  (ds_cons (ds_for (hp := PassesOwn.never) rfl (di_range1 bl.n_range (dl_cons (de_name 1) dl_nil)) (dg_name 3 sc_law_solved.nd) (ds_cons (ds_set 4 (de_lc (own := [("here", 12), ("there", 13)]) rfl sc_law_solved.nd (di_seqC (de_name 2)) (okC (N := N_law_solved) (sc := (defScope st_law_solved)) (own := [("here", 12), ("there", 13)]) (by decide +kernel)) (fun _ _ _ _ _ => (dg_tup rfl (dgs_cons (dg_name 12 sc_law_solved.nd) (dgs_cons (dg_name 13 sc_law_solved.nd) dgs_nil)))) (fun _ _ _ _ _ => dts_nil) (fun _ _ _ _ _ => (de_name 12)) (by decide)) sc_law_solved.nd)
  (ds_cons (ds_setLc 5 (own := [("i", 9), ("line", 10)]) rfl sc_law_solved.nd (di_enum bl.n_enumerate (dl_cons (de_name 0) dl_nil)) (okC (N := N_law_solved) (sc := (defScope st_law_solved)) (own := [("i", 9), ("line", 10)]) (by decide +kernel)) (fun _ _ _ _ _ => (dg_tup rfl (dgs_cons (dg_name 9 sc_law_solved.nd) (dgs_cons (dg_name 10 sc_law_solved.nd) dgs_nil)))) (fun _ _ _ _ _ => (dts_one (dt_pw (dw_and (dt_cmp (o_ne hr.units) p_ne (de_ix (de_ix (de_name 10) (de_name 3)) de_int) de_int) (dw_and1 (dt_cmp (o_ni hr.u65) p_ni (de_name 9) (de_name 4))))))) (fun _ _ _ _ _ => (de_name 9)) (by decide) (sw_true rfl rfl rfl (by decide +kernel)))
  (ds_one (ds_if (dt_cmp (o_ne hr.units) p_ne (de_name 5) (de_lst dl_nil)) (ds_cons (ds_set 6 (de_ix (de_ix (de_name 0) (de_ix (de_name 5) de_int)) (de_name 3)) sc_law_solved.nd)
  (ds_cons (ds_setLc 7 (own := [("x", 14)]) rfl sc_law_solved.nd (di_seqC (de_ix (de_name 0) (de_ix (de_name 5) de_int))) (okC (N := N_law_solved) (sc := (defScope st_law_solved)) (own := [("x", 14)]) (by decide +kernel)) (fun _ _ _ _ _ => (dg_name 14 sc_law_solved.nd)) (fun _ _ _ _ _ => dts_nil) (fun _ _ _ _ _ => (de_callC c_law_low hr rfl (da_cons false (de_op o_mul p_mul (de_ix (de_name 14) de_int) (de_ix (de_name 6) de_int)) (da_cons false (de_op o_mul p_mul (de_ix (de_name 14) de_int) (de_ix (de_name 6) de_int)) da_nil)))) (by decide) (sw_true rfl rfl rfl (by decide +kernel)))
  (ds_cons (ds_append 2 (de_tup (dl_cons (de_ix (de_name 5) de_int) (dl_cons (de_name 3) dl_nil))))
  (ds_cons (ds_own 8 (de_lst dl_nil) sc_law_solved.nd)
  (ds_cons (ds_for (hp := PassesOwn.never) rfl (di_enum bl.n_enumerate (dl_cons (de_name 0) dl_nil)) (dg_tup rfl (dgs_cons (dg_name 9 sc_law_solved.nd) (dgs_cons (dg_name 10 sc_law_solved.nd) dgs_nil))) (ds_one (ds_append 8 (de_if (dt_cmp (o_eq hr.units) p_eq (de_name 9) (de_ix (de_name 5) de_int)) (de_name 7) (de_lc (own := [("x", 14), ("y", 15)]) rfl sc_law_solved.nd (di_zip bl.n_zip (dl_cons (de_name 10) (dl_cons (de_name 7) dl_nil))) (okC (N := N_law_solved) (sc := (defScope st_law_solved)) (own := [("x", 14), ("y", 15)]) (by decide +kernel)) (fun _ _ _ _ _ => (dg_tup rfl (dgs_cons (dg_name 14 sc_law_solved.nd) (dgs_cons (dg_name 15 sc_law_solved.nd) dgs_nil)))) (fun _ _ _ _ _ => dts_nil) (fun _ _ _ _ _ => (de_callC c_law_less hr rfl (da_cons false (de_name 14) (da_cons false (de_ix (de_name 10) (de_name 3)) (da_cons false (de_name 15) da_nil))))) (by decide))))))
  (ds_one (ds_set 0 (de_toLst bl.n_list (de_name 8)) sc_law_solved.nd))))))) ds_nil)))))
  (ds_cons (ds_set 4 (de_lc (own := [("here", 12), ("there", 13)]) rfl sc_law_solved.nd (di_seqC (de_name 2)) (okC (N := N_law_solved) (sc := (defScope st_law_solved)) (own := [("here", 12), ("there", 13)]) (by decide +kernel)) (fun _ _ _ _ _ => (dg_tup rfl (dgs_cons (dg_name 12 sc_law_solved.nd) (dgs_cons (dg_name 13 sc_law_solved.nd) dgs_nil)))) (fun _ _ _ _ _ => dts_nil) (fun _ _ _ _ _ => (de_name 12)) (by decide)) sc_law_solved.nd)
  (ds_cons (ds_if (dt_cmp (o_ne hr.units) p_ne (de_lc (own := [("i", 9), ("line", 10)]) rfl sc_law_solved.nd (di_enum bl.n_enumerate (dl_cons (de_name 0) dl_nil)) (okC (N := N_law_solved) (sc := (defScope st_law_solved)) (own := [("i", 9), ("line", 10)]) (by decide +kernel)) (fun _ _ _ _ _ => (dg_tup rfl (dgs_cons (dg_name 9 sc_law_solved.nd) (dgs_cons (dg_name 10 sc_law_solved.nd) dgs_nil)))) (fun _ _ _ _ _ => (dts_one (dt_pw (dw_and (dt_cmp (o_ni hr.u65) p_ni (de_name 9) (de_name 4)) (dw_and1 (dt_cmp (o_ne hr.units) p_ne (de_ix (de_ix (de_name 10) (de_name 1)) de_int) de_int)))))) (fun _ _ _ _ _ => (de_name 9)) (by decide)) (de_lst dl_nil)) (ds_one (ds_ret de_non)) ds_nil)
  (ds_cons (ds_own 11 (de_op o_mul p_mul (de_lst (dl_cons (de_tup (dl_cons de_int (dl_cons de_int dl_nil))) dl_nil)) (de_name 1)) sc_law_solved.nd)
  (ds_cons (ds_for (hp := PassesOwn.never) rfl (di_seq (de_name 2)) (dg_tup rfl (dgs_cons (dg_name 12 sc_law_solved.nd) (dgs_cons (dg_name 3 sc_law_solved.nd) dgs_nil))) (ds_one (ds_put 11 (de_ix (de_ix (de_name 0) (de_name 12)) (de_name 1)) (de_name 3))))
  (ds_one (ds_ret (de_name 11)))))))))
abbrev N_law_least : List Str := ["row", "m", "lines", "found", "at", "c"]
theorem sc_law_least : FnScope N_law_least ["row"] (defScope st_law_least) := ⟨rfl, rfl, rfl, by decide +kernel, rfl, by decide +kernel, by decide +kernel⟩
def F_law_least : SF := (seqF (forF (itR1 (consF (opF addP (opF fdivP (unF lenP (nameF 0)) (constF (.int 2))) (constF (.int 1))) nilF)) (bdN 1) (seqF (setF 2 (compF (itR1 (consF (opF subP (unF lenP (nameF 0)) (nameF 1)) nilF)) (bdN 4) yesF (unF toLstP (slF (nameF 0) (partF (nameF 4)) (partF (opF addP (opF addP (nameF 4) (nameF 1)) (constF (.int 1)))))) [4]))
  (seqF (setF 3 (callC 2 C_law_solved (aconsF false (nameF 2) (aconsF false (nameF 1) anilF))))
  (ifS (boolF (opF notNP (nameF 3) (constF .none))) (retF (ifF (boolF (opF eqP (compF (itC (nameF 3)) (bdN 5) (boolF (opF neP (opF ixP (nameF 5) (constF (.int 1))) (constF (.int 1)))) (nameF 5) [5]) (lstF nilF))) (unF toTupP (compF (itC (nameF 3)) (bdN 5) yesF (opF ixP (nameF 5) (constF (.int 0))) [5])) (constF .none))) skipF))))
  (retF (constF .none)))
theorem w_law_least {k : Nat} {f : Addr} (bl : Bl mg) (c_law_solved : Cal P w K mg base k "_law_solved" 2 C_law_solved) (cdv : Value) (A : Around) (outer : List PySem.Env) (s : Shared) (H : Hp) (E : XK) (hr : Room k (A.deeper (PyProof.Rows.envOfC "_law_least" (defScope st_law_least) s.heap.objs.size f cdv))) :
    PSs (cxOf CX0 P w K mg base N_law_least "_law_least" (defScope st_law_least) f cdv A outer s H E).nox (defBody st_law_least) (dS K F_law_least) := (ds_cons (ds_for (hp := PassesOwn.never) rfl (di_range1 bl.n_range (dl_cons (de_op o_add p_add (de_op o_fdiv (p_int fun _ _ _ => .int _) (de_len bl.n_len (de_name 0)) de_int) de_int) dl_nil)) (dg_name 1 sc_law_least.nd) (ds_cons (ds_setLc 2 (own := [("at", 4)]) rfl sc_law_least.nd (di_range1 bl.n_range (dl_cons (de_op op_sub (p_int0 fun _ _ _ => .int _) (de_len bl.n_len (de_name 0)) (de_name 1)) dl_nil)) (okC (N := N_law_least) (sc := (defScope st_law_least)) (own := [("at", 4)]) (by decide +kernel)) (fun _ _ _ _ _ => (dg_name 4 sc_law_least.nd)) (fun _ _ _ _ _ => dts_nil) (fun _ _ _ _ _ => (de_toLst bl.n_list (de_slice (de_name 0) (do_some (de_name 4)) (do_some (de_op o_add p_add (de_op o_add p_add (de_name 4) (de_name 1)) de_int))))) (by decide) (sw_true rfl rfl rfl (by decide +kernel)))
  (ds_cons (ds_set 3 (de_callC c_law_solved hr rfl (da_cons false (de_name 2) (da_cons false (de_name 1) da_nil))) sc_law_least.nd)
  (ds_one (ds_if (dt_cmp op_notN p_notN (de_name 3) de_non) (ds_one (ds_ret (de_if (dt_cmp (o_eq hr.units) p_eq (de_lc (own := [("c", 5)]) rfl sc_law_least.nd (di_seqC (de_name 3)) (okC (N := N_law_least) (sc := (defScope st_law_least)) (own := [("c", 5)]) (by decide +kernel)) (fun _ _ _ _ _ => (dg_name 5 sc_law_least.nd)) (fun _ _ _ _ _ => (dts_one (dt_cmp (o_ne hr.units) p_ne (de_ix (de_name 5) de_int) de_int))) (fun _ _ _ _ _ => (de_name 5)) (by decide)) (de_lst dl_nil)) (de_toTup bl.n_tuple (de_lc (own := [("c", 5)]) rfl sc_law_least.nd (di_seqC (de_name 3)) (okC (N := N_law_least) (sc := (defScope st_law_least)) (own := [("c", 5)]) (by decide +kernel)) (fun _ _ _ _ _ => (dg_name 5 sc_law_least.nd)) (fun _ _ _ _ _ => dts_nil) (fun _ _ _ _ _ => (de_ix (de_name 5) de_int)) (by decide))) de_non))) ds_nil)))))
  (ds_one (ds_ret de_non)))
abbrev N_law_row : List Str := ["source", "m", "many", "row", "c", "at", "x", "y"]
theorem sc_law_row : FnScope N_law_row ["source"] (defScope st_law_row) := ⟨rfl, rfl, rfl, by decide +kernel, rfl, by decide +kernel, by decide +kernel⟩
def F_law_row : SF := (seqF (parF false false 1 2 (callS 1 2 C_law_pick (aconsF false (nameF 0) (aconsF false (constF (.int 5)) anilF))) (callS 1 2 C_law_pick (aconsF false (nameF 0) (aconsF false (constF (.int 13)) anilF))))
  (seqF (ownF 3 (compF (itR1 (consF (nameF 2) nilF)) (bdN 5) yesF (opF subP (callS 1 2 C_law_pick (aconsF false (nameF 0) (aconsF false (constF (.int 11)) anilF))) (constF (.int 5))) [5]))
  (seqF (setF 4 (compF (itR1 (consF (nameF 1) nilF)) (bdN 5) yesF (callS 1 2 C_law_of (aconsF false (nameF 0) (aconsF false (lstF (consF (constF (.int 0)) (consF (constF (.int 1)) (consF (unF negP (constF (.int 1))) (consF (constF (.int 2)) (consF (constF (.int 3)) (consF (unF negP (constF (.int 2))) nilF))))))) anilF))) [5]))
  (seqF (forF (itR2 (consF (nameF 1) (consF (nameF 2) nilF))) (bdN 5) (putF 3 (unF sumP (compF (itZip (consF (nameF 4) (consF (slF (nameF 3) (partF (opF subP (nameF 5) (nameF 1))) (partF (nameF 5))) nilF))) (bdT (bsL 2 (bsC (bdN 6) (bsC (bdN 7) bsN)))) yesF (opF mulP (nameF 6) (nameF 7)) [6, 7])) (nameF 5)))
  (seqF (ifS (andF (boolF (opF gtP (nameF 2) (constF (.int 0)))) (boolF (opF eqP (callS 1 2 C_law_pick (aconsF false (nameF 0) (aconsF false (constF (.int 4)) anilF))) (constF (.int 0))))) (seqF (setF 5 (callS 1 2 C_law_pick (aconsF false (nameF 0) (aconsF false (nameF 2) anilF))))
  (putF 3 (opF addP (opF ixP (nameF 3) (nameF 5)) (constF (.int 1))) (nameF 5))) skipF)
  (seqF (ifS (boolF (opF eqP (callS 1 2 C_law_pick (aconsF false (nameF 0) (aconsF false (constF (.int 6)) anilF))) (constF (.int 0)))) (ownF 3 (compF (itC (slF (lstF (consF (constF (.int 64)) (consF (constF (.int 32)) (consF (constF (.int 16)) (consF (constF (.int 8)) (consF (constF (.int 4)) (consF (constF (.int 2)) (consF (constF (.int 1)) nilF)))))))) noneF (partF (nameF 2)))) (bdN 6) yesF (opF mulP (callS 1 2 C_law_of (aconsF false (nameF 0) (aconsF false (lstF (consF (constF (.int 1)) (consF (constF (.int 2)) nilF))) anilF))) (nameF 6)) [6])) skipF)
  (retF (nameF 3))))))))
theorem w_law_row {k : Nat} {f : Addr} (bl : Bl mg) (c_law_pick : Cal P w K mg base k "_law_pick" 2 C_law_pick) (c_law_of : Cal P w K mg base k "_law_of" 2 C_law_of) (cdv : Value) (A : Around) (outer : List PySem.Env) (s : Shared) (H : Hp) (E : XK) (hr : Room k (A.deeper (PyProof.Rows.envOfC "_law_row" (defScope st_law_row) s.heap.objs.size f cdv))) :
    PSs (cxOf CX0 P w K mg base N_law_row "_law_row" (defScope st_law_row) f cdv A outer s H E).nox (defBody st_law_row) (dS K F_law_row) := (ds_cons (ds_par false false 1 2 rfl sc_law_row.nd (de_callSC 1 c_law_pick hr rfl (da_cons false (de_name 0) (da_cons false de_int da_nil))) (de_callSC 1 c_law_pick hr rfl (da_cons false (de_name 0) (da_cons false de_int da_nil))))
  (ds_cons (ds_ownLc 3 (own := [("at", 5)]) rfl sc_law_row.nd (di_range1 bl.n_range (dl_cons (de_name 2) dl_nil)) (okC (N := N_law_row) (sc := (defScope st_law_row)) (own := [("at", 5)]) (by decide +kernel)) (fun _ _ _ _ _ => (dg_name 5 sc_law_row.nd)) (fun _ _ _ _ _ => dts_nil) (fun _ _ _ _ _ => (de_op op_sub (p_int0 fun _ _ _ => .int _) (de_callSC 1 c_law_pick hr rfl (da_cons false (de_name 0) (da_cons false de_int da_nil))) de_int)) (by decide) (sw_true rfl rfl rfl (by decide +kernel)))
  (ds_cons (ds_setLc 4 (own := [("at", 5)]) rfl sc_law_row.nd (di_range1 bl.n_range (dl_cons (de_name 1) dl_nil)) (okC (N := N_law_row) (sc := (defScope st_law_row)) (own := [("at", 5)]) (by decide +kernel)) (fun _ _ _ _ _ => (dg_name 5 sc_law_row.nd)) (fun _ _ _ _ _ => dts_nil) (fun _ _ _ _ _ => (de_callSC 1 c_law_of hr rfl (da_cons false (de_name 0) (da_cons false (de_lst (dl_cons de_int (dl_cons de_int (dl_cons (de_un un_neg p_neg de_int) (dl_cons de_int (dl_cons de_int (dl_cons (de_un un_neg p_neg de_int) dl_nil))))))) da_nil)))) (by decide) (sw_true rfl rfl rfl (by decide +kernel)))
  (ds_cons (ds_for (hp := PassesOwn.never) rfl (di_range2 bl.n_range (dl_cons (de_name 1) (dl_cons (de_name 2) dl_nil))) (dg_name 5 sc_law_row.nd) (ds_one (ds_put 3 (de_sum rfl bl.n_sum (de_lc (own := [("x", 6), ("y", 7)]) rfl sc_law_row.nd (di_zip bl.n_zip (dl_cons (de_name 4) (dl_cons (de_slice (de_name 3) (do_some (de_op op_sub (p_int0 fun _ _ _ => .int _) (de_name 5) (de_name 1))) (do_some (de_name 5))) dl_nil))) (okC (N := N_law_row) (sc := (defScope st_law_row)) (own := [("x", 6), ("y", 7)]) (by decide +kernel)) (fun _ _ _ _ _ => (dg_tup rfl (dgs_cons (dg_name 6 sc_law_row.nd) (dgs_cons (dg_name 7 sc_law_row.nd) dgs_nil)))) (fun _ _ _ _ _ => dts_nil) (fun _ _ _ _ _ => (de_op o_mul p_mul (de_name 6) (de_name 7))) (by decide))) (de_name 5))))
  (ds_cons (ds_if (dt_pw (dw_and (dt_cmp op_gt (p_int0 fun _ _ _ => .bl _) (de_name 2) de_int) (dw_and1 (dt_cmp (o_eq hr.units) p_eq (de_callSC 1 c_law_pick hr rfl (da_cons false (de_name 0) (da_cons false de_int da_nil))) de_int)))) (ds_cons (ds_set 5 (de_callSC 1 c_law_pick hr rfl (da_cons false (de_name 0) (da_cons false (de_name 2) da_nil))) sc_law_row.nd)
  (ds_one (ds_put 3 (de_op o_add p_add (de_ix (de_name 3) (de_name 5)) de_int) (de_name 5)))) ds_nil)
  (ds_cons (ds_if (dt_cmp (o_eq hr.units) p_eq (de_callSC 1 c_law_pick hr rfl (da_cons false (de_name 0) (da_cons false de_int da_nil))) de_int) (ds_one (ds_ownLc 3 (own := [("x", 6)]) rfl sc_law_row.nd (di_seqC (de_slice (de_lst (dl_cons de_int (dl_cons de_int (dl_cons de_int (dl_cons de_int (dl_cons de_int (dl_cons de_int (dl_cons de_int dl_nil)))))))) do_none (do_some (de_name 2)))) (okC (N := N_law_row) (sc := (defScope st_law_row)) (own := [("x", 6)]) (by decide +kernel)) (fun _ _ _ _ _ => (dg_name 6 sc_law_row.nd)) (fun _ _ _ _ _ => dts_nil) (fun _ _ _ _ _ => (de_op o_mul p_mul (de_callSC 1 c_law_of hr rfl (da_cons false (de_name 0) (da_cons false (de_lst (dl_cons de_int (dl_cons de_int dl_nil))) da_nil))) (de_name 6))) (by decide) (sw_true rfl rfl rfl (by decide +kernel)))) ds_nil)
  (ds_one (ds_ret (de_name 3)))))))))
abbrev N_law : List Str := ["script", "source", "lap", "row", "due", "kept", "m", "goes", "first", "c", "long", "turn", "told", "at", "x", "y"]
theorem sc_law : FnScope N_law ["script"] (defScope st_law) := ⟨rfl, rfl, rfl, by decide +kernel, rfl, by decide +kernel, by decide +kernel⟩
def F_law : SF := (seqF (forF (itR1 (consF (constF (.int 8)) nilF)) (bdN 2) (seqF (setF 3 (callS 64 1 C_law_row (aconsF false (nameF 1) anilF)))
  (seqF (asgF (bdT (bsL 2 (bsC (bdN 4) (bsC (bdN 5) bsN)))) (tupF (consF (callC 1 C_law_least (aconsF false (nameF 3) anilF)) (consF (unF reprP (nameF 3)) nilF))))
  (seqF (ifS (boolF (opF neSP (unF reprP (lstF (consF (callC 1 C_recurrence_of (aconsF false (unF toLstP (nameF 3)) anilF)) (consF (callC 1 C_recurrence_of (aconsF false (unF toTupP (nameF 3)) anilF)) nilF)))) (unF reprP (lstF (consF (nameF 4) (consF (nameF 4) nilF)))))) (retF (constF (.bool false))) skipF)
  (seqF (ifS (boolF (opF notNP (nameF 4) (constF .none))) (seqF (setF 6 (unF lenP (nameF 4)))
  (seqF (setF 7 (compF (itR2 (consF (nameF 6) (consF (unF lenP (nameF 3)) nilF))) (bdN 13) yesF (opF eqP (unF sumP (compF (itZip (consF (nameF 4) (consF (slF (nameF 3) (partF (opF subP (nameF 13) (nameF 6))) (partF (nameF 13))) nilF))) (bdT (bsL 2 (bsC (bdN 14) (bsC (bdN 15) bsN)))) yesF (opF mulP (nameF 14) (nameF 15)) [14, 15])) (opF ixP (nameF 3) (nameF 13))) [13]))
  (ifS (orF (boolF (opF gtP (opF mulP (constF (.int 2)) (nameF 6)) (unF lenP (nameF 3)))) (boolF (opF inP (constF (.bool false)) (nameF 7)))) (retF (constF (.bool false))) skipF))) skipF)
  (seqF (parF false false 8 9 (compF (itR1 (consF (constF (.int 3)) nilF)) (bdN 13) yesF (opF subP (callS 1 2 C_law_pick (aconsF false (nameF 1) (aconsF false (constF (.int 7)) anilF))) (constF (.int 3))) [13]) (lstF (consF (callS 1 2 C_law_of (aconsF false (nameF 1) (aconsF false (lstF (consF (constF (.int 1)) (consF (unF negP (constF (.int 1))) (consF (constF (.int 4)) nilF)))) anilF))) (consF (constF (.int 0)) (consF (callS 1 2 C_law_pick (aconsF false (nameF 1) (aconsF false (constF (.int 3)) anilF))) nilF)))))
  (seqF (ownF 10 (unF toLstP (nameF 8)))
  (seqF (forF (itR1 (consF (constF (.int 9)) nilF)) (bdN 11) (appF 10 (unF sumP (compF (itZip (consF (nameF 9) (consF (slF (nameF 10) (partF (unF negP (constF (.int 3)))) noneF) nilF))) (bdT (bsL 2 (bsC (bdN 14) (bsC (bdN 15) bsN)))) yesF (opF mulP (nameF 14) (nameF 15)) [14, 15]))))
  (ifS (orF (boolF (opF neSP (unF reprP (callC 1 C_recurrence_of (aconsF false (unF toLstP (nameF 10)) anilF))) (unF reprP (callC 1 C_law_least (aconsF false (nameF 10) anilF))))) (boolF (opF neSP (unF reprP (nameF 3)) (nameF 5)))) (retF (constF (.bool false))) skipF)))))))))
  (seqF (setF 12 (compF (itC (tupF (consF (lstF (consF (constF (.int 8)) (consF (constF (.int 4)) (consF (constF (.int 2)) (consF (constF (.int 1)) nilF))))) (consF (lstF (consF (constF (.int 0)) (consF (constF (.int 0)) (consF (constF (.int 0)) (consF (constF (.int 1)) nilF))))) (consF (lstF nilF) (consF (lstF (consF (constF (.int 3)) nilF)) (consF (lstF (consF (constF (.int 0)) nilF)) nilF))))))) (bdN 3) yesF (callC 1 C_recurrence_of (aconsF false (nameF 3) anilF)) [3]))
  (retF (opF eqSP (unF reprP (nameF 12)) (constF (.str "[None, None, (), None, ()]"))))))
theorem w_law {k : Nat} {f : Addr} (bl : Bl mg) (c_recurrence_of : Cal P w K mg base k "recurrence_of" 1 C_recurrence_of) (c_law_least : Cal P w K mg base k "_law_least" 1 C_law_least) (c_law_pick : Cal P w K mg base k "_law_pick" 2 C_law_pick) (c_law_of : Cal P w K mg base k "_law_of" 2 C_law_of) (c_law_row : Cal P w K mg base k "_law_row" 1 C_law_row) (cdv : Value) (A : Around) (outer : List PySem.Env) (s : Shared) (H : Hp) (E : XK) (hgd : A.guards = some []) (hr : Room k (A.deeper (PyProof.Rows.envOfC "law" (defScope st_law) s.heap.objs.size f cdv))) :
    PSs (cxOf CX0 P w K mg base N_law "law" (defScope st_law) f cdv A outer s H E).nox ((defBody st_law).drop 1) (dS K F_law) := (ds_cons (ds_for (hp := PassesOwn.never) rfl (di_range1 bl.n_range (dl_cons de_int dl_nil)) (dg_name 2 sc_law.nd) (ds_cons (ds_set 3 (de_callSC 64 c_law_row hr rfl (da_cons false (de_name 1) da_nil)) sc_law.nd)
  (ds_cons (ds_asg (de_tup (dl_cons (de_callC c_law_least hr rfl (da_cons false (de_name 3) da_nil)) (dl_cons (de_repr hgd hr.units bl.n_repr (de_name 3)) dl_nil))) (dg_tup rfl (dgs_cons (dg_name 4 sc_law.nd) (dgs_cons (dg_name 5 sc_law.nd) dgs_nil))))
  (ds_cons (ds_if (dt_cmp o_neS p_neS (de_repr hgd hr.units bl.n_repr (de_lst (dl_cons (de_callC c_recurrence_of hr rfl (da_cons false (de_toLst bl.n_list (de_name 3)) da_nil)) (dl_cons (de_callC c_recurrence_of hr rfl (da_cons false (de_toTup bl.n_tuple (de_name 3)) da_nil)) dl_nil)))) (de_repr hgd hr.units bl.n_repr (de_lst (dl_cons (de_name 4) (dl_cons (de_name 4) dl_nil))))) (ds_one (ds_ret de_bl)) ds_nil)
  (ds_cons (ds_if (dt_cmp op_notN p_notN (de_name 4) de_non) (ds_cons (ds_set 6 (de_len bl.n_len (de_name 4)) sc_law.nd)
  (ds_cons (ds_setLc 7 (own := [("at", 13)]) rfl sc_law.nd (di_range2 bl.n_range (dl_cons (de_name 6) (dl_cons (de_len bl.n_len (de_name 3)) dl_nil))) (okC (N := N_law) (sc := (defScope st_law)) (own := [("at", 13)]) (by decide +kernel)) (fun _ _ _ _ _ => (dg_name 13 sc_law.nd)) (fun _ _ _ _ _ => dts_nil) (fun _ _ _ _ _ => (de_cmp (o_eq hr.units) p_eq (de_sum rfl bl.n_sum (de_lc (own := [("x", 14), ("y", 15)]) rfl sc_law.nd (di_zip bl.n_zip (dl_cons (de_name 4) (dl_cons (de_slice (de_name 3) (do_some (de_op op_sub (p_int0 fun _ _ _ => .int _) (de_name 13) (de_name 6))) (do_some (de_name 13))) dl_nil))) (okC (N := N_law) (sc := (relS _ (defScope st_law))) (own := [("x", 14), ("y", 15)]) (by decide +kernel)) (fun _ _ _ _ _ => (dg_tup rfl (dgs_cons (dg_name 14 sc_law.nd) (dgs_cons (dg_name 15 sc_law.nd) dgs_nil)))) (fun _ _ _ _ _ => dts_nil) (fun _ _ _ _ _ => (de_op o_mul p_mul (de_name 14) (de_name 15))) (by decide))) (de_ix (de_name 3) (de_name 13)))) (by decide) (sw_true rfl rfl rfl (by decide +kernel)))
  (ds_one (ds_if (dt_pw (dw_or (dt_cmp op_gt (p_int0 fun _ _ _ => .bl _) (de_op o_mul p_mul de_int (de_name 6)) (de_len bl.n_len (de_name 3))) (dw_or1 (dt_cmp (o_in hr.u65) p_in de_bl (de_name 7))))) (ds_one (ds_ret de_bl)) ds_nil)))) ds_nil)
  (ds_cons (ds_par false false 8 9 rfl sc_law.nd (de_lc (own := [("at", 13)]) rfl sc_law.nd (di_range1 bl.n_range (dl_cons de_int dl_nil)) (okC (N := N_law) (sc := (defScope st_law)) (own := [("at", 13)]) (by decide +kernel)) (fun _ _ _ _ _ => (dg_name 13 sc_law.nd)) (fun _ _ _ _ _ => dts_nil) (fun _ _ _ _ _ => (de_op op_sub (p_int0 fun _ _ _ => .int _) (de_callSC 1 c_law_pick hr rfl (da_cons false (de_name 1) (da_cons false de_int da_nil))) de_int)) (by decide)) (de_lst (dl_cons (de_callSC 1 c_law_of hr rfl (da_cons false (de_name 1) (da_cons false (de_lst (dl_cons de_int (dl_cons (de_un un_neg p_neg de_int) (dl_cons de_int dl_nil)))) da_nil))) (dl_cons de_int (dl_cons (de_callSC 1 c_law_pick hr rfl (da_cons false (de_name 1) (da_cons false de_int da_nil))) dl_nil)))))
  (ds_cons (ds_own 10 (de_toLst bl.n_list (de_name 8)) sc_law.nd)
  (ds_cons (ds_for (hp := PassesOwn.never) rfl (di_range1 bl.n_range (dl_cons de_int dl_nil)) (dg_name 11 sc_law.nd) (ds_one (ds_append 10 (de_sum rfl bl.n_sum (de_lc (own := [("x", 14), ("y", 15)]) rfl sc_law.nd (di_zip bl.n_zip (dl_cons (de_name 9) (dl_cons (de_slice (de_name 10) (do_some (de_un un_neg p_neg de_int)) do_none) dl_nil))) (okC (N := N_law) (sc := (defScope st_law)) (own := [("x", 14), ("y", 15)]) (by decide +kernel)) (fun _ _ _ _ _ => (dg_tup rfl (dgs_cons (dg_name 14 sc_law.nd) (dgs_cons (dg_name 15 sc_law.nd) dgs_nil)))) (fun _ _ _ _ _ => dts_nil) (fun _ _ _ _ _ => (de_op o_mul p_mul (de_name 14) (de_name 15))) (by decide))))))
  (ds_one (ds_if (dt_pw (dw_or (dt_cmp o_neS p_neS (de_repr hgd hr.units bl.n_repr (de_callC c_recurrence_of hr rfl (da_cons false (de_toLst bl.n_list (de_name 10)) da_nil))) (de_repr hgd hr.units bl.n_repr (de_callC c_law_least hr rfl (da_cons false (de_name 10) da_nil)))) (dw_or1 (dt_cmp o_neS p_neS (de_repr hgd hr.units bl.n_repr (de_name 3)) (de_name 5))))) (ds_one (ds_ret de_bl)) ds_nil))))))))))
  (ds_cons (ds_setLc 12 (own := [("row", 3)]) rfl sc_law.nd (di_seqC (de_tup (dl_cons (de_lst (dl_cons de_int (dl_cons de_int (dl_cons de_int (dl_cons de_int dl_nil))))) (dl_cons (de_lst (dl_cons de_int (dl_cons de_int (dl_cons de_int (dl_cons de_int dl_nil))))) (dl_cons (de_lst dl_nil) (dl_cons (de_lst (dl_cons de_int dl_nil)) (dl_cons (de_lst (dl_cons de_int dl_nil)) dl_nil))))))) (okC (N := N_law) (sc := (defScope st_law)) (own := [("row", 3)]) (by decide +kernel)) (fun _ _ _ _ _ => (dg_name 3 sc_law.nd)) (fun _ _ _ _ _ => dts_nil) (fun _ _ _ _ _ => (de_callC c_recurrence_of hr rfl (da_cons false (de_name 3) da_nil))) (by decide) (sw_true rfl rfl rfl (by decide +kernel)))
  (ds_one (ds_ret (de_cmp o_eqS p_eqS (de_repr hgd hr.units bl.n_repr (de_name 12)) de_str)))))
end
end K45


set_option Elab.async false
set_option linter.all false
set_option maxRecDepth 100000
set_option maxHeartbeats 4000000
namespace K45
open PySem L2 Dat
local macro_rules | `(tactic| walk_at "D") => `(tactic| (conv => whnf))
theorem eqv_int (i j : Int) : PyData.eqv (.int i) (.int j) = decide (i = j) := by
  unfold PyData.eqv; rfl
def idx (k : Nat) : List Int → List Int
  | [] => []
  | x :: r => if x ≠ 0 then (k : Int) :: idx (k + 1) r else idx (k + 1) r
theorem idx_eq : ∀ (ns : List Int) (k : Nat), (ns.zipIdx k).filterMap (fun p => if p.1 ≠ 0 then some (PyData.int (p.2 : Int)) else none) = (idx k ns).map .int
  | [], _ => rfl
  | x :: r, k => by
    have := idx_eq r (k + 1)
    by_cases h : x = 0
    · simp [List.zipIdx_cons, idx, h] at this ⊢; exact this
    · simp [List.zipIdx_cons, idx, h] at this ⊢; exact this
theorem idx_ge : ∀ (ns : List Int) (k : Nat), ∀ m ∈ idx k ns, (k : Int) ≤ m
  | [], _, _, h => by simp [idx] at h
  | x :: r, k, m, h => by
    have := idx_ge r (k + 1) m
    unfold idx at h
    split at h
    · rcases List.mem_cons.mp h with z | z
      · omega
      · have := this z; omega
    · have := this h; omega
theorem idx_fp : ∀ (ns : List Int) (k : Nat), (idx k ns = [] ∧ fp ns = ns.length) ∨ ∃ r, idx k ns = ((k + fp ns : Nat) : Int) :: r ∧ ∀ m ∈ r, ((k + fp ns : Nat) : Int) ≤ m
  | [], _ => .inl ⟨rfl, rfl⟩
  | x :: r, k => by
    by_cases h : x = 0
    · have e : fp (x :: r) = fp r + 1 := by simp [fp, List.findIdx_cons, h]
      have e2 : idx k (x :: r) = idx (k + 1) r := by simp [idx, h]
      rw [e, e2]
      rcases idx_fp r (k + 1) with ⟨h1, h2⟩ | ⟨r', h1, h2⟩
      · exact .inl ⟨h1, by simp [h2]⟩
      · refine .inr ⟨r', ?_, ?_⟩
        · rw [h1, show k + 1 + fp r = k + (fp r + 1) by omega]
        · rw [show k + (fp r + 1) = k + 1 + fp r by omega]; exact h2
    · have hb : (x != 0) = true := by simpa using h
      have e : fp (x :: r) = 0 := by simp [fp, List.findIdx_cons, hb]
      have e2 : idx k (x :: r) = (k : Int) :: idx (k + 1) r := by simp [idx, h]
      rw [e, e2]
      exact .inr ⟨_, rfl, fun m hm => by have := idx_ge r (k + 1) m hm; omega⟩
theorem foldl_min {n : Int} : ∀ {r : List Int}, (∀ m ∈ r, n ≤ m) → r.foldl min n = n
  | [], _ => rfl
  | m :: r, h => by
    have := h m (List.mem_cons_self ..)
    rw [List.foldl_cons, Int.min_eq_left this]
    exact foldl_min fun z hz => h z (List.mem_cons_of_mem _ hz)
theorem m_first_place (as : Rho) (Φ : PyData → Prop) (_ : as.length = 1) (c : C_first_place as Φ) : F_first_place (as ++ List.replicate (N_first_place.length - 1) .un) { nx := fun _ => Φ .none, rt := Φ } := by
  obtain ⟨ns, rfl, hl, q⟩ := c
  walk_at "D"
  rw [enumD_map0]
  refine ⟨small (by simp; omega), cmp_fm (fun p => if p.1 ≠ 0 then some (.int p.2) else none) _ (fun p _ N h => ?_) ?_⟩
  · walk_at "D"
    refine ⟨rfl, ?_⟩
    walk_at "D"
    refine ⟨⟨rfl, rfl⟩, ?_⟩
    walk_at "D"
    rw [eqv_int]
    refine ⟨fun z => ?_, fun z => ?_⟩
    · have z : p.1 ≠ 0 := by simpa using z
      rw [if_pos z] at h; exact h
    · have z : p.1 = 0 := by simpa using z
      rw [if_neg (not_not_intro z)] at h; exact h
  · walk_at "D"
    rw [List.nil_append, idx_eq]
    refine ⟨idx 0 ns, rfl, ?_⟩
    rcases idx_fp ns 0 with ⟨h1, h2⟩ | ⟨r, h1, h2⟩
    · rw [h1]
      walk_at "D"
      rw [h2] at q
      rw [List.length_map]
      exact q
    · rw [h1]
      walk_at "D"
      rw [foldl_min h2, Nat.zero_add]
      exact q
theorem div_ok {x g : Int} (hx : x.natAbs < 2 ^ dl) (hg : g ≠ 0) : divC x g := by
  refine ⟨hg, ?_⟩
  unfold Builtin.divisionGoesByPylong
  simp only [Bool.and_eq_false_iff, decide_eq_false_iff_not]
  have : x.natAbs.log2 < 13500 := by
    by_cases h : x.natAbs = 0
    · rw [h]; decide
    · refine (Nat.log2_lt h).mpr (Nat.lt_of_lt_of_le hx (Nat.pow_le_pow_right (by decide) (by decide)))
  by_cases h0 : x = 0
  · right; subst h0; simp
  · by_cases h1 : (if (g == 0) = true then 0 else g.natAbs.log2 / 30 + 1) > 300
    · right
      rw [if_neg (by simpa using h0)]
      omega
    · left; exact h1
theorem m_lowered (as : Rho) (Φ : PyData → Prop) (_ : as.length = 1) (c : C_lowered as Φ) : F_lowered (as ++ List.replicate (N_lowered.length - 1) .un) { nx := fun _ => Φ .none, rt := Φ } := by
  obtain ⟨ns, rfl, hl, hb, q⟩ := c
  walk_at "D"
  refine ⟨rfl, forP_ind (fun r ρ => ∃ g x, ρ = [.da (eI ns), .da (.int g), x] ∧ r.foldl (fun g x => ((Nat.gcd g.natAbs x.natAbs : Nat) : Int)) g = gcdL ns) ?_ ?_ _ _ ⟨0, .un, rfl, rfl⟩⟩
  · rintro _ ⟨g, x, rfl, hg⟩
    have hg : g = gcdL ns := hg
    subst hg
    walk_at "D"
    refine ⟨fun z => ?_, fun z => ?_⟩
    · have z : 1 < gcdL ns := by simpa using z
      walk_at "D"
      refine ⟨small (by simp; omega), cmp_map (fun x => .int (x.fdiv (gcdL ns))) _ (fun y hy N h => br_t ?_) ?_⟩
      · walk_at "D"
        exact ⟨div_ok (hb y hy) (by omega), h⟩
      · walk_at "D"
        have e : lowered ns = ns.map fun x => x.fdiv (gcdL ns) := if_pos z
        rw [e, eI, List.map_map] at q
        exact q
    · have z : ¬1 < gcdL ns := by simpa using z
      walk_at "D"
      have e : lowered ns = ns := if_neg z
      rw [e] at q
      exact q
  · rintro y r _ ⟨g, x, rfl, hg⟩ N hN
    exact hN _ ⟨_, _, rfl, hg⟩
end K45


set_option Elab.async false
set_option linter.all false
set_option maxRecDepth 100000
set_option maxHeartbeats 4000000
namespace K45
open PySem L2 Dat
local macro_rules | `(tactic| walk_at "D") => `(tactic| (conv => whnf))
theorem dlv : dl = 13000 := rfl
theorem da_list {l l' : List PyData} (h : l = l') : [Slot.da (PyData.list l)] = [Slot.da (PyData.list l')] := by rw [h]
theorem atI_int {ns : List Int} {i : Nat} (h : i < ns.length) : L2.atI (ns.map PyData.int) (i : Int) = some (.int (ns.getD i 0)) := by
  refine atI_nat ?_
  rw [List.getElem?_map, List.getElem?_eq_getElem h, List.getD_eq_getElem?_getD, List.getElem?_eq_getElem h]; rfl
theorem cm_of {x y : Int} {a b : Nat} (hx : x.natAbs < 2 ^ a) (hy : y.natAbs < 2 ^ b) (h : a + b ≤ 100000000) : CMulX x y := by
  have h1 := PySem.intBits_le_iff.mpr hx
  have h2 := PySem.intBits_le_iff.mpr hy
  unfold CMulX
  omega
theorem bnd_getD {B : Nat} {r : List Int} {i : Nat} (h : Bnd B r) (hi : i < r.length) : (r.getD i 0).natAbs < 2 ^ B := by
  rw [List.getD_eq_getElem?_getD, List.getElem?_eq_getElem hi]
  exact h _ (List.getElem_mem hi)
theorem sub_bits {x y : Int} {a b : Nat} (hx : x.natAbs < 2 ^ a) (hy : y.natAbs < 2 ^ b) : (x - y).natAbs < 2 ^ (max a b + 1) := by
  have h1 : 2 ^ a ≤ 2 ^ max a b := Nat.pow_le_pow_right (by decide) (Nat.le_max_left _ _)
  have h2 : 2 ^ b ≤ 2 ^ max a b := Nat.pow_le_pow_right (by decide) (Nat.le_max_right _ _)
  rw [Nat.pow_succ]
  omega
theorem mul_bits {x y : Int} {a b : Nat} (hx : x.natAbs < 2 ^ a) (hy : y.natAbs < 2 ^ b) : (x * y).natAbs < 2 ^ (a + b) := by
  rw [Int.natAbs_mul, Nat.pow_add]
  exact Nat.mul_lt_mul'' hx hy
theorem bits_mono {n a b : Nat} (h : n < 2 ^ a) (hab : a ≤ b) : n < 2 ^ b := Nat.lt_of_lt_of_le h (Nat.pow_le_pow_right (by decide) hab)
/-- the numbers of one clearing -/
def cross (e row : List Int) : List Int := (row.zip e).map fun p => p.1 * e.getD (fp e) 0 - p.2 * row.getD (fp e) 0
theorem bnd_cross {a b : Nat} {e row : List Int} (he : Bnd a e) (hr : Bnd b row) (h1 : fp e < row.length) (h2 : e.length = row.length) : Bnd (a + b + 1) (cross e row) := by
  intro x hx
  obtain ⟨p, hp, rfl⟩ := List.mem_map.mp hx
  have hp1 := hr _ (List.of_mem_zip hp).1
  have hp2 := he _ (List.of_mem_zip hp).2
  have q1 := mul_bits hp1 (bnd_getD (i := fp e) he (by omega))
  have q2 := mul_bits hp2 (bnd_getD hr h1)
  have := sub_bits q1 q2
  refine bits_mono this ?_
  omega
theorem m_cleared (as : Rho) (Φ : PyData → Prop) (_ : as.length = 2) (c : C_cleared as Φ) : F_cleared (as ++ List.replicate (N_cleared.length - 2) .un) { nx := fun _ => Φ .none, rt := Φ } := by
  obtain ⟨rs, row, rfl, ok, q⟩ := c
  walk_at "D"
  refine ⟨rfl, forP_ind (fun r ρ => ∃ row' x2 x3 x4 x5, ρ = [.bo (rs.map eI), .da (eI row'), x2, x3, x4, x5] ∧ ClOk r row' ∧ cleared r row' = cleared rs row) ?_ ?_ _ _ ⟨row, .un, .un, .un, .un, rfl, ok, rfl⟩⟩
  · rintro _ ⟨row', x2, x3, x4, x5, rfl, _, h⟩
    have h : row' = cleared rs row := h
    subst h
    exact q
  · rintro e r _ ⟨row', x2, x3, x4, x5, rfl, ⟨⟨h1, h2, h3, a, b, ha, hb, hab⟩, ok'⟩, hc⟩ N hN
    walk_at "D"
    refine ⟨rfl, e, rfl, by omega, ?_⟩
    walk_at "D"
    refine ⟨_, atI_int h1, ?_⟩
    walk_at "D"
    refine ⟨⟨rfl, rfl⟩, ?_⟩
    walk_at "D"
    rw [eqv_int]
    have hstep : cleared (e :: r) row' = cleared r (step1 e row') := rfl
    refine br_nd (fun z => ?_) fun z => ?_
    · walk_at "D"
      rw [zipD_map]
      refine ⟨small (by simp; omega), cmp_map (fun p => .int (p.1 * e.getD (fp e) 0 - p.2 * row'.getD (fp e) 0)) _ (fun p hp N h => ?_) ?_⟩
      · have hp1 := hb _ (List.of_mem_zip hp).1
        have hp2 := ha _ (List.of_mem_zip hp).2
        walk_at "D"
        refine ⟨rfl, ?_⟩
        walk_at "D"
        refine ⟨fun _ => ?_, nofun⟩
        walk_at "D"
        refine ⟨_, atI_int (i := fp e) (by omega), ?_⟩
        walk_at "D"
        refine ⟨cm_of hp1 (bnd_getD ha (by omega)) (by have := dlv; omega), ?_⟩
        walk_at "D"
        refine ⟨_, atI_int h1, ?_⟩
        walk_at "D"
        exact ⟨cm_of hp2 (bnd_getD hb h1) (by have := dlv; omega), h⟩
      · walk_at "D"
        refine ⟨rfl, cross e row', da_list (List.map_map (f := fun p : Int × Int => p.1 * e.getD (fp e) 0 - p.2 * row'.getD (fp e) 0) (g := PyData.int) (l := row'.zip e)).symm, by simp [cross]; omega, fun x hx => bits_mono (bnd_cross ha hb h1 h2 x hx) hab, ?_⟩
        have e1 : step1 e row' = lowered (cross e row') := if_pos z
        rw [e1] at ok' hstep
        exact hN _ ⟨_, _, _, _, _, rfl, ok', hstep ▸ hc⟩
    · have e1 : step1 e row' = row' := if_neg (not_not_intro z)
      rw [e1] at ok' hstep
      exact hN _ ⟨_, _, _, _, _, rfl, ok', hstep ▸ hc⟩
end K45


set_option Elab.async false
set_option linter.all false
set_option maxRecDepth 100000
set_option maxHeartbeats 4000000
namespace K45
open PySem L2 Dat
local macro_rules | `(tactic| walk_at "D") => `(tactic| (conv => whnf))
theorem cut_mid {α : Type} (ds : List α) (a b : Nat) : (ds.drop (HT.sIx ds.length 0 (some (a : Int)))).take (HT.sIx ds.length ds.length (some (b : Int)) - HT.sIx ds.length 0 (some (a : Int))) = (ds.drop a).take (b - a) := by
  rw [HT.sIx_nat, HT.sIx_nat]
  by_cases h : a ≤ ds.length
  · rw [Nat.min_eq_left h]
    by_cases h2 : b ≤ ds.length
    · rw [Nat.min_eq_left h2]
    · rw [Nat.min_eq_right (by omega), List.take_of_length_le (by simp), List.take_of_length_le (by simp; omega)]
  · rw [List.drop_eq_nil_of_le (by rw [Nat.min_eq_right (by omega)]; exact Nat.le_refl _), List.drop_eq_nil_of_le (by omega)]; simp
theorem cut_from {α : Type} (ds : List α) (a : Nat) : (ds.drop (HT.sIx ds.length 0 (some (a : Int)))).take (HT.sIx ds.length ds.length none - HT.sIx ds.length 0 (some (a : Int))) = ds.drop a := by
  rw [HT.sIx_nat, HT.sIx_none]
  by_cases h : a ≤ ds.length
  · rw [Nat.min_eq_left h, List.take_of_length_le (by simp)]
  · rw [List.drop_eq_nil_of_le (by rw [Nat.min_eq_right (by omega)]; exact Nat.le_refl _), List.drop_eq_nil_of_le (by omega)]; simp
theorem cut_last {α : Type} (ds : List α) : (ds.drop (HT.sIx ds.length 0 none)).take (HT.sIx ds.length ds.length (some (-1)) - HT.sIx ds.length 0 none) = ds.dropLast := by
  rw [HT.sIx_none]
  have : HT.sIx ds.length ds.length (some (-1)) = ds.length - 1 := by
    unfold HT.sIx
    simp only
    rw [if_pos (by decide)]; omega
  rw [this, List.drop_zero, Nat.sub_zero, List.dropLast_eq_take]
theorem rng_toNat {n : Nat} : ((n : Int)).toNat = n := Int.toNat_natCast n
theorem unit_map (n i : Nat) : ((List.range n).map fun (j : Nat) => if PyData.eqv (.int (j : Int)) (.int (i : Int)) = true then PyData.int 1 else .int 0) = (unit n i).map .int := by
  unfold unit
  rw [List.map_map]
  refine List.map_congr_left fun j _ => ?_
  rw [eqv_int]
  by_cases h : j = i
  · subst h; simp
  · show (if decide ((j : Int) = (i : Int)) = true then PyData.int 1 else .int 0) = .int (if j = i then 1 else 0)
    rw [if_neg (by simp; omega), if_neg h]
theorem m_relation_of (as : Rho) (Φ : PyData → Prop) (_ : as.length = 2) (c : C_relation_of as Φ) : F_relation_of (as ++ List.replicate (N_relation_of.length - 2) .un) { nx := fun _ => Φ .none, rt := Φ } := by
  obtain ⟨rows, many, rfl, ⟨hr, hm, ok⟩, q⟩ := c
  walk_at "D"
  refine ⟨by decide, ?_⟩
  walk_at "D"
  rw [enumD_map0]
  refine ⟨rfl, forP_ind (fun r ρ => ∃ kept x3 x4 x5 x6, ρ = [.da (.list (rows.map eI)), .da (.int many), .ow (kept.map eI), x3, x4, x5, x6] ∧ RelGoOk rows.length many r kept ∧ relGo rows.length many r kept = relationOf rows many) ?_ ?_ _ _ ⟨[], .un, .un, .un, .un, rfl, ok, rfl⟩⟩
  · rintro _ ⟨kept, x3, x4, x5, x6, rfl, _, h⟩
    walk_at "D"
    have h : none = relationOf rows many := h
    rw [← h] at q
    exact q
  · rintro ⟨row, i⟩ r _ ⟨kept, x3, x4, x5, x6, rfl, ⟨ok1, ok2, ok3, ok4, ok5, ok6⟩, hc⟩ N hN
    walk_at "D"
    refine ⟨rfl, ?_⟩
    walk_at "D"
    refine ⟨rfl, ?_⟩
    walk_at "D"
    refine ⟨⟨by simp <;> omega, by simp <;> omega⟩, ?_⟩
    walk_at "D"
    refine ⟨small (by simp; omega), cmp_map (fun (j : Nat) => if PyData.eqv (.int (j : Int)) (.int (i : Int)) = true then PyData.int 1 else .int 0) _ (fun j hj N h => ?_) ?_⟩
    · walk_at "D"
      refine ⟨fun _ => ?_, nofun⟩
      walk_at "D"
      refine ⟨⟨rfl, rfl⟩, ?_⟩
      cases hb : PyData.eqv (.int (j : Int)) (.int (i : Int)) with
      | true => rw [hb] at h; exact h
      | false => rw [hb] at h; exact h
    · walk_at "D"
      rw [List.nil_append]
      have hu : (unit rows.length i).length = rows.length := by simp [unit]
      rw [List.length_map, rng_toNat, unit_map, List.append_nil, ← List.map_append]
      refine ⟨small (by simp [hu]; omega), ?_⟩
      walk_at "D"
      refine ⟨rfl, kept, row ++ unit rows.length i, rfl, ok1, ?_⟩
      have hL : ∀ x, x = cleared kept (row ++ unit rows.length i) → x.length ≤ 1000 := fun x e => e ▸ ok3
      have hg : relGo rows.length many ((row, i) :: r) kept = if fp (cleared kept (row ++ unit rows.length i)) < many then relGo rows.length many r (kept ++ [cleared kept (row ++ unit rows.length i)])
          else if i + 1 = rows.length then some ((cleared kept (row ++ unit rows.length i)).drop many) else relGo rows.length many r kept := rfl
      rw [hc] at hg
      revert ok3 ok5 ok6 hg
      generalize cleared kept (row ++ unit rows.length i) = late
      intro ok3 ok5 ok6 hg
      walk_at "D"
      refine ⟨rfl, late, rfl, ok3, ?_⟩
      walk_at "D"
      refine br_d (fun z => ?_) fun z => ?_
      · have z : fp late < many := by omega
        rw [if_pos z] at hg
        walk_at "D"
        refine ⟨Nat.lt_of_le_of_lt (m := 1000) (by simp; exact ok4) (by decide), ?_⟩
        rw [show kept.map eI ++ [eI late] = (kept ++ [late]).map eI by simp]
        exact hN _ ⟨_, _, _, _, _, rfl, ok5 z, hg.symm⟩
      · have z : ¬fp late < many := by omega
        rw [if_neg z] at hg
        walk_at "D"
        refine ⟨⟨rfl, rfl⟩, ?_⟩
        walk_at "D"
        rw [eqv_int, List.length_map]
        refine br_d (fun y => ?_) fun y => ?_
        · have y : i + 1 = rows.length := by omega
          rw [if_pos y] at hg
          walk_at "D"
          rw [cut_from, ← List.map_drop]
          have q2 := q
          rw [hg] at q2
          exact q2
        · have y : i + 1 ≠ rows.length := by omega
          rw [if_neg y] at hg
          exact hN _ ⟨_, _, _, _, _, rfl, ok6 z y, hg.symm⟩
end K45


set_option Elab.async false
set_option linter.all false
set_option maxRecDepth 100000
set_option maxHeartbeats 4000000
namespace K45
open PySem L2 Dat
local macro_rules | `(tactic| walk_at "D") => `(tactic| (conv => whnf))
theorem small_bits {n : Nat} (h : n ≤ 1000) : ((n : Int)).natAbs < 2 ^ 10 := by
  have : (2 : Nat) ^ 10 = 1024 := by decide
  omega
theorem fd2 (n : Nat) : ((n : Int).fdiv 2 + 1).toNat = n / 2 + 1 ∧ (n : Int).fdiv 2 + 1 = ((n / 2 + 1 : Nat) : Int) := by
  have : (n : Int).fdiv 2 = ((n / 2 : Nat) : Int) := by
    rw [Int.fdiv_eq_ediv_of_nonneg _ (by decide)]; omega
  omega
theorem cut_map {α β : Type} (f : α → β) (row : List α) (a b : Nat) : ((row.map f).drop (HT.sIx row.length 0 (some (a : Int)))).take (HT.sIx row.length row.length (some (b : Int)) - HT.sIx row.length 0 (some (a : Int))) = ((row.drop a).take (b - a)).map f := by
  have := cut_mid (row.map f) a b
  rw [List.length_map] at this
  rw [this, List.map_take, List.map_drop]
theorem atI_lastD {f : List Int} (h : f ≠ []) : L2.atI (f.map PyData.int) (-1) = some (.int (f.getLastD 0)) := by
  have e : f = f.dropLast ++ [f.getLastD 0] := by
    rw [List.getLastD_eq_getLast?, List.getLast?_eq_getLast h]
    exact (List.dropLast_concat_getLast h).symm
  rw [e, List.map_append, List.map_singleton, atI_last]
  congr 1
  rw [← e]
theorem m_recurrence_of (as : Rho) (Φ : PyData → Prop) (_ : as.length = 1) (c : C_recurrence_of as Φ) : F_recurrence_of (as ++ List.replicate (N_recurrence_of.length - 1) .un) { nx := fun _ => Φ .none, rt := Φ } := by
  obtain ⟨row, e, ⟨hl, ok⟩, q⟩ := c
  have hl : row.length ≤ 1000 := by omega
  rcases e with rfl | rfl
  ·
    walk_at "D"
    refine ⟨div_ok (by rw [List.length_map]; exact bits_mono (small_bits hl) (by decide)) (by decide), ?_⟩
    walk_at "D"
    refine ⟨rfl, ?_⟩
    walk_at "D"
    rw [List.length_map]
    have h2 := fd2 row.length
    refine ⟨⟨by omega, by omega⟩, ?_⟩
    walk_at "D"
    rw [h2.1]
    refine ⟨rfl, forP_ind (fun r ρ => ∃ x1 x2 x3 x4 x5 x6, ρ = [.da (eI row), x1, x2, x3, x4, x5, x6] ∧ RecGoOk row r ∧ recGo row r = recurrenceOf row) ?_ ?_ _ _ ⟨.un, .un, .un, .un, .un, .un, rfl, ok, rfl⟩⟩
    · rintro _ ⟨x1, x2, x3, x4, x5, x6, rfl, _, h⟩
      walk_at "D"
      have h : none = recurrenceOf row := h
      rw [← h] at q
      exact q
    · rintro m r _ ⟨x1, x2, x3, x4, x5, x6, rfl, ⟨hm, okr, okf⟩, hc⟩ N hN
      walk_at "D"
      refine ⟨rfl, ?_⟩
      walk_at "D"
      refine ⟨⟨by omega, by omega⟩, ?_⟩
      walk_at "D"
      rw [show ((m : Int) + 1).toNat = m + 1 by omega]
      refine ⟨small (by simp; omega), cmp_map (fun i => eI ((row.drop i).take (row.length - m))) _ (fun i _ N' h => ?_) ?_⟩
      · walk_at "D"
        refine ⟨fun _ => ?_, nofun⟩
        walk_at "D"
        rw [List.length_map] at h ⊢
        rw [show (i : Int) + ((row.length : Int) - (m : Int)) = ((i + (row.length - m) : Nat) : Int) by omega, cut_map, Nat.add_sub_cancel_left]
        exact h
      · walk_at "D"
        refine ⟨rfl, windows row m, row.length - m, ?_, okr, ?_⟩
        · rw [List.length_map]
          show [Slot.da (PyData.list ([] ++ _)), Slot.da (PyData.int ((row.length : Int) - (m : Int)))] = _
          rw [show (row.length : Int) - (m : Int) = ((row.length - m : Nat) : Int) by omega, List.nil_append, windows, List.map_map]; rfl
        · have hg : recGo row (m :: r) = match relationOf (windows row m) (row.length - m) with
            | some f => recOut f
            | none => recGo row r := rfl
          rw [hc] at hg
          revert okf hg
          cases relationOf (windows row m) (row.length - m) with
          | none =>
            intro okf hg
            walk_at "D"
            refine ⟨rfl, ?_⟩
            walk_at "D"
            refine ⟨nofun, fun _ => ?_⟩
            exact hN _ ⟨_, _, _, _, _, _, rfl, okf, hg.symm⟩
          | some f =>
            rintro ⟨f1, f2, f3, f4⟩ hg
            have hg : recurrenceOf row = recOut f := hg
            rw [hg] at q
            walk_at "D"
            refine ⟨rfl, ?_⟩
            walk_at "D"
            refine ⟨fun _ => ?_, nofun⟩
            walk_at "D"
            refine ⟨.int (f.getLastD 0), atI_lastD f1, ?_⟩
            walk_at "D"
            refine ⟨small (by simp; omega), cmp_map (fun x => .bool (x.fmod (f.getLastD 0) == 0)) _ (fun x hx N' h => ?_) ?_⟩
            · walk_at "D"
              refine ⟨fun _ => ?_, nofun⟩
              walk_at "D"
              refine ⟨f3, ?_⟩
              walk_at "D"
              refine ⟨⟨rfl, rfl⟩, ?_⟩
              walk_at "D"
              rw [eqv_int]
              exact h
            · walk_at "D"
              refine ⟨f.map fun x => x.fmod (f.getLastD 0) == 0, by rw [List.nil_append, List.map_map]; rfl, ?_⟩
              have ha : (f.map fun x => x.fmod (f.getLastD 0) == 0).all id = f.all (fun x => x.fmod (f.getLastD 0) == 0) := by rw [List.all_map]; rfl
              walk_at "D"
              rw [ha]
              refine ⟨fun z => ?_, fun z => ?_⟩
              · walk_at "D"
                rw [cut_last, ← List.map_dropLast]
                refine ⟨small (by simp; omega), cmp_map (fun x => .int ((-x).fdiv (f.getLastD 0))) _ (fun x hx N' h => ?_) ?_⟩
                · walk_at "D"
                  refine ⟨fun _ => ?_, nofun⟩
                  walk_at "D"
                  exact ⟨div_ok (by rw [Int.natAbs_neg]; exact f4 x (List.dropLast_subset _ hx)) f3, h⟩
                · walk_at "D"
                  have e : recOut f = some (f.dropLast.map fun x => (-x).fdiv (f.getLastD 0)) := if_pos z
                  rw [e] at q
                  rw [List.nil_append]
                  have q2 : Φ (.tuple ((f.dropLast.map fun x => (-x).fdiv (f.getLastD 0)).map .int)) := q
                  rw [List.map_map] at q2
                  exact q2
              · walk_at "D"
                have e : recOut f = none := if_neg (by rw [z]; exact Bool.false_ne_true)
                rw [e] at q
                exact q
  ·
    walk_at "D"
    refine ⟨div_ok (by rw [List.length_map]; exact bits_mono (small_bits hl) (by decide)) (by decide), ?_⟩
    walk_at "D"
    refine ⟨rfl, ?_⟩
    walk_at "D"
    rw [List.length_map]
    have h2 := fd2 row.length
    refine ⟨⟨by omega, by omega⟩, ?_⟩
    walk_at "D"
    rw [h2.1]
    refine ⟨rfl, forP_ind (fun r ρ => ∃ x1 x2 x3 x4 x5 x6, ρ = [.da (eT row), x1, x2, x3, x4, x5, x6] ∧ RecGoOk row r ∧ recGo row r = recurrenceOf row) ?_ ?_ _ _ ⟨.un, .un, .un, .un, .un, .un, rfl, ok, rfl⟩⟩
    · rintro _ ⟨x1, x2, x3, x4, x5, x6, rfl, _, h⟩
      walk_at "D"
      have h : none = recurrenceOf row := h
      rw [← h] at q
      exact q
    · rintro m r _ ⟨x1, x2, x3, x4, x5, x6, rfl, ⟨hm, okr, okf⟩, hc⟩ N hN
      walk_at "D"
      refine ⟨rfl, ?_⟩
      walk_at "D"
      refine ⟨⟨by omega, by omega⟩, ?_⟩
      walk_at "D"
      rw [show ((m : Int) + 1).toNat = m + 1 by omega]
      refine ⟨small (by simp; omega), cmp_map (fun i => eI ((row.drop i).take (row.length - m))) _ (fun i _ N' h => ?_) ?_⟩
      · walk_at "D"
        refine ⟨fun _ => ?_, nofun⟩
        walk_at "D"
        rw [List.length_map] at h ⊢
        rw [show (i : Int) + ((row.length : Int) - (m : Int)) = ((i + (row.length - m) : Nat) : Int) by omega, cut_map, Nat.add_sub_cancel_left]
        exact h
      · walk_at "D"
        refine ⟨rfl, windows row m, row.length - m, ?_, okr, ?_⟩
        · rw [List.length_map]
          show [Slot.da (PyData.list ([] ++ _)), Slot.da (PyData.int ((row.length : Int) - (m : Int)))] = _
          rw [show (row.length : Int) - (m : Int) = ((row.length - m : Nat) : Int) by omega, List.nil_append, windows, List.map_map]; rfl
        · have hg : recGo row (m :: r) = match relationOf (windows row m) (row.length - m) with
            | some f => recOut f
            | none => recGo row r := rfl
          rw [hc] at hg
          revert okf hg
          cases relationOf (windows row m) (row.length - m) with
          | none =>
            intro okf hg
            walk_at "D"
            refine ⟨rfl, ?_⟩
            walk_at "D"
            refine ⟨nofun, fun _ => ?_⟩
            exact hN _ ⟨_, _, _, _, _, _, rfl, okf, hg.symm⟩
          | some f =>
            rintro ⟨f1, f2, f3, f4⟩ hg
            have hg : recurrenceOf row = recOut f := hg
            rw [hg] at q
            walk_at "D"
            refine ⟨rfl, ?_⟩
            walk_at "D"
            refine ⟨fun _ => ?_, nofun⟩
            walk_at "D"
            refine ⟨.int (f.getLastD 0), atI_lastD f1, ?_⟩
            walk_at "D"
            refine ⟨small (by simp; omega), cmp_map (fun x => .bool (x.fmod (f.getLastD 0) == 0)) _ (fun x hx N' h => ?_) ?_⟩
            · walk_at "D"
              refine ⟨fun _ => ?_, nofun⟩
              walk_at "D"
              refine ⟨f3, ?_⟩
              walk_at "D"
              refine ⟨⟨rfl, rfl⟩, ?_⟩
              walk_at "D"
              rw [eqv_int]
              exact h
            · walk_at "D"
              refine ⟨f.map fun x => x.fmod (f.getLastD 0) == 0, by rw [List.nil_append, List.map_map]; rfl, ?_⟩
              have ha : (f.map fun x => x.fmod (f.getLastD 0) == 0).all id = f.all (fun x => x.fmod (f.getLastD 0) == 0) := by rw [List.all_map]; rfl
              walk_at "D"
              rw [ha]
              refine ⟨fun z => ?_, fun z => ?_⟩
              · walk_at "D"
                rw [cut_last, ← List.map_dropLast]
                refine ⟨small (by simp; omega), cmp_map (fun x => .int ((-x).fdiv (f.getLastD 0))) _ (fun x hx N' h => ?_) ?_⟩
                · walk_at "D"
                  refine ⟨fun _ => ?_, nofun⟩
                  walk_at "D"
                  exact ⟨div_ok (by rw [Int.natAbs_neg]; exact f4 x (List.dropLast_subset _ hx)) f3, h⟩
                · walk_at "D"
                  have e : recOut f = some (f.dropLast.map fun x => (-x).fdiv (f.getLastD 0)) := if_pos z
                  rw [e] at q
                  rw [List.nil_append]
                  have q2 : Φ (.tuple ((f.dropLast.map fun x => (-x).fdiv (f.getLastD 0)).map .int)) := q
                  rw [List.map_map] at q2
                  exact q2
              · walk_at "D"
                have e : recOut f = none := if_neg (by rw [z]; exact Bool.false_ne_true)
                rw [e] at q
                exact q
end K45


set_option Elab.async false
set_option linter.all false
set_option maxRecDepth 100000
set_option maxHeartbeats 4000000
namespace K45
open PySem L2 Dat
local macro_rules | `(tactic| walk_at "D") => `(tactic| (conv => whnf))
theorem m_law_of (as : Rho) (Φ : PyData → Prop) (_ : as.length = 2) (c : C_law_of as Φ) : F_law_of (as ++ List.replicate (N_law_of.length - 2) .un) { nx := fun _ => Φ .none, rt := Φ } := by
  obtain ⟨b, xs, rfl, hb, h0, hl, q⟩ := c
  walk_at "D"
  refine ⟨Nat.le_refl 1, ?_⟩
  walk_at "D"
  refine ⟨rfl, b, _, rfl, hb, by omega, fun j h1 h2 => ?_⟩
  have hp : 0 < xs.length := List.length_pos_iff.mpr h0
  walk_at "D"
  have hj : j.toNat < xs.length := by omega
  refine ⟨xs[j.toNat], ?_, q _ (List.getElem_mem hj)⟩
  have := atI_nat (xs := xs) (j := j.toNat) (List.getElem?_eq_getElem hj)
  rwa [show ((j.toNat : Nat) : Int) = j by omega] at this
theorem abs_eq (p : Int) : (if p < 0 then -p else p) = ((p.natAbs : Nat) : Int) := by
  split <;> omega
theorem low_loop (p q : PyData) (k : Kont) : ∀ (n b a : Nat), b < n → k.nx [.da p, .da q, .da (.int (Nat.gcd a b : Nat)), .da (.int 0)] → whN (boolF (opF gtP (nameF 3) (constF (.int 0)))) (parF false false 2 3 (nameF 3) (opF modP (unF toIntP (nameF 2)) (nameF 3))) n [.da p, .da q, .da (.int (a : Int)), .da (.int (b : Int))] k
  | 0, _, _, h, _ => absurd h (Nat.not_lt_zero _)
  | n + 1, b, a, h, hk => by
    walk_at "D"
    refine ⟨fun z => ?_, fun z => ?_⟩
    · have z : 0 < (b : Int) := of_decide_eq_true z
      walk_at "D"
      refine ⟨by omega, ?_⟩
      have e : (a : Int).fmod (b : Int) = ((a % b : Nat) : Int) := by
        rw [Int.fmod_eq_emod_of_nonneg _ (by omega)]; omega
      have hb : a % b < b := Nat.mod_lt _ (by omega)
      have r := low_loop p q k n (a % b) b (by omega) (by rw [Nat.gcd_comm, ← Nat.gcd_rec, Nat.gcd_comm]; exact hk)
      rw [← e] at r
      exact r
    · have z : ¬0 < (b : Int) := of_decide_eq_false z
      have z : b = 0 := by omega
      subst z
      rw [Nat.gcd_zero_right] at hk
      exact hk
theorem m_law_low (as : Rho) (Φ : PyData → Prop) (_ : as.length = 2) (c : C_law_low as Φ) : F_law_low (as ++ List.replicate (N_law_low.length - 2) .un) { nx := fun _ => Φ .none, rt := Φ } := by
  obtain ⟨p, q, rfl, h0, hp, hq, h⟩ := c
  walk_at "D"
  refine ⟨q.natAbs + 1, ?_⟩
  rw [abs_eq, abs_eq]
  refine low_loop _ _ _ _ _ _ (Nat.lt_succ_self _) ?_
  have hg : 0 < Nat.gcd p.natAbs q.natAbs := Nat.gcd_pos_of_pos_right _ (by omega)
  have e1 : (Rat.divInt p q).num = q.sign * p / ((Nat.gcd p.natAbs q.natAbs : Nat) : Int) := by
    rw [Rat.num_divInt, Int.gcd, Nat.gcd_comm]
  have e2 : (Rat.divInt p q).den = q.natAbs / Nat.gcd p.natAbs q.natAbs := by
    rw [Rat.den_divInt, if_neg h0, Int.gcd, Nat.gcd_comm]
  have d1 : ((Nat.gcd p.natAbs q.natAbs : Nat) : Int) ∣ p := Int.natAbs_dvd_natAbs.mp (by rw [Int.natAbs_natCast]; exact Nat.gcd_dvd_left _ _)
  have d2 : ((Nat.gcd p.natAbs q.natAbs : Nat) : Int) ∣ q := Int.natAbs_dvd_natAbs.mp (by rw [Int.natAbs_natCast]; exact Nat.gcd_dvd_right _ _)
  revert hg e1 e2 d1 d2
  generalize Nat.gcd p.natAbs q.natAbs = g
  intro hg e1 e2 d1 d2
  have hg0 : (g : Int) ≠ 0 := by omega
  unfold eQ at h
  rw [e1, e2] at h
  walk_at "D"
  refine ⟨fun z => ?_, fun z => ?_⟩
  · have z : 0 < q := of_decide_eq_true z
    walk_at "D"
    refine ⟨div_ok hp hg0, ?_⟩
    walk_at "D"
    refine ⟨div_ok hq hg0, ?_⟩
    walk_at "D"
    refine ⟨by simp; decide, ?_⟩
    show Φ (.tuple [.int (p.fdiv g), .int (q.fdiv g)])
    rw [Int.fdiv_eq_ediv_of_nonneg _ (by omega), Int.fdiv_eq_ediv_of_nonneg _ (by omega)]
    rw [Int.sign_eq_one_of_pos z, Int.one_mul, Int.natCast_ediv, Int.natAbs_of_nonneg (by omega)] at h
    exact h
  · have z : ¬0 < q := of_decide_eq_false z
    walk_at "D"
    refine ⟨div_ok hp hg0, ?_⟩
    walk_at "D"
    refine ⟨div_ok hq hg0, ?_⟩
    walk_at "D"
    refine ⟨by simp; decide, ?_⟩
    show Φ (.tuple [.int (0 - p.fdiv g), .int (0 - q.fdiv g)])
    rw [Int.fdiv_eq_ediv_of_nonneg _ (by omega), Int.fdiv_eq_ediv_of_nonneg _ (by omega)]
    rw [Int.sign_eq_neg_one_of_neg (by omega), Int.natCast_ediv, show ((q.natAbs : Nat) : Int) = -q by omega, Int.neg_ediv_of_dvd d2, show (-1 : Int) * p = -p by omega, Int.neg_ediv_of_dvd d1] at h
    rw [Int.zero_sub, Int.zero_sub]
    exact h
theorem den0 (a : Rat) : (a.den : Int) ≠ 0 := by have := a.den_pos; omega
theorem low_rat {a c b : Rat} : Rat.divInt (a.num * (c.den * b.den) - c.num * b.num * a.den) (a.den * (c.den * b.den)) = a - c * b := by
  rw [← Rat.divInt_sub_divInt _ _ (den0 a) (Int.mul_ne_zero (den0 c) (den0 b)), ← Rat.divInt_mul_divInt, Rat.num_divInt_den, Rat.num_divInt_den, Rat.num_divInt_den]
theorem natb {n B : Nat} (h : n < 2 ^ B) : ((n : Int)).natAbs < 2 ^ B := by simpa using h
theorem m_law_less (as : Rho) (Φ : PyData → Prop) (_ : as.length = 3) (c : C_law_less as Φ) : F_law_less (as ++ List.replicate (N_law_less.length - 3) .un) { nx := fun _ => Φ .none, rt := Φ } := by
  obtain ⟨a, c, b, rfl, ⟨A, C, D, ⟨a1, a2⟩, ⟨c1, c2⟩, ⟨b1, b2⟩, hs⟩, q⟩ := c
  have hdl := dlv
  have m1 := mul_bits c1 b1
  have m2 := mul_bits (natb c2) (natb b2)
  have m3 := mul_bits a1 m2
  have m4 := mul_bits m1 (natb a2)
  have m5 := sub_bits m3 m4
  have m6 := mul_bits (natb a2) m2
  walk_at "D"
  refine ⟨_, rfl, ?_⟩
  walk_at "D"
  refine ⟨_, rfl, ?_⟩
  walk_at "D"
  refine ⟨cm_of c1 b1 (by omega), ?_⟩
  walk_at "D"
  refine ⟨_, rfl, ?_⟩
  walk_at "D"
  refine ⟨_, rfl, ?_⟩
  walk_at "D"
  refine ⟨cm_of (natb c2) (natb b2) (by omega), ?_⟩
  walk_at "D"
  refine ⟨_, rfl, ?_⟩
  walk_at "D"
  refine ⟨cm_of a1 m2 (by omega), ?_⟩
  walk_at "D"
  refine ⟨_, rfl, ?_⟩
  walk_at "D"
  refine ⟨cm_of m1 (natb a2) (by omega), ?_⟩
  walk_at "D"
  refine ⟨_, rfl, ?_⟩
  walk_at "D"
  refine ⟨cm_of (natb a2) m2 (by omega), ?_⟩
  walk_at "D"
  refine ⟨rfl, _, _, rfl, Int.mul_ne_zero (den0 a) (Int.mul_ne_zero (den0 c) (den0 b)), bits_mono m5 (by omega), bits_mono m6 (by omega), ?_⟩
  rw [low_rat]
  exact q
end K45


set_option Elab.async false
set_option linter.all false
set_option maxRecDepth 100000
set_option maxHeartbeats 4000000
namespace K45
open PySem L2 Dat
local macro_rules | `(tactic| walk_at "D") => `(tactic| (conv => whnf))
def eN (n : Nat) : PyData := .int n
def eP (p : Nat × Nat) : PyData := .tuple [.int p.1, .int p.2]
theorem lay_eN : ∀ l : List Nat, PyData.canLayAll0 (l.map eN) = true
  | [] => rfl
  | x :: l => by simp [eN, PyData.canLayAll0, PyData.canLay0]; exact lay_eN l
theorem depth_eN : ∀ l : List Nat, PyData.depthAll (l.map eN) ≤ 1
  | [] => by simp [PyData.depthAll]
  | x :: l => by
    have := depth_eN l
    simp only [List.map_cons, eN, PyData.depthAll, PyData.depth]
    omega
theorem shaped_eN (l : List Nat) : SeqAt.shaped (.list (l.map eN)) = true := by
  have h := depth_eN l
  unfold SeqAt.shaped
  rw [show PyData.canLay0 (.list (l.map eN)) = true from lay_eN l]
  have e : PyData.depth (.list (l.map eN)) = PyData.depthAll (l.map eN) + 1 := by simp only [PyData.depth]
  rw [Bool.true_and]
  exact decide_eq_true (by omega)
theorem any_eN (u : List Nat) (i : Nat) : anyIn (.int (i : Int)) (.list (u.map eN)) = u.contains i := by
  show (u.map eN).any (fun z => PyData.eqv z (.int (i : Int))) = _
  rw [List.any_map]
  induction u with
  | nil => rfl
  | cons x u ih =>
    rw [List.any_cons, ih, List.contains_cons]
    show (PyData.eqv (.int (x : Int)) (.int (i : Int)) || _) = _
    rw [eqv_int]
    rw [show (i == x) = decide (i = x) from rfl, show decide ((x : Int) = (i : Int)) = decide (i = x) from decide_eq_decide.mpr (by omega)]
theorem eqv_nil (l : List PyData) : PyData.eqv (.list l) (.list []) = l.isEmpty := by
  cases l with
  | nil => unfold PyData.eqv; unfold PyData.eqvAll; rfl
  | cons x l => unfold PyData.eqv; unfold PyData.eqvAll; rfl
theorem atI_map {α : Type} {f : α → PyData} {l : List α} {i : Nat} (d : α) (h : i < l.length) : L2.atI (l.map f) (i : Int) = some (f (l.getD i d)) := by
  refine atI_nat ?_
  rw [List.getElem?_map, List.getElem?_eq_getElem h, List.getD_eq_getElem?_getD, List.getElem?_eq_getElem h]; rfl
theorem rat_div {x b : Rat} (hb : b.num ≠ 0) : Rat.divInt (x.num * b.den) (x.den * b.num) = x / b := by
  rw [Rat.div_def, ← Rat.divInt_mul_divInt, Rat.num_divInt_den]
  congr 1
  rw [← Rat.inv_divInt, Rat.num_divInt_den]
theorem some1_eq (ls : List (List Rat)) (u : List Nat) (c : Nat) : (ls.zipIdx.filterMap fun p => if p.1.getD c 0 ≠ 0 ∧ ¬p.2 ∈ u then some (eN p.2) else none) = (some1 ls u c).map eN := by
  unfold some1
  generalize ls.zipIdx = L
  induction L with
  | nil => rfl
  | cons p L ih =>
    rw [List.filterMap_cons, List.filter_cons, ih]
    by_cases h : p.1.getD c 0 ≠ 0 ∧ ¬p.2 ∈ u
    · rw [if_pos h, if_pos (by simpa using h)]; rfl
    · rw [if_neg h, if_neg (by simpa using h)]
theorem some1_lt {ls : List (List Rat)} {u : List Nat} {c i : Nat} (h : i ∈ some1 ls u c) : i < ls.length ∧ (ls.getD i []).getD c 0 ≠ 0 ∧ i ∉ u := by
  unfold some1 at h
  obtain ⟨p, hp, rfl⟩ := List.mem_map.mp h
  obtain ⟨h1, h2⟩ := List.mem_filter.mp hp
  have h3 := List.mem_zipIdx' h1
  simp only [Bool.and_eq_true, bne_iff_ne, Bool.not_eq_true', List.contains_eq_mem, decide_eq_false_iff_not] at h2
  refine ⟨h3.1, ?_, h2.2⟩
  rw [List.getD_eq_getElem?_getD (l := ls), List.getElem?_eq_getElem h3.1]
  show (ls[p.2]).getD c 0 ≠ 0
  rw [← h3.2]; exact h2.1
end K45


set_option Elab.async false
set_option linter.all false
set_option maxRecDepth 100000
set_option maxHeartbeats 4000000
namespace K45
open PySem L2 Dat
local macro_rules | `(tactic| walk_at "D") => `(tactic| (conv => whnf))
local macro_rules | `(tactic| walk_at "R") => `(tactic| (simp only [List.nil_append, clr_clr]))
theorem bits_divInt {p q : Int} {a b : Nat} (h0 : q ≠ 0) (hp : p.natAbs < 2 ^ a) (hq : q.natAbs < 2 ^ b) : (Rat.divInt p q).num.natAbs < 2 ^ a ∧ (Rat.divInt p q).den < 2 ^ b := by
  rw [Rat.num_divInt, Rat.den_divInt, if_neg h0]
  refine ⟨Nat.lt_of_le_of_lt (Int.natAbs_ediv_le_natAbs _ _) ?_, Nat.lt_of_le_of_lt (Nat.div_le_self _ _) hq⟩
  rw [Int.natAbs_mul, Int.natAbs_sign, if_neg h0, Nat.one_mul]; exact hp
theorem qb_div {B : Nat} {x b : Rat} (hx : QB B x) (hb : QB B b) (h0 : b.num ≠ 0) : QB (2 * B) (x / b) := by
  rw [← rat_div h0]
  have := bits_divInt (Int.mul_ne_zero (den0 x) h0) (mul_bits hx.1 (natb hb.2)) (mul_bits (natb hx.2) hb.1)
  rw [show 2 * B = B + B by omega]
  exact this
def eQss (ls : List (List Rat)) : PyData := .list (ls.map eQs)
theorem depth_int (i : Int) : (PyData.int i).depth ≤ 64 := by
  simp only [PyData.depth]; omega
theorem at0 (i : Nat) (rest : List Nat) : L2.atI (List.map eN (i :: rest)) 0 = some (eN i) := atI_nat (j := 0) rfl
theorem num_ne {x : Rat} (h : x ≠ 0) : x.num ≠ 0 := fun z => h (Rat.num_eq_zero.mp z)
theorem getD_mem {α : Type} {l : List α} {i : Nat} {d : α} (h : i < l.length) : l.getD i d ∈ l := by
  rw [List.getD_eq_getElem?_getD, List.getElem?_eq_getElem h]; exact List.getElem_mem h
theorem fm_filter {α β : Type} (g : α → Bool) (f : α → β) : ∀ L : List α, (L.filterMap fun p => if g p = true then some (f p) else none) = (L.filter g).map f
  | [] => rfl
  | p :: L => by
    rw [List.filterMap_cons, List.filter_cons, fm_filter g f L]
    by_cases h : g p = true
    · rw [if_pos h, if_pos h]; rfl
    · rw [if_neg h, if_neg h]
theorem m_law_solved (as : Rho) (Φ : PyData → Prop) (_ : as.length = 2) (c : C_law_solved as Φ) : F_law_solved (as ++ List.replicate (N_law_solved.length - 2) .un) { nx := fun _ => Φ .none, rt := Φ } := by
  obtain ⟨lines, many, rfl, ⟨hl, hm, hlen, ok⟩, q⟩ := c
  have hdl := dlv
  walk_at "D"
  refine ⟨small (by simp; omega), cmp_map (fun (l : List Int) => eQs (l.map fun (x : Int) => (x : Rat))) _ (fun l hml N h => ?_) ?_⟩
  · have hll := hlen l hml
    walk_at "D"
    refine ⟨fun _ => ?_, nofun⟩
    walk_at "D"
    refine ⟨small (by simp; omega), cmp_map (fun (x : Int) => eQ (x : Rat)) _ (fun x _ N' h' => ?_) ?_⟩
    · walk_at "D"
      refine ⟨fun _ => ?_, nofun⟩
      walk_at "D"
      exact ⟨by simp; decide, h'⟩
    · rw [eQs, List.map_map] at h
      exact h
  walk_at "R"
  walk_at "D"
  refine ⟨by decide, ?_⟩
  walk_at "D"
  refine ⟨rfl, ?_⟩
  walk_at "D"
  refine ⟨⟨by omega, by omega⟩, ?_⟩
  walk_at "D"
  rw [rng_toNat]
  generalize hls0 : lines.map (fun l => l.map fun (x : Int) => (x : Rat)) = ls0 at ok
  have e0 : lines.map (fun l => eQs (l.map fun (x : Int) => (x : Rat))) = ls0.map eQs := by rw [← hls0, List.map_map]; rfl
  rw [e0]
  refine ⟨rfl, forP_ind (fun r ρ => ∃ ls places x3 x4 x5 x6 x7 x8 x9 x10 x11 x12 x13 x14 x15, ρ = [.da (eQss ls), .da (.int many), .ow (places.map eP), x3, x4, x5, x6, x7, x8, x9, x10, x11, x12, x13, x14, x15] ∧ SolGoOk (many + 1) r ls places ∧ solGo r ls places = solGo (List.range many) ls0 []) ?_ ?_ _ _
    ⟨ls0, [], .un, .un, .un, .un, .un, .un, .un, .un, .un, .un, .un, .un, .un, rfl, ok, rfl⟩⟩
  · rintro _ ⟨ls, places, x3, x4, x5, x6, x7, x8, x9, x10, x11, x12, x13, x14, x15, rfl, ⟨⟨B, hL, hB⟩, hpl, hpp⟩, h⟩
    have h : (ls, places) = solGo (List.range many) ls0 [] := h
    have hlen1 : ∀ {l}, l ∈ ls → l.length = many + 1 := fun hl => (hB _ hl).1
    have hsolved : solved lines many = if (ls.zipIdx.filter fun q => !(places.map (·.1)).contains q.2 && q.1.getD many 0 != 0) = [] then some (foundL many ls places (List.replicate many 0)) else none := by
      unfold solved
      rw [hls0, ← h]
    rw [hsolved] at q
    walk_at "D"
    refine ⟨small (by simp; omega), cmp_map (fun p => eN p.1) _ (fun p _ N' h' => ?_) ?_⟩
    · walk_at "D"
      refine ⟨rfl, ?_⟩
      walk_at "D"
      exact ⟨fun _ => h', nofun⟩
    walk_at "R"
    walk_at "D"
    rw [enumD_map0]
    have eu : places.map (fun p => eN p.1) = (places.map (·.1)).map eN := by rw [List.map_map]; rfl
    rw [eu]
    revert q
    generalize hu : places.map (·.1) = u
    intro q
    refine ⟨small (by simp; omega), cmp_fm (fun p => if (!u.contains p.2 && p.1.getD many 0 != 0) = true then some (eN p.2) else none) _ (fun p hp N' h' => ?_) ?_⟩
    · have hp1 := hlen1 (List.fst_mem_of_mem_zipIdx hp)
      walk_at "D"
      refine ⟨rfl, ?_⟩
      walk_at "D"
      refine ⟨⟨rfl, depth_int _, lay_eN u⟩, ?_⟩
      walk_at "D"
      rw [any_eN]
      refine ⟨fun y => ?_, fun y => ?_⟩
      · walk_at "D"
        refine ⟨_, atI_map 0 (by omega), ?_⟩
        walk_at "D"
        refine ⟨_, rfl, ?_⟩
        walk_at "D"
        refine ⟨⟨rfl, rfl⟩, ?_⟩
        walk_at "D"
        rw [eqv_int]
        rw [y, Bool.true_and] at h'
        by_cases z : p.1.getD many 0 = 0
        · rw [z] at h' ⊢
          exact ⟨nofun, fun _ => h'⟩
        · rw [if_pos (bne_iff_ne.mpr z)] at h'
          rw [decide_eq_false (num_ne z)]
          exact ⟨fun _ => h', nofun⟩
      · rw [y, Bool.false_and] at h'
        exact ⟨nofun, fun _ => h'⟩
    walk_at "R"
    have efil : (ls.zipIdx.filterMap fun p => if (!u.contains p.2 && p.1.getD many 0 != 0) = true then some (eN p.2) else none) = (ls.zipIdx.filter fun q => !u.contains q.2 && q.1.getD many 0 != 0).map fun p => eN p.2 := by
      exact fm_filter _ _ _
    rw [efil]
    revert q
    generalize (ls.zipIdx.filter fun q => !u.contains q.2 && q.1.getD many 0 != 0) = bad
    intro q
    walk_at "D"
    refine ⟨by decide, ?_⟩
    walk_at "D"
    have hsh : SeqAt.shaped (.list (bad.map fun p => eN p.2)) = true := by
      have := shaped_eN (bad.map (·.2))
      rwa [List.map_map] at this
    refine ⟨⟨hsh, rfl⟩, ?_⟩
    walk_at "D"
    rw [eqv_nil]
    cases bad with
    | cons z bad =>
      refine ⟨fun _ => ?_, nofun⟩
      exact q
    | nil =>
      refine ⟨nofun, fun _ => ?_⟩
      have q : Φ (eQs (foundL many ls places (List.replicate many 0))) := q
      walk_at "D"
      refine ⟨by decide, ?_⟩
      walk_at "D"
      refine ⟨by decide, ?_⟩
      walk_at "D"
      refine ⟨⟨by omega, by omega, small (by simp; omega)⟩, ?_⟩
      walk_at "D"
      refine ⟨rfl, forP_ind (fun r' ρ => ∃ f y3 y12 y13, ρ = [.da (eQss ls), .da (.int many), .da (.list (places.map eP)), y3, .da (.list (u.map eN)), x5, x6, x7, x8, .un, .un, .ow (f.map eQ), y12, y13, x14, x15] ∧ f.length = many ∧ (∀ p ∈ r', p.1 < ls.length ∧ p.2 < many) ∧ foundL many ls r' f = foundL many ls places (List.replicate many 0)) ?_ ?_ _ _
        ⟨List.replicate many 0, x3, .un, .un, ?_, by simp, fun p hp => by have := hpp p hp; omega, rfl⟩⟩
      · rintro _ ⟨f, y3, y12, y13, rfl, _, _, hf⟩
        have hf : f = foundL many ls places (List.replicate many 0) := hf
        rw [← hf] at q
        exact q
      · rintro p r' _ ⟨f, y3, y12, y13, rfl, hfl, hpr, hf⟩ N' hN'
        obtain ⟨hp1, hp2⟩ := hpr p (List.mem_cons_self ..)
        walk_at "D"
        refine ⟨rfl, ?_⟩
        walk_at "D"
        refine ⟨_, atI_map [] hp1, ?_⟩
        walk_at "D"
        refine ⟨_, atI_map 0 (by rw [hlen1 (getD_mem hp1)]; omega), ?_⟩
        walk_at "D"
        refine ⟨p.2, ?_, ?_⟩
        · unfold ixN
          rw [if_pos (by omega), List.length_map, if_pos (by omega), Int.toNat_natCast]
        · rw [← List.map_set]
          exact hN' _ ⟨_, _, _, _, rfl, by rw [List.length_set]; exact hfl, fun p hp => hpr p (List.mem_cons_of_mem _ hp), hf⟩
      · have : (List.replicate ((many : Int)).toNat [PyData.tuple [PyData.int 0, PyData.int 1]]).flatten = (List.replicate many (0 : Rat)).map eQ := by
          rw [rng_toNat, List.map_replicate]
          show (List.replicate many [eQ 0]).flatten = _
          induction many with
          | zero => rfl
          | succ n ih => rw [List.replicate_succ, List.flatten_cons, List.replicate_succ]; simp
        rw [← this]
        rfl
  · rintro c r _ ⟨ls, places, x3, x4, x5, x6, x7, x8, x9, x10, x11, x12, x13, x14, x15, rfl, ⟨hc, ⟨B, ⟨hL, hB⟩, hB2⟩, hpl, okr⟩, h⟩ N hN
    have hsol : solGo (c :: r) ls places = match some1 ls (places.map (·.1)) c with
      | [] => solGo r ls places
      | i :: _ => solGo r (lateL ls i c) (places ++ [(i, c)]) := rfl
    rw [h] at hsol
    have hlen1 : ∀ {l}, l ∈ ls → l.length = many + 1 := fun hl => (hB _ hl).1
    walk_at "D"
    refine ⟨small (by simp; omega), cmp_map (fun (p : Nat × Nat) => eN p.1) _ (fun p _ N' h' => ?_) ?_⟩
    · walk_at "D"
      refine ⟨rfl, ?_⟩
      walk_at "D"
      exact ⟨fun _ => h', nofun⟩
    walk_at "R"
    walk_at "D"
    rw [enumD_map0]
    have eu : places.map (fun p => eN p.1) = (places.map (·.1)).map eN := by rw [List.map_map]; rfl
    rw [eu]
    revert okr hsol
    generalize hu : places.map (·.1) = u
    intro okr hsol
    refine ⟨small (by simp; omega), cmp_fm (fun (p : List Rat × Nat) => if p.1.getD c 0 ≠ 0 ∧ ¬p.2 ∈ u then some (eN p.2) else none) _ (fun p hp N' h' => ?_) ?_⟩
    · have hp1 := hlen1 (List.fst_mem_of_mem_zipIdx hp)
      walk_at "D"
      refine ⟨rfl, ?_⟩
      walk_at "D"
      refine ⟨_, atI_map 0 (by omega), ?_⟩
      walk_at "D"
      refine ⟨_, rfl, ?_⟩
      walk_at "D"
      refine ⟨⟨rfl, rfl⟩, ?_⟩
      walk_at "D"
      rw [eqv_int]
      refine ⟨fun z => ?_, fun z => ?_⟩
      · have z : p.1.getD c 0 ≠ 0 := fun y => by rw [y] at z; cases z
        walk_at "D"
        refine ⟨⟨rfl, depth_int _, lay_eN u⟩, ?_⟩
        walk_at "D"
        rw [any_eN]
        refine ⟨fun y => ?_, fun y => ?_⟩
        · have y : ¬p.2 ∈ u := by simpa using y
          rw [if_pos ⟨z, y⟩] at h'
          exact h'
        · have y : p.2 ∈ u := by simpa using y
          rw [if_neg fun k => k.2 y] at h'
          exact h'
      · have z : ¬p.1.getD c 0 ≠ 0 := fun y => by
          have := num_ne y
          rw [decide_eq_false this] at z; cases z
        rw [if_neg fun k => z k.1] at h'
        exact ⟨nofun, fun _ => h'⟩
    walk_at "R"
    rw [some1_eq]
    have hs1 : ∀ i, i ∈ some1 ls u c → i < ls.length ∧ (ls.getD i []).getD c 0 ≠ 0 ∧ i ∉ u := fun i hi => some1_lt hi
    revert okr hsol hs1
    cases hs : some1 ls u c with
    | nil =>
      intro okr hsol _
      walk_at "D"
      refine ⟨by decide, ?_⟩
      walk_at "D"
      refine ⟨⟨rfl, rfl⟩, ?_⟩
      walk_at "D"
      refine ⟨nofun, fun _ => ?_⟩
      exact hN _ ⟨ls, places, _, _, _, _, _, _, _, _, _, _, _, _, _, rfl, okr, hsol.symm⟩
    | cons i rest =>
      intro okr hsol hs1
      obtain ⟨hi, hby, _⟩ := hs1 i (List.mem_cons_self ..)
      have hlast := shaped_eN (i :: rest)
      walk_at "D"
      refine ⟨by decide, ?_⟩
      walk_at "D"
      refine ⟨⟨hlast, rfl⟩, ?_⟩
      walk_at "D"
      rw [eqv_nil]
      refine ⟨fun _ => ?_, nofun⟩
      have hLm : ls.getD i [] ∈ ls := getD_mem hi
      have hfirst : firstL ls i c = (ls.getD i []).map (· / (ls.getD i []).getD c 0) := rfl
      have hLl := hlen1 hLm
      have hbm : (ls.getD i []).getD c 0 ∈ ls.getD i [] := getD_mem (by omega)
      have hbq := (hB _ hLm).2 _ hbm
      have hbn := num_ne hby
      walk_at "D"
      refine ⟨eN i, at0 _ _, ?_⟩
      walk_at "D"
      refine ⟨_, atI_map [] hi, ?_⟩
      walk_at "D"
      refine ⟨_, atI_map 0 (by omega), ?_⟩
      walk_at "D"
      refine ⟨eN i, at0 _ _, ?_⟩
      walk_at "D"
      refine ⟨_, atI_map [] hi, ?_⟩
      walk_at "D"
      refine ⟨small (by rw [List.length_map]; omega), cmp_map (fun (x : Rat) => eQ (x / (ls.getD i []).getD c 0)) _ (fun x hx N' h' => ?_) ?_⟩
      · have hxq := (hB _ hLm).2 _ hx
        walk_at "D"
        refine ⟨fun _ => ?_, nofun⟩
        walk_at "D"
        refine ⟨_, rfl, ?_⟩
        walk_at "D"
        refine ⟨_, rfl, ?_⟩
        walk_at "D"
        refine ⟨cm_of hxq.1 (natb hbq.2) (by omega), ?_⟩
        walk_at "D"
        refine ⟨_, rfl, ?_⟩
        walk_at "D"
        refine ⟨_, rfl, ?_⟩
        walk_at "D"
        refine ⟨cm_of (natb hxq.2) hbq.1 (by omega), ?_⟩
        walk_at "D"
        refine ⟨rfl, _, _, rfl, Int.mul_ne_zero (den0 x) hbn, bits_mono (mul_bits hxq.1 (natb hbq.2)) (by omega), bits_mono (mul_bits (natb hxq.2) hbq.1) (by omega), ?_⟩
        rw [rat_div hbn]
        exact h'
      walk_at "R"
      walk_at "D"
      refine ⟨eN i, at0 _ _, ?_⟩
      walk_at "D"
      refine ⟨by simp; decide, ?_⟩
      walk_at "D"
      refine ⟨Nat.lt_of_le_of_lt (m := 1000) (by simp; exact hpl) (by decide), ?_⟩
      walk_at "D"
      refine ⟨by decide, ?_⟩
      walk_at "D"
      rw [enumD_map0]
      have ef : (ls.getD i []).map (fun x => eQ (x / (ls.getD i []).getD c 0)) = (firstL ls i c).map eQ := by rw [hfirst, List.map_map]; rfl
      rw [ef]
      have hfq : ∀ y ∈ firstL ls i c, QB (2 * B) y := fun y hy => by
        rw [hfirst] at hy
        obtain ⟨x, hx, rfl⟩ := List.mem_map.mp hy
        exact qb_div ((hB _ hLm).2 _ hx) hbq hbn
      have hfl : (firstL ls i c).length = many + 1 := by rw [hfirst, List.length_map]; exact hLl
      have elate : lateL ls i c = ls.zipIdx.map fun p => if p.2 = i then firstL ls i c else (p.1.zip (firstL ls i c)).map fun q => q.1 - p.1.getD c 0 * q.2 := rfl
      revert hfq hfl elate
      generalize firstL ls i c = fl
      intro hfq hfl elate
      refine ⟨rfl, forP_ind (fun r' ρ => ∃ acc y9 y10 y14 y15, ρ = [.da (eQss ls), .da (.int many), .ow (places.map eP ++ [eP (i, c)]), .da (.int c), .da (.list (u.map eN)), .da (.list ((i :: rest).map eN)), .da (eQ ((ls.getD i []).getD c 0)), .da (eQs fl), .ow (acc.map eQs), y9, y10, x11, .un, .un, y14, y15] ∧ (∃ pre, ls.zipIdx = pre ++ r' ∧ acc = pre.map fun p => if p.2 = i then fl else (p.1.zip fl).map fun q => q.1 - p.1.getD c 0 * q.2)) ?_ ?_ _ _
        ⟨[], _, _, _, _, rfl, [], rfl, rfl⟩⟩
      · rintro _ ⟨acc, y9, y10, y14, y15, rfl, pre, e1, e2⟩
        rw [List.append_nil] at e1
        rw [← e1, ← elate] at e2
        subst e2
        walk_at "D"
        rw [show places.map eP ++ [eP (i, c)] = (places ++ [(i, c)]).map eP by simp]
        exact hN _ ⟨_, _, _, _, _, _, _, _, _, _, _, _, _, _, _, rfl, okr, hsol.symm⟩
      · rintro p r' _ ⟨acc, y9, y10, y14, y15, rfl, pre, e1, e2⟩ N' hN'
        have hpm : p ∈ ls.zipIdx := by rw [e1]; simp
        have hp1 := hlen1 (List.fst_mem_of_mem_zipIdx hpm)
        have hp2 := (hB _ (List.fst_mem_of_mem_zipIdx hpm)).2
        have hacc : acc.length < sizeLine := by
          have := congrArg List.length e1
          rw [List.length_zipIdx, List.length_append] at this
          rw [e2, List.length_map]
          exact Nat.lt_of_le_of_lt (m := 1000) (by omega) (by decide)
        have nxt : ∀ v, v = (if p.2 = i then fl else (p.1.zip fl).map fun q => q.1 - p.1.getD c 0 * q.2) → ∃ pre', ls.zipIdx = pre' ++ r' ∧ acc ++ [v] = pre'.map fun p => if p.2 = i then fl else (p.1.zip fl).map fun q => q.1 - p.1.getD c 0 * q.2 :=
          fun v ev => ⟨pre ++ [p], by rw [e1]; simp, by rw [e2, ev]; simp⟩
        walk_at "D"
        refine ⟨rfl, ?_⟩
        walk_at "D"
        refine ⟨_, at0 _ _, ?_⟩
        walk_at "D"
        refine ⟨⟨rfl, rfl⟩, ?_⟩
        walk_at "D"
        rw [show PyData.eqv (.int (p.2 : Int)) (eN i) = decide (p.2 = i) from (eqv_int _ _).trans (decide_eq_decide.mpr (by omega))]
        refine ⟨fun z => ?_, fun z => ?_⟩
        · have z : p.2 = i := of_decide_eq_true z
          walk_at "D"
          refine ⟨by rw [List.length_map]; exact hacc, ?_⟩
          obtain ⟨pre', g1, g2⟩ := nxt fl (if_pos z).symm
          rw [show acc.map eQs ++ [eQs fl] = (acc ++ [fl]).map eQs by simp]
          exact hN' _ ⟨_, _, _, _, _, rfl, pre', g1, g2⟩
        · have z : ¬p.2 = i := of_decide_eq_false z
          walk_at "D"
          rw [zipD_map]
          refine ⟨small (by simp; omega), cmp_map (fun (q : Rat × Rat) => eQ (q.1 - p.1.getD c 0 * q.2)) _ (fun q hq N'' h'' => ?_) ?_⟩
          · have hq1 := hp2 _ (List.of_mem_zip hq).1
            have hq2 := hfq _ (List.of_mem_zip hq).2
            walk_at "D"
            refine ⟨rfl, ?_⟩
            walk_at "D"
            refine ⟨fun _ => ?_, nofun⟩
            walk_at "D"
            refine ⟨_, atI_map 0 (by omega), ?_⟩
            walk_at "D"
            exact ⟨rfl, q.1, p.1.getD c 0, q.2, rfl, ⟨B, B, 2 * B, hq1, hp2 _ (getD_mem (by omega)), hq2, by omega⟩, h''⟩
          · walk_at "R"
            walk_at "D"
            refine ⟨by rw [List.length_map]; exact hacc, ?_⟩
            obtain ⟨pre', g1, g2⟩ := nxt _ (if_neg z).symm
            rw [show acc.map eQs ++ [PyData.list ((p.1.zip fl).map fun q => eQ (q.1 - p.1.getD c 0 * q.2))] = (acc ++ [(p.1.zip fl).map fun q => q.1 - p.1.getD c 0 * q.2]).map eQs by simp [eQs]]
            exact hN' _ ⟨_, _, _, _, _, rfl, pre', g1, g2⟩
end K45


set_option Elab.async false
set_option linter.all false
set_option maxRecDepth 100000
set_option maxHeartbeats 4000000
namespace K45
open PySem L2 Dat
local macro_rules | `(tactic| walk_at "D") => `(tactic| (conv => whnf))
local macro_rules | `(tactic| walk_at "R") => `(tactic| (simp only [List.nil_append, clr_clr]))
theorem shaped_qs : ∀ l : List Rat, PyData.canLayAll0 (l.map eQ) = true
  | [] => rfl
  | x :: l => by
    rw [List.map_cons]
    show (PyData.canLay0 (eQ x) && _) = true
    rw [show PyData.canLay0 (eQ x) = true from rfl, Bool.true_and]
    exact shaped_qs l
theorem depth_qs : ∀ l : List Rat, PyData.depthAll (l.map eQ) ≤ 2
  | [] => by simp [PyData.depthAll]
  | x :: l => by
    have := depth_qs l
    simp only [List.map_cons, eQ, PyData.depthAll, PyData.depth]
    omega
theorem shaped_eQs (l : List Rat) : SeqAt.shaped (eQs l) = true := by
  have h := depth_qs l
  unfold SeqAt.shaped eQs
  rw [show PyData.canLay0 (.list (l.map eQ)) = true from shaped_qs l]
  have e : PyData.depth (.list (l.map eQ)) = PyData.depthAll (l.map eQ) + 1 := by simp only [PyData.depth]
  rw [Bool.true_and]
  exact decide_eq_true (by omega)
theorem lawLines_len {row : List Int} {m : Nat} : (lawLines row m).length = row.length - m := by simp [lawLines]
theorem m_law_least (as : Rho) (Φ : PyData → Prop) (_ : as.length = 1) (c : C_law_least as Φ) : F_law_least (as ++ List.replicate (N_law_least.length - 1) .un) { nx := fun _ => Φ .none, rt := Φ } := by
  obtain ⟨row, rfl, ⟨hl0, ok⟩, q⟩ := c
  have hl : row.length ≤ 1000 := by omega
  walk_at "D"
  refine ⟨div_ok (by rw [List.length_map]; exact bits_mono (small_bits hl) (by decide)) (by decide), ?_⟩
  walk_at "D"
  refine ⟨rfl, ?_⟩
  walk_at "D"
  rw [List.length_map]
  have h2 := fd2 row.length
  refine ⟨⟨by omega, by omega⟩, ?_⟩
  walk_at "D"
  rw [h2.1]
  refine ⟨rfl, forP_ind (fun r ρ => ∃ x1 x2 x3 x4 x5, ρ = [.da (eI row), x1, x2, x3, x4, x5] ∧ LeastGoOk row r ∧ leastGo row r = least row) ?_ ?_ _ _ ⟨.un, .un, .un, .un, .un, rfl, ok, rfl⟩⟩
  · rintro _ ⟨x1, x2, x3, x4, x5, rfl, _, h⟩
    walk_at "D"
    have h : none = least row := h
    rw [← h] at q
    exact q
  · rintro m r _ ⟨x1, x2, x3, x4, x5, rfl, ⟨hm, okr, okf⟩, hc⟩ N hN
    walk_at "D"
    refine ⟨rfl, ?_⟩
    walk_at "D"
    refine ⟨⟨by rw [List.length_map]; omega, by rw [List.length_map]; omega⟩, ?_⟩
    walk_at "D"
    rw [show (((row.map PyData.int).length : Int) - (m : Int)).toNat = row.length - m by rw [List.length_map]; omega]
    refine ⟨small (by simp; omega), cmp_map (fun i => eI ((row.drop i).take (m + 1))) _ (fun i _ N' h => ?_) ?_⟩
    · walk_at "D"
      refine ⟨fun _ => ?_, nofun⟩
      walk_at "D"
      rw [List.length_map (f := PyData.int) (as := row)]
      rw [show (i : Int) + (m : Int) + 1 = ((i + (m + 1) : Nat) : Int) by omega, cut_map, Nat.add_sub_cancel_left]
      exact h
    walk_at "R"
    walk_at "D"
    have hg : leastGo row (m :: r) = match solved (lawLines row m) m with
      | some f => leastOut f
      | none => leastGo row r := rfl
    rw [hc] at hg
    refine ⟨rfl, lawLines row m, m, ?_, okr, ?_⟩
    · show [Slot.da (PyData.list _), Slot.da (PyData.int _)] = _
      rw [lawLines, List.map_map]; rfl
    · revert okf hg
      cases solved (lawLines row m) m with
      | none =>
        intro okf hg
        walk_at "D"
        refine ⟨rfl, ?_⟩
        walk_at "D"
        refine ⟨nofun, fun _ => ?_⟩
        exact hN _ ⟨_, _, _, _, _, rfl, okf, hg.symm⟩
      | some f =>
        intro hfl hg
        have hfl : f.length ≤ 1000 := hfl
        have hg : least row = leastOut f := hg
        rw [hg] at q
        walk_at "D"
        refine ⟨rfl, ?_⟩
        walk_at "D"
        refine ⟨fun _ => ?_, nofun⟩
        walk_at "D"
        refine ⟨small (by simp; omega), cmp_fm (fun c => if (c.den != 1) = true then some (eQ c) else none) _ (fun c hc N' h => ?_) ?_⟩
        · walk_at "D"
          refine ⟨_, rfl, ?_⟩
          walk_at "D"
          refine ⟨⟨rfl, rfl⟩, ?_⟩
          walk_at "D"
          rw [show PyData.eqv (.int (c.den : Int)) (.int 1) = decide (c.den = 1) from (eqv_int _ _).trans (decide_eq_decide.mpr (by omega))]
          by_cases z : c.den = 1
          · rw [if_neg (by simp [z])] at h
            rw [decide_eq_true z]
            exact ⟨nofun, fun _ => h⟩
          · rw [if_pos (by simpa using z)] at h
            rw [decide_eq_false z]
            exact ⟨fun _ => h, nofun⟩
        walk_at "R"
        rw [fm_filter]
        walk_at "D"
        refine ⟨by decide, ?_⟩
        walk_at "D"
        refine ⟨⟨shaped_eQs _, rfl⟩, ?_⟩
        walk_at "D"
        rw [eqv_nil]
        have hall : f.all (fun c => c.den == 1) = (f.filter fun c => c.den != 1).isEmpty := by
          rw [Bool.eq_iff_iff, List.isEmpty_iff, List.filter_eq_nil_iff, List.all_eq_true]
          simp
        have hemp : ((f.filter fun c => c.den != 1).map eQ).isEmpty = f.all (fun c => c.den == 1) := by
          rw [hall]; cases (f.filter fun c => c.den != 1) <;> rfl
        rw [hemp]
        refine ⟨fun z => ?_, fun z => ?_⟩
        · walk_at "D"
          refine ⟨small (by simp; omega), cmp_map (fun c => .int c.num) _ (fun c hc N' h => ?_) ?_⟩
          · walk_at "D"
            refine ⟨fun _ => ?_, nofun⟩
            walk_at "D"
            exact ⟨_, rfl, h⟩
          walk_at "R"
          walk_at "D"
          have e : leastOut f = some (f.map (·.num)) := if_pos z
          rw [e] at q
          have q2 : Φ (.tuple ((f.map (·.num)).map .int)) := q
          rw [List.map_map] at q2
          exact q2
        · walk_at "D"
          have e : leastOut f = none := if_neg (by rw [z]; exact Bool.false_ne_true)
          rw [e] at q
          exact q
end K45


set_option Elab.async false
set_option linter.all false
set_option maxRecDepth 100000
set_option maxHeartbeats 4000000
namespace K45
open PySem L2 Dat
local macro_rules | `(tactic| walk_at "D") => `(tactic| (conv => whnf))
local macro_rules | `(tactic| walk_at "R") => `(tactic| (simp only [List.nil_append, clr_clr, List.length_range]))
theorem ds_ints {P : Int → Prop} : ∀ (ds : List PyData), (∀ d ∈ ds, ∃ z, d = .int z ∧ P z) → ∃ ns : List Int, ds = ns.map .int ∧ ∀ z ∈ ns, P z
  | [], _ => ⟨[], rfl, by simp⟩
  | d :: ds, h => by
    obtain ⟨z, rfl, hz⟩ := h d (List.mem_cons_self ..)
    obtain ⟨ns, rfl, hn⟩ := ds_ints ds fun d hd => h d (List.mem_cons_of_mem _ hd)
    exact ⟨z :: ns, rfl, fun y hy => by
      rcases List.mem_cons.mp hy with rfl | hy
      · exact hz
      · exact hn y hy⟩
theorem each_ints {α : Type} {P : Int → Prop} {ys : List α} {ds : List PyData} (hl : ds.length = ys.length) (h : ∀ (i : Nat) y d, ys[i]? = some y → ds[i]? = some d → ∃ z, d = .int z ∧ P z) : ∃ ns : List Int, ds = ns.map .int ∧ ns.length = ys.length ∧ ∀ z ∈ ns, P z := by
  obtain ⟨ns, e, hn⟩ := ds_ints (P := P) ds fun d hd => by
    obtain ⟨i, hi, e⟩ := List.mem_iff_getElem.mp hd
    exact h i ys[i] d (List.getElem?_eq_getElem (by omega)) (by rw [List.getElem?_eq_getElem hi, e])
  exact ⟨ns, e, by rw [← hl, e, List.length_map], hn⟩
def bdm (m i : Nat) : Nat := if i < m then 5 else 5 * (3 * m) ^ (i - m + 1)
theorem bdm_step {m i : Nat} (h : m ≤ i) (hm : 1 ≤ m) : 3 * m * bdm m (i - 1) = bdm m i := by
  have e : bdm m i = 5 * (3 * m) ^ (i - m + 1) := if_neg (by omega)
  rw [e]
  unfold bdm
  by_cases h2 : i - 1 < m
  · rw [if_pos h2]
    have : i = m := by omega
    subst this
    rw [Nat.sub_self, Nat.zero_add, Nat.pow_one]; omega
  · rw [if_neg h2, show i - m + 1 = (i - 1 - m + 1) + 1 by omega]
    generalize i - 1 - m + 1 = n
    rw [Nat.pow_succ]
    generalize (3 * m) ^ n = z
    rw [Nat.mul_comm (3 * m), Nat.mul_assoc]
theorem bdm_mono {m i j : Nat} (hm : 1 ≤ m) (h : i ≤ j) : bdm m i ≤ bdm m j := by
  unfold bdm
  by_cases h1 : i < m
  · rw [if_pos h1]
    by_cases h2 : j < m
    · rw [if_pos h2]; exact Nat.le_refl _
    · rw [if_neg h2]
      have := Nat.one_le_two_pow (n := 0)
      have : 1 ≤ (3 * m) ^ (j - m + 1) := Nat.one_le_pow _ _ (by omega)
      omega
  · rw [if_neg h1, if_neg (by omega)]
    exact Nat.mul_le_mul_left _ (Nat.pow_le_pow_right (by omega) (by omega))
theorem sum_bound {b : Nat} : ∀ (c ws : List Int), (∀ z ∈ c, z.natAbs ≤ 3) → (∀ z ∈ ws, z.natAbs ≤ b) → ((c.zip ws).map fun (p : Int × Int) => p.1 * p.2).sum.natAbs ≤ c.length * (3 * b)
  | [], _, _, _ => by simp
  | _ :: _, [], _, _ => by simp
  | x :: c, y :: ws, h1, h2 => by
    have ih := sum_bound c ws (fun z hz => h1 z (List.mem_cons_of_mem _ hz)) (fun z hz => h2 z (List.mem_cons_of_mem _ hz))
    have hx := h1 x (List.mem_cons_self ..)
    have hy := h2 y (List.mem_cons_self ..)
    rw [List.zip_cons_cons, List.map_cons, List.sum_cons, List.length_cons, Nat.add_mul, Nat.one_mul]
    have : (x * y).natAbs ≤ 3 * b := by rw [Int.natAbs_mul]; exact Nat.mul_le_mul hx hy
    have := Int.natAbs_add_le (x * y) ((c.zip ws).map fun (p : Int × Int) => p.1 * p.2).sum
    show ((x * y) + ((c.zip ws).map fun (p : Int × Int) => p.1 * p.2).sum).natAbs ≤ _
    omega
def RowAt (m a : Nat) (row : List Int) : Prop := ∀ (i : Nat) (x : Int), row[i]? = some x → x.natAbs ≤ if i < a then bdm m i else 5
theorem bdm_fin : ∀ m < 5, ∀ i < 12, bdm m i + 1 < 2 ^ 32 ∧ (i < 6 → bdm m i + 1 < 2 ^ 13) := by decide
theorem row_good {m : Nat} {row : List Int} (hm : m < 5) (hl : row.length ≤ 12) (h : ∀ (i : Nat) (x : Int), row[i]? = some x → x.natAbs ≤ bdm m i + 1) : RowGood row := by
  refine ⟨hl, fun x hx => ?_, fun x hx => ?_⟩
  · obtain ⟨i, hi, rfl⟩ := List.mem_iff_getElem.mp hx
    have := h i _ (List.getElem?_eq_getElem hi)
    have := (bdm_fin m hm i (by omega)).1
    omega
  · obtain ⟨i, hi, e⟩ := List.mem_iff_getElem.mp hx
    rw [List.length_take] at hi
    rw [List.getElem_take] at e
    have := h i _ (List.getElem?_eq_getElem (by omega))
    have := (bdm_fin m hm i (by omega)).2 (by omega)
    rw [e] at *
    omega
theorem row_set {m a : Nat} {row : List Int} {v : Int} (h : RowAt m a row) (hv : v.natAbs ≤ bdm m a) : RowAt m (a + 1) (row.set a v) := by
  intro i x e
  by_cases hi : a = i
  · subst hi
    by_cases hl : a < row.length
    · rw [List.getElem?_set_self hl] at e
      cases e
      rw [if_pos (by omega)]; exact hv
    · rw [List.getElem?_eq_none (by rw [List.length_set]; omega)] at e; cases e
  · rw [List.getElem?_set_ne hi] at e
    have := h i x e
    by_cases h2 : i < a
    · rw [if_pos h2] at this; rw [if_pos (by omega)]; exact this
    · rw [if_neg h2] at this; rw [if_neg (by omega)]; exact this
theorem row_window {m a : Nat} {row : List Int} (hm : 1 ≤ m) (h : RowAt m a row) (ha : m ≤ a) : ∀ z ∈ (row.drop (a - m)).take (a - (a - m)), z.natAbs ≤ bdm m (a - 1) := by
  intro z hz
  obtain ⟨j, hj, e⟩ := List.mem_iff_getElem.mp hz
  rw [List.length_take, List.length_drop] at hj
  rw [List.getElem_take, List.getElem_drop] at e
  have := h (a - m + j) z (by rw [← e]; exact List.getElem?_eq_getElem (by omega))
  rw [if_pos (by omega)] at this
  exact Nat.le_trans this (bdm_mono hm (by omega))
def bumps : Nat → Dat.Slot → Dat.Slot
  | 0, x => x
  | k + 1, x => sbump 1 (bumps k x)
theorem m_law_row (as : Rho) (Φ : PyData → Prop) (_ : as.length = 1) (c : C_law_row as Φ) : F_law_row (as ++ List.replicate (N_law_row.length - 1) .un) { nx := fun _ => Φ .none, rt := Φ } := by
  obtain ⟨b, rfl, hb, q⟩ := c
  walk_at "D"
  refine ⟨show 1 ≤ 64 by decide, ?_⟩
  walk_at "D"
  refine ⟨rfl, b, 5, rfl, by omega, by decide, fun m h1 h2 => ?_⟩
  walk_at "D"
  refine ⟨show 1 ≤ 63 by decide, ?_⟩
  walk_at "D"
  refine ⟨rfl, b + 1, 13, rfl, by omega, by decide, fun many h3 h4 => ?_⟩
  obtain ⟨m, rfl⟩ := Int.eq_ofNat_of_zero_le h1
  obtain ⟨many, rfl⟩ := Int.eq_ofNat_of_zero_le h3
  have hm : m < 5 := by omega
  have hy : many < 13 := by omega
  clear h1 h2 h3 h4
  walk_at "D"
  refine ⟨rfl, ?_⟩
  walk_at "D"
  refine ⟨⟨by omega, by omega⟩, ?_⟩
  walk_at "D"
  rw [rng_toNat]
  refine ⟨small (by simp; omega), cmp_src (c := Cond.free) (enc := fun (i : Nat) => PyData.int (i : Int)) (fun _ d => ∃ z : Int, d = .int z ∧ z.natAbs ≤ 5) (fun _ => trivial) (List.range many) (fun j => [.sr (b + 2 + j) (62 - j), .da (.int m), .da (.int many), .un, .un, .un, .un, .un]) [] (fun i y hi N h => ?_) fun ds hdl hds => ?_⟩
  · have hi : i < many := by have := (List.getElem?_eq_some_iff.mp hi).1; rwa [List.length_range] at this
    walk_at "D"
    refine ⟨fun _ => ?_, nofun⟩
    walk_at "D"
    refine ⟨show 1 ≤ 62 - i by omega, ?_⟩
    walk_at "D"
    refine ⟨rfl, b + 2 + i, 11, rfl, by omega, by decide, fun j h1 h2 => ?_⟩
    exact h _ ⟨j - 5, rfl, by omega⟩
  walk_at "R"
  obtain ⟨row, rfl, hrl, hr⟩ := each_ints hdl hds
  rw [List.length_range] at hrl
  clear hdl hds
  walk_at "D"
  refine ⟨rfl, ?_⟩
  walk_at "D"
  refine ⟨⟨by omega, by omega⟩, ?_⟩
  walk_at "D"
  rw [rng_toNat]
  refine ⟨small (by simp; omega), cmp_src (c := Cond.free) (enc := fun (i : Nat) => PyData.int (i : Int)) (fun _ d => ∃ z : Int, d = .int z ∧ z.natAbs ≤ 3) (fun _ => trivial) (List.range m) (fun j => [.sr (b + 2 + many + j) (62 - many - j), .da (.int m), .da (.int many), .ow (row.map .int), .un, .un, .un, .un]) [] (fun i y hi N h => ?_) fun ds hdl hds => ?_⟩
  · have hi : i < m := by have := (List.getElem?_eq_some_iff.mp hi).1; rwa [List.length_range] at this
    walk_at "D"
    refine ⟨fun _ => ?_, nofun⟩
    walk_at "D"
    refine ⟨by decide, ?_⟩
    walk_at "D"
    refine ⟨show 1 ≤ 62 - many - i by omega, ?_⟩
    walk_at "D"
    refine ⟨rfl, b + 2 + many + i, [.int 0, .int 1, .int (-1), .int 2, .int 3, .int (-2)], rfl, by omega, by decide, by decide, fun x hx => ?_⟩
    refine h x ?_
    simp only [List.mem_cons, List.not_mem_nil, or_false] at hx
    rcases hx with rfl | rfl | rfl | rfl | rfl | rfl
    · exact ⟨_, rfl, by decide⟩
    · exact ⟨_, rfl, by decide⟩
    · exact ⟨_, rfl, by decide⟩
    · exact ⟨_, rfl, by decide⟩
    · exact ⟨_, rfl, by decide⟩
    · exact ⟨_, rfl, by decide⟩
  walk_at "R"
  obtain ⟨c, rfl, hcl, hc⟩ := each_ints hdl hds
  rw [List.length_range] at hcl
  clear hdl hds
  walk_at "D"
  refine ⟨rfl, ?_⟩
  walk_at "D"
  refine ⟨⟨by omega, by omega, by omega, by omega⟩, ?_⟩
  walk_at "D"
  refine ⟨rfl, forP_ind (fun r ρ => ∃ row x5 x6 x7, ρ = [.sr (b + 2 + many + m) (62 - many - m), .da (.int m), .da (.int many), .ow (row.map .int), .da (.list (c.map .int)), x5, x6, x7] ∧ row.length = many ∧ (∃ j, (∃ pre, pre ++ r = List.range ((many : Int) - (m : Int)).toNat ∧ pre.length = j) ∧ RowAt m (m + j) row)) ?_ ?_ _ _ ⟨row, .un, .un, .un, rfl, hrl, 0, ⟨[], rfl, rfl⟩, ?_⟩⟩
  · rintro _ ⟨row, x5, x6, x7, rfl, hrl, j, ⟨pre, hpre, hj⟩, hR⟩
    rw [List.append_nil] at hpre
    have hj2 : j = ((many : Int) - (m : Int)).toNat := by rw [← hj, hpre, List.length_range]
    have hB : ∀ (i : Nat) (x : Int), row[i]? = some x → x.natAbs ≤ bdm m i := fun i x e => by
      have h1 := hR i x e
      have h2 := (List.getElem?_eq_some_iff.mp e).1
      by_cases h3 : i < m + j
      · rwa [if_pos h3] at h1
      · exact absurd h3 (by omega)
    clear hR hpre hj
    have tail : ∀ (row' : List Int) (x5 x6 x7 : Dat.Slot) (a r : Nat), a ≤ b + 40 → 20 ≤ r → row'.length = many → (∀ (i : Nat) (x : Int), row'[i]? = some x → x.natAbs ≤ bdm m i + 1) →
        (seqF (ifS (boolF (opF eqP (callS 1 2 C_law_pick (aconsF false (nameF 0) (aconsF false (constF (.int 6)) anilF))) (constF (.int 0)))) (ownF 3 (compF (itC (slF (lstF (consF (constF (.int 64)) (consF (constF (.int 32)) (consF (constF (.int 16)) (consF (constF (.int 8)) (consF (constF (.int 4)) (consF (constF (.int 2)) (consF (constF (.int 1)) nilF)))))))) noneF (partF (nameF 2)))) (bdN 6) yesF (opF mulP (callS 1 2 C_law_of (aconsF false (nameF 0) (aconsF false (lstF (consF (constF (.int 1)) (consF (constF (.int 2)) nilF))) anilF))) (nameF 6)) [6])) skipF)
          (retF (nameF 3))) [.sr a r, .da (.int m), .da (.int many), .ow (row'.map .int), .da (.list (c.map .int)), x5, x6, x7] { nx := fun _ => Φ .none, rt := Φ } := by
      intro row' x5 x6 x7 a r ha hr hl hb
      walk_at "D"
      refine ⟨show 1 ≤ r by omega, ?_⟩
      walk_at "D"
      refine ⟨rfl, a, 6, rfl, by omega, by decide, fun t h1 h2 => ?_⟩
      walk_at "D"
      refine ⟨⟨rfl, rfl⟩, ?_⟩
      walk_at "D"
      refine ⟨fun _ => ?_, fun _ => ?_⟩
      · walk_at "D"
        refine ⟨by decide, ?_⟩
        walk_at "D"
        rw [show ∀ (ds : List PyData) (h : HT.sIx ds.length 0 none = 0), (ds.drop (HT.sIx ds.length 0 none)).take (HT.sIx ds.length ds.length (some (many : Int)) - HT.sIx ds.length 0 none) = ds.take many from fun ds h => by
          rw [h, HT.sIx_nat, List.drop_zero, Nat.sub_zero]
          by_cases hm : many ≤ ds.length
          · rw [Nat.min_eq_left hm]
          · rw [Nat.min_eq_right (by omega), List.take_of_length_le (Nat.le_refl _), List.take_of_length_le (by omega)]]
        · have e : List.take many [PyData.int 64, .int 32, .int 16, .int 8, .int 4, .int 2, .int 1] = (List.take many ([64, 32, 16, 8, 4, 2, 1] : List Int)).map .int := by rw [List.map_take]; rfl
          rw [e]
          have hz : ∀ y ∈ List.take many ([64, 32, 16, 8, 4, 2, 1] : List Int), y.natAbs ≤ 64 := fun y hy => by
            have := List.mem_of_mem_take hy
            simp only [List.mem_cons, List.not_mem_nil, or_false] at this
            rcases this with rfl | rfl | rfl | rfl | rfl | rfl | rfl <;> decide
          have hlz : (List.take many ([64, 32, 16, 8, 4, 2, 1] : List Int)).length ≤ 7 := by rw [List.length_take]; exact Nat.min_le_right _ _
          revert hz hlz
          generalize List.take many ([64, 32, 16, 8, 4, 2, 1] : List Int) = ys
          intro hz hlz
          refine ⟨small (by rw [List.length_map]; omega), cmp_src (c := Cond.free) (enc := PyData.int) (fun _ d => ∃ z : Int, d = .int z ∧ z.natAbs ≤ 128) (fun _ => trivial) ys (fun j => [.sr (a + 1 + j) (r - 1 - j), .da (.int m), .da (.int many), .ow (row'.map .int), .da (.list (c.map .int)), bumps j (sbump 1 x5), .un, bumps j (sbump 1 x7)]) [] (fun i y hi N h => ?_) fun ds hdl hds => ?_⟩
          · have hy1 := hz y (List.mem_of_getElem? hi)
            have hi : i < ys.length := (List.getElem?_eq_some_iff.mp hi).1
            walk_at "D"
            refine ⟨fun _ => ?_, nofun⟩
            walk_at "D"
            refine ⟨by decide, ?_⟩
            walk_at "D"
            refine ⟨show 1 ≤ r - 1 - i by omega, ?_⟩
            walk_at "D"
            refine ⟨rfl, a + 1 + i, [.int 1, .int 2], rfl, by omega, by decide, by decide, fun x hx => ?_⟩
            simp only [List.mem_cons, List.not_mem_nil, or_false] at hx
            rcases hx with rfl | rfl
            · walk_at "D"
              exact ⟨cm_of (a := 2) (b := 10) (by decide) (Nat.lt_of_le_of_lt hy1 (by decide)) (by decide), h _ ⟨1 * y, rfl, by omega⟩⟩
            · walk_at "D"
              exact ⟨cm_of (a := 2) (b := 10) (by decide) (Nat.lt_of_le_of_lt hy1 (by decide)) (by decide), h _ ⟨2 * y, rfl, by omega⟩⟩
          walk_at "R"
          obtain ⟨row2, rfl, hrl2, hr2⟩ := each_ints hdl hds
          walk_at "D"
          refine q row2 ⟨by omega, fun x hx => ?_, fun x hx => ?_⟩
          · exact Nat.lt_of_le_of_lt (hr2 x hx) (by decide)
          · exact Nat.lt_of_le_of_lt (hr2 x (List.mem_of_mem_take hx)) (by decide)
        · rfl
      · walk_at "D"
        exact q row' (row_good hm (by omega) hb)
    walk_at "D"
    refine ⟨fun z => ?_, fun z => ?_⟩
    · have z : 0 < (many : Int) := of_decide_eq_true z
      walk_at "D"
      refine ⟨show 1 ≤ 62 - many - m by omega, ?_⟩
      walk_at "D"
      refine ⟨rfl, b + 2 + many + m, 4, rfl, by omega, by decide, fun t h1 h2 => ?_⟩
      walk_at "D"
      refine ⟨⟨rfl, rfl⟩, ?_⟩
      walk_at "D"
      refine ⟨fun _ => ?_, fun _ => ?_⟩
      · walk_at "D"
        refine ⟨show 1 ≤ 62 - many - m - 1 by omega, ?_⟩
        walk_at "D"
        refine ⟨rfl, b + 2 + many + m + 1, (many : Int), rfl, by omega, by omega, fun a h1 h2 => ?_⟩
        obtain ⟨a, rfl⟩ := Int.eq_ofNat_of_zero_le h1
        have ha : a < row.length := by omega
        walk_at "D"
        refine ⟨_, atI_int ha, ?_⟩
        walk_at "D"
        refine ⟨a, ?_, ?_⟩
        · unfold ixN
          rw [if_pos (by omega), List.length_map, if_pos (by omega), Int.toNat_natCast]
        · rw [← List.map_set]
          refine tail (row.set a (row.getD a 0 + 1)) _ _ _ _ _ (by omega) (by omega) (by rw [List.length_set]; exact hrl) fun i x e => ?_
          by_cases hi : a = i
          · subst hi
            rw [List.getElem?_set_self ha] at e
            cases e
            have := hB a (row.getD a 0) (by rw [List.getD_eq_getElem?_getD, List.getElem?_eq_getElem ha]; rfl)
            omega
          · rw [List.getElem?_set_ne hi] at e
            have := hB i x e
            omega
      · exact tail row _ _ _ _ _ (by omega) (by omega) hrl fun i x e => Nat.le_succ_of_le (hB i x e)
    · exact ⟨nofun, fun _ => tail row _ _ _ _ _ (by omega) (by omega) hrl fun i x e => Nat.le_succ_of_le (hB i x e)⟩
  · rintro i r _ ⟨row, x5, x6, x7, rfl, hrl, j, ⟨pre, hpre, hj⟩, hR⟩ N hN
    have hi : i = j ∧ m + i < many := by
      have h1 : (pre ++ i :: r)[j]? = some i := by rw [← hj]; simp
      rw [hpre] at h1
      obtain ⟨h2, h3⟩ := List.getElem?_eq_some_iff.mp h1
      rw [List.length_range] at h2
      rw [List.getElem_range] at h3
      omega
    obtain ⟨rfl, hmi⟩ := hi
    have hbd : bdm m (m + i) < 2 ^ 32 := by have := (bdm_fin m hm (m + i) (by omega)).1; omega
    walk_at "D"
    rw [List.length_map, show (m : Int) + (i : Int) - (m : Int) = ((m + i - m : Nat) : Int) by omega, show (m : Int) + (i : Int) = ((m + i : Nat) : Int) by omega, cut_map, zipD_map]
    have hw : 1 ≤ m → ∀ z ∈ (row.drop (m + i - m)).take (m + i - (m + i - m)), z.natAbs ≤ bdm m (m + i - 1) := fun h => row_window h hR (by omega)
    have hwl : ((row.drop (m + i - m)).take (m + i - (m + i - m))).length ≤ 12 := by rw [List.length_take, List.length_drop]; omega
    revert hw hwl
    generalize (row.drop (m + i - m)).take (m + i - (m + i - m)) = ws
    intro hw hwl
    refine ⟨small (by simp; omega), cmp_map (fun (p : Int × Int) => .int (p.1 * p.2)) _ (fun p hp N' h => ?_) ?_⟩
    · have hp1 := hc _ (List.of_mem_zip hp).1
      have hm1 : 1 ≤ m := by
        rw [← hcl]
        have := List.length_pos_of_mem (List.of_mem_zip hp).1
        omega
      have hp2 := hw hm1 _ (List.of_mem_zip hp).2
      have hmono := bdm_mono hm1 (show m + i - 1 ≤ m + i by omega)
      walk_at "D"
      refine ⟨rfl, ?_⟩
      walk_at "D"
      refine ⟨fun _ => ?_, nofun⟩
      walk_at "D"
      exact ⟨cm_of (a := 2) (b := 32) (Nat.lt_of_le_of_lt hp1 (by decide)) (Nat.lt_of_le_of_lt hp2 (Nat.lt_of_le_of_lt hmono hbd)) (by decide), h⟩
    walk_at "R"
    walk_at "D"
    refine ⟨(c.zip ws).map fun (p : Int × Int) => p.1 * p.2, by rw [List.map_map]; rfl, ?_⟩
    walk_at "D"
    refine ⟨m + i, ?_, ?_⟩
    · unfold ixN
      rw [if_pos (by omega), List.length_map, if_pos (by omega), Int.toNat_natCast]
    · rw [← List.map_set]
      refine hN _ ⟨_, _, _, _, rfl, by rw [List.length_set]; exact hrl, i + 1, ⟨pre ++ [i], by rw [List.append_assoc]; exact hpre, by simp [hj]⟩, ?_⟩
      refine row_set hR ?_
      by_cases hm1 : 1 ≤ m
      · have h1 := sum_bound c ws hc (hw hm1)
        have h2 := bdm_step (m := m) (i := m + i) (by omega) hm1
        rw [hcl, ← Nat.mul_assoc, Nat.mul_comm m 3, h2] at h1
        exact h1
      · have : c = [] := List.eq_nil_of_length_eq_zero (by omega)
        subst this
        simp
  · intro i x e
    have := hr x (List.mem_of_getElem? e)
    unfold bdm
    split
    · rw [if_pos (by omega)]; exact this
    · exact this
end K45


set_option Elab.async false
set_option linter.all false
set_option maxRecDepth 100000
set_option maxHeartbeats 4000000
namespace K45
open PySem L2 Dat
local macro_rules | `(tactic| walk_at "D") => `(tactic| (conv => whnf))
local macro_rules | `(tactic| walk_at "R") => `(tactic| (simp only [List.nil_append, clr_clr, List.length_range]))
structure Fact (row : List Int) : Prop where
  rec_ : RecOk row
  least_ : LeastOk row
  same : recurrenceOf row = least row
  goes : ∀ c, least row = some c → 2 * c.length ≤ row.length ∧ (∀ x ∈ c, x.natAbs < 2 ^ 1919) ∧ ∀ i, c.length ≤ i → i < row.length → ((c.zip ((row.drop (i - c.length)).take (i - (i - c.length)))).map fun (p : Int × Int) => p.1 * p.2).sum = row.getD i 0
theorem rc_eO {o : Option (List Int)} (h : ∀ c, o = some c → c.length ≤ 100 ∧ ∀ x ∈ c, x.natAbs < 2 ^ 1919) : Rc (eO o) 100 2 := by
  cases o with
  | none => exact Rc.non.mono (by decide) (by decide)
  | some c =>
    obtain ⟨h1, h2⟩ := h c rfl
    exact ((Rcs.ints c fun i hi => log_lt (h2 i hi) (by decide) (by decide)).tuple).mono h1 (by decide)
theorem rc_eI {ns : List Int} (hl : ns.length ≤ 100) (h : ∀ x ∈ ns, x.natAbs < 2 ^ 1919) : Rc (eI ns) 100 2 :=
  ((Rcs.ints ns fun i hi => log_lt (h i hi) (by decide) (by decide)).list).mono hl (by decide)
theorem rc_two {a b : PyData} (ha : Rc a 100 2) (hb : Rc b 100 2) : reprC (.list [a, b]) := (((Rcs.cons ha (Rcs.cons hb .nil)).list)).c (by decide) (by decide)
theorem sum_bound2 {b : Nat} : ∀ (c ws : List Int), (∀ z ∈ ws, z.natAbs ≤ b) → ((c.zip ws).map fun (p : Int × Int) => p.1 * p.2).sum.natAbs ≤ (c.map Int.natAbs).sum * b
  | [], _, _ => by simp
  | _ :: _, [], _ => by simp
  | x :: c, y :: ws, h2 => by
    have ih := sum_bound2 c ws (fun z hz => h2 z (List.mem_cons_of_mem _ hz))
    have hy := h2 y (List.mem_cons_self ..)
    rw [List.zip_cons_cons, List.map_cons, List.sum_cons, List.map_cons, List.sum_cons, Nat.add_mul]
    have : (x * y).natAbs ≤ x.natAbs * b := by rw [Int.natAbs_mul]; exact Nat.mul_le_mul_left _ hy
    have := Int.natAbs_add_le (x * y) ((c.zip ws).map fun (p : Int × Int) => p.1 * p.2).sum
    show ((x * y) + ((c.zip ws).map fun (p : Int × Int) => p.1 * p.2).sum).natAbs ≤ _
    omega
def bl (i : Nat) : Nat := if i < 3 then 3 else 3 * 6 ^ (i - 2)
theorem bl_fin : ∀ i < 12, bl i < 2 ^ 32 ∧ (i < 6 → bl i < 2 ^ 13) ∧ (3 ≤ i → 6 * bl (i - 1) = bl i) ∧ (∀ j < 12, j ≤ i → bl j ≤ bl i) := by decide
theorem cut_last3 {l : List Int} (h : 3 ≤ l.length) : ((l.map PyData.int).drop (HT.sIx l.length 0 (some (-3)))).take (HT.sIx l.length l.length none - HT.sIx l.length 0 (some (-3))) = (l.drop (l.length - 3)).map .int := by
  have e : HT.sIx l.length 0 (some (-3)) = l.length - 3 := by
    unfold HT.sIx
    simp only
    rw [if_pos (by decide)]; omega
  rw [e, HT.sIx_none, ← List.map_drop, ← List.map_take, List.take_of_length_le (by rw [List.length_drop]; omega)]
theorem lay_bools : ∀ n : Nat, PyData.canLayAll0 (List.replicate n (.bool true)) = true
  | 0 => rfl
  | n + 1 => by
    rw [List.replicate_succ]
    show (PyData.canLay0 (.bool true) && _) = true
    rw [show PyData.canLay0 (.bool true) = true from rfl, Bool.true_and]
    exact lay_bools n
theorem any_bools : ∀ n : Nat, anyIn (.bool false) (.list (List.replicate n (.bool true))) = false
  | 0 => rfl
  | n + 1 => by
    rw [List.replicate_succ]
    show (PyData.eqv (.bool true) (.bool false) || _) = false
    rw [show PyData.eqv (.bool true) (.bool false) = false from by unfold PyData.eqv; rfl, Bool.false_or]
    exact any_bools n
theorem map_const {α : Type} (l : List α) (d : PyData) : l.map (fun _ => d) = List.replicate l.length d := by
  induction l with
  | nil => rfl
  | cons x l ih => rw [List.map_cons, ih, List.length_cons, List.replicate_succ]
theorem two_small : 2 ≤ sizeLine := by decide
def F_rest : SF := (seqF (parF false false 8 9 (compF (itR1 (consF (constF (.int 3)) nilF)) (bdN 13) yesF (opF subP (callS 1 2 C_law_pick (aconsF false (nameF 1) (aconsF false (constF (.int 7)) anilF))) (constF (.int 3))) [13]) (lstF (consF (callS 1 2 C_law_of (aconsF false (nameF 1) (aconsF false (lstF (consF (constF (.int 1)) (consF (unF negP (constF (.int 1))) (consF (constF (.int 4)) nilF)))) anilF))) (consF (constF (.int 0)) (consF (callS 1 2 C_law_pick (aconsF false (nameF 1) (aconsF false (constF (.int 3)) anilF))) nilF)))))
  (seqF (ownF 10 (unF toLstP (nameF 8)))
  (seqF (forF (itR1 (consF (constF (.int 9)) nilF)) (bdN 11) (appF 10 (unF sumP (compF (itZip (consF (nameF 9) (consF (slF (nameF 10) (partF (unF negP (constF (.int 3)))) noneF) nilF))) (bdT (bsL 2 (bsC (bdN 14) (bsC (bdN 15) bsN)))) yesF (opF mulP (nameF 14) (nameF 15)) [14, 15]))))
  (ifS (orF (boolF (opF neSP (unF reprP (callC 1 C_recurrence_of (aconsF false (unF toLstP (nameF 10)) anilF))) (unF reprP (callC 1 C_law_least (aconsF false (nameF 10) anilF))))) (boolF (opF neSP (unF reprP (nameF 3)) (nameF 5)))) (retF (constF (.bool false))) skipF))))
theorem m_law_rest (H : ∀ row, RowGood row → Fact row) (row : List Int) (hrc : reprC (eI row)) (a b : Nat) (ha : a ≤ 10000) (hb : 5 ≤ b) (x2 x4 x6 x7 x8 x9 x10 x11 x12 : Dat.Slot) (k : Kont) (hk : ∀ x2 x3 x4 x5 x6 x7 x8 x9 x10 x11 x12, k.nx [.un, .sr (a + 5) (b - 5), x2, x3, x4, x5, x6, x7, x8, x9, x10, x11, x12, .un, .un, .un]) :
    F_rest [.un, .sr a b, x2, .da (eI row), x4, .da (.str (eI row).shown), x6, x7, x8, x9, x10, x11, x12, .un, .un, .un] k := by
  walk_at "D"
  refine ⟨rfl, ?_⟩
  walk_at "D"
  refine ⟨⟨by decide, by decide⟩, ?_⟩
  walk_at "D"
  refine ⟨by decide, cmp_src (c := Cond.free) (enc := fun (i : Nat) => PyData.int (i : Int)) (fun _ d => ∃ z : Int, d = .int z ∧ z.natAbs ≤ 3) (fun _ => trivial) (List.range 3) (fun j => [.un, .sr (a + j) (b - j), bumps j x2, .da (eI row), bumps j x4, .da (.str (eI row).shown), bumps j x6, bumps j x7, bumps j x8, bumps j x9, bumps j x10, bumps j x11, bumps j x12, .un, .un, .un]) [] (fun i y hi N h => ?_) fun ds hdl hds => ?_⟩
  · have hi : i < 3 := by have := (List.getElem?_eq_some_iff.mp hi).1; rwa [List.length_range] at this
    walk_at "D"
    refine ⟨fun _ => ?_, nofun⟩
    walk_at "D"
    refine ⟨show 1 ≤ b - i by omega, ?_⟩
    walk_at "D"
    refine ⟨rfl, a + i, 7, rfl, by omega, by decide, fun j h1 h2 => ?_⟩
    exact h _ ⟨j - 3, rfl, by omega⟩
  walk_at "R"
  obtain ⟨first, rfl, hfl, hf⟩ := each_ints hdl hds
  rw [List.length_range] at hfl
  clear hdl hds
  walk_at "D"
  refine ⟨by decide, ?_⟩
  walk_at "D"
  refine ⟨show 1 ≤ b - 3 by omega, ?_⟩
  walk_at "D"
  refine ⟨rfl, a + 3, [.int 1, .int (-1), .int 4], rfl, by omega, by decide, by decide, fun y hy => ?_⟩
  obtain ⟨c0, rfl, hc0⟩ : ∃ c0 : Int, y = .int c0 ∧ c0.natAbs ≤ 4 := by
    simp only [List.mem_cons, List.not_mem_nil, or_false] at hy
    rcases hy with rfl | rfl | rfl
    · exact ⟨_, rfl, by decide⟩
    · exact ⟨_, rfl, by decide⟩
    · exact ⟨_, rfl, by decide⟩
  walk_at "D"
  refine ⟨show 1 ≤ b - 3 - 1 by omega, ?_⟩
  walk_at "D"
  refine ⟨rfl, a + 3 + 1, 3, rfl, by omega, by decide, fun c2 h1 h2 => ?_⟩
  have hcs : (([c0, 0, c2] : List Int).map Int.natAbs).sum ≤ 6 := by
    simp only [List.map_cons, List.map_nil, List.sum_cons, List.sum_nil]
    omega
  have hc3 : ∀ z ∈ ([c0, 0, c2] : List Int), z.natAbs ≤ 6 := fun z hz => by
    simp only [List.mem_cons, List.not_mem_nil, or_false] at hz
    rcases hz with rfl | rfl | rfl <;> omega
  walk_at "D"
  refine ⟨show 3 ≤ sizeLine by decide, ?_⟩
  walk_at "D"
  refine ⟨rfl, ?_⟩
  walk_at "D"
  refine ⟨⟨by decide, by decide⟩, ?_⟩
  walk_at "D"
  refine ⟨rfl, forP_ind (enc := fun (i : Nat) => PyData.int (i : Int)) (fun r ρ => ∃ l y2 y4 y6 y7 y11 y12, ρ = [.un, .sr (a + 5) (b - 5), y2, .da (eI row), y4, .da (.str (eI row).shown), y6, y7, .da (eI first), .da (eI [c0, 0, c2]), .ow (l.map .int), y11, y12, .un, .un, .un] ∧ l.length + r.length = 12 ∧ 3 ≤ l.length ∧ ∀ (i : Nat) (x : Int), l[i]? = some x → x.natAbs ≤ bl i) ?_ ?_ (List.range 9) _ ⟨first, _, _, _, _, _, _, rfl, by rw [List.length_range]; omega, by omega, fun i x e => ?_⟩⟩
  · rintro _ ⟨l, y2, y4, y6, y7, y11, y12, rfl, hl, _, hb⟩
    rw [List.length_nil, Nat.add_zero] at hl
    have hgood : RowGood l := by
      refine ⟨by omega, fun x hx => ?_, fun x hx => ?_⟩
      · obtain ⟨i, hi, rfl⟩ := List.mem_iff_getElem.mp hx
        exact Nat.lt_of_le_of_lt (hb i _ (List.getElem?_eq_getElem hi)) (bl_fin i (by omega)).1
      · obtain ⟨i, hi, e⟩ := List.mem_iff_getElem.mp hx
        rw [List.length_take] at hi
        rw [List.getElem_take] at e
        rw [← e]
        exact Nat.lt_of_le_of_lt (hb i _ (List.getElem?_eq_getElem (by omega))) ((bl_fin i (by omega)).2.1 (by omega))
    have fa := H l hgood
    have rcO : Rc (eO (least l)) 100 2 := rc_eO fun c e => by
      obtain ⟨g1, g2, _⟩ := fa.goes c e
      exact ⟨by omega, g2⟩
    walk_at "D"
    refine ⟨rfl, l, .inl rfl, fa.rec_, ?_⟩
    rw [fa.same]
    walk_at "D"
    refine ⟨rcO.c (by decide) (by decide), ?_⟩
    walk_at "D"
    refine ⟨rfl, l, rfl, fa.least_, ?_⟩
    walk_at "D"
    refine ⟨rcO.c (by decide) (by decide), ?_⟩
    walk_at "D"
    rw [bne_self_eq_false]
    refine ⟨nofun, fun _ => ?_⟩
    walk_at "D"
    refine ⟨hrc, ?_⟩
    walk_at "D"
    rw [bne_self_eq_false]
    refine ⟨nofun, fun _ => ?_⟩
    exact hk _ _ _ _ _ _ _ _ _ _ _
  · rintro t r _ ⟨l, y2, y4, y6, y7, y11, y12, rfl, hl, hl3, hb⟩ N hN
    rw [List.length_cons] at hl
    walk_at "D"
    rw [List.length_map]
    rw [cut_last3 hl3, zipD_map]
    have hw : ∀ z ∈ l.drop (l.length - 3), z.natAbs ≤ bl (l.length - 1) := fun z hz => by
      obtain ⟨j, hj, e⟩ := List.mem_iff_getElem.mp hz
      rw [List.length_drop] at hj
      rw [List.getElem_drop] at e
      rw [← e]
      exact Nat.le_trans (hb _ _ (List.getElem?_eq_getElem (by omega))) ((bl_fin (l.length - 1) (by omega)).2.2.2 _ (by omega) (by omega))
    have hwl : (l.drop (l.length - 3)).length ≤ 12 := by rw [List.length_drop]; omega
    have hsum := sum_bound2 [c0, 0, c2] _ hw
    have hbl := (bl_fin l.length (by omega)).2.2.1 hl3
    have hbl32 := (bl_fin (l.length - 1) (by omega)).1
    revert hw hwl hsum
    generalize l.drop (l.length - 3) = ws
    intro hw hwl hsum
    refine ⟨small (by simp; omega), cmp_map (fun (p : Int × Int) => .int (p.1 * p.2)) _ (fun p hp N' h => ?_) ?_⟩
    · have hp1 := hc3 _ (List.of_mem_zip hp).1
      have hp2 := hw _ (List.of_mem_zip hp).2
      walk_at "D"
      refine ⟨rfl, ?_⟩
      walk_at "D"
      refine ⟨fun _ => ?_, nofun⟩
      walk_at "D"
      exact ⟨cm_of (a := 3) (b := 32) (Nat.lt_of_le_of_lt hp1 (by decide)) (Nat.lt_of_le_of_lt hp2 hbl32) (by decide), h⟩
    walk_at "R"
    walk_at "D"
    refine ⟨(([c0, 0, c2] : List Int).zip ws).map fun (p : Int × Int) => p.1 * p.2, by rw [List.map_map]; rfl, ?_⟩
    walk_at "D"
    refine ⟨Nat.lt_of_le_of_lt (m := 12) (by rw [List.length_map]; omega) (by decide), ?_⟩
    refine hN _ ⟨l ++ [((([c0, 0, c2] : List Int).zip ws).map fun (p : Int × Int) => p.1 * p.2).sum], y2, y4, y6, y7, .da (.int t), y12, ?_, ?_, ?_, ?_⟩
    · rw [List.map_append]; rfl
    · rw [List.length_append, List.length_singleton]; omega
    · rw [List.length_append]; omega
    · intro i x e
      by_cases hi : i < l.length
      · rw [List.getElem?_append_left hi] at e
        exact hb i x e
      · rw [List.getElem?_append_right (by omega)] at e
        have hi2 : i = l.length := by
          have := (List.getElem?_eq_some_iff.mp e).1
          rw [List.length_singleton] at this; omega
        subst hi2
        rw [Nat.sub_self] at e
        have e2 : ((([c0, 0, c2] : List Int).zip ws).map fun (p : Int × Int) => p.1 * p.2).sum = x := Option.some.inj e
        rw [← e2, ← hbl]
        exact Nat.le_trans hsum (Nat.mul_le_mul_right _ hcs)
  · have := hf x (List.mem_of_getElem? e)
    have h3 := (List.getElem?_eq_some_iff.mp e).1
    unfold bl
    rw [if_pos (by omega)]; exact this
instance (B : Nat) (r : List Int) : Decidable (Bnd B r) := inferInstanceAs (Decidable (∀ x ∈ r, x.natAbs < 2 ^ B))
theorem told_is : ([[8, 4, 2, 1], [0, 0, 0, 1], [], [3], [0]] : List (List Int)).map (fun l => eO (recurrenceOf l)) = [.none, .none, .tuple [], .none, .tuple []] := by
  have h : ([[8, 4, 2, 1], [0, 0, 0, 1], [], [3], [0]] : List (List Int)).map recurrenceOf = [none, none, some [], none, some []] := by decide +kernel
  rw [show (fun l => eO (recurrenceOf l)) = eO ∘ recurrenceOf from rfl, ← List.map_map, h]; rfl
theorem m_law (H : ∀ row, RowGood row → Fact row) (Φ : PyData → Prop) (q : Φ (.bool true)) : F_law [.un, .sr 0 1000, .un, .un, .un, .un, .un, .un, .un, .un, .un, .un, .un, .un, .un, .un] { nx := fun _ => Φ .none, rt := Φ } := by
  walk_at "D"
  refine ⟨rfl, ?_⟩
  walk_at "D"
  refine ⟨⟨by decide, by decide⟩, ?_⟩
  walk_at "D"
  refine ⟨rfl, forP_ind (enc := fun (i : Nat) => PyData.int (i : Int)) (fun r ρ => ∃ x2 x3 x4 x5 x6 x7 x8 x9 x10 x11 x12 a b, ρ = [.un, .sr a b, x2, x3, x4, x5, x6, x7, x8, x9, x10, x11, x12, .un, .un, .un] ∧ a + 69 * r.length ≤ 1000 ∧ 69 * r.length ≤ b) ?_ ?_ (List.range 8) _ ⟨_, _, _, _, _, _, _, _, _, _, _, _, _, rfl, by decide, by decide⟩⟩
  · rintro _ ⟨x2, x3, x4, x5, x6, x7, x8, x9, x10, x11, x12, a, b, rfl, _, _⟩
    walk_at "D"
    refine ⟨by decide, ?_⟩
    walk_at "D"
    refine ⟨by decide, ?_⟩
    walk_at "D"
    refine ⟨by decide, ?_⟩
    walk_at "D"
    refine ⟨by decide, ?_⟩
    walk_at "D"
    refine ⟨by decide, ?_⟩
    walk_at "D"
    refine ⟨by decide, ?_⟩
    walk_at "D"
    refine ⟨by decide, cmp_map (enc := eI) (fun l => eO (recurrenceOf l)) [[8, 4, 2, 1], [0, 0, 0, 1], [], [3], [0]] (fun l hl N h => ?_) ?_⟩
    · walk_at "D"
      refine ⟨fun _ => ?_, nofun⟩
      walk_at "D"
      have hg : RowGood l := by
        simp only [List.mem_cons, List.not_mem_nil, or_false] at hl
        rcases hl with rfl | rfl | rfl | rfl | rfl <;> exact ⟨by decide, by decide, by decide⟩
      exact ⟨rfl, l, .inl rfl, (H l hg).rec_, h⟩
    walk_at "R"
    rw [show ([[8, 4, 2, 1], [0, 0, 0, 1], [], [3], [0]] : List (List Int)).map (fun l => eO (recurrenceOf l)) = [.none, .none, .tuple [], .none, .tuple []] from told_is]
    walk_at "D"
    refine ⟨(((Rcs.cons .non (Rcs.cons .non (Rcs.cons Rcs.nil.tuple (Rcs.cons .non (Rcs.cons Rcs.nil.tuple .nil))))).list).c (by decide) (by decide)), ?_⟩
    walk_at "D"
    rw [show ((PyData.list [.none, .none, .tuple [], .none, .tuple []]).shown == ("[None, None, (), None, ()]" : Str)) = true by decide +kernel]
    exact q
  · rintro lap r _ ⟨x2, x3, x4, x5, x6, x7, x8, x9, x10, x11, x12, a, b, rfl, ha, hb⟩ N hN
    rw [List.length_cons] at ha hb
    walk_at "D"
    refine ⟨show 64 ≤ b by omega, ?_⟩
    walk_at "D"
    refine ⟨rfl, a, rfl, by omega, fun row hrow => ?_⟩
    have fa := H row hrow
    obtain ⟨hrl, hr32, _⟩ := id hrow
    have hrow19 : ∀ x ∈ row, x.natAbs < 2 ^ 1919 := fun x hx => bits_mono (hr32 x hx) (by decide)
    have rcO : Rc (eO (least row)) 100 2 := rc_eO fun c e => by
      obtain ⟨g1, g2, _⟩ := fa.goes c e
      exact ⟨by omega, g2⟩
    have rcR := rc_eI (ns := row) (by omega) hrow19
    walk_at "D"
    refine ⟨rfl, row, rfl, fa.least_, ?_⟩
    walk_at "D"
    refine ⟨rcR.c (by decide) (by decide), ?_⟩
    walk_at "D"
    refine ⟨two_small, ?_⟩
    walk_at "D"
    refine ⟨rfl, ?_⟩
    walk_at "D"
    refine ⟨rfl, row, .inl rfl, fa.rec_, ?_⟩
    walk_at "D"
    refine ⟨rfl, row, .inr rfl, fa.rec_, ?_⟩
    rw [fa.same]
    walk_at "D"
    refine ⟨two_small, ?_⟩
    walk_at "D"
    refine ⟨rc_two rcO rcO, ?_⟩
    walk_at "D"
    refine ⟨two_small, ?_⟩
    walk_at "D"
    refine ⟨rc_two rcO rcO, ?_⟩
    walk_at "D"
    rw [bne_self_eq_false]
    refine ⟨nofun, fun _ => ?_⟩
    have hk : ∀ x2 x3 x4 x5 x6 x7 x8 x9 x10 x11 x12, N [.un, .sr (a + 64 + 5) (b - 64 - 5), x2, x3, x4, x5, x6, x7, x8, x9, x10, x11, x12, .un, .un, .un] := fun _ _ _ _ _ _ _ _ _ _ _ => hN _ ⟨_, _, _, _, _, _, _, _, _, _, _, _, _, rfl, by omega, by omega⟩
    have hrc := rcR.c (by decide) (by decide)
    have hgo := fa.goes
    clear fa rcO
    revert hgo
    cases least row with
    | none =>
      intro _
      walk_at "D"
      refine ⟨rfl, ?_⟩
      walk_at "D"
      refine ⟨nofun, fun _ => ?_⟩
      exact m_law_rest H row hrc _ _ (by omega) (by omega) _ _ _ _ _ _ _ _ _ _ hk
    | some c =>
      intro hgo
      obtain ⟨g1, g2, g3⟩ := hgo c rfl
      walk_at "D"
      refine ⟨rfl, ?_⟩
      walk_at "D"
      refine ⟨fun _ => ?_, nofun⟩
      walk_at "D"
      refine ⟨rfl, ?_⟩
      walk_at "D"
      rw [List.length_map, List.length_map]
      refine ⟨⟨by omega, by omega, by omega, by omega⟩, ?_⟩
      walk_at "D"
      refine ⟨small (by rw [List.length_map, List.length_range]; omega), cmp_map (fun _ => .bool true) _ (fun i hi N' h => ?_) ?_⟩
      · have hi := List.mem_range.mp hi
        have gi := g3 (c.length + i) (by omega) (by omega)
        walk_at "D"
        refine ⟨fun _ => ?_, nofun⟩
        walk_at "D"
        rw [List.length_map (f := PyData.int) (as := row), show (c.length : Int) + (i : Int) - (c.length : Int) = ((c.length + i - c.length : Nat) : Int) by omega, show (c.length : Int) + (i : Int) = ((c.length + i : Nat) : Int) by omega, cut_map, zipD_map]
        have hws : ∀ z ∈ (row.drop (c.length + i - c.length)).take (c.length + i - (c.length + i - c.length)), z.natAbs < 2 ^ 32 := fun z hz => hr32 z (List.mem_of_mem_drop (List.mem_of_mem_take hz))
        revert gi hws
        generalize (row.drop (c.length + i - c.length)).take (c.length + i - (c.length + i - c.length)) = ws
        intro gi hws
        refine ⟨small (by rw [List.length_map, List.length_zip]; omega), cmp_map (fun (p : Int × Int) => .int (p.1 * p.2)) _ (fun p hp N2 h2 => ?_) ?_⟩
        · have hp1 := g2 _ (List.of_mem_zip hp).1
          have hp2 := hws _ (List.of_mem_zip hp).2
          walk_at "D"
          refine ⟨rfl, ?_⟩
          walk_at "D"
          refine ⟨fun _ => ?_, nofun⟩
          walk_at "D"
          exact ⟨cm_of hp1 hp2 (by decide), h2⟩
        walk_at "R"
        walk_at "D"
        refine ⟨(c.zip ws).map fun (p : Int × Int) => p.1 * p.2, by rw [List.map_map]; rfl, ?_⟩
        walk_at "D"
        refine ⟨_, atI_int (i := c.length + i) (by omega), ?_⟩
        walk_at "D"
        refine ⟨⟨rfl, rfl⟩, ?_⟩
        rw [gi, show PyData.eqv (.int (row.getD (c.length + i) 0)) (.int (row.getD (c.length + i) 0)) = true from (eqv_int _ _).trans (decide_eq_true rfl)]
        exact h
      walk_at "R"
      rw [map_const, List.length_range]
      walk_at "D"
      refine ⟨cm_of (a := 3) (b := 10) (by decide) (small_bits (by omega)) (by decide), ?_⟩
      walk_at "D"
      refine ⟨fun z => ?_, fun _ => ?_⟩
      · have z := of_decide_eq_true z
        exact absurd z (by rw [List.length_map]; omega)
      · walk_at "D"
        refine ⟨⟨rfl, by simp only [PyData.depth]; omega, lay_bools _⟩, ?_⟩
        walk_at "D"
        rw [any_bools]
        refine ⟨nofun, fun _ => ?_⟩
        exact m_law_rest H row hrc _ _ (by omega) (by omega) _ _ _ _ _ _ _ _ _ _ hk
end K45


set_option Elab.async false
set_option linter.all false
set_option maxRecDepth 100000
set_option maxHeartbeats 4000000
namespace K45
open PySem L2 Dat
local macro_rules | `(tactic| walk_at "D") => `(tactic| (conv => whnf))
structure SrcAt (P : Addr × Addr × Nat) (H0 H : Hp) (cs : List Int) (l m t : Int) : Prop where
  oth : ∀ a, a ≠ P.1 → a ≠ P.2.1 → H a = H0 a
  dic : H P.1 = some (srcDict P.2.1 l m t)
  lst : H P.2.1 = some (.lst (cs.map V.int))
  len : cs.length ≤ 63
section
variable {P : Addr × Addr × Nat} {H0 H : Hp} {cs : List Int} {l m t : Int}
theorem SrcAt.left (h : SrcAt P H0 H cs l m t) : DGet H P.1 (.str "left") (some (.int l)) := DGet.k (k := Sum.inr kLeft) h.dic
theorem SrcAt.cells (h : SrcAt P H0 H cs l m t) : DGet H P.1 (.str "cells") (some (.ref P.2.1)) := DGet.k (k := Sum.inr kCells) h.dic
theorem SrcAt.mixed (h : SrcAt P H0 H cs l m t) : DGet H P.1 (.str "mixed") (some (.int m)) := DGet.k (k := Sum.inr kMixed) h.dic
theorem SrcAt.turn (h : SrcAt P H0 H cs l m t) : DGet H P.1 (.str "turn") (some (.int t)) := DGet.k (k := Sum.inr kTurn) h.dic
theorem SrcAt.putLeft (hn : P.1 ≠ P.2.1) (h : SrcAt P H0 H cs l m t) (z : Int) : DPut H P.1 (.str "left") (.int z) (upd H P.1 (srcDict P.2.1 z m t)) ∧ SrcAt P H0 (upd H P.1 (srcDict P.2.1 z m t)) cs z m t :=
  ⟨DPut.k (k := Sum.inr kLeft) h.dic (show 4 < sizeLine by decide), fun a h1 h2 => by rw [upd_ne h1]; exact h.oth a h1 h2, upd_same, by rw [upd_ne (Ne.symm hn)]; exact h.lst, h.len⟩
theorem SrcAt.putTurn (hn : P.1 ≠ P.2.1) (h : SrcAt P H0 H cs l m t) (z : Int) : DPut H P.1 (.str "turn") (.int z) (upd H P.1 (srcDict P.2.1 l m z)) ∧ SrcAt P H0 (upd H P.1 (srcDict P.2.1 l m z)) cs l m z :=
  ⟨DPut.k (k := Sum.inr kTurn) h.dic (show 4 < sizeLine by decide), fun a h1 h2 => by rw [upd_ne h1]; exact h.oth a h1 h2, upd_same, by rw [upd_ne (Ne.symm hn)]; exact h.lst, h.len⟩
theorem SrcAt.pop (hn : P.1 ≠ P.2.1) (h : SrcAt P H0 H cs l m t) (xs : List Int) (hl : xs.length ≤ 63) : SrcAt P H0 (upd H P.2.1 (.lst (xs.map V.int))) xs l m t :=
  ⟨fun a h1 h2 => by rw [upd_ne h2]; exact h.oth a h1 h2, by rw [upd_ne hn]; exact h.dic, upd_same, hl⟩
end
theorem div_small {l n : Int} (h : 2 ≤ n) (h2 : n ≤ 1000000) : divC l n := by
  refine ⟨by omega, ?_⟩
  unfold Builtin.divisionGoesByPylong
  simp only [Bool.and_eq_false_iff, decide_eq_false_iff_not]
  left
  rw [if_neg (by simp; omega)]
  have : n.natAbs.log2 < 20 := (Nat.log2_lt (by omega)).mpr (Nat.lt_of_le_of_lt (m := 1000000) (by omega) (by decide))
  omega
theorem fmod_bits {x q : Int} {B : Nat} (h : 0 < q) (hB : q.natAbs ≤ 2 ^ B) : 0 ≤ x.fmod q ∧ (x.fmod q).natAbs < 2 ^ B := by
  have h1 := Int.fmod_nonneg_of_pos x h
  have h2 := Int.fmod_lt_of_pos x h
  omega
structure BlP (mg : Str → Option Value) : Prop where
  n_len : mg "len" = none
  n_int : mg "int" = none
section
variable {P : Program} {w : World} {K : PySem.W.Frag} {mg : Str → Option Value} {base : Heap}
abbrev N_law_pick : List Str := ["source", "most", "cells", "others", "lap", "stirred"]
theorem sc_law_pick : FnScope N_law_pick ["source", "most"] (defScope st_law_pick) := ⟨rfl, rfl, rfl, by decide +kernel, rfl, by decide +kernel, by decide +kernel⟩
theorem ok_law_pick {f : Addr} {fd : FuncData} {k : Nat} (F : Fun K "_law_pick" "_law_pick" st_law_pick f fd) (bl : BlP mg) : FnOk P w K mg base CX0 (k + 1) f fd ["source", "most"] (spD K 2 C_law_pick) := by
  refine F.ok sc_law_pick (fun vs H Q E h => h.1) fun cdv A outer s H vs Q E hr h => ?_
  have hu : A.units + 3 + 1 < cLine := by have := hr.un; show (A.deeper (PyProof.Rows.envOfC "_law_pick" (defScope st_law_pick) s.heap.objs.size f cdv)).units + 1 < _; omega
  refine ⟨_, pss_cons (ps_if (pt_cmpR op_lt (pv 1) pe_int (nomark _)) (pss_one (ps_ret pe_int)) pss_nil)
    (pss_cons (ps_set (i := 2) sc_law_pick.nd rfl (.inl rfl) (pe_dget hu (pv 0) pe_str (fun _ _ => rfl)))
    (pss_cons (ps_while PassesOwn.never (PW.pt (pw_and (pt_cmpR op_lt (pe_dget hu (pv 0) pe_str (fun _ _ => rfl)) pe_int (nomark _)) (pw_and1 (pt_cmpR op_gt (pe_callB call_len_seq (by rfl) bl.n_len PySem.boot_len (pa_cons (pv 2) pa_nil)) pe_int (nomark _)))))
      (pss_one (ps_dput hu (pv 0) pe_str (pe_bm0 PySem.F.plainAttrs_list PySem.F.slot_list_pop PySem.F.type_list_pop mt_pop (pv 2)) rfl)))
    (pss_cons (ps_set (i := 3) sc_law_pick.nd rfl (.inl rfl) (pe_dget hu (pv 0) pe_str (fun _ _ => rfl)))
    (pss_cons (ps_if (pt_cmpR op_gt (pv 3) pe_int (nomark _)) (pss_cons (ps_dput hu (pv 0) pe_str (pe_op o_fdiv (pv 3) (pv 1)) rfl) (pss_one (ps_ret (pe_op op_modN (pe_callTy call_int1 (by rfl) bl.n_int PyProof.Rows.boot_int (pa_cons (pv 3) pa_nil)) (pv 1))))) pss_nil)
    (pss_cons (ps_dput hu (pv 0) pe_str (pe_op op_add (pe_dget hu (pv 0) pe_str (fun _ _ => rfl)) pe_int) rfl)
    (pss_cons (ps_set (i := 4) sc_law_pick.nd rfl (.inl rfl) (pe_dget hu (pv 0) pe_str (fun _ _ => rfl)))
    (pss_cons (ps_set (i := 5) sc_law_pick.nd rfl (.inl rfl) (pe_op op_modN (pe_callTy call_int1 (by rfl) bl.n_int PyProof.Rows.boot_int (pa_cons (pe_op op_add (pe_dget hu (pv 0) pe_str (fun _ _ => rfl)) (pe_op op_mulX (pv 4) pe_int)) pa_nil)) pe_int))
    (pss_cons (ps_set (i := 5) sc_law_pick.nd rfl (.inl rfl) (pe_op op_modN (pe_callTy call_int1 (by rfl) bl.n_int PyProof.Rows.boot_int (pa_cons (pe_op op_add (pe_op op_mulX (pv 5) (pv 5)) (pe_op op_mulX (pv 4) pe_int)) pa_nil)) pe_int))
    (pss_one (ps_ret (pe_op op_modN (pe_callTy call_int1 (by rfl) bl.n_int PyProof.Rows.boot_int (pa_cons (pe_op o_fdiv (pv 5) pe_int) pa_nil)) (pv 1)))))))))))), ?_⟩
  obtain ⟨_, S, as, G, Φ, e, r, ha, ⟨b, n, rfl, hb, hn, hΦ⟩, k⟩ := h
  obtain ⟨v0, vs', rfl, v1, rfl, ⟨PP, rfl, rfl, hT⟩, tn⟩ : ∃ v0 vs', vs = v0 :: vs' ∧ ∃ v1, vs' = [v1] ∧ ArgOk K S G H v0 (.sr b 1) ∧ ArgOk K S G H v1 (.da (.int n)) := by
    match vs, ha with
    | [v0, v1], ⟨h1, h2, _⟩ => exact ⟨v0, [v1], rfl, v1, rfl, h1, h2⟩
  cases tn
  obtain ⟨hne, hg1, hg2, cs, l, m, t, h4, h5, h6, h7, h8⟩ := r PP rfl
  have hTv : t ≤ b ∧ t + 1 ≤ PP.2.2 := by
    obtain ⟨t', rfl⟩ := Int.eq_ofNat_of_zero_le h7
    have := hT.val h4
    omega
  have fin : ∀ {H' : Hp} {cs : List Int} {l m t : Int} {j : Int}, SrcAt PP H H' cs l m t → 0 ≤ t → t ≤ PP.2.2 → 0 ≤ j → j < max n 1 → Q (.int j) H' := fun {H' cs l m t j} sa t0 t1 j0 j1 => by
    refine k (.int j) (.int j) G H' (hΦ j j0 j1) ⟨fun a o q => ?_, fun p ep => ?_, Same.refl G, fun a h1 _ => h1, fun a o h1 h2 => ?_⟩ (.int _)
    · have n1 : a ≠ PP.1 := fun z => by rw [z, hg1] at q; cases q
      have n2 : a ≠ PP.2.1 := fun z => by rw [z, hg2] at q; cases q
      rw [sa.oth a n1 n2]; exact e a o q
    · cases ep
      exact ⟨hne, hg1, hg2, cs, l, m, t, sa.dic, sa.lst, sa.len, t0, t1⟩
    · have n1 : a ≠ PP.1 := fun z => h1 ⟨PP, rfl, .inl z⟩
      have n2 : a ≠ PP.2.1 := fun z => h1 ⟨PP, rfl, .inr z⟩
      rw [sa.oth a n1 n2]; exact h2
  have st : SrcAt PP H H cs l m t := ⟨fun _ _ _ => rfl, h4, h5, h6⟩
  clear hT h4 h5 h6
  walk_at "D"
  refine ⟨_, rfl, ?_⟩
  walk_at "D"
  refine ⟨n, 2, rfl, rfl, ?_⟩
  walk_at "D"
  refine ⟨_, rfl, ?_⟩
  refine ite2 (fun z => ?_) (fun z => ?_)
  · exact fin st h7 h8 (by decide) (by omega)
  have z : ¬n < 2 := fun y => z (decide_eq_true y)
  walk_at "D"
  refine ⟨_, rfl, ?_⟩
  walk_at "D"
  refine ⟨_, _, rfl, st.cells, ?_⟩
  walk_at "D"
  refine ⟨fun i σ H' => ∃ cs l, σ = [some (.ref PP.1), some (.int n), some (.ref PP.2.1), none, none, none] ∧ SrcAt PP H H' cs l m t ∧ cs.length = i, ⟨cs.length, cs, l, rfl, st, rfl⟩, ?_⟩
  clear st
  rintro i σ H' ⟨cs, l, rfl, st, rfl⟩
  walk_at "D"
  refine ⟨_, rfl, ?_⟩
  walk_at "D"
  refine ⟨_, _, rfl, st.left, ?_⟩
  walk_at "D"
  refine ⟨l, 2, rfl, rfl, ?_⟩
  walk_at "D"
  refine ⟨_, rfl, ?_⟩
  refine ite2 (fun y1 => ?_) (fun y1 => ?_)
  · walk_at "D"
    refine ⟨_, rfl, ?_⟩
    walk_at "D"
    refine ⟨_, cs.map V.int, rfl, .inl (.of st.lst), ?_⟩
    walk_at "D"
    refine ⟨_, _, rfl, rfl, ?_⟩
    walk_at "D"
    refine ⟨_, rfl, ?_⟩
    refine ite2 (fun y2 => ?_) (fun y2 => ?_)
    · have y2 := of_decide_eq_true y2
      rw [List.length_map] at y2
      have hpos : 0 < cs.length := by omega
      refine ⟨fun σ' H'' => ∃ cs' l', σ' = [some (.ref PP.1), some (.int n), some (.ref PP.2.1), none, none, none] ∧ SrcAt PP H H'' cs' l' m t ∧ cs'.length < cs.length, fun σ' H'' ⟨cs', l', a1, a2, a3⟩ => ⟨cs'.length, a3, cs', l', a1, a2, rfl⟩, ?_⟩
      walk_at "D"
      refine ⟨_, rfl, ?_⟩
      walk_at "D"
      refine ⟨.inl ⟨rfl, _, .of st.lst⟩, ?_⟩
      walk_at "D"
      refine ⟨_, _, .int (cs[cs.length - 1]'(by omega)), rfl, rfl, st.lst, by rw [List.length_map, List.getElem?_map, List.getElem?_eq_getElem (by omega)]; rfl, ?_⟩
      have st2 := st.pop hne cs.dropLast (by rw [List.length_dropLast]; have := st.len; omega)
      rw [← List.map_dropLast]
      walk_at "D"
      refine ⟨_, rfl, ?_⟩
      walk_at "D"
      refine ⟨_, _, rfl, (st2.putLeft hne _).1, ?_⟩
      exact ⟨_, _, rfl, (st2.putLeft hne _).2, by rw [List.length_dropLast]; omega⟩
    ·
      walk_at "D"
      refine ⟨_, rfl, ?_⟩
      walk_at "D"
      refine ⟨_, _, rfl, st.left, ?_⟩
      walk_at "D"
      refine ⟨_, rfl, ?_⟩
      walk_at "D"
      refine ⟨l, 1, rfl, rfl, ?_⟩
      walk_at "D"
      refine ⟨_, rfl, ?_⟩
      refine ite2 (fun y => ?_) (fun y => ?_)
      · walk_at "D"
        refine ⟨_, rfl, ?_⟩
        walk_at "D"
        refine ⟨_, rfl, ?_⟩
        walk_at "D"
        refine ⟨l, n, rfl, rfl, div_small (by omega) hn, ?_⟩
        walk_at "D"
        refine ⟨_, rfl, ?_⟩
        walk_at "D"
        refine ⟨_, _, rfl, (st.putLeft hne _).1, ?_⟩
        walk_at "D"
        refine ⟨_, rfl, ?_⟩
        walk_at "D"
        refine .inl ⟨l, rfl, ?_⟩
        walk_at "D"
        refine ⟨_, rfl, ?_⟩
        walk_at "D"
        refine ⟨l, n, rfl, rfl, by omega, ?_⟩
        exact fin (st.putLeft hne _).2 h7 h8 (Int.fmod_nonneg_of_pos _ (by omega)) (by have := Int.fmod_lt_of_pos l (show 0 < n by omega); omega)
      · have st2 := (st.putTurn hne (t + 1)).2
        have hcm : (t + 1).natAbs < 2 ^ 64 := Nat.lt_of_le_of_lt (m := 2000000) (by omega) (by decide)
        walk_at "D"
        refine ⟨_, rfl, ?_⟩
        walk_at "D"
        refine ⟨_, _, rfl, st.turn, ?_⟩
        walk_at "D"
        refine ⟨t, 1, rfl, rfl, ?_⟩
        walk_at "D"
        refine ⟨_, rfl, ?_⟩
        walk_at "D"
        refine ⟨_, _, rfl, (st.putTurn hne (t + 1)).1, ?_⟩
        walk_at "D"
        refine ⟨_, rfl, ?_⟩
        walk_at "D"
        refine ⟨_, _, rfl, st2.turn, ?_⟩
        walk_at "D"
        refine ⟨_, rfl, ?_⟩
        walk_at "D"
        refine ⟨_, _, rfl, st2.mixed, ?_⟩
        walk_at "D"
        refine ⟨_, rfl, ?_⟩
        walk_at "D"
        refine ⟨t + 1, 104729, rfl, rfl, cm_of (b := 20) hcm (by decide) (by decide), ?_⟩
        walk_at "D"
        refine ⟨_, _, rfl, rfl, ?_⟩
        walk_at "D"
        refine .inl ⟨_, rfl, ?_⟩
        walk_at "D"
        refine ⟨_, 998244353, rfl, rfl, show (998244353 : Int) ≠ 0 by decide, ?_⟩
        have b1 := fmod_bits (x := m + (t + 1) * 104729) (q := 998244353) (B := 30) (by decide) (by decide)
        walk_at "D"
        refine ⟨_, rfl, ?_⟩
        walk_at "D"
        refine ⟨_, rfl, ?_⟩
        walk_at "D"
        refine ⟨_, _, rfl, rfl, cm_of b1.2 b1.2 (by decide), ?_⟩
        walk_at "D"
        refine ⟨_, rfl, ?_⟩
        walk_at "D"
        refine ⟨t + 1, 17, rfl, rfl, cm_of (b := 20) hcm (by decide) (by decide), ?_⟩
        walk_at "D"
        refine ⟨_, _, rfl, rfl, ?_⟩
        walk_at "D"
        refine .inl ⟨_, rfl, ?_⟩
        walk_at "D"
        refine ⟨_, 2147483647, rfl, rfl, show (2147483647 : Int) ≠ 0 by decide, ?_⟩
        have b2 := fmod_bits (x := (m + (t + 1) * 104729).fmod 998244353 * (m + (t + 1) * 104729).fmod 998244353 + (t + 1) * 17) (q := 2147483647) (B := 31) (by decide) (by decide)
        walk_at "D"
        refine ⟨_, rfl, ?_⟩
        walk_at "D"
        refine ⟨_, 16, rfl, rfl, div_ok (bits_mono b2.2 (by decide)) (by decide), ?_⟩
        walk_at "D"
        refine .inl ⟨_, rfl, ?_⟩
        walk_at "D"
        refine ⟨_, rfl, ?_⟩
        walk_at "D"
        refine ⟨_, n, rfl, rfl, by omega, ?_⟩
        exact fin st2 (by omega) (by omega) (Int.fmod_nonneg_of_pos _ (by omega)) (Int.lt_of_lt_of_le (Int.fmod_lt_of_pos _ (show 0 < n by omega)) (Int.le_max_left ..))
  · refine iteF ?_
    walk_at "D"
    refine ⟨_, rfl, ?_⟩
    walk_at "D"
    refine ⟨_, _, rfl, st.left, ?_⟩
    walk_at "D"
    refine ⟨_, rfl, ?_⟩
    walk_at "D"
    refine ⟨l, 1, rfl, rfl, ?_⟩
    walk_at "D"
    refine ⟨_, rfl, ?_⟩
    refine ite2 (fun y => ?_) (fun y => ?_)
    · walk_at "D"
      refine ⟨_, rfl, ?_⟩
      walk_at "D"
      refine ⟨_, rfl, ?_⟩
      walk_at "D"
      refine ⟨l, n, rfl, rfl, div_small (by omega) hn, ?_⟩
      walk_at "D"
      refine ⟨_, rfl, ?_⟩
      walk_at "D"
      refine ⟨_, _, rfl, (st.putLeft hne _).1, ?_⟩
      walk_at "D"
      refine ⟨_, rfl, ?_⟩
      walk_at "D"
      refine .inl ⟨l, rfl, ?_⟩
      walk_at "D"
      refine ⟨_, rfl, ?_⟩
      walk_at "D"
      refine ⟨l, n, rfl, rfl, by omega, ?_⟩
      exact fin (st.putLeft hne _).2 h7 h8 (Int.fmod_nonneg_of_pos _ (by omega)) (by have := Int.fmod_lt_of_pos l (show 0 < n by omega); omega)
    · have st2 := (st.putTurn hne (t + 1)).2
      have hcm : (t + 1).natAbs < 2 ^ 64 := Nat.lt_of_le_of_lt (m := 2000000) (by omega) (by decide)
      walk_at "D"
      refine ⟨_, rfl, ?_⟩
      walk_at "D"
      refine ⟨_, _, rfl, st.turn, ?_⟩
      walk_at "D"
      refine ⟨t, 1, rfl, rfl, ?_⟩
      walk_at "D"
      refine ⟨_, rfl, ?_⟩
      walk_at "D"
      refine ⟨_, _, rfl, (st.putTurn hne (t + 1)).1, ?_⟩
      walk_at "D"
      refine ⟨_, rfl, ?_⟩
      walk_at "D"
      refine ⟨_, _, rfl, st2.turn, ?_⟩
      walk_at "D"
      refine ⟨_, rfl, ?_⟩
      walk_at "D"
      refine ⟨_, _, rfl, st2.mixed, ?_⟩
      walk_at "D"
      refine ⟨_, rfl, ?_⟩
      walk_at "D"
      refine ⟨t + 1, 104729, rfl, rfl, cm_of (b := 20) hcm (by decide) (by decide), ?_⟩
      walk_at "D"
      refine ⟨_, _, rfl, rfl, ?_⟩
      walk_at "D"
      refine .inl ⟨_, rfl, ?_⟩
      walk_at "D"
      refine ⟨_, 998244353, rfl, rfl, show (998244353 : Int) ≠ 0 by decide, ?_⟩
      have b1 := fmod_bits (x := m + (t + 1) * 104729) (q := 998244353) (B := 30) (by decide) (by decide)
      walk_at "D"
      refine ⟨_, rfl, ?_⟩
      walk_at "D"
      refine ⟨_, rfl, ?_⟩
      walk_at "D"
      refine ⟨_, _, rfl, rfl, cm_of b1.2 b1.2 (by decide), ?_⟩
      walk_at "D"
      refine ⟨_, rfl, ?_⟩
      walk_at "D"
      refine ⟨t + 1, 17, rfl, rfl, cm_of (b := 20) hcm (by decide) (by decide), ?_⟩
      walk_at "D"
      refine ⟨_, _, rfl, rfl, ?_⟩
      walk_at "D"
      refine .inl ⟨_, rfl, ?_⟩
      walk_at "D"
      refine ⟨_, 2147483647, rfl, rfl, show (2147483647 : Int) ≠ 0 by decide, ?_⟩
      have b2 := fmod_bits (x := (m + (t + 1) * 104729).fmod 998244353 * (m + (t + 1) * 104729).fmod 998244353 + (t + 1) * 17) (q := 2147483647) (B := 31) (by decide) (by decide)
      walk_at "D"
      refine ⟨_, rfl, ?_⟩
      walk_at "D"
      refine ⟨_, 16, rfl, rfl, div_ok (bits_mono b2.2 (by decide)) (by decide), ?_⟩
      walk_at "D"
      refine .inl ⟨_, rfl, ?_⟩
      walk_at "D"
      refine ⟨_, rfl, ?_⟩
      walk_at "D"
      refine ⟨_, n, rfl, rfl, by omega, ?_⟩
      exact fin st2 (by omega) (by omega) (Int.fmod_nonneg_of_pos _ (by omega)) (Int.lt_of_lt_of_le (Int.fmod_lt_of_pos _ (show 0 < n by omega)) (Int.le_max_left ..))
end
end K45


set_option Elab.async false
set_option linter.all false
set_option maxRecDepth 100000
set_option maxHeartbeats 4000000
namespace K45
open PySem L2 Dat
local macro_rules | `(tactic| walk_at "D") => `(tactic| (conv => whnf))
def spO (K : PySem.W.Frag) : Sp := fun vs H Q _ => ∃ (a : Addr) (ns : List Int), vs = [.ref a] ∧ SqL K H a (ns.map V.int) ∧ ns.length ≤ 63 ∧ (∀ z ∈ ns, Builtin.Int.intBits z ≤ 1048576) ∧
  ∀ (H' : Hp) (p c : Addr) (cs : List Int) (l m : Int), Same H H' → H p = none → H c = none → p ≠ c → H' p = some (srcDict c l m 0) → H' c = some (.lst (cs.map V.int)) → cs.length ≤ 63 → Q (.ref p) H'
section
variable {P : Program} {w : World} {K : PySem.W.Frag} {mg : Str → Option Value} {base : Heap}
abbrev N_law_open_cells : List Str := ["script", "stirred", "cells", "cell"]
theorem sc_law_open_cells : FnScope N_law_open_cells ["script"] (defScope st_law_open_cells) := ⟨rfl, rfl, rfl, by decide +kernel, rfl, by decide +kernel, by decide +kernel⟩
theorem ok_law_open_cells {f : Addr} {fd : FuncData} {k : Nat} (F : Fun K "_law_open_cells" "_law_open_cells" st_law_open_cells f fd) (mi : mg "int" = none) (ma : mg "abs" = none) : FnOk P w K mg base CX0 (k + 1) f fd ["script"] (spO K) := by
  refine F.ok sc_law_open_cells (fun vs H Q E h => ?_) fun cdv A outer s H vs Q E hr h => ?_
  · obtain ⟨a, ns, rfl, _⟩ := h
    rfl
  refine ⟨_, pss_cons (ps_set (i := 1) sc_law_open_cells.nd rfl (.inl rfl) pe_int)
    (pss_cons (ps_for PassesOwn.never rfl (pi_list (pv 0)) (pg_name (i := 3) sc_law_open_cells.nd rfl (.inl rfl)) (pss_one (ps_set (i := 1) sc_law_open_cells.nd rfl (.inl rfl)
      (pe_op op_modN (pe_callTy call_int1 (by rfl) mi PyProof.Rows.boot_int (pa_cons (pe_op op_add (pe_op op_add (pe_op op_mulX (pv 1) pe_int) (pe_op op_mulX (pv 3) pe_int)) pe_int) pa_nil)) pe_int))))
    (pss_cons (ps_setLc (i := 2) (own := [("cell", 3)]) rfl sc_law_open_cells.nd rfl rfl (sw_true rfl rfl rfl (by decide +kernel)) (pi_list (pv 0)) (blkOk_by (N := N_law_open_cells) (sc := defScope st_law_open_cells) (own := [("cell", 3)]) (by decide +kernel))
      (fun _ _ _ _ _ => pg_name (i := 3) sc_law_open_cells.nd rfl (.inl rfl)) (fun _ _ _ _ _ => pts_nil) (fun _ _ _ _ _ => pe_callB call_abs (by rfl) ma PyProof.Rows.boot_abs (pa_cons (pv 3) pa_nil)))
    (pss_one (ps_ret (pe_disp (pps_cons pe_str (pe_revL (pv 2)) (pps_cons pe_str pe_int (pps_cons pe_str (pv 1) (pps_cons pe_str pe_int pps_nil)))) rfl rfl (by simp) (by decide)))))), ?_⟩
  obtain ⟨a, ns, rfl, hS, hl, hb, q⟩ := h
  walk_at "D"
  refine ⟨_, rfl, ?_⟩
  walk_at "D"
  refine ⟨a, rfl, ⟨_, hS⟩, ?_⟩
  refine for_list (fun i σ H' => ∃ z x, σ = [some (.ref a), some (.int z), none, x] ∧ z.natAbs < 2 ^ 40 ∧ H' = H) ⟨11, none, rfl, by decide, rfl⟩ (fun i σ H' _ ⟨_, _, _, _, e⟩ => by rw [e]; exact hS) (fun i x σ H' hx ⟨z, y, e1, hz, e2⟩ => ?_) fun σ H' ⟨z, y, e1, hz, e2⟩ => ?_
  · subst e1 e2
    rw [List.getElem?_map] at hx
    obtain ⟨n, hn, rfl⟩ := Option.map_eq_some_iff.mp hx
    have hnb := PySem.intBits_le_iff.mp (hb n (List.mem_of_getElem? hn))
    walk_at "D"
    refine ⟨_, rfl, ?_⟩
    walk_at "D"
    refine ⟨z, 69069, rfl, rfl, cm_of (b := 20) hz (by decide) (by decide), ?_⟩
    walk_at "D"
    refine ⟨_, rfl, ?_⟩
    walk_at "D"
    refine ⟨n, 31, rfl, rfl, cm_of (b := 5) hnb (by decide) (by decide), ?_⟩
    walk_at "D"
    refine ⟨_, _, rfl, rfl, ?_⟩
    walk_at "D"
    refine ⟨_, _, rfl, rfl, ?_⟩
    walk_at "D"
    refine .inl ⟨_, rfl, ?_⟩
    walk_at "D"
    refine ⟨_, 2147483629, rfl, rfl, show (2147483629 : Int) ≠ 0 by decide, ?_⟩
    have b2 := fmod_bits (x := z * 69069 + n * 31 + 5) (q := 2147483629) (B := 31) (by decide) (by decide)
    exact ⟨_, _, rfl, bits_mono b2.2 (by decide), rfl⟩
  · subst e1 e2
    walk_at "D"
    refine ⟨_, rfl, ?_⟩
    walk_at "D"
    refine ⟨a, rfl, ⟨_, hS⟩, fun D hD => ?_⟩
    have hS' : ∀ {H2 : Hp}, Same H' H2 → SqL K H2 a (ns.map V.int) := fun e => e.seq hS
    refine lc_list (xs := ns.map V.int) (fun i H2 => ∃ acc : List Int, acc.length = i ∧ i ≤ ns.length ∧ Same H' H2 ∧ H2 D = some (.lst (acc.map V.int))) ⟨[], rfl, Nat.zero_le _, (Nst.lay (Same.refl H') hD).hxt, upd_same⟩ (fun i H2 _ ⟨_, _, _, e, _⟩ => hS' e) (fun i x H2 hx ⟨acc, e1, e2, e3, e4⟩ => ?_) fun H2 ⟨acc, e1, e2, e3, e4⟩ => ?_
    · rw [List.getElem?_map] at hx
      obtain ⟨n, hn, rfl⟩ := Option.map_eq_some_iff.mp hx
      have hi := (List.getElem?_eq_some_iff.mp hn).1
      walk_at "D"
      refine ⟨rfl, ?_⟩
      walk_at "D"
      refine ⟨_, rfl, ?_⟩
      walk_at "D"
      refine ⟨n, rfl, ?_⟩
      have hDS : SqL K H2 a (ns.map V.int) := hS' e3
      have aD : ∀ {b : Addr} {o : HO}, H' b = some o → b ≠ D := fun e => ne_of_none e hD
      refine ⟨_, e4, Nat.lt_of_le_of_lt (m := 63) (by rw [List.length_map]; omega) (by decide), acc ++ [if n < 0 then -n else n], by rw [List.length_append, e1]; rfl, by omega, fun b o e => ?_, ?_⟩
      · rw [upd_ne (aD e)]; exact e3 b o e
      · rw [upd_same, List.map_append]; rfl
    · rw [List.length_map] at e1
      walk_at "D"
      intro p hp
      walk_at "D"
      have hDp : D ≠ p := fun z => by rw [← z, e4] at hp; cases hp
      have eD : (upd H2 p (.dK [])) D = some (.lst (acc.map V.int)) := by rw [upd_ne hDp]; exact e4
      refine ⟨_, rfl, D, _, rfl, .of eD, fun c hc => ?_⟩
      have hcp : p ≠ c := fun z => by rw [← z, upd_same] at hc; cases hc
      have hc2 : H2 c = none := by rwa [upd_ne (Ne.symm hcp)] at hc
      walk_at "D"
      refine ⟨_, rfl, ?_⟩
      walk_at "D"
      refine ⟨by rw [upd_ne hcp, upd_same], [(Sum.inr kCells, .ref c), (Sum.inr kLeft, .int 1), (Sum.inr kMixed, .int z), (Sum.inr kTurn, .int 0)], rfl, show 4 ≤ 15 by decide, ?_⟩
      refine q _ p c acc.reverse 1 z (fun b o e => ?_) (e3.free hp) (e3.free hc2) hcp upd_same ?_ (by rw [List.length_reverse]; omega)
      · have h2 := e3 b o e
        rw [upd_ne (ne_of_none h2 hp), upd_ne (ne_of_none h2 hc2), upd_ne (ne_of_none h2 hp)]; exact h2
      · rw [upd_ne (Ne.symm hcp), upd_same, List.map_reverse]
end
end K45


set_option Elab.async false
set_option linter.all false
set_option maxRecDepth 100000
set_option maxHeartbeats 4000000
namespace K45
open PySem L2 Dat
/-! ### sums -/
def sumN (f : Nat → Rat) : Nat → Rat
  | 0 => 0
  | n + 1 => sumN f n + f n
theorem sumN_congr {f g : Nat → Rat} : ∀ {n : Nat}, (∀ j, j < n → f j = g j) → sumN f n = sumN g n
  | 0, _ => rfl
  | n + 1, h => by
    unfold sumN
    rw [sumN_congr fun j hj => h j (by omega), h n (by omega)]
theorem sumN_add (f g : Nat → Rat) : ∀ n : Nat, sumN (fun j => f j + g j) n = sumN f n + sumN g n
  | 0 => by unfold sumN; grind
  | n + 1 => by
    have := sumN_add f g n
    unfold sumN
    grind
theorem sumN_mul (a : Rat) (f : Nat → Rat) : ∀ n : Nat, sumN (fun j => a * f j) n = a * sumN f n
  | 0 => by unfold sumN; grind
  | n + 1 => by
    have := sumN_mul a f n
    unfold sumN
    grind
theorem sumN_zero {f : Nat → Rat} : ∀ {n : Nat}, (∀ j, j < n → f j = 0) → sumN f n = 0
  | 0, _ => rfl
  | n + 1, h => by
    unfold sumN
    rw [sumN_zero fun j hj => h j (by omega), h n (by omega)]
    grind
theorem sumN_one {f : Nat → Rat} {c : Nat} : ∀ {n : Nat}, c < n → (∀ j, j < n → j ≠ c → f j = 0) → sumN f n = f c
  | 0, h, _ => absurd h (Nat.not_lt_zero _)
  | n + 1, h, hz => by
    unfold sumN
    by_cases e : c = n
    · subst e
      rw [sumN_zero fun j hj => hz j (by omega) (by omega)]
      grind
    · rw [sumN_one (by omega) fun j hj hne => hz j (by omega) hne, hz n (by omega) (Ne.symm e)]
      grind
/-! ### lines -/
def Eqn (m : Nat) (x : Nat → Rat) (l : List Rat) : Prop := sumN (fun j => x j * l.getD j 0) m = l.getD m 0
def Sol (m : Nat) (x : Nat → Rat) (ls : List (List Rat)) : Prop := ∀ l ∈ ls, Eqn m x l
theorem getD_map {α β : Type} {f : α → β} {l : List α} {i : Nat} {a : α} {b : β} (h : i < l.length) : (l.map f).getD i b = f (l.getD i a) := by
  rw [List.getD_eq_getElem?_getD, List.getElem?_map, List.getD_eq_getElem?_getD, List.getElem?_eq_getElem h]; rfl
theorem getD_out {α : Type} {l : List α} {i : Nat} {a : α} (h : ¬i < l.length) : l.getD i a = a := by
  rw [List.getD_eq_getElem?_getD, List.getElem?_eq_none (by omega)]; rfl
theorem getD_div (l : List Rat) (b : Rat) (i : Nat) : (l.map (· / b)).getD i 0 = l.getD i 0 / b := by
  by_cases h : i < l.length
  · rw [getD_map (a := 0) h]
  · rw [getD_out (by rw [List.length_map]; exact h), getD_out h]; grind
theorem getD_less {l fl : List Rat} (c : Rat) (hl : l.length = fl.length) (i : Nat) : ((l.zip fl).map fun q => q.1 - c * q.2).getD i 0 = l.getD i 0 - c * fl.getD i 0 := by
  by_cases h : i < l.length
  · rw [getD_map (a := (0, 0)) (by rw [List.length_zip]; omega)]
    have : (l.zip fl).getD i (0, 0) = (l.getD i 0, fl.getD i 0) := by
      rw [List.getD_eq_getElem?_getD, List.getD_eq_getElem?_getD, List.getD_eq_getElem?_getD, List.getElem?_eq_getElem h, List.getElem?_eq_getElem (show i < fl.length by omega), List.getElem?_eq_getElem (by rw [List.length_zip]; omega)]
      simp
    rw [this]
  · rw [getD_out (by rw [List.length_map, List.length_zip]; omega), getD_out h, getD_out (by omega)]; grind
theorem eqn_div {m : Nat} {x : Nat → Rat} {l : List Rat} {b : Rat} (hb : b ≠ 0) : Eqn m x (l.map (· / b)) ↔ Eqn m x l := by
  unfold Eqn
  rw [getD_div, sumN_congr (g := fun j => (1 / b) * (x j * l.getD j 0)) (fun j _ => by rw [getD_div]; grind), sumN_mul]
  constructor
  · intro h; grind
  · intro h; rw [h]; grind
theorem eqn_less {m : Nat} {x : Nat → Rat} {l fl : List Rat} (c : Rat) (hl : l.length = fl.length) (hf : Eqn m x fl) : Eqn m x ((l.zip fl).map fun q => q.1 - c * q.2) ↔ Eqn m x l := by
  unfold Eqn at *
  rw [getD_less c hl, sumN_congr (g := fun j => x j * l.getD j 0 + (-c) * (x j * fl.getD j 0)) (fun j _ => by rw [getD_less c hl]; grind), sumN_add, sumN_mul, hf]
  constructor
  · intro h; grind
  · intro h; grind
theorem late_get {ls : List (List Rat)} {i c k : Nat} (hk : k < ls.length) : (lateL ls i c).getD k [] = if k = i then firstL ls i c else ((ls.getD k []).zip (firstL ls i c)).map fun q => q.1 - (ls.getD k []).getD c 0 * q.2 := by
  unfold lateL
  rw [getD_map (a := ([], 0)) (by rw [List.length_zipIdx]; exact hk)]
  have : ls.zipIdx.getD k ([], 0) = (ls.getD k [], k) := by
    rw [List.getD_eq_getElem?_getD, List.getElem?_zipIdx, List.getD_eq_getElem?_getD, List.getElem?_eq_getElem hk]; simp
  rw [this]
theorem late_len {ls : List (List Rat)} {i c : Nat} : (lateL ls i c).length = ls.length := by simp [lateL]
def Sol' (m : Nat) (x : Nat → Rat) (ls : List (List Rat)) : Prop := ∀ k, k < ls.length → Eqn m x (ls.getD k [])
def LenOk (len : Nat) (ls : List (List Rat)) : Prop := ∀ k, k < ls.length → (ls.getD k []).length = len
theorem first_len {len : Nat} {ls : List (List Rat)} {i c : Nat} (h : LenOk len ls) (hi : i < ls.length) : (firstL ls i c).length = len := by
  unfold firstL; rw [List.length_map]; exact h i hi
theorem late_lenOk {len : Nat} {ls : List (List Rat)} {i c : Nat} (h : LenOk len ls) (hi : i < ls.length) : LenOk len (lateL ls i c) := by
  intro k hk
  rw [late_len] at hk
  rw [late_get hk]
  split
  · exact first_len h hi
  · rw [List.length_map, List.length_zip, h k hk, first_len h hi, Nat.min_self]
theorem late_sol {m len : Nat} {x : Nat → Rat} {ls : List (List Rat)} {i c : Nat} (h : LenOk len ls) (hi : i < ls.length) (hb : (ls.getD i []).getD c 0 ≠ 0) : Sol' m x (lateL ls i c) ↔ Sol' m x ls := by
  have key : ∀ k, k < ls.length → k ≠ i → Eqn m x (firstL ls i c) → (Eqn m x ((lateL ls i c).getD k []) ↔ Eqn m x (ls.getD k [])) := fun k hk hne hf => by
    rw [late_get hk, if_neg hne]
    exact eqn_less _ (by rw [h k hk, first_len h hi]) hf
  constructor
  · intro s k hk
    have hf : Eqn m x (firstL ls i c) := by
      have := s i (by rw [late_len]; exact hi)
      rwa [late_get hi, if_pos rfl] at this
    by_cases e : k = i
    · subst e; exact (eqn_div hb).mp hf
    · exact (key k hk e hf).mp (s k (by rw [late_len]; exact hk))
  · intro s k hk
    rw [late_len] at hk
    have hf : Eqn m x (firstL ls i c) := (eqn_div hb).mpr (s i hi)
    by_cases e : k = i
    · subst e; rw [late_get hk, if_pos rfl]; exact hf
    · exact (key k hk e hf).mpr (s k hk)
end K45


set_option Elab.async false
set_option linter.all false
set_option maxRecDepth 100000
set_option maxHeartbeats 4000000
namespace K45
open PySem L2 Dat
structure Piv (c : Nat) (ls : List (List Rat)) (places : List (Nat × Nat)) : Prop where
  one : ∀ p ∈ places, p.1 < ls.length ∧ p.2 < c ∧ (ls.getD p.1 []).getD p.2 0 = 1 ∧ ∀ k, k < ls.length → k ≠ p.1 → (ls.getD k []).getD p.2 0 = 0
  zero : ∀ k, k < ls.length → k ∉ places.map (·.1) → ∀ j, j < c → (ls.getD k []).getD j 0 = 0
  dist : ∀ p ∈ places, ∀ q ∈ places, p.1 = q.1 → p = q
theorem Piv.col {c : Nat} {ls : List (List Rat)} {places : List (Nat × Nat)} (h : Piv c ls places) : ∀ p ∈ places, ∀ q ∈ places, p.2 = q.2 → p = q := by
  intro p hp q hq e
  by_cases e1 : p.1 = q.1
  · exact h.dist p hp q hq e1
  · obtain ⟨h1, _, h2, _⟩ := h.one p hp
    obtain ⟨_, _, _, h3⟩ := h.one q hq
    have := h3 p.1 h1 e1
    rw [← e, h2] at this
    exact absurd this (by decide)
theorem some1_nil {ls : List (List Rat)} {u : List Nat} {c : Nat} (h : some1 ls u c = []) {k : Nat} (hk : k < ls.length) (hu : k ∉ u) : (ls.getD k []).getD c 0 = 0 := by
  unfold some1 at h
  rw [List.map_eq_nil_iff, List.filter_eq_nil_iff] at h
  have hm : (ls.getD k [], k) ∈ ls.zipIdx := by
    rw [List.mem_iff_getElem?]
    refine ⟨k, ?_⟩
    rw [List.getElem?_zipIdx, List.getD_eq_getElem?_getD, List.getElem?_eq_getElem hk]; simp
  have := h _ hm
  simp only [Bool.and_eq_true, bne_iff_ne, Bool.not_eq_true', List.contains_eq_mem, decide_eq_false_iff_not, not_and] at this
  exact Classical.byContradiction fun z => this z hu
theorem Piv.skip {c : Nat} {ls : List (List Rat)} {places : List (Nat × Nat)} (h : Piv c ls places) (hs : some1 ls (places.map (·.1)) c = []) : Piv (c + 1) ls places :=
  ⟨fun p hp => by obtain ⟨h1, h2, h3⟩ := h.one p hp; exact ⟨h1, by omega, h3⟩, fun k hk hu j hj => by
    by_cases e : j = c
    · subst e; exact some1_nil hs hk hu
    · exact h.zero k hk hu j (by omega), h.dist⟩
theorem first_get (ls : List (List Rat)) (i c j : Nat) : (firstL ls i c).getD j 0 = (ls.getD i []).getD j 0 / (ls.getD i []).getD c 0 := getD_div _ _ _
theorem Piv.take {len c i : Nat} {ls : List (List Rat)} {places : List (Nat × Nat)} (h : Piv c ls places) (hl : LenOk len ls) (hi : i < ls.length) (hb : (ls.getD i []).getD c 0 ≠ 0) (hu : i ∉ places.map (·.1)) : Piv (c + 1) (lateL ls i c) (places ++ [(i, c)]) := by
  have fl0 : ∀ j, j < c → (firstL ls i c).getD j 0 = 0 := fun j hj => by
    rw [first_get, h.zero i hi hu j hj]; grind
  have fl1 : (firstL ls i c).getD c 0 = 1 := by
    rw [first_get]; grind
  have get : ∀ k, k < ls.length → k ≠ i → ∀ j, ((lateL ls i c).getD k []).getD j 0 = (ls.getD k []).getD j 0 - (ls.getD k []).getD c 0 * (firstL ls i c).getD j 0 := fun k hk hne j => by
    rw [late_get hk, if_neg hne, getD_less _ (by rw [hl k hk, first_len hl hi])]
  have geti : ∀ j, ((lateL ls i c).getD i []).getD j 0 = (firstL ls i c).getD j 0 := fun j => by rw [late_get hi, if_pos rfl]
  refine ⟨fun p hp => ?_, fun k hk hu2 j hj => ?_, fun p hp q hq e => ?_⟩
  · rw [late_len]
    rcases List.mem_append.mp hp with hp | hp
    · obtain ⟨h1, h2, h3, h4⟩ := h.one p hp
      have hne : p.1 ≠ i := fun z => hu (List.mem_map.mpr ⟨p, hp, z⟩)
      refine ⟨h1, by omega, ?_, fun k hk hk2 => ?_⟩
      · rw [get p.1 h1 hne, h3, fl0 p.2 h2]; grind
      · by_cases e : k = i
        · subst e; rw [geti]; exact fl0 p.2 h2
        · rw [get k hk e, h4 k hk hk2, fl0 p.2 h2]; grind
    · rw [List.mem_singleton] at hp
      subst hp
      refine ⟨hi, Nat.lt_succ_self c, by rw [geti]; exact fl1, fun k hk hk2 => ?_⟩
      show ((lateL ls i c).getD k []).getD c 0 = 0
      rw [get k hk hk2, fl1]; grind
  · rw [late_len] at hk
    have hu3 : k ∉ places.map (·.1) := fun z => hu2 (by rw [List.map_append]; exact List.mem_append_left _ z)
    have hne : k ≠ i := fun z => hu2 (by rw [List.map_append]; exact List.mem_append_right _ (by simp [z]))
    rw [get k hk hne]
    by_cases e : j = c
    · subst e; rw [fl1]; grind
    · rw [h.zero k hk hu3 j (by omega), fl0 j (by omega)]; grind
  · rcases List.mem_append.mp hp with hp | hp
    · rcases List.mem_append.mp hq with hq | hq
      · exact h.dist p hp q hq e
      · rw [List.mem_singleton] at hq
        subst hq
        exact absurd (List.mem_map.mpr ⟨p, hp, e⟩) hu
    · rw [List.mem_singleton] at hp
      subst hp
      rcases List.mem_append.mp hq with hq | hq
      · exact absurd (List.mem_map.mpr ⟨q, hq, e.symm⟩) hu
      · rw [List.mem_singleton] at hq
        exact hq.symm
theorem solGo_ok {len m : Nat} : ∀ (n c : Nat) (ls : List (List Rat)) (places : List (Nat × Nat)), c + n = m → LenOk len ls → Piv c ls places →
    LenOk len (solGo (List.range' c n) ls places).1 ∧ (solGo (List.range' c n) ls places).1.length = ls.length ∧ Piv m (solGo (List.range' c n) ls places).1 (solGo (List.range' c n) ls places).2 ∧ ∀ x, Sol' m x (solGo (List.range' c n) ls places).1 ↔ Sol' m x ls
  | 0, c, ls, places, e, hl, hp => by
    have : c = m := by omega
    subst this
    exact ⟨hl, rfl, hp, fun x => Iff.rfl⟩
  | n + 1, c, ls, places, e, hl, hp => by
    rw [List.range'_succ]
    have hg : solGo (c :: List.range' (c + 1) n) ls places = match some1 ls (places.map (·.1)) c with
      | [] => solGo (List.range' (c + 1) n) ls places
      | i :: _ => solGo (List.range' (c + 1) n) (lateL ls i c) (places ++ [(i, c)]) := rfl
    rw [hg]
    cases hs : some1 ls (places.map (·.1)) c with
    | nil => exact solGo_ok (m := m) n (c + 1) ls places (by omega) hl (hp.skip hs)
    | cons i rest =>
      obtain ⟨h1, h2, h3⟩ := some1_lt (show i ∈ some1 ls (places.map (·.1)) c by rw [hs]; exact List.mem_cons_self ..)
      obtain ⟨a1, a2, a3, a4⟩ := solGo_ok (m := m) n (c + 1) (lateL ls i c) (places ++ [(i, c)]) (by omega) (late_lenOk hl h1) (hp.take hl h1 h2 h3)
      exact ⟨a1, by rw [a2, late_len], a3, fun x => (a4 x).trans (late_sol hl h1 h2)⟩
theorem found_get {m : Nat} {ls : List (List Rat)} : ∀ (places : List (Nat × Nat)) (f : List Rat), (∀ p ∈ places, p.2 < f.length) → (∀ p ∈ places, ∀ q ∈ places, p.2 = q.2 → p = q) →
    (foundL m ls places f).length = f.length ∧ (∀ p ∈ places, (foundL m ls places f).getD p.2 0 = (ls.getD p.1 []).getD m 0) ∧ ∀ j, (∀ p ∈ places, p.2 ≠ j) → (foundL m ls places f).getD j 0 = f.getD j 0
  | [], f, _, _ => ⟨rfl, by simp, fun _ _ => rfl⟩
  | (i, c) :: r, f, h1, h2 => by
    have hc : c < f.length := h1 (i, c) (List.mem_cons_self ..)
    obtain ⟨a1, a2, a3⟩ := found_get r (f.set c ((ls.getD i []).getD m 0)) (fun p hp => by rw [List.length_set]; exact h1 p (List.mem_cons_of_mem _ hp)) fun p hp q hq => h2 p (List.mem_cons_of_mem _ hp) q (List.mem_cons_of_mem _ hq)
    have setc : (f.set c ((ls.getD i []).getD m 0)).getD c 0 = (ls.getD i []).getD m 0 := by
      rw [List.getD_eq_getElem?_getD, List.getElem?_set_self hc]; rfl
    refine ⟨by show (foundL m ls r _).length = _; rw [a1, List.length_set], fun p hp => ?_, fun j hj => ?_⟩
    · show (foundL m ls r _).getD p.2 0 = _
      by_cases hr : p ∈ r
      · exact a2 p hr
      · have hp2 : p = (i, c) := by
          rcases List.mem_cons.mp hp with z | z
          · exact z
          · exact absurd z hr
        subst hp2
        rw [a3 c fun q hq e => hr (by rw [h2 (i, c) (List.mem_cons_self ..) q (List.mem_cons_of_mem _ hq) e.symm]; exact hq), setc]
    · show (foundL m ls r _).getD j 0 = _
      have hne : c ≠ j := hj (i, c) (List.mem_cons_self ..)
      rw [a3 j fun q hq => hj q (List.mem_cons_of_mem _ hq), List.getD_eq_getElem?_getD, List.getElem?_set_ne hne, List.getD_eq_getElem?_getD]
def fOf (f : List Rat) : Nat → Rat := fun j => f.getD j 0
/-- the law's elimination: a solution, or none -/
theorem solved_ok {lines : List (List Int)} {m : Nat} (hl : ∀ l ∈ lines, l.length = m + 1) : match solved lines m with
    | some f => f.length = m ∧ Sol' m (fOf f) (lines.map fun l => l.map fun (x : Int) => (x : Rat))
    | none => ∀ x, ¬Sol' m x (lines.map fun l => l.map fun (x : Int) => (x : Rat)) := by
  have hlen : LenOk (m + 1) (lines.map fun l => l.map fun (x : Int) => (x : Rat)) := fun k hk => by
    rw [List.length_map] at hk
    rw [getD_map (a := []) hk, List.length_map]
    exact hl _ (by rw [List.getD_eq_getElem?_getD, List.getElem?_eq_getElem hk]; exact List.getElem_mem hk)
  obtain ⟨a1, a2, a3, a4⟩ := solGo_ok (len := m + 1) (m := m) m 0 (lines.map fun l => l.map fun (x : Int) => (x : Rat)) [] (by omega) hlen ⟨by simp, fun _ _ _ j hj => absurd hj (Nat.not_lt_zero _), by simp⟩
  rw [← List.range_eq_range'] at a1 a2 a3 a4
  unfold solved
  revert a1 a2 a3 a4
  generalize solGo (List.range m) (lines.map fun l => l.map fun (x : Int) => (x : Rat)) [] = pr
  intro a1 a2 a3 a4
  obtain ⟨ls, places⟩ := pr
  simp only at a1 a2 a3 a4 ⊢
  by_cases hf : (ls.zipIdx.filter fun q => !(places.map (·.1)).contains q.2 && q.1.getD m 0 != 0) = []
  · rw [if_pos hf]
    obtain ⟨b1, b2, b3⟩ := found_get (m := m) (ls := ls) places (List.replicate m 0) (fun p hp => by rw [List.length_replicate]; exact (a3.one p hp).2.1) a3.col
    rw [List.length_replicate] at b1
    refine ⟨b1, (a4 _).mp fun k hk => ?_⟩
    have other : ∀ j, (∀ p ∈ places, p.2 ≠ j) → fOf (foundL m ls places (List.replicate m 0)) j = 0 := fun j hj => by
      unfold fOf
      rw [b3 j hj, List.getD_eq_getElem?_getD, List.getElem?_replicate]
      split <;> rfl
    unfold Eqn
    by_cases hu : k ∈ places.map (·.1)
    · obtain ⟨p, hp, rfl⟩ := List.mem_map.mp hu
      obtain ⟨c1, c2, c3, c4⟩ := a3.one p hp
      rw [sumN_one (c := p.2) c2 fun j hj hne => ?_]
      · show fOf _ p.2 * _ = _
        rw [show fOf (foundL m ls places (List.replicate m 0)) p.2 = _ from b2 p hp, c3]; grind
      · by_cases hq : ∃ q ∈ places, q.2 = j
        · obtain ⟨q, hq, rfl⟩ := hq
          have hne2 : p.1 ≠ q.1 := fun z => hne (by rw [a3.dist p hp q hq z])
          rw [(a3.one q hq).2.2.2 p.1 c1 hne2]; grind
        · rw [other j fun q hq2 z => hq ⟨q, hq2, z⟩]; grind
    · have hz : (ls.getD k []).getD m 0 = 0 := by
        rw [List.filter_eq_nil_iff] at hf
        have hm : (ls.getD k [], k) ∈ ls.zipIdx := by
          rw [List.mem_iff_getElem?]
          refine ⟨k, ?_⟩
          rw [List.getElem?_zipIdx, List.getD_eq_getElem?_getD, List.getElem?_eq_getElem hk]; simp
        have := hf _ hm
        simp only [Bool.and_eq_true, bne_iff_ne, Bool.not_eq_true', List.contains_eq_mem, decide_eq_false_iff_not, not_and] at this
        exact Classical.byContradiction fun z => this hu z
      rw [hz]
      exact sumN_zero fun j hj => by rw [a3.zero k hk hu j hj]; grind
  · rw [if_neg hf]
    intro x hx
    have hx := (a4 x).mpr hx
    obtain ⟨q, hq⟩ := List.exists_mem_of_ne_nil _ hf
    obtain ⟨h1, h2⟩ := List.mem_filter.mp hq
    have h3 := List.mem_zipIdx' h1
    simp only [Bool.and_eq_true, bne_iff_ne, Bool.not_eq_true', List.contains_eq_mem, decide_eq_false_iff_not] at h2
    have hk : ls.getD q.2 [] = q.1 := by rw [List.getD_eq_getElem?_getD, List.getElem?_eq_getElem h3.1]; exact h3.2.symm
    have e := hx q.2 h3.1
    unfold Eqn at e
    rw [sumN_zero fun j hj => by rw [a3.zero q.2 h3.1 h2.1 j hj]; grind, hk] at e
    exact h2.2 e.symm
end K45


set_option Elab.async false
set_option linter.all false
set_option maxRecDepth 100000
set_option maxHeartbeats 4000000
namespace K45
open PySem L2 Dat
/-! ### the law's bits: one common denominator -/
def Den (B : Nat) (ls : List (List Rat)) : Prop := ∃ D : Int, D ≠ 0 ∧ D.natAbs < 2 ^ B ∧ ∀ l ∈ ls, ∀ e ∈ l, ∃ z : Int, e * (D : Rat) = (z : Rat) ∧ z.natAbs < 2 ^ B
theorem den_qb {B : Nat} {D z : Int} {e : Rat} (h0 : D ≠ 0) (hD : D.natAbs < 2 ^ B) (h : e * (D : Rat) = (z : Rat)) (hz : z.natAbs < 2 ^ B) : QB B e := by
  have hd : (D : Rat) ≠ 0 := fun y => h0 (Rat.intCast_eq_zero_iff.mp y)
  have : e = Rat.divInt z D := by
    rw [Rat.divInt_eq_div]; grind
  rw [this]
  exact bits_divInt h0 hz hD
theorem den_mono {B C : Nat} {ls : List (List Rat)} (h : Den B ls) (hBC : B ≤ C) : Den C ls := by
  obtain ⟨D, h0, h1, h2⟩ := h
  exact ⟨D, h0, bits_mono h1 hBC, fun l hl e he => by obtain ⟨z, a, b⟩ := h2 l hl e he; exact ⟨z, a, bits_mono b hBC⟩⟩
theorem late_den {B len i c : Nat} {ls : List (List Rat)} (h : Den B ls) (hl : LenOk len ls) (hi : i < ls.length) (hc : c < len) (hb : (ls.getD i []).getD c 0 ≠ 0) : Den (2 * B + 1) (lateL ls i c) := by
  obtain ⟨D, h0, h1, h2⟩ := h
  have mem : ∀ k, k < ls.length → ls.getD k [] ∈ ls := fun k hk => getD_mem hk
  have hd : (D : Rat) ≠ 0 := fun y => h0 (Rat.intCast_eq_zero_iff.mp y)
  obtain ⟨P, p1, p2⟩ := h2 _ (mem i hi) _ (getD_mem (d := 0) (show c < (ls.getD i []).length by rw [hl i hi]; exact hc))
  have hP : (P : Rat) ≠ 0 := by rw [← p1]; grind
  have hP0 : P ≠ 0 := fun y => hP (by rw [y]; rfl)
  have big : ∀ x y : Int, x.natAbs < 2 ^ B → y.natAbs < 2 ^ B → (x * y).natAbs < 2 ^ (2 * B + 1) := fun x y hx hy => by
    have := mul_bits hx hy
    exact bits_mono this (by omega)
  refine ⟨D * P, Int.mul_ne_zero h0 hP0, big D P h1 p2, fun l hlm e he => ?_⟩
  obtain ⟨k, hk, rfl⟩ := List.mem_iff_getElem.mp hlm
  have hk2 : k < ls.length := by rw [late_len] at hk; exact hk
  have hget : (lateL ls i c)[k] = (lateL ls i c).getD k [] := by rw [List.getD_eq_getElem?_getD, List.getElem?_eq_getElem hk]; rfl
  rw [hget, late_get hk2] at he
  have fent : ∀ j, j < len → ∃ w : Int, (firstL ls i c).getD j 0 * ((D * P : Int) : Rat) = ((D * w : Int) : Rat) ∧ w.natAbs < 2 ^ B := fun j hj => by
    obtain ⟨w, w1, w2⟩ := h2 _ (mem i hi) _ (getD_mem (d := 0) (show j < (ls.getD i []).length by rw [hl i hi]; exact hj))
    refine ⟨w, ?_, w2⟩
    rw [first_get, Rat.intCast_mul, Rat.intCast_mul, ← p1, ← w1]
    grind
  by_cases e1 : k = i
  · rw [if_pos e1] at he
    obtain ⟨j, hj, rfl⟩ := List.mem_iff_getElem.mp he
    have hj2 : j < len := by rw [first_len hl hi] at hj; exact hj
    obtain ⟨w, w1, w2⟩ := fent j hj2
    refine ⟨D * w, ?_, big D w h1 w2⟩
    rw [← w1, List.getD_eq_getElem?_getD, List.getElem?_eq_getElem hj]; rfl
  · rw [if_neg e1] at he
    obtain ⟨j, hj, rfl⟩ := List.mem_iff_getElem.mp he
    have hj2 : j < len := by
      rw [List.length_map, List.length_zip, hl k hk2, first_len hl hi] at hj; omega
    obtain ⟨w, w1, w2⟩ := fent j hj2
    obtain ⟨a, a1, a2⟩ := h2 _ (mem k hk2) _ (getD_mem (d := 0) (show j < (ls.getD k []).length by rw [hl k hk2]; exact hj2))
    obtain ⟨b, b1, b2⟩ := h2 _ (mem k hk2) _ (getD_mem (d := 0) (show c < (ls.getD k []).length by rw [hl k hk2]; exact hc))
    refine ⟨a * P - b * w, ?_, ?_⟩
    · have hv : ∀ (v : List Rat) (hj : j < v.length), v[j] = v.getD j 0 := fun v hj => by rw [List.getD_eq_getElem?_getD, List.getElem?_eq_getElem hj]; rfl
      rw [hv _ hj, getD_less _ (by rw [hl k hk2, first_len hl hi])]
      have w3 : (firstL ls i c).getD j 0 * (P : Rat) = (w : Rat) := by
        rw [Rat.intCast_mul, Rat.intCast_mul] at w1
        grind
      rw [Rat.intCast_sub, Rat.intCast_mul, Rat.intCast_mul, Rat.intCast_mul, ← a1, ← b1, ← w3]
      grind
    · have := sub_bits (mul_bits a2 p2) (mul_bits b2 w2)
      exact bits_mono this (by omega)
theorem den_lines {B len : Nat} {ls : List (List Rat)} (h : Den B ls) (hl : LenOk len ls) (hn : ls.length ≤ 1000) : LinesOk len B ls := by
  obtain ⟨D, h0, h1, h2⟩ := h
  refine ⟨hn, fun l hlm => ⟨?_, fun x hx => ?_⟩⟩
  · obtain ⟨k, hk, rfl⟩ := List.mem_iff_getElem.mp hlm
    have := hl k hk
    rw [List.getD_eq_getElem?_getD, List.getElem?_eq_getElem hk] at this
    exact this
  · obtain ⟨z, a, b⟩ := h2 l hlm x hx
    exact den_qb h0 h1 a b
/-- (B + 1) * 2 ^ n - 1 behind n columns -/
theorem solGo_bits {m : Nat} : ∀ (n c B : Nat) (ls : List (List Rat)) (places : List (Nat × Nat)), c + n = m → (B + 1) * 2 ^ n ≤ 3000 → LenOk (m + 1) ls → ls.length ≤ 1000 → Den B ls → places.length + n ≤ 1000 → (∀ p ∈ places, p.1 < ls.length ∧ p.2 < c) →
    SolGoOk (m + 1) (List.range' c n) ls places
  | 0, c, B, ls, places, e, hB, hl, hn, hd, hp, hpp => ⟨⟨B, den_lines hd hl hn⟩, by omega, fun p hp => by have := hpp p hp; omega⟩
  | n + 1, c, B, ls, places, e, hB, hl, hn, hd, hp, hpp => by
    have h1 : 1 ≤ 2 ^ n := Nat.one_le_two_pow
    rw [Nat.pow_succ] at hB
    have hB2 : (B + 1) * 1 ≤ (B + 1) * 2 ^ n := Nat.mul_le_mul_left _ h1
    have e2 : (B + 1) * (2 ^ n * 2) = (B + 1) * 2 ^ n * 2 := by rw [Nat.mul_assoc]
    have hdl := dlv
    rw [List.range'_succ]
    refine ⟨by omega, ⟨B, den_lines hd hl hn, by omega⟩, by omega, ?_⟩
    cases hs : some1 ls (places.map (·.1)) c with
    | nil => exact solGo_bits n (c + 1) B ls places (by omega) (by omega) hl hn hd (by omega) fun p hp => by have := hpp p hp; omega
    | cons i rest =>
      obtain ⟨g1, g2, g3⟩ := some1_lt (show i ∈ some1 ls (places.map (·.1)) c by rw [hs]; exact List.mem_cons_self ..)
      refine solGo_bits n (c + 1) (2 * B + 1) (lateL ls i c) (places ++ [(i, c)]) (by omega) ?_ (late_lenOk hl g1) (by rw [late_len]; exact hn) (late_den hd hl g1 (by omega) g2) (by rw [List.length_append, List.length_singleton]; omega) fun p hp => ?_
      · have : (2 * B + 1 + 1) * 2 ^ n = (B + 1) * 2 ^ n * 2 := by
          rw [show 2 * B + 1 + 1 = (B + 1) * 2 by omega, Nat.mul_assoc, Nat.mul_comm 2, ← Nat.mul_assoc]
        omega
      · rw [late_len]
        rcases List.mem_append.mp hp with hp | hp
        · have := hpp p hp; omega
        · rw [List.mem_singleton] at hp
          subst hp
          exact ⟨g1, Nat.lt_succ_self c⟩
theorem solOk {lines : List (List Int)} {m : Nat} (hm : m ≤ 6) (hn : lines.length ≤ 1000) (hl : ∀ l ∈ lines, l.length = m + 1) (hb : ∀ l ∈ lines, Bnd 32 l) : SolOk lines m := by
  refine ⟨hn, by omega, hl, ?_⟩
  rw [List.range_eq_range']
  refine solGo_bits (m := m) m 0 32 _ [] (by omega) ?_ ?_ (by rw [List.length_map]; exact hn) ?_ (by simp; omega) (by simp)
  · have : 2 ^ m ≤ 2 ^ 6 := Nat.pow_le_pow_right (by decide) hm
    omega
  · intro k hk
    rw [List.length_map] at hk
    rw [getD_map (a := []) hk, List.length_map]
    exact hl _ (getD_mem hk)
  · refine ⟨1, by decide, by decide, fun l hlm e he => ?_⟩
    obtain ⟨l0, hl0, rfl⟩ := List.mem_map.mp hlm
    obtain ⟨x, hx, rfl⟩ := List.mem_map.mp he
    exact ⟨x, by grind, hb l0 hl0 x hx⟩
end K45


set_option Elab.async false
set_option linter.all false
set_option maxRecDepth 100000
set_option maxHeartbeats 4000000
namespace K45
open PySem L2 Dat
/-! ### the program's clearing -/
theorem gcd_dvd : ∀ (ns : List Int) (g : Int), (ns.foldl (fun g x => ((Nat.gcd g.natAbs x.natAbs : Nat) : Int)) g) ∣ g ∧ ∀ x ∈ ns, (ns.foldl (fun g x => ((Nat.gcd g.natAbs x.natAbs : Nat) : Int)) g) ∣ x
  | [], g => ⟨Int.dvd_refl g, by simp⟩
  | y :: ns, g => by
    obtain ⟨h1, h2⟩ := gcd_dvd ns ((Nat.gcd g.natAbs y.natAbs : Nat) : Int)
    have d1 : ((Nat.gcd g.natAbs y.natAbs : Nat) : Int) ∣ g := Int.natAbs_dvd_natAbs.mp (by rw [Int.natAbs_natCast]; exact Nat.gcd_dvd_left _ _)
    have d2 : ((Nat.gcd g.natAbs y.natAbs : Nat) : Int) ∣ y := Int.natAbs_dvd_natAbs.mp (by rw [Int.natAbs_natCast]; exact Nat.gcd_dvd_right _ _)
    refine ⟨Int.dvd_trans h1 d1, fun x hx => ?_⟩
    rcases List.mem_cons.mp hx with rfl | hx
    · exact Int.dvd_trans h1 d2
    · exact h2 x hx
theorem getI_map {f : Int → Int} {l : List Int} (h0 : f 0 = 0) (i : Nat) : (l.map f).getD i 0 = f (l.getD i 0) := by
  by_cases h : i < l.length
  · rw [getD_map (a := 0) h]
  · rw [getD_out (by rw [List.length_map]; exact h), getD_out h, h0]
theorem lowered_ok (v : List Int) : ∃ g : Int, g ≠ 0 ∧ (∀ j, v.getD j 0 = g * (lowered v).getD j 0) ∧ (lowered v).length = v.length ∧ ∀ B, Bnd B v → Bnd B (lowered v) := by
  unfold lowered
  split
  · rename_i h
    have h0 : gcdL v ≠ 0 := by omega
    have hd := (gcd_dvd v 0).2
    refine ⟨gcdL v, h0, fun j => ?_, by rw [List.length_map], fun B hB x hx => ?_⟩
    · rw [getI_map (by simp) j]
      by_cases hj : j < v.length
      · have : gcdL v ∣ v.getD j 0 := hd _ (getD_mem hj)
        rw [Int.fdiv_eq_ediv_of_nonneg _ (by omega), Int.mul_ediv_cancel' this]
      · rw [getD_out hj]; simp
    · obtain ⟨y, hy, rfl⟩ := List.mem_map.mp hx
      rw [Int.fdiv_eq_ediv_of_nonneg _ (by omega)]
      exact Nat.lt_of_le_of_lt (Int.natAbs_ediv_le_natAbs _ _) (hB y hy)
  · exact ⟨1, by decide, fun j => by omega, rfl, fun B hB => hB⟩
theorem fp_lt {e : List Int} (h : fp e < e.length) : e.getD (fp e) 0 ≠ 0 := by
  have := List.findIdx_getElem (w := h)
  rw [List.getD_eq_getElem?_getD, List.getElem?_eq_getElem h]
  have h2 : (e[fp e] != 0) = true := this
  show e[fp e] ≠ 0
  simpa using h2
theorem fp_zero {e : List Int} {j : Nat} (h : j < fp e) : e.getD j 0 = 0 := by
  have hl : j < e.length := Nat.lt_of_lt_of_le h List.findIdx_le_length
  have := List.not_of_lt_findIdx h
  rw [List.getD_eq_getElem?_getD, List.getElem?_eq_getElem hl]
  simpa using this
theorem cross_get {e row : List Int} (hl : e.length = row.length) (j : Nat) : (cross e row).getD j 0 = row.getD j 0 * e.getD (fp e) 0 - e.getD j 0 * row.getD (fp e) 0 := by
  unfold cross
  by_cases h : j < row.length
  · rw [getD_map (a := (0, 0)) (by rw [List.length_zip]; omega)]
    have : (row.zip e).getD j (0, 0) = (row.getD j 0, e.getD j 0) := by
      rw [List.getD_eq_getElem?_getD, List.getD_eq_getElem?_getD, List.getD_eq_getElem?_getD, List.getElem?_eq_getElem h, List.getElem?_eq_getElem (show j < e.length by omega), List.getElem?_eq_getElem (by rw [List.length_zip]; omega)]
      simp
    rw [this]
  · rw [getD_out (by rw [List.length_map, List.length_zip]; omega), getD_out h, getD_out (l := e) (i := j) (by omega)]; simp
theorem step1_ok {e row : List Int} (hl : e.length = row.length) (hp : fp e < row.length) : ∃ g a b : Int, g ≠ 0 ∧ a ≠ 0 ∧ (∀ j, g * (step1 e row).getD j 0 = a * row.getD j 0 - b * e.getD j 0) ∧ (step1 e row).getD (fp e) 0 = 0 ∧ (step1 e row).length = row.length ∧
    ∀ A B, Bnd A e → Bnd B row → Bnd (A + B + 1) (step1 e row) := by
  by_cases h : row.getD (fp e) 0 ≠ 0
  · have e1 : step1 e row = lowered (cross e row) := if_pos h
    rw [e1]
    obtain ⟨g, g0, g1, g2, g3⟩ := lowered_ok (cross e row)
    refine ⟨g, e.getD (fp e) 0, row.getD (fp e) 0, g0, fp_lt (by omega), fun j => ?_, ?_, ?_, fun A B hA hB => g3 _ (bnd_cross hA hB hp hl)⟩
    · rw [← g1 j, cross_get hl, Int.mul_comm (e.getD (fp e) 0), Int.mul_comm (row.getD (fp e) 0)]
    · have := g1 (fp e)
      rw [cross_get hl, Int.mul_comm (e.getD (fp e) 0), Int.sub_self] at this
      exact (Int.mul_eq_zero.mp this.symm).resolve_left g0
    · rw [g2, cross, List.length_map, List.length_zip]; omega
  · have e1 : step1 e row = row := if_neg h
    rw [e1]
    exact ⟨1, 1, 0, by decide, by decide, fun j => by omega, Classical.not_not.mp h, rfl, fun A B _ hB => fun x hx => bits_mono (hB x hx) (by omega)⟩
/-- over the rationals -/
def qv (v : List Int) : Nat → Rat := fun j => ((v.getD j 0 : Int) : Rat)
theorem step1_q {e row : List Int} (hl : e.length = row.length) (hp : fp e < row.length) : ∃ a b : Rat, a ≠ 0 ∧ ∀ j, qv (step1 e row) j = a * qv row j - b * qv e j := by
  obtain ⟨g, a, b, g0, a0, h, _⟩ := step1_ok hl hp
  have hg : (g : Rat) ≠ 0 := fun y => g0 (Rat.intCast_eq_zero_iff.mp y)
  have ha : (a : Rat) ≠ 0 := fun y => a0 (Rat.intCast_eq_zero_iff.mp y)
  refine ⟨a / g, b / g, by grind, fun j => ?_⟩
  have := congrArg (fun z : Int => (z : Rat)) (h j)
  simp only [Rat.intCast_mul, Rat.intCast_sub] at this
  unfold qv
  grind
def InSpan (many : Nat) : List (List Int) → (Nat → Rat) → Prop
  | [], v => ∀ j, j < many → v j = 0
  | e :: ks, v => ∃ a : Rat, InSpan many ks fun j => v j - a * qv e j
theorem InSpan.congr {many : Nat} : ∀ {ks : List (List Int)} {v w : Nat → Rat}, (∀ j, j < many → v j = w j) → InSpan many ks v → InSpan many ks w
  | [], v, w, h, s => fun j hj => by rw [← h j hj]; exact s j hj
  | e :: ks, v, w, h, ⟨a, s⟩ => ⟨a, InSpan.congr (fun j hj => by rw [h j hj]) s⟩
theorem InSpan.zero {many : Nat} : ∀ (ks : List (List Int)), InSpan many ks fun _ => 0
  | [] => fun _ _ => rfl
  | e :: ks => ⟨0, InSpan.congr (fun j _ => by grind) (InSpan.zero ks)⟩
theorem InSpan.lin {many : Nat} (a b : Rat) : ∀ {ks : List (List Int)} {v w : Nat → Rat}, InSpan many ks v → InSpan many ks w → InSpan many ks fun j => a * v j + b * w j
  | [], v, w, h1, h2 => fun j hj => by
    show a * v j + b * w j = 0
    rw [h1 j hj, h2 j hj]; grind
  | e :: ks, v, w, ⟨c, h1⟩, ⟨d, h2⟩ => ⟨a * c + b * d, InSpan.congr (fun j _ => by grind) (InSpan.lin a b h1 h2)⟩
theorem InSpan.snoc {many : Nat} {l : List Int} (b : Rat) : ∀ {ks : List (List Int)} {v : Nat → Rat}, (InSpan many ks fun j => v j - b * qv l j) → InSpan many (ks ++ [l]) v
  | [], v, h => ⟨b, h⟩
  | e :: ks, v, ⟨a, h⟩ => ⟨a, InSpan.snoc b (InSpan.congr (fun j _ => by grind) h)⟩
def Tri : List (List Int) → Prop
  | [] => True
  | e :: ks => (∀ k ∈ ks, k.getD (fp e) 0 = 0) ∧ Tri ks
theorem Tri.snoc {l : List Int} : ∀ {ks : List (List Int)}, Tri ks → (∀ e ∈ ks, l.getD (fp e) 0 = 0) → Tri (ks ++ [l])
  | [], _, _ => ⟨by simp, trivial⟩
  | e :: ks, ⟨h1, h2⟩, h => ⟨fun k hk => by
      rcases List.mem_append.mp hk with hk | hk
      · exact h1 k hk
      · rw [List.mem_singleton] at hk; subst hk; exact h e (List.mem_cons_self ..), Tri.snoc h2 fun e' he => h e' (List.mem_cons_of_mem _ he)⟩
/-- in the span, 0 at all pivots: 0 -/
theorem span_zero {many : Nat} : ∀ {ks : List (List Int)} {v : Nat → Rat}, Tri ks → (∀ e ∈ ks, fp e < many ∧ fp e < e.length) → (∀ e ∈ ks, v (fp e) = 0) → InSpan many ks v → ∀ j, j < many → v j = 0
  | [], v, _, _, _, h => h
  | e :: ks, v, ⟨t1, t2⟩, hp, hv, ⟨a, h⟩ => by
    obtain ⟨p1, p2⟩ := hp e (List.mem_cons_self ..)
    have hz : ∀ {ks' : List (List Int)} {w : Nat → Rat}, (∀ k ∈ ks', k.getD (fp e) 0 = 0) → InSpan many ks' w → w (fp e) = 0 := by
      intro ks'
      induction ks' with
      | nil => intro w _ s; exact s _ p1
      | cons k ks' ih =>
        intro w hk ⟨b, s⟩
        have := ih (fun x hx => hk x (List.mem_cons_of_mem _ hx)) s
        have h0 : qv k (fp e) = 0 := by
          unfold qv
          rw [hk k (List.mem_cons_self ..)]; rfl
        rw [h0] at this
        grind
    have h1 := hz t1 h
    have h2 : qv e (fp e) ≠ 0 := fun y => fp_lt p2 (Rat.intCast_eq_zero_iff.mp y)
    rw [hv e (List.mem_cons_self ..)] at h1
    have ha : a = 0 := by grind
    subst ha
    have h' : InSpan many ks v := InSpan.congr (fun j _ => by grind) h
    exact span_zero t2 (fun x hx => hp x (List.mem_cons_of_mem _ hx)) (fun x hx => hv x (List.mem_cons_of_mem _ hx)) h'
/-- what clearing does -/
theorem cleared_ok {L many : Nat} : ∀ (ks : List (List Int)) (row : List Int), row.length = L → (∀ e ∈ ks, e.length = L ∧ fp e < L) → Tri ks →
    (cleared ks row).length = L ∧ (∀ e ∈ ks, (cleared ks row).getD (fp e) 0 = 0) ∧ (∀ t, (∀ e ∈ ks, e.getD t 0 = 0) → ((cleared ks row).getD t 0 = 0 ↔ row.getD t 0 = 0)) ∧ (∃ α : Rat, α ≠ 0 ∧ InSpan many ks fun j => α * qv row j - qv (cleared ks row) j)
  | [], row, hl, _, _ => ⟨hl, by simp, fun _ _ => Iff.rfl, 1, by decide, fun j _ => by show 1 * qv row j - qv row j = 0; grind⟩
  | e :: ks, row, hl, hk, ⟨t1, t2⟩ => by
    obtain ⟨he1, he2⟩ := hk e (List.mem_cons_self ..)
    obtain ⟨g, a, b, g0, a0, h, hz, hlen, _⟩ := step1_ok (e := e) (row := row) (by omega) (by omega)
    obtain ⟨c1, c2, c3, α, c4, c5⟩ := cleared_ok (many := many) ks (step1 e row) (by omega) (fun x hx => hk x (List.mem_cons_of_mem _ hx)) t2
    have hc : cleared (e :: ks) row = cleared ks (step1 e row) := rfl
    rw [hc]
    refine ⟨c1, fun x hx => ?_, fun t ht => ?_, ?_⟩
    · rcases List.mem_cons.mp hx with rfl | hx
      · exact (c3 _ t1).mpr hz
      · exact c2 x hx
    · rw [c3 t fun x hx => ht x (List.mem_cons_of_mem _ hx)]
      have := h t
      rw [ht e (List.mem_cons_self ..), Int.mul_zero, Int.sub_zero] at this
      constructor
      · intro y
        rw [y, Int.mul_zero] at this
        exact (Int.mul_eq_zero.mp this.symm).resolve_left a0
      · intro y
        rw [y, Int.mul_zero] at this
        exact (Int.mul_eq_zero.mp this).resolve_left g0
    · obtain ⟨p, q, p0, hq⟩ := step1_q (e := e) (row := row) (by omega) (by omega)
      refine ⟨α * p, by grind, α * q, InSpan.congr (fun j _ => ?_) c5⟩
      rw [hq j]; grind
end K45


set_option Elab.async false
set_option linter.all false
set_option maxRecDepth 100000
set_option maxHeartbeats 4000000
namespace K45
open PySem L2 Dat
def BdK : List (List Int) → Nat → Prop
  | [], _ => True
  | e :: ks, T => ∃ A T', Bnd A e ∧ BdK ks T' ∧ A + 1 + T' ≤ T
theorem BdK.mono : ∀ {ks : List (List Int)} {T T2 : Nat}, BdK ks T → T ≤ T2 → BdK ks T2
  | [], _, _, _, _ => trivial
  | e :: ks, T, T2, ⟨A, T', h1, h2, h3⟩, h => ⟨A, T', h1, h2, by omega⟩
theorem BdK.snoc {l : List Int} {A : Nat} (hl : Bnd A l) : ∀ {ks : List (List Int)} {T : Nat}, BdK ks T → BdK (ks ++ [l]) (T + A + 1)
  | [], T, _ => ⟨A, 0, hl, trivial, by omega⟩
  | e :: ks, T, ⟨B, T', h1, h2, h3⟩ => ⟨B, T' + A + 1, h1, BdK.snoc hl h2, by omega⟩
theorem cleared_bits {L : Nat} (hL : L ≤ 1000) : ∀ (ks : List (List Int)) (row : List Int) (B T : Nat), row.length = L → (∀ e ∈ ks, e.length = L ∧ fp e < L) → BdK ks T → Bnd B row → B + T ≤ dl → Bnd (B + T) (cleared ks row) ∧ ClOk ks row
  | [], row, B, T, _, _, _, hB, _ => ⟨fun x hx => bits_mono (hB x hx) (by omega), trivial⟩
  | e :: ks, row, B, T, hl, hk, ⟨A, T', h1, h2, h3⟩, hB, hd => by
    obtain ⟨he1, he2⟩ := hk e (List.mem_cons_self ..)
    obtain ⟨g, a, b, _, _, _, _, hlen, hbits⟩ := step1_ok (e := e) (row := row) (by omega) (by omega)
    obtain ⟨c1, c2⟩ := cleared_bits hL ks (step1 e row) (A + B + 1) T' (by omega) (fun x hx => hk x (List.mem_cons_of_mem _ hx)) h2 (hbits A B h1 hB) (by omega)
    exact ⟨fun x hx => bits_mono (c1 x hx) (by omega), ⟨by omega, by omega, by omega, A, B, h1, hB, by omega⟩, c2⟩
def Rel (rows : List (List Int)) (many : Nat) (v : List Int) : Prop := ∀ j, j < many → qv v j = sumN (fun i => qv v (many + i) * qv (rows.getD i []) j) rows.length
theorem rG {a b x y z : Rat} : (a * x - b * y) * z = a * (x * z) + (-b) * (y * z) := by grind
theorem rH {a b x y : Rat} : a * x - b * y = a * x + -b * y := by grind
theorem step1_rel {rows : List (List Int)} {many : Nat} {e row : List Int} (hl : e.length = row.length) (hp : fp e < row.length) (he : Rel rows many e) (hr : Rel rows many row) : Rel rows many (step1 e row) := by
  obtain ⟨a, b, _, h⟩ := step1_q hl hp
  intro j hj
  have e1 : sumN (fun i => qv (step1 e row) (many + i) * qv (rows.getD i []) j) rows.length = sumN (fun i => a * (qv row (many + i) * qv (rows.getD i []) j) + (-b) * (qv e (many + i) * qv (rows.getD i []) j)) rows.length :=
    sumN_congr fun i _ => by
      show qv (step1 e row) (many + i) * qv (rows.getD i []) j = _
      rw [h]; exact rG
  rw [e1, sumN_add, sumN_mul, sumN_mul, h j, he j hj, hr j hj]
  exact rH
theorem cleared_rel {L many : Nat} {rows : List (List Int)} : ∀ (ks : List (List Int)) (row : List Int), row.length = L → (∀ e ∈ ks, e.length = L ∧ fp e < L) → (∀ e ∈ ks, Rel rows many e) → Rel rows many row → Rel rows many (cleared ks row)
  | [], row, _, _, _, h => h
  | e :: ks, row, hl, hk, hr, h => by
    obtain ⟨he1, he2⟩ := hk e (List.mem_cons_self ..)
    obtain ⟨g, a, b, _, _, _, _, hlen, _⟩ := step1_ok (e := e) (row := row) (by omega) (by omega)
    exact cleared_rel ks (step1 e row) (by omega) (fun x hx => hk x (List.mem_cons_of_mem _ hx)) (fun x hx => hr x (List.mem_cons_of_mem _ hx)) (step1_rel (by omega) (by omega) (hr e (List.mem_cons_self ..)) h)
theorem app_left {r u : List Int} {many j : Nat} (hr : r.length = many) (hj : j < many) : (r ++ u).getD j 0 = r.getD j 0 := by
  rw [List.getD_eq_getElem?_getD, List.getElem?_append_left (by omega), List.getD_eq_getElem?_getD]
theorem app_right {r u : List Int} {many t : Nat} (hr : r.length = many) : (r ++ u).getD (many + t) 0 = u.getD t 0 := by
  rw [List.getD_eq_getElem?_getD, List.getElem?_append_right (by omega), List.getD_eq_getElem?_getD, hr, Nat.add_sub_cancel_left]
theorem unit_get {n i t : Nat} (ht : t < n) : (unit n i).getD t 0 = if t = i then 1 else 0 := by
  unfold unit
  rw [List.getD_eq_getElem?_getD, List.getElem?_map, List.getElem?_range ht]; rfl
theorem unit_len {n i : Nat} : (unit n i).length = n := by simp [unit]
structure Kp (rows : List (List Int)) (many i : Nat) (kept : List (List Int)) : Prop where
  len : ∀ e ∈ kept, e.length = many + rows.length
  piv : ∀ e ∈ kept, fp e < many
  rel : ∀ e ∈ kept, Rel rows many e
  trail : ∀ e ∈ kept, ∀ t, i ≤ t → t < rows.length → e.getD (many + t) 0 = 0
  tri : Tri kept
  span : ∀ k, k < i → InSpan many kept (qv (rows.getD k []))
theorem rI {x y : Rat} : 1 * x + y = x + y := by grind
theorem span_sum {many : Nat} {kept : List (List Int)} {rows : List (List Int)} {c : Nat → Rat} : ∀ {n : Nat}, (∀ k, k < n → InSpan many kept (qv (rows.getD k []))) → InSpan many kept fun j => sumN (fun t => c t * qv (rows.getD t []) j) n
  | 0, _ => InSpan.congr (fun j _ => rfl) (InSpan.zero kept)
  | n + 1, h => InSpan.congr (fun j _ => by show _ = sumN _ n + _; exact rI) (InSpan.lin 1 (c n) (span_sum (c := c) (n := n) fun k hk => h k (by omega)) (h n (by omega)))
theorem rA {α x y : Rat} (h : α ≠ 0) : (1 / α) * (α * x - y) + 0 * 0 = x - (1 / α) * y := by grind
theorem rB {x y : Rat} : x = x - 0 * y := by grind
theorem rC {α x y : Rat} : α * x + (-1) * (α * x - y) = y := by grind
theorem rD {α x : Rat} (h : α ≠ 0) : (1 / α) * (α * x - 0) + 0 * 0 = x := by grind
theorem rE {x : Rat} : ((0 : Int) : Rat) * x = 0 := by grind
theorem rF {x : Rat} : x = ((1 : Int) : Rat) * x := by grind
theorem relGo_ok {rows : List (List Int)} {many F : Nat} (hrl : ∀ r ∈ rows, r.length = many) (hn : rows.length + many ≤ 900) (hF : F ≤ dl) (bi τ : Nat → Nat) (hbi : ∀ i, i < rows.length → Bnd (bi i) (rows.getD i [] ++ unit rows.length i)) (hτ : ∀ i, i < rows.length → 2 * τ i + bi i + 1 ≤ τ (i + 1)) (hf : ∀ i, i < rows.length → bi i + τ i ≤ F) :
    ∀ (l : List (List Int × Nat)) (i : Nat) (kept : List (List Int)), l = rows.zipIdx.drop i → i ≤ rows.length → kept.length ≤ i → Kp rows many i kept → BdK kept (τ i) →
    RelGoOk rows.length many l kept ∧ match relGo rows.length many l kept with
      | some f => f.length = rows.length ∧ f.getLastD 0 ≠ 0 ∧ (∀ j, j < many → sumN (fun t => qv f t * qv (rows.getD t []) j) rows.length = 0) ∧ Bnd F f
      | none => i < rows.length → ∀ c : Nat → Rat, ¬∀ j, j < many → qv (rows.getD (rows.length - 1) []) j = sumN (fun t => c t * qv (rows.getD t []) j) (rows.length - 1)
  | [], i, kept, hl, hi, _, _, _ => by
    refine ⟨trivial, fun h => ?_⟩
    have := congrArg List.length hl
    rw [List.length_drop, List.length_zipIdx, List.length_nil] at this
    omega
  | (row, i') :: r, i, kept, hl, hi, hkl, K, hb => by
    have hi2 : i < rows.length := by
      have := congrArg List.length hl
      rw [List.length_drop, List.length_zipIdx, List.length_cons] at this
      omega
    have hcons := List.drop_eq_getElem_cons (l := rows.zipIdx) (i := i) (by rw [List.length_zipIdx]; exact hi2)
    rw [← hl] at hcons
    obtain ⟨e1, e2⟩ := List.cons.inj hcons
    rw [List.getElem_zipIdx, Nat.zero_add] at e1
    obtain ⟨rfl, rfl⟩ := Prod.mk.inj e1
    have hrow : rows[i'] = rows.getD i' [] := by rw [List.getD_eq_getElem?_getD, List.getElem?_eq_getElem hi2]; rfl
    rw [hrow]
    have hrlen : (rows.getD i' []).length = many := hrl _ (getD_mem hi2)
    have hvl : (rows.getD i' [] ++ unit rows.length i').length = many + rows.length := by rw [List.length_append, hrlen, unit_len]
    have hks : ∀ e ∈ kept, e.length = many + rows.length ∧ fp e < many + rows.length := fun e he => ⟨K.len e he, by have := K.piv e he; omega⟩
    have hrel0 : Rel rows many (rows.getD i' [] ++ unit rows.length i') := fun j hj => by
      rw [sumN_one (c := i') hi2 fun t ht hne => by unfold qv; rw [app_right hrlen, unit_get ht, if_neg hne]; exact rE]
      unfold qv
      rw [app_left hrlen hj, app_right hrlen, unit_get hi2, if_pos rfl]; exact rF
    obtain ⟨c1, c2, c3, α, c4, c5⟩ := cleared_ok (many := many) kept _ hvl hks K.tri
    have c6 := cleared_rel kept _ hvl hks K.rel hrel0
    obtain ⟨c7, c8⟩ := cleared_bits (by omega) kept _ (bi i') (τ i') hvl hks hb (hbi i' hi2) (by have := hf i' hi2; omega)
    have c5' : InSpan many kept fun j => α * qv (rows.getD i' []) j - qv (cleared kept (rows.getD i' [] ++ unit rows.length i')) j := InSpan.congr (fun j hj => by unfold qv; rw [app_left hrlen hj]) c5
    have c9 : (cleared kept (rows.getD i' [] ++ unit rows.length i')).getD (many + i') 0 ≠ 0 := fun z => by
      have := (c3 (many + i') fun e he => K.trail e he i' (Nat.le_refl _) hi2).mp z
      rw [app_right hrlen, unit_get hi2, if_pos rfl] at this
      exact absurd this (by decide)
    have c10 : ∀ t, i' + 1 ≤ t → t < rows.length → (cleared kept (rows.getD i' [] ++ unit rows.length i')).getD (many + t) 0 = 0 := fun t h1 h2 => by
      refine (c3 (many + t) fun e he => K.trail e he t (by omega) h2).mpr ?_
      rw [app_right hrlen, unit_get h2, if_neg (by omega)]
    have hgo : relGo rows.length many ((rows.getD i' [], i') :: r) kept = if fp (cleared kept (rows.getD i' [] ++ unit rows.length i')) < many then relGo rows.length many r (kept ++ [cleared kept (rows.getD i' [] ++ unit rows.length i')])
      else if i' + 1 = rows.length then some ((cleared kept (rows.getD i' [] ++ unit rows.length i')).drop many) else relGo rows.length many r kept := rfl
    have hok : RelGoOk rows.length many ((rows.getD i' [], i') :: r) kept = (ClOk kept (rows.getD i' [] ++ unit rows.length i') ∧ (rows.getD i' []).length + rows.length ≤ 1000 ∧ (cleared kept (rows.getD i' [] ++ unit rows.length i')).length ≤ 1000 ∧ kept.length ≤ 1000 ∧ (fp (cleared kept (rows.getD i' [] ++ unit rows.length i')) < many → RelGoOk rows.length many r (kept ++ [cleared kept (rows.getD i' [] ++ unit rows.length i')])) ∧
      (¬fp (cleared kept (rows.getD i' [] ++ unit rows.length i')) < many → i' + 1 ≠ rows.length → RelGoOk rows.length many r kept)) := rfl
    rw [hgo, hok]
    revert c1 c2 c3 c5' c6 c7 c9 c10
    generalize cleared kept (rows.getD i' [] ++ unit rows.length i') = late
    intro c1 c2 c3 c6 c7 c5' c9 c10
    have hbi2 := hτ i' hi2
    by_cases hfp : fp late < many
    · have K' : Kp rows many (i' + 1) (kept ++ [late]) := by
        refine ⟨fun e he => ?_, fun e he => ?_, fun e he => ?_, fun e he t h1 h2 => ?_, K.tri.snoc c2, fun k hk => ?_⟩
        · rcases List.mem_append.mp he with he | he
          · exact K.len e he
          · rw [List.mem_singleton] at he; subst he; exact c1
        · rcases List.mem_append.mp he with he | he
          · exact K.piv e he
          · rw [List.mem_singleton] at he; subst he; exact hfp
        · rcases List.mem_append.mp he with he | he
          · exact K.rel e he
          · rw [List.mem_singleton] at he; subst he; exact c6
        · rcases List.mem_append.mp he with he | he
          · exact K.trail e he t (by omega) h2
          · rw [List.mem_singleton] at he; subst he; exact c10 t h1 h2
        · by_cases e : k = i'
          · subst e
            exact InSpan.snoc (1 / α) (InSpan.congr (fun j _ => rA c4) (InSpan.lin (1 / α) 0 c5' (InSpan.zero kept)))
          · exact InSpan.snoc 0 (InSpan.congr (fun j _ => rB) (K.span k (by omega)))
      obtain ⟨r1, r2⟩ := relGo_ok hrl hn hF bi τ hbi hτ hf r (i' + 1) (kept ++ [late]) e2 (by omega) (by rw [List.length_append, List.length_singleton]; omega) K' (BdK.mono (BdK.snoc c7 hb) (by omega))
      refine ⟨⟨c8, by omega, by omega, by omega, fun _ => r1, fun z => absurd hfp z⟩, ?_⟩
      rw [if_pos hfp]
      revert r2
      cases relGo rows.length many r (kept ++ [late]) with
      | some f => exact fun h => h
      | none =>
        intro h _ c hc
        by_cases hlast : i' + 1 < rows.length
        · exact h hlast c hc
        · have e3 : rows.length - 1 = i' := by omega
          rw [e3] at hc
          have s1 : InSpan many kept (qv (rows.getD i' [])) := InSpan.congr (fun j hj => (hc j hj).symm) (span_sum K.span)
          have s2 : InSpan many kept (qv late) := InSpan.congr (fun j _ => rC) (InSpan.lin α (-1) s1 c5')
          have s3 := span_zero K.tri (fun e he => ⟨K.piv e he, (hks e he).1 ▸ (hks e he).2⟩) (fun e he => by unfold qv; rw [c2 e he]; rfl) s2 (fp late) hfp
          exact fp_lt (by omega) (Rat.intCast_eq_zero_iff.mp s3)
    · have hz : ∀ j, j < many → late.getD j 0 = 0 := fun j hj => fp_zero (by omega)
      rw [if_neg hfp]
      by_cases hlast : i' + 1 = rows.length
      · refine ⟨⟨c8, by omega, by omega, by omega, fun z => absurd z hfp, fun _ z => absurd hlast z⟩, ?_⟩
        rw [if_pos hlast]
        have hg : ∀ t, (late.drop many).getD t 0 = late.getD (many + t) 0 := fun t => by
          rw [List.getD_eq_getElem?_getD, List.getElem?_drop, List.getD_eq_getElem?_getD]
        have hdl : (late.drop many).length = rows.length := by rw [List.length_drop]; omega
        refine ⟨hdl, ?_, fun j hj => ?_, fun x hx => bits_mono (c7 x (List.mem_of_mem_drop hx)) (hf i' hi2)⟩
        · have : (late.drop many).getLastD 0 = (late.drop many).getD i' 0 := by
            rw [List.getLastD_eq_getLast?, List.getLast?_eq_getElem?, hdl, List.getD_eq_getElem?_getD, show rows.length - 1 = i' by omega]
          rw [this, hg]; exact c9
        · have := c6 j hj
          unfold qv at this
          rw [hz j hj] at this
          rw [sumN_congr (g := fun i => qv late (many + i) * qv (rows.getD i []) j) (fun t _ => by unfold qv; rw [hg])]
          exact this.symm
      · have K' : Kp rows many (i' + 1) kept := by
          refine ⟨K.len, K.piv, K.rel, fun e he t h1 h2 => K.trail e he t (by omega) h2, K.tri, fun k hk => ?_⟩
          by_cases e : k = i'
          · subst e
            refine InSpan.congr (fun j hj => ?_) (InSpan.lin (1 / α) 0 c5' (InSpan.zero kept))
            have : qv late j = 0 := by unfold qv; rw [hz j hj]; rfl
            show (1 / α) * (α * qv (rows.getD k []) j - qv late j) + 0 * 0 = _
            rw [this]; exact rD c4
          · exact K.span k (by omega)
        obtain ⟨r1, r2⟩ := relGo_ok hrl hn hF bi τ hbi hτ hf r (i' + 1) kept e2 (by omega) (by omega) K' (BdK.mono hb (by omega))
        refine ⟨⟨c8, by omega, by omega, by omega, fun z => absurd z hfp, fun _ _ => r1⟩, ?_⟩
        rw [if_neg hlast]
        revert r2
        cases relGo rows.length many r kept with
        | some f => exact fun h => h
        | none => exact fun h _ => h (by omega)
end K45


set_option Elab.async false
set_option linter.all false
set_option maxRecDepth 100000
set_option maxHeartbeats 4000000
namespace K45
open PySem L2 Dat
def IsSol (row : List Int) (m : Nat) (x : Nat → Rat) : Prop := ∀ i, i < row.length - m → sumN (fun j => x j * qv row (i + j)) m = qv row (i + m)
theorem cut_get {row : List Int} {i k j : Nat} (h : j < k) : ((row.drop i).take k).getD j 0 = row.getD (i + j) 0 := by
  rw [List.getD_eq_getElem?_getD, List.getElem?_take, if_pos h, List.getElem?_drop, List.getD_eq_getElem?_getD]
def bi (m i : Nat) : Nat := if m = 6 ∧ i = 0 then 13 else 32
def tau (m : Nat) : Nat → Nat
  | 0 => 0
  | i + 1 => 2 * tau m i + bi m i + 1
theorem bi_fin : ∀ m < 7, ∀ i < m + 1, bi m i + tau m i ≤ 1919 := by decide
theorem win_get {row : List Int} {m i : Nat} (h : i < m + 1) : (windows row m).getD i [] = (row.drop i).take (row.length - m) := by
  unfold windows
  rw [List.getD_eq_getElem?_getD, List.getElem?_map, List.getElem?_range h]; rfl
theorem rel_spec {row : List Int} {m : Nat} (hg : RowGood row) (hm : 2 * m ≤ row.length) : RelOk (windows row m) (row.length - m) ∧ match relationOf (windows row m) (row.length - m) with
    | some f => f.length = m + 1 ∧ f.getLastD 0 ≠ 0 ∧ (∀ j, j < row.length - m → sumN (fun t => qv f t * qv row (j + t)) (m + 1) = 0) ∧ Bnd 1919 f
    | none => ∀ c, ¬IsSol row m c := by
  obtain ⟨h1, h2, h3⟩ := hg
  have hwl : (windows row m).length = m + 1 := by simp [windows]
  have hrl : ∀ r ∈ windows row m, r.length = row.length - m := fun r hr => by
    obtain ⟨i, hi, rfl⟩ := List.mem_map.mp hr
    rw [List.mem_range] at hi
    rw [List.length_take, List.length_drop]; omega
  have hq : ∀ i j, i < m + 1 → j < row.length - m → qv ((windows row m).getD i []) j = qv row (j + i) := fun i j hi hj => by
    unfold qv
    rw [win_get hi, cut_get hj, Nat.add_comm]
  have hb : ∀ i, i < (windows row m).length → Bnd (bi m i) ((windows row m).getD i [] ++ unit (windows row m).length i) := fun i hi x hx => by
    rw [hwl] at hi
    rcases List.mem_append.mp hx with hx | hx
    · rw [win_get hi] at hx
      unfold bi
      split
      · rename_i e
        obtain ⟨rfl, rfl⟩ := e
        rw [List.drop_zero, show row.length - 6 = 6 by omega] at hx
        exact h3 x hx
      · exact h2 x (List.mem_of_mem_drop (List.mem_of_mem_take hx))
    · have : x.natAbs < 2 ^ 13 := by
        unfold unit at hx
        obtain ⟨j, _, rfl⟩ := List.mem_map.mp hx
        split <;> decide
      unfold bi
      split
      · exact this
      · exact bits_mono this (by decide)
  obtain ⟨r1, r2⟩ := relGo_ok (rows := windows row m) (many := row.length - m) (F := 1919) hrl (by omega) (by decide) (bi m) (tau m) hb (fun i _ => Nat.le_refl _) (fun i hi => bi_fin m (by omega) i (by omega)) (windows row m).zipIdx 0 [] rfl (Nat.zero_le _) (Nat.zero_le _)
    ⟨by simp, by simp, by simp, by simp, trivial, fun k hk => absurd hk (Nat.not_lt_zero _)⟩ trivial
  refine ⟨⟨by omega, by omega, r1⟩, ?_⟩
  have e : relationOf (windows row m) (row.length - m) = relGo (windows row m).length (row.length - m) (windows row m).zipIdx [] := rfl
  rw [e]
  revert r2
  cases relGo (windows row m).length (row.length - m) (windows row m).zipIdx [] with
  | some f =>
    rintro ⟨a1, a2, a3, a4⟩
    refine ⟨by omega, a2, fun j hj => ?_, a4⟩
    rw [← a3 j hj, hwl]
    exact sumN_congr fun t ht => by rw [hq t j ht hj]
  | none =>
    intro h c hc
    refine h (by omega) c fun j hj => ?_
    rw [hwl, Nat.add_sub_cancel, hq m j (by omega) hj, ← hc j hj]
    exact sumN_congr fun t ht => by rw [hq t j (by omega) hj]
theorem law_spec {row : List Int} {m : Nat} (hg : RowGood row) (hm : 2 * m ≤ row.length) : SolOk (lawLines row m) m ∧ match solved (lawLines row m) m with
    | some f => f.length = m ∧ IsSol row m (fOf f)
    | none => ∀ c, ¬IsSol row m c := by
  obtain ⟨h1, h2, h3⟩ := hg
  have hl : ∀ l ∈ lawLines row m, l.length = m + 1 := fun l hl => by
    obtain ⟨i, hi, rfl⟩ := List.mem_map.mp hl
    rw [List.mem_range] at hi
    rw [List.length_take, List.length_drop]; omega
  have hlen : (lawLines row m).length = row.length - m := by simp [lawLines]
  have hiff : ∀ x, Sol' m x ((lawLines row m).map fun l => l.map fun (x : Int) => (x : Rat)) ↔ IsSol row m x := fun x => by
    have hk : ∀ k, k < row.length - m → ∀ j, j < m + 1 → (((lawLines row m).map fun l => l.map fun (x : Int) => (x : Rat)).getD k []).getD j 0 = qv row (k + j) := fun k hk j hj => by
      rw [getD_map (a := []) (by omega)]
      have e : (lawLines row m).getD k [] = (row.drop k).take (m + 1) := by
        unfold lawLines
        rw [List.getD_eq_getElem?_getD, List.getElem?_map, List.getElem?_range hk]; rfl
      rw [e, getD_map (a := 0) (by rw [List.length_take, List.length_drop]; omega), cut_get hj]; rfl
    constructor
    · intro s i hi
      have := s i (by rw [List.length_map, hlen]; exact hi)
      unfold Eqn at this
      rw [hk i hi m (by omega)] at this
      rw [← this]
      exact sumN_congr fun j hj => by rw [hk i hi j (by omega)]
    · intro s i hi
      rw [List.length_map, hlen] at hi
      unfold Eqn
      rw [hk i hi m (by omega), ← s i hi]
      exact sumN_congr fun j hj => by rw [hk i hi j (by omega)]
  refine ⟨solOk (by omega) (by omega) hl fun l hl => ?_, ?_⟩
  · obtain ⟨i, hi, rfl⟩ := List.mem_map.mp hl
    exact fun x hx => h2 x (List.mem_of_mem_drop (List.mem_of_mem_take hx))
  · have := solved_ok hl
    revert this
    cases solved (lawLines row m) m with
    | some f => rintro ⟨a, b⟩; exact ⟨a, (hiff _).mp b⟩
    | none => intro h c hc; exact h c ((hiff c).mpr hc)
end K45


set_option Elab.async false
set_option linter.all false
set_option maxRecDepth 100000
set_option maxHeartbeats 4000000
namespace K45
open PySem L2 Dat
theorem sumN_swap (w c : Nat → Rat) (r : Nat → Rat) (m : Nat) : ∀ n : Nat, sumN (fun k => w k * sumN (fun j => c j * r (k + j)) m) n = sumN (fun j => c j * sumN (fun k => w k * r (j + k)) n) m
  | 0 => by
    show (0 : Rat) = _
    exact (sumN_zero fun j _ => by show c j * (0 : Rat) = 0; grind).symm
  | n + 1 => by
    have ih := sumN_swap w c r m n
    have e : sumN (fun j => c j * sumN (fun k => w k * r (j + k)) (n + 1)) m = sumN (fun j => c j * sumN (fun k => w k * r (j + k)) n + w n * (c j * r (n + j))) m :=
      sumN_congr fun j _ => by
        show c j * (sumN (fun k => w k * r (j + k)) n + w n * r (j + n)) = _
        rw [Nat.add_comm j n]
        generalize sumN (fun k => w k * r (j + k)) n = z
        grind
    rw [e, sumN_add, sumN_mul, ← ih]
    rfl
theorem sumN_cut {f : Nat → Rat} {n : Nat} : ∀ {m : Nat}, n ≤ m → (∀ k, n ≤ k → k < m → f k = 0) → sumN f m = sumN f n
  | 0, h, _ => by
    have : n = 0 := by omega
    subst this; rfl
  | m + 1, h, hz => by
    by_cases e : n = m + 1
    · subst e; rfl
    · show sumN f m + f m = _
      rw [sumN_cut (m := m) (by omega) fun k h1 h2 => hz k h1 (by omega), hz m (by omega) (by omega)]
      grind
theorem greatest {w : Nat → Rat} : ∀ {m : Nat}, (∃ j, j < m ∧ w j ≠ 0) → ∃ t, t < m ∧ w t ≠ 0 ∧ ∀ j, t < j → j < m → w j = 0
  | 0, ⟨j, h, _⟩ => absurd h (Nat.not_lt_zero _)
  | m + 1, ⟨j, h, hj⟩ => by
    by_cases e : w m = 0
    · have hjm : j ≠ m := fun z => hj (by rw [z]; exact e)
      obtain ⟨t, h1, h2, h3⟩ := greatest (m := m) ⟨j, by omega, hj⟩
      refine ⟨t, by omega, h2, fun k hk1 hk2 => ?_⟩
      by_cases z : k = m
      · rw [z]; exact e
      · exact h3 k hk1 (by omega)
    · exact ⟨m, by omega, e, fun k h1 h2 => absurd h1 (by omega)⟩
/-- at the least length there is one solution -/
theorem uniq {row : List Int} {m : Nat} {c d : Nat → Rat} (hm : 2 * m ≤ row.length) (hc : IsSol row m c) (hd : IsSol row m d) (hmin : ∀ t, t < m → ∀ x, ¬IsSol row t x) : ∀ j, j < m → c j = d j := by
  intro j hj
  refine Classical.byContradiction fun hne => ?_
  obtain ⟨t, ht, ht0, htz⟩ := greatest (w := fun j => c j - d j) (m := m) ⟨j, hj, by grind⟩
  have E0 : ∀ i, i < row.length - m → sumN (fun k => (c k - d k) * qv row (i + k)) (t + 1) = 0 := fun i hi => by
    rw [← sumN_cut (m := m) (n := t + 1) (by omega) fun k h1 h2 => by
      have h3 : c k - d k = 0 := htz k (by omega) h2
      rw [h3]; grind]
    have h1 := hc i hi
    have h2 := hd i hi
    rw [sumN_congr (g := fun k => c k * qv row (i + k) + (-1) * (d k * qv row (i + k))) (fun k _ => by grind), sumN_add, sumN_mul, h1, h2]
    grind
  have E : ∀ i, i < row.length - t → sumN (fun k => (c k - d k) * qv row (i + k)) (t + 1) = 0 := fun i => by
    induction i using Nat.strongRecOn with
    | _ i ih =>
      intro hi
      by_cases h : i < row.length - m
      · exact E0 i h
      · have e1 : sumN (fun k => (c k - d k) * qv row (i + k)) (t + 1) = sumN (fun k => (c k - d k) * sumN (fun j => c j * qv row (i - m + (k + j))) m) (t + 1) := sumN_congr fun k hk => by
          rw [show i + k = (i - m + k) + m by omega, ← hc (i - m + k) (by omega)]
          rw [sumN_congr (g := fun j => c j * qv row (i - m + (k + j))) fun j _ => by rw [Nat.add_assoc]]
        rw [e1, sumN_swap (fun k => c k - d k) c (fun x => qv row (i - m + x)) m (t + 1)]
        refine sumN_zero fun j hj => ?_
        rw [sumN_congr (g := fun k => (c k - d k) * qv row (i - m + j + k)) fun k _ => by rw [Nat.add_assoc], ih (i - m + j) (by omega) (by omega)]
        grind
  refine hmin t ht (fun k => -((c k - d k) / (c t - d t))) fun i hi => ?_
  have h := E i hi
  have e2 : sumN (fun k => (c k - d k) * qv row (i + k)) (t + 1) = sumN (fun k => (c k - d k) * qv row (i + k)) t + (c t - d t) * qv row (i + t) := rfl
  rw [e2] at h
  rw [sumN_congr (g := fun k => (-(1 / (c t - d t))) * ((c k - d k) * qv row (i + k))) fun k _ => by grind, sumN_mul]
  generalize sumN (fun k => (c k - d k) * qv row (i + k)) t = z at h
  have ht0 : c t - d t ≠ 0 := ht0
  grind
end K45


set_option Elab.async false
set_option linter.all false
set_option maxRecDepth 100000
set_option maxHeartbeats 4000000
namespace K45
open PySem L2 Dat
theorem quot_ok {p q : Int} (hq : q ≠ 0) : (p.fmod q == 0) = ((Rat.divInt (-p) q).den == 1) ∧ (p.fmod q = 0 → (-p).fdiv q = (Rat.divInt (-p) q).num) := by
  have hiff : p.fmod q = 0 ↔ (Rat.divInt (-p) q).den = 1 := by
    constructor
    · intro h
      obtain ⟨k, rfl⟩ := Int.dvd_of_fmod_eq_zero h
      have : Rat.divInt (-(q * k)) q = ((-k : Int) : Rat) := by
        rw [Rat.divInt_eq_div]
        have hq' : (q : Rat) ≠ 0 := fun y => hq (Rat.intCast_eq_zero_iff.mp y)
        rw [show -(q * k) = q * (-k) by rw [Int.mul_neg], Rat.intCast_mul]
        grind
      rw [this]; rfl
    · intro h
      have h1 : Rat.divInt (-p) q = (((Rat.divInt (-p) q).num : Int) : Rat) := by
        have := Rat.num_divInt_den (Rat.divInt (-p) q)
        rw [h] at this
        rw [← this]
        conv => rhs; rw [this]
        rw [Rat.divInt_eq_div]; grind
      have hq' : (q : Rat) ≠ 0 := fun y => hq (Rat.intCast_eq_zero_iff.mp y)
      rw [Rat.divInt_eq_div] at h1
      have h2 : ((-p : Int) : Rat) = (((Rat.divInt (-p) q).num * q : Int) : Rat) := by
        rw [Rat.intCast_mul]
        rw [Rat.divInt_eq_div]
        grind
      have h3 := Rat.intCast_inj.mp h2
      exact Int.fmod_eq_zero_of_dvd ⟨-(Rat.divInt (-p) q).num, by rw [Int.mul_neg, Int.mul_comm q, ← h3, Int.neg_neg]⟩
  refine ⟨?_, fun h => ?_⟩
  · rw [Bool.eq_iff_iff, beq_iff_eq, beq_iff_eq]; exact hiff
  · obtain ⟨k, rfl⟩ := Int.dvd_of_fmod_eq_zero h
    have : Rat.divInt (-(q * k)) q = ((-k : Int) : Rat) := by
      rw [Rat.divInt_eq_div]
      have hq' : (q : Rat) ≠ 0 := fun y => hq (Rat.intCast_eq_zero_iff.mp y)
      rw [show -(q * k) = q * (-k) by rw [Int.mul_neg], Rat.intCast_mul]
      grind
    rw [this, show -(q * k) = q * (-k) by rw [Int.mul_neg], Int.mul_fdiv_cancel_left _ hq]; rfl
theorem out_ok {f : List Int} {g : List Rat} {m : Nat} (hf : f.length = m + 1) (hl : f.getLastD 0 ≠ 0) (hg : g.length = m) (h : ∀ j, j < m → g.getD j 0 = Rat.divInt (-(f.getD j 0)) (f.getLastD 0)) : recOut f = leastOut g ∧ ∀ c, leastOut g = some c → c.length = m ∧ (∀ x ∈ c, ∃ y ∈ f, x.natAbs ≤ y.natAbs) ∧ ∀ j, j < m → qv c j = g.getD j 0 := by
  have hne : f ≠ [] := fun z => by rw [z] at hf; cases hf
  have hsplit : f = f.dropLast ++ [f.getLastD 0] := by
    rw [List.getLastD_eq_getLast?, List.getLast?_eq_getLast hne]
    exact (List.dropLast_concat_getLast hne).symm
  have hdl : f.dropLast.length = m := by rw [List.length_dropLast]; omega
  have hget : ∀ j, j < m → f.getD j 0 = f.dropLast.getD j 0 := fun j hj => by
    conv => lhs; rw [hsplit]
    rw [List.getD_eq_getElem?_getD, List.getElem?_append_left (by omega), ← List.getD_eq_getElem?_getD]
  have hgm : g = f.dropLast.map fun x => Rat.divInt (-x) (f.getLastD 0) := by
    apply List.ext_getElem?
    intro j
    by_cases hj : j < m
    · have := h j hj
      rw [hget j hj] at this
      rw [List.getD_eq_getElem?_getD, List.getElem?_eq_getElem (by omega), List.getD_eq_getElem?_getD, List.getElem?_eq_getElem (by omega)] at this
      rw [List.getElem?_map, List.getElem?_eq_getElem (by omega), List.getElem?_eq_getElem (by omega)]
      exact congrArg some this
    · rw [List.getElem?_eq_none (by omega), List.getElem?_eq_none (by rw [List.length_map]; omega)]
  unfold recOut
  revert hl hsplit hgm hget
  generalize f.getLastD 0 = q
  intro hl hsplit hget hgm
  have hall : f.all (fun x => x.fmod q == 0) = g.all (fun c => c.den == 1) := by
    rw [hgm, List.all_map]
    conv => lhs; rw [hsplit]
    rw [List.all_append]
    simp only [List.all_cons, List.all_nil, Bool.and_true]
    rw [show (q.fmod q == 0) = true by rw [beq_iff_eq]; exact Int.fmod_self, Bool.and_true]
    congr 1
    funext x
    exact (quot_ok hl).1
  by_cases hA : f.all (fun x => x.fmod q == 0) = true
  · have hdiv : ∀ x ∈ f.dropLast, x.fmod q = 0 := fun x hx => by
      have := List.all_eq_true.mp hA x (List.dropLast_subset _ hx)
      exact beq_iff_eq.mp this
    have hmap : (f.dropLast.map fun x => (-x).fdiv q) = g.map (·.num) := by
      rw [hgm, List.map_map]
      exact List.map_congr_left fun x hx => (quot_ok hl).2 (hdiv x hx)
    have e1 : leastOut g = some (g.map (·.num)) := if_pos (by rw [← hall]; exact hA)
    have e2 : (if f.all (fun x => x.fmod q == 0) = true then some (f.dropLast.map fun x => (-x).fdiv q) else none) = leastOut g := by
      rw [if_pos hA, hmap, e1]
    refine ⟨e2, fun c hc => ?_⟩
    rw [e1] at hc
    cases hc
    refine ⟨by rw [List.length_map]; exact hg, fun x hx => ?_, fun j hj => ?_⟩
    · rw [← hmap] at hx
      obtain ⟨y, hy, rfl⟩ := List.mem_map.mp hx
      refine ⟨y, List.dropLast_subset _ hy, ?_⟩
      obtain ⟨k, rfl⟩ := Int.dvd_of_fmod_eq_zero (hdiv y hy)
      rw [show -(q * k) = q * (-k) by rw [Int.mul_neg], Int.mul_fdiv_cancel_left _ hl, Int.natAbs_neg, Int.natAbs_mul]
      exact Nat.le_mul_of_pos_left _ (by omega)
    · have hd : (g.getD j 0).den = 1 := by
        have := List.all_eq_true.mp (hall ▸ hA) _ (getD_mem (d := 0) (show j < g.length by omega))
        exact beq_iff_eq.mp this
      unfold qv
      rw [getD_map (a := 0) (by omega)]
      have := Rat.num_divInt_den (g.getD j 0)
      rw [hd] at this
      conv => rhs; rw [← this]
      rw [Rat.divInt_eq_div]
      generalize ((g.getD j 0).num : Rat) = z
      grind
  · have e1 : leastOut g = none := if_neg (by rw [← hall]; exact hA)
    have e2 : (if f.all (fun x => x.fmod q == 0) = true then some (f.dropLast.map fun x => (-x).fdiv q) else none) = leastOut g := by
      rw [if_neg hA, e1]
    exact ⟨e2, fun c hc => by rw [e1] at hc; cases hc⟩
end K45


set_option Elab.async false
set_option linter.all false
set_option maxRecDepth 100000
set_option maxHeartbeats 4000000
namespace K45
open PySem L2 Dat
theorem sumN_shift (f : Nat → Rat) : ∀ n : Nat, sumN f (n + 1) = f 0 + sumN (fun j => f (j + 1)) n
  | 0 => by show (0 : Rat) + f 0 = f 0 + 0; grind
  | n + 1 => by
    show sumN f (n + 1) + f (n + 1) = f 0 + (sumN (fun j => f (j + 1)) n + f (n + 1))
    rw [sumN_shift f n]; grind
theorem dot_sum : ∀ (c ws : List Int), c.length = ws.length → ((((c.zip ws).map fun (p : Int × Int) => p.1 * p.2).sum : Int) : Rat) = sumN (fun j => qv c j * qv ws j) c.length
  | [], _, _ => rfl
  | x :: c, [], h => by cases h
  | x :: c, y :: ws, h => by
    have ih := dot_sum c ws (by simpa using h)
    rw [List.zip_cons_cons, List.map_cons, List.sum_cons, List.length_cons, sumN_shift, Rat.intCast_add, ih]
    show ((x * y : Int) : Rat) + _ = qv (x :: c) 0 * qv (y :: ws) 0 + _
    rw [Rat.intCast_mul]; rfl
theorem rJ {a q z : Rat} : (-a) / q * z = (-(1 / q)) * (a * z) := by grind
theorem rK {q z r : Rat} (hq : q ≠ 0) (h : z + q * r = 0) : (-(1 / q)) * z = r := by grind
theorem go_ok {row : List Int} (hg : RowGood row) : ∀ (n k : Nat), k + n = row.length / 2 + 1 → (∀ t, t < k → ∀ x, ¬IsSol row t x) →
    RecGoOk row (List.range' k n) ∧ LeastGoOk row (List.range' k n) ∧ recGo row (List.range' k n) = leastGo row (List.range' k n) ∧ ∀ c, leastGo row (List.range' k n) = some c → 2 * c.length ≤ row.length ∧ (∀ x ∈ c, x.natAbs < 2 ^ 1919) ∧ IsSol row c.length (qv c)
  | 0, k, _, _ => ⟨trivial, trivial, rfl, fun c h => by cases h⟩
  | n + 1, k, e, hmin => by
    have hk : 2 * k ≤ row.length := by omega
    obtain ⟨p1, p2⟩ := rel_spec hg hk
    obtain ⟨l1, l2⟩ := law_spec hg hk
    have hl := hg.1
    rw [List.range'_succ]
    have g1 : recGo row (k :: List.range' (k + 1) n) = match relationOf (windows row k) (row.length - k) with
      | some f => recOut f
      | none => recGo row (List.range' (k + 1) n) := rfl
    have g2 : leastGo row (k :: List.range' (k + 1) n) = match solved (lawLines row k) k with
      | some f => leastOut f
      | none => leastGo row (List.range' (k + 1) n) := rfl
    have g3 : RecGoOk row (k :: List.range' (k + 1) n) = (k ≤ row.length ∧ RelOk (windows row k) (row.length - k) ∧ match relationOf (windows row k) (row.length - k) with
      | some f => f ≠ [] ∧ f.length ≤ 1000 ∧ f.getLastD 0 ≠ 0 ∧ Bnd dl f
      | none => RecGoOk row (List.range' (k + 1) n)) := rfl
    have g4 : LeastGoOk row (k :: List.range' (k + 1) n) = (k ≤ row.length ∧ SolOk (lawLines row k) k ∧ match solved (lawLines row k) k with
      | some f => f.length ≤ 1000
      | none => LeastGoOk row (List.range' (k + 1) n)) := rfl
    rw [g1, g2, g3, g4]
    revert p2 l2
    cases relationOf (windows row k) (row.length - k) with
    | none =>
      cases solved (lawLines row k) k with
      | none =>
        intro p2 l2
        obtain ⟨r1, r2, r3, r4⟩ := go_ok hg n (k + 1) (by omega) fun t ht x hx => by
          by_cases z : t = k
          · subst z; exact l2 x hx
          · exact hmin t (by omega) x hx
        exact ⟨⟨by omega, p1, r1⟩, ⟨by omega, l1, r2⟩, r3, r4⟩
      | some g => intro p2 l2; exact absurd l2.2 (p2 _)
    | some f =>
      intro p2
      obtain ⟨f1, f2, f3, f4⟩ := p2
      have hq : ((f.getLastD 0 : Int) : Rat) ≠ 0 := fun y => f2 (Rat.intCast_eq_zero_iff.mp y)
      have hlast : f.getD k 0 = f.getLastD 0 := by
        rw [List.getLastD_eq_getLast?, List.getLast?_eq_getElem?, f1, List.getD_eq_getElem?_getD, Nat.add_sub_cancel]
      have hsol : IsSol row k fun t => Rat.divInt (-(f.getD t 0)) (f.getLastD 0) := fun i hi => by
        have h := f3 i hi
        have e2 : sumN (fun t => qv f t * qv row (i + t)) (k + 1) = sumN (fun t => qv f t * qv row (i + t)) k + qv f k * qv row (i + k) := rfl
        rw [e2] at h
        rw [sumN_congr (g := fun t => (-(1 / ((f.getLastD 0 : Int) : Rat))) * (qv f t * qv row (i + t))) fun t _ => by
          show Rat.divInt (-(f.getD t 0)) (f.getLastD 0) * qv row (i + t) = _
          rw [Rat.divInt_eq_div, Rat.intCast_neg]
          exact rJ, sumN_mul]
        have e3 : qv f k = ((f.getLastD 0 : Int) : Rat) := by unfold qv; rw [hlast]
        rw [e3] at h
        generalize sumN (fun t => qv f t * qv row (i + t)) k = z at h
        exact rK hq h
      cases solved (lawLines row k) k with
      | none => intro l2; exact absurd hsol (l2 _)
      | some g =>
        rintro ⟨l2, l3⟩
        have hu := uniq hk l3 hsol hmin
        obtain ⟨o1, o2⟩ := out_ok (m := k) f1 f2 l2 fun j hj => hu j hj
        have hne : f ≠ [] := fun z => by rw [z] at f1; cases f1
        refine ⟨⟨by omega, p1, hne, by omega, f2, fun x hx => bits_mono (f4 x hx) (by decide)⟩, ⟨by omega, l1, by show g.length ≤ 1000; omega⟩, o1, fun c hc => ?_⟩
        obtain ⟨c1, c2, c3⟩ := o2 c hc
        refine ⟨by omega, fun x hx => ?_, ?_⟩
        · obtain ⟨y, hy, hxy⟩ := c2 x hx
          exact Nat.lt_of_le_of_lt hxy (f4 y hy)
        · rw [c1]
          intro i hi
          rw [← l3 i hi]
          exact sumN_congr fun j hj => by rw [c3 j hj]; rfl
theorem facts : ∀ row, RowGood row → Fact row := by
  intro row hg
  obtain ⟨h1, h2, h3, h4⟩ := go_ok hg (row.length / 2 + 1) 0 (by omega) fun t ht => absurd ht (Nat.not_lt_zero _)
  rw [← List.range_eq_range'] at h1 h2 h3 h4
  have hl := hg.1
  refine ⟨⟨by omega, h1⟩, ⟨by omega, h2⟩, h3, fun c hc => ?_⟩
  obtain ⟨c1, c2, c3⟩ := h4 c hc
  refine ⟨c1, c2, fun i hi1 hi2 => ?_⟩
  have hw : ((row.drop (i - c.length)).take (i - (i - c.length))).length = c.length := by rw [List.length_take, List.length_drop]; omega
  have := dot_sum c _ hw.symm
  apply Rat.intCast_inj.mp
  rw [this]
  have h5 := c3 (i - c.length) (by omega)
  rw [show i - c.length + c.length = i by omega] at h5
  show _ = qv row i
  rw [← h5]
  exact sumN_congr fun j hj => by
    have : qv ((row.drop (i - c.length)).take (i - (i - c.length))) j = qv row (i - c.length + j) := by
      unfold qv; rw [cut_get (by omega)]
    rw [this]
end K45


set_option Elab.async false
set_option linter.all false
set_option maxRecDepth 100000
set_option maxHeartbeats 4000000
/-! the end of K45, printed by asm.py -/
namespace K45
open PySem L2 Dat
section
variable {P : Program} {w : World} {K : PySem.W.Frag} {mg : Str → Option Value} {base : Heap}
theorem all_law {f_first_place : Addr} {d_first_place : FuncData} (F_first_place_ : Fun K "first_place" "first_place" st_first_place f_first_place d_first_place) (g_first_place : mg "first_place" = some (.ref f_first_place)) {f_lowered : Addr} {d_lowered : FuncData} (F_lowered_ : Fun K "lowered" "lowered" st_lowered f_lowered d_lowered) (g_lowered : mg "lowered" = some (.ref f_lowered)) {f_cleared : Addr} {d_cleared : FuncData} (F_cleared_ : Fun K "cleared" "cleared" st_cleared f_cleared d_cleared) (g_cleared : mg "cleared" = some (.ref f_cleared)) {f_relation_of : Addr} {d_relation_of : FuncData} (F_relation_of_ : Fun K "relation_of" "relation_of" st_relation_of f_relation_of d_relation_of) (g_relation_of : mg "relation_of" = some (.ref f_relation_of)) {f_recurrence_of : Addr} {d_recurrence_of : FuncData} (F_recurrence_of_ : Fun K "recurrence_of" "recurrence_of" st_recurrence_of f_recurrence_of d_recurrence_of) (g_recurrence_of : mg "recurrence_of" = some (.ref f_recurrence_of)) {f_law_open_cells : Addr} {d_law_open_cells : FuncData} (F_law_open_cells_ : Fun K "_law_open_cells" "_law_open_cells" st_law_open_cells f_law_open_cells d_law_open_cells) (g_law_open_cells : mg "_law_open_cells" = some (.ref f_law_open_cells)) {f_law_pick : Addr} {d_law_pick : FuncData} (F_law_pick_ : Fun K "_law_pick" "_law_pick" st_law_pick f_law_pick d_law_pick) (g_law_pick : mg "_law_pick" = some (.ref f_law_pick)) {f_law_of : Addr} {d_law_of : FuncData} (F_law_of_ : Fun K "_law_of" "_law_of" st_law_of f_law_of d_law_of) (g_law_of : mg "_law_of" = some (.ref f_law_of)) {f_law_low : Addr} {d_law_low : FuncData} (F_law_low_ : Fun K "_law_low" "_law_low" st_law_low f_law_low d_law_low) (g_law_low : mg "_law_low" = some (.ref f_law_low)) {f_law_less : Addr} {d_law_less : FuncData} (F_law_less_ : Fun K "_law_less" "_law_less" st_law_less f_law_less d_law_less) (g_law_less : mg "_law_less" = some (.ref f_law_less)) {f_law_solved : Addr} {d_law_solved : FuncData} (F_law_solved_ : Fun K "_law_solved" "_law_solved" st_law_solved f_law_solved d_law_solved) (g_law_solved : mg "_law_solved" = some (.ref f_law_solved)) {f_law_least : Addr} {d_law_least : FuncData} (F_law_least_ : Fun K "_law_least" "_law_least" st_law_least f_law_least d_law_least) (g_law_least : mg "_law_least" = some (.ref f_law_least)) {f_law_row : Addr} {d_law_row : FuncData} (F_law_row_ : Fun K "_law_row" "_law_row" st_law_row f_law_row d_law_row) (g_law_row : mg "_law_row" = some (.ref f_law_row)) {f : Addr} {fd : FuncData} (F : Fun K "law" "law" st_law f fd) (bl : Bl mg) : Kept P w K mg base f fd "script" 63 := by
  have b_first_place : Binds K d_first_place ["row"] [] := F_first_place_.binds fun _ _ _ _ _ _ us hl => match us, hl with | [_], _ => rfl
  have G_first_place : FnOk P w K mg base CX0 1 f_first_place d_first_place ["row"] (spD K 1 C_first_place) := okD F_first_place_ sc_first_place rfl (by decide) (fun cdv A outer s H E hr => w_first_place (k := 0) bl  cdv A outer s H E hr) (fun as Φ hl c => m_first_place as Φ hl c)
  have c_first_place : Cal P w K mg base 1 "first_place" 1 C_first_place := ⟨⟨f_first_place, d_first_place, _, G_first_place, g_first_place, F_first_place_.kp, b_first_place⟩⟩
  have b_lowered : Binds K d_lowered ["row"] [] := F_lowered_.binds fun _ _ _ _ _ _ us hl => match us, hl with | [_], _ => rfl
  have G_lowered : FnOk P w K mg base CX0 1 f_lowered d_lowered ["row"] (spD K 1 C_lowered) := okD F_lowered_ sc_lowered rfl (by decide) (fun cdv A outer s H E hr => w_lowered (k := 0) bl  cdv A outer s H E hr) (fun as Φ hl c => m_lowered as Φ hl c)
  have c_lowered : Cal P w K mg base 1 "lowered" 1 C_lowered := ⟨⟨f_lowered, d_lowered, _, G_lowered, g_lowered, F_lowered_.kp, b_lowered⟩⟩
  have b_law_open_cells : Binds K d_law_open_cells ["script"] [] := F_law_open_cells_.binds fun _ _ _ _ _ _ us hl => match us, hl with | [_], _ => rfl
  have G_law_open_cells : FnOk P w K mg base CX0 1 f_law_open_cells d_law_open_cells ["script"] (spO K) := ok_law_open_cells F_law_open_cells_ bl.n_int bl.n_abs
  have b_law_pick : Binds K d_law_pick ["source", "most"] [] := F_law_pick_.binds fun _ _ _ _ _ _ us hl => match us, hl with | [_, _], _ => rfl
  have G_law_pick : FnOk P w K mg base CX0 1 f_law_pick d_law_pick ["source", "most"] (spD K 2 C_law_pick) := ok_law_pick F_law_pick_ ⟨bl.n_len, bl.n_int⟩
  have c_law_pick : Cal P w K mg base 1 "_law_pick" 2 C_law_pick := ⟨⟨f_law_pick, d_law_pick, _, G_law_pick, g_law_pick, F_law_pick_.kp, b_law_pick⟩⟩
  have b_law_low : Binds K d_law_low ["p", "q"] [] := F_law_low_.binds fun _ _ _ _ _ _ us hl => match us, hl with | [_, _], _ => rfl
  have G_law_low : FnOk P w K mg base CX0 1 f_law_low d_law_low ["p", "q"] (spD K 2 C_law_low) := okD F_law_low_ sc_law_low rfl (by decide) (fun cdv A outer s H E hr => w_law_low (k := 0) bl  cdv A outer s H E hr) (fun as Φ hl c => m_law_low as Φ hl c)
  have c_law_low : Cal P w K mg base 1 "_law_low" 2 C_law_low := ⟨⟨f_law_low, d_law_low, _, G_law_low, g_law_low, F_law_low_.kp, b_law_low⟩⟩
  have b_cleared : Binds K d_cleared ["rows", "row"] [] := F_cleared_.binds fun _ _ _ _ _ _ us hl => match us, hl with | [_, _], _ => rfl
  have G_cleared : FnOk P w K mg base CX0 2 f_cleared d_cleared ["rows", "row"] (spD K 2 C_cleared) := okD F_cleared_ sc_cleared rfl (by decide) (fun cdv A outer s H E hr => w_cleared (k := 1) bl (c_lowered.mono (by decide)) (c_first_place.mono (by decide)) cdv A outer s H E hr) (fun as Φ hl c => m_cleared as Φ hl c)
  have c_cleared : Cal P w K mg base 2 "cleared" 2 C_cleared := ⟨⟨f_cleared, d_cleared, _, G_cleared, g_cleared, F_cleared_.kp, b_cleared⟩⟩
  have b_law_of : Binds K d_law_of ["source", "some"] [] := F_law_of_.binds fun _ _ _ _ _ _ us hl => match us, hl with | [_, _], _ => rfl
  have G_law_of : FnOk P w K mg base CX0 2 f_law_of d_law_of ["source", "some"] (spD K 2 C_law_of) := okD F_law_of_ sc_law_of rfl (by decide) (fun cdv A outer s H E hr => w_law_of (k := 1) bl (c_law_pick.mono (by decide)) cdv A outer s H E hr) (fun as Φ hl c => m_law_of as Φ hl c)
  have c_law_of : Cal P w K mg base 2 "_law_of" 2 C_law_of := ⟨⟨f_law_of, d_law_of, _, G_law_of, g_law_of, F_law_of_.kp, b_law_of⟩⟩
  have b_law_less : Binds K d_law_less ["a", "c", "b"] [] := F_law_less_.binds fun _ _ _ _ _ _ us hl => match us, hl with | [_, _, _], _ => rfl
  have G_law_less : FnOk P w K mg base CX0 2 f_law_less d_law_less ["a", "c", "b"] (spD K 3 C_law_less) := okD F_law_less_ sc_law_less rfl (by decide) (fun cdv A outer s H E hr => w_law_less (k := 1) bl (c_law_low.mono (by decide)) cdv A outer s H E hr) (fun as Φ hl c => m_law_less as Φ hl c)
  have c_law_less : Cal P w K mg base 2 "_law_less" 3 C_law_less := ⟨⟨f_law_less, d_law_less, _, G_law_less, g_law_less, F_law_less_.kp, b_law_less⟩⟩
  have b_relation_of : Binds K d_relation_of ["rows", "many"] [] := F_relation_of_.binds fun _ _ _ _ _ _ us hl => match us, hl with | [_, _], _ => rfl
  have G_relation_of : FnOk P w K mg base CX0 3 f_relation_of d_relation_of ["rows", "many"] (spD K 2 C_relation_of) := okD F_relation_of_ sc_relation_of rfl (by decide) (fun cdv A outer s H E hr => w_relation_of (k := 2) bl (c_first_place.mono (by decide)) (c_cleared.mono (by decide)) cdv A outer s H E hr) (fun as Φ hl c => m_relation_of as Φ hl c)
  have c_relation_of : Cal P w K mg base 3 "relation_of" 2 C_relation_of := ⟨⟨f_relation_of, d_relation_of, _, G_relation_of, g_relation_of, F_relation_of_.kp, b_relation_of⟩⟩
  have b_law_solved : Binds K d_law_solved ["lines", "many"] [] := F_law_solved_.binds fun _ _ _ _ _ _ us hl => match us, hl with | [_, _], _ => rfl
  have G_law_solved : FnOk P w K mg base CX0 3 f_law_solved d_law_solved ["lines", "many"] (spD K 2 C_law_solved) := okD F_law_solved_ sc_law_solved rfl (by decide) (fun cdv A outer s H E hr => w_law_solved (k := 2) bl (c_law_less.mono (by decide)) (c_law_low.mono (by decide)) cdv A outer s H E hr) (fun as Φ hl c => m_law_solved as Φ hl c)
  have c_law_solved : Cal P w K mg base 3 "_law_solved" 2 C_law_solved := ⟨⟨f_law_solved, d_law_solved, _, G_law_solved, g_law_solved, F_law_solved_.kp, b_law_solved⟩⟩
  have b_law_row : Binds K d_law_row ["source"] [] := F_law_row_.binds fun _ _ _ _ _ _ us hl => match us, hl with | [_], _ => rfl
  have G_law_row : FnOk P w K mg base CX0 3 f_law_row d_law_row ["source"] (spD K 1 C_law_row) := okD F_law_row_ sc_law_row rfl (by decide) (fun cdv A outer s H E hr => w_law_row (k := 2) bl (c_law_pick.mono (by decide)) (c_law_of.mono (by decide)) cdv A outer s H E hr) (fun as Φ hl c => m_law_row as Φ hl c)
  have c_law_row : Cal P w K mg base 3 "_law_row" 1 C_law_row := ⟨⟨f_law_row, d_law_row, _, G_law_row, g_law_row, F_law_row_.kp, b_law_row⟩⟩
  have b_recurrence_of : Binds K d_recurrence_of ["row"] [] := F_recurrence_of_.binds fun _ _ _ _ _ _ us hl => match us, hl with | [_], _ => rfl
  have G_recurrence_of : FnOk P w K mg base CX0 4 f_recurrence_of d_recurrence_of ["row"] (spD K 1 C_recurrence_of) := okD F_recurrence_of_ sc_recurrence_of rfl (by decide) (fun cdv A outer s H E hr => w_recurrence_of (k := 3) bl (c_relation_of.mono (by decide)) cdv A outer s H E hr) (fun as Φ hl c => m_recurrence_of as Φ hl c)
  have c_recurrence_of : Cal P w K mg base 4 "recurrence_of" 1 C_recurrence_of := ⟨⟨f_recurrence_of, d_recurrence_of, _, G_recurrence_of, g_recurrence_of, F_recurrence_of_.kp, b_recurrence_of⟩⟩
  have b_law_least : Binds K d_law_least ["row"] [] := F_law_least_.binds fun _ _ _ _ _ _ us hl => match us, hl with | [_], _ => rfl
  have G_law_least : FnOk P w K mg base CX0 4 f_law_least d_law_least ["row"] (spD K 1 C_law_least) := okD F_law_least_ sc_law_least rfl (by decide) (fun cdv A outer s H E hr => w_law_least (k := 3) bl (c_law_solved.mono (by decide)) cdv A outer s H E hr) (fun as Φ hl c => m_law_least as Φ hl c)
  have c_law_least : Cal P w K mg base 4 "_law_least" 1 C_law_least := ⟨⟨f_law_least, d_law_least, _, G_law_least, g_law_least, F_law_least_.kp, b_law_least⟩⟩
  intro s H a ns e0 hbt hS hl hbits
  refine fn_here (k := 4) (us := [.ref a]) (vs := [.ref a]) F sc_law rfl ⟨rfl, by decide, by decide⟩ e0 hbt (.cons rfl .nil) fun cdv hr => ?_
  refine ⟨_, PSs.nox (pss_cons (ps_set (i := 1) sc_law.nd rfl (by first | exact .inl rfl | exact .inr rfl) (pe_call G_law_open_cells (hr.mono (by decide)) (by rfl) g_law_open_cells F_law_open_cells_.kp b_law_open_cells .nil pass0 (pa_cons (pv 0) pa_nil)))
    (w_law (k := 4) bl (c_recurrence_of.mono (by decide)) (c_law_least.mono (by decide)) (c_law_pick.mono (by decide)) (c_law_of.mono (by decide)) (c_law_row.mono (by decide)) cdv callerA [] s H E0 rfl hr)), ?_⟩
  refine ⟨_, rfl, ?_⟩
  refine ⟨a, ns, rfl, hS, hl, hbits, fun H' p c cs l m hs hp hc hpc h1 h2 h3 => ?_⟩
  refine ⟨(fun _ => none, H'), some (p, c, 1000), .un :: .sr 0 1000 :: List.replicate 14 .un, fun _ => none, { nx := fun _ => PyData.none = .bool true, rt := fun d => d = .bool true }, ?_, ?_, ?_⟩
  · exact law_start hpc h1 h2 h3 rfl rfl
  · exact m_law facts (fun d => d = .bool true) rfl
  · refine ⟨fun ρ σ G H q _ => (nomatch q), fun d v ρ σ G H q _ t => ?_, fun _ _ _ _ q _ => False.elim q, fun _ _ _ _ q _ => False.elim q⟩
    subst q
    cases t
    rfl
end
theorem all_mk {l : PySem.W.OpenLaw} {w : World} {K : PySem.W.Frag} {h : Heap} {mg : Str → Option Value} {fa ffirst_place flowered fcleared frelation_of frecurrence_of flaw_open_cells flaw_pick flaw_of flaw_low flaw_less flaw_solved flaw_least flaw_row flaw : Addr} (X : K.In h) (G : h.Ns mainGlobals mg) (hfa : mg "law" = some (.ref fa))
    {od_first_place an_first_place od_lowered an_lowered od_cleared an_cleared od_relation_of an_relation_of od_recurrence_of an_recurrence_of od_law_open_cells an_law_open_cells od_law_pick an_law_pick od_law_of an_law_of od_law_low an_law_low od_law_less an_law_less od_law_solved an_law_solved od_law_least an_law_least od_law_row an_law_row od_law an_law : Option Addr} {sl_first_place sl_lowered sl_cleared sl_relation_of sl_recurrence_of sl_law_open_cells sl_law_pick sl_law_of sl_law_low sl_law_less sl_law_solved sl_law_least sl_law_row sl_law : Array (Option Value)} {oc_first_place kV_first_place dc_first_place pm_first_place cd_first_place ct_first_place oc_lowered kV_lowered dc_lowered pm_lowered cd_lowered ct_lowered oc_cleared kV_cleared dc_cleared pm_cleared cd_cleared ct_cleared oc_relation_of kV_relation_of dc_relation_of pm_relation_of cd_relation_of ct_relation_of oc_recurrence_of kV_recurrence_of dc_recurrence_of pm_recurrence_of cd_recurrence_of ct_recurrence_of oc_law_open_cells kV_law_open_cells dc_law_open_cells pm_law_open_cells cd_law_open_cells ct_law_open_cells oc_law_pick kV_law_pick dc_law_pick pm_law_pick cd_law_pick ct_law_pick oc_law_of kV_law_of dc_law_of pm_law_of cd_law_of ct_law_of oc_law_low kV_law_low dc_law_low pm_law_low cd_law_low ct_law_low oc_law_less kV_law_less dc_law_less pm_law_less cd_law_less ct_law_less oc_law_solved kV_law_solved dc_law_solved pm_law_solved cd_law_solved ct_law_solved oc_law_least kV_law_least dc_law_least pm_law_least cd_law_least ct_law_least oc_law_row kV_law_row dc_law_row pm_law_row cd_law_row ct_law_row oc_law kV_law dc_law pm_law cd_law ct_law : Value}
    (a_first_place : PySem.W.nsIn K mainGlobals "first_place" = some (some (.ref ffirst_place))) (l_first_place : K.lookup ffirst_place = some ⟨oc_first_place, od_first_place, .func (PySem.W.fnOf "first_place" "first_place" (defArgs st_first_place) (defBody st_first_place) (defScope st_first_place) .none kV_first_place dc_first_place pm_first_place an_first_place cd_first_place ct_first_place), sl_first_place⟩) (c_first_place : PySem.W.codeIn K cd_first_place "first_place" = true) (k_first_place : PySem.W.keepIn K (.ref ffirst_place) = true)
    (a_lowered : PySem.W.nsIn K mainGlobals "lowered" = some (some (.ref flowered))) (l_lowered : K.lookup flowered = some ⟨oc_lowered, od_lowered, .func (PySem.W.fnOf "lowered" "lowered" (defArgs st_lowered) (defBody st_lowered) (defScope st_lowered) .none kV_lowered dc_lowered pm_lowered an_lowered cd_lowered ct_lowered), sl_lowered⟩) (c_lowered : PySem.W.codeIn K cd_lowered "lowered" = true) (k_lowered : PySem.W.keepIn K (.ref flowered) = true)
    (a_cleared : PySem.W.nsIn K mainGlobals "cleared" = some (some (.ref fcleared))) (l_cleared : K.lookup fcleared = some ⟨oc_cleared, od_cleared, .func (PySem.W.fnOf "cleared" "cleared" (defArgs st_cleared) (defBody st_cleared) (defScope st_cleared) .none kV_cleared dc_cleared pm_cleared an_cleared cd_cleared ct_cleared), sl_cleared⟩) (c_cleared : PySem.W.codeIn K cd_cleared "cleared" = true) (k_cleared : PySem.W.keepIn K (.ref fcleared) = true)
    (a_relation_of : PySem.W.nsIn K mainGlobals "relation_of" = some (some (.ref frelation_of))) (l_relation_of : K.lookup frelation_of = some ⟨oc_relation_of, od_relation_of, .func (PySem.W.fnOf "relation_of" "relation_of" (defArgs st_relation_of) (defBody st_relation_of) (defScope st_relation_of) .none kV_relation_of dc_relation_of pm_relation_of an_relation_of cd_relation_of ct_relation_of), sl_relation_of⟩) (c_relation_of : PySem.W.codeIn K cd_relation_of "relation_of" = true) (k_relation_of : PySem.W.keepIn K (.ref frelation_of) = true)
    (a_recurrence_of : PySem.W.nsIn K mainGlobals "recurrence_of" = some (some (.ref frecurrence_of))) (l_recurrence_of : K.lookup frecurrence_of = some ⟨oc_recurrence_of, od_recurrence_of, .func (PySem.W.fnOf "recurrence_of" "recurrence_of" (defArgs st_recurrence_of) (defBody st_recurrence_of) (defScope st_recurrence_of) .none kV_recurrence_of dc_recurrence_of pm_recurrence_of an_recurrence_of cd_recurrence_of ct_recurrence_of), sl_recurrence_of⟩) (c_recurrence_of : PySem.W.codeIn K cd_recurrence_of "recurrence_of" = true) (k_recurrence_of : PySem.W.keepIn K (.ref frecurrence_of) = true)
    (a_law_open_cells : PySem.W.nsIn K mainGlobals "_law_open_cells" = some (some (.ref flaw_open_cells))) (l_law_open_cells : K.lookup flaw_open_cells = some ⟨oc_law_open_cells, od_law_open_cells, .func (PySem.W.fnOf "_law_open_cells" "_law_open_cells" (defArgs st_law_open_cells) (defBody st_law_open_cells) (defScope st_law_open_cells) .none kV_law_open_cells dc_law_open_cells pm_law_open_cells an_law_open_cells cd_law_open_cells ct_law_open_cells), sl_law_open_cells⟩) (c_law_open_cells : PySem.W.codeIn K cd_law_open_cells "_law_open_cells" = true) (k_law_open_cells : PySem.W.keepIn K (.ref flaw_open_cells) = true)
    (a_law_pick : PySem.W.nsIn K mainGlobals "_law_pick" = some (some (.ref flaw_pick))) (l_law_pick : K.lookup flaw_pick = some ⟨oc_law_pick, od_law_pick, .func (PySem.W.fnOf "_law_pick" "_law_pick" (defArgs st_law_pick) (defBody st_law_pick) (defScope st_law_pick) .none kV_law_pick dc_law_pick pm_law_pick an_law_pick cd_law_pick ct_law_pick), sl_law_pick⟩) (c_law_pick : PySem.W.codeIn K cd_law_pick "_law_pick" = true) (k_law_pick : PySem.W.keepIn K (.ref flaw_pick) = true)
    (a_law_of : PySem.W.nsIn K mainGlobals "_law_of" = some (some (.ref flaw_of))) (l_law_of : K.lookup flaw_of = some ⟨oc_law_of, od_law_of, .func (PySem.W.fnOf "_law_of" "_law_of" (defArgs st_law_of) (defBody st_law_of) (defScope st_law_of) .none kV_law_of dc_law_of pm_law_of an_law_of cd_law_of ct_law_of), sl_law_of⟩) (c_law_of : PySem.W.codeIn K cd_law_of "_law_of" = true) (k_law_of : PySem.W.keepIn K (.ref flaw_of) = true)
    (a_law_low : PySem.W.nsIn K mainGlobals "_law_low" = some (some (.ref flaw_low))) (l_law_low : K.lookup flaw_low = some ⟨oc_law_low, od_law_low, .func (PySem.W.fnOf "_law_low" "_law_low" (defArgs st_law_low) (defBody st_law_low) (defScope st_law_low) .none kV_law_low dc_law_low pm_law_low an_law_low cd_law_low ct_law_low), sl_law_low⟩) (c_law_low : PySem.W.codeIn K cd_law_low "_law_low" = true) (k_law_low : PySem.W.keepIn K (.ref flaw_low) = true)
    (a_law_less : PySem.W.nsIn K mainGlobals "_law_less" = some (some (.ref flaw_less))) (l_law_less : K.lookup flaw_less = some ⟨oc_law_less, od_law_less, .func (PySem.W.fnOf "_law_less" "_law_less" (defArgs st_law_less) (defBody st_law_less) (defScope st_law_less) .none kV_law_less dc_law_less pm_law_less an_law_less cd_law_less ct_law_less), sl_law_less⟩) (c_law_less : PySem.W.codeIn K cd_law_less "_law_less" = true) (k_law_less : PySem.W.keepIn K (.ref flaw_less) = true)
    (a_law_solved : PySem.W.nsIn K mainGlobals "_law_solved" = some (some (.ref flaw_solved))) (l_law_solved : K.lookup flaw_solved = some ⟨oc_law_solved, od_law_solved, .func (PySem.W.fnOf "_law_solved" "_law_solved" (defArgs st_law_solved) (defBody st_law_solved) (defScope st_law_solved) .none kV_law_solved dc_law_solved pm_law_solved an_law_solved cd_law_solved ct_law_solved), sl_law_solved⟩) (c_law_solved : PySem.W.codeIn K cd_law_solved "_law_solved" = true) (k_law_solved : PySem.W.keepIn K (.ref flaw_solved) = true)
    (a_law_least : PySem.W.nsIn K mainGlobals "_law_least" = some (some (.ref flaw_least))) (l_law_least : K.lookup flaw_least = some ⟨oc_law_least, od_law_least, .func (PySem.W.fnOf "_law_least" "_law_least" (defArgs st_law_least) (defBody st_law_least) (defScope st_law_least) .none kV_law_least dc_law_least pm_law_least an_law_least cd_law_least ct_law_least), sl_law_least⟩) (c_law_least : PySem.W.codeIn K cd_law_least "_law_least" = true) (k_law_least : PySem.W.keepIn K (.ref flaw_least) = true)
    (a_law_row : PySem.W.nsIn K mainGlobals "_law_row" = some (some (.ref flaw_row))) (l_law_row : K.lookup flaw_row = some ⟨oc_law_row, od_law_row, .func (PySem.W.fnOf "_law_row" "_law_row" (defArgs st_law_row) (defBody st_law_row) (defScope st_law_row) .none kV_law_row dc_law_row pm_law_row an_law_row cd_law_row ct_law_row), sl_law_row⟩) (c_law_row : PySem.W.codeIn K cd_law_row "_law_row" = true) (k_law_row : PySem.W.keepIn K (.ref flaw_row) = true)
    (a_law : PySem.W.nsIn K mainGlobals "law" = some (some (.ref flaw))) (l_law : K.lookup flaw = some ⟨oc_law, od_law, .func (PySem.W.fnOf "law" "law" (defArgs st_law) (defBody st_law) (defScope st_law) .none kV_law dc_law pm_law an_law cd_law ct_law), sl_law⟩) (c_law : PySem.W.codeIn K cd_law "law" = true) (k_law : PySem.W.keepIn K (.ref flaw) = true)
    (z_gcd : PySem.W.nsIn K mainGlobals "gcd" = some (some (.builtin "math.gcd")))
    (z_abs : PySem.W.nsIn K mainGlobals "abs" = some none)
    (z_all : PySem.W.nsIn K mainGlobals "all" = some none)
    (z_enumerate : PySem.W.nsIn K mainGlobals "enumerate" = some none)
    (z_int : PySem.W.nsIn K mainGlobals "int" = some none)
    (z_len : PySem.W.nsIn K mainGlobals "len" = some none)
    (z_list : PySem.W.nsIn K mainGlobals "list" = some none)
    (z_min : PySem.W.nsIn K mainGlobals "min" = some none)
    (z_range : PySem.W.nsIn K mainGlobals "range" = some none)
    (z_repr : PySem.W.nsIn K mainGlobals "repr" = some none)
    (z_sum : PySem.W.nsIn K mainGlobals "sum" = some none)
    (z_tuple : PySem.W.nsIn K mainGlobals "tuple" = some none)
    (z_zip : PySem.W.nsIn K mainGlobals "zip" = some none)
    : ∃ fd : FuncData, (∀ (s : Shared) (v : Value), BindsTo s fd ⟨[v], []⟩ [("script", v)]) ∧ ∀ base : Heap, K.In base → base.Ns mainGlobals mg → Kept l.prog w K mg base fa fd "script" 63 := by
  have e := hfa.symm.trans (PySem.W.mg_of X G a_law)
  cases e
  have F_first_place := fun_mk (st := st_first_place) l_first_place c_first_place k_first_place
  have F_lowered := fun_mk (st := st_lowered) l_lowered c_lowered k_lowered
  have F_cleared := fun_mk (st := st_cleared) l_cleared c_cleared k_cleared
  have F_relation_of := fun_mk (st := st_relation_of) l_relation_of c_relation_of k_relation_of
  have F_recurrence_of := fun_mk (st := st_recurrence_of) l_recurrence_of c_recurrence_of k_recurrence_of
  have F_law_open_cells := fun_mk (st := st_law_open_cells) l_law_open_cells c_law_open_cells k_law_open_cells
  have F_law_pick := fun_mk (st := st_law_pick) l_law_pick c_law_pick k_law_pick
  have F_law_of := fun_mk (st := st_law_of) l_law_of c_law_of k_law_of
  have F_law_low := fun_mk (st := st_law_low) l_law_low c_law_low k_law_low
  have F_law_less := fun_mk (st := st_law_less) l_law_less c_law_less k_law_less
  have F_law_solved := fun_mk (st := st_law_solved) l_law_solved c_law_solved k_law_solved
  have F_law_least := fun_mk (st := st_law_least) l_law_least c_law_least k_law_least
  have F_law_row := fun_mk (st := st_law_row) l_law_row c_law_row k_law_row
  have F_law := fun_mk (st := st_law) l_law c_law k_law
  refine ⟨PySem.W.fnOf "law" "law" (defArgs st_law) (defBody st_law) (defScope st_law) .none kV_law dc_law pm_law an_law cd_law ct_law, fun s v => .of_eq rfl, fun base _ _ => all_law F_first_place (PySem.W.mg_of X G a_first_place) F_lowered (PySem.W.mg_of X G a_lowered) F_cleared (PySem.W.mg_of X G a_cleared) F_relation_of (PySem.W.mg_of X G a_relation_of) F_recurrence_of (PySem.W.mg_of X G a_recurrence_of) F_law_open_cells (PySem.W.mg_of X G a_law_open_cells) F_law_pick (PySem.W.mg_of X G a_law_pick) F_law_of (PySem.W.mg_of X G a_law_of) F_law_low (PySem.W.mg_of X G a_law_low) F_law_less (PySem.W.mg_of X G a_law_less) F_law_solved (PySem.W.mg_of X G a_law_solved) F_law_least (PySem.W.mg_of X G a_law_least) F_law_row (PySem.W.mg_of X G a_law_row) F_law ⟨PySem.W.mg_of X G z_gcd, PySem.W.mg_none_of X G z_abs, PySem.W.mg_none_of X G z_all, PySem.W.mg_none_of X G z_enumerate, PySem.W.mg_none_of X G z_int, PySem.W.mg_none_of X G z_len, PySem.W.mg_none_of X G z_list, PySem.W.mg_none_of X G z_min, PySem.W.mg_none_of X G z_range, PySem.W.mg_none_of X G z_repr, PySem.W.mg_none_of X G z_sum, PySem.W.mg_none_of X G z_tuple, PySem.W.mg_none_of X G z_zip⟩⟩
end K45
open PySem PySem.W PyProof.Rows
set_option maxHeartbeats 0 in
theorem PySem.Challenge.cw_sheetslaid_k45_recurrences_of_rows_holds : PySem.Challenge.rw_sheetslaid_k45_recurrences_of_rows.Holds := by
  w_on; o_law; k_head; (case hw => w_witness2)
  k_fill
  refine Dat.walk_here (l := PySem.Challenge.rw_sheetslaid_k45_recurrences_of_rows) (n := 63) (x := "script") rfl (by decide) rfl (fun w h Y => PySem.W.kIn_of Y) ?F
  case F =>
    intro w mg fa h KX G hmg
    refine' K45.all_mk KX G hmg ?a_first_place ?l_first_place ?c_first_place ?k_first_place ?a_lowered ?l_lowered ?c_lowered ?k_lowered ?a_cleared ?l_cleared ?c_cleared ?k_cleared ?a_relation_of ?l_relation_of ?c_relation_of ?k_relation_of ?a_recurrence_of ?l_recurrence_of ?c_recurrence_of ?k_recurrence_of ?a_law_open_cells ?l_law_open_cells ?c_law_open_cells ?k_law_open_cells ?a_law_pick ?l_law_pick ?c_law_pick ?k_law_pick ?a_law_of ?l_law_of ?c_law_of ?k_law_of ?a_law_low ?l_law_low ?c_law_low ?k_law_low ?a_law_less ?l_law_less ?c_law_less ?k_law_less ?a_law_solved ?l_law_solved ?c_law_solved ?k_law_solved ?a_law_least ?l_law_least ?c_law_least ?k_law_least ?a_law_row ?l_law_row ?c_law_row ?k_law_row ?a_law ?l_law ?c_law ?k_law ?z_gcd ?z_abs ?z_all ?z_enumerate ?z_int ?z_len ?z_list ?z_min ?z_range ?z_repr ?z_sum ?z_tuple ?z_zip
    (case a_first_place => k_is); (case l_first_place => k_is); (case c_first_place => k_is); (case k_first_place => k_is); (case a_lowered => k_is); (case l_lowered => k_is); (case c_lowered => k_is); (case k_lowered => k_is); (case a_cleared => k_is); (case l_cleared => k_is); (case c_cleared => k_is); (case k_cleared => k_is); (case a_relation_of => k_is); (case l_relation_of => k_is); (case c_relation_of => k_is); (case k_relation_of => k_is); (case a_recurrence_of => k_is); (case l_recurrence_of => k_is); (case c_recurrence_of => k_is); (case k_recurrence_of => k_is); (case a_law_open_cells => k_is); (case l_law_open_cells => k_is); (case c_law_open_cells => k_is); (case k_law_open_cells => k_is); (case a_law_pick => k_is); (case l_law_pick => k_is); (case c_law_pick => k_is); (case k_law_pick => k_is); (case a_law_of => k_is); (case l_law_of => k_is); (case c_law_of => k_is); (case k_law_of => k_is); (case a_law_low => k_is); (case l_law_low => k_is); (case c_law_low => k_is); (case k_law_low => k_is); (case a_law_less => k_is); (case l_law_less => k_is); (case c_law_less => k_is); (case k_law_less => k_is); (case a_law_solved => k_is); (case l_law_solved => k_is); (case c_law_solved => k_is); (case k_law_solved => k_is); (case a_law_least => k_is); (case l_law_least => k_is); (case c_law_least => k_is); (case k_law_least => k_is); (case a_law_row => k_is); (case l_law_row => k_is); (case c_law_row => k_is); (case k_law_row => k_is); (case a_law => k_is); (case l_law => k_is); (case c_law => k_is); (case k_law => k_is); (case z_gcd => k_is); (case z_abs => k_is); (case z_all => k_is); (case z_enumerate => k_is); (case z_int => k_is); (case z_len => k_is); (case z_list => k_is); (case z_min => k_is); (case z_range => k_is); (case z_repr => k_is); (case z_sum => k_is); (case z_tuple => k_is); (case z_zip => k_is)


