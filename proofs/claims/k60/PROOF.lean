import PyProof.Rows.All
import Wide.All
import OpenK.AllK
import Wide.FinOn
import HandS.ForMost
import HandS.Walk
import HandS.Star
import KE.GoesNew
import HandS.TupAny
import HandS.WideBits
import HandS.Gcd
import HandS.IsInst
import HandS.Conv
import HandS.SortKw
import KE.DataMinMax
import PyProof.ReprRoads
import PyProof.ReprBulk
import HandS.Ends
import HandS.EndBits
import HandS.Iter
import KE.DataIsa
import KE.DataCmp
import KE.SortData
import HandS.Style
import HandS.TupMul
import HandS.Deep
import PyProof.SeqIndex
import PyProof.EqLayable
import HandS.DictComp
import HandS.WordsDict
import KE.KDictZip
import PyProof.ListNew
import PySem.Challenge.RW_sheetslaid_k60_decks_and_alike_ones_judg
set_option Elab.async false
set_option linter.all false
set_option maxRecDepth 100000
set_option maxHeartbeats 4000000
/-! DatA: data-level readings over HandS: what a value reads as (Dt), slots, states (Good), steps (Stp). -/
namespace Dat
open PySem L2

theorem Same.seqT {K : PySem.W.Frag} {H H' : Hp} {a : Addr} {xs : List V} (e : Same H H') (h : SqT K H a xs) : SqT K H' a xs := by
  rcases h with (h | ⟨o, h⟩) | h
  · exact .inl (.inl (e _ _ h))
  · exact .inl (.inr ⟨o, e _ _ h⟩)
  · exact .inr h

/-- a tuple whose object is known to have no dict -/
def SqN (H : Hp) (a : Addr) (xs : List V) : Prop := ∃ o : Obj, H a = some (.frz o (.tup xs)) ∧ o.cls = .type "tuple" ∧ o.dict = none
def TupO (o : Obj) : Prop := o.cls = .type "tuple" ∧ o.dict = none
theorem SqN.t {K : PySem.W.Frag} {H : Hp} {a : Addr} {xs : List V} (h : SqN H a xs) : SqT K H a xs := let ⟨o, e, _⟩ := h; .inl (.inr ⟨o, e⟩)
theorem SqN.mono {H H' : Hp} {a : Addr} {xs : List V} (e : Same H H') (h : SqN H a xs) : SqN H' a xs := let ⟨o, e1, r⟩ := h; ⟨o, e _ _ e1, r⟩
theorem SqN.new {H : Hp} {p : Addr} {o : Obj} {xs : List V} (h : TupO o) : SqN (upd H p (.frz o (.tup xs))) p xs := ⟨o, upd_same, h⟩
mutual
inductive Dt (K : PySem.W.Frag) (H : Hp) : V → PyData → Prop
  | non : Dt K H .non .none
  | bl (b : Bool) : Dt K H (.bl b) (.bool b)
  | int (i : Int) : Dt K H (.int i) (.int i)
  | str (x : Str) : Dt K H (.str x) (.str x)
  | lst {a : Addr} {xs : List V} {ds : List PyData} : H a = some (.lst xs) → DtAll K H xs ds → Dt K H (.ref a) (.list ds)
  | tup {a : Addr} {xs : List V} {ds : List PyData} : SqN H a xs → DtAll K H xs ds → Dt K H (.ref a) (.tuple ds)
  | dic0 {a : Addr} : H a = some (.dK []) → Dt K H (.ref a) (.dict [])
inductive DtAll (K : PySem.W.Frag) (H : Hp) : List V → List PyData → Prop
  | nil : DtAll K H [] []
  | cons {v : V} {vs : List V} {d : PyData} {ds : List PyData} : Dt K H v d → DtAll K H vs ds → DtAll K H (v :: vs) (d :: ds)
end

section
variable {K : PySem.W.Frag} {G H H' : Hp}
mutual
theorem Dt.mono (e : Same H H') : ∀ (d : PyData) {v : V}, Dt K H v d → Dt K H' v d
  | .none, _, h => by cases h; exact .non
  | .bool b, _, h => by cases h; exact .bl b
  | .int i, _, h => by cases h; exact .int i
  | .str x, _, h => by cases h; exact .str x
  | .list ds, _, h => by
    cases h with
    | lst hs ha => exact .lst (e _ _ hs) (DtAll.mono e ds ha)
  | .tuple ds, _, h => by
    cases h with
    | tup hs ha => exact .tup (hs.mono e) (DtAll.mono e ds ha)
  | .dict kvs, _, h => by
    cases h with
    | dic0 hs => exact .dic0 (e _ _ hs)
theorem DtAll.mono (e : Same H H') : ∀ (ds : List PyData) {vs : List V}, DtAll K H vs ds → DtAll K H' vs ds
  | [], _, h => by cases h; exact .nil
  | d :: ds, _, h => by
    cases h with
    | cons h1 h2 => exact .cons (Dt.mono e d h1) (DtAll.mono e ds h2)
end
theorem DtAll.length : ∀ {ds : List PyData} {vs : List V}, DtAll K H vs ds → vs.length = ds.length
  | [], _, h => by cases h; rfl
  | d :: ds, _, h => by
    cases h with
    | cons h1 h2 => simp [DtAll.length h2]
theorem DtAll.get : ∀ {ds : List PyData} {vs : List V} {i : Nat} {d : PyData}, DtAll K H vs ds → ds[i]? = some d → ∃ v, vs[i]? = some v ∧ Dt K H v d
  | [], _, _, _, h, e => by simp at e
  | d :: ds, _, 0, _, h, e => by
    cases h with
    | cons h1 h2 => simp at e; subst e; exact ⟨_, rfl, h1⟩
  | d :: ds, _, i + 1, _, h, e => by
    cases h with
    | cons h1 h2 =>
      obtain ⟨v, h3, h4⟩ := DtAll.get h2 (by simpa using e)
      exact ⟨v, by simpa using h3, h4⟩
theorem DtAll.getV : ∀ {ds : List PyData} {vs : List V} {i : Nat} {v : V}, DtAll K H vs ds → vs[i]? = some v → ∃ d, ds[i]? = some d ∧ Dt K H v d
  | [], _, _, _, h, e => by cases h; simp at e
  | d :: ds, _, 0, _, h, e => by
    cases h with
    | cons h1 h2 => simp at e; subst e; exact ⟨_, rfl, h1⟩
  | d :: ds, _, i + 1, _, h, e => by
    cases h with
    | cons h1 h2 =>
      obtain ⟨v, h3, h4⟩ := DtAll.getV h2 (by simpa using e)
      exact ⟨v, by simpa using h3, h4⟩
theorem DtAll.append : ∀ {ds es : List PyData} {vs us : List V}, DtAll K H vs ds → DtAll K H us es → DtAll K H (vs ++ us) (ds ++ es)
  | [], _, _, _, h, h' => by cases h; exact h'
  | d :: ds, _, _, _, h, h' => by
    cases h with
    | cons h1 h2 => exact .cons h1 (DtAll.append h2 h')
theorem DtAll.one {v : V} {d : PyData} (h : Dt K H v d) : DtAll K H [v] [d] := .cons h .nil
theorem DtAll.take : ∀ {ds : List PyData} {vs : List V} (n : Nat), DtAll K H vs ds → DtAll K H (vs.take n) (ds.take n)
  | _, _, 0, _ => by simp; exact .nil
  | [], _, n + 1, h => by cases h; exact .nil
  | d :: ds, _, n + 1, h => by
    cases h with
    | cons h1 h2 => exact .cons h1 (DtAll.take n h2)
theorem DtAll.drop : ∀ {ds : List PyData} {vs : List V} (n : Nat), DtAll K H vs ds → DtAll K H (vs.drop n) (ds.drop n)
  | _, _, 0, h => by simpa using h
  | [], _, n + 1, h => by cases h; exact .nil
  | d :: ds, _, n + 1, h => by
    cases h with
    | cons h1 h2 => exact DtAll.drop n h2
theorem DtAll.set : ∀ {ds : List PyData} {vs : List V} {v : V} {d : PyData} (n : Nat), DtAll K H vs ds → Dt K H v d → DtAll K H (vs.set n v) (ds.set n d)
  | [], _, _, _, n, h, _ => by cases h; exact .nil
  | d :: ds, _, _, _, 0, h, q => by
    cases h with
    | cons h1 h2 => exact .cons q h2
  | d :: ds, _, _, _, n + 1, h, q => by
    cases h with
    | cons h1 h2 => exact .cons h1 (DtAll.set n h2 q)
theorem DtAll.eraseIdx : ∀ {ds : List PyData} {vs : List V} (n : Nat), DtAll K H vs ds → DtAll K H (vs.eraseIdx n) (ds.eraseIdx n)
  | [], _, n, h => by cases h; exact .nil
  | d :: ds, _, 0, h => by
    cases h with
    | cons h1 h2 => exact h2
  | d :: ds, _, n + 1, h => by
    cases h with
    | cons h1 h2 => exact .cons h1 (DtAll.eraseIdx n h2)
theorem DtAll.dropLast {ds : List PyData} {vs : List V} (h : DtAll K H vs ds) : DtAll K H vs.dropLast ds.dropLast := by
  rw [List.dropLast_eq_take, List.dropLast_eq_take, h.length]
  exact h.take _
theorem DtAll.reverse : ∀ {ds : List PyData} {vs : List V}, DtAll K H vs ds → DtAll K H vs.reverse ds.reverse
  | [], _, h => by cases h; exact .nil
  | d :: ds, _, h => by
    cases h with
    | cons h1 h2 =>
      rw [List.reverse_cons, List.reverse_cons]
      exact h2.reverse.append (.one h1)
end

/-! ### slots, states -/
/-- objects of one's own that hold objects of one's own -/
inductive Ob where
  /-- a list of lists -/
  | lsts (xss : List (List PyData))
inductive Slot where
  /-- nothing is known -/
  | un
  /-- data that stands -/
  | da (d : PyData)
  /-- a list of one's own, changed in place -/
  | ow (ds : List PyData)
  /-- another object of one's own, changed in place -/
  | ob (o : Ob)
  /-- a list lent by the caller: read alone -/
  | bo (ds : List PyData)
  /-- the source of numbers: its turn is at most n, and may grow by r -/
  | sr (n r : Nat)
abbrev Rho := List Slot
/-- what an expression comes to -/
inductive Hd where
  | val (d : PyData)
  | new (ds : List PyData)
  | slot (i : Nat)
  | src (i : Nat)

def kCells : Str := "cells"
def kLeft : Str := "left"
def kMixed : Str := "mixed"
def kTurn : Str := "turn"
def srcDict (c : Addr) (l m t : Int) : HO := .dK [(Sum.inr kCells, V.ref c), (Sum.inr kLeft, V.int l), (Sum.inr kMixed, V.int m), (Sum.inr kTurn, V.int t)]
def SrcOk (H : Hp) (a c : Addr) (L : Nat) : Prop := ∃ (cs : List Int) (l m t : Int), H a = some (srcDict c l m t) ∧ H c = some (.lst (cs.map V.int)) ∧ cs.length ≤ 63 ∧ 0 ≤ t ∧ t ≤ (L : Int)
/-- the turn -/
def Trn (H : Hp) (p : Addr × Addr × Nat) (n r : Nat) : Prop := ∃ (c : Addr) (l m t : Int), H p.1 = some (srcDict c l m t) ∧ t ≤ (n : Int) ∧ t + (r : Int) ≤ (p.2.2 : Int)
abbrev Sr := Option (Addr × Addr × Nat)
def Reg (S : Sr) (G H : Hp) : Prop := ∀ p, S = some p → p.1 ≠ p.2.1 ∧ G p.1 = none ∧ G p.2.1 = none ∧ SrcOk H p.1 p.2.1 p.2.2
def InS (S : Sr) (a : Addr) : Prop := ∃ p, S = some p ∧ (a = p.1 ∨ a = p.2.1)
theorem Reg.g {S : Sr} {G H : Hp} {a : Addr} (r : Reg S G H) (h : InS S a) : G a = none := by
  obtain ⟨p, e, h⟩ := h
  obtain ⟨_, h1, h2, _⟩ := r p e
  rcases h with h | h
  · rw [h]; exact h1
  · rw [h]; exact h2
theorem Reg.h {S : Sr} {G H : Hp} {a : Addr} (r : Reg S G H) (h : InS S a) : H a ≠ none := by
  obtain ⟨p, e, h⟩ := h
  obtain ⟨_, _, _, cs, l, m, t, h1, h2, _⟩ := r p e
  rcases h with h | h
  · rw [h, h1]; exact fun z => nomatch z
  · rw [h, h2]; exact fun z => nomatch z
theorem Trn.same {H H' : Hp} {p : Addr × Addr × Nat} {n r : Nat} (e : H' p.1 = H p.1) (h : Trn H p n r) : Trn H' p n r := by
  obtain ⟨c, l, m, t, h1, h2⟩ := h
  exact ⟨c, l, m, t, by rw [e]; exact h1, h2⟩
theorem SrcOk.same {H H' : Hp} {a c : Addr} {L : Nat} (e : Same H H') (h : SrcOk H a c L) : SrcOk H' a c L := by
  obtain ⟨cs, l, m, t, h1, h2, h3⟩ := h
  exact ⟨cs, l, m, t, e _ _ h1, e _ _ h2, h3⟩

/-- the addresses of an object of one's own -/
def Ftp (H : Hp) (a : Addr) : Ob → Addr → Prop
  | .lsts _, b => b = a ∨ ∃ vs, H a = some (.lst vs) ∧ V.ref b ∈ vs
def Foot (H : Hp) (v : Option (Option V)) : Slot → Addr → Prop
  | .ow _, b => v = some (some (.ref b))
  | .ob o, b => ∃ a, v = some (some (.ref a)) ∧ Ftp H a o b
  | _, _ => False
def Own (ρ : Rho) (σ : St) (H : Hp) (a : Addr) : Prop := ∃ (i : Nat) (x : Slot), ρ[i]? = some x ∧ Foot H σ[i]? x a
/-- what stands at an address of one's own -/
def Cell (B : Hp × Hp) (S : Sr) (G : Hp) (b : Addr) : Prop := G b = none ∧ B.2 b = none ∧ ¬InS S b
inductive Cells (K : PySem.W.Frag) (G H : Hp) : List Addr → List (List PyData) → Prop
  | nil : Cells K G H [] []
  | cons {b : Addr} {bs : List Addr} {us : List V} {xs : List PyData} {xss : List (List PyData)} : H b = some (.lst us) → DtAll K G us xs → Cells K G H bs xss → Cells K G H (b :: bs) (xs :: xss)
def ObOk (K : PySem.W.Frag) (B : Hp × Hp) (S : Sr) (G H : Hp) (a : Addr) : Ob → Prop
  | .lsts xss => ∃ bs : List Addr, H a = some (.lst (bs.map V.ref)) ∧ Cells K G H bs xss ∧ (a :: bs).Nodup ∧ ∀ b ∈ a :: bs, Cell B S G b

def SlotOk (K : PySem.W.Frag) (B : Hp × Hp) (S : Sr) (G H : Hp) (v : Option (Option V)) : Slot → Prop
  | .un => True
  | .da d => ∃ u, v = some (some u) ∧ Dt K G u d
  | .ow ds => ∃ a vs, v = some (some (.ref a)) ∧ H a = some (.lst vs) ∧ DtAll K G vs ds ∧ G a = none ∧ B.2 a = none ∧ ¬InS S a
  | .ob o => ∃ a, v = some (some (.ref a)) ∧ ObOk K B S G H a o
  | .bo ds => ∃ a vs, v = some (some (.ref a)) ∧ B.2 a = some (.lst vs) ∧ H a = some (.lst vs) ∧ DtAll K G vs ds ∧ G a = none ∧ ¬InS S a
  | .sr n r => ∃ p, S = some p ∧ v = some (some (.ref p.1)) ∧ Trn H p n r

structure Good (K : PySem.W.Frag) (B : Hp × Hp) (S : Sr) (ρ : Rho) (σ : St) (G H : Hp) : Prop where
  ing : Same G H
  reg : Reg S G H
  ext : Same B.1 G
  out : ∀ a, B.1 a = none → B.2 a ≠ none → G a = none
  pre : ∀ a o, ¬InS S a → B.2 a = some o → H a = some o
  len : ρ.length = σ.length
  sl : ∀ (i : Nat) (x : Slot), ρ[i]? = some x → SlotOk K B S G H σ[i]? x
  sep : ∀ (i j : Nat) (x y : Slot) (a : Addr), ρ[i]? = some x → ρ[j]? = some y → Foot H σ[i]? x a → Foot H σ[j]? y a → i = j

structure Stp (S : Sr) (σ : St) (ρ : Rho) (G H : Hp) (ρ' : Rho) (G' H' : Hp) : Prop where
  ext : Same G G'
  out : ∀ a, G a = none → H a ≠ none → ¬InS S a → ¬Own ρ σ H a → G' a = none
  pre : ∀ a o, ¬InS S a → ¬Own ρ σ H a → H a = some o → H' a = some o
  sub : ∀ a, Own ρ' σ H' a → Own ρ σ H a
  reg : ∀ a, InS S a → G' a = none
  kp : ∀ a, H a ≠ none → H' a ≠ none

def HdOk (K : PySem.W.Frag) (B : Hp × Hp) (S : Sr) (ρ : Rho) (σ : St) (G H : Hp) (v : V) : Hd → Prop
  | .val d => Dt K G v d
  | .new ds => ∃ a vs, v = .ref a ∧ H a = some (.lst vs) ∧ DtAll K G vs ds ∧ G a = none ∧ B.2 a = none ∧ ¬InS S a ∧ ¬Own ρ σ H a
  | .slot i => σ[i]? = some (some v)
  | .src _ => ∃ p, S = some p ∧ v = .ref p.1
/-- a new thing is newer than H -/
def Fresh (H : Hp) (v : V) : Hd → Prop
  | .new _ => ∀ a, v = .ref a → H a = none
  | _ => True

section
variable {K : PySem.W.Frag} {B : Hp × Hp} {S : Sr} {ρ ρ' ρ1 ρ2 : Rho} {σ : St} {G H G' H' G1 H1 G2 H2 : Hp}
theorem Stp.refl (g : Good K B S ρ σ G H) : Stp S σ ρ G H ρ G H :=
  ⟨Same.refl G, fun _ h _ _ _ => h, fun _ _ _ _ h => h, fun _ h => h, fun _ h => g.reg.g h, fun _ h => h⟩
theorem Stp.trans (a : Stp S σ ρ G H ρ1 G1 H1) (b : Stp S σ ρ1 G1 H1 ρ2 G2 H2) : Stp S σ ρ G H ρ2 G2 H2 where
  ext := a.ext.trans b.ext
  out := fun x h1 h2 h3 h4 => by
    refine b.out x (a.out x h1 h2 h3 h4) ?_ h3 (fun o => h4 (a.sub x o))
    cases e : H x with
    | none => exact absurd e h2
    | some o => rw [a.pre x o h3 h4 e]; exact fun z => nomatch z
  pre := fun x o h1 h2 h3 => b.pre x o h1 (fun z => h2 (a.sub x z)) (a.pre x o h1 h2 h3)
  sub := fun x h => a.sub x (b.sub x h)
  reg := b.reg
  kp := fun x h => b.kp x (a.kp x h)
theorem HdOk.mono (a : Stp S σ ρ G H ρ1 G1 H1) {h : Hd} {v : V} (q : HdOk K B S ρ σ G H v h) : HdOk K B S ρ1 σ G1 H1 v h := by
  cases h with
  | val d => exact Dt.mono a.ext d q
  | new ds =>
    obtain ⟨x, vs, e, h1, h2, h3, h4, h5, h6⟩ := q
    exact ⟨x, vs, e, a.pre x _ h5 h6 h1, DtAll.mono a.ext ds h2, a.out x h3 (by rw [h1]; exact fun z => nomatch z) h5 h6, h4, h5, fun z => h6 (a.sub x z)⟩
  | slot i => exact q
  | src => exact q
/-- a new object: nothing else changes -/
structure Nst (G H G' H' : Hp) : Prop where
  ext : Same G G'
  hxt : Same H H'
  ing : Same G' H'
  out : ∀ a, G a = none → H a ≠ none → G' a = none
theorem Nst.refl (e : Same G H) : Nst G H G H := ⟨Same.refl G, Same.refl H, e, fun _ h _ => h⟩
theorem Nst.trans (a : Nst G H G1 H1) (b : Nst G1 H1 G2 H2) : Nst G H G2 H2 :=
  ⟨a.ext.trans b.ext, a.hxt.trans b.hxt, b.ing, fun x h1 h2 => b.out x (a.out x h1 h2) (by
    cases e : H x with
    | none => exact absurd e h2
    | some o => rw [a.hxt x o e]; exact fun z => nomatch z)⟩
/-- laid and known as data / laid, not yet data -/
theorem Nst.know {p : Addr} {o : HO} (e : Same G H) (h : H p = none) : Nst G H (upd G p o) (upd H p o) := by
  have hg : G p = none := e.free h
  refine ⟨fun a x q => by rw [upd_ne (ne_of_none q hg)]; exact q, fun a x q => by rw [upd_ne (ne_of_none q h)]; exact q, fun a x q => ?_, fun a h1 h2 => ?_⟩
  · by_cases ha : a = p
    · rw [ha] at q ⊢; rw [upd_same] at q ⊢; exact q
    · rw [upd_ne ha] at q ⊢; exact e a x q
  · by_cases ha : a = p
    · rw [ha] at h2; exact absurd h h2
    · rw [upd_ne ha]; exact h1
theorem Nst.lay {p : Addr} {o : HO} (e : Same G H) (h : H p = none) : Nst G H G (upd H p o) := by
  refine ⟨Same.refl G, fun a x q => by rw [upd_ne (ne_of_none q h)]; exact q, fun a x q => ?_, fun a h1 _ => h1⟩
  rw [upd_ne (ne_of_none (e a x q) h)]; exact e a x q

theorem Cells.there {bs : List Addr} {xss : List (List PyData)} (h : Cells K G H bs xss) : ∀ b ∈ bs, ∃ o, H b = some o := by
  induction h with
  | nil => intro b hb; cases hb
  | cons h1 _ _ ih =>
    intro b hb
    rcases List.mem_cons.mp hb with rfl | hb
    · exact ⟨_, h1⟩
    · exact ih b hb
theorem Cells.mv {bs : List Addr} {xss : List (List PyData)} (h : Cells K G H bs xss) (e : Same G G') (k : ∀ b ∈ bs, ∀ o, H b = some o → H' b = some o) : Cells K G' H' bs xss := by
  induction h with
  | nil => exact .nil
  | cons h1 h2 _ ih => exact .cons (k _ (List.mem_cons_self ..) _ h1) (DtAll.mono e _ h2) (ih fun b hb => k b (List.mem_cons_of_mem _ hb))
theorem ref_mem {b : Addr} {bs : List Addr} : V.ref b ∈ bs.map V.ref ↔ b ∈ bs := by
  constructor
  · intro h
    obtain ⟨c, hc, e⟩ := List.mem_map.mp h
    cases e; exact hc
  · exact fun h => List.mem_map.mpr ⟨b, h, rfl⟩
theorem Foot.there {v : Option (Option V)} {x : Slot} {b : Addr} (q : SlotOk K B S G H v x) (f : Foot H v x b) : ∃ o, H b = some o := by
  cases x with
  | ow ds =>
    obtain ⟨a, vs, e, h1, _⟩ := q
    have f : v = some (some (V.ref b)) := f
    rw [f] at e; cases e
    exact ⟨_, h1⟩
  | ob o =>
    cases o with
    | lsts xss =>
      obtain ⟨a, e, bs, h1, h2, _⟩ := q
      obtain ⟨a', e', f⟩ := f
      rw [e] at e'; cases e'
      rcases f with rfl | ⟨vs, h3, h4⟩
      · exact ⟨_, h1⟩
      · rw [h1] at h3; cases h3
        exact h2.there b (ref_mem.mp h4)
  | _ => exact False.elim f
theorem Foot.back {v : Option (Option V)} {x : Slot} {b : Addr} (q : SlotOk K B S G H v x) (k : ∀ b o, Foot H v x b → H b = some o → H' b = some o) (f : Foot H' v x b) : Foot H v x b := by
  cases x with
  | ow ds => exact f
  | ob o =>
    cases o with
    | lsts xss =>
      obtain ⟨a, e, bs, h1, h2, _⟩ := q
      obtain ⟨a', e', f⟩ := f
      rw [e] at e'; cases e'
      have h1' := k a _ ⟨a, e, .inl rfl⟩ h1
      refine ⟨a, e, ?_⟩
      rcases f with rfl | ⟨vs, h3, h4⟩
      · exact .inl rfl
      · rw [h1'] at h3; cases h3
        exact .inr ⟨_, h1, h4⟩
  | _ => exact False.elim f
/-- a slot's content stays where what it leans on stays -/
theorem SlotOk.mv {Kb : Addr → Prop} {v : Option (Option V)} {x : Slot} (q : SlotOk K B S G H v x) (e : Same G G') (kp : ∀ b o, Kb b → H b = some o → H' b = some o) (out : ∀ b, Kb b → G b = none → H b ≠ none → G' b = none)
    (hf : ∀ b, Foot H v x b → Kb b) (hb : ∀ b, B.2 b ≠ none → ¬InS S b → Kb b) (hs : ∀ n r, x = .sr n r → SlotOk K B S G' H' v x) : SlotOk K B S G' H' v x := by
  have nn : ∀ {b : Addr} {o : HO}, H b = some o → H b ≠ none := fun h => by rw [h]; exact fun z => nomatch z
  cases x with
  | un => trivial
  | da d => obtain ⟨u, e1, h⟩ := q; exact ⟨u, e1, Dt.mono e d h⟩
  | ow ds =>
    obtain ⟨a, vs, rfl, h1, h2, h3, h4, h5⟩ := q
    have ka : Kb a := hf a rfl
    exact ⟨a, vs, rfl, kp a _ ka h1, DtAll.mono e ds h2, out a ka h3 (nn h1), h4, h5⟩
  | ob o =>
    cases o with
    | lsts xss =>
      obtain ⟨a, rfl, bs, h1, h2, h3, h4⟩ := q
      have ka : Kb a := hf a ⟨a, rfl, .inl rfl⟩
      have kb : ∀ b ∈ bs, Kb b := fun b hm => hf b ⟨a, rfl, .inr ⟨_, h1, ref_mem.mpr hm⟩⟩
      refine ⟨a, rfl, bs, kp a _ ka h1, h2.mv e fun b hm o => kp b o (kb b hm), h3, fun b hm => ?_⟩
      obtain ⟨c1, c2, c3⟩ := h4 b hm
      rcases List.mem_cons.mp hm with rfl | hm
      · exact ⟨out _ ka c1 (nn h1), c2, c3⟩
      · obtain ⟨o, ho⟩ := h2.there b hm
        exact ⟨out _ (kb b hm) c1 (nn ho), c2, c3⟩
  | bo ds =>
    obtain ⟨a, vs, rfl, h0, h1, h2, h3, h5⟩ := q
    have ka : Kb a := hb a (by rw [h0]; exact fun z => nomatch z) h5
    exact ⟨a, vs, rfl, h0, kp a _ ka h1, DtAll.mono e ds h2, out a ka h3 (nn h1), h5⟩
  | sr n r => exact hs n r rfl
theorem SlotOk.mono (g : Good K B S ρ σ G H) (n : Nst G H G' H') {v : Option (Option V)} {x : Slot} (q : SlotOk K B S G H v x) : SlotOk K B S G' H' v x :=
  q.mv (Kb := fun _ => True) n.ext (fun b o _ h => n.hxt b o h) (fun b _ h1 h2 => n.out b h1 h2) (fun _ _ => trivial) (fun _ _ _ => trivial) fun m r e => by
    subst e
    obtain ⟨p, e1, e2, c, l, m, t, h1, h2⟩ := q
    exact ⟨p, e1, e2, c, l, m, t, n.hxt _ _ h1, h2⟩
theorem Own.there (g : Good K B S ρ σ G H) {a : Addr} (h : Own ρ σ H a) : ∃ o, H a = some o := by
  obtain ⟨i, x, e, f⟩ := h
  exact f.there (g.sl i x e)
theorem Own.back (g : Good K B S ρ σ G H) (k : ∀ b o, Own ρ σ H b → H b = some o → H' b = some o) {a : Addr} (h : Own ρ σ H' a) : Own ρ σ H a := by
  obtain ⟨i, x, e, f⟩ := h
  exact ⟨i, x, e, f.back (g.sl i x e) fun b o f' => k b o ⟨i, x, e, f'⟩⟩
theorem Good.sepB (g : Good K B S ρ σ G H) (k : ∀ b o, Own ρ σ H b → H b = some o → H' b = some o) (i j : Nat) (x y : Slot) (a : Addr) (e1 : ρ[i]? = some x) (e2 : ρ[j]? = some y) (f1 : Foot H' σ[i]? x a) (f2 : Foot H' σ[j]? y a) : i = j :=
  g.sep i j x y a e1 e2 (f1.back (g.sl i x e1) fun b o f' => k b o ⟨i, x, e1, f'⟩) (f2.back (g.sl j y e2) fun b o f' => k b o ⟨j, y, e2, f'⟩)
theorem Good.nst (g : Good K B S ρ σ G H) (n : Nst G H G' H') : Good K B S ρ σ G' H' where
  ing := n.ing
  reg := fun p e => by
    obtain ⟨h1, h2, h3, h4⟩ := g.reg p e
    obtain ⟨cs, l, m, t, h5, h6, _⟩ := id h4
    exact ⟨h1, n.out _ h2 (by rw [h5]; exact fun z => nomatch z), n.out _ h3 (by rw [h6]; exact fun z => nomatch z), h4.same n.hxt⟩
  ext := g.ext.trans n.ext
  out := fun a h1 h2 => by
    refine n.out a (g.out a h1 h2) ?_
    by_cases hs : InS S a
    · exact g.reg.h hs
    · cases e : B.2 a with
      | none => exact absurd e h2
      | some o => rw [g.pre a o hs e]; exact fun z => nomatch z
  pre := fun a o h1 h2 => n.hxt _ _ (g.pre a o h1 h2)
  len := g.len
  sl := fun i x h => (g.sl i x h).mono g n
  sep := g.sepB fun b o _ h => n.hxt b o h
theorem Nst.stp (g : Good K B S ρ σ G H) (n : Nst G H G' H') : Stp S σ ρ G H ρ G' H' :=
  ⟨n.ext, fun a h1 h2 _ _ => n.out a h1 h2, fun a o _ _ h => n.hxt a o h, fun _ h => h.back g fun b o _ q => n.hxt b o q, fun a h => n.out a (g.reg.g h) (g.reg.h h), fun a h => by
    cases e : H a with
    | none => exact absurd e h
    | some o => rw [n.hxt a o e]; exact fun z => nomatch z⟩
theorem Good.fresh2 (g : Good K B S ρ σ G H) {a : Addr} (h : H a = none) : B.2 a = none ∧ ¬InS S a ∧ ¬Own ρ σ H a := by
  have hs : ¬InS S a := fun z => g.reg.h z h
  refine ⟨?_, hs, fun o => ?_⟩
  · cases e : B.2 a with
    | none => rfl
    | some o => rw [g.pre a o hs e] at h; cases h
  · obtain ⟨o, e⟩ := o.there g
    rw [h] at e; cases e

/-! ### to data -/
def datOf (h : Hd) (ρ : Rho) (Φ : PyData → Rho → Prop) : Prop :=
  match h with
  | .val d => Φ d ρ
  | .new ds => Φ (.list ds) ρ
  | .slot i => match ρ[i]? with
    | some (.ow ds) => Φ (.list ds) (ρ.set i (.da (.list ds)))
    | some (.da d) => Φ d ρ
    | _ => False
  | .src _ => False
/-- what is to be read -/
def rdP (h : Hd) (ρ : Rho) (k : PyData → Prop) : Prop :=
  match h with
  | .val d => k d
  | .new ds => k (.list ds)
  | .slot i => match ρ[i]? with
    | some (.ow ds) => k (.list ds)
    | some (.bo ds) => k (.list ds)
    | some (.da d) => k d
    | _ => False
  | .src _ => False
/-- reads now as: the outermost list in H, all within in G -/
def Rdb (K : PySem.W.Frag) (G H : Hp) (v : V) (d : PyData) : Prop :=
  Dt K G v d ∨ ∃ ds a vs, d = .list ds ∧ v = .ref a ∧ H a = some (.lst vs) ∧ DtAll K G vs ds
theorem Rdb.mono (e : Same G G') (e2 : Same H H') {v : V} {d : PyData} (h : Rdb K G H v d) : Rdb K G' H' v d := by
  rcases h with h | ⟨ds, a, vs, e3, e4, h1, h2⟩
  · exact .inl (Dt.mono e d h)
  · exact .inr ⟨ds, a, vs, e3, e4, e2 _ _ h1, DtAll.mono e ds h2⟩
theorem Rdb.list {v : V} {ds : List PyData} (e : Same G H) (h : Rdb K G H v (.list ds)) : ∃ a vs, v = .ref a ∧ H a = some (.lst vs) ∧ DtAll K G vs ds := by
  rcases h with h | ⟨ds, a, vs, e3, e4, h1, h2⟩
  · cases h with
    | lst hs ha => exact ⟨_, _, rfl, e _ _ hs, ha⟩
  · cases e3; exact ⟨a, vs, e4, h1, h2⟩
theorem Rdb.tuple {v : V} {ds : List PyData} (h : Rdb K G H v (.tuple ds)) : ∃ a vs, v = .ref a ∧ SqN G a vs ∧ DtAll K G vs ds := by
  rcases h with h | ⟨ds, a, vs, e3, e4, h1, h2⟩
  · cases h with
    | tup hs ha => exact ⟨_, _, rfl, hs, ha⟩
  · cases e3
theorem Rdb.now (e : Same G H) {v : V} {d : PyData} (h : Rdb K G H v d) : Dt K H v d := by
  rcases h with h | ⟨ds, a, vs, e3, e4, h1, h2⟩
  · exact Dt.mono e d h
  · subst e3 e4; exact .lst h1 (DtAll.mono e ds h2)
theorem rd_of (g : Good K B S ρ σ G H) {h : Hd} {v : V} (q : HdOk K B S ρ σ G H v h) {k : PyData → Prop} (r : rdP h ρ k) : ∃ d, k d ∧ Rdb K G H v d := by
  cases h with
  | val d => exact ⟨d, r, .inl q⟩
  | new ds =>
    obtain ⟨a, vs, e, h1, h2, _⟩ := q
    exact ⟨_, r, .inr ⟨ds, a, vs, rfl, e, h1, h2⟩⟩
  | slot i =>
    cases e : ρ[i]? with
    | none => simp only [rdP, e] at r
    | some x =>
      simp only [rdP, e] at r
      have hs := g.sl i x e
      have q : σ[i]? = some (some v) := q
      cases x with
      | un => exact r.elim
      | da d =>
        obtain ⟨u, e1, h1⟩ := hs
        rw [q] at e1; cases e1
        exact ⟨d, r, .inl h1⟩
      | ow ds =>
        obtain ⟨a, vs, e1, h1, h2, _⟩ := hs
        rw [q] at e1; cases e1
        exact ⟨_, r, .inr ⟨ds, a, vs, rfl, rfl, h1, h2⟩⟩
      | ob o => exact r.elim
      | bo ds =>
        obtain ⟨a, vs, e1, _, h1, h2, _⟩ := hs
        rw [q] at e1; cases e1
        exact ⟨_, r, .inr ⟨ds, a, vs, rfl, rfl, h1, h2⟩⟩
      | sr => exact r.elim
  | src => exact r.elim
theorem set_get {α : Type} {l : List α} {i j : Nat} {x y : α} (h : (l.set i x)[j]? = some y) : (i = j ∧ y = x) ∨ (i ≠ j ∧ l[j]? = some y) := by
  by_cases e : i = j
  · subst e
    by_cases hl : i < l.length
    · rw [List.getElem?_set_self hl] at h; exact .inl ⟨rfl, (Option.some.inj h).symm⟩
    · rw [List.getElem?_eq_none (by simpa using hl)] at h; cases h
  · rw [List.getElem?_set_ne e] at h; exact .inr ⟨e, h⟩
/-- a list that no slot owns becomes data -/
theorem Good.freeze (g : Good K B S ρ σ G H) {a : Addr} {vs : List V} (hb : B.2 a = none) (hs : ¬InS S a) (hh : H a = some (.lst vs)) (hg : G a = none) (ho : ¬Own ρ σ H a) : Good K B S ρ σ (upd G a (.lst vs)) H := by
  have ex : Same G (upd G a (.lst vs)) := fun x o q => by rw [upd_ne (ne_of_none q hg)]; exact q
  refine ⟨fun x o q => ?_, fun p e => ?_, g.ext.trans ex, fun x h1 h2 => ?_, g.pre, g.len, fun i x e => ?_, g.sep⟩
  · by_cases hx : x = a
    · subst hx; rw [upd_same] at q; cases q; exact hh
    · rw [upd_ne hx] at q; exact g.ing x o q
  · obtain ⟨h1, h2, h3, h4⟩ := g.reg p e
    refine ⟨h1, ?_, ?_, h4⟩
    · rw [upd_ne (fun z => hs ⟨p, e, .inl z.symm⟩)]; exact h2
    · rw [upd_ne (fun z => hs ⟨p, e, .inr z.symm⟩)]; exact h3
  · rw [upd_ne (fun z => by subst z; exact h2 hb)]; exact g.out x h1 h2
  · have q := g.sl i x e
    exact q.mv (Kb := fun b => b ≠ a) ex (fun _ _ _ h => h) (fun b hb h _ => by rw [upd_ne hb]; exact h) (fun b f z => by subst z; exact ho ⟨i, x, e, f⟩) (fun b h _ z => by subst z; exact h hb) fun n r e => by subst e; exact q
/-- a slot's content exchanged for something that is so -/
theorem Good.slot (g : Good K B S ρ σ G H) {i : Nat} {x : Slot} (h : SlotOk K B S G H σ[i]? x) (hn : ∀ H v b, ¬Foot H v x b) : Good K B S (ρ.set i x) σ G H := by
  refine ⟨g.ing, g.reg, g.ext, g.out, g.pre, by rw [List.length_set]; exact g.len, fun j y e => ?_, fun j k y z a e1 e2 f1 f2 => ?_⟩
  · rcases set_get e with ⟨rfl, rfl⟩ | ⟨_, e'⟩
    · exact h
    · exact g.sl j y e'
  · rcases set_get e1 with ⟨rfl, rfl⟩ | ⟨_, e1'⟩
    · exact absurd f1 (hn _ _ _)
    · rcases set_get e2 with ⟨rfl, rfl⟩ | ⟨_, e2'⟩
      · exact absurd f2 (hn _ _ _)
      · exact g.sep j k y z a e1' e2' f1 f2
theorem own_set {x : Slot} {i : Nat} {a : Addr} (hn : ∀ H v b, ¬Foot H v x b) (h : Own (ρ.set i x) σ H a) : ∃ j y, j ≠ i ∧ ρ[j]? = some y ∧ Foot H σ[j]? y a := by
  obtain ⟨j, y, e1, f⟩ := h
  rcases set_get e1 with ⟨rfl, rfl⟩ | ⟨ne, e1'⟩
  · exact absurd f (hn _ _ _)
  · exact ⟨j, y, fun z => ne z.symm, e1', f⟩
theorem own_set' {x : Slot} {i : Nat} {a : Addr} (hn : ∀ H v b, ¬Foot H v x b) (h : Own (ρ.set i x) σ H a) : Own ρ σ H a := by
  obtain ⟨j, y, _, e, f⟩ := own_set hn h
  exact ⟨j, y, e, f⟩
theorem nf_da (d : PyData) : ∀ H v b, ¬Foot H v (.da d) b := fun _ _ _ z => z
theorem nf_un : ∀ H v b, ¬Foot H v .un b := fun _ _ _ z => z
/-- what slot i owned is nobody's, once it is let go -/
theorem own_let (g : Good K B S ρ σ G H) {i : Nat} {x : Slot} {a : Addr} (e : ρ[i]? = some x) (f : Foot H σ[i]? x a) : ¬Own (ρ.set i .un) σ H a := fun o => by
  obtain ⟨j, y, ne, e2, f2⟩ := own_set nf_un o
  exact ne (g.sep j i y x a e2 e f2 f)
def obD : Ob → PyData
  | .lsts xss => .list (xss.map PyData.list)
theorem Good.freezeCells : ∀ {bs : List Addr} {xss : List (List PyData)} {G : Hp}, Cells K G H bs xss → (∀ b ∈ bs, Cell B S G b ∧ ¬Own ρ σ H b) → bs.Nodup → Good K B S ρ σ G H →
    ∃ G', Good K B S ρ σ G' H ∧ Same G G' ∧ (∀ b, b ∉ bs → G' b = G b) ∧ DtAll K G' (bs.map V.ref) (xss.map PyData.list)
  | [], _, G, h, _, _, g => by cases h; exact ⟨G, g, Same.refl G, fun _ _ => rfl, .nil⟩
  | b :: bs, _, G, h, hc, hn, g => by
    cases h with
    | cons h1 h2 h3 =>
      rename_i us xs xss
      obtain ⟨⟨c1, c2, c3⟩, c4⟩ := hc b (List.mem_cons_self ..)
      have g1 := g.freeze c2 c3 h1 c1 c4
      have ex : Same G (upd G b (.lst us)) := fun x o q => by rw [upd_ne (ne_of_none q c1)]; exact q
      obtain ⟨hb, hn'⟩ := List.nodup_cons.mp hn
      obtain ⟨G', g', e', k', t'⟩ := Good.freezeCells (h3.mv ex fun _ _ _ q => q) (fun c hm => by
        obtain ⟨⟨d1, d2, d3⟩, d4⟩ := hc c (List.mem_cons_of_mem _ hm)
        exact ⟨⟨by rw [upd_ne (fun z : c = b => hb (by rw [← z]; exact hm))]; exact d1, d2, d3⟩, d4⟩) hn' g1
      refine ⟨G', g', ex.trans e', fun c hm => ?_, .cons (.lst (e' _ _ upd_same) (DtAll.mono (ex.trans e') _ h2)) t'⟩
      have hm' : c ≠ b ∧ c ∉ bs := by simpa [not_or] using hm
      rw [k' c hm'.2, upd_ne hm'.1]
theorem Good.freezeOb (g : Good K B S ρ σ G H) {i : Nat} {a : Addr} {o : Ob} (e : ρ[i]? = some (.ob o)) (ev : σ[i]? = some (some (.ref a))) :
    ∃ G', Good K B S (ρ.set i (.da (obD o))) σ G' H ∧ Stp S σ ρ G H (ρ.set i (.da (obD o))) G' H ∧ Dt K G' (.ref a) (obD o) := by
  cases o with
  | lsts xss =>
    obtain ⟨a', e', bs, h1, h2, h3, h4⟩ := g.sl i _ e
    rw [ev] at e'; cases e'
    have g1 : Good K B S (ρ.set i .un) σ G H := g.slot trivial nf_un
    have fa : ∀ b ∈ a :: bs, Foot H σ[i]? (.ob (.lsts xss)) b := fun b hm => by
      rcases List.mem_cons.mp hm with rfl | hm
      · exact ⟨b, ev, .inl rfl⟩
      · exact ⟨a, ev, .inr ⟨_, h1, ref_mem.mpr hm⟩⟩
    obtain ⟨hna, hn⟩ := List.nodup_cons.mp h3
    obtain ⟨G', g2, e2, k2, t2⟩ := Good.freezeCells h2 (fun b hm => ⟨h4 b (List.mem_cons_of_mem _ hm), own_let g e (fa b (List.mem_cons_of_mem _ hm))⟩) hn g1
    obtain ⟨c1, c2, c3⟩ := h4 a (List.mem_cons_self ..)
    have ga : G' a = none := by rw [k2 a hna]; exact c1
    have g3 := g2.freeze c2 c3 h1 ga (own_let g e (fa a (List.mem_cons_self ..)))
    have ex : Same G' (upd G' a (.lst (bs.map V.ref))) := fun x o q => by rw [upd_ne (ne_of_none q ga)]; exact q
    have dt : Dt K (upd G' a (.lst (bs.map V.ref))) (.ref a) (obD (.lsts xss)) := .lst upd_same (DtAll.mono ex _ t2)
    have g4 : Good K B S (ρ.set i (.da (obD (.lsts xss)))) σ (upd G' a (.lst (bs.map V.ref))) H := by
      have := g3.slot (i := i) (x := .da (obD (.lsts xss))) ⟨_, ev, dt⟩ (nf_da _)
      rwa [List.set_set] at this
    refine ⟨_, g4, ⟨e2.trans ex, fun x y1 y2 y3 y4 => ?_, fun _ _ _ _ h => h, fun x o => own_set' (nf_da _) o, fun x hx => g4.reg.g hx, fun _ h => h⟩, dt⟩
    have hx : x ∉ a :: bs := fun hm => y4 ⟨i, _, e, fa x hm⟩
    have hx' : x ≠ a ∧ x ∉ bs := by simpa [not_or] using hx
    rw [upd_ne hx'.1, k2 x hx'.2]; exact y1
/-- what was come to, made data: told from the state ahead of it -/
theorem frz {Φ : PyData → Rho → Prop} (g : Good K B S ρ1 σ G1 H1) (s : Stp S σ ρ G H ρ1 G1 H1) {h : Hd} {v : V} (q : HdOk K B S ρ1 σ G1 H1 v h) (fr : Fresh H v h) (d : datOf h ρ1 Φ) :
    ∃ x ρ2 G2, Φ x ρ2 ∧ Good K B S ρ2 σ G2 H1 ∧ Stp S σ ρ G H ρ2 G2 H1 ∧ Dt K G2 v x := by
  cases h with
  | val x => exact ⟨x, ρ1, G1, d, g, s, q⟩
  | new ds =>
    obtain ⟨a, vs, rfl, h1, h2, h3, h4, h5, h6⟩ := q
    have ha : H a = none := fr a rfl
    have g2 := g.freeze h4 h5 h1 h3 h6
    have ex : Same G1 (upd G1 a (.lst vs)) := fun x o q => by rw [upd_ne (ne_of_none q h3)]; exact q
    refine ⟨_, ρ1, _, d, g2, ⟨s.ext.trans ex, fun x y1 y2 y3 y4 => ?_, s.pre, s.sub, fun x hx => g2.reg.g hx, s.kp⟩, .lst upd_same (DtAll.mono ex ds h2)⟩
    rw [upd_ne (fun z => by subst z; exact y2 ha)]; exact s.out x y1 y2 y3 y4
  | slot i =>
    cases e : ρ1[i]? with
    | none => simp only [datOf, e] at d
    | some x =>
      simp only [datOf, e] at d
      have hs := g.sl i x e
      have q : σ[i]? = some (some v) := q
      cases x with
      | un => exact d.elim
      | da y =>
        obtain ⟨u, e1, h1⟩ := hs
        rw [q] at e1; cases e1
        exact ⟨y, ρ1, G1, d, g, s, h1⟩
      | ow ds =>
        obtain ⟨a, vs, e1, h1, h2, h3, h4, h5⟩ := hs
        rw [q] at e1; cases e1
        have own1 : Own ρ1 σ H1 a := ⟨i, _, e, q⟩
        have g1 : Good K B S (ρ1.set i .un) σ G1 H1 := g.slot trivial nf_un
        have g2 := g1.freeze h4 h5 h1 h3 (own_let g e q)
        have ex : Same G1 (upd G1 a (.lst vs)) := fun x o q => by rw [upd_ne (ne_of_none q h3)]; exact q
        have dt : Dt K (upd G1 a (.lst vs)) (.ref a) (.list ds) := .lst upd_same (DtAll.mono ex ds h2)
        have g3 : Good K B S (ρ1.set i (.da (.list ds))) σ (upd G1 a (.lst vs)) H1 := by
          have := g2.slot (i := i) (x := .da (.list ds)) ⟨_, q, dt⟩ (nf_da _)
          rwa [List.set_set] at this
        refine ⟨_, _, _, d, g3, ⟨s.ext.trans ex, fun x y1 y2 y3 y4 => ?_, s.pre, fun x o => s.sub x (own_set' (nf_da _) o), fun x hx => g3.reg.g hx, s.kp⟩, dt⟩
        rw [upd_ne (fun z => by subst z; exact y4 (s.sub _ own1))]; exact s.out x y1 y2 y3 y4
      | ob o => exact d.elim
      | bo ds => exact d.elim
      | sr => exact d.elim
  | src => exact d.elim
end
end Dat


set_option Elab.async false
set_option linter.all false
set_option maxRecDepth 100000
set_option maxHeartbeats 4000000
/-! DatB: data-level judgements and the rules of expressions. -/
namespace Dat
open PySem L2

section
variable {X : Cx}
theorem PEw {e : Expr} {t t' : TE} (h : PE X e t) (w : ∀ σ H Q, t' σ H Q → t σ H Q) : PE X e t' := ⟨fun pins s σ H Q I hw => h.run pins s σ H Q I (w σ H Q hw)⟩
theorem PTw {e : Expr} {t t' : TT} (h : PT X e t) (w : ∀ σ H Q, t' σ H Q → t σ H Q) : PT X e t' := ⟨fun pins s σ H Q I hw => h.run pins s σ H Q I (w σ H Q hw)⟩
theorem PWw {e : Expr} {t t' : TT} (h : PW X e t) (w : ∀ σ H Q, t' σ H Q → t σ H Q) : PW X e t' := ⟨fun wh pins s σ H Q I hw => h.run wh pins s σ H Q I (w σ H Q hw)⟩
theorem PTsw {e : List Expr} {t t' : TT} (h : PTs X e t) (w : ∀ σ H Q, t' σ H Q → t σ H Q) : PTs X e t' := ⟨fun pins s σ H Q I hw => h.run pins s σ H Q I (w σ H Q hw)⟩
theorem PAw {es : List Expr} {t t' : TA} (h : PA X es t) (w : ∀ σ H Q, t' σ H Q → t σ H Q) : PA X es t' := ⟨fun p pins s σ H Q I hw => h.run p pins s σ H Q I (w σ H Q hw)⟩
theorem PSw {st : Stmt} {t t' : TS} (h : PS X st t) (w : ∀ D σ H, t' D σ H → t D σ H) : PS X st t' := ⟨fun pins s σ H D I hw => h.run pins s σ H D I (w D σ H hw)⟩
theorem PSsw {st : List Stmt} {t t' : TS} (h : PSs X st t) (w : ∀ D σ H, t' D σ H → t D σ H) : PSs X st t' := ⟨fun pins s σ H D I hw => h.run pins s σ H D I (w D σ H hw)⟩
theorem PGw {e : Expr} {t t' : TG} (h : PG X e t) (w : ∀ v σ H Q, t' v σ H Q → t v σ H Q) : PG X e t' := ⟨fun pins s σ H v u Q I r hw => h.run pins s σ H v u Q I r (w v σ H Q hw)⟩
theorem PGsw {e : List Expr} {t t' : TGs} (h : PGs X e t) (w : ∀ v σ H Q, t' v σ H Q → t v σ H Q) : PGs X e t' := ⟨fun pins s σ H v u Q I r hw => h.run pins s σ H v u Q I r (w v σ H Q hw)⟩
theorem PIw {tg e : Expr} {t t' : TI} (h : PI X tg e t) (w : ∀ σ H R, t' σ H R → t σ H R) : PI X tg e t' := ⟨fun pins s σ H R I hw => h.run pins s σ H R I (w σ H R hw)⟩
end

abbrev DF := Rho → (Hd → Rho → Prop) → Prop
abbrev BF := Rho → (Bool → Rho → Prop) → Prop
abbrev LF := Rho → (List PyData → Rho → Prop) → Prop
abbrev AF := Rho → (List Hd → Rho → Prop) → Prop

/-! ### the judgements' readings -/
def dE (K : PySem.W.Frag) (F : DF) : TE := fun σ H Q => ∃ B S ρ G Φ, Good K B S ρ σ G H ∧ F ρ Φ ∧ ∀ h v ρ' G' H', Φ h ρ' → Good K B S ρ' σ G' H' → Stp S σ ρ G H ρ' G' H' → HdOk K B S ρ' σ G' H' v h → Fresh H v h → Q v H'
/-- made data -/
def dD (K : PySem.W.Frag) (F : Rho → (PyData → Rho → Prop) → Prop) : TE := fun σ H Q => ∃ B S ρ G Φ, Good K B S ρ σ G H ∧ F ρ Φ ∧ ∀ d v ρ' G' H', Φ d ρ' → Good K B S ρ' σ G' H' → Stp S σ ρ G H ρ' G' H' → Dt K G' v d → Q v H'
def dT (K : PySem.W.Frag) (F : BF) : TT := fun σ H Q => ∃ B S ρ G Φ, Good K B S ρ σ G H ∧ F ρ Φ ∧ ∀ b ρ' G' H', Φ b ρ' → Good K B S ρ' σ G' H' → Stp S σ ρ G H ρ' G' H' → Q b H'
/-- arguments, all made data -/
def dL (K : PySem.W.Frag) (F : LF) : TA := fun σ H Q => ∃ B S ρ G Φ, Good K B S ρ σ G H ∧ F ρ Φ ∧ ∀ ds vs ρ' G' H', Φ ds ρ' → Good K B S ρ' σ G' H' → Stp S σ ρ G H ρ' G' H' → DtAll K G' vs ds → Q vs H'
def HsOk (K : PySem.W.Frag) (B : Hp × Hp) (S : Sr) (ρ : Rho) (σ : St) (G H : Hp) : List V → List Hd → Prop
  | [], [] => True
  | v :: vs, h :: hs => HdOk K B S ρ σ G H v h ∧ (∀ ds, h ≠ .new ds) ∧ HsOk K B S ρ σ G H vs hs
  | _, _ => False
/-- arguments of a def -/
def dA (K : PySem.W.Frag) (F : AF) : TA := fun σ H Q => ∃ B S ρ G Φ, Good K B S ρ σ G H ∧ F ρ Φ ∧ ∀ hs vs ρ' G' H', Φ hs ρ' → Good K B S ρ' σ G' H' → Stp S σ ρ G H ρ' G' H' → HsOk K B S ρ' σ G' H' vs hs → Q vs H'

section
variable {K : PySem.W.Frag} {B : Hp × Hp} {S : Sr} {ρ ρ' ρ1 ρ2 : Rho} {σ : St} {G H G' H' G1 H1 G2 H2 : Hp}
theorem Fresh.back (s : Stp S σ ρ G H ρ1 G1 H1) {v : V} {h : Hd} (f : Fresh H1 v h) : Fresh H v h := by
  cases h with
  | new ds =>
    intro a e
    cases q : H a with
    | none => rfl
    | some o => exact absurd (f a e) (s.kp a (by rw [q]; exact fun z => nomatch z))
  | val d => trivial
  | slot i => trivial
  | src => trivial

def HdN (K : PySem.W.Frag) (G H : Hp) (v : V) : Hd → Prop
  | .val d => Dt K G v d
  | .new ds => ∃ a vs, v = .ref a ∧ H a = some (.lst vs) ∧ DtAll K G vs ds ∧ G a = none
  | _ => False
theorem HdN.ok {v : V} {h : Hd} (q : HdN K G' H' v h) (g : Good K B S ρ σ G H) (n : Nst G H G' H') (f : Fresh H v h) : HdOk K B S ρ σ G' H' v h := by
  cases h with
  | val d => exact q
  | new ds =>
    obtain ⟨a, vs, e, h1, h2, h3⟩ := q
    obtain ⟨f1, f2, f3⟩ := g.fresh2 (f a e)
    exact ⟨a, vs, e, h1, h2, h3, f1, f2, fun o => f3 (o.back g fun b o _ q => n.hxt b o q)⟩
  | slot i => exact q.elim
  | src => exact q.elim
end

/-! ### operations on values, told by data -/
abbrev RK := V → Hp → Prop
/-- what an operation's outcome must be good for -/
def Outc (K : PySem.W.Frag) (G H : Hp) (Φ : Hd → Prop) (Q : VK) : Prop := ∀ h v G' H', Φ h → Nst G H G' H' → HdN K G' H' v h → Fresh H v h → Q v H'
def Op2 (K : PySem.W.Frag) (r : R2) (P : PyData → PyData → (Hd → Prop) → Prop) : Prop :=
  ∀ x y dx dy G H (Φ : Hd → Prop) (Q : VK), Same G H → Rdb K G H x dx → Rdb K G H y dy → P dx dy Φ → Outc K G H Φ Q → r x y H Q
def Op1 (K : PySem.W.Frag) (r : V → Hp → VK → Prop) (P : PyData → (Hd → Prop) → Prop) : Prop :=
  ∀ x dx G H (Φ : Hd → Prop) (Q : VK), Same G H → Rdb K G H x dx → P dx Φ → Outc K G H Φ Q → r x H Q
theorem Outc.val {K : PySem.W.Frag} {G H : Hp} {Φ : Hd → Prop} {Q : VK} (o : Outc K G H Φ Q) (e : Same G H) {d : PyData} {v : V} (h : Φ (.val d)) (q : Dt K G v d) : Q v H := o _ _ G H h (Nst.refl e) q trivial
theorem Outc.newL {K : PySem.W.Frag} {G H : Hp} {Φ : Hd → Prop} {Q : VK} (o : Outc K G H Φ Q) (e : Same G H) {ds : List PyData} {vs : List V} (h : Φ (.new ds)) (q : DtAll K G vs ds) {p : Addr} (hp : H p = none) : Q (.ref p) (upd H p (.lst vs)) :=
  o _ _ G _ h (Nst.lay e hp) ⟨p, vs, rfl, upd_same, q, e.free hp⟩ (fun a z => by cases z; exact hp)
theorem Outc.tup {K : PySem.W.Frag} {G H : Hp} {Φ : Hd → Prop} {Q : VK} (o : Outc K G H Φ Q) (e : Same G H) {ds : List PyData} {vs : List V} (h : Φ (.val (.tuple ds))) (q : DtAll K G vs ds) {p : Addr} {ob : Obj} (ho : TupO ob) (hp : H p = none) : Q (.ref p) (upd H p (.frz ob (.tup vs))) :=
  o _ _ _ _ h (Nst.know e hp) (.tup (.new ho) (DtAll.mono (Nst.know (o := .frz ob (.tup vs)) e hp).ext ds q)) trivial
/-- laid as a tuple whose object is known -/
theorem laid_tup {X : Cx} {pins : List (Addr × Obj)} {σ : L2.St} {H : Hp} {s : Shared} (I : Inv X pins σ H s) {xs : List V} {its : List Value} (hz : xs.length ≤ sizeLine) (r : Vals xs its) {Q : VK} (q : ∀ p ob, TupO ob → H p = none → Q (.ref p) (upd H p (.frz ob (.tup xs)))) :
    EP X pins σ Q (.ref s.heap.objs.size) { s with heap := s.heap.push { cls := .type "tuple", data := .seq its.toArray } } :=
  ⟨.ref s.heap.objs.size, upd H s.heap.objs.size (.frz { cls := .type "tuple", data := .seq its.toArray } (.tup xs)), I.laid (t' := s.toks) (fun b u e => Heap.get?_push_of_some _ e) (Nat.le_refl _) ⟨Heap.get?_push_size _ rfl, hz, its, r, ⟨_, Heap.get?_push_size _ rfl, rfl, _, rfl⟩⟩, rfl, q _ _ ⟨rfl, rfl⟩ (I.hok.fresh (Nat.le_refl _))⟩
def tTupN (t : TA) : TE := fun σ H Q => t σ H fun xs H1 => xs.length ≤ sizeLine ∧ ∀ p ob, TupO ob → H1 p = none → Q (.ref p) (upd H1 p (.frz ob (.tup xs)))
theorem pe_tupN {X : Cx} {es : List Expr} {pos : Pos} {t : TA} {x1} (h : PA X es t) : PE X (.Tuple es x1 pos) (tTupN t) := by
  refine ⟨fun pins s σ H Q I hq => ?_⟩
  refine wpAny_Tuple_spliced (thn (h.run pos pins s σ H _ I hq) fun us s1 ⟨xs, H1, I1, r, z, q⟩ => ⟨by rw [← r.length]; exact z, ?_⟩)
  exact laid_tup I1 z r q

/-- two ways -/
def brP (b : Bool) (A B : Prop) : Prop := (b = true → A) ∧ (b = false → B)
def opF (P : PyData → PyData → (Hd → Prop) → Prop) (fa fb : DF) : DF := fun ρ Φ => fa ρ fun x ρ1 => fb ρ1 fun y ρ2 => rdP x ρ2 fun dx => rdP y ρ2 fun dy => P dx dy fun h => Φ h ρ2
def unF (P : PyData → (Hd → Prop) → Prop) (fa : DF) : DF := fun ρ Φ => fa ρ fun x ρ1 => rdP x ρ1 fun dx => P dx fun h => Φ h ρ1
section
variable {K : PySem.W.Frag}
theorem r_op {r : R2} {P : PyData → PyData → (Hd → Prop) → Prop} {fa fb : DF} (hd : Op2 K r P) (σ : St) (H : Hp) (Q : VK) (h : dE K (opF P fa fb) σ H Q) : tOp r (dE K fa) (dE K fb) σ H Q := by
  obtain ⟨B, S, ρ, G, Φ, g, f, k⟩ := h
  refine ⟨B, S, ρ, G, _, g, f, fun hx vx ρ1 G1 H1 f1 g1 s1 o1 _ => ⟨B, S, ρ1, G1, _, g1, f1, fun hy vy ρ2 G2 H2 f2 g2 s2 o2 _ => ?_⟩⟩
  obtain ⟨dx, f3, rx⟩ := rd_of g2 (o1.mono s2) f2
  obtain ⟨dy, f4, ry⟩ := rd_of g2 o2 f3
  have s := s1.trans s2
  exact hd vx vy dx dy G2 H2 _ Q g2.ing rx ry f4 fun h v G' H' f5 n o5 fr => k h v ρ2 G' H' f5 (g2.nst n) (s.trans (n.stp g2)) (o5.ok g2 n fr) (fr.back s)
theorem r_un {r : V → Hp → VK → Prop} {P : PyData → (Hd → Prop) → Prop} {fa : DF} (hd : Op1 K r P) (σ : St) (H : Hp) (Q : VK) (h : dE K (unF P fa) σ H Q) : tUn r (dE K fa) σ H Q := by
  obtain ⟨B, S, ρ, G, Φ, g, f, k⟩ := h
  refine ⟨B, S, ρ, G, _, g, f, fun hx vx ρ1 G1 H1 f1 g1 s1 o1 _ => ?_⟩
  obtain ⟨dx, f3, rx⟩ := rd_of g1 o1 f1
  exact hd vx dx G1 H1 _ Q g1.ing rx f3 fun h v G' H' f5 n o5 fr => k h v ρ1 G' H' f5 (g1.nst n) (s1.trans (n.stp g1)) (o5.ok g1 n fr) (fr.back s1)
/-- an argument list of one, of two -/
theorem r_c1 {r : List V → Hp → VK → Prop} {P : PyData → (Hd → Prop) → Prop} {fa : DF} (hd : Op1 K (fun x H Q => r [x] H Q) P) (σ : St) (H : Hp) (Q : VK) (h : dE K (unF P fa) σ H Q) : tCB r (tCons (dE K fa) tNil) σ H Q := r_un hd σ H Q h
theorem r_c2 {r : List V → Hp → VK → Prop} {P : PyData → PyData → (Hd → Prop) → Prop} {fa fb : DF} (hd : Op2 K (fun x y H Q => r [x, y] H Q) P) (σ : St) (H : Hp) (Q : VK) (h : dE K (opF P fa fb) σ H Q) : tCB r (tCons (dE K fa) (tCons (dE K fb) tNil)) σ H Q := r_op hd σ H Q h
end
def nameF (i : Nat) : DF := fun ρ Φ => match ρ[i]? with
  | some (.da d) => Φ (.val d) ρ
  | some (.ow _) => Φ (.slot i) ρ
  | some (.ob o) => Φ (.val (obD o)) (ρ.set i (.da (obD o)))
  | some (.bo _) => Φ (.slot i) ρ
  | some (.sr _ _) => Φ (.src i) ρ
  | _ => False
def constF (d : PyData) : DF := fun ρ Φ => Φ (.val d) ρ
def boolP (h : Hd) (k : Bool → Prop) : Prop := match h with
  | .val (.bool b) => k b
  | _ => False
def boolF (f : DF) : BF := fun ρ Φ => f ρ fun h ρ1 => boolP h fun b => Φ b ρ1
def ofB (F : BF) : DF := fun ρ Φ => F ρ fun b ρ1 => Φ (.val (.bool b)) ρ1
def andF (F F' : BF) : BF := fun ρ Φ => F ρ fun b ρ1 => brP b (F' ρ1 Φ) (Φ false ρ1)
def orF (F F' : BF) : BF := fun ρ Φ => F ρ fun b ρ1 => brP b (Φ true ρ1) (F' ρ1 Φ)
def notF (F : BF) : BF := fun ρ Φ => F ρ fun b ρ1 => Φ (!b) ρ1
def ifF (F : BF) (fa fb : DF) : DF := fun ρ Φ => F ρ fun b ρ1 => brP b (fa ρ1 Φ) (fb ρ1 Φ)
def nilF : LF := fun ρ Φ => Φ [] ρ
def consF (f : DF) (F : LF) : LF := fun ρ Φ => f ρ fun h ρ1 => datOf h ρ1 fun d ρ2 => F ρ2 fun ds ρ3 => Φ (d :: ds) ρ3
def seqP (d : PyData) (k : List PyData → Prop) : Prop := match d with
  | .list xs => k xs
  | .tuple xs => k xs
  | _ => False
def starF (f : DF) (F : LF) : LF := fun ρ Φ => f ρ fun h ρ1 => rdP h ρ1 fun d => seqP d fun xs => F ρ1 fun ds ρ3 => Φ (xs ++ ds) ρ3
def tupF (F : LF) : DF := fun ρ Φ => F ρ fun ds ρ1 => ds.length ≤ sizeLine ∧ Φ (.val (.tuple ds)) ρ1
def lstF (F : LF) : DF := fun ρ Φ => F ρ fun ds ρ1 => ds.length ≤ sizeLine ∧ Φ (.new ds) ρ1

section
variable {X : Cx} {e a b c : Expr} {pos : Pos} {f fa fb fc : DF} {F F' : BF}
theorem de_data (h : PE X e (dE X.K f)) : PE X e (dD X.K fun ρ Φ => f ρ fun h ρ1 => datOf h ρ1 Φ) := PEw h fun σ H Q ⟨B, S, ρ, G, Φ, g, q, k⟩ =>
  ⟨B, S, ρ, G, _, g, q, fun h v ρ1 G1 H1 d g1 s1 o1 fr => by
    obtain ⟨x, ρ2, G2, f2, g2, s2, t2⟩ := frz g1 s1 o1 fr d
    exact k x v ρ2 G2 H1 f2 g2 s2 t2⟩
theorem de_name (i : Nat) {x : Str} (hN : X.N[i]? = some x := by rfl) (hv : Vis X.env.scope x := by first | exact Or.inl rfl | exact Or.inr (Or.inl rfl) | exact Or.inr (Or.inr rfl)) (hd : (x == ("__debug__" : Str)) = false := by decide)
    (hcd : (x == ("__classdict__" : Str)) = false := by decide) : PE X (.Name x pos) (dE X.K (nameF i)) := PEw (pe_var hN hv hd hcd) fun σ H Q ⟨B, S, ρ, G, Φ, g, q, k⟩ => by
  unfold nameF at q
  cases e : ρ[i]? with
  | none => rw [e] at q; exact q.elim
  | some x =>
    rw [e] at q
    have hs := g.sl i x e
    cases x with
    | un => exact q.elim
    | da d =>
      obtain ⟨u, e1, h1⟩ := hs
      exact ⟨u, e1, k _ u ρ G H q g (.refl g) h1 trivial⟩
    | ow ds =>
      obtain ⟨a, vs, e1, _⟩ := hs
      exact ⟨_, e1, k _ _ ρ G H q g (.refl g) e1 trivial⟩
    | ob o =>
      obtain ⟨a, e1, _⟩ := hs
      obtain ⟨G', g', s', t'⟩ := g.freezeOb e e1
      exact ⟨_, e1, k _ _ _ G' H q g' s' t' trivial⟩
    | bo ds =>
      obtain ⟨a, vs, e1, _⟩ := hs
      exact ⟨_, e1, k _ _ ρ G H q g (.refl g) e1 trivial⟩
    | sr n r =>
      obtain ⟨p, e1, e2, _⟩ := hs
      exact ⟨_, e2, k _ _ ρ G H q g (.refl g) ⟨p, e1, rfl⟩ trivial⟩
theorem de_c {t : TE} {v : V} {d : PyData} (h : PE X e (tC v)) (hd : ∀ G, Dt X.K G v d) : PE X e (dE X.K (constF d)) := PEw h fun σ H Q ⟨B, S, ρ, G, Φ, g, q, k⟩ => k _ v ρ G H q g (.refl g) (hd G) trivial
theorem de_int {i j} : PE X (.Constant (.int i) j pos) (dE X.K (constF (.int i))) := de_c (t := tC (.int i)) pe_int fun _ => .int i
theorem de_bl {i j} : PE X (.Constant (.bool i) j pos) (dE X.K (constF (.bool i))) := de_c (t := tC (.bl i)) pe_bl fun _ => .bl i
theorem de_str {i j} : PE X (.Constant (.str i) j pos) (dE X.K (constF (.str i))) := de_c (t := tC (.str i)) pe_str fun _ => .str i
theorem de_non {j} : PE X (.Constant .none j pos) (dE X.K (constF .none)) := de_c (t := tC .non) pe_non fun _ => .non
theorem de_op {op : Operator} {r : R2} {P : PyData → PyData → (Hd → Prop) → Prop} (ho : OpR X (binaryOp op) r) (hd : Op2 X.K r P) (ha : PE X a (dE X.K fa)) (hb : PE X b (dE X.K fb)) : PE X (.BinOp a op b pos) (dE X.K (opF P fa fb)) :=
  PEw (pe_op ho ha hb) (r_op hd)
theorem de_un {op : UnaryOp} {r : V → Hp → VK → Prop} {P : PyData → (Hd → Prop) → Prop} (ho : UnR X (unaryOp op) r) (hd : Op1 X.K r P) (ha : PE X a (dE X.K fa)) : PE X (.UnaryOp op a pos) (dE X.K (unF P fa)) :=
  PEw (pe_un ho ha) (r_un hd)
theorem de_cmp {op : CmpOp} {r : R2} {P : PyData → PyData → (Hd → Prop) → Prop} (ho : OpR X (compareOp op) r) (hd : Op2 X.K r P) (ha : PE X a (dE X.K fa)) (hb : PE X b (dE X.K fb)) (hm : behindInMarks op b = false := by first | exact nomark _ | rfl) :
    PE X (.Compare a [op] [b] pos) (dE X.K (opF P fa fb)) := PEw (pe_cmpR ho ha hb hm) (r_op hd)
theorem r_test {t : TE} (σ : St) (H : Hp) (Q : Bool → Hp → Prop) (w : ∀ Q', dE X.K f σ H Q' → t σ H Q') (h : dT X.K (boolF f) σ H Q) : tTest t σ H Q := by
  obtain ⟨B, S, ρ, G, Φ, g, q, k⟩ := h
  refine w _ ⟨B, S, ρ, G, _, g, q, fun h v ρ1 G1 H1 f1 g1 s1 o1 fr1 => ?_⟩
  clear fr1
  unfold boolP at f1
  split at f1
  · rename_i b
    cases o1
    exact ⟨b, rfl, k b ρ1 G1 H1 f1 g1 s1⟩
  · exact f1.elim
theorem dt_cmp {op : CmpOp} {r : R2} {P : PyData → PyData → (Hd → Prop) → Prop} (ho : OpR X (compareOp op) r) (hd : Op2 X.K r P) (ha : PE X a (dE X.K fa)) (hb : PE X b (dE X.K fb)) (hm : behindInMarks op b = false := by first | exact nomark _ | rfl) :
    PT X (.Compare a [op] [b] pos) (dT X.K (boolF (opF P fa fb))) := PTw (pt_cmpR ho ha hb hm) fun σ H Q h => r_test σ H Q (fun Q' => r_op hd σ H Q') h
theorem dt_val (h : PE X e (dE X.K f)) (he : ∀ whole, isTrue e X.env whole = (do let v ← whole; standAt e.pos; holding [v] (truthy v)) := by intro _; rfl) : PT X e (dT X.K (boolF f)) := PTw (pt_val h he) fun σ H Q h => r_test σ H Q (fun Q' q => q) h
theorem dt_not (h : PT X a (dT X.K F)) : PT X (.UnaryOp .Not a pos) (dT X.K (notF F)) := PTw (pt_not h) fun σ H Q ⟨B, S, ρ, G, Φ, g, q, k⟩ => ⟨B, S, ρ, G, _, g, q, fun b ρ1 G1 H1 f1 g1 s1 => k _ ρ1 G1 H1 f1 g1 s1⟩
theorem dw_and1 (h : PT X a (dT X.K F)) : PW X (.BoolOp .And [a] pos) (dT X.K F) := pw_and1 h
theorem dw_or1 (h : PT X a (dT X.K F)) : PW X (.BoolOp .Or [a] pos) (dT X.K F) := pw_or1 h
theorem dw_and {rest : List Expr} (h : PT X a (dT X.K F)) (h' : PW X (.BoolOp .And (b :: rest) pos) (dT X.K F')) : PW X (.BoolOp .And (a :: b :: rest) pos) (dT X.K (andF F F')) :=
  PWw (pw_and h h') fun σ H Q ⟨B, S, ρ, G, Φ, g, q, k⟩ => ⟨B, S, ρ, G, _, g, q, fun t ρ1 G1 H1 f1 g1 s1 => by
    cases t with
    | true => exact ⟨B, S, ρ1, G1, Φ, g1, f1.1 rfl, fun b2 ρ2 G2 H2 f2 g2 s2 => k b2 ρ2 G2 H2 f2 g2 (s1.trans s2)⟩
    | false => exact k false ρ1 G1 H1 (f1.2 rfl) g1 s1⟩
theorem dw_or {rest : List Expr} (h : PT X a (dT X.K F)) (h' : PW X (.BoolOp .Or (b :: rest) pos) (dT X.K F')) : PW X (.BoolOp .Or (a :: b :: rest) pos) (dT X.K (orF F F')) :=
  PWw (pw_or h h') fun σ H Q ⟨B, S, ρ, G, Φ, g, q, k⟩ => ⟨B, S, ρ, G, _, g, q, fun t ρ1 G1 H1 f1 g1 s1 => by
    cases t with
    | true => exact k true ρ1 G1 H1 (f1.1 rfl) g1 s1
    | false => exact ⟨B, S, ρ1, G1, Φ, g1, f1.2 rfl, fun b2 ρ2 G2 H2 f2 g2 s2 => k b2 ρ2 G2 H2 f2 g2 (s1.trans s2)⟩⟩
theorem dt_pw (h : PW X e (dT X.K F)) : PT X e (dT X.K F) := h.pt
/-- and, or, not as values, of True and False alone -/
theorem dv_one {op : BoolOp} (h : PE X a (dE X.K f)) : PE X (.BoolOp op [a] pos) (dE X.K f) := pe_one h
theorem dv_and {rest : List Expr} (h : PE X a (dE X.K fa)) (h' : PE X (.BoolOp .And (b :: rest) pos) (dE X.K fb)) : PE X (.BoolOp .And (a :: b :: rest) pos) (dE X.K fun ρ Φ => fa ρ fun h ρ1 => boolP h fun t => brP t (fb ρ1 Φ) (Φ (.val (.bool false)) ρ1)) :=
  PEw (pe_and h h') fun σ H Q ⟨B, S, ρ, G, Φ, g, q, k⟩ => ⟨B, S, ρ, G, _, g, q, fun h v ρ1 G1 H1 f1 g1 s1 o1 fr1 => by
    clear fr1
    unfold boolP at f1
    split at f1
    · rename_i t
      cases o1
      refine ⟨t, rfl, ?_⟩
      cases t with
      | true => exact ⟨B, S, ρ1, G1, Φ, g1, f1.1 rfl, fun h2 v2 ρ2 G2 H2 f2 g2 s2 o2 fr2 => k h2 v2 ρ2 G2 H2 f2 g2 (s1.trans s2) o2 (fr2.back s1)⟩
      | false => exact k _ _ ρ1 G1 H1 (f1.2 rfl) g1 s1 (Dt.bl false) trivial
    · exact f1.elim⟩
theorem dv_or {rest : List Expr} (h : PE X a (dE X.K fa)) (h' : PE X (.BoolOp .Or (b :: rest) pos) (dE X.K fb)) : PE X (.BoolOp .Or (a :: b :: rest) pos) (dE X.K fun ρ Φ => fa ρ fun h ρ1 => boolP h fun t => brP t (Φ (.val (.bool true)) ρ1) (fb ρ1 Φ)) :=
  PEw (pe_or h h') fun σ H Q ⟨B, S, ρ, G, Φ, g, q, k⟩ => ⟨B, S, ρ, G, _, g, q, fun h v ρ1 G1 H1 f1 g1 s1 o1 fr1 => by
    clear fr1
    unfold boolP at f1
    split at f1
    · rename_i t
      cases o1
      refine ⟨t, rfl, ?_⟩
      cases t with
      | true => exact k _ _ ρ1 G1 H1 (f1.1 rfl) g1 s1 (Dt.bl true) trivial
      | false => exact ⟨B, S, ρ1, G1, Φ, g1, f1.2 rfl, fun h2 v2 ρ2 G2 H2 f2 g2 s2 o2 fr2 => k h2 v2 ρ2 G2 H2 f2 g2 (s1.trans s2) o2 (fr2.back s1)⟩
    · exact f1.elim⟩
theorem dv_not (h : PE X a (dE X.K fa)) : PE X (.UnaryOp .Not a pos) (dE X.K fun ρ Φ => fa ρ fun h ρ1 => boolP h fun t => Φ (.val (.bool (!t))) ρ1) :=
  PEw (pe_not h) fun σ H Q ⟨B, S, ρ, G, Φ, g, q, k⟩ => ⟨B, S, ρ, G, _, g, q, fun h v ρ1 G1 H1 f1 g1 s1 o1 fr1 => by
    clear fr1
    unfold boolP at f1
    split at f1
    · rename_i t
      cases o1
      exact ⟨t, rfl, k _ _ ρ1 G1 H1 f1 g1 s1 (Dt.bl (!t)) trivial⟩
    · exact f1.elim⟩
theorem de_if (hc : PT X c (dT X.K F)) (ha : PE X a (dE X.K fa)) (hb : PE X b (dE X.K fb)) : PE X (.IfExp c a b pos) (dE X.K (ifF F fa fb)) :=
  PEw (pe_ifExp hc ha hb) fun σ H Q ⟨B, S, ρ, G, Φ, g, q, k⟩ => ⟨B, S, ρ, G, _, g, q, fun t ρ1 G1 H1 f1 g1 s1 => by
    cases t with
    | true => exact ⟨B, S, ρ1, G1, Φ, g1, f1.1 rfl, fun h2 v2 ρ2 G2 H2 f2 g2 s2 o2 fr2 => k h2 v2 ρ2 G2 H2 f2 g2 (s1.trans s2) o2 (fr2.back s1)⟩
    | false => exact ⟨B, S, ρ1, G1, Φ, g1, f1.2 rfl, fun h2 v2 ρ2 G2 H2 f2 g2 s2 o2 fr2 => k h2 v2 ρ2 G2 H2 f2 g2 (s1.trans s2) o2 (fr2.back s1)⟩⟩

/-! ### lists of expressions -/
variable {es : List Expr} {fl : LF}
theorem dl_nil : PA X [] (dL X.K nilF) := PAw pa_nil fun σ H Q ⟨B, S, ρ, G, Φ, g, q, k⟩ => k [] [] ρ G H q g (.refl g) .nil
theorem dl_cons (he : PE X e (dE X.K f)) (hr : PA X es (dL X.K fl)) (hs : starEach (e :: es) X.env = (false, eval e X.env) :: starEach es X.env := by rfl) : PA X (e :: es) (dL X.K (consF f fl)) :=
  PAw (pa_cons (de_data he) hr hs) fun σ H Q ⟨B, S, ρ, G, Φ, g, q, k⟩ => ⟨B, S, ρ, G, _, g, q, fun d v ρ1 G1 H1 f1 g1 s1 t1 => ⟨B, S, ρ1, G1, _, g1, f1, fun ds vs ρ2 G2 H2 f2 g2 s2 t2 =>
    k (d :: ds) (v :: vs) ρ2 G2 H2 f2 g2 (s1.trans s2) (.cons (Dt.mono s2.ext d t1) t2)⟩⟩
theorem dl_star {p : Pos} (he : PE X e (dE X.K f)) (hr : PA X es (dL X.K fl)) (hs : starEach (.Starred e p :: es) X.env = (true, eval e X.env) :: starEach es X.env := by rfl) : PA X (.Starred e p :: es) (dL X.K (starF f fl)) :=
  PAw (StX.pa_star he hr hs) fun σ H Q ⟨B, S, ρ, G, Φ, g, q, k⟩ => ⟨B, S, ρ, G, _, g, q, fun h v ρ1 G1 H1 f1 g1 s1 o1 _ => by
    obtain ⟨d, f2, r2⟩ := rd_of g1 o1 f1
    have fin : ∀ xs vs, DtAll X.K G1 vs xs → fl ρ1 (fun ds ρ3 => Φ (xs ++ ds) ρ3) → dL X.K fl σ H1 fun ys H2 => Q (vs ++ ys) H2 := fun xs vs t q => ⟨B, S, ρ1, G1, _, g1, q, fun ds us ρ2 G2 H2 f2 g2 s2 t2 =>
      k (xs ++ ds) (vs ++ us) ρ2 G2 H2 f2 g2 (s1.trans s2) ((DtAll.mono s2.ext xs t).append t2)⟩
    unfold seqP at f2
    split at f2
    · obtain ⟨p, vs, rfl, hl, t⟩ := r2.list g1.ing
      exact ⟨p, vs, rfl, .inr (.of hl), fin _ _ t f2⟩
    · obtain ⟨p, vs, rfl, hl, t⟩ := r2.tuple
      exact ⟨p, vs, rfl, .inl (hl.mono g1.ing).t, fin _ _ t f2⟩
    · exact f2.elim⟩
theorem de_tup {k : Nat} (h : PA X es (dL X.K fl)) : PE X (.Tuple es k pos) (dE X.K (tupF fl)) := PEw (pe_tupN h) fun σ H Q ⟨B, S, ρ, G, Φ, g, q, k⟩ => ⟨B, S, ρ, G, _, g, q, fun ds vs ρ1 G1 H1 f1 g1 s1 t1 =>
  ⟨by rw [t1.length]; exact f1.1, fun p ob ho hp => by
    have n : Nst G1 H1 (upd G1 p (.frz ob (.tup vs))) (upd H1 p (.frz ob (.tup vs))) := Nst.know g1.ing hp
    exact k _ _ ρ1 _ _ f1.2 (g1.nst n) (s1.trans (n.stp g1)) (Dt.tup (.new ho) (DtAll.mono n.ext ds t1)) trivial⟩⟩
theorem de_lst (h : PA X es (dL X.K fl)) : PE X (.List es pos) (dE X.K (lstF fl)) := PEw (pe_lst h) fun σ H Q ⟨B, S, ρ, G, Φ, g, q, k⟩ => ⟨B, S, ρ, G, _, g, q, fun ds vs ρ1 G1 H1 f1 g1 s1 t1 =>
  ⟨by rw [t1.length]; exact f1.1, fun p hp => by
    have n : Nst G1 H1 G1 (upd H1 p (.lst vs)) := Nst.lay g1.ing hp
    obtain ⟨f4, f5, f6⟩ := g1.fresh2 hp
    refine k _ _ ρ1 _ _ f1.2 (g1.nst n) (s1.trans (n.stp g1)) ⟨p, vs, rfl, upd_same, t1, g1.ing.free hp, f4, f5, fun o => f6 (o.back g1 fun b o _ q => n.hxt b o q)⟩ fun a z => ?_
    cases z
    cases q : H p with
    | none => rfl
    | some o => exact absurd hp (s1.kp p (by rw [q]; exact fun z => nomatch z))⟩⟩
/-- {}: no entries, read as data -/
theorem de_dict0 : PE X (.Dict [] [] pos) (dE X.K (constF (.dict []))) := PEw pe_dnewK fun σ H Q ⟨B, S, ρ, G, Φ, g, q, k⟩ => fun p hp => by
  have n : Nst G H (upd G p (.dK [])) (upd H p (.dK [])) := Nst.know g.ing hp
  exact k _ _ ρ _ _ q (g.nst n) (n.stp g) (Dt.dic0 upd_same) trivial
end
end Dat


set_option Elab.async false
set_option linter.all false
set_option maxRecDepth 100000
set_option maxHeartbeats 4000000
/-! DatC: targets, statements, walks, comprehensions, defs. -/
namespace Dat
open PySem L2

section
variable {K : PySem.W.Frag} {B : Hp × Hp} {S : Sr} {ρ ρ' ρ1 ρ2 : Rho} {σ : St} {G H G' H' G1 H1 G2 H2 : Hp}
/-- a slot is stored -/
theorem Good.store (g : Good K B S ρ σ G H) {i : Nat} {v : V} {x : Slot} (h : SlotOk K B S G H (some (some v)) x) (hn : ∀ a, Foot H (some (some v)) x a → ¬Own ρ σ H a) : Good K B S (ρ.set i x) (σ.set i (some v)) G H := by
  refine ⟨g.ing, g.reg, g.ext, g.out, g.pre, by rw [List.length_set, List.length_set]; exact g.len, fun j y e => ?_, fun j k y z a e1 e2 f1 f2 => ?_⟩
  · by_cases hl : i < ρ.length
    · rcases set_get e with ⟨rfl, rfl⟩ | ⟨ne, e'⟩
      · rw [List.getElem?_set_self (by rw [← g.len]; exact hl)]; exact h
      · rw [List.getElem?_set_ne ne]; exact g.sl j y e'
    · rw [List.set_eq_of_length_le (by omega)] at e
      rw [List.set_eq_of_length_le (by rw [← g.len]; omega)]
      exact g.sl j y e
  · have own : ∀ m y, (ρ.set i x)[m]? = some y → Foot H (σ.set i (some v))[m]? y a → (m = i ∧ Foot H (some (some v)) x a) ∨ (ρ[m]? = some y ∧ Foot H σ[m]? y a) := fun m y q1 q2 => by
      by_cases hl : i < ρ.length
      · rcases set_get q1 with ⟨rfl, rfl⟩ | ⟨ne, q3⟩
        · rw [List.getElem?_set_self (by rw [← g.len]; exact hl)] at q2
          exact .inl ⟨rfl, q2⟩
        · rw [List.getElem?_set_ne ne] at q2
          exact .inr ⟨q3, q2⟩
      · rw [List.set_eq_of_length_le (by omega)] at q1
        rw [List.set_eq_of_length_le (by rw [← g.len]; omega)] at q2
        exact .inr ⟨q1, q2⟩
    rcases own j y e1 f1 with ⟨z1, z2⟩ | ⟨z1, z2⟩
    · rcases own k z e2 f2 with ⟨y1, y2⟩ | ⟨y1, y2⟩
      · rw [z1, y1]
      · exact absurd ⟨k, z, y1, y2⟩ (hn a z2)
    · rcases own k z e2 f2 with ⟨y1, y2⟩ | ⟨y1, y2⟩
      · exact absurd ⟨j, y, z1, z2⟩ (hn a y2)
      · exact g.sep j k y z a z1 y1 z2 y2
theorem Good.storeD (g : Good K B S ρ σ G H) {i : Nat} {v : V} {d : PyData} (h : Dt K G v d) : Good K B S (ρ.set i (.da d)) (σ.set i (some v)) G H := g.store ⟨v, rfl, h⟩ fun _ z => z.elim
theorem own_store {i : Nat} {v : V} {x : Slot} (hl : ρ.length = σ.length) (hn : ∀ H v b, ¬Foot H v x b) {a : Addr} (h : Own (ρ.set i x) (σ.set i (some v)) H a) : Own ρ σ H a := by
  obtain ⟨j, y, e1, e2⟩ := h
  by_cases hi : i < ρ.length
  · rcases set_get e1 with ⟨rfl, rfl⟩ | ⟨ne, z⟩
    · exact absurd e2 (hn _ _ _)
    · rw [List.getElem?_set_ne ne] at e2
      exact ⟨j, y, z, e2⟩
  · rw [List.set_eq_of_length_le (by omega)] at e1
    rw [List.set_eq_of_length_le (by omega)] at e2
    exact ⟨j, y, e1, e2⟩
end

/-! ### targets -/
abbrev GF := PyData → Rho → (Rho → Prop) → Prop
abbrev GsF := List PyData → Rho → (Rho → Prop) → Prop
/-- the slots that a target stores: the others stay -/
def SetBy (js : List Nat) (σ σ' : St) : Prop := ∀ l, (∀ j ∈ js, j ∈ l) → wipe σ' l = wipe σ l
/-- read as data; a weak one may be a tuple of which no more is known -/
def DtW (K : PySem.W.Frag) (w : Bool) (H : Hp) (v : V) (d : PyData) : Prop := Dt K H v d ∨ (w = true ∧ ∃ a vs ds, v = .ref a ∧ d = .tuple ds ∧ SqT K H a vs ∧ DtAll K H vs ds)
theorem DtW.f {K : PySem.W.Frag} {H : Hp} {v : V} {d : PyData} (h : DtW K false H v d) : Dt K H v d := h.elim id fun h => nomatch h.1
def dG (K : PySem.W.Frag) (w : Bool) (js : List Nat) (bd : GF) : TG := fun v σ H Q => ∃ B S ρ G d Ψ, Good K B S ρ σ G H ∧ DtW K w G v d ∧ bd d ρ Ψ ∧ ∀ ρ' σ', Ψ ρ' → Good K B S ρ' σ' G H → SetBy js σ σ' → (∀ a, Own ρ' σ' H a → Own ρ σ H a) → Q σ' H
def dGs (K : PySem.W.Frag) (js : List Nat) (bd : GsF) : TGs := fun vs σ H Q => ∃ B S ρ G ds Ψ, Good K B S ρ σ G H ∧ DtAll K G vs ds ∧ bd ds ρ Ψ ∧ ∀ ρ' σ', Ψ ρ' → Good K B S ρ' σ' G H → SetBy js σ σ' → (∀ a, Own ρ' σ' H a → Own ρ σ H a) → Q σ' H
def bdN (i : Nat) : GF := fun d ρ Ψ => Ψ (ρ.set i (.da d))
def bdT (bs : GsF) : GF := fun d ρ Ψ => match d with
  | .tuple ds => bs ds ρ Ψ
  | _ => False
def bsN : GsF := fun ds ρ Ψ => match ds with
  | [] => Ψ ρ
  | _ :: _ => False
def bsC (b : GF) (bs : GsF) : GsF := fun ds ρ Ψ => match ds with
  | [] => False
  | d :: r => b d ρ fun ρ1 => bs r ρ1 Ψ
/-- so many targets -/
def bsL (n : Nat) (bs : GsF) : GsF := fun ds ρ Ψ => ds.length = n ∧ bs ds ρ Ψ
theorem wipe_set {σ : St} {i : Nat} {x : Option V} : ∀ {l : List Nat}, i ∈ l → wipe (σ.set i x) l = wipe σ l
  | [], h => by simp at h
  | j :: l, h => by
    unfold wipe
    by_cases e : i ∈ l
    · rw [wipe_set e]
    · have hj : i = j := by
        rcases List.mem_cons.mp h with z | z
        · exact z
        · exact absurd z e
      subst hj
      have : ∀ (l : List Nat) (τ : St), i ∉ l → wipe (τ.set i x) l = (wipe τ l).set i x := fun l => by
        induction l with
        | nil => intro τ _; rfl
        | cons k l ih =>
          intro τ hk
          unfold wipe
          rw [ih τ (fun z => hk (List.mem_cons_of_mem _ z))]
          exact List.set_comm _ _ (fun z => hk (by rw [z]; exact List.mem_cons_self ..))
      rw [this l σ e, List.set_set]
section
variable {X : Cx} {pos : Pos} {es : List Expr} {e tg : Expr}
theorem dg_name (i : Nat) {x : Str} (hN : X.N.Nodup) (hi : X.N[i]? = some x := by rfl) (hx : Loc X.env.scope x := by first | exact Or.inl rfl | exact Or.inr rfl) (hf : X.fn x = true ∨ X.env.scope.names.lookup x = some .local := by first | exact .inl rfl | exact .inr rfl | assumption) : PG X (.Name x pos) (dG X.K false [i] (bdN i)) :=
  PGw (pg_name hN hi hx hf) fun v σ H Q ⟨B, S, ρ, G, d, Ψ, g, t, b, k⟩ => k _ _ b (g.storeD t.f) (fun l hl => wipe_set (hl i (List.mem_cons_self ..))) fun a h => own_store (x := Slot.da d) g.len (nf_da d) h
theorem dgs_nil : PGs X [] (dGs X.K [] bsN) := PGsw pgs_nil fun vs σ H Q ⟨B, S, ρ, G, ds, Ψ, g, t, b, k⟩ => by
  cases t with
  | nil => exact ⟨rfl, k ρ σ b g (fun l _ => rfl) fun a h => h⟩
  | cons t1 t2 => exact b.elim
theorem dgs_cons {js ks : List Nat} {b1 : GF} {b2 : GsF} (h1 : PG X e (dG X.K false js b1)) (h2 : PGs X es (dGs X.K ks b2)) (hs : (assignEach (e :: es) X.env).map (·.2) = assign e X.env :: (assignEach es X.env).map (·.2) := by rfl) : PGs X (e :: es) (dGs X.K (js ++ ks) (bsC b1 b2)) :=
  PGsw (pgs_cons h1 h2 hs) fun vs σ H Q ⟨B, S, ρ, G, ds, Ψ, g, t, b, k⟩ => by
    cases t with
    | nil => exact b.elim
    | cons t1 t2 =>
      refine ⟨_, _, rfl, B, S, ρ, G, _, _, g, .inl t1, b, fun ρ1 σ1 b1 g1 w1 o1 => ⟨B, S, ρ1, G, _, Ψ, g1, t2, b1, fun ρ2 σ2 b2 g2 w2 o2 => k ρ2 σ2 b2 g2 (fun l hl => ?_) fun a h => o1 a (o2 a h)⟩⟩
      exact (w2 l fun j hj => hl j (List.mem_append_right _ hj)).trans (w1 l fun j hj => hl j (List.mem_append_left _ hj))
theorem dg_tup {w : Bool} {js : List Nat} {k n : Nat} {bs : GsF} (hc : X.calm = true) (h : PGs X es (dGs X.K js bs)) (hn : (assignEach es X.env).length = n := by rfl) (hst : (assignEach es X.env).findIdx? (·.1) = none := by rfl) : PG X (.Tuple es k pos) (dG X.K w js (bdT (bsL n bs))) :=
  PGw (pg_tup hc h hn hst) fun v σ H Q ⟨B, S, ρ, G, d, Ψ, g, t, b, k⟩ => by
    rcases t with t | ⟨_, a, vs, ds, rfl, rfl, hs, ta⟩
    · cases t with
      | tup hs ta => exact ⟨_, _, rfl, (hs.mono g.ing).t, by rw [ta.length]; exact b.1, B, S, ρ, G, _, Ψ, g, ta, b.2, k⟩
      | _ => exact b.elim
    · exact ⟨_, _, rfl, Same.seqT g.ing hs, by rw [ta.length]; exact b.1, B, S, ρ, G, _, Ψ, g, ta, b.2, k⟩
end

/-! ### statements -/
structure Kont where
  nx : Rho → Prop
  rt : PyData → Prop
  bk : Rho → Prop := fun _ => False
  ct : Rho → Prop := fun _ => False
abbrev SF := Rho → Kont → Prop
structure DEnds (K : PySem.W.Frag) (B : Hp × Hp) (S : Sr) (k : Kont) (D : Ends) : Prop where
  nx : ∀ ρ σ G H, k.nx ρ → Good K B S ρ σ G H → D.nx σ H
  rt : ∀ d v ρ σ G H, k.rt d → Good K B S ρ σ G H → Dt K G v d → D.rt v H
  bk : ∀ ρ σ G H, k.bk ρ → Good K B S ρ σ G H → D.bk σ H
  ct : ∀ ρ σ G H, k.ct ρ → Good K B S ρ σ G H → D.ct σ H
def dS (K : PySem.W.Frag) (F : SF) : TS := fun D σ H => ∃ B S ρ G k, Good K B S ρ σ G H ∧ F ρ k ∧ DEnds K B S k D
def skipF : SF := fun ρ k => k.nx ρ
def brkF : SF := fun ρ k => k.bk ρ
def contF : SF := fun ρ k => k.ct ρ
def seqF (F F' : SF) : SF := fun ρ k => F ρ { k with nx := fun ρ' => F' ρ' k }
def setF (i : Nat) (f : DF) : SF := fun ρ k => f ρ fun h ρ1 => datOf h ρ1 fun d ρ2 => k.nx (ρ2.set i (.da d))
/-- a new list stays one's own, all else becomes data -/
def pend (own : Bool) (h : Hd) (ρ : Rho) (N : Hd → Rho → Prop) : Prop := match own, h with
  | true, .new ds => N (.new ds) ρ
  | _, _ => datOf h ρ fun d ρ' => N (.val d) ρ'
def slotOf : Hd → Slot
  | .val d => .da d
  | .new ds => .ow ds
  | _ => .un
def ownF (i : Nat) (f : DF) : SF := fun ρ k => f ρ fun h ρ1 => pend true h ρ1 fun x ρ2 => k.nx (ρ2.set i (slotOf x))
def asgF (bd : GF) (f : DF) : SF := fun ρ k => f ρ fun h ρ1 => datOf h ρ1 fun d ρ2 => bd d ρ2 k.nx
def retF (f : DF) : SF := fun ρ k => f ρ fun h ρ1 => datOf h ρ1 fun d _ => k.rt d
def retNF : SF := fun _ k => k.rt .none
def dropF (f : DF) : SF := fun ρ k => f ρ fun _ ρ1 => k.nx ρ1
def ifS (F : BF) (f g : SF) : SF := fun ρ k => F ρ fun b ρ1 => brP b (f ρ1 k) (g ρ1 k)
def parF (o1 o2 : Bool) (i j : Nat) (fa fb : DF) : SF := fun ρ k => fa ρ fun x ρ1 => pend o1 x ρ1 fun x' ρ2 => fb ρ2 fun y ρ3 => pend o2 y ρ3 fun y' ρ4 => k.nx ((ρ4.set i (slotOf x')).set j (slotOf y'))
def whN (F : BF) (body : SF) : Nat → SF
  | 0, _, _ => False
  | n + 1, ρ, k => F ρ fun t ρ1 => brP t (body ρ1 { nx := fun ρ2 => whN F body n ρ2 k, ct := fun ρ2 => whN F body n ρ2 k, bk := k.nx, rt := k.rt }) (k.nx ρ1)
def whF (F : BF) (body : SF) : SF := fun ρ k => ∃ n, whN F body n ρ k
section
variable {K : PySem.W.Frag} {B : Hp × Hp} {S : Sr} {ρ ρ' ρ1 ρ2 : Rho} {σ : St} {G H G' H' G1 H1 G2 H2 : Hp}
theorem pend_ok {own : Bool} {Φ : Hd → Rho → Prop} (g : Good K B S ρ1 σ G1 H1) (s : Stp S σ ρ G H ρ1 G1 H1) {h : Hd} {v : V} (q : HdOk K B S ρ1 σ G1 H1 v h) (fr : Fresh H v h) (d : pend own h ρ1 Φ) :
    ∃ x ρ2 G2, Φ x ρ2 ∧ Good K B S ρ2 σ G2 H1 ∧ Stp S σ ρ G H ρ2 G2 H1 ∧ HdOk K B S ρ2 σ G2 H1 v x ∧ Fresh H v x ∧ ((∃ d, x = .val d) ∨ ∃ ds, x = .new ds) := by
  have dat : (datOf h ρ1 fun d ρ' => Φ (.val d) ρ') → ∃ x ρ2 G2, Φ x ρ2 ∧ Good K B S ρ2 σ G2 H1 ∧ Stp S σ ρ G H ρ2 G2 H1 ∧ HdOk K B S ρ2 σ G2 H1 v x ∧ Fresh H v x ∧ ((∃ d, x = .val d) ∨ ∃ ds, x = .new ds) := fun d => by
    obtain ⟨x, ρ2, G2, f2, g2, s2, t2⟩ := frz g s q fr d
    exact ⟨.val x, ρ2, G2, f2, g2, s2, t2, trivial, .inl ⟨x, rfl⟩⟩
  cases own with
  | false => exact dat d
  | true =>
    cases h with
    | new ds => exact ⟨.new ds, ρ1, G1, d, g, s, q, fr, .inr ⟨ds, rfl⟩⟩
    | val x => exact dat d
    | slot i => exact dat d
    | src => exact dat d
/-- stored in a slot -/
theorem Good.put (g : Good K B S ρ σ G H) {i : Nat} {v : V} {h : Hd} (q : HdOk K B S ρ σ G H v h) (hx : (∃ d, h = .val d) ∨ ∃ ds, h = .new ds) : Good K B S (ρ.set i (slotOf h)) (σ.set i (some v)) G H := by
  rcases hx with ⟨d, rfl⟩ | ⟨ds, rfl⟩
  · exact g.storeD q
  · obtain ⟨a, vs, rfl, h1, h2, h3, h4, h5, h6⟩ := q
    exact g.store (x := .ow ds) ⟨a, vs, rfl, h1, h2, h3, h4, h5⟩ fun b z => by cases z; exact h6
end
/-- come to, made data but for new lists that are to be one's own -/
def dPe (K : PySem.W.Frag) (o : Bool) (F : DF) : TE := fun σ H Q => ∃ B S ρ G Φ, Good K B S ρ σ G H ∧ F ρ (fun h ρ1 => pend o h ρ1 Φ) ∧ ∀ h v ρ' G' H', Φ h ρ' → ((∃ d, h = .val d) ∨ ∃ ds, h = .new ds) → Good K B S ρ' σ G' H' → Stp S σ ρ G H ρ' G' H' → HdOk K B S ρ' σ G' H' v h → Fresh H v h → Q v H'
section
variable {X : Cx} {st : Stmt} {rest sa sb : List Stmt} {e a b c tg : Expr} {pos : Pos} {f fa fb : DF} {F : BF} {s s1 s2 : SF}
theorem ds_nil : PSs X [] (dS X.K skipF) := PSsw pss_nil fun D σ H ⟨B, S, ρ, G, k, g, q, d⟩ => d.nx ρ σ G H q g
theorem ds_cons (h1 : PS X st (dS X.K s1)) (h2 : PSs X rest (dS X.K s2)) : PSs X (st :: rest) (dS X.K (seqF s1 s2)) :=
  PSsw (pss_cons h1 h2) fun D σ H ⟨B, S, ρ, G, k, g, q, d⟩ => ⟨B, S, ρ, G, _, g, q, ⟨fun ρ1 σ1 G1 H1 q1 g1 => ⟨B, S, ρ1, G1, k, g1, q1, d⟩, d.rt, d.bk, d.ct⟩⟩
theorem ds_one (h : PS X st (dS X.K s)) : PSs X [st] (dS X.K s) := pss_one h
theorem ds_pass : PS X (.Pass pos) (dS X.K skipF) := PSw ps_pass fun D σ H ⟨B, S, ρ, G, k, g, q, d⟩ => d.nx ρ σ G H q g
theorem ds_break : PS X (.Break pos) (dS X.K brkF) := PSw ps_break fun D σ H ⟨B, S, ρ, G, k, g, q, d⟩ => d.bk ρ σ G H q g
theorem ds_continue : PS X (.Continue pos) (dS X.K contF) := PSw ps_continue fun D σ H ⟨B, S, ρ, G, k, g, q, d⟩ => d.ct ρ σ G H q g
theorem r_set {i : Nat} {te : TE} (w : ∀ σ H Q, dE X.K f σ H Q → te σ H Q) (D : Ends) (σ : St) (H : Hp) (h : dS X.K (setF i f) D σ H) : tAsg te (gName i) D σ H := by
  obtain ⟨B, S, ρ, G, k, g, q, d⟩ := h
  refine w _ _ _ ⟨B, S, ρ, G, _, g, q, fun h v ρ1 G1 H1 f1 g1 s1 o1 fr => ?_⟩
  obtain ⟨x, ρ2, G2, f2, g2, s2, t2⟩ := frz g1 s1 o1 fr f1
  exact d.nx _ _ G2 H1 f2 (g2.storeD t2)
theorem r_own {i : Nat} {te : TE} (w : ∀ σ H Q, dE X.K f σ H Q → te σ H Q) (D : Ends) (σ : St) (H : Hp) (h : dS X.K (ownF i f) D σ H) : tAsg te (gName i) D σ H := by
  obtain ⟨B, S, ρ, G, k, g, q, d⟩ := h
  refine w _ _ _ ⟨B, S, ρ, G, _, g, q, fun h v ρ1 G1 H1 f1 g1 s1 o1 fr => ?_⟩
  obtain ⟨x, ρ2, G2, f2, g2, s2, o2, _, hx⟩ := pend_ok g1 s1 o1 fr f1
  exact d.nx _ _ G2 H1 f2 (g2.put o2 hx)
theorem ds_set (i : Nat) {x : Str} {pos' : Pos} (he : PE X e (dE X.K f)) (hN : X.N.Nodup) (hi : X.N[i]? = some x := by rfl) (hx : Loc X.env.scope x := by first | exact Or.inl rfl | exact Or.inr rfl) (hs : swapsWith e (some (.Name x pos')) pos.line X.env = pure false := by rfl) (hf : X.fn x = true ∨ X.env.scope.names.lookup x = some .local := by first | exact .inl rfl | exact .inr rfl | assumption) :
    PS X (.Assign [.Name x pos'] e pos) (dS X.K (setF i f)) := PSw (ps_set hN hi hx he hs hf) (r_set fun _ _ _ h => h)
theorem ds_own (i : Nat) {x : Str} {pos' : Pos} (he : PE X e (dE X.K f)) (hN : X.N.Nodup) (hi : X.N[i]? = some x := by rfl) (hx : Loc X.env.scope x := by first | exact Or.inl rfl | exact Or.inr rfl) (hs : swapsWith e (some (.Name x pos')) pos.line X.env = pure false := by rfl) (hf : X.fn x = true ∨ X.env.scope.names.lookup x = some .local := by first | exact .inl rfl | exact .inr rfl | assumption) :
    PS X (.Assign [.Name x pos'] e pos) (dS X.K (ownF i f)) := PSw (ps_set hN hi hx he hs hf) (r_own fun _ _ _ h => h)
theorem ds_asg {js : List Nat} {bd : GF} (he : PE X e (dE X.K f)) (hg : PG X tg (dG X.K false js bd)) (hs : swapsWithSole [tg] e pos.line X.env = pure false := by rfl) (hw : swappedStores [tg] e X.env = pure none := by rfl) (h1 : (assignEach [tg] X.env).map (·.2) = [assign tg X.env] := by rfl) : PS X (.Assign [tg] e pos) (dS X.K (asgF bd f)) :=
  PSw (ps_asg he hg hs hw h1) fun D σ H ⟨B, S, ρ, G, k, g, q, d⟩ => ⟨B, S, ρ, G, _, g, q, fun h v ρ1 G1 H1 f1 g1 s1 o1 fr => by
    obtain ⟨x, ρ2, G2, f2, g2, s2, t2⟩ := frz g1 s1 o1 fr f1
    exact ⟨B, S, ρ2, G2, x, _, g2, .inl t2, f2, fun ρ3 σ3 f3 g3 _ _ => d.nx ρ3 σ3 G2 H1 f3 g3⟩⟩
theorem ds_ret (he : PE X e (dE X.K f)) : PS X (.Return (some e) pos) (dS X.K (retF f)) := PSw (ps_ret he) fun D σ H ⟨B, S, ρ, G, k, g, q, d⟩ => ⟨B, S, ρ, G, _, g, q, fun h v ρ1 G1 H1 f1 g1 s1 o1 fr => by
    obtain ⟨x, ρ2, G2, f2, g2, s2, t2⟩ := frz g1 s1 o1 fr f1
    exact d.rt x v ρ2 σ G2 H1 f2 g2 t2⟩
theorem ds_retN : PS X (.Return none pos) (dS X.K retNF) := PSw ps_retN fun D σ H ⟨B, S, ρ, G, k, g, q, d⟩ => d.rt _ _ ρ σ G H q g .non
theorem ds_expr (he : PE X e (dE X.K f)) (hs : swapsWith e none pos.line X.env = pure false := by rfl) : PS X (.Expr e pos) (dS X.K (dropF f)) := PSw (ps_expr he hs) fun D σ H ⟨B, S, ρ, G, k, g, q, d⟩ =>
  ⟨B, S, ρ, G, _, g, q, fun h v ρ1 G1 H1 f1 g1 s1 o1 fr => d.nx ρ1 σ G1 H1 f1 g1⟩
theorem ds_doc {x j pos'} : PS X (.Expr (.Constant (.str x) j pos) pos') (dS X.K skipF) := PSw ps_doc fun D σ H ⟨B, S, ρ, G, k, g, q, d⟩ => d.nx ρ σ G H q g
theorem ds_if (hc : PT X c (dT X.K F)) (ha : PSs X sa (dS X.K s1)) (hb : PSs X sb (dS X.K s2)) : PS X (.If c sa sb pos) (dS X.K (ifS F s1 s2)) := PSw (ps_if hc ha hb) fun D σ H ⟨B, S, ρ, G, k, g, q, d⟩ =>
  ⟨B, S, ρ, G, _, g, q, fun t ρ1 G1 H1 f1 g1 _ => by
    cases t with
    | true => exact ⟨B, S, ρ1, G1, k, g1, f1.1 rfl, d⟩
    | false => exact ⟨B, S, ρ1, G1, k, g1, f1.2 rfl, d⟩⟩
theorem de_pend (o : Bool) (h : PE X e (dE X.K f)) : PE X e (dPe X.K o f) := PEw h fun σ H Q ⟨B, S, ρ, G, Φ, g, q, k⟩ => ⟨B, S, ρ, G, _, g, q, fun h v ρ1 G1 H1 f1 g1 s1 o1 fr => by
    obtain ⟨x, ρ2, G2, f2, g2, s2, o2, fr2, hx⟩ := pend_ok g1 s1 o1 fr f1
    exact k x v ρ2 G2 H1 f2 hx g2 s2 o2 fr2⟩
theorem ds_par (o1 o2 : Bool) (i j : Nat) {x y : Str} {px py pt : Pos} {kt k2 : Nat} {pt2 : Pos} (hc : X.calm = true) (hN : X.N.Nodup) (ha : PE X a (dE X.K fa)) (hb : PE X b (dE X.K fb)) (hi : X.N[i]? = some x := by rfl) (hj : X.N[j]? = some y := by rfl) (hij : i ≠ j := by decide)
    (hx : X.env.scope.names.lookup x = some .local := by rfl) (hy : X.env.scope.names.lookup y = some .local := by rfl) (hsa : starEach [a, b] X.env = (false, eval a X.env) :: starEach [b] X.env := by rfl) (hsb : starEach [b] X.env = (false, eval b X.env) :: starEach [] X.env := by rfl)
    (hw : swappedStores [.Tuple [.Name x px, .Name y py] kt pt] (.Tuple [a, b] k2 pt2) X.env = pure (some [x, y]) := by rfl)
    (hs : swapsWithSole [.Tuple [.Name x px, .Name y py] kt pt] (.Tuple [a, b] k2 pt2) pos.line X.env = pure false := by rfl) :
    PS X (.Assign [.Tuple [.Name x px, .Name y py] kt pt] (.Tuple [a, b] k2 pt2) pos) (dS X.K (parF o1 o2 i j fa fb)) := by
  refine PSw (ps_par hc hN hi hj hij hx hy (pa_cons (de_pend o1 ha) (pa_cons (de_pend o2 hb) pa_nil hsb) hsa) hw hs) fun D σ H ⟨B, S, ρ, G, k, g, q, d⟩ => ?_
  refine ⟨B, S, ρ, G, _, g, q, fun x' v ρ2 G2 H2 f2 hx' g2 s2 ox _ => ⟨B, S, ρ2, G2, _, g2, f2, fun y' w ρ4 G4 H4 f4 hy' g4 s4 oy fr => ?_⟩⟩
  have ox4 := ox.mono s4
  have gx := g4.put (i := i) ox4 hx'
  have oy' : HdOk X.K B S (ρ4.set i (slotOf x')) (σ.set i (some v)) G4 H4 w y' := by
    rcases hy' with ⟨dy, rfl⟩ | ⟨es, rfl⟩
    · exact oy
    · obtain ⟨p, vs, rfl, h1, h2, h3, h4, h5, h6⟩ := oy
      refine ⟨p, vs, rfl, h1, h2, h3, h4, h5, ?_⟩
      rcases hx' with ⟨dx, rfl⟩ | ⟨ds, rfl⟩
      · exact fun z => h6 (own_store (x := slotOf (.val dx)) g4.len (nf_da dx) z)
      · obtain ⟨q, us, rfl, k1, k2, k3, k4, k5, k6⟩ := ox
        have hpq : p ≠ q := fun z => by
          subst z
          have := fr p rfl
          rw [k1] at this; cases this
        rintro ⟨m, y, e1, e2⟩
        by_cases hl : i < ρ4.length
        · rcases set_get e1 with ⟨rfl, rfl⟩ | ⟨ne, z⟩
          · rw [List.getElem?_set_self (by rw [← g4.len]; exact hl)] at e2
            cases e2
            exact hpq rfl
          · rw [List.getElem?_set_ne ne] at e2
            exact h6 ⟨m, y, z, e2⟩
        · rw [List.set_eq_of_length_le (by omega)] at e1
          rw [List.set_eq_of_length_le (by rw [← g4.len]; omega)] at e2
          exact h6 ⟨m, y, e1, e2⟩
  exact ⟨v, w, rfl, d.nx _ _ G4 H4 f4 (gx.put oy' hy')⟩
theorem ds_while {hp : PassesOwn (model X.prog X.w) X.A X.env X.xe} (hc : PT X c (dT X.K F)) (hb : PSs X sa (dS X.K s)) : PS X (.While c sa [] pos) (dS X.K (whF F s)) := PSw (ps_while hp hc hb) fun D σ H ⟨B, S, ρ, G, k, g, ⟨n, q⟩, d⟩ => by
  refine ⟨fun m σ H => ∃ ρ G, Good X.K B S ρ σ G H ∧ whN F s m ρ k, ⟨n, ρ, G, g, q⟩, fun m σ1 H1 ⟨ρ1, G1, g1, q1⟩ => ?_⟩
  cases m with
  | zero => exact q1.elim
  | succ m =>
    refine ⟨B, S, ρ1, G1, _, g1, q1, fun t ρ2 G2 H2 f2 g2 _ => ?_⟩
    cases t with
    | false => exact d.nx ρ2 σ1 G2 H2 (f2.2 rfl) g2
    | true =>
      refine ⟨fun σ' H' => ∃ ρ G, Good X.K B S ρ σ' G H' ∧ whN F s m ρ k, fun σ' H' h => ⟨m, Nat.lt_succ_self m, h⟩, B, S, ρ2, G2, _, g2, f2.1 rfl, ⟨fun ρ3 σ3 G3 H3 q3 g3 => ⟨ρ3, G3, g3, q3⟩, d.rt, d.nx, fun ρ3 σ3 G3 H3 q3 g3 => ⟨ρ3, G3, g3, q3⟩⟩⟩
end
end Dat


set_option Elab.async false
set_option linter.all false
set_option maxRecDepth 100000
set_option maxHeartbeats 4000000
/-! DatD: what is walked, for, comprehensions. -/
namespace Dat
open PySem L2

/-! ### what is walked -/
inductive Cond where
  | free
  | own (i : Nat) (ds : List PyData)
def Cond.ok (c : Cond) (ρ : Rho) : Prop := match c with
  | .free => True
  | .own i ds => ρ[i]? = some (.ow ds)
def Cond.at (c : Cond) (σ1 σ : St) : Prop := match c with
  | .free => True
  | .own i _ => ∀ a, σ[i]? = some (some (.ref a)) → σ1[i]? = some (some (.ref a))
structure ItOk (K : PySem.W.Frag) (w : Bool) (B : Hp × Hp) (S : Sr) (c : Cond) (σ1 : St) (G1 : Hp) (J : It) (xs : List PyData) : Prop where
  walk : ∃ (GW : Hp → Prop) (Y : Nat → Hp → V → Hp → Prop), Walk J xs.length GW Y ∧ (∀ ρ σ G H, Good K B S ρ σ G H → Same G1 G → c.ok ρ → c.at σ1 σ → GW H) ∧
    ∀ i x ρ σ G H H', i < xs.length → Good K B S ρ σ G H → Same G1 G → c.ok ρ → c.at σ1 σ → Y i H x H' → ∃ d G', xs[i]? = some d ∧ Nst G H G' H' ∧ DtW K w G' x d
abbrev IF := Rho → (Cond → List PyData → Rho → Prop) → Prop
def dI (K : PySem.W.Frag) (w : Bool) (F : IF) : TI := fun σ H R => ∃ B S ρ G Φ, Good K B S ρ σ G H ∧ F ρ Φ ∧ ∀ c xs ρ1 G1 H1 J, Φ c xs ρ1 → Good K B S ρ1 σ G1 H1 → Stp S σ ρ G H ρ1 G1 H1 → ItOk K w B S c σ G1 J xs → R J H1
section
variable {K : PySem.W.Frag} {B : Hp × Hp} {S : Sr} {ρ ρ' ρ1 ρ2 : Rho} {σ : St} {G H G' H' G1 H1 G2 H2 : Hp} {a b : Addr} {vs us : List V} {ds es : List PyData}
theorem it_list (h : SqL K G1 a vs) (t : DtAll K G1 vs ds) : ItOk K false B S .free σ G1 (Itl K a) ds :=
  ⟨⟨fun H => SqL K H a vs, YAt vs, by rw [← t.length]; exact walk_list, fun ρ σ G H g e _ _ => g.ing.seq (e.seq h), fun i x ρ σ G H H' hi g e _ _ ⟨y1, y2⟩ => by
    subst y1
    obtain ⟨d, e1, e2⟩ := t.getV y2
    exact ⟨d, G, e1, .refl g.ing, .inl (Dt.mono e d e2)⟩⟩⟩
theorem it_tup (h : SqT K G1 a vs) (t : DtAll K G1 vs ds) : ItOk K false B S .free σ G1 (Itt K a) ds :=
  ⟨⟨fun H => SqT K H a vs, YAt vs, by rw [← t.length]; exact walk_tup, fun ρ σ G H g e _ _ => Same.seqT g.ing (Same.seqT e h), fun i x ρ σ G H H' hi g e _ _ ⟨y1, y2⟩ => by
    subst y1
    obtain ⟨d, e1, e2⟩ := t.getV y2
    exact ⟨d, G, e1, .refl g.ing, .inl (Dt.mono e d e2)⟩⟩⟩
/-- over a list of one's own that stays as it is -/
theorem it_own {i : Nat} (g1 : Good K B S ρ1 σ G1 H1) (e : ρ1[i]? = some (.ow ds)) (hv : σ[i]? = some (some (.ref a))) (h : H1 a = some (.lst vs)) (t : DtAll K G1 vs ds) : ItOk K false B S (.own i ds) σ G1 (Itl K a) ds :=
  ⟨⟨fun H => ∃ us, SqL K H a us ∧ us.length = ds.length, fun i' H x H' => H' = H ∧ ∀ us, SqL K H a us → us[i']? = some x, ⟨fun i' H hi ⟨us, q, hl⟩ => ⟨us, us[i'], q, by simp [hl, hi]⟩, fun H ⟨us, q, hl⟩ => ⟨us, q, by omega⟩,
    fun i' H x H' hi _ y => y⟩, fun ρ σ' G H g e1 ok at_ => by
      obtain ⟨b, us, e2, k1, k2, _⟩ := g.sl i _ ok
      have := at_ b e2
      rw [hv] at this
      cases this
      exact ⟨us, .of k1, k2.length⟩, fun i' x ρ σ' G H H' _ g e1 ok at_ ⟨y1, y2⟩ => by
      subst y1
      obtain ⟨b, us, e2, k1, k2, k3, _⟩ := g.sl i _ ok
      have := at_ b e2
      rw [hv] at this
      cases this
      obtain ⟨d, e3, e4⟩ := k2.getV (y2 us (.of k1))
      exact ⟨d, G, e3, .refl g.ing, .inl e4⟩⟩⟩
theorem it_range {lo : Int} {n : Nat} : ItOk K false B S .free σ G1 (Itr lo n) ((List.range n).map fun (i : Nat) => PyData.int (lo + (i : Int))) :=
  ⟨⟨fun _ => True, YFn fun i => .int (lo + i), by rw [List.length_map, List.length_range]; exact walk_range, fun _ _ _ _ _ _ _ _ => trivial, fun i x ρ σ G H H' hi g e _ _ ⟨y1, y2⟩ => by
    subst y1 y2
    rw [List.length_map, List.length_range] at hi
    exact ⟨.int (lo + i), G, by rw [List.getElem?_map, List.getElem?_range hi]; rfl, .refl g.ing, .inl (.int _)⟩⟩⟩
theorem it_pair {J : It} {n : Nat} {GW : Hp → Prop} {xs ys : Nat → Option V} {c : Cond} {ds : List PyData} (w : Walk J n GW (YPair xs ys)) (hn : n = ds.length) (hg : ∀ ρ σ' G H, Good K B S ρ σ' G H → Same G1 G → c.ok ρ → c.at σ σ' → GW H)
    (hd : ∀ i x y ρ σ' G H, Good K B S ρ σ' G H → Same G1 G → c.ok ρ → c.at σ σ' → xs i = some x → ys i = some y → ∃ d e, ds[i]? = some (.tuple [d, e]) ∧ Dt K G x d ∧ Dt K G y e) : ItOk K true B S c σ G1 J ds :=
  ⟨⟨GW, YPair xs ys, by rw [← hn]; exact w, hg, fun i v ρ σ' G H H' _ g e ok at_ ⟨T, x, y, e1, e2, e3, e4, e5⟩ => by
    subst e1 e3
    obtain ⟨d, f, h1, h2, h3⟩ := hd i x y ρ σ' G H g e ok at_ e4 e5
    have n2 : Nst G H (upd G T (.tup [x, y])) (upd H T (.tup [x, y])) := Nst.know g.ing e2
    exact ⟨_, _, h1, n2, .inr ⟨rfl, T, _, _, rfl, rfl, .inl (.inl upd_same), .cons (Dt.mono n2.ext d h2) (.cons (Dt.mono n2.ext f h3) .nil)⟩⟩⟩⟩
end
def itS (f : DF) : IF := fun ρ Φ => f ρ fun h ρ1 => match h with
  | .slot i => match ρ1[i]? with
    | some (.bo ds) => Φ .free ds ρ1
    | _ => datOf (.slot i) ρ1 fun d ρ2 => seqP d fun xs => Φ .free xs ρ2
  | h => datOf h ρ1 fun d ρ2 => seqP d fun xs => Φ .free xs ρ2
/-- in a comprehension: a list of one's own stays one's own -/
def itC (f : DF) : IF := fun ρ Φ => f ρ fun h ρ1 => match h with
  | .slot i => match ρ1[i]? with
    | some (.bo ds) => Φ .free ds ρ1
    | some (.ow ds) => Φ (.own i ds) ds ρ1
    | some (.da d) => seqP d fun xs => Φ .free xs ρ1
    | _ => False
  | h => datOf h ρ1 fun d ρ2 => seqP d fun xs => Φ .free xs ρ2
/-- range: one, two arguments -/
def rngP (ds : List PyData) (k : List PyData → Prop) : Prop := match ds with
  | [.int n] => (-(2 ^ 62) ≤ n ∧ n < 2 ^ 62) ∧ k ((List.range n.toNat).map fun (i : Nat) => PyData.int (i : Int))
  | [.int m, .int n] => (-(2 ^ 62) ≤ m ∧ m < 2 ^ 62 ∧ -(2 ^ 62) ≤ n ∧ n < 2 ^ 62) ∧ k ((List.range (n - m).toNat).map fun (i : Nat) => PyData.int (m + (i : Int)))
  | _ => False
def itR (fl : LF) : IF := fun ρ Φ => fl ρ fun ds ρ1 => rngP ds fun xs => Φ .free xs ρ1
def enumD (k : Int) : List PyData → List PyData
  | [] => []
  | d :: ds => .tuple [.int k, d] :: enumD (k + 1) ds
def zipD : List PyData → List PyData → List PyData
  | d :: ds, e :: es => .tuple [d, e] :: zipD ds es
  | _, _ => []
theorem enumD_len : ∀ (k : Int) (ds : List PyData), (enumD k ds).length = ds.length
  | _, [] => rfl
  | k, d :: ds => by simp [enumD, enumD_len (k + 1) ds]
theorem enumD_get : ∀ (k : Int) (ds : List PyData) (i : Nat) (d : PyData), ds[i]? = some d → (enumD k ds)[i]? = some (.tuple [.int (k + (i : Int)), d])
  | _, [], _, _, h => by simp at h
  | k, d :: ds, 0, _, h => by simp at h; subst h; simp [enumD]
  | k, d :: ds, i + 1, e, h => by
    have := enumD_get (k + 1) ds i e (by simpa using h)
    simp only [enumD, List.getElem?_cons_succ, this]
    have : k + 1 + (i : Int) = k + ((i + 1 : Nat) : Int) := by omega
    rw [this]
theorem zipD_len : ∀ (ds es : List PyData), (zipD ds es).length = min ds.length es.length
  | [], _ => by simp [zipD]
  | _ :: _, [] => by simp [zipD]
  | d :: ds, e :: es => by simp [zipD, zipD_len ds es]
theorem zipD_get : ∀ (ds es : List PyData) (i : Nat) (d e : PyData), ds[i]? = some d → es[i]? = some e → (zipD ds es)[i]? = some (.tuple [d, e])
  | [], _, _, _, _, h, _ => by simp at h
  | _ :: _, [], _, _, _, _, h => by simp at h
  | d :: ds, e :: es, 0, _, _, h, h' => by simp at h h'; subst h h'; simp [zipD]
  | d :: ds, e :: es, i + 1, _, _, h, h' => by
    simp only [zipD, List.getElem?_cons_succ] at *
    exact zipD_get ds es i _ _ h h'
section
variable {X : Cx} {tg e iter : Expr} {pos p : Pos} {f : DF} {fl : LF}
theorem pi_any {tl : TE} (hl : PE X e tl) : PI X tg e (fun σ H R => tl σ H fun x H1 => ∃ a xs, x = .ref a ∧ ((SqL X.K H1 a xs ∧ R (Itl X.K a) H1) ∨ (SqT X.K H1 a xs ∧ R (Itt X.K a) H1))) := by
  refine ⟨fun pins s σ H R I h => ?_⟩
  refine thn (hl.run pins s σ H _ I h) fun v s1 ⟨x, H1, I1, r1, q1⟩ => ?_
  obtain ⟨a, xs, e, q⟩ := q1
  subst e
  cases r1
  have fp : ∀ b ∈ [s1.heap.objs.size], FpOk X pins H1 b := fun b hb => by
    have e : b = s1.heap.objs.size := by simpa using hb
    subst e
    exact I1.fpOk (Nat.le_refl _) (I1.hok.fresh (Nat.le_refl _))
  rcases q with ⟨hq, q⟩ | ⟨hq, q⟩
  · obtain ⟨its, rv, p, hz⟩ := I1.list hq
    refine wpAny_pyIter_list p.isList ?_
    exact ⟨s1.heap.objs.size, [s1.heap.objs.size], _, _, H1, rfl, I1.kept (t' := s1.toks) fun b o e => Heap.get?_push_of_some _ e, turn_list a _, ⟨_, Heap.get?_push_size _ rfl, rfl, rfl⟩, fp, q⟩
  · obtain ⟨its, rv, p, hz⟩ := I1.tuple hq
    refine wpAny_pyIter_tuple (show s1.heap.IsTuple a its.toArray from p) ?_
    exact ⟨s1.heap.objs.size, [s1.heap.objs.size], _, _, H1, rfl, I1.kept (t' := s1.toks) fun b o e => Heap.get?_push_of_some _ e, turn_tuple a _, ⟨_, Heap.get?_push_size _ rfl, rfl, rfl⟩, fp, q⟩
theorem seq_it {K : PySem.W.Frag} {B : Hp × Hp} {S : Sr} {ρ2 : Rho} {σ : St} {G2 H2 : Hp} {v : V} {d : PyData} {R : It → Hp → Prop} {Ψ : List PyData → Prop} (g : Good K B S ρ2 σ G2 H2) (t : Dt K G2 v d) (q : seqP d Ψ) (k : ∀ xs J, Ψ xs → ItOk K false B S .free σ G2 J xs → R J H2) :
    ∃ a xs, v = .ref a ∧ ((SqL K H2 a xs ∧ R (Itl K a) H2) ∨ (SqT K H2 a xs ∧ R (Itt K a) H2)) := by
  unfold seqP at q
  split at q
  · cases t with
    | lst hs ta => exact ⟨_, _, rfl, .inl ⟨.of (g.ing _ _ hs), k _ _ q (it_list (.of hs) ta)⟩⟩
  · cases t with
    | tup hs ta => exact ⟨_, _, rfl, .inr ⟨(hs.mono g.ing).t, k _ _ q (it_tup hs.t ta)⟩⟩
  · exact q.elim
theorem bo_it {K : PySem.W.Frag} {B : Hp × Hp} {S : Sr} {ρ2 : Rho} {σ : St} {G2 H2 : Hp} {v : V} {i : Nat} {ds : List PyData} {R : It → Hp → Prop} (g : Good K B S ρ2 σ G2 H2) (e : ρ2[i]? = some (.bo ds)) (hv : σ[i]? = some (some v)) (k : ∀ J, ItOk K false B S .free σ G2 J ds → R J H2) :
    ∃ a xs, v = .ref a ∧ ((SqL K H2 a xs ∧ R (Itl K a) H2) ∨ (SqT K H2 a xs ∧ R (Itt K a) H2)) := by
  obtain ⟨a, vs, e1, h0, h1, h2, h3, h4⟩ := g.sl i _ e
  rw [hv] at e1; cases e1
  refine ⟨a, vs, rfl, .inl ⟨.of h1, k _ ⟨⟨fun H => H a = some (.lst vs), YAt vs, ?_, fun ρ σ G H g e _ _ => g.pre a _ h4 h0, fun i x ρ σ G H H' hi g e _ _ ⟨y1, y2⟩ => ?_⟩⟩⟩⟩
  · rw [← h2.length]
    exact walk_list.mono (fun H h => .of h) fun _ _ _ _ _ _ y => y
  · subst y1
    obtain ⟨d, e1, e2⟩ := h2.getV y2
    exact ⟨d, G, e1, .refl g.ing, .inl (Dt.mono e d e2)⟩
theorem di_seq (he : PE X e (dE X.K f)) : PI X tg e (dI X.K false (itS f)) := PIw (pi_any he) fun σ H R ⟨B, S, ρ, G, Φ, g, q, k⟩ => ⟨B, S, ρ, G, _, g, q, fun h v ρ1 G1 H1 f1 g1 s1 o1 fr => by
  have dat : (datOf h ρ1 fun d ρ2 => seqP d fun xs => Φ .free xs ρ2) → ∃ a xs, v = .ref a ∧ ((SqL X.K H1 a xs ∧ R (Itl X.K a) H1) ∨ (SqT X.K H1 a xs ∧ R (Itt X.K a) H1)) := fun q => by
    obtain ⟨x, ρ2, G2, f2, g2, s2, t2⟩ := frz g1 s1 o1 fr q
    exact seq_it g2 t2 f2 fun xs J p i => k .free xs ρ2 G2 H1 J p g2 s2 i
  cases h with
  | slot i =>
    simp only at f1
    split at f1
    · rename_i ds e1
      exact bo_it g1 e1 o1 fun J i => k .free ds ρ1 G1 H1 J f1 g1 s1 i
    · exact dat f1
  | val d => exact dat f1
  | new d => exact dat f1
  | src => exact dat f1⟩
theorem di_seqC (he : PE X e (dE X.K f)) : PI X tg e (dI X.K false (itC f)) := PIw (pi_any he) fun σ H R ⟨B, S, ρ, G, Φ, g, q, k⟩ => ⟨B, S, ρ, G, _, g, q, fun h v ρ1 G1 H1 f1 g1 s1 o1 fr => by
  have dat : (datOf h ρ1 fun d ρ2 => seqP d fun xs => Φ .free xs ρ2) → ∃ a xs, v = .ref a ∧ ((SqL X.K H1 a xs ∧ R (Itl X.K a) H1) ∨ (SqT X.K H1 a xs ∧ R (Itt X.K a) H1)) := fun q => by
    obtain ⟨x, ρ2, G2, f2, g2, s2, t2⟩ := frz g1 s1 o1 fr q
    exact seq_it g2 t2 f2 fun xs J p i => k .free xs ρ2 G2 H1 J p g2 s2 i
  cases h with
  | slot i =>
    simp only at f1
    split at f1
    · rename_i ds e1
      exact bo_it g1 e1 o1 fun J i => k .free ds ρ1 G1 H1 J f1 g1 s1 i
    · rename_i ds e1
      obtain ⟨a, vs, e2, h1, h2, _⟩ := g1.sl i _ e1
      have o1' : σ[i]? = some (some v) := o1
      rw [o1'] at e2; cases e2
      exact ⟨a, vs, rfl, .inl ⟨.of h1, k _ ds ρ1 G1 H1 _ f1 g1 s1 (it_own g1 e1 o1 h1 h2)⟩⟩
    · rename_i d e1
      obtain ⟨u, e2, h1⟩ := g1.sl i _ e1
      have o1' : σ[i]? = some (some v) := o1
      rw [o1'] at e2; cases e2
      exact seq_it g1 h1 f1 fun xs J p i => k .free xs ρ1 G1 H1 J p g1 s1 i
    · exact f1.elim
  | val d => exact dat f1
  | new d => exact dat f1
  | src => exact dat f1⟩
theorem vals_int {K : PySem.W.Frag} {G : Hp} {vs : List V} {n : Int} (t : DtAll K G vs [.int n]) : vs = [.int n] := by
  cases t with
  | cons t1 t2 => cases t1; cases t2; rfl
theorem vals_int2 {K : PySem.W.Frag} {G : Hp} {vs : List V} {m n : Int} (t : DtAll K G vs [.int m, .int n]) : vs = [.int m, .int n] := by
  cases t with
  | cons t1 t2 =>
    cases t1
    rw [vals_int t2]
theorem di_range1 {a : Expr} (hm : X.mg "range" = none) (ha : PA X [a] (dL X.K fl)) (hg : Gl X "range" := by rfl) (hs : starEach [a] X.env = [(false, eval a X.env)] := by rfl) : PI X tg (.Call (.Name "range" p) [a] [] pos) (dI X.K false (itR fun ρ Φ => fl ρ fun ds ρ1 => ds.length = 1 ∧ Φ ds ρ1)) :=
  PIw (pi_range1 hg hm ha hs) fun σ H R ⟨B, S, ρ, G, Φ, g, q, k⟩ => ⟨B, S, ρ, G, _, g, q, fun ds vs ρ1 G1 H1 fh g1 s1 t1 => by
    have hl := fh.1
    have f1 : rngP ds fun xs => Φ .free xs ρ1 := fh.2
    clear fh
    unfold rngP at f1
    split at f1
    · rename_i n
      refine ⟨n, vals_int t1, f1.1.1, f1.1.2, k _ _ ρ1 G1 H1 _ f1.2 g1 s1 ?_⟩
      have := @it_range X.K B S σ G1 0 n.toNat
      simpa using this
    · simp at hl
    · exact f1.elim⟩
theorem di_range2 {a b : Expr} (hm : X.mg "range" = none) (ha : PA X [a, b] (dL X.K fl)) (hg : Gl X "range" := by rfl) (hs : starEach [a, b] X.env = [(false, eval a X.env), (false, eval b X.env)] := by rfl) (hs2 : starEach [b] X.env = [(false, eval b X.env)] := by rfl) :
    PI X tg (.Call (.Name "range" p) [a, b] [] pos) (dI X.K false (itR fun ρ Φ => fl ρ fun ds ρ1 => ds.length = 2 ∧ Φ ds ρ1)) :=
  PIw (pi_range2 hg hm ha hs hs2) fun σ H R ⟨B, S, ρ, G, Φ, g, q, k⟩ => ⟨B, S, ρ, G, _, g, q, fun ds vs ρ1 G1 H1 fh g1 s1 t1 => by
    have hl := fh.1
    have f1 : rngP ds fun xs => Φ .free xs ρ1 := fh.2
    clear fh
    unfold rngP at f1
    split at f1
    · simp at hl
    · rename_i m n
      exact ⟨m, n, vals_int2 t1, f1.1, k _ _ ρ1 G1 H1 _ f1.2 g1 s1 it_range⟩
    · exact f1.elim⟩
end
/-! ### for -/
def forP (bd : GF) (body : SF) : List PyData → SF
  | [], ρ, k => k.nx ρ
  | x :: xs, ρ, k => bd x ρ fun ρ1 => body ρ1 { nx := fun ρ2 => forP bd body xs ρ2 k, ct := fun ρ2 => forP bd body xs ρ2 k, bk := k.nx, rt := k.rt }
def forF (it : IF) (bd : GF) (body : SF) : SF := fun ρ k => it ρ fun c xs ρ1 => c = .free ∧ forP bd body xs ρ1 k
section
variable {K : PySem.W.Frag} {B : Hp × Hp} {S : Sr} {ρ ρ' ρ1 ρ2 : Rho} {σ σ' : St} {G H G' H' G1 H1 G2 H2 : Hp}
/-- seen from the present data on -/
theorem Good.rebase (g : Good K B S ρ σ G H) : Good K (G, B.2) S ρ σ G H := ⟨g.ing, g.reg, Same.refl G, fun _ h _ => h, g.pre, g.len, g.sl, g.sep⟩
theorem Good.unbase (g1 : Good K B S ρ1 σ G1 H1) (g : Good K (G1, B.2) S ρ' σ' G H) : Good K B S ρ' σ' G H := ⟨g.ing, g.reg, g1.ext.trans g.ext, fun a h1 h2 => g.out a (g1.out a h1 h2) h2, g.pre, g.len, g.sl, g.sep⟩
theorem DEnds.rebase {k : Kont} {D : Ends} (g1 : Good K B S ρ1 σ G1 H1) (d : DEnds K B S k D) : DEnds K (G1, B.2) S k D :=
  ⟨fun ρ σ G H q g => d.nx ρ σ G H q (g1.unbase g), fun x v ρ σ G H q g t => d.rt x v ρ σ G H q (g1.unbase g) t, fun ρ σ G H q g => d.bk ρ σ G H q (g1.unbase g), fun ρ σ G H q g => d.ct ρ σ G H q (g1.unbase g)⟩
theorem drop_at {α : Type} {xs : List α} {i : Nat} {d : α} (hx : xs[i]? = some d) : xs.drop i = d :: xs.drop (i + 1) := by
  obtain ⟨h1, h2⟩ := List.getElem?_eq_some_iff.mp hx
  rw [List.drop_eq_getElem_cons h1, h2]
end
section
variable {X : Cx} {tg e iter : Expr} {pos p : Pos} {it : IF} {bd : GF} {s : SF} {js : List Nat} {body : List Stmt}
theorem ds_for {hp : PassesOwn (model X.prog X.w) X.A X.env X.xe} (hc : X.calm = true) {w : Bool} (hi : PI X tg iter (dI X.K w it)) (hg : PG X tg (dG X.K w js bd)) (hb : PSs X body (dS X.K s)) (hs : ∀ x, foldedSetIterable iter X.env x = pure x := by intro _; rfl) :
    PS X (.For tg iter body [] pos) (dS X.K (forF it bd s)) := PSw (ps_for hp hc hi hg hb hs) fun D σ H ⟨B, S, ρ, G, k, g, q, d⟩ => ⟨B, S, ρ, G, _, g, q, fun c xs ρ1 G1 H1 J ⟨hc', f1⟩ g1 s1 ⟨GW, Y, w, hG, hY⟩ => by
      subst hc'
      refine for_it w (fun i σ H => ∃ ρ G, Good X.K (G1, B.2) S ρ σ G H ∧ forP bd s (xs.drop i) ρ k) ⟨ρ1, G1, g1.rebase, by simpa using f1⟩ (fun i σ' H' hi ⟨ρ2, G2, g2, f2⟩ => hG ρ2 σ' G2 H' (g1.unbase g2) g2.ext trivial trivial) (fun i x σ2 H2 H3 hi ⟨ρ2, G2, g2, f2⟩ y => ?_) fun σ2 H2 ⟨ρ2, G2, g2, f2⟩ => ?_
      · obtain ⟨dx, G3, hx, n, t⟩ := hY i x ρ2 σ2 G2 H2 H3 hi (g1.unbase g2) g2.ext trivial trivial y
        rw [drop_at hx] at f2
        have d2 := d.rebase g1
        exact ⟨(G1, B.2), S, ρ2, G3, dx, _, g2.nst n, t, f2, fun ρ3 σ3 f3 g3 _ _ => ⟨(G1, B.2), S, ρ3, G3, _, g3, f3, ⟨fun ρ4 σ4 G4 H4 q4 g4 => ⟨ρ4, G4, g4, q4⟩, d2.rt, d2.nx, fun ρ4 σ4 G4 H4 q4 g4 => ⟨ρ4, G4, g4, q4⟩⟩⟩⟩
      · rw [List.drop_length] at f2
        exact d.nx ρ2 σ2 G2 H2 f2 (g1.unbase g2)⟩
end

/-! ### comprehensions -/
def clr : List Nat → Rho → Rho
  | [], ρ => ρ
  | v :: vs, ρ => (clr vs ρ).set v .un
def cmp (c : Cond) (bd : GF) (tt : BF) (elt : DF) (vs : List Nat) : List PyData → List PyData → Rho → (List PyData → Rho → Prop) → Prop
  | [], acc, ρ, Φ => c.ok ρ ∧ Φ acc ρ
  | x :: xs, acc, ρ, Φ => c.ok ρ ∧ bd x ρ fun ρ1 => tt ρ1 fun b ρ2 => brP b (elt ρ2 fun h ρ3 => datOf h ρ3 fun d ρ4 => cmp c bd tt elt vs xs (acc ++ [d]) (clr vs ρ4) Φ) (cmp c bd tt elt vs xs acc (clr vs ρ2) Φ)
def compF (it : IF) (bd : GF) (tt : BF) (elt : DF) (vs : List Nat) : DF := fun ρ Φ => it ρ fun c xs ρ1 => xs.length ≤ sizeLine ∧ cmp c bd tt elt vs xs [] (clr vs ρ1) fun ds ρ2 => Φ (.new ds) (clr vs ρ2)
def yesF : BF := fun ρ Φ => Φ true ρ
section
variable {K : PySem.W.Frag} {B : Hp × Hp} {S : Sr} {ρ ρ' ρ1 ρ2 : Rho} {σ σ' : St} {G H G' H' G1 H1 G2 H2 : Hp}
theorem clr_len : ∀ (vs : List Nat) (ρ : Rho), (clr vs ρ).length = ρ.length
  | [], _ => rfl
  | v :: vs, ρ => by unfold clr; rw [List.length_set, clr_len vs ρ]
theorem clr_get : ∀ {vs : List Nat} {ρ : Rho} {i : Nat} {x : Slot}, (clr vs ρ)[i]? = some x → x = .un ∨ (ρ[i]? = some x ∧ i ∉ vs)
  | [], _, _, _, h => .inr ⟨h, by simp⟩
  | v :: vs, ρ, i, x, h => by
    unfold clr at h
    rcases set_get h with ⟨_, z⟩ | ⟨ne, z⟩
    · exact .inl z
    · rcases clr_get z with z | ⟨z, y⟩
      · exact .inl z
      · exact .inr ⟨z, by simp only [List.mem_cons, not_or]; exact ⟨fun e => ne e.symm, y⟩⟩
theorem foot_clr {vs : List Nat} {i : Nat} {x : Slot} {b : Addr} (h : (clr vs ρ)[i]? = some x) (f : Foot H (wipe σ vs)[i]? x b) : ρ[i]? = some x ∧ i ∉ vs ∧ Foot H σ[i]? x b := by
  rcases clr_get h with rfl | ⟨z, y⟩
  · exact f.elim
  · rw [wipe_out y] at f; exact ⟨z, y, f⟩
theorem Good.toBlk (g : Good K B S ρ σ G H) (vs : List Nat) : Good K B S (clr vs ρ) (wipe σ vs) G H := by
  refine ⟨g.ing, g.reg, g.ext, g.out, g.pre, by rw [clr_len, wipe_length]; exact g.len, fun i x e => ?_, fun i j x y a e1 e2 f1 f2 => ?_⟩
  · rcases clr_get e with z | ⟨z, y⟩
    · subst z; trivial
    · rw [wipe_out y]; exact g.sl i x z
  · obtain ⟨z1, _, y1⟩ := foot_clr e1 f1
    obtain ⟨z2, _, y2⟩ := foot_clr e2 f2
    exact g.sep i j x y a z1 z2 y1 y2
theorem own_clr {vs : List Nat} {a : Addr} (h : Own (clr vs ρ) (wipe σ vs) H a) : ∃ i x, i ∉ vs ∧ ρ[i]? = some x ∧ Foot H σ[i]? x a := by
  obtain ⟨i, x, e1, f⟩ := h
  obtain ⟨z, y, f'⟩ := foot_clr e1 f
  exact ⟨i, x, y, z, f'⟩
/-- what stays, but for the addresses of O -/
structure Ste (O : Addr → Prop) (S : Sr) (G H G' H' : Hp) : Prop where
  ext : Same G G'
  out : ∀ a, G a = none → H a ≠ none → ¬InS S a → ¬O a → G' a = none
  pre : ∀ a o, ¬InS S a → ¬O a → H a = some o → H' a = some o
  kp : ∀ a, H a ≠ none → H' a ≠ none
theorem Ste.trans {O : Addr → Prop} (a : Ste O S G H G1 H1) (b : Ste O S G1 H1 G2 H2) : Ste O S G H G2 H2 :=
  ⟨a.ext.trans b.ext, fun x h1 h2 h3 h4 => b.out x (a.out x h1 h2 h3 h4) (a.kp x h2) h3 h4, fun x o h1 h2 h => b.pre x o h1 h2 (a.pre x o h1 h2 h), fun x h => b.kp x (a.kp x h)⟩
theorem Nst.ste {O : Addr → Prop} (n : Nst G H G' H') : Ste O S G H G' H' := ⟨n.ext, fun a h1 h2 _ _ => n.out a h1 h2, fun a o _ _ h => n.hxt a o h, fun a h => by
  cases e : H a with
  | none => exact absurd e h
  | some o => rw [n.hxt a o e]; exact fun z => nomatch z⟩
theorem Stp.ste {O : Addr → Prop} (s : Stp S σ ρ G H ρ' G' H') (h : ∀ a, Own ρ σ H a → O a) : Ste O S G H G' H' :=
  ⟨s.ext, fun a h1 h2 h3 h4 => s.out a h1 h2 h3 fun z => h4 (h a z), fun a o h1 h2 q => s.pre a o h1 (fun z => h2 (h a z)) q, s.kp⟩
/-- a list that no slot knows changes -/
theorem Good.mut (g : Good K B S ρ σ G H) {D : Addr} {o : HO} (hg : G D = none) (hb : B.2 D = none) (hs : ¬InS S D) (ho : ¬Own ρ σ H D) : Good K B S ρ σ G (upd H D o) := by
  have kp : ∀ b u, b ≠ D → H b = some u → upd H D o b = some u := fun b u hn h => by rw [upd_ne hn]; exact h
  refine ⟨fun a x e => by rw [upd_ne (fun z => by subst z; rw [hg] at e; cases e)]; exact g.ing a x e, fun p e => ?_, g.ext, g.out, fun a x h1 h2 => by rw [upd_ne (fun z => by subst z; rw [hb] at h2; cases h2)]; exact g.pre a x h1 h2, g.len, fun i x e => ?_, g.sepB fun b u f h => kp b u (fun z => ho (by rw [← z]; exact f)) h⟩
  · obtain ⟨h1, h2, h3, cs, l, m, t, h4, h5, h6⟩ := g.reg p e
    exact ⟨h1, h2, h3, cs, l, m, t, by rw [upd_ne (fun z => hs ⟨p, e, .inl z.symm⟩)]; exact h4, by rw [upd_ne (fun z => hs ⟨p, e, .inr z.symm⟩)]; exact h5, h6⟩
  · have q := g.sl i x e
    refine q.mv (Kb := fun b => b ≠ D) (Same.refl G) kp (fun _ _ h _ => h) (fun b f z => ho ⟨i, x, e, by rw [← z]; exact f⟩) (fun b h _ z => by subst z; exact h hb) fun n r e2 => ?_
    subst e2
    obtain ⟨p, e1, e2, h⟩ := q
    exact ⟨p, e1, e2, h.same (upd_ne fun z => hs ⟨p, e1, .inl z.symm⟩)⟩
/-- the block's end: its own names are let go -/
theorem Good.offBlk {vs : List Nat} (g1 : Good K B S ρ1 σ G1 H1) (g : Good K B S ρ (wipe σ vs) G H) (hO : ∀ a, Own ρ (wipe σ vs) H a → Own (clr vs ρ1) (wipe σ vs) H1 a) : Good K B S (clr vs ρ) σ G H ∧ ∀ a, Own (clr vs ρ) σ H a → Own ρ1 σ H1 a := by
  have own : ∀ {i : Nat} {x : Slot} {b : Addr}, (clr vs ρ)[i]? = some x → Foot H σ[i]? x b → ρ[i]? = some x ∧ Foot H (wipe σ vs)[i]? x b := fun {i x b} h f => by
    rcases clr_get h with rfl | ⟨z, y⟩
    · exact f.elim
    · rw [wipe_out y]; exact ⟨z, f⟩
  refine ⟨⟨g.ing, g.reg, g.ext, g.out, g.pre, by rw [clr_len, g.len, wipe_length], fun i x e => ?_, fun i j x y a e1 e2 f1 f2 => ?_⟩, fun a ⟨i, x, e1, f⟩ => ?_⟩
  · rcases clr_get e with z | ⟨z, y⟩
    · subst z; trivial
    · have := g.sl i x z
      rwa [wipe_out y] at this
  · obtain ⟨z1, y1⟩ := own e1 f1
    obtain ⟨z2, y2⟩ := own e2 f2
    exact g.sep i j x y a z1 z2 y1 y2
  · obtain ⟨z1, y1⟩ := own e1 f
    obtain ⟨j, y, _, y2, y3⟩ := own_clr (hO a ⟨i, x, z1, y1⟩)
    exact ⟨j, y, y2, y3⟩
theorem wipe_wipe : ∀ (vs : List Nat) (σ : St), (∀ i ∈ vs, ∀ x, (wipe σ vs)[i]? = some x → x = none)
  | [], _, i, hi, _, _ => by simp at hi
  | v :: vs, σ, i, hi, x, h => by
    unfold L2.wipe at h
    by_cases e : v = i
    · subst e
      by_cases hv : v < (L2.wipe σ vs).length
      · rw [List.getElem?_set_self hv] at h; exact (Option.some.inj h).symm
      · rw [List.getElem?_eq_none (by simpa using hv)] at h; cases h
    · rw [List.getElem?_set_ne e] at h
      rcases List.mem_cons.mp hi with z | z
      · exact absurd z.symm e
      · exact wipe_wipe vs σ i z x h
theorem wipe_eq {vs : List Nat} {σ : St} (h : ∀ i ∈ vs, ∀ x, σ[i]? = some x → x = none) : wipe σ vs = σ := by
  induction vs with
  | nil => rfl
  | cons v vs ih =>
    unfold L2.wipe
    rw [ih fun i hi => h i (List.mem_cons_of_mem _ hi)]
    apply List.ext_getElem?
    intro i
    by_cases e : v = i
    · subst e
      by_cases hv : v < σ.length
      · rw [List.getElem?_set_self hv]
        cases q : σ[v]? with
        | none => rw [List.getElem?_eq_none_iff] at q; omega
        | some x => rw [h v (List.mem_cons_self ..) x q]
      · rw [List.getElem?_eq_none (by simpa using hv), List.getElem?_eq_none (by simpa using hv)]
    · rw [List.getElem?_set_ne e]
theorem wipe_twice (σ : St) (vs : List Nat) : wipe (wipe σ vs) vs = wipe σ vs := wipe_eq (wipe_wipe vs σ)
theorem r_lc {w : Bool} {js vs : List Nat} {it : IF} {bd : GF} {tt : BF} {elt : DF} (hjs : ∀ j ∈ js, j ∈ vs) (σ : St) (H : Hp) (Q : VK) (h : dE K (compF it bd tt elt vs) σ H Q) : tLc (dI K w it) (dG K w js bd) (dT K tt) (dD K fun ρ Φ => elt ρ fun h ρ1 => datOf h ρ1 Φ) vs σ H Q := by
  obtain ⟨B, S, ρ, G, Φ, g, q, k⟩ := h
  refine ⟨B, S, ρ, G, _, g, q, fun c xs ρ1 G1 H1 J ⟨hz, f1⟩ g1 s1 ⟨GW, Y, w, hG, hY⟩ D hD => ?_⟩
  obtain ⟨fb, fs, fo⟩ := g1.fresh2 hD
  have gw := g1.toBlk vs
  have hO1 : ¬Own (clr vs ρ1) (wipe σ vs) H1 D := fun z => by
    obtain ⟨j, es, _, y2, y3⟩ := own_clr z
    exact fo ⟨j, es, y2, y3⟩
  have atw : ∀ {ρ2 : Rho} {G2 H2 : Hp}, Good K B S ρ2 (wipe σ vs) G2 H2 → c.ok ρ2 → c.at σ (wipe σ vs) := fun {ρ2 G2 H2} g2 ok => by
    cases c with
    | free => trivial
    | own i ds =>
      intro a ha
      exact (wipe_some ha).1
  refine lc_it w (fun i H => ∃ ρ G acc av, Good K B S ρ (wipe σ vs) G H ∧ Ste (Own (clr vs ρ1) (wipe σ vs) H1) S G1 H1 G H ∧ (∀ a, Own ρ (wipe σ vs) H a → Own (clr vs ρ1) (wipe σ vs) H1 a) ∧ H D = some (.lst av) ∧ DtAll K G av acc ∧ G D = none ∧ acc.length ≤ i ∧ i ≤ xs.length ∧ cmp c bd tt elt vs (xs.drop i) acc ρ fun ds ρ2 => Φ (.new ds) (clr vs ρ2))
    ⟨clr vs ρ1, G1, [], [], ?_, (Nst.lay g1.ing hD).ste, fun _ h => h.back gw fun b o _ q => (Nst.lay g1.ing hD).hxt b o q, upd_same, .nil, g1.ing.free hD, Nat.le_refl _, Nat.zero_le _, by simpa using f1⟩ (fun i H2 hi ⟨ρ2, G2, acc, av, g2, s2, o2, d2, t2, n2, l2, _, f2⟩ => ?_) (fun i x H2 H3 hi ⟨ρ2, G2, acc, av, g2, s2, o2, d2, t2, n2, l2, _, f2⟩ y => ?_) fun H2 ⟨ρ2, G2, acc, av, g2, s2, o2, d2, t2, n2, l2, _, f2⟩ => ?_
  · exact gw.nst (Nst.lay g1.ing hD)
  · have ok : c.ok ρ2 := by
      cases hx : xs.drop i with
      | nil => rw [hx] at f2; exact f2.1
      | cons a b => rw [hx] at f2; exact f2.1
    exact hG ρ2 _ G2 H2 g2 s2.ext ok (atw g2 ok)
  · have ok : c.ok ρ2 := by
      cases hx : xs.drop i with
      | nil => rw [hx] at f2; exact f2.1
      | cons a b => rw [hx] at f2; exact f2.1
    obtain ⟨dx, G3, hx, n3, t3⟩ := hY i x ρ2 _ G2 H2 H3 hi g2 s2.ext ok (atw g2 ok) y
    rw [drop_at hx] at f2
    obtain ⟨_, f2⟩ := f2
    have hDn : H2 D ≠ none := by rw [d2]; exact fun z => nomatch z
    have s3 : Ste (Own (clr vs ρ1) (wipe σ vs) H1) S G1 H1 G3 H3 := s2.trans n3.ste
    have d3 : H3 D = some (.lst av) := n3.hxt D _ d2
    have nD3 : G3 D = none := n3.out D n2 hDn
    refine ⟨B, S, ρ2, G3, dx, _, g2.nst n3, t3, f2, fun ρ3 σ3 f3 g3 w3 o3 => ?_⟩
    have hw3 : wipe σ3 vs = wipe σ vs := (w3 vs hjs).trans (wipe_twice σ vs)
    refine ⟨hw3, B, S, ρ3, G3, _, g3, f3, fun b ρ4 G4 H4 f4 g4 s4 => ?_⟩
    have o3' : ∀ a, Own ρ3 σ3 H3 a → Own (clr vs ρ1) (wipe σ vs) H1 a := fun a z => o2 a ((o3 a z).back g2 fun b o _ q => n3.hxt b o q)
    have s4' : Ste (Own (clr vs ρ1) (wipe σ vs) H1) S G1 H1 G4 H4 := s3.trans (s4.ste o3')
    have d4 : H4 D = some (.lst av) := s4.pre D _ fs (fun z => hO1 (o3' D z)) d3
    have nD4 : G4 D = none := s4.out D nD3 (by rw [d3]; exact fun z => nomatch z) fs fun z => hO1 (o3' D z)
    have t4 := DtAll.mono (n3.ext.trans s4.ext) acc t2
    have back : ∀ {ρ5 : Rho} {G5 H5 : Hp}, Good K B S ρ5 σ3 G5 H5 → (∀ a, Own ρ5 σ3 H5 a → Own ρ3 σ3 H3 a) → ∀ a, Own (clr vs ρ5) (wipe σ vs) H5 a → Own (clr vs ρ1) (wipe σ vs) H1 a := fun {ρ5 G5 H5} g5 h5 a z => by
      rw [← hw3] at z
      obtain ⟨j, es, _, y2, y3⟩ := own_clr z
      exact o3' a (h5 a ⟨j, es, y2, y3⟩)
    cases b with
    | false =>
      show ∃ ρ G acc av, _
      have f4' : cmp c bd tt elt vs (xs.drop (i + 1)) acc (clr vs ρ4) fun ds ρ2 => Φ (.new ds) (clr vs ρ2) := f4.2 rfl
      refine ⟨clr vs ρ4, G4, acc, av, ?_, s4', back g4 s4.sub, d4, t4, nD4, by omega, hi, f4'⟩
      rw [← hw3]; exact g4.toBlk vs
    | true =>
      show dD K _ σ3 H4 _
      refine ⟨B, S, ρ4, G4, _, g4, f4.1 rfl, fun d v ρ5 G5 H5 f5 g5 s5 t5 => ?_⟩
      have o4' : ∀ a, Own ρ4 σ3 H4 a → Own (clr vs ρ1) (wipe σ vs) H1 a := fun a z => o3' a (s4.sub a z)
      have s5' := s4'.trans (s5.ste o4')
      have d5 : H5 D = some (.lst av) := s5.pre D _ fs (fun z => hO1 (o4' D z)) d4
      have nD5 : G5 D = none := s5.out D nD4 (by rw [d4]; exact fun z => nomatch z) fs fun z => hO1 (o4' D z)
      have hl := t2.length
      have sub5 : ∀ a, Own ρ5 σ3 H5 a → Own ρ3 σ3 H3 a := fun a z => s4.sub a (s5.sub a z)
      have bk5 := back g5 sub5
      have g5b : Good K B S (clr vs ρ5) (wipe σ vs) G5 H5 := by
        have := g5.toBlk vs
        rwa [hw3] at this
      have bk6 : ∀ a, Own (clr vs ρ5) (wipe σ vs) (upd H5 D (.lst (av ++ [v]))) a → Own (clr vs ρ1) (wipe σ vs) H1 a := fun a z => bk5 a (z.back g5b fun b o f h => by
        rw [upd_ne (fun e : b = D => hO1 (by rw [← e]; exact bk5 b f))]; exact h)
      refine ⟨av, d5, by omega, clr vs ρ5, G5, acc ++ [d], av ++ [v], ?_, ⟨s5'.ext, s5'.out, fun a o h1 h2 h => ?_, fun a h => ?_⟩, bk6, upd_same, (DtAll.mono s5.ext acc t4).append (.one t5), nD5, by simp; omega, hi, f5⟩
      · have := g5.toBlk vs
        rw [hw3] at this
        exact this.mut nD5 fb fs fun z => hO1 (bk5 D z)
      · rw [upd_ne (fun z => by subst z; rw [hD] at h; cases h)]; exact s5'.pre a o h1 h2 h
      · by_cases e : a = D
        · subst e; rw [upd_same]; exact fun z => nomatch z
        · rw [upd_ne e]; exact s5'.kp a h
  · rw [List.drop_length] at f2
    obtain ⟨ok, f2⟩ := f2
    obtain ⟨g3, o3⟩ := g1.offBlk g2 o2
    have st : Stp S σ ρ1 G1 H1 (clr vs ρ2) G2 H2 := ⟨s2.ext, fun a h1 h2 h3 h4 => s2.out a h1 h2 h3 fun z => by
        obtain ⟨j, es, _, y2, y3⟩ := own_clr z
        exact h4 ⟨j, es, y2, y3⟩, fun a o h1 h2 h => s2.pre a o h1 (fun z => by
        obtain ⟨j, es, _, y2, y3⟩ := own_clr z
        exact h2 ⟨j, es, y2, y3⟩) h, o3, fun a h => g3.reg.g h, s2.kp⟩
    refine k _ _ _ G2 H2 f2 g3 (s1.trans st) ⟨D, av, rfl, d2, t2, n2, fb, fs, fun z => fo (o3 D z)⟩ fun a z => ?_
    cases z
    cases q : H D with
    | none => rfl
    | some o => exact absurd hD (s1.kp D (by rw [q]; exact fun z => nomatch z))
end
section
variable {X : Cx} {tg e iter elt : Expr} {ifs : List Expr} {pos p : Pos} {it : IF} {bd : GF} {tt : BF} {f : DF} {js : List Nat} {scope : Scope} {own : List (Str × Nat)}
theorem dts_nil : PTs X [] (dT X.K yesF) := PTsw pts_nil fun σ H Q ⟨B, S, ρ, G, Φ, g, q, k⟩ => k true ρ G H q g (.refl g)
theorem dts_one {c : Expr} {F : BF} (h : PT X c (dT X.K F)) : PTs X [c] (dT X.K F) := pts_one h
theorem de_lc (hc : X.calm = true) (hN : X.N.Nodup) {w : Bool} (hi : PI X tg iter (dI X.K w it)) (ok : blkC X.N X.env.scope scope own = true)
    (hg : ∀ (s : Shared) (H : Hp) (C : Addr) (cl : List (Str × Addr)) (fp : List Addr), PG (X.blk s H scope (compEnvC scope cl C X.env) fp) tg (dG X.K w js bd)) (ht : ∀ (s : Shared) (H : Hp) (C : Addr) (cl : List (Str × Addr)) (fp : List Addr), PTs (X.blk s H scope (compEnvC scope cl C X.env) fp) ifs (dT X.K tt))
    (he : ∀ (s : Shared) (H : Hp) (C : Addr) (cl : List (Str × Addr)) (fp : List Addr), PE (X.blk s H scope (compEnvC scope cl C X.env) fp) elt (dE X.K f)) (hjs : ∀ j ∈ js, j ∈ own.map (·.2)) (hs : ∀ x, foldedSetIterable iter X.env x = pure x := by intro _; rfl) :
    PE X (.ListComp elt [⟨tg, iter, ifs, 0⟩] scope pos) (dE X.K (compF it bd tt f (own.map (·.2)))) :=
  PEw (pe_lc hc hN hi (blkOk_by ok) hg ht (fun s H C cl fp => de_data (he s H C cl fp)) hs) (r_lc hjs)
/-- y = [..] on one row, kept as data or as one's own -/
theorem ds_setLc (i : Nat) {y : Str} {py : Pos} {spos : Pos} (hc : X.calm = true) (hN : X.N.Nodup) {w : Bool} (hi : PI X tg iter (dI X.K w it)) (ok : blkC X.N X.env.scope scope own = true)
    (hg : ∀ (s : Shared) (H : Hp) (C : Addr) (cl : List (Str × Addr)) (fp : List Addr), PG (X.blk s H scope (compEnvC scope cl C X.env) fp) tg (dG X.K w js bd)) (ht : ∀ (s : Shared) (H : Hp) (C : Addr) (cl : List (Str × Addr)) (fp : List Addr), PTs (X.blk s H scope (compEnvC scope cl C X.env) fp) ifs (dT X.K tt))
    (he : ∀ (s : Shared) (H : Hp) (C : Addr) (cl : List (Str × Addr)) (fp : List Addr), PE (X.blk s H scope (compEnvC scope cl C X.env) fp) elt (dE X.K f)) (hjs : ∀ j ∈ js, j ∈ own.map (·.2))
    (hsw : swapsWith (.ListComp elt [⟨tg, iter, ifs, 0⟩] scope pos) (some (.Name y py)) spos.line X.env = pure true) (hy : X.N[i]? = some y := by rfl) (hyl : X.env.scope.names.lookup y = some .local := by rfl) (hs : ∀ x, foldedSetIterable iter X.env x = pure x := by intro _; rfl) :
    PS X (.Assign [.Name y py] (.ListComp elt [⟨tg, iter, ifs, 0⟩] scope pos) spos) (dS X.K (setF i (compF it bd tt f (own.map (·.2))))) :=
  PSw (ps_setLc hc hN hy hyl hsw hi (blkOk_by ok) hg ht (fun s H C cl fp => de_data (he s H C cl fp)) hs) (r_set (r_lc hjs))
theorem ds_ownLc (i : Nat) {y : Str} {py : Pos} {spos : Pos} (hc : X.calm = true) (hN : X.N.Nodup) {w : Bool} (hi : PI X tg iter (dI X.K w it)) (ok : blkC X.N X.env.scope scope own = true)
    (hg : ∀ (s : Shared) (H : Hp) (C : Addr) (cl : List (Str × Addr)) (fp : List Addr), PG (X.blk s H scope (compEnvC scope cl C X.env) fp) tg (dG X.K w js bd)) (ht : ∀ (s : Shared) (H : Hp) (C : Addr) (cl : List (Str × Addr)) (fp : List Addr), PTs (X.blk s H scope (compEnvC scope cl C X.env) fp) ifs (dT X.K tt))
    (he : ∀ (s : Shared) (H : Hp) (C : Addr) (cl : List (Str × Addr)) (fp : List Addr), PE (X.blk s H scope (compEnvC scope cl C X.env) fp) elt (dE X.K f)) (hjs : ∀ j ∈ js, j ∈ own.map (·.2))
    (hsw : swapsWith (.ListComp elt [⟨tg, iter, ifs, 0⟩] scope pos) (some (.Name y py)) spos.line X.env = pure true) (hy : X.N[i]? = some y := by rfl) (hyl : X.env.scope.names.lookup y = some .local := by rfl) (hs : ∀ x, foldedSetIterable iter X.env x = pure x := by intro _; rfl) :
    PS X (.Assign [.Name y py] (.ListComp elt [⟨tg, iter, ifs, 0⟩] scope pos) spos) (dS X.K (ownF i (compF it bd tt f (own.map (·.2))))) :=
  PSw (ps_setLc hc hN hy hyl hsw hi (blkOk_by ok) hg ht (fun s H C cl fp => de_data (he s H C cl fp)) hs) (r_own (r_lc hjs))
end
end Dat


set_option Elab.async false
set_option linter.all false
set_option maxRecDepth 100000
set_option maxHeartbeats 4000000
/-! DatE: defs by contract, lists of one's own. -/
namespace Dat
open PySem L2

/-! ### defs -/
def ArgOk (K : PySem.W.Frag) (S : Sr) (G H : Hp) (v : V) : Slot → Prop
  | .un => True
  | .da d => Dt K G v d
  | .ow _ => False
  | .ob _ => False
  | .bo ds => ∃ a vs, v = .ref a ∧ H a = some (.lst vs) ∧ DtAll K G vs ds ∧ G a = none ∧ ¬InS S a
  | .sr n r => ∃ p, S = some p ∧ v = .ref p.1 ∧ Trn H p n r
def ArgsOk (K : PySem.W.Frag) (S : Sr) (G H : Hp) : List V → Rho → Prop
  | [], [] => True
  | v :: vs, x :: xs => ArgOk K S G H v x ∧ ArgsOk K S G H vs xs
  | _, _ => False
/-- what a call leaves -/
structure Cst (S : Sr) (G H G' H' : Hp) : Prop where
  ing : Same G' H'
  reg : Reg S G' H'
  ext : Same G G'
  out : ∀ a, G a = none → H a ≠ none → G' a = none
  pre : ∀ a o, ¬InS S a → H a = some o → H' a = some o
abbrev CF := Rho → (PyData → Prop) → Prop
def spD (K : PySem.W.Frag) (n : Nat) (C : CF) : Sp := fun vs H Q _ => vs.length = n ∧ ∃ S as G Φ, Same G H ∧ Reg S G H ∧ ArgsOk K S G H vs as ∧ C as Φ ∧ ∀ d v G' H', Φ d → Cst S G H G' H' → Dt K G' v d → Q v H'
section
variable {K : PySem.W.Frag} {B : Hp × Hp} {S : Sr} {ρ ρ' ρ1 ρ2 : Rho} {σ σ' : St} {G H G' H' G1 H1 G2 H2 : Hp}
theorem ArgsOk.len : ∀ {vs : List V} {as : Rho}, ArgsOk K S G H vs as → vs.length = as.length
  | [], [], _ => rfl
  | [], _ :: _, h => h.elim
  | _ :: _, [], h => h.elim
  | v :: vs, x :: xs, h => by simp [ArgsOk.len h.2]
theorem ArgsOk.get : ∀ {vs : List V} {as : Rho} {i : Nat} {x : Slot}, ArgsOk K S G H vs as → as[i]? = some x → ∃ v, vs[i]? = some v ∧ ArgOk K S G H v x
  | [], [], _, _, _, e => by simp at e
  | [], _ :: _, _, _, h, _ => h.elim
  | _ :: _, [], _, _, h, _ => h.elim
  | v :: vs, x :: xs, 0, _, h, e => by simp at e; subst e; exact ⟨v, rfl, h.1⟩
  | v :: vs, x :: xs, i + 1, _, h, e => by
    obtain ⟨u, h1, h2⟩ := ArgsOk.get (i := i) h.2 (by simpa using e)
    exact ⟨u, by simpa using h1, h2⟩
theorem Good.start {N : List Str} {vs : List V} {as : Rho} (e : Same G H) (r : Reg S G H) (h : ArgsOk K S G H vs as) (hn : vs.length ≤ N.length) : Good K (G, H) S (as ++ List.replicate (N.length - vs.length) .un) (L2.start N vs) G H := by
  have hl := h.len
  have noow : ∀ {i : Nat} {x : Slot} {w : Option (Option V)} {b : Addr}, (as ++ List.replicate (N.length - vs.length) Slot.un)[i]? = some x → Foot H w x b → False := fun {i x w b} q f => by
    by_cases hi : i < as.length
    · rw [List.getElem?_append_left hi] at q
      obtain ⟨v, _, h2⟩ := h.get q
      cases x with
      | ow ds => exact h2
      | ob o => exact h2
      | _ => exact f
    · rw [List.getElem?_append_right (by omega)] at q
      rw [List.getElem?_replicate] at q
      split at q
      · cases q; exact f
      · cases q
  refine ⟨e, r, Same.refl G, fun _ h _ => h, fun _ _ _ h => h, ?_, fun i x q => ?_, fun i j x y a q _ f _ => (noow q f).elim⟩
  · unfold L2.start; simp [hl]
  · by_cases hi : i < as.length
    · rw [List.getElem?_append_left hi] at q
      obtain ⟨v, h1, h2⟩ := h.get q
      have hv : (L2.start N vs)[i]? = some (some v) := by
        unfold L2.start
        rw [List.getElem?_append_left (by rw [List.length_map]; omega), List.getElem?_map, h1]; rfl
      rw [hv]
      cases x with
      | un => trivial
      | da d => exact ⟨v, rfl, h2⟩
      | ow ds => exact h2.elim
      | ob o => exact h2.elim
      | bo ds => obtain ⟨a, us, rfl, h3, h4, h5, h6⟩ := h2; exact ⟨a, us, rfl, h3, h3, h4, h5, h6⟩
      | sr n r => obtain ⟨p, h3, rfl, h4⟩ := h2; exact ⟨p, h3, rfl, h4⟩
    · rw [List.getElem?_append_right (by omega), List.getElem?_replicate] at q
      split at q
      · cases q; trivial
      · cases q
theorem Good.cst (g : Good K (G, H) S ρ σ G' H') : Cst S G H G' H' := ⟨g.ing, g.reg, g.ext, g.out, g.pre⟩
/-- another limit -/
def lim (S : Sr) (L : Nat) : Sr := S.map fun p => (p.1, p.2.1, L)
theorem inS_lim {L : Nat} {a : Addr} : InS (lim S L) a ↔ InS S a := by
  cases S with
  | none => exact ⟨fun ⟨_, e, _⟩ => (nomatch e), fun ⟨_, e, _⟩ => (nomatch e)⟩
  | some p => exact ⟨fun ⟨_, e, h⟩ => by cases e; exact ⟨p, rfl, h⟩, fun ⟨_, e, h⟩ => by cases e; exact ⟨_, rfl, h⟩⟩
def sbump (q : Nat) : Slot → Slot
  | .sr n r => .sr (n + q) (r - q)
  | x => x
def bump (q : Nat) (ρ : Rho) : Rho := ρ.map (sbump q)
theorem bump0 (ρ : Rho) : bump 0 ρ = ρ := by
  unfold bump
  conv => rhs; rw [← List.map_id ρ]
  refine List.map_congr_left fun x _ => ?_
  cases x <;> rfl
theorem bump_get {q : Nat} {i : Nat} {x : Slot} (h : (bump q ρ)[i]? = some x) : ∃ y, ρ[i]? = some y ∧ x = sbump q y := by
  unfold bump at h
  rw [List.getElem?_map] at h
  obtain ⟨y, e1, e2⟩ := Option.map_eq_some_iff.mp h
  exact ⟨y, e1, e2.symm⟩
theorem bump_foot {q : Nat} {i : Nat} {x : Slot} {v : Option (Option V)} {b : Addr} (h : (bump q ρ)[i]? = some x) (f : Foot H v x b) : ρ[i]? = some x := by
  obtain ⟨y, e1, e2⟩ := bump_get h
  cases y with
  | sr n r => subst e2; exact f.elim
  | _ => subst e2; exact e1
theorem own_bump {q : Nat} {a : Addr} (h : Own (bump q ρ) σ H a) : Own ρ σ H a := let ⟨i, x, e, f⟩ := h; ⟨i, x, bump_foot e f, f⟩
/-- the turn as it stands -/
def TurnIs (S : Sr) (H : Hp) (t : Nat) : Prop := ∀ p, S = some p → (∃ c l m, H p.1 = some (srcDict c l m (t : Int))) ∧ t ≤ p.2.2
theorem Reg.turn (r : Reg S G H) : ∃ t, TurnIs S H t := by
  cases S with
  | none => exact ⟨0, fun _ e => nomatch e⟩
  | some p =>
    obtain ⟨_, _, _, cs, l, m, t, h1, _, _, h2, h3⟩ := r p rfl
    refine ⟨t.toNat, fun p' e => ?_⟩
    cases e
    exact ⟨⟨_, l, m, by rw [Int.toNat_of_nonneg h2]; exact h1⟩, by omega⟩
theorem Trn.val {p : Addr × Addr × Nat} {n r t : Nat} {c : Addr} {l m : Int} (h : Trn H p n r) (e : H p.1 = some (srcDict c l m (t : Int))) : t ≤ n ∧ t + r ≤ p.2.2 := by
  obtain ⟨c', l', m', t', h1, h2, h3⟩ := h
  rw [e] at h1
  have : (t : Int) = t' := by
    unfold srcDict at h1
    injection h1 with h1
    injection h1 with h1
    simp only [List.cons.injEq, Prod.mk.injEq, V.int.injEq, true_and, and_true] at h1
    exact h1.2.2.2
  subst this
  omega
theorem Reg.lim (r : Reg S G H) {t : Nat} (ht : TurnIs S H t) (q : Nat) : Reg (lim S (t + q)) G H := by
  intro p e
  cases S with
  | none => cases e
  | some p0 =>
    cases e
    obtain ⟨h1, h2, h3, cs, l, m, t', h4, h5, h6, h7, h8⟩ := r p0 rfl
    obtain ⟨⟨c2, l2, m2, h9⟩, _⟩ := ht p0 rfl
    have hT : Trn H (p0.1, p0.2.1, t'.toNat) t'.toNat 0 := ⟨_, l, m, t', h4, by omega, by show _ ≤ ((t'.toNat : Nat) : Int); omega⟩
    have := (hT.val h9).1
    exact ⟨h1, h2, h3, cs, l, m, t', h4, h5, h6, h7, by
      have h10 : Trn H (p0.1, p0.2.1, t) t 0 := ⟨_, l2, m2, t, h9, Int.le_refl _, by show _ ≤ ((t : Nat) : Int); omega⟩
      obtain ⟨_, _, _, t3, e3, e4, _⟩ := h10
      have : t3 = t' := by
        rw [h4] at e3
        unfold srcDict at e3
        injection e3 with e3
        injection e3 with e3
        simp only [List.cons.injEq, Prod.mk.injEq, V.int.injEq, true_and, and_true] at e3
        exact e3.2.2.2.symm
      subst this
      show t3 ≤ ((t + q : Nat) : Int)
      omega⟩
theorem Good.own_src (g : Good K B S ρ σ G H) {b : Addr} (hs : InS S b) (o : Own ρ σ H b) : False := by
  obtain ⟨j, x, e1, f⟩ := o
  cases x with
  | ow ds =>
    obtain ⟨a, vs, e2, _, _, _, _, h5⟩ := g.sl j _ e1
    have f : σ[j]? = some (some (V.ref b)) := f
    rw [f] at e2; cases e2
    exact h5 hs
  | ob o =>
    cases o with
    | lsts xss =>
      obtain ⟨a, e2, bs, h1, h2, h3, h4⟩ := g.sl j _ e1
      obtain ⟨a', e3, f⟩ := f
      rw [e2] at e3; cases e3
      rcases f with rfl | ⟨vs, h5, h6⟩
      · exact (h4 b (List.mem_cons_self ..)).2.2 hs
      · rw [h1] at h5; cases h5
        exact (h4 b (List.mem_cons_of_mem _ (ref_mem.mp h6))).2.2 hs
  | _ => exact f
/-- behind a call -/
theorem Good.called (g : Good K B S ρ σ G H) {t q : Nat} (ht : TurnIs S H t) (hq : ∀ p, S = some p → t + q ≤ p.2.2) (c : Cst (lim S (t + q)) G H G' H') : Good K B S (bump q ρ) σ G' H' where
  ing := c.ing
  reg := fun p e => by
    subst e
    obtain ⟨h1, h2, h3, cs, l, m, t', h4, h5, h6, h7, h8⟩ := c.reg _ rfl
    exact ⟨h1, h2, h3, cs, l, m, t', h4, h5, h6, h7, Int.le_trans h8 (by have := hq p rfl; show ((t + q : Nat) : Int) ≤ _; omega)⟩
  ext := g.ext.trans c.ext
  out := fun a h1 h2 => by
    by_cases hs : InS S a
    · exact c.reg.g (inS_lim.mpr hs)
    · refine c.out a (g.out a h1 h2) ?_
      cases e : B.2 a with
      | none => exact absurd e h2
      | some o => rw [g.pre a o hs e]; exact fun z => nomatch z
  pre := fun a o h1 h2 => c.pre _ _ (fun z => h1 (inS_lim.mp z)) (g.pre a o h1 h2)
  len := by rw [bump, List.length_map]; exact g.len
  sl := fun i x e => by
    obtain ⟨y, e0, rfl⟩ := bump_get e
    have q0 := g.sl i y e0
    have gen : (∀ n r, y ≠ .sr n r) → SlotOk K B S G' H' σ[i]? y := fun hy => q0.mv (Kb := fun b => ¬InS S b) c.ext (fun b o hb h => c.pre b o (fun z => hb (inS_lim.mp z)) h) (fun b _ h1 h2 => c.out b h1 h2) (fun b f z => g.own_src z ⟨i, y, e0, f⟩) (fun _ _ h => h) fun n r e => absurd e (hy n r)
    cases y with
    | sr n r =>
      obtain ⟨p, e1, e2, h⟩ := q0
      subst e1
      obtain ⟨⟨c1, l1, m1, h1⟩, _⟩ := ht p rfl
      obtain ⟨h2, h3⟩ := h.val h1
      have h4 := hq p rfl
      obtain ⟨_, _, _, cs, l, m, t', k1, _, _, k2, k3⟩ := c.reg _ rfl
      have k3 : t' ≤ ((t + q : Nat) : Int) := k3
      exact ⟨p, rfl, e2, _, l, m, t', k1, by omega, by omega⟩
    | _ => exact gen fun _ _ z => nomatch z
  sep := fun i j x y a h1 h2 f1 f2 => by
    have kp : ∀ b o, Own ρ σ H b → H b = some o → H' b = some o := fun b o hb h => c.pre b o (fun z => g.own_src (inS_lim.mp z) hb) h
    have e1 := bump_foot h1 f1
    have e2 := bump_foot h2 f2
    exact g.sepB kp i j x y a e1 e2 f1 f2
theorem Cst.stp (g : Good K B S ρ σ G H) {L : Nat} (q : Nat) (c : Cst (lim S L) G H G' H') : Stp S σ ρ G H (bump q ρ) G' H' :=
  ⟨c.ext, fun a h1 h2 _ _ => c.out a h1 h2, fun a o h1 _ h => c.pre a o (fun z => h1 (inS_lim.mp z)) h, fun a o => (own_bump o).back g fun b o hb h => c.pre b o (fun z => g.own_src (inS_lim.mp z) hb) h, fun a h => c.reg.g (inS_lim.mpr h), fun a h => by
    by_cases hs : InS S a
    · exact c.reg.h (inS_lim.mpr hs)
    · cases e : H a with
      | none => exact absurd e h
      | some o => rw [c.pre a o (fun z => hs (inS_lim.mp z)) e]; exact fun z => nomatch z⟩
end
/-- THE RULE for a def: its body's reading, then plain -/
theorem okD {P : Program} {w : World} {K : PySem.W.Frag} {mg : Str → Option Value} {base : Heap} {x qual : Str} {st : Stmt} {f : Addr} {fd : FuncData} {N ps : List Str} {k n : Nat} {C : CF} {Fb : SF} (F : Fun K x qual st f fd) (S : FnScope N ps (defScope st)) (hn : ps.length = n) (hN : n ≤ N.length)
    (body : ∀ (cdv : Value) (A : Around) (outer : List PySem.Env) (s : Shared) (H : Hp) (E : XK), Room k (A.deeper (PyProof.Rows.envOfC qual (defScope st) s.heap.objs.size f cdv)) → PSs (cxOf CX0 P w K mg base N qual (defScope st) f cdv A outer s H E).nox (defBody st) (dS K Fb))
    (math : ∀ as Φ, as.length = n → C as Φ → Fb (as ++ List.replicate (N.length - n) .un) { nx := fun _ => Φ .none, rt := Φ }) : FnOk P w K mg base CX0 (k + 1) f fd ps (spD K n C) := by
  refine F.ok S (fun vs H Q E h => h.1.trans hn.symm) fun cdv A outer s H vs Q E hr h => ⟨_, body cdv A outer s H E hr, ?_⟩
  obtain ⟨hl, Sr, as, G, Φ, e, r, ha, c, k⟩ := h
  have g := Good.start (N := N) e r ha (by omega)
  have hl2 := ha.len
  have m := math as Φ (by omega) c
  rw [← hl] at m
  exact ⟨(G, H), Sr, _, G, _, g, m, ⟨fun ρ σ' G' H' q g' => k _ _ G' H' q g'.cst .non, fun d v ρ σ' G' H' q g' t => k d v G' H' q g'.cst t, fun _ _ _ _ q _ => q.elim, fun _ _ _ _ q _ => q.elim⟩⟩
theorem Cok.imp {P : Program} {w : World} {K : PySem.W.Frag} {mg : Str → Option Value} {base : Heap} {CX : CXT} {f : Addr} {fd : FuncData} {ps : List Str} {k n : Nat} {C C' : CF} (F : FnOk P w K mg base CX k f fd ps (spD K n C)) (h : ∀ as Φ, C' as Φ → C as Φ) : FnOk P w K mg base CX k f fd ps (spD K n C') :=
  F.imp (fun vs H Q E ⟨hl, S, as, G, Φ, a1, a2, a3, c, k⟩ => ⟨hl, S, as, G, Φ, a1, a2, a3, h as Φ c, k⟩)

/-! ### calls -/
def argP (b : Bool) (h : Hd) (ρ : Rho) (N : Hd → Rho → Prop) : Prop := match h with
  | .src i => N (.src i) ρ
  | .slot i => match ρ[i]? with
    | some (.bo _) => N (.slot i) ρ
    | some (.ow _) => if b = true then N (.slot i) ρ else datOf (.slot i) ρ fun d ρ' => N (.val d) ρ'
    | _ => datOf (.slot i) ρ fun d ρ' => N (.val d) ρ'
  | h => datOf h ρ fun d ρ' => N (.val d) ρ'
def resQ (o : Option Nat) (ρ : Rho) : Hd → Slot
  | .val d => .da d
  | .src i => match o, ρ[i]? with
    | some q, some (.sr n _) => .sr n q
    | _, _ => .un
  | .slot i => match ρ[i]? with
    | some (.ow ds) => .bo ds
    | some (.bo ds) => .bo ds
    | some (.da d) => .da d
    | _ => .un
  | .new _ => .un
abbrev resH : Rho → Hd → Slot := resQ none
def anilF : AF := fun ρ Φ => Φ [] ρ
def aconsF (b : Bool) (f : DF) (F : AF) : AF := fun ρ Φ => f ρ fun h ρ1 => argP b h ρ1 fun x ρ2 => F ρ2 fun hs ρ3 => Φ (x :: hs) ρ3
/-- the source first, with room for so many turns more -/
def srcIn (q : Nat) (ρ : Rho) (hs : List Hd) : Prop := match hs with
  | .src i :: _ => (match ρ[i]? with
    | some (.sr _ r) => q ≤ r
    | _ => False)
  | _ => False
def callFs (q : Nat) (C : CF) (F : AF) : DF := fun ρ Φ => F ρ fun hs ρ1 => srcIn q ρ1 hs ∧ C (hs.map (resQ (some q) ρ1)) fun d => Φ (.val d) (bump q ρ1)
def callF (C : CF) (F : AF) : DF := fun ρ Φ => F ρ fun hs ρ1 => C (hs.map (resH ρ1)) fun d => Φ (.val d) ρ1
section
variable {K : PySem.W.Frag} {B : Hp × Hp} {S : Sr} {ρ ρ' ρ1 ρ2 : Rho} {σ σ' : St} {G H G' H' G1 H1 G2 H2 : Hp}
theorem argP_ok {b : Bool} {Φ : Hd → Rho → Prop} (g : Good K B S ρ1 σ G1 H1) (s : Stp S σ ρ G H ρ1 G1 H1) {h : Hd} {v : V} (q : HdOk K B S ρ1 σ G1 H1 v h) (fr : Fresh H v h) (d : argP b h ρ1 Φ) :
    ∃ x ρ2 G2, Φ x ρ2 ∧ Good K B S ρ2 σ G2 H1 ∧ Stp S σ ρ G H ρ2 G2 H1 ∧ HdOk K B S ρ2 σ G2 H1 v x ∧ ∀ ds, x ≠ .new ds := by
  have dat : (datOf h ρ1 fun d ρ' => Φ (.val d) ρ') → ∃ x ρ2 G2, Φ x ρ2 ∧ Good K B S ρ2 σ G2 H1 ∧ Stp S σ ρ G H ρ2 G2 H1 ∧ HdOk K B S ρ2 σ G2 H1 v x ∧ ∀ ds, x ≠ .new ds := fun d => by
    obtain ⟨x, ρ2, G2, f2, g2, s2, t2⟩ := frz g s q fr d
    exact ⟨.val x, ρ2, G2, f2, g2, s2, t2, fun _ z => nomatch z⟩
  cases h with
  | val d' => exact dat d
  | new d' => exact dat d
  | src i => exact ⟨.src i, ρ1, G1, d, g, s, q, fun _ z => nomatch z⟩
  | slot i =>
    simp only [argP] at d
    split at d
    · exact ⟨.slot i, ρ1, G1, d, g, s, q, fun _ z => nomatch z⟩
    · split at d
      · exact ⟨.slot i, ρ1, G1, d, g, s, q, fun _ z => nomatch z⟩
      · exact dat d
    · exact dat d
theorem HsOk.mono (s : Stp S σ ρ G H ρ1 G1 H1) : ∀ {vs : List V} {hs : List Hd}, HsOk K B S ρ σ G H vs hs → HsOk K B S ρ1 σ G1 H1 vs hs
  | [], [], _ => trivial
  | v :: vs, h :: hs, ⟨a, b, c⟩ => ⟨a.mono s, b, HsOk.mono s c⟩
  | [], _ :: _, h => h.elim
  | _ :: _, [], h => h.elim
theorem HsOk.args (g : Good K B S ρ σ G H) {t q : Nat} (ht : TurnIs S H t) (o : Option Nat) (ho : ∀ q', o = some q' → q' = q) : ∀ {vs : List V} {hs : List Hd}, HsOk K B S ρ σ G H vs hs → ArgsOk K (lim S (t + q)) G H vs (hs.map (resQ o ρ))
  | [], [], _ => trivial
  | [], _ :: _, h => h.elim
  | _ :: _, [], h => h.elim
  | v :: vs, h :: hs, ⟨a, b, c⟩ => by
    refine ⟨?_, HsOk.args g ht o ho c⟩
    cases h with
    | val d => exact a
    | new d => exact trivial
    | src i =>
      obtain ⟨p, e1, e2⟩ := a
      subst e1
      simp only [resQ]
      split
      · rename_i q' n r e
        obtain ⟨p', k1, k2, k3⟩ := g.sl i _ e
        cases k1
        obtain ⟨⟨c1, l1, m1, h1⟩, _⟩ := ht p rfl
        obtain ⟨h2, _⟩ := k3.val h1
        have := ho q' rfl
        subst this
        exact ⟨_, rfl, e2, c1, l1, m1, t, h1, by omega, by show (t : Int) + (q' : Int) ≤ ((t + q' : Nat) : Int); omega⟩
      · trivial
    | slot i =>
      have a' : σ[i]? = some (some v) := a
      simp only [resQ]
      split
      · rename_i ds e
        obtain ⟨x, us, e1, h1, h2, h3, h4, h5⟩ := g.sl i _ e
        rw [a'] at e1; cases e1
        exact ⟨x, us, rfl, h1, h2, h3, fun z => h5 (inS_lim.mp z)⟩
      · rename_i ds e
        obtain ⟨x, us, e1, h0, h1, h2, h3, h5⟩ := g.sl i _ e
        rw [a'] at e1; cases e1
        exact ⟨x, us, rfl, h1, h2, h3, fun z => h5 (inS_lim.mp z)⟩
      · rename_i d e
        obtain ⟨u, e1, h1⟩ := g.sl i _ e
        rw [a'] at e1; cases e1
        exact h1
      · exact trivial
end
section
variable {X : Cx} {e : Expr} {es : List Expr} {pos p : Pos} {f : DF} {F : AF}
theorem da_nil : PA X [] (dA X.K anilF) := PAw pa_nil fun σ H Q ⟨B, S, ρ, G, Φ, g, q, k⟩ => k [] [] ρ G H q g (.refl g) trivial
def dG1 (K : PySem.W.Frag) (b : Bool) (f : DF) : TE := fun σ H Q => ∃ B S ρ G Φ, Good K B S ρ σ G H ∧ f ρ (fun h ρ1 => argP b h ρ1 Φ) ∧ ∀ h v ρ' G' H', Φ h ρ' → (∀ ds, h ≠ .new ds) → Good K B S ρ' σ G' H' → Stp S σ ρ G H ρ' G' H' → HdOk K B S ρ' σ G' H' v h → Q v H'
theorem da_cons (b : Bool) (he : PE X e (dE X.K f)) (hr : PA X es (dA X.K F)) (hs : starEach (e :: es) X.env = (false, eval e X.env) :: starEach es X.env := by rfl) : PA X (e :: es) (dA X.K (aconsF b f F)) := by
  have h1 : PE X e (dG1 X.K b f) := PEw he fun σ H Q ⟨B, S, ρ, G, Φ, g, q, k⟩ => ⟨B, S, ρ, G, _, g, q, fun h v ρ1 G1 H1 f1 g1 s1 o1 fr => by
    obtain ⟨x, ρ2, G2, f2, g2, s2, o2, n2⟩ := argP_ok g1 s1 o1 fr f1
    exact k x v ρ2 G2 H1 f2 n2 g2 s2 o2⟩
  exact PAw (pa_cons h1 hr hs) fun σ H Q ⟨B, S, ρ, G, Φ, g, q, k⟩ => ⟨B, S, ρ, G, _, g, q, fun h v ρ1 G1 H1 f1 n1 g1 s1 o1 => ⟨B, S, ρ1, G1, _, g1, f1, fun hs vs ρ2 G2 H2 f2 g2 s2 o2 =>
    k (h :: hs) (v :: vs) ρ2 G2 H2 f2 g2 (s1.trans s2) ⟨o1.mono s2, n1, o2⟩⟩⟩
theorem de_call {k n : Nat} {fa : Addr} {fd : FuncData} {ps : List Str} {x : Str} {C : CF} (G : FnOk X.prog X.w X.K X.mg X.base CX0 k fa fd ps (spD X.K n C)) (hr : Room k X.A) (hm : X.mg x = some (.ref fa)) (hk : PySem.W.keepIn X.K (.ref fa) = true) (hb : Binds X.K fd ps [])
    (hl : (e :: es).length = n) (ha : PA X (e :: es) (dA X.K F)) (hg : Gl X x := by rfl) (hdb : (x == ("__debug__" : Str)) = false := by decide) (he : starEach (e :: es) X.env = (false, eval e X.env) :: starEach es X.env := by rfl) (hpl : (backTo pos (starEach es X.env)).any (·.1) = false := by rfl) :
    PE X (.Call (.Name x p) (e :: es) [] pos) (dE X.K (callF (fun as Φ => as.length = n ∧ C as Φ) F)) :=
  PEw (pe_call G hr hg hm hk hb .nil pass0 ha hdb he hpl) fun σ H Q ⟨B, S, ρ, Gd, Φ, g, q, k⟩ => ⟨B, S, ρ, Gd, _, g, q, fun hs vs ρ1 G1 H1 f1 g1 s1 o1 => by
    obtain ⟨t, ht⟩ := g1.reg.turn
    have ao := o1.args (q := 0) g1 ht none (fun _ z => nomatch z)
    show spD X.K n C (vs ++ []) H1 Q E0
    rw [List.append_nil]
    refine ⟨ao.len.trans f1.1, _, _, G1, _, g1.ing, g1.reg.lim ht 0, ao, f1.2, fun d v G' H' fd c tv => ?_⟩
    have g2 := g1.called ht (fun p e => (ht p e).2) c
    have s2 := c.stp g1 0
    rw [bump0] at g2 s2
    exact k _ _ ρ1 G' H' fd g2 (s1.trans s2) tv trivial⟩
theorem de_callS {k n : Nat} (q0 : Nat) {fa : Addr} {fd : FuncData} {ps : List Str} {x : Str} {C : CF} (G : FnOk X.prog X.w X.K X.mg X.base CX0 k fa fd ps (spD X.K n C)) (hr : Room k X.A) (hm : X.mg x = some (.ref fa)) (hk : PySem.W.keepIn X.K (.ref fa) = true) (hb : Binds X.K fd ps [])
    (hl : (e :: es).length = n) (ha : PA X (e :: es) (dA X.K F)) (hg : Gl X x := by rfl) (hdb : (x == ("__debug__" : Str)) = false := by decide) (he : starEach (e :: es) X.env = (false, eval e X.env) :: starEach es X.env := by rfl) (hpl : (backTo pos (starEach es X.env)).any (·.1) = false := by rfl) :
    PE X (.Call (.Name x p) (e :: es) [] pos) (dE X.K (callFs q0 (fun as Φ => as.length = n ∧ C as Φ) F)) :=
  PEw (pe_call G hr hg hm hk hb .nil pass0 ha hdb he hpl) fun σ H Q ⟨B, S, ρ, Gd, Φ, g, q, k⟩ => ⟨B, S, ρ, Gd, _, g, q, fun hs vs ρ1 G1 H1 f1 g1 s1 o1 => by
    obtain ⟨f0, f1⟩ := f1
    obtain ⟨t, ht⟩ := g1.reg.turn
    have ao := o1.args (q := q0) g1 ht (some q0) (fun _ z => (Option.some.inj z).symm)
    have hq : ∀ p, S = some p → t + q0 ≤ p.2.2 := fun p e => by
      unfold srcIn at f0
      split at f0
      · rename_i i _
        split at f0
        · rename_i n r e1
          obtain ⟨p', k1, k2, k3⟩ := g1.sl i _ e1
          subst e
          cases k1
          obtain ⟨⟨c1, l1, m1, h1⟩, _⟩ := ht p rfl
          have := (k3.val h1).2
          omega
        · exact f0.elim
      · exact f0.elim
    show spD X.K n C (vs ++ []) H1 Q E0
    rw [List.append_nil]
    refine ⟨ao.len.trans f1.1, _, _, G1, _, g1.ing, g1.reg.lim ht q0, ao, f1.2, fun d v G' H' fd c tv => ?_⟩
    exact k _ _ _ G' H' fd (g1.called ht hq c) (s1.trans (c.stp g1 q0)) tv trivial⟩
end

/-! ### lists of one's own, changed -/
section
variable {K : PySem.W.Frag} {B : Hp × Hp} {S : Sr} {ρ ρ' ρ1 ρ2 : Rho} {σ σ' : St} {G H G' H' G1 H1 G2 H2 : Hp}
/-- the object of slot i gives way to another one of it, with no addresses but its own -/
theorem Good.change1 (g : Good K B S ρ σ G H) {i : Nat} {x x' : Slot} {D : Addr} {o : HO} (e : ρ[i]? = some x) (hD : Foot H σ[i]? x D) (hg : G D = none) (hb : B.2 D = none) (hs : ¬InS S D) (ok : SlotOk K B S G (upd H D o) σ[i]? x') (hf : ∀ b, Foot (upd H D o) σ[i]? x' b → Foot H σ[i]? x b) :
    Good K B S (ρ.set i x') σ G (upd H D o) ∧ Stp S σ ρ G H (ρ.set i x') G (upd H D o) := by
  have g1 : Good K B S (ρ.set i .un) σ G H := g.slot trivial nf_un
  have no := own_let g e hD
  have g2 := g1.mut (o := o) hg hb hs no
  have bk : ∀ {j : Nat} {y : Slot} {b : Addr}, (ρ.set i x')[j]? = some y → Foot (upd H D o) σ[j]? y b → ∃ y', ρ[j]? = some y' ∧ Foot H σ[j]? y' b := fun {j y b} q f => by
    rcases set_get q with ⟨rfl, rfl⟩ | ⟨ne, q'⟩
    · exact ⟨x, e, hf b f⟩
    · have q1 : (ρ.set i Slot.un)[j]? = some y := by rw [List.getElem?_set_ne ne]; exact q'
      exact ⟨y, q', f.back (g.sl j y q') fun c u f' h => by
        rw [upd_ne (fun z : c = D => no (by rw [← z]; exact ⟨j, y, q1, f'⟩))]; exact h⟩
  refine ⟨⟨g2.ing, g2.reg, g2.ext, g2.out, g2.pre, by rw [List.length_set]; exact g.len, fun j y q => ?_, fun j k y z a q1 q2 f1 f2 => ?_⟩, Same.refl G, fun b h _ _ _ => h, fun b u q1 q2 q3 => ?_, fun b ⟨j, y, q1, f⟩ => ?_, fun b h => g.reg.g h, fun b h => ?_⟩
  · rcases set_get q with ⟨rfl, rfl⟩ | ⟨ne, q'⟩
    · exact ok
    · exact g2.sl j y (by rw [List.getElem?_set_ne ne]; exact q')
  · obtain ⟨y', w1, u1⟩ := bk q1 f1
    obtain ⟨z', w2, u2⟩ := bk q2 f2
    exact g.sep j k y' z' a w1 w2 u1 u2
  · rw [upd_ne (fun z => by subst z; exact q2 ⟨i, x, e, hD⟩)]; exact q3
  · obtain ⟨y', w1, u1⟩ := bk q1 f
    exact ⟨j, y', w1, u1⟩
  · by_cases z : b = D
    · subst z; rw [upd_same]; exact fun z => nomatch z
    · rw [upd_ne z]; exact h
theorem Good.change (g : Good K B S ρ σ G H) {i : Nat} {ds es : List PyData} {a : Addr} {us : List V} (e : ρ[i]? = some (.ow ds)) (ev : σ[i]? = some (some (.ref a))) (t : DtAll K G us es) :
    Good K B S (ρ.set i (.ow es)) σ G (upd H a (.lst us)) ∧ Stp S σ ρ G H (ρ.set i (.ow es)) G (upd H a (.lst us)) := by
  obtain ⟨b, vs, e1, h1, h2, h3, h4, h5⟩ := g.sl i _ e
  rw [ev] at e1; cases e1
  exact g.change1 e ev h3 h4 h5 ⟨a, us, ev, upd_same, t, h3, h4, h5⟩ fun b f => f
end
def ownAt (ρ : Rho) (i : Nat) (N : List PyData → Prop) : Prop := match ρ[i]? with
  | some (.ow ds) => N ds
  | _ => False
theorem ownAt_ok {ρ : Rho} {i : Nat} {N : List PyData → Prop} (h : ownAt ρ i N) : ∃ ds, ρ[i]? = some (.ow ds) ∧ N ds := by
  unfold ownAt at h
  split at h
  · rename_i ds e; exact ⟨ds, e, h⟩
  · exact h.elim
/-- xs.append(e) -/
def appF (i : Nat) (f : DF) : SF := fun ρ k => ownAt ρ i fun _ => f ρ fun h ρ1 => datOf h ρ1 fun d ρ2 => ownAt ρ2 i fun ds => ds.length < sizeLine ∧ k.nx (ρ2.set i (.ow (ds ++ [d])))
def listP (d : PyData) (k : List PyData → Prop) : Prop := match d with
  | .list xs => k xs
  | _ => False
def extF (i : Nat) (f : DF) : SF := fun ρ k => ownAt ρ i fun _ => f ρ fun h ρ1 => rdP h ρ1 fun d => listP d fun es => ownAt ρ1 i fun ds => ds.length + es.length ≤ sizeLine ∧ k.nx (ρ1.set i (.ow (ds ++ es)))
/-- xs[j] = e -/
def putF (i : Nat) (f fj : DF) : SF := fun ρ k => f ρ fun h ρ1 => datOf h ρ1 fun d ρ2 => ownAt ρ2 i fun _ => fj ρ2 fun hj ρ3 => rdP hj ρ3 fun dj => match dj with
  | .int j => ownAt ρ3 i fun ds => ∃ m, ixN ds.length j = some m ∧ k.nx (ρ3.set i (.ow (ds.set m d)))
  | _ => False
def pop0F (i : Nat) : DF := fun ρ Φ => ownAt ρ i fun ds => ∃ d, ds[ds.length - 1]? = some d ∧ Φ (.val d) (ρ.set i (.ow ds.dropLast))
def popF (i : Nat) (f : DF) : DF := fun ρ Φ => ownAt ρ i fun _ => f ρ fun h ρ1 => rdP h ρ1 fun dj => match dj with
  | .int j => ownAt ρ1 i fun ds => (-(2 ^ 63) ≤ j ∧ j < 2 ^ 63) ∧ ∃ m d, seqIndex? j ds.length = some m ∧ ds[m]? = some d ∧ Φ (.val d) (ρ1.set i (.ow (ds.eraseIdx m)))
  | _ => False
section
variable {X : Cx} {e ej : Expr} {pos p apos cpos : Pos} {f fj : DF} {x : Str}
theorem rd_int {K : PySem.W.Frag} {G H : Hp} {v : V} {j : Int} (r : Rdb K G H v (.int j)) : v = .int j := by
  rcases r with h | ⟨ds, a, vs, e3, _⟩
  · cases h; rfl
  · cases e3
theorem ds_append (i : Nat) (he : PE X e (dE X.K f)) (hN : X.N[i]? = some x := by rfl) (hv : Vis X.env.scope x := by first | exact Or.inl rfl | exact Or.inr (Or.inl rfl) | exact Or.inr (Or.inr rfl)) (hd : (x == ("__debug__" : Str)) = false := by decide) (hcd : (x == ("__classdict__" : Str)) = false := by decide)
    (hbase : attributeBase (.Name x p) "append" X.env (eval (.Name x p) X.env) = eval (.Name x p) X.env := by rfl)
    (hfew : ((backTo cpos (starEach [e] X.env)).all (fun x => !x.1) && (backToKw cpos (keywordEach [] X.env)).all (fun x => x.1.isSome) && decide ([e].length + ([] : List Keyword).length + (if ([] : List Keyword).isEmpty then 0 else 1) < 30)) = true := by rfl)
    (hline : (apos.endLine == cpos.line) = true := by rfl) (hs : starEach [e] X.env = (false, eval e X.env) :: starEach [] X.env := by rfl) (hplain : (backTo cpos (starEach [] X.env)).any (·.1) = false := by rfl)
    (hsw : swapsWith (.Call (.Attribute (.Name x p) "append" apos) [e] [] cpos) none pos.line X.env = pure false := by rfl) :
    PS X (.Expr (.Call (.Attribute (.Name x p) "append" apos) [e] [] cpos) pos) (dS X.K (appF i f)) :=
  PSw (ps_expr (pe_bm PySem.F.plainAttrs_list PySem.F.slot_list_append PySem.F.type_list_append mt_append (pe_var hN hv hd hcd) (pa_cons (de_data he) pa_nil hs) hbase hfew hline hs hplain) hsw) fun D σ H ⟨B, S, ρ, G, k, g, q, d⟩ => by
    obtain ⟨ds, e0, q⟩ := ownAt_ok q
    obtain ⟨a, vs, e1, h1, h2, h3, h4, h5⟩ := g.sl i _ e0
    refine ⟨_, e1, .inl ⟨rfl, vs, .of h1⟩, B, S, ρ, G, _, g, q, fun y v ρ1 G1 H1 f1 g1 s1 t1 => ?_⟩
    obtain ⟨ds1, e2, hz, f2⟩ := ownAt_ok f1
    obtain ⟨a', vs1, e3, k1, k2, k3, k4, k5⟩ := g1.sl i _ e2
    rw [e1] at e3; cases e3
    exact ⟨a, vs1, v, rfl, rfl, k1, by rw [k2.length]; exact hz, d.nx _ σ G1 _ f2 (g1.change e2 e1 (k2.append (.one t1))).1⟩
theorem ds_extend (i : Nat) (he : PE X e (dE X.K f)) (hN : X.N[i]? = some x := by rfl) (hv : Vis X.env.scope x := by first | exact Or.inl rfl | exact Or.inr (Or.inl rfl) | exact Or.inr (Or.inr rfl)) (hd : (x == ("__debug__" : Str)) = false := by decide) (hcd : (x == ("__classdict__" : Str)) = false := by decide)
    (hbase : attributeBase (.Name x p) "extend" X.env (eval (.Name x p) X.env) = eval (.Name x p) X.env := by rfl)
    (hfew : ((backTo cpos (starEach [e] X.env)).all (fun x => !x.1) && (backToKw cpos (keywordEach [] X.env)).all (fun x => x.1.isSome) && decide ([e].length + ([] : List Keyword).length + (if ([] : List Keyword).isEmpty then 0 else 1) < 30)) = true := by rfl)
    (hline : (apos.endLine == cpos.line) = true := by rfl) (hs : starEach [e] X.env = (false, eval e X.env) :: starEach [] X.env := by rfl) (hplain : (backTo cpos (starEach [] X.env)).any (·.1) = false := by rfl)
    (hsw : swapsWith (.Call (.Attribute (.Name x p) "extend" apos) [e] [] cpos) none pos.line X.env = pure false := by rfl) :
    PS X (.Expr (.Call (.Attribute (.Name x p) "extend" apos) [e] [] cpos) pos) (dS X.K (extF i f)) :=
  PSw (ps_expr (pe_bm PySem.F.plainAttrs_list PySem.F.slot_list_extend PySem.F.type_list_extend mt_extend (pe_var hN hv hd hcd) (pa_cons he pa_nil hs) hbase hfew hline hs hplain) hsw) fun D σ H ⟨B, S, ρ, G, k, g, q, d⟩ => by
    obtain ⟨ds, e0, q⟩ := ownAt_ok q
    obtain ⟨a, vs, e1, h1, h2, h3, h4, h5⟩ := g.sl i _ e0
    refine ⟨_, e1, .inl ⟨rfl, vs, .of h1⟩, B, S, ρ, G, _, g, q, fun h v ρ1 G1 H1 f1 g1 s1 o1 fr => ?_⟩
    obtain ⟨dd, f2, r2⟩ := rd_of g1 o1 f1
    unfold listP at f2
    split at f2
    · obtain ⟨b, us, rfl, hb, t⟩ := r2.list g1.ing
      obtain ⟨ds1, e2, hz, f3⟩ := ownAt_ok f2
      obtain ⟨a', vs1, e3, k1, k2, k3, k4, k5⟩ := g1.sl i _ e2
      rw [e1] at e3; cases e3
      exact ⟨a, b, vs1, us, rfl, rfl, k1, hb, by rw [k2.length, t.length]; exact hz, d.nx _ σ G1 _ f3 (g1.change e2 e1 (k2.append t)).1⟩
    · exact f2.elim
theorem de_pop0 (i : Nat) (hN : X.N[i]? = some x := by rfl) (hv : Vis X.env.scope x := by first | exact Or.inl rfl | exact Or.inr (Or.inl rfl) | exact Or.inr (Or.inr rfl)) (hd : (x == ("__debug__" : Str)) = false := by decide) (hcd : (x == ("__classdict__" : Str)) = false := by decide)
    (hbase : attributeBase (.Name x p) "pop" X.env (eval (.Name x p) X.env) = eval (.Name x p) X.env := by rfl) (hline : (apos.endLine == cpos.line) = true := by rfl) :
    PE X (.Call (.Attribute (.Name x p) "pop" apos) [] [] cpos) (dE X.K (pop0F i)) :=
  PEw (pe_bm0 PySem.F.plainAttrs_list PySem.F.slot_list_pop PySem.F.type_list_pop mt_pop (pe_var hN hv hd hcd) hbase hline) fun σ H Q ⟨B, S, ρ, G, Φ, g, q, k⟩ => by
    obtain ⟨ds, e0, d, hd, q⟩ := ownAt_ok q
    obtain ⟨a, vs, e1, h1, h2, h3, h4, h5⟩ := g.sl i _ e0
    obtain ⟨y, hy, ty⟩ := h2.get hd
    obtain ⟨g2, s2⟩ := g.change e0 e1 h2.dropLast
    exact ⟨_, e1, .inl ⟨rfl, vs, .of h1⟩, a, vs, y, rfl, rfl, h1, by rw [h2.length]; exact hy, k _ _ _ G _ q g2 s2 ty trivial⟩
theorem de_pop (i : Nat) (he : PE X e (dE X.K f)) (hN : X.N[i]? = some x := by rfl) (hv : Vis X.env.scope x := by first | exact Or.inl rfl | exact Or.inr (Or.inl rfl) | exact Or.inr (Or.inr rfl)) (hd : (x == ("__debug__" : Str)) = false := by decide) (hcd : (x == ("__classdict__" : Str)) = false := by decide)
    (hbase : attributeBase (.Name x p) "pop" X.env (eval (.Name x p) X.env) = eval (.Name x p) X.env := by rfl)
    (hfew : ((backTo cpos (starEach [e] X.env)).all (fun x => !x.1) && (backToKw cpos (keywordEach [] X.env)).all (fun x => x.1.isSome) && decide ([e].length + ([] : List Keyword).length + (if ([] : List Keyword).isEmpty then 0 else 1) < 30)) = true := by rfl)
    (hline : (apos.endLine == cpos.line) = true := by rfl) (hs : starEach [e] X.env = (false, eval e X.env) :: starEach [] X.env := by rfl) (hplain : (backTo cpos (starEach [] X.env)).any (·.1) = false := by rfl) :
    PE X (.Call (.Attribute (.Name x p) "pop" apos) [e] [] cpos) (dE X.K (popF i f)) :=
  PEw (pe_bm PySem.F.plainAttrs_list PySem.F.slot_list_pop PySem.F.type_list_pop mt_popAt (pe_var hN hv hd hcd) (pa_cons he pa_nil hs) hbase hfew hline hs hplain) fun σ H Q ⟨B, S, ρ, G, Φ, g, q, k⟩ => by
    obtain ⟨ds, e0, q⟩ := ownAt_ok q
    obtain ⟨a, vs, e1, h1, h2, h3, h4, h5⟩ := g.sl i _ e0
    refine ⟨_, e1, .inl ⟨rfl, vs, .of h1⟩, B, S, ρ, G, _, g, q, fun h v ρ1 G1 H1 f1 g1 s1 o1 fr => ?_⟩
    obtain ⟨dj, f2, r2⟩ := rd_of g1 o1 f1
    split at f2
    · rename_i j
      have := rd_int r2
      subst this
      obtain ⟨ds1, e2, hj, m, d, hm, hd, f3⟩ := ownAt_ok f2
      obtain ⟨a', vs1, e3, k1, k2, k3, k4, k5⟩ := g1.sl i _ e2
      rw [e1] at e3; cases e3
      obtain ⟨y, hy, ty⟩ := k2.get hd
      obtain ⟨g2, s2⟩ := g1.change e2 e1 (k2.eraseIdx m)
      exact ⟨a, vs1, j, m, y, rfl, rfl, k1, hj.1, hj.2, by rw [k2.length]; exact hm, hy, k _ _ _ G1 _ f3 g2 (s1.trans s2) ty trivial⟩
    · exact f2.elim
/-- xs[j] = e -/
theorem ds_put (i : Nat) (he : PE X e (dE X.K f)) (hj : PE X ej (dE X.K fj)) (hN : X.N[i]? = some x := by rfl) (hv : Vis X.env.scope x := by first | exact Or.inl rfl | exact Or.inr (Or.inl rfl) | exact Or.inr (Or.inr rfl)) (hd : (x == ("__debug__" : Str)) = false := by decide) (hcd : (x == ("__classdict__" : Str)) = false := by decide)
    (ha : ∀ v, assign (.Subscript (.Name x p) ej cpos) X.env v = (do
      let ov ← holding [v] (eval (.Name x p) X.env)
      let iv ← holding [v, ov] (eval ej X.env)
      standAt cpos
      holding [v, ov, iv] (setItem ov iv v)
      release [v, ov, iv] []) := by intro _; rfl)
    (hs : swapsWithSole [.Subscript (.Name x p) ej cpos] e pos.line X.env = pure false := by rfl) (hw : swappedStores [.Subscript (.Name x p) ej cpos] e X.env = pure none := by rfl) (h1 : (assignEach [.Subscript (.Name x p) ej cpos] X.env).map (·.2) = [assign (.Subscript (.Name x p) ej cpos) X.env] := by rfl) :
    PS X (.Assign [.Subscript (.Name x p) ej cpos] e pos) (dS X.K (putF i f fj)) :=
  PSw (ps_asg (de_data he) (pg_sub (pe_var hN hv hd hcd) hj set_list ha) hs hw h1) fun D σ H ⟨B, S, ρ, G, k, g, q, d⟩ => ⟨B, S, ρ, G, _, g, q, fun y v ρ1 G1 H1 f1 g1 s1 t1 => by
    obtain ⟨ds, e0, q⟩ := ownAt_ok f1
    obtain ⟨a, vs, e1, h1, h2, h3, h4, h5⟩ := g1.sl i _ e0
    refine ⟨_, e1, B, S, ρ1, G1, _, g1, q, fun h u ρ2 G2 H2 f2 g2 s2 o2 fr => ?_⟩
    obtain ⟨dj, f3, r3⟩ := rd_of g2 o2 f2
    split at f3
    · rename_i j
      have := rd_int r3
      subst this
      obtain ⟨ds1, e2, m, hm, f4⟩ := ownAt_ok f3
      obtain ⟨a', vs1, e3, k1, k2, k3, k4, k5⟩ := g2.sl i _ e2
      rw [e1] at e3; cases e3
      exact ⟨a, vs1, j, m, rfl, rfl, k1, by rw [k2.length]; exact hm, d.nx _ σ G2 _ f4 (g2.change e2 e1 (k2.set m (Dt.mono s2.ext y t1))).1⟩
    · exact f3.elim⟩
end
end Dat


set_option Elab.async false
set_option linter.all false
set_option maxRecDepth 100000
set_option maxHeartbeats 4000000
/-! DatI: zip and enumerate over lists and tuples in any mix. -/
namespace Dat
open PySem L2

def SqA (K : PySem.W.Frag) (H : Hp) (a : Addr) (xs : List V) : Bool → Prop
  | true => SqT K H a xs
  | false => SqL K H a xs
def ItA (h : Heap) (it a : Addr) (i : Nat) : Bool → Prop
  | true => h.IsTupleIter it a i
  | false => h.IsListIter it a i
def IsA (h : Heap) (a : Addr) (items : Array Value) : Bool → Prop
  | true => h.IsTuple a items
  | false => h.IsList a items
theorem draws_any {prog : Program} {w : World} {A : Around} (hh : A.handled = none) (it a : Addr) (hne : a ≠ it) (items : Array Value) : ∀ k, Draws prog w A it [it, a] items.size (fun i v => items[i]? = some v) (fun i h => ItA h it a i k ∧ IsA h a items k)
  | true => .tuple hh it a hne items
  | false => .list hh it a hne items
theorem ItA.there {h : Heap} {it a : Addr} {i : Nat} : ∀ {k}, ItA h it a i k → ∃ o, h.get? it = some o ∧ ∀ v, o.data ≠ .cell v
  | true, ⟨o, e, _, d⟩ => ⟨o, e, fun v q => by rw [d] at q; cases q⟩
  | false, ⟨o, e, _, d⟩ => ⟨o, e, fun v q => by rw [d] at q; cases q⟩
theorem ItA.at {h h' : Heap} {it a : Addr} {i : Nat} (k : ∀ o, h.get? it = some o → h'.get? it = some o) : ∀ {t}, ItA h it a i t → ItA h' it a i t
  | true, ⟨o, e, c, d⟩ => ⟨o, k o e, c, d⟩
  | false, ⟨o, e, c, d⟩ => ⟨o, k o e, c, d⟩
section
variable {X : Cx} {pins : List (Addr × Obj)} {σ : L2.St} {H : Hp} {s : Shared} {a : Addr} {xs ys : List V}
theorem inv_any (I : Inv X pins σ H s) : ∀ {k}, SqA X.K H a xs k → ∃ its : List Value, Vals xs its ∧ IsA s.heap a its.toArray k ∧ a < s.heap.objs.size ∧ xs.length ≤ sizeLine
  | true, h => by
    obtain ⟨its, r, p, hz⟩ := I.tuple h
    exact ⟨its, r, p, p.lt, hz⟩
  | false, h => by
    obtain ⟨its, r, p, hz⟩ := I.list h
    exact ⟨its, r, p.isList, p.lt, hz⟩
theorem any_inj (I : Inv X pins σ H s) : ∀ {k}, SqA X.K H a xs k → SqA X.K H a ys k → xs = ys
  | true, h, h' => I.tuple_inj h h'
  | false, h, h' => I.list_inj h h'
end
def Itz2 (K : PySem.W.Frag) (ka kb : Bool) (a b : Addr) : It :=
  ⟨fun i H => ∃ (xs ys : List V), SqA K H a xs ka ∧ SqA K H b ys kb ∧ i < min xs.length ys.length,
    fun i H v H' => ∃ T x y, v = .ref T ∧ H T = none ∧ H' = upd H T (.tup [x, y]) ∧ (∀ xs, SqA K H a xs ka → xs[i]? = some x) ∧ ∀ ys, SqA K H b ys kb → ys[i]? = some y,
    fun i H => ∃ xs ys : List V, SqA K H a xs ka ∧ SqA K H b ys kb ∧ i = min xs.length ys.length⟩
theorem turn_zip2 {P : Program} {w : World} {K : PySem.W.Frag} {elts : List Expr} {kk : Nat} {tpos : Pos} {ka kb : Bool} {a b z TI TO i1 i2 : Addr} (ha : a ≠ i1) (hb : b ≠ i2) (D : ZipSep2 z TI TO i1 i2 [i1, a] [i2, b]) :
    Turn P w K (.Tuple elts kk tpos) (Itz2 K ka kb a b) [z, TI, TO, i1, i2] z (fun i h => IsZip h z TI TO .none ∧ IsTupOf2 h TI (.ref i1) (.ref i2) ∧ (∃ x y, IsTupOf2 h TO x y) ∧ ItA h i1 a i ka ∧ ItA h i2 b i kb) where
  mem := by simp
  obj := fun i h st c hc => by
    obtain ⟨hz, hTI, ⟨x, y, hTO⟩, h1, h2⟩ := st
    have e' : c = z ∨ c = TI ∨ c = TO ∨ c = i1 ∨ c = i2 := by simpa using hc
    rcases e' with q | q | q | q | q
    · rw [q]; exact ⟨_, hz, fun v q => nomatch q⟩
    · rw [q]; exact ⟨_, hTI, fun v q => nomatch q⟩
    · rw [q]; exact ⟨_, hTO, fun v q => nomatch q⟩
    · rw [q]; exact h1.there
    · rw [q]; exact h2.there
  keep := fun i h h' st k => by
    obtain ⟨hz, hTI, ⟨x, y, hTO⟩, h1, h2⟩ := st
    exact ⟨k z (by simp) _ hz, k TI (by simp) _ hTI, ⟨x, y, k TO (by simp) _ hTO⟩, h1.at fun o q => k i1 (by simp) o q, h2.at fun o q => k i2 (by simp) o q⟩
  item := by
    intro X hP hw hK hc i pins s σ H E I hf st hg
    subst hP hw hK
    obtain ⟨hz, hTI, ⟨x0, y0, hTO⟩, h1, h2⟩ := st
    obtain ⟨xs, ys, hqx, hqy, hlt⟩ := hg
    obtain ⟨its, rv, p, _⟩ := inv_any I hqx
    obtain ⟨its2, rv2, p2, _⟩ := inv_any I hqy
    have l1 := rv.length
    have l2 := rv2.length
    have hh : X.A.in1.handled = none := I.ok.hd hc
    refine (GoesN.zip2 D (draws_any hh i1 a ha its.toArray ka) (draws_any hh i2 b hb its2.toArray kb)).goes i s _ E (by simp; omega) ⟨hz, hTI, ⟨x0, y0, hTO⟩, ⟨h1, p⟩, ⟨h2, p2⟩⟩ fun v h' tk Y st' hk _ => ?_
    obtain ⟨T, u1, u2, rfl, hT, e1, e2, tup⟩ := Y
    obtain ⟨z', TI', TO', ⟨i1', _⟩, ⟨i2', _⟩⟩ := st'
    have e1' : its[i]? = some u1 := by simpa using e1
    have e2' : its2[i]? = some u2 := by simpa using e2
    have hx : xs[i]? = some xs[i] := List.getElem?_eq_getElem (by omega)
    have hy : ys[i]? = some ys[i] := List.getElem?_eq_getElem (by omega)
    obtain ⟨w1, q1, r1⟩ := rv.get hx
    obtain ⟨w2, q2, r2⟩ := rv2.get hy
    rw [e1'] at q1; cases q1
    rw [e2'] at q2; cases q2
    have new : ObjOk X.prog X.w (upd H T (.tup [xs[i], ys[i]])) h' T (.tup [xs[i], ys[i]]) := ⟨by show 2 ≤ sizeLine; decide, [u1, u2], .cons r1 (.cons r2 .nil), tup⟩
    have I1 : Inv X pins σ (upd H T (.tup [xs[i], ys[i]])) { s with heap := h', toks := tk } := I.turnedNew (t' := tk) (ch := [z, TI, TO, i1, i2]) (fun c o hb q => hk c o (fun q' => hb (by
      have e' : c = z ∨ c = TO ∨ c = i1 ∨ c = i2 := by simpa using q'
      rcases e' with q | q | q | q <;> simp [q])) q) hf hT new
    refine ⟨.ref T, _, I1, rfl, ⟨T, _, _, rfl, I.hok.fresh hT, rfl, fun l hl => by rw [any_inj I hl hqx]; exact hx, fun l hl => by rw [any_inj I hl hqy]; exact hy⟩, ⟨z', TI', TO', i1', i2'⟩, fun c hcm => ?_⟩
    have hlt : c < s.heap.objs.size := by
      have e' : c = z ∨ c = TI ∨ c = TO ∨ c = i1 ∨ c = i2 := by simpa using hcm
      rcases e' with q | q | q | q | q
      · rw [q]; exact Heap.lt_size hz
      · rw [q]; exact Heap.lt_size hTI
      · rw [q]; exact Heap.lt_size hTO
      · rw [q]; obtain ⟨_, e1, _⟩ := h1.there; exact Heap.lt_size e1
      · rw [q]; obtain ⟨_, e2, _⟩ := h2.there; exact Heap.lt_size e2
    rw [upd_ne (Nat.ne_of_lt (Nat.lt_of_lt_of_le hlt hT))]
    exact (hf c hcm).1
  done := by
    intro X hP hw hK hc i pins s σ H E I hf st hg
    subst hP hw hK
    obtain ⟨hz, hTI, ⟨x0, y0, hTO⟩, h1, h2⟩ := st
    obtain ⟨xs, ys, hqx, hqy, hend⟩ := hg
    obtain ⟨its, rv, p, _⟩ := inv_any I hqx
    obtain ⟨its2, rv2, p2, _⟩ := inv_any I hqy
    have l1 := rv.length
    have l2 := rv2.length
    have hh : X.A.in1.handled = none := I.ok.hd hc
    have hn : i = min its.toArray.size its2.toArray.size := by simp; omega
    subst hn
    exact (GoesN.zip2 (elts := elts) (x1 := kk) (pos := tpos) D (draws_any hh i1 a ha its.toArray ka) (draws_any hh i2 b hb its2.toArray kb)).stops s _ E ⟨hz, hTI, ⟨x0, y0, hTO⟩, ⟨h1, p⟩, ⟨h2, p2⟩⟩ fun h' tk hk _ => I.turnedL (t' := tk) (ch := [z, TI, TO, i1, i2]) (fun c o hb q => hk c o (fun q' => hb (by
      have e' : c = z ∨ c = TO ∨ c = i1 ∨ c = i2 := by simpa using q'
      rcases e' with q | q | q | q <;> simp [q])) q) hf
  self := fun A i s Q E st h => wpAny_pyIter_zip st.1 h
def Ite2 (K : PySem.W.Frag) (ka : Bool) (a : Addr) : It :=
  ⟨fun i H => ∃ (xs : List V), SqA K H a xs ka ∧ i < xs.length,
    fun i H v H' => ∃ T x, v = .ref T ∧ H T = none ∧ H' = upd H T (.tup [.int (i : Nat), x]) ∧ (∀ xs, SqA K H a xs ka → xs[i]? = some x),
    fun i H => ∃ xs : List V, SqA K H a xs ka ∧ i = xs.length⟩
theorem turn_enum2 {P : Program} {w : World} {K : PySem.W.Frag} {elts : List Expr} {kk : Nat} {tpos : Pos} {ka : Bool} {a e it : Addr} (ha : a ≠ it) (hei : e ≠ it) (hea : e ≠ a) :
    Turn P w K (.Tuple elts kk tpos) (Ite2 K ka a) [e, it] e (fun i h => (∃ old, IsEnum h e it ((0 : Int) + ((i : Nat) : Int)) old) ∧ ItA h it a i ka) where
  mem := by simp
  obj := fun i h st b hb => by
    obtain ⟨⟨old, he⟩, h1⟩ := st
    have e' : b = e ∨ b = it := by simpa using hb
    rcases e' with z | z
    · rw [z]; exact ⟨_, he, fun v q => nomatch q⟩
    · rw [z]; exact h1.there
  keep := fun i h h' st k => let ⟨⟨old, he⟩, hi⟩ := st; ⟨⟨old, k e (by simp) _ he⟩, hi.at fun o q => k it (by simp) o q⟩
  item := by
    intro X hP hw hK hc i pins s σ H E I hf st hg
    subst hP hw hK
    obtain ⟨he, h1⟩ := st
    obtain ⟨xs, hqx, hlt⟩ := hg
    obtain ⟨its, rv, p, _⟩ := inv_any I hqx
    have l1 := rv.length
    have hh : X.A.in1.handled = none := I.ok.hd hc
    refine (GoesN.enumFrom 0 (draws_any hh it a ha its.toArray ka) e hei (by simp [hei, hea]) (by simp)).goes i s _ E (by simp; omega) ⟨he, ⟨h1, p⟩⟩ fun v h' tk Y st' hk _ => ?_
    obtain ⟨T, t, u1, rfl, hT, e1, tup⟩ := Y
    obtain ⟨he', ⟨i1', _⟩⟩ := st'
    have e1' : its[i]? = some u1 := by simpa using e1
    have hx : xs[i]? = some xs[i] := List.getElem?_eq_getElem (by omega)
    obtain ⟨w1, q1, r1⟩ := rv.get hx
    rw [e1'] at q1; cases q1
    have new : ObjOk X.prog X.w (upd H T (.tup [.int (i : Nat), xs[i]])) h' T (.tup [.int (i : Nat), xs[i]]) := ⟨by show 2 ≤ sizeLine; decide, [.int (0 + (i : Int)) t, u1], .cons ⟨t, by rw [Int.zero_add]⟩ (.cons r1 .nil), tup⟩
    have I1 : Inv X pins σ (upd H T (.tup [.int (i : Nat), xs[i]])) { s with heap := h', toks := tk } := I.turnedNew (t' := tk) (ch := [e, it]) (fun c o hb q => hk c o hb q) hf hT new
    refine ⟨.ref T, _, I1, rfl, ⟨T, _, rfl, I.hok.fresh hT, rfl, fun l hl => by rw [any_inj I hl hqx]; exact hx⟩, ⟨he', i1'⟩, fun c hcm => ?_⟩
    have hlt : c < s.heap.objs.size := by
      have e' : c = e ∨ c = it := by simpa using hcm
      rcases e' with q | q
      · rw [q]; obtain ⟨_, z⟩ := he; exact Heap.lt_size z
      · rw [q]; obtain ⟨_, e1, _⟩ := h1.there; exact Heap.lt_size e1
    rw [upd_ne (Nat.ne_of_lt (Nat.lt_of_lt_of_le hlt hT))]
    exact (hf c hcm).1
  done := by
    intro X hP hw hK hc i pins s σ H E I hf st hg
    subst hP hw hK
    obtain ⟨he, h1⟩ := st
    obtain ⟨xs, hqx, hend⟩ := hg
    obtain ⟨its, rv, p, _⟩ := inv_any I hqx
    have l1 := rv.length
    have hh : X.A.in1.handled = none := I.ok.hd hc
    have hn : i = its.toArray.size := by simp; omega
    subst hn
    exact (GoesN.enumFrom (elts := elts) (x1 := kk) (pos := tpos) 0 (draws_any hh it a ha its.toArray ka) e hei (by simp [hei, hea]) (by simp)).stops s _ E ⟨he, ⟨h1, p⟩⟩ fun h' tk hk _ => I.turnedL (t' := tk) (ch := [e, it]) (fun c o hb q => hk c o hb q) hf
  self := fun A i s Q E st h => let ⟨⟨_, he⟩, _⟩ := st; wpAny_pyIter_enum he h

open AutoSeq1 (wpAny_loadPart')
set_option maxHeartbeats 8000000 in
theorem meets_enumerate_new1B {v : Value} {o : Obj} {H : Heap → Prop} (B : Begins v o H) :
    Meets (Builtin.«enumerate.__new__» ⟨[.type "enumerate", v], []⟩) (fun _ R s => H s.heap ∧
      R (.ok (.ret (.ref (s.heap.push o).objs.size))) { s with heap := (s.heap.push o).push { cls := .type "enumerate", data := .fields #[.none, .bool false, .ref s.heap.objs.size, rawInt 0, .none, .none] } }) :=
  .of_wp fun prog w A R s h => by
    obtain ⟨hp, g, d, tk, os⟩ := s; obtain ⟨h1, h⟩ := h
    have hsub := sub_enumerate
    have q1 : ∀ {A' : Around} {E : Value → Shared → Prop} {Q : Value → Shared → Prop}, Q (.ref hp.objs.size) ⟨hp.push o, g, d, tk, os⟩ → wpAny (model prog w) A' (pyIter v) Q E ⟨hp, g, d, tk, os⟩ :=
      fun q => B.iter prog w _ _ ⟨hp, g, d, tk, os⟩ _ h1 q
    wp_walk using q1
    refine wpAny_stack_any fun st => wpAny_pure ?_
    split
    · rename_i c _ _ _ _ _
      cases (c == Value.type "enumerate")
      · wp_walk using q1
        exact ⟨_, rfl, h⟩
      · wp_walk using q1
        exact ⟨_, rfl, h⟩
    · wp_walk using q1
      exact ⟨_, rfl, h⟩
section
variable {prog : Program} {w : World} {A : Around} {E : Value → Shared → Prop} {s : Shared}
theorem enum_begins1 {v : Value} {o : Obj} {H : Heap → Prop} {Q : Value → Shared → Prop} (B : Begins v o H) (h1 : H s.heap)
    (h : ∀ h', IsEnum h' (s.heap.objs.size + 1) s.heap.objs.size 0 .none → h'.get? s.heap.objs.size = some o → h'.objs.size = s.heap.objs.size + 2 →
      (∀ b o, s.heap.get? b = some o → h'.get? b = some o) → Q (.ref (s.heap.objs.size + 1)) { s with heap := h' }) :
    wpAny (model prog w) A (call (.type "enumerate") [v]) Q E s := by
  refine callType_new F.called_enumerate (by decide) (F.typeCall_enumerate_1 _) (F.newCall_enumerate_1 _) (fun obj => F.args_object_init_2 obj _) F.entry_enumerate_new
    (meets_enumerate_new1B B) ⟨h1, ?_⟩
  have hz : (s.heap.push o).objs.size = s.heap.objs.size + 1 := Heap.size_push ..
  show _ ∧ _
  rw [hz]
  have he : IsEnum ((s.heap.push o).push { cls := .type "enumerate", data := .fields #[.none, .bool false, .ref s.heap.objs.size, rawInt 0, .none, .none] }) (s.heap.objs.size + 1) s.heap.objs.size 0 .none := by
    have := Heap.get?_push_size (s.heap.push o) (o := { cls := .type "enumerate", data := .fields #[.none, .bool false, .ref s.heap.objs.size, rawInt 0, .none, .none] }) rfl
    rw [hz] at this; exact this
  refine ⟨⟨_, he, rfl⟩, h _ he (Heap.get?_push_of_some _ (Heap.get?_push_size _ B.free)) (by rw [Heap.size_push, hz]) fun b o x => Heap.get?_push_of_some _ (Heap.get?_push_of_some _ x)⟩
end
def itObj (a : Addr) : Bool → Obj
  | true => { cls := .type "tuple_iterator", data := .fields #[.ref a, .int 0 0] }
  | false => { cls := .type "list_iterator", data := .fields #[.ref a, .int 0 0] }
theorem begins_any (a : Addr) (items : Array Value) : ∀ k, Begins (.ref a) (itObj a k) fun h => IsA h a items k
  | true => begins_tuple a items
  | false => begins_list a items
theorem ItA.new {h : Heap} {it a : Addr} : ∀ {k}, h.get? it = some (itObj a k) → ItA h it a 0 k
  | true, e => ⟨_, e, rfl, rfl⟩
  | false, e => ⟨_, e, rfl, rfl⟩
def iZip2 (K : PySem.W.Frag) (ta : TA) : TI := fun σ H R => ta σ H fun vs H1 => ∃ a b xs ys ka kb, vs = [.ref a, .ref b] ∧ SqA K H1 a xs ka ∧ SqA K H1 b ys kb ∧ R (Itz2 K ka kb a b) H1
def iEnum2 (K : PySem.W.Frag) (ta : TA) : TI := fun σ H R => ta σ H fun vs H1 => ∃ a xs ka, vs = [.ref a] ∧ SqA K H1 a xs ka ∧ R (Ite2 K ka a) H1
section
variable {X : Cx} {e e2 : Expr} {ta : TA} {p pos tpos : Pos} {elts : List Expr} {kk : Nat}
theorem pi_zip2 (hg : Gl X "zip") (hm : X.mg "zip" = none) (ha : PA X [e, e2] ta)
    (hs : starEach [e, e2] X.env = (false, eval e X.env) :: starEach [e2] X.env := by rfl) (hpl : (backTo pos (starEach [e2] X.env)).any (·.1) = false := by rfl) :
    PI X (.Tuple elts kk tpos) (.Call (.Name "zip" p) [e, e2] [] pos) (iZip2 X.K ta) := by
  refine ⟨fun pins s σ H R I h => ?_⟩
  refine PyProof.Rows.Call_ (ld_blt I hg hm PyProof.Rows.boot_zip (PyProof.Rows.callWith_type1 (thn (ha.run pos pins s σ H _ I h) fun us s1 ⟨vs, H1, I1, r1, q1⟩ => ?_) hs hpl))
  obtain ⟨a, b, xs, ys, ka, kb, ex, hqx, hqy, q⟩ := q1
  subst ex
  cases r1 with
  | cons r rr =>
    cases rr with
    | cons r' rr =>
      cases rr
      cases r
      cases r'
      obtain ⟨its, rv, p1, la, _⟩ := inv_any I1 hqx
      obtain ⟨its2, rv2, p2, lb, _⟩ := inv_any I1 hqy
      refine zip_begins2 (begins_any a its.toArray ka) (begins_any b its2.toArray kb) p1 p2 fun h' hz hTI hTO h1 h2 hsz hk => wpAny_pyIter_zip hz ?_
      have I2 : Inv X pins σ H1 { s1 with heap := h' } := I1.kept (t' := s1.toks) hk
      refine ⟨s1.heap.objs.size + 4, [s1.heap.objs.size + 4, s1.heap.objs.size + 2, s1.heap.objs.size + 3, s1.heap.objs.size, s1.heap.objs.size + 1], _, _, H1, rfl, I2,
        turn_zip2 (Nat.ne_of_lt la) (Nat.ne_of_lt (Nat.lt_succ_of_lt lb)) (zip_sep2 (N := s1.heap.objs.size) (fp1 := [a]) (fp2 := [b]) (by simpa using la) (by simpa using lb)), ⟨hz, hTI, ⟨_, _, hTO⟩, .new h1, .new h2⟩, fun c hcm => ?_, q⟩
      have e' : c = s1.heap.objs.size + 4 ∨ c = s1.heap.objs.size + 2 ∨ c = s1.heap.objs.size + 3 ∨ c = s1.heap.objs.size ∨ c = s1.heap.objs.size + 1 := by simpa using hcm
      have hle : s1.heap.objs.size ≤ c := by
        rcases e' with z | z | z | z | z
        · rw [z]; exact Nat.le_add_right _ _
        · rw [z]; exact Nat.le_add_right _ _
        · rw [z]; exact Nat.le_add_right _ _
        · rw [z]; exact Nat.le_refl _
        · rw [z]; exact Nat.le_add_right _ _
      exact I1.fpOk hle (I1.hok.fresh hle)
theorem pi_enum2 (hg : Gl X "enumerate") (hm : X.mg "enumerate" = none) (ha : PA X [e] ta) (hs : starEach [e] X.env = [(false, eval e X.env)] := by rfl) :
    PI X (.Tuple elts kk tpos) (.Call (.Name "enumerate" p) [e] [] pos) (iEnum2 X.K ta) := by
  refine ⟨fun pins s σ H R I h => ?_⟩
  refine PyProof.Rows.Call_ (ld_blt I hg hm PyProof.Rows.boot_enumerate (PyProof.Rows.callWith_type1 (thn (ha.run pos pins s σ H _ I h) fun us s1 ⟨vs, H1, I1, r1, q1⟩ => ?_) hs rfl))
  obtain ⟨a, xs, ka, ex, hqx, q⟩ := q1
  subst ex
  cases r1 with
  | cons r rr =>
    cases rr
    cases r
    obtain ⟨its, rv, p1, la, _⟩ := inv_any I1 hqx
    refine enum_begins1 (begins_any a its.toArray ka) p1 fun h' he h1 hsz hk => wpAny_pyIter_enum he ?_
    have I2 : Inv X pins σ H1 { s1 with heap := h' } := I1.kept (t' := s1.toks) hk
    refine ⟨s1.heap.objs.size + 1, [s1.heap.objs.size + 1, s1.heap.objs.size], _, _, H1, rfl, I2, turn_enum2 (Nat.ne_of_lt la) (Nat.succ_ne_self _) (Nat.ne_of_gt (Nat.lt_succ_of_lt la)), ⟨⟨_, he⟩, .new h1⟩, fun c hcm => ?_, q⟩
    have e' : c = s1.heap.objs.size + 1 ∨ c = s1.heap.objs.size := by simpa using hcm
    have hle : s1.heap.objs.size ≤ c := by
      rcases e' with z | z
      · rw [z]; exact Nat.le_add_right _ _
      · rw [z]; exact Nat.le_refl _
    exact I1.fpOk hle (I1.hok.fresh hle)
end
theorem walk_zip2 {K : PySem.W.Frag} {ka kb : Bool} {a b : Addr} {xs ys : List V} : Walk (Itz2 K ka kb a b) (min xs.length ys.length) (fun H => SqA K H a xs ka ∧ SqA K H b ys kb) (YPair (fun i => xs[i]?) (fun i => ys[i]?)) :=
  ⟨fun i H hi q => ⟨xs, ys, q.1, q.2, hi⟩, fun H q => ⟨xs, ys, q.1, q.2, rfl⟩, fun i H x H' hi q ⟨T, x1, y1, e1, e2, e3, e4, e5⟩ => ⟨T, x1, y1, e1, e2, e3, e4 xs q.1, e5 ys q.2⟩⟩
theorem walk_enum2 {K : PySem.W.Frag} {ka : Bool} {a : Addr} {xs : List V} : Walk (Ite2 K ka a) xs.length (fun H => SqA K H a xs ka) (YPair (fun i => some (.int (i : Nat))) (fun i => xs[i]?)) :=
  ⟨fun i H hi q => ⟨xs, q, hi⟩, fun H q => ⟨xs, q, rfl⟩, fun i H x H' hi q ⟨T, x1, e1, e2, e3, e4⟩ => ⟨T, _, x1, e1, e2, e3, rfl, e4 xs q⟩⟩
end Dat


set_option Elab.async false
set_option linter.all false
set_option maxRecDepth 100000
set_option maxHeartbeats 4000000
/-! DatF: operators, subscripts, built-ins, by data. -/
namespace Dat
open PySem L2

section
variable {X : Cx} {pins : List (Addr × Obj)} {σ : L2.St} {H : Hp} {s : Shared}
mutual
theorem Dt.reads (I : Inv X pins σ H s) : ∀ (d : PyData) (v : V) (u : Value), Dt X.K H v d → RelV v u → ∃ as, Reads s.heap u d as
  | .none, _, _, h, r => by
    cases h
    cases r
    exact ⟨_, Reads.none⟩
  | .bool b, _, _, h, r => by
    cases h
    cases r
    exact ⟨_, Reads.bool b⟩
  | .int i, _, _, h, r => by
    cases h
    obtain ⟨t, rfl⟩ := r
    exact ⟨_, Reads.int i t⟩
  | .str x, _, _, h, r => by
    cases h
    obtain ⟨t, rfl⟩ := r
    exact ⟨_, Reads.str x t⟩
  | .list ds, _, _, h, r => by
    cases h with
    | lst hs ha =>
      cases r
      obtain ⟨its, rv, ⟨o, n, ho, hc, _, hd⟩, _⟩ := I.list (.of hs)
      obtain ⟨as, hr⟩ := Dt.readsAll I ds _ its ha rv
      exact ⟨_, Reads.list ho hc hd hr⟩
  | .tuple ds, _, _, h, r => by
    cases h with
    | tup hs ha =>
      cases r
      obtain ⟨its, rv, ⟨o, ho, hc, n, hd⟩, _⟩ := I.tuple hs.t
      obtain ⟨as, hr⟩ := Dt.readsAll I ds _ its ha rv
      exact ⟨_, Reads.tuple ho hc hd hr⟩
  | .dict kvs, _, _, h, r => by
    cases h with
    | dic0 hs =>
      cases r
      obtain ⟨_, _, vs, kv, o, es, ep, ho, hx, hd, hk, hp, _⟩ := I.hok _ _ hs
      cases kv
      have : es.toList = [] := by
        cases e : es.toList with
        | nil => rfl
        | cons a b => rw [e] at hp; exact absurd hp.length (by simp)
      exact ⟨_, Reads.dict (kvs := []) ho hx.1 hd (by rw [this]; exact .nil) (by rw [this]; exact .nil)⟩
theorem Dt.readsAll (I : Inv X pins σ H s) : ∀ (ds : List PyData) (vs : List V) (us : List Value), DtAll X.K H vs ds → Vals vs us → ∃ as, ReadsAll s.heap us ds as
  | [], _, _, h, r => by
    cases h
    cases r
    exact ⟨_, ReadsAll.nil⟩
  | d :: ds, _, _, h, r => by
    cases h with
    | cons h1 h2 =>
      cases r with
      | cons r1 r2 =>
        obtain ⟨as, q1⟩ := Dt.reads I d _ _ h1 r1
        obtain ⟨bs, q2⟩ := Dt.readsAll I ds _ _ h2 r2
        exact ⟨_, ReadsAll.cons q1 q2⟩
end
end

def rVal2 (K : PySem.W.Frag) (C : PyData → PyData → Prop) (g : PyData → PyData → V) : R2 := fun x y H Q => ∃ d e, Dt K H x d ∧ Dt K H y e ∧ C d e ∧ Q (g d e) H
def eqC (d e : PyData) : Prop := SeqAt.shaped d = true ∧ SeqAt.shaped e = true
def eqP (x y : PyData) (k : Hd → Prop) : Prop := eqC x y ∧ k (.val (.bool (PyData.eqv x y)))
def neP (x y : PyData) (k : Hd → Prop) : Prop := eqC x y ∧ k (.val (.bool (!PyData.eqv x y)))
section
variable {X : Cx} {K : PySem.W.Frag}
theorem o_eq (hu : X.A.units + 64 < cLine) : OpR X (compareOp .Eq) (rVal2 X.K eqC fun d e => .bl (PyData.eqv d e)) := by
  intro pins s σ H x y v u Q I rx ry ⟨d, e, hd, he, ⟨sd, se⟩, q⟩
  obtain ⟨as, r1⟩ := Dt.reads I d x v hd rx
  obtain ⟨bs, r2⟩ := Dt.reads I e y u he ry
  exact SeqAt.compareEq_shaped r1 r2 sd se hu ⟨.bl _, H, I, rfl, q⟩
theorem o_ne (hu : X.A.units + 64 < cLine) : OpR X (compareOp .NotEq) (rVal2 X.K eqC fun d e => .bl (!PyData.eqv d e)) := by
  intro pins s σ H x y v u Q I rx ry ⟨d, e, hd, he, ⟨sd, se⟩, q⟩
  obtain ⟨as, r1⟩ := Dt.reads I d x v hd rx
  obtain ⟨bs, r2⟩ := Dt.reads I e y u he ry
  exact SeqAt.compareNe_shaped r1 r2 sd se hu ⟨.bl _, H, I, rfl, q⟩
theorem p_eq : Op2 K (rVal2 K eqC fun d e => .bl (PyData.eqv d e)) eqP := fun x y dx dy G H Φ Q e rx ry p o => ⟨dx, dy, rx.now e, ry.now e, p.1, o.val e p.2 (.bl _)⟩
theorem p_ne : Op2 K (rVal2 K eqC fun d e => .bl (!PyData.eqv d e)) neP := fun x y dx dy G H Φ Q e rx ry p o => ⟨dx, dy, rx.now e, ry.now e, p.1, o.val e p.2 (.bl _)⟩
end
/-- in, not in -/
def inC (d e : PyData) : Prop := d.canLay0 = true ∧ d.depth ≤ 64 ∧ seqP e fun ds => PyData.canLayAll0 ds = true
def anyIn (d e : PyData) : Bool := match e with
  | .list ds => ds.any fun z => PyData.eqv z d
  | .tuple ds => ds.any fun z => PyData.eqv z d
  | _ => false
def inP (x y : PyData) (k : Hd → Prop) : Prop := inC x y ∧ k (.val (.bool (anyIn x y)))
def niP (x y : PyData) (k : Hd → Prop) : Prop := inC x y ∧ k (.val (.bool (!anyIn x y)))
section
variable {X : Cx} {K : PySem.W.Frag}
theorem room_in {A : Around} {xs : List PyData} {d : PyData} (hd : d.depth ≤ 64) (hu : A.units + 65 < cLine) : A.units + 1 + min (PyData.depthAll xs) d.depth < cLine := by
  have h2 : min (PyData.depthAll xs) d.depth ≤ d.depth := Nat.min_le_right _ _
  omega
theorem o_in (hu : X.A.units + 65 < cLine) : OpR X (compareOp .In) (rVal2 X.K inC fun d e => .bl (anyIn d e)) := by
  intro pins s σ H x y v u Q I rx ry ⟨d, e, hd, he, ⟨c1, c2, c3⟩, q⟩
  obtain ⟨as, r1⟩ := Dt.reads I d x v hd rx
  obtain ⟨bs, r2⟩ := Dt.reads I e y u he ry
  unfold seqP at c3
  split at c3
  · exact SeqAt.in_list_reads r2 r1 c3 c1 (room_in c2 hu) ⟨.bl _, H, I, rfl, q⟩
  · exact SeqAt.in_tuple_reads r2 r1 c3 c1 (room_in c2 hu) ⟨.bl _, H, I, rfl, q⟩
  · exact c3.elim
theorem o_ni (hu : X.A.units + 65 < cLine) : OpR X (compareOp .NotIn) (rVal2 X.K inC fun d e => .bl (!anyIn d e)) := by
  intro pins s σ H x y v u Q I rx ry ⟨d, e, hd, he, ⟨c1, c2, c3⟩, q⟩
  obtain ⟨as, r1⟩ := Dt.reads I d x v hd rx
  obtain ⟨bs, r2⟩ := Dt.reads I e y u he ry
  unfold seqP at c3
  split at c3
  · exact SeqAt.notIn_list_reads r2 r1 c3 c1 (room_in c2 hu) ⟨.bl _, H, I, rfl, q⟩
  · exact SeqAt.notIn_tuple_reads r2 r1 c3 c1 (room_in c2 hu) ⟨.bl _, H, I, rfl, q⟩
  · exact c3.elim
theorem p_in : Op2 K (rVal2 K inC fun d e => .bl (anyIn d e)) inP := fun x y dx dy G H Φ Q e rx ry p o => ⟨dx, dy, rx.now e, ry.now e, p.1, o.val e p.2 (.bl _)⟩
theorem p_ni : Op2 K (rVal2 K inC fun d e => .bl (!anyIn d e)) niP := fun x y dx dy G H Φ Q e rx ry p o => ⟨dx, dy, rx.now e, ry.now e, p.1, o.val e p.2 (.bl _)⟩
end

/-! ### numbers -/
def intP (C : Int → Int → Prop) (g : Int → Int → PyData) (x y : PyData) (k : Hd → Prop) : Prop := match x, y with
  | .int i, .int j => C i j ∧ k (.val (g i j))
  | _, _ => False
def int0P (g : Int → Int → PyData) (x y : PyData) (k : Hd → Prop) : Prop := match x, y with
  | .int i, .int j => k (.val (g i j))
  | _, _ => False
section
variable {X : Cx} {K : PySem.W.Frag}
theorem p_int {C : Int → Int → Prop} {g : Int → Int → V} {g' : Int → Int → PyData} (hg : ∀ i j G, Dt K G (g i j) (g' i j)) : Op2 K (rI C g) (intP C g') := fun x y dx dy G H Φ Q e rx ry p o => by
  unfold intP at p
  split at p
  · exact ⟨_, _, rd_int rx, rd_int ry, p.1, o.val e p.2 (hg _ _ G)⟩
  · exact p.elim
theorem p_int0 {g : Int → Int → V} {g' : Int → Int → PyData} (hg : ∀ i j G, Dt K G (g i j) (g' i j)) : Op2 K (rI0 g) (int0P g') := fun x y dx dy G H Φ Q e rx ry p o => by
  unfold int0P at p
  split at p
  · exact ⟨_, _, rd_int rx, rd_int ry, o.val e p (hg _ _ G)⟩
  · exact p.elim
def divC (i j : Int) : Prop := j ≠ 0 ∧ Builtin.divisionGoesByPylong i j = false
theorem o_fdiv : OpR X (binaryOp .FloorDiv) (rI divC fun i j => .int (i.fdiv j)) := opI fun _ _ _ _ _ _ _ hc q => PyProof.Rows.floordiv_int hc.1 q (.inl hc.2)
abbrev subP := int0P fun i j => .int (i - j)
abbrev fdivP := intP divC fun i j => .int (i.fdiv j)
abbrev modP := intP (fun _ j => j ≠ 0) fun i j => .int (i.fmod j)
abbrev ltP := int0P fun i j => .bool (decide (i < j))
abbrev leP := int0P fun i j => .bool (decide (i ≤ j))
abbrev gtP := int0P fun i j => .bool (decide (j < i))
abbrev geP := int0P fun i j => .bool (decide (j ≤ i))
def negP (x : PyData) (k : Hd → Prop) : Prop := match x with
  | .int i => k (.val (.int (-i)))
  | _ => False
theorem p_neg : Op1 K (rU fun i => .int (-i)) negP := fun x dx G H Φ Q e rx p o => by
  unfold negP at p
  split at p
  · exact ⟨_, rd_int rx, o.val e p (.int _)⟩
  · exact p.elim
/-- a + b, a * b -/
def addP (x y : PyData) (k : Hd → Prop) : Prop := match x, y with
  | .int i, .int j => k (.val (.int (i + j)))
  | .str i, .str j => i.length + j.length ≤ sizeLine ∧ k (.val (.str (i ++ j)))
  | .tuple xs, .tuple ys => xs.length + ys.length ≤ sizeLine ∧ k (.val (.tuple (xs ++ ys)))
  | .list xs, .list ys => xs.length + ys.length ≤ sizeLine ∧ k (.new (xs ++ ys))
  | _, _ => False
/-- t + u, the new tuple's object known -/
def rCatN (K : PySem.W.Frag) : R2 := fun x y H Q => ∃ a b xs ys, x = .ref a ∧ y = .ref b ∧ SqT K H a xs ∧ SqT K H b ys ∧ xs.length + ys.length ≤ sizeLine ∧
  (xs = [] → Q (.ref b) H) ∧ (xs ≠ [] → ys = [] → Q (.ref a) H) ∧ (xs ≠ [] → ys ≠ [] → ∀ p ob, TupO ob → H p = none → Q (.ref p) (upd H p (.frz ob (.tup (xs ++ ys)))))
theorem op_catN : OpR X (binaryOp .Add) (rCatN X.K) := by
  intro pins s σ H x y v u Q I rx ry h
  obtain ⟨a, b, xs, ys, rfl, rfl, ha, hb, hz, q0, q1, q2⟩ := h
  cases rx
  cases ry
  obtain ⟨its, r1, p1, _⟩ := I.tuple ha
  obtain ⟨its2, r2, p2, _⟩ := I.tuple hb
  by_cases hx : xs = []
  · subst hx
    cases r1
    exact cat_tup0 p1 p2 ⟨.ref b, H, I, rfl, q0 rfl⟩
  · refine HT.cat_tup p1 p2 (fun z => hx (r1.nil_iff.mp z)) (fun z => ⟨.ref a, H, I, rfl, q1 hx (r2.nil_iff.mp z)⟩) (fun z => ?_) (by rw [← r1.length, ← r2.length]; exact hz)
    exact laid_tup I (by rw [List.length_append]; exact hz) (r1.append r2) (q2 hx fun w => z (r2.nil_iff.mpr w))
def rAddD (K : PySem.W.Frag) : R2 := fun x y H Q => rI0 (fun i j => .int (i + j)) x y H Q ∨ (∃ i j, x = .str i ∧ y = .str j ∧ i.length + j.length ≤ sizeLine ∧ Q (.str (i ++ j)) H) ∨ rCatN K x y H Q ∨ rCat x y H Q
theorem o_add : OpR X (binaryOp .Add) (rAddD X.K) := op_add.or (op_add_str.or (op_catN.or op_cat))
theorem rd_str {G H : Hp} {v : V} {j : Str} (r : Rdb K G H v (.str j)) : v = .str j := by
  rcases r with h | ⟨ds, a, vs, e3, _⟩
  · cases h; rfl
  · cases e3
theorem p_add : Op2 K (rAddD K) addP := fun x y dx dy G H Φ Q e rx ry p o => by
  unfold addP at p
  split at p
  · exact .inl ⟨_, _, rd_int rx, rd_int ry, o.val e p (.int _)⟩
  · exact .inr (.inl ⟨_, _, rd_str rx, rd_str ry, p.1, o.val e p.2 (.str _)⟩)
  · obtain ⟨a, vs, rfl, ha, ta⟩ := rx.tuple
    obtain ⟨b, us, rfl, hb, tb⟩ := ry.tuple
    refine .inr (.inr (.inl ⟨a, b, vs, us, rfl, rfl, (ha.mono e).t, (hb.mono e).t, by rw [ta.length, tb.length]; exact p.1, fun z => ?_, fun _ z => ?_, fun _ _ q ob ho hq => o.tup e p.2 (ta.append tb) ho hq⟩))
    · subst z; cases ta; exact o.val e p.2 (.tup hb tb)
    · subst z; cases tb; exact o.val e (by simpa using p.2) (.tup ha ta)
  · obtain ⟨a, vs, rfl, ha, ta⟩ := rx.list e
    obtain ⟨b, us, rfl, hb, tb⟩ := ry.list e
    exact .inr (.inr (.inr ⟨a, b, vs, us, rfl, rfl, ha, hb, by rw [ta.length, tb.length]; exact p.1, fun q hq => o.newL e p.2 (ta.append tb) hq⟩))
  · exact p.elim
def mulP (x y : PyData) (k : Hd → Prop) : Prop := match x, y with
  | .int i, .int j => CMulX i j ∧ k (.val (.int (i * j)))
  | .list xs, .int n => (-(2 ^ 63) ≤ n ∧ n < 2 ^ 63 ∧ xs.length * n.toNat ≤ sizeLine) ∧ k (.new (List.replicate n.toNat xs).flatten)
  | _, _ => False
def rMulD : R2 := fun x y H Q => rI CMulX (fun i j => .int (i * j)) x y H Q ∨ rRep x y H Q
theorem o_mul : OpR X (binaryOp .Mult) rMulD := op_mulX.or op_rep
theorem DtAll.rep {G : Hp} {vs : List V} {ds : List PyData} (t : DtAll K G vs ds) : ∀ n, DtAll K G (List.replicate n vs).flatten (List.replicate n ds).flatten
  | 0 => .nil
  | n + 1 => by
    rw [List.replicate_succ, List.replicate_succ, List.flatten_cons, List.flatten_cons]
    exact t.append (DtAll.rep t n)
theorem p_mul : Op2 K rMulD mulP := fun x y dx dy G H Φ Q e rx ry p o => by
  unfold mulP at p
  split at p
  · exact .inl ⟨_, _, rd_int rx, rd_int ry, p.1, o.val e p.2 (.int _)⟩
  · obtain ⟨a, vs, rfl, ha, ta⟩ := rx.list e
    exact .inr ⟨a, _, vs, rfl, rd_int ry, ha, p.1.1, p.1.2.1, by rw [ta.length]; exact p.1.2.2, fun q hq => o.newL e p.2 (ta.rep _) hq⟩
  · exact p.elim
def isNoneD : PyData → Bool
  | .none => true
  | _ => false
def isNP (x y : PyData) (k : Hd → Prop) : Prop := y = .none ∧ k (.val (.bool (isNoneD x)))
def notNP (x y : PyData) (k : Hd → Prop) : Prop := y = .none ∧ k (.val (.bool (!isNoneD x)))
theorem rd_isN {G H : Hp} {v : V} {d : PyData} (r : Rdb K G H v d) : decide (v = .non) = isNoneD d := by
  rcases r with h | ⟨ds, a, vs, e3, e4, _⟩
  · cases h <;> rfl
  · subst e3 e4; rfl
theorem rd_non {G H : Hp} {v : V} {d : PyData} (r : Rdb K G H v d) (z : d = .none) : v = .non := by
  subst z
  rcases r with h | ⟨_, _, _, z, _⟩
  · cases h; rfl
  · cases z
theorem p_isN : Op2 K (fun x y H Q => y = .non ∧ Q (.bl (decide (x = .non))) H) isNP := fun x y dx dy G H Φ Q e rx ry p o => by
  refine ⟨rd_non ry p.1, o.val e p.2 ?_⟩
  rw [rd_isN rx]; exact .bl _
theorem p_notN : Op2 K (fun x y H Q => y = .non ∧ Q (.bl (!decide (x = .non))) H) notNP := fun x y dx dy G H Φ Q e rx ry p o => by
  refine ⟨rd_non ry p.1, o.val e p.2 ?_⟩
  rw [rd_isN rx]; exact .bl _
end

/-! ### subscripts, slices -/
def ixP (x y : PyData) (k : Hd → Prop) : Prop := match y with
  | .int i => seqP x fun ds => ∃ d, atI ds i = some d ∧ k (.val d)
  | _ => False
def rIxD (K : PySem.W.Frag) : R2 := fun x y H Q => rIxL K x y H Q ∨ rIxT K x y H Q
theorem DtAll.atI {K : PySem.W.Frag} {G : Hp} {vs : List V} {ds : List PyData} {i : Int} {d : PyData} (t : DtAll K G vs ds) (h : L2.atI ds i = some d) : ∃ v, L2.atI vs i = some v ∧ Dt K G v d := by
  unfold L2.atI at h ⊢
  rw [t.length]
  cases e : ixN ds.length i with
  | none => rw [e] at h; cases h
  | some j =>
    rw [e] at h
    exact t.get h
section
variable {X : Cx} {K : PySem.W.Frag} {a b e : Expr} {fa fb f : DF} {pos : Pos}
theorem p_ix : Op2 K (rIxD K) ixP := fun x y dx dy G H Φ Q e rx ry p o => by
  unfold ixP at p
  split at p
  · have hy := rd_int ry
    unfold seqP at p
    split at p
    · obtain ⟨q, vs, rfl, hq, t⟩ := rx.list e
      obtain ⟨d, h1, h2⟩ := p
      obtain ⟨v, h3, h4⟩ := t.atI h1
      exact .inl ⟨q, vs, _, v, rfl, hy, .of hq, h3, o.val e h2 h4⟩
    · obtain ⟨q, vs, rfl, hq, t⟩ := rx.tuple
      obtain ⟨d, h1, h2⟩ := p
      obtain ⟨v, h3, h4⟩ := t.atI h1
      exact .inr ⟨q, vs, _, v, rfl, hy, (hq.mono e).t, h3, o.val e h2 h4⟩
    · exact p.elim
  · exact p.elim
theorem de_ix (ha : PE X a (dE X.K fa)) (hb : PE X b (dE X.K fb)) (hs : PlainIx b := by exact fun _ _ => rfl) : PE X (.Subscript a b pos) (dE X.K (opF ixP fa fb)) := PEw (pe_ix (ix_list.or ix_tup) ha hb hs) (r_op p_ix)
/-- a part of a slice -/
abbrev OF := Rho → (Option Int → Rho → Prop) → Prop
def dO (K : PySem.W.Frag) (F : OF) : TO := fun σ H Q => ∃ B S ρ G Φ, Good K B S ρ σ G H ∧ F ρ Φ ∧ ∀ o ρ' G' H', Φ o ρ' → Good K B S ρ' σ G' H' → Stp S σ ρ G H ρ' G' H' → Q o H'
theorem POw {o : Option Expr} {t t' : TO} (h : PO X o t) (w : ∀ σ H Q, t' σ H Q → t σ H Q) : PO X o t' := ⟨fun pins s σ H Q I hw => h.run pins s σ H Q I (w σ H Q hw)⟩
def noneF : OF := fun ρ Φ => Φ none ρ
def partF (f : DF) : OF := fun ρ Φ => f ρ fun h ρ1 => rdP h ρ1 fun d => match d with
  | .int i => Φ (some i) ρ1
  | _ => False
theorem do_none : PO X none (dO X.K noneF) := POw po_none fun σ H Q ⟨B, S, ρ, G, Φ, g, q, k⟩ => k none ρ G H q g (.refl g)
theorem do_some (h : PE X e (dE X.K f)) : PO X (some e) (dO X.K (partF f)) := POw (po_some h) fun σ H Q ⟨B, S, ρ, G, Φ, g, q, k⟩ => ⟨B, S, ρ, G, _, g, q, fun h v ρ1 G1 H1 f1 g1 s1 o1 _ => by
  obtain ⟨d, f2, r2⟩ := rd_of g1 o1 f1
  split at f2
  · exact ⟨_, rd_int r2, k _ ρ1 G1 H1 f2 g1 s1⟩
  · exact f2.elim⟩
def cutP (x : PyData) (lo hi : Option Int) (k : Hd → Prop) : Prop := match x with
  | .list ds => k (.new ((ds.drop (HT.sIx ds.length 0 lo)).take (HT.sIx ds.length ds.length hi - HT.sIx ds.length 0 lo)))
  | .tuple ds => k (.val (.tuple ((ds.drop (HT.sIx ds.length 0 lo)).take (HT.sIx ds.length ds.length hi - HT.sIx ds.length 0 lo))))
  | _ => False
def slF (f : DF) (fl fh : OF) : DF := fun ρ Φ => f ρ fun h ρ1 => fl ρ1 fun lo ρ2 => fh ρ2 fun hi ρ3 => rdP h ρ3 fun d => cutP d lo hi fun x => Φ x ρ3
def rSlN (K : PySem.W.Frag) : V → Option Int → Option Int → Hp → VK → Prop := fun x lo hi H Q => ∃ a xs, x = .ref a ∧ SqT K H a xs ∧
  (HT.sIx xs.length 0 lo = 0 ∧ HT.sIx xs.length xs.length hi = xs.length → Q (.ref a) H) ∧ (¬ (HT.sIx xs.length 0 lo = 0 ∧ HT.sIx xs.length xs.length hi = xs.length) → ∀ p ob, TupO ob → H p = none → Q (.ref p) (upd H p (.frz ob (.tup (cutV xs lo hi)))))
theorem sl_tupN : SlR X (rSlN X.K) := by
  intro pins s σ H x v vl vu lo hi sl Q I rx hs pl pu h
  obtain ⟨a, xs, rfl, hx, q1, q2⟩ := h
  cases rx
  obtain ⟨its, r, ht, hz⟩ := I.tuple hx
  have hlen : its.toArray.size = xs.length := by rw [List.size_toArray]; exact r.length.symm
  refine ⟨"tuple", _, PyProof.Rows.slot_tuple_getitem.lookup, ht.typeIs, ?_⟩
  by_cases hw : HT.sIx xs.length 0 lo = 0 ∧ HT.sIx xs.length xs.length hi = xs.length
  · exact getItem_tuple_whole ht hs pl pu (by rw [hlen]; exact hw) ⟨.ref a, H, I, rfl, q1 hw⟩
  · refine HT.getItem_tuple_cut ht hs pl pu (by rw [hlen]; exact hw) ?_ (by rw [hlen]; exact hz)
    rw [hlen]
    exact laid_tup I (Nat.le_trans (cutV_length xs lo hi) hz) ((r.drop (HT.sIx xs.length 0 lo)).take (HT.sIx xs.length xs.length hi - HT.sIx xs.length 0 lo)) (q2 hw)
def rSlD (K : PySem.W.Frag) : V → Option Int → Option Int → Hp → VK → Prop := fun x lo hi H Q => rSlL K x lo hi H Q ∨ rSlN K x lo hi H Q
theorem cutV_data {G : Hp} {vs : List V} {ds : List PyData} (t : DtAll K G vs ds) (lo hi : Option Int) : DtAll K G (cutV vs lo hi) ((ds.drop (HT.sIx ds.length 0 lo)).take (HT.sIx ds.length ds.length hi - HT.sIx ds.length 0 lo)) := by
  unfold cutV
  rw [t.length]
  exact (t.drop _).take _
variable {p2 : Pos} {lo hi : Option Expr} {fl fh : OF}
theorem de_slice (he : PE X e (dE X.K f)) (hl : PO X lo (dO X.K fl)) (hh : PO X hi (dO X.K fh)) : PE X (.Subscript e (.Slice lo hi none p2) pos) (dE X.K (slF f fl fh)) :=
  PEw (pe_slice (sl_list.or sl_tupN) he hl hh) fun σ H Q ⟨B, S, ρ, G, Φ, g, q, k⟩ => ⟨B, S, ρ, G, _, g, q, fun h v ρ1 G1 H1 f1 g1 s1 o1 fr1 => ⟨B, S, ρ1, G1, _, g1, f1, fun l ρ2 G2 H2 f2 g2 s2 => ⟨B, S, ρ2, G2, _, g2, f2, fun u ρ3 G3 H3 f3 g3 s3 => by
    have s := (s1.trans s2).trans s3
    obtain ⟨d, f4, r4⟩ := rd_of g3 ((o1.mono s2).mono s3) f3
    have fin : Outc X.K G3 H3 (fun x => Φ x ρ3) Q := fun x w G' H' f5 n o5 fr => k x w ρ3 G' H' f5 (g3.nst n) (s.trans (n.stp g3)) (o5.ok g3 n fr) (fr.back s)
    unfold cutP at f4
    split at f4
    · obtain ⟨a, vs, rfl, ha, t⟩ := r4.list g3.ing
      exact .inl ⟨a, vs, rfl, .of ha, fun q hq => fin.newL g3.ing f4 (cutV_data t l u) hq⟩
    · obtain ⟨a, vs, rfl, ha, t⟩ := r4.tuple
      refine .inr ⟨a, vs, rfl, (ha.mono g3.ing).t, fun z => ?_, fun _ q ob ho hq => fin.tup g3.ing f4 (cutV_data t l u) ho hq⟩
      refine fin.val g3.ing f4 ?_
      have hl := t.length
      rw [hl] at z
      rw [z.1, z.2]
      simp only [List.drop_zero, Nat.sub_zero, List.take_length]
      exact .tup ha t
    · exact f4.elim⟩⟩⟩
end
end Dat


set_option Elab.async false
set_option linter.all false
set_option maxRecDepth 100000
set_option maxHeartbeats 4000000
/-! DatG: built-in functions, by data. -/
namespace Dat
open PySem L2

def lenP (x : PyData) (k : Hd → Prop) : Prop := seqP x fun ds => k (.val (.int ds.length))
def toTupP (x : PyData) (k : Hd → Prop) : Prop := seqP x fun ds => k (.val (.tuple ds))
def toLstP (x : PyData) (k : Hd → Prop) : Prop := seqP x fun ds => k (.new ds)
def intsP (x : PyData) (k : List Int → Prop) : Prop := match x with
  | .list ds => ∃ ns : List Int, ds = ns.map PyData.int ∧ k ns
  | _ => False
def boolsP (x : PyData) (k : List Bool → Prop) : Prop := match x with
  | .list ds => ∃ ns : List Bool, ds = ns.map PyData.bool ∧ k ns
  | _ => False
def sumP (x : PyData) (k : Hd → Prop) : Prop := intsP x fun ns => k (.val (.int ns.sum))
def toIntP (x : PyData) (k : Hd → Prop) : Prop := match x with
  | .int i => k (.val (.int i))
  | .bool b => k (.val (.int (if b then 1 else 0)))
  | _ => False
def absP (x : PyData) (k : Hd → Prop) : Prop := match x with
  | .int i => k (.val (.int (if i < 0 then -i else i)))
  | _ => False
def allP (x : PyData) (k : Hd → Prop) : Prop := boolsP x fun bs => k (.val (.bool (bs.all id)))
def anyP (x : PyData) (k : Hd → Prop) : Prop := boolsP x fun bs => k (.val (.bool (bs.any id)))
def gcdP : PyData → PyData → (Hd → Prop) → Prop := int0P fun i j => .int ((Nat.gcd i.natAbs j.natAbs : Nat) : Int)
def minDP (x d : PyData) (k : Hd → Prop) : Prop := match d with
  | .int j => intsP x fun ns => match ns with
    | [] => k (.val (.int j))
    | n :: r => k (.val (.int (r.foldl min n)))
  | _ => False
def maxP (x : PyData) (k : Hd → Prop) : Prop := intsP x fun ns => match ns with
  | [] => False
  | n :: r => k (.val (.int (r.foldl max n)))
def minP (x : PyData) (k : Hd → Prop) : Prop := intsP x fun ns => match ns with
  | [] => False
  | n :: r => k (.val (.int (r.foldl min n)))
def reprC (d : PyData) : Prop := d.showable = true ∧ d.shown.length ≤ sizeLine ∧ d.depth ≤ 60 ∧ (d.hasDict = false ∨ d = .dict [])
def reprP (x : PyData) (k : Hd → Prop) : Prop := reprC x ∧ k (.val (.str x.shown))

section
variable {K : PySem.W.Frag} {G H : Hp}
theorem DtAll.ints : ∀ {ns : List Int} {vs : List V}, DtAll K G vs (ns.map PyData.int) → vs = ns.map V.int
  | [], _, h => by cases h; rfl
  | n :: ns, _, h => by
    cases h with
    | cons h1 h2 => cases h1; rw [DtAll.ints h2]; rfl
theorem DtAll.bools : ∀ {ns : List Bool} {vs : List V}, DtAll K G vs (ns.map PyData.bool) → vs = ns.map V.bl
  | [], _, h => by cases h; rfl
  | n :: ns, _, h => by
    cases h with
    | cons h1 h2 => cases h1; rw [DtAll.bools h2]; rfl
theorem rd_ints {v : V} {x : PyData} {k : List Int → Prop} (e : Same G H) (r : Rdb K G H v x) (p : intsP x k) : ∃ a ns, v = .ref a ∧ x = .list (ns.map .int) ∧ H a = some (.lst (ns.map V.int)) ∧ k ns := by
  unfold intsP at p
  split at p
  · obtain ⟨ns, rfl, q⟩ := p
    obtain ⟨a, vs, rfl, h, t⟩ := r.list e
    rw [t.ints] at h
    exact ⟨a, ns, rfl, rfl, h, q⟩
  · exact p.elim
theorem rd_bools {v : V} {x : PyData} {k : List Bool → Prop} (e : Same G H) (r : Rdb K G H v x) (p : boolsP x k) : ∃ a ns, v = .ref a ∧ H a = some (.lst (ns.map V.bl)) ∧ k ns := by
  unfold boolsP at p
  split at p
  · obtain ⟨ns, rfl, q⟩ := p
    obtain ⟨a, vs, rfl, h, t⟩ := r.list e
    rw [t.bools] at h
    exact ⟨a, ns, rfl, h, q⟩
  · exact p.elim
theorem rd_seq {v : V} {x : PyData} {k : List PyData → Prop} (e : Same G H) (r : Rdb K G H v x) (p : seqP x k) : ∃ a vs ds, v = .ref a ∧ ((x = .list ds ∧ SqL K H a vs) ∨ (x = .tuple ds ∧ SqT K H a vs ∧ SqN G a vs)) ∧ DtAll K G vs ds ∧ k ds := by
  unfold seqP at p
  split at p
  · obtain ⟨a, vs, rfl, h, t⟩ := r.list e
    exact ⟨a, vs, _, rfl, .inl ⟨rfl, .of h⟩, t, p⟩
  · obtain ⟨a, vs, rfl, h, t⟩ := r.tuple
    exact ⟨a, vs, _, rfl, .inr ⟨rfl, (h.mono e).t, h⟩, t, p⟩
  · exact p.elim
def RLen (K : PySem.W.Frag) : List V → Hp → VK → Prop := fun xs H Q => ∃ p ys, xs = [.ref p] ∧ (SqL K H p ys ∨ SqT K H p ys) ∧ Q (.int ys.length) H
def RTup (K : PySem.W.Frag) : List V → Hp → VK → Prop := fun xs H Q => ∃ p ys, xs = [.ref p] ∧ ((SqL K H p ys ∧ ∀ l ob, TupO ob → H l = none → Q (.ref l) (upd H l (.frz ob (.tup ys)))) ∨ (SqT K H p ys ∧ Q (.ref p) H))
def RLst (K : PySem.W.Frag) : List V → Hp → VK → Prop := fun xs H Q => ∃ p ys, xs = [.ref p] ∧ (SqL K H p ys ∨ SqT K H p ys) ∧ ∀ l, H l = none → Q (.ref l) (upd H l (.lst ys))
def RAbs : List V → Hp → VK → Prop := fun xs H Q => ∃ i, xs = [.int i] ∧ Q (.int (if i < 0 then -i else i)) H
def RInt : List V → Hp → VK → Prop := fun xs H Q => (∃ i, xs = [.int i] ∧ Q (.int i) H) ∨ ∃ k, xs = [.bl k] ∧ Q (.int (if k then 1 else 0)) H
theorem p_len : Op1 K (fun x H Q => RLen K [x] H Q) lenP := fun x dx G H Φ Q e rx p o => by
  obtain ⟨a, vs, ds, rfl, h, t, q⟩ := rd_seq e rx p
  have o1 := o.val e q (.int _)
  rw [← t.length] at o1
  rcases h with ⟨_, h⟩ | ⟨_, h, _⟩
  · exact ⟨a, vs, rfl, .inl h, o1⟩
  · exact ⟨a, vs, rfl, .inr h, o1⟩
theorem p_toTup : Op1 K (fun x H Q => RTup K [x] H Q) toTupP := fun x dx G H Φ Q e rx p o => by
  obtain ⟨a, vs, ds, rfl, h, t, q⟩ := rd_seq e rx p
  rcases h with ⟨_, h⟩ | ⟨_, h, h'⟩
  · exact ⟨a, vs, rfl, .inl ⟨h, fun l ob ho hl => o.tup e q t ho hl⟩⟩
  · exact ⟨a, vs, rfl, .inr ⟨h, o.val e q (.tup h' t)⟩⟩
theorem p_toLst : Op1 K (fun x H Q => RLst K [x] H Q) toLstP := fun x dx G H Φ Q e rx p o => by
  obtain ⟨a, vs, ds, rfl, h, t, q⟩ := rd_seq e rx p
  rcases h with ⟨_, h⟩ | ⟨_, h, h'⟩
  · exact ⟨a, vs, rfl, .inl h, fun l hl => o.newL e q t hl⟩
  · exact ⟨a, vs, rfl, .inr h, fun l hl => o.newL e q t hl⟩
theorem p_sum : Op1 K (fun x H Q => rSum K [x] H Q) sumP := fun x dx G H Φ Q e rx p o => by
  obtain ⟨a, ns, rfl, _, h, q⟩ := rd_ints e rx p
  exact ⟨a, ns, rfl, .of h, o.val e q (.int _)⟩
theorem p_all : Op1 K (fun x H Q => rAll K [x] H Q) allP := fun x dx G H Φ Q e rx p o => by
  obtain ⟨a, ns, rfl, h, q⟩ := rd_bools e rx p
  exact ⟨a, ns, rfl, .of h, o.val e q (.bl _)⟩
theorem p_any : Op1 K (fun x H Q => rAny K [x] H Q) anyP := fun x dx G H Φ Q e rx p o => by
  obtain ⟨a, ns, rfl, h, q⟩ := rd_bools e rx p
  exact ⟨a, ns, rfl, .of h, o.val e q (.bl _)⟩
theorem rd_bl {v : V} {b : Bool} (r : Rdb K G H v (.bool b)) : v = .bl b := by
  rcases r with h | ⟨ds, a, vs, e3, _⟩
  · cases h; rfl
  · cases e3
theorem p_toInt : Op1 K (fun x H Q => RInt [x] H Q) toIntP := fun x dx G H Φ Q e rx p o => by
  unfold toIntP at p
  split at p
  · exact .inl ⟨_, by rw [rd_int rx], o.val e p (.int _)⟩
  · exact .inr ⟨_, by rw [rd_bl rx], o.val e p (.int _)⟩
  · exact p.elim
theorem p_abs : Op1 K (fun x H Q => RAbs [x] H Q) absP := fun x dx G H Φ Q e rx p o => by
  unfold absP at p
  split at p
  · exact ⟨_, by rw [rd_int rx], o.val e p (.int _)⟩
  · exact p.elim
theorem p_gcd : Op2 K (fun x y H Q => rGcd [x, y] H Q) gcdP := fun x y dx dy G H Φ Q e rx ry p o => by
  unfold gcdP int0P at p
  split at p
  · exact ⟨_, _, by rw [rd_int rx, rd_int ry], o.val e p (.int _)⟩
  · exact p.elim
end
theorem reads_nil {h : Heap} {us : List Value} {as : List Addr} (r : ReadsAll h us [] as) : as = [] := by cases r; rfl
/-- a list of ints, read -/
theorem reads_ints {h : Heap} : ∀ {ns : List Int} {us : List Value}, Vals (ns.map V.int) us → ∃ as, ReadsAll h us (ns.map PyData.int) as
  | [], _, r => by cases r; exact ⟨_, .nil⟩
  | n :: ns, _, r => by
    cases r with
    | cons r1 r2 =>
      obtain ⟨t, rfl⟩ := r1
      obtain ⟨as, q⟩ := reads_ints r2
      exact ⟨_, .cons (.int n t) q⟩
theorem alike_ints (ns : List Int) : PySem.W.AlikeAll (ns.map PyData.int) := by
  refine ⟨fun x hx y hy => ?_, fun x hx => ?_⟩
  · obtain ⟨i, _, rfl⟩ := List.mem_map.mp hx
    obtain ⟨j, _, rfl⟩ := List.mem_map.mp hy
    rfl
  · obtain ⟨i, _, rfl⟩ := List.mem_map.mp hx
    exact fun z => nomatch z
theorem depth_ints : ∀ ns : List Int, PyData.depthAll (ns.map PyData.int) ≤ 1
  | [] => by simp [PyData.depthAll]
  | n :: ns => by
    have := depth_ints ns
    simp only [List.map_cons, PyData.depthAll, PyData.depth]
    omega
def RMinD (K : PySem.W.Frag) : List V → List V → Hp → VK → Prop := fun vs zs H Q => ∃ (a : Addr) (ns : List Int) (d : V), vs = [V.ref a] ∧ zs = [d] ∧ SqL K H a (ns.map V.int) ∧ match ns with
  | [] => Q d H
  | n :: r => Q (.int (r.foldl min n)) H
def RMinI (K : PySem.W.Frag) : List V → Hp → VK → Prop := fun vs H Q => ∃ (a : Addr) (n : Int) (r : List Int), vs = [V.ref a] ∧ SqL K H a ((n :: r).map V.int) ∧ Q (.int (r.foldl min n)) H
def RMaxI (K : PySem.W.Frag) : List V → Hp → VK → Prop := fun vs H Q => ∃ (a : Addr) (n : Int) (r : List Int), vs = [V.ref a] ∧ SqL K H a ((n :: r).map V.int) ∧ Q (.int (r.foldl max n)) H
section
variable {X : Cx}
theorem cr_minD (hc : X.calm = true) (hu : X.A.units + 8 < cLine) : CallRK X (.builtin "min") [("default" : Str)] (RMinD X.K) := by
  intro pins s σ H vs zs us ws Q I r r' h
  obtain ⟨a, ns, d, rfl, rfl, hs, q⟩ := h
  obtain ⟨u, rfl, ru⟩ := vals1 r
  obtain ⟨z, rfl, rz⟩ := vals1 r'
  cases ru
  obtain ⟨its, rv, hl, _⟩ := I.list hs
  obtain ⟨as, hr⟩ := reads_ints (h := s.heap) rv
  have dp := depth_ints ns
  refine PySem.W.min_list_default (l := a) (vs := its.toArray) (xs := ns.map PyData.int) (d := z) (I.ok.hd hc) hl.isList hr (alike_ints ns) (by omega) (fun e h' tk k => ?_) fun y ys i v h' tk bs e _ rd k => ?_
  · cases ns with
    | nil => exact ⟨d, H, I.kept k, rz, q⟩
    | cons n r => cases e
  · cases ns with
    | nil => cases e
    | cons n r =>
      rw [List.map_cons] at e
      obtain ⟨rfl, rfl⟩ := List.cons.inj e
      rw [PySem.W.minD_ints] at rd
      cases rd with
      | int _ t => exact ⟨.int (r.foldl min n), H, I.kept k, ⟨t, rfl⟩, q⟩
theorem cr_minI (hc : X.calm = true) (hu : X.A.units + 8 < cLine) : CallR X (.builtin "min") (RMinI X.K) := by
  intro pins s σ H vs us Q I r h
  obtain ⟨a, n, r', rfl, hs, q⟩ := h
  obtain ⟨u, rfl, ru⟩ := vals1 r
  cases ru
  obtain ⟨its, rv, hl, _⟩ := I.list hs
  obtain ⟨as, hr⟩ := reads_ints (h := s.heap) rv
  have dp := depth_ints (n :: r')
  refine PySem.W.min_list_data (l := a) (vs := its.toArray) (x := .int n) (xs := r'.map PyData.int) (I.ok.hd hc) hl.isList hr (alike_ints (n :: r')) (by simp only [List.map_cons] at dp; omega) fun i v h' tk bs _ rd k => ?_
  rw [PySem.W.minD_ints] at rd
  cases rd with
  | int _ t => exact ⟨.int (r'.foldl min n), H, I.kept k, ⟨t, rfl⟩, q⟩
theorem cr_maxI (hc : X.calm = true) (hu : X.A.units + 8 < cLine) : CallR X (.builtin "max") (RMaxI X.K) := by
  intro pins s σ H vs us Q I r h
  obtain ⟨a, n, r', rfl, hs, q⟩ := h
  obtain ⟨u, rfl, ru⟩ := vals1 r
  cases ru
  obtain ⟨its, rv, hl, _⟩ := I.list hs
  obtain ⟨as, hr⟩ := reads_ints (h := s.heap) rv
  have dp := depth_ints (n :: r')
  refine PySem.W.max_list_data (l := a) (vs := its.toArray) (x := .int n) (xs := r'.map PyData.int) (I.ok.hd hc) hl.isList hr (alike_ints (n :: r')) (by simp only [List.map_cons] at dp; omega) fun i v h' tk bs _ rd k => ?_
  rw [PySem.W.maxD_ints] at rd
  cases rd with
  | int _ t => exact ⟨.int (r'.foldl max n), H, I.kept k, ⟨t, rfl⟩, q⟩
def RRep (K : PySem.W.Frag) : List V → Hp → VK → Prop := fun vs H Q => ∃ v d, vs = [v] ∧ Dt K H v d ∧ reprC d ∧ Q (.str d.shown) H
theorem cr_repr (hg : X.A.guards = some []) (hu : X.A.units + 64 < cLine) : CallR X (.builtin "repr") (RRep X.K) := by
  intro pins s σ H vs us Q I r h
  obtain ⟨v, d, rfl, t, ⟨c1, c2, c3, c4⟩, q⟩ := h
  obtain ⟨u, rfl, ru⟩ := vals1 r
  obtain ⟨as, rd⟩ := Dt.reads I d v u t ru
  have big : ∀ {a : Addr}, u = .ref a → wpAny (model X.prog X.w) X.A (call (.builtin "repr") [u]) (EP X pins σ Q) X.xe s := fun {a} e => by
    subst e
    have hsm : d.hasDict = true → sysModules ∉ as := by
      rcases c4 with c4 | rfl
      · exact PyData.noDict_hsm c4
      · intro _
        cases t with
        | dic0 hs =>
          cases ru
          obtain ⟨_, hne, _⟩ := I.hok _ _ hs
          have hne : a ≠ sysModules := fun z => by rw [z] at hne; simp at hne
          cases rd with
          | dict ho hx hd hk hv =>
            have h1 := reads_nil hk
            have h2 := reads_nil hv
            subst h1 h2
            simpa using hne.symm
    exact repr_of_reads' rd c1 hsm hg (by omega) (fun _ _ e => e) (fun h' u tk k => ⟨.str d.shown, H, I.kept k, ⟨u, rfl⟩, q⟩) c2
  cases rd with
  | none => exact PySem.P.repr_of_none ⟨.str (PyData.shown .none), H, I.tok _, ⟨_, rfl⟩, q⟩
  | bool b => exact PySem.P.repr_of_bool ⟨.str (PyData.shown (.bool b)), H, I.tok _, ⟨_, by cases b <;> rfl⟩, q⟩
  | int i t => exact PySem.P.repr_of_int (by simpa [PyData.showable] using c1) ⟨.str (PyData.shown (.int i)), H, I.tok _, ⟨_, rfl⟩, q⟩
  | str x t => exact PySem.P.repr_of_str (hsz := c2) ⟨.str (PyData.shown (.str x)), H, I.tok _, ⟨_, rfl⟩, q⟩
  | list => exact big rfl
  | tuple => exact big rfl
  | dict => exact big rfl
theorem p_minD {K : PySem.W.Frag} : Op2 K (fun x y H Q => RMinD K [x] [y] H Q) minDP := fun x y dx dy G H Φ Q e rx ry p o => by
  unfold minDP at p
  split at p
  · obtain ⟨a, ns, rfl, _, h, q⟩ := rd_ints e rx p
    refine ⟨a, ns, y, rfl, rfl, .of h, ?_⟩
    cases ns with
    | nil =>
      have o1 := o.val e q (.int _)
      rw [rd_int ry]
      exact o1
    | cons n r => exact o.val e q (.int _)
  · exact p.elim
theorem p_minI {K : PySem.W.Frag} : Op1 K (fun x H Q => RMinI K [x] H Q) minP := fun x dx G H Φ Q e rx p o => by
  obtain ⟨a, ns, rfl, _, h, q⟩ := rd_ints e rx p
  cases ns with
  | nil => exact q.elim
  | cons n r => exact ⟨a, n, r, rfl, .of h, o.val e q (.int _)⟩
theorem p_maxI {K : PySem.W.Frag} : Op1 K (fun x H Q => RMaxI K [x] H Q) maxP := fun x dx G H Φ Q e rx p o => by
  obtain ⟨a, ns, rfl, _, h, q⟩ := rd_ints e rx p
  cases ns with
  | nil => exact q.elim
  | cons n r => exact ⟨a, n, r, rfl, .of h, o.val e q (.int _)⟩
theorem p_repr {K : PySem.W.Frag} : Op1 K (fun x H Q => RRep K [x] H Q) reprP := fun x dx G H Φ Q e rx p o => ⟨x, dx, rfl, rx.now e, p.1, o.val e p.2 (.str _)⟩
theorem call_tupN : CallR X (.type "tuple") (RTup X.K) := by
  intro pins s σ H xs us Q I r h
  obtain ⟨p, ys, rfl, h⟩ := h
  obtain ⟨u, rfl, rx⟩ := vals1 r
  cases rx
  rcases h with ⟨hq, q⟩ | ⟨hq, q⟩
  · obtain ⟨its, r', pl, hz⟩ := I.list hq
    have hlen := r'.length
    refine PySem.call_tuple_list pl.isList (fun h' kp => ?_) (by simp only [List.size_toArray] <;> omega)
    have I1 : Inv X pins σ H { s with heap := h' } := I.kept (t' := s.toks) kp
    exact laid_tup I1 hz r' q
  · obtain ⟨its, r', pl, hz⟩ := I.tuple hq
    exact PySem.call_tuple_same pl ⟨.ref p, H, I, rfl, q⟩
variable {e ed a b : Expr} {f fd fa fb : DF} {p pos kp : Pos} {x : Str}
/-- f(e), f(e, e2): f a built-in -/
theorem de_b1 {id : String} {r : List V → Hp → VK → Prop} {P : PyData → (Hd → Prop) → Prop} (hc : CallR X (.builtin id) r) (hd : Op1 X.K (fun x H Q => r [x] H Q) P) (hm : X.mg x = none) (hv : bootBuiltins x = some (.builtin id)) (he : PE X e (dE X.K f)) (hg : Gl X x := by rfl) (hn : x ≠ "__name__" := by decide) (hdb : (x == ("__debug__" : Str)) = false := by decide)
    (h1 : starEach [e] X.env = (false, eval e X.env) :: starEach [] X.env := by rfl) (hpl : (backTo pos (starEach [] X.env)).any (·.1) = false := by rfl) : PE X (.Call (.Name x p) [e] [] pos) (dE X.K (unF P f)) :=
  PEw (pe_callB hc hg hm hv (pa_cons he pa_nil h1) hn hdb h1 hpl) (r_c1 hd)
theorem de_ty1 {T : String} {r : List V → Hp → VK → Prop} {P : PyData → (Hd → Prop) → Prop} (hc : CallR X (.type T) r) (hd : Op1 X.K (fun x H Q => r [x] H Q) P) (hm : X.mg x = none) (hv : bootBuiltins x = some (.type T)) (he : PE X e (dE X.K f)) (hg : Gl X x := by rfl) (hn : x ≠ "__name__" := by decide) (hdb : (x == ("__debug__" : Str)) = false := by decide)
    (h1 : starEach [e] X.env = (false, eval e X.env) :: starEach [] X.env := by rfl) (hpl : (backTo pos (starEach [] X.env)).any (·.1) = false := by rfl) : PE X (.Call (.Name x p) [e] [] pos) (dE X.K (unF P f)) :=
  PEw (pe_callTy hc hg hm hv (pa_cons he pa_nil h1) hn hdb h1 hpl) (r_c1 hd)
theorem de_len (hm : X.mg "len" = none) (he : PE X e (dE X.K f)) (hg : Gl X "len" := by rfl) (h1 : starEach [e] X.env = (false, eval e X.env) :: starEach [] X.env := by rfl) (hpl : (backTo pos (starEach [] X.env)).any (·.1) = false := by rfl) : PE X (.Call (.Name "len" p) [e] [] pos) (dE X.K (unF lenP f)) :=
  de_b1 (r := RLen X.K) call_len_seq p_len hm PySem.boot_len he hg (by decide) (by decide) h1 hpl
theorem de_sum (hc : X.calm = true) (hm : X.mg "sum" = none) (he : PE X e (dE X.K f)) (hg : Gl X "sum" := by rfl) (h1 : starEach [e] X.env = (false, eval e X.env) :: starEach [] X.env := by rfl) (hpl : (backTo pos (starEach [] X.env)).any (·.1) = false := by rfl) : PE X (.Call (.Name "sum" p) [e] [] pos) (dE X.K (unF sumP f)) :=
  de_b1 (cr_sum hc) p_sum hm PyProof.Rows.boot_sum he hg (by decide) (by decide) h1 hpl
theorem de_all (hc : X.calm = true) (hm : X.mg "all" = none) (he : PE X e (dE X.K f)) (hg : Gl X "all" := by rfl) (h1 : starEach [e] X.env = (false, eval e X.env) :: starEach [] X.env := by rfl) (hpl : (backTo pos (starEach [] X.env)).any (·.1) = false := by rfl) : PE X (.Call (.Name "all" p) [e] [] pos) (dE X.K (unF allP f)) :=
  de_b1 (cr_all hc) p_all hm PyProof.Rows.boot_all he hg (by decide) (by decide) h1 hpl
theorem de_any (hc : X.calm = true) (hm : X.mg "any" = none) (he : PE X e (dE X.K f)) (hg : Gl X "any" := by rfl) (h1 : starEach [e] X.env = (false, eval e X.env) :: starEach [] X.env := by rfl) (hpl : (backTo pos (starEach [] X.env)).any (·.1) = false := by rfl) : PE X (.Call (.Name "any" p) [e] [] pos) (dE X.K (unF anyP f)) :=
  de_b1 (cr_any hc) p_any hm PyProof.Rows.boot_any he hg (by decide) (by decide) h1 hpl
theorem de_abs (hm : X.mg "abs" = none) (he : PE X e (dE X.K f)) (hg : Gl X "abs" := by rfl) (h1 : starEach [e] X.env = (false, eval e X.env) :: starEach [] X.env := by rfl) (hpl : (backTo pos (starEach [] X.env)).any (·.1) = false := by rfl) : PE X (.Call (.Name "abs" p) [e] [] pos) (dE X.K (unF absP f)) :=
  de_b1 (r := RAbs) call_abs p_abs hm PyProof.Rows.boot_abs he hg (by decide) (by decide) h1 hpl
theorem de_min (hc : X.calm = true) (hu : X.A.units + 8 < cLine) (hm : X.mg "min" = none) (he : PE X e (dE X.K f)) (hg : Gl X "min" := by rfl) (h1 : starEach [e] X.env = (false, eval e X.env) :: starEach [] X.env := by rfl) (hpl : (backTo pos (starEach [] X.env)).any (·.1) = false := by rfl) : PE X (.Call (.Name "min" p) [e] [] pos) (dE X.K (unF minP f)) :=
  de_b1 (cr_minI hc hu) p_minI hm PyProof.Rows.boot_min he hg (by decide) (by decide) h1 hpl
theorem de_max (hc : X.calm = true) (hu : X.A.units + 8 < cLine) (hm : X.mg "max" = none) (he : PE X e (dE X.K f)) (hg : Gl X "max" := by rfl) (h1 : starEach [e] X.env = (false, eval e X.env) :: starEach [] X.env := by rfl) (hpl : (backTo pos (starEach [] X.env)).any (·.1) = false := by rfl) : PE X (.Call (.Name "max" p) [e] [] pos) (dE X.K (unF maxP f)) :=
  de_b1 (cr_maxI hc hu) p_maxI hm PyProof.Rows.boot_max he hg (by decide) (by decide) h1 hpl
theorem de_repr (hgd : X.A.guards = some []) (hu : X.A.units + 64 < cLine) (hm : X.mg "repr" = none) (he : PE X e (dE X.K f)) (hg : Gl X "repr" := by rfl) (h1 : starEach [e] X.env = (false, eval e X.env) :: starEach [] X.env := by rfl) (hpl : (backTo pos (starEach [] X.env)).any (·.1) = false := by rfl) : PE X (.Call (.Name "repr" p) [e] [] pos) (dE X.K (unF reprP f)) :=
  de_b1 (cr_repr hgd hu) p_repr hm PyProof.Rows.boot_repr he hg (by decide) (by decide) h1 hpl
theorem de_toTup (hm : X.mg "tuple" = none) (he : PE X e (dE X.K f)) (hg : Gl X "tuple" := by rfl) (h1 : starEach [e] X.env = (false, eval e X.env) :: starEach [] X.env := by rfl) (hpl : (backTo pos (starEach [] X.env)).any (·.1) = false := by rfl) : PE X (.Call (.Name "tuple" p) [e] [] pos) (dE X.K (unF toTupP f)) :=
  de_ty1 (r := RTup X.K) call_tupN p_toTup hm PyProof.Rows.boot_tuple he hg (by decide) (by decide) h1 hpl
theorem de_toLst (hm : X.mg "list" = none) (he : PE X e (dE X.K f)) (hg : Gl X "list" := by rfl) (h1 : starEach [e] X.env = (false, eval e X.env) :: starEach [] X.env := by rfl) (hpl : (backTo pos (starEach [] X.env)).any (·.1) = false := by rfl) : PE X (.Call (.Name "list" p) [e] [] pos) (dE X.K (unF toLstP f)) :=
  de_ty1 (r := RLst X.K) call_list_of p_toLst hm PyProof.Rows.boot_list he hg (by decide) (by decide) h1 hpl
theorem de_toInt (hm : X.mg "int" = none) (he : PE X e (dE X.K f)) (hg : Gl X "int" := by rfl) (h1 : starEach [e] X.env = (false, eval e X.env) :: starEach [] X.env := by rfl) (hpl : (backTo pos (starEach [] X.env)).any (·.1) = false := by rfl) : PE X (.Call (.Name "int" p) [e] [] pos) (dE X.K (unF toIntP f)) :=
  de_ty1 (r := RInt) call_int1 p_toInt hm PyProof.Rows.boot_int he hg (by decide) (by decide) h1 hpl
theorem de_gcd (hm : X.mg x = some (.builtin "math.gcd")) (ha : PE X a (dE X.K fa)) (hb : PE X b (dE X.K fb)) (hg : Gl X x := by rfl) (hdb : (x == ("__debug__" : Str)) = false := by decide)
    (h1 : starEach [a, b] X.env = (false, eval a X.env) :: starEach [b] X.env := by rfl) (h2 : starEach [b] X.env = (false, eval b X.env) :: starEach [] X.env := by rfl) (hpl : (backTo pos (starEach [b] X.env)).any (·.1) = false := by rfl) : PE X (.Call (.Name x p) [a, b] [] pos) (dE X.K (opF gcdP fa fb)) :=
  PEw (pe_callBfun cr_gcd hg hm (pa_cons ha (pa_cons hb pa_nil h2) h1) hdb h1 hpl) (r_c2 p_gcd)
theorem de_minD (hc : X.calm = true) (hu : X.A.units + 8 < cLine) (hm : X.mg "min" = none) (he : PE X e (dE X.K f)) (hd : PE X ed (dE X.K fd)) (hg : Gl X "min" := by rfl) (h1 : starEach [e] X.env = (false, eval e X.env) :: starEach [] X.env := by rfl)
    (h2 : backTo pos (starEach [e] X.env) = (false, eval e X.env) :: backTo pos (starEach [] X.env) := by rfl) (hpl : (backTo pos (starEach [e] X.env)).any (·.1) = false := by rfl)
    (h3 : (backToKw pos (keywordEach [⟨some "default", ed, kp⟩] X.env)).all (·.1.isSome) = true := by rfl) (h4 : (backToKw pos (keywordEach [⟨some "default", ed, kp⟩] X.env)).any (·.1.isNone) = false := by rfl) (h5 : (backToKw pos (keywordEach [⟨some "default", ed, kp⟩] X.env)).filterMap (·.1) = [("default" : Str)] := by rfl) :
    PE X (.Call (.Name "min" p) [e] [⟨some "default", ed, kp⟩] pos) (dE X.K (opF minDP f fd)) :=
  PEw (pe_callBK (cr_minD hc hu) hg hm PyProof.Rows.boot_min (pa_cons he pa_nil h1) (pk_cons hd pk_nil) (by decide) (by decide) h2 hpl h3 h4 h5) (r_op p_minD)
end
end Dat


set_option Elab.async false
set_option linter.all false
set_option maxRecDepth 100000
set_option maxHeartbeats 4000000
/-! DatJ: enumerate, zip by data. -/
namespace Dat
open PySem L2

def itEn (fl : LF) : IF := fun ρ Φ => fl ρ fun ds ρ1 => match ds with
  | [d] => seqP d fun xs => Φ .free (enumD 0 xs) ρ1
  | _ => False
def itZip (fl : LF) : IF := fun ρ Φ => fl ρ fun ds ρ1 => match ds with
  | [d, e] => seqP d fun xs => seqP e fun ys => Φ .free (zipD xs ys) ρ1
  | _ => False
section
variable {K : PySem.W.Frag} {B : Hp × Hp} {S : Sr} {ρ ρ' ρ1 ρ2 : Rho} {σ σ' : St} {G H G' H' G1 H1 G2 H2 : Hp}
theorem dt_seqA {v : V} {d : PyData} {k : List PyData → Prop} (t : Dt K G v d) (p : seqP d k) : ∃ a vs ds ka, v = .ref a ∧ SqA K G a vs ka ∧ DtAll K G vs ds ∧ k ds := by
  unfold seqP at p
  split at p
  · cases t with
    | lst hs ta => exact ⟨_, _, _, false, rfl, SqL.of hs, ta, p⟩
  · cases t with
    | tup hs ta => exact ⟨_, _, _, true, rfl, hs.t, ta, p⟩
  · exact p.elim
theorem Same.seqA {a : Addr} {xs : List V} (e : Same G H) : ∀ {k}, SqA K G a xs k → SqA K H a xs k
  | true, h => Same.seqT e h
  | false, h => e.seq h
theorem vals_1 {vs : List V} {d : PyData} (t : DtAll K G vs [d]) : ∃ v, vs = [v] ∧ Dt K G v d := by
  cases t with
  | cons t1 t2 => cases t2; exact ⟨_, rfl, t1⟩
theorem vals_2 {vs : List V} {d e : PyData} (t : DtAll K G vs [d, e]) : ∃ v u, vs = [v, u] ∧ Dt K G v d ∧ Dt K G u e := by
  cases t with
  | cons t1 t2 =>
    obtain ⟨u, rfl, t3⟩ := vals_1 t2
    exact ⟨_, _, rfl, t1, t3⟩
end
section
variable {X : Cx} {e e2 : Expr} {fl : LF} {p pos tpos : Pos} {elts : List Expr} {kk : Nat}
theorem di_enum (hm : X.mg "enumerate" = none) (ha : PA X [e] (dL X.K fl)) (hg : Gl X "enumerate" := by rfl) (hs : starEach [e] X.env = [(false, eval e X.env)] := by rfl) :
    PI X (.Tuple elts kk tpos) (.Call (.Name "enumerate" p) [e] [] pos) (dI X.K true (itEn fl)) :=
  PIw (pi_enum2 hg hm ha hs) fun σ H R ⟨B, S, ρ, G, Φ, g, q, k⟩ => ⟨B, S, ρ, G, _, g, q, fun ds vs ρ1 G1 H1 f1 g1 s1 t1 => by
    split at f1
    · obtain ⟨v, rfl, t⟩ := vals_1 t1
      obtain ⟨a, us, xs, ka, rfl, hs, ta, q1⟩ := dt_seqA t f1
      refine ⟨a, us, ka, rfl, Same.seqA g1.ing hs, k _ _ ρ1 G1 H1 _ q1 g1 s1 ?_⟩
      refine it_pair walk_enum2 (by rw [enumD_len, ta.length]) (fun ρ σ' G H g e _ _ => Same.seqA g.ing (Same.seqA e hs)) fun i x y ρ σ' G H g e _ _ hx hy => ?_
      obtain ⟨d, h1, h2⟩ := ta.getV hy
      cases hx
      refine ⟨_, _, enumD_get 0 xs i d h1, ?_, Dt.mono e d h2⟩
      rw [Int.zero_add]; exact .int _
    · exact f1.elim⟩
theorem di_zip (hm : X.mg "zip" = none) (ha : PA X [e, e2] (dL X.K fl)) (hg : Gl X "zip" := by rfl)
    (hs : starEach [e, e2] X.env = (false, eval e X.env) :: starEach [e2] X.env := by rfl) (hpl : (backTo pos (starEach [e2] X.env)).any (·.1) = false := by rfl) :
    PI X (.Tuple elts kk tpos) (.Call (.Name "zip" p) [e, e2] [] pos) (dI X.K true (itZip fl)) :=
  PIw (pi_zip2 hg hm ha hs hpl) fun σ H R ⟨B, S, ρ, G, Φ, g, q, k⟩ => ⟨B, S, ρ, G, _, g, q, fun ds vs ρ1 G1 H1 f1 g1 s1 t1 => by
    split at f1
    · obtain ⟨v, u, rfl, tv, tu⟩ := vals_2 t1
      obtain ⟨a, us, xs, ka, rfl, hs, ta, q1⟩ := dt_seqA tv f1
      obtain ⟨b, ws, ys, kb, rfl, hs2, tb, q2⟩ := dt_seqA tu q1
      refine ⟨a, b, us, ws, ka, kb, rfl, Same.seqA g1.ing hs, Same.seqA g1.ing hs2, k _ _ ρ1 G1 H1 _ q2 g1 s1 ?_⟩
      refine it_pair walk_zip2 (by rw [zipD_len, ta.length, tb.length]) (fun ρ σ' G H g e _ _ => ⟨Same.seqA g.ing (Same.seqA e hs), Same.seqA g.ing (Same.seqA e hs2)⟩) fun i x y ρ σ' G H g e _ _ hx hy => ?_
      obtain ⟨d, h1, h2⟩ := ta.getV hx
      obtain ⟨d', h3, h4⟩ := tb.getV hy
      exact ⟨_, _, zipD_get xs ys i d d' h1 h3, Dt.mono e d h2, Dt.mono e d' h4⟩
    · exact f1.elim⟩
end
end Dat


set_option Elab.async false
set_option linter.all false
set_option maxRecDepth 100000
set_option maxHeartbeats 4000000
/-! DatK: what the printed walks name; plain lemmas of walks. -/
namespace Dat
open PySem L2

theorem okC {N : List Str} {sc scope : Scope} {own : List (Str × Nat)} (h : blkC N sc scope own = true) : blkC N sc scope own = true := h
structure Cal (P : Program) (w : World) (K : PySem.W.Frag) (mg : Str → Option Value) (base : Heap) (k : Nat) (x : Str) (n : Nat) (C : CF) : Prop where
  ex : ∃ f fd ps, FnOk P w K mg base CX0 k f fd ps (spD K n C) ∧ mg x = some (.ref f) ∧ PySem.W.keepIn K (.ref f) = true ∧ Binds K fd ps []
theorem Cal.mono {P : Program} {w : World} {K : PySem.W.Frag} {mg : Str → Option Value} {base : Heap} {k j n : Nat} {x : Str} {C : CF} (c : Cal P w K mg base k x n C) (h : k ≤ j) : Cal P w K mg base j x n C := by
  obtain ⟨f, fd, ps, h1, h2⟩ := c.ex
  exact ⟨f, fd, ps, h1.mono h, h2⟩
def callC (n : Nat) (C : CF) (F : AF) : DF := callF (fun as Φ => as.length = n ∧ C as Φ) F
theorem de_callC {X : Cx} {e : Expr} {es : List Expr} {pos p : Pos} {F : AF} {k n : Nat} {x : Str} {C : CF} (c : Cal X.prog X.w X.K X.mg X.base k x n C) (hr : Room k X.A) (hl : (e :: es).length = n) (ha : PA X (e :: es) (dA X.K F)) (hg : Gl X x := by rfl) (hdb : (x == ("__debug__" : Str)) = false := by decide)
    (he : starEach (e :: es) X.env = (false, eval e X.env) :: starEach es X.env := by rfl) (hpl : (backTo pos (starEach es X.env)).any (·.1) = false := by rfl) : PE X (.Call (.Name x p) (e :: es) [] pos) (dE X.K (callC n C F)) := by
  obtain ⟨f, fd, ps, h1, h2, h3, h4⟩ := c.ex
  exact de_call h1 hr h2 h3 h4 hl ha hg hdb he hpl
def callS (q n : Nat) (C : CF) (F : AF) : DF := callFs q (fun as Φ => as.length = n ∧ C as Φ) F
theorem de_callSC (q : Nat) {X : Cx} {e : Expr} {es : List Expr} {pos p : Pos} {F : AF} {k n : Nat} {x : Str} {C : CF} (c : Cal X.prog X.w X.K X.mg X.base k x n C) (hr : Room k X.A) (hl : (e :: es).length = n) (ha : PA X (e :: es) (dA X.K F)) (hg : Gl X x := by rfl) (hdb : (x == ("__debug__" : Str)) = false := by decide)
    (he : starEach (e :: es) X.env = (false, eval e X.env) :: starEach es X.env := by rfl) (hpl : (backTo pos (starEach es X.env)).any (·.1) = false := by rfl) : PE X (.Call (.Name x p) (e :: es) [] pos) (dE X.K (callS q n C F)) := by
  obtain ⟨f, fd, ps, h1, h2, h3, h4⟩ := c.ex
  exact de_callS q h1 hr h2 h3 h4 hl ha hg hdb he hpl
theorem _root_.L2.Room.u65 {k : Nat} {A : Around} (r : Room k A) : A.units + 65 < cLine := by have := r.un; omega
theorem _root_.L2.Room.u8 {k : Nat} {A : Around} (r : Room k A) : A.units + 8 < cLine := by have := r.un; omega
abbrev itR1 (fl : LF) : IF := itR fun ρ Φ => fl ρ fun ds ρ1 => ds.length = 1 ∧ Φ ds ρ1
abbrev itR2 (fl : LF) : IF := itR fun ρ Φ => fl ρ fun ds ρ1 => ds.length = 2 ∧ Φ ds ρ1
def vandF (fa fb : DF) : DF := fun ρ Φ => fa ρ fun h ρ1 => boolP h fun t => brP t (fb ρ1 Φ) (Φ (.val (.bool false)) ρ1)
def vorF (fa fb : DF) : DF := fun ρ Φ => fa ρ fun h ρ1 => boolP h fun t => brP t (Φ (.val (.bool true)) ρ1) (fb ρ1 Φ)
def vnotF (fa : DF) : DF := fun ρ Φ => fa ρ fun h ρ1 => boolP h fun t => Φ (.val (.bool (!t))) ρ1

/-! ### plain: comprehensions -/
/-- any outcomes: R x d, the slots outside as they were -/
theorem cmp_rel0 {α : Type} {c : Cond} {bd : GF} {tt : BF} {elt : DF} {vs : List Nat} {ρ0 : Rho} {enc : α → PyData} {R : α → Option PyData → Prop} (hok : c.ok ρ0) : ∀ (ys : List α)
    (step : ∀ y ∈ ys, ∀ N : Option PyData → Rho → Prop, (∀ o, R y o → N o ρ0) → bd (enc y) ρ0 fun ρ1 => tt ρ1 fun b ρ2 => brP b (elt ρ2 fun h ρ3 => datOf h ρ3 fun d ρ4 => N (some d) (clr vs ρ4)) (N none (clr vs ρ2)))
    (acc : List PyData) (Φ : List PyData → Rho → Prop) (_ : ∀ os : List (Option PyData), os.length = ys.length → (∀ (i : Nat) y o, ys[i]? = some y → os[i]? = some o → R y o) → Φ (acc ++ os.filterMap id) ρ0), cmp c bd tt elt vs (ys.map enc) acc ρ0 Φ
  | [], _, acc, Φ, h => ⟨hok, by simpa using h [] rfl (by simp)⟩
  | y :: ys, step, acc, Φ, h => by
    refine ⟨hok, ?_⟩
    have rest := fun (o : Option PyData) (ro : R y o) (acc' : List PyData) (ea : acc' = acc ++ [o].filterMap id) => cmp_rel0 (R := R) hok ys (fun z hz => step z (List.mem_cons_of_mem _ hz)) acc' Φ fun os hl ho => by
      have := h (o :: os) (by simp [hl]) fun i z p hz hp => by
        cases i with
        | zero => simp at hz hp; subst hz hp; exact ro
        | succ i => exact ho i z p (by simpa using hz) (by simpa using hp)
      rw [ea]
      cases o <;> simpa using this
    refine step y (List.mem_cons_self ..) (fun o ρ => match o with | some d => cmp c bd tt elt vs (ys.map enc) (acc ++ [d]) ρ Φ | none => cmp c bd tt elt vs (ys.map enc) acc ρ Φ) fun o ro => ?_
    cases o with
    | some d => exact rest (some d) ro (acc ++ [d]) (by simp)
    | none => exact rest none ro acc (by simp)
theorem cmp_rel {α : Type} {c : Cond} {bd : GF} {tt : BF} {elt : DF} {vs : List Nat} {ρ0 : Rho} {enc : α → PyData} (R : α → Option PyData → Prop) (ys : List α) {acc : List PyData} {Φ : List PyData → Rho → Prop}
    (step : ∀ y ∈ ys, ∀ N : Option PyData → Rho → Prop, (∀ o, R y o → N o ρ0) → bd (enc y) ρ0 fun ρ1 => tt ρ1 fun b ρ2 => brP b (elt ρ2 fun h ρ3 => datOf h ρ3 fun d ρ4 => N (some d) (clr vs ρ4)) (N none (clr vs ρ2)))
    (h : ∀ os : List (Option PyData), os.length = ys.length → (∀ (i : Nat) y o, ys[i]? = some y → os[i]? = some o → R y o) → Φ (acc ++ os.filterMap id) ρ0) (hok : c.ok ρ0 := by first | exact trivial | exact rfl) : cmp c bd tt elt vs (ys.map enc) acc ρ0 Φ := cmp_rel0 hok ys step acc Φ h
/-- the outcome of each is told -/
theorem cmp_fm {α : Type} {c : Cond} {bd : GF} {tt : BF} {elt : DF} {vs : List Nat} {ρ0 : Rho} {enc : α → PyData} (out : α → Option PyData) (ys : List α) {acc : List PyData} {Φ : List PyData → Rho → Prop}
    (step : ∀ y ∈ ys, ∀ N : Option PyData → Rho → Prop, N (out y) ρ0 → bd (enc y) ρ0 fun ρ1 => tt ρ1 fun b ρ2 => brP b (elt ρ2 fun h ρ3 => datOf h ρ3 fun d ρ4 => N (some d) (clr vs ρ4)) (N none (clr vs ρ2)))
    (h : Φ (acc ++ ys.filterMap out) ρ0) (hok : c.ok ρ0 := by first | exact trivial | exact rfl) : cmp c bd tt elt vs (ys.map enc) acc ρ0 Φ :=
  cmp_rel0 (R := fun y o => o = out y) hok ys (fun y hy N hN => step y hy N (hN _ rfl)) acc Φ fun os hl ho => by
    have : os = ys.map out := by
      apply List.ext_getElem?
      intro i
      rw [List.getElem?_map]
      cases e : ys[i]? with
      | none =>
        show os[i]? = none
        rw [List.getElem?_eq_none_iff] at e ⊢; omega
      | some y =>
        have hi := (List.getElem?_eq_some_iff.mp e).1
        have ho' := ho i y _ e (List.getElem?_eq_getElem (by omega))
        rw [List.getElem?_eq_getElem (by omega), ho']; rfl
    rw [this, List.filterMap_map]
    exact h
theorem cmp_map {α : Type} {c : Cond} {bd : GF} {elt : DF} {vs : List Nat} {ρ0 : Rho} {enc : α → PyData} (f : α → PyData) (ys : List α) {acc : List PyData} {Φ : List PyData → Rho → Prop}
    (step : ∀ y ∈ ys, ∀ N : Option PyData → Rho → Prop, N (some (f y)) ρ0 → bd (enc y) ρ0 fun ρ1 => brP true (elt ρ1 fun h ρ3 => datOf h ρ3 fun d ρ4 => N (some d) (clr vs ρ4)) (N none (clr vs ρ1)))
    (h : Φ (acc ++ ys.map f) ρ0) (hok : c.ok ρ0 := by first | exact trivial | exact rfl) : cmp c bd yesF elt vs (ys.map enc) acc ρ0 Φ :=
  cmp_fm (out := fun y => some (f y)) ys (fun y hy N hN => step y hy N hN) (by simpa using h) hok
/-- each yields something -/
theorem cmp_each {α : Type} {c : Cond} {bd : GF} {elt : DF} {vs : List Nat} {ρ0 : Rho} {enc : α → PyData} (R : α → PyData → Prop) (ys : List α) {acc : List PyData} {Φ : List PyData → Rho → Prop}
    (step : ∀ y ∈ ys, ∀ N : Option PyData → Rho → Prop, (∀ d, R y d → N (some d) ρ0) → bd (enc y) ρ0 fun ρ1 => brP true (elt ρ1 fun h ρ3 => datOf h ρ3 fun d ρ4 => N (some d) (clr vs ρ4)) (N none (clr vs ρ1)))
    (h : ∀ ds : List PyData, ds.length = ys.length → (∀ (i : Nat) y d, ys[i]? = some y → ds[i]? = some d → R y d) → Φ (acc ++ ds) ρ0) (hok : c.ok ρ0 := by first | exact trivial | exact rfl) : cmp c bd yesF elt vs (ys.map enc) acc ρ0 Φ :=
  cmp_rel0 (R := fun y o => ∃ d, o = some d ∧ R y d) hok ys (fun y hy N hN => step y hy N fun d rd => hN _ ⟨d, rfl, rd⟩) acc Φ fun os hl ho => by
    have all : ∀ o ∈ os, ∃ d, o = some d := fun o hm => by
      obtain ⟨i, hi, e⟩ := List.mem_iff_getElem.mp hm
      obtain ⟨d, e2, _⟩ := ho i ys[i] o (List.getElem?_eq_getElem (by omega)) (by rw [List.getElem?_eq_getElem hi, e])
      exact ⟨d, e2⟩
    have : ∃ ds : List PyData, os = ds.map some := by
      clear ho hl
      induction os with
      | nil => exact ⟨[], rfl⟩
      | cons o os ih =>
        obtain ⟨d, rfl⟩ := all o (List.mem_cons_self ..)
        obtain ⟨ds, rfl⟩ := ih fun o hm => all o (List.mem_cons_of_mem _ hm)
        exact ⟨d :: ds, rfl⟩
    obtain ⟨ds, rfl⟩ := this
    have e : (ds.map some).filterMap id = ds := by simp [List.filterMap_map]
    rw [e]
    exact h ds (by simpa using hl) fun i y d hy hd => by
      obtain ⟨d', e1, e2⟩ := ho i y (some d) hy (by simp [hd])
      cases e1; exact e2
theorem clr_at : ∀ (vs : List Nat) (ρ : Rho) (i : Nat), (clr vs ρ)[i]? = if i ∈ vs then ρ[i]?.map fun _ => Slot.un else ρ[i]?
  | [], ρ, i => by simp [clr]
  | v :: vs, ρ, i => by
    unfold clr
    by_cases h : v = i
    · subst h
      rw [if_pos (List.mem_cons_self ..)]
      by_cases hl : v < ρ.length
      · rw [List.getElem?_set_self (by rw [clr_len]; exact hl), List.getElem?_eq_getElem hl]; rfl
      · rw [List.getElem?_eq_none (by rw [List.length_set, clr_len]; omega), List.getElem?_eq_none (by omega)]; rfl
    · rw [List.getElem?_set_ne h, clr_at vs ρ i]
      have : i ∈ v :: vs ↔ i ∈ vs := by simp [Ne.symm h]
      by_cases h2 : i ∈ vs
      · rw [if_pos h2, if_pos (this.mpr h2)]
      · rw [if_neg h2, if_neg fun z => h2 (this.mp z)]
theorem clr_clr (vs : List Nat) (ρ : Rho) : clr vs (clr vs ρ) = clr vs ρ := by
  apply List.ext_getElem?
  intro i
  rw [clr_at vs (clr vs ρ), clr_at]
  split
  · cases ρ[i]? <;> rfl
  · rfl
/-- each yields something, the state goes on -/
theorem cmp_src {α : Type} {c : Cond} {bd : GF} {elt : DF} {vs : List Nat} {enc : α → PyData} (R : α → PyData → Prop) (hok : ∀ ρ, c.ok ρ) {Φ : List PyData → Rho → Prop} : ∀ (ys : List α) (ρf : Nat → Rho) (acc : List PyData)
    (_ : ∀ (i : Nat) y, ys[i]? = some y → ∀ N : Option PyData → Rho → Prop, (∀ d, R y d → N (some d) (ρf (i + 1))) → bd (enc y) (ρf i) fun ρ2 => brP true (elt ρ2 fun h ρ3 => datOf h ρ3 fun d ρ4 => N (some d) (clr vs ρ4)) (N none (clr vs ρ2)))
    (_ : ∀ ds : List PyData, ds.length = ys.length → (∀ (i : Nat) y d, ys[i]? = some y → ds[i]? = some d → R y d) → Φ (acc ++ ds) (ρf ys.length)), cmp c bd yesF elt vs (ys.map enc) acc (ρf 0) Φ
  | [], ρf, acc, _, h => ⟨hok _, by simpa using h [] rfl (by simp)⟩
  | y :: ys, ρf, acc, step, h => by
    refine ⟨hok _, ?_⟩
    refine step 0 y rfl (fun o ρ => match o with | some d => cmp c bd yesF elt vs (ys.map enc) (acc ++ [d]) ρ Φ | none => cmp c bd yesF elt vs (ys.map enc) acc ρ Φ) fun d rd => ?_
    exact cmp_src R hok ys (fun i => ρf (i + 1)) (acc ++ [d]) (fun i z hz N hN => step (i + 1) z (by simpa using hz) N hN) fun ds hl hd => by
      have := h (d :: ds) (by simp [hl]) fun i z e hz he => by
        cases i with
        | zero => simp at hz he; subst hz he; exact rd
        | succ i => exact hd i z e (by simpa using hz) (by simpa using he)
      simpa using this
theorem br_t {A B : Prop} (h : A) : brP true A B := ⟨fun _ => h, fun z => nomatch z⟩
theorem br_f {A B : Prop} (h : B) : brP false A B := ⟨fun z => (nomatch z), fun _ => h⟩
theorem br_d {p A B : Prop} [Decidable p] (h1 : p → A) (h2 : ¬p → B) : brP (decide p) A B := ⟨fun z => h1 (of_decide_eq_true z), fun z => h2 (of_decide_eq_false z)⟩
theorem br_nd {p A B : Prop} [Decidable p] (h1 : ¬p → A) (h2 : p → B) : brP (!decide p) A B := ⟨fun z => h1 (by simpa using z), fun z => h2 (by simpa using z)⟩
theorem enumD_map {α : Type} (g : α → PyData) : ∀ (xs : List α) (k : Nat), enumD (k : Int) (xs.map g) = (xs.zipIdx k).map fun p => PyData.tuple [.int (p.2 : Int), g p.1]
  | [], k => rfl
  | x :: xs, k => by
    have := enumD_map g xs (k + 1)
    simp only [List.map_cons, enumD, List.zipIdx_cons]
    rw [← this]; rfl
theorem enumD_map0 {α : Type} (g : α → PyData) (xs : List α) : enumD 0 (xs.map g) = xs.zipIdx.map fun p => PyData.tuple [.int (p.2 : Int), g p.1] := enumD_map g xs 0
theorem zipD_map {α β : Type} (f : α → PyData) (g : β → PyData) : ∀ (xs : List α) (ys : List β), zipD (xs.map f) (ys.map g) = (xs.zip ys).map fun p => PyData.tuple [f p.1, g p.2]
  | [], _ => by simp [zipD]
  | _ :: _, [] => by simp [zipD]
  | x :: xs, y :: ys => by simp [zipD, zipD_map f g xs ys]
theorem small {n : Nat} (h : n ≤ 1000000) : n ≤ sizeLine := Nat.le_trans h (by decide)
/-! ### plain: for, while -/
theorem forP_ind {α : Type} {bd : GF} {body : SF} {k : Kont} {enc : α → PyData} (I : List α → Rho → Prop) (done : ∀ ρ, I [] ρ → k.nx ρ)
    (step : ∀ y r ρ, I (y :: r) ρ → ∀ N : Rho → Prop, (∀ ρ', I r ρ' → N ρ') → bd (enc y) ρ fun ρ1 => body ρ1 { nx := N, ct := N, bk := k.nx, rt := k.rt }) : ∀ (ys : List α) (ρ : Rho), I ys ρ → forP bd body (ys.map enc) ρ k
  | [], ρ, h => done ρ h
  | y :: ys, ρ, h => step y ys ρ h _ fun ρ' h' => forP_ind I done step ys ρ' h'
end Dat


set_option Elab.async false
set_option linter.all false
set_option maxRecDepth 100000
set_option maxHeartbeats 4000000
/-! DatS: texts compared; what repr can show. -/
namespace Dat
open PySem L2
def rStr2 (g : Str → Str → Bool) : R2 := fun x y H Q => ∃ s t, x = .str s ∧ y = .str t ∧ Q (.bl (g s t)) H
def eqSP (x y : PyData) (k : Hd → Prop) : Prop := match x, y with
  | .str s, .str t => k (.val (.bool (s == t)))
  | _, _ => False
def neSP (x y : PyData) (k : Hd → Prop) : Prop := match x, y with
  | .str s, .str t => k (.val (.bool (s != t)))
  | _, _ => False
section
variable {X : Cx} {K : PySem.W.Frag}
theorem o_eqS : OpR X (compareOp .Eq) (rStr2 (· == ·)) := by
  intro pins s σ H x y v u Q I rx ry ⟨a, b, e1, e2, q⟩
  subst e1 e2
  obtain ⟨t, rfl⟩ := rx
  obtain ⟨t', rfl⟩ := ry
  exact PyProof.Rows.eq_str ⟨.bl _, H, I, rfl, q⟩
theorem o_neS : OpR X (compareOp .NotEq) (rStr2 (· != ·)) := by
  intro pins s σ H x y v u Q I rx ry ⟨a, b, e1, e2, q⟩
  subst e1 e2
  obtain ⟨t, rfl⟩ := rx
  obtain ⟨t', rfl⟩ := ry
  exact PyProof.Rows.ne_str ⟨.bl _, H, I, rfl, q⟩
theorem p_eqS : Op2 K (rStr2 (· == ·)) eqSP := fun x y dx dy G H Φ Q e rx ry p o => by
  unfold eqSP at p
  split at p
  · exact ⟨_, _, rd_str rx, rd_str ry, o.val e p (.bl _)⟩
  · exact p.elim
theorem p_neS : Op2 K (rStr2 (· != ·)) neSP := fun x y dx dy G H Φ Q e rx ry p o => by
  unfold neSP at p
  split at p
  · exact ⟨_, _, rd_str rx, rd_str ry, o.val e p (.bl _)⟩
  · exact p.elim
end
/-! ### what can be shown -/
theorem rc_of {d : PyData} (h1 : d.showable = true) (h2 : d.leavesShort 1921 = true) (h3 : d.bulk ≤ 5000) (h4 : d.depth ≤ 60) (h5 : d.hasDict = false) : reprC d := by
  refine ⟨h1, ?_, h4, .inl h5⟩
  have := PyData.shown_le_bulk 1921 (by decide) d h2
  refine Nat.le_trans this ?_
  have h : (1921 + 2) * d.bulk ≤ (1921 + 2) * 5000 := Nat.mul_le_mul_left _ h3
  refine Nat.le_trans (Nat.add_le_add_right h _) (by decide)
theorem short_int {i : Int} (h : i.natAbs.log2 < 1920) : (PyData.int i).leavesShort 1921 = true := by
  have := int_text_length_le (k := 1920) (by decide) h
  simp only [PyData.leavesShort, decide_eq_true_eq]
  show (Str.ofString (toString i)).length ≤ 1921
  rw [ofString_length]; omega
theorem log_lt {i : Int} {B : Nat} (h : i.natAbs < 2 ^ B) (hB : B ≤ 1920) (h0 : 0 < B) : i.natAbs.log2 < 1920 := by
  by_cases z : i.natAbs = 0
  · rw [z]; decide
  · exact Nat.lt_of_lt_of_le ((Nat.log2_lt z).mpr h) hB
structure Rc (d : PyData) (b k : Nat) : Prop where
  show_ : d.showable = true
  short : d.leavesShort 1921 = true
  bulk : d.bulk ≤ b
  depth : d.depth ≤ k
  dict : d.hasDict = false
structure Rcs (ds : List PyData) (b k : Nat) : Prop where
  show_ : PyData.showableAll ds = true
  short : PyData.leavesShortAll 1921 ds = true
  bulk : PyData.bulkAll ds ≤ b
  depth : PyData.depthAll ds ≤ k
  dict : PyData.hasDictAll ds = false
theorem Rc.c {d : PyData} {b k : Nat} (r : Rc d b k) (hb : b ≤ 5000) (hk : k ≤ 60) : reprC d := rc_of r.show_ r.short (Nat.le_trans r.bulk hb) (Nat.le_trans r.depth hk) r.dict
theorem Rc.mono {d : PyData} {b k b' k' : Nat} (r : Rc d b k) (hb : b ≤ b') (hk : k ≤ k') : Rc d b' k' := ⟨r.show_, r.short, Nat.le_trans r.bulk hb, Nat.le_trans r.depth hk, r.dict⟩
theorem Rc.non : Rc .none 0 1 := ⟨rfl, by simp [PyData.leavesShort], by simp [PyData.bulk], by simp [PyData.depth], by simp [PyData.hasDict]⟩
theorem Rc.bool (b : Bool) : Rc (.bool b) 0 1 := ⟨rfl, by simp [PyData.leavesShort], by simp [PyData.bulk], by simp [PyData.depth], by simp [PyData.hasDict]⟩
theorem Rc.int {i : Int} (h : i.natAbs.log2 < 1920) : Rc (.int i) 0 1 := ⟨by simp [PyData.showable, h], short_int h, by simp [PyData.bulk], by simp [PyData.depth], by simp [PyData.hasDict]⟩
theorem Rcs.nil : Rcs [] 0 0 := ⟨by simp [PyData.showableAll], by simp [PyData.leavesShortAll], by simp [PyData.bulkAll], by simp [PyData.depthAll], by simp [PyData.hasDictAll]⟩
theorem Rcs.cons {d : PyData} {ds : List PyData} {b k b' k' : Nat} (r : Rc d b k) (rs : Rcs ds b' k') : Rcs (d :: ds) (b + 1 + b') (max k k') := by
  have h1 := r.bulk
  have h2 := rs.bulk
  have h3 := r.depth
  have h4 := rs.depth
  refine ⟨by simp [PyData.showableAll, r.show_, rs.show_], by simp [PyData.leavesShortAll, r.short, rs.short], ?_, ?_, by simp [PyData.hasDictAll, r.dict, rs.dict]⟩
  · simp only [PyData.bulkAll]; omega
  · simp only [PyData.depthAll]; omega
theorem Rcs.list {ds : List PyData} {b k : Nat} (r : Rcs ds b k) : Rc (.list ds) b (k + 1) := by
  have h3 := r.depth
  exact ⟨by simp [PyData.showable, r.show_], by simp [PyData.leavesShort, r.short], by simp [PyData.bulk, r.bulk], by simp only [PyData.depth]; omega, by simp [PyData.hasDict, r.dict]⟩
theorem Rcs.tuple {ds : List PyData} {b k : Nat} (r : Rcs ds b k) : Rc (.tuple ds) b (k + 1) := by
  have h3 := r.depth
  exact ⟨by simp [PyData.showable, r.show_], by simp [PyData.leavesShort, r.short], by simp [PyData.bulk, r.bulk], by simp only [PyData.depth]; omega, by simp [PyData.hasDict, r.dict]⟩
theorem Rcs.ints : ∀ (ns : List Int), (∀ i ∈ ns, i.natAbs.log2 < 1920) → Rcs (ns.map .int) ns.length 1
  | [], _ => ⟨by simp [PyData.showableAll], by simp [PyData.leavesShortAll], by simp [PyData.bulkAll], by simp [PyData.depthAll], by simp [PyData.hasDictAll]⟩
  | i :: ns, h => by
    have r := Rcs.cons (Rc.int (h i (List.mem_cons_self ..))) (Rcs.ints ns fun j hj => h j (List.mem_cons_of_mem _ hj))
    have e : 0 + 1 + ns.length = (i :: ns).length := by rw [List.length_cons]; omega
    rw [e] at r
    exact r
theorem Rcs.mono {ds : List PyData} {b k b' k' : Nat} (r : Rcs ds b k) (hb : b ≤ b') (hk : k ≤ k') : Rcs ds b' k' := ⟨r.show_, r.short, Nat.le_trans r.bulk hb, Nat.le_trans r.depth hk, r.dict⟩
end Dat


set_option Elab.async false
set_option linter.all false
set_option maxRecDepth 100000
set_option maxHeartbeats 4000000
/-! DatT: a law's own def at the caller's place, where no repr is under way. -/
namespace Dat
open PySem L2
/-- one call of a def, at one place -/
theorem fn_here {P : Program} {w : World} {K : PySem.W.Frag} {mg : Str → Option Value} {base : Heap} {x qual : Str} {stm : Stmt} {f : Addr} {fd : FuncData} {N ps : List Str} {k : Nat} (F : Fun K x qual stm f fd) (S : FnScope N ps (defScope stm))
    {A : Around} {outer : List PySem.Env} {s : Shared} {H : Hp} {args : Args} {us : List Value} {vs : List V} {Q : VK} (hlen : vs.length = ps.length) (hr : Room (k + 1) A) (e0 : Env0 P w K mg base A outer s H) (hbt : BindsTo s fd args (ps.zip us)) (rv : Vals vs us)
    (hb : ∀ cdv : Value, Room k (A.deeper (PyProof.Rows.envOfC qual (defScope stm) s.heap.objs.size f cdv)) → ∃ t, PSs (cxOf CX0 P w K mg base N qual (defScope stm) f cdv A outer s H E0) (defBody stm) t ∧ t { nx := fun _ H' => Q .non H', rt := Q } (L2.start N vs) H) :
    codeAny (model P w) A (.call (.ref f) args) (CR CX0 outer P w H s Q E0) s := by
  obtain ⟨oc, od, kV, doc, pm, an, cdv, ct, osl, rfl, lk, hcd⟩ := F.ex
  have hbase : ∀ b o, base.get? b = some o → s.heap.get? b = some o := fun b o q => (e0.bs b o q).1
  have KX : K.In s.heap := e0.mod.kin.keeps hbase
  have kinds : ∀ y ∈ ps.zip us, (defScope stm).names.lookup y.1 = some .local ∨ ((defScope stm).names.lookup y.1 = some .cell ∧ ((cellsFrom (s.heap.objs.size + 1) (defScope stm).names []).lookup y.1).isSome = true) := by
    rintro ⟨nm, v⟩ hy
    rcases S.par nm (List.of_mem_zip hy).1 with q | q
    · exact .inl q
    · exact .inr ⟨q, PySem.W.cellsFrom_some _ _ _ (.inl q)⟩
  refine codeAny_call_function hr.depth (KX _ _ lk) rfl S.co S.gen rfl
    (PySem.W.codeRec_of KX hcd) (hbt _ _ _ _ ?_)
  refine wpAny_newFunctionEnv_cells S.kind kinds
    fun env he s1 xx => ?_
  subst he
  refine ⟨(e0.mod.nolimit.keeps hbase).keeps xx.toInCall.keep,
    codeAny_func ?_⟩
  obtain ⟨t, ht, hq⟩ := hb cdv (hr.deeper _)
  have I0 := inv_start (CX := CX0) (E := E0) S hr.hd e0 hlen rv xx
  refine wpAny_mono (ht.run [] s1 (L2.start N vs) H _ I0 hq)
    (fun fl s' hs => ?_) fun e s' hs => hs
  cases fl with
  | ret u =>
    obtain ⟨v, σ', H', J, r2, q⟩ := hs
    exact ⟨v, H', J.os, J.bare,
      J.base, J.hok, r2, q⟩
  | next =>
    obtain ⟨σ', H', J, q⟩ := hs
    exact ⟨V.non, H', J.os, J.bare,
      J.base, J.hok, rfl, q⟩
  | brk =>
    obtain ⟨_, _, _, q⟩ := hs
    exact q.elim
  | cont =>
    obtain ⟨_, _, _, q⟩ := hs
    exact q.elim
/-- the law's def keeps its promise at the caller's place -/
def Kept (P : Program) (w : World) (K : PySem.W.Frag) (mg : Str → Option Value) (base : Heap) (fa : Addr) (fd : FuncData) (x : Str) (n : Nat) : Prop :=
  ∀ (s : Shared) (H : Hp) (a : Addr) (ns : List Int), Env0 P w K mg base callerA [] s H → BindsTo s fd ⟨[.ref a], []⟩ [(x, .ref a)] → SqL K H a (ns.map V.int) → ns.length ≤ n → (∀ z ∈ ns, Builtin.Int.intBits z ≤ 1048576) →
    codeAny (model P w) callerA (.call (.ref fa) ⟨[.ref a], []⟩) (CR CX0 [] P w H s (fun v _ => v = .bl true) E0) s
theorem law_here {P : Program} {w : World} {K : PySem.W.Frag} {mg mb : Str → Option Value} {fa a : Addr} {fd : FuncData} {x : Str} {n : Nat} {s₁ : Shared} {vs : List Value} {ns : List Int} (KX : K.In s₁.heap) (hns : s₁.heap.Ns mainGlobals mg) (hb : s₁.heap.Ns builtinsNs mb)
    (hbb : ∀ x : Str, x ≠ "__name__" → mb x = bootBuiltins x) (hlim : s₁.heap.NoLimit) (hg : s₁.gens = #[]) (ha : s₁.heap.get? a = some { cls := .type "list", data := .seq vs.toArray }) (hi : PyProof.Rows.IntsAre vs ns) (hl : ns.length ≤ sizeLine) (hln : ns.length ≤ n) (hbits : ∀ z ∈ ns, Builtin.Int.intBits z ≤ 1048576)
    (F : ∀ base : Heap, K.In base → base.Ns mainGlobals mg → Kept P w K mg base fa fd x n) (hbind : ∀ (s : Shared) (u : Value), BindsTo s fd ⟨[u], []⟩ [(x, u)]) :
    codeAny (model P w) callerA (.call (.ref fa) ⟨[.ref a], []⟩) (fun r s' => r = .ok (.ret (.bool true)) ∧ OldK s₁.heap s'.heap ∧ s'.os = s₁.os ∧ PyProof.Rows.AllBare s'.gens) s₁ := by
  have rv := vals_ints hi
  have lenV := hi.length
  have main : ∀ H : Hp, Only H → SqL K H a (ns.map V.int) → HOk P w H s₁.heap → (∀ b, H b ≠ none → b = a) → (H a ≠ none → K.lookup a = none) →
      codeAny (model P w) callerA (.call (.ref fa) ⟨[.ref a], []⟩) (fun r s' => r = .ok (.ret (.bool true)) ∧ OldK s₁.heap s'.heap ∧ s'.os = s₁.os ∧ PyProof.Rows.AllBare s'.gens) s₁ := by
    intro H hO hS hok hA hK
    have hid : ∀ {b : Addr} {o : Obj}, s₁.heap.get? b = some o → H b = none → (hidT s₁.heap H).get? b = some o := fun q z => hidT_get q z
    have dictFree : ∀ {b : Addr} {o : Obj} {es : Array DictEntry} {ep : Nat}, s₁.heap.get? b = some o → o.data = .dict es ep → H b = none := by
      intro b o es ep q dq
      cases z : H b with
      | none => rfl
      | some u =>
        have hba : b = a := hA b (by rw [z]; exact fun y => nomatch y)
        subst hba
        rw [ha] at q; cases q
        exact absurd (show Data.seq vs.toArray _ = Data.dict es ep from dq) (fun y => nomatch y)
    have nsHid : ∀ {b : Addr} {m : Str → Option Value}, s₁.heap.Ns b m → (hidT s₁.heap H).Ns b m := by
      rintro b m ⟨o, es, ep, q, dq, r⟩
      exact ⟨o, es, ep, hid q (dictFree q dq), dq, r⟩
    have kHid : K.In (hidT s₁.heap H) := by
      intro b o q
      refine hid (KX b o q) ?_
      cases z : H b with
      | none => rfl
      | some u =>
        have hba : b = a := hA b (by rw [z]; exact fun y => nomatch y)
        subst hba
        rw [hK (by rw [z]; exact fun y => nomatch y)] at q; cases q
    have md : Mod K mg (hidT s₁.heap H) := by
      obtain ⟨mc, y1, y2⟩ := hlim
      exact ⟨kHid, nsHid hns, ⟨mb, nsHid hb, hbb⟩, ⟨mc, nsHid y1, y2⟩⟩
    have env : Env0 P w K mg (hidT s₁.heap H) callerA [] s₁ H :=
      ⟨rfl, md, fun b o q => of_hidT q, Nat.le_of_eq (hidT_size _ _), trivial,
        fun b hb => absurd hb (List.not_mem_nil), hok, .of_eq hg⟩
    refine codeAny_mono (F _ kHid (nsHid hns) s₁ H a ns env (hbind s₁ (.ref a)) hS hln hbits) ?_
    intro r s' h
    cases r with
    | error e => exact h.elim
    | ok fl =>
      cases fl with
      | next => exact h.elim
      | brk => exact h.elim
      | cont => exact h.elim
      | ret u =>
        obtain ⟨v, H', os, bare, un, hok', r', q⟩ := h
        obtain rfl : v = .bl true := q
        obtain rfl : u = Value.bool true := r'
        refine ⟨rfl, OldK.of_keep ?_, os, bare⟩
        intro b o q
        cases z : H b with
        | none => exact un.keep b o q z (fun y => absurd y (List.not_mem_nil)) (List.not_mem_nil)
        | some u =>
          rcases hO b with y | ⟨ob, xs, y⟩
          · rw [z] at y; cases y
          · obtain ⟨k1, _⟩ := hok b _ y
            obtain ⟨k2, _⟩ := hok' b _ (un.frzs b ob _ y)
            rw [q] at k1; cases k1
            exact k2
  cases hk : K.lookup a with
  | some o =>
    have q := KX a o hk
    rw [ha] at q
    cases q
    refine main (fun _ => none) (fun _ => .inl rfl) (.inr ⟨_, vs.toArray, _, hk, rfl, rfl, rfl, ?_, ?_⟩)
      (fun b u z => nomatch (show (none : Option HO) = some u from z)) (fun b z => absurd rfl z) fun z => absurd rfl z
    · rw [List.size_toArray, lenV]; exact hl
    · simpa using rv
  | none =>
    let ob : Obj := { cls := .type "list", data := .seq vs.toArray }
    refine main (fun b => if b = a then some (.frz ob (.lst (ns.map V.int))) else none) (fun b => ?_) (.inl (.inr ⟨ob, if_pos rfl⟩)) (fun b u z => ?_) (fun b z => ?_) fun _ => hk
    · by_cases hb : b = a
      · exact .inr ⟨_, _, if_pos hb⟩
      · exact .inl (if_neg hb)
    · by_cases hb : b = a
      · have y := (if_pos hb).symm.trans z
        cases y
        subst hb
        refine ⟨ha, ?_, vs, _, rv, ha⟩
        rw [List.length_map]; exact hl
      · exact nomatch (if_neg hb).symm.trans z
    · by_cases hb : b = a
      · exact hb
      · exact absurd (if_neg hb) z
theorem walk_here {l : PySem.W.OpenLaw} {n : Nat} {q : Program} {loose : List Str} {XP : (Str → Option Value) → Heap → Prop} {YP : World → Heap → Prop} {d : DefRec} {K : Params → PySem.W.Frag} {x : Str} (hn : l.most = some n) (hn2 : n ≤ sizeLine) (hdf : d.params.defaults = [])
    (hY : ∀ (w : World) (h : Heap), YP w h → (K w.params).In h)
    (F : ∀ (w : World) (mg : Str → Option Value) (fa : Addr) (h : Heap), (K w.params).In h → h.Ns mainGlobals mg → mg d.name = some (.ref fa) →
      ∃ fd : FuncData, (∀ (s : Shared) (u : Value), BindsTo s fd ⟨[u], []⟩ [(x, u)]) ∧ ∀ base : Heap, (K w.params).In base → base.Ns mainGlobals mg → Kept l.prog w (K w.params) mg base fa fd x n) :
    PySem.W.WalkO q loose XP YP l.row.toRowW d [] (fun f vs => PySem.call f vs) := by
  refine Att.attach_callB hn hdf ?_
  intro w s₀ s₁ mg mb fa o pm cd doc a vs ns G Y ho hd hcd hmg hobj hints hlen hbits hg
  obtain ⟨fd, hb, hF⟩ := F w mg fa _ (hY w _ Y) G.T.g hmg
  exact law_here (hY w _ Y) G.T.g G.T.b G.T.builtins G.T.nolimit hg hobj hints (Nat.le_trans hlen hn2) hlen hbits hF hb
/-- the state behind source = .. in a law -/
theorem law_start {K : PySem.W.Frag} {H' : Hp} {p c : Addr} {L n : Nat} {cs : List Int} {l m : Int} {σ : St} (h0 : p ≠ c) (h1 : H' p = some (srcDict c l m 0)) (h2 : H' c = some (.lst (cs.map V.int))) (h3 : cs.length ≤ 63) (hs : σ[1]? = some (some (.ref p))) (hl : σ.length = n + 2) :
    Good K (fun _ => none, H') (some (p, c, L)) (.un :: .sr 0 L :: List.replicate n .un) σ (fun _ => none) H' := by
  refine ⟨fun _ _ q => (nomatch q), fun q e => ?_, fun _ _ q => q, fun _ _ _ => rfl, fun _ _ _ q => q, by simp [hl], fun i x e => ?_, fun i j x y a q _ f _ => ?_⟩
  · cases e
    exact ⟨h0, rfl, rfl, cs, l, m, 0, h1, h2, h3, Int.le_refl _, by show (0 : Int) ≤ ((L : Nat) : Int); omega⟩
  · match i, e with
    | 0, e => cases e; trivial
    | 1, e => cases e; exact ⟨_, rfl, hs, c, l, m, 0, h1, Int.le_refl _, by show (0 : Int) + ((L : Nat) : Int) ≤ ((L : Nat) : Int); omega⟩
    | i + 2, e =>
      have e : (List.replicate n Slot.un)[i]? = some x := e
      rw [List.getElem?_replicate] at e
      split at e
      · cases e; trivial
      · cases e
  · match i, q with
    | 0, q => cases q; exact f.elim
    | 1, q => cases q; exact f.elim
    | i + 2, q =>
      have q : (List.replicate n Slot.un)[i]? = some x := q
      rw [List.getElem?_replicate] at q
      split at q
      · cases q; exact f.elim
      · cases q
end Dat


set_option Elab.async false
set_option linter.all false
set_option maxRecDepth 100000
set_option maxHeartbeats 4000000
/-! DatU: more rules by data: chained comparisons, data compared. -/
namespace Dat
open PySem L2
def chainF (P P' : PyData → PyData → (Hd → Prop) → Prop) (fa fb fc : DF) : DF := fun ρ Φ => fa ρ fun x ρ1 => fb ρ1 fun y ρ2 => rdP x ρ2 fun dx => rdP y ρ2 fun dy => P dx dy fun h => boolP h fun t => brP t (fc ρ2 fun z ρ3 => rdP y ρ3 fun dy => rdP z ρ3 fun dz => P' dy dz fun h => Φ h ρ3) (Φ (.val (.bool false)) ρ2)
def alC (x y : PyData) : Prop := PySem.W.alike x y = true ∧ x ≠ .none ∧ x.depth ≤ 64
def ltDP (x y : PyData) (k : Hd → Prop) : Prop := alC x y ∧ k (.val (.bool (PySem.W.dataLt x y)))
def geDP (x y : PyData) (k : Hd → Prop) : Prop := alC x y ∧ k (.val (.bool (!PySem.W.dataLt x y)))
section
variable {X : Cx} {K : PySem.W.Frag}
theorem al_room {A : Around} {d e : PyData} (h : d.depth ≤ 64) (hu : A.units + 64 < cLine) : A.units + min d.depth e.depth < cLine := by
  have h2 : min d.depth e.depth ≤ d.depth := Nat.min_le_left _ _
  omega
theorem o_ltD (hu : X.A.units + 64 < cLine) : OpR X (compareOp .Lt) (rVal2 X.K alC fun d e => .bl (PySem.W.dataLt d e)) := by
  intro pins s σ H x y v u Q I rx ry ⟨d, e, hd, he, ⟨c1, c2, c3⟩, q⟩
  obtain ⟨as, r1⟩ := Dt.reads I d x v hd rx
  obtain ⟨bs, r2⟩ := Dt.reads I e y u he ry
  exact PySem.W.lt_data r1 r2 c1 c2 (al_room c3 hu) ⟨.bl _, H, I, rfl, q⟩
theorem o_geD (hu : X.A.units + 64 < cLine) : OpR X (compareOp .GtE) (rVal2 X.K alC fun d e => .bl (!PySem.W.dataLt d e)) := by
  intro pins s σ H x y v u Q I rx ry ⟨d, e, hd, he, ⟨c1, c2, c3⟩, q⟩
  obtain ⟨as, r1⟩ := Dt.reads I d x v hd rx
  obtain ⟨bs, r2⟩ := Dt.reads I e y u he ry
  exact PySem.W.ge_data r1 r2 c1 c2 (al_room c3 hu) ⟨.bl _, H, I, rfl, q⟩
theorem p_ltD : Op2 K (rVal2 K alC fun d e => .bl (PySem.W.dataLt d e)) ltDP := fun x y dx dy G H Φ Q e rx ry p o => ⟨dx, dy, rx.now e, ry.now e, p.1, o.val e p.2 (.bl _)⟩
theorem p_geD : Op2 K (rVal2 K alC fun d e => .bl (!PySem.W.dataLt d e)) geDP := fun x y dx dy G H Φ Q e rx ry p o => ⟨dx, dy, rx.now e, ry.now e, p.1, o.val e p.2 (.bl _)⟩
end
section
variable {X : Cx} {a b c : Expr} {fa fb fc : DF} {pos : Pos}
theorem de_chain {op op' : CmpOp} {r r' : R2} {P P' : PyData → PyData → (Hd → Prop) → Prop} (ho : OpR X (compareOp op) r) (ho' : OpR X (compareOp op') r') (hd : Op2 X.K r P) (hd' : Op2 X.K r' P') (ha : PE X a (dE X.K fa)) (hb : PE X b (dE X.K fb)) (hc : PE X c (dE X.K fc))
    (hm : lastMarks [op, op'] [b, c] = false := by with_unfolding_all rfl) : PE X (.Compare a [op, op'] [b, c] pos) (dE X.K (chainF P P' fa fb fc)) :=
  PEw (pe_chain ho ho' ha hb hc hm) fun σ H Q ⟨B, S, ρ, G, Φ, g, q, k⟩ => ⟨B, S, ρ, G, _, g, q, fun hx vx ρ1 G1 H1 f1 g1 s1 o1 _ => ⟨B, S, ρ1, G1, _, g1, f1, fun hy vy ρ2 G2 H2 f2 g2 s2 o2 _ => by
    obtain ⟨dx, f3, rx⟩ := rd_of g2 (o1.mono s2) f2
    obtain ⟨dy, f4, ry⟩ := rd_of g2 o2 f3
    have s := s1.trans s2
    refine hd vx vy dx dy G2 H2 _ _ g2.ing rx ry f4 fun h v G3 H3 f5 n o5 fr => ?_
    unfold boolP at f5
    split at f5
    · rename_i t
      cases o5
      refine ⟨t, rfl, ?_⟩
      have g3 := g2.nst n
      cases t with
      | true => exact ⟨B, S, ρ2, G3, _, g3, f5.1 rfl, fun hz vz ρ3 G4 H4 f6 g4 s4 o6 _ => by
          obtain ⟨dy', f7, ry'⟩ := rd_of g4 ((o2.mono (n.stp g2)).mono s4) f6
          obtain ⟨dz, f8, rz⟩ := rd_of g4 o6 f7
          exact hd' vy vz dy' dz G4 H4 _ Q g4.ing ry' rz f8 fun h v G5 H5 f9 n5 o7 fr7 => k h v ρ3 G5 H5 f9 (g4.nst n5) (((s.trans (n.stp g2)).trans s4).trans (n5.stp g4)) (o7.ok g4 n5 fr7) (fr7.back ((s.trans (n.stp g2)).trans s4))⟩
      | false => exact k _ _ ρ2 G3 H3 (f5.2 rfl) g3 (s.trans (n.stp g2)) (Dt.bl false) trivial
    · exact f5.elim⟩⟩
end
/-! ### isinstance -/
def isaP (f : PyData → Bool) (x : PyData) (k : Hd → Prop) : Prop := k (.val (.bool (f x)))
def RIsa (K : PySem.W.Frag) (T : String) (f : PyData → Bool) : List V → Hp → VK → Prop := fun xs H Q => ∃ x d, xs = [x, .ty T] ∧ Dt K H x d ∧ Q (.bl (f d)) H
section
variable {X : Cx} {e : Expr} {fe : DF} {p p2 pos : Pos}
theorem cr_isaInt : CallR X (.builtin "isinstance") (RIsa X.K "int" PyData.isInt) := by
  intro pins s σ H vs us Q I r h
  obtain ⟨x, d, rfl, t, q⟩ := h
  obtain ⟨u, w', rfl, ru, rw'⟩ := vals2 r
  cases rw'
  obtain ⟨as, rd⟩ := Dt.reads I d x u t ru
  exact PySem.W.isinstance_int_data rd fun tk _ => ⟨.bl _, H, I.tok _, rfl, q⟩
theorem cr_isaBool : CallR X (.builtin "isinstance") (RIsa X.K "bool" PyData.isBool) := by
  intro pins s σ H vs us Q I r h
  obtain ⟨x, d, rfl, t, q⟩ := h
  obtain ⟨u, w', rfl, ru, rw'⟩ := vals2 r
  cases rw'
  obtain ⟨as, rd⟩ := Dt.reads I d x u t ru
  exact PySem.W.isinstance_bool_data rd fun tk _ => ⟨.bl _, H, I.tok _, rfl, q⟩
theorem cr_isaTuple : CallR X (.builtin "isinstance") (RIsa X.K "tuple" PyData.isTuple) := by
  intro pins s σ H vs us Q I r h
  obtain ⟨x, d, rfl, t, q⟩ := h
  obtain ⟨u, w', rfl, ru, rw'⟩ := vals2 r
  cases rw'
  obtain ⟨as, rd⟩ := Dt.reads I d x u t ru
  exact PySem.W.isinstance_tuple_data rd fun tk _ => ⟨.bl _, H, I.tok _, rfl, q⟩
theorem de_isa {x : Str} {T : String} {f : PyData → Bool} (hc : CallR X (.builtin "isinstance") (RIsa X.K T f)) (hm : X.mg "isinstance" = none) (hmT : X.mg x = none) (hv : bootBuiltins x = some (.type T)) (he : PE X e (dE X.K fe)) (hg : Gl X "isinstance" := by rfl) (hgT : Gl X x := by rfl)
    (hn : x ≠ "__name__" := by decide) (hd : (x == ("__debug__" : Str)) = false := by decide) (h1 : starEach [e, .Name x p2] X.env = (false, eval e X.env) :: starEach [.Name x p2] X.env := by rfl) (h2 : starEach [.Name x p2] X.env = (false, eval (.Name x p2) X.env) :: starEach [] X.env := by rfl) (hpl : (backTo pos (starEach [.Name x p2] X.env)).any (·.1) = false := by rfl) :
    PE X (.Call (.Name "isinstance" p) [e, .Name x p2] [] pos) (dE X.K (unF (isaP f) fe)) :=
  PEw (pe_callB hc hg hm PyProof.Rows.boot_isinstance (pa_cons he (pa_cons (pe_bltn (v := .ty T) hgT hmT hv rfl hn hd) pa_nil h2) h1) (by decide) (by decide) h1 hpl) fun σ H Q ⟨B, S, ρ, G, Φ, g, q, k⟩ => ⟨B, S, ρ, G, _, g, q, fun h v ρ1 G1 H1 f1 g1 s1 o1 _ => by
    obtain ⟨d, f2, r2⟩ := rd_of g1 o1 f1
    exact ⟨v, d, rfl, r2.now g1.ing, k _ _ ρ1 G1 H1 f2 g1 s1 (Dt.bl _) trivial⟩⟩
end
/-! ### list(range(n)), tuple(range(n)) -/
def rgD (n : Int) : List PyData := (List.range n.toNat).map fun (i : Nat) => PyData.int (i : Int)
def rgLP (x : PyData) (k : Hd → Prop) : Prop := match x with
  | .int n => (-(2 ^ 62) ≤ n ∧ n ≤ 16777216) ∧ k (.new (rgD n))
  | _ => False
def rgTP (x : PyData) (k : Hd → Prop) : Prop := match x with
  | .int n => (-(2 ^ 62) ≤ n ∧ n ≤ 16777216) ∧ k (.val (.tuple (rgD n)))
  | _ => False
theorem rgV_data {K : PySem.W.Frag} {G : Hp} (n : Int) : DtAll K G (rgV 0 n) (rgD n) := by
  have all : ∀ l : List Nat, DtAll K G (l.map fun (i : Nat) => V.int (0 + (i : Int))) (l.map fun (i : Nat) => PyData.int (i : Int)) := fun l => by
    induction l with
    | nil => exact .nil
    | cons i l ih =>
      refine .cons ?_ ih
      show Dt K G (.int (0 + (i : Int))) (.int (i : Int))
      rw [Int.zero_add]; exact .int _
  unfold rgV rgD
  rw [Int.sub_zero]
  exact all _
section
variable {X : Cx} {a : Expr} {fa : DF} {p p2 pos pos2 : Pos}
theorem de_listRg (hc : X.calm = true) (hm : X.mg "list" = none) (hm2 : X.mg "range" = none) (ha : PE X a (dE X.K fa)) (hg : Gl X "list" := by rfl) (hg2 : Gl X "range" := by rfl) (h1 : starEach [.Call (.Name "range" p2) [a] [] pos2] X.env = (false, eval (.Call (.Name "range" p2) [a] [] pos2) X.env) :: starEach [] X.env := by rfl)
    (h2 : starEach [a] X.env = (false, eval a X.env) :: starEach [] X.env := by rfl) : PE X (.Call (.Name "list" p) [.Call (.Name "range" p2) [a] [] pos2] [] pos) (dE X.K (unF rgLP fa)) :=
  PEw (pe_listRg hc hg hm (prg_1 hg2 hm2 ha h2) h1) fun σ H Q ⟨B, S, ρ, G, Φ, g, q, k⟩ => ⟨B, S, ρ, G, _, g, q, fun h v ρ1 G1 H1 f1 g1 s1 o1 fr => by
    obtain ⟨d, f2, r2⟩ := rd_of g1 o1 f1
    unfold rgLP at f2
    split at f2
    · rename_i n
      refine ⟨n, rd_int r2, ⟨by decide, by decide, by omega, by omega, by omega⟩, fun l hl => ?_⟩
      have n1 : Nst G1 H1 G1 (upd H1 l (.lst (rgV 0 n))) := Nst.lay g1.ing hl
      obtain ⟨f4, f5, f6⟩ := g1.fresh2 hl
      refine k _ _ ρ1 _ _ f2.2 (g1.nst n1) (s1.trans (n1.stp g1)) ⟨l, _, rfl, upd_same, rgV_data n, g1.ing.free hl, f4, f5, fun o => f6 (o.back g1 fun b o _ q => n1.hxt b o q)⟩ fun b z => ?_
      cases z
      cases y : H l with
      | none => rfl
      | some o => exact absurd hl (s1.kp l (by rw [y]; exact fun z => nomatch z))
    · exact f2.elim⟩
def tTupRgN (te : St → Hp → (Int → Int → Hp → Prop) → Prop) : TE := fun σ H Q => te σ H fun a b H1 => RgOk a b ∧ ∀ q ob, TupO ob → H1 q = none → Q (.ref q) (upd H1 q (.frz ob (.tup (rgV a b))))
theorem pe_tupRgN {e : Expr} {te : St → Hp → (Int → Int → Hp → Prop) → Prop} (hc : X.calm = true) (hg : Gl X "tuple") (hm : X.mg "tuple" = none) (he : PRg X e te) (na : starEach [e] X.env = (false, eval e X.env) :: starEach [] X.env := by rfl) : PE X (.Call (.Name "tuple" p) [e] [] pos) (tTupRgN te) := by
  refine ⟨fun pins s σ H Q I h => ?_⟩
  refine PyProof.Rows.Call_ (ld_blt I hg hm PyProof.Rows.boot_tuple (PyProof.Rows.callWith_type1 (PyProof.Rows.args_cons (thn (he pins s σ H _ I h) fun x s1 ⟨r, a, b, t, u, v, H1, ex, hr, I1, ok, q⟩ => PyProof.Rows.args_nil ?_) na) na))
  subst ex
  obtain ⟨b1, b2, b3, b4, b5⟩ := ok
  refine call_tuple_range (n := (b - a).toNat) (I1.ok.hd hc) hr (small_one b1 b2 b3 b4) (PyProof.Rows.rangeSize_nat a b) b5 fun h' tk acc hk hi => ?_
  have I2 : Inv X pins σ H1 { s1 with heap := h', toks := tk } := I1.kept hk
  have e := laid_tup I2 (its := acc.toList) (by rw [rgV_length, sizeLine_eq]; omega) (vals_rg hi) q
  rw [Array.toArray_toList] at e
  exact e
theorem de_tupRg (hc : X.calm = true) (hm : X.mg "tuple" = none) (hm2 : X.mg "range" = none) (ha : PE X a (dE X.K fa)) (hg : Gl X "tuple" := by rfl) (hg2 : Gl X "range" := by rfl) (h1 : starEach [.Call (.Name "range" p2) [a] [] pos2] X.env = (false, eval (.Call (.Name "range" p2) [a] [] pos2) X.env) :: starEach [] X.env := by rfl)
    (h2 : starEach [a] X.env = (false, eval a X.env) :: starEach [] X.env := by rfl) : PE X (.Call (.Name "tuple" p) [.Call (.Name "range" p2) [a] [] pos2] [] pos) (dE X.K (unF rgTP fa)) :=
  PEw (pe_tupRgN hc hg hm (prg_1 hg2 hm2 ha h2) h1) fun σ H Q ⟨B, S, ρ, G, Φ, g, q, k⟩ => ⟨B, S, ρ, G, _, g, q, fun h v ρ1 G1 H1 f1 g1 s1 o1 fr => by
    obtain ⟨d, f2, r2⟩ := rd_of g1 o1 f1
    unfold rgTP at f2
    split at f2
    · rename_i n
      refine ⟨n, rd_int r2, ⟨by decide, by decide, by omega, by omega, by omega⟩, fun l ob ho hl => ?_⟩
      have n1 : Nst G1 H1 (upd G1 l (.frz ob (.tup (rgV 0 n)))) (upd H1 l (.frz ob (.tup (rgV 0 n)))) := Nst.know g1.ing hl
      exact k _ _ ρ1 _ _ f2.2 (g1.nst n1) (s1.trans (n1.stp g1)) (Dt.tup (.new ho) (rgV_data n)) trivial
    · exact f2.elim⟩
end
end Dat


set_option Elab.async false
set_option linter.all false
set_option maxRecDepth 100000
set_option maxHeartbeats 4000000
/-! DatV: sorted, of data. -/
namespace Dat
open PySem L2
section
open PyProof.Rows PySem.W
variable {prog : Program} {w : World} {A : Around} {E : Value → Shared → Prop} {s : Shared}
/-- the items of a list or a tuple, collected -/
theorem collect_any {l : Addr} {us : List Value} {Q : List Value → Shared → Prop} {T : String} {o : Obj} {n : Nat} (hT : T = "list" ∨ T = "tuple") (e1 : s.heap.get? l = some o) (e2 : o.cls = .type T) (e3 : o.data = .seq us.toArray n) (hz : us.length ≤ sizeLine)
    (q : Q us { s with heap := (s.heap.push (seqObj "list" #[] 0)).update s.heap.objs.size (Obj.mapSeq (· ++ us.toArray)) }) : wpAny (model prog w) A (collect (.ref l)) Q E s := by
  have e1' : (s.heap.push (seqObj "list" #[] 0)).get? l = some o := Heap.get?_push_of_some _ e1
  have e0 : (s.heap.push (seqObj "list" #[] 0)).get? s.heap.objs.size = some (seqObj "list" #[] 0) := Heap.get?_push_size _ rfl
  have tt : ((Value.type T == Value.type "list") || (Value.type T == Value.type "tuple")) = true := by
    rcases hT with rfl | rfl <;> decide
  unfold collect
  refine wpAny_bind (wpAny_runValue (codeAny_builtin entry_proto_collect' ?_))
  show wpAny _ _ (do again (.builtin "list.__iadd__" ⟨[← newList [], .ref l], []⟩)) _ _ _
  refine wpAny_bind (wpAny_newList (wpAny_pure ⟨Code.quiet_builtin _ (by decide +kernel), codeAny_builtin entry_list_iadd' ?_⟩))
  show wpAny _ _ (Builtin.List.listExtendWith (.ref s.heap.objs.size) (.ref l) (.ref s.heap.objs.size)) _ _ _
  unfold Builtin.List.listExtendWith
  refine wpAny_bind (wpAny_typeOf (T := T) ⟨o, e1', e2⟩ ?_)
  rw [if_pos (by rw [Bool.or_assoc, tt, Bool.or_true])]
  refine wpAny_bind (listItems_at e1' e3 ?_)
  refine wpAny_bind (listItems_at (xs := #[]) (n := 0) e0 rfl ?_)
  rw [if_neg (by simp)]
  refine wpAny_bind (listUpdate_at (xs := #[]) (n := 0) e0 rfl ?_ (Nat.zero_le _) (by show ((#[] : Array Value) ++ us.toArray).size ≤ sizeLine + 1; rw [Array.size_append, List.size_toArray]; simp; omega))
  refine wpAny_pure ?_
  refine wpAny_bind (wpAny_load (get?_update_seq e0 _) ?_)
  show wpAny _ _ (pure ((#[] : Array Value) ++ us.toArray).toList) Q E _
  have : ((#[] : Array Value) ++ us.toArray).toList = us := by simp
  rw [this]
  exact wpAny_pure q
/-- sorted(x, ..), x a list or a tuple -/
theorem sorted_any {l : Addr} {us : List Value} {kw : List (Str × Value)} {Q : Value → Shared → Prop} {T : String} {o : Obj} {n : Nat} (hT : T = "list" ∨ T = "tuple") (e1 : s.heap.get? l = some o) (e2 : o.cls = .type T) (e3 : o.data = .seq us.toArray n) (hz : us.length ≤ sizeLine)
    (g1 : argsOk "sorted" ⟨[.ref l], kw⟩) (g2 : ∀ x, argsOk "list.sort" ⟨[.ref x], kw⟩)
    (body : ∀ E' : Value → Shared → Prop, wpAny (model prog w) A.in1.in1 (Builtin.«list.sort» ⟨[.ref (s.heap.objs.size + 1)], kw⟩) (fun f s' => f = .done (.ret .none) ∧ Q (.ref (s.heap.objs.size + 1)) s') E' { s with heap := copyHeap s.heap us }) :
    wpAny (model prog w) A (call (.builtin "sorted") [.ref l] kw) Q E s := by
  refine call_function_entry_kw kind_sorted plain_sorted entry_sorted g1 ?_
  unfold Builtin.«sorted»
  refine wpAny_bind (m := checkCount "sorted" 1 1 _) (wpAny_pure ?_)
  refine wpAny_bind (collect_any hT e1 e2 e3 hz ?_)
  refine wpAny_bind (wpAny_newList ?_ hz)
  show wpAny _ _ _ _ _ { s with heap := copyHeap s.heap us }
  have hs : ((s.heap.push (seqObj "list" #[] 0)).update s.heap.objs.size (Obj.mapSeq (· ++ us.toArray))).objs.size = s.heap.objs.size + 1 := by rw [Heap.size_update, size_push']
  rw [hs]
  refine wpAny_bind (wpAny_holding (wpAny_call_entry_kw slot_list_sort ⟨_, copyHeap_at s.heap us, rfl⟩ entry_list_sort ?_ (g2 _)))
  exact wpAny_mono (body _) (fun f s' hf => by obtain ⟨rfl, hq⟩ := hf; exact ⟨_, rfl, wpAny_pure ⟨_, rfl, hq⟩⟩) fun _ _ e => e
end
open PySem.W in
/-- what sorted can put in order -/
def srtOk (ds : List PyData) : Prop := AllAlike ds ∧ Sortable ds ∧ ds.length ≤ sizeLine ∧ ∀ d ∈ ds, d.depth ≤ 60
def srtD (rev : Bool) (ds : List PyData) : List PyData := ds.mergeSort (PySem.W.dataLe rev id)
def RSort (K : PySem.W.Frag) (rev : Bool) : List V → Hp → VK → Prop := fun xs H Q => ∃ (a : Addr) (vs : List V) (ds : List PyData), xs = [.ref a] ∧ (SqL K H a vs ∨ SqT K H a vs) ∧ srtOk ds ∧ ∃ G, Same G H ∧ DtAll K G vs ds ∧
  ∀ (us : List V) (p : Addr), H p = none → DtAll K G us (srtD rev ds) → Q (.ref p) (upd H p (.lst us))
section
open PyProof.Rows PySem.W
theorem each_vals {K : PySem.W.Frag} {H : Hp} : ∀ {ds : List PyData} {vs : List V} {us : List Value}, DtAll K H vs ds → Vals vs us → EachIs (fun u d => ∃ v, RelV v u ∧ Dt K H v d) us ds
  | [], _, _, h, r => by cases h; cases r; exact .nil
  | d :: ds, _, _, h, r => by
    cases h with
    | cons h1 h2 =>
      cases r with
      | cons r1 r2 => exact .cons ⟨_, r1, h1⟩ (each_vals h2 r2)
theorem vals_each {K : PySem.W.Frag} {H : Hp} : ∀ {ds : List PyData} {us : List Value}, EachIs (fun u d => ∃ v, RelV v u ∧ Dt K H v d) us ds → ∃ vs, DtAll K H vs ds ∧ Vals vs us
  | [], _, h => by cases h; exact ⟨[], .nil, .nil⟩
  | d :: ds, _, h => by
    cases h with
    | cons h1 h2 =>
      obtain ⟨v, r, t⟩ := h1
      obtain ⟨vs, q1, q2⟩ := vals_each h2
      exact ⟨v :: vs, .cons t q1, .cons r q2⟩
theorem each_reads {h : Heap} {ds : List PyData} {us : List Value} {as : List Addr} (r : ReadsAll h us ds as) : EachIs (fun v b => ∃ as, Reads h v (id b) as) us ds := readsAll_each id (by rw [List.map_id]; exact r)
variable {X : Cx}
theorem cr_sortD {kw : List (Str × Value)} {rev : Bool} (hk : kw = [] ∧ rev = false ∨ kw = [(Str.ofString "reverse", .bool rev)]) (hu : X.A.units + 64 < cLine) {pins : List (Addr × Obj)} {σ : L2.St} {G H : Hp} {s : Shared} {a : Addr} {vs : List V} {ds : List PyData} {Q : VK} (I : Inv X pins σ H s)
    (hs : SqL X.K H a vs ∨ SqT X.K H a vs) (e : Same G H) (t : DtAll X.K G vs ds) (ok : srtOk ds) (q : ∀ (us : List V) (p : Addr), H p = none → DtAll X.K G us (srtD rev ds) → Q (.ref p) (upd H p (.lst us))) :
    wpAny (model X.prog X.w) X.A (call (.builtin "sorted") [.ref a] kw) (EP X pins σ Q) X.xe s := by
  obtain ⟨its, T, o, n, hT, e1, e2, e3, rv, hz⟩ : ∃ its T o n, (T = "list" ∨ T = "tuple") ∧ s.heap.get? a = some o ∧ o.cls = .type T ∧ o.data = .seq (List.toArray its) n ∧ Vals vs its ∧ its.length ≤ sizeLine := by
    rcases hs with h | h
    · obtain ⟨its, rv, p, hl⟩ := I.list h
      obtain ⟨o, ho, hc, n, hd⟩ := p.isList
      exact ⟨its, "list", o, n, .inl rfl, ho, hc, hd, rv, by rw [← rv.length]; exact hl⟩
    · obtain ⟨its, rv, p, hl⟩ := I.tuple h
      obtain ⟨o, ho, hc, n, hd⟩ := p
      exact ⟨its, "tuple", o, n, .inr rfl, ho, hc, hd, rv, by rw [← rv.length]; exact hl⟩
  obtain ⟨as, rd⟩ := Dt.readsAll I ds vs its (DtAll.mono e ds t) rv
  obtain ⟨k1, k2, k3, k4⟩ := ok
  have el : its.length = ds.length := by rw [← rv.length, t.length]
  have hal : AllAlike (ds.map id) := by rw [List.map_id]; exact k1
  have hal2 : Sortable (ds.map id) := by rw [List.map_id]; exact k2
  have fin : ∀ out : List Value, EachIs (fun u d => ∃ v, RelV v u ∧ Dt X.K G v d) out (srtD rev ds) → EP X pins σ Q (.ref (s.heap.objs.size + 1)) { s with heap := sortedAll s.heap its out.toArray } := fun out eo => by
    obtain ⟨us, tu, ru⟩ := vals_each eo
    obtain ⟨ep, he'⟩ := PyProof.Rows.sortedAll_at s.heap its out.toArray
    have hlen : us.length ≤ sizeLine := by
      rw [tu.length]; unfold srtD; rw [List.length_mergeSort]; exact k3
    exact ⟨.ref _, upd H (s.heap.objs.size + 1) (.lst us), I.laid (t' := s.toks) (fun _ _ => PyProof.Rows.sortedAll_old) (Nat.le_succ _) ⟨hlen, out, ep, ru, he'⟩, rfl, q _ _ (I.hok.fresh (Nat.le_succ _)) tu⟩
  have er := each_reads rd
  have ev := each_vals t rv
  have er' : EachIs (fun v b => ∃ as, Reads (sortingHeap (copyHeap s.heap its) (s.heap.objs.size + 1) its) v (id b) as) its ds := er.mono fun _ _ ⟨as, r⟩ => ⟨as, PyProof.Rows.Reads.keeps (fun _ _ => sorting_copy_old) r⟩
  have S := SortsAt.data (prog := X.prog) (w := X.w) (A := X.A.in1.in1) (s := { s with heap := sortingHeap (copyHeap s.heap its) (s.heap.objs.size + 1) its }) (each_map (R := fun v d => ∃ as, Reads (sortingHeap (copyHeap s.heap its) (s.heap.objs.size + 1) its) v d as) id er') hal hal2 (fun d hd => by
    rw [List.map_id] at hd
    have := k4 d hd
    show X.A.units + 1 + 1 + d.depth < cLine
    omega)
  rcases hk with ⟨rfl, rfl⟩ | rfl
  · exact sorted_any hT e1 e2 e3 hz (args_sorted1 _) (fun _ => args_list_sort _) fun _ => list_sort_vals (s := { s with heap := copyHeap s.heap its }) (copyHeap_at s.heap its) S hz ⟨rfl, fin _ (sortVals_data false ev er' hal)⟩
  · exact sorted_any hT e1 e2 e3 hz (args_sorted_rev _ _) (fun _ => args_list_sort_rev _ _) fun _ => list_sort_rev_vals (s := { s with heap := copyHeap s.heap its }) (copyHeap_at s.heap its) S hz ⟨rfl, fin _ (sortVals_data rev ev er' hal)⟩
def sortP (rev : Bool) (x : PyData) (k : Hd → Prop) : Prop := seqP x fun ds => srtOk ds ∧ k (.new (srtD rev ds))
theorem cr_sort (hu : X.A.units + 64 < cLine) : CallR X (.builtin "sorted") (RSort X.K false) := by
  intro pins s σ H vs us Q I r h
  obtain ⟨a, vs, ds, rfl, hs, ok, G, e, t, q⟩ := h
  obtain ⟨u, rfl, ru⟩ := vals1 r
  cases ru
  exact cr_sortD (.inl ⟨rfl, rfl⟩) hu I hs e t ok q
theorem p_sortG {K : PySem.W.Frag} {rev : Bool} {x : V} {dx : PyData} {G H : Hp} {Φ : Hd → Prop} {Q : VK} (e : Same G H) (rx : Rdb K G H x dx) (p : sortP rev dx Φ) (o : Outc K G H Φ Q) : RSort K rev [x] H Q := by
  obtain ⟨a, vs, ds, rfl, h, t, q⟩ := rd_seq e rx p
  refine ⟨a, vs, ds, rfl, ?_, q.1, G, e, t, fun us p hp tu => o.newL e q.2 tu hp⟩
  rcases h with ⟨_, h⟩ | ⟨_, h, _⟩
  · exact .inl h
  · exact .inr h
theorem p_sort {K : PySem.W.Frag} {rev : Bool} : Op1 K (fun x H Q => RSort K rev [x] H Q) (sortP rev) := fun x dx G H Φ Q e rx p o => p_sortG e rx p o
def RSortR (K : PySem.W.Frag) (rev : Bool) : List V → List V → Hp → VK → Prop := fun xs zs H Q => zs = [.bl rev] ∧ RSort K rev xs H Q
theorem cr_sortR (hu : X.A.units + 64 < cLine) (rev : Bool) : CallRK X (.builtin "sorted") [Str.ofString "reverse"] (RSortR X.K rev) := by
  intro pins s σ H vs zs us ws Q I r rz h
  obtain ⟨rfl, a, vs, ds, rfl, hs, ok, G, e, t, q⟩ := h
  obtain ⟨u, rfl, ru⟩ := vals1 r
  obtain ⟨z, rfl, rz1⟩ := vals1 rz
  cases ru
  cases rz1
  exact cr_sortD (kw := [(Str.ofString "reverse", .bool rev)]) (.inr rfl) hu I hs e t ok q
variable {e ed : Expr} {f : DF} {p pos kp : Pos}
theorem de_sorted (hu : X.A.units + 64 < cLine) (hm : X.mg "sorted" = none) (he : PE X e (dE X.K f)) (hg : Gl X "sorted" := by rfl) (h1 : starEach [e] X.env = (false, eval e X.env) :: starEach [] X.env := by rfl) (hpl : (backTo pos (starEach [] X.env)).any (·.1) = false := by rfl) : PE X (.Call (.Name "sorted" p) [e] [] pos) (dE X.K (unF (sortP false) f)) :=
  de_b1 (r := RSort X.K false) (cr_sort hu) p_sort hm PyProof.Rows.boot_sorted he hg (by decide) (by decide) h1 hpl
theorem de_sortedR (hu : X.A.units + 64 < cLine) (hm : X.mg "sorted" = none) {b : Bool} {j : Nat} {kp2 : Pos} (he : PE X e (dE X.K f)) (hg : Gl X "sorted" := by rfl) (h1 : starEach [e] X.env = (false, eval e X.env) :: starEach [] X.env := by rfl)
    (h2 : backTo pos (starEach [e] X.env) = (false, eval e X.env) :: backTo pos (starEach [] X.env) := by rfl) (hpl : (backTo pos (starEach [e] X.env)).any (·.1) = false := by rfl)
    (h3 : (backToKw pos (keywordEach [⟨some "reverse", .Constant (.bool b) j kp2, kp⟩] X.env)).all (·.1.isSome) = true := by rfl) (h4 : (backToKw pos (keywordEach [⟨some "reverse", .Constant (.bool b) j kp2, kp⟩] X.env)).any (·.1.isNone) = false := by rfl) (h5 : (backToKw pos (keywordEach [⟨some "reverse", .Constant (.bool b) j kp2, kp⟩] X.env)).filterMap (·.1) = [("reverse" : Str)] := by rfl) :
    PE X (.Call (.Name "sorted" p) [e] [⟨some "reverse", .Constant (.bool b) j kp2, kp⟩] pos) (dE X.K (unF (sortP b) f)) :=
  PEw (pe_callBK (cr_sortR hu b) hg hm PyProof.Rows.boot_sorted (pa_cons he pa_nil h1) (pk_cons pe_bl pk_nil) (by decide) (by decide) h2 hpl h3 h4 h5) fun σ H Q ⟨B, S, ρ, G, Φ, g, q, k⟩ => ⟨B, S, ρ, G, _, g, q, fun h v ρ1 G1 H1 f1 g1 s1 o1 fr => by
    obtain ⟨d, f2, r2⟩ := rd_of g1 o1 f1
    exact ⟨rfl, p_sortG g1.ing r2 f2 fun h v G' H' f5 n o5 fr5 => k h v ρ1 G' H' f5 (g1.nst n) (s1.trans (n.stp g1)) (o5.ok g1 n fr5) (fr5.back s1)⟩⟩
end
end Dat


set_option Elab.async false
set_option linter.all false
set_option maxRecDepth 100000
set_option maxHeartbeats 4000000
/-! DatW: x[::-1], tuple * int, range of three, index. -/
namespace Dat
open PySem L2
section
open PyProof.Rows HT
variable {prog : Program} {w : World} {A : Around} {E : Value → Shared → Prop} {s : Shared}
theorem adjust_rev (n : Nat) : Builtin.Slice.sliceAdjust none none (-1) (n : Int) = ((n : Int) - 1, -1) := by
  unfold Builtin.Slice.sliceAdjust
  simp only [show (-1 : Int) < 0 by decide, if_true]
theorem places_rev (n : Nat) : Builtin.Slice.slicePlaces ((n : Int) - 1) (-1) (-1) = n := by
  unfold Builtin.Slice.slicePlaces
  simp only [show ¬ (-1 : Int) > 0 by decide, if_false]
  split
  · have : ((n : Int) - 1 - -1 - 1) / -(-1) = (n : Int) - 1 := by rw [Int.neg_neg, Int.ediv_one]; omega
    omega
  · omega
theorem pick_rev (xs : Array Value) : ((List.range xs.size).filterMap fun (k : Nat) => xs[(((xs.size : Nat) : Int) - 1 + (k : Int) * -1).toNat]?).toArray = xs.toList.reverse.toArray := by
  have e : (fun (k : Nat) => xs[(((xs.size : Nat) : Int) - 1 + (k : Int) * -1).toNat]?) = fun k => xs[xs.size - 1 - k]? := by
    funext k
    have : (((xs.size : Nat) : Int) - 1 + (k : Int) * -1).toNat = xs.size - 1 - k := by omega
    rw [this]
  rw [e]
  congr 1
  have h1 : (List.range xs.size).filterMap (fun k => xs[xs.size - 1 - k]?) = ((List.range xs.size).map fun k => xs.size - 1 - k).filterMap (xs[·]?) := by rw [List.filterMap_map]; rfl
  rw [h1, PySem.W.krv_range, List.filterMap_reverse, PySem.W.krv_all]
theorem applied_rev {sl : Addr} {vs : Value} {n : Nat} {Q : Int × Int × Nat → Shared → Prop} (hs : s.heap.IsSliceOf sl .none .none vs) (ps : IsPart vs (some (-1)))
    (h : Q ((n : Int) - 1, -1, n) s) : wpAny (model prog w) A (Builtin.Slice.sliceApplied (.ref sl) (pure (n : Int))) Q E s := by
  obtain ⟨os, hos, hcs, hds⟩ := id hs
  unfold Builtin.Slice.sliceApplied Builtin.Slice.sliceFields
  refine wpAny_bind (wpAny_bind (wpAny_field hos hds (x := .none) rfl (wpAny_bind (wpAny_field hos hds (x := .none) rfl (wpAny_bind (wpAny_field hos hds (x := vs) rfl (wpAny_pure ?_)))))))
  refine wpAny_bind (slicePart_ ps ?_)
  show wpAny _ _ (if ((-1 : Int) == 0) = true then _ else _) _ _ s
  rw [if_neg (by decide)]
  refine wpAny_bind (slicePart_ .none (wpAny_bind (slicePart_ .none (wpAny_bind (wpAny_pure ?_)))))
  show wpAny _ _ (match Builtin.Slice.sliceAdjust none none (-1) (n : Int) with | (lo, hi) => pure (lo, (-1 : Int), Builtin.Slice.slicePlaces lo hi (-1))) _ _ s
  rw [adjust_rev]
  show wpAny _ _ (pure ((n : Int) - 1, (-1 : Int), Builtin.Slice.slicePlaces ((n : Int) - 1) (-1) (-1))) _ _ s
  rw [places_rev]
  exact wpAny_pure h
theorem getItem_tuple_rev {t sl : Addr} {items : Array Value} {vs : Value} {Q : Value → Shared → Prop} (ht : IsTup s.heap t items) (hs : s.heap.IsSliceOf sl .none .none vs) (ps : IsPart vs (some (-1)))
    (h : Q (.ref s.heap.objs.size) { s with heap := s.heap.push { cls := .type "tuple", data := .seq items.toList.reverse.toArray } }) (hz : items.size ≤ sizeLine) : wpAny (model prog w) A (getItem (.ref t) (.ref sl)) Q E s := by
  have hz2 : sizeOk (.seq items.toList.reverse.toArray) := by
    show items.toList.reverse.toArray.size ≤ sizeLine
    rw [List.size_toArray, List.length_reverse, Array.length_toList]; exact hz
  obtain ⟨os, hos, hcs, hds⟩ := id hs
  have hTs : s.TypeIs (.ref sl) "slice" := ⟨os, hos, hcs⟩
  unfold getItem
  try with_reducible refine wpAny_holding ?_
  first | refine wpAny_bind (wpAny_pure ?_) | skip
  refine wpAny_bind (wpAny_sequenceKey ht.typeIs (by decide) ?_)
  refine wpAny_bind (wpAny_callSpecial?_slot (name := Str.ofString "__getitem__") ht.typeIs PyProof.Rows.slot_tuple_getitem (wpAny_call_entry PyProof.Rows.slot_tuple_getitem ht.typeIs entry_tuple_getitem ?_ (args_tuple_getitem _ _)))
  show wpAny _ _ (Builtin.Tuple.tupleItemsOf (.ref t) >>= _) _ _ s
  refine wpAny_bind (tupleItemsOf_ ht (wpAny_bind (wpAny_typeOf hTs ?_)))
  rw [if_pos (by decide)]
  refine wpAny_bind (applied_rev hs ps ?_)
  show wpAny _ _ (if (((items.size : Int) - 1) == 0 && (-1 : Int) == 1 && items.size == items.size) = true then _ else _) _ _ s
  rw [if_neg (by simp), pick_rev]
  refine wpAny_bind ?_
  unfold Builtin.Tuple.tupleExact
  first
    | exact wpAny_bind (wpAny_newObj_type (wpAny_pure ⟨_, rfl, wpAny_pure h⟩) hz2)
    | exact wpAny_bind (wpAny_newObj_type (wpAny_pure (wpAny_pure ⟨_, rfl, wpAny_pure h⟩)) hz2)
    | exact wpAny_newObj_type (wpAny_pure ⟨_, rfl, wpAny_pure h⟩) hz2
end
section
open PySem.Spec PyProof.Rows
variable {X : Cx} {K : PySem.W.Frag} {e a b c : Expr} {f : DF} {fl : LF} {p pos p1 p2 p3 : Pos} {kk : Nat}
/-! ### x[::-1] -/
def revP (x : PyData) (k : Hd → Prop) : Prop := match x with
  | .list ds => k (.new ds.reverse)
  | .tuple ds => k (.val (.tuple ds.reverse))
  | _ => False
def tRevA (K : PySem.W.Frag) (te : TE) : TE := fun σ H Q => te σ H fun x H1 => ∃ a xs, x = .ref a ∧ ((SqL K H1 a xs ∧ ∀ p, H1 p = none → Q (.ref p) (upd H1 p (.lst xs.reverse))) ∨ (SqT K H1 a xs ∧ ∀ p ob, TupO ob → H1 p = none → Q (.ref p) (upd H1 p (.frz ob (.tup xs.reverse)))))
theorem pe_revA {te : TE} (he : PE X e te) : PE X (.Subscript e (.Slice none none (some (.UnaryOp .USub (.Constant (.int 1) kk p1) p2)) p3) pos) (tRevA X.K te) := by
  refine ⟨fun pins s σ H Q I h => ?_⟩
  refine Subscript_ (thn (he.run pins s σ H _ I h) fun v s1 ⟨x, H1, I1, r1, q1⟩ => ?_)
  obtain ⟨a, xs, ex, q⟩ := q1
  subst ex
  cases r1
  have hst : PO X (some (.UnaryOp .USub (.Constant (.int 1) kk p1) p2)) (tPart (tUn (rU fun i => .int (-i)) (tC (.int 1)))) := po_some (pe_un un_neg pe_int)
  refine wpAny_Slice (thn (po_none.run pins s1 σ H1 (fun o H2 => o = none ∧ H2 = H1) I1 ⟨rfl, rfl⟩) fun vl s2 ⟨l, H2, I2, pl, el, e2⟩ => ?_)
  subst el e2
  refine thn (po_none.run pins s2 σ H2 (fun o H3 => o = none ∧ H3 = H2) I2 ⟨rfl, rfl⟩) fun vu s3 ⟨u, H3, I3, pu, eu, e3⟩ => ?_
  subst eu e3
  refine thn (hst.run pins s3 σ H3 (fun o H4 => o = some (-1) ∧ H4 = H3) I3 ⟨1, rfl, -1, rfl, rfl, rfl⟩) fun vs s4 ⟨o, H4, I4, ps, eo, e4⟩ => ?_
  subst eo e4
  have I5 : Inv X pins σ H4 { s4 with heap := s4.heap.push { cls := .type "slice", data := .fields #[vl, vu, vs] } } := I4.kept (t' := s4.toks) fun b ob q => Heap.get?_push_of_some _ q
  show wpAny (model X.prog X.w) X.A (subscriptTail e (.Slice none none (some (.UnaryOp .USub (.Constant (.int 1) kk p1) p2)) p3) (.ref a) (.ref s4.heap.objs.size)) (EP X pins σ Q) X.xe { s4 with heap := s4.heap.push { cls := .type "slice", data := .fields #[vl, vu, vs] } }
  rcases q with ⟨hx, q⟩ | ⟨hx, q⟩
  · obtain ⟨its, r, ht, hz⟩ := I5.list hx
    have hlen := r.length
    refine tail_any (ops := [.ref a, .ref s4.heap.objs.size]) ht.isList.typeIs (PySem.slot_list_getitem.lookup) ?_ (by with_unfolding_all rfl)
    refine wpAny_getItem_list_slice ht.isList (Heap.IsSliceOf.new _ vl vu vs) pl pu ps (by decide) ?_ (by rw [List.size_toArray]; omega)
    rw [PySem.W.krv_pick]
    refine ⟨.ref _, _, I5.laid (t' := s4.toks) (o := .lst xs.reverse) (fun b ob q => Heap.get?_push_of_some _ q) (Nat.le_refl _) ?_, rfl, q _ (I5.hok.fresh (Nat.le_refl _))⟩
    exact ⟨by rw [List.length_reverse]; exact hz, _, 0, r.reverse, Heap.get?_push_size _ rfl⟩
  · obtain ⟨its, r, ht, hz⟩ := I5.tuple hx
    have hlen := r.length
    refine tail_any (ops := [.ref a, .ref s4.heap.objs.size]) ht.typeIs PyProof.Rows.slot_tuple_getitem.lookup ?_ (by with_unfolding_all rfl)
    cases pl
    cases pu
    refine getItem_tuple_rev ht (Heap.IsSliceOf.new _ _ _ vs) ps ?_ (by rw [List.size_toArray]; omega)
    exact laid_tup I5 (by rw [List.length_reverse]; exact hz) r.reverse q
theorem de_rev (he : PE X e (dE X.K f)) : PE X (.Subscript e (.Slice none none (some (.UnaryOp .USub (.Constant (.int 1) kk p1) p2)) p3) pos) (dE X.K (unF revP f)) :=
  PEw (pe_revA he) fun σ H Q ⟨B, S, ρ, G, Φ, g, q, k⟩ => ⟨B, S, ρ, G, _, g, q, fun h v ρ1 G1 H1 f1 g1 s1 o1 fr => by
    obtain ⟨d, f2, r2⟩ := rd_of g1 o1 f1
    have fin : Outc X.K G1 H1 (fun x => Φ x ρ1) Q := fun x w G' H' f5 n o5 fr => k x w ρ1 G' H' f5 (g1.nst n) (s1.trans (n.stp g1)) (o5.ok g1 n fr) (fr.back s1)
    unfold revP at f2
    split at f2
    · obtain ⟨a, vs, rfl, ha, t⟩ := r2.list g1.ing
      exact ⟨a, vs, rfl, .inl ⟨.of ha, fun q hq => fin.newL g1.ing f2 t.reverse hq⟩⟩
    · obtain ⟨a, vs, rfl, ha, t⟩ := r2.tuple
      exact ⟨a, vs, rfl, .inr ⟨(ha.mono g1.ing).t, fun q ob ho hq => fin.tup g1.ing f2 t.reverse ho hq⟩⟩
    · exact f2.elim⟩
/-! ### range of three -/
def rg3N (i j c : Int) : Nat := if c = -1 then (i - j).toNat else (if i < j then (j - i - 1) / 2 + 1 else 0).toNat
def rng3P (ds : List PyData) (k : List PyData → Prop) : Prop := match ds with
  | [.int i, .int j, .int c] => ((c = 2 ∨ c = -1) ∧ -1000000 ≤ i ∧ i ≤ 1000000 ∧ -1000000 ≤ j ∧ j ≤ 1000000) ∧ k ((List.range (rg3N i j c)).map fun (m : Nat) => PyData.int (i + (m : Int) * c))
  | _ => False
def itR3 (fl : LF) : IF := fun ρ Φ => fl ρ fun ds ρ1 => rng3P ds fun xs => Φ .free xs ρ1
theorem rgC_ok {i j c : Int} (h : (c = 2 ∨ c = -1) ∧ -1000000 ≤ i ∧ i ≤ 1000000 ∧ -1000000 ≤ j ∧ j ≤ 1000000) : RgC i j c (rg3N i j c) := by
  obtain ⟨hc, h1, h2, h3, h4⟩ := h
  unfold rg3N
  rcases hc with rfl | rfl
  · rw [if_neg (by decide)]
    by_cases hij : i < j
    · rw [if_pos hij]
      obtain ⟨d, hd, hd1⟩ : ∃ d, (j - i - 1) / 2 = d ∧ 2 * d ≤ j - i - 1 ∧ j - i - 1 ≤ 2 * d + 1 := ⟨_, rfl, by omega, by omega⟩
      have e : Builtin.Range.rangeSize i j 2 = d + 1 := by
        unfold Builtin.Range.rangeSize
        rw [if_pos (by decide), if_pos hij, hd]
      refine ⟨by decide, by decide, ?_, by rw [e, hd]; omega⟩
      unfold Builtin.Range.small
      rw [e]
      simp only [Builtin.Range.rangeFitsLong, Bool.and_eq_true, Bool.or_eq_true, decide_eq_true_eq, beq_iff_eq, show (2 : Int) > 0 by decide, if_true]
      omega
    · rw [if_neg hij]
      have e : Builtin.Range.rangeSize i j 2 = 0 := by
        unfold Builtin.Range.rangeSize
        rw [if_pos (by decide), if_neg hij]
      refine ⟨by decide, by decide, ?_, by rw [e]; rfl⟩
      unfold Builtin.Range.small
      rw [e]
      simp only [Builtin.Range.rangeFitsLong, Bool.and_eq_true, Bool.or_eq_true, decide_eq_true_eq, beq_iff_eq, show (2 : Int) > 0 by decide, if_true]
      omega
  · rw [if_pos rfl]
    exact RgC.neg (by omega) (by omega) (by omega) (by omega)
theorem vals_int3 {K : PySem.W.Frag} {G : Hp} {vs : List V} {i j c : Int} (t : DtAll K G vs [.int i, .int j, .int c]) : vs = [.int i, .int j, .int c] := by
  cases t with
  | cons t1 t2 =>
    cases t1
    rw [vals_int2 t2]
theorem it_rangeC {B : Hp × Hp} {S : Sr} {σ : L2.St} {G1 : Hp} {lo c : Int} {n : Nat} : ItOk K false B S .free σ G1 (Itc lo c n) ((List.range n).map fun (i : Nat) => PyData.int (lo + (i : Int) * c)) :=
  ⟨⟨fun _ => True, YFn fun i => .int (lo + (i : Nat) * c), by rw [List.length_map, List.length_range]; exact walk_rangeC, fun _ _ _ _ _ _ _ _ => trivial, fun i x ρ σ G H H' hi g e _ _ ⟨y1, y2⟩ => by
    subst y1 y2
    rw [List.length_map, List.length_range] at hi
    exact ⟨.int (lo + (i : Int) * c), G, by rw [List.getElem?_map, List.getElem?_range hi]; rfl, .refl g.ing, .inl (.int _)⟩⟩⟩
theorem di_range3 {tg : Expr} (hm : X.mg "range" = none) (ha : PA X [a, b, c] (dL X.K fl)) (hg : Gl X "range" := by rfl) (hs : starEach [a, b, c] X.env = (false, eval a X.env) :: starEach [b, c] X.env := by rfl) (hpl : (backTo pos (starEach [b, c] X.env)).any (·.1) = false := by rfl) :
    PI X tg (.Call (.Name "range" p) [a, b, c] [] pos) (dI X.K false (itR3 fl)) :=
  PIw (pi_range3 hg hm ha hs hpl) fun σ H R ⟨B, S, ρ, G, Φ, g, q, k⟩ => ⟨B, S, ρ, G, _, g, q, fun ds vs ρ1 G1 H1 f1 g1 s1 t1 => by
    unfold rng3P at f1
    split at f1
    · rename_i i j d
      exact ⟨i, j, d, _, vals_int3 t1, rgC_ok f1.1, k _ _ ρ1 G1 H1 _ f1.2 g1 s1 it_rangeC⟩
    · exact f1.elim⟩
/-! ### index -/
def ixOf (ds : List PyData) (d : PyData) (j : Nat) : Prop := ∃ z, ds[j]? = some z ∧ PyData.eqv z d = true ∧ ∀ (m : Nat) (z' : PyData), m < j → ds[m]? = some z' → PyData.eqv z' d = false
def indexP (x y : PyData) (k : Hd → Prop) : Prop := inC y x ∧ seqP x fun ds => ∃ j : Nat, ixOf ds y j ∧ k (.val (.int (j : Int)))
def rIdxA (K : PySem.W.Frag) : V → List V → Hp → VK → Prop := fun x xs H Q => ∃ (a : Addr) (ys : List V) (y : V) (d : PyData) (ds : List PyData) (j : Nat), x = .ref a ∧ xs = [y] ∧ SqT K H a ys ∧ DtAll K H ys ds ∧ Dt K H y d ∧ d.canLay0 = true ∧ d.depth ≤ 64 ∧ PyData.canLayAll0 ds = true ∧ ixOf ds d j ∧ Q (.int (j : Nat)) H
theorem mt_idxT (hu : X.A.units + 65 < cLine) : MtR X "tuple.index" (rIdxA X.K) := by
  intro pins s σ H x xs v us Q I rx rxs h
  obtain ⟨a, ys, y, d, ds, j, rfl, rfl, hs, ta, ty, c1, c2, c3, ⟨z, hz, hzj, hno⟩, q⟩ := h
  cases rx
  obtain ⟨uy, rfl, ry⟩ := vals1 rxs
  obtain ⟨bs, r1⟩ := Dt.reads I d y uy ty ry
  obtain ⟨its, rv, ⟨⟨cls, dd, data, sls⟩, ho, hc, n, hd⟩, hlen⟩ := I.tuple hs
  simp only at hc hd
  subst hc hd
  obtain ⟨as, h4⟩ := Dt.readsAll I ds _ its ta rv
  have hroom := room_in (xs := ds) c2 hu
  have hn : its.length = ds.length := SeqAt.ReadsAll.length ds its as h4
  have hmap : its.map (SeqAt.readOf s.heap) = ds := SeqAt.readsAll_map ds its as c3 h4
  obtain ⟨hjd, _⟩ := List.getElem?_eq_some_iff.mp hz
  have hj : j < its.toArray.size := by simp; omega
  have at_ : ∀ (m : Nat) (hm : m < its.toArray.size) (z' : PyData), ds[m]? = some z' → SeqAt.readOf s.heap its.toArray[m] = z' := by
    intro m hm z' hz'
    have hml : m < its.length := by simpa using hm
    rw [← hmap, List.getElem?_map, List.getElem?_eq_getElem hml] at hz'
    have e1 : SeqAt.readOf s.heap its[m] = z' := Option.some.inj (show some (SeqAt.readOf s.heap its[m]) = some z' from hz')
    simpa using e1
  refine call_meets PySem.F.slot_tuple_index ⟨_, ho, rfl⟩ PySem.F.entry_tuple_index (PySem.F.args_tuple_index_2 _ _)
    (SeqAt.tuple_index2_found a its.toArray n dd sls uy (fun m => PyData.eqv (ds.getD m .none) d) j hj (Nat.zero_le _) hj ?_ ?_) ⟨ho, fun m hm => ?_, ?_⟩
  · show PyData.eqv (ds.getD j .none) d = true
    rw [List.getD_eq_getElem?_getD, hz]; exact hzj
  · intro m hm _ hmj
    have hmd : m < ds.length := by omega
    show PyData.eqv (ds.getD m .none) d = false
    rw [List.getD_eq_getElem?_getD, List.getElem?_eq_getElem hmd]
    exact hno m _ hmj (List.getElem?_eq_getElem hmd)
  · have e := SeqAt.items_eqAt (vs := its.toArray) (show ReadsAll s.heap its.toArray.toList ds as from h4) r1 c3 c1 hroom its.toArray[m] (Array.getElem_mem hm)
    have hmd : m < ds.length := by simp at hm; omega
    rw [at_ m hm _ (List.getElem?_eq_getElem hmd)] at e
    show SeqAt.EqAt _ s its.toArray[m] uy (PyData.eqv (ds.getD m .none) d)
    rw [List.getD_eq_getElem?_getD, List.getElem?_eq_getElem hmd]
    exact e
  · exact ⟨.int (j : Nat), H, I.tok _, ⟨_, rfl⟩, q⟩
def rIdxB (K : PySem.W.Frag) : V → List V → Hp → VK → Prop := fun x xs H Q => ∃ (a : Addr) (ys : List V) (y : V) (d : PyData) (ds : List PyData) (j : Nat), x = .ref a ∧ xs = [y] ∧ SqL K H a ys ∧ DtAll K H ys ds ∧ Dt K H y d ∧ d.canLay0 = true ∧ d.depth ≤ 64 ∧ PyData.canLayAll0 ds = true ∧ ixOf ds d j ∧ Q (.int (j : Nat)) H
theorem mt_idxL (hu : X.A.units + 65 < cLine) : MtR X "list.index" (rIdxB X.K) := by
  intro pins s σ H x xs v us Q I rx rxs h
  obtain ⟨a, ys, y, d, ds, j, rfl, rfl, hs, ta, ty, c1, c2, c3, ⟨z, hz, hzj, hno⟩, q⟩ := h
  cases rx
  obtain ⟨uy, rfl, ry⟩ := vals1 rxs
  obtain ⟨bs, r1⟩ := Dt.reads I d y uy ty ry
  obtain ⟨its, rv, ⟨⟨cls, dd, data, sls⟩, n, ho, hc, hdn, hdt⟩, hlen⟩ := I.list hs
  simp only at hc hdt
  subst hc hdt
  obtain ⟨as, h4⟩ := Dt.readsAll I ds _ its ta rv
  have hroom := room_in (xs := ds) c2 hu
  have hn : its.length = ds.length := SeqAt.ReadsAll.length ds its as h4
  have hmap : its.map (SeqAt.readOf s.heap) = ds := SeqAt.readsAll_map ds its as c3 h4
  obtain ⟨hjd, _⟩ := List.getElem?_eq_some_iff.mp hz
  have hvl := rv.length
  have hsl := sizeLine_eq
  have hj : j < its.toArray.size := by simp; omega
  have at_ : ∀ (m : Nat) (hm : m < its.toArray.size) (z' : PyData), ds[m]? = some z' → SeqAt.readOf s.heap its.toArray[m] = z' := by
    intro m hm z' hz'
    have hml : m < its.length := by simpa using hm
    rw [← hmap, List.getElem?_map, List.getElem?_eq_getElem hml] at hz'
    have e1 : SeqAt.readOf s.heap its[m] = z' := Option.some.inj (show some (SeqAt.readOf s.heap its[m]) = some z' from hz')
    simpa using e1
  refine call_meets PySem.F.slot_list_index ⟨_, ho, rfl⟩ PySem.F.entry_list_index (PySem.F.args_list_index_2 _ _)
    (SeqAt.list_indexAt a its.toArray n dd sls uy (fun u => PyData.eqv (SeqAt.readOf s.heap u) d) j hj (by omega) ?_ ?_) ⟨ho, SeqAt.items_eqAt (vs := its.toArray) (show ReadsAll s.heap its.toArray.toList ds as from h4) r1 c3 c1 hroom, ?_⟩
  · show PyData.eqv (SeqAt.readOf s.heap its.toArray[j]) d = true
    rw [at_ j hj z hz]; exact hzj
  · intro m hm hmj
    have hmd : m < ds.length := by omega
    show PyData.eqv (SeqAt.readOf s.heap its.toArray[m]) d = false
    rw [at_ m hm _ (List.getElem?_eq_getElem hmd)]
    exact hno m _ hmj (List.getElem?_eq_getElem hmd)
  · exact ⟨.int (j : Nat), H, I.tok _, ⟨_, rfl⟩, q⟩
theorem PE.or {t t' : TE} (h : PE X e t) (h' : PE X e t') : PE X e (fun σ H Q => t σ H Q ∨ t' σ H Q) := ⟨fun pins s σ H Q I q => by
  rcases q with q | q
  · exact h.run pins s σ H Q I q
  · exact h'.run pins s σ H Q I q⟩
/-- the type's method, called on a list or a tuple that is known to have no dict -/
def tyN (K : PySem.W.Frag) (T : String) (x : V) (H : Hp) : Prop := ∃ a xs, x = .ref a ∧ ((T = "list" ∧ SqL K H a xs) ∨ (T = "tuple" ∧ SqN H a xs))
theorem tyN_is {pins : List (Addr × Obj)} {σ : L2.St} {H : Hp} {s : Shared} {T : String} {x : V} {v : Value} (I : Inv X pins σ H s) (r : RelV x v) (ty : tyN X.K T x H) : s.TypeIs v T ∧ ∀ a, v = .ref a → ∃ ob, s.heap.get? a = some ob ∧ ob.dict = none := by
  obtain ⟨a, xs, rfl, h | h⟩ := ty
  · obtain ⟨rfl, h⟩ := h
    exact tyV_is I r (.inl ⟨rfl, xs, h⟩)
  · obtain ⟨rfl, ob, e, h1, h2⟩ := h
    cases r
    have := (I.hok a _ e).1
    exact ⟨⟨ob, this, h1⟩, fun b z => by cases z; exact ⟨ob, this, h2⟩⟩
/-- o.m(..), o of one of two types -/
def tBM2 (K : PySem.W.Frag) (T T' : String) (r r' : V → List V → Hp → VK → Prop) (to : TE) (t : TA) : TE := fun σ H Q => to σ H fun x H1 => (tyN K T x H1 ∧ t σ H1 fun xs H2 => r x xs H2 Q) ∨ (tyN K T' x H1 ∧ t σ H1 fun xs H2 => r' x xs H2 Q)
theorem pe_bm2 {o e : Expr} {es : List Expr} {to : TE} {t : TA} {name : Str} {apos cpos : Pos} {T T' id id' : String} {r r' : V → List V → Hp → VK → Prop} (pa : PlainAttrs T) (slot : PySem.Slot T name id) (hty : typeOf (.builtin id) = pure (.type "method_descriptor")) (hm : MtR X id r)
    (pa' : PlainAttrs T') (slot' : PySem.Slot T' name id') (hty' : typeOf (.builtin id') = pure (.type "method_descriptor")) (hm' : MtR X id' r') (ho : PE X o to) (ha : PA X (e :: es) t)
    (hbase : attributeBase o name X.env (eval o X.env) = eval o X.env := by rfl)
    (hfew : ((backTo cpos (starEach (e :: es) X.env)).all (fun x => !x.1) && (backToKw cpos (keywordEach [] X.env)).all (fun x => x.1.isSome) && decide ((e :: es).length + ([] : List Keyword).length + (if ([] : List Keyword).isEmpty then 0 else 1) < 30)) = true := by rfl)
    (hline : (apos.endLine == cpos.line) = true := by rfl) (hs : starEach (e :: es) X.env = (false, eval e X.env) :: starEach es X.env := by rfl) (hplain : (backTo cpos (starEach es X.env)).any (·.1) = false := by rfl) :
    PE X (.Call (.Attribute o name apos) (e :: es) [] cpos) (tBM2 X.K T T' r r' to t) := by
  refine ⟨fun pins s σ H Q I h => ?_⟩
  refine wpAny_Call_method_late hbase hfew hline rfl (thn (ho.run pins s σ H _ I h) fun v s1 ⟨x, H1, I1, r1, q⟩ => ?_)
  have hp : (false || (backTo cpos (starEach es X.env)).any (·.1)) = false := by rw [hplain] <;> rfl
  rcases q with ⟨ty, q1⟩ | ⟨ty, q1⟩
  · obtain ⟨h1, h2⟩ := tyN_is I1 r1 ty
    have hA := ha.run cpos pins s1 σ H1 _ I1 q1
    refine ⟨T, id, pa, slot, hty, h1, h2, ?_⟩
    rw [hs] at hA ⊢
    exact PySem.Calls.callWith_builtin hp (PySem.Calls.evalArgs_plain (thn hA fun us s2 ⟨vs, H2, I2, r2, q2⟩ => hm pins s2 σ H2 x vs v us Q I2 r1 r2 q2))
  · obtain ⟨h1, h2⟩ := tyN_is I1 r1 ty
    have hA := ha.run cpos pins s1 σ H1 _ I1 q1
    refine ⟨T', id', pa', slot', hty', h1, h2, ?_⟩
    rw [hs] at hA ⊢
    exact PySem.Calls.callWith_builtin hp (PySem.Calls.evalArgs_plain (thn hA fun us s2 ⟨vs, H2, I2, r2, q2⟩ => hm' pins s2 σ H2 x vs v us Q I2 r1 r2 q2))
/-- o.m(e): o a list or a tuple, both read as data ahead of the call -/
def m1F (P : PyData → PyData → (Hd → Prop) → Prop) (fo fe : DF) : DF := fun ρ Φ => fo ρ fun x ρ1 => rdP x ρ1 fun dx => seqP dx fun _ => fe ρ1 fun y ρ2 => rdP y ρ2 fun dy => rdP x ρ2 fun dx' => dx' = dx ∧ P dx dy fun h => Φ h ρ2
def isLst : PyData → Bool
  | .list _ => true
  | _ => false
theorem de_index {o : Expr} {fo fe : DF} {apos cpos : Pos} (hu : X.A.units + 65 < cLine) (ho : PE X o (dE X.K fo)) (he : PE X e (dE X.K fe)) (hbase : attributeBase o "index" X.env (eval o X.env) = eval o X.env := by rfl)
    (hfew : ((backTo cpos (starEach [e] X.env)).all (fun x => !x.1) && (backToKw cpos (keywordEach [] X.env)).all (fun x => x.1.isSome) && decide ([e].length + ([] : List Keyword).length + (if ([] : List Keyword).isEmpty then 0 else 1) < 30)) = true := by rfl)
    (hline : (apos.endLine == cpos.line) = true := by rfl) (hs : starEach [e] X.env = (false, eval e X.env) :: starEach [] X.env := by rfl) (hplain : (backTo cpos (starEach [] X.env)).any (·.1) = false := by rfl) :
    PE X (.Call (.Attribute o "index" apos) [e] [] cpos) (dE X.K (m1F indexP fo fe)) := by
  refine PEw (pe_bm2 PySem.F.plainAttrs_list PySem.F.slot_list_index PySem.F.type_list_index (mt_idxL hu) PySem.F.plainAttrs_tuple PySem.F.slot_tuple_index PySem.F.type_tuple_index (mt_idxT hu) ho (pa_cons he pa_nil hs) hbase hfew hline hs hplain) fun σ H Q ⟨B, S, ρ, G, Φ, g, q, k⟩ => ⟨B, S, ρ, G, _, g, q, fun hx vx ρ1 G1 H1 f1 g1 s1 o1 _ => ?_⟩
  obtain ⟨dx, f2, r2⟩ := rd_of g1 o1 f1
  unfold seqP at f2
  split at f2
  · obtain ⟨a, vs, rfl, hl, t⟩ := r2.list g1.ing
    refine .inl ⟨⟨a, vs, rfl, .inl ⟨rfl, .of hl⟩⟩, B, S, ρ1, G1, _, g1, f2, fun hy vy ρ2 G2 H2 f3 g2 s2 o2 _ => ?_⟩
    obtain ⟨dy, f4, r4⟩ := rd_of g2 o2 f3
    obtain ⟨dx', f5, r5⟩ := rd_of g2 (o1.mono s2) f4
    obtain ⟨rfl, ⟨c1, c2, c3⟩, j, hj, f6⟩ := f5
    obtain ⟨a', vs', e', hl', t'⟩ := r5.list g2.ing
    cases e'
    exact ⟨a, vs', vy, dy, _, j, rfl, rfl, .of hl', DtAll.mono g2.ing _ t', r4.now g2.ing, c1, c2, c3, hj, k _ _ ρ2 G2 H2 f6 g2 (s1.trans s2) (Dt.int _) trivial⟩
  · obtain ⟨a, vs, rfl, hl, t⟩ := r2.tuple
    refine .inr ⟨⟨a, vs, rfl, .inr ⟨rfl, hl.mono g1.ing⟩⟩, B, S, ρ1, G1, _, g1, f2, fun hy vy ρ2 G2 H2 f3 g2 s2 o2 _ => ?_⟩
    obtain ⟨dy, f4, r4⟩ := rd_of g2 o2 f3
    obtain ⟨dx', f5, r5⟩ := rd_of g2 (o1.mono s2) f4
    obtain ⟨rfl, ⟨c1, c2, c3⟩, j, hj, f6⟩ := f5
    obtain ⟨a', vs', e', hl', t'⟩ := r5.tuple
    cases e'
    exact ⟨a, vs', vy, dy, _, j, rfl, rfl, (hl'.mono g2.ing).t, DtAll.mono g2.ing _ t', r4.now g2.ing, c1, c2, c3, hj, k _ _ ρ2 G2 H2 f6 g2 (s1.trans s2) (Dt.int _) trivial⟩
  · exact f2.elim
/-! ### tuple * int -/
def rRepN (K : PySem.W.Frag) : R2 := fun x y H Q => ∃ l k xs, x = .ref l ∧ y = .int k ∧ SqT K H l xs ∧ xs ≠ [] ∧ 1 ≤ k ∧ k ≤ 1000 ∧ xs.length ≤ 1000 ∧ (k = 1 → Q (.ref l) H) ∧ (k ≠ 1 → ∀ p ob, TupO ob → H p = none → Q (.ref p) (upd H p (.frz ob (.tup (List.replicate k.toNat xs).flatten))))
theorem tuple_mul1 (l : Addr) (items : Array Value) (n : Nat) (dd : Option Addr) (sl : Array (Option Value)) (u : Tok) :
    Meets (Builtin.«tuple.__mul__» ⟨[.ref l, .int 1 u], []⟩) (fun _ R s => s.heap.get? l = some { cls := .type "tuple", dict := dd, data := .seq items n, slots := sl } ∧ R (.ok (.ret (Value.ref l))) s) :=
  .of_wp fun prog w A R s h => by
    obtain ⟨hp, g, d, tk, os⟩ := s
    obtain ⟨hl, h⟩ := h
    have f1 := AutoSeq1.idx_int
    have c0 : (decide ((1 : Int) < -(2 ^ 63)) || decide ((1 : Int) ≥ 2 ^ 63)) = false := by decide
    have c1 : (items.isEmpty || (1 : Int) == 1) = true := by simp
    wp_walk using wpAny_loadPart' hl
    repeat (first
      | (refine wpAny_ite_false (decide_eq_false (by rw [c0]; exact Bool.false_ne_true)) ?_; wp_walk using wpAny_loadPart' hl)
      | (refine wpAny_ite_true (decide_eq_true (by rw [c1])) ?_; wp_walk using wpAny_loadPart' hl)
      | (refine wpAny_ite_true c1 ?_; wp_walk using wpAny_loadPart' hl))
    exact ⟨_, rfl, h⟩
theorem op_repN : OpR X (binaryOp .Mult) (rRepN X.K) := by
  intro pins s σ H x y v u Q I rx ry h
  obtain ⟨l, k, xs, rfl, rfl, hT, hne, h1, h2, hz, q1, q2⟩ := h
  cases rx
  obtain ⟨t, rfl⟩ := ry
  obtain ⟨its, r, ⟨⟨cls, dd, data, sl⟩, ho, hc, n, hd⟩, hs⟩ := I.tuple hT
  simp only at hc hd
  subst hc hd
  have hle : its.length = xs.length := r.length.symm
  have hn : its ≠ [] := fun e => hne (by
    rw [e] at hle
    exact List.eq_nil_of_length_eq_zero hle.symm)
  by_cases hk : k = 1
  · subst hk
    refine wpAny_binaryOp_repeat_ref (T := "tuple") (U := "int") (by decide) ⟨_, ho, rfl⟩ (fun s' => typeIs_int s' 1 t) noFill_tuple_mul PySem.F.fills_int_mul PySem.F.slot_int_rmul repeat_tuple PySem.F.slot_int_index.lookup
      (call_meets PySem.F.slot_int_rmul (typeIs_int s 1 t) PySem.F.entry_int_rmul (PySem.F.args_int_rmul_2 _ _) (int_rmul_tuple 1 t l its.toArray n dd sl)
        ⟨ho, rfl, ⟨_, ho, rfl⟩, call_meets PySem.F.slot_tuple_mul ⟨_, ho, rfl⟩ PySem.F.entry_tuple_mul (PySem.F.args_tuple_mul_2 _ _) (tuple_mul1 l its.toArray n dd sl t) ⟨ho, ?_⟩⟩)
    exact ⟨.ref l, H, I, rfl, q1 rfl⟩
  have hi : its.toArray.isEmpty = false := by
    cases its with
    | nil => exact absurd rfl hn
    | cons a b => rfl
  have hsz0 : its.toArray.size = xs.length := by rw [List.size_toArray, hle]
  have hm : ((its.toArray.size : Nat) : Int) * k ≤ 1000000 := by
    rw [hsz0]
    have a1 : ((xs.length : Nat) : Int) * k ≤ 1000 * k := Int.mul_le_mul_of_nonneg_right (by omega) (by omega)
    omega
  have flen : (List.replicate k.toNat its).flatten.length ≤ sizeLine := by
    rw [PyProof.Rows.lm_len_rep_flat, hle, sizeLine_eq]
    have a1 : k.toNat * xs.length ≤ 1000 * 1000 := Nat.mul_le_mul (by omega) hz
    omega
  have c0 : (decide (k < -(2 ^ 63)) || decide (k ≥ 2 ^ 63)) = false := by
    rw [decide_eq_false (by omega), decide_eq_false (by omega)] <;> rfl
  have c1 : (its.toArray.isEmpty || k == 1) = false := by
    rw [hi, Bool.false_or]
    exact beq_eq_false_iff_ne.mpr hk
  have c2 : (decide (k ≤ 0) || its.toArray.isEmpty) = false := by
    rw [hi, Bool.or_false]
    exact decide_eq_false (by omega)
  have c4 : Builtin.Tuple.tupleTooMany (((its.toArray.size : Nat) : Int) * k) = false := by
    unfold Builtin.Tuple.tupleTooMany
    rw [sizeLine_eq]
    exact decide_eq_false (by omega)
  refine wpAny_binaryOp_repeat_ref (T := "tuple") (U := "int") (by decide) ⟨_, ho, rfl⟩ (fun s' => typeIs_int s' k t) noFill_tuple_mul PySem.F.fills_int_mul PySem.F.slot_int_rmul repeat_tuple PySem.F.slot_int_index.lookup
    (call_meets PySem.F.slot_int_rmul (typeIs_int s k t) PySem.F.entry_int_rmul (PySem.F.args_int_rmul_2 _ _) (int_rmul_tuple k t l its.toArray n dd sl)
      ⟨ho, rfl, ⟨_, ho, rfl⟩, call_meets PySem.F.slot_tuple_mul ⟨_, ho, rfl⟩ PySem.F.entry_tuple_mul (PySem.F.args_tuple_mul_2 _ _) (tuple_mulW l its.toArray n dd sl k t c0 c1 c2 (by omega) c4 (by rw [size_rep, List.size_toArray]; exact flen)) ⟨ho, ?_⟩⟩)
  rw [size_rep]
  exact laid_tup I (by rw [PyProof.Rows.lm_len_rep_flat, sizeLine_eq]; have a1 : k.toNat * xs.length ≤ 1000 * 1000 := Nat.mul_le_mul (by omega) hz; omega) (r.rep k.toNat) (q2 hk)
def mulNP (x y : PyData) (k : Hd → Prop) : Prop := match x, y with
  | .int i, .int j => CMulX i j ∧ k (.val (.int (i * j)))
  | .list xs, .int n => (-(2 ^ 63) ≤ n ∧ n < 2 ^ 63 ∧ xs.length * n.toNat ≤ sizeLine) ∧ k (.new (List.replicate n.toNat xs).flatten)
  | .tuple xs, .int n => (xs ≠ [] ∧ 1 ≤ n ∧ n ≤ 1000 ∧ xs.length ≤ 1000) ∧ k (.val (.tuple (List.replicate n.toNat xs).flatten))
  | _, _ => False
def rMulN (K : PySem.W.Frag) : R2 := fun x y H Q => rI CMulX (fun i j => .int (i * j)) x y H Q ∨ rRep x y H Q ∨ rRepN K x y H Q
theorem o_mulN : OpR X (binaryOp .Mult) (rMulN X.K) := op_mulX.or (op_rep.or op_repN)
theorem p_mulN : Op2 K (rMulN K) mulNP := fun x y dx dy G H Φ Q e rx ry p o => by
  unfold mulNP at p
  split at p
  · exact .inl ⟨_, _, rd_int rx, rd_int ry, p.1, o.val e p.2 (.int _)⟩
  · obtain ⟨a, vs, rfl, ha, ta⟩ := rx.list e
    exact .inr (.inl ⟨a, _, vs, rfl, rd_int ry, ha, p.1.1, p.1.2.1, by rw [ta.length]; exact p.1.2.2, fun q hq => o.newL e p.2 (ta.rep _) hq⟩)
  · obtain ⟨a, vs, rfl, ha, ta⟩ := rx.tuple
    obtain ⟨⟨p1, p2, p3, p4⟩, p5⟩ := p
    refine .inr (.inr ⟨a, _, vs, rfl, rd_int ry, (ha.mono e).t, ?_, p2, p3, by rw [ta.length]; exact p4, fun z => ?_, fun _ q ob ho hq => o.tup e p5 (ta.rep _) ho hq⟩)
    · intro z; subst z; cases ta; exact p1 rfl
    · subst z
      have one : ∀ l : List PyData, (List.replicate (1 : Int).toNat l).flatten = l := fun l => by
        show (List.replicate 1 l).flatten = l
        rw [List.replicate_one, List.flatten_singleton]
      rw [one] at p5
      exact o.val e p5 (.tup ha ta)
  · exact p.elim
end
end Dat


set_option Elab.async false
set_option linter.all false
set_option maxRecDepth 100000
set_option maxHeartbeats 4000000
/-! DatX: a list of lists of one's own: rows = [[], []], rows[k].append(e). -/
namespace Dat
open PySem L2
section
variable {K : PySem.W.Frag} {B : Hp × Hp} {S : Sr} {ρ ρ' ρ1 ρ2 : Rho} {σ σ' : St} {G H G' H' G1 H1 G2 H2 : Hp}
theorem set_self {α : Type} : ∀ {l : List α} {i : Nat} {x : α}, l[i]? = some x → l.set i x = l
  | [], _, _, h => by simp at h
  | y :: l, 0, x, h => by simp at h; subst h; rfl
  | y :: l, i + 1, x, h => by
    rw [List.set_cons_succ, set_self (by simpa using h)]
/-- something of nobody's comes to be slot i's -/
theorem Good.install (g : Good K B S ρ σ G H) {i : Nat} {a : Addr} {x : Slot} (ev : σ[i]? = some (some (.ref a))) (h : SlotOk K B S G H (some (some (.ref a))) x) (hn : ∀ b, Foot H (some (some (.ref a))) x b → ¬Own ρ σ H b) : Good K B S (ρ.set i x) σ G H := by
  have := g.store (i := i) h hn
  rwa [set_self ev] at this
theorem Cells.get {bs : List Addr} {xss : List (List PyData)} (h : Cells K G H bs xss) : ∀ {m : Nat} {b : Addr}, bs[m]? = some b → ∃ us xs, xss[m]? = some xs ∧ H b = some (.lst us) ∧ DtAll K G us xs := by
  induction h with
  | nil => intro m b e; simp at e
  | cons h1 h2 _ ih =>
    intro m b e
    cases m with
    | zero => simp at e; subst e; exact ⟨_, _, rfl, h1, h2⟩
    | succ m => simpa using ih (by simpa using e)
theorem Cells.len {bs : List Addr} {xss : List (List PyData)} (h : Cells K G H bs xss) : bs.length = xss.length := by
  induction h with
  | nil => rfl
  | cons _ _ _ ih => simp [ih]
/-- one of the lists changes -/
theorem Cells.put {bs : List Addr} {xss : List (List PyData)} (h : Cells K G H bs xss) (hn : bs.Nodup) : ∀ {m : Nat} {b : Addr} {us : List V} {xs : List PyData}, bs[m]? = some b → DtAll K G us xs → Cells K G (upd H b (.lst us)) bs (xss.set m xs) := by
  induction h with
  | nil => intro m b us xs e; simp at e
  | cons h1 h2 h3 ih =>
    rename_i c bs ws ys xss
    intro m b us xs e t
    obtain ⟨n1, n2⟩ := List.nodup_cons.mp hn
    cases m with
    | zero =>
      simp at e; subst e
      exact .cons upd_same t (h3.mv (Same.refl G) fun d hd o q => by rw [upd_ne (fun z => n1 (by rw [← z]; exact hd))]; exact q)
    | succ m =>
      have e' : bs[m]? = some b := by simpa using e
      have hb : b ∈ bs := List.mem_of_getElem? e'
      exact .cons (by rw [upd_ne (fun z => n1 (by rw [z]; exact hb))]; exact h1) h2 (ih n2 e' t)
end
def obAt (ρ : Rho) (i : Nat) (N : List (List PyData) → Prop) : Prop := match ρ[i]? with
  | some (.ob (.lsts xss)) => N xss
  | _ => False
theorem obAt_ok {ρ : Rho} {i : Nat} {N : List (List PyData) → Prop} (h : obAt ρ i N) : ∃ xss, ρ[i]? = some (.ob (.lsts xss)) ∧ N xss := by
  unfold obAt at h
  split at h
  · rename_i ds e; exact ⟨ds, e, h⟩
  · exact h.elim
def unAt (ρ : Rho) (i : Nat) (N : Prop) : Prop := match ρ[i]? with
  | some .un => N
  | _ => False
theorem unAt_ok {ρ : Rho} {i : Nat} {N : Prop} (h : unAt ρ i N) : ρ[i]? = some .un ∧ N := by
  unfold unAt at h
  split at h
  · rename_i e; exact ⟨e, h⟩
  · exact h.elim
def intPk (d : PyData) (k : Int → Prop) : Prop := match d with
  | .int j => k j
  | _ => False
/-- xs[k].append(e): the lists are set aside while k and e are reckoned -/
def appAtF (i : Nat) (fk f : DF) : SF := fun ρ k => obAt ρ i fun xss => fk (ρ.set i .un) fun hk ρ1 => rdP hk ρ1 fun dk => intPk dk fun j => unAt ρ1 i (∃ m, ixN xss.length j = some m ∧ f ρ1 fun h ρ2 => datOf h ρ2 fun d ρ3 => unAt ρ3 i (∃ ys, xss[m]? = some ys ∧ ys.length < sizeLine ∧ k.nx (ρ3.set i (.ob (.lsts (xss.set m (ys ++ [d])))))))
def ll2F (i : Nat) : SF := fun ρ k => k.nx (ρ.set i (.ob (.lsts [[], []])))
section
variable {X : Cx} {e ek : Expr} {pos p sp apos cpos p1 p2 p3 : Pos} {f fk : DF} {x : Str}
theorem ds_ll2 (i : Nat) {pos' : Pos} (hN : X.N.Nodup) (hi : X.N[i]? = some x := by rfl) (hx : Loc X.env.scope x := by first | exact Or.inl rfl | exact Or.inr rfl) (hs : swapsWith (.List [.List [] p1, .List [] p2] p3) (some (.Name x pos')) pos.line X.env = pure false := by rfl) (hf : X.fn x = true ∨ X.env.scope.names.lookup x = some .local := by first | exact .inl rfl | exact .inr rfl | assumption)
    (h1 : starEach [.List [] p1, .List [] p2] X.env = (false, eval (.List [] p1) X.env) :: starEach [.List [] p2] X.env := by rfl) (h2 : starEach [.List [] p2] X.env = (false, eval (.List [] p2) X.env) :: starEach [] X.env := by rfl) :
    PS X (.Assign [.Name x pos'] (.List [.List [] p1, .List [] p2] p3) pos) (dS X.K (ll2F i)) :=
  PSw (ps_set hN hi hx (pe_lst (pa_cons (pe_lst pa_nil) (pa_cons (pe_lst pa_nil) pa_nil h2) h1)) hs hf) fun D σ H ⟨B, S, ρ, G, k, g, q, d⟩ => by
    refine ⟨Nat.zero_le _, fun b1 hb1 => ⟨Nat.zero_le _, fun b2 hb2 => ⟨show 2 ≤ sizeLine by decide, fun a ha => ?_⟩⟩⟩
    have n1 := Nst.lay (o := .lst []) g.ing hb1
    have g1 := g.nst n1
    have n2 := Nst.lay (o := .lst []) g1.ing hb2
    have g2 := g1.nst n2
    have n3 := Nst.lay (o := .lst [.ref b1, .ref b2]) g2.ing ha
    have g3 := g2.nst n3
    have e12 : b1 ≠ b2 := fun z => by rw [← z, upd_same] at hb2; cases hb2
    have eb1 : (upd (upd H b1 (.lst [])) b2 (.lst [])) b1 = some (.lst []) := by rw [upd_ne e12, upd_same]
    have ea1 : b1 ≠ a := ne_of_none eb1 ha
    have ea2 : b2 ≠ a := ne_of_none upd_same ha
    have cl : ∀ b ∈ [a, b1, b2], Cell B S G b ∧ ¬Own ρ σ (upd (upd (upd H b1 (.lst [])) b2 (.lst [])) a (.lst [.ref b1, .ref b2])) b := fun b hb => by
      have own : ∀ c, Own ρ σ (upd (upd (upd H b1 (.lst [])) b2 (.lst [])) a (.lst [.ref b1, .ref b2])) c → Own ρ σ H c := fun c o => ((o.back g2 fun b o _ q => n3.hxt b o q).back g1 fun b o _ q => n2.hxt b o q).back g fun b o _ q => n1.hxt b o q
      have hH : H b = none := by
        rcases List.mem_cons.mp hb with rfl | hb
        · have : H b = none := by
            cases z : H b with
            | none => rfl
            | some o =>
              have := n2.hxt _ _ (n1.hxt _ _ z)
              rw [this] at ha; cases ha
          exact this
        · rcases List.mem_cons.mp hb with rfl | hb
          · exact hb1
          · rcases List.mem_cons.mp hb with rfl | hb
            · cases z : H b with
              | none => rfl
              | some o =>
                have := n1.hxt _ _ z
                rw [this] at hb2; cases hb2
            · cases hb
      obtain ⟨f1, f2, f3⟩ := g.fresh2 hH
      exact ⟨⟨g.ing.free hH, f1, f2⟩, fun o => f3 (own b o)⟩
    have nd : [a, b1, b2].Nodup := by simp [ea1.symm, ea2.symm, e12]
    refine d.nx _ _ G _ q (g3.store (x := .ob (.lsts [[], []])) ⟨a, rfl, [b1, b2], upd_same, ?_, nd, fun b hb => (cl b hb).1⟩ fun b ⟨a', e', f'⟩ => ?_)
    · exact .cons (by rw [upd_ne ea1]; exact eb1) .nil (.cons (by rw [upd_ne ea2]; exact upd_same) .nil .nil)
    · cases e'
      rcases f' with rfl | ⟨vs, h3, h4⟩
      · exact (cl b (List.mem_cons_self ..)).2
      · rw [upd_same] at h3; cases h3
        have h4' : b ∈ [b1, b2] := by simpa using h4
        exact (cl b (List.mem_cons_of_mem _ h4')).2
theorem ds_appAt (i : Nat) (hk : PE X ek (dE X.K fk)) (he : PE X e (dE X.K f)) (hN : X.N[i]? = some x := by rfl) (hv : Vis X.env.scope x := by first | exact Or.inl rfl | exact Or.inr (Or.inl rfl) | exact Or.inr (Or.inr rfl)) (hd : (x == ("__debug__" : Str)) = false := by decide) (hcd : (x == ("__classdict__" : Str)) = false := by decide)
    (hix : PlainIx ek := by exact fun _ _ => rfl)
    (hbase : attributeBase (.Subscript (.Name x p) ek sp) "append" X.env (eval (.Subscript (.Name x p) ek sp) X.env) = eval (.Subscript (.Name x p) ek sp) X.env := by rfl)
    (hfew : ((backTo cpos (starEach [e] X.env)).all (fun x => !x.1) && (backToKw cpos (keywordEach [] X.env)).all (fun x => x.1.isSome) && decide ([e].length + ([] : List Keyword).length + (if ([] : List Keyword).isEmpty then 0 else 1) < 30)) = true := by rfl)
    (hline : (apos.endLine == cpos.line) = true := by rfl) (hs : starEach [e] X.env = (false, eval e X.env) :: starEach [] X.env := by rfl) (hplain : (backTo cpos (starEach [] X.env)).any (·.1) = false := by rfl)
    (hsw : swapsWith (.Call (.Attribute (.Subscript (.Name x p) ek sp) "append" apos) [e] [] cpos) none pos.line X.env = pure false := by rfl) :
    PS X (.Expr (.Call (.Attribute (.Subscript (.Name x p) ek sp) "append" apos) [e] [] cpos) pos) (dS X.K (appAtF i fk f)) :=
  PSw (ps_expr (pe_bm PySem.F.plainAttrs_list PySem.F.slot_list_append PySem.F.type_list_append mt_append (pe_ix ix_list (pe_var hN hv hd hcd) hk hix) (pa_cons (de_data he) pa_nil hs) hbase hfew hline hs hplain) hsw) fun D σ H ⟨B, S, ρ, G, k, g, q, d⟩ => by
    obtain ⟨xss, e0, q⟩ := obAt_ok q
    obtain ⟨a, e1, bs, h1, h2, h3, h4⟩ := g.sl i _ e0
    have g0 : Good X.K B S (ρ.set i .un) σ G H := g.slot trivial nf_un
    have ft : ∀ b ∈ a :: bs, Foot H σ[i]? (.ob (.lsts xss)) b := fun b hm => by
      rcases List.mem_cons.mp hm with rfl | hm
      · exact ⟨b, e1, .inl rfl⟩
      · exact ⟨a, e1, .inr ⟨_, h1, ref_mem.mpr hm⟩⟩
    have no0 : ∀ b ∈ a :: bs, ¬Own (ρ.set i .un) σ H b := fun b hm => own_let g e0 (ft b hm)
    refine ⟨_, e1, B, S, _, G, _, g0, q, fun hk' vk ρ1 G1 H1 f1 g1 s1 o1 _ => ?_⟩
    obtain ⟨dk, f2, r2⟩ := rd_of g1 o1 f1
    unfold intPk at f2
    split at f2
    · rename_i j
      have := rd_int r2
      subst this
      obtain ⟨u1, m, hm, f3⟩ := unAt_ok f2
      have kept : ∀ b ∈ a :: bs, ∀ o, H b = some o → H1 b = some o := fun b hb o q => s1.pre b o (h4 b hb).2.2 (no0 b hb) q
      have h1' := kept a (List.mem_cons_self ..) _ h1
      have hl := h2.len
      have hmb : m < bs.length := by
        have := (ixN_seq hm).2.1
        omega
      have eb : bs[m]? = some bs[m] := List.getElem?_eq_getElem hmb
      obtain ⟨us, ys0, e2, hb, tb⟩ := h2.get eb
      have hbm : bs[m] ∈ a :: bs := List.mem_cons_of_mem _ (List.getElem_mem hmb)
      have hb1 := kept _ hbm _ hb
      have cell1 : ∀ b ∈ a :: bs, Cell B S G1 b := fun b hb' => by
        obtain ⟨c1, c2, c3⟩ := h4 b hb'
        refine ⟨s1.out b c1 ?_ c3 (no0 b hb'), c2, c3⟩
        rcases List.mem_cons.mp hb' with rfl | hb'
        · rw [h1]; exact fun z => nomatch z
        · obtain ⟨o, ho⟩ := h2.there b hb'
          rw [ho]; exact fun z => nomatch z
      have no1 : ∀ b ∈ a :: bs, ¬Own ρ1 σ H1 b := fun b hb' o => no0 b hb' (s1.sub b o)
      have c1 : Cells X.K G1 H1 bs xss := h2.mv s1.ext fun b hb' o q => kept b (List.mem_cons_of_mem _ hb') o q
      refine ⟨a, bs.map V.ref, j, .ref bs[m], rfl, rfl, .of h1', ?_, .inl ⟨rfl, us, .of hb1⟩, B, S, ρ1, G1, _, g1, f3, fun y v ρ3 G3 H3 f4 g3 s3 t3 => ?_⟩
      · unfold L2.atI
        rw [List.length_map, hl, hm]
        show (bs.map V.ref)[m]? = _
        rw [List.getElem?_map, eb]; rfl
      obtain ⟨u3, ys, e5, hz, f5⟩ := unAt_ok f4
      rw [e2] at e5
      have e6 := Option.some.inj e5
      subst e6
      have kept3 : ∀ b ∈ a :: bs, ∀ o, H1 b = some o → H3 b = some o := fun b hb' o q => s3.pre b o (cell1 b hb').2.2 (no1 b hb') q
      have cell3 : ∀ b ∈ a :: bs, Cell B S G3 b := fun b hb' => by
        obtain ⟨c1', c2, c3⟩ := cell1 b hb'
        refine ⟨s3.out b c1' ?_ c3 (no1 b hb'), c2, c3⟩
        rcases List.mem_cons.mp hb' with rfl | hb'
        · rw [h1']; exact fun z => nomatch z
        · obtain ⟨o, ho⟩ := c1.there b hb'
          rw [ho]; exact fun z => nomatch z
      have no3 : ∀ b ∈ a :: bs, ¬Own ρ3 σ H3 b := fun b hb' o => no1 b hb' (s3.sub b o)
      have c3 : Cells X.K G3 H3 bs xss := c1.mv s3.ext fun b hb' o q => kept3 b (List.mem_cons_of_mem _ hb') o q
      have hb3 := kept3 _ hbm _ hb1
      have tb3 : DtAll X.K G3 us ys0 := DtAll.mono (s1.ext.trans s3.ext) _ tb
      obtain ⟨d1, d2, d3⟩ := cell3 _ hbm
      have gm := g3.mut (o := .lst (us ++ [v])) d1 d2 d3 (no3 _ hbm)
      obtain ⟨na, nb⟩ := List.nodup_cons.mp h3
      have hab : a ≠ bs[m] := fun z => na (by rw [z]; exact List.getElem_mem hmb)
      have ha3 : upd H3 bs[m] (.lst (us ++ [v])) a = some (.lst (bs.map V.ref)) := by rw [upd_ne hab]; exact kept3 a (List.mem_cons_self ..) _ h1'
      refine ⟨bs[m], us, v, rfl, rfl, hb3, by rw [tb3.length]; exact hz, d.nx _ σ G3 _ f5 (gm.install e1 (x := .ob (.lsts (xss.set m (ys0 ++ [y])))) ⟨a, rfl, bs, ha3, c3.put nb eb (tb3.append (.one t3)), h3, cell3⟩ fun b ⟨a', e', f'⟩ o => ?_)⟩
      have hbb : b ∈ a :: bs := by
        cases e'
        rcases f' with rfl | ⟨vs, h5, h6⟩
        · exact List.mem_cons_self ..
        · rw [ha3] at h5; cases h5
          exact List.mem_cons_of_mem _ (ref_mem.mp h6)
      refine no3 b hbb (o.back g3 fun c u f q => ?_)
      rw [upd_ne (fun z : c = bs[m] => no3 _ hbm (by rw [← z]; exact f))]; exact q
    · exact f2.elim
end
end Dat


set_option Elab.async false
set_option linter.all false
set_option maxRecDepth 100000
set_option maxHeartbeats 4000000
/-! DatY: len({x: True for x in e}). -/
namespace Dat
open PySem L2
def kvI (ns : List Int) : List (Key × V) := ns.foldl (fun kvs n => putK kvs (Sum.inl n) (.bl true)) []
/-- how many different ones -/
def diff (ns : List Int) : Nat := (kvI ns).length
def lenDcF (i : Nat) (it : IF) (vs : List Nat) : DF := fun ρ Φ => it ρ fun c xs ρ1 => c = .free ∧ i < ρ1.length ∧ ∃ ns : List Int, xs = ns.map PyData.int ∧ ns.length < sizeLine ∧ Φ (.val (.int (diff ns))) (clr vs ρ1)
theorem kvI_le (ns : List Int) : (kvI ns).length ≤ ns.length := by
  have : ∀ (ns : List Int) (kvs : List (Key × V)), (ns.foldl (fun kvs n => putK kvs (Sum.inl n) (.bl true)) kvs).length ≤ kvs.length + ns.length := fun ns => by
    induction ns with
    | nil => intro kvs; exact Nat.le_refl _
    | cons n ns ih =>
      intro kvs
      have h1 := ih (putK kvs (Sum.inl n) (.bl true))
      have h2 := length_putK kvs (Sum.inl n) (.bl true)
      rw [List.foldl_cons, List.length_cons]
      omega
  have := this ns []
  rw [List.length_nil, Nat.zero_add] at this
  exact this
theorem kvI_snoc (ns : List Int) (n : Int) : kvI (ns ++ [n]) = putK (kvI ns) (Sum.inl n) (.bl true) := by unfold kvI; rw [List.foldl_append]; rfl
section
variable {K : PySem.W.Frag} {B : Hp × Hp} {S : Sr} {ρ : Rho} {σ : St} {G H : Hp}
theorem clr_foot {vs : List Nat} {i : Nat} {x : Slot} {v : Option (Option V)} {b : Addr} (h : (clr vs ρ)[i]? = some x) (f : Foot H v x b) : ρ[i]? = some x := by
  rcases clr_get h with rfl | ⟨z, _⟩
  · exact f.elim
  · exact z
theorem own_clrs {vs : List Nat} {a : Addr} (h : Own (clr vs ρ) σ H a) : Own ρ σ H a := let ⟨i, x, e, f⟩ := h; ⟨i, x, clr_foot e f, f⟩
/-- slots are let go -/
theorem Good.offB (g : Good K B S ρ σ G H) (vs : List Nat) : Good K B S (clr vs ρ) σ G H := by
  refine ⟨g.ing, g.reg, g.ext, g.out, g.pre, by rw [clr_len]; exact g.len, fun i x e => ?_, fun i j x y a e1 e2 f1 f2 => g.sep i j x y a (clr_foot e1 f1) (clr_foot e2 f2) f1 f2⟩
  rcases clr_get e with rfl | ⟨z, _⟩
  · trivial
  · exact g.sl i x z
end
section
variable {X : Cx} {iter : Expr} {scope : Scope} {own : List (Str × Nat)} {pos dpos p p1 p2 p3 : Pos} {jj : Nat} {x : Str} {it : IF}
theorem de_lenDc (i : Nat) (hm : X.mg "len" = none) (hc : X.calm = true) (hN : X.N.Nodup) (hi : PI X (.Name x p1) iter (dI X.K false it)) (ok : blkC X.N X.env.scope scope own = true) (hin : i ∈ own.map (·.2)) (hx : X.N[i]? = some x := by rfl)
    (hv : ∀ (s : Shared) (H : Hp) (C : Addr) (cl : List (Str × Addr)) (fp : List Addr), Vis (X.blk s H scope (compEnvC scope cl C X.env) fp).env.scope x := by first | (intro _ _ _ _ _; exact Or.inl rfl) | (intro _ _ _ _ _; exact Or.inr (Or.inl rfl)))
    (hlo : ∀ (s : Shared) (H : Hp) (C : Addr) (cl : List (Str × Addr)) (fp : List Addr), Loc (X.blk s H scope (compEnvC scope cl C X.env) fp).env.scope x := by first | (intro _ _ _ _ _; exact Or.inl rfl) | (intro _ _ _ _ _; exact Or.inr rfl))
    (hf : ∀ (s : Shared) (H : Hp) (C : Addr) (cl : List (Str × Addr)) (fp : List Addr), (X.blk s H scope (compEnvC scope cl C X.env) fp).fn x = true ∨ (X.blk s H scope (compEnvC scope cl C X.env) fp).env.scope.names.lookup x = some .local := by first | (intro _ _ _ _ _; exact .inl rfl) | (intro _ _ _ _ _; exact .inr rfl))
    (hd : (x == ("__debug__" : Str)) = false := by decide) (hcd : (x == ("__classdict__" : Str)) = false := by decide) (hs : ∀ x, foldedSetIterable iter X.env x = pure x := by intro _; rfl) (hg : Gl X "len" := by rfl)
    (h1 : starEach [.DictComp (.Name x p2) (.Constant (.bool true) jj p3) [⟨.Name x p1, iter, [], 0⟩] scope dpos] X.env = (false, eval (.DictComp (.Name x p2) (.Constant (.bool true) jj p3) [⟨.Name x p1, iter, [], 0⟩] scope dpos) X.env) :: starEach [] X.env := by rfl) (hpl : (backTo pos (starEach [] X.env)).any (·.1) = false := by rfl) :
    PE X (.Call (.Name "len" p) [.DictComp (.Name x p2) (.Constant (.bool true) jj p3) [⟨.Name x p1, iter, [], 0⟩] scope dpos] [] pos) (dE X.K (lenDcF i it (own.map (·.2)))) :=
  PEw (pe_callB call_lenD hg hm PySem.boot_len (pa_cons (pe_dc hc hN hi (blkOk_by ok) (fun s H C cl fp => pg_name (i := i) hN hx (hlo s H C cl fp) (hf s H C cl fp)) (fun _ _ _ _ _ => pts_nil) (fun s H C cl fp => pe_var (i := i) hx (hv s H C cl fp) hd hcd) (fun _ _ _ _ _ => pe_bl) hs) pa_nil h1) (by decide) (by decide) h1 hpl) fun σ H Q ⟨B, S, ρ, G, Φ, g, q, k⟩ => ⟨B, S, ρ, G, _, g, q, fun c xs ρ1 G1 H1 J ⟨hc', hil, ns, hns, hz, f1⟩ g1 s1 ⟨GW, Y, w, hG, hY⟩ D hD => by
    subst hc' hns
    have gw := g1.toBlk (own.map (·.2))
    have hlen : (ns.map PyData.int).length = ns.length := List.length_map ..
    have lay := Nst.lay (o := .dK []) g1.ing hD
    refine ⟨fun i m H => i ≤ ns.length ∧ m = ns.length - i ∧ ∃ G', Nst G1 H1 G' H ∧ G' D = none ∧ H D = some (.dK (kvI (ns.take i))), ⟨_, Nat.zero_le _, rfl, G1, lay, g1.ing.free hD, upd_same⟩, fun j m H2 ⟨hj, hm', G2, n2, d2, e2⟩ => ?_⟩
    have g2 := gw.nst n2
    have hGW := hG _ _ G2 H2 g2 n2.ext trivial trivial
    by_cases hjn : j < ns.length
    · refine .inr ⟨w.goes j H2 (by rw [hlen]; exact hjn) hGW, fun H' => ∃ G', Nst G1 H1 G' H' ∧ G' D = none ∧ H' D = some (.dK (kvI (ns.take (j + 1)))), fun H' h => ⟨_, by omega, hjn, rfl, h⟩, fun y H3 hy => ?_⟩
      obtain ⟨dx, G3, hx', n3, t3⟩ := hY j y _ _ G2 H2 H3 (by rw [hlen]; exact hjn) g2 n2.ext trivial trivial (w.yields j H2 y H3 (by rw [hlen]; exact hjn) hGW hy)
      rw [List.getElem?_map, List.getElem?_eq_getElem hjn] at hx'
      cases hx'
      have t3 := t3.f
      cases t3
      have d3 : G3 D = none := n3.out D d2 (by rw [e2]; exact fun z => nomatch z)
      have e3 := n3.hxt D _ e2
      have hw : ((wipe σ (own.map (·.2))).set i (some (.int ns[j])))[i]? = some (some (.int ns[j])) := List.getElem?_set_self (by rw [wipe_length, ← g1.len]; exact hil)
      refine ⟨(wipe_set hin).trans (wipe_twice σ _), ?_⟩
      refine ⟨.int ns[j], hw, _, Sum.inl ns[j], rfl, e3, ?_, G3, ⟨n2.ext.trans n3.ext, fun a o q => ?_, fun a o q => ?_, fun a h1 h2 => ?_⟩, d3, ?_⟩
      · have := kvI_le (ns.take j)
        rw [List.length_take] at this
        omega
      · rw [upd_ne (ne_of_none q hD)]; exact n3.hxt a o (n2.hxt a o q)
      · rw [upd_ne (fun z => by subst z; rw [d3] at q; cases q)]; exact n3.ing a o q
      · refine n3.out a (n2.out a h1 h2) ?_
        cases e : H1 a with
        | none => exact absurd e h2
        | some o => rw [n2.hxt a o e]; exact fun z => nomatch z
      · rw [upd_same, List.take_succ_eq_append_getElem hjn, kvI_snoc]
    · have hjn : j = ns.length := by omega
      subst hjn
      refine .inl ⟨by have := w.stops H2 hGW; rwa [hlen] at this, D, _, rfl, e2, ?_⟩
      rw [List.take_length]
      have gf : Good X.K B S (clr (own.map (·.2)) ρ1) σ G2 H2 := (g1.nst n2).offB (own.map (·.2))
      refine k _ _ _ G2 H2 f1 gf (s1.trans ⟨n2.ext, fun a h1 h2 _ _ => n2.out a h1 h2, fun a o _ _ h => n2.hxt a o h, fun a o => ?_, fun a h => gf.reg.g h, fun a h => ?_⟩) (Dt.int _) trivial
      · exact (own_clrs o).back g1 fun b o _ q => n2.hxt b o q
      · cases e : H1 a with
        | none => exact absurd e h
        | some o => rw [n2.hxt a o e]; exact fun z => nomatch z⟩
end
end Dat


set_option Elab.async false
set_option linter.all false
set_option maxRecDepth 100000
set_option maxHeartbeats 4000000
/-! DatZ: list(zip(a, b)). -/
namespace Dat
open PySem L2 PySem.W
section
variable {prog : Program} {w : World} {A : Around} {E : Value → Shared → Prop} {s : Shared} {z TI TO T i1 i2 : Addr} {fp1 fp2 : List Addr} {n1 n2 i : Nat} {P1 P2 : Nat → Value → Prop} {St1 St2 : Nat → Heap → Prop} {f : Bool} {oT : Obj}
/-- the next pair of a zip whose tuple is still out -/
theorem held_item {Q : Value → Shared → Prop} (S : ZipSep2 z TI TO i1 i2 fp1 fp2) (D1 : Draws prog w A i1 fp1 n1 P1 St1) (D2 : Draws prog w A i2 fp2 n2 P2 St2)
    (hz : IsZipHeld s.heap z TI TO T f) (hT : s.heap.get? T = some oT) (hTI : IsTupOf2 s.heap TI (.ref i1) (.ref i2)) (st1 : St1 i s.heap) (st2 : St2 i s.heap) (l1 : i < n1) (l2 : i < n2)
    (hQ : ∀ x y h' tk, P1 i x → P2 i y → IsZipHeld h' z TI TO T true → St1 (i + 1) h' → St2 (i + 1) h' → IsTupOf2 h' s.heap.objs.size x y → h'.objs.size = s.heap.objs.size + 1 → (∀ c o, c ≠ z → c ≠ i1 → c ≠ i2 → s.heap.get? c = some o → h'.get? c = some o) → Q (.ref s.heap.objs.size) { s with heap := h', toks := tk }) :
    wpAny (model prog w) A (Builtin.«zip.__next__» ⟨[.ref z], []⟩) (fun fin s' => ∃ v, fin = .done (.ret v) ∧ Q v s') E s := by
  show wpAny _ _ (field (.ref z) 2 >>= _) _ _ _
  refine wpAny_bind (wpAny_field hz rfl (x := .bool false) rfl ?_)
  show wpAny _ _ (field (.ref z) 3 >>= _) _ _ _
  refine wpAny_bind (wpAny_field hz rfl (x := .ref TI) rfl (wpAny_bind (wpAny_seqItems hTI rfl ?_)))
  show wpAny _ _ (Builtin.SmallTypes.ownedTupleIsFree (.ref z) >>= _) _ _ _
  refine wpAny_bind (wpAny_tupleHeld_zip hz hT fun g1 z1 k1 => ?_)
  simp only [Bool.false_eq_true, if_false]
  refine wpAny_bind ?_
  rw [← Array.forIn_toList]
  simp only [List.forIn_cons, List.forIn_nil]
  refine wpAny_bind (wpAny_bind (wpAny_holding ?_))
  show wpAny _ _ (Builtin.SmallTypes.nextOf (.ref i1) >>= _) _ _ _
  refine wpAny_bind (D1.item i { s with heap := g1 } _ _ l1 (D1.over st1 k1 S.zf1) fun x g2 tk2 hx sn1 k2 => wpAny_pure (wpAny_pure ?_))
  replace k2 : Heap.SameBut i1 g1 g2 := k2
  refine wpAny_bind (wpAny_bind (wpAny_holding ?_))
  show wpAny _ _ (Builtin.SmallTypes.nextOf (.ref i2) >>= _) _ _ _
  refine wpAny_bind (D2.item i { s with heap := g2, toks := tk2 } _ _ l2 (D2.over (D2.over st2 k1 S.zf2) k2 S.sep1_2) fun y g3 tk3 hy sn2 k3 => wpAny_pure (wpAny_pure (wpAny_pure ?_)))
  replace k3 : Heap.SameBut i2 g2 g3 := k3
  show wpAny _ _ (newTuple [x, y] >>= _) _ _ _
  refine wpAny_bind (wpAny_newTuple ?_)
  have hsz : g3.objs.size = s.heap.objs.size := by rw [k3.1, k2.1, k1.1]
  have z3 : IsZipHeld g3 z TI TO T true := k3.extBut _ _ S.zi2 (k2.extBut _ _ S.zi1 z1)
  have kk : ∀ c o, c ≠ z → c ≠ i1 → c ≠ i2 → s.heap.get? c = some o → g3.get? c = some o := fun c o c1 c2 c3 e => k3.extBut _ _ c3 (k2.extBut _ _ c2 (k1.extBut _ _ c1 e))
  refine wpAny_pure ⟨_, rfl, ?_⟩
  show Q (.ref g3.objs.size) _
  have hp : IsTupOf2 (g3.push { cls := .type "tuple", data := .seq #[x, y] }) g3.objs.size x y := Heap.get?_push_size _ rfl
  have hz4 : (g3.push { cls := .type "tuple", data := .seq #[x, y] }).objs.size = g3.objs.size + 1 := Heap.size_push ..
  rw [hsz] at hp hz4 ⊢
  exact hQ x y _ tk3 hx hy (Heap.get?_push_of_some _ z3) (D1.frame _ _ _ (D1.over sn1 k3 S.sep2_1) fun b _ o e => Heap.get?_push_of_some _ e) (D2.frame _ _ _ sn2 fun b _ o e => Heap.get?_push_of_some _ e) hp hz4 fun c o c1 c2 c3 e => Heap.get?_push_of_some _ (kk c o c1 c2 c3 e)
theorem held_end {Q : Fin → Shared → Prop} (S : ZipSep2 z TI TO i1 i2 fp1 fp2) (D1 : Draws prog w A i1 fp1 n1 P1 St1) (D2 : Draws prog w A i2 fp2 n2 P2 St2)
    (hz : IsZipHeld s.heap z TI TO T f) (hT : s.heap.get? T = some oT) (hTI : IsTupOf2 s.heap TI (.ref i1) (.ref i2)) (st1 : St1 i s.heap) (st2 : St2 i s.heap) (l1 : i ≤ n1) (l2 : i ≤ n2) (hend : i = n1 ∨ i = n2)
    (hE : ∀ h' tk e, (∀ c o, c ≠ z → c ≠ i1 → c ≠ i2 → s.heap.get? c = some o → h'.get? c = some o) → (∃ o, h'.get? e = some o ∧ o.cls = .type "StopIteration") → E (.ref e) { s with heap := h', toks := tk }) :
    wpAny (model prog w) A (Builtin.«zip.__next__» ⟨[.ref z], []⟩) Q E s := by
  show wpAny _ _ (field (.ref z) 2 >>= _) _ _ _
  refine wpAny_bind (wpAny_field hz rfl (x := .bool false) rfl ?_)
  show wpAny _ _ (field (.ref z) 3 >>= _) _ _ _
  refine wpAny_bind (wpAny_field hz rfl (x := .ref TI) rfl (wpAny_bind (wpAny_seqItems hTI rfl ?_)))
  show wpAny _ _ (Builtin.SmallTypes.ownedTupleIsFree (.ref z) >>= _) _ _ _
  refine wpAny_bind (wpAny_tupleHeld_zip hz hT fun g1 z1 k1 => ?_)
  simp only [Bool.false_eq_true, if_false]
  refine wpAny_bind ?_
  rw [← Array.forIn_toList]
  simp only [List.forIn_cons, List.forIn_nil]
  refine wpAny_bind (wpAny_bind (wpAny_holding ?_))
  show wpAny _ _ (Builtin.SmallTypes.nextOf (.ref i1) >>= _) _ _ _
  by_cases hl1 : i < n1
  · have hi2 : i = n2 := by omega
    refine wpAny_bind (D1.item i { s with heap := g1 } _ _ hl1 (D1.over st1 k1 S.zf1) fun x g2 tk2 hx sn1 k2 => wpAny_pure (wpAny_pure ?_))
    replace k2 : Heap.SameBut i1 g1 g2 := k2
    refine wpAny_bind (wpAny_bind (wpAny_holding ?_))
    show wpAny _ _ (Builtin.SmallTypes.nextOf (.ref i2) >>= _) _ _ _
    refine wpAny_bind (D2.done { s with heap := g2, toks := tk2 } _ _ (by rw [← hi2]; exact D2.over (D2.over st2 k1 S.zf2) k2 S.sep1_2) fun g3 e k3 he => ?_)
    replace k3 : Heap.ExtBut i2 g2 g3 := k3
    exact hE g3 tk2 e (fun c o c1 c2 c3 x => k3 _ _ c3 (k2.extBut _ _ c2 (k1.extBut _ _ c1 x))) he
  · have hi1 : i = n1 := by omega
    refine wpAny_bind (D1.done { s with heap := g1 } _ _ (by rw [← hi1]; exact D1.over st1 k1 S.zf1) fun g3 e k3 he => ?_)
    replace k3 : Heap.ExtBut i1 g1 g3 := k3
    exact hE g3 s.toks e (fun c o c1 c2 c3 x => k3 _ _ c2 (k1.extBut _ _ c1 x)) he
theorem pyNext_held_item {Q : Option Value → Shared → Prop} (S : ZipSep2 z TI TO i1 i2 fp1 fp2) (D1 : Draws prog w A.in1 i1 fp1 n1 P1 St1) (D2 : Draws prog w A.in1 i2 fp2 n2 P2 St2)
    (hz : IsZipHeld s.heap z TI TO T f) (hT : s.heap.get? T = some oT) (hTI : IsTupOf2 s.heap TI (.ref i1) (.ref i2)) (st1 : St1 i s.heap) (st2 : St2 i s.heap) (l1 : i < n1) (l2 : i < n2)
    (hQ : ∀ x y h' tk, P1 i x → P2 i y → IsZipHeld h' z TI TO T true → St1 (i + 1) h' → St2 (i + 1) h' → IsTupOf2 h' s.heap.objs.size x y → h'.objs.size = s.heap.objs.size + 1 → (∀ c o, c ≠ z → c ≠ i1 → c ≠ i2 → s.heap.get? c = some o → h'.get? c = some o) → Q (some (.ref s.heap.objs.size)) { s with heap := h', toks := tk }) :
    wpAny (model prog w) A (pyNext (.ref z)) Q E s := by
  have hTy : s.TypeIs (.ref z) "zip" := ⟨_, hz, rfl⟩
  unfold pyNext
  exact wpAny_bind (wpAny_attempt (wpAny_callSpecial?_slot (name := Str.ofString "__next__") hTy F.slot_zip_next (wpAny_call_entry F.slot_zip_next hTy F.entry_zip_next
    (held_item S D1 D2 hz hT hTI st1 st2 l1 l2 fun x y h' tk a1 a2 a3 a4 a5 a6 a7 a8 => wpAny_pure (hQ x y h' tk a1 a2 a3 a4 a5 a6 a7 a8)) (F.args_zip_next_1 _))))
theorem pyNext_held_end {Q : Option Value → Shared → Prop} (S : ZipSep2 z TI TO i1 i2 fp1 fp2) (D1 : Draws prog w A.in1 i1 fp1 n1 P1 St1) (D2 : Draws prog w A.in1 i2 fp2 n2 P2 St2)
    (hz : IsZipHeld s.heap z TI TO T f) (hT : s.heap.get? T = some oT) (hTI : IsTupOf2 s.heap TI (.ref i1) (.ref i2)) (st1 : St1 i s.heap) (st2 : St2 i s.heap) (l1 : i ≤ n1) (l2 : i ≤ n2) (hend : i = n1 ∨ i = n2)
    (hQ : ∀ h' tk, (∀ c o, c ≠ z → c ≠ i1 → c ≠ i2 → s.heap.get? c = some o → h'.get? c = some o) → Q none { s with heap := h', toks := tk }) : wpAny (model prog w) A (pyNext (.ref z)) Q E s := by
  have hTy : s.TypeIs (.ref z) "zip" := ⟨_, hz, rfl⟩
  unfold pyNext
  refine wpAny_bind (wpAny_attempt (wpAny_callSpecial?_slot (name := Str.ofString "__next__") hTy F.slot_zip_next (wpAny_call_entry F.slot_zip_next hTy F.entry_zip_next
    (held_end S D1 D2 hz hT hTI st1 st2 l1 l2 hend fun h' tk e hk he => ?_) (F.args_zip_next_1 _))))
  obtain ⟨o, ho, hc⟩ := he
  exact wpAny_bind (wpAny_isInstance (T := "StopIteration") (b := true) ⟨o, ho, hc⟩ isSubtype_stop (wpAny_pure (hQ _ _ hk)))
end
theorem nolen_zip : typeLookup (.type "zip") "__len__" = pure none := by rw [typeLookup_type, builtinLookup_eq_fast]; kernel_rfl
theorem nohint_zip : typeLookup (.type "zip") "__length_hint__" = pure none := by rw [typeLookup_type, builtinLookup_eq_fast]; kernel_rfl
/-- a zip over two lists or tuples, behind i pairs, its tuple in or out -/
def ZSt (z TI TO i1 i2 a b : Addr) (ka kb : Bool) (i : Nat) (h : Heap) : Prop := IsTupOf2 h TI (.ref i1) (.ref i2) ∧ ItA h i1 a i ka ∧ ItA h i2 b i kb ∧ (∃ o, h.get? TO = some o) ∧
  ((IsZip h z TI TO .none ∧ ∃ x y, IsTupOf2 h TO x y) ∨ ∃ T f oT, IsZipHeld h z TI TO T f ∧ h.get? T = some oT ∧ T ≠ z ∧ T ≠ TO ∧ T ≠ i1 ∧ T ≠ i2)
section
variable {prog : Program} {w : World} {A : Around} {E : Value → Shared → Prop} {s : Shared} {z TI TO i1 i2 a b : Addr} {ka kb : Bool} {i : Nat} {xs ys : Array Value}
theorem zst_item {Q : Option Value → Shared → Prop} (hh : A.in1.handled = none) (ha : a ≠ i1) (hb : b ≠ i2) (S : ZipSep2 z TI TO i1 i2 [i1, a] [i2, b]) (st : ZSt z TI TO i1 i2 a b ka kb i s.heap) (p1 : IsA s.heap a xs ka) (p2 : IsA s.heap b ys kb) (l1 : i < xs.size) (l2 : i < ys.size)
    (hQ : ∀ x y h' tk, xs[i]? = some x → ys[i]? = some y → ZSt z TI TO i1 i2 a b ka kb (i + 1) h' → IsTupOf2 h' s.heap.objs.size x y → h'.objs.size = s.heap.objs.size + 1 → (∀ c o, c ≠ z → c ≠ TO → c ≠ i1 → c ≠ i2 → s.heap.get? c = some o → h'.get? c = some o) → Q (some (.ref s.heap.objs.size)) { s with heap := h', toks := tk }) :
    wpAny (model prog w) A (pyNext (.ref z)) Q E s := by
  obtain ⟨hTI, h1, h2, ⟨oO, hO⟩, h3⟩ := st
  have D1 := draws_any (prog := prog) (w := w) (A := A.in1) hh i1 a ha xs ka
  have D2 := draws_any (prog := prog) (w := w) (A := A.in1) hh i2 b hb ys kb
  have sz : ∀ {c : Addr} {o : Obj}, s.heap.get? c = some o → s.heap.objs.size ≠ c := fun e => Nat.ne_of_gt (Heap.lt_size e)
  have n1 : s.heap.objs.size ≠ i1 := by obtain ⟨_, e, _⟩ := h1.there; exact sz e
  have n2 : s.heap.objs.size ≠ i2 := by obtain ⟨_, e, _⟩ := h2.there; exact sz e
  rcases h3 with ⟨hz, x0, y0, hTO⟩ | ⟨T, f, oT, hz, hT, t1, t2, t3, t4⟩
  · refine wpAny_pyNext_zipD2_item S D1 D2 hz hTI hTO ⟨h1, p1⟩ ⟨h2, p2⟩ l1 l2 fun x y h' tk a1 a2 a3 a4 a5 a6 a7 a8 a9 => ?_
    refine hQ x y h' tk a1 a2 ⟨a9 TI _ S.TIz S.TITO S.TIi1 S.TIi2 hTI, a5.1, a6.1, ⟨_, a4⟩, .inr ⟨s.heap.objs.size, false, _, a3, a7, sz hz, sz hTO, n1, n2⟩⟩ a7 a8 a9
  · refine pyNext_held_item S D1 D2 hz hT hTI ⟨h1, p1⟩ ⟨h2, p2⟩ l1 l2 fun x y h' tk a1 a2 a3 a5 a6 a7 a8 a9 => ?_
    exact hQ x y h' tk a1 a2 ⟨a9 TI _ S.TIz S.TIi1 S.TIi2 hTI, a5.1, a6.1, ⟨_, a9 TO _ S.TOz S.Ti1 S.Ti2 hO⟩, .inr ⟨T, true, oT, a3, a9 T _ t1 t3 t4 hT, t1, t2, t3, t4⟩⟩ a7 a8 fun c o c1 _ c3 c4 e => a9 c o c1 c3 c4 e
theorem zst_end {Q : Option Value → Shared → Prop} (hh : A.in1.handled = none) (ha : a ≠ i1) (hb : b ≠ i2) (S : ZipSep2 z TI TO i1 i2 [i1, a] [i2, b]) (st : ZSt z TI TO i1 i2 a b ka kb i s.heap) (p1 : IsA s.heap a xs ka) (p2 : IsA s.heap b ys kb) (l1 : i ≤ xs.size) (l2 : i ≤ ys.size) (he : i = xs.size ∨ i = ys.size)
    (hQ : ∀ h' tk, (∀ c o, c ≠ z → c ≠ TO → c ≠ i1 → c ≠ i2 → s.heap.get? c = some o → h'.get? c = some o) → Q none { s with heap := h', toks := tk }) :
    wpAny (model prog w) A (pyNext (.ref z)) Q E s := by
  obtain ⟨hTI, h1, h2, ⟨oO, hO⟩, h3⟩ := st
  have D1 := draws_any (prog := prog) (w := w) (A := A.in1) hh i1 a ha xs ka
  have D2 := draws_any (prog := prog) (w := w) (A := A.in1) hh i2 b hb ys kb
  rcases h3 with ⟨hz, x0, y0, hTO⟩ | ⟨T, f, oT, hz, hT, t1, t2, t3, t4⟩
  · exact wpAny_pyNext_zipD2_end S D1 D2 hz hTI hTO ⟨h1, p1⟩ ⟨h2, p2⟩ l1 l2 he hQ
  · exact pyNext_held_end S D1 D2 hz hT hTI ⟨h1, p1⟩ ⟨h2, p2⟩ l1 l2 he fun h' tk k => hQ h' tk fun c o c1 _ c3 c4 e => k c o c1 c3 c4 e
end
/-- what is fixed while the list grows -/
structure LzC (X : Cx) (pins : List (Addr × Obj)) (σ : L2.St) (G1 H1 : Hp) (z TI TO i1 i2 a b S : Addr) (ka kb : Bool) (xs ys : List V) (ds es : List PyData) : Prop where
  ha : a ≠ i1
  hb : b ≠ i2
  sep : ZipSep2 z TI TO i1 i2 [i1, a] [i2, b]
  hS : H1 S = none
  sa : SqA X.K H1 a xs ka
  sb : SqA X.K H1 b ys kb
  ta : DtAll X.K G1 xs ds
  tb : DtAll X.K G1 ys es
section
variable {X : Cx} {pins : List (Addr × Obj)} {σ : L2.St} {G1 H1 : Hp} {z TI TO i1 i2 a b S : Addr} {ka kb : Bool} {xs ys : List V} {ds es : List PyData}
theorem lz_loop (C : LzC X pins σ G1 H1 z TI TO i1 i2 a b S ka kb xs ys ds es) {A : Around} (hh : A.in1.in1.handled = none) {R : Result → Shared → Prop} :
    ∀ (k i : Nat) (s : Shared) (G H : Hp) (us : List V), min xs.length ys.length - i = k → i ≤ min xs.length ys.length → Inv X pins σ H s → Nst G1 H1 G H → H S = some (.lst us) → G S = none → us.length = i → DtAll X.K G us ((zipD ds es).take i) → ZSt z TI TO i1 i2 a b ka kb i s.heap → (∀ c ∈ [z, TO, i1, i2], FpOk X pins H c) →
      (∀ s' G' H' us', Inv X pins σ H' s' → Nst G1 H1 G' H' → H' S = some (.lst us') → G' S = none → DtAll X.K G' us' (zipD ds es) → R (.ok (.ret .none)) s') → codeAny (model X.prog X.w) A (.builtin "list.extend.loop" ⟨[.ref S, .ref z, .none], []⟩) R s := by
  intro k
  induction k with
  | zero =>
    intro i s G H us hk hi I n hS gS hu t st hf hR
    obtain ⟨its, rv, p1, la, z1⟩ := inv_any I (Same.seqA n.hxt C.sa)
    obtain ⟨its2, rv2, p2, lb, z2⟩ := inv_any I (Same.seqA n.hxt C.sb)
    have l1 := rv.length
    have l2 := rv2.length
    refine codeAny_builtin F.entry_extend_loop ?_
    rw [Around.under_plainId F.plain_extend_loop _]
    show wpAny _ A.in1 (pyNext (.ref z) >>= _) _ _ s
    refine wpAny_bind (zst_end hh C.ha C.hb C.sep st p1 p2 (by simp; omega) (by simp; omega) (by simp; omega) fun h' tk kp => ?_)
    have I2 : Inv X pins σ H { s with heap := h', toks := tk } := I.turnedL (t' := tk) (ch := [z, TO, i1, i2]) (fun c o hc e => by
      have hc' : c ≠ z ∧ c ≠ TO ∧ c ≠ i1 ∧ c ≠ i2 := by simpa [not_or] using hc
      exact kp c o hc'.1 hc'.2.1 hc'.2.2.1 hc'.2.2.2 e) hf
    have full : (zipD ds es).take i = zipD ds es := List.take_of_length_le (by rw [zipD_len, ← C.ta.length, ← C.tb.length]; omega)
    rw [full] at t
    exact wpAny_pure (hR _ G H us I2 n hS gS t)
  | succ k ih =>
    intro i s G H us hk hi I n hS gS hu t st hf hR
    obtain ⟨its, rv, p1, la, z1⟩ := inv_any I (Same.seqA n.hxt C.sa)
    obtain ⟨its2, rv2, p2, lb, z2⟩ := inv_any I (Same.seqA n.hxt C.sb)
    have l1 := rv.length
    have l2 := rv2.length
    refine codeAny_builtin F.entry_extend_loop ?_
    rw [Around.under_plainId F.plain_extend_loop _]
    show wpAny _ A.in1 (pyNext (.ref z) >>= _) _ _ s
    refine wpAny_bind (zst_item hh C.ha C.hb C.sep st p1 p2 (by simp; omega) (by simp; omega) fun x y h' tk e1 e2 st' tup sz kp => ?_)
    have hx : xs[i]? = some xs[i] := List.getElem?_eq_getElem (by omega)
    have hy : ys[i]? = some ys[i] := List.getElem?_eq_getElem (by omega)
    obtain ⟨u1, q1, r1⟩ := rv.get hx
    obtain ⟨u2, q2, r2⟩ := rv2.get hy
    have e1' : its[i]? = some x := by simpa using e1
    have e2' : its2[i]? = some y := by simpa using e2
    rw [e1'] at q1; cases q1
    rw [e2'] at q2; cases q2
    obtain ⟨d1, hd1, td1⟩ := C.ta.getV hx
    obtain ⟨d2, hd2, td2⟩ := C.tb.getV hy
    have hTn : H s.heap.objs.size = none := I.hok.fresh (Nat.le_refl _)
    have I2 : Inv X pins σ (upd H s.heap.objs.size (.frz { cls := .type "tuple", data := .seq #[x, y] } (.tup [xs[i], ys[i]]))) { s with heap := h', toks := tk } := I.turnedNew (t' := tk) (ch := [z, TO, i1, i2]) (fun c o hc e => by
      have hc' : c ≠ z ∧ c ≠ TO ∧ c ≠ i1 ∧ c ≠ i2 := by simpa [not_or] using hc
      exact kp c o hc'.1 hc'.2.1 hc'.2.2.1 hc'.2.2.2 e) hf (Nat.le_refl _) ⟨tup, by show 2 ≤ sizeLine; decide, [x, y], .cons r1 (.cons r2 .nil), _, tup, rfl, _, rfl⟩
    have hST : S ≠ s.heap.objs.size := ne_of_none hS hTn
    have nk : Nst G H (upd G s.heap.objs.size (.frz { cls := .type "tuple", data := .seq #[x, y] } (.tup [xs[i], ys[i]]))) (upd H s.heap.objs.size (.frz { cls := .type "tuple", data := .seq #[x, y] } (.tup [xs[i], ys[i]]))) := Nst.know n.ing hTn
    have hS2 : (upd H s.heap.objs.size (.frz { cls := .type "tuple", data := .seq #[x, y] } (.tup [xs[i], ys[i]]))) S = some (.lst us) := by rw [upd_ne hST]; exact hS
    obtain ⟨zS, itsS, nS, rS, lS, eS⟩ := I2.lstM hS2
    show wpAny _ A.in1 (updateSeq S (·.push (.ref s.heap.objs.size)) >>= _) _ _ _
    have hlen := rS.length
    have hsl := sizeLine_eq
    refine wpAny_bind (wpAny_updateSeq eS rfl (wpAny_pure ⟨plainId_quiet F.plain_extend_loop _, ?_⟩) (by simp; omega) (by show (itsS.toArray.push _).size ≤ sizeLine + 1; rw [Array.size_push]; simp; omega))
    have I3 := I2.lset (its' := itsS ++ [.ref s.heap.objs.size]) (ys := us ++ [.ref s.heap.objs.size]) (f := fun v => v.push (.ref s.heap.objs.size)) (t' := tk) hS2 eS (by simp) (rS.append (show Vals [V.ref s.heap.objs.size] [Value.ref s.heap.objs.size] from .cons rfl .nil)) (by rw [List.length_append, List.length_singleton]; omega)
    refine ih (i + 1) _ (upd G s.heap.objs.size (.frz { cls := .type "tuple", data := .seq #[x, y] } (.tup [xs[i], ys[i]]))) _ (us ++ [.ref s.heap.objs.size]) (by omega) (by omega) I3 ?_ upd_same (by rw [upd_ne hST]; exact gS) (by rw [List.length_append, hu]; rfl) ?_ ?_ ?_ hR
    · have n2 := n.trans nk
      refine ⟨n2.ext, fun c o q => ?_, fun c o q => ?_, n2.out⟩
      · rw [upd_ne (ne_of_none q C.hS)]; exact n2.hxt c o q
      · have hcS : c ≠ S := fun e => by
          rw [e, upd_ne hST, gS] at q; cases q
        rw [upd_ne hcS]; exact n2.ing c o q
    · have hz : (zipD ds es)[i]? = some (.tuple [d1, d2]) := zipD_get ds es i d1 d2 hd1 hd2
      have hil := (List.getElem?_eq_some_iff.mp hz).1
      rw [List.take_succ_eq_append_getElem hil, (List.getElem?_eq_some_iff.mp hz).2]
      exact (DtAll.mono nk.ext _ t).append (.one (.tup (.new ⟨rfl, rfl⟩) (.cons (Dt.mono (n.ext.trans nk.ext) _ td1) (.cons (Dt.mono (n.ext.trans nk.ext) _ td2) .nil))))
    · obtain ⟨w1, w2, w3, ⟨wO, hwO⟩, w4⟩ := st'
      have ns : ∀ {c : Addr} {o : Obj}, c ≠ S → h'.get? c = some o → (h'.update S (Obj.mapSeq fun v => v.push (.ref s.heap.objs.size))).get? c = some o := fun hc e => (Heap.get?_update_other _ _ (Ne.symm hc)).trans e
      have cS : ∀ c ∈ [z, TO, i1, i2], c ≠ S := fun c hc e => by
        have := (hf c hc).1
        rw [e, hS] at this; cases this
      have cl : ∀ {c : Addr} {o : Obj}, h'.get? c = some o → o.cls ≠ .type "list" → c ≠ S := fun {c o} e hne z => by
        rw [z] at e
        have eS' : h'.get? S = _ := eS
        rw [eS'] at e; cases e
        exact hne rfl
      refine ⟨ns (cl w1 (by simp)) w1, w2.at fun o e => ns (cS i1 (by simp)) e, w3.at fun o e => ns (cS i2 (by simp)) e, ⟨_, ns (cS TO (by simp)) hwO⟩, ?_⟩
      rcases w4 with ⟨w5, x0, y0, w6⟩ | ⟨T, f, oT, w5, w6, w7⟩
      · exact .inl ⟨ns (cS z (by simp)) w5, x0, y0, ns (cS TO (by simp)) w6⟩
      · by_cases hTS : T = S
        · refine .inr ⟨T, f, _, ns (cS z (by simp)) w5, by rw [hTS]; exact Heap.get?_update_self _ eS rfl, w7⟩
        · exact .inr ⟨T, f, oT, ns (cS z (by simp)) w5, ns hTS w6, w7⟩
    · intro c hc
      obtain ⟨f0, r⟩ := hf c hc
      refine ⟨?_, r⟩
      have hcS : c ≠ S := fun e => by rw [e, hS] at f0; cases f0
      rw [upd_ne hcS]
      have hcT : c ≠ s.heap.objs.size := by
        obtain ⟨_, g1, g2, ⟨_, gO⟩, g3⟩ := st
        have hz : ∃ o, s.heap.get? z = some o := by
          rcases g3 with ⟨q, _⟩ | ⟨_, _, _, q, _⟩
          · exact ⟨_, q⟩
          · exact ⟨_, q⟩
        have e' : c = z ∨ c = TO ∨ c = i1 ∨ c = i2 := by simpa using hc
        have : ∃ o, s.heap.get? c = some o := by
          rcases e' with q | q | q | q
          · rw [q]; exact hz
          · rw [q]; exact ⟨_, gO⟩
          · rw [q]; obtain ⟨_, e1, _⟩ := g1.there; exact ⟨_, e1⟩
          · rw [q]; obtain ⟨_, e2, _⟩ := g2.there; exact ⟨_, e2⟩
        obtain ⟨o, ho⟩ := this
        exact Nat.ne_of_lt (Heap.lt_size ho)
      rw [upd_ne hcT]; exact f0
end
def lzF (fl : LF) : DF := fun ρ Φ => fl ρ fun ds ρ1 => match ds with
  | [d, e] => seqP d fun xs => seqP e fun ys => Φ (.new (zipD xs ys)) ρ1
  | _ => False
section
variable {X : Cx} {e e2 : Expr} {p p2 pos pos2 : Pos} {fl : LF}
theorem de_listZip (hc : X.calm = true) (hm : X.mg "list" = none) (hm2 : X.mg "zip" = none) (ha : PA X [e, e2] (dL X.K fl)) (hg : Gl X "list" := by rfl) (hg2 : Gl X "zip" := by rfl)
    (hs : starEach [e, e2] X.env = (false, eval e X.env) :: starEach [e2] X.env := by rfl) (hpl : (backTo pos2 (starEach [e2] X.env)).any (·.1) = false := by rfl)
    (na : starEach [.Call (.Name "zip" p2) [e, e2] [] pos2] X.env = (false, eval (.Call (.Name "zip" p2) [e, e2] [] pos2) X.env) :: starEach [] X.env := by rfl) :
    PE X (.Call (.Name "list" p) [.Call (.Name "zip" p2) [e, e2] [] pos2] [] pos) (dE X.K (lzF fl)) := by
  refine ⟨fun pins s σ H Q I ⟨B, S, ρ, G, Φ, g, q, k⟩ => ?_⟩
  have inner : wpAny (model X.prog X.w) X.A (eval (.Call (.Name "zip" p2) [e, e2] [] pos2) X.env) (fun v s1 => ∃ (z TI TO i1 i2 a b : Addr) (ka kb : Bool) (xs ys : List V) (ds es : List PyData) (ρ1 : Rho) (G1 H1 : Hp), v = .ref z ∧ Inv X pins σ H1 s1 ∧ Good X.K B S ρ1 σ G1 H1 ∧ Stp S σ ρ G H ρ1 G1 H1 ∧ Φ (.new (zipD ds es)) ρ1 ∧
      a ≠ i1 ∧ b ≠ i2 ∧ ZipSep2 z TI TO i1 i2 [i1, a] [i2, b] ∧ SqA X.K H1 a xs ka ∧ SqA X.K H1 b ys kb ∧ DtAll X.K G1 xs ds ∧ DtAll X.K G1 ys es ∧ IsZip s1.heap z TI TO .none ∧ ZSt z TI TO i1 i2 a b ka kb 0 s1.heap ∧ ∀ c ∈ [z, TO, i1, i2], FpOk X pins H1 c) X.xe s := by
    refine PyProof.Rows.Call_ (ld_blt I hg2 hm2 PyProof.Rows.boot_zip (PyProof.Rows.callWith_type1 (thn (ha.run pos2 pins s σ H (fun vs H1 => ∃ (a b : Addr) (ka kb : Bool) (xs ys : List V) (ds es : List PyData) (ρ1 : Rho) (G1 : Hp), vs = [.ref a, .ref b] ∧ Good X.K B S ρ1 σ G1 H1 ∧ Stp S σ ρ G H ρ1 G1 H1 ∧ Φ (.new (zipD ds es)) ρ1 ∧ SqA X.K H1 a xs ka ∧ SqA X.K H1 b ys kb ∧ DtAll X.K G1 xs ds ∧ DtAll X.K G1 ys es) I ⟨B, S, ρ, G, _, g, q, fun ds vs ρ1 G1 H1 f1 g1 s1 t1 => ?_⟩) fun us s1 ⟨vs, H1, I1, r1, q1⟩ => ?_) hs hpl))
    · split at f1
      · obtain ⟨v, u, rfl, tv, tu⟩ := vals_2 t1
        obtain ⟨a, us, xs, ka, rfl, hs, ta, q1⟩ := dt_seqA tv f1
        obtain ⟨b, ws, ys, kb, rfl, hs2, tb, q2⟩ := dt_seqA tu q1
        exact ⟨a, b, ka, kb, us, ws, xs, ys, ρ1, G1, rfl, g1, s1, q2, Same.seqA g1.ing hs, Same.seqA g1.ing hs2, ta, tb⟩
      · exact f1.elim
    · obtain ⟨a, b, ka, kb, xs, ys, ds, es, ρ1, G1, rfl, g1, s1', f1, hqx, hqy, ta, tb⟩ := q1
      obtain ⟨u1, u2, rfl, ru1, ru2⟩ := vals2 r1
      cases ru1
      cases ru2
      obtain ⟨its, rv, p1, la, _⟩ := inv_any I1 hqx
      obtain ⟨its2, rv2, p2', lb, _⟩ := inv_any I1 hqy
      refine zip_begins2 (begins_any a its.toArray ka) (begins_any b its2.toArray kb) p1 p2' fun h' hz hTI hTO h1 h2 hsz hk => ?_
      have I2 : Inv X pins σ H1 { s1 with heap := h' } := I1.kept (t' := s1.toks) hk
      refine ⟨s1.heap.objs.size + 4, s1.heap.objs.size + 2, s1.heap.objs.size + 3, s1.heap.objs.size, s1.heap.objs.size + 1, a, b, ka, kb, xs, ys, ds, es, ρ1, G1, H1, rfl, I2, g1, s1', f1, Nat.ne_of_lt la, Nat.ne_of_lt (Nat.lt_succ_of_lt lb), zip_sep2 (N := s1.heap.objs.size) (fp1 := [a]) (fp2 := [b]) (by simpa using la) (by simpa using lb), hqx, hqy, ta, tb, hz, ⟨hTI, .new h1, .new h2, ⟨_, hTO⟩, .inl ⟨hz, _, _, hTO⟩⟩, fun c hcm => ?_⟩
      have e' : c = s1.heap.objs.size + 4 ∨ c = s1.heap.objs.size + 3 ∨ c = s1.heap.objs.size ∨ c = s1.heap.objs.size + 1 := by simpa using hcm
      have hle : s1.heap.objs.size ≤ c := by
        rcases e' with z | z | z | z
        · rw [z]; exact Nat.le_add_right _ _
        · rw [z]; exact Nat.le_add_right _ _
        · rw [z]; exact Nat.le_refl _
        · rw [z]; exact Nat.le_succ _
      exact I1.fpOk hle (I1.hok.fresh hle)
  refine PyProof.Rows.Call_ (ld_blt I hg hm PyProof.Rows.boot_list (PyProof.Rows.callWith_type1 (PyProof.Rows.args_cons (thn inner fun v s1 hq => PyProof.Rows.args_nil ?_) na) na))
  obtain ⟨z, TI, TO, i1, i2, a, b, ka, kb, xs, ys, ds, es, ρ1, G1, H1, rfl, I1, g1, s1', f1, n1, n2, sep, hqx, hqy, ta, tb, hz, st, hf⟩ := hq
  have hT : s1.TypeIs (.ref z) "zip" := ⟨_, hz, rfl⟩
  have hSn : H1 s1.heap.objs.size = none := I1.hok.fresh (Nat.le_refl _)
  have hzS : z ≠ s1.heap.objs.size := Nat.ne_of_lt (Heap.lt_size hz)
  refine callType_codes (Q₁ := fun obj s₁ => obj = .ref s1.heap.objs.size ∧ s₁ = { s1 with heap := s1.heap.push { cls := .type "list", data := .seq #[] } }) F.called_list (F.typeCall_list_1 _) F.entry_list_init (code_list_new _ ⟨rfl, rfl⟩) fun obj s₁ h₁ => ?_
  obtain ⟨rfl, rfl⟩ := h₁
  have eS : (s1.heap.push { cls := .type "list", data := .seq #[] }).get? s1.heap.objs.size = some { cls := .type "list", data := .seq #[] } := Heap.get?_push_size _ rfl
  refine ⟨⟨_, eS, rfl⟩, F.args_list_init_2 _ _, ?_⟩
  show wpAny _ X.A.in1.in1 (do let old ← Builtin.List.listItems (.ref s1.heap.objs.size); Builtin.List.listUpdate (.ref s1.heap.objs.size) (fun _ => #[]); letGo old.toList.reverse; Builtin.List.listExtendWith (.ref s1.heap.objs.size) (.ref z) .none) _ _ _
  refine wpAny_bind (PyProof.Rows.listItems_at eS rfl ?_)
  refine wpAny_bind (PyProof.Rows.listUpdate_at eS rfl ?_ (Nat.zero_le _) (Nat.zero_le _))
  have eS2 := Heap.get?_update_self (Obj.mapSeq (fun _ => (#[] : Array Value))) eS rfl
  refine wpAny_bind (wpAny_letGo ?_)
  unfold Builtin.List.listExtendWith
  have old : ∀ c o, s1.heap.get? c = some o → ((s1.heap.push { cls := .type "list", data := .seq #[] }).update s1.heap.objs.size (Obj.mapSeq (fun _ => (#[] : Array Value)))).get? c = some o := fun c o e => (Heap.get?_update_other _ _ (Nat.ne_of_gt (Heap.lt_size e))).trans (Heap.get?_push_of_some _ e)
  refine wpAny_bind (wpAny_typeOf (T := "zip") ⟨_, old z _ hz, rfl⟩ ?_)
  have b1 : Builtin.List.listSameRef (.ref s1.heap.objs.size) (.ref z) = false := by simp [Builtin.List.listSameRef, Ne.symm hzS]
  have b2 : (Value.type "zip" == Value.type "list") = false := by decide
  have b3 : (Value.type "zip" == Value.type "tuple") = false := by decide
  simp only [b1, b2, b3, Bool.or_false, Bool.false_eq_true, if_false]
  refine wpAny_bind (wpAny_pyIter_zip (old z _ hz) ?_)
  refine wpAny_bind (wpAny_holding ?_)
  unfold Builtin.List.listLengthHint
  refine wpAny_bind (wpAny_specialOf (T := "zip") ⟨_, old z _ hz, rfl⟩ nolen_zip ?_)
  show wpAny _ _ (specialOf (Value.ref z) (Str.ofString "__length_hint__") >>= _) _ _ _
  refine wpAny_bind (wpAny_specialOf (T := "zip") ⟨_, old z _ hz, rfl⟩ nohint_zip ?_)
  refine wpAny_pure ?_
  show wpAny _ _ (rule "list.extend.makes-room" >>= fun _ => Builtin.List.listTouch (.ref s1.heap.objs.size) >>= fun _ => again (.builtin "list.extend.loop" ⟨[.ref s1.heap.objs.size, .ref z, .none], []⟩)) _ _ _
  refine wpAny_bind (wpAny_rule ?_)
  refine wpAny_bind ?_
  show wpAny _ _ (updateSeq s1.heap.objs.size (·.push .none) >>= fun _ => updateSeq s1.heap.objs.size (·.pop)) _ _ _
  refine wpAny_bind (wpAny_updateSeq eS2 rfl ?_)
  have eS3 := Heap.get?_update_self (Obj.mapSeq (·.push Value.none)) eS2 rfl
  refine wpAny_updateSeq (hz := by seq_fits) eS3 rfl ?_
  have eS4 := Heap.get?_update_self (Obj.mapSeq (·.pop)) eS3 rfl
  have old2 : ∀ c o, s1.heap.get? c = some o → ((((s1.heap.push { cls := .type "list", data := .seq #[] }).update s1.heap.objs.size (Obj.mapSeq (fun _ => (#[] : Array Value)))).update s1.heap.objs.size (Obj.mapSeq (·.push Value.none))).update s1.heap.objs.size (Obj.mapSeq (·.pop))).get? c = some o := fun c o e =>
    (Heap.get?_update_other _ _ (Nat.ne_of_gt (Heap.lt_size e))).trans ((Heap.get?_update_other _ _ (Nat.ne_of_gt (Heap.lt_size e))).trans (old c o e))
  have I2 := I1.laid (t' := s1.toks) (o := .lst []) old2 (Nat.le_refl _) ⟨Nat.zero_le _, [], _, .nil, eS4⟩
  obtain ⟨c1, c2, c3, ⟨cO, hcO⟩, c4⟩ := st
  refine wpAny_pure ⟨plainId_quiet F.plain_extend_loop _, lz_loop (A := X.A.in1) (S := s1.heap.objs.size) ⟨n1, n2, sep, hSn, hqx, hqy, ta, tb⟩ (I1.ok.hd hc) _ 0 _ G1 _ [] rfl (Nat.zero_le _) I2 (Nst.lay g1.ing hSn) upd_same (g1.ing.free hSn) rfl (by simpa using DtAll.nil) ⟨old2 _ _ c1, c2.at (old2 _), c3.at (old2 _), ⟨_, old2 _ _ hcO⟩, ?_⟩ (fun c hcm => ?_) fun s' G' H' us' I' n' hl hg' t' => ⟨rfl, .ref s1.heap.objs.size, H', I', rfl, ?_⟩⟩
  · rcases c4 with ⟨w5, x0, y0, w6⟩ | ⟨T, f, oT, w5, w6, w7⟩
    · exact .inl ⟨old2 _ _ w5, x0, y0, old2 _ _ w6⟩
    · exact .inr ⟨T, f, oT, old2 _ _ w5, old2 _ _ w6, w7⟩
  · obtain ⟨f0, r⟩ := hf c hcm
    refine ⟨?_, r⟩
    have hcS : c ≠ s1.heap.objs.size := by
      have e' : c = z ∨ c = TO ∨ c = i1 ∨ c = i2 := by simpa using hcm
      have : ∃ o, s1.heap.get? c = some o := by
        rcases e' with q | q | q | q
        · rw [q]; exact ⟨_, hz⟩
        · rw [q]; exact ⟨_, hcO⟩
        · rw [q]; obtain ⟨_, e1, _⟩ := c2.there; exact ⟨_, e1⟩
        · rw [q]; obtain ⟨_, e2, _⟩ := c3.there; exact ⟨_, e2⟩
      obtain ⟨o, ho⟩ := this
      exact Nat.ne_of_lt (Heap.lt_size ho)
    rw [upd_ne hcS]; exact f0
  · obtain ⟨fb, fs, fo⟩ := g1.fresh2 hSn
    refine k _ _ ρ1 G' H' f1 (g1.nst n') (s1'.trans (n'.stp g1)) ⟨_, us', rfl, hl, t', hg', fb, fs, fun o => fo (o.back g1 fun c o _ q => n'.hxt c o q)⟩ fun c y => ?_
    cases y
    cases w : H s1.heap.objs.size with
    | none => rfl
    | some o => exact absurd hSn (s1'.kp _ (by rw [w]; exact fun z => nomatch z))
end
end Dat


set_option Elab.async false
set_option linter.all false
set_option maxRecDepth 100000
set_option maxHeartbeats 4000000
/-! DatQ: told things (encodings): when they are equal, in, at a place. -/
namespace Dat
open PySem L2
structure Ec {α : Type} [DecidableEq α] (f : α → PyData) (k : Nat) : Prop where
  eqv : ∀ a b, PyData.eqv (f a) (f b) = decide (a = b)
  lay : ∀ a, (f a).canLay0 = true
  dep : ∀ a, (f a).depth ≤ k
section
variable {α β : Type} [DecidableEq α] [DecidableEq β] {f : α → PyData} {g : β → PyData} {k j : Nat}
theorem Ec.eqvAll (e : Ec f k) : ∀ xs ys : List α, PyData.eqvAll (xs.map f) (ys.map f) = decide (xs = ys)
  | [], [] => by simp [PyData.eqvAll]
  | [], _ :: _ => by simp [PyData.eqvAll]
  | _ :: _, [] => by simp [PyData.eqvAll]
  | x :: xs, y :: ys => by
    rw [List.map_cons, List.map_cons, PyData.eqvAll, e.eqv, Ec.eqvAll e xs ys]
    by_cases h : x = y <;> by_cases h2 : xs = ys <;> simp [h, h2]
theorem Ec.layAll (e : Ec f k) : ∀ xs : List α, PyData.canLayAll0 (xs.map f) = true
  | [] => by simp [PyData.canLayAll0]
  | x :: xs => by rw [List.map_cons, PyData.canLayAll0, e.lay, Ec.layAll e xs]; rfl
theorem Ec.depAll (e : Ec f k) : ∀ xs : List α, PyData.depthAll (xs.map f) ≤ k
  | [] => by simp [PyData.depthAll]
  | x :: xs => by
    have h1 := e.dep x
    have h2 := Ec.depAll e xs
    rw [List.map_cons, PyData.depthAll]
    omega
theorem Ec.tup (e : Ec f k) : Ec (fun xs : List α => PyData.tuple (xs.map f)) (k + 1) :=
  ⟨fun a b => by rw [PyData.eqv]; exact e.eqvAll a b, fun a => by rw [PyData.canLay0]; exact e.layAll a, fun a => by have := e.depAll a; simp only [PyData.depth]; omega⟩
theorem Ec.lst (e : Ec f k) : Ec (fun xs : List α => PyData.list (xs.map f)) (k + 1) :=
  ⟨fun a b => by rw [PyData.eqv]; exact e.eqvAll a b, fun a => by rw [PyData.canLay0]; exact e.layAll a, fun a => by have := e.depAll a; simp only [PyData.depth]; omega⟩
theorem Ec.pair (e : Ec f k) (e' : Ec g j) : Ec (fun p : α × β => PyData.tuple [f p.1, g p.2]) (max k j + 1) := by
  refine ⟨fun a b => ?_, fun a => ?_, fun a => ?_⟩
  · obtain ⟨a1, a2⟩ := a
    obtain ⟨b1, b2⟩ := b
    simp only [PyData.eqv, PyData.eqvAll, e.eqv, e'.eqv, Prod.mk.injEq]
    by_cases h : a1 = b1 <;> by_cases h2 : a2 = b2 <;> simp [h, h2]
  · simp [PyData.canLay0, PyData.canLayAll0, e.lay, e'.lay]
  · have h1 := e.dep a.1
    have h2 := e'.dep a.2
    simp only [PyData.depth, PyData.depthAll]
    omega
theorem Ec.sh (e : Ec f k) (hk : k ≤ 64) (a : α) : SeqAt.shaped (f a) = true := by
  have := e.dep a
  unfold SeqAt.shaped
  rw [e.lay, decide_eq_true (by omega)]; rfl
theorem Ec.eqC (e : Ec f k) (hk : k ≤ 64) (a b : α) : eqC (f a) (f b) := ⟨e.sh hk a, e.sh hk b⟩
theorem Ec.any (e : Ec f k) (a : α) (xs : List α) : ((xs.map f).any fun z => PyData.eqv z (f a)) = decide (a ∈ xs) := by
  induction xs with
  | nil => rfl
  | cons x xs ih =>
    rw [List.map_cons, List.any_cons, ih, e.eqv]
    by_cases h : x = a
    · simp [h]
    · have h' : ¬ a = x := fun z => h z.symm
      by_cases h2 : a ∈ xs <;> simp [h, h', h2]
theorem Ec.inT (e : Ec f k) (hk : k ≤ 64) (a : α) (xs : List α) : inC (f a) (.tuple (xs.map f)) ∧ anyIn (f a) (.tuple (xs.map f)) = decide (a ∈ xs) :=
  ⟨⟨e.lay a, Nat.le_trans (e.dep a) hk, e.layAll xs⟩, e.any a xs⟩
theorem Ec.inL (e : Ec f k) (hk : k ≤ 64) (a : α) (xs : List α) : inC (f a) (.list (xs.map f)) ∧ anyIn (f a) (.list (xs.map f)) = decide (a ∈ xs) :=
  ⟨⟨e.lay a, Nat.le_trans (e.dep a) hk, e.layAll xs⟩, e.any a xs⟩
theorem Ec.ixOf (e : Ec f k) (a : α) (xs : List α) (h : a ∈ xs) : ixOf (xs.map f) (f a) (xs.idxOf a) := by
  have hl := List.idxOf_lt_length_iff.mpr h
  refine ⟨f a, ?_, by rw [e.eqv]; simp, fun m z hm hz => ?_⟩
  · rw [List.getElem?_map, List.getElem?_eq_getElem hl]
    show some (f _) = _
    rw [List.getElem_idxOf hl]
  · rw [List.getElem?_map] at hz
    obtain ⟨y, hy, rfl⟩ := Option.map_eq_some_iff.mp hz
    rw [e.eqv]
    refine decide_eq_false fun z => ?_
    subst z
    obtain ⟨hml, hy⟩ := List.getElem?_eq_some_iff.mp hy
    have h2 := List.not_of_lt_findIdx (p := (· == y)) (xs := xs) (i := m) hm
    rw [hy] at h2
    simp at h2
end
theorem ecI : Ec PyData.int 0 := ⟨fun a b => by unfold PyData.eqv; rfl, fun a => by simp [PyData.canLay0], fun a => by simp [PyData.depth]⟩
def nI (n : Nat) : PyData := .int (n : Int)
theorem ecN : Ec nI 0 := ⟨fun a b => by
  show PyData.eqv (.int (a : Int)) (.int (b : Int)) = _
  rw [ecI.eqv]
  by_cases h : a = b
  · simp [h]
  · simp [h]; omega, fun a => by simp [nI, PyData.canLay0], fun a => by simp [nI, PyData.depth]⟩
/-- a tuple of numbers; a tuple of such -/
def eT (p : List Nat) : PyData := .tuple (p.map nI)
def eTs (ps : List (List Nat)) : PyData := .tuple (ps.map eT)
theorem ecT : Ec eT 1 := ecN.tup
theorem ecTs : Ec eTs 2 := ecT.tup
/-! ### places -/
theorem at_map {α : Type} {f : α → PyData} {xs : List α} {i : Nat} {x : α} (h : xs[i]? = some x) : L2.atI (xs.map f) (i : Int) = some (f x) := by
  have hl := (List.getElem?_eq_some_iff.mp h).1
  unfold L2.atI
  have e : ixN xs.length (i : Int) = some i := by
    unfold ixN
    rw [if_pos (by omega), if_pos (by omega)]; rfl
  rw [List.length_map, e]
  show (xs.map f)[i]? = _
  rw [List.getElem?_map, h]; rfl
theorem at_getD {α : Type} {f : α → PyData} {xs : List α} {i : Nat} (d : α) (h : i < xs.length) : L2.atI (xs.map f) (i : Int) = some (f (xs.getD i d)) :=
  at_map (by rw [List.getD_eq_getElem?_getD, List.getElem?_eq_getElem h]; rfl)
theorem range_nI (n : Nat) : (List.range n).map nI = (List.range n).map fun (i : Nat) => PyData.int (i : Int) := rfl
theorem rgD_nI (n : Nat) : rgD (n : Int) = (List.range n).map nI := rfl
theorem cmp_id {c : Cond} {bd : GF} {elt : DF} {vs : List Nat} {ρ0 : Rho} (f : PyData → PyData) (xs : List PyData) {acc : List PyData} {Φ : List PyData → Rho → Prop}
    (step : ∀ y ∈ xs, ∀ N : Option PyData → Rho → Prop, N (some (f y)) ρ0 → bd y ρ0 fun ρ1 => brP true (elt ρ1 fun h ρ3 => datOf h ρ3 fun d ρ4 => N (some d) (clr vs ρ4)) (N none (clr vs ρ1)))
    (h : Φ (acc ++ xs.map f) ρ0) (hok : c.ok ρ0 := by first | exact trivial | exact rfl) : cmp c bd yesF elt vs xs acc ρ0 Φ := by
  have := cmp_map (enc := id) f xs step h hok
  rwa [List.map_id] at this
/-! ### loops by their turns -/
theorem forP_idx {α : Type} {bd : GF} {body : SF} {k : Kont} {enc : α → PyData} (xs : List α) (I : Nat → Rho → Prop) (done : ∀ ρ, I xs.length ρ → k.nx ρ)
    (step : ∀ i y ρ, xs[i]? = some y → I i ρ → ∀ N : Rho → Prop, (∀ ρ', I (i + 1) ρ' → N ρ') → bd (enc y) ρ fun ρ1 => body ρ1 { nx := N, ct := N, bk := k.nx, rt := k.rt }) (ρ : Rho) (h : I 0 ρ) : forP bd body (xs.map enc) ρ k := by
  refine forP_ind (enc := enc) (fun r ρ => ∃ i, r = xs.drop i ∧ i ≤ xs.length ∧ I i ρ) (fun ρ ⟨i, e, hi, q⟩ => ?_) (fun y r ρ ⟨i, e, hi, q⟩ N hN => ?_) xs ρ ⟨0, rfl, Nat.zero_le _, h⟩
  · have : i = xs.length := by
      have := congrArg List.length e
      rw [List.length_nil, List.length_drop] at this
      omega
    subst this
    exact done ρ q
  · have hl : i < xs.length := by
      have := congrArg List.length e
      rw [List.length_cons, List.length_drop] at this
      omega
    have e2 := List.drop_eq_getElem_cons hl
    rw [e2] at e
    injection e with e3 e4
    exact step i y ρ (by rw [e3]; exact List.getElem?_eq_getElem hl) q N fun ρ' q' => hN ρ' ⟨i + 1, e4, hl, q'⟩
theorem forP_rng {bd : GF} {body : SF} {k : Kont} {enc : Nat → PyData} (n : Nat) (I : Nat → Rho → Prop) (done : ∀ ρ, I n ρ → k.nx ρ)
    (step : ∀ i ρ, i < n → I i ρ → ∀ N : Rho → Prop, (∀ ρ', I (i + 1) ρ' → N ρ') → bd (enc i) ρ fun ρ1 => body ρ1 { nx := N, ct := N, bk := k.nx, rt := k.rt }) (ρ : Rho) (h : I 0 ρ) : forP bd body ((List.range n).map enc) ρ k :=
  forP_idx (List.range n) I (by rw [List.length_range]; exact done) (fun i y ρ hy q N hN => by
    obtain ⟨hl, e⟩ := List.getElem?_eq_some_iff.mp hy
    rw [List.length_range] at hl
    rw [List.getElem_range] at e
    subst e
    exact step i ρ hl q N hN) ρ h
theorem forP_enum {α : Type} {bd : GF} {body : SF} {k : Kont} {g : α → PyData} (xs : List α) (I : Nat → Rho → Prop) (done : ∀ ρ, I xs.length ρ → k.nx ρ)
    (step : ∀ i y ρ, xs[i]? = some y → I i ρ → ∀ N : Rho → Prop, (∀ ρ', I (i + 1) ρ' → N ρ') → bd (.tuple [.int (i : Int), g y]) ρ fun ρ1 => body ρ1 { nx := N, ct := N, bk := k.nx, rt := k.rt }) (ρ : Rho) (h : I 0 ρ) : forP bd body (enumD 0 (xs.map g)) ρ k := by
  rw [enumD_map0]
  refine forP_idx xs.zipIdx I (by rw [List.length_zipIdx]; exact done) (fun i y ρ hy q N hN => ?_) ρ h
  rw [List.getElem?_zipIdx] at hy
  obtain ⟨x, hx, rfl⟩ := Option.map_eq_some_iff.mp hy
  have := step i x ρ hx q N hN
  simpa using this
/-! ### plain -/
theorem fm_if {α β : Type} (p : α → Bool) (g : α → β) : ∀ l : List α, (l.filterMap fun x => if p x = true then some (g x) else none) = (l.filter p).map g
  | [] => rfl
  | x :: l => by
    have := fm_if p g l
    cases h : p x
    · simp [List.filterMap_cons, List.filter_cons, h, this]
    · simp [List.filterMap_cons, List.filter_cons, h, this]
theorem rev_ind {α : Type} {P : List α → Prop} (h0 : P []) (h1 : ∀ l a, P l → P (l ++ [a])) (l : List α) : P l := by
  have h : ∀ r : List α, P r.reverse := fun r => by
    induction r with
    | nil => exact h0
    | cons a r ih => rw [List.reverse_cons]; exact h1 _ _ ih
  have := h l.reverse
  rwa [List.reverse_reverse] at this
theorem getD_mem {α : Type} {xs : List α} {i : Nat} {d : α} (h : i < xs.length) : xs.getD i d ∈ xs := by
  rw [List.getD_eq_getElem?_getD, List.getElem?_eq_getElem h]; exact List.getElem_mem h
theorem putK_len (kvs : List (Key × V)) (k : Key) (v : V) : (putK kvs k v).length = if (valV kvs k).isSome then kvs.length else kvs.length + 1 := by
  cases h : valV kvs k with
  | none => rw [putK_new v h]; simp
  | some x =>
    have := valV_any k kvs
    rw [h] at this
    unfold putK
    rw [if_pos (by rw [this]; rfl)]; simp
theorem kvI_val (ns : List Int) : ∀ n : Int, (valV (kvI ns) (Sum.inl n)).isSome = decide (n ∈ ns) := by
  refine rev_ind (P := fun ns => ∀ n : Int, (valV (kvI ns) (Sum.inl n)).isSome = decide (n ∈ ns)) (fun n => rfl) (fun ns m ih n => ?_) ns
  rw [kvI_snoc, valV_put]
  by_cases h : n = m
  · subst h; simp
  · rw [if_neg (by simpa using h), ih]
    by_cases h2 : n ∈ ns <;> simp [h, h2]
theorem diff_snoc (ns : List Int) (n : Int) : diff (ns ++ [n]) = if n ∈ ns then diff ns else diff ns + 1 := by
  unfold diff
  rw [kvI_snoc, putK_len, kvI_val]
  simp
theorem diff_le (ns : List Int) : diff ns ≤ ns.length := kvI_le ns
theorem diff_nodup (ns : List Int) : diff ns = ns.length ↔ ns.Nodup := by
  refine rev_ind (P := fun ns => diff ns = ns.length ↔ ns.Nodup) (by simp [diff, kvI]) (fun ns m ih => ?_) ns
  rw [diff_snoc, List.length_append, List.length_singleton, List.nodup_append]
  have := diff_le ns
  by_cases h : m ∈ ns
  · rw [if_pos h]
    constructor
    · intro e; omega
    · rintro ⟨_, _, h3⟩
      exact absurd rfl (h3 m h m (by simp))
  · rw [if_neg h]
    constructor
    · intro e
      refine ⟨ih.mp (by omega), by simp, fun a ha b hb => ?_⟩
      rw [List.mem_singleton] at hb
      subst hb
      exact fun z => h (z ▸ ha)
    · rintro ⟨h1, _, _⟩
      rw [ih.mpr h1]
theorem nodup_int (p : List Nat) : (p.map fun (n : Nat) => (n : Int)).Nodup ↔ p.Nodup := by
  rw [List.nodup_iff_pairwise_ne, List.nodup_iff_pairwise_ne, List.pairwise_map]
  constructor
  · exact fun h => h.imp fun hab e => hab (by rw [e])
  · exact fun h => h.imp fun hab e => hab (by omega)
theorem map_nI (p : List Nat) : p.map nI = (p.map fun (n : Nat) => (n : Int)).map PyData.int := by rw [List.map_map]; rfl
end Dat


set_option Elab.async false
set_option linter.all false
set_option maxRecDepth 100000
set_option maxHeartbeats 4000000
/-! K60C: what the defs compute, their contracts. -/
namespace K60
open PySem L2 Dat
abbrev Lay := List (List Nat) × List (List Nat)
def eL (l : Lay) : PyData := .tuple [eTs l.1, eTs l.2]
/-- of so many sheets, to such ones -/
def Mp (d : Nat) (p : List Nat) : Prop := p.length = d ∧ ∀ i ∈ p, i < d
def Sh (d : Nat) (p : List Nat) : Prop := Mp d p ∧ p.Nodup
def LayM (d : Nat) (l : Lay) : Prop := l.1.length ≤ 20 ∧ l.2.length ≤ 20 ∧ (∀ p ∈ l.1, Mp d p) ∧ ∀ p ∈ l.2, Mp d p
def LayS (d : Nat) (l : Lay) : Prop := l.1.length ≤ 20 ∧ l.2.length ≤ 20 ∧ (∀ p ∈ l.1, Sh d p) ∧ ∀ p ∈ l.2, Sh d p
def beh (p q : List Nat) : List Nat := p.map fun i => q.getD i 0
def bk (p : List Nat) : List Nat := (List.range p.length).map fun i => p.idxOf i
def C_behind : CF := fun as Φ => ∃ p q : List Nat, as = [.da (eT p), .da (eT q)] ∧ p.length ≤ 1000 ∧ (∀ i ∈ p, i < q.length) ∧ Φ (eT (beh p q))
def C_law_behind : CF := C_behind
def isSheet (d : Nat) : PyData → Bool
  | .int i => decide (0 ≤ i ∧ i < (d : Int))
  | _ => false
def C_is_sheet : CF := fun as Φ => ∃ (d : Nat) (v : PyData), as = [.da (nI d), .da v] ∧ Φ (.bool (isSheet d v))
def isSh (d : Nat) : PyData → Bool
  | .tuple ds => ds.length == d && ds.all (isSheet d) && decide ((ds.map toNat).Nodup)
  | _ => false
where toNat : PyData → Nat
  | .int i => i.toNat
  | _ => 0
/-- what may be asked whether it is a shuffle -/
def OkV : PyData → Prop
  | .tuple ds => ds.length ≤ 1000
  | _ => True
def C_is_shuffle : CF := fun as Φ => ∃ (d : Nat) (v : PyData), as = [.da (nI d), .da v] ∧ OkV v ∧ Φ (.bool (isSh d v))
def C_law_is_shuffle : CF := fun as Φ => ∃ (d : Nat) (v : PyData), as = [.da (nI d), .da v] ∧ d ≤ 1000 ∧ OkV v ∧ Φ (.bool (isSh d v))
def stepS (d : Nat) (rows : List (List Nat)) : List (List Nat) := rows.flatMap fun row => ((List.range d).filter fun i => !row.contains i).map fun i => row ++ [i]
def shGo (d : Nat) : Nat → List (List Nat)
  | 0 => [[]]
  | k + 1 => stepS d (shGo d k)
def shs (d : Nat) : List (List Nat) := shGo d d
def C_shuffles_of : CF := fun as Φ => ∃ d : Nat, as = [.da (nI d)] ∧ d ≤ 4 ∧ Φ (eTs (shs d))
def C_law_all_shuffles : CF := fun as Φ => ∃ d : Nat, as = [.da (nI d)] ∧ d ≤ 4 ∧ Φ (.list ((shs d).map eT))
def isDeck (l : Lay) (s : List Nat) : Bool := (l.1 ++ l.2).all fun p => decide (beh p s = beh s p)
def C_is_deck : CF := fun as Φ => ∃ (d : Nat) (l : Lay) (s : List Nat), as = [.da (eL l), .da (eT s)] ∧ d ≤ 1000 ∧ LayM d l ∧ Mp d s ∧ Φ (.bool (isDeck l s))
def decks (d : Nat) (l : Lay) : List (List Nat) := (shs d).filter (isDeck l)
def C_decks_of : CF := fun as Φ => ∃ (d : Nat) (l : Lay), as = [.da (nI d), .da (eL l)] ∧ d ≤ 4 ∧ LayM d l ∧ Φ (eTs (decks d l))
/-! ### the judges -/
def lt (p q : List Nat) : Bool := PySem.W.dataLt (eT p) (eT q)
/-- the first place of a list that does not go up -/
def seqAt : Nat → List (List Nat) → Option Nat
  | _, [] => none
  | _, [_] => none
  | i, p :: q :: r => if lt p q then seqAt (i + 1) (q :: r) else some i
def deckAt (l : Lay) : Nat → List (List Nat) → Option Nat
  | _, [] => none
  | i, s :: r => if isDeck l s then deckAt l (i + 1) r else some i
def shOf : PyData → List Nat
  | .tuple ds => ds.map isSh.toNat
  | _ => []
def jd (d : Nat) (l : Lay) (v : PyData) : PyData := match v with
  | .tuple ds => if ds.all (isSh d) then
      (match seqAt 1 (ds.map shOf) with
      | some i => .tuple [.str "sequence", nI i]
      | none => match deckAt l 0 (ds.map shOf) with
        | some i => .tuple [.str "deck", nI i]
        | none => match (decks d l).filter fun s => !(ds.map shOf).contains s with
          | [] => .none
          | s :: _ => .tuple [.str "missing", eT s])
    else .tuple [.str "form"]
  | _ => .tuple [.str "form"]
/-- what may be judged -/
def OkJ : PyData → Prop
  | .tuple ds => ds.length ≤ 1000 ∧ ∀ x ∈ ds, OkV x
  | _ => True
def C_judge_decks : CF := fun as Φ => ∃ (d : Nat) (l : Lay) (v : PyData), as = [.da (nI d), .da (eL l), .da v] ∧ d ≤ 4 ∧ LayM d l ∧ OkJ v ∧ Φ (jd d l v)
def C_law_judged : CF := C_judge_decks
/-- the first sheet that is led otherwise -/
def wrongs (d : Nat) (s p q : List Nat) : List Nat := (List.range d).filter fun i => s.getD (p.getD i 0) 0 != q.getD (s.getD i 0) 0
def jaGo (d : Nat) (s : List Nat) : Nat → List (List Nat × List Nat) → PyData
  | _, [] => .none
  | k, (p, q) :: r => match wrongs d s p q with
    | [] => jaGo d s (k + 1) r
    | i :: _ => .tuple [.str "shuffle", nI k, nI i]
def ja (d : Nat) (one other : Lay) (v : PyData) : PyData := if isSh d v then jaGo d (shOf v) 0 ((one.1 ++ one.2).zip (other.1 ++ other.2)) else .tuple [.str "form"]
def C_judge_alike : CF := fun as Φ => ∃ (d : Nat) (one other : Lay) (v : PyData), as = [.da (nI d), .da (eL one), .da (eL other), .da v] ∧ d ≤ 4 ∧ LayM d one ∧ LayM d other ∧ OkV v ∧ Φ (ja d one other v)
def C_law_called : CF := fun as Φ => ∃ (d : Nat) (one other : Lay) (v : PyData), as = [.da (nI d), .da (eL one), .da (eL other), .da v] ∧ d ≤ 4 ∧ LayM d one ∧ LayM d other ∧ one.1.length = other.1.length ∧ one.2.length = other.2.length ∧ OkV v ∧ Φ (ja d one other v)
/-! ### the law's own -/
def C_law_pick : CF := fun as Φ => ∃ (b : Nat) (n : Int), as = [.sr b 1, .da (.int n)] ∧ b ≤ 1000000 ∧ n ≤ 1000000 ∧ ∀ j : Int, 0 ≤ j → j < max n 1 → Φ (.int j)
def C_law_of : CF := fun as Φ => ∃ (b : Nat) (xs : List PyData), as = [.sr b 1, .da (.list xs)] ∧ b ≤ 1000000 ∧ xs ≠ [] ∧ xs.length ≤ 1000 ∧ ∀ x ∈ xs, Φ x
def C_law_mixed : CF := fun as Φ => ∃ (b : Nat) (xs : List PyData), (as = [.sr b 32, .da (.list xs)] ∨ as = [.sr b 32, .da (.tuple xs)]) ∧ b ≤ 900000 ∧ xs.length ≤ 32 ∧ ∀ ys, ys.Perm xs → Φ (.list ys)
def C_law_back : CF := fun as Φ => ∃ (d : Nat) (p : List Nat), as = [.da (eT p)] ∧ d ≤ 1000 ∧ Sh d p ∧ Φ (eT (bk p))
inductive Bs where
  | h (n : Nat)
  | c (n : Nat)
def eB : Bs → PyData
  | .h n => .tuple [.str "handles", nI n]
  | .c n => .tuple [.str "crosscaps", nI n]
def Bs.many : Bs → Nat
  | .h n => 2 * n
  | .c n => n
def C_law_word : CF := fun as Φ => ∃ (d : Nat) (b : Bs) (l : Lay), as = [.da (.tuple [nI d, eB b, .tuple []]), .da (eL l)] ∧ d ≤ 1000 ∧ LayS d l ∧ l.1.length = b.many ∧ ∀ w, Sh d w → Φ (eT w)
def C_law_round : CF := fun as Φ => ∃ (d : Nat) (p : List Nat) (i : Nat), as = [.da (eT p), .da (nI i)] ∧ d ≤ 100 ∧ Mp d p ∧ i < d ∧ ∀ ns : List Nat, ns ≠ [] → ns.length ≤ 200 → Φ (.list (ns.map nI))
def C_law_type : CF := fun as Φ => ∃ (d : Nat) (p : List Nat), as = [.da (eT p)] ∧ d ≤ 100 ∧ Mp d p ∧ ∀ ns : List Int, Φ (.tuple (ns.map .int))
def C_law_laid : CF := fun as Φ => ∃ (r d m : Nat) (b : Bs), as = [.sr r 300, .da (nI d), .da (eB b), .da (nI m)] ∧ r ≤ 800000 ∧ d ≤ 4 ∧ b.many ≤ 2 ∧ m ≤ 3 ∧ ∀ (l : Lay) (ts : List PyData), LayS d l → l.1.length = b.many → l.2.length ≤ 4 → ts.length = l.2.length → Φ (.tuple [.tuple [nI d, eB b, .tuple ts], eL l])
def led (l : Lay) (s : List Nat) : Lay := (l.1.map fun p => beh (beh (bk s) p) s, l.2.map fun p => beh (beh (bk s) p) s)
def C_law_led : CF := fun as Φ => ∃ (d : Nat) (l : Lay) (s : List Nat), as = [.da (eL l), .da (eT s)] ∧ d ≤ 1000 ∧ LayM d l ∧ Sh d s ∧ Φ (eL (led l s))
def owns (d : Nat) (l : Lay) : List (List Nat) := (shs d).filter fun s => decide (led l s = l)
def C_law_own_decks : CF := fun as Φ => ∃ (d : Nat) (l : Lay), as = [.da (nI d), .da (eL l)] ∧ d ≤ 4 ∧ LayM d l ∧ Φ (.list ((owns d l).map eT))
def C_law_parted : CF := fun as Φ => ∃ (r m : Nat) (b : Bs) (sizes : List Nat), as = [.sr r 1000, .da (eB b), .da (nI m), .da (.list (sizes.map nI))] ∧ r ≤ 700000 ∧ b.many ≤ 2 ∧ m ≤ 3 ∧ sizes ≠ [] ∧ sizes.length ≤ 3 ∧ sizes.sum ≤ 4 ∧ ∀ (l : Lay) (ts : PyData), LayM sizes.sum l → Φ (.tuple [.tuple [nI sizes.sum, eB b, ts], eL l])
def C_law_some : CF := fun as Φ => ∃ r : Nat, as = [.sr r 1010] ∧ r ≤ 600000 ∧ ∀ (d : Nat) (l : Lay) (b ts : PyData), 1 ≤ d → d ≤ 4 → LayM d l → Φ (.tuple [.tuple [nI d, b, ts], eL l])
def OddOk (v : PyData) : Prop := OkV v ∧ Rc v 100 3
def C_law_odd : CF := fun as Φ => ∃ r d : Nat, as = [.sr r 33, .da (nI d)] ∧ r ≤ 800000 ∧ 1 ≤ d ∧ d ≤ 4 ∧ ∀ v, OddOk v → Φ v
def C_law_bent : CF := fun as Φ => ∃ (r d : Nat) (ps : List (List Nat)), as = [.sr r 100, .da (nI d), .da (eTs ps)] ∧ r ≤ 700000 ∧ 1 ≤ d ∧ d ≤ 4 ∧ ps ≠ [] ∧ ps.length ≤ 24 ∧ (∀ p ∈ ps, Sh d p) ∧ ∀ v, OkJ v → reprC v → Φ v
end K60


set_option Elab.async false
set_option linter.all false
set_option maxRecDepth 100000
set_option maxHeartbeats 4000000
/-! K60A: plain facts. -/
namespace K60
open PySem L2 Dat
theorem isSheet_nat {d : Nat} {x : PyData} (h : isSheet d x = true) : x = nI (isSh.toNat x) ∧ isSh.toNat x < d := by
  cases x with
  | int i =>
    have h : 0 ≤ i ∧ i < (d : Int) := by simpa [isSheet] using h
    refine ⟨?_, ?_⟩
    · show PyData.int i = .int ((i.toNat : Nat) : Int)
      rw [Int.toNat_of_nonneg h.1]
    · show i.toNat < d
      omega
  | _ => simp [isSheet] at h
theorem all_sheet {d : Nat} {ds : List PyData} (h : ds.all (isSheet d) = true) : ds = (ds.map isSh.toNat).map nI ∧ ∀ i ∈ ds.map isSh.toNat, i < d := by
  rw [List.all_eq_true] at h
  refine ⟨?_, fun i hi => ?_⟩
  · rw [List.map_map]
    conv => lhs; rw [← List.map_id ds]
    exact List.map_congr_left fun x hx => (isSheet_nat (h x hx)).1
  · obtain ⟨x, hx, rfl⟩ := List.mem_map.mp hi
    exact (isSheet_nat (h x hx)).2
/-- what is told a shuffle is one -/
theorem isSh_iff {d : Nat} {v : PyData} : isSh d v = true ↔ v = eT (shOf v) ∧ Sh d (shOf v) := by
  cases v with
  | tuple ds =>
    constructor
    · intro h
      have h : (ds.length = d ∧ ds.all (isSheet d) = true) ∧ (ds.map isSh.toNat).Nodup := by simpa [isSh] using h
      obtain ⟨⟨h1, h2⟩, h3⟩ := h
      obtain ⟨h4, h5⟩ := all_sheet h2
      refine ⟨?_, ⟨by show (ds.map _).length = d; rw [List.length_map]; exact h1, h5⟩, h3⟩
      show PyData.tuple ds = .tuple ((ds.map isSh.toNat).map nI)
      rw [← h4]
    · rintro ⟨h1, ⟨h2, h3⟩, h4⟩
      have h1 : ds = (ds.map isSh.toNat).map nI := by
        have h1 : PyData.tuple ds = .tuple ((ds.map isSh.toNat).map nI) := h1
        injection h1
      have h2 : (ds.map isSh.toNat).length = d := h2
      rw [List.length_map] at h2
      have h5 : ds.all (isSheet d) = true := by
        rw [List.all_eq_true]
        intro x hx
        rw [h1] at hx
        obtain ⟨n, hn, rfl⟩ := List.mem_map.mp hx
        have := h3 n hn
        show decide (0 ≤ (n : Int) ∧ (n : Int) < (d : Int)) = true
        simp; omega
      have h4 : (ds.map isSh.toNat).Nodup := h4
      simp [isSh, h2, h5, h4]
  | _ => 
    constructor
    · intro h; simp [isSh] at h
    · rintro ⟨h, _⟩; cases h
theorem shOf_eT (p : List Nat) : shOf (eT p) = p := by
  show (p.map nI).map isSh.toNat = p
  rw [List.map_map]
  conv => rhs; rw [← List.map_id p]
  exact List.map_congr_left fun n _ => by simp [isSh.toNat, nI]
theorem isSh_eT {d : Nat} {p : List Nat} : isSh d (eT p) = true ↔ Sh d p := by
  rw [isSh_iff, shOf_eT]; exact ⟨fun h => h.2, fun h => ⟨rfl, h⟩⟩
theorem isSh_spec (d : Nat) (ds : List PyData) : isSh d (.tuple ds) = (ds.length == d && ds.all (isSheet d) && decide ((ds.map isSh.toNat).Nodup)) := rfl
end K60


set_option Elab.async false
set_option linter.all false
set_option maxRecDepth 100000
set_option maxHeartbeats 4000000
/-! the walks of K60, printed by gen.py -/
namespace K60
open PySem L2 Dat
def topS (i : Nat) : Stmt := PySem.Challenge.pw_sheetslaid_k60_decks_and_alike_ones_judg.main.body.getD i (.Pass ⟨0, 0, 0, 0⟩)
abbrev st_law_source : Stmt := topS 12
abbrev st_law_pick : Stmt := topS 13
abbrev st_behind : Stmt := topS 1
abbrev st_is_sheet : Stmt := topS 2
abbrev st_is_shuffle : Stmt := topS 3
abbrev st_shuffles_of : Stmt := topS 4
abbrev st_is_deck : Stmt := topS 6
abbrev st_decks_of : Stmt := topS 7
abbrev st_judge_decks : Stmt := topS 9
abbrev st_judge_alike : Stmt := topS 10
abbrev st_law_of : Stmt := topS 14
abbrev st_law_mixed : Stmt := topS 15
abbrev st_law_behind : Stmt := topS 16
abbrev st_law_back : Stmt := topS 17
abbrev st_law_word : Stmt := topS 18
abbrev st_law_round : Stmt := topS 19
abbrev st_law_type : Stmt := topS 20
abbrev st_law_laid : Stmt := topS 21
abbrev st_law_led : Stmt := topS 22
abbrev st_law_all_shuffles : Stmt := topS 23
abbrev st_law_own_decks : Stmt := topS 24
abbrev st_law_parted : Stmt := topS 25
abbrev st_law_some : Stmt := topS 26
abbrev st_law_is_shuffle : Stmt := topS 27
abbrev st_law_judged : Stmt := topS 28
abbrev st_law_called : Stmt := topS 29
abbrev st_law_odd : Stmt := topS 30
abbrev st_law_bent : Stmt := topS 31
abbrev st_law : Stmt := topS 32
structure Bl (mg : Str → Option Value) : Prop where
  n_all : mg "all" = none
  n_bool : mg "bool" = none
  n_enumerate : mg "enumerate" = none
  n_int : mg "int" = none
  n_isinstance : mg "isinstance" = none
  n_len : mg "len" = none
  n_list : mg "list" = none
  n_max : mg "max" = none
  n_min : mg "min" = none
  n_range : mg "range" = none
  n_repr : mg "repr" = none
  n_sorted : mg "sorted" = none
  n_sum : mg "sum" = none
  n_tuple : mg "tuple" = none
  n_zip : mg "zip" = none
section
variable {P : Program} {w : World} {K : PySem.W.Frag} {mg : Str → Option Value} {base : Heap}
abbrev N_behind : List Str := ["p", "q", "i"]
theorem sc_behind : FnScope N_behind ["p", "q"] (defScope st_behind) := ⟨rfl, rfl, rfl, by decide +kernel, rfl, by decide +kernel, by decide +kernel⟩
def F_behind : SF := (retF (unF toTupP (compF (itC (nameF 0)) (bdN 2) yesF (opF ixP (nameF 1) (nameF 2)) [2])))
theorem w_behind {k : Nat} {f : Addr} (bl : Bl mg)  (cdv : Value) (A : Around) (outer : List PySem.Env) (s : Shared) (H : Hp) (E : XK) (hr : Room k (A.deeper (PyProof.Rows.envOfC "behind" (defScope st_behind) s.heap.objs.size f cdv))) :
    PSs (cxOf CX0 P w K mg base N_behind "behind" (defScope st_behind) f cdv A outer s H E).nox (defBody st_behind) (dS K F_behind) := (ds_one (ds_ret (de_toTup bl.n_tuple (de_lc (own := [("i", 2)]) rfl sc_behind.nd (di_seqC (de_name 0)) (okC (N := N_behind) (sc := (defScope st_behind)) (own := [("i", 2)]) (by decide +kernel)) (fun _ _ _ _ _ => (dg_name 2 sc_behind.nd)) (fun _ _ _ _ _ => dts_nil) (fun _ _ _ _ _ => (de_ix (de_name 1) (de_name 2))) (by decide)))))
abbrev N_is_sheet : List Str := ["d", "value"]
theorem sc_is_sheet : FnScope N_is_sheet ["d", "value"] (defScope st_is_sheet) := ⟨rfl, rfl, rfl, by decide +kernel, rfl, by decide +kernel, by decide +kernel⟩
def F_is_sheet : SF := (retF (vandF (unF (isaP PyData.isInt) (nameF 1)) (vandF (vnotF (unF (isaP PyData.isBool) (nameF 1))) (chainF leP ltP (constF (.int 0)) (nameF 1) (nameF 0)))))
theorem w_is_sheet {k : Nat} {f : Addr} (bl : Bl mg)  (cdv : Value) (A : Around) (outer : List PySem.Env) (s : Shared) (H : Hp) (E : XK) (hr : Room k (A.deeper (PyProof.Rows.envOfC "is_sheet" (defScope st_is_sheet) s.heap.objs.size f cdv))) :
    PSs (cxOf CX0 P w K mg base N_is_sheet "is_sheet" (defScope st_is_sheet) f cdv A outer s H E).nox (defBody st_is_sheet) (dS K F_is_sheet) := (ds_one (ds_ret (dv_and (de_isa cr_isaInt bl.n_isinstance bl.n_int PyProof.Rows.boot_int (de_name 1)) (dv_and (dv_not (de_isa cr_isaBool bl.n_isinstance bl.n_bool PyProof.Rows.boot_bool (de_name 1))) (dv_one (de_chain op_le op_lt (p_int0 fun _ _ _ => .bl _) (p_int0 fun _ _ _ => .bl _) de_int (de_name 1) (de_name 0)))))))
abbrev N_is_shuffle : List Str := ["d", "value", "i"]
theorem sc_is_shuffle : FnScope N_is_shuffle ["d", "value"] (defScope st_is_shuffle) := ⟨rfl, rfl, rfl, by decide +kernel, rfl, by decide +kernel, by decide +kernel⟩
def F_is_shuffle : SF := (seqF (ifS (orF (notF (boolF (unF (isaP PyData.isTuple) (nameF 1)))) (orF (boolF (opF neP (unF lenP (nameF 1)) (nameF 0))) (notF (boolF (unF allP (compF (itC (nameF 1)) (bdN 2) yesF (callC 2 C_is_sheet (aconsF false (nameF 0) (aconsF false (nameF 2) anilF))) [2])))))) (retF (constF (.bool false))) skipF)
  (retF (opF eqP (lenDcF 2 (itC (nameF 1)) [2]) (nameF 0))))
theorem w_is_shuffle {k : Nat} {f : Addr} (bl : Bl mg) (c_is_sheet : Cal P w K mg base k "is_sheet" 2 C_is_sheet) (cdv : Value) (A : Around) (outer : List PySem.Env) (s : Shared) (H : Hp) (E : XK) (hr : Room k (A.deeper (PyProof.Rows.envOfC "is_shuffle" (defScope st_is_shuffle) s.heap.objs.size f cdv))) :
    PSs (cxOf CX0 P w K mg base N_is_shuffle "is_shuffle" (defScope st_is_shuffle) f cdv A outer s H E).nox (defBody st_is_shuffle) (dS K F_is_shuffle) := (ds_cons (ds_if (dt_pw (dw_or (dt_not (dt_val (de_isa cr_isaTuple bl.n_isinstance bl.n_tuple PyProof.Rows.boot_tuple (de_name 1)))) (dw_or (dt_cmp (o_ne hr.units) p_ne (de_len bl.n_len (de_name 1)) (de_name 0)) (dw_or1 (dt_not (dt_val (de_all rfl bl.n_all (de_lc (own := [("i", 2)]) rfl sc_is_shuffle.nd (di_seqC (de_name 1)) (okC (N := N_is_shuffle) (sc := (defScope st_is_shuffle)) (own := [("i", 2)]) (by decide +kernel)) (fun _ _ _ _ _ => (dg_name 2 sc_is_shuffle.nd)) (fun _ _ _ _ _ => dts_nil) (fun _ _ _ _ _ => (de_callC c_is_sheet hr rfl (da_cons false (de_name 0) (da_cons false (de_name 2) da_nil)))) (by decide))))))))) (ds_one (ds_ret de_bl)) ds_nil)
  (ds_one (ds_ret (de_cmp (o_eq hr.units) p_eq (de_lenDc (own := [("i", 2)]) 2 bl.n_len rfl sc_is_shuffle.nd (di_seqC (de_name 1)) (okC (N := N_is_shuffle) (sc := (defScope st_is_shuffle)) (own := [("i", 2)]) (by decide +kernel)) (by decide)) (de_name 0)))))
abbrev N_shuffles_of : List Str := ["d", "found", "place", "longer", "row", "sheet"]
theorem sc_shuffles_of : FnScope N_shuffles_of ["d"] (defScope st_shuffles_of) := ⟨rfl, rfl, rfl, by decide +kernel, rfl, by decide +kernel, by decide +kernel⟩
def F_shuffles_of : SF := (seqF (setF 1 (lstF (consF (tupF nilF) nilF)))
  (seqF (forF (itR1 (consF (nameF 0) nilF)) (bdN 2) (seqF (ownF 3 (lstF nilF))
  (seqF (forF (itS (nameF 1)) (bdN 4) (extF 3 (compF (itR1 (consF (nameF 0) nilF)) (bdN 5) (boolF (opF niP (nameF 5) (nameF 4))) (tupF (starF (nameF 4) (consF (nameF 5) nilF))) [5])))
  (setF 1 (unF toLstP (nameF 3))))))
  (retF (unF toTupP (nameF 1)))))
theorem w_shuffles_of {k : Nat} {f : Addr} (bl : Bl mg)  (cdv : Value) (A : Around) (outer : List PySem.Env) (s : Shared) (H : Hp) (E : XK) (hr : Room k (A.deeper (PyProof.Rows.envOfC "shuffles_of" (defScope st_shuffles_of) s.heap.objs.size f cdv))) :
    PSs (cxOf CX0 P w K mg base N_shuffles_of "shuffles_of" (defScope st_shuffles_of) f cdv A outer s H E).nox (defBody st_shuffles_of) (dS K F_shuffles_of) := (ds_cons (ds_set 1 (de_lst (dl_cons (de_tup dl_nil) dl_nil)) sc_shuffles_of.nd)
  (ds_cons (ds_for (hp := PassesOwn.never) rfl (di_range1 bl.n_range (dl_cons (de_name 0) dl_nil)) (dg_name 2 sc_shuffles_of.nd) (ds_cons (ds_own 3 (de_lst dl_nil) sc_shuffles_of.nd)
  (ds_cons (ds_for (hp := PassesOwn.never) rfl (di_seq (de_name 1)) (dg_name 4 sc_shuffles_of.nd) (ds_one (ds_extend 3 (de_lc (own := [("sheet", 5)]) rfl sc_shuffles_of.nd (di_range1 bl.n_range (dl_cons (de_name 0) dl_nil)) (okC (N := N_shuffles_of) (sc := (defScope st_shuffles_of)) (own := [("sheet", 5)]) (by decide +kernel)) (fun _ _ _ _ _ => (dg_name 5 sc_shuffles_of.nd)) (fun _ _ _ _ _ => (dts_one (dt_cmp (o_ni hr.u65) p_ni (de_name 5) (de_name 4)))) (fun _ _ _ _ _ => (de_tup (dl_star (de_name 4) (dl_cons (de_name 5) dl_nil)))) (by decide)))))
  (ds_one (ds_set 1 (de_toLst bl.n_list (de_name 3)) sc_shuffles_of.nd)))))
  (ds_one (ds_ret (de_toTup bl.n_tuple (de_name 1))))))
abbrev N_is_deck : List Str := ["laying", "s", "p"]
theorem sc_is_deck : FnScope N_is_deck ["laying", "s"] (defScope st_is_deck) := ⟨rfl, rfl, rfl, by decide +kernel, rfl, by decide +kernel, by decide +kernel⟩
def F_is_deck : SF := (retF (unF allP (compF (itC (opF addP (opF ixP (nameF 0) (constF (.int 0))) (opF ixP (nameF 0) (constF (.int 1))))) (bdN 2) yesF (opF eqP (callC 2 C_behind (aconsF false (nameF 2) (aconsF false (nameF 1) anilF))) (callC 2 C_behind (aconsF false (nameF 1) (aconsF false (nameF 2) anilF)))) [2])))
theorem w_is_deck {k : Nat} {f : Addr} (bl : Bl mg) (c_behind : Cal P w K mg base k "behind" 2 C_behind) (cdv : Value) (A : Around) (outer : List PySem.Env) (s : Shared) (H : Hp) (E : XK) (hr : Room k (A.deeper (PyProof.Rows.envOfC "is_deck" (defScope st_is_deck) s.heap.objs.size f cdv))) :
    PSs (cxOf CX0 P w K mg base N_is_deck "is_deck" (defScope st_is_deck) f cdv A outer s H E).nox (defBody st_is_deck) (dS K F_is_deck) := (ds_one (ds_ret (de_all rfl bl.n_all (de_lc (own := [("p", 2)]) rfl sc_is_deck.nd (di_seqC (de_op o_add p_add (de_ix (de_name 0) de_int) (de_ix (de_name 0) de_int))) (okC (N := N_is_deck) (sc := (defScope st_is_deck)) (own := [("p", 2)]) (by decide +kernel)) (fun _ _ _ _ _ => (dg_name 2 sc_is_deck.nd)) (fun _ _ _ _ _ => dts_nil) (fun _ _ _ _ _ => (de_cmp (o_eq hr.units) p_eq (de_callC c_behind hr rfl (da_cons false (de_name 2) (da_cons false (de_name 1) da_nil))) (de_callC c_behind hr rfl (da_cons false (de_name 1) (da_cons false (de_name 2) da_nil))))) (by decide)))))
abbrev N_decks_of : List Str := ["d", "laying", "s"]
theorem sc_decks_of : FnScope N_decks_of ["d", "laying"] (defScope st_decks_of) := ⟨rfl, rfl, rfl, by decide +kernel, rfl, by decide +kernel, by decide +kernel⟩
def F_decks_of : SF := (retF (unF toTupP (compF (itC (callC 1 C_shuffles_of (aconsF false (nameF 0) anilF))) (bdN 2) (boolF (callC 2 C_is_deck (aconsF false (nameF 1) (aconsF false (nameF 2) anilF)))) (nameF 2) [2])))
theorem w_decks_of {k : Nat} {f : Addr} (bl : Bl mg) (c_shuffles_of : Cal P w K mg base k "shuffles_of" 1 C_shuffles_of) (c_is_deck : Cal P w K mg base k "is_deck" 2 C_is_deck) (cdv : Value) (A : Around) (outer : List PySem.Env) (s : Shared) (H : Hp) (E : XK) (hr : Room k (A.deeper (PyProof.Rows.envOfC "decks_of" (defScope st_decks_of) s.heap.objs.size f cdv))) :
    PSs (cxOf CX0 P w K mg base N_decks_of "decks_of" (defScope st_decks_of) f cdv A outer s H E).nox (defBody st_decks_of) (dS K F_decks_of) := (ds_one (ds_ret (de_toTup bl.n_tuple (de_lc (own := [("s", 2)]) rfl sc_decks_of.nd (di_seqC (de_callC c_shuffles_of hr rfl (da_cons false (de_name 0) da_nil))) (okC (N := N_decks_of) (sc := (defScope st_decks_of)) (own := [("s", 2)]) (by decide +kernel)) (fun _ _ _ _ _ => (dg_name 2 sc_decks_of.nd)) (fun _ _ _ _ _ => (dts_one (dt_val (de_callC c_is_deck hr rfl (da_cons false (de_name 1) (da_cons false (de_name 2) da_nil)))))) (fun _ _ _ _ _ => (de_name 2)) (by decide)))))
abbrev N_judge_decks : List Str := ["d", "laying", "value", "i", "s", "lacking"]
theorem sc_judge_decks : FnScope N_judge_decks ["d", "laying", "value"] (defScope st_judge_decks) := ⟨rfl, rfl, rfl, by decide +kernel, rfl, by decide +kernel, by decide +kernel⟩
def F_judge_decks : SF := (seqF (ifS (orF (notF (boolF (unF (isaP PyData.isTuple) (nameF 2)))) (notF (boolF (unF allP (compF (itC (nameF 2)) (bdN 4) yesF (callC 2 C_is_shuffle (aconsF false (nameF 0) (aconsF false (nameF 4) anilF))) [4]))))) (retF (tupF (consF (constF (.str "form")) nilF))) skipF)
  (seqF (forF (itR2 (consF (constF (.int 1)) (consF (unF lenP (nameF 2)) nilF))) (bdN 3) (ifS (notF (boolF (opF ltDP (opF ixP (nameF 2) (opF subP (nameF 3) (constF (.int 1)))) (opF ixP (nameF 2) (nameF 3))))) (retF (tupF (consF (constF (.str "sequence")) (consF (nameF 3) nilF)))) skipF))
  (seqF (forF (itEn (consF (nameF 2) nilF)) (bdT (bsL 2 (bsC (bdN 3) (bsC (bdN 4) bsN)))) (ifS (notF (boolF (callC 2 C_is_deck (aconsF false (nameF 1) (aconsF false (nameF 4) anilF))))) (retF (tupF (consF (constF (.str "deck")) (consF (nameF 3) nilF)))) skipF))
  (seqF (setF 5 (compF (itC (callC 2 C_decks_of (aconsF false (nameF 0) (aconsF false (nameF 1) anilF)))) (bdN 4) (boolF (opF niP (nameF 4) (nameF 2))) (nameF 4) [4]))
  (retF (ifF (boolF (opF neP (nameF 5) (lstF nilF))) (tupF (consF (constF (.str "missing")) (consF (opF ixP (nameF 5) (constF (.int 0))) nilF))) (constF .none)))))))
theorem w_judge_decks {k : Nat} {f : Addr} (bl : Bl mg) (c_decks_of : Cal P w K mg base k "decks_of" 2 C_decks_of) (c_is_deck : Cal P w K mg base k "is_deck" 2 C_is_deck) (c_is_shuffle : Cal P w K mg base k "is_shuffle" 2 C_is_shuffle) (cdv : Value) (A : Around) (outer : List PySem.Env) (s : Shared) (H : Hp) (E : XK) (hr : Room k (A.deeper (PyProof.Rows.envOfC "judge_decks" (defScope st_judge_decks) s.heap.objs.size f cdv))) :
    PSs (cxOf CX0 P w K mg base N_judge_decks "judge_decks" (defScope st_judge_decks) f cdv A outer s H E).nox (defBody st_judge_decks) (dS K F_judge_decks) := (ds_cons (ds_if (dt_pw (dw_or (dt_not (dt_val (de_isa cr_isaTuple bl.n_isinstance bl.n_tuple PyProof.Rows.boot_tuple (de_name 2)))) (dw_or1 (dt_not (dt_val (de_all rfl bl.n_all (de_lc (own := [("s", 4)]) rfl sc_judge_decks.nd (di_seqC (de_name 2)) (okC (N := N_judge_decks) (sc := (defScope st_judge_decks)) (own := [("s", 4)]) (by decide +kernel)) (fun _ _ _ _ _ => (dg_name 4 sc_judge_decks.nd)) (fun _ _ _ _ _ => dts_nil) (fun _ _ _ _ _ => (de_callC c_is_shuffle hr rfl (da_cons false (de_name 0) (da_cons false (de_name 4) da_nil)))) (by decide)))))))) (ds_one (ds_ret (de_tup (dl_cons de_str dl_nil)))) ds_nil)
  (ds_cons (ds_for (hp := PassesOwn.never) rfl (di_range2 bl.n_range (dl_cons de_int (dl_cons (de_len bl.n_len (de_name 2)) dl_nil))) (dg_name 3 sc_judge_decks.nd) (ds_one (ds_if (dt_not (dt_cmp (o_ltD hr.units) p_ltD (de_ix (de_name 2) (de_op op_sub (p_int0 fun _ _ _ => .int _) (de_name 3) de_int)) (de_ix (de_name 2) (de_name 3)))) (ds_one (ds_ret (de_tup (dl_cons de_str (dl_cons (de_name 3) dl_nil))))) ds_nil)))
  (ds_cons (ds_for (hp := PassesOwn.never) rfl (di_enum bl.n_enumerate (dl_cons (de_name 2) dl_nil)) (dg_tup rfl (dgs_cons (dg_name 3 sc_judge_decks.nd) (dgs_cons (dg_name 4 sc_judge_decks.nd) dgs_nil))) (ds_one (ds_if (dt_not (dt_val (de_callC c_is_deck hr rfl (da_cons false (de_name 1) (da_cons false (de_name 4) da_nil))))) (ds_one (ds_ret (de_tup (dl_cons de_str (dl_cons (de_name 3) dl_nil))))) ds_nil)))
  (ds_cons (ds_setLc 5 (own := [("s", 4)]) rfl sc_judge_decks.nd (di_seqC (de_callC c_decks_of hr rfl (da_cons false (de_name 0) (da_cons false (de_name 1) da_nil)))) (okC (N := N_judge_decks) (sc := (defScope st_judge_decks)) (own := [("s", 4)]) (by decide +kernel)) (fun _ _ _ _ _ => (dg_name 4 sc_judge_decks.nd)) (fun _ _ _ _ _ => (dts_one (dt_cmp (o_ni hr.u65) p_ni (de_name 4) (de_name 2)))) (fun _ _ _ _ _ => (de_name 4)) (by decide) (sw_true rfl rfl rfl (by decide +kernel)))
  (ds_one (ds_ret (de_if (dt_cmp (o_ne hr.units) p_ne (de_name 5) (de_lst dl_nil)) (de_tup (dl_cons de_str (dl_cons (de_ix (de_name 5) de_int) dl_nil))) de_non)))))))
abbrev N_judge_alike : List Str := ["d", "one", "other", "value", "pairs", "k", "p", "q", "wrong", "i"]
theorem sc_judge_alike : FnScope N_judge_alike ["d", "one", "other", "value"] (defScope st_judge_alike) := ⟨rfl, rfl, rfl, by decide +kernel, rfl, by decide +kernel, by decide +kernel⟩
def F_judge_alike : SF := (seqF (ifS (notF (boolF (callC 2 C_is_shuffle (aconsF false (nameF 0) (aconsF false (nameF 3) anilF))))) (retF (tupF (consF (constF (.str "form")) nilF))) skipF)
  (seqF (setF 4 (lzF (consF (opF addP (opF ixP (nameF 1) (constF (.int 0))) (opF ixP (nameF 1) (constF (.int 1)))) (consF (opF addP (opF ixP (nameF 2) (constF (.int 0))) (opF ixP (nameF 2) (constF (.int 1)))) nilF))))
  (seqF (forF (itEn (consF (nameF 4) nilF)) (bdT (bsL 2 (bsC (bdN 5) (bsC (bdT (bsL 2 (bsC (bdN 6) (bsC (bdN 7) bsN)))) bsN)))) (seqF (setF 8 (compF (itR1 (consF (nameF 0) nilF)) (bdN 9) (boolF (opF neP (opF ixP (nameF 3) (opF ixP (nameF 6) (nameF 9))) (opF ixP (nameF 7) (opF ixP (nameF 3) (nameF 9))))) (nameF 9) [9]))
  (ifS (boolF (opF neP (nameF 8) (lstF nilF))) (retF (tupF (consF (constF (.str "shuffle")) (consF (nameF 5) (consF (opF ixP (nameF 8) (constF (.int 0))) nilF))))) skipF)))
  (retF (constF .none)))))
theorem w_judge_alike {k : Nat} {f : Addr} (bl : Bl mg) (c_is_shuffle : Cal P w K mg base k "is_shuffle" 2 C_is_shuffle) (cdv : Value) (A : Around) (outer : List PySem.Env) (s : Shared) (H : Hp) (E : XK) (hr : Room k (A.deeper (PyProof.Rows.envOfC "judge_alike" (defScope st_judge_alike) s.heap.objs.size f cdv))) :
    PSs (cxOf CX0 P w K mg base N_judge_alike "judge_alike" (defScope st_judge_alike) f cdv A outer s H E).nox (defBody st_judge_alike) (dS K F_judge_alike) := (ds_cons (ds_if (dt_not (dt_val (de_callC c_is_shuffle hr rfl (da_cons false (de_name 0) (da_cons false (de_name 3) da_nil))))) (ds_one (ds_ret (de_tup (dl_cons de_str dl_nil)))) ds_nil)
  (ds_cons (ds_set 4 (de_listZip rfl bl.n_list bl.n_zip (dl_cons (de_op o_add p_add (de_ix (de_name 1) de_int) (de_ix (de_name 1) de_int)) (dl_cons (de_op o_add p_add (de_ix (de_name 2) de_int) (de_ix (de_name 2) de_int)) dl_nil))) sc_judge_alike.nd)
  (ds_cons (ds_for (hp := PassesOwn.never) rfl (di_enum bl.n_enumerate (dl_cons (de_name 4) dl_nil)) (dg_tup rfl (dgs_cons (dg_name 5 sc_judge_alike.nd) (dgs_cons (dg_tup rfl (dgs_cons (dg_name 6 sc_judge_alike.nd) (dgs_cons (dg_name 7 sc_judge_alike.nd) dgs_nil))) dgs_nil))) (ds_cons (ds_setLc 8 (own := [("i", 9)]) rfl sc_judge_alike.nd (di_range1 bl.n_range (dl_cons (de_name 0) dl_nil)) (okC (N := N_judge_alike) (sc := (defScope st_judge_alike)) (own := [("i", 9)]) (by decide +kernel)) (fun _ _ _ _ _ => (dg_name 9 sc_judge_alike.nd)) (fun _ _ _ _ _ => (dts_one (dt_cmp (o_ne hr.units) p_ne (de_ix (de_name 3) (de_ix (de_name 6) (de_name 9))) (de_ix (de_name 7) (de_ix (de_name 3) (de_name 9)))))) (fun _ _ _ _ _ => (de_name 9)) (by decide) (sw_true rfl rfl rfl (by decide +kernel)))
  (ds_one (ds_if (dt_cmp (o_ne hr.units) p_ne (de_name 8) (de_lst dl_nil)) (ds_one (ds_ret (de_tup (dl_cons de_str (dl_cons (de_name 5) (dl_cons (de_ix (de_name 8) de_int) dl_nil)))))) ds_nil))))
  (ds_one (ds_ret de_non)))))
abbrev N_law_of : List Str := ["source", "some"]
theorem sc_law_of : FnScope N_law_of ["source", "some"] (defScope st_law_of) := ⟨rfl, rfl, rfl, by decide +kernel, rfl, by decide +kernel, by decide +kernel⟩
def F_law_of : SF := (retF (opF ixP (nameF 1) (callS 1 2 C_law_pick (aconsF false (nameF 0) (aconsF false (unF lenP (nameF 1)) anilF)))))
theorem w_law_of {k : Nat} {f : Addr} (bl : Bl mg) (c_law_pick : Cal P w K mg base k "_law_pick" 2 C_law_pick) (cdv : Value) (A : Around) (outer : List PySem.Env) (s : Shared) (H : Hp) (E : XK) (hr : Room k (A.deeper (PyProof.Rows.envOfC "_law_of" (defScope st_law_of) s.heap.objs.size f cdv))) :
    PSs (cxOf CX0 P w K mg base N_law_of "_law_of" (defScope st_law_of) f cdv A outer s H E).nox (defBody st_law_of) (dS K F_law_of) := (ds_one (ds_ret (de_ix (de_name 1) (de_callSC 1 c_law_pick hr rfl (da_cons false (de_name 0) (da_cons false (de_len bl.n_len (de_name 1)) da_nil))))))
abbrev N_law_mixed : List Str := ["source", "things", "rest", "lap"]
theorem sc_law_mixed : FnScope N_law_mixed ["source", "things"] (defScope st_law_mixed) := ⟨rfl, rfl, rfl, by decide +kernel, rfl, by decide +kernel, by decide +kernel⟩
def F_law_mixed : SF := (seqF (ownF 2 (unF toLstP (nameF 1)))
  (retF (compF (itR1 (consF (unF lenP (nameF 2)) nilF)) (bdN 3) yesF (popF 2 (callS 1 2 C_law_pick (aconsF false (nameF 0) (aconsF false (unF lenP (nameF 2)) anilF)))) [3])))
theorem w_law_mixed {k : Nat} {f : Addr} (bl : Bl mg) (c_law_pick : Cal P w K mg base k "_law_pick" 2 C_law_pick) (cdv : Value) (A : Around) (outer : List PySem.Env) (s : Shared) (H : Hp) (E : XK) (hr : Room k (A.deeper (PyProof.Rows.envOfC "_law_mixed" (defScope st_law_mixed) s.heap.objs.size f cdv))) :
    PSs (cxOf CX0 P w K mg base N_law_mixed "_law_mixed" (defScope st_law_mixed) f cdv A outer s H E).nox (defBody st_law_mixed) (dS K F_law_mixed) := (ds_cons (ds_own 2 (de_toLst bl.n_list (de_name 1)) sc_law_mixed.nd)
  (ds_one (ds_ret (de_lc (own := [("lap", 3)]) rfl sc_law_mixed.nd (di_range1 bl.n_range (dl_cons (de_len bl.n_len (de_name 2)) dl_nil)) (okC (N := N_law_mixed) (sc := (defScope st_law_mixed)) (own := [("lap", 3)]) (by decide +kernel)) (fun _ _ _ _ _ => (dg_name 3 sc_law_mixed.nd)) (fun _ _ _ _ _ => dts_nil) (fun _ _ _ _ _ => (de_pop 2 (de_callSC 1 c_law_pick hr rfl (da_cons false (de_name 0) (da_cons false (de_len bl.n_len (de_name 2)) da_nil))))) (by decide)))))
abbrev N_law_behind : List Str := ["p", "q", "i"]
theorem sc_law_behind : FnScope N_law_behind ["p", "q"] (defScope st_law_behind) := ⟨rfl, rfl, rfl, by decide +kernel, rfl, by decide +kernel, by decide +kernel⟩
def F_law_behind : SF := (retF (unF toTupP (compF (itC (nameF 0)) (bdN 2) yesF (opF ixP (nameF 1) (nameF 2)) [2])))
theorem w_law_behind {k : Nat} {f : Addr} (bl : Bl mg)  (cdv : Value) (A : Around) (outer : List PySem.Env) (s : Shared) (H : Hp) (E : XK) (hr : Room k (A.deeper (PyProof.Rows.envOfC "_law_behind" (defScope st_law_behind) s.heap.objs.size f cdv))) :
    PSs (cxOf CX0 P w K mg base N_law_behind "_law_behind" (defScope st_law_behind) f cdv A outer s H E).nox (defBody st_law_behind) (dS K F_law_behind) := (ds_one (ds_ret (de_toTup bl.n_tuple (de_lc (own := [("i", 2)]) rfl sc_law_behind.nd (di_seqC (de_name 0)) (okC (N := N_law_behind) (sc := (defScope st_law_behind)) (own := [("i", 2)]) (by decide +kernel)) (fun _ _ _ _ _ => (dg_name 2 sc_law_behind.nd)) (fun _ _ _ _ _ => dts_nil) (fun _ _ _ _ _ => (de_ix (de_name 1) (de_name 2))) (by decide)))))
abbrev N_law_back : List Str := ["p", "i"]
theorem sc_law_back : FnScope N_law_back ["p"] (defScope st_law_back) := ⟨rfl, rfl, rfl, by decide +kernel, rfl, by decide +kernel, by decide +kernel⟩
def F_law_back : SF := (retF (unF toTupP (compF (itR1 (consF (unF lenP (nameF 0)) nilF)) (bdN 1) yesF (m1F indexP (nameF 0) (nameF 1)) [1])))
theorem w_law_back {k : Nat} {f : Addr} (bl : Bl mg)  (cdv : Value) (A : Around) (outer : List PySem.Env) (s : Shared) (H : Hp) (E : XK) (hr : Room k (A.deeper (PyProof.Rows.envOfC "_law_back" (defScope st_law_back) s.heap.objs.size f cdv))) :
    PSs (cxOf CX0 P w K mg base N_law_back "_law_back" (defScope st_law_back) f cdv A outer s H E).nox (defBody st_law_back) (dS K F_law_back) := (ds_one (ds_ret (de_toTup bl.n_tuple (de_lc (own := [("i", 1)]) rfl sc_law_back.nd (di_range1 bl.n_range (dl_cons (de_len bl.n_len (de_name 0)) dl_nil)) (okC (N := N_law_back) (sc := (defScope st_law_back)) (own := [("i", 1)]) (by decide +kernel)) (fun _ _ _ _ _ => (dg_name 1 sc_law_back.nd)) (fun _ _ _ _ _ => dts_nil) (fun _ _ _ _ _ => (de_index hr.u65 (de_name 0) (de_name 1))) (by decide)))))
abbrev N_law_word : List Str := ["data", "laying", "word", "bases", "k", "p"]
theorem sc_law_word : FnScope N_law_word ["data", "laying"] (defScope st_law_word) := ⟨rfl, rfl, rfl, by decide +kernel, rfl, by decide +kernel, by decide +kernel⟩
def F_law_word : SF := (seqF (parF false false 2 3 (unF rgTP (opF ixP (nameF 0) (constF (.int 0)))) (opF ixP (nameF 1) (constF (.int 0))))
  (seqF (ifS (boolF (opF eqSP (opF ixP (opF ixP (nameF 0) (constF (.int 1))) (constF (.int 0))) (constF (.str "handles")))) (forF (itR3 (consF (constF (.int 0)) (consF (unF lenP (nameF 3)) (consF (constF (.int 2)) nilF)))) (bdN 4) (forF (itS (tupF (consF (opF ixP (nameF 3) (nameF 4)) (consF (opF ixP (nameF 3) (opF addP (nameF 4) (constF (.int 1)))) (consF (callC 1 C_law_back (aconsF false (opF ixP (nameF 3) (nameF 4)) anilF)) (consF (callC 1 C_law_back (aconsF false (opF ixP (nameF 3) (opF addP (nameF 4) (constF (.int 1)))) anilF)) nilF)))))) (bdN 5) (setF 2 (callC 2 C_law_behind (aconsF false (nameF 2) (aconsF false (nameF 5) anilF)))))) (forF (itS (nameF 3)) (bdN 5) (setF 2 (callC 2 C_law_behind (aconsF false (callC 2 C_law_behind (aconsF false (nameF 2) (aconsF false (nameF 5) anilF))) (aconsF false (nameF 5) anilF))))))
  (seqF (forF (itS (opF ixP (nameF 1) (constF (.int 1)))) (bdN 5) (setF 2 (callC 2 C_law_behind (aconsF false (nameF 2) (aconsF false (nameF 5) anilF)))))
  (retF (nameF 2)))))
theorem w_law_word {k : Nat} {f : Addr} (bl : Bl mg) (c_law_behind : Cal P w K mg base k "_law_behind" 2 C_law_behind) (c_law_back : Cal P w K mg base k "_law_back" 1 C_law_back) (cdv : Value) (A : Around) (outer : List PySem.Env) (s : Shared) (H : Hp) (E : XK) (hr : Room k (A.deeper (PyProof.Rows.envOfC "_law_word" (defScope st_law_word) s.heap.objs.size f cdv))) :
    PSs (cxOf CX0 P w K mg base N_law_word "_law_word" (defScope st_law_word) f cdv A outer s H E).nox (defBody st_law_word) (dS K F_law_word) := (ds_cons (ds_par false false 2 3 rfl sc_law_word.nd (de_tupRg rfl bl.n_tuple bl.n_range (de_ix (de_name 0) de_int)) (de_ix (de_name 1) de_int))
  (ds_cons (ds_if (dt_cmp o_eqS p_eqS (de_ix (de_ix (de_name 0) de_int) de_int) de_str) (ds_one (ds_for (hp := PassesOwn.never) rfl (di_range3 bl.n_range (dl_cons de_int (dl_cons (de_len bl.n_len (de_name 3)) (dl_cons de_int dl_nil)))) (dg_name 4 sc_law_word.nd) (ds_one (ds_for (hp := PassesOwn.never) rfl (di_seq (de_tup (dl_cons (de_ix (de_name 3) (de_name 4)) (dl_cons (de_ix (de_name 3) (de_op o_add p_add (de_name 4) de_int)) (dl_cons (de_callC c_law_back hr rfl (da_cons false (de_ix (de_name 3) (de_name 4)) da_nil)) (dl_cons (de_callC c_law_back hr rfl (da_cons false (de_ix (de_name 3) (de_op o_add p_add (de_name 4) de_int)) da_nil)) dl_nil)))))) (dg_name 5 sc_law_word.nd) (ds_one (ds_set 2 (de_callC c_law_behind hr rfl (da_cons false (de_name 2) (da_cons false (de_name 5) da_nil))) sc_law_word.nd)))))) (ds_one (ds_for (hp := PassesOwn.never) rfl (di_seq (de_name 3)) (dg_name 5 sc_law_word.nd) (ds_one (ds_set 2 (de_callC c_law_behind hr rfl (da_cons false (de_callC c_law_behind hr rfl (da_cons false (de_name 2) (da_cons false (de_name 5) da_nil))) (da_cons false (de_name 5) da_nil))) sc_law_word.nd)))))
  (ds_cons (ds_for (hp := PassesOwn.never) rfl (di_seq (de_ix (de_name 1) de_int)) (dg_name 5 sc_law_word.nd) (ds_one (ds_set 2 (de_callC c_law_behind hr rfl (da_cons false (de_name 2) (da_cons false (de_name 5) da_nil))) sc_law_word.nd)))
  (ds_one (ds_ret (de_name 2))))))
abbrev N_law_round : List Str := ["p", "i", "found"]
theorem sc_law_round : FnScope N_law_round ["p", "i"] (defScope st_law_round) := ⟨rfl, rfl, rfl, by decide +kernel, rfl, by decide +kernel, by decide +kernel⟩
def F_law_round : SF := (seqF (ownF 2 (lstF (consF (nameF 1) nilF)))
  (seqF (whF (andF (boolF (opF leP (unF lenP (nameF 2)) (unF lenP (nameF 0)))) (boolF (opF neP (opF ixP (nameF 0) (opF ixP (nameF 2) (unF negP (constF (.int 1))))) (nameF 1)))) (appF 2 (opF ixP (nameF 0) (opF ixP (nameF 2) (unF negP (constF (.int 1)))))))
  (retF (nameF 2))))
theorem w_law_round {k : Nat} {f : Addr} (bl : Bl mg)  (cdv : Value) (A : Around) (outer : List PySem.Env) (s : Shared) (H : Hp) (E : XK) (hr : Room k (A.deeper (PyProof.Rows.envOfC "_law_round" (defScope st_law_round) s.heap.objs.size f cdv))) :
    PSs (cxOf CX0 P w K mg base N_law_round "_law_round" (defScope st_law_round) f cdv A outer s H E).nox (defBody st_law_round) (dS K F_law_round) := (ds_cons (ds_own 2 (de_lst (dl_cons (de_name 1) dl_nil)) sc_law_round.nd)
  (ds_cons (ds_while (hp := PassesOwn.never) (dt_pw (dw_and (dt_cmp op_le (p_int0 fun _ _ _ => .bl _) (de_len bl.n_len (de_name 2)) (de_len bl.n_len (de_name 0))) (dw_and1 (dt_cmp (o_ne hr.units) p_ne (de_ix (de_name 0) (de_ix (de_name 2) (de_un un_neg p_neg de_int))) (de_name 1))))) (ds_one (ds_append 2 (de_ix (de_name 0) (de_ix (de_name 2) (de_un un_neg p_neg de_int))))))
  (ds_one (ds_ret (de_name 2)))))
abbrev N_law_type : List Str := ["p", "lengths", "i"]
theorem sc_law_type : FnScope N_law_type ["p"] (defScope st_law_type) := ⟨rfl, rfl, rfl, by decide +kernel, rfl, by decide +kernel, by decide +kernel⟩
def F_law_type : SF := (seqF (setF 1 (compF (itR1 (consF (unF lenP (nameF 0)) nilF)) (bdN 2) (boolF (opF eqP (unF minP (callC 2 C_law_round (aconsF false (nameF 0) (aconsF false (nameF 2) anilF)))) (nameF 2))) (unF lenP (callC 2 C_law_round (aconsF false (nameF 0) (aconsF false (nameF 2) anilF)))) [2]))
  (retF (unF toTupP (unF (sortP true) (nameF 1)))))
theorem w_law_type {k : Nat} {f : Addr} (bl : Bl mg) (c_law_round : Cal P w K mg base k "_law_round" 2 C_law_round) (cdv : Value) (A : Around) (outer : List PySem.Env) (s : Shared) (H : Hp) (E : XK) (hr : Room k (A.deeper (PyProof.Rows.envOfC "_law_type" (defScope st_law_type) s.heap.objs.size f cdv))) :
    PSs (cxOf CX0 P w K mg base N_law_type "_law_type" (defScope st_law_type) f cdv A outer s H E).nox (defBody st_law_type) (dS K F_law_type) := (ds_cons (ds_setLc 1 (own := [("i", 2)]) rfl sc_law_type.nd (di_range1 bl.n_range (dl_cons (de_len bl.n_len (de_name 0)) dl_nil)) (okC (N := N_law_type) (sc := (defScope st_law_type)) (own := [("i", 2)]) (by decide +kernel)) (fun _ _ _ _ _ => (dg_name 2 sc_law_type.nd)) (fun _ _ _ _ _ => (dts_one (dt_cmp (o_eq hr.units) p_eq (de_min rfl hr.u8 bl.n_min (de_callC c_law_round hr rfl (da_cons false (de_name 0) (da_cons false (de_name 2) da_nil)))) (de_name 2)))) (fun _ _ _ _ _ => (de_len bl.n_len (de_callC c_law_round hr rfl (da_cons false (de_name 0) (da_cons false (de_name 2) da_nil))))) (by decide) (sw_true rfl rfl rfl (by decide +kernel)))
  (ds_one (ds_ret (de_toTup bl.n_tuple (de_sortedR hr.units bl.n_sorted (de_name 1))))))
abbrev N_law_laid : List Str := ["source", "d", "base", "many", "count", "bases", "k", "p", "turn", "points", "word"]
theorem sc_law_laid : FnScope N_law_laid ["source", "d", "base", "many"] (defScope st_law_laid) := ⟨rfl, rfl, rfl, by decide +kernel, rfl, by decide +kernel, by decide +kernel⟩
def F_law_laid : SF := (seqF (setF 4 (ifF (boolF (opF eqSP (opF ixP (nameF 2) (constF (.int 0))) (constF (.str "handles")))) (opF mulNP (constF (.int 2)) (opF ixP (nameF 2) (constF (.int 1)))) (opF ixP (nameF 2) (constF (.int 1)))))
  (seqF (ownF 5 (compF (itR1 (consF (nameF 4) nilF)) (bdN 8) yesF (unF toTupP (callS 32 2 C_law_mixed (aconsF false (nameF 0) (aconsF false (unF rgLP (nameF 1)) anilF)))) [8]))
  (seqF (ifS (andF (boolF (opF eqP (nameF 3) (constF (.int 0)))) (boolF (opF eqSP (opF ixP (nameF 2) (constF (.int 0))) (constF (.str "handles"))))) (forF (itR3 (consF (constF (.int 0)) (consF (nameF 4) (consF (constF (.int 2)) nilF)))) (bdN 6) (seqF (setF 7 (unF rgTP (nameF 1)))
  (seqF (forF (itR1 (consF (callS 1 2 C_law_pick (aconsF false (nameF 0) (aconsF false (constF (.int 4)) anilF))) nilF)) (bdN 8) (setF 7 (callC 2 C_law_behind (aconsF false (nameF 7) (aconsF false (opF ixP (nameF 5) (nameF 6)) anilF)))))
  (putF 5 (nameF 7) (opF addP (nameF 6) (constF (.int 1))))))) skipF)
  (seqF (ownF 9 (compF (itR1 (consF (opF subP (nameF 3) (constF (.int 1))) nilF)) (bdN 8) yesF (unF toTupP (callS 32 2 C_law_mixed (aconsF false (nameF 0) (aconsF false (unF rgLP (nameF 1)) anilF)))) [8]))
  (seqF (setF 10 (callC 2 C_law_word (aconsF false (tupF (consF (nameF 1) (consF (nameF 2) (consF (tupF nilF) nilF)))) (aconsF false (tupF (consF (unF toTupP (nameF 5)) (consF (unF toTupP (nameF 9)) nilF))) anilF))))
  (seqF (ifS (orF (boolF (opF gtP (nameF 3) (constF (.int 0)))) (boolF (opF neP (nameF 10) (unF rgTP (nameF 1))))) (appF 9 (callC 1 C_law_back (aconsF false (nameF 10) anilF))) skipF)
  (retF (tupF (consF (tupF (consF (nameF 1) (consF (nameF 2) (consF (unF toTupP (compF (itC (nameF 9)) (bdN 7) yesF (callC 1 C_law_type (aconsF false (nameF 7) anilF)) [7])) nilF)))) (consF (tupF (consF (unF toTupP (nameF 5)) (consF (unF toTupP (nameF 9)) nilF))) nilF))))))))))
theorem w_law_laid {k : Nat} {f : Addr} (bl : Bl mg) (c_law_type : Cal P w K mg base k "_law_type" 1 C_law_type) (c_law_back : Cal P w K mg base k "_law_back" 1 C_law_back) (c_law_word : Cal P w K mg base k "_law_word" 2 C_law_word) (c_law_mixed : Cal P w K mg base k "_law_mixed" 2 C_law_mixed) (c_law_pick : Cal P w K mg base k "_law_pick" 2 C_law_pick) (c_law_behind : Cal P w K mg base k "_law_behind" 2 C_law_behind) (cdv : Value) (A : Around) (outer : List PySem.Env) (s : Shared) (H : Hp) (E : XK) (hr : Room k (A.deeper (PyProof.Rows.envOfC "_law_laid" (defScope st_law_laid) s.heap.objs.size f cdv))) :
    PSs (cxOf CX0 P w K mg base N_law_laid "_law_laid" (defScope st_law_laid) f cdv A outer s H E).nox (defBody st_law_laid) (dS K F_law_laid) := (ds_cons (ds_set 4 (de_if (dt_cmp o_eqS p_eqS (de_ix (de_name 2) de_int) de_str) (de_op o_mulN p_mulN de_int (de_ix (de_name 2) de_int)) (de_ix (de_name 2) de_int)) sc_law_laid.nd)
  (ds_cons (ds_ownLc 5 (own := [("turn", 8)]) rfl sc_law_laid.nd (di_range1 bl.n_range (dl_cons (de_name 4) dl_nil)) (okC (N := N_law_laid) (sc := (defScope st_law_laid)) (own := [("turn", 8)]) (by decide +kernel)) (fun _ _ _ _ _ => (dg_name 8 sc_law_laid.nd)) (fun _ _ _ _ _ => dts_nil) (fun _ _ _ _ _ => (de_toTup bl.n_tuple (de_callSC 32 c_law_mixed hr rfl (da_cons false (de_name 0) (da_cons false (de_listRg rfl bl.n_list bl.n_range (de_name 1)) da_nil))))) (by decide) (sw_true rfl rfl rfl (by decide +kernel)))
  (ds_cons (ds_if (dt_pw (dw_and (dt_cmp (o_eq hr.units) p_eq (de_name 3) de_int) (dw_and1 (dt_cmp o_eqS p_eqS (de_ix (de_name 2) de_int) de_str)))) (ds_one (ds_for (hp := PassesOwn.never) rfl (di_range3 bl.n_range (dl_cons de_int (dl_cons (de_name 4) (dl_cons de_int dl_nil)))) (dg_name 6 sc_law_laid.nd) (ds_cons (ds_set 7 (de_tupRg rfl bl.n_tuple bl.n_range (de_name 1)) sc_law_laid.nd)
  (ds_cons (ds_for (hp := PassesOwn.never) rfl (di_range1 bl.n_range (dl_cons (de_callSC 1 c_law_pick hr rfl (da_cons false (de_name 0) (da_cons false de_int da_nil))) dl_nil)) (dg_name 8 sc_law_laid.nd) (ds_one (ds_set 7 (de_callC c_law_behind hr rfl (da_cons false (de_name 7) (da_cons false (de_ix (de_name 5) (de_name 6)) da_nil))) sc_law_laid.nd)))
  (ds_one (ds_put 5 (de_name 7) (de_op o_add p_add (de_name 6) de_int))))))) ds_nil)
  (ds_cons (ds_ownLc 9 (own := [("turn", 8)]) rfl sc_law_laid.nd (di_range1 bl.n_range (dl_cons (de_op op_sub (p_int0 fun _ _ _ => .int _) (de_name 3) de_int) dl_nil)) (okC (N := N_law_laid) (sc := (defScope st_law_laid)) (own := [("turn", 8)]) (by decide +kernel)) (fun _ _ _ _ _ => (dg_name 8 sc_law_laid.nd)) (fun _ _ _ _ _ => dts_nil) (fun _ _ _ _ _ => (de_toTup bl.n_tuple (de_callSC 32 c_law_mixed hr rfl (da_cons false (de_name 0) (da_cons false (de_listRg rfl bl.n_list bl.n_range (de_name 1)) da_nil))))) (by decide) (sw_true rfl rfl rfl (by decide +kernel)))
  (ds_cons (ds_set 10 (de_callC c_law_word hr rfl (da_cons false (de_tup (dl_cons (de_name 1) (dl_cons (de_name 2) (dl_cons (de_tup dl_nil) dl_nil)))) (da_cons false (de_tup (dl_cons (de_toTup bl.n_tuple (de_name 5)) (dl_cons (de_toTup bl.n_tuple (de_name 9)) dl_nil))) da_nil))) sc_law_laid.nd)
  (ds_cons (ds_if (dt_pw (dw_or (dt_cmp op_gt (p_int0 fun _ _ _ => .bl _) (de_name 3) de_int) (dw_or1 (dt_cmp (o_ne hr.units) p_ne (de_name 10) (de_tupRg rfl bl.n_tuple bl.n_range (de_name 1)))))) (ds_one (ds_append 9 (de_callC c_law_back hr rfl (da_cons false (de_name 10) da_nil)))) ds_nil)
  (ds_one (ds_ret (de_tup (dl_cons (de_tup (dl_cons (de_name 1) (dl_cons (de_name 2) (dl_cons (de_toTup bl.n_tuple (de_lc (own := [("p", 7)]) rfl sc_law_laid.nd (di_seqC (de_name 9)) (okC (N := N_law_laid) (sc := (defScope st_law_laid)) (own := [("p", 7)]) (by decide +kernel)) (fun _ _ _ _ _ => (dg_name 7 sc_law_laid.nd)) (fun _ _ _ _ _ => dts_nil) (fun _ _ _ _ _ => (de_callC c_law_type hr rfl (da_cons false (de_name 7) da_nil))) (by decide))) dl_nil)))) (dl_cons (de_tup (dl_cons (de_toTup bl.n_tuple (de_name 5)) (dl_cons (de_toTup bl.n_tuple (de_name 9)) dl_nil))) dl_nil)))))))))))
abbrev N_law_led : List Str := ["laying", "s", "away", "some", "p"]
theorem sc_law_led : FnScope N_law_led ["laying", "s"] (defScope st_law_led) := ⟨rfl, rfl, rfl, by decide +kernel, rfl, by decide +kernel, by decide +kernel⟩
def F_law_led : SF := (seqF (setF 2 (callC 1 C_law_back (aconsF false (nameF 1) anilF)))
  (retF (unF toTupP (compF (itC (nameF 0)) (bdN 3) yesF (unF toTupP (compF (itC (nameF 3)) (bdN 4) yesF (callC 2 C_law_behind (aconsF false (callC 2 C_law_behind (aconsF false (nameF 2) (aconsF false (nameF 4) anilF))) (aconsF false (nameF 1) anilF))) [4])) [3]))))
theorem w_law_led {k : Nat} {f : Addr} (bl : Bl mg) (c_law_behind : Cal P w K mg base k "_law_behind" 2 C_law_behind) (c_law_back : Cal P w K mg base k "_law_back" 1 C_law_back) (cdv : Value) (A : Around) (outer : List PySem.Env) (s : Shared) (H : Hp) (E : XK) (hr : Room k (A.deeper (PyProof.Rows.envOfC "_law_led" (defScope st_law_led) s.heap.objs.size f cdv))) :
    PSs (cxOf CX0 P w K mg base N_law_led "_law_led" (defScope st_law_led) f cdv A outer s H E).nox (defBody st_law_led) (dS K F_law_led) := (ds_cons (ds_set 2 (de_callC c_law_back hr rfl (da_cons false (de_name 1) da_nil)) sc_law_led.nd)
  (ds_one (ds_ret (de_toTup bl.n_tuple (de_lc (own := [("some", 3)]) rfl sc_law_led.nd (di_seqC (de_name 0)) (okC (N := N_law_led) (sc := (defScope st_law_led)) (own := [("some", 3)]) (by decide +kernel)) (fun _ _ _ _ _ => (dg_name 3 sc_law_led.nd)) (fun _ _ _ _ _ => dts_nil) (fun _ _ _ _ _ => (de_toTup bl.n_tuple (de_lc (own := [("p", 4)]) rfl sc_law_led.nd (di_seqC (de_name 3)) (okC (N := N_law_led) (sc := (relS _ (defScope st_law_led))) (own := [("p", 4)]) (by decide +kernel)) (fun _ _ _ _ _ => (dg_name 4 sc_law_led.nd)) (fun _ _ _ _ _ => dts_nil) (fun _ _ _ _ _ => (de_callC c_law_behind hr rfl (da_cons false (de_callC c_law_behind hr rfl (da_cons false (de_name 2) (da_cons false (de_name 4) da_nil))) (da_cons false (de_name 1) da_nil)))) (by decide)))) (by decide))))))
abbrev N_law_all_shuffles : List Str := ["d", "rows", "place", "late", "row", "i"]
theorem sc_law_all_shuffles : FnScope N_law_all_shuffles ["d"] (defScope st_law_all_shuffles) := ⟨rfl, rfl, rfl, by decide +kernel, rfl, by decide +kernel, by decide +kernel⟩
def F_law_all_shuffles : SF := (seqF (setF 1 (lstF (consF (tupF nilF) nilF)))
  (seqF (forF (itR1 (consF (nameF 0) nilF)) (bdN 2) (seqF (setF 3 (lstF nilF))
  (seqF (forF (itS (nameF 1)) (bdN 4) (setF 3 (opF addP (nameF 3) (compF (itR1 (consF (nameF 0) nilF)) (bdN 5) (boolF (opF niP (nameF 5) (nameF 4))) (opF addP (nameF 4) (tupF (consF (nameF 5) nilF))) [5]))))
  (setF 1 (unF toLstP (nameF 3))))))
  (retF (nameF 1))))
theorem w_law_all_shuffles {k : Nat} {f : Addr} (bl : Bl mg)  (cdv : Value) (A : Around) (outer : List PySem.Env) (s : Shared) (H : Hp) (E : XK) (hr : Room k (A.deeper (PyProof.Rows.envOfC "_law_all_shuffles" (defScope st_law_all_shuffles) s.heap.objs.size f cdv))) :
    PSs (cxOf CX0 P w K mg base N_law_all_shuffles "_law_all_shuffles" (defScope st_law_all_shuffles) f cdv A outer s H E).nox (defBody st_law_all_shuffles) (dS K F_law_all_shuffles) := (ds_cons (ds_set 1 (de_lst (dl_cons (de_tup dl_nil) dl_nil)) sc_law_all_shuffles.nd)
  (ds_cons (ds_for (hp := PassesOwn.never) rfl (di_range1 bl.n_range (dl_cons (de_name 0) dl_nil)) (dg_name 2 sc_law_all_shuffles.nd) (ds_cons (ds_set 3 (de_lst dl_nil) sc_law_all_shuffles.nd)
  (ds_cons (ds_for (hp := PassesOwn.never) rfl (di_seq (de_name 1)) (dg_name 4 sc_law_all_shuffles.nd) (ds_one (ds_set 3 (de_op o_add p_add (de_name 3) (de_lc (own := [("i", 5)]) rfl sc_law_all_shuffles.nd (di_range1 bl.n_range (dl_cons (de_name 0) dl_nil)) (okC (N := N_law_all_shuffles) (sc := (defScope st_law_all_shuffles)) (own := [("i", 5)]) (by decide +kernel)) (fun _ _ _ _ _ => (dg_name 5 sc_law_all_shuffles.nd)) (fun _ _ _ _ _ => (dts_one (dt_cmp (o_ni hr.u65) p_ni (de_name 5) (de_name 4)))) (fun _ _ _ _ _ => (de_op o_add p_add (de_name 4) (de_tup (dl_cons (de_name 5) dl_nil)))) (by decide))) sc_law_all_shuffles.nd)))
  (ds_one (ds_set 1 (de_toLst bl.n_list (de_name 3)) sc_law_all_shuffles.nd)))))
  (ds_one (ds_ret (de_name 1)))))
abbrev N_law_own_decks : List Str := ["d", "laying", "s"]
theorem sc_law_own_decks : FnScope N_law_own_decks ["d", "laying"] (defScope st_law_own_decks) := ⟨rfl, rfl, rfl, by decide +kernel, rfl, by decide +kernel, by decide +kernel⟩
def F_law_own_decks : SF := (retF (compF (itC (callC 1 C_law_all_shuffles (aconsF false (nameF 0) anilF))) (bdN 2) (boolF (opF eqP (callC 2 C_law_led (aconsF false (nameF 1) (aconsF false (nameF 2) anilF))) (nameF 1))) (nameF 2) [2]))
theorem w_law_own_decks {k : Nat} {f : Addr} (bl : Bl mg) (c_law_all_shuffles : Cal P w K mg base k "_law_all_shuffles" 1 C_law_all_shuffles) (c_law_led : Cal P w K mg base k "_law_led" 2 C_law_led) (cdv : Value) (A : Around) (outer : List PySem.Env) (s : Shared) (H : Hp) (E : XK) (hr : Room k (A.deeper (PyProof.Rows.envOfC "_law_own_decks" (defScope st_law_own_decks) s.heap.objs.size f cdv))) :
    PSs (cxOf CX0 P w K mg base N_law_own_decks "_law_own_decks" (defScope st_law_own_decks) f cdv A outer s H E).nox (defBody st_law_own_decks) (dS K F_law_own_decks) := (ds_one (ds_ret (de_lc (own := [("s", 2)]) rfl sc_law_own_decks.nd (di_seqC (de_callC c_law_all_shuffles hr rfl (da_cons false (de_name 0) da_nil))) (okC (N := N_law_own_decks) (sc := (defScope st_law_own_decks)) (own := [("s", 2)]) (by decide +kernel)) (fun _ _ _ _ _ => (dg_name 2 sc_law_own_decks.nd)) (fun _ _ _ _ _ => (dts_one (dt_cmp (o_eq hr.units) p_eq (de_callC c_law_led hr rfl (da_cons false (de_name 1) (da_cons false (de_name 2) da_nil))) (de_name 1)))) (fun _ _ _ _ _ => (de_name 2)) (by decide))))
abbrev N_law_parted : List Str := ["source", "base", "many", "sizes", "parts", "count", "d", "names", "rows", "k", "i", "p", "ahead", "m", "told", "types", "bases", "points", "q", "sheet", "size", "data", "laying"]
theorem sc_law_parted : FnScope N_law_parted ["source", "base", "many", "sizes"] (defScope st_law_parted) := ⟨rfl, rfl, rfl, by decide +kernel, rfl, by decide +kernel, by decide +kernel⟩
def F_law_parted : SF := (seqF (ownF 4 (compF (itC (nameF 3)) (bdN 20) yesF (callS 300 4 C_law_laid (aconsF false (nameF 0) (aconsF false (nameF 20) (aconsF false (nameF 1) (aconsF false (nameF 2) anilF))))) [20]))
  (seqF (ifS (andF (boolF (opF gtP (unF lenP (nameF 3)) (constF (.int 1)))) (andF (boolF (opF eqP (opF ixP (nameF 3) (constF (.int 0))) (opF ixP (nameF 3) (constF (.int 1))))) (boolF (opF eqP (callS 1 2 C_law_pick (aconsF false (nameF 0) (aconsF false (constF (.int 2)) anilF))) (constF (.int 0)))))) (putF 4 (opF ixP (nameF 4) (constF (.int 0))) (constF (.int 1))) skipF)
  (seqF (setF 5 (unF maxP (compF (itC (nameF 4)) (bdT (bsL 2 (bsC (bdN 21) (bsC (bdN 22) bsN)))) yesF (unF lenP (opF ixP (nameF 21) (constF (.int 2)))) [21, 22])))
  (seqF (parF false false 6 7 (unF sumP (nameF 3)) (callS 32 2 C_law_mixed (aconsF false (nameF 0) (aconsF false (unF rgLP (unF sumP (nameF 3))) anilF))))
  (seqF (ll2F 8)
  (seqF (forF (itR1 (consF (constF (.int 2)) nilF)) (bdN 9) (forF (itR1 (consF (ifF (boolF (opF eqP (nameF 9) (constF (.int 0)))) (unF lenP (opF ixP (opF ixP (opF ixP (nameF 4) (constF (.int 0))) (constF (.int 1))) (constF (.int 0)))) (nameF 5)) nilF)) (bdN 10) (seqF (parF true false 11 12 (opF mulNP (lstF (consF (constF (.int 0)) nilF)) (nameF 6)) (constF (.int 0)))
  (seqF (forF (itS (nameF 4)) (bdT (bsL 2 (bsC (bdT (bsL 3 (bsC (bdN 13) (bsC (bdN 14) (bsC (bdN 15) bsN))))) (bsC (bdT (bsL 2 (bsC (bdN 16) (bsC (bdN 17) bsN)))) bsN)))) (seqF (setF 18 (ifF (boolF (opF eqP (nameF 9) (constF (.int 0)))) (opF ixP (nameF 16) (nameF 10)) (ifF (boolF (opF ltP (nameF 10) (unF lenP (nameF 17)))) (opF ixP (nameF 17) (nameF 10)) (unF rgTP (nameF 13)))))
  (seqF (forF (itR1 (consF (nameF 13) nilF)) (bdN 19) (putF 11 (opF ixP (nameF 7) (opF addP (nameF 12) (opF ixP (nameF 18) (nameF 19)))) (opF ixP (nameF 7) (opF addP (nameF 12) (nameF 19)))))
  (setF 12 (opF addP (nameF 12) (nameF 13))))))
  (appAtF 8 (nameF 9) (unF toTupP (nameF 11)))))))
  (retF (tupF (consF (tupF (consF (nameF 6) (consF (nameF 1) (consF (unF toTupP (compF (itC (opF ixP (nameF 8) (constF (.int 1)))) (bdN 11) yesF (callC 1 C_law_type (aconsF false (nameF 11) anilF)) [11])) nilF)))) (consF (tupF (consF (unF toTupP (opF ixP (nameF 8) (constF (.int 0)))) (consF (unF toTupP (opF ixP (nameF 8) (constF (.int 1)))) nilF))) nilF))))))))))
theorem w_law_parted {k : Nat} {f : Addr} (bl : Bl mg) (c_law_type : Cal P w K mg base k "_law_type" 1 C_law_type) (c_law_mixed : Cal P w K mg base k "_law_mixed" 2 C_law_mixed) (c_law_pick : Cal P w K mg base k "_law_pick" 2 C_law_pick) (c_law_laid : Cal P w K mg base k "_law_laid" 4 C_law_laid) (cdv : Value) (A : Around) (outer : List PySem.Env) (s : Shared) (H : Hp) (E : XK) (hr : Room k (A.deeper (PyProof.Rows.envOfC "_law_parted" (defScope st_law_parted) s.heap.objs.size f cdv))) :
    PSs (cxOf CX0 P w K mg base N_law_parted "_law_parted" (defScope st_law_parted) f cdv A outer s H E).nox (defBody st_law_parted) (dS K F_law_parted) := (ds_cons (ds_ownLc 4 (own := [("size", 20)]) rfl sc_law_parted.nd (di_seqC (de_name 3)) (okC (N := N_law_parted) (sc := (defScope st_law_parted)) (own := [("size", 20)]) (by decide +kernel)) (fun _ _ _ _ _ => (dg_name 20 sc_law_parted.nd)) (fun _ _ _ _ _ => dts_nil) (fun _ _ _ _ _ => (de_callSC 300 c_law_laid hr rfl (da_cons false (de_name 0) (da_cons false (de_name 20) (da_cons false (de_name 1) (da_cons false (de_name 2) da_nil)))))) (by decide) (sw_true rfl rfl rfl (by decide +kernel)))
  (ds_cons (ds_if (dt_pw (dw_and (dt_cmp op_gt (p_int0 fun _ _ _ => .bl _) (de_len bl.n_len (de_name 3)) de_int) (dw_and (dt_cmp (o_eq hr.units) p_eq (de_ix (de_name 3) de_int) (de_ix (de_name 3) de_int)) (dw_and1 (dt_cmp (o_eq hr.units) p_eq (de_callSC 1 c_law_pick hr rfl (da_cons false (de_name 0) (da_cons false de_int da_nil))) de_int))))) (ds_one (ds_put 4 (de_ix (de_name 4) de_int) de_int)) ds_nil)
  (ds_cons (ds_set 5 (de_max rfl hr.u8 bl.n_max (de_lc (own := [("data", 21), ("laying", 22)]) rfl sc_law_parted.nd (di_seqC (de_name 4)) (okC (N := N_law_parted) (sc := (defScope st_law_parted)) (own := [("data", 21), ("laying", 22)]) (by decide +kernel)) (fun _ _ _ _ _ => (dg_tup rfl (dgs_cons (dg_name 21 sc_law_parted.nd) (dgs_cons (dg_name 22 sc_law_parted.nd) dgs_nil)))) (fun _ _ _ _ _ => dts_nil) (fun _ _ _ _ _ => (de_len bl.n_len (de_ix (de_name 21) de_int))) (by decide))) sc_law_parted.nd)
  (ds_cons (ds_par false false 6 7 rfl sc_law_parted.nd (de_sum rfl bl.n_sum (de_name 3)) (de_callSC 32 c_law_mixed hr rfl (da_cons false (de_name 0) (da_cons false (de_listRg rfl bl.n_list bl.n_range (de_sum rfl bl.n_sum (de_name 3))) da_nil))))
  (ds_cons (ds_ll2 8 sc_law_parted.nd)
  (ds_cons (ds_for (hp := PassesOwn.never) rfl (di_range1 bl.n_range (dl_cons de_int dl_nil)) (dg_name 9 sc_law_parted.nd) (ds_one (ds_for (hp := PassesOwn.never) rfl (di_range1 bl.n_range (dl_cons (de_if (dt_cmp (o_eq hr.units) p_eq (de_name 9) de_int) (de_len bl.n_len (de_ix (de_ix (de_ix (de_name 4) de_int) de_int) de_int)) (de_name 5)) dl_nil)) (dg_name 10 sc_law_parted.nd) (ds_cons (ds_par true false 11 12 rfl sc_law_parted.nd (de_op o_mulN p_mulN (de_lst (dl_cons de_int dl_nil)) (de_name 6)) de_int)
  (ds_cons (ds_for (hp := PassesOwn.never) rfl (di_seq (de_name 4)) (dg_tup rfl (dgs_cons (dg_tup rfl (dgs_cons (dg_name 13 sc_law_parted.nd) (dgs_cons (dg_name 14 sc_law_parted.nd) (dgs_cons (dg_name 15 sc_law_parted.nd) dgs_nil)))) (dgs_cons (dg_tup rfl (dgs_cons (dg_name 16 sc_law_parted.nd) (dgs_cons (dg_name 17 sc_law_parted.nd) dgs_nil))) dgs_nil))) (ds_cons (ds_set 18 (de_if (dt_cmp (o_eq hr.units) p_eq (de_name 9) de_int) (de_ix (de_name 16) (de_name 10)) (de_if (dt_cmp op_lt (p_int0 fun _ _ _ => .bl _) (de_name 10) (de_len bl.n_len (de_name 17))) (de_ix (de_name 17) (de_name 10)) (de_tupRg rfl bl.n_tuple bl.n_range (de_name 13)))) sc_law_parted.nd)
  (ds_cons (ds_for (hp := PassesOwn.never) rfl (di_range1 bl.n_range (dl_cons (de_name 13) dl_nil)) (dg_name 19 sc_law_parted.nd) (ds_one (ds_put 11 (de_ix (de_name 7) (de_op o_add p_add (de_name 12) (de_ix (de_name 18) (de_name 19)))) (de_ix (de_name 7) (de_op o_add p_add (de_name 12) (de_name 19))))))
  (ds_one (ds_set 12 (de_op o_add p_add (de_name 12) (de_name 13)) sc_law_parted.nd)))))
  (ds_one (ds_appAt 8 (de_name 9) (de_toTup bl.n_tuple (de_name 11)))))))))
  (ds_one (ds_ret (de_tup (dl_cons (de_tup (dl_cons (de_name 6) (dl_cons (de_name 1) (dl_cons (de_toTup bl.n_tuple (de_lc (own := [("p", 11)]) rfl sc_law_parted.nd (di_seqC (de_ix (de_name 8) de_int)) (okC (N := N_law_parted) (sc := (defScope st_law_parted)) (own := [("p", 11)]) (by decide +kernel)) (fun _ _ _ _ _ => (dg_name 11 sc_law_parted.nd)) (fun _ _ _ _ _ => dts_nil) (fun _ _ _ _ _ => (de_callC c_law_type hr rfl (da_cons false (de_name 11) da_nil))) (by decide))) dl_nil)))) (dl_cons (de_tup (dl_cons (de_toTup bl.n_tuple (de_ix (de_name 8) de_int)) (dl_cons (de_toTup bl.n_tuple (de_ix (de_name 8) de_int)) dl_nil))) dl_nil)))))))))))
abbrev N_law_some : List Str := ["source", "sizes", "base"]
theorem sc_law_some : FnScope N_law_some ["source"] (defScope st_law_some) := ⟨rfl, rfl, rfl, by decide +kernel, rfl, by decide +kernel, by decide +kernel⟩
def F_law_some : SF := (seqF (setF 1 (callS 1 2 C_law_of (aconsF false (nameF 0) (aconsF false (lstF (consF (lstF (consF (constF (.int 1)) nilF)) (consF (lstF (consF (constF (.int 2)) nilF)) (consF (lstF (consF (constF (.int 3)) nilF)) (consF (lstF (consF (constF (.int 4)) nilF)) (consF (lstF (consF (constF (.int 1)) (consF (constF (.int 1)) nilF))) (consF (lstF (consF (constF (.int 2)) (consF (constF (.int 2)) nilF))) (consF (lstF (consF (constF (.int 1)) (consF (constF (.int 1)) (consF (constF (.int 1)) nilF)))) (consF (lstF (consF (constF (.int 1)) (consF (constF (.int 2)) nilF))) (consF (lstF (consF (constF (.int 3)) nilF)) (consF (lstF (consF (constF (.int 4)) nilF)) (consF (lstF (consF (constF (.int 2)) (consF (constF (.int 2)) nilF))) (consF (lstF (consF (constF (.int 1)) (consF (constF (.int 3)) nilF))) nilF))))))))))))) anilF))))
  (seqF (setF 2 (callS 1 2 C_law_of (aconsF false (nameF 0) (aconsF false (lstF (consF (tupF (consF (constF (.str "handles")) (consF (constF (.int 0)) nilF))) (consF (tupF (consF (constF (.str "handles")) (consF (constF (.int 0)) nilF))) (consF (tupF (consF (constF (.str "handles")) (consF (constF (.int 1)) nilF))) (consF (tupF (consF (constF (.str "crosscaps")) (consF (constF (.int 1)) nilF))) (consF (tupF (consF (constF (.str "crosscaps")) (consF (constF (.int 2)) nilF))) nilF)))))) anilF))))
  (retF (callS 1000 4 C_law_parted (aconsF false (nameF 0) (aconsF false (nameF 2) (aconsF false (callS 1 2 C_law_pick (aconsF false (nameF 0) (aconsF false (constF (.int 4)) anilF))) (aconsF false (nameF 1) anilF))))))))
theorem w_law_some {k : Nat} {f : Addr} (bl : Bl mg) (c_law_pick : Cal P w K mg base k "_law_pick" 2 C_law_pick) (c_law_parted : Cal P w K mg base k "_law_parted" 4 C_law_parted) (c_law_of : Cal P w K mg base k "_law_of" 2 C_law_of) (cdv : Value) (A : Around) (outer : List PySem.Env) (s : Shared) (H : Hp) (E : XK) (hr : Room k (A.deeper (PyProof.Rows.envOfC "_law_some" (defScope st_law_some) s.heap.objs.size f cdv))) :
    PSs (cxOf CX0 P w K mg base N_law_some "_law_some" (defScope st_law_some) f cdv A outer s H E).nox (defBody st_law_some) (dS K F_law_some) := (ds_cons (ds_set 1 (de_callSC 1 c_law_of hr rfl (da_cons false (de_name 0) (da_cons false (de_lst (dl_cons (de_lst (dl_cons de_int dl_nil)) (dl_cons (de_lst (dl_cons de_int dl_nil)) (dl_cons (de_lst (dl_cons de_int dl_nil)) (dl_cons (de_lst (dl_cons de_int dl_nil)) (dl_cons (de_lst (dl_cons de_int (dl_cons de_int dl_nil))) (dl_cons (de_lst (dl_cons de_int (dl_cons de_int dl_nil))) (dl_cons (de_lst (dl_cons de_int (dl_cons de_int (dl_cons de_int dl_nil)))) (dl_cons (de_lst (dl_cons de_int (dl_cons de_int dl_nil))) (dl_cons (de_lst (dl_cons de_int dl_nil)) (dl_cons (de_lst (dl_cons de_int dl_nil)) (dl_cons (de_lst (dl_cons de_int (dl_cons de_int dl_nil))) (dl_cons (de_lst (dl_cons de_int (dl_cons de_int dl_nil))) dl_nil))))))))))))) da_nil))) sc_law_some.nd)
  (ds_cons (ds_set 2 (de_callSC 1 c_law_of hr rfl (da_cons false (de_name 0) (da_cons false (de_lst (dl_cons (de_tup (dl_cons de_str (dl_cons de_int dl_nil))) (dl_cons (de_tup (dl_cons de_str (dl_cons de_int dl_nil))) (dl_cons (de_tup (dl_cons de_str (dl_cons de_int dl_nil))) (dl_cons (de_tup (dl_cons de_str (dl_cons de_int dl_nil))) (dl_cons (de_tup (dl_cons de_str (dl_cons de_int dl_nil))) dl_nil)))))) da_nil))) sc_law_some.nd)
  (ds_one (ds_ret (de_callSC 1000 c_law_parted hr rfl (da_cons false (de_name 0) (da_cons false (de_name 2) (da_cons false (de_callSC 1 c_law_pick hr rfl (da_cons false (de_name 0) (da_cons false de_int da_nil))) (da_cons false (de_name 1) da_nil)))))))))
abbrev N_law_is_shuffle : List Str := ["d", "value", "one"]
theorem sc_law_is_shuffle : FnScope N_law_is_shuffle ["d", "value"] (defScope st_law_is_shuffle) := ⟨rfl, rfl, rfl, by decide +kernel, rfl, by decide +kernel, by decide +kernel⟩
def F_law_is_shuffle : SF := (seqF (ifS (orF (notF (boolF (unF (isaP PyData.isTuple) (nameF 1)))) (notF (boolF (unF allP (compF (itC (nameF 1)) (bdN 2) yesF (vandF (unF (isaP PyData.isInt) (nameF 2)) (vnotF (unF (isaP PyData.isBool) (nameF 2)))) [2]))))) (retF (constF (.bool false))) skipF)
  (retF (opF eqP (unF (sortP false) (nameF 1)) (unF rgLP (nameF 0)))))
theorem w_law_is_shuffle {k : Nat} {f : Addr} (bl : Bl mg)  (cdv : Value) (A : Around) (outer : List PySem.Env) (s : Shared) (H : Hp) (E : XK) (hr : Room k (A.deeper (PyProof.Rows.envOfC "_law_is_shuffle" (defScope st_law_is_shuffle) s.heap.objs.size f cdv))) :
    PSs (cxOf CX0 P w K mg base N_law_is_shuffle "_law_is_shuffle" (defScope st_law_is_shuffle) f cdv A outer s H E).nox (defBody st_law_is_shuffle) (dS K F_law_is_shuffle) := (ds_cons (ds_if (dt_pw (dw_or (dt_not (dt_val (de_isa cr_isaTuple bl.n_isinstance bl.n_tuple PyProof.Rows.boot_tuple (de_name 1)))) (dw_or1 (dt_not (dt_val (de_all rfl bl.n_all (de_lc (own := [("one", 2)]) rfl sc_law_is_shuffle.nd (di_seqC (de_name 1)) (okC (N := N_law_is_shuffle) (sc := (defScope st_law_is_shuffle)) (own := [("one", 2)]) (by decide +kernel)) (fun _ _ _ _ _ => (dg_name 2 sc_law_is_shuffle.nd)) (fun _ _ _ _ _ => dts_nil) (fun _ _ _ _ _ => (dv_and (de_isa cr_isaInt bl.n_isinstance bl.n_int PyProof.Rows.boot_int (de_name 2)) (dv_one (dv_not (de_isa cr_isaBool bl.n_isinstance bl.n_bool PyProof.Rows.boot_bool (de_name 2)))))) (by decide)))))))) (ds_one (ds_ret de_bl)) ds_nil)
  (ds_one (ds_ret (de_cmp (o_eq hr.units) p_eq (de_sorted hr.units bl.n_sorted (de_name 1)) (de_listRg rfl bl.n_list bl.n_range (de_name 0))))))
abbrev N_law_judged : List Str := ["d", "laying", "value", "i", "due", "s", "late"]
theorem sc_law_judged : FnScope N_law_judged ["d", "laying", "value"] (defScope st_law_judged) := ⟨rfl, rfl, rfl, by decide +kernel, rfl, by decide +kernel, by decide +kernel⟩
def F_law_judged : SF := (seqF (ifS (orF (notF (boolF (unF (isaP PyData.isTuple) (nameF 2)))) (notF (boolF (unF allP (compF (itC (nameF 2)) (bdN 5) yesF (callC 2 C_law_is_shuffle (aconsF false (nameF 0) (aconsF false (nameF 5) anilF))) [5]))))) (retF (tupF (consF (constF (.str "form")) nilF))) skipF)
  (seqF (forF (itR2 (consF (constF (.int 1)) (consF (unF lenP (nameF 2)) nilF))) (bdN 3) (ifS (boolF (opF geDP (opF ixP (nameF 2) (opF subP (nameF 3) (constF (.int 1)))) (opF ixP (nameF 2) (nameF 3)))) (retF (tupF (consF (constF (.str "sequence")) (consF (nameF 3) nilF)))) skipF))
  (seqF (setF 4 (callC 2 C_law_own_decks (aconsF false (nameF 0) (aconsF false (nameF 1) anilF))))
  (seqF (forF (itEn (consF (nameF 2) nilF)) (bdT (bsL 2 (bsC (bdN 3) (bsC (bdN 5) bsN)))) (ifS (boolF (opF niP (nameF 5) (nameF 4))) (retF (tupF (consF (constF (.str "deck")) (consF (nameF 3) nilF)))) skipF))
  (seqF (setF 6 (compF (itC (nameF 4)) (bdN 5) (boolF (opF niP (nameF 5) (nameF 2))) (nameF 5) [5]))
  (retF (ifF (boolF (opF neP (nameF 6) (lstF nilF))) (tupF (consF (constF (.str "missing")) (consF (opF ixP (nameF 6) (constF (.int 0))) nilF))) (constF .none))))))))
theorem w_law_judged {k : Nat} {f : Addr} (bl : Bl mg) (c_law_own_decks : Cal P w K mg base k "_law_own_decks" 2 C_law_own_decks) (c_law_is_shuffle : Cal P w K mg base k "_law_is_shuffle" 2 C_law_is_shuffle) (cdv : Value) (A : Around) (outer : List PySem.Env) (s : Shared) (H : Hp) (E : XK) (hr : Room k (A.deeper (PyProof.Rows.envOfC "_law_judged" (defScope st_law_judged) s.heap.objs.size f cdv))) :
    PSs (cxOf CX0 P w K mg base N_law_judged "_law_judged" (defScope st_law_judged) f cdv A outer s H E).nox (defBody st_law_judged) (dS K F_law_judged) := (ds_cons (ds_if (dt_pw (dw_or (dt_not (dt_val (de_isa cr_isaTuple bl.n_isinstance bl.n_tuple PyProof.Rows.boot_tuple (de_name 2)))) (dw_or1 (dt_not (dt_val (de_all rfl bl.n_all (de_lc (own := [("s", 5)]) rfl sc_law_judged.nd (di_seqC (de_name 2)) (okC (N := N_law_judged) (sc := (defScope st_law_judged)) (own := [("s", 5)]) (by decide +kernel)) (fun _ _ _ _ _ => (dg_name 5 sc_law_judged.nd)) (fun _ _ _ _ _ => dts_nil) (fun _ _ _ _ _ => (de_callC c_law_is_shuffle hr rfl (da_cons false (de_name 0) (da_cons false (de_name 5) da_nil)))) (by decide)))))))) (ds_one (ds_ret (de_tup (dl_cons de_str dl_nil)))) ds_nil)
  (ds_cons (ds_for (hp := PassesOwn.never) rfl (di_range2 bl.n_range (dl_cons de_int (dl_cons (de_len bl.n_len (de_name 2)) dl_nil))) (dg_name 3 sc_law_judged.nd) (ds_one (ds_if (dt_cmp (o_geD hr.units) p_geD (de_ix (de_name 2) (de_op op_sub (p_int0 fun _ _ _ => .int _) (de_name 3) de_int)) (de_ix (de_name 2) (de_name 3))) (ds_one (ds_ret (de_tup (dl_cons de_str (dl_cons (de_name 3) dl_nil))))) ds_nil)))
  (ds_cons (ds_set 4 (de_callC c_law_own_decks hr rfl (da_cons false (de_name 0) (da_cons false (de_name 1) da_nil))) sc_law_judged.nd)
  (ds_cons (ds_for (hp := PassesOwn.never) rfl (di_enum bl.n_enumerate (dl_cons (de_name 2) dl_nil)) (dg_tup rfl (dgs_cons (dg_name 3 sc_law_judged.nd) (dgs_cons (dg_name 5 sc_law_judged.nd) dgs_nil))) (ds_one (ds_if (dt_cmp (o_ni hr.u65) p_ni (de_name 5) (de_name 4)) (ds_one (ds_ret (de_tup (dl_cons de_str (dl_cons (de_name 3) dl_nil))))) ds_nil)))
  (ds_cons (ds_setLc 6 (own := [("s", 5)]) rfl sc_law_judged.nd (di_seqC (de_name 4)) (okC (N := N_law_judged) (sc := (defScope st_law_judged)) (own := [("s", 5)]) (by decide +kernel)) (fun _ _ _ _ _ => (dg_name 5 sc_law_judged.nd)) (fun _ _ _ _ _ => (dts_one (dt_cmp (o_ni hr.u65) p_ni (de_name 5) (de_name 2)))) (fun _ _ _ _ _ => (de_name 5)) (by decide) (sw_true rfl rfl rfl (by decide +kernel)))
  (ds_one (ds_ret (de_if (dt_cmp (o_ne hr.units) p_ne (de_name 6) (de_lst dl_nil)) (de_tup (dl_cons de_str (dl_cons (de_ix (de_name 6) de_int) dl_nil))) de_non))))))))
abbrev N_law_called : List Str := ["d", "one", "other", "value", "some", "k", "p", "i"]
theorem sc_law_called : FnScope N_law_called ["d", "one", "other", "value"] (defScope st_law_called) := ⟨rfl, rfl, rfl, by decide +kernel, rfl, by decide +kernel, by decide +kernel⟩
def F_law_called : SF := (seqF (ifS (notF (boolF (callC 2 C_law_is_shuffle (aconsF false (nameF 0) (aconsF false (nameF 3) anilF))))) (retF (tupF (consF (constF (.str "form")) nilF))) skipF)
  (seqF (setF 4 (opF addP (opF ixP (nameF 2) (constF (.int 0))) (opF ixP (nameF 2) (constF (.int 1)))))
  (seqF (forF (itEn (consF (opF addP (opF ixP (nameF 1) (constF (.int 0))) (opF ixP (nameF 1) (constF (.int 1)))) nilF)) (bdT (bsL 2 (bsC (bdN 5) (bsC (bdN 6) bsN)))) (forF (itR1 (consF (nameF 0) nilF)) (bdN 7) (ifS (boolF (opF neP (opF ixP (nameF 3) (opF ixP (nameF 6) (nameF 7))) (opF ixP (opF ixP (nameF 4) (nameF 5)) (opF ixP (nameF 3) (nameF 7))))) (retF (tupF (consF (constF (.str "shuffle")) (consF (nameF 5) (consF (nameF 7) nilF))))) skipF)))
  (retF (constF .none)))))
theorem w_law_called {k : Nat} {f : Addr} (bl : Bl mg) (c_law_is_shuffle : Cal P w K mg base k "_law_is_shuffle" 2 C_law_is_shuffle) (cdv : Value) (A : Around) (outer : List PySem.Env) (s : Shared) (H : Hp) (E : XK) (hr : Room k (A.deeper (PyProof.Rows.envOfC "_law_called" (defScope st_law_called) s.heap.objs.size f cdv))) :
    PSs (cxOf CX0 P w K mg base N_law_called "_law_called" (defScope st_law_called) f cdv A outer s H E).nox (defBody st_law_called) (dS K F_law_called) := (ds_cons (ds_if (dt_not (dt_val (de_callC c_law_is_shuffle hr rfl (da_cons false (de_name 0) (da_cons false (de_name 3) da_nil))))) (ds_one (ds_ret (de_tup (dl_cons de_str dl_nil)))) ds_nil)
  (ds_cons (ds_set 4 (de_op o_add p_add (de_ix (de_name 2) de_int) (de_ix (de_name 2) de_int)) sc_law_called.nd)
  (ds_cons (ds_for (hp := PassesOwn.never) rfl (di_enum bl.n_enumerate (dl_cons (de_op o_add p_add (de_ix (de_name 1) de_int) (de_ix (de_name 1) de_int)) dl_nil)) (dg_tup rfl (dgs_cons (dg_name 5 sc_law_called.nd) (dgs_cons (dg_name 6 sc_law_called.nd) dgs_nil))) (ds_one (ds_for (hp := PassesOwn.never) rfl (di_range1 bl.n_range (dl_cons (de_name 0) dl_nil)) (dg_name 7 sc_law_called.nd) (ds_one (ds_if (dt_cmp (o_ne hr.units) p_ne (de_ix (de_name 3) (de_ix (de_name 6) (de_name 7))) (de_ix (de_ix (de_name 4) (de_name 5)) (de_ix (de_name 3) (de_name 7)))) (ds_one (ds_ret (de_tup (dl_cons de_str (dl_cons (de_name 5) (dl_cons (de_name 7) dl_nil)))))) ds_nil)))))
  (ds_one (ds_ret de_non)))))
abbrev N_law_odd : List Str := ["source", "d", "p"]
theorem sc_law_odd : FnScope N_law_odd ["source", "d"] (defScope st_law_odd) := ⟨rfl, rfl, rfl, by decide +kernel, rfl, by decide +kernel, by decide +kernel⟩
def F_law_odd : SF := (seqF (setF 2 (unF toTupP (callS 32 2 C_law_mixed (aconsF false (nameF 0) (aconsF false (unF rgLP (nameF 1)) anilF)))))
  (retF (callS 1 2 C_law_of (aconsF false (nameF 0) (aconsF false (lstF (consF (nameF 2) (consF (nameF 2) (consF (nameF 2) (consF (unF toLstP (nameF 2)) (consF (opF addP (nameF 2) (tupF (consF (nameF 1) nilF))) (consF (slF (nameF 2) noneF (partF (unF negP (constF (.int 1))))) (consF (opF mulNP (tupF (consF (constF (.int 0)) nilF)) (nameF 1)) (consF (opF mulNP (tupF (consF (constF (.bool true)) nilF)) (nameF 1)) (consF (constF .none) (consF (constF (.int 0)) (consF (constF (.str "01")) (consF (unF revP (nameF 2)) nilF))))))))))))) anilF)))))
theorem w_law_odd {k : Nat} {f : Addr} (bl : Bl mg) (c_law_of : Cal P w K mg base k "_law_of" 2 C_law_of) (c_law_mixed : Cal P w K mg base k "_law_mixed" 2 C_law_mixed) (cdv : Value) (A : Around) (outer : List PySem.Env) (s : Shared) (H : Hp) (E : XK) (hr : Room k (A.deeper (PyProof.Rows.envOfC "_law_odd" (defScope st_law_odd) s.heap.objs.size f cdv))) :
    PSs (cxOf CX0 P w K mg base N_law_odd "_law_odd" (defScope st_law_odd) f cdv A outer s H E).nox (defBody st_law_odd) (dS K F_law_odd) := (ds_cons (ds_set 2 (de_toTup bl.n_tuple (de_callSC 32 c_law_mixed hr rfl (da_cons false (de_name 0) (da_cons false (de_listRg rfl bl.n_list bl.n_range (de_name 1)) da_nil)))) sc_law_odd.nd)
  (ds_one (ds_ret (de_callSC 1 c_law_of hr rfl (da_cons false (de_name 0) (da_cons false (de_lst (dl_cons (de_name 2) (dl_cons (de_name 2) (dl_cons (de_name 2) (dl_cons (de_toLst bl.n_list (de_name 2)) (dl_cons (de_op o_add p_add (de_name 2) (de_tup (dl_cons (de_name 1) dl_nil))) (dl_cons (de_slice (de_name 2) do_none (do_some (de_un un_neg p_neg de_int))) (dl_cons (de_op o_mulN p_mulN (de_tup (dl_cons de_int dl_nil)) (de_name 1)) (dl_cons (de_op o_mulN p_mulN (de_tup (dl_cons de_bl dl_nil)) (de_name 1)) (dl_cons de_non (dl_cons de_int (dl_cons de_str (dl_cons (de_rev (de_name 2)) dl_nil))))))))))))) da_nil))))))
abbrev N_law_bent : List Str := ["source", "d", "decks", "way", "at"]
theorem sc_law_bent : FnScope N_law_bent ["source", "d", "decks"] (defScope st_law_bent) := ⟨rfl, rfl, rfl, by decide +kernel, rfl, by decide +kernel, by decide +kernel⟩
def F_law_bent : SF := (seqF (parF false false 3 4 (callS 1 2 C_law_pick (aconsF false (nameF 0) (aconsF false (constF (.int 8)) anilF))) (callS 1 2 C_law_pick (aconsF false (nameF 0) (aconsF false (unF lenP (nameF 2)) anilF))))
  (seqF (ifS (boolF (opF eqP (nameF 3) (constF (.int 0)))) (retF (opF addP (slF (nameF 2) noneF (partF (nameF 4))) (slF (nameF 2) (partF (opF addP (nameF 4) (constF (.int 1)))) noneF))) skipF)
  (seqF (ifS (boolF (opF eqP (nameF 3) (constF (.int 1)))) (retF (opF addP (slF (nameF 2) noneF (partF (opF addP (nameF 4) (constF (.int 1))))) (slF (nameF 2) (partF (nameF 4)) noneF))) skipF)
  (seqF (ifS (boolF (opF eqP (nameF 3) (constF (.int 2)))) (retF (opF addP (opF addP (slF (nameF 2) noneF (partF (nameF 4))) (tupF (consF (callS 33 2 C_law_odd (aconsF false (nameF 0) (aconsF false (nameF 1) anilF))) nilF))) (slF (nameF 2) (partF (opF addP (nameF 4) (constF (.int 1)))) noneF))) skipF)
  (seqF (ifS (boolF (opF eqP (nameF 3) (constF (.int 3)))) (retF (unF toTupP (callS 32 2 C_law_mixed (aconsF false (nameF 0) (aconsF false (nameF 2) anilF))))) skipF)
  (seqF (ifS (boolF (opF eqP (nameF 3) (constF (.int 4)))) (retF (unF toTupP (unF (sortP false) (opF addP (unF toLstP (nameF 2)) (lstF (consF (unF toTupP (callS 32 2 C_law_mixed (aconsF false (nameF 0) (aconsF false (unF rgLP (nameF 1)) anilF)))) nilF)))))) skipF)
  (seqF (ifS (boolF (opF eqP (nameF 3) (constF (.int 5)))) (retF (unF toTupP (callC 1 C_law_all_shuffles (aconsF false (nameF 1) anilF)))) skipF)
  (retF (callS 1 2 C_law_of (aconsF false (nameF 0) (aconsF false (lstF (consF (constF .none) (consF (unF toLstP (nameF 2)) (consF (tupF nilF) (consF (opF ixP (nameF 2) (constF (.int 0))) (consF (tupF (consF (nameF 2) nilF)) (consF (constF (.int 7)) (consF (opF addP (nameF 2) (tupF (consF (constF .none) nilF))) (consF (constF (.dict [])) nilF))))))))) anilF)))))))))))
theorem w_law_bent {k : Nat} {f : Addr} (bl : Bl mg) (c_law_of : Cal P w K mg base k "_law_of" 2 C_law_of) (c_law_all_shuffles : Cal P w K mg base k "_law_all_shuffles" 1 C_law_all_shuffles) (c_law_mixed : Cal P w K mg base k "_law_mixed" 2 C_law_mixed) (c_law_odd : Cal P w K mg base k "_law_odd" 2 C_law_odd) (c_law_pick : Cal P w K mg base k "_law_pick" 2 C_law_pick) (cdv : Value) (A : Around) (outer : List PySem.Env) (s : Shared) (H : Hp) (E : XK) (hr : Room k (A.deeper (PyProof.Rows.envOfC "_law_bent" (defScope st_law_bent) s.heap.objs.size f cdv))) :
    PSs (cxOf CX0 P w K mg base N_law_bent "_law_bent" (defScope st_law_bent) f cdv A outer s H E).nox (defBody st_law_bent) (dS K F_law_bent) := (ds_cons (ds_par false false 3 4 rfl sc_law_bent.nd (de_callSC 1 c_law_pick hr rfl (da_cons false (de_name 0) (da_cons false de_int da_nil))) (de_callSC 1 c_law_pick hr rfl (da_cons false (de_name 0) (da_cons false (de_len bl.n_len (de_name 2)) da_nil))))
  (ds_cons (ds_if (dt_cmp (o_eq hr.units) p_eq (de_name 3) de_int) (ds_one (ds_ret (de_op o_add p_add (de_slice (de_name 2) do_none (do_some (de_name 4))) (de_slice (de_name 2) (do_some (de_op o_add p_add (de_name 4) de_int)) do_none)))) ds_nil)
  (ds_cons (ds_if (dt_cmp (o_eq hr.units) p_eq (de_name 3) de_int) (ds_one (ds_ret (de_op o_add p_add (de_slice (de_name 2) do_none (do_some (de_op o_add p_add (de_name 4) de_int))) (de_slice (de_name 2) (do_some (de_name 4)) do_none)))) ds_nil)
  (ds_cons (ds_if (dt_cmp (o_eq hr.units) p_eq (de_name 3) de_int) (ds_one (ds_ret (de_op o_add p_add (de_op o_add p_add (de_slice (de_name 2) do_none (do_some (de_name 4))) (de_tup (dl_cons (de_callSC 33 c_law_odd hr rfl (da_cons false (de_name 0) (da_cons false (de_name 1) da_nil))) dl_nil))) (de_slice (de_name 2) (do_some (de_op o_add p_add (de_name 4) de_int)) do_none)))) ds_nil)
  (ds_cons (ds_if (dt_cmp (o_eq hr.units) p_eq (de_name 3) de_int) (ds_one (ds_ret (de_toTup bl.n_tuple (de_callSC 32 c_law_mixed hr rfl (da_cons false (de_name 0) (da_cons false (de_name 2) da_nil)))))) ds_nil)
  (ds_cons (ds_if (dt_cmp (o_eq hr.units) p_eq (de_name 3) de_int) (ds_one (ds_ret (de_toTup bl.n_tuple (de_sorted hr.units bl.n_sorted (de_op o_add p_add (de_toLst bl.n_list (de_name 2)) (de_lst (dl_cons (de_toTup bl.n_tuple (de_callSC 32 c_law_mixed hr rfl (da_cons false (de_name 0) (da_cons false (de_listRg rfl bl.n_list bl.n_range (de_name 1)) da_nil)))) dl_nil))))))) ds_nil)
  (ds_cons (ds_if (dt_cmp (o_eq hr.units) p_eq (de_name 3) de_int) (ds_one (ds_ret (de_toTup bl.n_tuple (de_callC c_law_all_shuffles hr rfl (da_cons false (de_name 1) da_nil))))) ds_nil)
  (ds_one (ds_ret (de_callSC 1 c_law_of hr rfl (da_cons false (de_name 0) (da_cons false (de_lst (dl_cons de_non (dl_cons (de_toLst bl.n_list (de_name 2)) (dl_cons (de_tup dl_nil) (dl_cons (de_ix (de_name 2) de_int) (dl_cons (de_tup (dl_cons (de_name 2) dl_nil)) (dl_cons de_int (dl_cons (de_op o_add p_add (de_name 2) (de_tup (dl_cons de_non dl_nil))) (dl_cons de_dict0 dl_nil))))))))) da_nil))))))))))))
abbrev N_law : List Str := ["script", "source", "lap", "data", "laying", "d", "decks", "turn", "bent", "shown", "s", "other", "odd"]
theorem sc_law : FnScope N_law ["script"] (defScope st_law) := ⟨rfl, rfl, rfl, by decide +kernel, rfl, by decide +kernel, by decide +kernel⟩
def F_law : SF := (seqF (forF (itR1 (consF (constF (.int 2)) nilF)) (bdN 2) (seqF (asgF (bdT (bsL 2 (bsC (bdN 3) (bsC (bdN 4) bsN)))) (callS 1010 1 C_law_some (aconsF false (nameF 1) anilF)))
  (seqF (setF 5 (opF ixP (nameF 3) (constF (.int 0))))
  (seqF (setF 6 (unF toTupP (callC 2 C_law_own_decks (aconsF false (nameF 5) (aconsF false (nameF 4) anilF)))))
  (seqF (ifS (boolF (opF notNP (callC 3 C_judge_decks (aconsF false (nameF 5) (aconsF false (nameF 4) (aconsF false (nameF 6) anilF)))) (constF .none))) (retF (constF (.bool false))) skipF)
  (seqF (forF (itR1 (consF (constF (.int 6)) nilF)) (bdN 7) (seqF (setF 8 (callS 100 3 C_law_bent (aconsF false (nameF 1) (aconsF false (nameF 5) (aconsF false (nameF 6) anilF)))))
  (seqF (setF 9 (unF reprP (nameF 8)))
  (ifS (orF (boolF (opF neSP (unF reprP (callC 3 C_judge_decks (aconsF false (nameF 5) (aconsF false (nameF 4) (aconsF false (nameF 8) anilF))))) (unF reprP (callC 3 C_law_judged (aconsF false (nameF 5) (aconsF false (nameF 4) (aconsF false (nameF 8) anilF))))))) (boolF (opF neSP (unF reprP (nameF 8)) (nameF 9)))) (retF (constF (.bool false))) skipF))))
  (seqF (setF 10 (unF toTupP (callS 32 2 C_law_mixed (aconsF false (nameF 1) (aconsF false (unF rgLP (nameF 5)) anilF)))))
  (seqF (setF 11 (callC 2 C_law_led (aconsF false (nameF 4) (aconsF false (nameF 10) anilF))))
  (seqF (ifS (boolF (opF notNP (callC 4 C_judge_alike (aconsF false (nameF 5) (aconsF false (nameF 4) (aconsF false (nameF 11) (aconsF false (nameF 10) anilF))))) (constF .none))) (retF (constF (.bool false))) skipF)
  (forF (itR1 (consF (constF (.int 4)) nilF)) (bdN 7) (seqF (setF 12 (callS 33 2 C_law_odd (aconsF false (nameF 1) (aconsF false (nameF 5) anilF))))
  (ifS (boolF (opF neSP (unF reprP (callC 4 C_judge_alike (aconsF false (nameF 5) (aconsF false (nameF 4) (aconsF false (nameF 11) (aconsF false (nameF 12) anilF)))))) (unF reprP (callC 4 C_law_called (aconsF false (nameF 5) (aconsF false (nameF 4) (aconsF false (nameF 11) (aconsF false (nameF 12) anilF)))))))) (retF (constF (.bool false))) skipF))))))))))))
  (retF (constF (.bool true))))
theorem w_law {k : Nat} {f : Addr} (bl : Bl mg) (c_judge_alike : Cal P w K mg base k "judge_alike" 4 C_judge_alike) (c_law_called : Cal P w K mg base k "_law_called" 4 C_law_called) (c_law_odd : Cal P w K mg base k "_law_odd" 2 C_law_odd) (c_law_led : Cal P w K mg base k "_law_led" 2 C_law_led) (c_law_mixed : Cal P w K mg base k "_law_mixed" 2 C_law_mixed) (c_judge_decks : Cal P w K mg base k "judge_decks" 3 C_judge_decks) (c_law_judged : Cal P w K mg base k "_law_judged" 3 C_law_judged) (c_law_bent : Cal P w K mg base k "_law_bent" 3 C_law_bent) (c_law_own_decks : Cal P w K mg base k "_law_own_decks" 2 C_law_own_decks) (c_law_some : Cal P w K mg base k "_law_some" 1 C_law_some) (cdv : Value) (A : Around) (outer : List PySem.Env) (s : Shared) (H : Hp) (E : XK) (hgd : A.guards = some []) (hr : Room k (A.deeper (PyProof.Rows.envOfC "law" (defScope st_law) s.heap.objs.size f cdv))) :
    PSs (cxOf CX0 P w K mg base N_law "law" (defScope st_law) f cdv A outer s H E).nox ((defBody st_law).drop 1) (dS K F_law) := (ds_cons (ds_for (hp := PassesOwn.never) rfl (di_range1 bl.n_range (dl_cons de_int dl_nil)) (dg_name 2 sc_law.nd) (ds_cons (ds_asg (de_callSC 1010 c_law_some hr rfl (da_cons false (de_name 1) da_nil)) (dg_tup rfl (dgs_cons (dg_name 3 sc_law.nd) (dgs_cons (dg_name 4 sc_law.nd) dgs_nil))))
  (ds_cons (ds_set 5 (de_ix (de_name 3) de_int) sc_law.nd)
  (ds_cons (ds_set 6 (de_toTup bl.n_tuple (de_callC c_law_own_decks hr rfl (da_cons false (de_name 5) (da_cons false (de_name 4) da_nil)))) sc_law.nd)
  (ds_cons (ds_if (dt_cmp op_notN p_notN (de_callC c_judge_decks hr rfl (da_cons false (de_name 5) (da_cons false (de_name 4) (da_cons false (de_name 6) da_nil)))) de_non) (ds_one (ds_ret de_bl)) ds_nil)
  (ds_cons (ds_for (hp := PassesOwn.never) rfl (di_range1 bl.n_range (dl_cons de_int dl_nil)) (dg_name 7 sc_law.nd) (ds_cons (ds_set 8 (de_callSC 100 c_law_bent hr rfl (da_cons false (de_name 1) (da_cons false (de_name 5) (da_cons false (de_name 6) da_nil)))) sc_law.nd)
  (ds_cons (ds_set 9 (de_repr hgd hr.units bl.n_repr (de_name 8)) sc_law.nd)
  (ds_one (ds_if (dt_pw (dw_or (dt_cmp o_neS p_neS (de_repr hgd hr.units bl.n_repr (de_callC c_judge_decks hr rfl (da_cons false (de_name 5) (da_cons false (de_name 4) (da_cons false (de_name 8) da_nil))))) (de_repr hgd hr.units bl.n_repr (de_callC c_law_judged hr rfl (da_cons false (de_name 5) (da_cons false (de_name 4) (da_cons false (de_name 8) da_nil)))))) (dw_or1 (dt_cmp o_neS p_neS (de_repr hgd hr.units bl.n_repr (de_name 8)) (de_name 9))))) (ds_one (ds_ret de_bl)) ds_nil)))))
  (ds_cons (ds_set 10 (de_toTup bl.n_tuple (de_callSC 32 c_law_mixed hr rfl (da_cons false (de_name 1) (da_cons false (de_listRg rfl bl.n_list bl.n_range (de_name 5)) da_nil)))) sc_law.nd)
  (ds_cons (ds_set 11 (de_callC c_law_led hr rfl (da_cons false (de_name 4) (da_cons false (de_name 10) da_nil))) sc_law.nd)
  (ds_cons (ds_if (dt_cmp op_notN p_notN (de_callC c_judge_alike hr rfl (da_cons false (de_name 5) (da_cons false (de_name 4) (da_cons false (de_name 11) (da_cons false (de_name 10) da_nil))))) de_non) (ds_one (ds_ret de_bl)) ds_nil)
  (ds_one (ds_for (hp := PassesOwn.never) rfl (di_range1 bl.n_range (dl_cons de_int dl_nil)) (dg_name 7 sc_law.nd) (ds_cons (ds_set 12 (de_callSC 33 c_law_odd hr rfl (da_cons false (de_name 1) (da_cons false (de_name 5) da_nil))) sc_law.nd)
  (ds_one (ds_if (dt_cmp o_neS p_neS (de_repr hgd hr.units bl.n_repr (de_callC c_judge_alike hr rfl (da_cons false (de_name 5) (da_cons false (de_name 4) (da_cons false (de_name 11) (da_cons false (de_name 12) da_nil)))))) (de_repr hgd hr.units bl.n_repr (de_callC c_law_called hr rfl (da_cons false (de_name 5) (da_cons false (de_name 4) (da_cons false (de_name 11) (da_cons false (de_name 12) da_nil))))))) (ds_one (ds_ret de_bl)) ds_nil))))))))))))))
  (ds_one (ds_ret de_bl)))
end
end K60


set_option Elab.async false
set_option linter.all false
set_option maxRecDepth 100000
set_option maxHeartbeats 4000000
namespace K60
open PySem L2 Dat
local macro_rules | `(tactic| walk_at "D") => `(tactic| (conv => whnf))
theorem m_behind (as : Rho) (Φ : PyData → Prop) (_ : as.length = 2) (c : C_behind as Φ) : F_behind (as ++ List.replicate (N_behind.length - 2) .un) { nx := fun _ => Φ .none, rt := Φ } := by
  obtain ⟨p, q, rfl, hl, hp, h⟩ := c
  walk_at "D"
  refine ⟨small (by rw [List.length_map]; omega), cmp_map (fun i => nI (q.getD i 0)) p (fun i hi N hN => br_t ?_) ?_⟩
  · walk_at "D"
    exact ⟨_, at_getD 0 (hp i hi), hN⟩
  · walk_at "D"
    unfold beh eT at h
    rw [List.map_map] at h
    exact h
theorem m_law_behind (as : Rho) (Φ : PyData → Prop) (hl : as.length = 2) (c : C_law_behind as Φ) : F_law_behind (as ++ List.replicate (N_law_behind.length - 2) .un) { nx := fun _ => Φ .none, rt := Φ } := m_behind as Φ hl c
theorem m_is_sheet (as : Rho) (Φ : PyData → Prop) (_ : as.length = 2) (c : C_is_sheet as Φ) : F_is_sheet (as ++ List.replicate (N_is_sheet.length - 2) .un) { nx := fun _ => Φ .none, rt := Φ } := by
  obtain ⟨d, v, rfl, h⟩ := c
  walk_at "D"
  cases v with
  | int i =>
    refine br_t ?_
    walk_at "D"
    refine br_t ?_
    walk_at "D"
    refine br_d (fun h0 => ?_) (fun h0 => ?_)
    · walk_at "D"
      have e : isSheet d (.int i) = decide (i < (d : Int)) := by
        show decide (0 ≤ i ∧ i < (d : Int)) = _
        simp [h0]
      rw [e] at h
      exact h
    · walk_at "D"
      have e : isSheet d (.int i) = false := decide_eq_false fun z => h0 z.1
      rw [e] at h
      exact h
  | bool b =>
    refine br_t ?_
    walk_at "D"
    exact br_f h
  | _ => exact br_f h
theorem m_is_shuffle (as : Rho) (Φ : PyData → Prop) (_ : as.length = 2) (c : C_is_shuffle as Φ) : F_is_shuffle (as ++ List.replicate (N_is_shuffle.length - 2) .un) { nx := fun _ => Φ .none, rt := Φ } := by
  obtain ⟨d, v, rfl, ok, h⟩ := c
  walk_at "D"
  cases v with
  | tuple ds =>
    refine br_f ?_
    walk_at "D"
    refine ⟨⟨rfl, rfl⟩, ?_⟩
    walk_at "D"
    have hlen : ds.length ≤ 1000 := ok
    have e1 : PyData.eqv (.int ds.length) (nI d) = decide (ds.length = d) := by
      show PyData.eqv (nI ds.length) (nI d) = _
      rw [ecN.eqv]
    rw [e1]
    refine br_nd (fun hd => ?_) (fun hd => ?_)
    · walk_at "D"
      refine br_t ?_
      walk_at "D"
      have : isSh d (.tuple ds) = false := by rw [isSh_spec]; simp [hd]
      rw [this] at h
      exact h
    · walk_at "D"
      refine ⟨small (by omega), ?_⟩
      refine cmp_id (fun x => .bool (isSheet d x)) ds (fun x hx N hN => br_t ?_) ?_
      · walk_at "D"
        exact ⟨rfl, d, x, rfl, hN⟩
      · walk_at "D"
        refine ⟨ds.map (isSheet d), by rw [List.map_map, List.nil_append]; rfl, ?_⟩
        walk_at "D"
        have e2 : (ds.map (isSheet d)).all id = ds.all (isSheet d) := by rw [List.all_map]; rfl
        rw [e2]
        cases h2 : ds.all (isSheet d) with
        | false =>
          refine br_t ?_
          walk_at "D"
          have : isSh d (.tuple ds) = false := by rw [isSh_spec, h2]; simp
          rw [this] at h
          exact h
        | true =>
          refine br_f ?_
          walk_at "D"
          obtain ⟨h3, h4⟩ := all_sheet h2
          refine ⟨rfl, show 2 < 3 by decide, (ds.map isSh.toNat).map fun (n : Nat) => (n : Int), by rw [← map_nI]; exact h3, ?_, ?_⟩
          · rw [List.length_map, List.length_map]; exact Nat.lt_of_le_of_lt hlen (by decide)
          · walk_at "D"
            refine ⟨⟨rfl, rfl⟩, ?_⟩
            walk_at "D"
            have e3 : PyData.eqv (.int (diff ((ds.map isSh.toNat).map fun (n : Nat) => (n : Int)))) (nI d) = isSh d (.tuple ds) := by
              show PyData.eqv (nI _) (nI d) = _
              rw [ecN.eqv, isSh_spec, h2]
              have e4 := diff_nodup ((ds.map isSh.toNat).map fun (n : Nat) => (n : Int))
              rw [List.length_map, List.length_map, nodup_int, hd] at e4
              simp only [hd, BEq.rfl, Bool.true_and]
              exact decide_eq_decide.mpr e4
            rw [e3]
            exact h
  | _ => exact br_t (by walk_at "D"; exact br_t h)
theorem stepS_snoc (d : Nat) (rows : List (List Nat)) (row : List Nat) : stepS d (rows ++ [row]) = stepS d rows ++ ((List.range d).filter fun i => !row.contains i).map fun i => row ++ [i] := by
  unfold stepS
  rw [List.flatMap_append]
  simp
theorem stepS_len {d : Nat} {rows : List (List Nat)} : (stepS d rows).length ≤ rows.length * d := by
  unfold stepS
  induction rows with
  | nil => simp
  | cons r rs ih =>
    rw [List.flatMap_cons, List.length_append, List.length_map, List.length_cons, Nat.add_mul, Nat.one_mul]
    have : ((List.range d).filter fun i => !r.contains i).length ≤ d := by
      have := List.length_filter_le (fun i => !r.contains i) (List.range d)
      rwa [List.length_range] at this
    omega
theorem shGo_len (d : Nat) : ∀ k, (shGo d k).length ≤ d ^ k
  | 0 => by simp [shGo]
  | k + 1 => by
    have h1 := shGo_len d k
    have h2 := @stepS_len d (shGo d k)
    show (stepS d (shGo d k)).length ≤ _
    rw [Nat.pow_succ]
    exact Nat.le_trans h2 (Nat.mul_le_mul_right _ h1)
theorem shGo_small {d k : Nat} (hd : d ≤ 4) (hk : k ≤ 4) : (shGo d k).length ≤ 256 := by
  refine Nat.le_trans (shGo_len d k) ?_
  exact Nat.le_trans (Nat.pow_le_pow_left hd k) (Nat.le_trans (Nat.pow_le_pow_right (by decide) hk) (by decide))
theorem shGo_mem {d : Nat} : ∀ k row, row ∈ shGo d k ↔ row.length = k ∧ (∀ i ∈ row, i < d) ∧ row.Nodup
  | 0, row => by
    show row ∈ [[]] ↔ _
    rw [List.mem_singleton]
    constructor
    · rintro rfl; simp
    · rintro ⟨h, _⟩; exact List.eq_nil_of_length_eq_zero h
  | k + 1, row => by
    show row ∈ stepS d (shGo d k) ↔ _
    unfold stepS
    rw [List.mem_flatMap]
    constructor
    · rintro ⟨r, hr, h⟩
      obtain ⟨h1, h2, h3⟩ := (shGo_mem k r).mp hr
      obtain ⟨i, hi, rfl⟩ := List.mem_map.mp h
      obtain ⟨hi1, hi2⟩ := List.mem_filter.mp hi
      have hi2 : i ∉ r := by simpa using hi2
      have hi1 : i < d := by simpa using hi1
      refine ⟨by simp [h1], fun j hj => ?_, ?_⟩
      · rcases List.mem_append.mp hj with hj | hj
        · exact h2 j hj
        · rw [List.mem_singleton.mp hj]; exact hi1
      · rw [List.nodup_append]
        refine ⟨h3, by simp, fun a ha b hb => ?_⟩
        rw [List.mem_singleton] at hb
        subst hb
        exact fun z => hi2 (z ▸ ha)
    · rintro ⟨h1, h2, h3⟩
      have hne : row ≠ [] := by intro z; subst z; cases h1
      have e := List.dropLast_concat_getLast hne
      refine ⟨row.dropLast, (shGo_mem k _).mpr ⟨by simp [h1], fun i hi => h2 i (List.dropLast_subset _ hi), ?_⟩, List.mem_map.mpr ⟨row.getLast hne, List.mem_filter.mpr ⟨?_, ?_⟩, e⟩⟩
      · rw [← e, List.nodup_append] at h3; exact h3.1
      · rw [List.mem_range]; exact h2 _ (List.getLast_mem hne)
      · rw [← e, List.nodup_append] at h3
        have : row.getLast hne ∉ row.dropLast := fun z => h3.2.2 _ z _ (List.mem_singleton.mpr rfl) rfl
        simpa using this
theorem shGo_row {d : Nat} (k : Nat) (row : List Nat) (h : row ∈ shGo d k) : row.length = k := ((shGo_mem k row).mp h).1
theorem shs_mem {d : Nat} {s : List Nat} : s ∈ shs d ↔ Sh d s := by
  rw [shs, shGo_mem]
  exact ⟨fun h => ⟨⟨h.1, h.2.1⟩, h.2.2⟩, fun h => ⟨h.1.1, h.1.2, h.2⟩⟩
theorem shs_sh {d : Nat} {s : List Nat} (h : s ∈ shs d) : Sh d s := shs_mem.mp h
theorem m_shuffles_of (as : Rho) (Φ : PyData → Prop) (_ : as.length = 1) (c : C_shuffles_of as Φ) : F_shuffles_of (as ++ List.replicate (N_shuffles_of.length - 1) .un) { nx := fun _ => Φ .none, rt := Φ } := by
  obtain ⟨d, rfl, hd, h⟩ := c
  walk_at "D"
  refine ⟨by decide, ?_⟩
  walk_at "D"
  refine ⟨by decide, ?_⟩
  walk_at "D"
  refine ⟨rfl, ?_⟩
  walk_at "D"
  refine ⟨⟨by omega, by omega⟩, ?_⟩
  walk_at "D"
  refine ⟨rfl, ?_⟩
  rw [Int.toNat_natCast]
  refine forP_ind (enc := fun (i : Nat) => PyData.int (i : Int)) (fun r ρ => ∃ k x3 x2 x4 x5, ρ = [.da (nI d), .da (.list ((shGo d k).map eT)), x2, x3, x4, x5] ∧ r.length + k = d) ?_ ?_ (List.range d) _ ⟨0, .un, .un, .un, .un, rfl, by simp⟩
  · rintro _ ⟨k, x3, x2, x4, x5, rfl, hk⟩
    walk_at "D"
    have : k = d := by simpa using hk
    subst this
    exact h
  · rintro y r _ ⟨k, x3, x2, x4, x5, rfl, hk⟩ N hN
    have hk4 : k < 4 := by simp at hk; omega
    walk_at "D"
    refine ⟨by decide, ?_⟩
    walk_at "D"
    refine ⟨rfl, ?_⟩
    refine forP_ind (enc := eT) (fun r' ρ => ∃ done x4 x5, done ++ r' = shGo d k ∧ ρ = [.da (nI d), .da (.list ((shGo d k).map eT)), .da (.int (y : Int)), .ow ((stepS d done).map eT), x4, x5]) ?_ ?_ (shGo d k) _ ⟨[], x4, x5, rfl, rfl⟩
    · rintro _ ⟨done, x4, x5, e, rfl⟩
      rw [List.append_nil] at e
      subst e
      walk_at "D"
      exact hN _ ⟨k + 1, _, _, _, _, rfl, by simp at hk ⊢; omega⟩
    · rintro row r' _ ⟨done, x4, x5, e, rfl⟩ N' hN'
      walk_at "D"
      refine ⟨rfl, ?_⟩
      walk_at "D"
      refine ⟨⟨by omega, by omega⟩, ?_⟩
      walk_at "D"
      rw [Int.toNat_natCast]
      have hrow : row.length ≤ 4 := by
        have : row ∈ shGo d k := by rw [← e]; simp
        rw [shGo_row k row this]; omega
      refine ⟨small (by simp; omega), cmp_fm (enc := fun (i : Nat) => PyData.int (i : Int)) (fun i => if !row.contains i then some (eT (row ++ [i])) else none) (List.range d) (fun i hi M hM => ?_) ?_⟩
      · walk_at "D"
        obtain ⟨c1, c2⟩ := ecN.inT (by decide) i row
        refine ⟨c1, ?_⟩
        walk_at "D"
        have e3 : anyIn (.int (i : Int)) (eT row) = decide (i ∈ row) := c2
        rw [e3]
        refine br_nd (fun hi => ?_) (fun hi => ?_)
        · walk_at "D"
          refine ⟨small (by simp; omega), ?_⟩
          walk_at "D"
          have : (!row.contains i) = true := by simpa using hi
          rw [if_pos this] at hM
          unfold eT at hM
          rw [List.map_append] at hM
          exact hM
        · have : ¬(!row.contains i) = true := by simpa using hi
          rw [if_neg this] at hM
          exact hM
      · walk_at "D"
        rw [fm_if, List.nil_append]
        have e4 : (stepS d done).map eT ++ ((List.range d).filter fun i => !row.contains i).map (fun i => eT (row ++ [i])) = (stepS d (done ++ [row])).map eT := by
          rw [stepS_snoc, List.map_append, List.map_map]; rfl
        have hdl : done.length + 1 ≤ 256 := by
          have h1 := shGo_small hd (k := k) (by omega)
          rw [← e, List.length_append, List.length_cons] at h1
          omega
        refine ⟨small ?_, ?_⟩
        · have h1 := @stepS_len d (done ++ [row])
          have h2 := congrArg List.length e4
          rw [List.length_append, List.length_map (as := stepS d (done ++ [row]))] at h2
          rw [h2]
          have h3 : (done ++ [row]).length * d ≤ 256 * 4 := Nat.mul_le_mul (by rw [List.length_append]; exact hdl) hd
          omega
        · walk_at "D"
          exact hN' _ ⟨done ++ [row], .da (eT row), .un, by rw [List.append_assoc]; exact e, by rw [← e4]; rfl⟩
theorem m_is_deck (as : Rho) (Φ : PyData → Prop) (_ : as.length = 2) (c : C_is_deck as Φ) : F_is_deck (as ++ List.replicate (N_is_deck.length - 2) .un) { nx := fun _ => Φ .none, rt := Φ } := by
  obtain ⟨d, l, s, rfl, hd, ⟨l1, l2, l3, l4⟩, hs, h⟩ := c
  walk_at "D"
  refine ⟨_, rfl, ?_⟩
  walk_at "D"
  refine ⟨_, rfl, ?_⟩
  walk_at "D"
  refine ⟨by rw [List.length_map, List.length_map]; exact small (by omega), ?_⟩
  walk_at "D"
  rw [← List.map_append]
  have all : ∀ p ∈ l.1 ++ l.2, Mp d p := fun p hp => (List.mem_append.mp hp).elim (l3 p) (l4 p)
  refine ⟨small (by rw [List.length_map, List.length_append]; omega), cmp_map (enc := eT) (fun p => .bool (decide (beh p s = beh s p))) (l.1 ++ l.2) (fun p hp N hN => br_t ?_) ?_⟩
  · have hp := all p hp
    walk_at "D"
    refine ⟨rfl, p, s, rfl, by rw [hp.1]; exact hd, fun i hi => by rw [hs.1]; exact hp.2 i hi, ?_⟩
    walk_at "D"
    refine ⟨rfl, s, p, rfl, by rw [hs.1]; exact hd, fun i hi => by rw [hp.1]; exact hs.2 i hi, ?_⟩
    walk_at "D"
    refine ⟨ecT.eqC (by decide) _ _, ?_⟩
    walk_at "D"
    have e : PyData.eqv (eT (beh p s)) (eT (beh s p)) = (decide (beh p s = beh s p)) := ecT.eqv _ _
    rw [e]
    exact hN
  · walk_at "D"
    refine ⟨(l.1 ++ l.2).map fun p => decide (beh p s = beh s p), by rw [List.nil_append, List.map_map]; rfl, ?_⟩
    walk_at "D"
    rw [List.all_map]
    exact h
theorem m_decks_of (as : Rho) (Φ : PyData → Prop) (_ : as.length = 2) (c : C_decks_of as Φ) : F_decks_of (as ++ List.replicate (N_decks_of.length - 2) .un) { nx := fun _ => Φ .none, rt := Φ } := by
  obtain ⟨d, l, rfl, hd, hl, h⟩ := c
  walk_at "D"
  refine ⟨rfl, d, rfl, hd, ?_⟩
  walk_at "D"
  refine ⟨small (by rw [List.length_map]; have := shGo_small hd hd; unfold shs; omega), cmp_fm (enc := eT) (fun s => if isDeck l s then some (eT s) else none) (shs d) (fun s hs N hN => ?_) ?_⟩
  · walk_at "D"
    refine ⟨rfl, d, l, s, rfl, by omega, hl, (shs_sh hs).1, ?_⟩
    walk_at "D"
    cases hx : isDeck l s with
    | true =>
      rw [hx] at hN
      exact br_t hN
    | false =>
      rw [hx] at hN
      exact br_f hN
  · walk_at "D"
    rw [fm_if, List.nil_append]
    exact h
end K60


set_option Elab.async false
set_option linter.all false
set_option maxRecDepth 100000
set_option maxHeartbeats 4000000
namespace K60
open PySem L2 Dat
local macro_rules | `(tactic| walk_at "D") => `(tactic| (conv => whnf))
local macro_rules | `(tactic| walk_at "R") => `(tactic| (simp only [List.nil_append, clr_clr]))
/-- what is judged, all shuffles -/
def jdS (d : Nat) (l : Lay) (ps : List (List Nat)) : PyData := match seqAt 1 ps with
  | some i => .tuple [.str "sequence", nI i]
  | none => match deckAt l 0 ps with
    | some i => .tuple [.str "deck", nI i]
    | none => match (decks d l).filter fun s => !ps.contains s with
      | [] => .none
      | s :: _ => .tuple [.str "missing", eT s]
theorem all_isSh {d : Nat} {ds : List PyData} (h : ds.all (isSh d) = true) : ∃ ps : List (List Nat), ds = ps.map eT ∧ (∀ p ∈ ps, Sh d p) ∧ ds.map shOf = ps := by
  rw [List.all_eq_true] at h
  refine ⟨ds.map shOf, ?_, fun p hp => ?_, rfl⟩
  · rw [List.map_map]
    conv => lhs; rw [← List.map_id ds]
    exact List.map_congr_left fun x hx => (isSh_iff.mp (h x hx)).1
  · obtain ⟨x, hx, rfl⟩ := List.mem_map.mp hp
    exact (isSh_iff.mp (h x hx)).2
theorem jd_no {d : Nat} {l : Lay} {ds : List PyData} (h : ds.all (isSh d) = false) : jd d l (.tuple ds) = .tuple [.str "form"] := by
  show (if ds.all (isSh d) then _ else _) = _
  rw [h]; rfl
theorem jd_yes {d : Nat} {l : Lay} {ds : List PyData} {ps : List (List Nat)} (h : ds.all (isSh d) = true) (e : ds.map shOf = ps) : jd d l (.tuple ds) = jdS d l ps := by
  show (if ds.all (isSh d) then _ else _) = _
  rw [h, if_pos rfl, e]; rfl
theorem seqAt_cons (i : Nat) (p q : List Nat) (r : List (List Nat)) : seqAt i (p :: q :: r) = if lt p q then seqAt (i + 1) (q :: r) else some i := rfl
theorem drop2 {α : Type} {xs : List α} {k : Nat} (h : k + 1 < xs.length) : xs.drop k = xs[k] :: xs[k + 1] :: xs.drop (k + 2) := by
  rw [List.drop_eq_getElem_cons (by omega), List.drop_eq_getElem_cons h]
theorem seqAt_step {ps : List (List Nat)} {k : Nat} (h : k + 1 < ps.length) : seqAt (k + 1) (ps.drop k) = if lt ps[k] ps[k + 1] then seqAt (k + 2) (ps.drop (k + 1)) else some (k + 1) := by
  rw [drop2 h, seqAt_cons, ← List.drop_eq_getElem_cons h]
theorem seqAt_end {ps : List (List Nat)} {k : Nat} (h : ps.length ≤ k + 1) : seqAt (k + 1) (ps.drop k) = none := by
  have : (ps.drop k).length ≤ 1 := by rw [List.length_drop]; omega
  match ps.drop k, this with
  | [], _ => rfl
  | [_], _ => rfl
theorem deckAt_step {l : Lay} {ps : List (List Nat)} {k : Nat} (h : k < ps.length) : deckAt l k (ps.drop k) = if isDeck l ps[k] then deckAt l (k + 1) (ps.drop (k + 1)) else some k := by
  rw [List.drop_eq_getElem_cons h]; rfl
theorem alC_T (p q : List Nat) : alC (eT p) (eT q) := by
  refine ⟨?_, fun z => (nomatch z), ?_⟩
  · show PySem.W.alikeAll (p.map nI) (q.map nI) = true
    rw [map_nI, map_nI]; exact PySem.W.alike_ints _ _
  · exact Nat.le_trans (ecT.dep p) (by decide)
theorem idx_succ (k : Nat) : (1 : Int) + (k : Int) - 1 = (k : Int) := by omega
theorem idx_cast (k : Nat) : (1 : Int) + (k : Int) = ((k + 1 : Nat) : Int) := by omega
theorem m_judge_decks (as : Rho) (Φ : PyData → Prop) (_ : as.length = 3) (c : C_judge_decks as Φ) : F_judge_decks (as ++ List.replicate (N_judge_decks.length - 3) .un) { nx := fun _ => Φ .none, rt := Φ } := by
  obtain ⟨d, l, v, rfl, hd, hl, ok, h⟩ := c
  walk_at "D"
  cases v with
  | tuple ds =>
    obtain ⟨ok1, ok2⟩ : ds.length ≤ 1000 ∧ ∀ x ∈ ds, OkV x := ok
    refine br_f ?_
    walk_at "D"
    refine ⟨small (by omega), cmp_id (fun x => .bool (isSh d x)) ds (fun x hx N hN => br_t ?_) ?_⟩
    · walk_at "D"
      exact ⟨rfl, d, x, rfl, ok2 x hx, hN⟩
    walk_at "R"
    walk_at "D"
    refine ⟨ds.map (isSh d), by rw [List.map_map]; rfl, ?_⟩
    walk_at "D"
    have e2 : (ds.map (isSh d)).all id = ds.all (isSh d) := by rw [List.all_map]; rfl
    rw [e2]
    cases h2 : ds.all (isSh d) with
    | false =>
      refine br_t ?_
      walk_at "D"
      rw [jd_no h2] at h
      exact ⟨small (by simp), h⟩
    | true =>
      obtain ⟨ps, e, hps, e3⟩ := all_isSh h2
      rw [jd_yes h2 e3] at h
      clear e2 h2 e3 ok2
      subst e
      rw [List.length_map] at ok1
      refine br_f ?_
      walk_at "D"
      refine ⟨rfl, ?_⟩
      walk_at "D"
      rw [List.length_map]
      refine ⟨⟨by decide, by decide, by omega, by omega⟩, rfl, ?_⟩
      refine forP_rng (enc := fun (i : Nat) => PyData.int (1 + (i : Int))) _ (fun k ρ => ∃ x3, ρ = [.da (nI d), .da (eL l), .da (eTs ps), x3, .un, .un] ∧ (k = 0 ∨ k < ps.length) ∧ seqAt 1 ps = seqAt (k + 1) (ps.drop k)) ?_ ?_ _ ⟨.un, rfl, .inl rfl, by simp⟩
      · rintro _ ⟨x3, rfl, hk, hs⟩
        rw [seqAt_end (by omega)] at hs
        unfold jdS at h
        rw [hs] at h
        walk_at "D"
        refine ⟨rfl, ?_⟩
        refine forP_enum (g := eT) ps (fun k ρ => ∃ x3 x4, ρ = [.da (nI d), .da (eL l), .da (eTs ps), x3, x4, .un] ∧ deckAt l 0 ps = deckAt l k (ps.drop k)) ?_ ?_ _ ⟨_, _, rfl, by simp⟩
        · rintro _ ⟨x3, x4, rfl, hk2⟩
          rw [List.drop_length] at hk2
          rw [hk2] at h
          walk_at "D"
          refine ⟨rfl, d, l, rfl, hd, hl, ?_⟩
          walk_at "D"
          have hdl : (decks d l).length ≤ 256 := Nat.le_trans (List.length_filter_le ..) (shGo_small hd hd)
          refine ⟨small (by rw [List.length_map]; omega), cmp_fm (enc := eT) (fun s => if !ps.contains s then some (eT s) else none) (decks d l) (fun s hs N hN => ?_) ?_⟩
          · walk_at "D"
            obtain ⟨c1, c2⟩ := ecT.inT (by decide) s ps
            refine ⟨c1, ?_⟩
            walk_at "D"
            have e3 : anyIn (eT s) (eTs ps) = ps.contains s := by
              refine c2.trans ?_
              by_cases z : s ∈ ps <;> simp [z]
            rw [e3]
            refine ⟨fun hi => ?_, fun hi => ?_⟩
            · walk_at "D"
              rw [hi, if_pos rfl] at hN
              exact hN
            · rw [hi, if_neg (by decide)] at hN
              exact hN
          · rw [fm_if]
            walk_at "R"
            walk_at "D"
            cases hf : (decks d l).filter fun s => !ps.contains s with
            | nil =>
              rw [hf] at h
              refine ⟨small (by decide), ?_⟩
              walk_at "D"
              refine ⟨⟨rfl, rfl⟩, ?_⟩
              walk_at "D"
              exact br_f h
            | cons s r =>
              rw [hf] at h
              refine ⟨small (by decide), ?_⟩
              walk_at "D"
              refine ⟨ecT.lst.eqC (by decide) (s :: r) [], ?_⟩
              have e : PyData.eqv (.list ((s :: r).map eT)) (.list []) = false := by
                refine (ecT.lst.eqv (s :: r) []).trans ?_
                exact decide_eq_false (by simp)
              walk_at "D"
              rw [e]
              refine br_t ?_
              walk_at "D"
              refine ⟨eT s, at_map (i := 0) (xs := s :: r) rfl, ?_⟩
              walk_at "D"
              exact ⟨small (by simp), h⟩
        · rintro k s _ hks ⟨x3, x4, rfl, hk2⟩ N hN
          obtain ⟨hkl, rfl⟩ := List.getElem?_eq_some_iff.mp hks
          rw [deckAt_step hkl] at hk2
          walk_at "D"
          refine ⟨rfl, ?_⟩
          walk_at "D"
          refine ⟨rfl, ?_⟩
          refine ⟨d, l, ps[k], rfl, by omega, hl, (hps _ (List.getElem_mem _)).1, ?_⟩
          walk_at "D"
          cases hx : isDeck l ps[k] with
          | true =>
            rw [hx, if_pos rfl] at hk2
            exact br_f (hN _ ⟨_, _, rfl, hk2⟩)
          | false =>
            rw [hx, if_neg (by decide)] at hk2
            rw [hk2] at h
            refine br_t ?_
            walk_at "D"
            exact ⟨small (by simp), h⟩
      · rintro k _ hkn ⟨x3, rfl, hk, hs⟩ N hN
        have hk1 : k + 1 < ps.length := by omega
        rw [seqAt_step hk1] at hs
        walk_at "D"
        rw [idx_succ]
        refine ⟨_, at_map (List.getElem?_eq_getElem (by omega)), ?_⟩
        walk_at "D"
        rw [idx_cast]
        refine ⟨_, at_map (List.getElem?_eq_getElem hk1), ?_⟩
        walk_at "D"
        refine ⟨alC_T _ _, ?_⟩
        walk_at "D"
        have e4 : PySem.W.dataLt (eT ps[k]) (eT ps[k + 1]) = lt ps[k] ps[k + 1] := rfl
        rw [e4]
        cases hlt : lt ps[k] ps[k + 1] with
        | true =>
          rw [hlt, if_pos rfl] at hs
          exact br_f (hN _ ⟨_, rfl, .inr hk1, hs⟩)
        | false =>
          rw [hlt, if_neg (by decide)] at hs
          unfold jdS at h
          rw [hs] at h
          refine br_t ?_
          walk_at "D"
          exact ⟨small (by simp), h⟩
  | _ => exact br_t (by walk_at "D"; exact br_t (by walk_at "D"; exact ⟨small (by simp), h⟩))
end K60


set_option Elab.async false
set_option linter.all false
set_option maxRecDepth 100000
set_option maxHeartbeats 4000000
namespace K60
open PySem L2 Dat
local macro_rules | `(tactic| walk_at "D") => `(tactic| (conv => whnf))
local macro_rules | `(tactic| walk_at "R") => `(tactic| (simp only [List.nil_append, clr_clr]))
theorem nodup_len : ∀ (p l : List Nat), p.Nodup → (∀ x ∈ p, x ∈ l) → p.length ≤ l.length
  | [], l, _, _ => Nat.zero_le _
  | a :: p, l, hn, hs => by
    rw [List.nodup_cons] at hn
    have ha := hs a (by simp)
    have := nodup_len p (l.erase a) hn.2 fun x hx => by
      have hne : x ≠ a := fun z => hn.1 (z ▸ hx)
      exact (List.mem_erase_of_ne hne).mpr (hs x (by simp [hx]))
    rw [List.length_erase_of_mem ha] at this
    have := List.length_pos_of_mem ha
    rw [List.length_cons]
    omega
theorem Sh.all {d : Nat} {p : List Nat} (h : Sh d p) {i : Nat} (hi : i < d) : i ∈ p := by
  obtain ⟨⟨h1, h2⟩, h3⟩ := h
  refine Classical.byContradiction fun z => ?_
  have := nodup_len (i :: p) (List.range d) (List.nodup_cons.mpr ⟨z, h3⟩) fun x hx => by
    rcases List.mem_cons.mp hx with rfl | hx
    · exact List.mem_range.mpr hi
    · exact List.mem_range.mpr (h2 x hx)
  rw [List.length_cons, List.length_range] at this
  omega
theorem beh_mp {d : Nat} {p q : List Nat} (hp : Mp d p) (hq : Mp d q) : Mp d (beh p q) := by
  refine ⟨by unfold beh; rw [List.length_map]; exact hp.1, fun i hi => ?_⟩
  obtain ⟨j, hj, rfl⟩ := List.mem_map.mp hi
  exact hq.2 _ (getD_mem (by rw [hq.1]; exact hp.2 j hj))
theorem bk_get {d : Nat} {p : List Nat} (h : Sh d p) {i : Nat} (hi : i < d) : (bk p).getD i 0 = p.idxOf i := by
  unfold bk
  rw [h.1.1, List.getD_eq_getElem?_getD, List.getElem?_map, List.getElem?_range hi]; rfl
theorem bk_sh {d : Nat} {p : List Nat} (h : Sh d p) : Sh d (bk p) := by
  refine ⟨⟨by unfold bk; rw [List.length_map, List.length_range]; exact h.1.1, fun i hi => ?_⟩, ?_⟩
  · obtain ⟨j, hj, rfl⟩ := List.mem_map.mp hi
    rw [List.mem_range, h.1.1] at hj
    have := List.idxOf_lt_length_iff.mpr (h.all hj)
    rwa [h.1.1] at this
  · unfold bk
    rw [List.nodup_iff_pairwise_ne, List.pairwise_map]
    refine List.Pairwise.imp_of_mem (R := fun a b => a ≠ b) (fun {a b} ha hb hab e => hab ?_) (List.nodup_iff_pairwise_ne.mp List.nodup_range)
    rw [List.mem_range, h.1.1] at ha hb
    have h1 := List.getElem_idxOf (List.idxOf_lt_length_iff.mpr (h.all ha))
    have h2 := List.getElem_idxOf (List.idxOf_lt_length_iff.mpr (h.all hb))
    rw [← h1, ← h2]
    simp only [e]
theorem m_judge_alike (as : Rho) (Φ : PyData → Prop) (_ : as.length = 4) (c : C_judge_alike as Φ) : F_judge_alike (as ++ List.replicate (N_judge_alike.length - 4) .un) { nx := fun _ => Φ .none, rt := Φ } := by
  obtain ⟨d, one, other, v, rfl, hd, ⟨a1, a2, a3, a4⟩, ⟨b1, b2, b3, b4⟩, ok, h⟩ := c
  walk_at "D"
  refine ⟨rfl, d, v, rfl, ok, ?_⟩
  walk_at "D"
  unfold ja at h
  cases hx : isSh d v with
  | false =>
    rw [hx, if_neg (by decide)] at h
    refine br_t ?_
    walk_at "D"
    exact ⟨small (by simp), h⟩
  | true =>
    obtain ⟨e, hs, hn⟩ := isSh_iff.mp hx
    rw [hx, if_pos rfl] at h
    generalize shOf v = s at *
    subst e
    refine br_f ?_
    walk_at "D"
    refine ⟨_, rfl, ?_⟩
    walk_at "D"
    refine ⟨_, rfl, ?_⟩
    walk_at "D"
    refine ⟨by rw [List.length_map, List.length_map]; exact small (by omega), ?_⟩
    walk_at "D"
    refine ⟨_, rfl, ?_⟩
    walk_at "D"
    refine ⟨_, rfl, ?_⟩
    walk_at "D"
    refine ⟨by rw [List.length_map, List.length_map]; exact small (by omega), ?_⟩
    walk_at "D"
    refine ⟨rfl, ?_⟩
    rw [← List.map_append, ← List.map_append, zipD_map]
    have all1 : ∀ p ∈ one.1 ++ one.2, Mp d p := fun p hp => (List.mem_append.mp hp).elim (a3 p) (a4 p)
    have all2 : ∀ p ∈ other.1 ++ other.2, Mp d p := fun p hp => (List.mem_append.mp hp).elim (b3 p) (b4 p)
    generalize one.1 ++ one.2 = L1 at *
    generalize other.1 ++ other.2 = L2 at *
    refine forP_enum (g := fun p : List Nat × List Nat => PyData.tuple [eT p.1, eT p.2]) (L1.zip L2) (fun k ρ => ∃ x3 x4 x5 x6, ρ = [.da (nI d), .da (eL one), .da (eL other), .da (eT s), .da (.list ((L1.zip L2).map fun p : List Nat × List Nat => PyData.tuple [eT p.1, eT p.2])), x3, x4, x5, x6, .un] ∧ jaGo d s 0 (L1.zip L2) = jaGo d s k ((L1.zip L2).drop k)) ?_ ?_ _ ⟨_, _, _, _, rfl, rfl⟩
    · rintro _ ⟨x3, x4, x5, x6, rfl, hk⟩
      rw [List.drop_length] at hk
      rw [hk] at h
      exact h
    · rintro k ⟨p, q⟩ _ hkp ⟨x3, x4, x5, x6, rfl, hk⟩ N hN
      obtain ⟨hkl, e⟩ := List.getElem?_eq_some_iff.mp hkp
      rw [List.drop_eq_getElem_cons hkl, e] at hk
      have hm : (p, q) ∈ L1.zip L2 := e ▸ List.getElem_mem hkl
      have hp := all1 p (List.of_mem_zip hm).1
      have hq := all2 q (List.of_mem_zip hm).2
      walk_at "D"
      refine ⟨rfl, ?_⟩
      walk_at "D"
      refine ⟨rfl, ?_⟩
      walk_at "D"
      refine ⟨rfl, ?_⟩
      walk_at "D"
      refine ⟨⟨by omega, by omega⟩, ?_⟩
      walk_at "D"
      rw [Int.toNat_natCast]
      refine ⟨by rw [List.length_map, List.length_range]; exact small (by omega), cmp_fm (enc := fun (i : Nat) => PyData.int (i : Int)) (fun i => if (s.getD (p.getD i 0) 0 != q.getD (s.getD i 0) 0) then some (nI i) else none) (List.range d) (fun i hi M hM => ?_) ?_⟩
      · have hi : i < d := List.mem_range.mp hi
        walk_at "D"
        refine ⟨_, at_getD 0 (by rw [hp.1]; exact hi), ?_⟩
        walk_at "D"
        refine ⟨_, at_getD 0 (by rw [hs.1]; exact hp.2 _ (getD_mem (by rw [hp.1]; exact hi))), ?_⟩
        walk_at "D"
        refine ⟨_, at_getD 0 (by rw [hs.1]; exact hi), ?_⟩
        walk_at "D"
        refine ⟨_, at_getD 0 (by rw [hq.1]; exact hs.2 _ (getD_mem (by rw [hs.1]; exact hi))), ?_⟩
        walk_at "D"
        refine ⟨ecN.eqC (by decide) _ _, ?_⟩
        walk_at "D"
        rw [ecN.eqv]
        refine br_nd (fun hi => ?_) (fun hi => ?_)
        · rw [if_pos (by simpa using hi)] at hM
          exact hM
        · rw [if_neg (by simpa using hi)] at hM
          exact hM
      · rw [fm_if]
        walk_at "R"
        walk_at "D"
        cases hf : (List.range d).filter fun i => s.getD (p.getD i 0) 0 != q.getD (s.getD i 0) 0 with
        | nil =>
          have hw : wrongs d s p q = [] := hf
          rw [jaGo, hw] at hk
          refine ⟨small (by decide), ?_⟩
          walk_at "D"
          refine ⟨⟨rfl, rfl⟩, ?_⟩
          walk_at "D"
          exact br_f (hN _ ⟨_, _, _, _, rfl, hk⟩)
        | cons i r =>
          have hw : wrongs d s p q = i :: r := hf
          rw [jaGo, hw] at hk
          rw [hk] at h
          refine ⟨small (by decide), ?_⟩
          walk_at "D"
          refine ⟨ecN.lst.eqC (by decide) (i :: r) [], ?_⟩
          have e : PyData.eqv (.list ((i :: r).map nI)) (.list []) = false := by
            refine (ecN.lst.eqv (i :: r) []).trans ?_
            exact decide_eq_false (by simp)
          walk_at "D"
          rw [e]
          refine br_t ?_
          walk_at "D"
          refine ⟨nI i, at_map (i := 0) (xs := i :: r) rfl, ?_⟩
          walk_at "D"
          exact ⟨small (by simp), h⟩
theorem m_law_of (as : Rho) (Φ : PyData → Prop) (_ : as.length = 2) (c : C_law_of as Φ) : F_law_of (as ++ List.replicate (N_law_of.length - 2) .un) { nx := fun _ => Φ .none, rt := Φ } := by
  obtain ⟨b, xs, rfl, hb, h0, hl, q⟩ := c
  walk_at "D"
  refine ⟨Nat.le_refl 1, ?_⟩
  walk_at "D"
  refine ⟨rfl, b, _, rfl, hb, by omega, fun j h1 h2 => ?_⟩
  have hp : 0 < xs.length := List.length_pos_iff.mpr h0
  walk_at "D"
  have hj : j.toNat < xs.length := by omega
  refine ⟨xs[j.toNat], ?_, q _ (List.getElem_mem hj)⟩
  have := atI_nat (xs := xs) (j := j.toNat) (List.getElem?_eq_getElem hj)
  rwa [show ((j.toNat : Nat) : Int) = j by omega] at this
theorem m_law_back (as : Rho) (Φ : PyData → Prop) (_ : as.length = 1) (c : C_law_back as Φ) : F_law_back (as ++ List.replicate (N_law_back.length - 1) .un) { nx := fun _ => Φ .none, rt := Φ } := by
  obtain ⟨d, p, rfl, hd, ⟨⟨hp1, hp2⟩, hn⟩, h⟩ := c
  walk_at "D"
  refine ⟨rfl, ?_⟩
  walk_at "D"
  rw [List.length_map, Int.toNat_natCast]
  refine ⟨⟨by omega, by omega⟩, ?_⟩
  walk_at "D"
  refine ⟨by rw [List.length_map, List.length_range]; exact small (by omega), cmp_map (fun i => nI (p.idxOf i)) (List.range p.length) (fun i hi N hN => br_t ?_) ?_⟩
  · have hi : i < d := by rw [← hp1]; exact List.mem_range.mp hi
    walk_at "D"
    have hm : i ∈ p := Sh.all ⟨⟨hp1, hp2⟩, hn⟩ hi
    refine ⟨rfl, ?_⟩
    walk_at "D"
    refine ⟨ecN.inT (by decide) i p |>.1, ?_⟩
    walk_at "D"
    exact ⟨_, ecN.ixOf i p hm, hN⟩
  · walk_at "R"
    walk_at "D"
    unfold bk eT at h
    rw [List.map_map] at h
    exact h
theorem erase_perm {α : Type} : ∀ (l : List α) (i : Nat) (h : i < l.length), (l[i] :: l.eraseIdx i).Perm l
  | [], _, h => absurd h (Nat.not_lt_zero _)
  | a :: l, 0, _ => List.Perm.refl _
  | a :: l, i + 1, h => by
    have := erase_perm l i (by simpa using h)
    exact (List.Perm.swap _ _ _).trans (this.cons a)
theorem mix_go {xs : List PyData} {x1 : PyData} {Φ : List PyData → Rho → Prop} : ∀ (ys rest acc : List PyData) (b r : Nat), ys.length = rest.length → ys.length ≤ r → b + r ≤ 1000000 → (acc ++ rest).Perm xs → (∀ zs b' r', zs.Perm xs → Φ zs [.sr b' r', .da x1, .ow [], .un]) →
    cmp .free (bdN 3) yesF (popF 2 (callS 1 2 C_law_pick (aconsF false (nameF 0) (aconsF false (unF lenP (nameF 2)) anilF)))) [3] ys acc [.sr b r, .da x1, .ow rest, .un] Φ
  | [], rest, acc, b, r, hl, _, _, hp, q => by
    have : rest = [] := List.eq_nil_of_length_eq_zero hl.symm
    subst this
    rw [List.append_nil] at hp
    exact ⟨trivial, q _ _ _ hp⟩
  | y :: ys, rest, acc, b, r, hl, hr, hb, hp, q => by
    walk_at "D"
    refine ⟨trivial, ?_⟩
    walk_at "D"
    refine br_t ?_
    walk_at "D"
    have hl' : ys.length + 1 = rest.length := hl
    have hr' : ys.length + 1 ≤ r := hr
    refine ⟨(by omega : 1 ≤ r), ?_⟩
    walk_at "D"
    refine ⟨rfl, b, _, rfl, by omega, by omega, fun j h1 h2 => ?_⟩
    walk_at "D"
    have hj : j.toNat < rest.length := by omega
    refine ⟨⟨by omega, by omega⟩, j.toNat, rest[j.toNat], ?_, List.getElem?_eq_getElem hj, ?_⟩
    · unfold seqIndex?
      show (if (decide (0 ≤ if j < 0 then j + (rest.length : Int) else j) && decide ((if j < 0 then j + (rest.length : Int) else j) < rest.length)) = true then some (if j < 0 then j + (rest.length : Int) else j).toNat else none) = _
      rw [if_neg (show ¬ j < 0 by omega), if_pos (by simp; omega)]
    · refine mix_go ys (rest.eraseIdx j.toNat) (acc ++ [rest[j.toNat]]) (b + 1) (r - 1) ?_ (by omega) (by omega) ?_ q
      · rw [List.length_eraseIdx_of_lt hj]; omega
      · rw [List.append_assoc]
        refine List.Perm.trans (List.Perm.append_left _ ?_) hp
        exact erase_perm rest _ hj
theorem m_law_mixed (as : Rho) (Φ : PyData → Prop) (_ : as.length = 2) (c : C_law_mixed as Φ) : F_law_mixed (as ++ List.replicate (N_law_mixed.length - 2) .un) { nx := fun _ => Φ .none, rt := Φ } := by
  obtain ⟨b, xs, h, hb, hl, q⟩ := c
  rcases h with rfl | rfl
  · walk_at "D"
    refine ⟨rfl, ?_⟩
    walk_at "D"
    refine ⟨⟨by omega, by omega⟩, ?_⟩
    walk_at "D"
    rw [Int.toNat_natCast]
    refine ⟨by rw [List.length_map, List.length_range]; exact small (by omega), ?_⟩
    refine mix_go (xs := xs) _ xs [] b 32 (by simp) (by rw [List.length_map, List.length_range]; omega) (by omega) (List.Perm.refl _) (fun zs b' r' hz => ?_)
    walk_at "D"
    exact q zs hz
  · walk_at "D"
    refine ⟨rfl, ?_⟩
    walk_at "D"
    refine ⟨⟨by omega, by omega⟩, ?_⟩
    walk_at "D"
    rw [Int.toNat_natCast]
    refine ⟨by rw [List.length_map, List.length_range]; exact small (by omega), ?_⟩
    refine mix_go (xs := xs) _ xs [] b 32 (by simp) (by rw [List.length_map, List.length_range]; omega) (by omega) (List.Perm.refl _) (fun zs b' r' hz => ?_)
    walk_at "D"
    exact q zs hz
theorem m_law_led (as : Rho) (Φ : PyData → Prop) (_ : as.length = 2) (c : C_law_led as Φ) : F_law_led (as ++ List.replicate (N_law_led.length - 2) .un) { nx := fun _ => Φ .none, rt := Φ } := by
  obtain ⟨d, l, s, rfl, hd, ⟨l1, l2, l3, l4⟩, hs, h⟩ := c
  walk_at "D"
  refine ⟨rfl, d, s, rfl, hd, hs, ?_⟩
  walk_at "D"
  have one : ∀ (ps : List (List Nat)), (∀ p ∈ ps, Mp d p) → ps.length ≤ 20 → True := fun _ _ _ => trivial
  refine ⟨small (by simp), cmp_map (enc := eTs) (fun ps => eTs (ps.map fun p => beh (beh (bk s) p) s)) [l.1, l.2] (fun ps hps N hN => br_t ?_) ?_⟩
  · have hm : (∀ p ∈ ps, Mp d p) ∧ ps.length ≤ 20 := by
      rcases List.mem_cons.mp hps with rfl | hps
      · exact ⟨l3, l1⟩
      · rw [List.mem_singleton] at hps
        subst hps
        exact ⟨l4, l2⟩
    walk_at "D"
    refine ⟨small (by rw [List.length_map]; omega), cmp_map (enc := eT) (fun p => eT (beh (beh (bk s) p) s)) ps (fun p hp M hM => br_t ?_) ?_⟩
    · have hp := hm.1 p hp
      have hbk : Sh d (bk s) := bk_sh hs
      walk_at "D"
      refine ⟨rfl, bk s, p, rfl, by rw [hbk.1.1]; exact hd, fun i hi => by rw [hp.1]; exact hbk.1.2 i hi, ?_⟩
      walk_at "D"
      have hb2 := beh_mp hbk.1 hp
      refine ⟨rfl, beh (bk s) p, s, rfl, by rw [hb2.1]; exact hd, fun i hi => by rw [hs.1.1]; exact hb2.2 i hi, ?_⟩
      walk_at "D"
      exact hM
    · walk_at "R"
      walk_at "D"
      have e : eTs (ps.map fun p => beh (beh (bk s) p) s) = .tuple (ps.map fun p => eT (beh (beh (bk s) p) s)) := by
        unfold eTs; rw [List.map_map]; rfl
      rw [e] at hN
      exact hN
  · walk_at "R"
    walk_at "D"
    exact h
end K60


set_option Elab.async false
set_option linter.all false
set_option maxRecDepth 100000
set_option maxHeartbeats 4000000
namespace K60
open PySem L2 Dat
local macro_rules | `(tactic| walk_at "D") => `(tactic| (conv => whnf))
local macro_rules | `(tactic| walk_at "R") => `(tactic| (simp only [List.nil_append, clr_clr]))
theorem ints_srt (ns : List Int) (h : ns.length ≤ 1000000) : srtOk (ns.map PyData.int) := by
  refine ⟨fun d hd d' hd' => ?_, .inr fun d hd => ?_, by rw [List.length_map]; exact small h, fun d hd => ?_⟩
  · obtain ⟨a, _, rfl⟩ := List.mem_map.mp hd
    obtain ⟨b, _, rfl⟩ := List.mem_map.mp hd'
    simp [PySem.W.alike]
  · obtain ⟨a, _, rfl⟩ := List.mem_map.mp hd
    exact ⟨(fun z => nomatch z), fun xs z => nomatch z⟩
  · obtain ⟨a, _, rfl⟩ := List.mem_map.mp hd
    simp [PyData.depth]
theorem map_of_perm {α β : Type} {f : α → β} {xs : List α} {ys : List β} (h : ys.Perm (xs.map f)) : ∃ zs : List α, ys = zs.map f ∧ zs.Perm xs := by
  generalize e : xs.map f = l at h
  induction h generalizing xs with
  | nil => exact ⟨[], rfl, by rw [List.map_eq_nil_iff] at e; subst e; exact List.Perm.refl _⟩
  | cons x h ih =>
    match xs, e with
    | a :: xs, e =>
      rw [List.map_cons] at e
      injection e with e1 e2
      obtain ⟨zs, e3, hp⟩ := ih e2
      exact ⟨a :: zs, by rw [List.map_cons, e1, e3], hp.cons a⟩
  | swap x y l =>
    match xs, e with
    | a :: b :: xs, e =>
      rw [List.map_cons, List.map_cons] at e
      injection e with e1 e2
      injection e2 with e2 e3
      exact ⟨b :: a :: xs, by rw [List.map_cons, List.map_cons, e1, e2, e3], List.Perm.swap _ _ _⟩
  | trans h1 h2 ih1 ih2 =>
    obtain ⟨zs, e3, hp⟩ := ih2 e
    obtain ⟨ws, e4, hp2⟩ := ih1 e3.symm
    exact ⟨ws, e4, hp2.trans hp⟩
theorem srt_ints (rev : Bool) (ns : List Int) : ∃ ms : List Int, srtD rev (ns.map PyData.int) = ms.map .int ∧ ms.Perm ns := by
  have := List.mergeSort_perm (ns.map PyData.int) (PySem.W.dataLe rev id)
  exact map_of_perm this
theorem m_law_all_shuffles (as : Rho) (Φ : PyData → Prop) (_ : as.length = 1) (c : C_law_all_shuffles as Φ) : F_law_all_shuffles (as ++ List.replicate (N_law_all_shuffles.length - 1) .un) { nx := fun _ => Φ .none, rt := Φ } := by
  obtain ⟨d, rfl, hd, h⟩ := c
  walk_at "D"
  refine ⟨by decide, ?_⟩
  walk_at "D"
  refine ⟨by decide, ?_⟩
  walk_at "D"
  refine ⟨rfl, ?_⟩
  walk_at "D"
  refine ⟨⟨by omega, by omega⟩, ?_⟩
  walk_at "D"
  rw [Int.toNat_natCast]
  refine ⟨rfl, ?_⟩
  refine forP_ind (enc := fun (i : Nat) => PyData.int (i : Int)) (fun r ρ => ∃ k x2 x3 x4, ρ = [.da (nI d), .da (.list ((shGo d k).map eT)), x2, x3, x4, .un] ∧ r.length + k = d) ?_ ?_ (List.range d) _ ⟨0, .un, .un, .un, rfl, by simp⟩
  · rintro _ ⟨k, x3, x2, x4, rfl, hk⟩
    walk_at "D"
    have : k = d := by simpa using hk
    subst this
    exact h
  · rintro y r _ ⟨k, x2, x3, x4, rfl, hk⟩ N hN
    have hk4 : k < 4 := by simp at hk; omega
    walk_at "D"
    refine ⟨small (by simp), ?_⟩
    walk_at "D"
    refine ⟨rfl, ?_⟩
    refine forP_ind (enc := eT) (fun r' ρ => ∃ done x4, done ++ r' = shGo d k ∧ ρ = [.da (nI d), .da (.list ((shGo d k).map eT)), .da (.int (y : Int)), .da (.list ((stepS d done).map eT)), x4, .un]) ?_ ?_ (shGo d k) _ ⟨[], x4, rfl, rfl⟩
    · rintro _ ⟨done, x4, e, rfl⟩
      rw [List.append_nil] at e
      subst e
      walk_at "D"
      exact hN _ ⟨k + 1, _, _, _, rfl, by simp at hk ⊢; omega⟩
    · rintro row r' _ ⟨done, x4, e, rfl⟩ N' hN'
      walk_at "D"
      refine ⟨rfl, ?_⟩
      walk_at "D"
      refine ⟨⟨by omega, by omega⟩, ?_⟩
      walk_at "D"
      rw [Int.toNat_natCast]
      have hrow : row.length ≤ 4 := by
        have : row ∈ shGo d k := by rw [← e]; simp
        rw [shGo_row k row this]; omega
      refine ⟨small (by simp; omega), cmp_fm (enc := fun (i : Nat) => PyData.int (i : Int)) (fun i => if !row.contains i then some (eT (row ++ [i])) else none) (List.range d) (fun i hi M hM => ?_) ?_⟩
      · walk_at "D"
        obtain ⟨c1, c2⟩ := ecN.inT (by decide) i row
        refine ⟨c1, ?_⟩
        walk_at "D"
        have e3 : anyIn (.int (i : Int)) (eT row) = decide (i ∈ row) := c2
        rw [e3]
        refine br_nd (fun hi => ?_) (fun hi => ?_)
        · walk_at "D"
          refine ⟨small (by simp), ?_⟩
          walk_at "D"
          have : (!row.contains i) = true := by simpa using hi
          rw [if_pos this] at hM
          unfold eT at hM
          rw [List.map_append] at hM
          refine ⟨small (by simp; omega), ?_⟩
          exact hM
        · have : ¬(!row.contains i) = true := by simpa using hi
          rw [if_neg this] at hM
          exact hM
      · rw [fm_if]
        walk_at "R"
        walk_at "D"
        have e4 : (stepS d done).map eT ++ ((List.range d).filter fun i => !row.contains i).map (fun i => eT (row ++ [i])) = (stepS d (done ++ [row])).map eT := by
          rw [stepS_snoc, List.map_append, List.map_map]; rfl
        have hdl : done.length + 1 ≤ 256 := by
          have h1 := shGo_small hd (k := k) (by omega)
          rw [← e, List.length_append, List.length_cons] at h1
          omega
        refine ⟨small ?_, ?_⟩
        · have h1 := @stepS_len d (done ++ [row])
          have h2 := congrArg List.length e4
          rw [List.length_append, List.length_map (as := stepS d (done ++ [row]))] at h2
          rw [h2]
          have h3 : (done ++ [row]).length * d ≤ 256 * 4 := Nat.mul_le_mul (by rw [List.length_append]; exact hdl) hd
          omega
        · walk_at "D"
          exact hN' _ ⟨done ++ [row], .da (eT row), by rw [List.append_assoc]; exact e, by rw [← e4]; rfl⟩
theorem ecL : Ec (fun l : Lay => eL l) 3 := Ec.pair ecTs ecTs
theorem m_law_own_decks (as : Rho) (Φ : PyData → Prop) (_ : as.length = 2) (c : C_law_own_decks as Φ) : F_law_own_decks (as ++ List.replicate (N_law_own_decks.length - 2) .un) { nx := fun _ => Φ .none, rt := Φ } := by
  obtain ⟨d, l, rfl, hd, hl, h⟩ := c
  walk_at "D"
  refine ⟨rfl, d, rfl, hd, ?_⟩
  walk_at "D"
  refine ⟨small (by rw [List.length_map]; have := shGo_small hd hd; unfold shs; omega), cmp_fm (enc := eT) (fun s => if decide (led l s = l) then some (eT s) else none) (shs d) (fun s hs N hN => ?_) ?_⟩
  · walk_at "D"
    refine ⟨rfl, d, l, s, rfl, by omega, hl, shs_sh hs, ?_⟩
    walk_at "D"
    refine ⟨ecL.eqC (by decide) _ _, ?_⟩
    have e : PyData.eqv (eL (led l s)) (eL l) = decide (led l s = l) := ecL.eqv _ _
    walk_at "D"
    rw [e]
    cases hx : decide (led l s = l) with
    | true =>
      rw [hx] at hN
      exact br_t hN
    | false =>
      rw [hx] at hN
      exact br_f hN
  · rw [fm_if]
    walk_at "R"
    walk_at "D"
    exact h
theorem atI_last {ns : List Nat} {a : Nat} : L2.atI ((ns ++ [a]).map nI) (-1) = some (nI a) := by
  unfold L2.atI
  have e : ixN ((ns ++ [a]).map nI).length (-1) = some ns.length := by
    unfold ixN
    rw [List.length_map, List.length_append, List.length_singleton]
    rw [if_neg (by omega), if_pos (by omega)]
    congr 1
    omega
  rw [e]
  simp
theorem round_loop {d i : Nat} {p : List Nat} (hd : d ≤ 100) (hp : Mp d p) (hi : i < d) (k : Kont) : ∀ (n : Nat) (ns : List Nat) (a : Nat), d + 1 < n + (ns.length + 1) → ns.length ≤ d → a < d → (∀ ms : List Nat, ms ≠ [] → ms.length ≤ 200 → k.nx [.da (eT p), .da (nI i), .ow (ms.map nI)]) →
    whN (andF (boolF (opF leP (unF lenP (nameF 2)) (unF lenP (nameF 0)))) (boolF (opF neP (opF ixP (nameF 0) (opF ixP (nameF 2) (unF negP (constF (.int 1))))) (nameF 1)))) (appF 2 (opF ixP (nameF 0) (opF ixP (nameF 2) (unF negP (constF (.int 1)))))) n [.da (eT p), .da (nI i), .ow ((ns ++ [a]).map nI)] k
  | 0, ns, a, h, h2, _, _ => by omega
  | n + 1, ns, a, h, h2, ha, hk => by
    have out : k.nx [.da (eT p), .da (nI i), .ow ((ns ++ [a]).map nI)] := hk _ (by simp) (by simp; omega)
    walk_at "D"
    refine ⟨fun hle => ?_, fun _ => br_f out⟩
    have hle := of_decide_eq_true hle
    have hle : ns.length + 1 ≤ d := by
      have h3 : (((ns ++ [a]).map nI).length : Int) ≤ ((p.map nI).length : Int) := hle
      rw [List.length_map, List.length_map, List.length_append, List.length_singleton, hp.1] at h3
      omega
    walk_at "D"
    refine ⟨nI a, atI_last, ?_⟩
    walk_at "D"
    refine ⟨_, at_getD 0 (by rw [hp.1]; exact ha), ?_⟩
    walk_at "D"
    refine ⟨ecN.eqC (by decide) _ _, ?_⟩
    walk_at "D"
    refine ⟨fun _ => ?_, fun _ => out⟩
    walk_at "D"
    refine ⟨nI a, atI_last, ?_⟩
    walk_at "D"
    refine ⟨_, at_getD 0 (by rw [hp.1]; exact ha), ?_⟩
    walk_at "D"
    refine ⟨Nat.lt_of_le_of_lt (m := 200) (by simp; omega) (by decide), ?_⟩
    have := round_loop hd hp hi k n (ns ++ [a]) (p.getD a 0) (by simp; omega) (by simp; omega) (hp.2 _ (getD_mem (by rw [hp.1]; exact ha))) hk
    rw [List.map_append] at this
    exact this
theorem m_law_round (as : Rho) (Φ : PyData → Prop) (_ : as.length = 2) (c : C_law_round as Φ) : F_law_round (as ++ List.replicate (N_law_round.length - 2) .un) { nx := fun _ => Φ .none, rt := Φ } := by
  obtain ⟨d, p, i, rfl, hd, hp, hi, h⟩ := c
  walk_at "D"
  refine ⟨small (by simp), ?_⟩
  walk_at "D"
  refine ⟨d + 2, round_loop hd hp hi _ (d + 2) [] i (by simp) (by simp) hi fun ms h1 h2 => ?_⟩
  walk_at "D"
  exact h ms h1 h2
theorem m_law_type (as : Rho) (Φ : PyData → Prop) (_ : as.length = 1) (c : C_law_type as Φ) : F_law_type (as ++ List.replicate (N_law_type.length - 1) .un) { nx := fun _ => Φ .none, rt := Φ } := by
  obtain ⟨d, p, rfl, hd, hp, h⟩ := c
  walk_at "D"
  refine ⟨rfl, ?_⟩
  walk_at "D"
  rw [List.length_map, Int.toNat_natCast, hp.1]
  refine ⟨⟨by omega, by omega⟩, ?_⟩
  walk_at "D"
  refine ⟨small (by simp; omega), cmp_rel (enc := fun (i : Nat) => PyData.int (i : Int)) (fun i o => o = none ∨ ∃ n : Int, o = some (.int n)) (List.range d) (fun i hi N hN => ?_) (fun os hl ho => ?_)⟩
  · have hi : i < d := List.mem_range.mp hi
    walk_at "D"
    refine ⟨rfl, d, p, i, rfl, hd, hp, hi, fun ns h1 h2 => ?_⟩
    walk_at "D"
    obtain ⟨n, r, rfl⟩ := List.exists_cons_of_ne_nil h1
    refine ⟨(n :: r).map fun (n : Nat) => (n : Int), map_nI _, ?_⟩
    walk_at "D"
    refine ⟨⟨rfl, rfl⟩, ?_⟩
    walk_at "D"
    refine ⟨fun _ => ?_, fun _ => hN _ (.inl rfl)⟩
    walk_at "D"
    refine ⟨rfl, d, p, i, rfl, hd, hp, hi, fun ns h1 h2 => ?_⟩
    walk_at "D"
    exact hN _ (.inr ⟨_, rfl⟩)
  · walk_at "R"
    walk_at "D"
    have all : ∃ ns : List Int, os.filterMap id = ns.map .int := by
      have hm : ∀ o ∈ os, o = none ∨ ∃ n : Int, o = some (.int n) := fun o ho2 => by
        obtain ⟨j, hj, e⟩ := List.mem_iff_getElem.mp ho2
        exact ho j _ o (List.getElem?_eq_getElem (by omega)) (by rw [List.getElem?_eq_getElem hj, e])
      clear ho hl h
      induction os with
      | nil => exact ⟨[], rfl⟩
      | cons o os ih =>
        obtain ⟨ns, e⟩ := ih fun o ho => hm o (by simp [ho])
        rcases hm o (by simp) with rfl | ⟨n, rfl⟩
        · exact ⟨ns, e⟩
        · exact ⟨n :: ns, by rw [List.filterMap_cons, e]; rfl⟩
    obtain ⟨ns, e⟩ := all
    have hlen : ns.length ≤ 100 := by
      have h1 := congrArg List.length e
      have h2 := List.length_filterMap_le id os
      rw [List.length_map] at h1
      rw [List.length_range] at hl
      omega
    rw [e]
    refine ⟨ints_srt ns (by omega), ?_⟩
    walk_at "D"
    obtain ⟨ms, e2, _⟩ := srt_ints true ns
    rw [e2]
    exact h ms
end K60


set_option Elab.async false
set_option linter.all false
set_option maxRecDepth 100000
set_option maxHeartbeats 4000000
namespace K60
open PySem L2 Dat
local macro_rules | `(tactic| walk_at "D") => `(tactic| (conv => whnf))
local macro_rules | `(tactic| walk_at "R") => `(tactic| (simp only [List.nil_append, clr_clr]))
theorem Mp.range (d : Nat) : Mp d (List.range d) := ⟨List.length_range, fun i hi => List.mem_range.mp hi⟩
theorem Sh.range (d : Nat) : Sh d (List.range d) := ⟨Mp.range d, List.nodup_range⟩
theorem nodup_inj {l : List Nat} (h : l.Nodup) {a b : Nat} (h1 : a < l.length) (h2 : b < l.length) (e : l[a] = l[b]) : a = b := by
  have := (List.nodup_iff_pairwise_ne.mp h)
  rw [List.pairwise_iff_getElem] at this
  rcases Nat.lt_trichotomy a b with z | z | z
  · exact absurd e (this a b h1 h2 z)
  · exact z
  · exact absurd e.symm (this b a h2 h1 z)
theorem beh_sh {d : Nat} {p q : List Nat} (hp : Sh d p) (hq : Sh d q) : Sh d (beh p q) := by
  refine ⟨beh_mp hp.1 hq.1, ?_⟩
  unfold beh
  rw [List.nodup_iff_pairwise_ne, List.pairwise_map]
  refine List.Pairwise.imp_of_mem (R := fun a b => a ≠ b) (fun {a b} ha hb hab e => hab ?_) (List.nodup_iff_pairwise_ne.mp hp.2)
  have h1 : a < q.length := by rw [hq.1.1]; exact hp.1.2 a ha
  have h2 : b < q.length := by rw [hq.1.1]; exact hp.1.2 b hb
  rw [List.getD_eq_getElem?_getD, List.getD_eq_getElem?_getD, List.getElem?_eq_getElem h1, List.getElem?_eq_getElem h2] at e
  have e : q[a] = q[b] := e
  exact nodup_inj hq.2 h1 h2 e
theorem mixed_sh {d : Nat} {ys : List PyData} (h : ys.Perm (rgD (d : Int))) : ∃ p : List Nat, ys = p.map nI ∧ Sh d p := by
  rw [rgD_nI] at h
  obtain ⟨p, e, hp⟩ := map_of_perm h
  exact ⟨p, e, ⟨by rw [hp.length_eq, List.length_range], fun i hi => List.mem_range.mp (hp.mem_iff.mp hi)⟩, hp.nodup_iff.mpr List.nodup_range⟩
theorem rg3_even (n : Nat) : rg3N 0 ((2 * n : Nat) : Int) 2 = n := by
  unfold rg3N
  rw [if_neg (by decide)]
  by_cases h : n = 0
  · subst h; rfl
  · rw [if_pos (by omega)]; omega
theorem m_law_word (as : Rho) (Φ : PyData → Prop) (_ : as.length = 2) (c : C_law_word as Φ) : F_law_word (as ++ List.replicate (N_law_word.length - 2) .un) { nx := fun _ => Φ .none, rt := Φ } := by
  obtain ⟨d, b, l, rfl, hd, ⟨l1, l2, l3, l4⟩, hb, h⟩ := c
  walk_at "D"
  refine ⟨_, rfl, ?_⟩
  walk_at "D"
  refine ⟨⟨by omega, by omega⟩, ?_⟩
  walk_at "D"
  refine ⟨_, rfl, ?_⟩
  walk_at "D"
  refine ⟨_, rfl, ?_⟩
  walk_at "D"
  have fin : ∀ (w : List Nat) (x4 x5 : Slot), Sh d w → seqF (forF (itS (opF ixP (nameF 1) (constF (.int 1)))) (bdN 5) (setF 2 (callC 2 C_law_behind (aconsF false (nameF 2) (aconsF false (nameF 5) anilF))))) (retF (nameF 2)) [.da (.tuple [nI d, eB b, .tuple []]), .da (eL l), .da (eT w), .da (eTs l.1), x4, x5] { nx := fun _ => Φ .none, rt := Φ } := fun w x4 x5 hw => by
    walk_at "D"
    refine ⟨_, rfl, ?_⟩
    walk_at "D"
    refine ⟨rfl, ?_⟩
    refine forP_ind (enc := eT) (fun r ρ => (∀ p ∈ r, Sh d p) ∧ ∃ w x4 x5, Sh d w ∧ ρ = [.da (.tuple [nI d, eB b, .tuple []]), .da (eL l), .da (eT w), .da (eTs l.1), x4, x5]) ?_ ?_ l.2 _ ⟨l4, w, _, _, hw, rfl⟩
    · rintro _ ⟨_, w, x4, x5, hw, rfl⟩
      exact h w hw
    · rintro p r _ ⟨hr, w, x4, x5, hw, rfl⟩ N hN
      have hp := hr p (by simp)
      walk_at "D"
      refine ⟨rfl, w, p, rfl, by rw [hw.1.1]; exact hd, fun i hi => by rw [hp.1.1]; exact hw.1.2 i hi, ?_⟩
      walk_at "D"
      exact hN _ ⟨fun q hq => hr q (by simp [hq]), _, _, _, beh_sh hw hp, rfl⟩
  cases b with
  | h n =>
    have hb : l.1.length = 2 * n := hb
    refine ⟨_, rfl, ?_⟩
    walk_at "D"
    refine br_t ?_
    walk_at "D"
    rw [List.length_map, hb]
    refine ⟨⟨.inl rfl, by omega, by omega, by omega, by omega⟩, ?_⟩
    walk_at "D"
    rw [rg3_even]
    refine ⟨rfl, ?_⟩
    refine forP_rng (enc := fun (m : Nat) => PyData.int (0 + (m : Int) * 2)) n (fun _ ρ => ∃ w x4 x5, Sh d w ∧ ρ = [.da (.tuple [nI d, eB (.h n), .tuple []]), .da (eL l), .da (eT w), .da (eTs l.1), x4, x5]) ?_ ?_ _ ⟨List.range d, .un, .un, Sh.range d, rfl⟩
    · rintro _ ⟨w, x4, x5, hw, rfl⟩
      exact fin w x4 x5 hw
    · rintro k _ hk ⟨w, x4, x5, hw, rfl⟩ N hN
      have k1 : 2 * k < l.1.length := by omega
      have k2 : 2 * k + 1 < l.1.length := by omega
      have a1 : L2.atI (l.1.map eT) (0 + (k : Int) * 2) = some (eT l.1[2 * k]) := by
        rw [show (0 + (k : Int) * 2) = ((2 * k : Nat) : Int) by omega]
        exact at_map (List.getElem?_eq_getElem k1)
      have a2 : L2.atI (l.1.map eT) (0 + (k : Int) * 2 + 1) = some (eT l.1[2 * k + 1]) := by
        rw [show (0 + (k : Int) * 2 + 1) = ((2 * k + 1 : Nat) : Int) by omega]
        exact at_map (List.getElem?_eq_getElem k2)
      have h1 := l3 _ (List.getElem_mem k1)
      have h2 := l3 _ (List.getElem_mem k2)
      walk_at "D"
      refine ⟨_, a1, ?_⟩
      walk_at "D"
      refine ⟨_, a2, ?_⟩
      walk_at "D"
      refine ⟨_, a1, ?_⟩
      walk_at "D"
      refine ⟨rfl, d, _, rfl, hd, h1, ?_⟩
      walk_at "D"
      refine ⟨_, a2, ?_⟩
      walk_at "D"
      refine ⟨rfl, d, _, rfl, hd, h2, ?_⟩
      walk_at "D"
      refine ⟨small (by simp), ?_⟩
      walk_at "D"
      refine ⟨rfl, ?_⟩
      refine forP_ind (enc := eT) (fun r ρ => (∀ p ∈ r, Sh d p) ∧ ∃ w x4 x5, Sh d w ∧ ρ = [.da (.tuple [nI d, eB (.h n), .tuple []]), .da (eL l), .da (eT w), .da (eTs l.1), x4, x5]) ?_ ?_ [l.1[2 * k], l.1[2 * k + 1], bk l.1[2 * k], bk l.1[2 * k + 1]] _ ⟨?_, w, _, _, hw, rfl⟩
      · rintro _ ⟨_, w, x4, x5, hw, rfl⟩
        exact hN _ ⟨w, _, _, hw, rfl⟩
      · rintro p r _ ⟨hr, w, x4, x5, hw, rfl⟩ N hN
        have hp := hr p (by simp)
        walk_at "D"
        refine ⟨rfl, w, p, rfl, by rw [hw.1.1]; exact hd, fun i hi => by rw [hp.1.1]; exact hw.1.2 i hi, ?_⟩
        walk_at "D"
        exact hN _ ⟨fun q hq => hr q (by simp [hq]), _, _, _, beh_sh hw hp, rfl⟩
      · intro p hp
        simp at hp
        rcases hp with rfl | rfl | rfl | rfl
        · exact h1
        · exact h2
        · exact bk_sh h1
        · exact bk_sh h2
  | c n =>
    refine ⟨_, rfl, ?_⟩
    walk_at "D"
    refine br_f ?_
    walk_at "D"
    refine ⟨rfl, ?_⟩
    refine forP_ind (enc := eT) (fun r ρ => (∀ p ∈ r, Sh d p) ∧ ∃ w x4 x5, Sh d w ∧ ρ = [.da (.tuple [nI d, eB (.c n), .tuple []]), .da (eL l), .da (eT w), .da (eTs l.1), x4, x5]) ?_ ?_ l.1 _ ⟨l3, List.range d, .un, .un, Sh.range d, rfl⟩
    · rintro _ ⟨_, w, x4, x5, hw, rfl⟩
      exact fin w x4 x5 hw
    · rintro p r _ ⟨hr, w, x4, x5, hw, rfl⟩ N hN
      have hp := hr p (by simp)
      walk_at "D"
      refine ⟨rfl, w, p, rfl, by rw [hw.1.1]; exact hd, fun i hi => by rw [hp.1.1]; exact hw.1.2 i hi, ?_⟩
      walk_at "D"
      have hw2 := beh_sh hw hp
      refine ⟨rfl, beh w p, p, rfl, by rw [hw2.1.1]; exact hd, fun i hi => by rw [hp.1.1]; exact hw2.1.2 i hi, ?_⟩
      walk_at "D"
      exact hN _ ⟨fun q hq => hr q (by simp [hq]), _, _, _, beh_sh hw2 hp, rfl⟩
end K60


set_option Elab.async false
set_option linter.all false
set_option maxRecDepth 100000
set_option maxHeartbeats 4000000
namespace K60
open PySem L2 Dat
local macro_rules | `(tactic| walk_at "D") => `(tactic| (conv => whnf))
local macro_rules | `(tactic| walk_at "R") => `(tactic| (simp only [List.nil_append, clr_clr]))
abbrev laidA : SF := setF 4 (ifF (boolF (opF eqSP (opF ixP (nameF 2) (constF (.int 0))) (constF (.str "handles")))) (opF mulNP (constF (.int 2)) (opF ixP (nameF 2) (constF (.int 1)))) (opF ixP (nameF 2) (constF (.int 1))))
theorem cm_of {x y : Int} {a b : Nat} (hx : x.natAbs < 2 ^ a) (hy : y.natAbs < 2 ^ b) (h : a + b ≤ 100000000) : CMulX x y := by
  have h1 := PySem.intBits_le_iff.mpr hx
  have h2 := PySem.intBits_le_iff.mpr hy
  unfold CMulX
  omega
theorem laidA_ok (r d m : Nat) (b : Bs) (hb : b.many ≤ 2) (k : Kont) (h : k.nx [.sr r 300, .da (nI d), .da (eB b), .da (nI m), .da (nI b.many), .un, .un, .un, .un, .un, .un]) : laidA [.sr r 300, .da (nI d), .da (eB b), .da (nI m), .un, .un, .un, .un, .un, .un, .un] k := by
  cases b with
  | h n =>
    walk_at "D"
    refine ⟨_, rfl, ?_⟩
    walk_at "D"
    refine br_t ?_
    walk_at "D"
    refine ⟨_, rfl, ?_⟩
    walk_at "D"
    have hb : 2 * n ≤ 2 := hb
    refine ⟨cm_of (a := 2) (b := 2) (by decide) (by omega) (by decide), ?_⟩
    exact h
  | c n =>
    walk_at "D"
    refine ⟨_, rfl, ?_⟩
    walk_at "D"
    refine br_f ?_
    walk_at "D"
    refine ⟨_, rfl, ?_⟩
    exact h
abbrev laidB : SF := ifS (andF (boolF (opF eqP (nameF 3) (constF (.int 0)))) (boolF (opF eqSP (opF ixP (nameF 2) (constF (.int 0))) (constF (.str "handles"))))) (forF (itR3 (consF (constF (.int 0)) (consF (nameF 4) (consF (constF (.int 2)) nilF)))) (bdN 6) (seqF (setF 7 (unF rgTP (nameF 1)))
  (seqF (forF (itR1 (consF (callS 1 2 C_law_pick (aconsF false (nameF 0) (aconsF false (constF (.int 4)) anilF))) nilF)) (bdN 8) (setF 7 (callC 2 C_law_behind (aconsF false (nameF 7) (aconsF false (opF ixP (nameF 5) (nameF 6)) anilF)))))
  (putF 5 (nameF 7) (opF addP (nameF 6) (constF (.int 1))))))) skipF
/-- as it stands after the bases -/
def AtB (r d m : Nat) (b : Bs) (q : Nat) (ρ : Rho) : Prop := ∃ b' r' x6 x7 x8, ∃ bs : List (List Nat), ρ = [.sr b' r', .da (nI d), .da (eB b), .da (nI m), .da (nI b.many), .ow (bs.map eT), x6, x7, x8, .un, .un] ∧ (∀ q, sbump q x6 = x6) ∧ (∀ q, sbump q x7 = x7) ∧ b' + r' = r + 300 ∧ q ≤ r' ∧ bs.length = b.many ∧ ∀ p ∈ bs, Sh d p
theorem laidB_ok {r d m : Nat} {b : Bs} (hr : r ≤ 800000) (hd : d ≤ 4) (hb : b.many ≤ 2) (hm : m ≤ 3) (k : Kont) (h : ∀ ρ, AtB r d m b 200 ρ → k.nx ρ) {ρ : Rho} (hρ : AtB r d m b 210 ρ) : laidB ρ k := by
  obtain ⟨b', r', x6, x7, x8, bs, rfl, hx6, hx7, hbr, hq, hl, hs⟩ := hρ
  have out := h _ ⟨b', r', x6, x7, x8, bs, rfl, hx6, hx7, hbr, by omega, hl, hs⟩
  walk_at "D"
  refine ⟨⟨rfl, rfl⟩, ?_⟩
  walk_at "D"
  refine ⟨fun _ => ?_, fun _ => br_f out⟩
  cases b with
  | c n =>
    walk_at "D"
    refine ⟨_, rfl, ?_⟩
    walk_at "D"
    exact br_f out
  | h n =>
    walk_at "D"
    refine ⟨_, rfl, ?_⟩
    walk_at "D"
    refine br_t ?_
    have hb : 2 * n ≤ 2 := hb
    have hl : bs.length = 2 * n := hl
    walk_at "D"
    refine ⟨⟨.inl rfl, by omega, by omega, by show (-1000000 : Int) ≤ ((2 * n : Nat) : Int); omega, by show ((2 * n : Nat) : Int) ≤ 1000000; omega⟩, ?_⟩
    walk_at "D"
    rw [show rg3N 0 ((Bs.h n).many : Int) 2 = n from rg3_even n]
    refine ⟨rfl, ?_⟩
    refine forP_rng (enc := fun (m : Nat) => PyData.int (0 + (m : Int) * 2)) n (fun i ρ => AtB r d m (.h n) (210 - i) ρ) (fun ρ hρ => ?_) ?_ _ ⟨b', r', x6, x7, x8, bs, rfl, hx6, hx7, hbr, hq, hl, hs⟩
    · obtain ⟨b', r', x6, x7, x8, bs, rfl, hx6, hx7, hbr, hq, hl, hs⟩ := hρ
      exact h _ ⟨b', r', x6, x7, x8, bs, rfl, hx6, hx7, hbr, by omega, hl, hs⟩
    · clear out hbr hq hl hs hx6 hx7
      rintro i _ hi ⟨b', r', x6, x7, x8, bs, rfl, hx6, hx7, hbr, hq, hl, hs⟩ N hN
      have hl : bs.length = 2 * n := hl
      have hi1 : n ≤ 1 := by omega
      walk_at "D"
      refine ⟨⟨by omega, by omega⟩, ?_⟩
      walk_at "D"
      refine ⟨(by omega : 1 ≤ r'), ?_⟩
      walk_at "D"
      refine ⟨rfl, b', _, rfl, by omega, by omega, fun j h1 h2 => ?_⟩
      refine ⟨rfl, ?_⟩
      walk_at "D"
      refine ⟨⟨by omega, by omega⟩, ?_⟩
      walk_at "D"
      refine ⟨rfl, ?_⟩
      refine forP_rng (enc := fun (i : Nat) => PyData.int (i : Int)) j.toNat (fun _ ρ => ∃ p x8, ρ = [.sr (b' + 1) (r' - 1), .da (nI d), .da (eB (.h n)), .da (nI m), .da (nI (Bs.h n).many), .ow (bs.map eT), .da (.int (0 + (i : Int) * 2)), .da (eT p), x8, .un, .un] ∧ Sh d p) ?_ ?_ _ ⟨List.range d, _, rfl, Sh.range d⟩
      · rintro _ ⟨p, x8, rfl, hp⟩
        walk_at "D"
        refine ⟨2 * i + 1, ?_, ?_⟩
        · rw [List.length_map, hl]
          unfold ixN
          rw [if_pos (by omega), if_pos (by omega)]
          congr 1
          omega
        · refine hN _ ⟨b' + 1, r' - 1, .da (.int (0 + (i : Int) * 2)), .da (eT p), x8, bs.set (2 * i + 1) p, ?_, fun _ => rfl, fun _ => rfl, by omega, by omega, by rw [List.length_set]; exact hl, fun q hq => ?_⟩
          · rw [List.map_set]; rfl
          · rcases List.mem_or_eq_of_mem_set hq with hq | rfl
            · exact hs q hq
            · exact hp
      · rintro _ _ _ ⟨p, x8, rfl, hp⟩ M hM
        have k1 : 2 * i < bs.length := by omega
        have hb := hs _ (List.getElem_mem k1)
        walk_at "D"
        refine ⟨eT bs[2 * i], ?_, ?_⟩
        · rw [show (0 + (i : Int) * 2) = ((2 * i : Nat) : Int) by omega]
          exact at_map (List.getElem?_eq_getElem k1)
        walk_at "D"
        refine ⟨rfl, p, bs[2 * i], rfl, by rw [hp.1.1]; omega, fun i hi => by rw [hb.1.1]; exact hp.1.2 i hi, ?_⟩
        walk_at "D"
        exact hM _ ⟨_, _, rfl, beh_sh hp hb⟩
/-- tuple(mixed(range(d))), so many times -/
theorem mix_list {d : Nat} {ds : List PyData} {c : Nat} (hl : ds.length = c) (h : ∀ x ∈ ds, ∃ p : List Nat, x = eT p ∧ Sh d p) : ∃ ps : List (List Nat), ds = ps.map eT ∧ ps.length = c ∧ ∀ p ∈ ps, Sh d p := by
  subst hl
  induction ds with
  | nil => exact ⟨[], rfl, rfl, by simp⟩
  | cons x ds ih =>
    obtain ⟨ps, e, hl, hp⟩ := ih fun y hy => h y (by simp [hy])
    obtain ⟨p, rfl, hs⟩ := h x (by simp)
    exact ⟨p :: ps, by rw [e]; rfl, by simp [hl], fun q hq => by
      rcases List.mem_cons.mp hq with rfl | hq
      · exact hs
      · exact hp q hq⟩
theorem each_mem {α : Type} {R : α → PyData → Prop} {ys : List α} {ds : List PyData} (hl : ds.length = ys.length) (h : ∀ (i : Nat) y d, ys[i]? = some y → ds[i]? = some d → R y d) : ∀ x ∈ ds, ∃ y ∈ ys, R y x := fun x hx => by
  obtain ⟨i, hi, rfl⟩ := List.mem_iff_getElem.mp hx
  have hi2 : i < ys.length := by omega
  exact ⟨ys[i], List.getElem_mem hi2, h i _ _ (List.getElem?_eq_getElem hi2) (List.getElem?_eq_getElem hi)⟩
theorem m_law_laid (as : Rho) (Φ : PyData → Prop) (_ : as.length = 4) (c : C_law_laid as Φ) : F_law_laid (as ++ List.replicate (N_law_laid.length - 4) .un) { nx := fun _ => Φ .none, rt := Φ } := by
  obtain ⟨r, d, m, b, rfl, hr, hd, hb, hm, h⟩ := c
  refine laidA_ok r d m b hb _ ?_
  walk_at "D"
  refine ⟨rfl, ?_⟩
  walk_at "D"
  refine ⟨⟨by omega, by omega⟩, ?_⟩
  walk_at "D"
  rw [Int.toNat_natCast]
  refine ⟨small (by simp; omega), cmp_src (enc := fun (i : Nat) => PyData.int (i : Int)) (fun _ x => ∃ p : List Nat, x = eT p ∧ Sh d p) (c := .free) (fun _ => trivial) (List.range b.many) (fun i => [.sr (r + 32 * i) (300 - 32 * i), .da (nI d), .da (eB b), .da (nI m), .da (nI b.many), .un, .un, .un, .un, .un, .un]) [] ?_ ?_⟩
  · intro i y hi N hN
    have hi := (List.getElem?_eq_some_iff.mp hi).1
    rw [List.length_range] at hi
    walk_at "D"
    refine br_t ?_
    walk_at "D"
    refine ⟨⟨by omega, by omega⟩, ?_⟩
    walk_at "D"
    refine ⟨(by omega : 32 ≤ 300 - 32 * i), ?_⟩
    walk_at "D"
    refine ⟨rfl, _, _, .inl rfl, by omega, by rw [rgD_nI]; simp; omega, fun ys hy => ?_⟩
    walk_at "D"
    obtain ⟨p, rfl, hp⟩ := mixed_sh hy
    have := hN (eT p) ⟨p, rfl, hp⟩
    rw [show r + 32 * (i + 1) = r + 32 * i + 32 by omega, show 300 - 32 * (i + 1) = 300 - 32 * i - 32 by omega] at this
    exact this
  intro ds hl hs
  obtain ⟨bs, rfl, hbl, hbs⟩ := mix_list (hl.trans List.length_range) fun x hx => by
    obtain ⟨_, _, h⟩ := each_mem hl hs x hx
    exact h
  clear hs hl
  rw [List.length_range]
  walk_at "R"
  refine laidB_ok hr hd hb hm _ (fun ρ hρ => ?_) (ρ := [.sr (r + 32 * b.many) (300 - 32 * b.many), .da (nI d), .da (eB b), .da (nI m), .da (nI b.many), .ow (bs.map eT), .un, .un, .un, .un, .un]) ⟨_, _, _, _, _, bs, rfl, fun _ => rfl, fun _ => rfl, by omega, by omega, hbl, hbs⟩
  clear hbs hbl bs
  obtain ⟨b', r', x6, x7, x8, bs, rfl, hx6, hx7, hbr, hq, hbl, hbs⟩ := hρ
  walk_at "D"
  refine ⟨rfl, ?_⟩
  walk_at "D"
  refine ⟨⟨by omega, by omega⟩, ?_⟩
  walk_at "D"
  have em : ((m : Int) - 1).toNat = m - 1 := by omega
  refine ⟨small (by simp; omega), cmp_src (enc := fun (i : Nat) => PyData.int (i : Int)) (fun _ x => ∃ p : List Nat, x = eT p ∧ Sh d p) (c := .free) (fun _ => trivial) (List.range ((m : Int) - 1).toNat) (fun i => [.sr (b' + 32 * i) (r' - 32 * i), .da (nI d), .da (eB b), .da (nI m), .da (nI b.many), .ow (bs.map eT), x6, x7, .un, .un, .un]) [] ?_ ?_⟩
  · intro i y hi N hN
    have hi := (List.getElem?_eq_some_iff.mp hi).1
    rw [List.length_range] at hi
    walk_at "D"
    refine br_t ?_
    walk_at "D"
    refine ⟨⟨by omega, by omega⟩, ?_⟩
    walk_at "D"
    refine ⟨(by omega : 32 ≤ r' - 32 * i), ?_⟩
    walk_at "D"
    refine ⟨rfl, _, _, .inl rfl, by omega, by rw [rgD_nI]; simp; omega, fun ys hy => ?_⟩
    walk_at "D"
    obtain ⟨p, rfl, hp⟩ := mixed_sh hy
    have := hN (eT p) ⟨p, rfl, hp⟩
    rw [show b' + 32 * (i + 1) = b' + 32 * i + 32 by omega, show r' - 32 * (i + 1) = r' - 32 * i - 32 by omega] at this
    show N _ [.sr (b' + 32 * i + 32) (r' - 32 * i - 32), .da (nI d), .da (eB b), .da (nI m), .da (nI b.many), .ow (bs.map eT), sbump 32 x6, sbump 32 x7, .un, .un, .un]
    rw [hx6, hx7]
    exact this
  intro ds hl hs
  obtain ⟨ps, rfl, hpl, hps⟩ := mix_list (hl.trans List.length_range) fun x hx => by
    obtain ⟨_, _, h⟩ := each_mem hl hs x hx
    exact h
  clear hs hl
  rw [List.length_range]
  walk_at "R"
  walk_at "D"
  refine ⟨small (by simp), ?_⟩
  walk_at "D"
  refine ⟨small (by simp), ?_⟩
  walk_at "D"
  refine ⟨small (by simp), ?_⟩
  walk_at "D"
  have hl1 : LayS d (bs, ps) := ⟨by show bs.length ≤ 20; omega, by show ps.length ≤ 20; omega, hbs, hps⟩
  refine ⟨rfl, d, b, (bs, ps), rfl, by omega, hl1, hbl, fun w hw => ?_⟩
  walk_at "D"
  have fin : ∀ (qs : List (List Nat)) (a b2 : Nat) (x8 : Slot), qs.length ≤ 4 → (∀ p ∈ qs, Sh d p) → retF (tupF (consF (tupF (consF (nameF 1) (consF (nameF 2) (consF (unF toTupP (compF (itC (nameF 9)) (bdN 7) yesF (callC 1 C_law_type (aconsF false (nameF 7) anilF)) [7])) nilF)))) (consF (tupF (consF (unF toTupP (nameF 5)) (consF (unF toTupP (nameF 9)) nilF))) nilF))) [.sr a b2, .da (nI d), .da (eB b), .da (nI m), .da (nI b.many), .ow (bs.map eT), x6, .un, x8, .ow (qs.map eT), .da (eT w)] { nx := fun _ => Φ .none, rt := Φ } := fun qs a b2 x8 hql hqs => by
    walk_at "D"
    refine ⟨small (by rw [List.length_map]; omega), cmp_each (enc := eT) (fun _ _ => True) qs (fun p hp N hN => br_t ?_) (fun ds hdl _ => ?_)⟩
    · walk_at "D"
      refine ⟨rfl, d, p, rfl, by omega, (hqs p hp).1, fun ns => ?_⟩
      walk_at "D"
      exact hN _ trivial
    · walk_at "R"
      walk_at "D"
      refine ⟨small (by simp), ?_⟩
      walk_at "D"
      refine ⟨small (by simp), ?_⟩
      walk_at "D"
      refine ⟨small (by simp), ?_⟩
      exact h (bs, qs) ds ⟨by show bs.length ≤ 20; omega, by show qs.length ≤ 20; omega, hbs, hqs⟩ hbl hql hdl
  have app : ∀ (a b2 : Nat) (x8 : Slot), appF 9 (callC 1 C_law_back (aconsF false (nameF 10) anilF)) [.sr a b2, .da (nI d), .da (eB b), .da (nI m), .da (nI b.many), .ow (bs.map eT), x6, .un, x8, .ow (ps.map eT), .da (eT w)]
      { nx := fun ρ' => retF (tupF (consF (tupF (consF (nameF 1) (consF (nameF 2) (consF (unF toTupP (compF (itC (nameF 9)) (bdN 7) yesF (callC 1 C_law_type (aconsF false (nameF 7) anilF)) [7])) nilF)))) (consF (tupF (consF (unF toTupP (nameF 5)) (consF (unF toTupP (nameF 9)) nilF))) nilF))) ρ' { nx := fun _ => Φ .none, rt := Φ }, rt := Φ } := fun a b2 x8 => by
    walk_at "D"
    refine ⟨rfl, d, w, rfl, by omega, hw, ?_⟩
    walk_at "D"
    refine ⟨Nat.lt_of_le_of_lt (m := 200) (by rw [List.length_map]; omega) (by decide), ?_⟩
    have := fin (ps ++ [bk w]) a b2 x8 (by simp; omega) fun p hp => by
      rcases List.mem_append.mp hp with hp | hp
      · exact hps p hp
      · rw [List.mem_singleton] at hp
        subst hp
        exact bk_sh hw
    rw [List.map_append] at this
    exact this
  refine ⟨fun _ => br_t (app _ _ _), fun _ => ?_⟩
  walk_at "D"
  refine ⟨⟨by omega, by omega⟩, ?_⟩
  walk_at "D"
  refine ⟨ecT.eqC (by decide) w (List.range d), ?_⟩
  walk_at "D"
  exact ⟨fun _ => app _ _ _, fun _ => fin ps _ _ _ (by omega) hps⟩
end K60


set_option Elab.async false
set_option linter.all false
set_option maxRecDepth 100000
set_option maxHeartbeats 4000000
namespace K60
open PySem L2 Dat
local macro_rules | `(tactic| walk_at "D") => `(tactic| (conv => whnf))
local macro_rules | `(tactic| walk_at "R") => `(tactic| (simp only [List.nil_append, clr_clr]))
/-- a part: how many sheets, how laid, the types -/
abbrev Pt := Nat × Lay × List PyData
def eP (b : Bs) (t : Pt) : PyData := .tuple [.tuple [nI t.1, eB b, .tuple t.2.2], eL t.2.1]
def PtOk (b : Bs) (t : Pt) : Prop := LayS t.1 t.2.1 ∧ t.2.1.1.length = b.many ∧ t.2.2.length ≤ 4
theorem sum_mem {n : Nat} : ∀ {l : List Nat}, n ∈ l → n ≤ l.sum
  | a :: l, h => by
    rw [List.sum_cons]
    rcases List.mem_cons.mp h with rfl | h
    · omega
    · have := sum_mem h; omega
theorem parts_list {b : Bs} : ∀ {sizes : List Nat} {ds : List PyData}, ds.length = sizes.length → (∀ (i : Nat) (n : Nat) (d : PyData), sizes[i]? = some n → ds[i]? = some d → ∃ t, d = eP b t ∧ t.1 = n ∧ PtOk b t) → ∃ ts : List Pt, ds = ts.map (eP b) ∧ ts.map (·.1) = sizes ∧ ∀ t ∈ ts, PtOk b t
  | [], [], _, _ => ⟨[], rfl, rfl, by simp⟩
  | n :: sizes, d :: ds, hl, h => by
    obtain ⟨ts, e1, e2, h3⟩ := parts_list (ds := ds) (sizes := sizes) (by simpa using hl) fun i n d h1 h2 => h (i + 1) n d (by simpa using h1) (by simpa using h2)
    obtain ⟨t, rfl, rfl, ht⟩ := h 0 n d rfl rfl
    exact ⟨t :: ts, by rw [e1]; rfl, by rw [← e2]; rfl, fun x hx => by
      rcases List.mem_cons.mp hx with rfl | hx
      · exact ht
      · exact h3 x hx⟩
abbrev ptBd : GF := bdT (bsL 2 (bsC (bdT (bsL 3 (bsC (bdN 13) (bsC (bdN 14) (bsC (bdN 15) bsN))))) (bsC (bdT (bsL 2 (bsC (bdN 16) (bsC (bdN 17) bsN)))) bsN)))
abbrev ptSheets : SF := seqF (forF (itR1 (consF (nameF 13) nilF)) (bdN 19) (putF 11 (opF ixP (nameF 7) (opF addP (nameF 12) (opF ixP (nameF 18) (nameF 19)))) (opF ixP (nameF 7) (opF addP (nameF 12) (nameF 19))))) (setF 12 (opF addP (nameF 12) (nameF 13)))
abbrev ptBody : SF := seqF (setF 18 (ifF (boolF (opF eqP (nameF 9) (constF (.int 0)))) (opF ixP (nameF 16) (nameF 10)) (ifF (boolF (opF ltP (nameF 10) (unF lenP (nameF 17)))) (opF ixP (nameF 17) (nameF 10)) (unF rgTP (nameF 13))))) ptSheets
theorem sheets_ok {d n ahead : Nat} {names q p : List Nat} (hd : d ≤ 4) (hn : Mp d names) (hq : Mp n q) (hp : Mp d p) (hs : ahead + n ≤ d) {x0 x1 x2 x3 x4 x5 x8 x9 x10 x14 x15 x16 x17 x19 x20 x21 x22 : Slot} (k : Kont)
    (fin : ∀ (p : List Nat) (x19 : Slot), Mp d p → k.nx [x0, x1, x2, x3, x4, x5, .da (nI d), .da (.list (names.map nI)), x8, x9, x10, .ow (p.map nI), .da (nI (ahead + n)), .da (nI n), x14, x15, x16, x17, .da (eT q), x19, x20, x21, x22]) :
    ptSheets [x0, x1, x2, x3, x4, x5, .da (nI d), .da (.list (names.map nI)), x8, x9, x10, .ow (p.map nI), .da (nI ahead), .da (nI n), x14, x15, x16, x17, .da (eT q), x19, x20, x21, x22] k := by
  walk_at "D"
  refine ⟨rfl, ?_⟩
  walk_at "D"
  refine ⟨⟨by omega, by omega⟩, ?_⟩
  walk_at "D"
  rw [Int.toNat_natCast]
  refine ⟨rfl, ?_⟩
  refine forP_rng (enc := fun (i : Nat) => PyData.int (i : Int)) n (fun _ ρ => ∃ p x19, ρ = [x0, x1, x2, x3, x4, x5, .da (nI d), .da (.list (names.map nI)), x8, x9, x10, .ow (p.map nI), .da (nI ahead), .da (nI n), x14, x15, x16, x17, .da (eT q), x19, x20, x21, x22] ∧ Mp d p) ?_ ?_ _ ⟨p, x19, rfl, hp⟩
  · rintro _ ⟨p, x19, rfl, hp⟩
    walk_at "D"
    exact fin p x19 hp
  · rintro i _ hi ⟨p, x19, rfl, hp⟩ N hN
    have hqi : q.getD i 0 < n := hq.2 _ (getD_mem (by rw [hq.1]; exact hi))
    have h1 : ahead + q.getD i 0 < names.length := by rw [hn.1]; omega
    have h2 : ahead + i < names.length := by rw [hn.1]; omega
    walk_at "D"
    refine ⟨_, at_getD 0 (by rw [hq.1]; exact hi), ?_⟩
    walk_at "D"
    rw [← Int.natCast_add]
    refine ⟨_, at_getD 0 h1, ?_⟩
    walk_at "D"
    rw [← Int.natCast_add]
    refine ⟨_, at_getD 0 h2, ?_⟩
    walk_at "D"
    have h3 : names.getD (ahead + i) 0 < d := hn.2 _ (getD_mem h2)
    refine ⟨names.getD (ahead + i) 0, ?_, hN _ ⟨p.set (names.getD (ahead + i) 0) (names.getD (ahead + q.getD i 0) 0), .da (.int (i : Int)), ?_, by rw [List.length_set]; exact hp.1, fun j hj => ?_⟩⟩
    · rw [List.length_map, hp.1]
      unfold ixN
      rw [if_pos (by omega), if_pos (by omega)]; rfl
    · rw [List.map_set]; rfl
    · rcases List.mem_or_eq_of_mem_set hj with hj | rfl
      · exact hp.2 j hj
      · exact hn.2 _ (getD_mem h1)
theorem parts_loop {b : Bs} {d kk i : Nat} {names : List Nat} (hd : d ≤ 4) (hn : Mp d names) (hk : kk = 0 → i < b.many) {x0 x1 x2 x3 x4 x5 x8 : Slot} (k : Kont)
    (fin : ∀ (p : List Nat) (x12 x13 x14 x15 x16 x17 x18 x19 x20 x21 x22 : Slot), Mp d p → k.nx [x0, x1, x2, x3, x4, x5, .da (nI d), .da (.list (names.map nI)), x8, .da (nI kk), .da (nI i), .ow (p.map nI), x12, x13, x14, x15, x16, x17, x18, x19, x20, x21, x22])
    (ts : List Pt) (hok : ∀ t ∈ ts, PtOk b t) (p : List Nat) (hp : Mp d p) (hs : (ts.map (·.1)).sum = d) (x13 x14 x15 x16 x17 x18 x19 x20 x21 x22 : Slot) :
    forP ptBd ptBody (ts.map (eP b)) [x0, x1, x2, x3, x4, x5, .da (nI d), .da (.list (names.map nI)), x8, .da (nI kk), .da (nI i), .ow (p.map nI), .da (nI 0), x13, x14, x15, x16, x17, x18, x19, x20, x21, x22] k := by
  refine forP_ind (enc := eP b) (fun r ρ => (∀ t ∈ r, PtOk b t) ∧ ∃ (p : List Nat) (ahead : Nat) (x13 x14 x15 x16 x17 x18 x19 x20 x21 x22 : Slot), ρ = [x0, x1, x2, x3, x4, x5, .da (nI d), .da (.list (names.map nI)), x8, .da (nI kk), .da (nI i), .ow (p.map nI), .da (nI ahead), x13, x14, x15, x16, x17, x18, x19, x20, x21, x22] ∧ Mp d p ∧ ahead + (r.map (·.1)).sum = d) ?_ ?_ ts _ ⟨hok, p, 0, x13, x14, x15, x16, x17, x18, x19, x20, x21, x22, rfl, hp, by rw [hs]; omega⟩
  · rintro _ ⟨_, p, ahead, x13, x14, x15, x16, x17, x18, x19, x20, x21, x22, rfl, hp, _⟩
    exact fin p _ _ _ _ _ _ _ _ _ _ _ hp
  · rintro ⟨n, ⟨l1, l2⟩, tt⟩ r _ ⟨hr, p, ahead, x13, x14, x15, x16, x17, x18, x19, x20, x21, x22, rfl, hp, ha⟩ N hN
    obtain ⟨⟨_, _, q1, q2⟩, hl, _⟩ := hr _ (List.mem_cons_self ..)
    rw [List.map_cons, List.sum_cons] at ha
    have ha : ahead + (n + (r.map (·.1)).sum) = d := ha
    have hl : l1.length = b.many := hl
    have sh : ∀ q : List Nat, Mp n q → ptSheets [x0, x1, x2, x3, x4, x5, .da (nI d), .da (.list (names.map nI)), x8, .da (nI kk), .da (nI i), .ow (p.map nI), .da (nI ahead), .da (nI n), .da (eB b), .da (.tuple tt), .da (eTs l1), .da (eTs l2), .da (eT q), x19, x20, x21, x22] { nx := N, ct := N, bk := k.nx, rt := k.rt } := fun q hq =>
      sheets_ok hd hn hq hp (by omega) _ fun p x19 hp => hN _ ⟨fun t ht => hr t (by simp [ht]), p, ahead + n, _, _, _, _, _, _, _, _, _, _, rfl, hp, by omega⟩
    walk_at "D"
    refine ⟨rfl, ?_⟩
    walk_at "D"
    refine ⟨rfl, ?_⟩
    walk_at "D"
    refine ⟨rfl, ?_⟩
    walk_at "D"
    refine ⟨ecN.eqC (by decide) kk 0, ?_⟩
    walk_at "D"
    have e0 : PyData.eqv (nI kk) (.int 0) = decide (kk = 0) := ecN.eqv kk 0
    rw [e0]
    refine br_d (fun hk0 => ?_) (fun hk0 => ?_)
    · have hi : i < l1.length := by rw [hl]; exact hk hk0
      walk_at "D"
      refine ⟨eT l1[i], at_map (List.getElem?_eq_getElem hi), ?_⟩
      exact sh _ (q1 _ (List.getElem_mem hi)).1
    · walk_at "D"
      rw [List.length_map]
      refine br_d (fun hi => ?_) (fun hi => ?_)
      · have hi : (i : Int) < (l2.length : Int) := hi
        have hi : i < l2.length := by omega
        walk_at "D"
        refine ⟨eT l2[i], at_map (List.getElem?_eq_getElem hi), ?_⟩
        exact sh _ (q2 _ (List.getElem_mem hi)).1
      · walk_at "D"
        refine ⟨⟨by omega, by omega⟩, ?_⟩
        exact sh _ (Mp.range n)
theorem sum_cast : ∀ l : List Nat, (l.map fun (n : Nat) => (n : Int)).sum = ((l.sum : Nat) : Int)
  | [] => rfl
  | a :: l => by rw [List.map_cons, List.sum_cons, List.sum_cons, sum_cast l]; omega
theorem fold_max : ∀ (l : List Int) (n : Int), (∀ x ∈ n :: l, 0 ≤ x ∧ x ≤ 4) → 0 ≤ l.foldl max n ∧ l.foldl max n ≤ 4
  | [], n, h => h n (by simp)
  | a :: l, n, h => by
    rw [List.foldl_cons]
    refine fold_max l _ fun x hx => ?_
    have h1 := h n (by simp)
    have h2 := h a (by simp)
    rcases List.mem_cons.mp hx with rfl | hx
    · omega
    · exact h x (by simp [hx])
abbrev partedB : SF := ifS (andF (boolF (opF gtP (unF lenP (nameF 3)) (constF (.int 1)))) (andF (boolF (opF eqP (opF ixP (nameF 3) (constF (.int 0))) (opF ixP (nameF 3) (constF (.int 1))))) (boolF (opF eqP (callS 1 2 C_law_pick (aconsF false (nameF 0) (aconsF false (constF (.int 2)) anilF))) (constF (.int 0)))))) (putF 4 (opF ixP (nameF 4) (constF (.int 0))) (constF (.int 1))) skipF
theorem partedB_ok {a c m : Nat} {b : Bs} {sizes : List Nat} (ts : List Pt) (hts : ts.map (·.1) = sizes) (hok : ∀ t ∈ ts, PtOk b t) (ha : a + c ≤ 1000000) (hc : 100 ≤ c) (k : Kont)
    (h : ∀ (a2 c2 : Nat) (ts : List Pt), a2 + c2 = a + c → 50 ≤ c2 → ts.map (·.1) = sizes → (∀ t ∈ ts, PtOk b t) → k.nx [.sr a2 c2, .da (eB b), .da (nI m), .da (.list (sizes.map nI)), .ow (ts.map (eP b)), .un, .un, .un, .un, .un, .un, .un, .un, .un, .un, .un, .un, .un, .un, .un, .un, .un, .un]) :
    partedB [.sr a c, .da (eB b), .da (nI m), .da (.list (sizes.map nI)), .ow (ts.map (eP b)), .un, .un, .un, .un, .un, .un, .un, .un, .un, .un, .un, .un, .un, .un, .un, .un, .un, .un] k := by
  have out := h a c ts rfl (by omega) hts hok
  walk_at "D"
  refine ⟨fun hlt => ?_, fun _ => br_f out⟩
  have hlt : (1 : Int) < ((sizes.map nI).length : Int) := of_decide_eq_true hlt
  rw [List.length_map] at hlt
  have h1 : 1 < sizes.length := by omega
  have h0 : 0 < sizes.length := by omega
  walk_at "D"
  refine ⟨_, at_map (i := 0) (List.getElem?_eq_getElem h0), ?_⟩
  walk_at "D"
  refine ⟨_, at_map (i := 1) (List.getElem?_eq_getElem h1), ?_⟩
  walk_at "D"
  refine ⟨ecN.eqC (by decide) _ _, ?_⟩
  walk_at "D"
  have e := ecN.eqv sizes[0] sizes[1]
  rw [e]
  refine br_d (fun hs => ?_) (fun _ => br_f out)
  walk_at "D"
  refine ⟨(by omega : 1 ≤ c), ?_⟩
  walk_at "D"
  refine ⟨rfl, a, _, rfl, by omega, by omega, fun j j1 j2 => ?_⟩
  walk_at "D"
  refine ⟨⟨rfl, rfl⟩, ?_⟩
  walk_at "D"
  refine ⟨fun _ => ?_, fun _ => h (a + 1) (c - 1) ts (by omega) (by omega) hts hok⟩
  have tl : ts.length = sizes.length := by rw [← hts, List.length_map]
  have t0 : 0 < ts.length := by omega
  have t1 : 1 < ts.length := by omega
  walk_at "D"
  refine ⟨_, at_map (i := 0) (List.getElem?_eq_getElem t0), ?_⟩
  walk_at "D"
  refine ⟨1, ?_, ?_⟩
  · rw [List.length_map]
    unfold ixN
    rw [if_pos (by omega), if_pos (by omega)]; rfl
  · have := h (a + 1) (c - 1) (ts.set 1 ts[0]) (by omega) (by omega) ?_ ?_
    · rw [List.map_set] at this
      exact this
    · rw [List.map_set, hts]
      have e1 : ts[0].1 = sizes[0] := by
        have : (ts.map (·.1))[0]? = sizes[0]? := by rw [hts]
        rw [List.getElem?_map, List.getElem?_eq_getElem t0, List.getElem?_eq_getElem h0] at this
        simpa using this
      rw [e1, hs, List.set_getElem_self]
    · intro t ht
      rcases List.mem_or_eq_of_mem_set ht with ht | rfl
      · exact hok t ht
      · exact hok _ (List.getElem_mem t0)
abbrev rowBody : SF := seqF (parF true false 11 12 (opF mulNP (lstF (consF (constF (.int 0)) nilF)) (nameF 6)) (constF (.int 0)))
  (seqF (forF (itS (nameF 4)) ptBd ptBody)
  (appAtF 8 (nameF 9) (unF toTupP (nameF 11))))
abbrev partedF : SF := forF (itR1 (consF (constF (.int 2)) nilF)) (bdN 9) (forF (itR1 (consF (ifF (boolF (opF eqP (nameF 9) (constF (.int 0)))) (unF lenP (opF ixP (opF ixP (opF ixP (nameF 4) (constF (.int 0))) (constF (.int 1))) (constF (.int 0)))) (nameF 5)) nilF)) (bdN 10) rowBody)
theorem rep_nI (n : Nat) : (List.replicate n [PyData.int 0]).flatten = (List.replicate n 0).map nI := by
  induction n with
  | zero => rfl
  | succ n ih => rw [List.replicate_succ, List.flatten_cons, ih, List.replicate_succ]; rfl
theorem Mp.rep {d : Nat} (h : 0 < d ∨ d = 0) : Mp d (List.replicate d 0) := ⟨List.length_replicate, fun i hi => by
  have := List.mem_replicate.mp hi
  omega⟩
theorem row_loop {b : Bs} {d kk n : Nat} {names : List Nat} (hd : d ≤ 4) (hn : Mp d names) (hk : kk < 2) (hm : kk = 0 → n ≤ b.many) (hn4 : n ≤ 4) (ts : List Pt) (hok : ∀ t ∈ ts, PtOk b t) (hs : (ts.map (·.1)).sum = d)
    {x0 x1 x2 x3 x5 : Slot} (yss : List (List PyData)) (hy : yss.set kk [] = yss) (hyl : yss.length = 2) (k : Kont)
    (fin : ∀ (Rs : List (List Nat)) (x4 x10 x11 x12 x13 x14 x15 x16 x17 x18 x19 x20 x21 x22 : Slot), Rs.length ≤ 4 → (∀ p ∈ Rs, Mp d p) → (x4 = .ow (ts.map (eP b)) ∨ x4 = .da (.list (ts.map (eP b)))) →
      k.nx [x0, x1, x2, x3, x4, x5, .da (nI d), .da (.list (names.map nI)), .ob (.lsts (yss.set kk (Rs.map eT))), .da (nI kk), x10, x11, x12, x13, x14, x15, x16, x17, x18, x19, x20, x21, x22])
    (x4 x10 x11 x12 x13 x14 x15 x16 x17 x18 x19 x20 x21 x22 : Slot) (hx4 : x4 = .ow (ts.map (eP b)) ∨ x4 = .da (.list (ts.map (eP b)))) :
    forP (bdN 10) rowBody ((List.range n).map fun (i : Nat) => PyData.int (i : Int)) [x0, x1, x2, x3, x4, x5, .da (nI d), .da (.list (names.map nI)), .ob (.lsts yss), .da (nI kk), x10, x11, x12, x13, x14, x15, x16, x17, x18, x19, x20, x21, x22] k := by
  refine forP_rng (enc := fun (i : Nat) => PyData.int (i : Int)) n (fun i ρ => ∃ (Rs : List (List Nat)) (x4 x10 x11 x12 x13 x14 x15 x16 x17 x18 x19 x20 x21 x22 : Slot), ρ = [x0, x1, x2, x3, x4, x5, .da (nI d), .da (.list (names.map nI)), .ob (.lsts (yss.set kk (Rs.map eT))), .da (nI kk), x10, x11, x12, x13, x14, x15, x16, x17, x18, x19, x20, x21, x22] ∧ Rs.length = i ∧ (∀ p ∈ Rs, Mp d p) ∧ (x4 = .ow (ts.map (eP b)) ∨ x4 = .da (.list (ts.map (eP b))))) ?_ ?_ _ ⟨[], x4, x10, x11, x12, x13, x14, x15, x16, x17, x18, x19, x20, x21, x22, by rw [List.map_nil, hy], rfl, by simp, hx4⟩
  · rintro _ ⟨Rs, x4, x10, x11, x12, x13, x14, x15, x16, x17, x18, x19, x20, x21, x22, rfl, hl, hp, hx⟩
    exact fin Rs _ _ _ _ _ _ _ _ _ _ _ _ _ _ (by omega) hp hx
  · rintro i _ hi ⟨Rs, x4, x10, x11, x12, x13, x14, x15, x16, x17, x18, x19, x20, x21, x22, rfl, hl, hp, hx⟩ N hN
    have app : ∀ (p : List Nat) (x12 x13 x14 x15 x16 x17 x18 x19 x20 x21 x22 : Slot), Mp d p → appAtF 8 (nameF 9) (unF toTupP (nameF 11)) [x0, x1, x2, x3, .da (.list (ts.map (eP b))), x5, .da (nI d), .da (.list (names.map nI)), .ob (.lsts (yss.set kk (Rs.map eT))), .da (nI kk), .da (nI i), .ow (p.map nI), x12, x13, x14, x15, x16, x17, x18, x19, x20, x21, x22] { nx := N, ct := N, bk := k.nx, rt := k.rt } := fun p x12 x13 x14 x15 x16 x17 x18 x19 x20 x21 x22 hp2 => by
      walk_at "D"
      refine ⟨kk, ?_, ?_⟩
      · rw [List.length_set, hyl]
        unfold ixN
        rw [if_pos (by omega), if_pos (by omega)]; rfl
      · walk_at "D"
        refine ⟨Rs.map eT, ?_, Nat.lt_of_le_of_lt (m := 200) (by rw [List.length_map]; omega) (by decide), ?_⟩
        · rw [List.getElem?_set_self (by omega)]
        · refine hN _ ⟨Rs ++ [p], .da (.list (ts.map (eP b))), .da (nI i), .ow (p.map nI), x12, x13, x14, x15, x16, x17, x18, x19, x20, x21, x22, ?_, by simp [hl], fun q hq => ?_, .inr rfl⟩
          · have e : (yss.set kk (Rs.map eT)).set kk (Rs.map eT ++ [eT p]) = yss.set kk ((Rs ++ [p]).map eT) := by
              rw [List.set_set, List.map_append]; rfl
            rw [← e]; rfl
          · rcases List.mem_append.mp hq with hq | hq
            · exact hp q hq
            · rw [List.mem_singleton] at hq; subst hq; exact hp2
    have mul : -(2 ^ 63) ≤ (d : Int) ∧ (d : Int) < 2 ^ 63 ∧ [PyData.int 0].length * (d : Int).toNat ≤ sizeLine := ⟨by omega, by omega, small (by simp; omega)⟩
    have rep : Mp d (List.replicate d 0) := Mp.rep (by omega)
    rcases hx with rfl | rfl
    · walk_at "D"
      refine ⟨small (by simp), ?_⟩
      walk_at "D"
      refine ⟨mul, ?_⟩
      walk_at "D"
      rw [Int.toNat_natCast, rep_nI]
      refine ⟨rfl, ?_⟩
      exact parts_loop hd hn (fun z => by have := hm z; omega) _ (fun p x12 x13 x14 x15 x16 x17 x18 x19 x20 x21 x22 hp => app p x12 x13 x14 x15 x16 x17 x18 x19 x20 x21 x22 hp) ts hok _ rep hs _ _ _ _ _ _ _ _ _ _
    · walk_at "D"
      refine ⟨small (by simp), ?_⟩
      walk_at "D"
      refine ⟨mul, ?_⟩
      walk_at "D"
      rw [Int.toNat_natCast, rep_nI]
      refine ⟨rfl, ?_⟩
      exact parts_loop hd hn (fun z => by have := hm z; omega) _ (fun p x12 x13 x14 x15 x16 x17 x18 x19 x20 x21 x22 hp => app p x12 x13 x14 x15 x16 x17 x18 x19 x20 x21 x22 hp) ts hok _ rep hs _ _ _ _ _ _ _ _ _ _
theorem partedF_ok {b : Bs} {d count : Nat} {names : List Nat} (hd : d ≤ 4) (hn : Mp d names) (hb : b.many ≤ 2) (hc : count ≤ 4) (ts : List Pt) (h0 : ts ≠ []) (hok : ∀ t ∈ ts, PtOk b t) (hs : (ts.map (·.1)).sum = d)
    {x0 x1 x2 x3 : Slot} (k : Kont)
    (fin : ∀ (R0 R1 : List (List Nat)) (x4 x9 x10 x11 x12 x13 x14 x15 x16 x17 x18 x19 x20 x21 x22 : Slot), R0.length ≤ 4 → R1.length ≤ 4 → (∀ p ∈ R0, Mp d p) → (∀ p ∈ R1, Mp d p) →
      k.nx [x0, x1, x2, x3, x4, .da (nI count), .da (nI d), .da (.list (names.map nI)), .ob (.lsts [R0.map eT, R1.map eT]), x9, x10, x11, x12, x13, x14, x15, x16, x17, x18, x19, x20, x21, x22])
    (x9 x10 x11 x12 x13 x14 x15 x16 x17 x18 x19 x20 x21 x22 : Slot) :
    partedF [x0, x1, x2, x3, .ow (ts.map (eP b)), .da (nI count), .da (nI d), .da (.list (names.map nI)), .ob (.lsts [[], []]), x9, x10, x11, x12, x13, x14, x15, x16, x17, x18, x19, x20, x21, x22] k := by
  obtain ⟨t, r, rfl⟩ := List.exists_cons_of_ne_nil h0
  obtain ⟨⟨q1, _, _, _⟩, hl, _⟩ := hok t (by simp)
  walk_at "D"
  refine ⟨rfl, ?_⟩
  walk_at "D"
  refine ⟨⟨by decide, by decide⟩, ?_⟩
  walk_at "D"
  refine ⟨rfl, ?_⟩
  walk_at "D"
  refine ⟨⟨rfl, rfl⟩, ?_⟩
  walk_at "D"
  refine br_t ?_
  walk_at "D"
  refine ⟨_, at_map (i := 0) (xs := t :: r) rfl, ?_⟩
  walk_at "D"
  refine ⟨_, rfl, ?_⟩
  walk_at "D"
  refine ⟨_, rfl, ?_⟩
  walk_at "D"
  rw [List.length_map, hl]
  refine ⟨rfl, ?_⟩
  walk_at "D"
  refine ⟨⟨by omega, by omega⟩, ?_⟩
  walk_at "D"
  rw [Int.toNat_natCast]
  refine ⟨rfl, ?_⟩
  refine row_loop (kk := 0) hd hn (by decide) (fun _ => Nat.le_refl _) (by omega) (t :: r) hok hs [[], []] rfl rfl _ (fun R0 x4 x10 x11 x12 x13 x14 x15 x16 x17 x18 x19 x20 x21 x22 l0 p0 hx4 => ?_) _ _ _ _ _ _ _ _ _ _ _ _ _ _ (.inl rfl)
  walk_at "D"
  refine ⟨⟨rfl, rfl⟩, ?_⟩
  walk_at "D"
  refine br_f ?_
  walk_at "D"
  refine ⟨rfl, ?_⟩
  walk_at "D"
  refine ⟨⟨by omega, by omega⟩, ?_⟩
  walk_at "D"
  rw [Int.toNat_natCast]
  refine ⟨rfl, ?_⟩
  refine row_loop (kk := 1) hd hn (by decide) (fun z => absurd z (by decide)) hc (t :: r) hok hs [R0.map eT, []] rfl rfl _ (fun R1 x4 x10 x11 x12 x13 x14 x15 x16 x17 x18 x19 x20 x21 x22 l1 p1 hx4 => ?_) _ _ _ _ _ _ _ _ _ _ _ _ _ _ hx4
  walk_at "D"
  exact fin R0 R1 _ _ _ _ _ _ _ _ _ _ _ _ _ _ _ l0 l1 p0 p1
theorem m_law_parted (as : Rho) (Φ : PyData → Prop) (_ : as.length = 4) (c : C_law_parted as Φ) : F_law_parted (as ++ List.replicate (N_law_parted.length - 4) .un) { nx := fun _ => Φ .none, rt := Φ } := by
  obtain ⟨r, m, b, sizes, rfl, hr, hb, hm, h0, hz, hsum, h⟩ := c
  walk_at "D"
  refine ⟨small (by rw [List.length_map]; omega), cmp_src (enc := nI) (fun n x => ∃ t, x = eP b t ∧ t.1 = n ∧ PtOk b t) (c := .free) (fun _ => trivial) sizes (fun i => [.sr (r + 300 * i) (1000 - 300 * i), .da (eB b), .da (nI m), .da (.list (sizes.map nI)), .un, .un, .un, .un, .un, .un, .un, .un, .un, .un, .un, .un, .un, .un, .un, .un, .un, .un, .un]) [] ?_ ?_⟩
  · intro i y hi N hN
    obtain ⟨hi, e⟩ := List.getElem?_eq_some_iff.mp hi
    have hy : y ≤ sizes.sum := sum_mem (e ▸ List.getElem_mem hi)
    walk_at "D"
    refine br_t ?_
    walk_at "D"
    refine ⟨(by omega : 300 ≤ 1000 - 300 * i), ?_⟩
    walk_at "D"
    refine ⟨rfl, _, y, m, b, rfl, by omega, by omega, hb, hm, fun l ts h1 h2 h3 h4 => ?_⟩
    walk_at "D"
    have := hN (eP b (y, l, ts)) ⟨(y, l, ts), rfl, rfl, h1, h2, by show ts.length ≤ 4; omega⟩
    rw [show r + 300 * (i + 1) = r + 300 * i + 300 by omega, show 1000 - 300 * (i + 1) = 1000 - 300 * i - 300 by omega] at this
    exact this
  intro ds hl hs
  obtain ⟨ts, rfl, hts, hok⟩ := parts_list hl hs
  clear hs hl
  walk_at "R"
  refine partedB_ok ts hts hok (a := r + 300 * sizes.length) (c := 1000 - 300 * sizes.length) (m := m) (sizes := sizes) (by omega) (by omega) _ (fun a c ts hac hc hts hok => ?_)
  have tl : ts.length = sizes.length := by rw [← hts, List.length_map]
  walk_at "D"
  refine ⟨small (by rw [List.length_map]; omega), cmp_map (enc := eP b) (fun t => nI t.2.2.length) ts (fun t ht N hN => ?_) ?_⟩
  · walk_at "D"
    refine ⟨rfl, ?_⟩
    walk_at "D"
    refine br_t ?_
    walk_at "D"
    refine ⟨_, rfl, ?_⟩
    exact hN
  walk_at "R"
  walk_at "D"
  refine ⟨(ts.map fun t => t.2.2.length).map fun (n : Nat) => (n : Int), by rw [List.map_map, List.map_map]; rfl, ?_⟩
  have hmx : ∀ x ∈ ((ts.map fun t => t.2.2.length).map fun (n : Nat) => (n : Int)), 0 ≤ x ∧ x ≤ 4 := fun x hx => by
    obtain ⟨n, hn, rfl⟩ := List.mem_map.mp hx
    obtain ⟨t, ht, rfl⟩ := List.mem_map.mp hn
    have := (hok t ht).2.2
    omega
  have hne : ((ts.map fun t => t.2.2.length).map fun (n : Nat) => (n : Int)) ≠ [] := by
    intro z
    rw [List.map_eq_nil_iff, List.map_eq_nil_iff] at z
    subst z
    exact h0 (by rw [← hts]; rfl)
  obtain ⟨n0, l0, e0⟩ := List.exists_cons_of_ne_nil hne
  rw [e0] at hmx ⊢
  obtain ⟨c1, c2⟩ := fold_max l0 n0 hmx
  walk_at "D"
  obtain ⟨count, ec⟩ := Int.eq_ofNat_of_zero_le c1
  rw [ec] at c2 ⊢
  clear ec c1 hmx hne e0 l0 n0
  walk_at "D"
  refine ⟨sizes.map fun (n : Nat) => (n : Int), map_nI _, ?_⟩
  walk_at "D"
  refine ⟨sizes.map fun (n : Nat) => (n : Int), map_nI _, ?_⟩
  walk_at "D"
  rw [sum_cast]
  have hd : sizes.sum ≤ 4 := hsum
  have hsum2 : (ts.map (·.1)).sum = sizes.sum := by rw [hts]
  have hne : ts ≠ [] := fun z => h0 (by rw [← hts, z]; rfl)
  generalize sizes.sum = d at *
  refine ⟨⟨by omega, by omega⟩, ?_⟩
  walk_at "D"
  refine ⟨(by omega : 32 ≤ c), ?_⟩
  walk_at "D"
  refine ⟨rfl, _, _, .inl rfl, by omega, by rw [rgD_nI]; simp; omega, fun ys hy => ?_⟩
  obtain ⟨names, rfl, hnm⟩ := mixed_sh hy
  clear hy
  refine partedF_ok hd hnm.1 hb (by omega) ts hne hok hsum2 _ (fun R0 R1 x4 x9 x10 x11 x12 x13 x14 x15 x16 x17 x18 x19 x20 x21 x22 l0 l1 p0 p1 => ?_) .un .un .un .un .un .un .un .un .un .un .un .un .un .un
  walk_at "D"
  refine ⟨_, rfl, ?_⟩
  walk_at "D"
  refine ⟨small (by rw [List.length_map]; omega), cmp_each (enc := eT) (fun _ _ => True) R1 (fun p hp N hN => br_t ?_) (fun ds hdl _ => ?_)⟩
  · walk_at "D"
    refine ⟨rfl, d, p, rfl, by omega, p1 p hp, fun ns => ?_⟩
    walk_at "D"
    exact hN _ trivial
  · walk_at "R"
    walk_at "D"
    refine ⟨small (by simp), ?_⟩
    walk_at "D"
    refine ⟨_, rfl, ?_⟩
    walk_at "D"
    refine ⟨_, rfl, ?_⟩
    walk_at "D"
    refine ⟨small (by simp), ?_⟩
    walk_at "D"
    refine ⟨small (by simp), ?_⟩
    exact h (R0, R1) (.tuple ds) ⟨by show R0.length ≤ 20; omega, by show R1.length ≤ 20; omega, p0, p1⟩
abbrev szs : List (List Nat) := [[1], [2], [3], [4], [1, 1], [2, 2], [1, 1, 1], [1, 2], [3], [4], [2, 2], [1, 3]]
abbrev bss : List Bs := [.h 0, .h 0, .h 1, .c 1, .c 2]
theorem szs_ok : ∀ s ∈ szs, s ≠ [] ∧ s.length ≤ 3 ∧ s.sum ≤ 4 ∧ 1 ≤ s.sum := by decide
theorem bss_ok : ∀ b ∈ bss, b.many ≤ 2 := by
  intro b hb
  simp only [bss, List.mem_cons, List.not_mem_nil, or_false] at hb
  rcases hb with rfl | rfl | rfl | rfl | rfl <;> decide
theorem m_law_some (as : Rho) (Φ : PyData → Prop) (_ : as.length = 1) (c : C_law_some as Φ) : F_law_some (as ++ List.replicate (N_law_some.length - 1) .un) { nx := fun _ => Φ .none, rt := Φ } := by
  obtain ⟨r, rfl, hr, h⟩ := c
  walk_at "D"
  iterate 13 (refine ⟨small (by simp), ?_⟩; walk_at "D")
  refine ⟨(by omega : 1 ≤ 1010), ?_⟩
  walk_at "D"
  refine ⟨rfl, r, szs.map fun s => PyData.list (s.map nI), rfl, by omega, by simp, by simp, fun x hx => ?_⟩
  obtain ⟨s, hs, rfl⟩ := List.mem_map.mp hx
  obtain ⟨s0, s1, s2, s3⟩ := szs_ok s hs
  clear hs hx
  walk_at "D"
  iterate 6 (refine ⟨small (by simp), ?_⟩; walk_at "D")
  refine ⟨(by omega : 1 ≤ 1009), ?_⟩
  walk_at "D"
  refine ⟨rfl, r + 1, bss.map eB, rfl, by omega, by simp, by simp, fun x hx => ?_⟩
  obtain ⟨b, hb, rfl⟩ := List.mem_map.mp hx
  have hb := bss_ok b hb
  clear hx
  walk_at "D"
  refine ⟨(by omega : 1 ≤ 1008), ?_⟩
  walk_at "D"
  refine ⟨rfl, r + 1 + 1, _, rfl, by omega, by omega, fun j j1 j2 => ?_⟩
  walk_at "D"
  refine ⟨(by omega : 1000 ≤ 1007), ?_⟩
  walk_at "D"
  obtain ⟨m, rfl⟩ := Int.eq_ofNat_of_zero_le j1
  refine ⟨rfl, r + 1 + 1 + 1, m, b, s, rfl, by omega, hb, by omega, s0, s1, s2, fun l ts hl => ?_⟩
  exact h s.sum l (eB b) ts s3 s2 hl
end K60


set_option Elab.async false
set_option linter.all false
set_option maxRecDepth 100000
set_option maxHeartbeats 4000000
namespace K60
open PySem L2 Dat
local macro_rules | `(tactic| walk_at "D") => `(tactic| (conv => whnf))
local macro_rules | `(tactic| walk_at "R") => `(tactic| (simp only [List.nil_append, clr_clr]))
/-- sorted(ints): the numbers, going up -/
theorem srt_up (ns : List Int) : ∃ ms : List Int, srtD false (ns.map PyData.int) = ms.map .int ∧ ms.Perm ns ∧ ms.Pairwise (· ≤ ·) := by
  obtain ⟨ms, e, hp⟩ := srt_ints false ns
  refine ⟨ms, e, hp, ?_⟩
  have t := PySem.W.sortLe_total (PyProof.Rows.listOrd PyProof.Rows.itemOrd) false (fun b : PyData => PySem.W.keyToks (id b))
  have := List.pairwise_mergeSort t.trans (fun a b => by rw [Bool.or_eq_true]; exact t.total a b) (ns.map PyData.int)
  have e2 : (ns.map PyData.int).mergeSort (PySem.W.sortLe (PyProof.Rows.listOrd PyProof.Rows.itemOrd) false fun b : PyData => PySem.W.keyToks (id b)) = ms.map .int := e
  rw [e2, List.pairwise_map] at this
  refine this.imp fun {a b} h => ?_
  have h : PySem.W.dataLe false id (.int a) (.int b) = true := h
  rw [PySem.W.dataLe_eq] at h
  have h : (!PySem.W.dataLt (.int b) (.int a)) = true := h
  rw [PySem.W.dataLt_int] at h
  simpa using h
theorem up_one : ∀ {a b : List Int}, a.Perm b → a.Pairwise (· ≤ ·) → b.Pairwise (· ≤ ·) → a = b
  | [], b, h, _, _ => by rw [List.nil_perm.mp h]
  | x :: a, [], h, _, _ => absurd h.length_eq (by simp)
  | x :: a, y :: b, h, ha, hb => by
    rw [List.pairwise_cons] at ha hb
    have h1 : x ≤ y := by
      have : y ∈ x :: a := h.mem_iff.mpr (by simp)
      rcases List.mem_cons.mp this with z | z
      · omega
      · exact ha.1 y z
    have h2 : y ≤ x := by
      have : x ∈ y :: b := h.mem_iff.mp (by simp)
      rcases List.mem_cons.mp this with z | z
      · omega
      · exact hb.1 x z
    have e : x = y := by omega
    subst e
    rw [up_one ((List.perm_cons x).mp h) ha.2 hb.2]
theorem range_up (d : Nat) : ((List.range d).map fun (n : Nat) => (n : Int)).Pairwise (· ≤ ·) := by
  rw [List.pairwise_map]
  exact List.pairwise_lt_range.imp fun h => by omega
theorem ints_of : ∀ {ds : List PyData}, (ds.all fun x => x.isInt && !x.isBool) = true → ∃ ns : List Int, ds = ns.map .int
  | [], _ => ⟨[], rfl⟩
  | x :: ds, h => by
    rw [List.all_cons, Bool.and_eq_true] at h
    obtain ⟨ns, rfl⟩ := ints_of h.2
    have h1 := h.1
    cases x with
    | int i => exact ⟨i :: ns, rfl⟩
    | _ => cases h1
theorem no_ints {d : Nat} {ds : List PyData} (h : (ds.all fun x => x.isInt && !x.isBool) = false) : isSh d (.tuple ds) = false := by
  rw [isSh_spec]
  cases h2 : ds.all (isSheet d) with
  | false => simp
  | true =>
    rw [List.all_eq_true] at h2
    have : (ds.all fun x => x.isInt && !x.isBool) = true := by
      rw [List.all_eq_true]
      intro x hx
      have := h2 x hx
      cases x with
      | int i => rfl
      | _ => simp [isSheet] at this
    rw [this] at h
    cases h
theorem sorted_sh (d : Nat) (ns : List Int) : PyData.eqv (.list (srtD false (ns.map .int))) (.list (rgD (d : Int))) = isSh d (.tuple (ns.map .int)) := by
  obtain ⟨ms, e, hp, hu⟩ := srt_up ns
  rw [e, rgD_nI, map_nI]
  have e2 := ecI.lst.eqv ms ((List.range d).map fun (n : Nat) => (n : Int))
  refine e2.trans ?_
  cases hx : isSh d (.tuple (ns.map .int)) with
  | true =>
    obtain ⟨h1, h2⟩ := isSh_iff.mp hx
    generalize shOf (.tuple (ns.map .int)) = p at *
    have h1 : ns = p.map fun (n : Nat) => (n : Int) := by
      have h3 : ns.map PyData.int = (p.map fun (n : Nat) => (n : Int)).map .int := by
        rw [← map_nI]
        have h1 : PyData.tuple (ns.map .int) = .tuple (p.map nI) := h1
        injection h1
      exact (List.map_inj_right (fun a b h => by injection h)).mp h3
    refine decide_eq_true (up_one (hp.trans ?_) hu (range_up d))
    rw [h1]
    refine List.Perm.map _ ?_
    exact (List.perm_ext_iff_of_nodup h2.2 List.nodup_range).mpr fun a => ⟨fun h => List.mem_range.mpr (h2.1.2 a h), fun h => h2.all (List.mem_range.mp h)⟩
  | false =>
    refine decide_eq_false fun z => ?_
    rw [z] at hp
    obtain ⟨p, e3, hp3⟩ := map_of_perm hp.symm
    have : isSh d (eT p) = true := isSh_eT.mpr ⟨⟨by rw [hp3.length_eq, List.length_range], fun i hi => List.mem_range.mp (hp3.mem_iff.mp hi)⟩, hp3.nodup_iff.mpr List.nodup_range⟩
    have e4 : eT p = .tuple (ns.map .int) := by
      show PyData.tuple (p.map nI) = _
      rw [e3, ← map_nI]
    rw [e4, hx] at this
    cases this
theorem m_law_is_shuffle (as : Rho) (Φ : PyData → Prop) (_ : as.length = 2) (c : C_law_is_shuffle as Φ) : F_law_is_shuffle (as ++ List.replicate (N_law_is_shuffle.length - 2) .un) { nx := fun _ => Φ .none, rt := Φ } := by
  obtain ⟨d, v, rfl, hd, ok, h⟩ := c
  walk_at "D"
  cases v with
  | tuple ds =>
    have ok : ds.length ≤ 1000 := ok
    refine br_f ?_
    walk_at "D"
    refine ⟨small (by omega), cmp_id (fun x => .bool (x.isInt && !x.isBool)) ds (fun x hx N hN => br_t ?_) ?_⟩
    · walk_at "D"
      cases hi : x.isInt with
      | true =>
        rw [hi] at hN
        exact br_t hN
      | false =>
        rw [hi] at hN
        exact br_f hN
    walk_at "R"
    walk_at "D"
    refine ⟨ds.map fun x => x.isInt && !x.isBool, by rw [List.map_map]; rfl, ?_⟩
    walk_at "D"
    have e2 : (ds.map fun x => x.isInt && !x.isBool).all id = ds.all fun x => x.isInt && !x.isBool := by rw [List.all_map]; rfl
    rw [e2]
    cases h2 : ds.all fun x => x.isInt && !x.isBool with
    | false =>
      rw [no_ints h2] at h
      exact br_t h
    | true =>
      obtain ⟨ns, rfl⟩ := ints_of h2
      refine br_f ?_
      walk_at "D"
      refine ⟨ints_srt ns (by rw [List.length_map] at ok; omega), ?_⟩
      walk_at "D"
      refine ⟨⟨by omega, by omega⟩, ?_⟩
      walk_at "D"
      have e5 := sorted_sh d ns
      obtain ⟨ms, e6, _⟩ := srt_ints false ns
      rw [e6] at e5 ⊢
      rw [rgD_nI, map_nI] at e5 ⊢
      refine ⟨ecI.lst.eqC (by decide) ms _, ?_⟩
      rw [e5]
      exact h
  | _ => exact br_t (br_t h)
theorem ext_getD {p q : List Nat} (hl : p.length = q.length) (h : ∀ i, i < p.length → p.getD i 0 = q.getD i 0) : p = q := by
  refine List.ext_getElem hl fun i h1 h2 => ?_
  have := h i h1
  rw [List.getD_eq_getElem?_getD, List.getD_eq_getElem?_getD, List.getElem?_eq_getElem h1, List.getElem?_eq_getElem h2] at this
  exact this
theorem beh_get {p q : List Nat} {i : Nat} (h : i < p.length) : (beh p q).getD i 0 = q.getD (p.getD i 0) 0 := by
  unfold beh
  rw [List.getD_eq_getElem?_getD, List.getElem?_map, List.getElem?_eq_getElem h, List.getD_eq_getElem?_getD (l := p), List.getElem?_eq_getElem h]; rfl
theorem bk_at {d : Nat} {s : List Nat} (hs : Sh d s) {i : Nat} (hi : i < d) : (bk s).getD (s.getD i 0) 0 = i := by
  have h1 : i < s.length := by rw [hs.1.1]; exact hi
  rw [bk_get hs (hs.1.2 _ (getD_mem h1)), List.getD_eq_getElem?_getD, List.getElem?_eq_getElem h1]
  exact hs.2.idxOf_getElem _ _
theorem at_bk {d : Nat} {s : List Nat} (hs : Sh d s) {j : Nat} (hj : j < d) : s.getD ((bk s).getD j 0) 0 = j := by
  rw [bk_get hs hj]
  have h1 := List.idxOf_lt_length_iff.mpr (hs.all hj)
  rw [List.getD_eq_getElem?_getD, List.getElem?_eq_getElem h1]
  exact List.getElem_idxOf h1
theorem led_one {d : Nat} {p s : List Nat} (hp : Mp d p) (hs : Sh d s) : beh (beh (bk s) p) s = p ↔ beh p s = beh s p := by
  have hb := bk_sh hs
  have l1 : (beh (beh (bk s) p) s).length = d := (beh_mp (beh_mp hb.1 hp) hs.1).1
  have l2 := (beh_mp hb.1 hp).1
  have get : ∀ j, j < d → (beh (beh (bk s) p) s).getD j 0 = s.getD (p.getD ((bk s).getD j 0) 0) 0 := fun j hj => by
    rw [beh_get (by rw [l2]; exact hj), beh_get (by rw [hb.1.1]; exact hj)]
  constructor
  · intro e
    refine ext_getD ((beh_mp hp hs.1).1.trans (beh_mp hs.1 hp).1.symm) fun i hi => ?_
    rw [(beh_mp hp hs.1).1] at hi
    rw [beh_get (by rw [hp.1]; exact hi), beh_get (by rw [hs.1.1]; exact hi)]
    have hsi : s.getD i 0 < d := hs.1.2 _ (getD_mem (by rw [hs.1.1]; exact hi))
    have := get (s.getD i 0) hsi
    rw [e, bk_at hs hi] at this
    exact this.symm
  · intro e
    refine ext_getD (l1.trans hp.1.symm) fun j hj => ?_
    rw [l1] at hj
    rw [get j hj]
    have hi : (bk s).getD j 0 < d := hb.1.2 _ (getD_mem (by rw [hb.1.1]; exact hj))
    have h1 := beh_get (p := p) (q := s) (i := (bk s).getD j 0) (by rw [hp.1]; exact hi)
    have h2 := beh_get (p := s) (q := p) (i := (bk s).getD j 0) (by rw [hs.1.1]; exact hi)
    rw [e, h2, at_bk hs hj] at h1
    exact h1.symm
theorem map_id_iff {f : List Nat → List Nat} : ∀ {l : List (List Nat)}, l.map f = l ↔ ∀ p ∈ l, f p = p
  | [] => by simp
  | a :: l => by
    rw [List.map_cons, List.cons.injEq, map_id_iff]
    simp
theorem own_deck {d : Nat} {l : Lay} (hl : LayM d l) {s : List Nat} (hs : Sh d s) : decide (led l s = l) = isDeck l s := by
  obtain ⟨l1, l2⟩ := l
  obtain ⟨_, _, h1, h2⟩ := hl
  have e : led (l1, l2) s = (l1, l2) ↔ isDeck (l1, l2) s = true := by
    unfold led isDeck
    rw [Prod.mk.injEq, map_id_iff, map_id_iff, List.all_eq_true]
    constructor
    · rintro ⟨a, b⟩ p hp
      rcases List.mem_append.mp hp with hp | hp
      · exact decide_eq_true ((led_one (h1 p hp) hs).mp (a p hp))
      · exact decide_eq_true ((led_one (h2 p hp) hs).mp (b p hp))
    · intro a
      exact ⟨fun p hp => (led_one (h1 p hp) hs).mpr (of_decide_eq_true (a p (List.mem_append.mpr (.inl hp)))), fun p hp => (led_one (h2 p hp) hs).mpr (of_decide_eq_true (a p (List.mem_append.mpr (.inr hp))))⟩
  cases hx : isDeck (l1, l2) s with
  | true => exact decide_eq_true (e.mpr hx)
  | false => exact decide_eq_false fun z => by rw [e.mp z] at hx; cases hx
theorem owns_decks {d : Nat} {l : Lay} (hl : LayM d l) : owns d l = decks d l := by
  unfold owns decks
  exact List.filter_congr fun s hs => own_deck hl (shs_sh hs)
theorem owns_mem {d : Nat} {l : Lay} {s : List Nat} : s ∈ owns d l ↔ Sh d s ∧ led l s = l := by
  unfold owns
  rw [List.mem_filter, shs_mem]
  simp
theorem m_law_judged (as : Rho) (Φ : PyData → Prop) (_ : as.length = 3) (c : C_law_judged as Φ) : F_law_judged (as ++ List.replicate (N_law_judged.length - 3) .un) { nx := fun _ => Φ .none, rt := Φ } := by
  obtain ⟨d, l, v, rfl, hd, hl, ok, h⟩ := c
  walk_at "D"
  cases v with
  | tuple ds =>
    obtain ⟨ok1, ok2⟩ : ds.length ≤ 1000 ∧ ∀ x ∈ ds, OkV x := ok
    refine br_f ?_
    walk_at "D"
    refine ⟨small (by omega), cmp_id (fun x => .bool (isSh d x)) ds (fun x hx N hN => br_t ?_) ?_⟩
    · walk_at "D"
      exact ⟨rfl, d, x, rfl, by omega, ok2 x hx, hN⟩
    walk_at "R"
    walk_at "D"
    refine ⟨ds.map (isSh d), by rw [List.map_map]; rfl, ?_⟩
    walk_at "D"
    have e2 : (ds.map (isSh d)).all id = ds.all (isSh d) := by rw [List.all_map]; rfl
    rw [e2]
    cases h2 : ds.all (isSh d) with
    | false =>
      refine br_t ?_
      walk_at "D"
      rw [jd_no h2] at h
      exact ⟨small (by simp), h⟩
    | true =>
      obtain ⟨ps, e, hps, e3⟩ := all_isSh h2
      rw [jd_yes h2 e3] at h
      clear e2 h2 e3 ok2
      subst e
      rw [List.length_map] at ok1
      refine br_f ?_
      walk_at "D"
      rw [List.length_map]
      refine ⟨rfl, ?_⟩
      walk_at "D"
      refine ⟨⟨by decide, by decide, by omega, by omega⟩, ?_⟩
      walk_at "D"
      refine ⟨rfl, ?_⟩
      refine forP_rng (enc := fun (i : Nat) => PyData.int (1 + (i : Int))) _ (fun k ρ => ∃ x3, ρ = [.da (nI d), .da (eL l), .da (eTs ps), x3, .un, .un, .un] ∧ (k = 0 ∨ k < ps.length) ∧ seqAt 1 ps = seqAt (k + 1) (ps.drop k)) ?_ ?_ _ ⟨.un, rfl, .inl rfl, by simp⟩
      · rintro _ ⟨x3, rfl, hk, hs⟩
        rw [seqAt_end (by omega)] at hs
        unfold jdS at h
        rw [hs, ← owns_decks hl] at h
        have hdl : (owns d l).length ≤ 256 := Nat.le_trans (List.length_filter_le ..) (shGo_small hd hd)
        walk_at "D"
        refine ⟨rfl, d, l, rfl, hd, hl, ?_⟩
        walk_at "D"
        refine ⟨rfl, ?_⟩
        refine forP_enum (g := eT) ps (fun k ρ => ∃ x3 x5, ρ = [.da (nI d), .da (eL l), .da (eTs ps), x3, .da (.list ((owns d l).map eT)), x5, .un] ∧ deckAt l 0 ps = deckAt l k (ps.drop k)) ?_ ?_ _ ⟨_, _, rfl, by simp⟩
        · rintro _ ⟨x3, x5, rfl, hk2⟩
          rw [List.drop_length] at hk2
          rw [hk2] at h
          walk_at "D"
          refine ⟨small (by rw [List.length_map]; omega), cmp_fm (enc := eT) (fun s => if !ps.contains s then some (eT s) else none) (owns d l) (fun s hs N hN => ?_) ?_⟩
          · walk_at "D"
            obtain ⟨c1, c2⟩ := ecT.inT (by decide) s ps
            refine ⟨c1, ?_⟩
            walk_at "D"
            have e3 : anyIn (eT s) (eTs ps) = ps.contains s := by
              refine c2.trans ?_
              by_cases z : s ∈ ps <;> simp [z]
            rw [e3]
            refine ⟨fun hi => ?_, fun hi => ?_⟩
            · walk_at "D"
              rw [hi, if_pos rfl] at hN
              exact hN
            · rw [hi, if_neg (by decide)] at hN
              exact hN
          · rw [fm_if]
            walk_at "R"
            walk_at "D"
            cases hf : (owns d l).filter fun s => !ps.contains s with
            | nil =>
              rw [hf] at h
              refine ⟨small (by decide), ?_⟩
              walk_at "D"
              refine ⟨⟨rfl, rfl⟩, ?_⟩
              walk_at "D"
              exact br_f h
            | cons s r =>
              rw [hf] at h
              refine ⟨small (by decide), ?_⟩
              walk_at "D"
              refine ⟨ecT.lst.eqC (by decide) (s :: r) [], ?_⟩
              have e : PyData.eqv (.list ((s :: r).map eT)) (.list []) = false := by
                refine (ecT.lst.eqv (s :: r) []).trans ?_
                exact decide_eq_false (by simp)
              walk_at "D"
              rw [e]
              refine br_t ?_
              walk_at "D"
              refine ⟨eT s, at_map (i := 0) (xs := s :: r) rfl, ?_⟩
              walk_at "D"
              exact ⟨small (by simp), h⟩
        · rintro k s _ hks ⟨x3, x5, rfl, hk2⟩ N hN
          obtain ⟨hkl, rfl⟩ := List.getElem?_eq_some_iff.mp hks
          rw [deckAt_step hkl] at hk2
          have hsk := hps _ (List.getElem_mem hkl)
          walk_at "D"
          refine ⟨rfl, ?_⟩
          walk_at "D"
          obtain ⟨c1, c2⟩ := ecT.inL (by decide) ps[k] (owns d l)
          refine ⟨c1, ?_⟩
          have e3 : anyIn (eT ps[k]) (.list ((owns d l).map eT)) = isDeck l ps[k] := by
            rw [← own_deck hl hsk]
            refine c2.trans (decide_eq_decide.mpr ?_)
            rw [owns_mem]
            exact ⟨fun z => z.2, fun z => ⟨hsk, z⟩⟩
          walk_at "D"
          rw [e3]
          cases hx : isDeck l ps[k] with
          | true =>
            rw [hx, if_pos rfl] at hk2
            exact br_f (hN _ ⟨_, _, rfl, hk2⟩)
          | false =>
            rw [hx, if_neg (by decide)] at hk2
            rw [hk2] at h
            refine br_t ?_
            walk_at "D"
            exact ⟨small (by simp), h⟩
      · rintro k _ hkn ⟨x3, rfl, hk, hs⟩ N hN
        have hk1 : k + 1 < ps.length := by omega
        rw [seqAt_step hk1] at hs
        walk_at "D"
        rw [idx_succ]
        refine ⟨_, at_map (List.getElem?_eq_getElem (by omega)), ?_⟩
        walk_at "D"
        rw [idx_cast]
        refine ⟨_, at_map (List.getElem?_eq_getElem hk1), ?_⟩
        walk_at "D"
        refine ⟨alC_T _ _, ?_⟩
        walk_at "D"
        have e4 : PySem.W.dataLt (eT ps[k]) (eT ps[k + 1]) = lt ps[k] ps[k + 1] := rfl
        rw [e4]
        cases hlt : lt ps[k] ps[k + 1] with
        | true =>
          rw [hlt, if_pos rfl] at hs
          exact br_f (hN _ ⟨_, rfl, .inr hk1, hs⟩)
        | false =>
          rw [hlt, if_neg (by decide)] at hs
          unfold jdS at h
          rw [hs] at h
          refine br_t ?_
          walk_at "D"
          exact ⟨small (by simp), h⟩
  | _ => exact br_t (by walk_at "D"; exact br_t (by walk_at "D"; exact ⟨small (by simp), h⟩))
theorem m_law_called (as : Rho) (Φ : PyData → Prop) (_ : as.length = 4) (c : C_law_called as Φ) : F_law_called (as ++ List.replicate (N_law_called.length - 4) .un) { nx := fun _ => Φ .none, rt := Φ } := by
  obtain ⟨d, one, other, v, rfl, hd, ⟨a1, a2, a3, a4⟩, ⟨b1, b2, b3, b4⟩, g1, g2, ok, h⟩ := c
  walk_at "D"
  refine ⟨rfl, d, v, rfl, by omega, ok, ?_⟩
  walk_at "D"
  unfold ja at h
  cases hx : isSh d v with
  | false =>
    rw [hx, if_neg (by decide)] at h
    refine br_t ?_
    walk_at "D"
    exact ⟨small (by simp), h⟩
  | true =>
    obtain ⟨e, hs, hn⟩ := isSh_iff.mp hx
    rw [hx, if_pos rfl] at h
    generalize shOf v = s at *
    subst e
    refine br_f ?_
    walk_at "D"
    refine ⟨_, rfl, ?_⟩
    walk_at "D"
    refine ⟨_, rfl, ?_⟩
    walk_at "D"
    refine ⟨by rw [List.length_map, List.length_map]; exact small (by omega), ?_⟩
    walk_at "D"
    refine ⟨_, rfl, ?_⟩
    walk_at "D"
    refine ⟨_, rfl, ?_⟩
    walk_at "D"
    refine ⟨by rw [List.length_map, List.length_map]; exact small (by omega), ?_⟩
    walk_at "D"
    refine ⟨rfl, ?_⟩
    rw [← List.map_append, ← List.map_append]
    have all1 : ∀ p ∈ one.1 ++ one.2, Mp d p := fun p hp => (List.mem_append.mp hp).elim (a3 p) (a4 p)
    have all2 : ∀ p ∈ other.1 ++ other.2, Mp d p := fun p hp => (List.mem_append.mp hp).elim (b3 p) (b4 p)
    have hlen : (one.1 ++ one.2).length = (other.1 ++ other.2).length := by rw [List.length_append, List.length_append, g1, g2]
    generalize one.1 ++ one.2 = L1 at *
    generalize other.1 ++ other.2 = L2 at *
    refine forP_enum (g := eT) L1 (fun k ρ => ∃ x5 x6 x7, ρ = [.da (nI d), .da (eL one), .da (eL other), .da (eT s), .da (eTs L2), x5, x6, x7] ∧ jaGo d s 0 (L1.zip L2) = jaGo d s k ((L1.zip L2).drop k)) ?_ ?_ _ ⟨_, _, _, rfl, rfl⟩
    · rintro _ ⟨x5, x6, x7, rfl, hk⟩
      rw [List.drop_of_length_le (by rw [List.length_zip]; omega)] at hk
      rw [hk] at h
      exact h
    · rintro k p _ hkp ⟨x5, x6, x7, rfl, hk⟩ N hN
      obtain ⟨hkl, rfl⟩ := List.getElem?_eq_some_iff.mp hkp
      have hk2 : k < L2.length := by omega
      have hz : k < (L1.zip L2).length := by rw [List.length_zip]; omega
      rw [List.drop_eq_getElem_cons hz, List.getElem_zip, jaGo] at hk
      have hp := all1 _ (List.getElem_mem hkl)
      have hq := all2 _ (List.getElem_mem hk2)
      walk_at "D"
      refine ⟨rfl, ?_⟩
      walk_at "D"
      refine ⟨rfl, ?_⟩
      walk_at "D"
      refine ⟨⟨by omega, by omega⟩, ?_⟩
      walk_at "D"
      rw [Int.toNat_natCast]
      refine ⟨rfl, ?_⟩
      refine forP_rng (enc := fun (i : Nat) => PyData.int (i : Int)) d (fun i ρ => i ≤ d ∧ ∃ x7, ρ = [.da (nI d), .da (eL one), .da (eL other), .da (eT s), .da (eTs L2), .da (.int (k : Int)), .da (eT L1[k]), x7] ∧ wrongs d s L1[k] L2[k] = ((List.range d).drop i).filter fun i => s.getD (L1[k].getD i 0) 0 != L2[k].getD (s.getD i 0) 0) ?_ ?_ _ ⟨by omega, _, rfl, rfl⟩
      · rintro _ ⟨_, x7, rfl, hw⟩
        rw [List.drop_of_length_le (by rw [List.length_range]; omega)] at hw
        rw [hw] at hk
        exact hN _ ⟨_, _, _, rfl, hk⟩
      · rintro i _ hi ⟨_, x7, rfl, hw⟩ M hM
        have hir : i < (List.range d).length := by rw [List.length_range]; exact hi
        rw [List.drop_eq_getElem_cons hir, List.getElem_range, List.filter_cons] at hw
        walk_at "D"
        refine ⟨_, at_getD 0 (by rw [hp.1]; exact hi), ?_⟩
        walk_at "D"
        refine ⟨_, at_getD 0 (by rw [hs.1]; exact hp.2 _ (getD_mem (by rw [hp.1]; exact hi))), ?_⟩
        walk_at "D"
        refine ⟨eT L2[k], at_map (List.getElem?_eq_getElem hk2), ?_⟩
        walk_at "D"
        refine ⟨_, at_getD 0 (by rw [hs.1]; exact hi), ?_⟩
        walk_at "D"
        refine ⟨_, at_getD 0 (by rw [hq.1]; exact hs.2 _ (getD_mem (by rw [hs.1]; exact hi))), ?_⟩
        walk_at "D"
        refine ⟨ecN.eqC (by decide) _ _, ?_⟩
        walk_at "D"
        rw [ecN.eqv]
        refine br_nd (fun hi2 => ?_) (fun hi2 => ?_)
        · rw [if_pos (by simpa using hi2)] at hw
          rw [hw] at hk
          rw [hk] at h
          walk_at "D"
          exact ⟨small (by simp), h⟩
        · rw [if_neg (by simpa using hi2)] at hw
          exact hM _ ⟨hi, _, rfl, hw⟩
end K60


set_option Elab.async false
set_option linter.all false
set_option maxRecDepth 100000
set_option maxHeartbeats 4000000
namespace K60
open PySem L2 Dat
local macro_rules | `(tactic| walk_at "D") => `(tactic| (conv => whnf))
local macro_rules | `(tactic| walk_at "R") => `(tactic| (simp only [List.nil_append, clr_clr]))
theorem Rcs.all {b k : Nat} : ∀ {ds : List PyData}, (∀ x ∈ ds, Rc x b k) → Rcs ds (ds.length * (b + 1)) k
  | [], _ => Rcs.nil.mono (by simp) (by omega)
  | x :: ds, h => by
    refine (Rcs.cons (h x (by simp)) (Rcs.all fun y hy => h y (by simp [hy]))).mono ?_ (by omega)
    rw [List.length_cons, Nat.add_mul]; omega
theorem Rc.nI {n : Nat} (h : n ≤ 1000) : Rc (nI n) 0 1 := Rc.int (log_lt (B := 10) (by show (n : Int).natAbs < 2 ^ 10; omega) (by decide) (by decide))
theorem Rc.tup {ds : List PyData} (h : ∀ x ∈ ds, Rc x 0 1) (hl : ds.length ≤ 50) : Rc (.tuple ds) 100 3 := (Rcs.all h).tuple.mono (by omega) (by decide)
theorem Rc.lst {ds : List PyData} (h : ∀ x ∈ ds, Rc x 0 1) (hl : ds.length ≤ 50) : Rc (.list ds) 100 3 := (Rcs.all h).list.mono (by omega) (by decide)
theorem Rc.eT {d : Nat} {p : List Nat} (hp : Mp d p) (hd : d ≤ 4) : Rc (eT p) 100 3 := Rc.tup (fun x hx => by
  obtain ⟨n, hn, rfl⟩ := List.mem_map.mp hx
  have := hp.2 n hn
  exact Rc.nI (by omega)) (by rw [List.length_map, hp.1]; omega)
theorem reprs {ds : List PyData} (h : ∀ x ∈ ds, Rc x 100 3) (hl : ds.length ≤ 49) : reprC (.tuple ds) := (Rcs.all h).tuple.c (by omega) (by decide)
theorem reprsL {ds : List PyData} (h : ∀ x ∈ ds, Rc x 100 3) (hl : ds.length ≤ 49) : reprC (.list ds) := (Rcs.all h).list.c (by omega) (by decide)
theorem Rc.s01 : Rc (.str "01") 50 1 := ⟨by decide, by decide, by decide, by decide, by decide⟩
theorem odd_tup {ds : List PyData} (h : ∀ x ∈ ds, Rc x 0 1) (hl : ds.length ≤ 50) : OddOk (.tuple ds) := ⟨by show ds.length ≤ 1000; omega, Rc.tup h hl⟩
theorem m_law_odd (as : Rho) (Φ : PyData → Prop) (_ : as.length = 2) (c : C_law_odd as Φ) : F_law_odd (as ++ List.replicate (N_law_odd.length - 2) .un) { nx := fun _ => Φ .none, rt := Φ } := by
  obtain ⟨r, d, rfl, hr, hd1, hd, h⟩ := c
  walk_at "D"
  refine ⟨⟨by omega, by omega⟩, ?_⟩
  walk_at "D"
  refine ⟨(by omega : 32 ≤ 33), ?_⟩
  walk_at "D"
  refine ⟨rfl, _, _, .inl rfl, by omega, by rw [rgD_nI]; simp; omega, fun ys hy => ?_⟩
  obtain ⟨p, rfl, hp⟩ := mixed_sh hy
  clear hy
  have hpl := hp.1.1
  have ip : ∀ x ∈ p.map nI, Rc x 0 1 := fun x hx => by
    obtain ⟨n, hn, rfl⟩ := List.mem_map.mp hx
    have := hp.1.2 n hn
    exact Rc.nI (by omega)
  walk_at "D"
  refine ⟨small (by simp), ?_⟩
  walk_at "D"
  refine ⟨small (by rw [List.length_map]; simp; omega), ?_⟩
  walk_at "D"
  refine ⟨small (by simp), ?_⟩
  walk_at "D"
  refine ⟨⟨by simp, by omega, by omega, by simp⟩, ?_⟩
  walk_at "D"
  refine ⟨small (by simp), ?_⟩
  walk_at "D"
  refine ⟨⟨by simp, by omega, by omega, by simp⟩, ?_⟩
  walk_at "D"
  refine ⟨small (by simp), ?_⟩
  walk_at "D"
  refine ⟨(by omega : 1 ≤ 1), ?_⟩
  walk_at "D"
  refine ⟨rfl, r + 32, _, rfl, by omega, by simp, by simp, fun x hx => h x ?_⟩
  simp only [List.mem_cons, List.not_mem_nil, or_false] at hx
  have op : OddOk (.tuple (p.map nI)) := odd_tup ip (by rw [List.length_map]; omega)
  have rep : ∀ (n : Nat) (z : PyData), Rc z 0 1 → n ≤ 10 → OddOk (.tuple (List.replicate n [z]).flatten) := fun n z hz hn => by
    have e : (List.replicate n [z]).flatten = List.replicate n z := by simp
    rw [e]
    exact odd_tup (fun x hx => (List.mem_replicate.mp hx).2 ▸ hz) (by simp; omega)
  rcases hx with rfl | rfl | rfl | rfl | rfl | rfl | rfl | rfl | rfl | rfl | rfl | rfl
  · exact op
  · exact op
  · exact op
  · exact ⟨trivial, Rc.lst ip (by rw [List.length_map]; omega)⟩
  · refine odd_tup (fun x hx => ?_) (by simp; omega)
    rcases List.mem_append.mp hx with hx | hx
    · exact ip x hx
    · rw [List.mem_singleton] at hx
      subst hx
      exact Rc.nI (by omega)
  · refine odd_tup (fun x hx => ip x (List.mem_of_mem_drop (List.mem_of_mem_take hx))) ?_
    refine Nat.le_trans (List.length_take_le' ..) ?_
    rw [List.length_drop, List.length_map]; omega
  · exact rep _ _ (Rc.nI (n := 0) (by omega)) (by omega)
  · exact rep _ _ (Rc.bool true) (by omega)
  · exact ⟨trivial, Rc.non.mono (by decide) (by decide)⟩
  · exact ⟨trivial, (Rc.nI (n := 0) (by omega)).mono (by decide) (by decide)⟩
  · exact ⟨trivial, Rc.s01.mono (by decide) (by decide)⟩
  · exact odd_tup (fun x hx => ip x (List.mem_reverse.mp hx)) (by simp; omega)
theorem bentT {ds : List PyData} (h : ∀ x ∈ ds, OkV x ∧ Rc x 100 3) (hl : ds.length ≤ 49) : OkJ (.tuple ds) ∧ reprC (.tuple ds) :=
  ⟨⟨by omega, fun x hx => (h x hx).1⟩, reprs (fun x hx => (h x hx).2) hl⟩
theorem eT_ok {d : Nat} {p : List Nat} (hp : Mp d p) (hd : d ≤ 4) : OkV (eT p) ∧ Rc (eT p) 100 3 := ⟨by show (p.map nI).length ≤ 1000; rw [List.length_map, hp.1]; omega, Rc.eT hp hd⟩
theorem srt_tuples {d : Nat} {ps : List (List Nat)} (hd : 1 ≤ d ∧ d ≤ 4) (hs : ∀ p ∈ ps, Sh d p) (hl : ps.length ≤ 1000) : srtOk (ps.map eT) := by
  refine ⟨fun x hx y hy => ?_, .inl fun x hx => ?_, small (by rw [List.length_map]; omega), fun x hx => ?_⟩
  · obtain ⟨p, _, rfl⟩ := List.mem_map.mp hx
    obtain ⟨q, _, rfl⟩ := List.mem_map.mp hy
    exact (alC_T p q).1
  · obtain ⟨p, hp, rfl⟩ := List.mem_map.mp hx
    have := (hs p hp).1.1
    match p, this with
    | [], e => exact absurd e (by simp; omega)
    | a :: p, _ => exact ⟨nI a, p.map nI, rfl⟩
  · obtain ⟨p, _, rfl⟩ := List.mem_map.mp hx
    exact Nat.le_trans (ecT.dep p) (by decide)
theorem shs_len {d : Nat} (hd : d ≤ 4) : (shs d).length ≤ 49 := by
  match d, hd with
  | 0, _ => decide
  | 1, _ => decide
  | 2, _ => decide
  | 3, _ => decide
  | 4, _ => decide +kernel
  | n + 5, h => omega
theorem m_law_bent (as : Rho) (Φ : PyData → Prop) (_ : as.length = 3) (c : C_law_bent as Φ) : F_law_bent (as ++ List.replicate (N_law_bent.length - 3) .un) { nx := fun _ => Φ .none, rt := Φ } := by
  obtain ⟨r, d, ps, rfl, hr, hd1, hd, h0, hl, hs, h⟩ := c
  have all : ∀ x ∈ ps.map eT, OkV x ∧ Rc x 100 3 := fun x hx => by
    obtain ⟨p, hp, rfl⟩ := List.mem_map.mp hx
    exact eT_ok (hs p hp).1 hd
  have mapl : (ps.map eT).length = ps.length := List.length_map _
  have tup : ∀ ds : List PyData, (∀ x ∈ ds, OkV x ∧ Rc x 100 3) → ds.length ≤ 49 → Φ (.tuple ds) := fun ds h1 h2 => h _ (bentT h1 h2).1 (bentT h1 h2).2
  have cut : ∀ a b : Nat, ∀ x ∈ ((ps.map eT).drop a).take b, OkV x ∧ Rc x 100 3 := fun a b x hx => all x (List.mem_of_mem_drop (List.mem_of_mem_take hx))
  have cutl : ∀ a b : Nat, (((ps.map eT).drop a).take b).length ≤ ps.length := fun a b => by
    refine Nat.le_trans (List.length_take_le' ..) ?_
    rw [List.length_drop, List.length_map]; omega
  have two : ∀ a b c e : Nat, Φ (.tuple (((ps.map eT).drop a).take b ++ ((ps.map eT).drop c).take e)) := fun a b c e => by
    refine tup _ (fun x hx => (List.mem_append.mp hx).elim (cut a b x) (cut c e x)) ?_
    have h1 := cutl a b
    have h2 := cutl c e
    rw [List.length_append]
    omega
  have cat : ∀ a b c e : Nat, (((ps.map eT).drop a).take b).length + (((ps.map eT).drop c).take e).length ≤ sizeLine := fun a b c e => by
    have h1 := cutl a b
    have h2 := cutl c e
    exact small (by omega)
  have each : ∀ qs : List (List Nat), (∀ p ∈ qs, Sh d p) → qs.length ≤ 49 → Φ (eTs qs) := fun qs h1 h2 => by
    refine tup _ (fun x hx => ?_) (by rw [List.length_map]; exact h2)
    obtain ⟨p, hp, rfl⟩ := List.mem_map.mp hx
    exact eT_ok (h1 p hp).1 hd
  walk_at "D"
  refine ⟨(by omega : 1 ≤ 100), ?_⟩
  walk_at "D"
  refine ⟨rfl, r, _, rfl, by omega, by omega, fun w w1 w2 => ?_⟩
  walk_at "D"
  refine ⟨(by omega : 1 ≤ 99), ?_⟩
  walk_at "D"
  refine ⟨rfl, r + 1, _, rfl, by omega, by rw [mapl]; omega, fun k k1 k2 => ?_⟩
  rw [mapl] at k2
  walk_at "D"
  refine ⟨⟨rfl, rfl⟩, ?_⟩
  walk_at "D"
  refine ⟨fun _ => ?_, fun _ => ?_⟩
  · walk_at "D"
    exact ⟨cat _ _ _ _, two _ _ _ _⟩
  walk_at "D"
  refine ⟨⟨rfl, rfl⟩, ?_⟩
  walk_at "D"
  refine ⟨fun _ => ?_, fun _ => ?_⟩
  · walk_at "D"
    exact ⟨cat _ _ _ _, two _ _ _ _⟩
  walk_at "D"
  refine ⟨⟨rfl, rfl⟩, ?_⟩
  walk_at "D"
  refine ⟨fun _ => ?_, fun _ => ?_⟩
  · walk_at "D"
    refine ⟨(by omega : 33 ≤ 98), ?_⟩
    walk_at "D"
    refine ⟨rfl, r + 1 + 1, d, rfl, by omega, hd1, hd, fun v hv => ?_⟩
    walk_at "D"
    refine ⟨small (by simp), ?_⟩
    walk_at "D"
    refine ⟨small (Nat.le_trans (Nat.add_le_add (cutl _ _) (Nat.le_refl _)) (by simp; omega)), ?_⟩
    walk_at "D"
    refine ⟨small (Nat.le_trans (Nat.add_le_add (by rw [List.length_append]; exact Nat.add_le_add (cutl _ _) (Nat.le_refl _)) (cutl _ _)) (by simp; omega)), ?_⟩
    refine tup _ (fun x hx => ?_) ?_
    · rcases List.mem_append.mp hx with hx | hx
      · rcases List.mem_append.mp hx with hx | hx
        · exact cut _ _ x hx
        · rw [List.mem_singleton] at hx
          subst hx
          exact hv
      · exact cut _ _ x hx
    · rw [List.length_append, List.length_append]
      exact Nat.le_trans (Nat.add_le_add (Nat.add_le_add (cutl _ _) (Nat.le_refl _)) (cutl _ _)) (by simp; omega)
  walk_at "D"
  refine ⟨⟨rfl, rfl⟩, ?_⟩
  walk_at "D"
  refine ⟨fun _ => ?_, fun _ => ?_⟩
  · walk_at "D"
    refine ⟨(by omega : 32 ≤ 98), ?_⟩
    walk_at "D"
    refine ⟨rfl, r + 1 + 1, _, .inr rfl, by omega, by rw [mapl]; omega, fun ys hy => ?_⟩
    exact tup ys (fun x hx => all x (hy.mem_iff.mp hx)) (by rw [hy.length_eq, mapl]; omega)
  walk_at "D"
  refine ⟨⟨rfl, rfl⟩, ?_⟩
  walk_at "D"
  refine ⟨fun _ => ?_, fun _ => ?_⟩
  · walk_at "D"
    refine ⟨⟨by omega, by omega⟩, ?_⟩
    walk_at "D"
    refine ⟨(by omega : 32 ≤ 98), ?_⟩
    walk_at "D"
    refine ⟨rfl, r + 1 + 1, _, .inl rfl, by omega, by rw [rgD_nI]; simp; omega, fun ys hy => ?_⟩
    obtain ⟨q, rfl, hq⟩ := mixed_sh hy
    clear hy
    walk_at "D"
    refine ⟨small (by simp), ?_⟩
    walk_at "D"
    refine ⟨small (by rw [mapl]; simp; omega), ?_⟩
    walk_at "D"
    have hs2 : ∀ p ∈ ps ++ [q], Sh d p := fun p hp => by
      rcases List.mem_append.mp hp with hp | hp
      · exact hs p hp
      · rw [List.mem_singleton] at hp
        subst hp
        exact hq
    have e : ps.map eT ++ [PyData.tuple (q.map nI)] = (ps ++ [q]).map eT := by rw [List.map_append]; rfl
    rw [e]
    refine ⟨srt_tuples ⟨hd1, hd⟩ hs2 (by simp; omega), ?_⟩
    walk_at "D"
    have hp := List.mergeSort_perm ((ps ++ [q]).map eT) (PySem.W.dataLe false id)
    obtain ⟨qs, e2, hp2⟩ := map_of_perm hp
    have := each qs (fun p hp => hs2 p (hp2.mem_iff.mp hp)) (by rw [hp2.length_eq]; simp; omega)
    show Φ (.tuple (srtD false ((ps ++ [q]).map eT)))
    unfold srtD
    rw [e2]
    exact this
  walk_at "D"
  refine ⟨⟨rfl, rfl⟩, ?_⟩
  walk_at "D"
  refine ⟨fun _ => ?_, fun _ => ?_⟩
  · walk_at "D"
    refine ⟨rfl, d, rfl, hd, ?_⟩
    exact each (shs d) (fun p hp => shs_sh hp) (shs_len hd)
  walk_at "D"
  refine ⟨small (by simp), ?_⟩
  walk_at "D"
  obtain ⟨p, qs, rfl⟩ := List.exists_cons_of_ne_nil h0
  have hl2 : qs.length + 1 ≤ 24 := hl
  refine ⟨_, at_map (i := 0) (xs := p :: qs) rfl, ?_⟩
  walk_at "D"
  refine ⟨small (by simp), ?_⟩
  walk_at "D"
  refine ⟨small (by simp), ?_⟩
  walk_at "D"
  refine ⟨small (by rw [mapl]; simp; omega), ?_⟩
  walk_at "D"
  refine ⟨small (by simp), ?_⟩
  walk_at "D"
  refine ⟨(by omega : 1 ≤ 98), ?_⟩
  walk_at "D"
  refine ⟨rfl, r + 1 + 1, _, rfl, by omega, by simp, by simp, fun x hx => ?_⟩
  have rbig : ∀ x ∈ (p :: qs).map eT, Rc x 100 3 := fun x hx => (all x hx).2
  have rall := (Rcs.all rbig).mono (b' := 24 * 101) (by rw [mapl]; omega) (Nat.le_refl 3)
  have hpd := eT_ok (hs p (by simp)).1 hd
  simp only [List.mem_cons, List.not_mem_nil, or_false] at hx
  rcases hx with rfl | rfl | rfl | rfl | rfl | rfl | rfl | rfl
  · exact h _ trivial (Rc.non.c (by decide) (by decide))
  · exact h _ trivial (rall.list.c (by decide) (by decide))
  · exact tup [] (by simp) (by simp)
  · refine h _ ⟨hpd.1, fun x hx => ?_⟩ (hpd.2.c (by decide) (by decide))
    obtain ⟨n, _, rfl⟩ := List.mem_map.mp hx
    trivial
  · refine h _ ⟨by simp, fun x hx => ?_⟩ ?_
    · rw [List.mem_singleton] at hx
      subst hx
      show ((p :: qs).map eT).length ≤ 1000
      rw [mapl]; omega
    · exact ((Rcs.cons rall.tuple Rcs.nil).tuple).c (by decide) (by decide)
  · exact h _ trivial ((Rc.int (by decide)).c (by decide) (by decide))
  · refine tup _ (fun x hx => ?_) (by simp at hl ⊢; omega)
    rcases List.mem_append.mp hx with hx | hx
    · exact all x hx
    · rw [List.mem_singleton] at hx
      subst hx
      exact ⟨trivial, Rc.non.mono (by decide) (by decide)⟩
  · exact h _ trivial ⟨by decide, by decide, by decide, .inr rfl⟩
end K60


set_option Elab.async false
set_option linter.all false
set_option maxRecDepth 100000
set_option maxHeartbeats 4000000
namespace K60
open PySem L2 Dat
local macro_rules | `(tactic| walk_at "D") => `(tactic| (conv => whnf))
local macro_rules | `(tactic| walk_at "R") => `(tactic| (simp only [List.nil_append, clr_clr]))
theorem shs_up {d : Nat} (hd : d ≤ 4) : (shs d).Pairwise fun p q => lt p q = true := by
  match d, hd with
  | 0, _ => decide +kernel
  | 1, _ => decide +kernel
  | 2, _ => decide +kernel
  | 3, _ => decide +kernel
  | 4, _ => decide +kernel
  | n + 5, h => omega
theorem seq_up : ∀ {ps : List (List Nat)} (i : Nat), ps.Pairwise (fun p q => lt p q = true) → seqAt i ps = none
  | [], _, _ => rfl
  | [_], _, _ => rfl
  | p :: q :: r, i, h => by
    rw [List.pairwise_cons] at h
    rw [seqAt_cons, h.1 q (by simp), if_pos rfl]
    exact seq_up (i + 1) h.2
theorem deck_all {l : Lay} : ∀ {ps : List (List Nat)} (i : Nat), (∀ p ∈ ps, isDeck l p = true) → deckAt l i ps = none
  | [], _, _ => rfl
  | p :: r, i, h => by
    show (if isDeck l p then deckAt l (i + 1) r else some i) = none
    rw [h p (by simp), if_pos rfl]
    exact deck_all (i + 1) fun q hq => h q (by simp [hq])
theorem all_isSh_eT {d : Nat} {ps : List (List Nat)} (h : ∀ p ∈ ps, Sh d p) : (ps.map eT).all (isSh d) = true := by
  rw [List.all_eq_true]
  intro x hx
  obtain ⟨p, hp, rfl⟩ := List.mem_map.mp hx
  exact isSh_eT.mpr (h p hp)
theorem map_shOf (ps : List (List Nat)) : (ps.map eT).map shOf = ps := by
  rw [List.map_map]
  conv => rhs; rw [← List.map_id ps]
  exact List.map_congr_left fun p _ => shOf_eT p
/-- one's own decks are judged right -/
theorem jd_own {d : Nat} {l : Lay} (hd : d ≤ 4) (hl : LayM d l) : jd d l (eTs (owns d l)) = .none := by
  have hs : ∀ p ∈ owns d l, Sh d p := fun p hp => (owns_mem.mp hp).1
  show jd d l (.tuple ((owns d l).map eT)) = _
  rw [jd_yes (all_isSh_eT hs) (map_shOf _), owns_decks hl]
  have hu : (decks d l).Pairwise fun p q => lt p q = true := (shs_up hd).filter _
  have hk : deckAt l 0 (decks d l) = none := deck_all 0 (fun p hp => (List.mem_filter.mp hp).2)
  unfold jdS
  rw [seq_up 1 hu, hk]
  have e : ((decks d l).filter fun s => !(decks d l).contains s) = [] := by
    rw [List.filter_eq_nil_iff]
    intro s hs
    simpa using hs
  rw [e]
theorem seq_lt : ∀ {ps : List (List Nat)} {i j : Nat}, seqAt i ps = some j → j < i + ps.length
  | [], _, _, h => by cases h
  | [_], _, _, h => by cases h
  | p :: q :: r, i, j, h => by
    rw [seqAt_cons] at h
    split at h
    · have := seq_lt h
      simp only [List.length_cons] at this ⊢
      omega
    · injection h with h
      simp only [List.length_cons]
      omega
theorem deck_lt {l : Lay} : ∀ {ps : List (List Nat)} {i j : Nat}, deckAt l i ps = some j → j < i + ps.length
  | [], _, _, h => by cases h
  | p :: r, i, j, h => by
    have h : (if isDeck l p then deckAt l (i + 1) r else some i) = some j := h
    split at h
    · have := deck_lt h
      simp only [List.length_cons] at this ⊢
      omega
    · injection h with h
      simp only [List.length_cons]
      omega
theorem Rc.word {s : Str} (h : Rc (.str s) 90 1) : Rc (.str s) 90 1 := h
theorem rc_form : reprC (.tuple [.str "form"]) := ((Rcs.cons (b := 90) (k := 1) ⟨by decide, by decide, by decide, by decide, by decide⟩ Rcs.nil).tuple).c (by decide) (by decide)
theorem rc_two {s : Str} {x : PyData} (hs : Rc (.str s) 90 1) (hx : Rc x 1000 4) : reprC (.tuple [.str s, x]) := ((Rcs.cons hs (Rcs.cons hx Rcs.nil)).tuple).c (by decide) (by decide)
theorem rc_three {s : Str} {x y : PyData} (hs : Rc (.str s) 90 1) (hx : Rc x 1000 4) (hy : Rc y 1000 4) : reprC (.tuple [.str s, x, y]) := ((Rcs.cons hs (Rcs.cons hx (Rcs.cons hy Rcs.nil))).tuple).c (by decide) (by decide)
theorem jd_repr {d : Nat} {l : Lay} (hd : d ≤ 4) {v : PyData} (ok : OkJ v) : reprC (jd d l v) := by
  cases v with
  | tuple ds =>
    obtain ⟨ok1, _⟩ : ds.length ≤ 1000 ∧ ∀ x ∈ ds, OkV x := ok
    cases h2 : ds.all (isSh d) with
    | false => rw [jd_no h2]; exact rc_form
    | true =>
      obtain ⟨ps, e, hps, e3⟩ := all_isSh h2
      rw [jd_yes h2 e3]
      have hl : ps.length ≤ 1000 := by rw [← e3, List.length_map]; exact ok1
      unfold jdS
      split
      · rename_i i hi
        have := seq_lt hi
        exact rc_two ⟨by decide, by decide, by decide, by decide, by decide⟩ ((Rc.int (log_lt (B := 20) (by show (i : Int).natAbs < 2 ^ 20; omega) (by decide) (by decide))).mono (by decide) (by decide))
      · split
        · rename_i i hi
          have := deck_lt hi
          exact rc_two ⟨by decide, by decide, by decide, by decide, by decide⟩ ((Rc.int (log_lt (B := 20) (by show (i : Int).natAbs < 2 ^ 20; omega) (by decide) (by decide))).mono (by decide) (by decide))
        · split
          · exact Rc.non.c (by decide) (by decide)
          · rename_i s r hs
            have hm : s ∈ decks d l := (List.mem_filter.mp (hs ▸ List.mem_cons_self .. : s ∈ (decks d l).filter fun s => !ps.contains s)).1
            have := shs_sh (List.mem_filter.mp hm).1
            exact rc_two ⟨by decide, by decide, by decide, by decide, by decide⟩ ((Rc.eT this.1 hd).mono (by decide) (by decide))
  | _ => exact rc_form
theorem jaGo_repr {d : Nat} {s : List Nat} (hd : d ≤ 4) : ∀ (r : List (List Nat × List Nat)) (k : Nat), k + r.length ≤ 1000 → reprC (jaGo d s k r)
  | [], _, _ => Rc.non.c (by decide) (by decide)
  | (p, q) :: r, k, h => by
    rw [List.length_cons] at h
    rw [jaGo]
    split
    · exact jaGo_repr hd r (k + 1) (by omega)
    · rename_i i t hi
      have hm : i ∈ wrongs d s p q := hi ▸ List.mem_cons_self ..
      have := List.mem_range.mp (List.mem_filter.mp hm).1
      exact rc_three ⟨by decide, by decide, by decide, by decide, by decide⟩ ((Rc.nI (by omega)).mono (by decide) (by decide)) ((Rc.nI (by omega)).mono (by decide) (by decide))
theorem ja_repr {d : Nat} {one other : Lay} (hd : d ≤ 4) (h1 : LayM d one) {v : PyData} : reprC (ja d one other v) := by
  unfold ja
  split
  · refine jaGo_repr hd _ 0 ?_
    have a := h1.1
    have b := h1.2.1
    rw [List.length_zip, List.length_append]
    omega
  · exact rc_form
theorem led_mp {d : Nat} {l : Lay} {s : List Nat} (hl : LayM d l) (hs : Sh d s) : LayM d (led l s) := by
  obtain ⟨h1, h2, h3, h4⟩ := hl
  refine ⟨by show (l.1.map _).length ≤ 20; rw [List.length_map]; exact h1, by show (l.2.map _).length ≤ 20; rw [List.length_map]; exact h2, fun p hp => ?_, fun p hp => ?_⟩
  · obtain ⟨q, hq, rfl⟩ := List.mem_map.mp hp
    exact beh_mp (beh_mp (bk_sh hs).1 (h3 q hq)) hs.1
  · obtain ⟨q, hq, rfl⟩ := List.mem_map.mp hp
    exact beh_mp (beh_mp (bk_sh hs).1 (h4 q hq)) hs.1
theorem wrongs_led {d : Nat} {s p : List Nat} (hp : Mp d p) (hs : Sh d s) : wrongs d s p (beh (beh (bk s) p) s) = [] := by
  unfold wrongs
  rw [List.filter_eq_nil_iff]
  intro i hi
  have hi := List.mem_range.mp hi
  have hsi : s.getD i 0 < d := hs.1.2 _ (getD_mem (by rw [hs.1.1]; exact hi))
  have hb := bk_sh hs
  rw [beh_get (by rw [(beh_mp hb.1 hp).1]; exact hsi), beh_get (by rw [hb.1.1]; exact hsi), bk_at hs hi]
  simp
theorem ja_led {d : Nat} {l : Lay} {s : List Nat} (hl : LayM d l) (hs : Sh d s) : ja d l (led l s) (eT s) = .none := by
  unfold ja
  rw [if_pos (isSh_eT.mpr hs), shOf_eT]
  have e : (led l s).1 ++ (led l s).2 = (l.1 ++ l.2).map fun p => beh (beh (bk s) p) s := by rw [List.map_append]; rfl
  rw [e]
  have all : ∀ p ∈ l.1 ++ l.2, Mp d p := fun p hp => (List.mem_append.mp hp).elim (hl.2.2.1 p) (hl.2.2.2 p)
  generalize l.1 ++ l.2 = L at all
  have go : ∀ (L : List (List Nat)) (k : Nat), (∀ p ∈ L, Mp d p) → jaGo d s k (L.zip (L.map fun p => beh (beh (bk s) p) s)) = .none := by
    intro L
    induction L with
    | nil => intro k _; rfl
    | cons p L ih =>
      intro k h
      rw [List.map_cons, List.zip_cons_cons, jaGo, wrongs_led (h p (by simp)) hs]
      exact ih (k + 1) fun q hq => h q (by simp [hq])
  exact go L 0 all
theorem range_get {d i : Nat} (h : i < d) : (List.range d).getD i 0 = i := by
  rw [List.getD_eq_getElem?_getD, List.getElem?_range h]; rfl
theorem range_deck {d : Nat} {l : Lay} (hl : LayM d l) : isDeck l (List.range d) = true := by
  unfold isDeck
  rw [List.all_eq_true]
  intro p hp
  have hp : Mp d p := (List.mem_append.mp hp).elim (hl.2.2.1 p) (hl.2.2.2 p)
  have l1 := beh_mp hp (Mp.range d)
  have l2 := beh_mp (Mp.range d) hp
  refine decide_eq_true (ext_getD (l1.1.trans l2.1.symm) fun i hi => ?_)
  rw [l1.1] at hi
  rw [beh_get (by rw [hp.1]; exact hi), beh_get (by rw [List.length_range]; exact hi), range_get hi, range_get (hp.2 _ (getD_mem (by rw [hp.1]; exact hi)))]
theorem owns_ne {d : Nat} {l : Lay} (hl : LayM d l) : owns d l ≠ [] := by
  have : List.range d ∈ owns d l := owns_mem.mpr ⟨Sh.range d, of_decide_eq_true ((own_deck hl (Sh.range d)).trans (range_deck hl))⟩
  intro z
  rw [z] at this
  cases this
theorem owns_24 {d : Nat} {l : Lay} (hd : d ≤ 4) : (owns d l).length ≤ 24 := by
  refine Nat.le_trans (List.length_filter_le ..) ?_
  match d, hd with
  | 0, _ => decide
  | 1, _ => decide
  | 2, _ => decide
  | 3, _ => decide
  | 4, _ => decide +kernel
  | n + 5, h => omega
theorem str_same (s : Str) : (s != s) = false := by simp
theorem m_law (Φ : PyData → Prop) (q : Φ (.bool true)) : F_law [.un, .sr 0 100000, .un, .un, .un, .un, .un, .un, .un, .un, .un, .un, .un] { nx := fun _ => Φ .none, rt := Φ } := by
  walk_at "D"
  refine ⟨rfl, ?_⟩
  walk_at "D"
  refine ⟨⟨by decide, by decide⟩, ?_⟩
  walk_at "D"
  refine ⟨rfl, forP_ind (enc := fun (i : Nat) => PyData.int (i : Int)) (fun r ρ => ∃ x2 x3 x4 x5 x6 x7 x8 x9 x10 x11 x12 a b, ρ = [.un, .sr a b, x2, x3, x4, x5, x6, x7, x8, x9, x10, x11, x12] ∧ a + 2000 * r.length ≤ 100000 ∧ 2000 * r.length ≤ b) ?_ ?_ (List.range 2) _ ⟨_, _, _, _, _, _, _, _, _, _, _, _, _, rfl, by decide, by decide⟩⟩
  · rintro _ ⟨x2, x3, x4, x5, x6, x7, x8, x9, x10, x11, x12, a, b, rfl, _, _⟩
    exact q
  · rintro lap r _ ⟨x2, x3, x4, x5, x6, x7, x8, x9, x10, x11, x12, a, b, rfl, ha, hb⟩ N hN
    rw [List.length_cons] at ha hb
    walk_at "D"
    refine ⟨(by omega : 1010 ≤ b), ?_⟩
    walk_at "D"
    refine ⟨rfl, a, rfl, by omega, fun d l bb ts hd1 hd hl => ?_⟩
    walk_at "D"
    refine ⟨rfl, ?_⟩
    walk_at "D"
    refine ⟨_, rfl, ?_⟩
    walk_at "D"
    refine ⟨rfl, d, l, rfl, hd, hl, ?_⟩
    walk_at "D"
    have hs : ∀ p ∈ owns d l, Sh d p := fun p hp => (owns_mem.mp hp).1
    have h24 := @owns_24 d l hd
    have okOwn : OkJ (.tuple ((owns d l).map eT)) := ⟨by rw [List.length_map]; omega, fun x hx => by
      obtain ⟨p, hp, rfl⟩ := List.mem_map.mp hx
      exact (eT_ok (hs p hp).1 hd).1⟩
    refine ⟨rfl, d, l, _, rfl, hd, hl, okOwn, ?_⟩
    walk_at "D"
    refine ⟨rfl, ?_⟩
    walk_at "D"
    rw [show jd d l (.tuple ((owns d l).map eT)) = .none from jd_own hd hl]
    refine br_f ?_
    walk_at "D"
    refine ⟨rfl, ?_⟩
    walk_at "D"
    refine ⟨⟨by decide, by decide⟩, ?_⟩
    walk_at "D"
    refine ⟨rfl, forP_ind (enc := fun (i : Nat) => PyData.int (i : Int)) (fun r' ρ => ∃ x7 x8 x9 x10 x11 x12 a' b', ρ = [.un, .sr a' b', .da (.int (lap : Int)), .da (.tuple [nI d, bb, ts]), .da (eL l), .da (nI d), .da (eTs (owns d l)), x7, x8, x9, x10, x11, x12] ∧ a' + 100 * r'.length ≤ a + 1610 ∧ 100 * r'.length + 300 + 2000 * r.length ≤ b') ?_ ?_ (List.range (Int.toNat 6)) _ ⟨_, _, _, _, _, _, _, _, rfl, by simp, by simp; omega⟩⟩
    · rintro _ ⟨x7, x8, x9, x10, x11, x12, a2, b2, rfl, ha2, hb2⟩
      simp only [List.length_nil, Nat.mul_zero, Nat.add_zero, Nat.zero_add] at ha2 hb2
      walk_at "D"
      refine ⟨⟨by omega, by omega⟩, ?_⟩
      walk_at "D"
      refine ⟨(by omega : 32 ≤ b2), ?_⟩
      walk_at "D"
      refine ⟨rfl, _, _, .inl rfl, by omega, by rw [rgD_nI]; simp; omega, fun ys hy => ?_⟩
      obtain ⟨s, rfl, hsd⟩ := mixed_sh hy
      clear hy
      walk_at "D"
      refine ⟨rfl, d, l, s, rfl, by omega, hl, hsd, ?_⟩
      walk_at "D"
      have hled := led_mp hl hsd
      refine ⟨rfl, d, l, led l s, _, rfl, hd, hl, hled, (eT_ok hsd.1 hd).1, ?_⟩
      walk_at "D"
      refine ⟨rfl, ?_⟩
      walk_at "D"
      rw [show ja d l (led l s) (.tuple (s.map nI)) = .none from ja_led hl hsd]
      refine br_f ?_
      walk_at "D"
      refine ⟨rfl, ?_⟩
      walk_at "D"
      refine ⟨⟨by decide, by decide⟩, ?_⟩
      walk_at "D"
      refine ⟨rfl, forP_ind (enc := fun (i : Nat) => PyData.int (i : Int)) (fun r' ρ => ∃ x7 x8 x9 x12 a' b', ρ = [.un, .sr a' b', .da (.int (lap : Int)), .da (.tuple [nI d, bb, ts]), .da (eL l), .da (nI d), .da (eTs (owns d l)), x7, x8, x9, .da (eT s), .da (eL (led l s)), x12] ∧ a' + 33 * r'.length ≤ a + 1774 ∧ 33 * r'.length + 100 + 2000 * r.length ≤ b') ?_ ?_ (List.range (Int.toNat 4)) _ ⟨_, _, _, _, _, _, rfl, by simp; omega, by simp; omega⟩⟩
      · rintro _ ⟨x7, x8, x9, x12, a3, b3, rfl, ha3, hb3⟩
        simp only [List.length_nil, Nat.mul_zero, Nat.add_zero, Nat.zero_add] at ha3 hb3
        exact hN _ ⟨_, _, _, _, _, _, _, _, _, _, _, _, _, rfl, by omega, by omega⟩
      · rintro lap2 r' _ ⟨x7, x8, x9, x12, a3, b3, rfl, ha3, hb3⟩ N2 hN2
        rw [List.length_cons] at ha3 hb3
        walk_at "D"
        refine ⟨(by omega : 33 ≤ b3), ?_⟩
        walk_at "D"
        refine ⟨rfl, a3, d, rfl, by omega, hd1, hd, fun v hv => ?_⟩
        walk_at "D"
        refine ⟨rfl, d, l, led l s, v, rfl, hd, hl, hled, hv.1, ?_⟩
        walk_at "D"
        have hr := @ja_repr d l (led l s) hd hl v
        refine ⟨hr, ?_⟩
        walk_at "D"
        refine ⟨rfl, d, l, led l s, v, rfl, hd, hl, hled, (List.length_map _).symm, (List.length_map _).symm, hv.1, ?_⟩
        walk_at "D"
        refine ⟨hr, ?_⟩
        walk_at "D"
        rw [str_same]
        refine br_f ?_
        exact hN2 _ ⟨_, _, _, _, a3 + 33, b3 - 33, rfl, by omega, by omega⟩
    · rintro lap2 r' _ ⟨x7, x8, x9, x10, x11, x12, a2, b2, rfl, ha2, hb2⟩ N2 hN2
      rw [List.length_cons] at ha2 hb2
      walk_at "D"
      refine ⟨(by omega : 100 ≤ b2), ?_⟩
      walk_at "D"
      refine ⟨rfl, a2, d, owns d l, rfl, by omega, hd1, hd, owns_ne hl, h24, hs, fun v hv hvr => ?_⟩
      walk_at "D"
      refine ⟨hvr, ?_⟩
      walk_at "D"
      refine ⟨rfl, d, l, v, rfl, hd, hl, hv, ?_⟩
      walk_at "D"
      have hr := @jd_repr d l hd v hv
      refine ⟨hr, ?_⟩
      walk_at "D"
      refine ⟨rfl, d, l, v, rfl, hd, hl, hv, ?_⟩
      walk_at "D"
      refine ⟨hr, ?_⟩
      walk_at "D"
      rw [str_same]
      refine br_f ?_
      walk_at "D"
      refine ⟨hvr, ?_⟩
      walk_at "D"
      rw [str_same]
      refine br_f ?_
      exact hN2 _ ⟨_, _, _, _, _, _, a2 + 100, b2 - 100, rfl, by omega, by omega⟩
end K60


set_option Elab.async false
set_option linter.all false
set_option maxRecDepth 100000
set_option maxHeartbeats 4000000
namespace K60
open PySem L2 Dat
local macro_rules | `(tactic| walk_at "D") => `(tactic| (conv => whnf))
theorem div_ok {x g : Int} (hx : x.natAbs < 2 ^ 13000) (hg : g ≠ 0) : divC x g := by
  refine ⟨hg, ?_⟩
  unfold Builtin.divisionGoesByPylong
  simp only [Bool.and_eq_false_iff, decide_eq_false_iff_not]
  have : x.natAbs.log2 < 13500 := by
    by_cases h : x.natAbs = 0
    · rw [h]; decide
    · refine (Nat.log2_lt h).mpr (Nat.lt_of_lt_of_le hx (Nat.pow_le_pow_right (by decide) (by decide)))
  by_cases h0 : x = 0
  · right; subst h0; simp
  · by_cases h1 : (if (g == 0) = true then 0 else g.natAbs.log2 / 30 + 1) > 300
    · right
      rw [if_neg (by simpa using h0)]
      omega
    · left; exact h1
theorem bits_mono {n a b : Nat} (h : n < 2 ^ a) (hab : a ≤ b) : n < 2 ^ b := Nat.lt_of_lt_of_le h (Nat.pow_le_pow_right (by decide) hab)
structure SrcAt (P : Addr × Addr × Nat) (H0 H : Hp) (cs : List Int) (l m t : Int) : Prop where
  oth : ∀ a, a ≠ P.1 → a ≠ P.2.1 → H a = H0 a
  dic : H P.1 = some (srcDict P.2.1 l m t)
  lst : H P.2.1 = some (.lst (cs.map V.int))
  len : cs.length ≤ 63
section
variable {P : Addr × Addr × Nat} {H0 H : Hp} {cs : List Int} {l m t : Int}
theorem SrcAt.left (h : SrcAt P H0 H cs l m t) : DGet H P.1 (.str "left") (some (.int l)) := DGet.k (k := Sum.inr kLeft) h.dic
theorem SrcAt.cells (h : SrcAt P H0 H cs l m t) : DGet H P.1 (.str "cells") (some (.ref P.2.1)) := DGet.k (k := Sum.inr kCells) h.dic
theorem SrcAt.mixed (h : SrcAt P H0 H cs l m t) : DGet H P.1 (.str "mixed") (some (.int m)) := DGet.k (k := Sum.inr kMixed) h.dic
theorem SrcAt.turn (h : SrcAt P H0 H cs l m t) : DGet H P.1 (.str "turn") (some (.int t)) := DGet.k (k := Sum.inr kTurn) h.dic
theorem SrcAt.putLeft (hn : P.1 ≠ P.2.1) (h : SrcAt P H0 H cs l m t) (z : Int) : DPut H P.1 (.str "left") (.int z) (upd H P.1 (srcDict P.2.1 z m t)) ∧ SrcAt P H0 (upd H P.1 (srcDict P.2.1 z m t)) cs z m t :=
  ⟨DPut.k (k := Sum.inr kLeft) h.dic (show 4 < sizeLine by decide), fun a h1 h2 => by rw [upd_ne h1]; exact h.oth a h1 h2, upd_same, by rw [upd_ne (Ne.symm hn)]; exact h.lst, h.len⟩
theorem SrcAt.putTurn (hn : P.1 ≠ P.2.1) (h : SrcAt P H0 H cs l m t) (z : Int) : DPut H P.1 (.str "turn") (.int z) (upd H P.1 (srcDict P.2.1 l m z)) ∧ SrcAt P H0 (upd H P.1 (srcDict P.2.1 l m z)) cs l m z :=
  ⟨DPut.k (k := Sum.inr kTurn) h.dic (show 4 < sizeLine by decide), fun a h1 h2 => by rw [upd_ne h1]; exact h.oth a h1 h2, upd_same, by rw [upd_ne (Ne.symm hn)]; exact h.lst, h.len⟩
theorem SrcAt.pop (hn : P.1 ≠ P.2.1) (h : SrcAt P H0 H cs l m t) (xs : List Int) (hl : xs.length ≤ 63) : SrcAt P H0 (upd H P.2.1 (.lst (xs.map V.int))) xs l m t :=
  ⟨fun a h1 h2 => by rw [upd_ne h2]; exact h.oth a h1 h2, by rw [upd_ne hn]; exact h.dic, upd_same, hl⟩
end
theorem div_small {l n : Int} (h : 2 ≤ n) (h2 : n ≤ 1000000) : divC l n := by
  refine ⟨by omega, ?_⟩
  unfold Builtin.divisionGoesByPylong
  simp only [Bool.and_eq_false_iff, decide_eq_false_iff_not]
  left
  rw [if_neg (by simp; omega)]
  have : n.natAbs.log2 < 20 := (Nat.log2_lt (by omega)).mpr (Nat.lt_of_le_of_lt (m := 1000000) (by omega) (by decide))
  omega
theorem fmod_bits {x q : Int} {B : Nat} (h : 0 < q) (hB : q.natAbs ≤ 2 ^ B) : 0 ≤ x.fmod q ∧ (x.fmod q).natAbs < 2 ^ B := by
  have h1 := Int.fmod_nonneg_of_pos x h
  have h2 := Int.fmod_lt_of_pos x h
  omega
structure BlP (mg : Str → Option Value) : Prop where
  n_len : mg "len" = none
  n_int : mg "int" = none
section
variable {P : Program} {w : World} {K : PySem.W.Frag} {mg : Str → Option Value} {base : Heap}
abbrev N_law_pick : List Str := ["source", "many", "left", "mixed"]
theorem sc_law_pick : FnScope N_law_pick ["source", "many"] (defScope st_law_pick) := ⟨rfl, rfl, rfl, by decide +kernel, rfl, by decide +kernel, by decide +kernel⟩
theorem ok_law_pick {f : Addr} {fd : FuncData} {k : Nat} (F : Fun K "_law_pick" "_law_pick" st_law_pick f fd) (bl : BlP mg) : FnOk P w K mg base CX0 (k + 1) f fd ["source", "many"] (spD K 2 C_law_pick) := by
  refine F.ok sc_law_pick (fun vs H Q E h => h.1) fun cdv A outer s H vs Q E hr h => ?_
  have hu : A.units + 3 + 1 < cLine := by have := hr.un; show (A.deeper (PyProof.Rows.envOfC "_law_pick" (defScope st_law_pick) s.heap.objs.size f cdv)).units + 1 < _; omega
  refine ⟨_, pss_cons (ps_if (pt_cmpR op_lt (pv 1) pe_int (nomark _)) (pss_one (ps_ret pe_int)) pss_nil)
    (pss_cons (ps_while PassesOwn.never (PW.pt (pw_and (pt_cmpR op_lt (pe_dget hu (pv 0) pe_str (fun _ _ => rfl)) pe_int (nomark _)) (pw_and1 (pt_cmpR op_gt (pe_callB call_len_seq (by rfl) bl.n_len PySem.boot_len (pa_cons (pe_dget hu (pv 0) pe_str (fun _ _ => rfl)) pa_nil)) pe_int (nomark _)))))
      (pss_one (ps_dput hu (pv 0) pe_str (pe_bm0 PySem.F.plainAttrs_list PySem.F.slot_list_pop PySem.F.type_list_pop mt_pop (pe_dget hu (pv 0) pe_str (fun _ _ => rfl))) rfl)))
    (pss_cons (ps_set (i := 2) sc_law_pick.nd rfl (.inl rfl) (pe_dget hu (pv 0) pe_str (fun _ _ => rfl)))
    (pss_cons (ps_if (pt_cmpR op_gt (pv 2) pe_int (nomark _)) (pss_cons (ps_dput hu (pv 0) pe_str (pe_op o_fdiv (pv 2) (pv 1)) rfl) (pss_one (ps_ret (pe_op op_modN (pe_callTy call_int1 (by rfl) bl.n_int PyProof.Rows.boot_int (pa_cons (pv 2) pa_nil)) (pv 1))))) pss_nil)
    (pss_cons (ps_dput hu (pv 0) pe_str (pe_op op_add (pe_dget hu (pv 0) pe_str (fun _ _ => rfl)) pe_int) rfl)
    (pss_cons (ps_set (i := 3) sc_law_pick.nd rfl (.inl rfl) (pe_op op_modN (pe_callTy call_int1 (by rfl) bl.n_int PyProof.Rows.boot_int (pa_cons (pe_op op_add (pe_dget hu (pv 0) pe_str (fun _ _ => rfl)) (pe_op op_mulX (pe_dget hu (pv 0) pe_str (fun _ _ => rfl)) pe_int)) pa_nil)) pe_int))
    (pss_cons (ps_set (i := 3) sc_law_pick.nd rfl (.inl rfl) (pe_op op_modN (pe_callTy call_int1 (by rfl) bl.n_int PyProof.Rows.boot_int (pa_cons (pe_op op_add (pe_op op_mulX (pv 3) (pv 3)) (pe_op op_mulX (pe_dget hu (pv 0) pe_str (fun _ _ => rfl)) pe_int)) pa_nil)) pe_int))
    (pss_one (ps_ret (pe_op op_modN (pe_callTy call_int1 (by rfl) bl.n_int PyProof.Rows.boot_int (pa_cons (pe_op o_fdiv (pv 3) pe_int) pa_nil)) (pv 1)))))))))), ?_⟩
  obtain ⟨_, S, as, G, Φ, e, r, ha, ⟨b, n, rfl, hb, hn, hΦ⟩, k⟩ := h
  obtain ⟨v0, vs', rfl, v1, rfl, ⟨PP, rfl, rfl, hT⟩, tn⟩ : ∃ v0 vs', vs = v0 :: vs' ∧ ∃ v1, vs' = [v1] ∧ ArgOk K S G H v0 (.sr b 1) ∧ ArgOk K S G H v1 (.da (.int n)) := by
    match vs, ha with
    | [v0, v1], ⟨h1, h2, _⟩ => exact ⟨v0, [v1], rfl, v1, rfl, h1, h2⟩
  cases tn
  obtain ⟨hne, hg1, hg2, cs, l, m, t, h4, h5, h6, h7, h8⟩ := r PP rfl
  have hTv : t ≤ b ∧ t + 1 ≤ PP.2.2 := by
    obtain ⟨t', rfl⟩ := Int.eq_ofNat_of_zero_le h7
    have := hT.val h4
    omega
  have fin : ∀ {H' : Hp} {cs : List Int} {l m t : Int} {j : Int}, SrcAt PP H H' cs l m t → 0 ≤ t → t ≤ PP.2.2 → 0 ≤ j → j < max n 1 → Q (.int j) H' := fun {H' cs l m t j} sa t0 t1 j0 j1 => by
    refine k (.int j) (.int j) G H' (hΦ j j0 j1) ⟨fun a o q => ?_, fun p ep => ?_, Same.refl G, fun a h1 _ => h1, fun a o h1 h2 => ?_⟩ (.int _)
    · have n1 : a ≠ PP.1 := fun z => by rw [z, hg1] at q; cases q
      have n2 : a ≠ PP.2.1 := fun z => by rw [z, hg2] at q; cases q
      rw [sa.oth a n1 n2]; exact e a o q
    · cases ep
      exact ⟨hne, hg1, hg2, cs, l, m, t, sa.dic, sa.lst, sa.len, t0, t1⟩
    · have n1 : a ≠ PP.1 := fun z => h1 ⟨PP, rfl, .inl z⟩
      have n2 : a ≠ PP.2.1 := fun z => h1 ⟨PP, rfl, .inr z⟩
      rw [sa.oth a n1 n2]; exact h2
  have st : SrcAt PP H H cs l m t := ⟨fun _ _ _ => rfl, h4, h5, h6⟩
  clear hT h4 h5 h6
  walk_at "D"
  refine ⟨_, rfl, ?_⟩
  walk_at "D"
  refine ⟨n, 2, rfl, rfl, ?_⟩
  walk_at "D"
  refine ⟨_, rfl, ?_⟩
  refine ite2 (fun z => ?_) (fun z => ?_)
  · exact fin st h7 h8 (by decide) (by omega)
  have z : ¬n < 2 := fun y => z (decide_eq_true y)
  walk_at "D"
  refine ⟨fun i σ H' => ∃ cs l, σ = [some (.ref PP.1), some (.int n), none, none] ∧ SrcAt PP H H' cs l m t ∧ cs.length = i, ⟨cs.length, cs, l, rfl, st, rfl⟩, ?_⟩
  clear st
  rintro i σ H' ⟨cs, l, rfl, st, rfl⟩
  walk_at "D"
  refine ⟨_, rfl, ?_⟩
  walk_at "D"
  refine ⟨_, _, rfl, st.left, ?_⟩
  walk_at "D"
  refine ⟨l, 2, rfl, rfl, ?_⟩
  walk_at "D"
  refine ⟨_, rfl, ?_⟩
  refine ite2 (fun y1 => ?_) (fun y1 => ?_)
  · walk_at "D"
    refine ⟨_, rfl, ?_⟩
    walk_at "D"
    refine ⟨_, _, rfl, st.cells, ?_⟩
    walk_at "D"
    refine ⟨_, cs.map V.int, rfl, .inl (.of st.lst), ?_⟩
    walk_at "D"
    refine ⟨_, _, rfl, rfl, ?_⟩
    walk_at "D"
    refine ⟨_, rfl, ?_⟩
    refine ite2 (fun y2 => ?_) (fun y2 => ?_)
    · have y2 := of_decide_eq_true y2
      rw [List.length_map] at y2
      have hpos : 0 < cs.length := by omega
      refine ⟨fun σ' H'' => ∃ cs' l', σ' = [some (.ref PP.1), some (.int n), none, none] ∧ SrcAt PP H H'' cs' l' m t ∧ cs'.length < cs.length, fun σ' H'' ⟨cs', l', a1, a2, a3⟩ => ⟨cs'.length, a3, cs', l', a1, a2, rfl⟩, ?_⟩
      walk_at "D"
      refine ⟨_, rfl, ?_⟩
      walk_at "D"
      refine ⟨_, _, rfl, st.cells, ?_⟩
      walk_at "D"
      refine ⟨.inl ⟨rfl, _, .of st.lst⟩, ?_⟩
      walk_at "D"
      refine ⟨_, _, .int (cs[cs.length - 1]'(by omega)), rfl, rfl, st.lst, by rw [List.length_map, List.getElem?_map, List.getElem?_eq_getElem (by omega)]; rfl, ?_⟩
      have st2 := st.pop hne cs.dropLast (by rw [List.length_dropLast]; have := st.len; omega)
      rw [← List.map_dropLast]
      walk_at "D"
      refine ⟨_, rfl, ?_⟩
      walk_at "D"
      refine ⟨_, _, rfl, (st2.putLeft hne _).1, ?_⟩
      exact ⟨_, _, rfl, (st2.putLeft hne _).2, by rw [List.length_dropLast]; omega⟩
    · walk_at "D"
      refine ⟨_, rfl, ?_⟩
      walk_at "D"
      refine ⟨_, _, rfl, st.left, ?_⟩
      walk_at "D"
      refine ⟨_, rfl, ?_⟩
      walk_at "D"
      refine ⟨l, 1, rfl, rfl, ?_⟩
      walk_at "D"
      refine ⟨_, rfl, ?_⟩
      refine ite2 (fun y => ?_) (fun y => ?_)
      · walk_at "D"
        refine ⟨_, rfl, ?_⟩
        walk_at "D"
        refine ⟨_, rfl, ?_⟩
        walk_at "D"
        refine ⟨l, n, rfl, rfl, div_small (by omega) hn, ?_⟩
        walk_at "D"
        refine ⟨_, rfl, ?_⟩
        walk_at "D"
        refine ⟨_, _, rfl, (st.putLeft hne _).1, ?_⟩
        walk_at "D"
        refine ⟨_, rfl, ?_⟩
        walk_at "D"
        refine .inl ⟨l, rfl, ?_⟩
        walk_at "D"
        refine ⟨_, rfl, ?_⟩
        walk_at "D"
        refine ⟨l, n, rfl, rfl, by omega, ?_⟩
        exact fin (st.putLeft hne _).2 h7 h8 (Int.fmod_nonneg_of_pos _ (by omega)) (by have := Int.fmod_lt_of_pos l (show 0 < n by omega); omega)
      · have st2 := (st.putTurn hne (t + 1)).2
        have hcm : (t + 1).natAbs < 2 ^ 64 := Nat.lt_of_le_of_lt (m := 2000000) (by omega) (by decide)
        walk_at "D"
        refine ⟨_, rfl, ?_⟩
        walk_at "D"
        refine ⟨_, _, rfl, st.turn, ?_⟩
        walk_at "D"
        refine ⟨t, 1, rfl, rfl, ?_⟩
        walk_at "D"
        refine ⟨_, rfl, ?_⟩
        walk_at "D"
        refine ⟨_, _, rfl, (st.putTurn hne (t + 1)).1, ?_⟩
        walk_at "D"
        refine ⟨_, rfl, ?_⟩
        walk_at "D"
        refine ⟨_, _, rfl, st2.mixed, ?_⟩
        walk_at "D"
        refine ⟨_, rfl, ?_⟩
        walk_at "D"
        refine ⟨_, _, rfl, st2.turn, ?_⟩
        walk_at "D"
        refine ⟨t + 1, 92821, rfl, rfl, cm_of (b := 20) hcm (by decide) (by decide), ?_⟩
        walk_at "D"
        refine ⟨_, _, rfl, rfl, ?_⟩
        walk_at "D"
        refine .inl ⟨_, rfl, ?_⟩
        walk_at "D"
        refine ⟨_, 998244353, rfl, rfl, show (998244353 : Int) ≠ 0 by decide, ?_⟩
        have b1 := fmod_bits (x := m + (t + 1) * 92821) (q := 998244353) (B := 30) (by decide) (by decide)
        walk_at "D"
        refine ⟨_, rfl, ?_⟩
        walk_at "D"
        refine ⟨_, rfl, ?_⟩
        walk_at "D"
        refine ⟨_, _, rfl, rfl, cm_of b1.2 b1.2 (by decide), ?_⟩
        walk_at "D"
        refine ⟨_, rfl, ?_⟩
        walk_at "D"
        refine ⟨_, _, rfl, st2.turn, ?_⟩
        walk_at "D"
        refine ⟨t + 1, 29, rfl, rfl, cm_of (b := 20) hcm (by decide) (by decide), ?_⟩
        walk_at "D"
        refine ⟨_, _, rfl, rfl, ?_⟩
        walk_at "D"
        refine .inl ⟨_, rfl, ?_⟩
        walk_at "D"
        refine ⟨_, 2147483647, rfl, rfl, show (2147483647 : Int) ≠ 0 by decide, ?_⟩
        have b2 := fmod_bits (x := (m + (t + 1) * 92821).fmod 998244353 * (m + (t + 1) * 92821).fmod 998244353 + (t + 1) * 29) (q := 2147483647) (B := 31) (by decide) (by decide)
        walk_at "D"
        refine ⟨_, rfl, ?_⟩
        walk_at "D"
        refine ⟨_, 16, rfl, rfl, div_ok (bits_mono b2.2 (by decide)) (by decide), ?_⟩
        walk_at "D"
        refine .inl ⟨_, rfl, ?_⟩
        walk_at "D"
        refine ⟨_, rfl, ?_⟩
        walk_at "D"
        refine ⟨_, n, rfl, rfl, by omega, ?_⟩
        exact fin st2 (by omega) (by omega) (Int.fmod_nonneg_of_pos _ (by omega)) (Int.lt_of_lt_of_le (Int.fmod_lt_of_pos _ (show 0 < n by omega)) (Int.le_max_left ..))
  · refine iteF ?_
    walk_at "D"
    refine ⟨_, rfl, ?_⟩
    walk_at "D"
    refine ⟨_, _, rfl, st.left, ?_⟩
    walk_at "D"
    refine ⟨_, rfl, ?_⟩
    walk_at "D"
    refine ⟨l, 1, rfl, rfl, ?_⟩
    walk_at "D"
    refine ⟨_, rfl, ?_⟩
    refine ite2 (fun y => ?_) (fun y => ?_)
    · walk_at "D"
      refine ⟨_, rfl, ?_⟩
      walk_at "D"
      refine ⟨_, rfl, ?_⟩
      walk_at "D"
      refine ⟨l, n, rfl, rfl, div_small (by omega) hn, ?_⟩
      walk_at "D"
      refine ⟨_, rfl, ?_⟩
      walk_at "D"
      refine ⟨_, _, rfl, (st.putLeft hne _).1, ?_⟩
      walk_at "D"
      refine ⟨_, rfl, ?_⟩
      walk_at "D"
      refine .inl ⟨l, rfl, ?_⟩
      walk_at "D"
      refine ⟨_, rfl, ?_⟩
      walk_at "D"
      refine ⟨l, n, rfl, rfl, by omega, ?_⟩
      exact fin (st.putLeft hne _).2 h7 h8 (Int.fmod_nonneg_of_pos _ (by omega)) (by have := Int.fmod_lt_of_pos l (show 0 < n by omega); omega)
    · have st2 := (st.putTurn hne (t + 1)).2
      have hcm : (t + 1).natAbs < 2 ^ 64 := Nat.lt_of_le_of_lt (m := 2000000) (by omega) (by decide)
      walk_at "D"
      refine ⟨_, rfl, ?_⟩
      walk_at "D"
      refine ⟨_, _, rfl, st.turn, ?_⟩
      walk_at "D"
      refine ⟨t, 1, rfl, rfl, ?_⟩
      walk_at "D"
      refine ⟨_, rfl, ?_⟩
      walk_at "D"
      refine ⟨_, _, rfl, (st.putTurn hne (t + 1)).1, ?_⟩
      walk_at "D"
      refine ⟨_, rfl, ?_⟩
      walk_at "D"
      refine ⟨_, _, rfl, st2.mixed, ?_⟩
      walk_at "D"
      refine ⟨_, rfl, ?_⟩
      walk_at "D"
      refine ⟨_, _, rfl, st2.turn, ?_⟩
      walk_at "D"
      refine ⟨t + 1, 92821, rfl, rfl, cm_of (b := 20) hcm (by decide) (by decide), ?_⟩
      walk_at "D"
      refine ⟨_, _, rfl, rfl, ?_⟩
      walk_at "D"
      refine .inl ⟨_, rfl, ?_⟩
      walk_at "D"
      refine ⟨_, 998244353, rfl, rfl, show (998244353 : Int) ≠ 0 by decide, ?_⟩
      have b1 := fmod_bits (x := m + (t + 1) * 92821) (q := 998244353) (B := 30) (by decide) (by decide)
      walk_at "D"
      refine ⟨_, rfl, ?_⟩
      walk_at "D"
      refine ⟨_, rfl, ?_⟩
      walk_at "D"
      refine ⟨_, _, rfl, rfl, cm_of b1.2 b1.2 (by decide), ?_⟩
      walk_at "D"
      refine ⟨_, rfl, ?_⟩
      walk_at "D"
      refine ⟨_, _, rfl, st2.turn, ?_⟩
      walk_at "D"
      refine ⟨t + 1, 29, rfl, rfl, cm_of (b := 20) hcm (by decide) (by decide), ?_⟩
      walk_at "D"
      refine ⟨_, _, rfl, rfl, ?_⟩
      walk_at "D"
      refine .inl ⟨_, rfl, ?_⟩
      walk_at "D"
      refine ⟨_, 2147483647, rfl, rfl, show (2147483647 : Int) ≠ 0 by decide, ?_⟩
      have b2 := fmod_bits (x := (m + (t + 1) * 92821).fmod 998244353 * (m + (t + 1) * 92821).fmod 998244353 + (t + 1) * 29) (q := 2147483647) (B := 31) (by decide) (by decide)
      walk_at "D"
      refine ⟨_, rfl, ?_⟩
      walk_at "D"
      refine ⟨_, 16, rfl, rfl, div_ok (bits_mono b2.2 (by decide)) (by decide), ?_⟩
      walk_at "D"
      refine .inl ⟨_, rfl, ?_⟩
      walk_at "D"
      refine ⟨_, rfl, ?_⟩
      walk_at "D"
      refine ⟨_, n, rfl, rfl, by omega, ?_⟩
      exact fin st2 (by omega) (by omega) (Int.fmod_nonneg_of_pos _ (by omega)) (Int.lt_of_lt_of_le (Int.fmod_lt_of_pos _ (show 0 < n by omega)) (Int.le_max_left ..))
end
def spO (K : PySem.W.Frag) : Sp := fun vs H Q _ => ∃ (a : Addr) (ns : List Int), vs = [.ref a] ∧ SqL K H a (ns.map V.int) ∧ ns.length ≤ 63 ∧ (∀ z ∈ ns, Builtin.Int.intBits z ≤ 1048576) ∧
  ∀ (H' : Hp) (p c : Addr) (cs : List Int) (l m : Int), Same H H' → H p = none → H c = none → p ≠ c → H' p = some (srcDict c l m 0) → H' c = some (.lst (cs.map V.int)) → cs.length ≤ 63 → Q (.ref p) H'
section
variable {P : Program} {w : World} {K : PySem.W.Frag} {mg : Str → Option Value} {base : Heap}
abbrev N_law_source : List Str := ["script", "mixed", "cell"]
theorem sc_law_source : FnScope N_law_source ["script"] (defScope st_law_source) := ⟨rfl, rfl, rfl, by decide +kernel, rfl, by decide +kernel, by decide +kernel⟩
theorem ok_law_source {f : Addr} {fd : FuncData} {k : Nat} (F : Fun K "_law_source" "_law_source" st_law_source f fd) (mi : mg "int" = none) (ma : mg "abs" = none) : FnOk P w K mg base CX0 (k + 1) f fd ["script"] (spO K) := by
  refine F.ok sc_law_source (fun vs H Q E h => ?_) fun cdv A outer s H vs Q E hr h => ?_
  · obtain ⟨a, ns, rfl, _⟩ := h
    rfl
  refine ⟨_, pss_cons (ps_set (i := 1) sc_law_source.nd rfl (.inl rfl) pe_int)
    (pss_cons (ps_for PassesOwn.never rfl (pi_list (pv 0)) (pg_name (i := 2) sc_law_source.nd rfl (.inl rfl)) (pss_one (ps_set (i := 1) sc_law_source.nd rfl (.inl rfl)
      (pe_op op_modN (pe_callTy call_int1 (by rfl) mi PyProof.Rows.boot_int (pa_cons (pe_op op_add (pe_op op_add (pe_op op_mulX (pv 1) pe_int) (pe_op op_mulX (pv 2) pe_int)) pe_int) pa_nil)) pe_int))))
    (pss_one (ps_ret (pe_disp (pps_cons pe_str (pe_revL (pe_lc (own := [("cell", 2)]) rfl sc_law_source.nd (pi_list (pv 0)) (blkOk_by (N := N_law_source) (sc := defScope st_law_source) (own := [("cell", 2)]) (by decide +kernel))
      (fun _ _ _ _ _ => pg_name (i := 2) sc_law_source.nd rfl (.inl rfl)) (fun _ _ _ _ _ => pts_nil) (fun _ _ _ _ _ => pe_callB call_abs (by rfl) ma PyProof.Rows.boot_abs (pa_cons (pv 2) pa_nil)))) (pps_cons pe_str pe_int (pps_cons pe_str (pv 1) (pps_cons pe_str pe_int pps_nil)))) rfl rfl (by simp) (by decide))))), ?_⟩
  obtain ⟨a, ns, rfl, hS, hl, hb, q⟩ := h
  walk_at "D"
  refine ⟨_, rfl, ?_⟩
  walk_at "D"
  refine ⟨a, rfl, ⟨_, hS⟩, ?_⟩
  refine for_list (fun i σ H' => ∃ z x, σ = [some (.ref a), some (.int z), x] ∧ z.natAbs < 2 ^ 40 ∧ H' = H) ⟨31, none, rfl, by decide, rfl⟩ (fun i σ H' _ ⟨_, _, _, _, e⟩ => by rw [e]; exact hS) (fun i x σ H' hx ⟨z, y, e1, hz, e2⟩ => ?_) fun σ H' ⟨z, y, e1, hz, e2⟩ => ?_
  · subst e1 e2
    rw [List.getElem?_map] at hx
    obtain ⟨n, hn, rfl⟩ := Option.map_eq_some_iff.mp hx
    have hnb := PySem.intBits_le_iff.mp (hb n (List.mem_of_getElem? hn))
    walk_at "D"
    refine ⟨_, rfl, ?_⟩
    walk_at "D"
    refine ⟨z, 48271, rfl, rfl, cm_of (b := 20) hz (by decide) (by decide), ?_⟩
    walk_at "D"
    refine ⟨_, rfl, ?_⟩
    walk_at "D"
    refine ⟨n, 41, rfl, rfl, cm_of (b := 6) hnb (by decide) (by decide), ?_⟩
    walk_at "D"
    refine ⟨_, _, rfl, rfl, ?_⟩
    walk_at "D"
    refine ⟨_, _, rfl, rfl, ?_⟩
    walk_at "D"
    refine .inl ⟨_, rfl, ?_⟩
    walk_at "D"
    refine ⟨_, 2147483629, rfl, rfl, show (2147483629 : Int) ≠ 0 by decide, ?_⟩
    have b2 := fmod_bits (x := z * 48271 + n * 41 + 13) (q := 2147483629) (B := 31) (by decide) (by decide)
    exact ⟨_, _, rfl, bits_mono b2.2 (by decide), rfl⟩
  · subst e1 e2
    walk_at "D"
    intro p hp
    walk_at "D"
    refine ⟨_, rfl, ?_⟩
    walk_at "D"
    refine ⟨_, rfl, ?_⟩
    walk_at "D"
    have hSp : SqL K (upd H' p (.dK [])) a (ns.map V.int) := (Nst.lay (Same.refl H') hp).hxt.seq hS
    have hS' : ∀ {H2 : Hp}, Same (upd H' p (.dK [])) H2 → SqL K H2 a (ns.map V.int) := fun e => e.seq hSp
    refine ⟨⟨_, hSp⟩, fun D hD => ?_⟩
    refine lc_list (xs := ns.map V.int) (fun i H2 => ∃ acc : List Int, acc.length = i ∧ i ≤ ns.length ∧ Same (upd H' p (.dK [])) H2 ∧ H2 D = some (.lst (acc.map V.int))) ⟨[], rfl, Nat.zero_le _, (Nst.lay (Same.refl _) hD).hxt, upd_same⟩ (fun i H2 _ ⟨_, _, _, e, _⟩ => hS' e) (fun i x H2 hx ⟨acc, e1, e2, e3, e4⟩ => ?_) fun H2 ⟨acc, e1, e2, e3, e4⟩ => ?_
    · rw [List.getElem?_map] at hx
      obtain ⟨n, hn, rfl⟩ := Option.map_eq_some_iff.mp hx
      have hi := (List.getElem?_eq_some_iff.mp hn).1
      walk_at "D"
      refine ⟨rfl, ?_⟩
      walk_at "D"
      refine ⟨_, rfl, ?_⟩
      walk_at "D"
      refine ⟨n, rfl, ?_⟩
      have aD : ∀ {b : Addr} {o : HO}, (upd H' p (.dK [])) b = some o → b ≠ D := fun e => ne_of_none e hD
      refine ⟨_, e4, Nat.lt_of_le_of_lt (m := 63) (by rw [List.length_map]; omega) (by decide), acc ++ [if n < 0 then -n else n], by rw [List.length_append, e1]; rfl, by omega, fun b o e => ?_, ?_⟩
      · rw [upd_ne (aD e)]; exact e3 b o e
      · rw [upd_same, List.map_append]; rfl
    · rw [List.length_map] at e1
      have ep : H2 p = some (.dK []) := e3 p _ upd_same
      walk_at "D"
      refine ⟨D, _, rfl, .of e4, fun c hc => ?_⟩
      have hpc : p ≠ c := ne_of_none ep hc
      walk_at "D"
      refine ⟨_, rfl, ?_⟩
      walk_at "D"
      refine ⟨by rw [upd_ne hpc]; exact ep, [(Sum.inr kCells, .ref c), (Sum.inr kLeft, .int 0), (Sum.inr kMixed, .int z), (Sum.inr kTurn, .int 0)], rfl, show 4 ≤ 15 by decide, ?_⟩
      have eH : Same H' H2 := fun b o e => e3 b o (by rw [upd_ne (ne_of_none e hp)]; exact e)
      refine q _ p c acc.reverse 0 z (fun b o e => ?_) hp (eH.free hc) hpc upd_same ?_ (by rw [List.length_reverse]; omega)
      · have h2 := eH b o e
        rw [upd_ne (ne_of_none e hp), upd_ne (ne_of_none h2 hc)]; exact h2
      · rw [upd_ne (Ne.symm hpc), upd_same, List.map_reverse]
end
end K60


set_option Elab.async false
set_option linter.all false
set_option maxRecDepth 100000
set_option maxHeartbeats 4000000
/-! the end of K60, printed by asm.py -/
namespace K60
open PySem L2 Dat
section
variable {P : Program} {w : World} {K : PySem.W.Frag} {mg : Str → Option Value} {base : Heap}
theorem all_law {f_behind : Addr} {d_behind : FuncData} (F_behind_ : Fun K "behind" "behind" st_behind f_behind d_behind) (g_behind : mg "behind" = some (.ref f_behind)) {f_is_sheet : Addr} {d_is_sheet : FuncData} (F_is_sheet_ : Fun K "is_sheet" "is_sheet" st_is_sheet f_is_sheet d_is_sheet) (g_is_sheet : mg "is_sheet" = some (.ref f_is_sheet)) {f_is_shuffle : Addr} {d_is_shuffle : FuncData} (F_is_shuffle_ : Fun K "is_shuffle" "is_shuffle" st_is_shuffle f_is_shuffle d_is_shuffle) (g_is_shuffle : mg "is_shuffle" = some (.ref f_is_shuffle)) {f_shuffles_of : Addr} {d_shuffles_of : FuncData} (F_shuffles_of_ : Fun K "shuffles_of" "shuffles_of" st_shuffles_of f_shuffles_of d_shuffles_of) (g_shuffles_of : mg "shuffles_of" = some (.ref f_shuffles_of)) {f_is_deck : Addr} {d_is_deck : FuncData} (F_is_deck_ : Fun K "is_deck" "is_deck" st_is_deck f_is_deck d_is_deck) (g_is_deck : mg "is_deck" = some (.ref f_is_deck)) {f_decks_of : Addr} {d_decks_of : FuncData} (F_decks_of_ : Fun K "decks_of" "decks_of" st_decks_of f_decks_of d_decks_of) (g_decks_of : mg "decks_of" = some (.ref f_decks_of)) {f_judge_decks : Addr} {d_judge_decks : FuncData} (F_judge_decks_ : Fun K "judge_decks" "judge_decks" st_judge_decks f_judge_decks d_judge_decks) (g_judge_decks : mg "judge_decks" = some (.ref f_judge_decks)) {f_judge_alike : Addr} {d_judge_alike : FuncData} (F_judge_alike_ : Fun K "judge_alike" "judge_alike" st_judge_alike f_judge_alike d_judge_alike) (g_judge_alike : mg "judge_alike" = some (.ref f_judge_alike)) {f_law_source : Addr} {d_law_source : FuncData} (F_law_source_ : Fun K "_law_source" "_law_source" st_law_source f_law_source d_law_source) (g_law_source : mg "_law_source" = some (.ref f_law_source)) {f_law_pick : Addr} {d_law_pick : FuncData} (F_law_pick_ : Fun K "_law_pick" "_law_pick" st_law_pick f_law_pick d_law_pick) (g_law_pick : mg "_law_pick" = some (.ref f_law_pick)) {f_law_of : Addr} {d_law_of : FuncData} (F_law_of_ : Fun K "_law_of" "_law_of" st_law_of f_law_of d_law_of) (g_law_of : mg "_law_of" = some (.ref f_law_of)) {f_law_mixed : Addr} {d_law_mixed : FuncData} (F_law_mixed_ : Fun K "_law_mixed" "_law_mixed" st_law_mixed f_law_mixed d_law_mixed) (g_law_mixed : mg "_law_mixed" = some (.ref f_law_mixed)) {f_law_behind : Addr} {d_law_behind : FuncData} (F_law_behind_ : Fun K "_law_behind" "_law_behind" st_law_behind f_law_behind d_law_behind) (g_law_behind : mg "_law_behind" = some (.ref f_law_behind)) {f_law_back : Addr} {d_law_back : FuncData} (F_law_back_ : Fun K "_law_back" "_law_back" st_law_back f_law_back d_law_back) (g_law_back : mg "_law_back" = some (.ref f_law_back)) {f_law_word : Addr} {d_law_word : FuncData} (F_law_word_ : Fun K "_law_word" "_law_word" st_law_word f_law_word d_law_word) (g_law_word : mg "_law_word" = some (.ref f_law_word)) {f_law_round : Addr} {d_law_round : FuncData} (F_law_round_ : Fun K "_law_round" "_law_round" st_law_round f_law_round d_law_round) (g_law_round : mg "_law_round" = some (.ref f_law_round)) {f_law_type : Addr} {d_law_type : FuncData} (F_law_type_ : Fun K "_law_type" "_law_type" st_law_type f_law_type d_law_type) (g_law_type : mg "_law_type" = some (.ref f_law_type)) {f_law_laid : Addr} {d_law_laid : FuncData} (F_law_laid_ : Fun K "_law_laid" "_law_laid" st_law_laid f_law_laid d_law_laid) (g_law_laid : mg "_law_laid" = some (.ref f_law_laid)) {f_law_led : Addr} {d_law_led : FuncData} (F_law_led_ : Fun K "_law_led" "_law_led" st_law_led f_law_led d_law_led) (g_law_led : mg "_law_led" = some (.ref f_law_led)) {f_law_all_shuffles : Addr} {d_law_all_shuffles : FuncData} (F_law_all_shuffles_ : Fun K "_law_all_shuffles" "_law_all_shuffles" st_law_all_shuffles f_law_all_shuffles d_law_all_shuffles) (g_law_all_shuffles : mg "_law_all_shuffles" = some (.ref f_law_all_shuffles)) {f_law_own_decks : Addr} {d_law_own_decks : FuncData} (F_law_own_decks_ : Fun K "_law_own_decks" "_law_own_decks" st_law_own_decks f_law_own_decks d_law_own_decks) (g_law_own_decks : mg "_law_own_decks" = some (.ref f_law_own_decks)) {f_law_parted : Addr} {d_law_parted : FuncData} (F_law_parted_ : Fun K "_law_parted" "_law_parted" st_law_parted f_law_parted d_law_parted) (g_law_parted : mg "_law_parted" = some (.ref f_law_parted)) {f_law_some : Addr} {d_law_some : FuncData} (F_law_some_ : Fun K "_law_some" "_law_some" st_law_some f_law_some d_law_some) (g_law_some : mg "_law_some" = some (.ref f_law_some)) {f_law_is_shuffle : Addr} {d_law_is_shuffle : FuncData} (F_law_is_shuffle_ : Fun K "_law_is_shuffle" "_law_is_shuffle" st_law_is_shuffle f_law_is_shuffle d_law_is_shuffle) (g_law_is_shuffle : mg "_law_is_shuffle" = some (.ref f_law_is_shuffle)) {f_law_judged : Addr} {d_law_judged : FuncData} (F_law_judged_ : Fun K "_law_judged" "_law_judged" st_law_judged f_law_judged d_law_judged) (g_law_judged : mg "_law_judged" = some (.ref f_law_judged)) {f_law_called : Addr} {d_law_called : FuncData} (F_law_called_ : Fun K "_law_called" "_law_called" st_law_called f_law_called d_law_called) (g_law_called : mg "_law_called" = some (.ref f_law_called)) {f_law_odd : Addr} {d_law_odd : FuncData} (F_law_odd_ : Fun K "_law_odd" "_law_odd" st_law_odd f_law_odd d_law_odd) (g_law_odd : mg "_law_odd" = some (.ref f_law_odd)) {f_law_bent : Addr} {d_law_bent : FuncData} (F_law_bent_ : Fun K "_law_bent" "_law_bent" st_law_bent f_law_bent d_law_bent) (g_law_bent : mg "_law_bent" = some (.ref f_law_bent)) {f : Addr} {fd : FuncData} (F : Fun K "law" "law" st_law f fd) (bl : Bl mg) (x_abs : mg "abs" = none) : Kept P w K mg base f fd "script" 63 := by
  have b_behind : Binds K d_behind ["p", "q"] [] := F_behind_.binds fun _ _ _ _ _ _ us hl => match us, hl with | [_, _], _ => rfl
  have G_behind : FnOk P w K mg base CX0 1 f_behind d_behind ["p", "q"] (spD K 2 C_behind) := okD F_behind_ sc_behind rfl (by decide) (fun cdv A outer s H E hr => w_behind (k := 0) bl  cdv A outer s H E hr) (fun as Φ hl c => m_behind as Φ hl c)
  have c_behind : Cal P w K mg base 1 "behind" 2 C_behind := ⟨⟨f_behind, d_behind, _, G_behind, g_behind, F_behind_.kp, b_behind⟩⟩
  have b_is_sheet : Binds K d_is_sheet ["d", "value"] [] := F_is_sheet_.binds fun _ _ _ _ _ _ us hl => match us, hl with | [_, _], _ => rfl
  have G_is_sheet : FnOk P w K mg base CX0 1 f_is_sheet d_is_sheet ["d", "value"] (spD K 2 C_is_sheet) := okD F_is_sheet_ sc_is_sheet rfl (by decide) (fun cdv A outer s H E hr => w_is_sheet (k := 0) bl  cdv A outer s H E hr) (fun as Φ hl c => m_is_sheet as Φ hl c)
  have c_is_sheet : Cal P w K mg base 1 "is_sheet" 2 C_is_sheet := ⟨⟨f_is_sheet, d_is_sheet, _, G_is_sheet, g_is_sheet, F_is_sheet_.kp, b_is_sheet⟩⟩
  have b_shuffles_of : Binds K d_shuffles_of ["d"] [] := F_shuffles_of_.binds fun _ _ _ _ _ _ us hl => match us, hl with | [_], _ => rfl
  have G_shuffles_of : FnOk P w K mg base CX0 1 f_shuffles_of d_shuffles_of ["d"] (spD K 1 C_shuffles_of) := okD F_shuffles_of_ sc_shuffles_of rfl (by decide) (fun cdv A outer s H E hr => w_shuffles_of (k := 0) bl  cdv A outer s H E hr) (fun as Φ hl c => m_shuffles_of as Φ hl c)
  have c_shuffles_of : Cal P w K mg base 1 "shuffles_of" 1 C_shuffles_of := ⟨⟨f_shuffles_of, d_shuffles_of, _, G_shuffles_of, g_shuffles_of, F_shuffles_of_.kp, b_shuffles_of⟩⟩
  have b_law_source : Binds K d_law_source ["script"] [] := F_law_source_.binds fun _ _ _ _ _ _ us hl => match us, hl with | [_], _ => rfl
  have G_law_source : FnOk P w K mg base CX0 1 f_law_source d_law_source ["script"] (spO K) := ok_law_source F_law_source_ bl.n_int x_abs
  have b_law_pick : Binds K d_law_pick ["source", "many"] [] := F_law_pick_.binds fun _ _ _ _ _ _ us hl => match us, hl with | [_, _], _ => rfl
  have G_law_pick : FnOk P w K mg base CX0 1 f_law_pick d_law_pick ["source", "many"] (spD K 2 C_law_pick) := ok_law_pick F_law_pick_ ⟨bl.n_len, bl.n_int⟩
  have c_law_pick : Cal P w K mg base 1 "_law_pick" 2 C_law_pick := ⟨⟨f_law_pick, d_law_pick, _, G_law_pick, g_law_pick, F_law_pick_.kp, b_law_pick⟩⟩
  have b_law_behind : Binds K d_law_behind ["p", "q"] [] := F_law_behind_.binds fun _ _ _ _ _ _ us hl => match us, hl with | [_, _], _ => rfl
  have G_law_behind : FnOk P w K mg base CX0 1 f_law_behind d_law_behind ["p", "q"] (spD K 2 C_law_behind) := okD F_law_behind_ sc_law_behind rfl (by decide) (fun cdv A outer s H E hr => w_law_behind (k := 0) bl  cdv A outer s H E hr) (fun as Φ hl c => m_law_behind as Φ hl c)
  have c_law_behind : Cal P w K mg base 1 "_law_behind" 2 C_law_behind := ⟨⟨f_law_behind, d_law_behind, _, G_law_behind, g_law_behind, F_law_behind_.kp, b_law_behind⟩⟩
  have b_law_back : Binds K d_law_back ["p"] [] := F_law_back_.binds fun _ _ _ _ _ _ us hl => match us, hl with | [_], _ => rfl
  have G_law_back : FnOk P w K mg base CX0 1 f_law_back d_law_back ["p"] (spD K 1 C_law_back) := okD F_law_back_ sc_law_back rfl (by decide) (fun cdv A outer s H E hr => w_law_back (k := 0) bl  cdv A outer s H E hr) (fun as Φ hl c => m_law_back as Φ hl c)
  have c_law_back : Cal P w K mg base 1 "_law_back" 1 C_law_back := ⟨⟨f_law_back, d_law_back, _, G_law_back, g_law_back, F_law_back_.kp, b_law_back⟩⟩
  have b_law_round : Binds K d_law_round ["p", "i"] [] := F_law_round_.binds fun _ _ _ _ _ _ us hl => match us, hl with | [_, _], _ => rfl
  have G_law_round : FnOk P w K mg base CX0 1 f_law_round d_law_round ["p", "i"] (spD K 2 C_law_round) := okD F_law_round_ sc_law_round rfl (by decide) (fun cdv A outer s H E hr => w_law_round (k := 0) bl  cdv A outer s H E hr) (fun as Φ hl c => m_law_round as Φ hl c)
  have c_law_round : Cal P w K mg base 1 "_law_round" 2 C_law_round := ⟨⟨f_law_round, d_law_round, _, G_law_round, g_law_round, F_law_round_.kp, b_law_round⟩⟩
  have b_law_all_shuffles : Binds K d_law_all_shuffles ["d"] [] := F_law_all_shuffles_.binds fun _ _ _ _ _ _ us hl => match us, hl with | [_], _ => rfl
  have G_law_all_shuffles : FnOk P w K mg base CX0 1 f_law_all_shuffles d_law_all_shuffles ["d"] (spD K 1 C_law_all_shuffles) := okD F_law_all_shuffles_ sc_law_all_shuffles rfl (by decide) (fun cdv A outer s H E hr => w_law_all_shuffles (k := 0) bl  cdv A outer s H E hr) (fun as Φ hl c => m_law_all_shuffles as Φ hl c)
  have c_law_all_shuffles : Cal P w K mg base 1 "_law_all_shuffles" 1 C_law_all_shuffles := ⟨⟨f_law_all_shuffles, d_law_all_shuffles, _, G_law_all_shuffles, g_law_all_shuffles, F_law_all_shuffles_.kp, b_law_all_shuffles⟩⟩
  have b_law_is_shuffle : Binds K d_law_is_shuffle ["d", "value"] [] := F_law_is_shuffle_.binds fun _ _ _ _ _ _ us hl => match us, hl with | [_, _], _ => rfl
  have G_law_is_shuffle : FnOk P w K mg base CX0 1 f_law_is_shuffle d_law_is_shuffle ["d", "value"] (spD K 2 C_law_is_shuffle) := okD F_law_is_shuffle_ sc_law_is_shuffle rfl (by decide) (fun cdv A outer s H E hr => w_law_is_shuffle (k := 0) bl  cdv A outer s H E hr) (fun as Φ hl c => m_law_is_shuffle as Φ hl c)
  have c_law_is_shuffle : Cal P w K mg base 1 "_law_is_shuffle" 2 C_law_is_shuffle := ⟨⟨f_law_is_shuffle, d_law_is_shuffle, _, G_law_is_shuffle, g_law_is_shuffle, F_law_is_shuffle_.kp, b_law_is_shuffle⟩⟩
  have b_is_shuffle : Binds K d_is_shuffle ["d", "value"] [] := F_is_shuffle_.binds fun _ _ _ _ _ _ us hl => match us, hl with | [_, _], _ => rfl
  have G_is_shuffle : FnOk P w K mg base CX0 2 f_is_shuffle d_is_shuffle ["d", "value"] (spD K 2 C_is_shuffle) := okD F_is_shuffle_ sc_is_shuffle rfl (by decide) (fun cdv A outer s H E hr => w_is_shuffle (k := 1) bl (c_is_sheet.mono (by decide)) cdv A outer s H E hr) (fun as Φ hl c => m_is_shuffle as Φ hl c)
  have c_is_shuffle : Cal P w K mg base 2 "is_shuffle" 2 C_is_shuffle := ⟨⟨f_is_shuffle, d_is_shuffle, _, G_is_shuffle, g_is_shuffle, F_is_shuffle_.kp, b_is_shuffle⟩⟩
  have b_is_deck : Binds K d_is_deck ["laying", "s"] [] := F_is_deck_.binds fun _ _ _ _ _ _ us hl => match us, hl with | [_, _], _ => rfl
  have G_is_deck : FnOk P w K mg base CX0 2 f_is_deck d_is_deck ["laying", "s"] (spD K 2 C_is_deck) := okD F_is_deck_ sc_is_deck rfl (by decide) (fun cdv A outer s H E hr => w_is_deck (k := 1) bl (c_behind.mono (by decide)) cdv A outer s H E hr) (fun as Φ hl c => m_is_deck as Φ hl c)
  have c_is_deck : Cal P w K mg base 2 "is_deck" 2 C_is_deck := ⟨⟨f_is_deck, d_is_deck, _, G_is_deck, g_is_deck, F_is_deck_.kp, b_is_deck⟩⟩
  have b_law_of : Binds K d_law_of ["source", "some"] [] := F_law_of_.binds fun _ _ _ _ _ _ us hl => match us, hl with | [_, _], _ => rfl
  have G_law_of : FnOk P w K mg base CX0 2 f_law_of d_law_of ["source", "some"] (spD K 2 C_law_of) := okD F_law_of_ sc_law_of rfl (by decide) (fun cdv A outer s H E hr => w_law_of (k := 1) bl (c_law_pick.mono (by decide)) cdv A outer s H E hr) (fun as Φ hl c => m_law_of as Φ hl c)
  have c_law_of : Cal P w K mg base 2 "_law_of" 2 C_law_of := ⟨⟨f_law_of, d_law_of, _, G_law_of, g_law_of, F_law_of_.kp, b_law_of⟩⟩
  have b_law_mixed : Binds K d_law_mixed ["source", "things"] [] := F_law_mixed_.binds fun _ _ _ _ _ _ us hl => match us, hl with | [_, _], _ => rfl
  have G_law_mixed : FnOk P w K mg base CX0 2 f_law_mixed d_law_mixed ["source", "things"] (spD K 2 C_law_mixed) := okD F_law_mixed_ sc_law_mixed rfl (by decide) (fun cdv A outer s H E hr => w_law_mixed (k := 1) bl (c_law_pick.mono (by decide)) cdv A outer s H E hr) (fun as Φ hl c => m_law_mixed as Φ hl c)
  have c_law_mixed : Cal P w K mg base 2 "_law_mixed" 2 C_law_mixed := ⟨⟨f_law_mixed, d_law_mixed, _, G_law_mixed, g_law_mixed, F_law_mixed_.kp, b_law_mixed⟩⟩
  have b_law_word : Binds K d_law_word ["data", "laying"] [] := F_law_word_.binds fun _ _ _ _ _ _ us hl => match us, hl with | [_, _], _ => rfl
  have G_law_word : FnOk P w K mg base CX0 2 f_law_word d_law_word ["data", "laying"] (spD K 2 C_law_word) := okD F_law_word_ sc_law_word rfl (by decide) (fun cdv A outer s H E hr => w_law_word (k := 1) bl (c_law_behind.mono (by decide)) (c_law_back.mono (by decide)) cdv A outer s H E hr) (fun as Φ hl c => m_law_word as Φ hl c)
  have c_law_word : Cal P w K mg base 2 "_law_word" 2 C_law_word := ⟨⟨f_law_word, d_law_word, _, G_law_word, g_law_word, F_law_word_.kp, b_law_word⟩⟩
  have b_law_type : Binds K d_law_type ["p"] [] := F_law_type_.binds fun _ _ _ _ _ _ us hl => match us, hl with | [_], _ => rfl
  have G_law_type : FnOk P w K mg base CX0 2 f_law_type d_law_type ["p"] (spD K 1 C_law_type) := okD F_law_type_ sc_law_type rfl (by decide) (fun cdv A outer s H E hr => w_law_type (k := 1) bl (c_law_round.mono (by decide)) cdv A outer s H E hr) (fun as Φ hl c => m_law_type as Φ hl c)
  have c_law_type : Cal P w K mg base 2 "_law_type" 1 C_law_type := ⟨⟨f_law_type, d_law_type, _, G_law_type, g_law_type, F_law_type_.kp, b_law_type⟩⟩
  have b_law_led : Binds K d_law_led ["laying", "s"] [] := F_law_led_.binds fun _ _ _ _ _ _ us hl => match us, hl with | [_, _], _ => rfl
  have G_law_led : FnOk P w K mg base CX0 2 f_law_led d_law_led ["laying", "s"] (spD K 2 C_law_led) := okD F_law_led_ sc_law_led rfl (by decide) (fun cdv A outer s H E hr => w_law_led (k := 1) bl (c_law_behind.mono (by decide)) (c_law_back.mono (by decide)) cdv A outer s H E hr) (fun as Φ hl c => m_law_led as Φ hl c)
  have c_law_led : Cal P w K mg base 2 "_law_led" 2 C_law_led := ⟨⟨f_law_led, d_law_led, _, G_law_led, g_law_led, F_law_led_.kp, b_law_led⟩⟩
  have b_law_called : Binds K d_law_called ["d", "one", "other", "value"] [] := F_law_called_.binds fun _ _ _ _ _ _ us hl => match us, hl with | [_, _, _, _], _ => rfl
  have G_law_called : FnOk P w K mg base CX0 2 f_law_called d_law_called ["d", "one", "other", "value"] (spD K 4 C_law_called) := okD F_law_called_ sc_law_called rfl (by decide) (fun cdv A outer s H E hr => w_law_called (k := 1) bl (c_law_is_shuffle.mono (by decide)) cdv A outer s H E hr) (fun as Φ hl c => m_law_called as Φ hl c)
  have c_law_called : Cal P w K mg base 2 "_law_called" 4 C_law_called := ⟨⟨f_law_called, d_law_called, _, G_law_called, g_law_called, F_law_called_.kp, b_law_called⟩⟩
  have b_decks_of : Binds K d_decks_of ["d", "laying"] [] := F_decks_of_.binds fun _ _ _ _ _ _ us hl => match us, hl with | [_, _], _ => rfl
  have G_decks_of : FnOk P w K mg base CX0 3 f_decks_of d_decks_of ["d", "laying"] (spD K 2 C_decks_of) := okD F_decks_of_ sc_decks_of rfl (by decide) (fun cdv A outer s H E hr => w_decks_of (k := 2) bl (c_shuffles_of.mono (by decide)) (c_is_deck.mono (by decide)) cdv A outer s H E hr) (fun as Φ hl c => m_decks_of as Φ hl c)
  have c_decks_of : Cal P w K mg base 3 "decks_of" 2 C_decks_of := ⟨⟨f_decks_of, d_decks_of, _, G_decks_of, g_decks_of, F_decks_of_.kp, b_decks_of⟩⟩
  have b_judge_alike : Binds K d_judge_alike ["d", "one", "other", "value"] [] := F_judge_alike_.binds fun _ _ _ _ _ _ us hl => match us, hl with | [_, _, _, _], _ => rfl
  have G_judge_alike : FnOk P w K mg base CX0 3 f_judge_alike d_judge_alike ["d", "one", "other", "value"] (spD K 4 C_judge_alike) := okD F_judge_alike_ sc_judge_alike rfl (by decide) (fun cdv A outer s H E hr => w_judge_alike (k := 2) bl (c_is_shuffle.mono (by decide)) cdv A outer s H E hr) (fun as Φ hl c => m_judge_alike as Φ hl c)
  have c_judge_alike : Cal P w K mg base 3 "judge_alike" 4 C_judge_alike := ⟨⟨f_judge_alike, d_judge_alike, _, G_judge_alike, g_judge_alike, F_judge_alike_.kp, b_judge_alike⟩⟩
  have b_law_laid : Binds K d_law_laid ["source", "d", "base", "many"] [] := F_law_laid_.binds fun _ _ _ _ _ _ us hl => match us, hl with | [_, _, _, _], _ => rfl
  have G_law_laid : FnOk P w K mg base CX0 3 f_law_laid d_law_laid ["source", "d", "base", "many"] (spD K 4 C_law_laid) := okD F_law_laid_ sc_law_laid rfl (by decide) (fun cdv A outer s H E hr => w_law_laid (k := 2) bl (c_law_type.mono (by decide)) (c_law_back.mono (by decide)) (c_law_word.mono (by decide)) (c_law_mixed.mono (by decide)) (c_law_pick.mono (by decide)) (c_law_behind.mono (by decide)) cdv A outer s H E hr) (fun as Φ hl c => m_law_laid as Φ hl c)
  have c_law_laid : Cal P w K mg base 3 "_law_laid" 4 C_law_laid := ⟨⟨f_law_laid, d_law_laid, _, G_law_laid, g_law_laid, F_law_laid_.kp, b_law_laid⟩⟩
  have b_law_own_decks : Binds K d_law_own_decks ["d", "laying"] [] := F_law_own_decks_.binds fun _ _ _ _ _ _ us hl => match us, hl with | [_, _], _ => rfl
  have G_law_own_decks : FnOk P w K mg base CX0 3 f_law_own_decks d_law_own_decks ["d", "laying"] (spD K 2 C_law_own_decks) := okD F_law_own_decks_ sc_law_own_decks rfl (by decide) (fun cdv A outer s H E hr => w_law_own_decks (k := 2) bl (c_law_all_shuffles.mono (by decide)) (c_law_led.mono (by decide)) cdv A outer s H E hr) (fun as Φ hl c => m_law_own_decks as Φ hl c)
  have c_law_own_decks : Cal P w K mg base 3 "_law_own_decks" 2 C_law_own_decks := ⟨⟨f_law_own_decks, d_law_own_decks, _, G_law_own_decks, g_law_own_decks, F_law_own_decks_.kp, b_law_own_decks⟩⟩
  have b_law_odd : Binds K d_law_odd ["source", "d"] [] := F_law_odd_.binds fun _ _ _ _ _ _ us hl => match us, hl with | [_, _], _ => rfl
  have G_law_odd : FnOk P w K mg base CX0 3 f_law_odd d_law_odd ["source", "d"] (spD K 2 C_law_odd) := okD F_law_odd_ sc_law_odd rfl (by decide) (fun cdv A outer s H E hr => w_law_odd (k := 2) bl (c_law_of.mono (by decide)) (c_law_mixed.mono (by decide)) cdv A outer s H E hr) (fun as Φ hl c => m_law_odd as Φ hl c)
  have c_law_odd : Cal P w K mg base 3 "_law_odd" 2 C_law_odd := ⟨⟨f_law_odd, d_law_odd, _, G_law_odd, g_law_odd, F_law_odd_.kp, b_law_odd⟩⟩
  have b_judge_decks : Binds K d_judge_decks ["d", "laying", "value"] [] := F_judge_decks_.binds fun _ _ _ _ _ _ us hl => match us, hl with | [_, _, _], _ => rfl
  have G_judge_decks : FnOk P w K mg base CX0 4 f_judge_decks d_judge_decks ["d", "laying", "value"] (spD K 3 C_judge_decks) := okD F_judge_decks_ sc_judge_decks rfl (by decide) (fun cdv A outer s H E hr => w_judge_decks (k := 3) bl (c_decks_of.mono (by decide)) (c_is_deck.mono (by decide)) (c_is_shuffle.mono (by decide)) cdv A outer s H E hr) (fun as Φ hl c => m_judge_decks as Φ hl c)
  have c_judge_decks : Cal P w K mg base 4 "judge_decks" 3 C_judge_decks := ⟨⟨f_judge_decks, d_judge_decks, _, G_judge_decks, g_judge_decks, F_judge_decks_.kp, b_judge_decks⟩⟩
  have b_law_parted : Binds K d_law_parted ["source", "base", "many", "sizes"] [] := F_law_parted_.binds fun _ _ _ _ _ _ us hl => match us, hl with | [_, _, _, _], _ => rfl
  have G_law_parted : FnOk P w K mg base CX0 4 f_law_parted d_law_parted ["source", "base", "many", "sizes"] (spD K 4 C_law_parted) := okD F_law_parted_ sc_law_parted rfl (by decide) (fun cdv A outer s H E hr => w_law_parted (k := 3) bl (c_law_type.mono (by decide)) (c_law_mixed.mono (by decide)) (c_law_pick.mono (by decide)) (c_law_laid.mono (by decide)) cdv A outer s H E hr) (fun as Φ hl c => m_law_parted as Φ hl c)
  have c_law_parted : Cal P w K mg base 4 "_law_parted" 4 C_law_parted := ⟨⟨f_law_parted, d_law_parted, _, G_law_parted, g_law_parted, F_law_parted_.kp, b_law_parted⟩⟩
  have b_law_judged : Binds K d_law_judged ["d", "laying", "value"] [] := F_law_judged_.binds fun _ _ _ _ _ _ us hl => match us, hl with | [_, _, _], _ => rfl
  have G_law_judged : FnOk P w K mg base CX0 4 f_law_judged d_law_judged ["d", "laying", "value"] (spD K 3 C_law_judged) := okD F_law_judged_ sc_law_judged rfl (by decide) (fun cdv A outer s H E hr => w_law_judged (k := 3) bl (c_law_own_decks.mono (by decide)) (c_law_is_shuffle.mono (by decide)) cdv A outer s H E hr) (fun as Φ hl c => m_law_judged as Φ hl c)
  have c_law_judged : Cal P w K mg base 4 "_law_judged" 3 C_law_judged := ⟨⟨f_law_judged, d_law_judged, _, G_law_judged, g_law_judged, F_law_judged_.kp, b_law_judged⟩⟩
  have b_law_bent : Binds K d_law_bent ["source", "d", "decks"] [] := F_law_bent_.binds fun _ _ _ _ _ _ us hl => match us, hl with | [_, _, _], _ => rfl
  have G_law_bent : FnOk P w K mg base CX0 4 f_law_bent d_law_bent ["source", "d", "decks"] (spD K 3 C_law_bent) := okD F_law_bent_ sc_law_bent rfl (by decide) (fun cdv A outer s H E hr => w_law_bent (k := 3) bl (c_law_of.mono (by decide)) (c_law_all_shuffles.mono (by decide)) (c_law_mixed.mono (by decide)) (c_law_odd.mono (by decide)) (c_law_pick.mono (by decide)) cdv A outer s H E hr) (fun as Φ hl c => m_law_bent as Φ hl c)
  have c_law_bent : Cal P w K mg base 4 "_law_bent" 3 C_law_bent := ⟨⟨f_law_bent, d_law_bent, _, G_law_bent, g_law_bent, F_law_bent_.kp, b_law_bent⟩⟩
  have b_law_some : Binds K d_law_some ["source"] [] := F_law_some_.binds fun _ _ _ _ _ _ us hl => match us, hl with | [_], _ => rfl
  have G_law_some : FnOk P w K mg base CX0 5 f_law_some d_law_some ["source"] (spD K 1 C_law_some) := okD F_law_some_ sc_law_some rfl (by decide) (fun cdv A outer s H E hr => w_law_some (k := 4) bl (c_law_pick.mono (by decide)) (c_law_parted.mono (by decide)) (c_law_of.mono (by decide)) cdv A outer s H E hr) (fun as Φ hl c => m_law_some as Φ hl c)
  have c_law_some : Cal P w K mg base 5 "_law_some" 1 C_law_some := ⟨⟨f_law_some, d_law_some, _, G_law_some, g_law_some, F_law_some_.kp, b_law_some⟩⟩
  intro s H a ns e0 hbt hS hl hbits
  refine fn_here (k := 5) (us := [.ref a]) (vs := [.ref a]) F sc_law rfl ⟨rfl, by decide, by decide⟩ e0 hbt (.cons rfl .nil) fun cdv hr => ?_
  refine ⟨_, PSs.nox (pss_cons (ps_set (i := 1) sc_law.nd rfl (by first | exact .inl rfl | exact .inr rfl) (pe_call G_law_source (hr.mono (by decide)) (by rfl) g_law_source F_law_source_.kp b_law_source .nil pass0 (pa_cons (pv 0) pa_nil)))
    (w_law (k := 5) bl (c_judge_alike.mono (by decide)) (c_law_called.mono (by decide)) (c_law_odd.mono (by decide)) (c_law_led.mono (by decide)) (c_law_mixed.mono (by decide)) (c_judge_decks.mono (by decide)) (c_law_judged.mono (by decide)) (c_law_bent.mono (by decide)) (c_law_own_decks.mono (by decide)) (c_law_some.mono (by decide)) cdv callerA [] s H E0 rfl hr)), ?_⟩
  refine ⟨_, rfl, ?_⟩
  refine ⟨a, ns, rfl, hS, hl, hbits, fun H' p c cs l m hs hp hc hpc h1 h2 h3 => ?_⟩
  refine ⟨(fun _ => none, H'), some (p, c, 100000), .un :: .sr 0 100000 :: List.replicate 11 .un, fun _ => none, { nx := fun _ => PyData.none = .bool true, rt := fun d => d = .bool true }, ?_, ?_, ?_⟩
  · exact law_start hpc h1 h2 h3 rfl rfl
  · exact m_law (fun d => d = .bool true) rfl
  · refine ⟨fun ρ σ G H q _ => (nomatch q), fun d v ρ σ G H q _ t => ?_, fun _ _ _ _ q _ => False.elim q, fun _ _ _ _ q _ => False.elim q⟩
    subst q
    cases t
    rfl
end
theorem all_mk {l : PySem.W.OpenLaw} {w : World} {K : PySem.W.Frag} {h : Heap} {mg : Str → Option Value} {fa fbehind fis_sheet fis_shuffle fshuffles_of fis_deck fdecks_of fjudge_decks fjudge_alike flaw_source flaw_pick flaw_of flaw_mixed flaw_behind flaw_back flaw_word flaw_round flaw_type flaw_laid flaw_led flaw_all_shuffles flaw_own_decks flaw_parted flaw_some flaw_is_shuffle flaw_judged flaw_called flaw_odd flaw_bent flaw : Addr} (X : K.In h) (G : h.Ns mainGlobals mg) (hfa : mg "law" = some (.ref fa))
    {od_behind an_behind od_is_sheet an_is_sheet od_is_shuffle an_is_shuffle od_shuffles_of an_shuffles_of od_is_deck an_is_deck od_decks_of an_decks_of od_judge_decks an_judge_decks od_judge_alike an_judge_alike od_law_source an_law_source od_law_pick an_law_pick od_law_of an_law_of od_law_mixed an_law_mixed od_law_behind an_law_behind od_law_back an_law_back od_law_word an_law_word od_law_round an_law_round od_law_type an_law_type od_law_laid an_law_laid od_law_led an_law_led od_law_all_shuffles an_law_all_shuffles od_law_own_decks an_law_own_decks od_law_parted an_law_parted od_law_some an_law_some od_law_is_shuffle an_law_is_shuffle od_law_judged an_law_judged od_law_called an_law_called od_law_odd an_law_odd od_law_bent an_law_bent od_law an_law : Option Addr} {sl_behind sl_is_sheet sl_is_shuffle sl_shuffles_of sl_is_deck sl_decks_of sl_judge_decks sl_judge_alike sl_law_source sl_law_pick sl_law_of sl_law_mixed sl_law_behind sl_law_back sl_law_word sl_law_round sl_law_type sl_law_laid sl_law_led sl_law_all_shuffles sl_law_own_decks sl_law_parted sl_law_some sl_law_is_shuffle sl_law_judged sl_law_called sl_law_odd sl_law_bent sl_law : Array (Option Value)} {oc_behind kV_behind dc_behind pm_behind cd_behind ct_behind oc_is_sheet kV_is_sheet dc_is_sheet pm_is_sheet cd_is_sheet ct_is_sheet oc_is_shuffle kV_is_shuffle dc_is_shuffle pm_is_shuffle cd_is_shuffle ct_is_shuffle oc_shuffles_of kV_shuffles_of dc_shuffles_of pm_shuffles_of cd_shuffles_of ct_shuffles_of oc_is_deck kV_is_deck dc_is_deck pm_is_deck cd_is_deck ct_is_deck oc_decks_of kV_decks_of dc_decks_of pm_decks_of cd_decks_of ct_decks_of oc_judge_decks kV_judge_decks dc_judge_decks pm_judge_decks cd_judge_decks ct_judge_decks oc_judge_alike kV_judge_alike dc_judge_alike pm_judge_alike cd_judge_alike ct_judge_alike oc_law_source kV_law_source dc_law_source pm_law_source cd_law_source ct_law_source oc_law_pick kV_law_pick dc_law_pick pm_law_pick cd_law_pick ct_law_pick oc_law_of kV_law_of dc_law_of pm_law_of cd_law_of ct_law_of oc_law_mixed kV_law_mixed dc_law_mixed pm_law_mixed cd_law_mixed ct_law_mixed oc_law_behind kV_law_behind dc_law_behind pm_law_behind cd_law_behind ct_law_behind oc_law_back kV_law_back dc_law_back pm_law_back cd_law_back ct_law_back oc_law_word kV_law_word dc_law_word pm_law_word cd_law_word ct_law_word oc_law_round kV_law_round dc_law_round pm_law_round cd_law_round ct_law_round oc_law_type kV_law_type dc_law_type pm_law_type cd_law_type ct_law_type oc_law_laid kV_law_laid dc_law_laid pm_law_laid cd_law_laid ct_law_laid oc_law_led kV_law_led dc_law_led pm_law_led cd_law_led ct_law_led oc_law_all_shuffles kV_law_all_shuffles dc_law_all_shuffles pm_law_all_shuffles cd_law_all_shuffles ct_law_all_shuffles oc_law_own_decks kV_law_own_decks dc_law_own_decks pm_law_own_decks cd_law_own_decks ct_law_own_decks oc_law_parted kV_law_parted dc_law_parted pm_law_parted cd_law_parted ct_law_parted oc_law_some kV_law_some dc_law_some pm_law_some cd_law_some ct_law_some oc_law_is_shuffle kV_law_is_shuffle dc_law_is_shuffle pm_law_is_shuffle cd_law_is_shuffle ct_law_is_shuffle oc_law_judged kV_law_judged dc_law_judged pm_law_judged cd_law_judged ct_law_judged oc_law_called kV_law_called dc_law_called pm_law_called cd_law_called ct_law_called oc_law_odd kV_law_odd dc_law_odd pm_law_odd cd_law_odd ct_law_odd oc_law_bent kV_law_bent dc_law_bent pm_law_bent cd_law_bent ct_law_bent oc_law kV_law dc_law pm_law cd_law ct_law : Value}
    (a_behind : PySem.W.nsIn K mainGlobals "behind" = some (some (.ref fbehind))) (l_behind : K.lookup fbehind = some ⟨oc_behind, od_behind, .func (PySem.W.fnOf "behind" "behind" (defArgs st_behind) (defBody st_behind) (defScope st_behind) .none kV_behind dc_behind pm_behind an_behind cd_behind ct_behind), sl_behind⟩) (c_behind : PySem.W.codeIn K cd_behind "behind" = true) (k_behind : PySem.W.keepIn K (.ref fbehind) = true)
    (a_is_sheet : PySem.W.nsIn K mainGlobals "is_sheet" = some (some (.ref fis_sheet))) (l_is_sheet : K.lookup fis_sheet = some ⟨oc_is_sheet, od_is_sheet, .func (PySem.W.fnOf "is_sheet" "is_sheet" (defArgs st_is_sheet) (defBody st_is_sheet) (defScope st_is_sheet) .none kV_is_sheet dc_is_sheet pm_is_sheet an_is_sheet cd_is_sheet ct_is_sheet), sl_is_sheet⟩) (c_is_sheet : PySem.W.codeIn K cd_is_sheet "is_sheet" = true) (k_is_sheet : PySem.W.keepIn K (.ref fis_sheet) = true)
    (a_is_shuffle : PySem.W.nsIn K mainGlobals "is_shuffle" = some (some (.ref fis_shuffle))) (l_is_shuffle : K.lookup fis_shuffle = some ⟨oc_is_shuffle, od_is_shuffle, .func (PySem.W.fnOf "is_shuffle" "is_shuffle" (defArgs st_is_shuffle) (defBody st_is_shuffle) (defScope st_is_shuffle) .none kV_is_shuffle dc_is_shuffle pm_is_shuffle an_is_shuffle cd_is_shuffle ct_is_shuffle), sl_is_shuffle⟩) (c_is_shuffle : PySem.W.codeIn K cd_is_shuffle "is_shuffle" = true) (k_is_shuffle : PySem.W.keepIn K (.ref fis_shuffle) = true)
    (a_shuffles_of : PySem.W.nsIn K mainGlobals "shuffles_of" = some (some (.ref fshuffles_of))) (l_shuffles_of : K.lookup fshuffles_of = some ⟨oc_shuffles_of, od_shuffles_of, .func (PySem.W.fnOf "shuffles_of" "shuffles_of" (defArgs st_shuffles_of) (defBody st_shuffles_of) (defScope st_shuffles_of) .none kV_shuffles_of dc_shuffles_of pm_shuffles_of an_shuffles_of cd_shuffles_of ct_shuffles_of), sl_shuffles_of⟩) (c_shuffles_of : PySem.W.codeIn K cd_shuffles_of "shuffles_of" = true) (k_shuffles_of : PySem.W.keepIn K (.ref fshuffles_of) = true)
    (a_is_deck : PySem.W.nsIn K mainGlobals "is_deck" = some (some (.ref fis_deck))) (l_is_deck : K.lookup fis_deck = some ⟨oc_is_deck, od_is_deck, .func (PySem.W.fnOf "is_deck" "is_deck" (defArgs st_is_deck) (defBody st_is_deck) (defScope st_is_deck) .none kV_is_deck dc_is_deck pm_is_deck an_is_deck cd_is_deck ct_is_deck), sl_is_deck⟩) (c_is_deck : PySem.W.codeIn K cd_is_deck "is_deck" = true) (k_is_deck : PySem.W.keepIn K (.ref fis_deck) = true)
    (a_decks_of : PySem.W.nsIn K mainGlobals "decks_of" = some (some (.ref fdecks_of))) (l_decks_of : K.lookup fdecks_of = some ⟨oc_decks_of, od_decks_of, .func (PySem.W.fnOf "decks_of" "decks_of" (defArgs st_decks_of) (defBody st_decks_of) (defScope st_decks_of) .none kV_decks_of dc_decks_of pm_decks_of an_decks_of cd_decks_of ct_decks_of), sl_decks_of⟩) (c_decks_of : PySem.W.codeIn K cd_decks_of "decks_of" = true) (k_decks_of : PySem.W.keepIn K (.ref fdecks_of) = true)
    (a_judge_decks : PySem.W.nsIn K mainGlobals "judge_decks" = some (some (.ref fjudge_decks))) (l_judge_decks : K.lookup fjudge_decks = some ⟨oc_judge_decks, od_judge_decks, .func (PySem.W.fnOf "judge_decks" "judge_decks" (defArgs st_judge_decks) (defBody st_judge_decks) (defScope st_judge_decks) .none kV_judge_decks dc_judge_decks pm_judge_decks an_judge_decks cd_judge_decks ct_judge_decks), sl_judge_decks⟩) (c_judge_decks : PySem.W.codeIn K cd_judge_decks "judge_decks" = true) (k_judge_decks : PySem.W.keepIn K (.ref fjudge_decks) = true)
    (a_judge_alike : PySem.W.nsIn K mainGlobals "judge_alike" = some (some (.ref fjudge_alike))) (l_judge_alike : K.lookup fjudge_alike = some ⟨oc_judge_alike, od_judge_alike, .func (PySem.W.fnOf "judge_alike" "judge_alike" (defArgs st_judge_alike) (defBody st_judge_alike) (defScope st_judge_alike) .none kV_judge_alike dc_judge_alike pm_judge_alike an_judge_alike cd_judge_alike ct_judge_alike), sl_judge_alike⟩) (c_judge_alike : PySem.W.codeIn K cd_judge_alike "judge_alike" = true) (k_judge_alike : PySem.W.keepIn K (.ref fjudge_alike) = true)
    (a_law_source : PySem.W.nsIn K mainGlobals "_law_source" = some (some (.ref flaw_source))) (l_law_source : K.lookup flaw_source = some ⟨oc_law_source, od_law_source, .func (PySem.W.fnOf "_law_source" "_law_source" (defArgs st_law_source) (defBody st_law_source) (defScope st_law_source) .none kV_law_source dc_law_source pm_law_source an_law_source cd_law_source ct_law_source), sl_law_source⟩) (c_law_source : PySem.W.codeIn K cd_law_source "_law_source" = true) (k_law_source : PySem.W.keepIn K (.ref flaw_source) = true)
    (a_law_pick : PySem.W.nsIn K mainGlobals "_law_pick" = some (some (.ref flaw_pick))) (l_law_pick : K.lookup flaw_pick = some ⟨oc_law_pick, od_law_pick, .func (PySem.W.fnOf "_law_pick" "_law_pick" (defArgs st_law_pick) (defBody st_law_pick) (defScope st_law_pick) .none kV_law_pick dc_law_pick pm_law_pick an_law_pick cd_law_pick ct_law_pick), sl_law_pick⟩) (c_law_pick : PySem.W.codeIn K cd_law_pick "_law_pick" = true) (k_law_pick : PySem.W.keepIn K (.ref flaw_pick) = true)
    (a_law_of : PySem.W.nsIn K mainGlobals "_law_of" = some (some (.ref flaw_of))) (l_law_of : K.lookup flaw_of = some ⟨oc_law_of, od_law_of, .func (PySem.W.fnOf "_law_of" "_law_of" (defArgs st_law_of) (defBody st_law_of) (defScope st_law_of) .none kV_law_of dc_law_of pm_law_of an_law_of cd_law_of ct_law_of), sl_law_of⟩) (c_law_of : PySem.W.codeIn K cd_law_of "_law_of" = true) (k_law_of : PySem.W.keepIn K (.ref flaw_of) = true)
    (a_law_mixed : PySem.W.nsIn K mainGlobals "_law_mixed" = some (some (.ref flaw_mixed))) (l_law_mixed : K.lookup flaw_mixed = some ⟨oc_law_mixed, od_law_mixed, .func (PySem.W.fnOf "_law_mixed" "_law_mixed" (defArgs st_law_mixed) (defBody st_law_mixed) (defScope st_law_mixed) .none kV_law_mixed dc_law_mixed pm_law_mixed an_law_mixed cd_law_mixed ct_law_mixed), sl_law_mixed⟩) (c_law_mixed : PySem.W.codeIn K cd_law_mixed "_law_mixed" = true) (k_law_mixed : PySem.W.keepIn K (.ref flaw_mixed) = true)
    (a_law_behind : PySem.W.nsIn K mainGlobals "_law_behind" = some (some (.ref flaw_behind))) (l_law_behind : K.lookup flaw_behind = some ⟨oc_law_behind, od_law_behind, .func (PySem.W.fnOf "_law_behind" "_law_behind" (defArgs st_law_behind) (defBody st_law_behind) (defScope st_law_behind) .none kV_law_behind dc_law_behind pm_law_behind an_law_behind cd_law_behind ct_law_behind), sl_law_behind⟩) (c_law_behind : PySem.W.codeIn K cd_law_behind "_law_behind" = true) (k_law_behind : PySem.W.keepIn K (.ref flaw_behind) = true)
    (a_law_back : PySem.W.nsIn K mainGlobals "_law_back" = some (some (.ref flaw_back))) (l_law_back : K.lookup flaw_back = some ⟨oc_law_back, od_law_back, .func (PySem.W.fnOf "_law_back" "_law_back" (defArgs st_law_back) (defBody st_law_back) (defScope st_law_back) .none kV_law_back dc_law_back pm_law_back an_law_back cd_law_back ct_law_back), sl_law_back⟩) (c_law_back : PySem.W.codeIn K cd_law_back "_law_back" = true) (k_law_back : PySem.W.keepIn K (.ref flaw_back) = true)
    (a_law_word : PySem.W.nsIn K mainGlobals "_law_word" = some (some (.ref flaw_word))) (l_law_word : K.lookup flaw_word = some ⟨oc_law_word, od_law_word, .func (PySem.W.fnOf "_law_word" "_law_word" (defArgs st_law_word) (defBody st_law_word) (defScope st_law_word) .none kV_law_word dc_law_word pm_law_word an_law_word cd_law_word ct_law_word), sl_law_word⟩) (c_law_word : PySem.W.codeIn K cd_law_word "_law_word" = true) (k_law_word : PySem.W.keepIn K (.ref flaw_word) = true)
    (a_law_round : PySem.W.nsIn K mainGlobals "_law_round" = some (some (.ref flaw_round))) (l_law_round : K.lookup flaw_round = some ⟨oc_law_round, od_law_round, .func (PySem.W.fnOf "_law_round" "_law_round" (defArgs st_law_round) (defBody st_law_round) (defScope st_law_round) .none kV_law_round dc_law_round pm_law_round an_law_round cd_law_round ct_law_round), sl_law_round⟩) (c_law_round : PySem.W.codeIn K cd_law_round "_law_round" = true) (k_law_round : PySem.W.keepIn K (.ref flaw_round) = true)
    (a_law_type : PySem.W.nsIn K mainGlobals "_law_type" = some (some (.ref flaw_type))) (l_law_type : K.lookup flaw_type = some ⟨oc_law_type, od_law_type, .func (PySem.W.fnOf "_law_type" "_law_type" (defArgs st_law_type) (defBody st_law_type) (defScope st_law_type) .none kV_law_type dc_law_type pm_law_type an_law_type cd_law_type ct_law_type), sl_law_type⟩) (c_law_type : PySem.W.codeIn K cd_law_type "_law_type" = true) (k_law_type : PySem.W.keepIn K (.ref flaw_type) = true)
    (a_law_laid : PySem.W.nsIn K mainGlobals "_law_laid" = some (some (.ref flaw_laid))) (l_law_laid : K.lookup flaw_laid = some ⟨oc_law_laid, od_law_laid, .func (PySem.W.fnOf "_law_laid" "_law_laid" (defArgs st_law_laid) (defBody st_law_laid) (defScope st_law_laid) .none kV_law_laid dc_law_laid pm_law_laid an_law_laid cd_law_laid ct_law_laid), sl_law_laid⟩) (c_law_laid : PySem.W.codeIn K cd_law_laid "_law_laid" = true) (k_law_laid : PySem.W.keepIn K (.ref flaw_laid) = true)
    (a_law_led : PySem.W.nsIn K mainGlobals "_law_led" = some (some (.ref flaw_led))) (l_law_led : K.lookup flaw_led = some ⟨oc_law_led, od_law_led, .func (PySem.W.fnOf "_law_led" "_law_led" (defArgs st_law_led) (defBody st_law_led) (defScope st_law_led) .none kV_law_led dc_law_led pm_law_led an_law_led cd_law_led ct_law_led), sl_law_led⟩) (c_law_led : PySem.W.codeIn K cd_law_led "_law_led" = true) (k_law_led : PySem.W.keepIn K (.ref flaw_led) = true)
    (a_law_all_shuffles : PySem.W.nsIn K mainGlobals "_law_all_shuffles" = some (some (.ref flaw_all_shuffles))) (l_law_all_shuffles : K.lookup flaw_all_shuffles = some ⟨oc_law_all_shuffles, od_law_all_shuffles, .func (PySem.W.fnOf "_law_all_shuffles" "_law_all_shuffles" (defArgs st_law_all_shuffles) (defBody st_law_all_shuffles) (defScope st_law_all_shuffles) .none kV_law_all_shuffles dc_law_all_shuffles pm_law_all_shuffles an_law_all_shuffles cd_law_all_shuffles ct_law_all_shuffles), sl_law_all_shuffles⟩) (c_law_all_shuffles : PySem.W.codeIn K cd_law_all_shuffles "_law_all_shuffles" = true) (k_law_all_shuffles : PySem.W.keepIn K (.ref flaw_all_shuffles) = true)
    (a_law_own_decks : PySem.W.nsIn K mainGlobals "_law_own_decks" = some (some (.ref flaw_own_decks))) (l_law_own_decks : K.lookup flaw_own_decks = some ⟨oc_law_own_decks, od_law_own_decks, .func (PySem.W.fnOf "_law_own_decks" "_law_own_decks" (defArgs st_law_own_decks) (defBody st_law_own_decks) (defScope st_law_own_decks) .none kV_law_own_decks dc_law_own_decks pm_law_own_decks an_law_own_decks cd_law_own_decks ct_law_own_decks), sl_law_own_decks⟩) (c_law_own_decks : PySem.W.codeIn K cd_law_own_decks "_law_own_decks" = true) (k_law_own_decks : PySem.W.keepIn K (.ref flaw_own_decks) = true)
    (a_law_parted : PySem.W.nsIn K mainGlobals "_law_parted" = some (some (.ref flaw_parted))) (l_law_parted : K.lookup flaw_parted = some ⟨oc_law_parted, od_law_parted, .func (PySem.W.fnOf "_law_parted" "_law_parted" (defArgs st_law_parted) (defBody st_law_parted) (defScope st_law_parted) .none kV_law_parted dc_law_parted pm_law_parted an_law_parted cd_law_parted ct_law_parted), sl_law_parted⟩) (c_law_parted : PySem.W.codeIn K cd_law_parted "_law_parted" = true) (k_law_parted : PySem.W.keepIn K (.ref flaw_parted) = true)
    (a_law_some : PySem.W.nsIn K mainGlobals "_law_some" = some (some (.ref flaw_some))) (l_law_some : K.lookup flaw_some = some ⟨oc_law_some, od_law_some, .func (PySem.W.fnOf "_law_some" "_law_some" (defArgs st_law_some) (defBody st_law_some) (defScope st_law_some) .none kV_law_some dc_law_some pm_law_some an_law_some cd_law_some ct_law_some), sl_law_some⟩) (c_law_some : PySem.W.codeIn K cd_law_some "_law_some" = true) (k_law_some : PySem.W.keepIn K (.ref flaw_some) = true)
    (a_law_is_shuffle : PySem.W.nsIn K mainGlobals "_law_is_shuffle" = some (some (.ref flaw_is_shuffle))) (l_law_is_shuffle : K.lookup flaw_is_shuffle = some ⟨oc_law_is_shuffle, od_law_is_shuffle, .func (PySem.W.fnOf "_law_is_shuffle" "_law_is_shuffle" (defArgs st_law_is_shuffle) (defBody st_law_is_shuffle) (defScope st_law_is_shuffle) .none kV_law_is_shuffle dc_law_is_shuffle pm_law_is_shuffle an_law_is_shuffle cd_law_is_shuffle ct_law_is_shuffle), sl_law_is_shuffle⟩) (c_law_is_shuffle : PySem.W.codeIn K cd_law_is_shuffle "_law_is_shuffle" = true) (k_law_is_shuffle : PySem.W.keepIn K (.ref flaw_is_shuffle) = true)
    (a_law_judged : PySem.W.nsIn K mainGlobals "_law_judged" = some (some (.ref flaw_judged))) (l_law_judged : K.lookup flaw_judged = some ⟨oc_law_judged, od_law_judged, .func (PySem.W.fnOf "_law_judged" "_law_judged" (defArgs st_law_judged) (defBody st_law_judged) (defScope st_law_judged) .none kV_law_judged dc_law_judged pm_law_judged an_law_judged cd_law_judged ct_law_judged), sl_law_judged⟩) (c_law_judged : PySem.W.codeIn K cd_law_judged "_law_judged" = true) (k_law_judged : PySem.W.keepIn K (.ref flaw_judged) = true)
    (a_law_called : PySem.W.nsIn K mainGlobals "_law_called" = some (some (.ref flaw_called))) (l_law_called : K.lookup flaw_called = some ⟨oc_law_called, od_law_called, .func (PySem.W.fnOf "_law_called" "_law_called" (defArgs st_law_called) (defBody st_law_called) (defScope st_law_called) .none kV_law_called dc_law_called pm_law_called an_law_called cd_law_called ct_law_called), sl_law_called⟩) (c_law_called : PySem.W.codeIn K cd_law_called "_law_called" = true) (k_law_called : PySem.W.keepIn K (.ref flaw_called) = true)
    (a_law_odd : PySem.W.nsIn K mainGlobals "_law_odd" = some (some (.ref flaw_odd))) (l_law_odd : K.lookup flaw_odd = some ⟨oc_law_odd, od_law_odd, .func (PySem.W.fnOf "_law_odd" "_law_odd" (defArgs st_law_odd) (defBody st_law_odd) (defScope st_law_odd) .none kV_law_odd dc_law_odd pm_law_odd an_law_odd cd_law_odd ct_law_odd), sl_law_odd⟩) (c_law_odd : PySem.W.codeIn K cd_law_odd "_law_odd" = true) (k_law_odd : PySem.W.keepIn K (.ref flaw_odd) = true)
    (a_law_bent : PySem.W.nsIn K mainGlobals "_law_bent" = some (some (.ref flaw_bent))) (l_law_bent : K.lookup flaw_bent = some ⟨oc_law_bent, od_law_bent, .func (PySem.W.fnOf "_law_bent" "_law_bent" (defArgs st_law_bent) (defBody st_law_bent) (defScope st_law_bent) .none kV_law_bent dc_law_bent pm_law_bent an_law_bent cd_law_bent ct_law_bent), sl_law_bent⟩) (c_law_bent : PySem.W.codeIn K cd_law_bent "_law_bent" = true) (k_law_bent : PySem.W.keepIn K (.ref flaw_bent) = true)
    (a_law : PySem.W.nsIn K mainGlobals "law" = some (some (.ref flaw))) (l_law : K.lookup flaw = some ⟨oc_law, od_law, .func (PySem.W.fnOf "law" "law" (defArgs st_law) (defBody st_law) (defScope st_law) .none kV_law dc_law pm_law an_law cd_law ct_law), sl_law⟩) (c_law : PySem.W.codeIn K cd_law "law" = true) (k_law : PySem.W.keepIn K (.ref flaw) = true)
    (z_all : PySem.W.nsIn K mainGlobals "all" = some none)
    (z_bool : PySem.W.nsIn K mainGlobals "bool" = some none)
    (z_enumerate : PySem.W.nsIn K mainGlobals "enumerate" = some none)
    (z_int : PySem.W.nsIn K mainGlobals "int" = some none)
    (z_isinstance : PySem.W.nsIn K mainGlobals "isinstance" = some none)
    (z_len : PySem.W.nsIn K mainGlobals "len" = some none)
    (z_list : PySem.W.nsIn K mainGlobals "list" = some none)
    (z_max : PySem.W.nsIn K mainGlobals "max" = some none)
    (z_min : PySem.W.nsIn K mainGlobals "min" = some none)
    (z_range : PySem.W.nsIn K mainGlobals "range" = some none)
    (z_repr : PySem.W.nsIn K mainGlobals "repr" = some none)
    (z_sorted : PySem.W.nsIn K mainGlobals "sorted" = some none)
    (z_sum : PySem.W.nsIn K mainGlobals "sum" = some none)
    (z_tuple : PySem.W.nsIn K mainGlobals "tuple" = some none)
    (z_zip : PySem.W.nsIn K mainGlobals "zip" = some none)
    (z_abs : PySem.W.nsIn K mainGlobals "abs" = some none)
    : ∃ fd : FuncData, (∀ (s : Shared) (v : Value), BindsTo s fd ⟨[v], []⟩ [("script", v)]) ∧ ∀ base : Heap, K.In base → base.Ns mainGlobals mg → Kept l.prog w K mg base fa fd "script" 63 := by
  have e := hfa.symm.trans (PySem.W.mg_of X G a_law)
  cases e
  have F_behind := fun_mk (st := st_behind) l_behind c_behind k_behind
  have F_is_sheet := fun_mk (st := st_is_sheet) l_is_sheet c_is_sheet k_is_sheet
  have F_is_shuffle := fun_mk (st := st_is_shuffle) l_is_shuffle c_is_shuffle k_is_shuffle
  have F_shuffles_of := fun_mk (st := st_shuffles_of) l_shuffles_of c_shuffles_of k_shuffles_of
  have F_is_deck := fun_mk (st := st_is_deck) l_is_deck c_is_deck k_is_deck
  have F_decks_of := fun_mk (st := st_decks_of) l_decks_of c_decks_of k_decks_of
  have F_judge_decks := fun_mk (st := st_judge_decks) l_judge_decks c_judge_decks k_judge_decks
  have F_judge_alike := fun_mk (st := st_judge_alike) l_judge_alike c_judge_alike k_judge_alike
  have F_law_source := fun_mk (st := st_law_source) l_law_source c_law_source k_law_source
  have F_law_pick := fun_mk (st := st_law_pick) l_law_pick c_law_pick k_law_pick
  have F_law_of := fun_mk (st := st_law_of) l_law_of c_law_of k_law_of
  have F_law_mixed := fun_mk (st := st_law_mixed) l_law_mixed c_law_mixed k_law_mixed
  have F_law_behind := fun_mk (st := st_law_behind) l_law_behind c_law_behind k_law_behind
  have F_law_back := fun_mk (st := st_law_back) l_law_back c_law_back k_law_back
  have F_law_word := fun_mk (st := st_law_word) l_law_word c_law_word k_law_word
  have F_law_round := fun_mk (st := st_law_round) l_law_round c_law_round k_law_round
  have F_law_type := fun_mk (st := st_law_type) l_law_type c_law_type k_law_type
  have F_law_laid := fun_mk (st := st_law_laid) l_law_laid c_law_laid k_law_laid
  have F_law_led := fun_mk (st := st_law_led) l_law_led c_law_led k_law_led
  have F_law_all_shuffles := fun_mk (st := st_law_all_shuffles) l_law_all_shuffles c_law_all_shuffles k_law_all_shuffles
  have F_law_own_decks := fun_mk (st := st_law_own_decks) l_law_own_decks c_law_own_decks k_law_own_decks
  have F_law_parted := fun_mk (st := st_law_parted) l_law_parted c_law_parted k_law_parted
  have F_law_some := fun_mk (st := st_law_some) l_law_some c_law_some k_law_some
  have F_law_is_shuffle := fun_mk (st := st_law_is_shuffle) l_law_is_shuffle c_law_is_shuffle k_law_is_shuffle
  have F_law_judged := fun_mk (st := st_law_judged) l_law_judged c_law_judged k_law_judged
  have F_law_called := fun_mk (st := st_law_called) l_law_called c_law_called k_law_called
  have F_law_odd := fun_mk (st := st_law_odd) l_law_odd c_law_odd k_law_odd
  have F_law_bent := fun_mk (st := st_law_bent) l_law_bent c_law_bent k_law_bent
  have F_law := fun_mk (st := st_law) l_law c_law k_law
  refine ⟨PySem.W.fnOf "law" "law" (defArgs st_law) (defBody st_law) (defScope st_law) .none kV_law dc_law pm_law an_law cd_law ct_law, fun s v => .of_eq rfl, fun base _ _ => all_law F_behind (PySem.W.mg_of X G a_behind) F_is_sheet (PySem.W.mg_of X G a_is_sheet) F_is_shuffle (PySem.W.mg_of X G a_is_shuffle) F_shuffles_of (PySem.W.mg_of X G a_shuffles_of) F_is_deck (PySem.W.mg_of X G a_is_deck) F_decks_of (PySem.W.mg_of X G a_decks_of) F_judge_decks (PySem.W.mg_of X G a_judge_decks) F_judge_alike (PySem.W.mg_of X G a_judge_alike) F_law_source (PySem.W.mg_of X G a_law_source) F_law_pick (PySem.W.mg_of X G a_law_pick) F_law_of (PySem.W.mg_of X G a_law_of) F_law_mixed (PySem.W.mg_of X G a_law_mixed) F_law_behind (PySem.W.mg_of X G a_law_behind) F_law_back (PySem.W.mg_of X G a_law_back) F_law_word (PySem.W.mg_of X G a_law_word) F_law_round (PySem.W.mg_of X G a_law_round) F_law_type (PySem.W.mg_of X G a_law_type) F_law_laid (PySem.W.mg_of X G a_law_laid) F_law_led (PySem.W.mg_of X G a_law_led) F_law_all_shuffles (PySem.W.mg_of X G a_law_all_shuffles) F_law_own_decks (PySem.W.mg_of X G a_law_own_decks) F_law_parted (PySem.W.mg_of X G a_law_parted) F_law_some (PySem.W.mg_of X G a_law_some) F_law_is_shuffle (PySem.W.mg_of X G a_law_is_shuffle) F_law_judged (PySem.W.mg_of X G a_law_judged) F_law_called (PySem.W.mg_of X G a_law_called) F_law_odd (PySem.W.mg_of X G a_law_odd) F_law_bent (PySem.W.mg_of X G a_law_bent) F_law ⟨PySem.W.mg_none_of X G z_all, PySem.W.mg_none_of X G z_bool, PySem.W.mg_none_of X G z_enumerate, PySem.W.mg_none_of X G z_int, PySem.W.mg_none_of X G z_isinstance, PySem.W.mg_none_of X G z_len, PySem.W.mg_none_of X G z_list, PySem.W.mg_none_of X G z_max, PySem.W.mg_none_of X G z_min, PySem.W.mg_none_of X G z_range, PySem.W.mg_none_of X G z_repr, PySem.W.mg_none_of X G z_sorted, PySem.W.mg_none_of X G z_sum, PySem.W.mg_none_of X G z_tuple, PySem.W.mg_none_of X G z_zip⟩ (PySem.W.mg_none_of X G z_abs)⟩
end K60
open PySem PySem.W PyProof.Rows
set_option maxHeartbeats 0 in
theorem PySem.Challenge.cw_sheetslaid_k60_decks_and_alike_ones_judg_holds : PySem.Challenge.rw_sheetslaid_k60_decks_and_alike_ones_judg.Holds := by
  w_on; o_law; k_head; (case hw => w_witness2)
  k_fill
  refine Dat.walk_here (l := PySem.Challenge.rw_sheetslaid_k60_decks_and_alike_ones_judg) (n := 63) (x := "script") rfl (by decide) rfl (fun w h Y => PySem.W.kIn_of Y) ?F
  case F =>
    intro w mg fa h KX G hmg
    refine' K60.all_mk KX G hmg ?a_behind ?l_behind ?c_behind ?k_behind ?a_is_sheet ?l_is_sheet ?c_is_sheet ?k_is_sheet ?a_is_shuffle ?l_is_shuffle ?c_is_shuffle ?k_is_shuffle ?a_shuffles_of ?l_shuffles_of ?c_shuffles_of ?k_shuffles_of ?a_is_deck ?l_is_deck ?c_is_deck ?k_is_deck ?a_decks_of ?l_decks_of ?c_decks_of ?k_decks_of ?a_judge_decks ?l_judge_decks ?c_judge_decks ?k_judge_decks ?a_judge_alike ?l_judge_alike ?c_judge_alike ?k_judge_alike ?a_law_source ?l_law_source ?c_law_source ?k_law_source ?a_law_pick ?l_law_pick ?c_law_pick ?k_law_pick ?a_law_of ?l_law_of ?c_law_of ?k_law_of ?a_law_mixed ?l_law_mixed ?c_law_mixed ?k_law_mixed ?a_law_behind ?l_law_behind ?c_law_behind ?k_law_behind ?a_law_back ?l_law_back ?c_law_back ?k_law_back ?a_law_word ?l_law_word ?c_law_word ?k_law_word ?a_law_round ?l_law_round ?c_law_round ?k_law_round ?a_law_type ?l_law_type ?c_law_type ?k_law_type ?a_law_laid ?l_law_laid ?c_law_laid ?k_law_laid ?a_law_led ?l_law_led ?c_law_led ?k_law_led ?a_law_all_shuffles ?l_law_all_shuffles ?c_law_all_shuffles ?k_law_all_shuffles ?a_law_own_decks ?l_law_own_decks ?c_law_own_decks ?k_law_own_decks ?a_law_parted ?l_law_parted ?c_law_parted ?k_law_parted ?a_law_some ?l_law_some ?c_law_some ?k_law_some ?a_law_is_shuffle ?l_law_is_shuffle ?c_law_is_shuffle ?k_law_is_shuffle ?a_law_judged ?l_law_judged ?c_law_judged ?k_law_judged ?a_law_called ?l_law_called ?c_law_called ?k_law_called ?a_law_odd ?l_law_odd ?c_law_odd ?k_law_odd ?a_law_bent ?l_law_bent ?c_law_bent ?k_law_bent ?a_law ?l_law ?c_law ?k_law ?z_all ?z_bool ?z_enumerate ?z_int ?z_isinstance ?z_len ?z_list ?z_max ?z_min ?z_range ?z_repr ?z_sorted ?z_sum ?z_tuple ?z_zip ?z_abs
    (case a_behind => k_is); (case l_behind => k_is); (case c_behind => k_is); (case k_behind => k_is); (case a_is_sheet => k_is); (case l_is_sheet => k_is); (case c_is_sheet => k_is); (case k_is_sheet => k_is); (case a_is_shuffle => k_is); (case l_is_shuffle => k_is); (case c_is_shuffle => k_is); (case k_is_shuffle => k_is); (case a_shuffles_of => k_is); (case l_shuffles_of => k_is); (case c_shuffles_of => k_is); (case k_shuffles_of => k_is); (case a_is_deck => k_is); (case l_is_deck => k_is); (case c_is_deck => k_is); (case k_is_deck => k_is); (case a_decks_of => k_is); (case l_decks_of => k_is); (case c_decks_of => k_is); (case k_decks_of => k_is); (case a_judge_decks => k_is); (case l_judge_decks => k_is); (case c_judge_decks => k_is); (case k_judge_decks => k_is); (case a_judge_alike => k_is); (case l_judge_alike => k_is); (case c_judge_alike => k_is); (case k_judge_alike => k_is); (case a_law_source => k_is); (case l_law_source => k_is); (case c_law_source => k_is); (case k_law_source => k_is); (case a_law_pick => k_is); (case l_law_pick => k_is); (case c_law_pick => k_is); (case k_law_pick => k_is); (case a_law_of => k_is); (case l_law_of => k_is); (case c_law_of => k_is); (case k_law_of => k_is); (case a_law_mixed => k_is); (case l_law_mixed => k_is); (case c_law_mixed => k_is); (case k_law_mixed => k_is); (case a_law_behind => k_is); (case l_law_behind => k_is); (case c_law_behind => k_is); (case k_law_behind => k_is); (case a_law_back => k_is); (case l_law_back => k_is); (case c_law_back => k_is); (case k_law_back => k_is); (case a_law_word => k_is); (case l_law_word => k_is); (case c_law_word => k_is); (case k_law_word => k_is); (case a_law_round => k_is); (case l_law_round => k_is); (case c_law_round => k_is); (case k_law_round => k_is); (case a_law_type => k_is); (case l_law_type => k_is); (case c_law_type => k_is); (case k_law_type => k_is); (case a_law_laid => k_is); (case l_law_laid => k_is); (case c_law_laid => k_is); (case k_law_laid => k_is); (case a_law_led => k_is); (case l_law_led => k_is); (case c_law_led => k_is); (case k_law_led => k_is); (case a_law_all_shuffles => k_is); (case l_law_all_shuffles => k_is); (case c_law_all_shuffles => k_is); (case k_law_all_shuffles => k_is); (case a_law_own_decks => k_is); (case l_law_own_decks => k_is); (case c_law_own_decks => k_is); (case k_law_own_decks => k_is); (case a_law_parted => k_is); (case l_law_parted => k_is); (case c_law_parted => k_is); (case k_law_parted => k_is); (case a_law_some => k_is); (case l_law_some => k_is); (case c_law_some => k_is); (case k_law_some => k_is); (case a_law_is_shuffle => k_is); (case l_law_is_shuffle => k_is); (case c_law_is_shuffle => k_is); (case k_law_is_shuffle => k_is); (case a_law_judged => k_is); (case l_law_judged => k_is); (case c_law_judged => k_is); (case k_law_judged => k_is); (case a_law_called => k_is); (case l_law_called => k_is); (case c_law_called => k_is); (case k_law_called => k_is); (case a_law_odd => k_is); (case l_law_odd => k_is); (case c_law_odd => k_is); (case k_law_odd => k_is); (case a_law_bent => k_is); (case l_law_bent => k_is); (case c_law_bent => k_is); (case k_law_bent => k_is); (case a_law => k_is); (case l_law => k_is); (case c_law => k_is); (case k_law => k_is); (case z_all => k_is); (case z_bool => k_is); (case z_enumerate => k_is); (case z_int => k_is); (case z_isinstance => k_is); (case z_len => k_is); (case z_list => k_is); (case z_max => k_is); (case z_min => k_is); (case z_range => k_is); (case z_repr => k_is); (case z_sorted => k_is); (case z_sum => k_is); (case z_tuple => k_is); (case z_zip => k_is); (case z_abs => k_is)


